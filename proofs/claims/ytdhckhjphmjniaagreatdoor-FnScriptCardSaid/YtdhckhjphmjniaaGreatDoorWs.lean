/- Ends of walks that are said again. -/
import Derived.Test.YtdhckhjphmjniaaGreatDoorMac
set_option linter.unusedSimpArgs false
set_option linter.unusedVariables false
namespace Go.Rf
variable {p:Prop}
theorem b18 (h:p:=by
 refine zgo ?_
 refine d8 (o8 Z Z Z Z (b3 (c8 Z ?_) (b3 (c8 Z ?_) (b3 (c8 Z ?_) (b3 (A8 Z ?_) (b3 (j8 ?_) (b3 (j8 ?_) (b3 (j8 ?_) (b3 (j8 ?_) d9)))))))))
 all_goals (first | (rw [hO];done) | (rw [hO];rfl))
):p:=h
theorem ws1 (h:p:=by
 refine zgo ?_
 refine a7 Z (b5 Z Z (j4 Z (ArgsOK.of Z) (u6 x ⟨s,_⟩ hx ⟨by show s.size<=_;omega,by first | exact P7 (by decide) | exact N7 J | exact N7 (Int.ofNat_le.1 hrs)⟩) Z) ?_)
 exact b18
):p:=h
theorem a5G (h:p:=by
 exact C3 Y (Meet.mk Z Z Z Z)
):p:=h
theorem ws2 (h:p:=by
 first | refine f9 [] Z Z (b5 Z Z (f6 G Z Z Z Z (a0y J) Z) (b4 ⟨Z,?_⟩)) | refine f9 [] Z Z (b5 Z Z (f6 G Z Z Z Z (a05 J J) Z) (b4 ⟨Z,?_⟩)) | refine f9 [] Z Z (b5 Z Z (f6 G Z Z Z Z (a1P J J) Z) (b4 ⟨Z,?_⟩))
 refine b7 (rs:=[14]) a8 Z (AllB.cons ?_ AllB.nil)
 first | refine f9 [] Z Z (b5 Z Z (c7 G Z Z Z Z Z J a8V) (b4 ⟨Z,?_⟩)) | refine f9 [] Z Z (b5 Z Z (c7 G Z Z Z Z Z J a8U) (b4 ⟨Z,?_⟩)) | refine f9 [] Z Z (b5 Z Z (c7 G Z Z Z Z Z J a8T) (b4 ⟨Z,?_⟩))
 refine b7 (rs:=[15]) a8 Z (AllB.cons ?_ AllB.nil)
 first | refine f9 [] Z Z (l8 G Z Z Z Z Z (a0y J) Z Z Z Z Z (Nat.le_of_ble_eq_true Z) Z (b4 ⟨Z,?_⟩)) | refine f9 [] Z Z (l8 G Z Z Z Z Z (a05 J J) Z Z Z Z Z (Nat.le_of_ble_eq_true Z) Z (b4 ⟨Z,?_⟩)) | refine f9 [] Z Z (l8 G Z Z Z Z Z (a1P J J) Z Z Z Z Z (Nat.le_of_ble_eq_true Z) Z (b4 ⟨Z,?_⟩))
 refine b7 (rs:=[16]) a8 Z (AllB.cons ?_ AllB.nil)
 first | refine f9 [] Z Z (b5 Z Z (c7 G Z Z Z Z Z J a8V) (b4 ⟨Z,?_⟩)) | refine f9 [] Z Z (b5 Z Z (c7 G Z Z Z Z Z J a8U) (b4 ⟨Z,?_⟩)) | refine f9 [] Z Z (b5 Z Z (c7 G Z Z Z Z Z J a8T) (b4 ⟨Z,?_⟩))
 refine b7 (rs:=[17]) a8 Z (AllB.cons ?_ AllB.nil)
 first | refine f9 [] Z Z (l8 G Z Z Z Z Z (a0y J) Z Z Z Z Z (Nat.le_of_ble_eq_true Z) Z (b4 ⟨Z,?_⟩)) | refine f9 [] Z Z (l8 G Z Z Z Z Z (a05 J J) Z Z Z Z Z (Nat.le_of_ble_eq_true Z) Z (b4 ⟨Z,?_⟩)) | refine f9 [] Z Z (l8 G Z Z Z Z Z (a1P J J) Z Z Z Z Z (Nat.le_of_ble_eq_true Z) Z (b4 ⟨Z,?_⟩))
 exact a5G
):p:=h
theorem ws4 (h:p:=by
 intro r0
 refine c8u ?_
 refine A9 (N:=1) Z (s7 (fuel:=5) [⟨0,33,0,false,.row 3 1 []⟩] (AllVOK.cons (VOK.lit G Z Z Z Z Z) (AllVOK.nil)) (λhok=>?_))
 refine n6 [(4,[0]),(6,[])] a8 a8 (λe he=>hok e he) a8 (AllVS.cons ?_ (AllVS.cons ?_ AllVS.nil))
 ·refine c8z ?_
  clear hok
  refine b7 (rs:=[6]) a8 Z (AllB.cons ?_ AllB.nil)
  refine g9 [] Z Z (m5 G 2 Z Z Z Z Z Z Z Z (b4 ⟨Z,?_⟩))
  refine b7 (rs:=[7]) a8 Z (AllB.cons ?_ AllB.nil)
  refine g9 [] Z Z (l1 G X9 Z Z Z Z Z Z Z Z Z a5D Z Z (b4 ⟨Z,?_⟩))
  refine b7 (rs:=[11]) a8 Z (AllB.cons ?_ AllB.nil)
  refine g9 [] Z Z (l1 G X9 Z Z Z Z Z Z Z Z Z a5D Z Z (b4 ⟨Z,?_⟩))
  refine zsa 12 ?_
  exact a5G
 refine VStep.mk0 [] Z Z (λb1 _ hbn=>m5 G 2 Z Z Z Z Z Z Z Z (b4 Z)) a8 a8 a8 a8 (n6 [(4,[0])] a8 a8 (λe he=>hok e he) a8 (AllVS.cons ?_ AllVS.nil))
 refine c8z ?_
 clear hok
 refine b7 (rs:=[7]) a8 Z (AllB.cons ?_ AllB.nil)
 refine g9 [] Z Z (l1 G X9 Z Z Z Z Z Z Z Z Z a5D Z Z (b4 ⟨Z,?_⟩))
 refine b7 (rs:=[11]) a8 Z (AllB.cons ?_ AllB.nil)
 refine g9 [] Z Z (l1 G X9 Z Z Z Z Z Z Z Z Z a5D Z Z (b4 ⟨Z,?_⟩))
 refine zsa 12 ?_
 exact C3 a8 (Meet.mk Z Z Z Z)
):p:=h
theorem ws5 (h:p:=by
 refine zf1 ?_
 all_goals exact c8q
):p:=h
theorem E7 (h:p:=by
 exact ⟨⟨_,Z,by (first | rfl | (simp;done) | (simp;omega))⟩,Z,trivial⟩
):p:=h
theorem c0b (h:p:=by
 refine zgo ?_
 refine ⟨(i+1),?_,?_,⟨⟨_,Z,by rfl⟩,Z,trivial⟩,trivial,Z,Z,Z⟩
 ·exact ⟨by omega,s4 hinv.2 j7⟩
 omega
):p:=h
theorem ws6 (h:p:=by
 refine zgo ?_
 refine i7 [0,1,7] [] (λ(i:Nat)=>[(8,.v (.int .i64 (i:Int)))]) (λ(i:Nat)=>[]) (λ(i:Nat)=>i<=xs.length/\∀j,j < i→p (xs.getD j default)=false) (λ(i:Nat)=>xs.length - i) 0 Z Z ?_ ?_ ?_ ?_
 ·exact ⟨Nat.zero_le _,λj hj=>by omega⟩
 ·exact E7
 ·exact trivial
 intro i hinv
 refine vm2 ?_
 refine zcd (λk0=>?_) (λk0=>?_)
 ·refine vm3 ?_
  refine b5 Z Z (b2k Z Z (ArgsOK.of Z) Z (hf _ J) Z) ?_
  refine zcd (λk1=>?_) (λk1=>?_)
  ·refine zf1 ?_
   all_goals exact c8r
  exact c0b
 refine zf1 ?_
 all_goals exact c8r
):p:=h
theorem ws7 (h:p:=by
 refine zgo ?_
 refine ⟨(i+1),?_,?_,⟨⟨_,Z,by (first | rfl | (rw [a2c (a5b j7)];done) | (rw [a2b (a5c J j7)];done) | (rw [a2b ((a4m J J).trans (by simp_all [wOf]))];done) | (rw [a2c ((a4m J J).trans (by simp_all [wOf]))];done))⟩,Z,⟨⟨_,Z,by (first | rfl | (rw [a2c (a5b j7)];done) | (rw [a2b (a5c J j7)];done) | (rw [a2b ((a4m J J).trans (by simp_all [wOf]))];done) | (rw [a2c ((a4m J J).trans (by simp_all [wOf]))];done))⟩,Z,trivial⟩⟩,trivial,Z,Z,Z⟩
 ·omega
 omega
):p:=h
theorem ws8 (h:p:=by
 refine zgo ?_
 refine ⟨(i+1),?_,?_,⟨⟨_,Z,by first | rfl | (rw [b2A j7 j7 j7];done) | (rw [a49 (by simp_all;done)];done) | (rw [a49 (by simp_all;omega)];done)⟩,Z,⟨⟨_,Z,by first | rfl | (rw [b2A j7 j7 j7];done) | (rw [a49 (by simp_all;done)];done) | (rw [a49 (by simp_all;omega)];done)⟩,Z,⟨⟨_,Z,by first | rfl | (rw [b2A j7 j7 j7];done) | (rw [a49 (by simp_all;done)];done) | (rw [a49 (by simp_all;omega)];done)⟩,Z,trivial⟩⟩⟩,trivial,Z,Z,Z⟩
 ·omega
 omega
):p:=h
theorem ws9 (h:p:=by
 refine zf1 ?_
 all_goals exact c2V
):p:=h
theorem c8N (h:p:=by
 intro r0
 refine c8u ?_
 refine A9 (N:=2) Z (s7 (fuel:=5) [⟨0,29,1,false,.row 76 2 []⟩] (AllVOK.cons (VOK.lit G Z Z Z Z Z) (AllVOK.nil)) (λhok=>?_))
 refine n6 [(4,[0]),(6,[])] a8 a8 (λe he=>hok e he) a8 (AllVS.cons ?_ (AllVS.cons ?_ AllVS.nil))
 ·refine c8y ?_
  clear hok
  refine b7 (rs:=[6]) a8 Z (AllB.cons ?_ AllB.nil)
  refine g9 [0] Z Z (m5 G 3 Z Z Z Z Z Z Z Z (b4 ⟨Z,?_⟩))
  refine b7 (rs:=[7]) a8 Z (AllB.cons ?_ AllB.nil)
  refine g9 [0] Z Z (l1 G X9 Z Z Z Z Z Z Z Z Z a5D Z Z (b4 ⟨Z,?_⟩))
  refine b7 (rs:=[11]) a8 Z (AllB.cons ?_ AllB.nil)
  refine g9 [0] Z Z (l1 G X9 Z Z Z Z Z Z Z Z Z a5D Z Z (b4 ⟨Z,?_⟩))
  refine zsa 12 ?_
  exact a5G
 refine VStep.mk0 [0] Z Z (λb1 _ hbn=>m5 G 3 Z Z Z Z Z Z Z Z (b4 Z)) a8 a8 a8 a8 (n6 [(4,[0])] a8 a8 (λe he=>hok e he) a8 (AllVS.cons ?_ AllVS.nil))
 refine c8y ?_
 clear hok
 refine b7 (rs:=[7]) a8 Z (AllB.cons ?_ AllB.nil)
 refine g9 [0] Z Z (l1 G X9 Z Z Z Z Z Z Z Z Z a5D Z Z (b4 ⟨Z,?_⟩))
 refine b7 (rs:=[11]) a8 Z (AllB.cons ?_ AllB.nil)
 refine g9 [0] Z Z (l1 G X9 Z Z Z Z Z Z Z Z Z a5D Z Z (b4 ⟨Z,?_⟩))
 refine zsa 12 ?_
 exact C3 a8 (Meet.mk Z Z Z Z)
):p:=h
theorem c3w (h:p:=by
 refine b7 (rs:=[9]) a8 Z (AllB.cons ?_ AllB.nil)
 refine f9 [0,1,2,3,4] Z Z (I0 (Gh.forget (id:=6) (k:=3) Z Z)<|I0 (Gh.keep [0,1,2,3,4,5,6,10] Z)<|a1n (tx:=27) 12 rfl rfl rfl rfl rfl<|F8 G X9 rfl rfl rfl rfl rfl rfl rfl rfl rfl rfl M8 rfl rfl (b4 ⟨Z,?_⟩))
 refine zsa 10 ?_
 refine b7 (rs:=[11]) a8 Z (AllB.cons ?_ AllB.nil)
 refine g9 [0,1,2,3,4] Z Z ?_
 refine N8 ?_
 exact C3 a8 (Meet.mk Z Z Z Z)
):p:=h
theorem c3x (h:p:=by
 refine b7 (rs:=[8]) a8 Z (AllB.cons ?_ AllB.nil)
 refine g9 [0,1,2,3,4] Z Z (B2 G 11 Z Z Z Z Z Z Z Z (.v Z (.own Z (.own Z (.own Z .nil)))) Z Z Z Z (b4 ⟨Z,?_⟩))
 exact c3w
):p:=h
theorem c8O (h:p:=by
 refine zgo ?_
 apply C4 [1,2,3,4] [0,1,2,3,4,6,11] 12 12 [0,1,2,3,4] mixed a8 Z Z (λ_ h=>znk h)
 ·intro r0
  refine zsa 0 ?_
  refine zsa 2 ?_
  refine zsa 3 ?_
  refine a8r ?_
  refine b7 (rs:=[1,7]) a8 Z (AllB.cons ?_ (AllB.cons ?_ AllB.nil))
  ·refine g9 [0,1,2,3,4] Z Z ?_
   refine N8 ?_
   refine b7 (rs:=[7]) a8 Z (AllB.cons ?_ AllB.nil)
   refine g9 [0,1,2,3,4] Z Z (d4 10 Z Z Z (ArgsOK.of Z) (a5H (m.cp.getD k default) J J J) Z Z (b4 ⟨Z,?_⟩))
   exact c3x
  refine g9 [0,1,2,3,4] Z Z (d4 10 Z Z Z (ArgsOK.of Z) (a5H (m.cp.getD k default) J J J) Z Z (b4 ⟨Z,?_⟩))
  refine b7 (rs:=[1,8]) a8 Z (AllB.cons ?_ (AllB.cons ?_ AllB.nil))
  ·refine g9 [0,1,2,3,4] Z Z ?_
   refine N8 ?_
   exact c3x
  refine g9 [0,1,2,3,4] Z Z (B2 G 11 Z Z Z Z Z Z Z Z (.v Z (.own Z (.own Z (.own Z .nil)))) Z Z Z Z (b4 ⟨Z,?_⟩))
  refine b7 (rs:=[1]) a8 Z (AllB.cons ?_ AllB.nil)
  refine g9 [0,1,2,3,4] Z Z ?_
  refine N8 ?_
  exact c3w
 refine a2m ?_
 refine r9 (Gh.sub 11 5 np Z Z Z) (b4 ⟨(k+1),?_,?_,⟨⟨_,Z,by rfl⟩,Z,trivial⟩,⟨⟨_,Z,by (exact congrArg (λz=>Row.nest _ _ z []) (b1M J Z))⟩,Z,Z,trivial⟩,Z,Z,Z⟩)
 ·omega
 omega
):p:=h
theorem c8P (h:p:=by
 refine n8 0 Z (λ_=>Z) (λu0=>?_)
 refine vm1 ?_
 refine vm9 ?_
 refine zgn ?_
 refine s9 (l2 10 [0] mixed a8 Z Z (λr0=>?_) (λ_ h=>h))
 refine zsa 1 ?_
 refine zsa 2 ?_
 refine zsa 5 ?_
 refine zsa 6 ?_
 refine A9 (N:=4) Z (s7 (fuel:=4) [⟨0,3,2,false,.row 104 3 []⟩,⟨4,7,3,false,.row 76 2 []⟩] (AllVOK.cons (VOK.lit G Z Z Z Z Z) (AllVOK.cons (VOK.lit G Z Z Z Z Z) (AllVOK.nil))) (λhok=>?_))
 refine n6 [(3,[0])] a8 a8 (λe he=>hok e he) a8 (AllVS.cons ?_ AllVS.nil)
 refine VStep.mk1 [0] 3 (.own 2) 2 (.row 104 3 []) [⟨4,7,3,false,.row 76 2 []⟩] Z Z Z Z Z (λb1 _ hbn=>l1 G T5 Z Z Z Z Z Z Z Z Z m7 Z Z (b4 Z)) a8 a8 a8 a8 (n6 [(7,[4])] a8 a8 (λe he=>hok e (vin (is:=[0]) Z he)) a8 (AllVS.cons ?_ AllVS.nil))
 refine VStep.mk1 [0] 7 (.own 3) 3 (.row 76 2 []) [] Z Z Z Z Z (λb1 _ hbn=>l1 G T5 Z Z Z Z Z Z Z Z Z m7 Z Z (b4 Z)) a8 a8 a8 a8 (G0 ?_)
 clear hok
 refine b7 (rs:=[8]) a8 Z (AllB.cons ?_ AllB.nil)
 refine b3c ?_
 refine b7 (rs:=[9]) a8 Z (AllB.cons ?_ AllB.nil)
 refine b3c ?_
 refine F3 ?_
 refine d8 (o8 Z Z Z Z (b3 (c8 Z ?_) (b3 (c8 Z ?_) d9)))
 all_goals (first | rfl | simp)
):p:=h
theorem a3X (h:p:=by
 refine zf1 ?_
 all_goals (first | rfl | (simp [V9, *];done) | (simp [V9, *];rfl) | (simp [V9, *,I3,a3m];done))
):p:=h
theorem b7G (h:p:=by
 all_goals exact c6t
):p:=h
theorem b7H (h:p:=by
 refine zgo ?_
 refine d8 (A2 ((⟨_,_,_,_⟩,⟨_,_,_⟩)) (n9 Z (C2 Z Z) Z (AftOK.stays Z Z Z (AftOK.stays Z Z Z (AftOK.stays Z Z Z (AftOK.stays Z Z Z (AftOK.stays Z Z Z AftOK.nil)))))) ⟨?_,?_⟩)
 all_goals (try rcases x1 with ⟨_,_⟩)
 all_goals (try rcases x2 with ⟨_,_⟩)
 all_goals (try rcases x3 with ⟨_,_⟩)
 all_goals (try rcases x4 with ⟨_,_⟩)
 all_goals (try rcases x5 with ⟨_,_⟩)
 all_goals (try dsimp only at *)
 all_goals (first | trivial | exact hc2.mono J | omega)
):p:=h
theorem b6F (h:p:=by
 refine d8 (o8 Z Z Z Z (b3 (c8 Z ?_) (b3 (c8 Z ?_) (b3 (c8 Z ?_) (b3 (A8 Z ?_) (b3 (j8 ?_) (b3 (j8 ?_) d9)))))))
 all_goals (first | (rw [hS];done) | (rw [hS];(first | rfl | exact List.map_set.symm | exact c5W Z | (simp only [List.set_set,Int.toNat_natCast];exact c5W Z) | exact congrArg Value.bool (decide_eq_true J))))
):p:=h
theorem c8Q (h:p:=by
 refine c8w ?_
 refine zgo ?_
 exact b6F
):p:=h
theorem b7I (h:p:=by
 refine zf1 ?_
 all_goals exact c2W
):p:=h
theorem b7J (h:p:=by
 refine zf1 ?_
 all_goals exact c2X
):p:=h
theorem c0c (h:p:=by
 refine b4s ?_
 all_goals exact c2Y
):p:=h
theorem c8R (h:p:=by
 refine g9 [1] Z Z (b5 Z Z (a0v G Z Z Z Z Z Z w4 w4 w4 w4) (b4 ⟨Z,?_⟩))
 refine b7 (rs:=[8]) a8 Z (AllB.cons ?_ AllB.nil)
 refine g9 [1] Z Z (a5B G Z Z Z Z Z Z Z (vs:=(xs.map j9).drop i) (SrcOK.spare Z w4) (L:=xs.length - i) c3r (c0T T6 J w4 (by rw [List.length_map]) (by rw [List.length_map])) (λc hc=>(hall c (List.mem_of_mem_drop hc)).2) (λc hc=>(hall c (List.mem_of_mem_drop hc)).1) w4 w4 (b4 ⟨Z,?_⟩))
 exact a5G
):p:=h
theorem c3y (h:p:=by
 refine zgo ?_
 refine ⟨(i+1),?_,?_,⟨⟨_,Z,by (first | rfl | (rw [c7J J J J];rfl) | (rw [c7K J J J];rfl) | (rw [c7L J J J];rfl) | (rw [c7M J J J];rfl))⟩,Z,⟨⟨_,Z,by (first | rfl | (rw [c7J J J J];rfl) | (rw [c7K J J J];rfl) | (rw [c7L J J J];rfl) | (rw [c7M J J J];rfl))⟩,Z,trivial⟩⟩,trivial,Z,Z,Z⟩
 ·omega
 omega
):p:=h
theorem c8S (h:p:=by
 refine c1V ?_
 refine p6 ?_
 refine b5v ?_
 refine zcd (λk0=>?_) (λk0=>?_)
 ·have hnm:=hF.nums (i:=i) J J
  refine zgd ?_
  refine zcl (u7 (sl.getD i default).q J J) ?_
  refine b7A ?_
  refine b7A ?_
  refine zcl (u7 (sl.getD i default).p J J) ?_
  refine b7A ?_
  exact c3y
 exact c3y
):p:=h
theorem c12 (h:p:=by
 refine zgo ?_
 refine ⟨(i+1),?_,?_,⟨⟨_,Z,by (first | rfl | (rw [a2c (a5b j7)];done) | (rw [a2b (a5c j7 j7)];done) | (rw [a2b ((b2D hd J j7 J).trans (by simp_all))];done) | (rw [a2c ((b2D hd J j7 J).trans (by simp_all))];done))⟩,Z,⟨⟨_,Z,by (first | rfl | (rw [a2c (a5b j7)];done) | (rw [a2b (a5c j7 j7)];done) | (rw [a2b ((b2D hd J j7 J).trans (by simp_all))];done) | (rw [a2c ((b2D hd J j7 J).trans (by simp_all))];done))⟩,Z,trivial⟩⟩,trivial,Z,Z,Z⟩
 ·omega
 omega
):p:=h
theorem c0d (h:p:=by
 refine zgo ?_
 refine ⟨(i+1),?_,?_,⟨⟨_,Z,by first | rfl | (rw [b2B j7 j7 J];done) | (rw [a5a (by simp_all;done)];done) | (rw [a5a (by simp_all;omega)];done)| (rw [a5a (λ_ _=>J)];done)⟩,Z,⟨⟨_,Z,by first | rfl | (rw [b2B j7 j7 J];done) | (rw [a5a (by simp_all;done)];done) | (rw [a5a (by simp_all;omega)];done)| (rw [a5a (λ_ _=>J)];done)⟩,Z,trivial⟩⟩,trivial,Z,Z,Z⟩
 ·omega
 omega
):p:=h
theorem c0e (h:p:=by
 refine zf1 ?_
 all_goals exact c2Z
):p:=h
theorem b4t (h:p:=by
 refine zf1 ?_
 all_goals (first | (rw [b48 J];done) | (rw [b49 J J];done) | (rw [b5a J J];done) | (rw [b2F J J J];first | rfl | (exact congrArg Value.bool (by rw [Bool.eq_iff_iff,decide_eq_true_iff];exact c03))) | rfl)
):p:=h
theorem c0f (h:p:=by
 refine zf1 ?_
 all_goals (first | (rw [a4s J];done) | (rw [a0N J];done) | (rw [a8k J];done) | (rw [a6d (by have:=@b2Z w;omega)];done))
):p:=h
theorem c3z (h:p:=by
 refine b7 (rs:=[6]) a8 Z (AllB.cons ?_ AllB.nil)
 refine g9 [0] Z Z (L8 4 [1,2] Z Z Z (O6 wa w i J J) Z (RowsIn.cons Z (RowsIn.cons Z RowsIn.nil)) Z Z Z (b4 ⟨Z,?_⟩))
 refine zsa 7 ?_
 exact a5G
):p:=h
theorem c8T (h:p:=by
 intro r0
 refine zsa 1 ?_
 refine zsa 3 ?_
 refine zsa 4 ?_
 refine A9 (N:=2) Z (s7 (fuel:=4) [⟨0,21,1,false,.row 76 2 []⟩] (AllVOK.cons (VOK.lit G Z Z Z Z Z) (AllVOK.nil)) (λhok=>?_))
 refine n6 [(2,[0]),(5,[])] a8 a8 (λe he=>hok e he) a8 (AllVS.cons ?_ (AllVS.cons ?_ AllVS.nil))
 ·refine c8B ?_
  clear hok
  refine b7 (rs:=[5]) a8 Z (AllB.cons ?_ AllB.nil)
  refine g9 [0] Z Z (m5 G 3 Z Z Z Z Z Z Z Z (b4 ⟨Z,?_⟩))
  exact c3z
 refine VStep.mk0 [0] Z Z (λb1 _ hbn=>m5 G 3 Z Z Z Z Z Z Z Z (b4 Z)) a8 a8 a8 a8 (n6 [(2,[0])] a8 a8 (λe he=>hok e he) a8 (AllVS.cons ?_ AllVS.nil))
 refine c8B ?_
 clear hok
 exact c3z
):p:=h
theorem c13 (h:p:=by
 refine zgo ?_
 refine ⟨(i+1),?_,?_,⟨⟨_,Z,by rfl⟩,Z,trivial⟩,⟨⟨_,Z,by (first | (rw [a2g hcn];done) | (rw [a2i hcn];done) | (rw [a2f hcn,List.map_set];rfl) | (rw [a2h hcn];exact congrArg (λz=>Row.nest _ _ z []) a5E))⟩,Z,Z,⟨⟨_,Z,by (first | (rw [a2g hcn];done) | (rw [a2i hcn];done) | (rw [a2f hcn,List.map_set];rfl) | (rw [a2h hcn];exact congrArg (λz=>Row.nest _ _ z []) a5E))⟩,Z,Z,trivial⟩⟩,Z,Z,Z⟩
 ·omega
 omega
):p:=h
theorem a0O (h:p:=by
 exact ⟨⟨_,Z,by rfl⟩,Z,⟨⟨_,Z,by rfl⟩,Z,trivial⟩⟩
):p:=h
theorem c8U (h:p:=by
 refine d8 (r4 Z Z Z Z (b3 (j8 ?_) (b3 (j8 ?_) d9)))
 all_goals clear hK14 K14 hK13 K13 hK9 K9
 all_goals (first | (rw [(b0W (s:=s) h3).1];done) | (rw [(b0W (s:=s) h3).2];done) | (rw [(b0X (s:=s) (i:=i) J (by simp only [a1m,Bool.and_eq_false_iff,decide_eq_false_iff_not];omega)).1];done) | (rw [(b0X (s:=s) (i:=i) J (by simp only [a1m,Bool.and_eq_false_iff,decide_eq_false_iff_not];omega)).2];done) | (rw [(a2I (s:=s) (n:=-dV (p4 s) i) (by have e:i=(p4 s).size:=J;rw [a2G J,e]) (by assumption)).1];done) | (rw [(a2I (s:=s) (n:=-dV (p4 s) i) (by have e:i=(p4 s).size:=J;rw [a2G J,e]) (by assumption)).2];done) | (rw [(a2I (s:=s) (n:=dV (p4 s) i) (by have e:i=(p4 s).size:=J;rw [a2H J,e]) (by assumption)).1];done) | (rw [(a2I (s:=s) (n:=dV (p4 s) i) (by have e:i=(p4 s).size:=J;rw [a2H J,e]) (by assumption)).2];done) | (rw [(a2J (s:=s) (n:=-dV (p4 s) i) (i:=i) h3 J hinv.2 (by have e:i=(p4 s).size:=J;rw [a2G J,e]) (by assumption)).1];done) | (rw [(a2J (s:=s) (n:=-dV (p4 s) i) (i:=i) h3 J hinv.2 (by have e:i=(p4 s).size:=J;rw [a2G J,e]) (by assumption)).2];done) | (rw [(a2J (s:=s) (n:=dV (p4 s) i) (i:=i) h3 J hinv.2 (by have e:i=(p4 s).size:=J;rw [a2H J,e]) (by assumption)).1];done) | (rw [(a2J (s:=s) (n:=dV (p4 s) i) (i:=i) h3 J hinv.2 (by have e:i=(p4 s).size:=J;rw [a2H J,e]) (by assumption)).2];done))
):p:=h
theorem c8V (h:p:=by
 refine d8 (r4 Z Z Z Z (b3 (j8 ?_) (b3 (j8 ?_) d9)))
 all_goals (first | (rw [(b0W (s:=s) h3).1];done) | (rw [(b0W (s:=s) h3).2];done) | (rw [(b0X (s:=s) (i:=i) J (by simp only [a1m,Bool.and_eq_false_iff,decide_eq_false_iff_not];omega)).1];done) | (rw [(b0X (s:=s) (i:=i) J (by simp only [a1m,Bool.and_eq_false_iff,decide_eq_false_iff_not];omega)).2];done) | (rw [(a2I (s:=s) (n:=-dV (p4 s) i) (by have e:i=(p4 s).size:=J;rw [a2G J,e]) (by assumption)).1];done) | (rw [(a2I (s:=s) (n:=-dV (p4 s) i) (by have e:i=(p4 s).size:=J;rw [a2G J,e]) (by assumption)).2];done) | (rw [(a2I (s:=s) (n:=dV (p4 s) i) (by have e:i=(p4 s).size:=J;rw [a2H J,e]) (by assumption)).1];done) | (rw [(a2I (s:=s) (n:=dV (p4 s) i) (by have e:i=(p4 s).size:=J;rw [a2H J,e]) (by assumption)).2];done) | (rw [(a2J (s:=s) (n:=-dV (p4 s) i) (i:=i) h3 J hinv.2 (by have e:i=(p4 s).size:=J;rw [a2G J,e]) (by assumption)).1];done) | (rw [(a2J (s:=s) (n:=-dV (p4 s) i) (i:=i) h3 J hinv.2 (by have e:i=(p4 s).size:=J;rw [a2G J,e]) (by assumption)).2];done) | (rw [(a2J (s:=s) (n:=dV (p4 s) i) (i:=i) h3 J hinv.2 (by have e:i=(p4 s).size:=J;rw [a2H J,e]) (by assumption)).1];done) | (rw [(a2J (s:=s) (n:=dV (p4 s) i) (i:=i) h3 J hinv.2 (by have e:i=(p4 s).size:=J;rw [a2H J,e]) (by assumption)).2];done))
):p:=h
theorem c14 (h:p:=by
 refine zf1 ?_
 all_goals ((rw [b4L] at h1;simp only [I7];first | (have e:n7 x.c.size 1 160=true:=v8.mpr J;rw [e,h2.1,h3];generalize a0L x.r=p;generalize decide ((x.r.size:Int)<=200)=q;cases p<;>cases q<;>rfl) | (rw [h3];simp;done) | (rcases h2 with h2 | h2<;>first | (rw [h2];simp;done) | (have e:n7 x.c.size 1 160=false:=a9V.mpr J;rw [e];simp;done)) | (have e:n7 x.c.size 1 160=false:=a9V.mpr J;rw [e];simp;done)))
):p:=h
theorem T7 (h:p:=by
 exact ⟨Nat.zero_le _,λj hj=>by omega⟩
):p:=h
theorem c6L (h:p:=by
 refine d8 (r4 Z Z Z Z (b3 (j8 ?_) (b3 (j8 ?_) d9)))
 all_goals clear hK6 K6
 all_goals (first | (rw [(a2F (s:=s) J).1];done) | (rw [(a2F (s:=s) J).2];done) | (rw [(a44 (s:=s) J (hc1.symm.trans h2)).1];done) | (rw [(a44 (s:=s) J (hc1.symm.trans h2)).2];done) | (rw [(a74 (s:=s) J h3).1];done) | (rw [(a74 (s:=s) J h3).2];done) | (rw [(b1s (s:=s) J (hc1.symm.trans h2) h4).1];done) | (rw [(b1s (s:=s) J (hc1.symm.trans h2) h4).2];done) | (rw [(a77 (s:=s) J (hc1.symm.trans h2) h3 h4).1];done) | (rw [(a77 (s:=s) J (hc1.symm.trans h2) h3 h4).2];done))
):p:=h
theorem Y0 (h:p:=by
 (show x1.1.toNat - (z.1+1) < x1.1.toNat - z.1;omega)
):p:=h
theorem c15 (h:p:=by
 refine d8 (r4 Z Z Z Z (b3 (C2 Z ?_) (b3 (j8 ?_) d9)))
 all_goals (simp only [a0D];(repeat (first | rw [if_pos J] | rw [if_neg J]));first | done | rfl)
):p:=h
theorem c8W (h:p:=by
 refine zgn ?_
 refine d8 (n9 Z (c8 Z ?_) Z (AftOK.gone (AftOK.stays Z ?_ Z AftOK.nil)))
 all_goals exact c22
):p:=h
theorem c6M (h:p:=by
 first | exact ⟨by show ((z.1+1:Nat):Int)<=x1.1;omega,(a58 hz2 J J).1,hc9.mono m7⟩ | exact ⟨by show ((z.1+1:Nat):Int)<=x1.1;omega,b13 hz2,hc9.mono m7⟩ | exact ⟨by show ((z.1+1:Nat):Int)<=x1.1;omega,b14 hz2 j7,hc9.mono m7⟩ | exact ⟨by show ((z.1+1:Nat):Int)<=x1.1;omega,hz2,hc9.mono m7⟩
):p:=h
theorem c16 (h:p:=by
 refine b4s ?_
 all_goals exact c23
):p:=h
theorem c6N (h:p:=by
 first | exact ⟨by show ((z.1+1:Nat):Int)<=x1.1;omega,b9j hz2 J J,hc2.mono m7⟩ | exact ⟨by show ((z.1+1:Nat):Int)<=x1.1;omega,b6t hz2,hc2.mono m7⟩ | exact ⟨by show ((z.1+1:Nat):Int)<=x1.1;omega,b6u hz2,hc2.mono m7⟩ | exact ⟨by show ((z.1+1:Nat):Int)<=x1.1;omega,hz2,hc2.mono m7⟩
):p:=h
theorem b7K (h:p:=by
 refine zgo ?_
 refine d8 (o8 Z Z Z Z (b3 (H8 ?_) (b3 (H8 ?_) (b3 (H8 ?_) (b3 (b5N ?_) (b3 (j8 ?_) (b3 (j8 ?_) d9)))))))
 all_goals (first | rfl | (rw [hO];done) | (rw [hO];rfl))
):p:=h
theorem c6O (h:p:=by
 refine d8 (r4 Z Z Z Z (b3 (j8 ?_) (b3 (j8 ?_) d9)))
 all_goals (first | (rw [hO];done) | (rw [hO];rfl))
):p:=h
theorem c17 (h:p:=by
 refine zf1 ?_
 all_goals exact c6u
):p:=h
theorem a07 (h:p:=by
 exact ⟨⟨_,Z,by rfl⟩,Z,Z,trivial⟩
):p:=h
theorem c8X (h:p:=by
 refine d8 (r4 Z Z Z Z (b3 (C2 Z ?_) (b3 (j8 ?_) d9)))
 all_goals (first | (rw [hO.1];done) | (rw [hO.1];rfl) | (rw [hO.2];done) | (rw [hO.2];rfl))
):p:=h
theorem c8Y (h:p:=by
 refine zgo ?_
 refine ⟨(i+1),?_,?_,⟨⟨_,Z,by (first | rfl | (rw [a0V J];done) | (rw [a3O J];done) | (rw [a0V J];rfl) | (rw [a3O J];rfl) | (rw [a0V J,List.map_append];rfl))⟩,Z,⟨⟨_,Z,by (first | rfl | (rw [a0V J];done) | (rw [a3O J];done) | (rw [a0V J];rfl) | (rw [a3O J];rfl) | (rw [a0V J,List.map_append];rfl))⟩,Z,⟨⟨_,Z,by (first | rfl | (rw [a0V J];done) | (rw [a3O J];done) | (rw [a0V J];rfl) | (rw [a3O J];rfl) | (rw [a0V J,List.map_append];rfl))⟩,Z,trivial⟩⟩⟩,⟨⟨_,Z,by (first | rfl | (rw [a0V J];done) | (rw [a3O J];done) | (rw [a0V J];rfl) | (rw [a3O J];rfl) | (rw [a0V J,List.map_append];rfl))⟩,Z,Z,trivial⟩,Z,Z,Z⟩
 ·omega
 omega
):p:=h
theorem c6P (h:p:=by
 refine zgo ?_
 refine d8 (r4 Z Z Z Z (b3 (c8 Z ?_) (b3 (j8 ?_) d9)))
 all_goals (first | rfl | (rw [c2E J];done) | (rw [c2E J];rfl) | (rw [b9p J];done) | (rw [b9p J];rfl) | (rw [b9w h0 J];done) | (rw [b9w h0 J];rfl))
):p:=h
theorem c6Q (h:p:=by
 refine zgo ?_
 refine d8 (r4 Z Z Z Z (b3 (c8 Z ?_) (b3 (j8 ?_) d9)))
 all_goals (first | (rw [hG];done) | (rw [hG];rfl) | (rw [hG,b58 j7];done) | (rw [hG,b58 j7];rfl) | (rw [hG,b32 j7];done) | (rw [hG,b32 j7];rfl))
):p:=h
theorem c8Z (h:p:=by
 refine r9 (Gh.sub 7 3 np Z Z Z) (r9 (Gh.sub 8 4 np Z Z Z) (r9 (Gh.sub 9 5 np Z Z Z) (r9 (Gh.sub 10 6 np Z Z Z) (b4 ⟨(true,0+1),?_,?_,⟨⟨_,Z,by rfl⟩,Z,⟨⟨_,Z,by rfl⟩,Z,trivial⟩⟩,⟨⟨_,Z,by (first | rfl | (rw [B0,List.map_append];rfl))⟩,Z,Z,⟨⟨_,Z,by (first | rfl | (rw [B0,List.map_append];rfl))⟩,Z,Z,⟨⟨_,Z,by (first | rfl | (rw [B0,List.map_append];rfl))⟩,Z,Z,⟨⟨_,Z,by (first | rfl | (rw [B0,List.map_append];rfl))⟩,Z,Z,⟨⟨_,Z,by (first | rfl | (rw [B0,List.map_append];rfl))⟩,Z,Z,⟨⟨_,Z,by (first | rfl | (rw [B0,List.map_append];rfl))⟩,Z,Z,trivial⟩⟩⟩⟩⟩⟩,Z,Z,Z⟩))))
 ·exact ⟨by dsimp only;omega,λe=>by cases e⟩
 dsimp only;omega
):p:=h
theorem c81 (h:p:=by
 refine r9 (Gh.sub 7 3 np Z Z Z) (r9 (Gh.sub 8 4 np Z Z Z) (r9 (Gh.sub 9 5 np Z Z Z) (r9 (Gh.sub 10 6 np Z Z Z) (b4 ⟨(true,i+1),?_,?_,⟨⟨_,Z,by rfl⟩,Z,⟨⟨_,Z,by rfl⟩,Z,trivial⟩⟩,⟨⟨_,Z,by (first | rfl | (rw [B0,List.map_append];rfl))⟩,Z,Z,⟨⟨_,Z,by (first | rfl | (rw [B0,List.map_append];rfl))⟩,Z,Z,⟨⟨_,Z,by (first | rfl | (rw [B0,List.map_append];rfl))⟩,Z,Z,⟨⟨_,Z,by (first | rfl | (rw [B0,List.map_append];rfl))⟩,Z,Z,⟨⟨_,Z,by (first | rfl | (rw [B0,List.map_append];rfl))⟩,Z,Z,⟨⟨_,Z,by (first | rfl | (rw [B0,List.map_append];rfl))⟩,Z,Z,trivial⟩⟩⟩⟩⟩⟩,Z,Z,Z⟩))))
 ·exact ⟨by dsimp only;omega,λe=>by cases e⟩
 dsimp only;omega
):p:=h
theorem c18 (h:p:=by
 refine zgo ?_
 refine ⟨(i+1),?_,?_,⟨⟨_,Z,by rfl⟩,Z,⟨⟨_,Z,by rfl⟩,Z,trivial⟩⟩,⟨⟨_,Z,by (first | (rw [c7Q (by assumption),List.map_append];rfl) | (rw [c7R (by assumption)];done))⟩,Z,Z,trivial⟩,Z,Z,Z⟩
 ·omega
 omega
):p:=h
theorem c82 (h:p:=by
 refine zgo ?_
 refine ⟨(i+1),?_,?_,⟨⟨_,Z,by rfl⟩,Z,trivial⟩,trivial,Z,Z,Z⟩
 ·exact ⟨by omega,s4 hinv.2 (c07 J ⟨v8.mp j7,v8.mp j7,v8.mp j7⟩ J (λh=>by omega))⟩
 omega
):p:=h
theorem c83 (h:p:=by
 refine vm1 ?_
 refine vm3 ?_
 refine b3b ?_
 refine vm3 ?_
 refine c1W ?_
 refine vm3 ?_
 refine b5 Z Z (c7 G Z Z Z Z Z J m7) ?_
 refine p6 ?_
 first | refine l8 G Z Z Z Z Z (A7 J J) Z Z Z Z Z (Nat.le_of_ble_eq_true Z) Z ?_ | refine l8 G Z Z Z Z Z (by simp;exact ⟨by omega,Z⟩) Z Z Z Z Z (Nat.le_of_ble_eq_true Z) Z ?_
 refine zfo ?_
 all_goals (first | rfl | exact a3W | (simp only [List.nil_append];exact a3W))
):p:=h
theorem c0g (h:p:=by
 refine zf1 ?_
 all_goals exact c24
):p:=h
theorem c6R (h:p:=by
 refine zf1 ?_
 all_goals exact c25
):p:=h
theorem c0h (h:p:=by
 first | exact ⟨by show ((v.1+1:Nat):Int)<=x6.1;omega,hV,hc7.mono m7⟩ | exact ⟨by show ((v.1+1:Nat):Int)<=x6.1;omega,(c2D hV hst j7).1,hc7.mono m7⟩
):p:=h
theorem c84 (h:p:=by
 refine zgo ?_
 refine ⟨(v.1+1,x7.2,v.2.2),?_,?_,⟨⟨_,Z,by (first | rfl | exact congrArg (λv=>AV.v (.int .i64 v)) b95)⟩,Z,trivial⟩,⟨⟨_,Z,by rfl⟩,Z,Z,⟨⟨_,Z,by rfl⟩,Z,Z,⟨⟨_,Z,by rfl⟩,Z,Z,⟨⟨_,Z,by rfl⟩,Z,Z,⟨⟨_,Z,by rfl⟩,Z,Z,⟨⟨_,Z,by rfl⟩,Z,Z,trivial⟩⟩⟩⟩⟩⟩,Z,Z,Z⟩
 ·exact c0h
 (show x6.1.toNat - (v.1+1) < x6.1.toNat - v.1;omega)
):p:=h
theorem c86 (h:p:=by
 refine zgo ?_
 refine d8 (r4 Z Z Z Z (b3 (c8 Z ?_) (b3 (j8 ?_) d9)))
 all_goals (first | rfl | (rw [b58 j7];done) | (rw [b58 j7];rfl) | (rw [b32 j7];done) | (rw [b32 j7];rfl))
):p:=h
theorem c6S (h:p:=by
 refine zf1 ?_
 all_goals (first | rfl | (simp only [okRts,h1,Bool.true_and,Bool.false_and];done) | (have e8:rs.length=8:=Int.ofNat_inj.mp h2;simp only [okRts,h1,e8,decide_true,Bool.true_and,a0t,Bool.not_not];done) | (simp only [okRts,h1,show ¬ rs.length=8 from (λh=>h2 (by rw [h];rfl)),decide_false,Bool.false_and,Bool.and_false];done))
):p:=h
theorem c19 (h:p:=by
 refine d8 (r4 Z Z Z Z (b3 (C2 Z ?_) (b3 (j8 ?_) (b3 (j8 ?_) d9))))
 all_goals clear hK7 K7
 all_goals (first | (rw [hO.1];rfl) | (rw [hO.2.1];rfl) | (rw [hO.2.1];done) | (rw [hO.2.2];rfl) | (rw [hO.2.2];done))
):p:=h
theorem c0i (h:p:=by
 refine zf1 ?_
 all_goals ((have e0:((UInt8.toNat 64:Nat):Int)=64:=Z;cases e1:a0L x.c<;>cases e2:a0L x.r<;>cases e3:m4 x.c 64<;>simp_all [I7]<;>omega))
):p:=h
theorem c87 (h:p:=by
 refine zgo ?_
 refine ⟨(i+1),?_,?_,⟨⟨_,Z,by rfl⟩,Z,⟨⟨_,Z,by rfl⟩,Z,trivial⟩⟩,⟨⟨_,Z,by (first | (rw [b8V J,List.map_append];rfl) | (rw [b8V J];done) | (rw [b8V J];rfl) | (rw [c7D J];done))⟩,Z,Z,trivial⟩,Z,Z,Z⟩
 ·omega
 omega
):p:=h
theorem c2a (h:p:=by
 refine zgo ?_
 refine ⟨(i+1),?_,?_,⟨⟨_,Z,by rfl⟩,Z,trivial⟩,trivial,Z,Z,Z⟩
 ·exact ⟨by omega,s4 hinv.2 (by first | exact c5O j7 | exact c5P j7)⟩
 omega
):p:=h
theorem b3e (h:p:=by
 exact ⟨⟨_,Z,by rfl⟩,Z,Z,⟨⟨_,Z,by rfl⟩,Z,Z,trivial⟩⟩
):p:=h
theorem c88 (h:p:=by
 refine a9v (id:=0) Z ?_
 refine d8 (n9 Z (j8 ?_) Z (AftOK.stays Z ?_ Z AftOK.nil))
 all_goals (first | (rw [b7Z J];done) | (exfalso;omega) | (simp only [nxC,nxS];done) | (simp only [nxC,nxS,b1l (show ¬ x.a < (x.c.length:Int) by omega)];done) | (rw [b1m J];exact congrArg (Value.int .i64) (O2 (Int.le_trans (by decide) R2.1) (Int.le_trans R2.2 (by decide)))) | (rw [b1m J];simp only [nxT,nxS,b1l (show ¬ x.a < (x.c.length:Int) by omega)];exact congrArg (Value.int .i64) (O2 (Int.le_trans (by decide) R2.1) (Int.le_trans R2.2 (by decide)))))
):p:=h
theorem c89 (h:p:=by
 refine b4o ?_
 refine p6 ?_
 refine vm4 ?_
 refine zgo ?_
 refine ⟨(i+1),?_,?_,⟨⟨_,Z,by rfl⟩,Z,⟨⟨_,Z,by rfl⟩,Z,trivial⟩⟩,⟨⟨_,Z,by (first | (rw [c5B J J,List.map_append];rfl) | (rw [c5C J J,List.map_append];rfl))⟩,Z,Z,trivial⟩,Z,Z,Z⟩
 ·omega
 omega
):p:=h
theorem c6T (h:p:=by
 refine zf1 ?_
 all_goals exact c26
):p:=h
theorem c9a (h:p:=by
 refine vm3 ?_
 refine d4 2 Z Z Z (ArgsOK.of Z) (b3f (a8c sl i) _ (by have:=@a7h sl i;have:=@a0z sl i;omega) (λx hx=>c1n hF J (u3.mpr J) hx)) Z Z ?_
 refine zgn ?_
 refine a2m ?_
 refine r9 (Gh.sub 1 0 np Z Z Z) (b4 ⟨(i+1),?_,?_,⟨⟨_,Z,by rfl⟩,Z,⟨⟨_,Z,by rfl⟩,Z,trivial⟩⟩,⟨⟨_,Z,by (first | (rw [b8Y J];done) | (rw [b8Z J];done))⟩,Z,Z,trivial⟩,Z,Z,Z⟩)
 ·omega
 omega
):p:=h
theorem c9b (h:p:=by
 refine vm3 ?_
 refine d4 4 Z Z Z (ArgsOK.of Z) (a2o (pnS q i) ⟨_,_⟩ J) Z Z ?_
 refine zgn ?_
 refine a2m ?_
 refine r9 (Gh.sub 3 1 np Z Z Z) (b4 ⟨(i+1),?_,?_,⟨⟨_,Z,by rfl⟩,Z,⟨⟨_,Z,by rfl⟩,Z,trivial⟩⟩,⟨⟨_,Z,by (first | (rw [b1L J,List.map_append];rfl) | (rw [b1L J];done) | (rw [b1L J];rfl) | (rw [c2x J];done))⟩,Z,Z,trivial⟩,Z,Z,Z⟩)
 ·omega
 omega
):p:=h
theorem c9c (h:p:=by
 refine b7 (rs:=[11]) Y Z (AllB.cons ?_ AllB.nil)
 refine f9 [1,2,3] Z Z (e9 G Z Z Z Z Z Z Z Z Z Z Z (b4 ⟨Z,?_⟩))
 refine d5 12 Z Y Y Z Z Z Z (b8 Z Z) (C3 Y (hK14 _ ?_))
 clear hK14 K14
 refine d8 (r4 Z Z Z Z (b3 (C2 Z ?_) (b3 (j8 ?_) d9)))
 all_goals (first | (rw [hB.1];rfl) | (rw [hB.2];rfl) | (rw [hB.2];done) | (rw [b1p hB,h4];rfl) | (rw [b1p hB,h4];simp;done))
):p:=h
theorem c9d (h:p:=by
 refine d8 (A2 (((⟨#[114,97,105,115,101,32]⟩:ByteArray)++s5 x1.1,x3.2)) (n9 Z (j8 ?_) Z (AftOK.stays Z ?_ Z (AftOK.stays Z ?_ Z (AftOK.stays Z ?_ Z (AftOK.stays Z ?_ Z (AftOK.stays Z ?_ Z AftOK.nil)))))) (⟨?_,?_⟩))
 all_goals clear hK4 K4
 all_goals (first | rfl | trivial | exact hc3.mono J | (show ByteArray.size _<=60;(try simp only [ByteArray.size_append,i8,List.size_toArray,List.length_cons,List.length_nil]);omega))
):p:=h
theorem c9e (h:p:=by
 refine d8 (A2 (((⟨#[116,97,107,101,32]⟩:ByteArray)++s5 x2.1,x3.2)) (n9 Z (j8 ?_) Z (AftOK.stays Z ?_ Z (AftOK.stays Z ?_ Z (AftOK.stays Z ?_ Z (AftOK.stays Z ?_ Z (AftOK.stays Z ?_ Z AftOK.nil)))))) (⟨?_,?_⟩))
 all_goals clear hK4 K4
 all_goals (first | rfl | trivial | exact hc3.mono J | (show ByteArray.size _<=60;(try simp only [ByteArray.size_append,i8,List.size_toArray,List.length_cons,List.length_nil]);omega))
):p:=h
theorem c9f (h:p:=by
 refine d8 (A2 (((⟨#[115,121,110,99]⟩:ByteArray),x3.2)) (n9 Z (j8 ?_) Z (AftOK.stays Z ?_ Z (AftOK.stays Z ?_ Z (AftOK.stays Z ?_ Z (AftOK.stays Z ?_ Z (AftOK.stays Z ?_ Z AftOK.nil)))))) (⟨?_,?_⟩))
 all_goals clear hK4 K4
 all_goals (first | rfl | trivial | exact hc3.mono J | (show ByteArray.size _<=60;(try simp only [ByteArray.size_append,i8,List.size_toArray,List.length_cons,List.length_nil]);omega))
):p:=h
theorem c9g (h:p:=by
 refine vm3 ?_
 refine L8 2 [0] Z Z Z (Y1 x l.length J hc) Z (RowsIn.cons Z RowsIn.nil) Z Z Z ?_
 refine p6 ?_
 refine c1T ?_
 refine p6 ?_
 refine b5 Z Z (f8 G Z Z Z Z Z (A7 J J) Z) ?_
 refine zgo ?_
 refine d8 (n9 Z (j8 ?_) Z (AftOK.stays Z ?_ Z (AftOK.stays Z ?_ Z AftOK.nil)))
 all_goals (first | rfl | (simp;done))
):p:=h
theorem c2b (h:p:=by
 refine b4s ?_
 all_goals (first | (rw [c5h J];done) | (rw [b8F J,htn];done) | (rw [b8F J,← htn];done))
):p:=h
theorem c6U (h:p:=by
 exact ⟨⟨_,Z,by rfl⟩,Z,Z,⟨⟨_,Z,by rfl⟩,Z,Z,⟨⟨_,Z,by rfl⟩,Z,Z,⟨⟨_,Z,by rfl⟩,Z,Z,⟨⟨_,Z,by rfl⟩,Z,Z,⟨⟨_,Z,by rfl⟩,Z,Z,trivial⟩⟩⟩⟩⟩⟩
):p:=h
theorem c9h (h:p:=by
 refine b7 (rs:=[5]) a8 Z (AllB.cons ?_ AllB.nil)
 refine b3c ?_
 refine b7 (rs:=[6]) a8 Z (AllB.cons ?_ AllB.nil)
 refine b3c ?_
 refine F3 ?_
 refine d8 (o8 Z Z Z Z (b3 (c8 Z ?_) (b3 (c8 Z ?_) (b3 (c8 Z ?_) (b3 (A8 Z ?_) (b3 (j8 ?_) (b3 (j8 ?_) (b3 (j8 ?_) d9))))))))
 all_goals (rfl)
):p:=h
theorem c2c (h:p:=by
 refine zf1 ?_
 all_goals (first | rfl | (simp only [b0Y,h1,Bool.true_and,Bool.false_and];done) | (simp only [b0Y, *,Bool.true_and,Bool.false_and];done))
):p:=h
theorem c3A (h:p:=by
 refine d8 (o8 Z Z Z Z (b3 (j8 ?_) (b3 (c8 Z ?_) (b3 (c8 Z ?_) (b3 (c8 Z ?_) d9)))))
 all_goals (rfl)
):p:=h
theorem c9i (h:p:=by
 refine b3c ?_
 refine F3 ?_
 exact c3A
):p:=h
theorem c9j (h:p:=by
 try rw [h1]
 try simp only [rfb] at h1
 refine c1 (λK5 hK5=>?_)
 refine b6 ?_
 refine p6 ?_
 refine b5 Z Z (w9 G Z Z Z Z) ?_
 refine c1X ?_
 refine c1Z ?_
 refine hK5 _ ?_
 clear hK5 K5
 refine d8 (o8 Z Z Z Z (b3 (H8 ?_) (b3 (H8 ?_) (b3 (j8 ?_) d9))))
 all_goals clear hK3 K3
 all_goals (first | rfl | (exfalso;simp_all;done))
):p:=h
theorem c6V (h:p:=by
 refine d8 (o8 Z Z Z Z (b3 (c8 Z ?_) (b3 (c8 Z ?_) d9)))
 all_goals exact c6v
):p:=h
theorem c9k (h:p:=by
 first | exact ⟨by show ((z.1+1:Nat):Int)<=x1.1;omega,hz2,hc4.mono m7⟩ | exact ⟨by show ((z.1+1:Nat):Int)<=x1.1;omega,(a7s j7).trans hz2,hc4.mono m7⟩ | exact ⟨by show ((z.1+1:Nat):Int)<=x1.1;omega,a7u.trans hz2,hc4.mono m7⟩ | exact ⟨by show ((z.1+1:Nat):Int)<=x1.1;omega,(a7t j7).trans hz2,hc4.mono m7⟩
):p:=h
theorem c9l (h:p:=by
 first | exact ⟨by show ((z.1+1:Nat):Int)<=x1.1;omega,hz2,hc6.mono m7⟩ | exact ⟨by show ((z.1+1:Nat):Int)<=x1.1;omega,(a7s j7).trans hz2,hc6.mono m7⟩ | exact ⟨by show ((z.1+1:Nat):Int)<=x1.1;omega,a7u.trans hz2,hc6.mono m7⟩ | exact ⟨by show ((z.1+1:Nat):Int)<=x1.1;omega,(a7t j7).trans hz2,hc6.mono m7⟩
):p:=h
theorem c9m (h:p:=by
 first | exact ⟨by show ((z.1+1:Nat):Int)<=x1.1;omega,hz2,hc2.mono m7⟩ | exact ⟨by show ((z.1+1:Nat):Int)<=x1.1;omega,(a7s j7).trans hz2,hc2.mono m7⟩ | exact ⟨by show ((z.1+1:Nat):Int)<=x1.1;omega,a7u.trans hz2,hc2.mono m7⟩ | exact ⟨by show ((z.1+1:Nat):Int)<=x1.1;omega,(a7t j7).trans hz2,hc2.mono m7⟩
):p:=h
theorem c9n (h:p:=by
 first | exact ⟨by show ((z.1+1:Nat):Int)<=x1.1;omega,hz2,hc8.mono m7⟩ | exact ⟨by show ((z.1+1:Nat):Int)<=x1.1;omega,(a7s j7).trans hz2,hc8.mono m7⟩ | exact ⟨by show ((z.1+1:Nat):Int)<=x1.1;omega,a7u.trans hz2,hc8.mono m7⟩ | exact ⟨by show ((z.1+1:Nat):Int)<=x1.1;omega,(a7t j7).trans hz2,hc8.mono m7⟩
):p:=h
theorem c9o (h:p:=by
 first | exact ⟨by show ((z.1+1:Nat):Int)<=x1.1;omega,(a58 hz2 J J).1,hc10.mono m7⟩ | exact ⟨by show ((z.1+1:Nat):Int)<=x1.1;omega,b13 hz2,hc10.mono m7⟩ | exact ⟨by show ((z.1+1:Nat):Int)<=x1.1;omega,b14 hz2 j7,hc10.mono m7⟩ | exact ⟨by show ((z.1+1:Nat):Int)<=x1.1;omega,hz2,hc10.mono m7⟩
):p:=h
theorem c9p (h:p:=by
 first | exact ⟨by show ((z.1+1:Nat):Int)<=x1.1;omega,(a58 hz2 J J).1,hc2.mono m7⟩ | exact ⟨by show ((z.1+1:Nat):Int)<=x1.1;omega,b13 hz2,hc2.mono m7⟩ | exact ⟨by show ((z.1+1:Nat):Int)<=x1.1;omega,b14 hz2 j7,hc2.mono m7⟩ | exact ⟨by show ((z.1+1:Nat):Int)<=x1.1;omega,hz2,hc2.mono m7⟩
):p:=h
theorem a84 (h:p:=by
 exact ⟨⟨_,Z,by rfl⟩,Z,trivial⟩
):p:=h
theorem c9q (h:p:=by
 exact ⟨by omega,s4 hinv.2 (R6.mpr ⟨v8.mp j7,v8.mp j7,by omega,(λj hj=>by have:=a1O.mp (a9B.mp (show P0 (λj=>decide ((wa.getD j default).q=(wa.getD i default).q)) i < 0 by omega)) j hj;exact of_decide_eq_false this),c3u⟩)⟩
):p:=h
theorem c6W (h:p:=by
 refine zgo ?_
 refine d8 (r4 Z Z Z Z (b3 (c8 Z ?_) (b3 (j8 ?_) d9)))
 all_goals (first | (rw [hG];done) | (rw [hG];rfl))
):p:=h
theorem R9 (h:p:=by
 exact Nat.zero_le _
):p:=h
theorem c9r (h:p:=by
 try rw [h1]
 try simp only [rfb] at h1
 have hO:=c5H h1
 refine c1 (λK4 hK4=>?_)
 refine b6 (a7 Z (b5 Z Z (b8 Z Z) (a7 Z (b5 Z Z (b8 Z Z) (b4 (hK4 _ ?_))))))
 clear hK4 K4
 refine d8 (r4 Z Z Z Z (b3 (j8 ?_) (b3 (j8 ?_) d9)))
 all_goals clear hK2 K2
 all_goals (first | (rw [hO];done) | (rw [hO];rfl))
):p:=h
theorem c6X (h:p:=by
 refine zf1 ?_
 all_goals (simp only [a56];first | (rw [if_pos J];done) | (rw [if_neg J,if_pos J];done) | (rw [if_neg J,if_neg J];done))
):p:=h
theorem c3B (h:p:=by
 refine zgo ?_
 refine ⟨(i+1),?_,?_,⟨⟨_,Z,by rfl⟩,Z,trivial⟩,trivial,Z,Z,Z⟩
 ·exact ⟨by omega,s4 hinv.2 b94⟩
 omega
):p:=h
theorem c0j (h:p:=by
 refine zf1 ?_
 all_goals ((first | rfl | (simp_all;done) | (simp_all;omega)))
):p:=h
theorem c3C (h:p:=by
 refine zgo ?_
 refine d8 (n9 Z (j8 ?_) Z (AftOK.stays Z ?_ Z AftOK.nil))
 all_goals (first | (rw [hO.1];done) | (rw [hO.2];done) | (rw [hO.1];rfl) | (rw [hO.2];rfl))
):p:=h
theorem c0k (h:p:=by
 refine zgo ?_
 refine ⟨(i+1),?_,?_,⟨⟨_,Z,by rfl⟩,Z,trivial⟩,trivial,Z,Z,Z⟩
 ·exact ⟨by omega,s4 hinv.2 (by simp_all [fdP,emP])⟩
 omega
):p:=h
theorem b0B (h:p:=by
 refine zf1 ?_
 all_goals exact b92
):p:=h
theorem c3D (h:p:=by
 refine zgo ?_
 refine ⟨(i+1),?_,?_,⟨⟨_,Z,by rfl⟩,Z,⟨⟨_,Z,by rfl⟩,Z,trivial⟩⟩,⟨⟨_,Z,by (first | (rw [c7G J];done) | (rw [c7H J,List.map_append];rfl))⟩,Z,Z,trivial⟩,Z,Z,Z⟩
 ·exact ⟨by omega,s4 hinv.2 J⟩
 omega
):p:=h
theorem c3E (h:p:=by
 refine c1X ?_
 refine c1Z ?_
 refine hK6 _ ?_
 clear hK6 K6
 refine d8 (o8 Z Z Z Z (b3 (c8 Z ?_) (b3 (c8 Z ?_) (b3 (j8 ?_) d9))))
 all_goals (first | rfl | (exfalso;simp_all;done))
):p:=h
theorem b6G (h:p:=by
 exact ⟨⟨_,Z,by (first | rfl | simp)⟩,Z,⟨⟨_,Z,by (first | rfl | simp)⟩,Z,trivial⟩⟩
):p:=h
theorem b6H (h:p:=by
 refine zf1 ?_
 all_goals (first | rfl | (rw [c5F j7];done) | (rw [c5G j7];done))
):p:=h
theorem c3F (h:p:=by
 refine zgn ?_
 refine s9 (J6 (Gh.nestX (id:=6) m.cp Z (by simp only [List.length_set,List.length_map])) ?_)
 refine zgo ?_
 refine d8 (o8 Z Z Z Z (b3 (c8 Z ?_) (b3 (c8 Z ?_) (b3 (c8 Z ?_) (b3 (A8 Z ?_) (b3 (j8 ?_) (b3 (j8 ?_) d9)))))))
 all_goals (rfl)
):p:=h
theorem c0l (h:p:=by
 refine d8 (a4Y Z Z Z Z (b3 (c8 Z ?_) (b3 (j8 ?_) d9)) Z (AftOK.gone AftOK.nil))
 all_goals (first | (rw [hG];done) | (rw [hG];rfl))
):p:=h
theorem c3G (h:p:=by
 refine zgo ?_
 refine ⟨(i+1),?_,?_,⟨⟨_,Z,by rfl⟩,Z,⟨⟨_,Z,by rfl⟩,Z,trivial⟩⟩,⟨⟨_,Z,by (first | (rw [b8X j7,List.map_append];rfl) | (rw [c5o j7];done))⟩,Z,Z,trivial⟩,Z,Z,Z⟩
 ·omega
 omega
):p:=h
theorem b6I (h:p:=by
 refine d8 (O3 Z (j8 ?_))
 all_goals clear hK17 K17
 all_goals (first | rfl | (simp_all;done))
):p:=h
theorem c3H (h:p:=by
 refine d8 (v6 Z Z Z Z (b3 (j8 ?_) (b3 (c8 Z ?_) (b3 (c8 Z ?_) (b3 (c8 Z ?_) (b3 (j8 ?_) d9))))) Z (AftOK.gone (AftOK.gone (AftOK.gone AftOK.nil))))
 all_goals (first | (rw [hG0];done) | (rw [hG0];rfl) | (rw [hG0,hls];done) | (rw [hG0,hls];rfl))
):p:=h
theorem c3I (h:p:=by
 refine zgo ?_
 refine d8 (r4 Z Z Z Z (b3 (H8 ?_) (b3 (j8 ?_) (b3 (j8 ?_) d9))))
 all_goals exact c27
):p:=h
theorem c3J (h:p:=by
 refine zgo ?_
 refine ⟨(i+1),?_,?_,⟨⟨_,Z,by rfl⟩,Z,⟨⟨_,Z,by rfl⟩,Z,trivial⟩⟩,⟨⟨_,Z,by (rw [b12,List.map_append];rfl)⟩,Z,Z,trivial⟩,Z,Z,Z⟩
 ·exact ⟨by omega,s4 hinv.2 (by assumption)⟩
 omega
):p:=h
theorem c0m (h:p:=by
 refine zgo ?_
 refine d8 (r4 Z Z Z Z (b3 (c8 Z ?_) (b3 (j8 ?_) d9)))
 all_goals exact b92
):p:=h
theorem b6J (h:p:=by
 refine d8 (r4 Z Z Z Z (b3 (c8 Z ?_) (b3 (j8 ?_) d9)))
 all_goals ((rw [hN]))
):p:=h
theorem c3K (h:p:=by
 refine zgo ?_
 refine ⟨(i+1),?_,?_,⟨⟨_,Z,by rfl⟩,Z,trivial⟩,trivial,Z,Z,Z⟩
 ·exact ⟨by omega,s4 hi.2 (a5h.mpr ⟨by omega,by first | exact .inl J | exact .inr ⟨by assumption,by assumption⟩⟩)⟩
 omega
):p:=h
theorem c0n (h:p:=by
 refine zgo ?_
 refine d8 (r4 Z Z Z Z (b3 (H8 ?_) (b3 (j8 ?_) d9)))
 all_goals exact b92
):p:=h
theorem b19 (h:p:=by
 exact ⟨⟨_,Z,by (first | rfl | simp)⟩,Z,trivial⟩
):p:=h
theorem c3L (h:p:=by
 exact ⟨by omega,s4 hinv.2 (R6.mpr ⟨v8.mp j7,v8.mp j7,by omega,λj hj=>hk.2 j J,c3u⟩)⟩
):p:=h
theorem c3M (h:p:=by
 exact ⟨by omega,s4 hinv.2 (by first | exact c2u j7 (b0k.mpr (ec3.mp j7)) | exact c2v j7 (a4l.mpr ⟨v8.mp j7,v8.mp j7,v8.mp j7⟩) (a9B.mp J))⟩
):p:=h
theorem c3N (h:p:=by
 refine zgo ?_
 refine ⟨(i+1),?_,?_,⟨⟨_,Z,by rfl⟩,Z,⟨⟨_,Z,by rfl⟩,Z,trivial⟩⟩,⟨⟨_,Z,by (exact congrArg (λz=>Row.row _ _ z) (b8W J))⟩,Z,Z,trivial⟩,Z,Z,Z⟩
 ·omega
 omega
):p:=h
theorem c3O (h:p:=by
 refine b01 ?_
 refine vm3 ?_
 refine c1W ?_
 refine zfo ?_
 all_goals (first | rfl | simp)
):p:=h
theorem b6K (h:p:=by
 refine zf1 ?_
 all_goals (first | rfl | (simp_all [n7];done) | (simp_all [n7];omega))
):p:=h
theorem c3P (h:p:=by
 refine zf1 ?_
 all_goals exact c28
):p:=h
theorem c3Q (h:p:=by
 refine b4 ⟨(i+1),?_,?_,⟨⟨_,Z,by rfl⟩,Z,⟨⟨_,Z,by rfl⟩,Z,trivial⟩⟩,⟨⟨_,Z,by (rw [b9g J,List.map_append];rfl)⟩,Z,Z,trivial⟩,Z,Z,Z⟩
 ·omega
 ·omega
):p:=h
theorem c3R (h:p:=by
 refine d8 (r4 Z Z Z Z (b3 (C2 Z ?_) (b3 (j8 ?_) d9)))
 all_goals clear hK4 K4
 all_goals (first | (rw [hB.1];rfl) | (rw [hB.2];rfl) | (rw [hB.2];done) | (rw [b1p hB,h4];rfl) | (rw [b1p hB,h4];simp;done))
):p:=h
theorem c3S (h:p:=by
 refine zgo ?_
 refine ⟨(i+1),?_,?_,⟨⟨_,Z,by rfl⟩,Z,trivial⟩,trivial,Z,Z,Z⟩
 ·exact ⟨by omega,s4 hinv.2 (by first | assumption | exact a1N.mp j7)⟩
 omega
):p:=h
theorem c3T (h:p:=by
 exact ⟨by omega,hinv.2.succ hm (λk hk e=>(b6c.mp h5) ((b0q J).mpr ⟨k,hk,e⟩)) (by first | exact b85 b6B | (obtain rfl:i=0:=J;exact b84))⟩
):p:=h
theorem b6L (h:p:=by
 refine d8 (O3 Z (j8 ?_))
 all_goals (first | rfl | (simp_all;done))
):p:=h
theorem c3U (h:p:=by
 exact ⟨by show ((z.1+1:Nat):Int)<=x1.1;omega,by dsimp only;with_reducible first | exact c8e (b7x (by decide) hz2) | exact b7x (by decide) hz2,hc3.mono (by simp;omega)⟩
):p:=h
theorem c3V (h:p:=by
 exact ⟨by show ((z.1+1:Nat):Int)<=x1.1;omega,by dsimp only;with_reducible first | exact c8e (b7x (by decide) hz2) | exact b7x (by decide) hz2,hc5.mono (by simp;omega)⟩
):p:=h
theorem c3W (h:p:=by
 refine ⟨(k+1),?_,?_,⟨⟨_,Z,by rfl⟩,Z,trivial⟩,trivial,Z,Z,Z⟩
 ·exact ⟨by omega,s4 hk.2 (c5w j7 j7)⟩
 omega
):p:=h
theorem b6M (h:p:=by
 refine zf1 ?_
 all_goals ((rw [hO];try rw [← hrl];try rfl))
):p:=h
theorem c3X (h:p:=by
 refine zgo ?_
 refine ⟨(k+1),?_,?_,⟨⟨_,Z,by rfl⟩,Z,trivial⟩,trivial,Z,Z,Z⟩
 ·exact ⟨by omega,b4R hk.2 j7⟩
 omega
):p:=h
theorem c3Y (h:p:=by
 refine zgo ?_
 refine d8 (r4 Z Z Z Z (b3 (C2 Z ?_) (b3 (j8 ?_) d9)))
 all_goals (first | (rw [hO.1];rfl) | (rw [hO.2];done) | (rw [hO.2];rfl))
):p:=h
theorem b0C (h:p:=by
 refine zf1 ?_
 all_goals (rfl)
):p:=h
theorem c3Z (h:p:=by
 exact ⟨⟨_,Z,by (first | rfl | (simp;done) | (simp;omega))⟩,Z,⟨⟨_,Z,by (first | rfl | (simp;done) | (simp;omega))⟩,Z,trivial⟩⟩
):p:=h
theorem c30 (h:p:=by
 refine zcd (λk0=>?_) (λk0=>?_)
 ·refine zf1 ?_
  all_goals (simp_all;omega)
 refine zf1 ?_
 all_goals (simp_all;omega)
):p:=h
theorem b6N (h:p:=by
 first | (exfalso;omega) | (exfalso;simp_all;done)
):p:=h
theorem c31 (h:p:=by
 exact ⟨⟨_,Z,by rfl⟩,Z,Z,⟨⟨_,Z,by rfl⟩,Z,Z,⟨⟨_,Z,by rfl⟩,Z,Z,trivial⟩⟩⟩
):p:=h
theorem c32 (h:p:=by
 refine zf1 ?_
 all_goals (first | (rw [b6k J];done) | (rw [a9H J];done) | (rw [a9H J];rfl))
):p:=h
theorem c0o (h:p:=by
 refine zf1 ?_
 all_goals (first | rfl | (simp_all [lessW];done))
):p:=h
theorem c33 (h:p:=by
 exact ⟨⟨_,Z,by rfl⟩,Z,⟨⟨_,Z,by rfl⟩,Z,⟨⟨_,Z,by rfl⟩,Z,trivial⟩⟩⟩
):p:=h
theorem c34 (h:p:=by
 refine zgo ?_
 refine d8 (r4 Z Z Z Z (b3 (b2s ?_) (b3 (j8 ?_) d9)))
 all_goals (rfl)
):p:=h
theorem c35 (h:p:=by
 have hE:=b9d (l:=l) J
 refine zf1 ?_
 all_goals (first | (rw [hE];rfl) | (rw [hJ];done))
):p:=h
theorem c36 (h:p:=by
 first | (exfalso;omega) | exact absurd j7 (hne _ (j6.mpr ⟨k,by omega,Z⟩))
):p:=h
theorem c0p (h:p:=by
 (show x2.1.toNat - (z.1+1) < x2.1.toNat - z.1;omega)
):p:=h
theorem c38 (h:p:=by
 all_goals (first | rfl | (exact (hbn h1).symm) | (rw [hbn h1];done) | (simp_all;done) | simp)
):p:=h
theorem c39 (h:p:=by
 refine zf1 ?_
 all_goals (first | rfl | (simp_all [fdP];done) | (simp_all [fdP];rfl))
):p:=h
theorem c4a (h:p:=by
 refine zf1 ?_
 all_goals (first | rfl | (simp_all [R7];done) | (simp_all [R7];rfl))
):p:=h
theorem c0q (h:p:=by
 refine d8 (O3 Z (j8 ?_))
 all_goals (rfl)
):p:=h
theorem b0D (h:p:=by
 try rw [b23 J] at hO
 exact ws1
):p:=h
theorem c0r (h:p:=by
 obtain ⟨m1,ir,ok⟩:=sr
 dsimp only at cS hE hir hsm hiq
 refine zgo ?_
 refine a7 Z (a1W (n:=31) G Z Z Z Tryz.func85 Z Y Z Z Z Z ?_)
 intro b hen hpin
 refine zgo ?_
 refine a7 Z (B3 14 Z Z Z Z Z Z Z (a7 Z (B3 15 Z Z Z Z Z Z Z (a7 Z (d7 G 16 Z Z Z Z Z ?_)))))
 refine zgo ?_
 refine a7 Z (d4 20 Z Z Z (ArgsOK.of Z) cS Z Z ?_)
 refine zgo ?_
 refine a7 Z (d7 G 21 Z Z Z Z Z ?_)
 refine zcd (λk0=>?_) (λk0=>?_)
 ·refine zgo ?_
  refine d8 ⟨.inr Z,_,Z,Z,?_⟩
  have hE2:H5 m s=(m,qmB):=hE.trans (if_neg (by simp [k0]))
  have hO:=P8 h1 h2 h3 hE2
  refine zgo ?_
  refine d8 ⟨.inr Z,_,Z,Z,?_⟩
  refine b4 ⟨Z,?_⟩
  refine zsa 8 ?_
  refine zsa 9 ?_
  refine b7 (rs:=[10]) Y Z (AllB.cons ?_ AllB.nil)
  refine g9 [0,1,2,3,4,5,6,7,9,10] Z Z ?_
  refine zgo ?_
  refine ⟨Z,?_⟩
  refine zsa 11 ?_
  refine C3 Y ?_
  refine znk ?_
  refine d8 ⟨.inr Z,_,Z,Z,?_⟩
  refine zgo ?_
  refine a7 Z (d7 G 22 Z Z Z Z Z ?_)
  refine zgo ?_
  refine a7 Z (d4 26 Z Z Z (ArgsOK.of Z) (w3 _ x (by first | assumption | exact hsm (by assumption)) hx) Z Z ?_)
  refine zgo ?_
  refine a7 Z (b5 Z Z (r5 G Z Z Z) ?_)
  refine zcd (λk1=>?_) (λk1=>?_)
  ·exact b0D
  try rw [a2l J] at hO
  have hrs:=k1
  exact ws1
 refine zgo ?_
 refine a7 Z (d7 G 22 Z Z Z Z Z ?_)
 refine zwf ?_
 refine zgo ?_
 refine d8 ⟨.inr Z,_,Z,Z,?_⟩
 have hE2:H5 m s=(m1,if ir=-1 then okB else s5 ir):=hE.trans (if_pos k0)
 first | rw [if_neg ((hiq k0).mpr J)] at hE2 | rw [if_pos (Decidable.byContradiction λg=>absurd ((hiq k0).mp g) J)] at hE2
 have hO:=P8 h1 h2 h3 hE2
 refine zgo ?_
 refine d8 ⟨.inr Z,_,Z,Z,?_⟩
 refine b4 ⟨Z,?_⟩
 refine zsa 8 ?_
 refine zsa 9 ?_
 refine b7 (rs:=[10]) Y Z (AllB.cons ?_ AllB.nil)
 refine g9 [0,1,2,3,4,5,6,7,9,10] Z Z ?_
 refine zgo ?_
 refine ⟨Z,?_⟩
 refine zsa 11 ?_
 refine C3 Y ?_
 refine znk ?_
 refine d8 ⟨.inr Z,_,Z,Z,?_⟩
 refine zgo ?_
 refine a7 Z (d7 G 23 Z Z Z Z Z ?_)
 refine zgo ?_
 refine a7 Z (d4 27 Z Z Z (ArgsOK.of Z) (w3 _ x (by first | assumption | exact hsm (by assumption)) hx) Z Z ?_)
 refine zgo ?_
 refine a7 Z (b5 Z Z (r5 G Z Z Z) ?_)
 refine zcd (λk2=>?_) (λk2=>?_)
 ·exact b0D
 try rw [a2l J] at hO
 have hrs:=k2
 refine zgo ?_
 refine a7 Z (b5 Z Z (j4 Z (ArgsOK.of Z) (u6 x ⟨s,_⟩ hx ⟨by show s.size<=_;omega,by first | exact P7 (by decide) | exact N7 J | exact N7 (Int.ofNat_le.1 hrs)⟩) Z) ?_)
 refine zgo ?_
 refine d8 (o8 Z Z Z Z (b3 (c8 Z ?_) (b3 (c8 Z ?_) (b3 (c8 Z ?_) (b3 (A8 Z ?_) (b3 (j8 ?_) (b3 (j8 ?_) (b3 (j8 ?_) (b3 (j8 ?_) d9)))))))))
 all_goals (first | (rw [hO];done) | (rw [hO];rfl))
):p:=h
theorem c0s (h:p:=by
 refine zgo ?_
 refine a7 Z (b5 Z Z (j4 Z (ArgsOK.of Z) (a0W x ⟨s,_⟩ hx ⟨by show s.size<=_;omega,by first | exact P7 (by decide) | exact N7 J | exact N7 (Int.ofNat_le.1 hrs)⟩) Z) ?_)
 exact b18
):p:=h
theorem b2a (h:p:=by
 refine zgo ?_
 refine a7 Z (b5 Z Z (r5 G Z Z Z) ?_)
 refine zcd (λk0=>?_) (λk0=>?_)
 ·try rw [b23 J] at hO
  exact c0s
 try rw [a2l J] at hO
 have hrs:=k0
 exact c0s
):p:=h
theorem c4b (h:p:=by
 refine b7 (rs:=[6]) Y Z (AllB.cons ?_ AllB.nil)
 refine f9 [1,2,3,4,5,8,9] Z Z (I0 (Gh.forget (id:=7) (k:=4) Z Z)<|I0 (Gh.keep [1,2,3,4,5,6,7,8,9,11] Z)<|a1n (tx:=35) 13 rfl rfl rfl rfl rfl<|F8 G (by exact Nat.le_of_ble_eq_true Z) rfl rfl rfl rfl rfl rfl rfl rfl rfl rfl (by first | (simp only [List.length_map,List.length_cons,List.length_nil];omega) | (simp;omega)) rfl rfl (b4 ⟨Z,?_⟩))
 refine d5 7 Z Y Y Z Z Z Z (d3 G Z Z Z Z) ?_
 refine b7 (rs:=[8]) Y Z (AllB.cons ?_ AllB.nil)
 refine f9 [1,2,3,4,5,8,9] Z Z (e9 G Z Z Z Z Z Z Z Z Z Z Z (b4 ⟨Z,?_⟩))
 exact a5G
):p:=h
theorem c4c (h:p:=by
 first | refine f9 [] Z Z (b5 Z Z (c7 G Z Z Z Z Z J a8V) (b4 ⟨Z,?_⟩)) | refine f9 [] Z Z (b5 Z Z (c7 G Z Z Z Z Z J a8U) (b4 ⟨Z,?_⟩)) | refine f9 [] Z Z (b5 Z Z (c7 G Z Z Z Z Z J a8T) (b4 ⟨Z,?_⟩))
 refine b7 (rs:=[9,13]) a8 Z (AllB.cons ?_ (AllB.cons ?_ AllB.nil))
 ·first | refine f9 [] Z Z (b5 Z Z (f6 G Z Z Z Z (a0y J) Z) (b4 ⟨Z,?_⟩)) | refine f9 [] Z Z (b5 Z Z (f6 G Z Z Z Z (a05 J J) Z) (b4 ⟨Z,?_⟩)) | refine f9 [] Z Z (b5 Z Z (f6 G Z Z Z Z (a1P J J) Z) (b4 ⟨Z,?_⟩))
  refine b7 (rs:=[13]) a8 Z (AllB.cons ?_ AllB.nil)
  exact ws2
 first | refine f9 [] Z Z (b5 Z Z (f6 G Z Z Z Z (a0y J) Z) (b4 ⟨Z,?_⟩)) | refine f9 [] Z Z (b5 Z Z (f6 G Z Z Z Z (a05 J J) Z) (b4 ⟨Z,?_⟩)) | refine f9 [] Z Z (b5 Z Z (f6 G Z Z Z Z (a1P J J) Z) (b4 ⟨Z,?_⟩))
 refine b7 (rs:=[9]) a8 Z (AllB.cons ?_ AllB.nil)
 exact ws2
):p:=h
theorem c4d (h:p:=by
 refine b7 (rs:=[5]) Y Z (AllB.cons ?_ AllB.nil)
 refine f9 [1,2,3,4,7] Z Z (I0 (Gh.forget (id:=6) (k:=3) Z Z)<|I0 (Gh.keep [1,2,3,4,5,6,7,11] Z)<|a1n (tx:=28) 13 rfl rfl rfl rfl rfl<|F8 G (by exact Nat.le_of_ble_eq_true Z) rfl rfl rfl rfl rfl rfl rfl rfl rfl rfl (by first | (simp only [List.length_map,List.length_cons,List.length_nil];omega) | (simp;omega)) rfl rfl (b4 ⟨Z,?_⟩))
 refine d5 6 Z Y Y Z Z Z Z (d3 G Z Z Z Z) ?_
 refine b7 (rs:=[7]) Y Z (AllB.cons ?_ AllB.nil)
 refine f9 [1,2,3,4,7] Z Z (e9 G Z Z Z Z Z Z Z Z Z Z Z (b4 ⟨Z,?_⟩))
 exact a5G
):p:=h
theorem b4u (h:p:=by
 refine N8 ?_
 exact a5G
):p:=h
theorem c4e (h:p:=by
 refine b7 (rs:=[10]) a8 Z (AllB.cons ?_ AllB.nil)
 refine f9 [0,1,2,3,4,10] Z Z (I0 (Gh.forget (id:=7) (k:=4) Z Z)<|I0 (Gh.keep [0,1,2,3,4,6,7,10,12] Z)<|a1n (tx:=58) 14 rfl rfl rfl rfl rfl<|F8 G X9 rfl rfl rfl rfl rfl rfl rfl rfl rfl rfl M8 rfl rfl (b4 ⟨Z,?_⟩))
 refine zsa 11 ?_
 refine b7 (rs:=[12]) a8 Z (AllB.cons ?_ AllB.nil)
 refine g9 [0,1,2,3,4,10] Z Z ?_
 exact b4u
):p:=h
theorem c4f (h:p:=by
 refine b7 (rs:=[5]) a8 Z (AllB.cons ?_ AllB.nil)
 refine f9 [1,2,3,4,7] Z Z (I0 (Gh.forget (id:=6) (k:=3) Z Z)<|I0 (Gh.keep [1,2,3,4,5,6,7,11] Z)<|a1n (tx:=28) 13 rfl rfl rfl rfl rfl<|F8 G X9 rfl rfl rfl rfl rfl rfl rfl rfl rfl rfl M8 rfl rfl (b4 ⟨Z,?_⟩))
 refine zsa 6 ?_
 refine b7 (rs:=[7]) a8 Z (AllB.cons ?_ AllB.nil)
 refine g9 [1,2,3,4,7] Z Z ?_
 exact b4u
):p:=h
theorem c4g (h:p:=by
 refine zgo ?_
 refine i7 [2,4,40,41] [0] (λ(i:Nat)=>[(8,.v (.int .i64 (O4 rs a c (b2z rs a c) i).2)),(9,.v (.int .i64 (O4 rs a c (b2z rs a c) i).1)),(42,.v (.int .i64 (i:Int)))]) (λ(i:Nat)=>[]) (λ(i:Nat)=>i<=rs.length) (λ(i:Nat)=>rs.length - i) 0 Z Z ?_ ?_ ?_ ?_
 ·exact R9
 ·exact ⟨⟨_,Z,by first | rfl | (simp only [O4];rw [b4Y J];done) | (simp only [O4];rw [b4X J];done)⟩,Z,⟨⟨_,Z,by first | rfl | (simp only [O4];rw [b4Y J];done) | (simp only [O4];rw [b4X J];done)⟩,Z,⟨⟨_,Z,by first | rfl | (simp only [O4];rw [b4Y J];done) | (simp only [O4];rw [b4X J];done)⟩,Z,trivial⟩⟩⟩
 ·exact trivial
 intro i hinv
 refine vm2 ?_
 refine zcd (λk0=>?_) (λk0=>?_)
 ·refine b4p ?_
  refine zcd (λk1=>?_) (λk1=>?_)
  ·refine zcd (λk2=>?_) (λk2=>?_)
   ·refine zcd (λk3=>?_) (λk3=>?_)
    ·refine zgd ?_
     exact ws8
    exact ws8
   refine zwf ?_
   exact ws8
  refine zwf ?_
  exact ws8
 refine zf1 ?_
 all_goals exact c29
):p:=h
theorem c4h (h:p:=by
 refine vm3 ?_
 refine d4 9 Z Z Z (ArgsOK.of Z) (a6j z.2.2 hz2.f) Z Z ?_
 refine zgn ?_
 refine a2m ?_
 refine r9 (Gh.sub 6 2 A4 Z Z Z) (r9 (Gh.sub 7 3 A4 Z Z Z) (r9 (Gh.sub 8 4 A4 Z Z Z) (b4 ⟨(z.1+1,x2.2,(tkX z.2.2).1),?_,?_,⟨⟨_,Z,by (first | rfl | exact congrArg (λv=>AV.v (.int .i64 v)) E0)⟩,Z,trivial⟩,⟨⟨_,Z,by rfl⟩,Z,Z,⟨⟨_,Z,by rfl⟩,Z,Z,⟨⟨_,Z,by rfl⟩,Z,Z,⟨⟨_,Z,by rfl⟩,Z,Z,⟨⟨_,Z,by rfl⟩,Z,Z,trivial⟩⟩⟩⟩⟩,Z,Z,Z⟩)))
 ·exact c6N
 exact Y0
):p:=h
theorem c4i (h:p:=by
 refine b7 (rs:=[8]) a8 Z (AllB.cons ?_ AllB.nil)
 refine g9 [1,2,5,6] Z Z (d4 8 Z Z Z (ArgsOK.of (by rw [c7C];rfl)) (a1Y (x.wa.drop 1) _ (by rw [List.length_drop];omega)) Z Z (b4 ⟨Z,?_⟩))
 refine zsa 9 ?_
 refine b7 (rs:=[10]) a8 Z (AllB.cons ?_ AllB.nil)
 refine g9 [1,2,5,6] Z Z ?_
 exact b4u
):p:=h
theorem c4j (h:p:=by
 refine d5 6 Z a8 a8 Z Z Z Z (s6 Z Z Z b6C) ?_
 refine zsa 7 ?_
 refine b7 (rs:=[8]) a8 Z (AllB.cons ?_ AllB.nil)
 refine g9 [1,2] Z Z ?_
 exact b4u
):p:=h
theorem c4k (h:p:=by
 refine b7 (rs:=[9]) a8 Z (AllB.cons ?_ AllB.nil)
 refine f9 [0,1,2,3,4,6,8] Z Z (I0 (Gh.forget (id:=7) (k:=3) Z Z)<|I0 (Gh.keep [0,1,2,3,4,5,6,7,8,9] Z)<|a1n (tx:=47) 11 rfl rfl rfl rfl rfl<|l1 G X9 rfl rfl rfl rfl rfl rfl rfl rfl rfl M8 rfl rfl (b4 ⟨Z,?_⟩))
 refine zsa 10 ?_
 refine b7 (rs:=[11]) a8 Z (AllB.cons ?_ AllB.nil)
 refine g9 [0,1,2,3,4,6,8] Z Z ?_
 exact b4u
):p:=h
theorem c0t (h:p:=by
 refine zgo ?_
 apply C4 [4] [0] 2 13 [] mixed a8 Z Z (λ_ h=>znk h)
 ·exact ws4
 refine zfo ?_
 all_goals exact c3a
):p:=h
theorem b4v (h:p:=by
 refine zcd (λk0=>?_) (λk0=>?_)
 ·refine zcd (λk1=>?_) (λk1=>?_)
  ·exact a3X
  exact a3X
 exact a3X
):p:=h
theorem c4l (h:p:=by
 refine zgo ?_
 refine ⟨(z.1+1,x9.2,z.2.2),?_,?_,⟨⟨_,Z,by (first | rfl | exact congrArg (λv=>AV.v (.int .i64 v)) E0)⟩,Z,trivial⟩,⟨⟨_,Z,by rfl⟩,Z,Z,⟨⟨_,Z,by rfl⟩,Z,Z,⟨⟨_,Z,by rfl⟩,Z,Z,⟨⟨_,Z,by rfl⟩,Z,Z,trivial⟩⟩⟩⟩,Z,Z,Z⟩
 ·exact c6M
 exact Y0
):p:=h
theorem c0u (h:p:=by
 refine zgo ?_
 refine a7 Z (d4 6 Z Z Z (ArgsOK.of Z) (Ctr.shpTo (a1Z m x hs hx) (.cons .s (.cons .s (.cons .s (.cons (.n flM) (.cons .s (.cons .s (.cons .s .nil)))))))) Z Z ?_)
 exact b18
):p:=h
theorem c4m (h:p:=by
 refine zcl (E4 _) ?_
 refine p6 ?_
 refine m5 G 5 Z Z Z Z Z Z Z Z ?_
 refine p6 ?_
 refine vm4 ?_
 exact c87
):p:=h
theorem b4w (h:p:=by
 have hn:=a0N (k:=m9 w) J
 rw [hl] at hn
 refine zgo ?_
 exact c15
):p:=h
theorem c4n (h:p:=by
 refine zgo ?_
 refine i7 [0] [] (λ(i:Nat)=>[(3,.v (.int .i64 (a7Y s i))),(4,.v (.int .i64 (i:Int)))]) (λ(i:Nat)=>[]) (λ(i:Nat)=>i<=s.size) (λ(i:Nat)=>s.size - i) 0 Z Z ?_ ?_ ?_ ?_
 ·exact R9
 ·exact a0O
 ·exact trivial
 intro i hinv
 have hi:i<=s.size:=hinv
 have hsl:=a9w s i
 have hbb:=a6P s i
 have hbi:s2 s i=((s.data.toList.getD ((i:Int)).toNat 0).toNat:Int):=Z
 refine vm2 ?_
 refine vm3 ?_
 refine a4z ?_
 refine zcd (λk0=>?_) (λk0=>?_)
 ·refine c8K ?_
  refine c8L ?_
  refine zgo ?_
  refine ⟨(i+1),?_,?_,⟨⟨_,Z,by rfl⟩,Z,⟨⟨_,Z,by rfl⟩,Z,trivial⟩⟩,trivial,Z,Z,Z⟩
  ·omega
  omega
 refine zf1 ?_
 all_goals (have e:i=s.size:=J;subst e;rfl)
):p:=h
theorem c0v (h:p:=by
 refine b4s ?_
 exact b7G
):p:=h
theorem c4o (h:p:=by
 refine b7 (rs:=[8]) a8 Z (AllB.cons ?_ AllB.nil)
 refine b3c ?_
 refine b7 (rs:=[9]) a8 Z (AllB.cons ?_ AllB.nil)
 exact c9i
):p:=h
theorem c4p (h:p:=by
 refine zgo ?_
 refine a0k ?_
 refine b7B ?_
 refine zcd (λk0=>?_) (λk0=>?_)
 ·exact c17
 refine zgo ?_
 refine ⟨(i+1),?_,?_,⟨⟨_,Z,by rfl⟩,Z,trivial⟩,trivial,Z,Z,Z⟩
 ·refine ⟨by omega,s4 hinv.2 ?_⟩;(simp only [a7X,Bool.and_eq_true,decide_eq_true_eq,Bool.not_eq_true',beq_eq_false_iff_ne,ne_eq] at *;omega)
 omega
):p:=h
theorem c4q (h:p:=by
 refine c8L ?_
 exact c3C
):p:=h
theorem c4r (h:p:=by
 refine zcd (λk0=>?_) (λk0=>?_)
 ·refine zcl (F0 sl _ hl) ?_
  refine zcd (λk1=>?_) (λk1=>?_)
  ·exact b7I
  exact c82
 refine zwf ?_
 exact c82
):p:=h
theorem a5I (h:p:=by
 refine zwt ?_
 exact c0f
):p:=h
theorem c4s (h:p:=by
 refine zcd (λk0=>?_) (λk0=>?_)
 ·refine zcl (I9 m s.c hn) ?_
  refine zcd (λk1=>?_) (λk1=>?_)
  ·exact a3X
  exact a3X
 exact a3X
):p:=h
theorem c4t (h:p:=by
 refine zcd (λk0=>?_) (λk0=>?_)
 ·refine zcd (λk1=>?_) (λk1=>?_)
  ·refine b3d ?_
   exact a3X
  exact a3X
 exact a3X
):p:=h
theorem a7z (h:p:=by
 refine zgo ?_
 exact c6O
):p:=h
theorem c4u (h:p:=by
 refine vm3 ?_
 refine d4 2 Z Z Z (ArgsOK.of Z) (a0P sl _ ⟨_,_,_⟩ J J) Z Z ?_
 exact c86
):p:=h
theorem c4v (h:p:=by
 refine c1U ?_
 exact c86
):p:=h
theorem c4w (h:p:=by
 refine vm3 ?_
 refine d4 2 Z Z Z (ArgsOK.of Z) (a0P sl _ ⟨_,_,_⟩ J J) Z Z ?_
 exact c6P
):p:=h
theorem c4x (h:p:=by
 refine c1U ?_
 exact c6Q
):p:=h
theorem c4y (h:p:=by
 refine vm3 ?_
 refine d4 8 Z Z Z (ArgsOK.of Z) (a1r _ hQ) Z Z ?_
 refine zgo ?_
 exact c6V
):p:=h
theorem c4z (h:p:=by
 refine Ctr.of (n:=12) G Tryz.func170 Z a8 Z Z Z (λw0=>?_)
 exact c8P
):p:=h
theorem b6O (h:p:=by
 refine zcl (H9 _ _ _) ?_
 exact c0j
):p:=h
theorem c4A (h:p:=by
 refine Ctr.of (n:=19) G Tryz.func251 Z a8 Z Z Z (λw0=>?_)
 exact ws6
):p:=h
theorem c4B (h:p:=by
 refine Ctr.of (n:=19) G Tryz.func196 Z a8 Z Z Z (λw0=>?_)
 exact ws6
):p:=h
theorem c4C (h:p:=by
 refine b01 ?_
 exact c6W
):p:=h
theorem b2b (h:p:=by
 refine zgo ?_
 exact c8X
):p:=h
theorem c4D (h:p:=by
 refine vm1 ?_
 exact b0C
):p:=h
theorem c4E (h:p:=by
 refine vm3 ?_
 refine c0a ?_
 exact c8Q
):p:=h
theorem c4F (h:p:=by
 have hO:=b1Z (s:=⟨sk,sq,sc,sv⟩) (.inl h1)
 refine zwt ?_
 exact b7K
):p:=h
theorem b4x (h:p:=by
 refine zgo ?_
 refine a7 Z (b5 Z Z (r5 G Z Z Z) ?_)
 refine zcd (λk0=>?_) (λk0=>?_)
 ·try rw [b23 J] at hO
  exact ws1
 try rw [a2l J] at hO
 have hrs:=k0
 exact ws1
):p:=h
theorem c4G (h:p:=by
 obtain ⟨m1,ir,ok⟩:=sr
 dsimp only at cS hE hir hsm hiq
 refine zgo ?_
 refine a7 Z (a1W (n:=31) G Z Z Z Tryz.func85 Z Y Z Z Z Z ?_)
 intro b hen hpin
 refine zgo ?_
 refine a7 Z (B3 14 Z Z Z Z Z Z Z (a7 Z (B3 15 Z Z Z Z Z Z Z (a7 Z (d7 G 16 Z Z Z Z Z ?_)))))
 refine zgo ?_
 refine a7 Z (d4 20 Z Z Z (ArgsOK.of Z) cS Z Z ?_)
 refine zgo ?_
 refine a7 Z (d7 G 21 Z Z Z Z Z ?_)
 refine zcd (λh301=>?_) (λh301=>?_)
 ·refine zgo ?_
  refine d8 ⟨.inr Z,_,Z,Z,?_⟩
  have hE2:H5 m s=(m,qmB):=hE.trans (if_neg (by simp [h301]))
  have hO:=P8 h1 h2 h3 hE2
  refine zgo ?_
  refine d8 ⟨.inr Z,_,Z,Z,?_⟩
  refine b4 ⟨Z,?_⟩
  refine zsa 8 ?_
  refine zsa 9 ?_
  refine b7 (rs:=[10]) Y Z (AllB.cons ?_ AllB.nil)
  refine g9 [0,1,2,3,4,5,6,7,9,10] Z Z ?_
  refine zgo ?_
  refine ⟨Z,?_⟩
  refine zsa 11 ?_
  refine C3 Y ?_
  refine znk ?_
  refine d8 ⟨.inr Z,_,Z,Z,?_⟩
  refine zgo ?_
  refine a7 Z (d7 G 22 Z Z Z Z Z ?_)
  refine zgo ?_
  refine a7 Z (d4 26 Z Z Z (ArgsOK.of Z) (w3 _ x (by first | assumption | exact hsm (by assumption)) hx) Z Z ?_)
  exact b4x
 refine zgo ?_
 refine a7 Z (d7 G 22 Z Z Z Z Z ?_)
 refine zwt ?_
 refine s9 (l2 5 [0,1,2,3,4,5,6,7,8,9,10,11,12,13,14,16,17,18,19,20,21] mixed Y Z Z (λr0=>?_) (λ_ h=>h))
 refine zsa 0 ?_
 refine zsa 1 ?_
 refine b7 (rs:=[2]) Y Z (AllB.cons ?_ AllB.nil)
 refine g9 [0,1,2,3,4,5,6,7,8,9,10,11,12,13,14,16,17,18,19,20,21] Z Z (b5 Z Z (j4 Z (ArgsOK.of Z) (u7 ir J J) Z) (b4 ⟨Z,?_⟩))
 refine b7 (rs:=[3]) Y Z (AllB.cons ?_ AllB.nil)
 refine g9 [0,1,2,3,4,5,6,7,8,9,10,11,12,13,14,16,17,18,19,20,21] Z Z ?_
 refine zgo ?_
 refine ⟨Z,?_⟩
 refine zsa 4 ?_
 refine C3 Y ?_
 refine znk ?_
 refine d8 ⟨.inr Z,_,Z,Z,?_⟩
 have hE2:H5 m s=(m1,if ir=-1 then okB else s5 ir):=hE.trans (if_pos h301)
 first | rw [if_neg ((hiq h301).mpr J)] at hE2 | rw [if_pos (Decidable.byContradiction λg=>absurd ((hiq h301).mp g) J)] at hE2
 have hO:=P8 h1 h2 h3 hE2
 refine zgo ?_
 refine d8 ⟨.inr Z,_,Z,Z,?_⟩
 refine b4 ⟨Z,?_⟩
 refine zsa 8 ?_
 refine zsa 9 ?_
 refine b7 (rs:=[10]) Y Z (AllB.cons ?_ AllB.nil)
 refine g9 [0,1,2,3,4,5,6,7,9,10] Z Z ?_
 refine zgo ?_
 refine ⟨Z,?_⟩
 refine zsa 11 ?_
 refine C3 Y ?_
 refine znk ?_
 refine d8 ⟨.inr Z,_,Z,Z,?_⟩
 refine zgo ?_
 refine a7 Z (d7 G 23 Z Z Z Z Z ?_)
 refine zgo ?_
 refine a7 Z (d4 27 Z Z Z (ArgsOK.of Z) (w3 _ x (by first | assumption | exact hsm (by assumption)) hx) Z Z ?_)
 refine zgo ?_
 refine a7 Z (b5 Z Z (r5 G Z Z Z) ?_)
 refine zcd (λk0=>?_) (λk0=>?_)
 ·exact b0D
 try rw [a2l J] at hO
 have hrs:=k0
 refine zgo ?_
 refine a7 Z (b5 Z Z (j4 Z (ArgsOK.of Z) (u6 x ⟨s,_⟩ hx ⟨by show s.size<=_;omega,by first | exact P7 (by decide) | exact N7 J | exact N7 (Int.ofNat_le.1 hrs)⟩) Z) ?_)
 refine zgo ?_
 refine d8 (o8 Z Z Z Z (b3 (c8 Z ?_) (b3 (c8 Z ?_) (b3 (c8 Z ?_) (b3 (A8 Z ?_) (b3 (j8 ?_) (b3 (j8 ?_) (b3 (j8 ?_) (b3 (j8 ?_) d9)))))))))
 all_goals (first | (rw [hO];done) | (rw [hO];rfl))
):p:=h
theorem b6P (h:p:=by
 refine d8 ⟨.inr Z,_,Z,Z,?_⟩
 refine zgo ?_
 refine a7 Z (d7 G 14 Z Z Z Z Z ?_)
 refine zgo ?_
 refine a7 Z (d4 18 Z Z Z (ArgsOK.of Z) (w3 _ x (by first | assumption | exact hsm (by assumption)) hx) Z Z ?_)
 exact b4x
):p:=h
theorem c4H (h:p:=by
 refine g9 [1,2] Z Z ?_
 refine N8 ?_
 refine b7 (rs:=[5]) a8 Z (AllB.cons ?_ AllB.nil)
 refine g9 [1,2] Z Z (b5 Z Z (j4 Z (ArgsOK.of Z) (a1s _ _ a1X a1X j7) Z) (b4 ⟨Z,?_⟩))
 exact c4j
):p:=h
theorem c4I (h:p:=by
 refine b7 (rs:=[4]) Y Z (AllB.cons ?_ AllB.nil)
 refine f9 [1,2,3,4,7] Z Z (B2 G 12 Z Z Z Z Z Z Z Z (.v Z (.own Z (.own Z (.own Z .nil)))) Z Z Z Z (b4 ⟨Z,?_⟩))
 exact c4d
):p:=h
theorem c4J (h:p:=by
 refine b7 (rs:=[4]) a8 Z (AllB.cons ?_ AllB.nil)
 refine g9 [1,2,3,4,7] Z Z (B2 G 12 Z Z Z Z Z Z Z Z (.v Z (.own Z (.own Z (.own Z .nil)))) Z Z Z Z (b4 ⟨Z,?_⟩))
 exact c4f
):p:=h
theorem c4K (h:p:=by
 refine zgo ?_
 refine a7 Z (d7 G 12 Z Z Z Z Z ?_)
 refine zgo ?_
 refine a7 Z (d4 16 Z Z Z (ArgsOK.of Z) (w3 _ x (by first | assumption | exact hsm (by assumption)) hx) Z Z ?_)
 exact b4x
):p:=h
theorem c4L (h:p:=by
 refine b7 (rs:=[5]) Y Z (AllB.cons ?_ AllB.nil)
 refine f9 [1,2,3,4,5,8,9] Z Z (B2 G 12 Z Z Z Z Z Z Z Z (.own Z .nil) Z Z Z Z (b4 ⟨Z,?_⟩))
 exact c4b
):p:=h
theorem c4M (h:p:=by
 refine b7 (rs:=[9]) a8 Z (AllB.cons ?_ AllB.nil)
 refine g9 [0,1,2,3,4,10] Z Z (B2 G 13 Z Z Z Z Z Z Z Z (.own Z .nil) Z Z Z Z (b4 ⟨Z,?_⟩))
 exact c4e
):p:=h
theorem c4N (h:p:=by
 refine b7 (rs:=[7]) a8 Z (AllB.cons ?_ AllB.nil)
 refine g9 [1,2,5,6] Z Z (b5 Z Z (j4 Z (ArgsOK.of Z) (E4 _) Z) (b4 ⟨Z,?_⟩))
 exact c4i
):p:=h
theorem c0w (h:p:=by
 refine zgn ?_
 refine J4 Z ?_
 exact c0v
):p:=h
end Go.Rf
