/- Ends of walks that are said again. -/
import Derived.Test.YtdhckhjphmjniaaGreatDoorMac
set_option linter.unusedSimpArgs false
set_option linter.unusedVariables false
namespace Go.Rf
variable {p:Prop}
theorem b2T (h:p:=by
 refine zgo ?_
 refine d7 (p7 Z Z Z Z (b3 (c7 Z ?_) (b3 (c7 Z ?_) (b3 (c7 Z ?_) (b3 (B2 Z ?_) (b3 (i8 ?_) (b3 (i8 ?_) (b3 (i8 ?_) (b3 (i8 ?_) d9)))))))))
 all_goals (first | (rw [hO];done) | (rw [hO];rfl))
):p:=h
theorem ws1 (h:p:=by
 refine zgo ?_
 refine a7 Z (b5 Z Z (i7 Z (ArgsOK.of Z) (t7 x ⟨s,_⟩ hx ⟨by show s.size<=_;omega,by first | exact R7 (by decide) | exact O7 J | exact O7 (Int.ofNat_le.1 hrs)⟩) Z) ?_)
 exact b2T
):p:=h
theorem a44 (h:p:=by
 exact z7 Y (Meet.mk Z Z Z Z)
):p:=h
theorem ws2 (h:p:=by
 first | refine e9 [] Z Z (b5 Z Z (f8 G Z Z Z Z (a0T J) Z) (b4 ⟨Z,?_⟩)) | refine e9 [] Z Z (b5 Z Z (f8 G Z Z Z Z (a1p J J) Z) (b4 ⟨Z,?_⟩)) | refine e9 [] Z Z (b5 Z Z (f8 G Z Z Z Z (a2i J J) Z) (b4 ⟨Z,?_⟩))
 refine b7 (rs:=[14]) a8 Z (AllB.cons ?_ AllB.nil)
 first | refine e9 [] Z Z (b5 Z Z (d1 G Z Z Z Z Z J a9q) (b4 ⟨Z,?_⟩)) | refine e9 [] Z Z (b5 Z Z (d1 G Z Z Z Z Z J a9p) (b4 ⟨Z,?_⟩)) | refine e9 [] Z Z (b5 Z Z (d1 G Z Z Z Z Z J a9o) (b4 ⟨Z,?_⟩))
 refine b7 (rs:=[15]) a8 Z (AllB.cons ?_ AllB.nil)
 first | refine e9 [] Z Z (l6 G Z Z Z Z Z (a0T J) Z Z Z Z Z (Nat.le_of_ble_eq_true Z) Z (b4 ⟨Z,?_⟩)) | refine e9 [] Z Z (l6 G Z Z Z Z Z (a1p J J) Z Z Z Z Z (Nat.le_of_ble_eq_true Z) Z (b4 ⟨Z,?_⟩)) | refine e9 [] Z Z (l6 G Z Z Z Z Z (a2i J J) Z Z Z Z Z (Nat.le_of_ble_eq_true Z) Z (b4 ⟨Z,?_⟩))
 refine b7 (rs:=[16]) a8 Z (AllB.cons ?_ AllB.nil)
 first | refine e9 [] Z Z (b5 Z Z (d1 G Z Z Z Z Z J a9q) (b4 ⟨Z,?_⟩)) | refine e9 [] Z Z (b5 Z Z (d1 G Z Z Z Z Z J a9p) (b4 ⟨Z,?_⟩)) | refine e9 [] Z Z (b5 Z Z (d1 G Z Z Z Z Z J a9o) (b4 ⟨Z,?_⟩))
 refine b7 (rs:=[17]) a8 Z (AllB.cons ?_ AllB.nil)
 first | refine e9 [] Z Z (l6 G Z Z Z Z Z (a0T J) Z Z Z Z Z (Nat.le_of_ble_eq_true Z) Z (b4 ⟨Z,?_⟩)) | refine e9 [] Z Z (l6 G Z Z Z Z Z (a1p J J) Z Z Z Z Z (Nat.le_of_ble_eq_true Z) Z (b4 ⟨Z,?_⟩)) | refine e9 [] Z Z (l6 G Z Z Z Z Z (a2i J J) Z Z Z Z Z (Nat.le_of_ble_eq_true Z) Z (b4 ⟨Z,?_⟩))
 exact a44
):p:=h
theorem ws4 (h:p:=by
 intro r0
 refine c92 ?_
 refine A7 (N:=1) Z (s8 (fuel:=5) [⟨0,33,0,false,.row 3 1 []⟩] (AllVOK.cons (VOK.lit G Z Z Z Z Z) (AllVOK.nil)) (λhok=>?_))
 refine m6 [(4,[0]),(6,[])] a8 a8 (λe he=>hok e he) a8 (AllVS.cons ?_ (AllVS.cons ?_ AllVS.nil))
 ·refine c96 ?_
  clear hok
  refine b7 (rs:=[6]) a8 Z (AllB.cons ?_ AllB.nil)
  refine g9 [] Z Z (p6 G 2 Z Z Z Z Z Z Z Z (b4 ⟨Z,?_⟩))
  refine b7 (rs:=[7]) a8 Z (AllB.cons ?_ AllB.nil)
  refine g9 [] Z Z (l2 G Z6 Z Z Z Z Z Z Z Z Z a57 Z Z (b4 ⟨Z,?_⟩))
  refine b7 (rs:=[11]) a8 Z (AllB.cons ?_ AllB.nil)
  refine g9 [] Z Z (l2 G Z6 Z Z Z Z Z Z Z Z Z a57 Z Z (b4 ⟨Z,?_⟩))
  refine zsa 12 ?_
  exact a44
 refine VStep.mk0 [] Z Z (λb1 _ hbn=>p6 G 2 Z Z Z Z Z Z Z Z (b4 Z)) a8 a8 a8 a8 (m6 [(4,[0])] a8 a8 (λe he=>hok e he) a8 (AllVS.cons ?_ AllVS.nil))
 refine c96 ?_
 clear hok
 refine b7 (rs:=[7]) a8 Z (AllB.cons ?_ AllB.nil)
 refine g9 [] Z Z (l2 G Z6 Z Z Z Z Z Z Z Z Z a57 Z Z (b4 ⟨Z,?_⟩))
 refine b7 (rs:=[11]) a8 Z (AllB.cons ?_ AllB.nil)
 refine g9 [] Z Z (l2 G Z6 Z Z Z Z Z Z Z Z Z a57 Z Z (b4 ⟨Z,?_⟩))
 refine zsa 12 ?_
 exact z7 a8 (Meet.mk Z Z Z Z)
):p:=h
theorem ws5 (h:p:=by
 refine zf1 ?_
 all_goals exact c9Z
):p:=h
theorem C0 (h:p:=by
 exact ⟨⟨_,Z,by (first | rfl | (simp;done) | (simp;omega))⟩,Z,trivial⟩
):p:=h
theorem c1v (h:p:=by
 refine zgo ?_
 refine ⟨(i+1),?_,?_,⟨⟨_,Z,by rfl⟩,Z,trivial⟩,trivial,Z,Z,Z⟩
 ·exact ⟨by omega,s4 hinv.2 j6⟩
 omega
):p:=h
theorem ws6 (h:p:=by
 refine zgo ?_
 refine i6 [0,1,7] [] (λ(i:Nat)=>[(8,.v (.int .i64 (i:Int)))]) (λ(i:Nat)=>[]) (λ(i:Nat)=>i<=xs.length/\∀j,j < i→p (xs.getD j default)=false) (λ(i:Nat)=>xs.length - i) 0 Z Z ?_ ?_ ?_ ?_
 ·exact ⟨Nat.zero_le _,λj hj=>by omega⟩
 ·exact C0
 ·exact trivial
 intro i hinv
 refine vm2 ?_
 refine zcd (λk0=>?_) (λk0=>?_)
 ·refine vm3 ?_
  refine b5 Z Z (b25 Z Z (ArgsOK.of Z) Z (hf _ J) Z) ?_
  refine zcd (λk1=>?_) (λk1=>?_)
  ·refine zf1 ?_
   all_goals exact c4l
  exact c1v
 refine zf1 ?_
 all_goals exact c4l
):p:=h
theorem ws7 (h:p:=by
 refine zgo ?_
 refine ⟨(i+1),?_,?_,⟨⟨_,Z,by (first | rfl | (rw [a2F (a5E j6)];done) | (rw [a2E (a5F J j6)];done) | (rw [a2E ((a4N J J).trans (by simp_all [wOf]))];done) | (rw [a2F ((a4N J J).trans (by simp_all [wOf]))];done))⟩,Z,⟨⟨_,Z,by (first | rfl | (rw [a2F (a5E j6)];done) | (rw [a2E (a5F J j6)];done) | (rw [a2E ((a4N J J).trans (by simp_all [wOf]))];done) | (rw [a2F ((a4N J J).trans (by simp_all [wOf]))];done))⟩,Z,trivial⟩⟩,trivial,Z,Z,Z⟩
 ·omega
 omega
):p:=h
theorem ws8 (h:p:=by
 refine zgo ?_
 refine ⟨(i+1),?_,?_,⟨⟨_,Z,by first | rfl | (rw [b3n j6 j6 j6];done) | (rw [a5C (by simp_all;done)];done) | (rw [a5C (by simp_all;omega)];done)⟩,Z,⟨⟨_,Z,by first | rfl | (rw [b3n j6 j6 j6];done) | (rw [a5C (by simp_all;done)];done) | (rw [a5C (by simp_all;omega)];done)⟩,Z,⟨⟨_,Z,by first | rfl | (rw [b3n j6 j6 j6];done) | (rw [a5C (by simp_all;done)];done) | (rw [a5C (by simp_all;omega)];done)⟩,Z,trivial⟩⟩⟩,trivial,Z,Z,Z⟩
 ·omega
 omega
):p:=h
theorem ws9 (h:p:=by
 refine zf1 ?_
 all_goals exact c4m
):p:=h
theorem d0k (h:p:=by
 intro r0
 refine c92 ?_
 refine A7 (N:=2) Z (s8 (fuel:=5) [⟨0,29,1,false,.row 76 2 []⟩] (AllVOK.cons (VOK.lit G Z Z Z Z Z) (AllVOK.nil)) (λhok=>?_))
 refine m6 [(4,[0]),(6,[])] a8 a8 (λe he=>hok e he) a8 (AllVS.cons ?_ (AllVS.cons ?_ AllVS.nil))
 ·refine c95 ?_
  clear hok
  refine b7 (rs:=[6]) a8 Z (AllB.cons ?_ AllB.nil)
  refine g9 [0] Z Z (p6 G 3 Z Z Z Z Z Z Z Z (b4 ⟨Z,?_⟩))
  refine b7 (rs:=[7]) a8 Z (AllB.cons ?_ AllB.nil)
  refine g9 [0] Z Z (l2 G Z6 Z Z Z Z Z Z Z Z Z a57 Z Z (b4 ⟨Z,?_⟩))
  refine b7 (rs:=[11]) a8 Z (AllB.cons ?_ AllB.nil)
  refine g9 [0] Z Z (l2 G Z6 Z Z Z Z Z Z Z Z Z a57 Z Z (b4 ⟨Z,?_⟩))
  refine zsa 12 ?_
  exact a44
 refine VStep.mk0 [0] Z Z (λb1 _ hbn=>p6 G 3 Z Z Z Z Z Z Z Z (b4 Z)) a8 a8 a8 a8 (m6 [(4,[0])] a8 a8 (λe he=>hok e he) a8 (AllVS.cons ?_ AllVS.nil))
 refine c95 ?_
 clear hok
 refine b7 (rs:=[7]) a8 Z (AllB.cons ?_ AllB.nil)
 refine g9 [0] Z Z (l2 G Z6 Z Z Z Z Z Z Z Z Z a57 Z Z (b4 ⟨Z,?_⟩))
 refine b7 (rs:=[11]) a8 Z (AllB.cons ?_ AllB.nil)
 refine g9 [0] Z Z (l2 G Z6 Z Z Z Z Z Z Z Z Z a57 Z Z (b4 ⟨Z,?_⟩))
 refine zsa 12 ?_
 exact z7 a8 (Meet.mk Z Z Z Z)
):p:=h
theorem c4V (h:p:=by
 refine b7 (rs:=[9]) a8 Z (AllB.cons ?_ AllB.nil)
 refine e9 [0,1,2,3,4] Z Z (I1 (Gh.forget (id:=6) (k:=3) Z Z)<|I1 (Gh.keep [0,1,2,3,4,5,6,10] Z)<|a06 (tx:=27) 12 rfl rfl rfl rfl rfl<|E4 G Z6 rfl rfl rfl rfl rfl rfl rfl rfl rfl rfl N6 rfl rfl (b4 ⟨Z,?_⟩))
 refine zsa 10 ?_
 refine b7 (rs:=[11]) a8 Z (AllB.cons ?_ AllB.nil)
 refine g9 [0,1,2,3,4] Z Z ?_
 refine R9 ?_
 exact z7 a8 (Meet.mk Z Z Z Z)
):p:=h
theorem c4W (h:p:=by
 refine b7 (rs:=[8]) a8 Z (AllB.cons ?_ AllB.nil)
 refine g9 [0,1,2,3,4] Z Z (A4 G 11 Z Z Z Z Z Z Z Z (.v Z (.own Z (.own Z (.own Z .nil)))) Z Z Z Z (b4 ⟨Z,?_⟩))
 exact c4V
):p:=h
theorem d0l (h:p:=by
 refine zgo ?_
 apply C4 [1,2,3,4] [0,1,2,3,4,6,11] 12 12 [0,1,2,3,4] mixed a8 Z Z (λ_ h=>znk h)
 ·intro r0
  refine zsa 0 ?_
  refine zsa 2 ?_
  refine zsa 3 ?_
  refine a8V ?_
  refine b7 (rs:=[1,7]) a8 Z (AllB.cons ?_ (AllB.cons ?_ AllB.nil))
  ·refine g9 [0,1,2,3,4] Z Z ?_
   refine R9 ?_
   refine b7 (rs:=[7]) a8 Z (AllB.cons ?_ AllB.nil)
   refine g9 [0,1,2,3,4] Z Z (d3 10 Z Z Z (ArgsOK.of Z) (a6b (m.cp.getD k default) J J J) Z Z (b4 ⟨Z,?_⟩))
   exact c4W
  refine g9 [0,1,2,3,4] Z Z (d3 10 Z Z Z (ArgsOK.of Z) (a6b (m.cp.getD k default) J J J) Z Z (b4 ⟨Z,?_⟩))
  refine b7 (rs:=[1,8]) a8 Z (AllB.cons ?_ (AllB.cons ?_ AllB.nil))
  ·refine g9 [0,1,2,3,4] Z Z ?_
   refine R9 ?_
   exact c4W
  refine g9 [0,1,2,3,4] Z Z (A4 G 11 Z Z Z Z Z Z Z Z (.v Z (.own Z (.own Z (.own Z .nil)))) Z Z Z Z (b4 ⟨Z,?_⟩))
  refine b7 (rs:=[1]) a8 Z (AllB.cons ?_ AllB.nil)
  refine g9 [0,1,2,3,4] Z Z ?_
  refine R9 ?_
  exact c4V
 refine a3o ?_
 refine r4 (Gh.sub 11 5 np Z Z Z) (b4 ⟨(k+1),?_,?_,⟨⟨_,Z,by rfl⟩,Z,trivial⟩,⟨⟨_,Z,by (exact congrArg (λz=>Row.nest _ _ z []) (b2v J Z))⟩,Z,Z,trivial⟩,Z,Z,Z⟩)
 ·omega
 omega
):p:=h
theorem d0m (h:p:=by
 refine n9 0 Z (λ_=>Z) (λu0=>?_)
 refine vm1 ?_
 refine vm9 ?_
 refine zgn ?_
 refine t8 (j7 10 [0] mixed a8 Z Z (λr0=>?_) (λ_ h=>h))
 refine zsa 1 ?_
 refine zsa 2 ?_
 refine zsa 5 ?_
 refine zsa 6 ?_
 refine A7 (N:=4) Z (s8 (fuel:=4) [⟨0,3,2,false,.row 104 3 []⟩,⟨4,7,3,false,.row 76 2 []⟩] (AllVOK.cons (VOK.lit G Z Z Z Z Z) (AllVOK.cons (VOK.lit G Z Z Z Z Z) (AllVOK.nil))) (λhok=>?_))
 refine m6 [(3,[0])] a8 a8 (λe he=>hok e he) a8 (AllVS.cons ?_ AllVS.nil)
 refine VStep.mk1 [0] 3 (.own 2) 2 (.row 104 3 []) [⟨4,7,3,false,.row 76 2 []⟩] Z Z Z Z Z (λb1 _ hbn=>l2 G U5 Z Z Z Z Z Z Z Z Z n8 Z Z (b4 Z)) a8 a8 a8 a8 (m6 [(7,[4])] a8 a8 (λe he=>hok e (vin (is:=[0]) Z he)) a8 (AllVS.cons ?_ AllVS.nil))
 refine VStep.mk1 [0] 7 (.own 3) 3 (.row 76 2 []) [] Z Z Z Z Z (λb1 _ hbn=>l2 G U5 Z Z Z Z Z Z Z Z Z n8 Z Z (b4 Z)) a8 a8 a8 a8 (E1 ?_)
 clear hok
 refine b7 (rs:=[8]) a8 Z (AllB.cons ?_ AllB.nil)
 refine b37 ?_
 refine b7 (rs:=[9]) a8 Z (AllB.cons ?_ AllB.nil)
 refine b37 ?_
 refine H8 ?_
 refine d7 (p7 Z Z Z Z (b3 (c7 Z ?_) (b3 (c7 Z ?_) d9)))
 all_goals (first | rfl | simp)
):p:=h
theorem a4k (h:p:=by
 refine zf1 ?_
 all_goals (first | rfl | (simp [T6, *];done) | (simp [T6, *];rfl) | (simp [T6, *,E0,Y9];done))
):p:=h
theorem b8V (h:p:=by
 all_goals exact c73
):p:=h
theorem b8W (h:p:=by
 refine zgo ?_
 refine d7 (A3 ((⟨_,_,_,_⟩,⟨_,_,_⟩)) (o9 Z (A8 Z Z) Z (AftOK.stays Z Z Z (AftOK.stays Z Z Z (AftOK.stays Z Z Z (AftOK.stays Z Z Z (AftOK.stays Z Z Z AftOK.nil)))))) ⟨?_,?_⟩)
 all_goals (try rcases x1 with ⟨_,_⟩)
 all_goals (try rcases x2 with ⟨_,_⟩)
 all_goals (try rcases x3 with ⟨_,_⟩)
 all_goals (try rcases x4 with ⟨_,_⟩)
 all_goals (try rcases x5 with ⟨_,_⟩)
 all_goals (try dsimp only at *)
 all_goals (first | trivial | exact hc2.mono J | omega)
):p:=h
theorem b7V (h:p:=by
 refine d7 (p7 Z Z Z Z (b3 (c7 Z ?_) (b3 (c7 Z ?_) (b3 (c7 Z ?_) (b3 (B2 Z ?_) (b3 (i8 ?_) (b3 (i8 ?_) d9)))))))
 all_goals (first | (rw [hS];done) | (rw [hS];(first | rfl | exact List.map_set.symm | exact c7n Z | (simp only [List.set_set,Int.toNat_natCast];exact c7n Z) | exact congrArg Value.bool (decide_eq_true J))))
):p:=h
theorem d0n (h:p:=by
 refine c94 ?_
 refine zgo ?_
 exact b7V
):p:=h
theorem b8X (h:p:=by
 refine zf1 ?_
 all_goals exact c4n
):p:=h
theorem b8Y (h:p:=by
 refine zf1 ?_
 all_goals exact c4o
):p:=h
theorem c1w (h:p:=by
 refine a79 ?_
 all_goals exact c4p
):p:=h
theorem d0o (h:p:=by
 refine g9 [1] Z Z (b5 Z Z (a0P G Z Z Z Z Z Z w9 w9 w9 w9) (b4 ⟨Z,?_⟩))
 refine b7 (rs:=[8]) a8 Z (AllB.cons ?_ AllB.nil)
 refine g9 [1] Z Z (a55 G Z Z Z Z Z Z Z (vs:=(xs.map j8).drop i) (SrcOK.spare Z w9) (L:=xs.length - i) c4Q (c2a Y4 J w9 (by rw [List.length_map]) (by rw [List.length_map])) (λc hc=>(hall c (List.mem_of_mem_drop hc)).2) (λc hc=>(hall c (List.mem_of_mem_drop hc)).1) w9 w9 (b4 ⟨Z,?_⟩))
 exact a44
):p:=h
theorem d0p (h:p:=by
 refine b7 (rs:=[8]) Y Z (AllB.cons ?_ AllB.nil)
 refine e9 [0,1,2,3] Z Z (I1 (Gh.forget (id:=5) (k:=3) Z Z)<|I1 (Gh.keep [0,1,2,3,4,5,9] Z)<|a06 (tx:=23) 11 rfl rfl rfl rfl rfl<|E4 G (by exact Nat.le_of_ble_eq_true Z) rfl rfl rfl rfl rfl rfl rfl rfl rfl rfl (by first | (simp;omega) | (simp only [List.length_map,List.length_cons,List.length_nil,List.length_replicate];omega)) rfl rfl (b4 ⟨Z,?_⟩))
 refine c8 9 Z Y Y Z Z Z Z (d5 G Z Z Z Z) ?_
 refine b7 (rs:=[10]) Y Z (AllB.cons ?_ AllB.nil)
 refine e9 [0,1,2,3] Z Z (f6 G Z Z Z Z Z Z Z Z Z Z Z (b4 ⟨Z,?_⟩))
 exact a44
):p:=h
theorem c4X (h:p:=by
 refine zgo ?_
 refine ⟨(i+1),?_,?_,⟨⟨_,Z,by (first | rfl | (rw [c9f J J J];rfl) | (rw [c9g J J J];rfl) | (rw [c9h J J J];rfl) | (rw [c9i J J J];rfl))⟩,Z,⟨⟨_,Z,by (first | rfl | (rw [c9f J J J];rfl) | (rw [c9g J J J];rfl) | (rw [c9h J J J];rfl) | (rw [c9i J J J];rfl))⟩,Z,trivial⟩⟩,trivial,Z,Z,Z⟩
 ·omega
 omega
):p:=h
theorem d0q (h:p:=by
 refine c1s ?_
 refine r6 ?_
 refine b33 ?_
 refine zcd (λk0=>?_) (λk0=>?_)
 ·have hnm:=hF.nums (i:=i) J J
  refine zgd ?_
  refine zcl (A1 (sl.getD i default).q J J) ?_
  refine b8N ?_
  refine b8N ?_
  refine zcl (A1 (sl.getD i default).p J J) ?_
  refine b8N ?_
  exact c4X
 exact c4X
):p:=h
theorem c3s (h:p:=by
 refine zgo ?_
 refine ⟨(i+1),?_,?_,⟨⟨_,Z,by (first | rfl | (rw [a2F (a5E j6)];done) | (rw [a2E (a5F j6 j6)];done) | (rw [a2E ((b3p hd J j6 J).trans (by simp_all))];done) | (rw [a2F ((b3p hd J j6 J).trans (by simp_all))];done))⟩,Z,⟨⟨_,Z,by (first | rfl | (rw [a2F (a5E j6)];done) | (rw [a2E (a5F j6 j6)];done) | (rw [a2E ((b3p hd J j6 J).trans (by simp_all))];done) | (rw [a2F ((b3p hd J j6 J).trans (by simp_all))];done))⟩,Z,trivial⟩⟩,trivial,Z,Z,Z⟩
 ·omega
 omega
):p:=h
theorem c1x (h:p:=by
 refine zgo ?_
 refine ⟨(i+1),?_,?_,⟨⟨_,Z,by first | rfl | (rw [b3o j6 j6 J];done) | (rw [a5D (by simp_all;done)];done) | (rw [a5D (by simp_all;omega)];done)| (rw [a5D (λ_ _=>J)];done)⟩,Z,⟨⟨_,Z,by first | rfl | (rw [b3o j6 j6 J];done) | (rw [a5D (by simp_all;done)];done) | (rw [a5D (by simp_all;omega)];done)| (rw [a5D (λ_ _=>J)];done)⟩,Z,trivial⟩⟩,trivial,Z,Z,Z⟩
 ·omega
 omega
):p:=h
theorem c1y (h:p:=by
 refine zf1 ?_
 all_goals exact c4q
):p:=h
theorem b5s (h:p:=by
 refine zf1 ?_
 all_goals (first | (rw [b3r J];done) | (rw [b6b J J];done) | (rw [b6c J J];done) | (rw [b3s J J J];first | rfl | (exact congrArg Value.bool (by rw [Bool.eq_iff_iff,decide_eq_true_iff];exact c2n))) | rfl)
):p:=h
theorem c1z (h:p:=by
 refine zf1 ?_
 all_goals (first | (rw [a4X J];done) | (rw [a07 J];done) | (rw [a8O J];done) | (rw [a6A (by have:=@b3P w;omega)];done))
):p:=h
theorem c4Y (h:p:=by
 refine b7 (rs:=[6]) a8 Z (AllB.cons ?_ AllB.nil)
 refine g9 [0] Z Z (N1 4 [1,2] Z Z Z (P8 wa w i J J) Z (RowsIn.cons Z (RowsIn.cons Z RowsIn.nil)) Z Z Z (b4 ⟨Z,?_⟩))
 refine zsa 7 ?_
 exact a44
):p:=h
theorem d0r (h:p:=by
 intro r0
 refine zsa 1 ?_
 refine zsa 3 ?_
 refine zsa 4 ?_
 refine A7 (N:=2) Z (s8 (fuel:=4) [⟨0,21,1,false,.row 76 2 []⟩] (AllVOK.cons (VOK.lit G Z Z Z Z Z) (AllVOK.nil)) (λhok=>?_))
 refine m6 [(2,[0]),(5,[])] a8 a8 (λe he=>hok e he) a8 (AllVS.cons ?_ (AllVS.cons ?_ AllVS.nil))
 ·refine c98 ?_
  clear hok
  refine b7 (rs:=[5]) a8 Z (AllB.cons ?_ AllB.nil)
  refine g9 [0] Z Z (p6 G 3 Z Z Z Z Z Z Z Z (b4 ⟨Z,?_⟩))
  exact c4Y
 refine VStep.mk0 [0] Z Z (λb1 _ hbn=>p6 G 3 Z Z Z Z Z Z Z Z (b4 Z)) a8 a8 a8 a8 (m6 [(2,[0])] a8 a8 (λe he=>hok e he) a8 (AllVS.cons ?_ AllVS.nil))
 refine c98 ?_
 clear hok
 exact c4Y
):p:=h
theorem d0s (h:p:=by
 refine zgn ?_
 refine b6 ?_
 refine zst ?_
 refine vm7 ?_
 refine zgn ?_
 refine ⟨(i+1),?_,?_,⟨⟨_,Z,by rfl⟩,Z,trivial⟩,trivial,Z,Z,Z⟩
 ·omega
 omega
):p:=h
theorem c3t (h:p:=by
 refine zgo ?_
 refine ⟨(i+1),?_,?_,⟨⟨_,Z,by rfl⟩,Z,trivial⟩,⟨⟨_,Z,by (first | (rw [a1Q hcn];done) | (rw [a1S hcn];done) | (rw [a1P hcn,List.map_set];rfl) | (rw [a1R hcn];exact congrArg (λz=>Row.nest _ _ z []) a58))⟩,Z,Z,⟨⟨_,Z,by (first | (rw [a1Q hcn];done) | (rw [a1S hcn];done) | (rw [a1P hcn,List.map_set];rfl) | (rw [a1R hcn];exact congrArg (λz=>Row.nest _ _ z []) a58))⟩,Z,Z,trivial⟩⟩,Z,Z,Z⟩
 ·omega
 omega
):p:=h
theorem a6E (h:p:=by
 refine zgo ?_
 refine d7 (s1 Z Z Z Z (b3 (i8 ?_) (b3 (i8 ?_) d9)))
 all_goals exact c3i
):p:=h
theorem d0t (h:p:=by
 refine d7 (s1 Z Z Z Z (b3 (i8 ?_) (b3 (i8 ?_) d9)))
 all_goals clear hK14 K14 hK13 K13 hK9 K9
 all_goals (first | (rw [(b1E (s:=s) h3).1];done) | (rw [(b1E (s:=s) h3).2];done) | (rw [(b1F (s:=s) (i:=i) J (by simp only [a1G,Bool.and_eq_false_iff,decide_eq_false_iff_not];omega)).1];done) | (rw [(b1F (s:=s) (i:=i) J (by simp only [a1G,Bool.and_eq_false_iff,decide_eq_false_iff_not];omega)).2];done) | (rw [(a27 (s:=s) (n:=-dV (r8 s) i) (by have e:i=(r8 s).size:=J;rw [a25 J,e]) (by assumption)).1];done) | (rw [(a27 (s:=s) (n:=-dV (r8 s) i) (by have e:i=(r8 s).size:=J;rw [a25 J,e]) (by assumption)).2];done) | (rw [(a27 (s:=s) (n:=dV (r8 s) i) (by have e:i=(r8 s).size:=J;rw [a26 J,e]) (by assumption)).1];done) | (rw [(a27 (s:=s) (n:=dV (r8 s) i) (by have e:i=(r8 s).size:=J;rw [a26 J,e]) (by assumption)).2];done) | (rw [(a29 (s:=s) (n:=-dV (r8 s) i) (i:=i) h3 J hinv.2 (by have e:i=(r8 s).size:=J;rw [a25 J,e]) (by assumption)).1];done) | (rw [(a29 (s:=s) (n:=-dV (r8 s) i) (i:=i) h3 J hinv.2 (by have e:i=(r8 s).size:=J;rw [a25 J,e]) (by assumption)).2];done) | (rw [(a29 (s:=s) (n:=dV (r8 s) i) (i:=i) h3 J hinv.2 (by have e:i=(r8 s).size:=J;rw [a26 J,e]) (by assumption)).1];done) | (rw [(a29 (s:=s) (n:=dV (r8 s) i) (i:=i) h3 J hinv.2 (by have e:i=(r8 s).size:=J;rw [a26 J,e]) (by assumption)).2];done))
):p:=h
theorem d0u (h:p:=by
 refine d7 (s1 Z Z Z Z (b3 (i8 ?_) (b3 (i8 ?_) d9)))
 all_goals (first | (rw [(b1E (s:=s) h3).1];done) | (rw [(b1E (s:=s) h3).2];done) | (rw [(b1F (s:=s) (i:=i) J (by simp only [a1G,Bool.and_eq_false_iff,decide_eq_false_iff_not];omega)).1];done) | (rw [(b1F (s:=s) (i:=i) J (by simp only [a1G,Bool.and_eq_false_iff,decide_eq_false_iff_not];omega)).2];done) | (rw [(a27 (s:=s) (n:=-dV (r8 s) i) (by have e:i=(r8 s).size:=J;rw [a25 J,e]) (by assumption)).1];done) | (rw [(a27 (s:=s) (n:=-dV (r8 s) i) (by have e:i=(r8 s).size:=J;rw [a25 J,e]) (by assumption)).2];done) | (rw [(a27 (s:=s) (n:=dV (r8 s) i) (by have e:i=(r8 s).size:=J;rw [a26 J,e]) (by assumption)).1];done) | (rw [(a27 (s:=s) (n:=dV (r8 s) i) (by have e:i=(r8 s).size:=J;rw [a26 J,e]) (by assumption)).2];done) | (rw [(a29 (s:=s) (n:=-dV (r8 s) i) (i:=i) h3 J hinv.2 (by have e:i=(r8 s).size:=J;rw [a25 J,e]) (by assumption)).1];done) | (rw [(a29 (s:=s) (n:=-dV (r8 s) i) (i:=i) h3 J hinv.2 (by have e:i=(r8 s).size:=J;rw [a25 J,e]) (by assumption)).2];done) | (rw [(a29 (s:=s) (n:=dV (r8 s) i) (i:=i) h3 J hinv.2 (by have e:i=(r8 s).size:=J;rw [a26 J,e]) (by assumption)).1];done) | (rw [(a29 (s:=s) (n:=dV (r8 s) i) (i:=i) h3 J hinv.2 (by have e:i=(r8 s).size:=J;rw [a26 J,e]) (by assumption)).2];done))
):p:=h
theorem T5 (h:p:=by
 exact ⟨Nat.zero_le _,λj hj=>by omega⟩
):p:=h
theorem c3u (h:p:=by
 refine zf1 ?_
 all_goals ((rw [b5O] at h1;simp only [C9];first | (have e:o8 x.c.size 1 160=true:=v6.mpr J;rw [e,h2.1,h3];generalize Z0 x.r=p;generalize decide ((x.r.size:Int)<=200)=q;cases p<;>cases q<;>rfl) | (rw [h3];simp;done) | (rcases h2 with h2 | h2<;>first | (rw [h2];simp;done) | (have e:o8 x.c.size 1 160=false:=b0t.mpr J;rw [e];simp;done)) | (have e:o8 x.c.size 1 160=false:=b0t.mpr J;rw [e];simp;done)))
):p:=h
theorem Z8 (h:p:=by
 exact ⟨⟨_,Z,by rfl⟩,Z,⟨⟨_,Z,by rfl⟩,Z,trivial⟩⟩
):p:=h
theorem d0v (h:p:=by
 refine zgo ?_
 refine i6 [0] [] (λ(i:Nat)=>[(3,.v (.int .i64 (a8A s i))),(4,.v (.int .i64 (i:Int)))]) (λ(i:Nat)=>[]) (λ(i:Nat)=>i<=s.size) (λ(i:Nat)=>s.size - i) 0 Z Z ?_ ?_ ?_ ?_
 ·exact Nat.zero_le _
 ·exact Z8
 ·exact trivial
 intro i hinv
 have hi:i<=s.size:=hinv
 have hsl:=a7d s i
 have hbb:=a7c s i
 have hbi:s9 s i=((s.data.toList.getD ((i:Int)).toNat 0).toNat:Int):=Z
 refine vm2 ?_
 refine a78 ?_
 refine zcd (λk0=>?_) (λk0=>?_)
 ·refine d0h ?_
  refine d0i ?_
  refine zgo ?_
  refine ⟨(i+1),?_,?_,⟨⟨_,Z,by rfl⟩,Z,⟨⟨_,Z,by rfl⟩,Z,trivial⟩⟩,trivial,Z,Z,Z⟩
  ·omega
  omega
 refine zf1 ?_
 all_goals (have e:i=s.size:=J;subst e;rfl)
):p:=h
theorem c8m (h:p:=by
 refine d7 (s1 Z Z Z Z (b3 (i8 ?_) (b3 (i8 ?_) d9)))
 all_goals clear hK6 K6
 all_goals (first | (rw [(a24 (s:=s) J).1];done) | (rw [(a24 (s:=s) J).2];done) | (rw [(a5y (s:=s) J (hc1.symm.trans h2)).1];done) | (rw [(a5y (s:=s) J (hc1.symm.trans h2)).2];done) | (rw [(a8D (s:=s) J h3).1];done) | (rw [(a8D (s:=s) J h3).2];done) | (rw [(b2e (s:=s) J (hc1.symm.trans h2) h4).1];done) | (rw [(b2e (s:=s) J (hc1.symm.trans h2) h4).2];done) | (rw [(a8E (s:=s) J (hc1.symm.trans h2) h3 h4).1];done) | (rw [(a8E (s:=s) J (hc1.symm.trans h2) h3 h4).2];done))
):p:=h
theorem Z9 (h:p:=by
 (show x1.1.toNat - (z.1+1) < x1.1.toNat - z.1;omega)
):p:=h
theorem c3v (h:p:=by
 refine d7 (s1 Z Z Z Z (b3 (A8 Z ?_) (b3 (i8 ?_) d9)))
 all_goals (simp only [a0W];(repeat (first | rw [if_pos J] | rw [if_neg J]));first | done | rfl)
):p:=h
theorem d0w (h:p:=by
 refine zgn ?_
 refine d7 (o9 Z (c7 Z ?_) Z (AftOK.gone (AftOK.stays Z ?_ Z AftOK.nil)))
 all_goals exact c4r
):p:=h
theorem c8n (h:p:=by
 first | exact ⟨by show ((z.1+1:Nat):Int)<=x1.1;omega,(a4O hz2 J J).1,hc9.mono n8⟩ | exact ⟨by show ((z.1+1:Nat):Int)<=x1.1;omega,b2N hz2,hc9.mono n8⟩ | exact ⟨by show ((z.1+1:Nat):Int)<=x1.1;omega,b2O hz2 j6,hc9.mono n8⟩ | exact ⟨by show ((z.1+1:Nat):Int)<=x1.1;omega,hz2,hc9.mono n8⟩
):p:=h
theorem c3w (h:p:=by
 refine a79 ?_
 all_goals exact c4s
):p:=h
theorem c8o (h:p:=by
 first | exact ⟨by show ((z.1+1:Nat):Int)<=x1.1;omega,c0s hz2 J J,hc2.mono n8⟩ | exact ⟨by show ((z.1+1:Nat):Int)<=x1.1;omega,b7C hz2,hc2.mono n8⟩ | exact ⟨by show ((z.1+1:Nat):Int)<=x1.1;omega,b7D hz2,hc2.mono n8⟩ | exact ⟨by show ((z.1+1:Nat):Int)<=x1.1;omega,hz2,hc2.mono n8⟩
):p:=h
theorem b8Z (h:p:=by
 refine zgo ?_
 refine d7 (p7 Z Z Z Z (b3 (C6 ?_) (b3 (C6 ?_) (b3 (C6 ?_) (b3 (a96 ?_) (b3 (i8 ?_) (b3 (i8 ?_) d9)))))))
 all_goals (first | rfl | (rw [hO];done) | (rw [hO];rfl))
):p:=h
theorem c3x (h:p:=by
 refine zf1 ?_
 all_goals exact c74
):p:=h
theorem d0x (h:p:=by
 refine d7 (s1 Z Z Z Z (b3 (A8 Z ?_) (b3 (i8 ?_) d9)))
 all_goals (first | (rw [hO.1];done) | (rw [hO.1];rfl) | (rw [hO.2];done) | (rw [hO.2];rfl))
):p:=h
theorem a1U (h:p:=by
 exact ⟨⟨_,Z,by rfl⟩,Z,Z,trivial⟩
):p:=h
theorem d0y (h:p:=by
 refine zgo ?_
 refine ⟨(i+1),?_,?_,⟨⟨_,Z,by (first | rfl | (rw [a1g J];done) | (rw [a39 J];done) | (rw [a1g J];rfl) | (rw [a39 J];rfl) | (rw [a1g J,List.map_append];rfl))⟩,Z,⟨⟨_,Z,by (first | rfl | (rw [a1g J];done) | (rw [a39 J];done) | (rw [a1g J];rfl) | (rw [a39 J];rfl) | (rw [a1g J,List.map_append];rfl))⟩,Z,⟨⟨_,Z,by (first | rfl | (rw [a1g J];done) | (rw [a39 J];done) | (rw [a1g J];rfl) | (rw [a39 J];rfl) | (rw [a1g J,List.map_append];rfl))⟩,Z,trivial⟩⟩⟩,⟨⟨_,Z,by (first | rfl | (rw [a1g J];done) | (rw [a39 J];done) | (rw [a1g J];rfl) | (rw [a39 J];rfl) | (rw [a1g J,List.map_append];rfl))⟩,Z,Z,trivial⟩,Z,Z,Z⟩
 ·omega
 omega
):p:=h
theorem c8p (h:p:=by
 refine zgo ?_
 refine d7 (s1 Z Z Z Z (b3 (c7 Z ?_) (b3 (i8 ?_) d9)))
 all_goals (first | rfl | (rw [b7q J];done) | (rw [b7q J];rfl) | (rw [c0y J];done) | (rw [c0y J];rfl) | (rw [c0F h0 J];done) | (rw [c0F h0 J];rfl))
):p:=h
theorem c8q (h:p:=by
 refine zgo ?_
 refine d7 (s1 Z Z Z Z (b3 (c7 Z ?_) (b3 (i8 ?_) d9)))
 all_goals (first | (rw [hG];done) | (rw [hG];rfl) | (rw [hG,b7g j6];done) | (rw [hG,b7g j6];rfl) | (rw [hG,b4Z j6];done) | (rw [hG,b4Z j6];rfl))
):p:=h
theorem c3y (h:p:=by
 refine zgo ?_
 refine ⟨(i+1),?_,?_,⟨⟨_,Z,by rfl⟩,Z,⟨⟨_,Z,by rfl⟩,Z,trivial⟩⟩,⟨⟨_,Z,by (first | (rw [c9n (by assumption),List.map_append];rfl) | (rw [c9o (by assumption)];done))⟩,Z,Z,trivial⟩,Z,Z,Z⟩
 ·omega
 omega
):p:=h
theorem d0z (h:p:=by
 refine zgo ?_
 refine ⟨(i+1),?_,?_,⟨⟨_,Z,by rfl⟩,Z,trivial⟩,trivial,Z,Z,Z⟩
 ·exact ⟨by omega,s4 hinv.2 (c2r J ⟨v6.mp j6,v6.mp j6,v6.mp j6⟩ J (λh=>by omega))⟩
 omega
):p:=h
theorem d0A (h:p:=by
 refine vm1 ?_
 refine vm3 ?_
 refine b35 ?_
 refine vm3 ?_
 refine c3o ?_
 refine vm3 ?_
 refine b5 Z Z (d1 G Z Z Z Z Z J n8) ?_
 refine r6 ?_
 first | refine l6 G Z Z Z Z Z (H1 J J) Z Z Z Z Z (Nat.le_of_ble_eq_true Z) Z ?_ | refine l6 G Z Z Z Z Z (by simp;exact ⟨by omega,Z⟩) Z Z Z Z Z (Nat.le_of_ble_eq_true Z) Z ?_
 refine zfo ?_
 all_goals (first | rfl | exact a4i | (simp only [List.nil_append];exact a4i))
):p:=h
theorem c1A (h:p:=by
 refine zf1 ?_
 all_goals exact c4t
):p:=h
theorem c8r (h:p:=by
 refine zf1 ?_
 all_goals exact c4u
):p:=h
theorem c1B (h:p:=by
 first | exact ⟨by show ((v.1+1:Nat):Int)<=x6.1;omega,hV,hc7.mono n8⟩ | exact ⟨by show ((v.1+1:Nat):Int)<=x6.1;omega,(c33 hV hst j6).1,hc7.mono n8⟩
):p:=h
theorem d0B (h:p:=by
 refine zgo ?_
 refine ⟨(v.1+1,x7.2,v.2.2),?_,?_,⟨⟨_,Z,by (first | rfl | exact congrArg (λv=>AV.v (.int .i64 v)) c1m)⟩,Z,trivial⟩,⟨⟨_,Z,by rfl⟩,Z,Z,⟨⟨_,Z,by rfl⟩,Z,Z,⟨⟨_,Z,by rfl⟩,Z,Z,⟨⟨_,Z,by rfl⟩,Z,Z,⟨⟨_,Z,by rfl⟩,Z,Z,⟨⟨_,Z,by rfl⟩,Z,Z,trivial⟩⟩⟩⟩⟩⟩,Z,Z,Z⟩
 ·exact c1B
 (show x6.1.toNat - (v.1+1) < x6.1.toNat - v.1;omega)
):p:=h
theorem d0C (h:p:=by
 refine zgo ?_
 refine d7 (s1 Z Z Z Z (b3 (c7 Z ?_) (b3 (i8 ?_) d9)))
 all_goals (first | rfl | (rw [b7g j6];done) | (rw [b7g j6];rfl) | (rw [b4Z j6];done) | (rw [b4Z j6];rfl))
):p:=h
theorem c8s (h:p:=by
 refine zf1 ?_
 all_goals (first | rfl | (simp only [okRts,h1,Bool.true_and,Bool.false_and];done) | (have e8:rs.length=8:=Int.ofNat_inj.mp h2;simp only [okRts,h1,e8,decide_true,Bool.true_and,a0M,Bool.not_not];done) | (simp only [okRts,h1,show ¬ rs.length=8 from (λh=>h2 (by rw [h];rfl)),decide_false,Bool.false_and,Bool.and_false];done))
):p:=h
theorem c3z (h:p:=by
 exact ⟨⟨_,Z,by rfl⟩,Z,Z,⟨⟨_,Z,by rfl⟩,Z,Z,⟨⟨_,Z,by rfl⟩,Z,Z,⟨⟨_,Z,by rfl⟩,Z,Z,⟨⟨_,Z,by rfl⟩,Z,Z,⟨⟨_,Z,by rfl⟩,Z,Z,trivial⟩⟩⟩⟩⟩⟩
):p:=h
theorem c3A (h:p:=by
 refine d7 (s1 Z Z Z Z (b3 (A8 Z ?_) (b3 (i8 ?_) (b3 (i8 ?_) d9))))
 all_goals clear hK7 K7
 all_goals (first | (rw [hO.1];rfl) | (rw [hO.2.1];rfl) | (rw [hO.2.1];done) | (rw [hO.2.2];rfl) | (rw [hO.2.2];done))
):p:=h
theorem d0D (h:p:=by
 refine vm3 ?_
 refine b6G ?_
 refine zcd (λk0=>?_) (λk0=>?_)
 ·have hM:=b9U k0
  refine zgo ?_
  refine d7 (p7 Z Z Z Z (b3 (C6 ?_) (b3 (C6 ?_) (b3 (C6 ?_) (b3 (a96 ?_) (b3 (i8 ?_) (b3 (i8 ?_) (b3 (i8 ?_) (b3 (i8 ?_) d9)))))))))
  all_goals (first | rfl | (rw [hM];done) | (rw [hM];rfl) | (simp_all;done))
 have hM:=k0
 refine zgo ?_
 refine d7 (p7 Z Z Z Z (b3 (c7 Z ?_) (b3 (c7 Z ?_) (b3 (c7 Z ?_) (b3 (B2 Z ?_) (b3 (i8 ?_) (b3 (i8 ?_) (b3 (i8 ?_) (b3 (i8 ?_) d9)))))))))
 all_goals (first | rfl | (rw [hM];done) | (rw [hM];rfl) | (simp_all;done))
):p:=h
theorem c1C (h:p:=by
 refine zf1 ?_
 all_goals ((have e0:((UInt8.toNat 64:Nat):Int)=64:=Z;cases e1:Z0 x.c<;>cases e2:Z0 x.r<;>cases e3:n7 x.c 64<;>simp_all [C9]<;>omega))
):p:=h
theorem d0E (h:p:=by
 refine zgo ?_
 refine ⟨(i+1),?_,?_,⟨⟨_,Z,by rfl⟩,Z,⟨⟨_,Z,by rfl⟩,Z,trivial⟩⟩,⟨⟨_,Z,by (first | (rw [b98 J,List.map_append];rfl) | (rw [b98 J];done) | (rw [b98 J];rfl) | (rw [c89 J];done))⟩,Z,Z,trivial⟩,Z,Z,Z⟩
 ·omega
 omega
):p:=h
theorem c3B (h:p:=by
 refine zgo ?_
 refine ⟨(i+1),?_,?_,⟨⟨_,Z,by rfl⟩,Z,trivial⟩,trivial,Z,Z,Z⟩
 ·exact ⟨by omega,s4 hinv.2 (by first | exact c7e j6 | exact c7f j6)⟩
 omega
):p:=h
theorem d0F (h:p:=by
 refine a68 (id:=0) Z ?_
 refine d7 (o9 Z (i8 ?_) Z (AftOK.stays Z ?_ Z AftOK.nil))
 all_goals (first | (rw [b9e J];done) | (exfalso;omega) | (simp only [nxC,nxS];done) | (simp only [nxC,nxS,b18 (show ¬ x.a < (x.c.length:Int) by omega)];done) | (rw [b19 J];exact congrArg (Value.int .i64) (P0 (Int.le_trans (by decide) S7.1) (Int.le_trans S7.2 (by decide)))) | (rw [b19 J];simp only [nxT,nxS,b18 (show ¬ x.a < (x.c.length:Int) by omega)];exact congrArg (Value.int .i64) (P0 (Int.le_trans (by decide) S7.1) (Int.le_trans S7.2 (by decide)))))
):p:=h
theorem c3C (h:p:=by
 exact ⟨⟨_,Z,by rfl⟩,Z,Z,⟨⟨_,Z,by rfl⟩,Z,Z,⟨⟨_,Z,by rfl⟩,Z,Z,⟨⟨_,Z,by rfl⟩,Z,Z,⟨⟨_,Z,by rfl⟩,Z,Z,trivial⟩⟩⟩⟩⟩
):p:=h
theorem d0G (h:p:=by
 refine vm3 ?_
 refine b5p ?_
 refine r6 ?_
 refine vm6 ?_
 refine zgo ?_
 refine ⟨(i+1),?_,?_,⟨⟨_,Z,by rfl⟩,Z,⟨⟨_,Z,by rfl⟩,Z,trivial⟩⟩,⟨⟨_,Z,by (first | (rw [c62 J J,List.map_append];rfl) | (rw [c63 J J,List.map_append];rfl))⟩,Z,Z,trivial⟩,Z,Z,Z⟩
 ·omega
 omega
):p:=h
theorem b5t (h:p:=by
 exact ⟨⟨_,Z,by rfl⟩,Z,Z,⟨⟨_,Z,by rfl⟩,Z,Z,trivial⟩⟩
):p:=h
theorem c8t (h:p:=by
 refine zf1 ?_
 all_goals exact c4v
):p:=h
theorem d0H (h:p:=by
 refine vm3 ?_
 refine d3 2 Z Z Z (ArgsOK.of Z) (b39 (a8K sl i) _ (by have:=@a7H sl i;have:=@a0U sl i;omega) (λx hx=>c2G hF J (u5.mpr J) hx)) Z Z ?_
 refine zgn ?_
 refine a3o ?_
 refine r4 (Gh.sub 1 0 np Z Z Z) (b4 ⟨(i+1),?_,?_,⟨⟨_,Z,by rfl⟩,Z,⟨⟨_,Z,by rfl⟩,Z,trivial⟩⟩,⟨⟨_,Z,by (first | (rw [c0b J];done) | (rw [c0c J];done))⟩,Z,Z,trivial⟩,Z,Z,Z⟩)
 ·omega
 omega
):p:=h
theorem d0I (h:p:=by
 refine vm3 ?_
 refine d3 4 Z Z Z (ArgsOK.of Z) (a2M (pnS q i) ⟨_,_⟩ J) Z Z ?_
 refine zgn ?_
 refine a3o ?_
 refine r4 (Gh.sub 3 1 np Z Z Z) (b4 ⟨(i+1),?_,?_,⟨⟨_,Z,by rfl⟩,Z,⟨⟨_,Z,by rfl⟩,Z,trivial⟩⟩,⟨⟨_,Z,by (first | (rw [b2u J,List.map_append];rfl) | (rw [b2u J];done) | (rw [b2u J];rfl) | (rw [c3X J];done))⟩,Z,Z,trivial⟩,Z,Z,Z⟩)
 ·omega
 omega
):p:=h
theorem d0J (h:p:=by
 refine b7 (rs:=[11]) Y Z (AllB.cons ?_ AllB.nil)
 refine e9 [1,2,3] Z Z (f6 G Z Z Z Z Z Z Z Z Z Z Z (b4 ⟨Z,?_⟩))
 refine c8 12 Z Y Y Z Z Z Z (b9 Z Z) (z7 Y (hK14 _ ?_))
 clear hK14 K14
 refine d7 (s1 Z Z Z Z (b3 (A8 Z ?_) (b3 (i8 ?_) d9)))
 all_goals (first | (rw [hB.1];rfl) | (rw [hB.2];rfl) | (rw [hB.2];done) | (rw [b2b hB,h4];rfl) | (rw [b2b hB,h4];simp;done))
):p:=h
theorem d0K (h:p:=by
 refine d7 (A3 (((⟨#[114,97,105,115,101,32]⟩:ByteArray)++u7 x1.1,x3.2)) (o9 Z (i8 ?_) Z (AftOK.stays Z ?_ Z (AftOK.stays Z ?_ Z (AftOK.stays Z ?_ Z (AftOK.stays Z ?_ Z (AftOK.stays Z ?_ Z AftOK.nil)))))) (⟨?_,?_⟩))
 all_goals clear hK4 K4
 all_goals (first | rfl | trivial | exact hc3.mono J | (show ByteArray.size _<=60;(try simp only [ByteArray.size_append,n6,List.size_toArray,List.length_cons,List.length_nil]);omega))
):p:=h
theorem a6F (h:p:=by
 exact ⟨⟨_,Z,by rfl⟩,Z,trivial⟩
):p:=h
theorem d0L (h:p:=by
 refine d7 (A3 (((⟨#[116,97,107,101,32]⟩:ByteArray)++u7 x2.1,x3.2)) (o9 Z (i8 ?_) Z (AftOK.stays Z ?_ Z (AftOK.stays Z ?_ Z (AftOK.stays Z ?_ Z (AftOK.stays Z ?_ Z (AftOK.stays Z ?_ Z AftOK.nil)))))) (⟨?_,?_⟩))
 all_goals clear hK4 K4
 all_goals (first | rfl | trivial | exact hc3.mono J | (show ByteArray.size _<=60;(try simp only [ByteArray.size_append,n6,List.size_toArray,List.length_cons,List.length_nil]);omega))
):p:=h
theorem d0M (h:p:=by
 refine d7 (A3 (((⟨#[115,121,110,99]⟩:ByteArray),x3.2)) (o9 Z (i8 ?_) Z (AftOK.stays Z ?_ Z (AftOK.stays Z ?_ Z (AftOK.stays Z ?_ Z (AftOK.stays Z ?_ Z (AftOK.stays Z ?_ Z AftOK.nil)))))) (⟨?_,?_⟩))
 all_goals clear hK4 K4
 all_goals (first | rfl | trivial | exact hc3.mono J | (show ByteArray.size _<=60;(try simp only [ByteArray.size_append,n6,List.size_toArray,List.length_cons,List.length_nil]);omega))
):p:=h
theorem d0N (h:p:=by
 refine vm3 ?_
 refine N1 2 [0] Z Z Z (a0a x l.length J hc) Z (RowsIn.cons Z RowsIn.nil) Z Z Z ?_
 refine r6 ?_
 refine b8O ?_
 refine r6 ?_
 refine b5 Z Z (j9 G Z Z Z Z Z (H1 J J) Z) ?_
 refine zgo ?_
 refine d7 (o9 Z (i8 ?_) Z (AftOK.stays Z ?_ Z (AftOK.stays Z ?_ Z AftOK.nil)))
 all_goals (first | rfl | (simp;done))
):p:=h
theorem c3D (h:p:=by
 refine a79 ?_
 all_goals (first | (rw [c6H J];done) | (rw [b9V J,htn];done) | (rw [b9V J,← htn];done))
):p:=h
theorem d0O (h:p:=by
 refine b7 (rs:=[5]) a8 Z (AllB.cons ?_ AllB.nil)
 refine b37 ?_
 refine b7 (rs:=[6]) a8 Z (AllB.cons ?_ AllB.nil)
 refine b37 ?_
 refine H8 ?_
 refine d7 (p7 Z Z Z Z (b3 (c7 Z ?_) (b3 (c7 Z ?_) (b3 (c7 Z ?_) (b3 (B2 Z ?_) (b3 (i8 ?_) (b3 (i8 ?_) (b3 (i8 ?_) d9))))))))
 all_goals (rfl)
):p:=h
theorem c3E (h:p:=by
 refine zf1 ?_
 all_goals (first | rfl | (simp only [b1I,h1,Bool.true_and,Bool.false_and];done) | (simp only [b1I, *,Bool.true_and,Bool.false_and];done))
):p:=h
theorem c4Z (h:p:=by
 refine d7 (p7 Z Z Z Z (b3 (i8 ?_) (b3 (c7 Z ?_) (b3 (c7 Z ?_) (b3 (c7 Z ?_) d9)))))
 all_goals (rfl)
):p:=h
theorem d0P (h:p:=by
 refine b37 ?_
 refine H8 ?_
 exact c4Z
):p:=h
theorem d0Q (h:p:=by
 try rw [h1]
 try simp only [rfb] at h1
 refine c1 (λK5 hK5=>?_)
 refine b6 ?_
 refine r6 ?_
 refine b5 Z Z (u3 G Z Z Z Z) ?_
 refine c3p ?_
 refine c3q ?_
 refine hK5 _ ?_
 clear hK5 K5
 refine d7 (p7 Z Z Z Z (b3 (C6 ?_) (b3 (C6 ?_) (b3 (i8 ?_) d9))))
 all_goals clear hK3 K3
 all_goals (first | rfl | (exfalso;simp_all;done))
):p:=h
theorem c8u (h:p:=by
 refine d7 (p7 Z Z Z Z (b3 (c7 Z ?_) (b3 (c7 Z ?_) d9)))
 all_goals exact c77
):p:=h
theorem d0R (h:p:=by
 first | exact ⟨by show ((z.1+1:Nat):Int)<=x1.1;omega,hz2,hc4.mono n8⟩ | exact ⟨by show ((z.1+1:Nat):Int)<=x1.1;omega,(a7U j6).trans hz2,hc4.mono n8⟩ | exact ⟨by show ((z.1+1:Nat):Int)<=x1.1;omega,a7W.trans hz2,hc4.mono n8⟩ | exact ⟨by show ((z.1+1:Nat):Int)<=x1.1;omega,(a7V j6).trans hz2,hc4.mono n8⟩
):p:=h
theorem d0S (h:p:=by
 first | exact ⟨by show ((z.1+1:Nat):Int)<=x1.1;omega,hz2,hc6.mono n8⟩ | exact ⟨by show ((z.1+1:Nat):Int)<=x1.1;omega,(a7U j6).trans hz2,hc6.mono n8⟩ | exact ⟨by show ((z.1+1:Nat):Int)<=x1.1;omega,a7W.trans hz2,hc6.mono n8⟩ | exact ⟨by show ((z.1+1:Nat):Int)<=x1.1;omega,(a7V j6).trans hz2,hc6.mono n8⟩
):p:=h
theorem d0T (h:p:=by
 first | exact ⟨by show ((z.1+1:Nat):Int)<=x1.1;omega,hz2,hc2.mono n8⟩ | exact ⟨by show ((z.1+1:Nat):Int)<=x1.1;omega,(a7U j6).trans hz2,hc2.mono n8⟩ | exact ⟨by show ((z.1+1:Nat):Int)<=x1.1;omega,a7W.trans hz2,hc2.mono n8⟩ | exact ⟨by show ((z.1+1:Nat):Int)<=x1.1;omega,(a7V j6).trans hz2,hc2.mono n8⟩
):p:=h
theorem d0U (h:p:=by
 first | exact ⟨by show ((z.1+1:Nat):Int)<=x1.1;omega,hz2,hc8.mono n8⟩ | exact ⟨by show ((z.1+1:Nat):Int)<=x1.1;omega,(a7U j6).trans hz2,hc8.mono n8⟩ | exact ⟨by show ((z.1+1:Nat):Int)<=x1.1;omega,a7W.trans hz2,hc8.mono n8⟩ | exact ⟨by show ((z.1+1:Nat):Int)<=x1.1;omega,(a7V j6).trans hz2,hc8.mono n8⟩
):p:=h
theorem d0V (h:p:=by
 first | exact ⟨by show ((z.1+1:Nat):Int)<=x1.1;omega,(a4O hz2 J J).1,hc10.mono n8⟩ | exact ⟨by show ((z.1+1:Nat):Int)<=x1.1;omega,b2N hz2,hc10.mono n8⟩ | exact ⟨by show ((z.1+1:Nat):Int)<=x1.1;omega,b2O hz2 j6,hc10.mono n8⟩ | exact ⟨by show ((z.1+1:Nat):Int)<=x1.1;omega,hz2,hc10.mono n8⟩
):p:=h
theorem d0W (h:p:=by
 first | exact ⟨by show ((z.1+1:Nat):Int)<=x1.1;omega,(a4O hz2 J J).1,hc2.mono n8⟩ | exact ⟨by show ((z.1+1:Nat):Int)<=x1.1;omega,b2N hz2,hc2.mono n8⟩ | exact ⟨by show ((z.1+1:Nat):Int)<=x1.1;omega,b2O hz2 j6,hc2.mono n8⟩ | exact ⟨by show ((z.1+1:Nat):Int)<=x1.1;omega,hz2,hc2.mono n8⟩
):p:=h
theorem P9 (h:p:=by
 exact Nat.zero_le _
):p:=h
theorem d0X (h:p:=by
 exact ⟨by omega,s4 hinv.2 (T2.mpr ⟨v6.mp j6,v6.mp j6,by omega,(λj hj=>by have:=a2h.mp (a99.mp (show O4 (λj=>decide ((wa.getD j default).q=(wa.getD i default).q)) i < 0 by omega)) j hj;exact of_decide_eq_false this),c4T⟩)⟩
):p:=h
theorem c8v (h:p:=by
 refine zgo ?_
 refine d7 (s1 Z Z Z Z (b3 (c7 Z ?_) (b3 (i8 ?_) d9)))
 all_goals (first | (rw [hG];done) | (rw [hG];rfl))
):p:=h
theorem b5u (h:p:=by
 exact ⟨⟨_,Z,by (first | rfl | simp)⟩,Z,⟨⟨_,Z,by (first | rfl | simp)⟩,Z,trivial⟩⟩
):p:=h
theorem c1D (h:p:=by
 refine zf1 ?_
 all_goals (simp only [a6v];first | (rw [if_pos J];done) | (rw [if_neg J,if_pos J];done) | (rw [if_neg J,if_neg J];done))
):p:=h
theorem c40 (h:p:=by
 refine zgo ?_
 refine ⟨(i+1),?_,?_,⟨⟨_,Z,by rfl⟩,Z,trivial⟩,trivial,Z,Z,Z⟩
 ·exact ⟨by omega,s4 hinv.2 c1l⟩
 omega
):p:=h
theorem c1E (h:p:=by
 refine zf1 ?_
 all_goals ((first | rfl | (simp_all;done) | (simp_all;omega)))
):p:=h
theorem c41 (h:p:=by
 refine zgo ?_
 refine d7 (o9 Z (i8 ?_) Z (AftOK.stays Z ?_ Z AftOK.nil))
 all_goals (first | (rw [hO.1];done) | (rw [hO.2];done) | (rw [hO.1];rfl) | (rw [hO.2];rfl))
):p:=h
theorem c1F (h:p:=by
 refine zgo ?_
 refine d7 (s1 Z Z Z Z (b3 (c7 Z ?_) (b3 (i8 ?_) d9)))
 all_goals (first | (rw [hO.1];rfl) | (rw [hO.1];done) | (rw [hO.2];done) | (rw [hO.2];rfl))
):p:=h
theorem c1G (h:p:=by
 refine zgo ?_
 refine ⟨(i+1),?_,?_,⟨⟨_,Z,by rfl⟩,Z,trivial⟩,trivial,Z,Z,Z⟩
 ·exact ⟨by omega,s4 hinv.2 (by simp_all [fdP,emP])⟩
 omega
):p:=h
theorem b1h (h:p:=by
 refine zf1 ?_
 all_goals exact c3i
):p:=h
theorem c42 (h:p:=by
 refine zgo ?_
 refine ⟨(i+1),?_,?_,⟨⟨_,Z,by rfl⟩,Z,⟨⟨_,Z,by rfl⟩,Z,trivial⟩⟩,⟨⟨_,Z,by (first | (rw [c9c J];done) | (rw [c9d J,List.map_append];rfl))⟩,Z,Z,trivial⟩,Z,Z,Z⟩
 ·exact ⟨by omega,s4 hinv.2 J⟩
 omega
):p:=h
theorem b1i (h:p:=by
 exact ⟨⟨_,Z,by (first | rfl | simp)⟩,Z,trivial⟩
):p:=h
theorem c43 (h:p:=by
 refine c3p ?_
 refine c3q ?_
 refine hK6 _ ?_
 clear hK6 K6
 refine d7 (p7 Z Z Z Z (b3 (c7 Z ?_) (b3 (c7 Z ?_) (b3 (i8 ?_) d9))))
 all_goals (first | rfl | (exfalso;simp_all;done))
):p:=h
theorem b7W (h:p:=by
 refine zf1 ?_
 all_goals (first | rfl | (rw [c66 j6];done) | (rw [c67 j6];done))
):p:=h
theorem c44 (h:p:=by
 refine zgn ?_
 refine t8 (O6 (Gh.nestX (id:=6) m.cp Z (by simp only [List.length_set,List.length_map])) ?_)
 refine zgo ?_
 refine d7 (p7 Z Z Z Z (b3 (c7 Z ?_) (b3 (c7 Z ?_) (b3 (c7 Z ?_) (b3 (B2 Z ?_) (b3 (i8 ?_) (b3 (i8 ?_) d9)))))))
 all_goals (rfl)
):p:=h
theorem c1H (h:p:=by
 refine d7 (X7 Z Z Z Z (b3 (c7 Z ?_) (b3 (i8 ?_) d9)) Z (AftOK.gone AftOK.nil))
 all_goals (first | (rw [hG];done) | (rw [hG];rfl))
):p:=h
theorem c45 (h:p:=by
 refine zgo ?_
 refine ⟨(i+1),?_,?_,⟨⟨_,Z,by rfl⟩,Z,⟨⟨_,Z,by rfl⟩,Z,trivial⟩⟩,⟨⟨_,Z,by (first | (rw [c0a j6,List.map_append];rfl) | (rw [c6O j6];done))⟩,Z,Z,trivial⟩,Z,Z,Z⟩
 ·omega
 omega
):p:=h
theorem c47 (h:p:=by
 refine d7 (w5 Z Z Z Z (b3 (i8 ?_) (b3 (c7 Z ?_) (b3 (c7 Z ?_) (b3 (c7 Z ?_) (b3 (i8 ?_) d9))))) Z (AftOK.gone (AftOK.gone (AftOK.gone AftOK.nil))))
 all_goals (first | (rw [hG0];done) | (rw [hG0];rfl) | (rw [hG0,hls];done) | (rw [hG0,hls];rfl))
):p:=h
theorem c48 (h:p:=by
 refine zgo ?_
 refine d7 (s1 Z Z Z Z (b3 (C6 ?_) (b3 (i8 ?_) (b3 (i8 ?_) d9))))
 all_goals exact c4w
):p:=h
theorem c49 (h:p:=by
 refine zgo ?_
 refine ⟨(i+1),?_,?_,⟨⟨_,Z,by rfl⟩,Z,⟨⟨_,Z,by rfl⟩,Z,trivial⟩⟩,⟨⟨_,Z,by (rw [b2M,List.map_append];rfl)⟩,Z,Z,trivial⟩,Z,Z,Z⟩
 ·exact ⟨by omega,s4 hinv.2 (by assumption)⟩
 omega
):p:=h
theorem b7X (h:p:=by
 refine d7 (s1 Z Z Z Z (b3 (c7 Z ?_) (b3 (i8 ?_) d9)))
 all_goals ((rw [hN]))
):p:=h
theorem c5a (h:p:=by
 refine zgo ?_
 refine ⟨(i+1),?_,?_,⟨⟨_,Z,by rfl⟩,Z,trivial⟩,trivial,Z,Z,Z⟩
 ·exact ⟨by omega,s4 hi.2 (a5J.mpr ⟨by omega,by first | exact .inl J | exact .inr ⟨by assumption,by assumption⟩⟩)⟩
 omega
):p:=h
theorem c5b (h:p:=by
 exact ⟨by omega,s4 hinv.2 (T2.mpr ⟨v6.mp j6,v6.mp j6,by omega,λj hj=>hk.2 j J,c4T⟩)⟩
):p:=h
theorem c5c (h:p:=by
 exact ⟨by omega,s4 hinv.2 (by first | exact c3U j6 (b0V.mpr (ec3.mp j6)) | exact c3V j6 (a4M.mpr ⟨v6.mp j6,v6.mp j6,v6.mp j6⟩) (a99.mp J))⟩
):p:=h
theorem c5d (h:p:=by
 refine zgo ?_
 refine ⟨(i+1),?_,?_,⟨⟨_,Z,by rfl⟩,Z,⟨⟨_,Z,by rfl⟩,Z,trivial⟩⟩,⟨⟨_,Z,by (exact congrArg (λz=>Row.row _ _ z) (b99 J))⟩,Z,Z,trivial⟩,Z,Z,Z⟩
 ·omega
 omega
):p:=h
theorem c5e (h:p:=by
 refine b1L ?_
 refine vm3 ?_
 refine c3o ?_
 refine zfo ?_
 all_goals (first | rfl | simp)
):p:=h
theorem b7Y (h:p:=by
 refine zf1 ?_
 all_goals (first | rfl | (simp_all [o8];done) | (simp_all [o8];omega))
):p:=h
theorem c5f (h:p:=by
 refine zf1 ?_
 all_goals exact c4x
):p:=h
theorem c5g (h:p:=by
 refine d7 (s1 Z Z Z Z (b3 (A8 Z ?_) (b3 (i8 ?_) d9)))
 all_goals clear hK4 K4
 all_goals (first | (rw [hB.1];rfl) | (rw [hB.2];rfl) | (rw [hB.2];done) | (rw [b2b hB,h4];rfl) | (rw [b2b hB,h4];simp;done))
):p:=h
theorem c5h (h:p:=by
 refine zgo ?_
 refine ⟨(i+1),?_,?_,⟨⟨_,Z,by rfl⟩,Z,trivial⟩,trivial,Z,Z,Z⟩
 ·exact ⟨by omega,s4 hinv.2 (by first | assumption | exact a2g.mp j6)⟩
 omega
):p:=h
theorem c5i (h:p:=by
 exact ⟨by omega,hinv.2.succ hm (λk hk e=>(b3I.mp h5) ((a7K J).mpr ⟨k,hk,e⟩)) (by first | exact c0i b7R | (obtain rfl:i=0:=J;exact c0h))⟩
):p:=h
theorem c5j (h:p:=by
 refine d7 (s1 Z Z Z Z (b3 (A8 Z ?_) (b3 (i8 ?_) (b3 (i8 ?_) d9))))
 all_goals (first | (rw [hO.1];rfl) | (rw [hO.2.1];done) | (rw [hO.2.1];rfl) | (rw [hO.2.2];done) | (rw [hO.2.2];rfl))
):p:=h
theorem b7Z (h:p:=by
 refine d7 (P3 Z (i8 ?_))
 all_goals (first | rfl | (simp_all;done))
):p:=h
theorem c5k (h:p:=by
 refine d7 (s1 Z Z Z Z (b3 (i8 ?_) (b3 (i8 ?_) d9)))
 all_goals clear hK2 K2
 all_goals (first | (rw [hO.1];done) | (rw [hO.1];rfl) | (rw [hO.2];done) | (rw [hO.2];rfl))
):p:=h
theorem c5l (h:p:=by
 exact ⟨by show ((z.1+1:Nat):Int)<=x1.1;omega,by dsimp only;with_reducible first | exact c9I (b8K (by decide) hz2) | exact b8K (by decide) hz2,hc3.mono (by simp;omega)⟩
):p:=h
theorem c5m (h:p:=by
 exact ⟨by show ((z.1+1:Nat):Int)<=x1.1;omega,by dsimp only;with_reducible first | exact c9I (b8K (by decide) hz2) | exact b8K (by decide) hz2,hc5.mono (by simp;omega)⟩
):p:=h
theorem a9r (h:p:=by
 refine zf1 ?_
 all_goals (rfl)
):p:=h
theorem c5n (h:p:=by
 refine ⟨(k+1),?_,?_,⟨⟨_,Z,by rfl⟩,Z,trivial⟩,trivial,Z,Z,Z⟩
 ·exact ⟨by omega,s4 hk.2 (c6W j6 j6)⟩
 omega
):p:=h
theorem b70 (h:p:=by
 refine zf1 ?_
 all_goals ((rw [hO];try rw [← hrl];try rfl))
):p:=h
theorem c5o (h:p:=by
 refine zgo ?_
 refine ⟨(k+1),?_,?_,⟨⟨_,Z,by rfl⟩,Z,trivial⟩,trivial,Z,Z,Z⟩
 ·exact ⟨by omega,b5U hk.2 j6⟩
 omega
):p:=h
theorem c5p (h:p:=by
 refine zgo ?_
 refine d7 (s1 Z Z Z Z (b3 (A8 Z ?_) (b3 (i8 ?_) d9)))
 all_goals (first | (rw [hO.1];rfl) | (rw [hO.2];done) | (rw [hO.2];rfl))
):p:=h
theorem b5v (h:p:=by
 refine d7 (P3 Z (i8 ?_))
 all_goals (rfl)
):p:=h
theorem c5q (h:p:=by
 exact ⟨⟨_,Z,by (first | rfl | (simp;done) | (simp;omega))⟩,Z,⟨⟨_,Z,by (first | rfl | (simp;done) | (simp;omega))⟩,Z,trivial⟩⟩
):p:=h
theorem b71 (h:p:=by
 (show x3.1.toNat - (z.1+1) < x3.1.toNat - z.1;omega)
):p:=h
theorem c5r (h:p:=by
 refine zcd (λk0=>?_) (λk0=>?_)
 ·refine zf1 ?_
  all_goals (simp_all;omega)
 refine zf1 ?_
 all_goals (simp_all;omega)
):p:=h
theorem b72 (h:p:=by
 first | (exfalso;omega) | (exfalso;simp_all;done)
):p:=h
theorem c5s (h:p:=by
 exact ⟨⟨_,Z,by rfl⟩,Z,Z,⟨⟨_,Z,by rfl⟩,Z,Z,⟨⟨_,Z,by rfl⟩,Z,Z,trivial⟩⟩⟩
):p:=h
theorem c5t (h:p:=by
 refine zf1 ?_
 all_goals (first | (rw [b7r J];done) | (rw [b0e J];done) | (rw [b0e J];rfl))
):p:=h
theorem c1I (h:p:=by
 refine zf1 ?_
 all_goals (first | rfl | (simp_all [lessW];done))
):p:=h
theorem c5u (h:p:=by
 exact ⟨⟨_,Z,by rfl⟩,Z,⟨⟨_,Z,by rfl⟩,Z,⟨⟨_,Z,by rfl⟩,Z,trivial⟩⟩⟩
):p:=h
theorem c5v (h:p:=by
 refine zgo ?_
 refine d7 (s1 Z Z Z Z (b3 (b3f ?_) (b3 (i8 ?_) d9)))
 all_goals (rfl)
):p:=h
theorem c5w (h:p:=by
 have hE:=c60 (l:=l) J
 refine zf1 ?_
 all_goals (first | (rw [hE];rfl) | (rw [hJ];done))
):p:=h
theorem c5x (h:p:=by
 first | (exfalso;omega) | exact absurd j6 (hne _ (j5.mpr ⟨k,by omega,Z⟩))
):p:=h
theorem c1J (h:p:=by
 (show x2.1.toNat - (z.1+1) < x2.1.toNat - z.1;omega)
):p:=h
theorem c5y (h:p:=by
 all_goals (first | rfl | (exact (hbn h1).symm) | (rw [hbn h1];done) | (simp_all;done) | simp)
):p:=h
theorem c5z (h:p:=by
 refine zf1 ?_
 all_goals (first | rfl | (simp_all [fdP];done) | (simp_all [fdP];rfl))
):p:=h
theorem c5A (h:p:=by
 refine zf1 ?_
 all_goals (first | rfl | (simp_all [T3];done) | (simp_all [T3];rfl))
):p:=h
theorem b1j (h:p:=by
 try rw [b3S J] at hO
 exact ws1
):p:=h
theorem c1K (h:p:=by
 obtain ⟨m1,ir,ok⟩:=sr
 dsimp only at cS hE hir hsm hiq
 refine zgo ?_
 refine a7 Z (a2n (n:=31) G Z Z Z Tryz.func85 Z Y Z Z Z Z ?_)
 intro b hen hpin
 refine zgo ?_
 refine a7 Z (B4 14 Z Z Z Z Z Z Z (a7 Z (B4 15 Z Z Z Z Z Z Z (a7 Z (d6 G 16 Z Z Z Z Z ?_)))))
 refine zgo ?_
 refine a7 Z (d3 20 Z Z Z (ArgsOK.of Z) cS Z Z ?_)
 refine zgo ?_
 refine a7 Z (d6 G 21 Z Z Z Z Z ?_)
 refine zcd (λk0=>?_) (λk0=>?_)
 ·refine zgo ?_
  refine d7 ⟨.inr Z,_,Z,Z,?_⟩
  have hE2:F6 m s=(m,qmB):=hE.trans (if_neg (by simp [k0]))
  have hO:=P5 h1 h2 h3 hE2
  refine zgo ?_
  refine d7 ⟨.inr Z,_,Z,Z,?_⟩
  refine b4 ⟨Z,?_⟩
  refine zsa 8 ?_
  refine zsa 9 ?_
  refine b7 (rs:=[10]) Y Z (AllB.cons ?_ AllB.nil)
  refine g9 [0,1,2,3,4,5,6,7,9,10] Z Z ?_
  refine zgo ?_
  refine ⟨Z,?_⟩
  refine zsa 11 ?_
  refine z7 Y ?_
  refine znk ?_
  refine d7 ⟨.inr Z,_,Z,Z,?_⟩
  refine zgo ?_
  refine a7 Z (d6 G 22 Z Z Z Z Z ?_)
  refine zgo ?_
  refine a7 Z (d3 26 Z Z Z (ArgsOK.of Z) (w8 _ x (by first | assumption | exact hsm (by assumption)) hx) Z Z ?_)
  refine zgo ?_
  refine a7 Z (b5 Z Z (p9 G Z Z Z) ?_)
  refine zcd (λk1=>?_) (λk1=>?_)
  ·exact b1j
  try rw [a2K J] at hO
  have hrs:=k1
  exact ws1
 refine zgo ?_
 refine a7 Z (d6 G 22 Z Z Z Z Z ?_)
 refine zwf ?_
 refine zgo ?_
 refine d7 ⟨.inr Z,_,Z,Z,?_⟩
 have hE2:F6 m s=(m1,if ir=-1 then okB else u7 ir):=hE.trans (if_pos k0)
 first | rw [if_neg ((hiq k0).mpr J)] at hE2 | rw [if_pos (Decidable.byContradiction λg=>absurd ((hiq k0).mp g) J)] at hE2
 have hO:=P5 h1 h2 h3 hE2
 refine zgo ?_
 refine d7 ⟨.inr Z,_,Z,Z,?_⟩
 refine b4 ⟨Z,?_⟩
 refine zsa 8 ?_
 refine zsa 9 ?_
 refine b7 (rs:=[10]) Y Z (AllB.cons ?_ AllB.nil)
 refine g9 [0,1,2,3,4,5,6,7,9,10] Z Z ?_
 refine zgo ?_
 refine ⟨Z,?_⟩
 refine zsa 11 ?_
 refine z7 Y ?_
 refine znk ?_
 refine d7 ⟨.inr Z,_,Z,Z,?_⟩
 refine zgo ?_
 refine a7 Z (d6 G 23 Z Z Z Z Z ?_)
 refine zgo ?_
 refine a7 Z (d3 27 Z Z Z (ArgsOK.of Z) (w8 _ x (by first | assumption | exact hsm (by assumption)) hx) Z Z ?_)
 refine zgo ?_
 refine a7 Z (b5 Z Z (p9 G Z Z Z) ?_)
 refine zcd (λk2=>?_) (λk2=>?_)
 ·exact b1j
 try rw [a2K J] at hO
 have hrs:=k2
 refine zgo ?_
 refine a7 Z (b5 Z Z (i7 Z (ArgsOK.of Z) (t7 x ⟨s,_⟩ hx ⟨by show s.size<=_;omega,by first | exact R7 (by decide) | exact O7 J | exact O7 (Int.ofNat_le.1 hrs)⟩) Z) ?_)
 refine zgo ?_
 refine d7 (p7 Z Z Z Z (b3 (c7 Z ?_) (b3 (c7 Z ?_) (b3 (c7 Z ?_) (b3 (B2 Z ?_) (b3 (i8 ?_) (b3 (i8 ?_) (b3 (i8 ?_) (b3 (i8 ?_) d9)))))))))
 all_goals (first | (rw [hO];done) | (rw [hO];rfl))
):p:=h
theorem c1L (h:p:=by
 refine zgo ?_
 refine a7 Z (b5 Z Z (i7 Z (ArgsOK.of Z) (a1h x ⟨s,_⟩ hx ⟨by show s.size<=_;omega,by first | exact R7 (by decide) | exact O7 J | exact O7 (Int.ofNat_le.1 hrs)⟩) Z) ?_)
 exact b2T
):p:=h
theorem b2U (h:p:=by
 refine zgo ?_
 refine a7 Z (b5 Z Z (p9 G Z Z Z) ?_)
 refine zcd (λk0=>?_) (λk0=>?_)
 ·try rw [b3S J] at hO
  exact c1L
 try rw [a2K J] at hO
 have hrs:=k0
 exact c1L
):p:=h
theorem c5B (h:p:=by
 refine b7 (rs:=[6]) Y Z (AllB.cons ?_ AllB.nil)
 refine e9 [1,2,3,4,5,8,9] Z Z (I1 (Gh.forget (id:=7) (k:=4) Z Z)<|I1 (Gh.keep [1,2,3,4,5,6,7,8,9,11] Z)<|a06 (tx:=35) 13 rfl rfl rfl rfl rfl<|E4 G (by exact Nat.le_of_ble_eq_true Z) rfl rfl rfl rfl rfl rfl rfl rfl rfl rfl (by first | (simp only [List.length_map,List.length_cons,List.length_nil];omega) | (simp;omega)) rfl rfl (b4 ⟨Z,?_⟩))
 refine c8 7 Z Y Y Z Z Z Z (d5 G Z Z Z Z) ?_
 refine b7 (rs:=[8]) Y Z (AllB.cons ?_ AllB.nil)
 refine e9 [1,2,3,4,5,8,9] Z Z (f6 G Z Z Z Z Z Z Z Z Z Z Z (b4 ⟨Z,?_⟩))
 exact a44
):p:=h
theorem c5C (h:p:=by
 first | refine e9 [] Z Z (b5 Z Z (d1 G Z Z Z Z Z J a9q) (b4 ⟨Z,?_⟩)) | refine e9 [] Z Z (b5 Z Z (d1 G Z Z Z Z Z J a9p) (b4 ⟨Z,?_⟩)) | refine e9 [] Z Z (b5 Z Z (d1 G Z Z Z Z Z J a9o) (b4 ⟨Z,?_⟩))
 refine b7 (rs:=[9,13]) a8 Z (AllB.cons ?_ (AllB.cons ?_ AllB.nil))
 ·first | refine e9 [] Z Z (b5 Z Z (f8 G Z Z Z Z (a0T J) Z) (b4 ⟨Z,?_⟩)) | refine e9 [] Z Z (b5 Z Z (f8 G Z Z Z Z (a1p J J) Z) (b4 ⟨Z,?_⟩)) | refine e9 [] Z Z (b5 Z Z (f8 G Z Z Z Z (a2i J J) Z) (b4 ⟨Z,?_⟩))
  refine b7 (rs:=[13]) a8 Z (AllB.cons ?_ AllB.nil)
  exact ws2
 first | refine e9 [] Z Z (b5 Z Z (f8 G Z Z Z Z (a0T J) Z) (b4 ⟨Z,?_⟩)) | refine e9 [] Z Z (b5 Z Z (f8 G Z Z Z Z (a1p J J) Z) (b4 ⟨Z,?_⟩)) | refine e9 [] Z Z (b5 Z Z (f8 G Z Z Z Z (a2i J J) Z) (b4 ⟨Z,?_⟩))
 refine b7 (rs:=[9]) a8 Z (AllB.cons ?_ AllB.nil)
 exact ws2
):p:=h
theorem c5D (h:p:=by
 refine b7 (rs:=[5]) Y Z (AllB.cons ?_ AllB.nil)
 refine e9 [1,2,3,4,7] Z Z (I1 (Gh.forget (id:=6) (k:=3) Z Z)<|I1 (Gh.keep [1,2,3,4,5,6,7,11] Z)<|a06 (tx:=28) 13 rfl rfl rfl rfl rfl<|E4 G (by exact Nat.le_of_ble_eq_true Z) rfl rfl rfl rfl rfl rfl rfl rfl rfl rfl (by first | (simp only [List.length_map,List.length_cons,List.length_nil];omega) | (simp;omega)) rfl rfl (b4 ⟨Z,?_⟩))
 refine c8 6 Z Y Y Z Z Z Z (d5 G Z Z Z Z) ?_
 refine b7 (rs:=[7]) Y Z (AllB.cons ?_ AllB.nil)
 refine e9 [1,2,3,4,7] Z Z (f6 G Z Z Z Z Z Z Z Z Z Z Z (b4 ⟨Z,?_⟩))
 exact a44
):p:=h
theorem b5w (h:p:=by
 refine R9 ?_
 exact a44
):p:=h
theorem c5E (h:p:=by
 refine b7 (rs:=[10]) a8 Z (AllB.cons ?_ AllB.nil)
 refine e9 [0,1,2,3,4,10] Z Z (I1 (Gh.forget (id:=7) (k:=4) Z Z)<|I1 (Gh.keep [0,1,2,3,4,6,7,10,12] Z)<|a06 (tx:=58) 14 rfl rfl rfl rfl rfl<|E4 G Z6 rfl rfl rfl rfl rfl rfl rfl rfl rfl rfl N6 rfl rfl (b4 ⟨Z,?_⟩))
 refine zsa 11 ?_
 refine b7 (rs:=[12]) a8 Z (AllB.cons ?_ AllB.nil)
 refine g9 [0,1,2,3,4,10] Z Z ?_
 exact b5w
):p:=h
theorem c5F (h:p:=by
 refine b7 (rs:=[5]) a8 Z (AllB.cons ?_ AllB.nil)
 refine e9 [1,2,3,4,7] Z Z (I1 (Gh.forget (id:=6) (k:=3) Z Z)<|I1 (Gh.keep [1,2,3,4,5,6,7,11] Z)<|a06 (tx:=28) 13 rfl rfl rfl rfl rfl<|E4 G Z6 rfl rfl rfl rfl rfl rfl rfl rfl rfl rfl N6 rfl rfl (b4 ⟨Z,?_⟩))
 refine zsa 6 ?_
 refine b7 (rs:=[7]) a8 Z (AllB.cons ?_ AllB.nil)
 refine g9 [1,2,3,4,7] Z Z ?_
 exact b5w
):p:=h
theorem c5G (h:p:=by
 refine zgo ?_
 refine i6 [2,4,40,41] [0] (λ(i:Nat)=>[(8,.v (.int .i64 (P4 rs a c (b3m rs a c) i).2)),(9,.v (.int .i64 (P4 rs a c (b3m rs a c) i).1)),(42,.v (.int .i64 (i:Int)))]) (λ(i:Nat)=>[]) (λ(i:Nat)=>i<=rs.length) (λ(i:Nat)=>rs.length - i) 0 Z Z ?_ ?_ ?_ ?_
 ·exact P9
 ·exact ⟨⟨_,Z,by first | rfl | (simp only [P4];rw [b51 J];done) | (simp only [P4];rw [b50 J];done)⟩,Z,⟨⟨_,Z,by first | rfl | (simp only [P4];rw [b51 J];done) | (simp only [P4];rw [b50 J];done)⟩,Z,⟨⟨_,Z,by first | rfl | (simp only [P4];rw [b51 J];done) | (simp only [P4];rw [b50 J];done)⟩,Z,trivial⟩⟩⟩
 ·exact trivial
 intro i hinv
 refine vm2 ?_
 refine zcd (λk0=>?_) (λk0=>?_)
 ·refine b5q ?_
  refine zcd (λk1=>?_) (λk1=>?_)
  ·refine zcd (λk2=>?_) (λk2=>?_)
   ·refine zcd (λk3=>?_) (λk3=>?_)
    ·refine zgd ?_
     exact ws8
    exact ws8
   refine zwf ?_
   exact ws8
  refine zwf ?_
  exact ws8
 refine zf1 ?_
 all_goals exact c4y
):p:=h
theorem c5H (h:p:=by
 refine vm3 ?_
 refine d3 9 Z Z Z (ArgsOK.of Z) (a6G z.2.2 hz2.f) Z Z ?_
 refine zgn ?_
 refine a3o ?_
 refine r4 (Gh.sub 6 2 B6 Z Z Z) (r4 (Gh.sub 7 3 B6 Z Z Z) (r4 (Gh.sub 8 4 B6 Z Z Z) (b4 ⟨(z.1+1,x2.2,(tkX z.2.2).1),?_,?_,⟨⟨_,Z,by (first | rfl | exact congrArg (λv=>AV.v (.int .i64 v)) F4)⟩,Z,trivial⟩,⟨⟨_,Z,by rfl⟩,Z,Z,⟨⟨_,Z,by rfl⟩,Z,Z,⟨⟨_,Z,by rfl⟩,Z,Z,⟨⟨_,Z,by rfl⟩,Z,Z,⟨⟨_,Z,by rfl⟩,Z,Z,trivial⟩⟩⟩⟩⟩,Z,Z,Z⟩)))
 ·exact c8o
 exact Z9
):p:=h
theorem c5I (h:p:=by
 refine b7 (rs:=[8]) a8 Z (AllB.cons ?_ AllB.nil)
 refine g9 [1,2,5,6] Z Z (d3 8 Z Z Z (ArgsOK.of (by rw [c88];rfl)) (a2o (x.wa.drop 1) _ (by rw [List.length_drop];omega)) Z Z (b4 ⟨Z,?_⟩))
 refine zsa 9 ?_
 refine b7 (rs:=[10]) a8 Z (AllB.cons ?_ AllB.nil)
 refine g9 [1,2,5,6] Z Z ?_
 exact b5w
):p:=h
theorem c5J (h:p:=by
 refine c8 6 Z a8 a8 Z Z Z Z (B0 Z Z Z b7S) ?_
 refine zsa 7 ?_
 refine b7 (rs:=[8]) a8 Z (AllB.cons ?_ AllB.nil)
 refine g9 [1,2] Z Z ?_
 exact b5w
):p:=h
theorem c5K (h:p:=by
 refine b7 (rs:=[7]) Y Z (AllB.cons ?_ AllB.nil)
 refine e9 [0,1,2,3] Z Z (A4 G 10 Z Z Z Z Z Z Z Z (.v Z (.own Z (.own Z (.own Z .nil)))) Z Z Z Z (b4 ⟨Z,?_⟩))
 exact d0p
):p:=h
theorem c5L (h:p:=by
 refine m6 [(6,[2])] Y Y (λe he=>hok e (vin (is:=[3,4]) Z he)) Y (AllVS.cons ?_ AllVS.nil)
 refine VStep.mk1 [0,1,2,3] 24 (.own 6) 6 (.row 3 1 []) [] Z Z Z Z Z (λb1 _ hbn=>b5 Z Z (u3 G Z Z Z Z) (b4 Z)) Y Y Y Y (E1 ?_)
 clear hok
 exact c5K
):p:=h
theorem c5M (h:p:=by
 refine b7 (rs:=[9]) a8 Z (AllB.cons ?_ AllB.nil)
 refine e9 [0,1,2,3,4,6,8] Z Z (I1 (Gh.forget (id:=7) (k:=3) Z Z)<|I1 (Gh.keep [0,1,2,3,4,5,6,7,8,9] Z)<|a06 (tx:=47) 11 rfl rfl rfl rfl rfl<|l2 G Z6 rfl rfl rfl rfl rfl rfl rfl rfl rfl N6 rfl rfl (b4 ⟨Z,?_⟩))
 refine zsa 10 ?_
 refine b7 (rs:=[11]) a8 Z (AllB.cons ?_ AllB.nil)
 refine g9 [0,1,2,3,4,6,8] Z Z ?_
 exact b5w
):p:=h
theorem c1M (h:p:=by
 refine zgo ?_
 apply C4 [4] [0] 2 13 [] mixed a8 Z Z (λ_ h=>znk h)
 ·exact ws4
 refine zfo ?_
 all_goals exact c4z
):p:=h
theorem b5x (h:p:=by
 refine zcd (λk0=>?_) (λk0=>?_)
 ·refine zcd (λk1=>?_) (λk1=>?_)
  ·exact a4k
  exact a4k
 exact a4k
):p:=h
theorem c5N (h:p:=by
 refine zgo ?_
 refine ⟨(z.1+1,x9.2,z.2.2),?_,?_,⟨⟨_,Z,by (first | rfl | exact congrArg (λv=>AV.v (.int .i64 v)) F4)⟩,Z,trivial⟩,⟨⟨_,Z,by rfl⟩,Z,Z,⟨⟨_,Z,by rfl⟩,Z,Z,⟨⟨_,Z,by rfl⟩,Z,Z,⟨⟨_,Z,by rfl⟩,Z,Z,trivial⟩⟩⟩⟩,Z,Z,Z⟩
 ·exact c8n
 exact Z9
):p:=h
theorem c1N (h:p:=by
 refine zgo ?_
 refine a7 Z (d3 6 Z Z Z (ArgsOK.of Z) (Ctr.shpTo (a2p m x hs hx) (.cons .s (.cons .s (.cons .s (.cons (.n flM) (.cons .s (.cons .s (.cons .s .nil)))))))) Z Z ?_)
 exact b2T
):p:=h
theorem c5O (h:p:=by
 refine zcl (F7 _) ?_
 refine r6 ?_
 refine p6 G 5 Z Z Z Z Z Z Z Z ?_
 refine r6 ?_
 refine vm6 ?_
 exact d0E
):p:=h
theorem b5y (h:p:=by
 have hn:=a07 (k:=o7 w) J
 rw [hl] at hn
 refine zgo ?_
 exact c3v
):p:=h
theorem c1O (h:p:=by
 refine a79 ?_
 exact b8V
):p:=h
theorem b2V (h:p:=by
 refine zgn ?_
 refine Y6 Z ?_
 exact d0s
):p:=h
theorem c5P (h:p:=by
 refine b7 (rs:=[8]) a8 Z (AllB.cons ?_ AllB.nil)
 refine b37 ?_
 refine b7 (rs:=[9]) a8 Z (AllB.cons ?_ AllB.nil)
 exact d0P
):p:=h
theorem c5Q (h:p:=by
 refine zgo ?_
 refine Y5 ?_
 refine b8Q ?_
 refine zcd (λk0=>?_) (λk0=>?_)
 ·exact c3x
 refine zgo ?_
 refine ⟨(i+1),?_,?_,⟨⟨_,Z,by rfl⟩,Z,trivial⟩,trivial,Z,Z,Z⟩
 ·refine ⟨by omega,s4 hinv.2 ?_⟩;(simp only [a4C,Bool.and_eq_true,decide_eq_true_eq,Bool.not_eq_true',beq_eq_false_iff_ne,ne_eq] at *;omega)
 omega
):p:=h
theorem c5R (h:p:=by
 refine d0i ?_
 exact c41
):p:=h
theorem c5S (h:p:=by
 refine zcd (λk0=>?_) (λk0=>?_)
 ·refine zcl (H3 sl _ hl) ?_
  refine zcd (λk1=>?_) (λk1=>?_)
  ·exact b8X
  exact d0z
 refine zwf ?_
 exact d0z
):p:=h
theorem a6c (h:p:=by
 refine zwt ?_
 exact c1z
):p:=h
theorem c5T (h:p:=by
 refine zcd (λk0=>?_) (λk0=>?_)
 ·refine zcl (J9 m s.c hn) ?_
  refine zcd (λk1=>?_) (λk1=>?_)
  ·exact a4k
  exact a4k
 exact a4k
):p:=h
theorem c5U (h:p:=by
 refine zcd (λk0=>?_) (λk0=>?_)
 ·refine zcd (λk1=>?_) (λk1=>?_)
  ·refine b38 ?_
   exact a4k
  exact a4k
 exact a4k
):p:=h
theorem c5V (h:p:=by
 refine vm3 ?_
 refine d3 2 Z Z Z (ArgsOK.of Z) (a08 sl _ ⟨_,_,_⟩ J J) Z Z ?_
 exact d0C
):p:=h
theorem c5W (h:p:=by
 refine c3m ?_
 exact d0C
):p:=h
theorem c5X (h:p:=by
 refine vm3 ?_
 refine d3 2 Z Z Z (ArgsOK.of Z) (a08 sl _ ⟨_,_,_⟩ J J) Z Z ?_
 exact c8p
):p:=h
theorem c5Y (h:p:=by
 refine c3m ?_
 exact c8q
):p:=h
theorem c5Z (h:p:=by
 refine vm3 ?_
 refine d3 8 Z Z Z (ArgsOK.of Z) (a1V _ hQ) Z Z ?_
 refine zgo ?_
 exact c8u
):p:=h
theorem c50 (h:p:=by
 refine Ctr.of (n:=12) G Tryz.func170 Z a8 Z Z Z (λw0=>?_)
 exact d0m
):p:=h
theorem b73 (h:p:=by
 refine zcl (H4 _ _ _) ?_
 exact c1E
):p:=h
theorem c52 (h:p:=by
 refine Ctr.of (n:=19) G Tryz.func251 Z a8 Z Z Z (λw0=>?_)
 exact ws6
):p:=h
theorem c54 (h:p:=by
 refine Ctr.of (n:=19) G Tryz.func196 Z a8 Z Z Z (λw0=>?_)
 exact ws6
):p:=h
theorem c55 (h:p:=by
 refine b1L ?_
 exact c8v
):p:=h
theorem b2W (h:p:=by
 refine zgo ?_
 exact d0x
):p:=h
theorem c56 (h:p:=by
 refine vm1 ?_
 exact a9r
):p:=h
theorem c57 (h:p:=by
 refine vm3 ?_
 refine d6 G 12 Z Z Z Z Z ?_
 exact d0n
):p:=h
theorem c58 (h:p:=by
 have hO:=b2J (s:=⟨sk,sq,sc,sv⟩) (.inl h1)
 refine zwt ?_
 exact b8Z
):p:=h
theorem b5z (h:p:=by
 refine zgo ?_
 refine a7 Z (b5 Z Z (p9 G Z Z Z) ?_)
 refine zcd (λk0=>?_) (λk0=>?_)
 ·try rw [b3S J] at hO
  exact ws1
 try rw [a2K J] at hO
 have hrs:=k0
 exact ws1
):p:=h
theorem c59 (h:p:=by
 obtain ⟨m1,ir,ok⟩:=sr
 dsimp only at cS hE hir hsm hiq
 refine zgo ?_
 refine a7 Z (a2n (n:=31) G Z Z Z Tryz.func85 Z Y Z Z Z Z ?_)
 intro b hen hpin
 refine zgo ?_
 refine a7 Z (B4 14 Z Z Z Z Z Z Z (a7 Z (B4 15 Z Z Z Z Z Z Z (a7 Z (d6 G 16 Z Z Z Z Z ?_)))))
 refine zgo ?_
 refine a7 Z (d3 20 Z Z Z (ArgsOK.of Z) cS Z Z ?_)
 refine zgo ?_
 refine a7 Z (d6 G 21 Z Z Z Z Z ?_)
 refine zcd (λh301=>?_) (λh301=>?_)
 ·refine zgo ?_
  refine d7 ⟨.inr Z,_,Z,Z,?_⟩
  have hE2:F6 m s=(m,qmB):=hE.trans (if_neg (by simp [h301]))
  have hO:=P5 h1 h2 h3 hE2
  refine zgo ?_
  refine d7 ⟨.inr Z,_,Z,Z,?_⟩
  refine b4 ⟨Z,?_⟩
  refine zsa 8 ?_
  refine zsa 9 ?_
  refine b7 (rs:=[10]) Y Z (AllB.cons ?_ AllB.nil)
  refine g9 [0,1,2,3,4,5,6,7,9,10] Z Z ?_
  refine zgo ?_
  refine ⟨Z,?_⟩
  refine zsa 11 ?_
  refine z7 Y ?_
  refine znk ?_
  refine d7 ⟨.inr Z,_,Z,Z,?_⟩
  refine zgo ?_
  refine a7 Z (d6 G 22 Z Z Z Z Z ?_)
  refine zgo ?_
  refine a7 Z (d3 26 Z Z Z (ArgsOK.of Z) (w8 _ x (by first | assumption | exact hsm (by assumption)) hx) Z Z ?_)
  exact b5z
 refine zgo ?_
 refine a7 Z (d6 G 22 Z Z Z Z Z ?_)
 refine zwt ?_
 refine t8 (j7 5 [0,1,2,3,4,5,6,7,8,9,10,11,12,13,14,16,17,18,19,20,21] mixed Y Z Z (λr0=>?_) (λ_ h=>h))
 refine zsa 0 ?_
 refine zsa 1 ?_
 refine b7 (rs:=[2]) Y Z (AllB.cons ?_ AllB.nil)
 refine g9 [0,1,2,3,4,5,6,7,8,9,10,11,12,13,14,16,17,18,19,20,21] Z Z (b5 Z Z (i7 Z (ArgsOK.of Z) (A1 ir J J) Z) (b4 ⟨Z,?_⟩))
 refine b7 (rs:=[3]) Y Z (AllB.cons ?_ AllB.nil)
 refine g9 [0,1,2,3,4,5,6,7,8,9,10,11,12,13,14,16,17,18,19,20,21] Z Z ?_
 refine zgo ?_
 refine ⟨Z,?_⟩
 refine zsa 4 ?_
 refine z7 Y ?_
 refine znk ?_
 refine d7 ⟨.inr Z,_,Z,Z,?_⟩
 have hE2:F6 m s=(m1,if ir=-1 then okB else u7 ir):=hE.trans (if_pos h301)
 first | rw [if_neg ((hiq h301).mpr J)] at hE2 | rw [if_pos (Decidable.byContradiction λg=>absurd ((hiq h301).mp g) J)] at hE2
 have hO:=P5 h1 h2 h3 hE2
 refine zgo ?_
 refine d7 ⟨.inr Z,_,Z,Z,?_⟩
 refine b4 ⟨Z,?_⟩
 refine zsa 8 ?_
 refine zsa 9 ?_
 refine b7 (rs:=[10]) Y Z (AllB.cons ?_ AllB.nil)
 refine g9 [0,1,2,3,4,5,6,7,9,10] Z Z ?_
 refine zgo ?_
 refine ⟨Z,?_⟩
 refine zsa 11 ?_
 refine z7 Y ?_
 refine znk ?_
 refine d7 ⟨.inr Z,_,Z,Z,?_⟩
 refine zgo ?_
 refine a7 Z (d6 G 23 Z Z Z Z Z ?_)
 refine zgo ?_
 refine a7 Z (d3 27 Z Z Z (ArgsOK.of Z) (w8 _ x (by first | assumption | exact hsm (by assumption)) hx) Z Z ?_)
 refine zgo ?_
 refine a7 Z (b5 Z Z (p9 G Z Z Z) ?_)
 refine zcd (λk0=>?_) (λk0=>?_)
 ·exact b1j
 try rw [a2K J] at hO
 have hrs:=k0
 refine zgo ?_
 refine a7 Z (b5 Z Z (i7 Z (ArgsOK.of Z) (t7 x ⟨s,_⟩ hx ⟨by show s.size<=_;omega,by first | exact R7 (by decide) | exact O7 J | exact O7 (Int.ofNat_le.1 hrs)⟩) Z) ?_)
 refine zgo ?_
 refine d7 (p7 Z Z Z Z (b3 (c7 Z ?_) (b3 (c7 Z ?_) (b3 (c7 Z ?_) (b3 (B2 Z ?_) (b3 (i8 ?_) (b3 (i8 ?_) (b3 (i8 ?_) (b3 (i8 ?_) d9)))))))))
 all_goals (first | (rw [hO];done) | (rw [hO];rfl))
):p:=h
theorem b74 (h:p:=by
 refine d7 ⟨.inr Z,_,Z,Z,?_⟩
 refine zgo ?_
 refine a7 Z (d6 G 14 Z Z Z Z Z ?_)
 refine zgo ?_
 refine a7 Z (d3 18 Z Z Z (ArgsOK.of Z) (w8 _ x (by first | assumption | exact hsm (by assumption)) hx) Z Z ?_)
 exact b5z
):p:=h
theorem c6a (h:p:=by
 refine g9 [1,2] Z Z ?_
 refine R9 ?_
 refine b7 (rs:=[5]) a8 Z (AllB.cons ?_ AllB.nil)
 refine g9 [1,2] Z Z (b5 Z Z (i7 Z (ArgsOK.of Z) (a1W _ _ Z7 Z7 j6) Z) (b4 ⟨Z,?_⟩))
 exact c5J
):p:=h
theorem c6b (h:p:=by
 refine b7 (rs:=[4]) Y Z (AllB.cons ?_ AllB.nil)
 refine e9 [1,2,3,4,7] Z Z (A4 G 12 Z Z Z Z Z Z Z Z (.v Z (.own Z (.own Z (.own Z .nil)))) Z Z Z Z (b4 ⟨Z,?_⟩))
 exact c5D
):p:=h
theorem c6c (h:p:=by
 refine b7 (rs:=[4]) a8 Z (AllB.cons ?_ AllB.nil)
 refine g9 [1,2,3,4,7] Z Z (A4 G 12 Z Z Z Z Z Z Z Z (.v Z (.own Z (.own Z (.own Z .nil)))) Z Z Z Z (b4 ⟨Z,?_⟩))
 exact c5F
):p:=h
theorem c6d (h:p:=by
 refine zgo ?_
 refine a7 Z (d6 G 12 Z Z Z Z Z ?_)
 refine zgo ?_
 refine a7 Z (d3 16 Z Z Z (ArgsOK.of Z) (w8 _ x (by first | assumption | exact hsm (by assumption)) hx) Z Z ?_)
 exact b5z
):p:=h
theorem c6e (h:p:=by
 refine b7 (rs:=[5]) Y Z (AllB.cons ?_ AllB.nil)
 refine e9 [1,2,3,4,5,8,9] Z Z (A4 G 12 Z Z Z Z Z Z Z Z (.own Z .nil) Z Z Z Z (b4 ⟨Z,?_⟩))
 exact c5B
):p:=h
theorem c6f (h:p:=by
 refine b7 (rs:=[9]) a8 Z (AllB.cons ?_ AllB.nil)
 refine g9 [0,1,2,3,4,10] Z Z (A4 G 13 Z Z Z Z Z Z Z Z (.own Z .nil) Z Z Z Z (b4 ⟨Z,?_⟩))
 exact c5E
):p:=h
theorem c6g (h:p:=by
 refine b7 (rs:=[7]) a8 Z (AllB.cons ?_ AllB.nil)
 refine g9 [1,2,5,6] Z Z (b5 Z Z (i7 Z (ArgsOK.of Z) (F7 _) Z) (b4 ⟨Z,?_⟩))
 exact c5I
):p:=h
theorem c1P (h:p:=by
 refine zgn ?_
 refine M8 Z ?_
 exact c1O
):p:=h
end Go.Rf
