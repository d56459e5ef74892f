/- Ends of walks that are said again. -/
import Derived.Test.YtpfhomblkgmkkaaGreatDoorMac
set_option linter.unusedSimpArgs false
set_option linter.unusedVariables false
namespace Go.Rf
variable {p:Prop}
theorem b1C (h:p:=by
 refine zgo ?_
 refine e6 (m8 Z Z Z Z (b4 (d6 Z ?_) (b4 (d6 Z ?_) (b4 (d6 Z ?_) (b4 (C6 Z ?_) (b4 (l3 ?_) (b4 (l3 ?_) (b4 (l3 ?_) (b4 (l3 ?_) f6)))))))))
 all_goals (first | (rw [hO];done) | (rw [hO];rfl))
):p:=h
theorem ws1 (h:p:=by
 refine zgo ?_
 refine a7 Z (b5 Z Z (f9 Z (ArgsOK.of Z) (t7 x ⟨s,_⟩ hx ⟨by show s.size<=_;omega,by first | exact H1 (by decide) | exact F2 J | exact F2 (Int.ofNat_le.1 hrs)⟩) Z) ?_)
 exact b1C
):p:=h
theorem a4u (h:p:=by
 exact C4 Y (Meet.mk Z Z Z Z)
):p:=h
theorem ws2 (h:p:=by
 first | refine g8 [] Z Z (b5 Z Z (d7 G Z Z Z Z (X3 J) Z) (b6 ⟨Z,?_⟩)) | refine g8 [] Z Z (b5 Z Z (d7 G Z Z Z Z (a0c J J) Z) (b6 ⟨Z,?_⟩)) | refine g8 [] Z Z (b5 Z Z (d7 G Z Z Z Z (a0Y J J) Z) (b6 ⟨Z,?_⟩))
 refine b7 (rs:=[14]) a8 Z (AllB.cons ?_ AllB.nil)
 first | refine g8 [] Z Z (b5 Z Z (b9 G Z Z Z Z Z J a7V) (b6 ⟨Z,?_⟩)) | refine g8 [] Z Z (b5 Z Z (b9 G Z Z Z Z Z J a7U) (b6 ⟨Z,?_⟩)) | refine g8 [] Z Z (b5 Z Z (b9 G Z Z Z Z Z J a7S) (b6 ⟨Z,?_⟩))
 refine b7 (rs:=[15]) a8 Z (AllB.cons ?_ AllB.nil)
 first | refine g8 [] Z Z (l2 G Z Z Z Z Z (X3 J) Z Z Z Z Z (Nat.le_of_ble_eq_true Z) Z (b6 ⟨Z,?_⟩)) | refine g8 [] Z Z (l2 G Z Z Z Z Z (a0c J J) Z Z Z Z Z (Nat.le_of_ble_eq_true Z) Z (b6 ⟨Z,?_⟩)) | refine g8 [] Z Z (l2 G Z Z Z Z Z (a0Y J J) Z Z Z Z Z (Nat.le_of_ble_eq_true Z) Z (b6 ⟨Z,?_⟩))
 refine b7 (rs:=[16]) a8 Z (AllB.cons ?_ AllB.nil)
 first | refine g8 [] Z Z (b5 Z Z (b9 G Z Z Z Z Z J a7V) (b6 ⟨Z,?_⟩)) | refine g8 [] Z Z (b5 Z Z (b9 G Z Z Z Z Z J a7U) (b6 ⟨Z,?_⟩)) | refine g8 [] Z Z (b5 Z Z (b9 G Z Z Z Z Z J a7S) (b6 ⟨Z,?_⟩))
 refine b7 (rs:=[17]) a8 Z (AllB.cons ?_ AllB.nil)
 first | refine g8 [] Z Z (l2 G Z Z Z Z Z (X3 J) Z Z Z Z Z (Nat.le_of_ble_eq_true Z) Z (b6 ⟨Z,?_⟩)) | refine g8 [] Z Z (l2 G Z Z Z Z Z (a0c J J) Z Z Z Z Z (Nat.le_of_ble_eq_true Z) Z (b6 ⟨Z,?_⟩)) | refine g8 [] Z Z (l2 G Z Z Z Z Z (a0Y J J) Z Z Z Z Z (Nat.le_of_ble_eq_true Z) Z (b6 ⟨Z,?_⟩))
 exact a4u
):p:=h
theorem ws4 (h:p:=by
 intro r0
 refine c7x ?_
 refine x5 (N:=1) Z (r7 (fuel:=5) [⟨0,33,0,false,.row 3 1 []⟩] (AllVOK.cons (VOK.lit G Z Z Z Z Z) (AllVOK.nil)) (λhok=>?_))
 refine m5 [(4,[0]),(6,[])] a8 a8 (λe he=>hok e he) a8 (AllVS.cons ?_ (AllVS.cons ?_ AllVS.nil))
 ·refine c7C ?_
  clear hok
  refine b7 (rs:=[6]) a8 Z (AllB.cons ?_ AllB.nil)
  refine f8 [] Z Z (s4 G 2 Z Z Z Z Z Z Z Z (b6 ⟨Z,?_⟩))
  refine b7 (rs:=[7]) a8 Z (AllB.cons ?_ AllB.nil)
  refine f8 [] Z Z (j3 G a0B Z Z Z Z Z Z Z Z Z a4r Z Z (b6 ⟨Z,?_⟩))
  refine b7 (rs:=[11]) a8 Z (AllB.cons ?_ AllB.nil)
  refine f8 [] Z Z (j3 G a0B Z Z Z Z Z Z Z Z Z a4r Z Z (b6 ⟨Z,?_⟩))
  refine zsa 12 ?_
  exact a4u
 refine VStep.mk0 [] Z Z (λb1 _ hbn=>s4 G 2 Z Z Z Z Z Z Z Z (b6 Z)) a8 a8 a8 a8 (m5 [(4,[0])] a8 a8 (λe he=>hok e he) a8 (AllVS.cons ?_ AllVS.nil))
 refine c7C ?_
 clear hok
 refine b7 (rs:=[7]) a8 Z (AllB.cons ?_ AllB.nil)
 refine f8 [] Z Z (j3 G a0B Z Z Z Z Z Z Z Z Z a4r Z Z (b6 ⟨Z,?_⟩))
 refine b7 (rs:=[11]) a8 Z (AllB.cons ?_ AllB.nil)
 refine f8 [] Z Z (j3 G a0B Z Z Z Z Z Z Z Z Z a4r Z Z (b6 ⟨Z,?_⟩))
 refine zsa 12 ?_
 exact C4 a8 (Meet.mk Z Z Z Z)
):p:=h
theorem ws5 (h:p:=by
 refine zf1 ?_
 all_goals exact c7s
):p:=h
theorem u3 (h:p:=by
 exact ⟨⟨_,Z,by (first | rfl | (simp;done) | (simp;omega))⟩,Z,trivial⟩
):p:=h
theorem b30 (h:p:=by
 refine zgo ?_
 refine ⟨(i+1),?_,?_,⟨⟨_,Z,by rfl⟩,Z,trivial⟩,trivial,Z,Z,Z⟩
 ·exact ⟨by omega,n7 hinv.2 i1⟩
 omega
):p:=h
theorem ws6 (h:p:=by
 refine zgo ?_
 refine d9 [0,1,7] [] (λ(i:Nat)=>[(8,.v (.int .i64 (i:Int)))]) (λ(i:Nat)=>[]) (λ(i:Nat)=>i<=xs.length/\∀j,j < i→p (xs.getD j default)=false) (λ(i:Nat)=>xs.length - i) 0 Z Z ?_ ?_ ?_ ?_
 ·exact ⟨Nat.zero_le _,λj hj=>by omega⟩
 ·exact u3
 ·exact trivial
 intro i hinv
 refine vm4 ?_
 refine zcd (λk0=>?_) (λk0=>?_)
 ·refine n9 ?_
  refine b5 Z Z (b1O Z Z (ArgsOK.of Z) Z (hf _ J) Z) ?_
  refine zcd (λk1=>?_) (λk1=>?_)
  ·refine zf1 ?_
   all_goals exact c7t
  exact b30
 refine zf1 ?_
 all_goals exact c7t
):p:=h
theorem ws7 (h:p:=by
 refine zgo ?_
 refine ⟨(i+1),?_,?_,⟨⟨_,Z,by (first | rfl | (rw [a3h (a8L i1)];done) | (rw [a3g (a8M J i1)];done) | (rw [a3g ((b16 J J).trans (by simp_all [wOf]))];done) | (rw [a3h ((b16 J J).trans (by simp_all [wOf]))];done))⟩,Z,⟨⟨_,Z,by (first | rfl | (rw [a3h (a8L i1)];done) | (rw [a3g (a8M J i1)];done) | (rw [a3g ((b16 J J).trans (by simp_all [wOf]))];done) | (rw [a3h ((b16 J J).trans (by simp_all [wOf]))];done))⟩,Z,trivial⟩⟩,trivial,Z,Z,Z⟩
 ·omega
 omega
):p:=h
theorem ws8 (h:p:=by
 refine zgo ?_
 refine ⟨(i+1),?_,?_,⟨⟨_,Z,by first | rfl | (rw [b13 i1 i1 i1];done) | (rw [a3X (by simp_all;done)];done) | (rw [a3X (by simp_all;omega)];done)⟩,Z,⟨⟨_,Z,by first | rfl | (rw [b13 i1 i1 i1];done) | (rw [a3X (by simp_all;done)];done) | (rw [a3X (by simp_all;omega)];done)⟩,Z,⟨⟨_,Z,by first | rfl | (rw [b13 i1 i1 i1];done) | (rw [a3X (by simp_all;done)];done) | (rw [a3X (by simp_all;omega)];done)⟩,Z,trivial⟩⟩⟩,trivial,Z,Z,Z⟩
 ·omega
 omega
):p:=h
theorem ws9 (h:p:=by
 refine zf1 ?_
 all_goals exact c7u
):p:=h
theorem c7O (h:p:=by
 intro r0
 refine c7x ?_
 refine x5 (N:=2) Z (r7 (fuel:=5) [⟨0,29,1,false,.row 182 2 []⟩] (AllVOK.cons (VOK.lit G Z Z Z Z Z) (AllVOK.nil)) (λhok=>?_))
 refine m5 [(4,[0]),(6,[])] a8 a8 (λe he=>hok e he) a8 (AllVS.cons ?_ (AllVS.cons ?_ AllVS.nil))
 ·refine c7B ?_
  clear hok
  refine b7 (rs:=[6]) a8 Z (AllB.cons ?_ AllB.nil)
  refine f8 [0] Z Z (s4 G 3 Z Z Z Z Z Z Z Z (b6 ⟨Z,?_⟩))
  refine b7 (rs:=[7]) a8 Z (AllB.cons ?_ AllB.nil)
  refine f8 [0] Z Z (j3 G a0B Z Z Z Z Z Z Z Z Z a4r Z Z (b6 ⟨Z,?_⟩))
  refine b7 (rs:=[11]) a8 Z (AllB.cons ?_ AllB.nil)
  refine f8 [0] Z Z (j3 G a0B Z Z Z Z Z Z Z Z Z a4r Z Z (b6 ⟨Z,?_⟩))
  refine zsa 12 ?_
  exact a4u
 refine VStep.mk0 [0] Z Z (λb1 _ hbn=>s4 G 3 Z Z Z Z Z Z Z Z (b6 Z)) a8 a8 a8 a8 (m5 [(4,[0])] a8 a8 (λe he=>hok e he) a8 (AllVS.cons ?_ AllVS.nil))
 refine c7B ?_
 clear hok
 refine b7 (rs:=[7]) a8 Z (AllB.cons ?_ AllB.nil)
 refine f8 [0] Z Z (j3 G a0B Z Z Z Z Z Z Z Z Z a4r Z Z (b6 ⟨Z,?_⟩))
 refine b7 (rs:=[11]) a8 Z (AllB.cons ?_ AllB.nil)
 refine f8 [0] Z Z (j3 G a0B Z Z Z Z Z Z Z Z Z a4r Z Z (b6 ⟨Z,?_⟩))
 refine zsa 12 ?_
 exact C4 a8 (Meet.mk Z Z Z Z)
):p:=h
theorem c2U (h:p:=by
 refine b7 (rs:=[9]) a8 Z (AllB.cons ?_ AllB.nil)
 refine g8 [0,1,2,3,4] Z Z (Z3 (Gh.forget (id:=6) (k:=3) Z Z)<|Z3 (Gh.keep [0,1,2,3,4,5,6,10] Z)<|a4N (tx:=27) 12 rfl rfl rfl rfl rfl<|G8 G a0B rfl rfl rfl rfl rfl rfl rfl rfl rfl rfl R2 rfl rfl (b6 ⟨Z,?_⟩))
 refine zsa 10 ?_
 refine b7 (rs:=[11]) a8 Z (AllB.cons ?_ AllB.nil)
 refine f8 [0,1,2,3,4] Z Z ?_
 refine J5 ?_
 exact C4 a8 (Meet.mk Z Z Z Z)
):p:=h
theorem c2V (h:p:=by
 refine b7 (rs:=[8]) a8 Z (AllB.cons ?_ AllB.nil)
 refine f8 [0,1,2,3,4] Z Z (A8 G 11 Z Z Z Z Z Z Z Z (.v Z (.own Z (.own Z (.own Z .nil)))) Z Z Z Z (b6 ⟨Z,?_⟩))
 exact c2U
):p:=h
theorem c7P (h:p:=by
 refine zgo ?_
 apply x8 [1,2,3,4] [0,1,2,3,4,6,11] 12 12 [0,1,2,3,4] mixed a8 Z Z (λ_ h=>znk h)
 ·intro r0
  refine zsa 0 ?_
  refine zsa 2 ?_
  refine zsa 3 ?_
  refine b0u ?_
  refine b7 (rs:=[1,7]) a8 Z (AllB.cons ?_ (AllB.cons ?_ AllB.nil))
  ·refine f8 [0,1,2,3,4] Z Z ?_
   refine J5 ?_
   refine b7 (rs:=[7]) a8 Z (AllB.cons ?_ AllB.nil)
   refine f8 [0,1,2,3,4] Z Z (c8 10 Z Z Z (ArgsOK.of Z) (a4v (m.cp.getD k default) J J J) Z Z (b6 ⟨Z,?_⟩))
   exact c2V
  refine f8 [0,1,2,3,4] Z Z (c8 10 Z Z Z (ArgsOK.of Z) (a4v (m.cp.getD k default) J J J) Z Z (b6 ⟨Z,?_⟩))
  refine b7 (rs:=[1,8]) a8 Z (AllB.cons ?_ (AllB.cons ?_ AllB.nil))
  ·refine f8 [0,1,2,3,4] Z Z ?_
   refine J5 ?_
   exact c2V
  refine f8 [0,1,2,3,4] Z Z (A8 G 11 Z Z Z Z Z Z Z Z (.v Z (.own Z (.own Z (.own Z .nil)))) Z Z Z Z (b6 ⟨Z,?_⟩))
  refine b7 (rs:=[1]) a8 Z (AllB.cons ?_ AllB.nil)
  refine f8 [0,1,2,3,4] Z Z ?_
  refine J5 ?_
  exact c2U
 refine a2v ?_
 refine G7 (Gh.sub 11 5 np Z Z Z) (b6 ⟨(k+1),?_,?_,⟨⟨_,Z,by rfl⟩,Z,trivial⟩,⟨⟨_,Z,by (exact congrArg (λz=>Row.nest _ _ z []) (b1i J Z))⟩,Z,Z,trivial⟩,Z,Z,Z⟩)
 ·omega
 omega
):p:=h
theorem c7Q (h:p:=by
 refine j5 0 Z (λ_=>Z) (λu0=>?_)
 refine N0 ?_
 refine zgn ?_
 refine p6 (j7 10 [0] mixed a8 Z Z (λr0=>?_) (λ_ h=>h))
 refine zsa 1 ?_
 refine zsa 2 ?_
 refine zsa 5 ?_
 refine zsa 6 ?_
 refine x5 (N:=4) Z (r7 (fuel:=4) [⟨0,3,2,false,.row 169 3 []⟩,⟨4,7,3,false,.row 182 2 []⟩] (AllVOK.cons (VOK.lit G Z Z Z Z Z) (AllVOK.cons (VOK.lit G Z Z Z Z Z) (AllVOK.nil))) (λhok=>?_))
 refine m5 [(3,[0])] a8 a8 (λe he=>hok e he) a8 (AllVS.cons ?_ AllVS.nil)
 refine VStep.mk1 [0] 3 (.own 2) 2 (.row 169 3 []) [⟨4,7,3,false,.row 182 2 []⟩] Z Z Z Z Z (λb1 _ hbn=>j3 G O8 Z Z Z Z Z Z Z Z Z B1 Z Z (b6 Z)) a8 a8 a8 a8 (m5 [(7,[4])] a8 a8 (λe he=>hok e (vin (is:=[0]) Z he)) a8 (AllVS.cons ?_ AllVS.nil))
 refine VStep.mk1 [0] 7 (.own 3) 3 (.row 182 2 []) [] Z Z Z Z Z (λb1 _ hbn=>j3 G O8 Z Z Z Z Z Z Z Z Z B1 Z Z (b6 Z)) a8 a8 a8 a8 (D0 ?_)
 clear hok
 refine b7 (rs:=[8]) a8 Z (AllB.cons ?_ AllB.nil)
 refine b2G ?_
 refine b7 (rs:=[9]) a8 Z (AllB.cons ?_ AllB.nil)
 refine b2G ?_
 refine H4 ?_
 refine e6 (m8 Z Z Z Z (b4 (d6 Z ?_) (b4 (d6 Z ?_) f6)))
 all_goals (first | rfl | simp)
):p:=h
theorem a2N (h:p:=by
 refine zf1 ?_
 all_goals (first | rfl | (simp [O4, *];done) | (simp [O4, *];rfl) | (simp [O4, *,I0,a6X];done))
):p:=h
theorem b68 (h:p:=by
 all_goals exact c5F
):p:=h
theorem b50 (h:p:=by
 refine e6 (m8 Z Z Z Z (b4 (d6 Z ?_) (b4 (d6 Z ?_) (b4 (d6 Z ?_) (b4 (C6 Z ?_) (b4 (l3 ?_) (b4 (l3 ?_) f6)))))))
 all_goals (first | (rw [hS];done) | (rw [hS];(first | rfl | exact List.map_set.symm | exact c5i Z | (simp only [List.set_set,Int.toNat_natCast];exact c5i Z) | exact congrArg Value.bool (decide_eq_true J))))
):p:=h
theorem c7R (h:p:=by
 refine c7z ?_
 refine zgo ?_
 exact b50
):p:=h
theorem b69 (h:p:=by
 refine zf1 ?_
 all_goals exact c2i
):p:=h
theorem b7a (h:p:=by
 refine zf1 ?_
 all_goals exact c2j
):p:=h
theorem b9A (h:p:=by
 refine a42 ?_
 all_goals exact c2k
):p:=h
theorem c7S (h:p:=by
 refine f8 [1] Z Z (b5 Z Z (W9 G Z Z Z Z Z Z s6 s6 s6 s6) (b6 ⟨Z,?_⟩))
 refine b7 (rs:=[8]) a8 Z (AllB.cons ?_ AllB.nil)
 refine f8 [1] Z Z (a4o G Z Z Z Z Z Z Z (vs:=(xs.map f7).drop i) (SrcOK.spare Z s6) (L:=xs.length - i) c2P (c0j a3w J s6 (by rw [List.length_map]) (by rw [List.length_map])) (λc hc=>(hall c (List.mem_of_mem_drop hc)).2) (λc hc=>(hall c (List.mem_of_mem_drop hc)).1) s6 s6 (b6 ⟨Z,?_⟩))
 exact a4u
):p:=h
theorem c2W (h:p:=by
 refine zgo ?_
 refine ⟨(i+1),?_,?_,⟨⟨_,Z,by (first | rfl | (rw [c6Q J J J];rfl) | (rw [c6R J J J];rfl) | (rw [c6S J J J];rfl) | (rw [c6T J J J];rfl))⟩,Z,⟨⟨_,Z,by (first | rfl | (rw [c6Q J J J];rfl) | (rw [c6R J J J];rfl) | (rw [c6S J J J];rfl) | (rw [c6T J J J];rfl))⟩,Z,trivial⟩⟩,trivial,Z,Z,Z⟩
 ·omega
 omega
):p:=h
theorem c7T (h:p:=by
 refine c1p ?_
 refine b64 ?_
 refine zcd (λk0=>?_) (λk0=>?_)
 ·have hnm:=hF.nums (i:=i) J J
  refine zgd ?_
  refine zcl (w3 (sl.getD i default).q J J) ?_
  refine b63 ?_
  refine b63 ?_
  refine zcl (w3 (sl.getD i default).p J J) ?_
  refine b63 ?_
  exact c2W
 exact c2W
):p:=h
theorem c1u (h:p:=by
 refine zgo ?_
 refine ⟨(i+1),?_,?_,⟨⟨_,Z,by (first | rfl | (rw [a3h (a8L i1)];done) | (rw [a3g (a8M i1 i1)];done) | (rw [a3g ((b15 hd J i1 J).trans a4q)];done) | (rw [a3h ((b15 hd J i1 J).trans a4q)];done))⟩,Z,⟨⟨_,Z,by (first | rfl | (rw [a3h (a8L i1)];done) | (rw [a3g (a8M i1 i1)];done) | (rw [a3g ((b15 hd J i1 J).trans a4q)];done) | (rw [a3h ((b15 hd J i1 J).trans a4q)];done))⟩,Z,trivial⟩⟩,trivial,Z,Z,Z⟩
 ·omega
 omega
):p:=h
theorem b9B (h:p:=by
 refine zgo ?_
 refine ⟨(i+1),?_,?_,⟨⟨_,Z,by first | rfl | (rw [b5k i1 i1 J];done) | (rw [a3Y (by simp_all;done)];done) | (rw [a3Y (by simp_all;omega)];done)| (rw [a3Y (λ_ _=>J)];done)⟩,Z,⟨⟨_,Z,by first | rfl | (rw [b5k i1 i1 J];done) | (rw [a3Y (by simp_all;done)];done) | (rw [a3Y (by simp_all;omega)];done)| (rw [a3Y (λ_ _=>J)];done)⟩,Z,trivial⟩⟩,trivial,Z,Z,Z⟩
 ·omega
 omega
):p:=h
theorem b9C (h:p:=by
 refine zf1 ?_
 all_goals exact c2l
):p:=h
theorem b31 (h:p:=by
 refine zf1 ?_
 all_goals (first | (rw [b79 J];done) | (rw [b8a J J];done) | (rw [b8b J J];done) | (rw [b8c J J J];first | rfl | (exact congrArg Value.bool (by rw [Bool.eq_iff_iff,decide_eq_true_iff];exact c0w))) | rfl)
):p:=h
theorem b9D (h:p:=by
 refine zf1 ?_
 all_goals (first | (rw [a3q J];done) | (rw [Y5 J];done) | (rw [a7a J];done) | (rw [a4W (by have:=@b2v w;omega)];done))
):p:=h
theorem c2X (h:p:=by
 refine b7 (rs:=[6]) a8 Z (AllB.cons ?_ AllB.nil)
 refine f8 [0] Z Z (A1 4 [1,2] Z Z Z (G1 wa w i J J) Z (RowsIn.cons Z (RowsIn.cons Z RowsIn.nil)) Z Z Z (b6 ⟨Z,?_⟩))
 refine zsa 7 ?_
 exact a4u
):p:=h
theorem c7U (h:p:=by
 intro r0
 refine zsa 1 ?_
 refine zsa 3 ?_
 refine zsa 4 ?_
 refine x5 (N:=2) Z (r7 (fuel:=4) [⟨0,21,1,false,.row 182 2 []⟩] (AllVOK.cons (VOK.lit G Z Z Z Z Z) (AllVOK.nil)) (λhok=>?_))
 refine m5 [(2,[0]),(5,[])] a8 a8 (λe he=>hok e he) a8 (AllVS.cons ?_ (AllVS.cons ?_ AllVS.nil))
 ·refine c7E ?_
  clear hok
  refine b7 (rs:=[5]) a8 Z (AllB.cons ?_ AllB.nil)
  refine f8 [0] Z Z (s4 G 3 Z Z Z Z Z Z Z Z (b6 ⟨Z,?_⟩))
  exact c2X
 refine VStep.mk0 [0] Z Z (λb1 _ hbn=>s4 G 3 Z Z Z Z Z Z Z Z (b6 Z)) a8 a8 a8 a8 (m5 [(2,[0])] a8 a8 (λe he=>hok e he) a8 (AllVS.cons ?_ AllVS.nil))
 refine c7E ?_
 clear hok
 exact c2X
):p:=h
theorem c1v (h:p:=by
 refine zgo ?_
 refine ⟨(i+1),?_,?_,⟨⟨_,Z,by rfl⟩,Z,trivial⟩,⟨⟨_,Z,by (first | (rw [a1d hcn];done) | (rw [a1f hcn];done) | (rw [a1c hcn,List.map_set];rfl) | (rw [a1e hcn];exact congrArg (λz=>Row.nest _ _ z []) a4s))⟩,Z,Z,⟨⟨_,Z,by (first | (rw [a1d hcn];done) | (rw [a1f hcn];done) | (rw [a1c hcn,List.map_set];rfl) | (rw [a1e hcn];exact congrArg (λz=>Row.nest _ _ z []) a4s))⟩,Z,Z,trivial⟩⟩,Z,Z,Z⟩
 ·omega
 omega
):p:=h
theorem D9 (h:p:=by
 exact ⟨Nat.zero_le _,λj hj=>by omega⟩
):p:=h
theorem a0e (h:p:=by
 exact ⟨⟨_,Z,by rfl⟩,Z,⟨⟨_,Z,by rfl⟩,Z,trivial⟩⟩
):p:=h
theorem c1w (h:p:=by
 refine vm5 ?_
 refine b5 Z Z (b9 G Z Z Z Z Z J (by rw [b23 J];omega)) ?_
 refine vm5 ?_
 refine l2 G Z Z Z Z Z (b24 J) Z Z Z Z Z (Nat.le_of_ble_eq_true Z) Z ?_
 refine zgo ?_
 refine ⟨(i+1),?_,?_,⟨⟨_,Z,by rfl⟩,Z,trivial⟩,⟨⟨_,Z,by (rw [← b25 J];rfl)⟩,Z,Z,trivial⟩,Z,Z,Z⟩
 ·omega
 omega
):p:=h
theorem c7V (h:p:=by
 refine e6 (p8 Z Z Z Z (b4 (l3 ?_) (b4 (l3 ?_) f6)))
 all_goals clear hK14 K14 hK13 K13 hK9 K9
 all_goals (first | (rw [(b0n (s:=s) h3).1];done) | (rw [(b0n (s:=s) h3).2];done) | (rw [(b0o (s:=s) (i:=i) J (by simp only [a0v,Bool.and_eq_false_iff,decide_eq_false_iff_not];omega)).1];done) | (rw [(b0o (s:=s) (i:=i) J (by simp only [a0v,Bool.and_eq_false_iff,decide_eq_false_iff_not];omega)).2];done) | (rw [(a1G (s:=s) (n:=-dV (m7 s) i) (by have e:i=(m7 s).size:=J;rw [a1E J,e]) (by assumption)).1];done) | (rw [(a1G (s:=s) (n:=-dV (m7 s) i) (by have e:i=(m7 s).size:=J;rw [a1E J,e]) (by assumption)).2];done) | (rw [(a1G (s:=s) (n:=dV (m7 s) i) (by have e:i=(m7 s).size:=J;rw [a1F J,e]) (by assumption)).1];done) | (rw [(a1G (s:=s) (n:=dV (m7 s) i) (by have e:i=(m7 s).size:=J;rw [a1F J,e]) (by assumption)).2];done) | (rw [(a1H (s:=s) (n:=-dV (m7 s) i) (i:=i) h3 J hinv.2 (by have e:i=(m7 s).size:=J;rw [a1E J,e]) (by assumption)).1];done) | (rw [(a1H (s:=s) (n:=-dV (m7 s) i) (i:=i) h3 J hinv.2 (by have e:i=(m7 s).size:=J;rw [a1E J,e]) (by assumption)).2];done) | (rw [(a1H (s:=s) (n:=dV (m7 s) i) (i:=i) h3 J hinv.2 (by have e:i=(m7 s).size:=J;rw [a1F J,e]) (by assumption)).1];done) | (rw [(a1H (s:=s) (n:=dV (m7 s) i) (i:=i) h3 J hinv.2 (by have e:i=(m7 s).size:=J;rw [a1F J,e]) (by assumption)).2];done))
):p:=h
theorem c7W (h:p:=by
 refine e6 (p8 Z Z Z Z (b4 (l3 ?_) (b4 (l3 ?_) f6)))
 all_goals (first | (rw [(b0n (s:=s) h3).1];done) | (rw [(b0n (s:=s) h3).2];done) | (rw [(b0o (s:=s) (i:=i) J (by simp only [a0v,Bool.and_eq_false_iff,decide_eq_false_iff_not];omega)).1];done) | (rw [(b0o (s:=s) (i:=i) J (by simp only [a0v,Bool.and_eq_false_iff,decide_eq_false_iff_not];omega)).2];done) | (rw [(a1G (s:=s) (n:=-dV (m7 s) i) (by have e:i=(m7 s).size:=J;rw [a1E J,e]) (by assumption)).1];done) | (rw [(a1G (s:=s) (n:=-dV (m7 s) i) (by have e:i=(m7 s).size:=J;rw [a1E J,e]) (by assumption)).2];done) | (rw [(a1G (s:=s) (n:=dV (m7 s) i) (by have e:i=(m7 s).size:=J;rw [a1F J,e]) (by assumption)).1];done) | (rw [(a1G (s:=s) (n:=dV (m7 s) i) (by have e:i=(m7 s).size:=J;rw [a1F J,e]) (by assumption)).2];done) | (rw [(a1H (s:=s) (n:=-dV (m7 s) i) (i:=i) h3 J hinv.2 (by have e:i=(m7 s).size:=J;rw [a1E J,e]) (by assumption)).1];done) | (rw [(a1H (s:=s) (n:=-dV (m7 s) i) (i:=i) h3 J hinv.2 (by have e:i=(m7 s).size:=J;rw [a1E J,e]) (by assumption)).2];done) | (rw [(a1H (s:=s) (n:=dV (m7 s) i) (i:=i) h3 J hinv.2 (by have e:i=(m7 s).size:=J;rw [a1F J,e]) (by assumption)).1];done) | (rw [(a1H (s:=s) (n:=dV (m7 s) i) (i:=i) h3 J hinv.2 (by have e:i=(m7 s).size:=J;rw [a1F J,e]) (by assumption)).2];done))
):p:=h
theorem b9E (h:p:=by
 refine zf1 ?_
 all_goals (simp only [a9L];first | (rw [if_pos i1];done) | (rw [if_neg J,if_pos J];done) | (rw [if_neg J,if_neg J,if_pos J];done) | (rw [if_neg J,if_neg J,if_neg J,b8U i1];done) | (rw [if_neg J,if_neg J,if_neg J];done))
):p:=h
theorem c1x (h:p:=by
 refine zf1 ?_
 all_goals ((rw [b4g] at h1;simp only [D4];first | (have e:m3 x.c.size 1 160=true:=s7.mpr J;rw [e,h2.1,h3];generalize Y3 x.r=p;generalize decide ((x.r.size:Int)<=200)=q;cases p<;>cases q<;>rfl) | (rw [h3];simp;done) | (rcases h2 with h2 | h2<;>first | (rw [h2];simp;done) | (have e:m3 x.c.size 1 160=false:=a9a.mpr J;rw [e];simp;done)) | (have e:m3 x.c.size 1 160=false:=a9a.mpr J;rw [e];simp;done)))
):p:=h
theorem c5V (h:p:=by
 refine e6 (p8 Z Z Z Z (b4 (l3 ?_) (b4 (l3 ?_) f6)))
 all_goals clear hK6 K6
 all_goals (first | (rw [(a1D (s:=s) J).1];done) | (rw [(a1D (s:=s) J).2];done) | (rw [(a3T (s:=s) J (hc1.symm.trans h2)).1];done) | (rw [(a3T (s:=s) J (hc1.symm.trans h2)).2];done) | (rw [(a6V (s:=s) J h3).1];done) | (rw [(a6V (s:=s) J h3).2];done) | (rw [(b02 (s:=s) J (hc1.symm.trans h2) h4).1];done) | (rw [(b02 (s:=s) J (hc1.symm.trans h2) h4).2];done) | (rw [(a6W (s:=s) J (hc1.symm.trans h2) h3 h4).1];done) | (rw [(a6W (s:=s) J (hc1.symm.trans h2) h3 h4).2];done))
):p:=h
theorem c1y (h:p:=by
 refine e6 (p8 Z Z Z Z (b4 (a08 Z ?_) (b4 (l3 ?_) f6)))
 all_goals (simp only [X6];(repeat (first | rw [if_pos J] | rw [if_neg J]));first | done | rfl)
):p:=h
theorem c7X (h:p:=by
 refine zgn ?_
 refine e6 (J0 Z (d6 Z ?_) Z (AftOK.gone (AftOK.stays Z ?_ Z AftOK.nil)))
 all_goals exact c2m
):p:=h
theorem c1z (h:p:=by
 refine a42 ?_
 all_goals exact c2n
):p:=h
theorem b7b (h:p:=by
 refine zf1 ?_
 all_goals exact c1k
):p:=h
theorem b7c (h:p:=by
 refine zgo ?_
 refine e6 (m8 Z Z Z Z (b4 (I5 ?_) (b4 (I5 ?_) (b4 (I5 ?_) (b4 (c0l ?_) (b4 (l3 ?_) (b4 (l3 ?_) f6)))))))
 all_goals (first | rfl | (rw [hO];done) | (rw [hO];rfl))
):p:=h
theorem c2Y (h:p:=by
 refine zf1 ?_
 all_goals (simp only [szL];first | (rw [if_pos J];done) | (rw [if_neg J];done))
):p:=h
theorem b9F (h:p:=by
 refine zcd (λk0=>?_) (λk0=>?_)
 ·exact c2Y
 exact c2Y
):p:=h
theorem c1A (h:p:=by
 refine zf1 ?_
 all_goals exact c5G
):p:=h
theorem b2I (h:p:=by
 refine zgo ?_
 refine e6 (p8 Z Z Z Z (b4 (l3 ?_) (b4 (l3 ?_) f6)))
 all_goals exact b60
):p:=h
theorem c7Y (h:p:=by
 refine e6 (p8 Z Z Z Z (b4 (a08 Z ?_) (b4 (l3 ?_) f6)))
 all_goals (first | (rw [hO.1];done) | (rw [hO.1];rfl) | (rw [hO.2];done) | (rw [hO.2];rfl))
):p:=h
theorem c1B (h:p:=by
 refine N0 ?_
 refine zgo ?_
 refine a7e ?_
 refine zgo ?_
 refine e6 (C9 Z (a08 Z ?_))
 all_goals ((first | rfl | (simp_all;done) | (simp_all;omega)))
):p:=h
theorem c7Z (h:p:=by
 refine zgo ?_
 refine ⟨(i+1),?_,?_,⟨⟨_,Z,by (first | rfl | (rw [Z2 J];done) | (rw [a2C J];done) | (rw [Z2 J];rfl) | (rw [a2C J];rfl) | (rw [Z2 J,List.map_append];rfl))⟩,Z,⟨⟨_,Z,by (first | rfl | (rw [Z2 J];done) | (rw [a2C J];done) | (rw [Z2 J];rfl) | (rw [a2C J];rfl) | (rw [Z2 J,List.map_append];rfl))⟩,Z,⟨⟨_,Z,by (first | rfl | (rw [Z2 J];done) | (rw [a2C J];done) | (rw [Z2 J];rfl) | (rw [a2C J];rfl) | (rw [Z2 J,List.map_append];rfl))⟩,Z,trivial⟩⟩⟩,⟨⟨_,Z,by (first | rfl | (rw [Z2 J];done) | (rw [a2C J];done) | (rw [Z2 J];rfl) | (rw [a2C J];rfl) | (rw [Z2 J,List.map_append];rfl))⟩,Z,Z,trivial⟩,Z,Z,Z⟩
 ·omega
 omega
):p:=h
theorem c5W (h:p:=by
 refine zgo ?_
 refine e6 (p8 Z Z Z Z (b4 (d6 Z ?_) (b4 (l3 ?_) f6)))
 all_goals (first | rfl | (rw [c17 J];done) | (rw [c17 J];rfl) | (rw [b84 J];done) | (rw [b84 J];rfl) | (rw [b87 h0 J];done) | (rw [b87 h0 J];rfl))
):p:=h
theorem c70 (h:p:=by
 refine G7 (Gh.sub 7 3 np Z Z Z) (G7 (Gh.sub 8 4 np Z Z Z) (G7 (Gh.sub 9 5 np Z Z Z) (G7 (Gh.sub 10 6 np Z Z Z) (b6 ⟨(true,0+1),?_,?_,⟨⟨_,Z,by rfl⟩,Z,⟨⟨_,Z,by rfl⟩,Z,trivial⟩⟩,⟨⟨_,Z,by (first | rfl | (rw [w9,List.map_append];rfl))⟩,Z,Z,⟨⟨_,Z,by (first | rfl | (rw [w9,List.map_append];rfl))⟩,Z,Z,⟨⟨_,Z,by (first | rfl | (rw [w9,List.map_append];rfl))⟩,Z,Z,⟨⟨_,Z,by (first | rfl | (rw [w9,List.map_append];rfl))⟩,Z,Z,⟨⟨_,Z,by (first | rfl | (rw [w9,List.map_append];rfl))⟩,Z,Z,⟨⟨_,Z,by (first | rfl | (rw [w9,List.map_append];rfl))⟩,Z,Z,trivial⟩⟩⟩⟩⟩⟩,Z,Z,Z⟩))))
 ·exact ⟨by dsimp only;omega,λe=>by cases e⟩
 dsimp only;omega
):p:=h
theorem c71 (h:p:=by
 refine G7 (Gh.sub 7 3 np Z Z Z) (G7 (Gh.sub 8 4 np Z Z Z) (G7 (Gh.sub 9 5 np Z Z Z) (G7 (Gh.sub 10 6 np Z Z Z) (b6 ⟨(true,i+1),?_,?_,⟨⟨_,Z,by rfl⟩,Z,⟨⟨_,Z,by rfl⟩,Z,trivial⟩⟩,⟨⟨_,Z,by (first | rfl | (rw [w9,List.map_append];rfl))⟩,Z,Z,⟨⟨_,Z,by (first | rfl | (rw [w9,List.map_append];rfl))⟩,Z,Z,⟨⟨_,Z,by (first | rfl | (rw [w9,List.map_append];rfl))⟩,Z,Z,⟨⟨_,Z,by (first | rfl | (rw [w9,List.map_append];rfl))⟩,Z,Z,⟨⟨_,Z,by (first | rfl | (rw [w9,List.map_append];rfl))⟩,Z,Z,⟨⟨_,Z,by (first | rfl | (rw [w9,List.map_append];rfl))⟩,Z,Z,trivial⟩⟩⟩⟩⟩⟩,Z,Z,Z⟩))))
 ·exact ⟨by dsimp only;omega,λe=>by cases e⟩
 dsimp only;omega
):p:=h
theorem c1C (h:p:=by
 refine zgo ?_
 refine ⟨(i+1),?_,?_,⟨⟨_,Z,by rfl⟩,Z,⟨⟨_,Z,by rfl⟩,Z,trivial⟩⟩,⟨⟨_,Z,by (first | (rw [c63 (by assumption),List.map_append];rfl) | (rw [c64 (by assumption)];done))⟩,Z,Z,trivial⟩,Z,Z,Z⟩
 ·omega
 omega
):p:=h
theorem c72 (h:p:=by
 refine zgo ?_
 refine ⟨(i+1),?_,?_,⟨⟨_,Z,by rfl⟩,Z,trivial⟩,trivial,Z,Z,Z⟩
 ·exact ⟨by omega,n7 hinv.2 (c0A J ⟨s7.mp i1,s7.mp i1,s7.mp i1⟩ J (λh=>by omega))⟩
 omega
):p:=h
theorem a1k (h:p:=by
 exact ⟨⟨_,Z,by rfl⟩,Z,Z,trivial⟩
):p:=h
theorem c73 (h:p:=by
 refine vm3 ?_
 refine n9 ?_
 refine b3Y ?_
 refine n9 ?_
 refine c1q ?_
 refine n9 ?_
 refine b5 Z Z (b9 G Z Z Z Z Z J B1) ?_
 refine vm5 ?_
 first | refine l2 G Z Z Z Z Z (V9 J J) Z Z Z Z Z (Nat.le_of_ble_eq_true Z) Z ?_ | refine l2 G Z Z Z Z Z (by simp;exact ⟨by omega,Z⟩) Z Z Z Z Z (Nat.le_of_ble_eq_true Z) Z ?_
 refine zfo ?_
 all_goals (first | rfl | exact a2M | (simp only [List.nil_append];exact a2M))
):p:=h
theorem b9G (h:p:=by
 refine zf1 ?_
 all_goals exact c2o
):p:=h
theorem c5X (h:p:=by
 refine zf1 ?_
 all_goals exact c2p
):p:=h
theorem c74 (h:p:=by
 refine zgo ?_
 refine e6 (p8 Z Z Z Z (b4 (d6 Z ?_) (b4 (l3 ?_) f6)))
 all_goals (first | rfl | (rw [c1X i1];done) | (rw [c1X i1];rfl) | (rw [c1Y i1];done) | (rw [c1Y i1];rfl))
):p:=h
theorem c5Y (h:p:=by
 refine zf1 ?_
 all_goals (first | rfl | (simp only [okRts,h1,Bool.true_and,Bool.false_and];done) | (have e8:rs.length=8:=Int.ofNat_inj.mp h2;simp only [okRts,h1,e8,decide_true,Bool.true_and,W3,Bool.not_not];done) | (simp only [okRts,h1,show ¬ rs.length=8 from (λh=>h2 (by rw [h];rfl)),decide_false,Bool.false_and,Bool.and_false];done))
):p:=h
theorem c1D (h:p:=by
 refine e6 (p8 Z Z Z Z (b4 (a08 Z ?_) (b4 (l3 ?_) (b4 (l3 ?_) f6))))
 all_goals clear hK7 K7
 all_goals (first | (rw [hO.1];rfl) | (rw [hO.2.1];rfl) | (rw [hO.2.1];done) | (rw [hO.2.2];rfl) | (rw [hO.2.2];done))
):p:=h
theorem b9H (h:p:=by
 refine zf1 ?_
 all_goals ((have e0:((UInt8.toNat 64:Nat):Int)=64:=Z;cases e1:Y3 x.c<;>cases e2:Y3 x.r<;>cases e3:l8 x.c 64<;>simp_all [D4]<;>omega))
):p:=h
theorem c77 (h:p:=by
 refine zgo ?_
 refine ⟨(i+1),?_,?_,⟨⟨_,Z,by rfl⟩,Z,⟨⟨_,Z,by rfl⟩,Z,trivial⟩⟩,⟨⟨_,Z,by (first | (rw [b8E J,List.map_append];rfl) | (rw [b8E J];done) | (rw [b8E J];rfl) | (rw [c6K J];done))⟩,Z,Z,trivial⟩,Z,Z,Z⟩
 ·omega
 omega
):p:=h
theorem c1E (h:p:=by
 refine zgo ?_
 refine ⟨(i+1),?_,?_,⟨⟨_,Z,by rfl⟩,Z,trivial⟩,trivial,Z,Z,Z⟩
 ·exact ⟨by omega,n7 hinv.2 (by first | exact c5c i1 | exact c5d i1)⟩
 omega
):p:=h
theorem c78 (h:p:=by
 refine n9 ?_
 refine b9y ?_
 refine vm6 ?_
 refine zgo ?_
 refine ⟨(i+1),?_,?_,⟨⟨_,Z,by rfl⟩,Z,⟨⟨_,Z,by rfl⟩,Z,trivial⟩⟩,⟨⟨_,Z,by (first | (rw [c4Y J J,List.map_append];rfl) | (rw [c4Z J J,List.map_append];rfl))⟩,Z,Z,trivial⟩,Z,Z,Z⟩
 ·omega
 omega
):p:=h
theorem c5Z (h:p:=by
 refine zf1 ?_
 all_goals exact c2q
):p:=h
theorem c79 (h:p:=by
 refine n9 ?_
 refine c8 2 Z Z Z (ArgsOK.of Z) (b2J (a66 sl i) _ (by have:=@a6b sl i;have:=@X4 sl i;omega) (λx hx=>c0V hF J (u9.mpr J) hx)) Z Z ?_
 refine zgn ?_
 refine a2v ?_
 refine G7 (Gh.sub 1 0 np Z Z Z) (b6 ⟨(i+1),?_,?_,⟨⟨_,Z,by rfl⟩,Z,⟨⟨_,Z,by rfl⟩,Z,trivial⟩⟩,⟨⟨_,Z,by (first | (rw [b8G J];done) | (rw [b8H J];done))⟩,Z,Z,trivial⟩,Z,Z,Z⟩)
 ·omega
 omega
):p:=h
theorem c8a (h:p:=by
 refine n9 ?_
 refine c8 4 Z Z Z (ArgsOK.of Z) (a1l (pnS q i) ⟨_,_⟩ J) Z Z ?_
 refine zgn ?_
 refine a2v ?_
 refine G7 (Gh.sub 3 1 np Z Z Z) (b6 ⟨(i+1),?_,?_,⟨⟨_,Z,by rfl⟩,Z,⟨⟨_,Z,by rfl⟩,Z,trivial⟩⟩,⟨⟨_,Z,by (first | (rw [b1h J,List.map_append];rfl) | (rw [b1h J];done) | (rw [b1h J];rfl) | (rw [c1Z J];done))⟩,Z,Z,trivial⟩,Z,Z,Z⟩)
 ·omega
 omega
):p:=h
theorem c8b (h:p:=by
 refine b7 (rs:=[11]) Y Z (AllB.cons ?_ AllB.nil)
 refine g8 [1,2,3] Z Z (m4 G Z Z Z Z Z Z Z Z Z Z Z (b6 ⟨Z,?_⟩))
 refine d4 12 Z Y Y Z Z Z Z (c6 Z Z) (C4 Y (hK14 _ ?_))
 clear hK14 K14
 refine e6 (p8 Z Z Z Z (b4 (a08 Z ?_) (b4 (l3 ?_) f6)))
 all_goals (first | (rw [hB.1];rfl) | (rw [hB.2];rfl) | (rw [hB.2];done) | (rw [b0Z hB,h4];rfl) | (rw [b0Z hB,h4];simp;done))
):p:=h
theorem b9I (h:p:=by
 exact ⟨⟨_,Z,by (first | rfl | (congr 2;omega))⟩,Z,⟨⟨_,Z,by (first | rfl | (congr 2;omega))⟩,Z,trivial⟩⟩
):p:=h
theorem c50 (h:p:=by
 refine e6 (m8 Z Z Z Z (b4 (l3 ?_) (b4 (d6 Z ?_) (b4 (d6 Z ?_) (b4 (d6 Z ?_) f6)))))
 all_goals (rfl)
):p:=h
theorem c52 (h:p:=by
 all_goals ((first | rfl | (simp_all;done) | (simp_all;omega)))
):p:=h
theorem c1F (h:p:=by
 refine a42 ?_
 all_goals (first | (rw [c4B J];done) | (rw [b8m J,htn];done) | (rw [b8m J,← htn];done))
):p:=h
theorem c2Z (h:p:=by
 refine e6 (m8 Z Z Z Z (b4 (d6 Z ?_) (b4 (d6 Z ?_) (b4 (d6 Z ?_) (b4 (C6 Z ?_) (b4 (l3 ?_) (b4 (l3 ?_) (b4 (l3 ?_) f6))))))))
 all_goals (rfl)
):p:=h
theorem c8c (h:p:=by
 refine b7 (rs:=[5]) a8 Z (AllB.cons ?_ AllB.nil)
 refine b2G ?_
 refine b7 (rs:=[6]) a8 Z (AllB.cons ?_ AllB.nil)
 refine b2G ?_
 refine H4 ?_
 exact c2Z
):p:=h
theorem c1G (h:p:=by
 refine zf1 ?_
 all_goals (first | rfl | (simp only [b0q,h1,Bool.true_and,Bool.false_and];done) | (simp only [b0q, *,Bool.true_and,Bool.false_and];done))
):p:=h
theorem C7 (h:p:=by
 exact Nat.zero_le _
):p:=h
theorem c8d (h:p:=by
 try rw [h1]
 try simp only [rfb] at h1
 refine d3 (λK5 hK5=>?_)
 refine b8 ?_
 refine vm5 ?_
 refine b5 Z Z (w5 G Z Z Z Z) ?_
 refine c1r ?_
 refine c1t ?_
 refine hK5 _ ?_
 clear hK5 K5
 refine e6 (m8 Z Z Z Z (b4 (I5 ?_) (b4 (I5 ?_) (b4 (l3 ?_) f6))))
 all_goals clear hK3 K3
 all_goals (first | rfl | (exfalso;simp_all;done))
):p:=h
theorem c54 (h:p:=by
 refine e6 (m8 Z Z Z Z (b4 (d6 Z ?_) (b4 (d6 Z ?_) f6)))
 all_goals exact c5H
):p:=h
theorem c55 (h:p:=by
 refine zf1 ?_
 all_goals ((first | (simp only [b4O];rw [if_pos J];done) | (simp only [b4O];rw [if_neg J,if_pos J];done) | (simp only [b4O];rw [if_neg J,if_neg J];done)))
):p:=h
theorem b7d (h:p:=by
 exact ⟨⟨_,Z,by exact congrArg (Row.row _ _) (by rw [b6p])⟩,Z,Z,trivial⟩
):p:=h
theorem a8c (h:p:=by
 exact ⟨⟨_,Z,by rfl⟩,Z,trivial⟩
):p:=h
theorem b7e (h:p:=by
 exact ⟨⟨_,Z,by rfl⟩,Z,Z,⟨⟨_,Z,by rfl⟩,Z,Z,trivial⟩⟩
):p:=h
theorem c8e (h:p:=by
 exact ⟨by omega,n7 hinv.2 (I1.mpr ⟨s7.mp i1,s7.mp i1,by omega,(λj hj=>by have:=a0W.mp (a8K.mp (show G3 (λj=>decide ((wa.getD j default).q=(wa.getD i default).q)) i < 0 by omega)) j hj;exact of_decide_eq_false this),c2R⟩)⟩
):p:=h
theorem c56 (h:p:=by
 refine zf1 ?_
 all_goals (rw [← c4V hl.1];simp only [szF]<;>(first | (rw [if_pos i1];done) | (rw [if_neg J];done) | (rw [if_neg J];rw [c0X i1];done)))
):p:=h
theorem c57 (h:p:=by
 refine zf1 ?_
 all_goals (simp only [c05];first | (rw [if_pos (by assumption)];done) | (rw [if_neg J,if_pos J];done) | (rw [if_neg J,if_neg J];done))
):p:=h
theorem c58 (h:p:=by
 refine zf1 ?_
 all_goals (simp only [a4R];first | (rw [if_pos J];done) | (rw [if_neg J,if_pos J];done) | (rw [if_neg J,if_neg J];done))
):p:=h
theorem c8f (h:p:=by
 refine a42 ?_
 all_goals exact c2r
):p:=h
theorem c8g (h:p:=by
 refine zgo ?_
 refine ⟨(i+1),?_,?_,⟨⟨_,Z,by rfl⟩,Z,trivial⟩,trivial,Z,Z,Z⟩
 ·exact ⟨by omega,n7 hinv.2 b9s⟩
 omega
):p:=h
theorem c59 (h:p:=by
 refine zgo ?_
 refine ⟨(i+1),?_,?_,⟨⟨_,Z,by rfl⟩,Z,trivial⟩,trivial,Z,Z,Z⟩
 ·exact ⟨by omega,n7 hinv.2 (by simp_all [fdP,emP])⟩
 omega
):p:=h
theorem c6a (h:p:=by
 refine zf1 ?_
 all_goals (simp only [szQ];first | (rw [if_pos i1];done) | (rw [if_neg J];done) | (rw [if_neg J,b5D i1];done))
):p:=h
theorem b4X (h:p:=by
 refine zf1 ?_
 all_goals exact b60
):p:=h
theorem c8h (h:p:=by
 refine zgo ?_
 refine ⟨(i+1),?_,?_,⟨⟨_,Z,by rfl⟩,Z,⟨⟨_,Z,by rfl⟩,Z,trivial⟩⟩,⟨⟨_,Z,by (first | (rw [c6N J];done) | (rw [c6O J,List.map_append];rfl))⟩,Z,Z,trivial⟩,Z,Z,Z⟩
 ·exact ⟨by omega,n7 hinv.2 J⟩
 omega
):p:=h
theorem c8i (h:p:=by
 refine c1r ?_
 refine c1t ?_
 refine hK6 _ ?_
 clear hK6 K6
 refine e6 (m8 Z Z Z Z (b4 (d6 Z ?_) (b4 (d6 Z ?_) (b4 (l3 ?_) f6))))
 all_goals (first | rfl | (exfalso;simp_all;done))
):p:=h
theorem c1H (h:p:=by
 refine zf1 ?_
 all_goals (first | rfl | (rw [c43 i1];done) | (rw [c44 i1];done))
):p:=h
theorem c8j (h:p:=by
 refine zgn ?_
 refine p6 (B4 (Gh.nestX (id:=6) m.cp Z (by simp only [List.length_set,List.length_map])) ?_)
 refine zgo ?_
 refine e6 (m8 Z Z Z Z (b4 (d6 Z ?_) (b4 (d6 Z ?_) (b4 (d6 Z ?_) (b4 (C6 Z ?_) (b4 (l3 ?_) (b4 (l3 ?_) f6)))))))
 all_goals (rfl)
):p:=h
theorem c8k (h:p:=by
 refine zgo ?_
 refine ⟨(i+1),?_,?_,⟨⟨_,Z,by rfl⟩,Z,⟨⟨_,Z,by rfl⟩,Z,trivial⟩⟩,⟨⟨_,Z,by (first | (rw [c4I i1,List.map_append];rfl) | (rw [c4J i1];done))⟩,Z,Z,trivial⟩,Z,Z,Z⟩
 ·omega
 omega
):p:=h
theorem c22 (h:p:=by
 refine zgo ?_
 refine e6 (p8 Z Z Z Z (b4 (I5 ?_) (b4 (l3 ?_) (b4 (l3 ?_) f6))))
 all_goals exact c2s
):p:=h
theorem c23 (h:p:=by
 refine zgo ?_
 refine ⟨(i+1),?_,?_,⟨⟨_,Z,by rfl⟩,Z,⟨⟨_,Z,by rfl⟩,Z,trivial⟩⟩,⟨⟨_,Z,by (rw [b1B,List.map_append];rfl)⟩,Z,Z,trivial⟩,Z,Z,Z⟩
 ·exact ⟨by omega,n7 hinv.2 (by assumption)⟩
 omega
):p:=h
theorem b9J (h:p:=by
 refine zgo ?_
 refine e6 (p8 Z Z Z Z (b4 (d6 Z ?_) (b4 (l3 ?_) f6)))
 all_goals exact b60
):p:=h
theorem b51 (h:p:=by
 refine e6 (p8 Z Z Z Z (b4 (d6 Z ?_) (b4 (l3 ?_) f6)))
 all_goals ((rw [hN]))
):p:=h
theorem b1D (h:p:=by
 exact ⟨⟨_,Z,by (rw [b6j];rfl)⟩,Z,Z,trivial⟩
):p:=h
theorem c24 (h:p:=by
 refine zgo ?_
 refine ⟨(i+1),?_,?_,⟨⟨_,Z,by rfl⟩,Z,trivial⟩,trivial,Z,Z,Z⟩
 ·exact ⟨by omega,n7 hi.2 (a8Q.mpr ⟨by omega,by first | exact .inl J | exact .inr ⟨by assumption,by assumption⟩⟩)⟩
 omega
):p:=h
theorem c25 (h:p:=by
 refine zf1 ?_
 all_goals exact c2t
):p:=h
theorem c26 (h:p:=by
 refine zf1 ?_
 all_goals exact c2u
):p:=h
theorem c27 (h:p:=by
 refine zf1 ?_
 all_goals exact c2v
):p:=h
theorem c28 (h:p:=by
 refine zf1 ?_
 all_goals exact c2w
):p:=h
theorem b9K (h:p:=by
 refine zgo ?_
 refine e6 (p8 Z Z Z Z (b4 (I5 ?_) (b4 (l3 ?_) f6)))
 all_goals exact b60
):p:=h
theorem c29 (h:p:=by
 exact ⟨by omega,n7 hinv.2 (I1.mpr ⟨s7.mp i1,s7.mp i1,by omega,λj hj=>hk.2 j J,c2R⟩)⟩
):p:=h
theorem c3a (h:p:=by
 exact ⟨by omega,n7 hinv.2 (by first | exact c1U i1 (a9C.mpr (ec3.mp i1)) | exact c1V i1 (a3i.mpr ⟨s7.mp i1,s7.mp i1,s7.mp i1⟩) (a8K.mp J))⟩
):p:=h
theorem c3b (h:p:=by
 refine zgo ?_
 refine ⟨(i+1),?_,?_,⟨⟨_,Z,by rfl⟩,Z,⟨⟨_,Z,by rfl⟩,Z,trivial⟩⟩,⟨⟨_,Z,by (exact congrArg (λz=>Row.row _ _ z) (b8F J))⟩,Z,Z,trivial⟩,Z,Z,Z⟩
 ·omega
 omega
):p:=h
theorem c3c (h:p:=by
 refine b3X ?_
 refine n9 ?_
 refine c1q ?_
 refine zfo ?_
 all_goals (first | rfl | simp)
):p:=h
theorem b52 (h:p:=by
 refine zf1 ?_
 all_goals (first | rfl | (simp_all [m3];done) | (simp_all [m3];omega))
):p:=h
theorem b53 (h:p:=by
 refine zf1 ?_
 all_goals (first | rfl | (simp_all [b4u];done) | (simp_all [b4u];omega))
):p:=h
theorem c3d (h:p:=by
 refine zf1 ?_
 all_goals exact c2x
):p:=h
theorem c3e (h:p:=by
 refine e6 (p8 Z Z Z Z (b4 (a08 Z ?_) (b4 (l3 ?_) f6)))
 all_goals clear hK4 K4
 all_goals (first | (rw [hB.1];rfl) | (rw [hB.2];rfl) | (rw [hB.2];done) | (rw [b0Z hB,h4];rfl) | (rw [b0Z hB,h4];simp;done))
):p:=h
theorem b32 (h:p:=by
 refine zf1 ?_
 all_goals (first | rfl | (simp_all [b8i];done))
):p:=h
theorem c3f (h:p:=by
 refine zgo ?_
 refine ⟨(i+1),?_,?_,⟨⟨_,Z,by rfl⟩,Z,trivial⟩,trivial,Z,Z,Z⟩
 ·exact ⟨by omega,n7 hinv.2 (by first | assumption | exact a0V.mp i1)⟩
 omega
):p:=h
theorem c3g (h:p:=by
 exact ⟨by omega,hinv.2.succ hm (λk hk e=>(b5C.mp h5) ((a9K J).mpr ⟨k,hk,e⟩)) (by first | exact c11 b5U | (obtain rfl:i=0:=J;exact c10))⟩
):p:=h
theorem c3h (h:p:=by
 refine zgn ?_
 refine zgn ?_
 refine e6 (J0 Z (l3 ?_) Z (AftOK.stays Z ?_ Z (AftOK.stays Z ?_ Z (AftOK.stays Z ?_ Z (AftOK.stays Z ?_ Z AftOK.nil)))))
 all_goals (rfl)
):p:=h
theorem c3i (h:p:=by
 refine ⟨(k+1),?_,?_,⟨⟨_,Z,by rfl⟩,Z,trivial⟩,trivial,Z,Z,Z⟩
 ·exact ⟨by omega,n7 hk.2 (c4R i1 i1)⟩
 omega
):p:=h
theorem b54 (h:p:=by
 refine zf1 ?_
 all_goals ((rw [hO];try rw [← hrl];try rfl))
):p:=h
theorem c3j (h:p:=by
 refine zgo ?_
 refine ⟨(k+1),?_,?_,⟨⟨_,Z,by rfl⟩,Z,trivial⟩,trivial,Z,Z,Z⟩
 ·exact ⟨by omega,b4m hk.2 i1⟩
 omega
):p:=h
theorem b9L (h:p:=by
 refine a42 ?_
 all_goals (first | rfl | (simp_all;done))
):p:=h
theorem b55 (h:p:=by
 refine zf1 ?_
 all_goals (first | rfl | (simp_all [c0J];done))
):p:=h
theorem b56 (h:p:=by
 refine zf1 ?_
 all_goals (first | rfl | (simp_all [eqL];done))
):p:=h
theorem b9M (h:p:=by
 refine zf1 ?_
 all_goals (first | rfl | (simp_all [b4r];done) | (simp_all [b4r];omega))
):p:=h
theorem b9N (h:p:=by
 refine zf1 ?_
 all_goals (first | rfl | (simp_all [b4v];done) | (simp_all [b4v];omega))
):p:=h
theorem a9U (h:p:=by
 refine zf1 ?_
 all_goals (rfl)
):p:=h
theorem c3k (h:p:=by
 exact ⟨⟨_,Z,by (first | rfl | (simp;done) | (simp;omega))⟩,Z,⟨⟨_,Z,by (first | rfl | (simp;done) | (simp;omega))⟩,Z,trivial⟩⟩
):p:=h
theorem b57 (h:p:=by
 first | (exfalso;omega) | (exfalso;simp_all;done)
):p:=h
theorem c3l (h:p:=by
 exact ⟨⟨_,Z,by rfl⟩,Z,Z,⟨⟨_,Z,by rfl⟩,Z,Z,⟨⟨_,Z,by rfl⟩,Z,Z,trivial⟩⟩⟩
):p:=h
theorem c3m (h:p:=by
 refine zf1 ?_
 all_goals (first | (rw [b5L J];done) | (rw [a8T J];done) | (rw [a8T J];rfl))
):p:=h
theorem b9O (h:p:=by
 refine zf1 ?_
 all_goals (first | rfl | (simp_all [lessW];done))
):p:=h
theorem b9P (h:p:=by
 refine zf1 ?_
 all_goals (first | rfl | (simp_all [b8g];done))
):p:=h
theorem b9Q (h:p:=by
 refine zf1 ?_
 all_goals (first | rfl | (simp_all [c06];done))
):p:=h
theorem c3n (h:p:=by
 exact ⟨⟨_,Z,by rfl⟩,Z,⟨⟨_,Z,by rfl⟩,Z,⟨⟨_,Z,by rfl⟩,Z,trivial⟩⟩⟩
):p:=h
theorem c3o (h:p:=by
 refine zgo ?_
 refine e6 (p8 Z Z Z Z (b4 (b1V ?_) (b4 (l3 ?_) f6)))
 all_goals (rfl)
):p:=h
theorem c3p (h:p:=by
 have hE:=c4W (l:=l) J
 refine zf1 ?_
 all_goals (first | (rw [hE];rfl) | (rw [hJ];done))
):p:=h
theorem c3q (h:p:=by
 first | (exfalso;omega) | exact absurd i1 (hne _ (p4.mpr ⟨k,by omega,Z⟩))
):p:=h
theorem c3r (h:p:=by
 all_goals (first | rfl | (exact (hbn h1).symm) | (rw [hbn h1];done) | (simp_all;done) | simp)
):p:=h
theorem c3s (h:p:=by
 refine zf1 ?_
 all_goals (first | rfl | (simp_all [fdP];done) | (simp_all [fdP];rfl))
):p:=h
theorem c3t (h:p:=by
 refine zf1 ?_
 all_goals (first | rfl | (simp_all [a0b];done) | (simp_all [a0b];rfl))
):p:=h
theorem b9R (h:p:=by
 refine e6 (C9 Z (l3 ?_))
 all_goals (rfl)
):p:=h
theorem a9V (h:p:=by
 try rw [b2z J] at hO
 exact ws1
):p:=h
theorem b9S (h:p:=by
 obtain ⟨m1,ir,ok⟩:=sr
 dsimp only at cS hE hir hsm hiq
 refine zgo ?_
 refine a7 Z (a01 (n:=31) G Z Z Z Tryz.func60 Z Y Z Z Z Z ?_)
 intro b hen hpin
 refine zgo ?_
 refine a7 Z (y9 14 Z Z Z Z Z Z Z (a7 Z (y9 15 Z Z Z Z Z Z Z (a7 Z (d8 G 16 Z Z Z Z Z ?_)))))
 refine zgo ?_
 refine a7 Z (c8 20 Z Z Z (ArgsOK.of Z) cS Z Z ?_)
 refine zgo ?_
 refine a7 Z (d8 G 21 Z Z Z Z Z ?_)
 refine zcd (λk0=>?_) (λk0=>?_)
 ·refine zgo ?_
  refine e6 ⟨.inr Z,_,Z,Z,?_⟩
  have hE2:C2 m s=(m,qmB):=hE.trans (if_neg (by simp [k0]))
  have hO:=H2 h1 h2 h3 hE2
  refine zgo ?_
  refine e6 ⟨.inr Z,_,Z,Z,?_⟩
  refine b6 ⟨Z,?_⟩
  refine zsa 8 ?_
  refine zsa 9 ?_
  refine b7 (rs:=[10]) Y Z (AllB.cons ?_ AllB.nil)
  refine f8 [0,1,2,3,4,5,6,7,9,10] Z Z ?_
  refine zgo ?_
  refine ⟨Z,?_⟩
  refine zsa 11 ?_
  refine C4 Y ?_
  refine znk ?_
  refine e6 ⟨.inr Z,_,Z,Z,?_⟩
  refine zgo ?_
  refine a7 Z (d8 G 22 Z Z Z Z Z ?_)
  refine zgo ?_
  refine a7 Z (c8 26 Z Z Z (ArgsOK.of Z) (s5 _ x (by first | assumption | exact hsm (by assumption)) hx) Z Z ?_)
  refine zgo ?_
  refine a7 Z (b5 Z Z (o9 G Z Z Z) ?_)
  refine zcd (λk1=>?_) (λk1=>?_)
  ·exact a9V
  try rw [a1i J] at hO
  have hrs:=k1
  exact ws1
 refine zgo ?_
 refine a7 Z (d8 G 22 Z Z Z Z Z ?_)
 refine zwf ?_
 refine zgo ?_
 refine e6 ⟨.inr Z,_,Z,Z,?_⟩
 have hE2:C2 m s=(m1,if ir=-1 then okB else s1 ir):=hE.trans (if_pos k0)
 first | rw [if_neg ((hiq k0).mpr J)] at hE2 | rw [if_pos (Decidable.byContradiction λg=>absurd ((hiq k0).mp g) J)] at hE2
 have hO:=H2 h1 h2 h3 hE2
 refine zgo ?_
 refine e6 ⟨.inr Z,_,Z,Z,?_⟩
 refine b6 ⟨Z,?_⟩
 refine zsa 8 ?_
 refine zsa 9 ?_
 refine b7 (rs:=[10]) Y Z (AllB.cons ?_ AllB.nil)
 refine f8 [0,1,2,3,4,5,6,7,9,10] Z Z ?_
 refine zgo ?_
 refine ⟨Z,?_⟩
 refine zsa 11 ?_
 refine C4 Y ?_
 refine znk ?_
 refine e6 ⟨.inr Z,_,Z,Z,?_⟩
 refine zgo ?_
 refine a7 Z (d8 G 23 Z Z Z Z Z ?_)
 refine zgo ?_
 refine a7 Z (c8 27 Z Z Z (ArgsOK.of Z) (s5 _ x (by first | assumption | exact hsm (by assumption)) hx) Z Z ?_)
 refine zgo ?_
 refine a7 Z (b5 Z Z (o9 G Z Z Z) ?_)
 refine zcd (λk2=>?_) (λk2=>?_)
 ·exact a9V
 try rw [a1i J] at hO
 have hrs:=k2
 refine zgo ?_
 refine a7 Z (b5 Z Z (f9 Z (ArgsOK.of Z) (t7 x ⟨s,_⟩ hx ⟨by show s.size<=_;omega,by first | exact H1 (by decide) | exact F2 J | exact F2 (Int.ofNat_le.1 hrs)⟩) Z) ?_)
 refine zgo ?_
 refine e6 (m8 Z Z Z Z (b4 (d6 Z ?_) (b4 (d6 Z ?_) (b4 (d6 Z ?_) (b4 (C6 Z ?_) (b4 (l3 ?_) (b4 (l3 ?_) (b4 (l3 ?_) (b4 (l3 ?_) f6)))))))))
 all_goals (first | (rw [hO];done) | (rw [hO];rfl))
):p:=h
theorem b9T (h:p:=by
 refine zgo ?_
 refine a7 Z (b5 Z Z (f9 Z (ArgsOK.of Z) (Z4 x ⟨s,_⟩ hx ⟨by show s.size<=_;omega,by first | exact H1 (by decide) | exact F2 J | exact F2 (Int.ofNat_le.1 hrs)⟩) Z) ?_)
 exact b1C
):p:=h
theorem b1E (h:p:=by
 refine zgo ?_
 refine a7 Z (b5 Z Z (o9 G Z Z Z) ?_)
 refine zcd (λk0=>?_) (λk0=>?_)
 ·try rw [b2z J] at hO
  exact b9T
 try rw [a1i J] at hO
 have hrs:=k0
 exact b9T
):p:=h
theorem c3u (h:p:=by
 refine b7 (rs:=[6]) Y Z (AllB.cons ?_ AllB.nil)
 refine g8 [1,2,3,4,5,8,9] Z Z (Z3 (Gh.forget (id:=7) (k:=4) Z Z)<|Z3 (Gh.keep [1,2,3,4,5,6,7,8,9,11] Z)<|a4N (tx:=35) 13 rfl rfl rfl rfl rfl<|G8 G (by exact Nat.le_of_ble_eq_true Z) rfl rfl rfl rfl rfl rfl rfl rfl rfl rfl (by first | (simp only [List.length_map,List.length_cons,List.length_nil];omega) | (simp;omega)) rfl rfl (b6 ⟨Z,?_⟩))
 refine d4 7 Z Y Y Z Z Z Z (m9 G Z Z Z Z) ?_
 refine b7 (rs:=[8]) Y Z (AllB.cons ?_ AllB.nil)
 refine g8 [1,2,3,4,5,8,9] Z Z (m4 G Z Z Z Z Z Z Z Z Z Z Z (b6 ⟨Z,?_⟩))
 exact a4u
):p:=h
theorem c3v (h:p:=by
 first | refine g8 [] Z Z (b5 Z Z (b9 G Z Z Z Z Z J a7V) (b6 ⟨Z,?_⟩)) | refine g8 [] Z Z (b5 Z Z (b9 G Z Z Z Z Z J a7U) (b6 ⟨Z,?_⟩)) | refine g8 [] Z Z (b5 Z Z (b9 G Z Z Z Z Z J a7S) (b6 ⟨Z,?_⟩))
 refine b7 (rs:=[9,13]) a8 Z (AllB.cons ?_ (AllB.cons ?_ AllB.nil))
 ·first | refine g8 [] Z Z (b5 Z Z (d7 G Z Z Z Z (X3 J) Z) (b6 ⟨Z,?_⟩)) | refine g8 [] Z Z (b5 Z Z (d7 G Z Z Z Z (a0c J J) Z) (b6 ⟨Z,?_⟩)) | refine g8 [] Z Z (b5 Z Z (d7 G Z Z Z Z (a0Y J J) Z) (b6 ⟨Z,?_⟩))
  refine b7 (rs:=[13]) a8 Z (AllB.cons ?_ AllB.nil)
  exact ws2
 first | refine g8 [] Z Z (b5 Z Z (d7 G Z Z Z Z (X3 J) Z) (b6 ⟨Z,?_⟩)) | refine g8 [] Z Z (b5 Z Z (d7 G Z Z Z Z (a0c J J) Z) (b6 ⟨Z,?_⟩)) | refine g8 [] Z Z (b5 Z Z (d7 G Z Z Z Z (a0Y J J) Z) (b6 ⟨Z,?_⟩))
 refine b7 (rs:=[9]) a8 Z (AllB.cons ?_ AllB.nil)
 exact ws2
):p:=h
theorem c3w (h:p:=by
 refine b7 (rs:=[5]) Y Z (AllB.cons ?_ AllB.nil)
 refine g8 [1,2,3,4,7] Z Z (Z3 (Gh.forget (id:=6) (k:=3) Z Z)<|Z3 (Gh.keep [1,2,3,4,5,6,7,11] Z)<|a4N (tx:=28) 13 rfl rfl rfl rfl rfl<|G8 G (by exact Nat.le_of_ble_eq_true Z) rfl rfl rfl rfl rfl rfl rfl rfl rfl rfl (by first | (simp only [List.length_map,List.length_cons,List.length_nil];omega) | (simp;omega)) rfl rfl (b6 ⟨Z,?_⟩))
 refine d4 6 Z Y Y Z Z Z Z (m9 G Z Z Z Z) ?_
 refine b7 (rs:=[7]) Y Z (AllB.cons ?_ AllB.nil)
 refine g8 [1,2,3,4,7] Z Z (m4 G Z Z Z Z Z Z Z Z Z Z Z (b6 ⟨Z,?_⟩))
 exact a4u
):p:=h
theorem b33 (h:p:=by
 refine J5 ?_
 exact a4u
):p:=h
theorem c3x (h:p:=by
 refine b7 (rs:=[10]) a8 Z (AllB.cons ?_ AllB.nil)
 refine g8 [0,1,2,3,4,10] Z Z (Z3 (Gh.forget (id:=7) (k:=4) Z Z)<|Z3 (Gh.keep [0,1,2,3,4,6,7,10,12] Z)<|a4N (tx:=58) 14 rfl rfl rfl rfl rfl<|G8 G a0B rfl rfl rfl rfl rfl rfl rfl rfl rfl rfl R2 rfl rfl (b6 ⟨Z,?_⟩))
 refine zsa 11 ?_
 refine b7 (rs:=[12]) a8 Z (AllB.cons ?_ AllB.nil)
 refine f8 [0,1,2,3,4,10] Z Z ?_
 exact b33
):p:=h
theorem c3y (h:p:=by
 refine b7 (rs:=[5]) a8 Z (AllB.cons ?_ AllB.nil)
 refine g8 [1,2,3,4,7] Z Z (Z3 (Gh.forget (id:=6) (k:=3) Z Z)<|Z3 (Gh.keep [1,2,3,4,5,6,7,11] Z)<|a4N (tx:=28) 13 rfl rfl rfl rfl rfl<|G8 G a0B rfl rfl rfl rfl rfl rfl rfl rfl rfl rfl R2 rfl rfl (b6 ⟨Z,?_⟩))
 refine zsa 6 ?_
 refine b7 (rs:=[7]) a8 Z (AllB.cons ?_ AllB.nil)
 refine f8 [1,2,3,4,7] Z Z ?_
 exact b33
):p:=h
theorem c3z (h:p:=by
 refine zgo ?_
 refine d9 [2,4,40,41] [0] (λ(i:Nat)=>[(8,.v (.int .i64 (F6 rs a c (b12 rs a c) i).2)),(9,.v (.int .i64 (F6 rs a c (b12 rs a c) i).1)),(42,.v (.int .i64 (i:Int)))]) (λ(i:Nat)=>[]) (λ(i:Nat)=>i<=rs.length) (λ(i:Nat)=>rs.length - i) 0 Z Z ?_ ?_ ?_ ?_
 ·exact C7
 ·exact ⟨⟨_,Z,by first | rfl | (simp only [F6];rw [b4t J];done) | (simp only [F6];rw [b4s J];done)⟩,Z,⟨⟨_,Z,by first | rfl | (simp only [F6];rw [b4t J];done) | (simp only [F6];rw [b4s J];done)⟩,Z,⟨⟨_,Z,by first | rfl | (simp only [F6];rw [b4t J];done) | (simp only [F6];rw [b4s J];done)⟩,Z,trivial⟩⟩⟩
 ·exact trivial
 intro i hinv
 refine vm4 ?_
 refine zcd (λk0=>?_) (λk0=>?_)
 ·refine zgo ?_
  refine b0t ?_
  refine zcd (λk1=>?_) (λk1=>?_)
  ·refine zcd (λk2=>?_) (λk2=>?_)
   ·refine zcd (λk3=>?_) (λk3=>?_)
    ·refine zgd ?_
     exact ws8
    exact ws8
   refine zwf ?_
   exact ws8
  refine zwf ?_
  exact ws8
 refine zf1 ?_
 all_goals exact c2y
):p:=h
theorem c3A (h:p:=by
 refine b7 (rs:=[8]) a8 Z (AllB.cons ?_ AllB.nil)
 refine f8 [1,2,5,6] Z Z (c8 8 Z Z Z (ArgsOK.of (by rw [c6I];rfl)) (a02 (x.wa.drop 1) _ (by rw [List.length_drop];omega)) Z Z (b6 ⟨Z,?_⟩))
 refine zsa 9 ?_
 refine b7 (rs:=[10]) a8 Z (AllB.cons ?_ AllB.nil)
 refine f8 [1,2,5,6] Z Z ?_
 exact b33
):p:=h
theorem c3B (h:p:=by
 refine d4 6 Z a8 a8 Z Z Z Z (F5 Z Z Z b5V) ?_
 refine zsa 7 ?_
 refine b7 (rs:=[8]) a8 Z (AllB.cons ?_ AllB.nil)
 refine f8 [1,2] Z Z ?_
 exact b33
):p:=h
theorem c3C (h:p:=by
 refine b7 (rs:=[9]) a8 Z (AllB.cons ?_ AllB.nil)
 refine g8 [0,1,2,3,4,6,8] Z Z (Z3 (Gh.forget (id:=7) (k:=3) Z Z)<|Z3 (Gh.keep [0,1,2,3,4,5,6,7,8,9] Z)<|a4N (tx:=47) 11 rfl rfl rfl rfl rfl<|j3 G a0B rfl rfl rfl rfl rfl rfl rfl rfl rfl R2 rfl rfl (b6 ⟨Z,?_⟩))
 refine zsa 10 ?_
 refine b7 (rs:=[11]) a8 Z (AllB.cons ?_ AllB.nil)
 refine f8 [0,1,2,3,4,6,8] Z Z ?_
 exact b33
):p:=h
theorem b9U (h:p:=by
 refine zgo ?_
 apply x8 [4] [0] 2 13 [] mixed a8 Z Z (λ_ h=>znk h)
 ·exact ws4
 refine zfo ?_
 all_goals exact c2z
):p:=h
theorem b34 (h:p:=by
 refine zcd (λk0=>?_) (λk0=>?_)
 ·refine zcd (λk1=>?_) (λk1=>?_)
  ·exact a2N
  exact a2N
 exact a2N
):p:=h
theorem b9V (h:p:=by
 refine zgo ?_
 refine a7 Z (c8 6 Z Z Z (ArgsOK.of Z) (Ctr.shpTo (a03 m x hs hx) (.cons .s (.cons .s (.cons .s (.cons (.n flM) (.cons .s (.cons .s (.cons .s .nil)))))))) Z Z ?_)
 exact b1C
):p:=h
theorem c3D (h:p:=by
 refine b2G ?_
 refine H4 ?_
 exact c50
):p:=h
theorem c3E (h:p:=by
 refine b7 (rs:=[8]) a8 Z (AllB.cons ?_ AllB.nil)
 refine b2G ?_
 refine b7 (rs:=[9]) a8 Z (AllB.cons ?_ AllB.nil)
 exact c3D
):p:=h
theorem c3F (h:p:=by
 refine zcl (z7 _) ?_
 refine vm5 ?_
 refine s4 G 5 Z Z Z Z Z Z Z Z ?_
 refine vm6 ?_
 exact c77
):p:=h
theorem b35 (h:p:=by
 have hn:=Y5 (k:=l9 w) J
 rw [hl] at hn
 refine zgo ?_
 exact c1y
):p:=h
theorem c3G (h:p:=by
 refine zgo ?_
 refine d9 [0] [] (λ(i:Nat)=>[(3,.v (.int .i64 (a6Q s i))),(4,.v (.int .i64 (i:Int)))]) (λ(i:Nat)=>[]) (λ(i:Nat)=>i<=s.size) (λ(i:Nat)=>s.size - i) 0 Z Z ?_ ?_ ?_ ?_
 ·exact C7
 ·exact a0e
 ·exact trivial
 intro i hinv
 have hi:i<=s.size:=hinv
 have hsl:=a8G s i
 have hbb:=a5B s i
 have hbi:p9 s i=((s.data.toList.getD ((i:Int)).toNat 0).toNat:Int):=Z
 refine vm4 ?_
 refine a41 ?_
 refine zcd (λk0=>?_) (λk0=>?_)
 ·refine c7N ?_
  refine n9 ?_
  refine c5S ?_
  refine zgo ?_
  refine ⟨(i+1),?_,?_,⟨⟨_,Z,by rfl⟩,Z,⟨⟨_,Z,by rfl⟩,Z,trivial⟩⟩,trivial,Z,Z,Z⟩
  ·omega
  omega
 refine zf1 ?_
 all_goals (have e:i=s.size:=J;subst e;rfl)
):p:=h
theorem b9W (h:p:=by
 refine a42 ?_
 exact b68
):p:=h
theorem c3H (h:p:=by
 intro i hinv
 refine vm4 ?_
 refine zcd (λk0=>?_) (λk0=>?_)
 ·refine zgo ?_
  exact c1w
 refine zfo ?_
 all_goals exact b9q
):p:=h
theorem c3I (h:p:=by
 refine zgo ?_
 refine a1j ?_
 refine b65 ?_
 refine zcd (λk0=>?_) (λk0=>?_)
 ·exact c1A
 refine zgo ?_
 refine ⟨(i+1),?_,?_,⟨⟨_,Z,by rfl⟩,Z,trivial⟩,trivial,Z,Z,Z⟩
 ·refine ⟨by omega,n7 hinv.2 ?_⟩;(simp only [a6P,Bool.and_eq_true,decide_eq_true_eq,Bool.not_eq_true',beq_eq_false_iff_ne,ne_eq] at *;omega)
 omega
):p:=h
theorem c3J (h:p:=by
 refine zcd (λk0=>?_) (λk0=>?_)
 ·refine zcl (E7 sl _ hl) ?_
  refine zcd (λk1=>?_) (λk1=>?_)
  ·exact b69
  exact c72
 refine zwf ?_
 exact c72
):p:=h
theorem a4w (h:p:=by
 refine zwt ?_
 exact b9D
):p:=h
theorem c3K (h:p:=by
 refine zcd (λk0=>?_) (λk0=>?_)
 ·refine zcl (D5 m s.c hn) ?_
  refine zcd (λk1=>?_) (λk1=>?_)
  ·exact a2N
  exact a2N
 exact a2N
):p:=h
theorem c3L (h:p:=by
 refine zcd (λk0=>?_) (λk0=>?_)
 ·refine zcd (λk1=>?_) (λk1=>?_)
  ·refine b2H ?_
   exact a2N
  exact a2N
 exact a2N
):p:=h
theorem b58 (h:p:=by
 refine zcl (C5 _ _ _) ?_
 refine zf1 ?_
 exact c52
):p:=h
theorem c3M (h:p:=by
 refine n9 ?_
 refine c8 2 Z Z Z (ArgsOK.of Z) (Y6 sl _ ⟨_,_,_⟩ J J) Z Z ?_
 exact c74
):p:=h
theorem c3N (h:p:=by
 refine n9 ?_
 refine c8 2 Z Z Z (ArgsOK.of Z) (E8 sl _ ⟨_,_,_⟩ J J) Z Z ?_
 exact c74
):p:=h
theorem c3O (h:p:=by
 refine n9 ?_
 refine c8 2 Z Z Z (ArgsOK.of Z) (Y6 sl _ ⟨_,_,_⟩ J J) Z Z ?_
 exact c5W
):p:=h
theorem c3P (h:p:=by
 refine n9 ?_
 refine c8 8 Z Z Z (ArgsOK.of Z) (a0D _ hQ) Z Z ?_
 refine zgo ?_
 exact c54
):p:=h
theorem c3Q (h:p:=by
 refine Ctr.of (n:=12) G Tryz.func166 Z a8 Z Z Z (λw0=>?_)
 exact c7Q
):p:=h
theorem c3R (h:p:=by
 refine Ctr.of (n:=19) G Tryz.func263 Z a8 Z Z Z (λw0=>?_)
 exact ws6
):p:=h
theorem c3S (h:p:=by
 refine Ctr.of (n:=19) G Tryz.func207 Z a8 Z Z Z (λw0=>?_)
 exact ws6
):p:=h
theorem b1F (h:p:=by
 refine zgo ?_
 exact c7Y
):p:=h
theorem c3T (h:p:=by
 refine vm3 ?_
 exact a9U
):p:=h
theorem c3U (h:p:=by
 refine n9 ?_
 refine b9z ?_
 exact c7R
):p:=h
theorem c3V (h:p:=by
 have hO:=b1x (s:=⟨sk,sq,sc,sv⟩) (.inl h1)
 refine zwt ?_
 exact b7c
):p:=h
theorem b36 (h:p:=by
 refine zgo ?_
 refine a7 Z (b5 Z Z (o9 G Z Z Z) ?_)
 refine zcd (λk0=>?_) (λk0=>?_)
 ·try rw [b2z J] at hO
  exact ws1
 try rw [a1i J] at hO
 have hrs:=k0
 exact ws1
):p:=h
theorem c3W (h:p:=by
 obtain ⟨m1,ir,ok⟩:=sr
 dsimp only at cS hE hir hsm hiq
 refine zgo ?_
 refine a7 Z (a01 (n:=31) G Z Z Z Tryz.func60 Z Y Z Z Z Z ?_)
 intro b hen hpin
 refine zgo ?_
 refine a7 Z (y9 14 Z Z Z Z Z Z Z (a7 Z (y9 15 Z Z Z Z Z Z Z (a7 Z (d8 G 16 Z Z Z Z Z ?_)))))
 refine zgo ?_
 refine a7 Z (c8 20 Z Z Z (ArgsOK.of Z) cS Z Z ?_)
 refine zgo ?_
 refine a7 Z (d8 G 21 Z Z Z Z Z ?_)
 refine zcd (λh301=>?_) (λh301=>?_)
 ·refine zgo ?_
  refine e6 ⟨.inr Z,_,Z,Z,?_⟩
  have hE2:C2 m s=(m,qmB):=hE.trans (if_neg (by simp [h301]))
  have hO:=H2 h1 h2 h3 hE2
  refine zgo ?_
  refine e6 ⟨.inr Z,_,Z,Z,?_⟩
  refine b6 ⟨Z,?_⟩
  refine zsa 8 ?_
  refine zsa 9 ?_
  refine b7 (rs:=[10]) Y Z (AllB.cons ?_ AllB.nil)
  refine f8 [0,1,2,3,4,5,6,7,9,10] Z Z ?_
  refine zgo ?_
  refine ⟨Z,?_⟩
  refine zsa 11 ?_
  refine C4 Y ?_
  refine znk ?_
  refine e6 ⟨.inr Z,_,Z,Z,?_⟩
  refine zgo ?_
  refine a7 Z (d8 G 22 Z Z Z Z Z ?_)
  refine zgo ?_
  refine a7 Z (c8 26 Z Z Z (ArgsOK.of Z) (s5 _ x (by first | assumption | exact hsm (by assumption)) hx) Z Z ?_)
  exact b36
 refine zgo ?_
 refine a7 Z (d8 G 22 Z Z Z Z Z ?_)
 refine zwt ?_
 refine p6 (j7 5 [0,1,2,3,4,5,6,7,8,9,10,11,12,13,14,16,17,18,19,20,21] mixed Y Z Z (λr0=>?_) (λ_ h=>h))
 refine zsa 0 ?_
 refine zsa 1 ?_
 refine b7 (rs:=[2]) Y Z (AllB.cons ?_ AllB.nil)
 refine f8 [0,1,2,3,4,5,6,7,8,9,10,11,12,13,14,16,17,18,19,20,21] Z Z (b5 Z Z (f9 Z (ArgsOK.of Z) (w3 ir J J) Z) (b6 ⟨Z,?_⟩))
 refine b7 (rs:=[3]) Y Z (AllB.cons ?_ AllB.nil)
 refine f8 [0,1,2,3,4,5,6,7,8,9,10,11,12,13,14,16,17,18,19,20,21] Z Z ?_
 refine zgo ?_
 refine ⟨Z,?_⟩
 refine zsa 4 ?_
 refine C4 Y ?_
 refine znk ?_
 refine e6 ⟨.inr Z,_,Z,Z,?_⟩
 have hE2:C2 m s=(m1,if ir=-1 then okB else s1 ir):=hE.trans (if_pos h301)
 first | rw [if_neg ((hiq h301).mpr J)] at hE2 | rw [if_pos (Decidable.byContradiction λg=>absurd ((hiq h301).mp g) J)] at hE2
 have hO:=H2 h1 h2 h3 hE2
 refine zgo ?_
 refine e6 ⟨.inr Z,_,Z,Z,?_⟩
 refine b6 ⟨Z,?_⟩
 refine zsa 8 ?_
 refine zsa 9 ?_
 refine b7 (rs:=[10]) Y Z (AllB.cons ?_ AllB.nil)
 refine f8 [0,1,2,3,4,5,6,7,9,10] Z Z ?_
 refine zgo ?_
 refine ⟨Z,?_⟩
 refine zsa 11 ?_
 refine C4 Y ?_
 refine znk ?_
 refine e6 ⟨.inr Z,_,Z,Z,?_⟩
 refine zgo ?_
 refine a7 Z (d8 G 23 Z Z Z Z Z ?_)
 refine zgo ?_
 refine a7 Z (c8 27 Z Z Z (ArgsOK.of Z) (s5 _ x (by first | assumption | exact hsm (by assumption)) hx) Z Z ?_)
 refine zgo ?_
 refine a7 Z (b5 Z Z (o9 G Z Z Z) ?_)
 refine zcd (λk0=>?_) (λk0=>?_)
 ·exact a9V
 try rw [a1i J] at hO
 have hrs:=k0
 refine zgo ?_
 refine a7 Z (b5 Z Z (f9 Z (ArgsOK.of Z) (t7 x ⟨s,_⟩ hx ⟨by show s.size<=_;omega,by first | exact H1 (by decide) | exact F2 J | exact F2 (Int.ofNat_le.1 hrs)⟩) Z) ?_)
 refine zgo ?_
 refine e6 (m8 Z Z Z Z (b4 (d6 Z ?_) (b4 (d6 Z ?_) (b4 (d6 Z ?_) (b4 (C6 Z ?_) (b4 (l3 ?_) (b4 (l3 ?_) (b4 (l3 ?_) (b4 (l3 ?_) f6)))))))))
 all_goals (first | (rw [hO];done) | (rw [hO];rfl))
):p:=h
theorem b59 (h:p:=by
 refine e6 ⟨.inr Z,_,Z,Z,?_⟩
 refine zgo ?_
 refine a7 Z (d8 G 14 Z Z Z Z Z ?_)
 refine zgo ?_
 refine a7 Z (c8 18 Z Z Z (ArgsOK.of Z) (s5 _ x (by first | assumption | exact hsm (by assumption)) hx) Z Z ?_)
 exact b36
):p:=h
theorem c3X (h:p:=by
 refine f8 [1,2] Z Z ?_
 refine J5 ?_
 refine b7 (rs:=[5]) a8 Z (AllB.cons ?_ AllB.nil)
 refine f8 [1,2] Z Z (b5 Z Z (f9 Z (ArgsOK.of Z) (a0E _ _ a1Q a1Q i1) Z) (b6 ⟨Z,?_⟩))
 exact c3B
):p:=h
theorem c3Y (h:p:=by
 refine b7 (rs:=[4]) Y Z (AllB.cons ?_ AllB.nil)
 refine g8 [1,2,3,4,7] Z Z (A8 G 12 Z Z Z Z Z Z Z Z (.v Z (.own Z (.own Z (.own Z .nil)))) Z Z Z Z (b6 ⟨Z,?_⟩))
 exact c3w
):p:=h
theorem c3Z (h:p:=by
 refine b7 (rs:=[4]) a8 Z (AllB.cons ?_ AllB.nil)
 refine f8 [1,2,3,4,7] Z Z (A8 G 12 Z Z Z Z Z Z Z Z (.v Z (.own Z (.own Z (.own Z .nil)))) Z Z Z Z (b6 ⟨Z,?_⟩))
 exact c3y
):p:=h
theorem c30 (h:p:=by
 refine zgo ?_
 refine a7 Z (d8 G 12 Z Z Z Z Z ?_)
 refine zgo ?_
 refine a7 Z (c8 16 Z Z Z (ArgsOK.of Z) (s5 _ x (by first | assumption | exact hsm (by assumption)) hx) Z Z ?_)
 exact b36
):p:=h
theorem c31 (h:p:=by
 refine b7 (rs:=[5]) Y Z (AllB.cons ?_ AllB.nil)
 refine g8 [1,2,3,4,5,8,9] Z Z (A8 G 12 Z Z Z Z Z Z Z Z (.own Z .nil) Z Z Z Z (b6 ⟨Z,?_⟩))
 exact c3u
):p:=h
theorem c32 (h:p:=by
 refine b7 (rs:=[9]) a8 Z (AllB.cons ?_ AllB.nil)
 refine f8 [0,1,2,3,4,10] Z Z (A8 G 13 Z Z Z Z Z Z Z Z (.own Z .nil) Z Z Z Z (b6 ⟨Z,?_⟩))
 exact c3x
):p:=h
theorem c33 (h:p:=by
 refine b7 (rs:=[7]) a8 Z (AllB.cons ?_ AllB.nil)
 refine f8 [1,2,5,6] Z Z (b5 Z Z (f9 Z (ArgsOK.of Z) (z7 _) Z) (b6 ⟨Z,?_⟩))
 exact c3A
):p:=h
theorem b9X (h:p:=by
 refine zgn ?_
 refine J9 Z ?_
 exact b9W
):p:=h
end Go.Rf
