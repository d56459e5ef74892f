/- Ends of walks that are said again. -/
import Derived.Test.YtpfhomblkgmkkaaGreatDoorMac
set_option linter.unusedSimpArgs false
set_option linter.unusedVariables false
namespace Go.Rf
theorem b1I {p:Prop} (h:p:=by
 refine zgo ?_
 refine f6 (m8 Z Z Z Z (b4 (d7 Z ?_) (b4 (d7 Z ?_) (b4 (d7 Z ?_) (b4 (C7 Z ?_) (b4 (l4 ?_) (b4 (l4 ?_) (b4 (l4 ?_) (b4 (l4 ?_) f8)))))))))
 all_goals (first | (rw [hO];done) | (rw [hO];rfl))
):p:=h
theorem ws1 {p:Prop} (h:p:=by
 refine zgo ?_
 refine a7 Z (b5 Z Z (f7 Z (ArgsOK.of Z) (t8 x ⟨s,_⟩ hx ⟨by show s.size<=_;omega,by first | exact H6 (by decide) | exact F5 J | exact F5 (Int.ofNat_le.1 hrs)⟩) Z) ?_)
 exact b1I
):p:=h
theorem a4y {p:Prop} (h:p:=by
 exact C3 Y (Meet.mk Z Z Z Z)
):p:=h
theorem ws2 {p:Prop} (h:p:=by
 first | refine f9 [] Z Z (b5 Z Z (d8 G Z Z Z Z (X0 J) Z) (b6 ⟨Z,?_⟩)) | refine f9 [] Z Z (b5 Z Z (d8 G Z Z Z Z (a0b J J) Z) (b6 ⟨Z,?_⟩)) | refine f9 [] Z Z (b5 Z Z (d8 G Z Z Z Z (a0W J J) Z) (b6 ⟨Z,?_⟩))
 refine b7 (rs:=[14]) a8 Z (AllB.cons ?_ AllB.nil)
 first | refine f9 [] Z Z (b5 Z Z (b9 G Z Z Z Z Z J a7Y) (b6 ⟨Z,?_⟩)) | refine f9 [] Z Z (b5 Z Z (b9 G Z Z Z Z Z J a7X) (b6 ⟨Z,?_⟩)) | refine f9 [] Z Z (b5 Z Z (b9 G Z Z Z Z Z J a7V) (b6 ⟨Z,?_⟩))
 refine b7 (rs:=[15]) a8 Z (AllB.cons ?_ AllB.nil)
 first | refine f9 [] Z Z (l2 G Z Z Z Z Z (X0 J) Z Z Z Z Z (Nat.le_of_ble_eq_true Z) Z (b6 ⟨Z,?_⟩)) | refine f9 [] Z Z (l2 G Z Z Z Z Z (a0b J J) Z Z Z Z Z (Nat.le_of_ble_eq_true Z) Z (b6 ⟨Z,?_⟩)) | refine f9 [] Z Z (l2 G Z Z Z Z Z (a0W J J) Z Z Z Z Z (Nat.le_of_ble_eq_true Z) Z (b6 ⟨Z,?_⟩))
 refine b7 (rs:=[16]) a8 Z (AllB.cons ?_ AllB.nil)
 first | refine f9 [] Z Z (b5 Z Z (b9 G Z Z Z Z Z J a7Y) (b6 ⟨Z,?_⟩)) | refine f9 [] Z Z (b5 Z Z (b9 G Z Z Z Z Z J a7X) (b6 ⟨Z,?_⟩)) | refine f9 [] Z Z (b5 Z Z (b9 G Z Z Z Z Z J a7V) (b6 ⟨Z,?_⟩))
 refine b7 (rs:=[17]) a8 Z (AllB.cons ?_ AllB.nil)
 first | refine f9 [] Z Z (l2 G Z Z Z Z Z (X0 J) Z Z Z Z Z (Nat.le_of_ble_eq_true Z) Z (b6 ⟨Z,?_⟩)) | refine f9 [] Z Z (l2 G Z Z Z Z Z (a0b J J) Z Z Z Z Z (Nat.le_of_ble_eq_true Z) Z (b6 ⟨Z,?_⟩)) | refine f9 [] Z Z (l2 G Z Z Z Z Z (a0W J J) Z Z Z Z Z (Nat.le_of_ble_eq_true Z) Z (b6 ⟨Z,?_⟩))
 exact a4y
):p:=h
theorem ws4 {p:Prop} (h:p:=by
 intro r0
 refine c7x ?_
 refine x5 (N:=1) Z (r7 (fuel:=5) [⟨0,33,0,false,.row 3 1 []⟩] (AllVOK.cons (VOK.lit G Z Z Z Z Z) (AllVOK.nil)) (λhok=>?_))
 refine m6 [(4,[0]),(6,[])] a8 a8 (λe he=>hok e he) a8 (AllVS.cons ?_ (AllVS.cons ?_ AllVS.nil))
 ·refine c7D ?_
  clear hok
  refine b7 (rs:=[6]) a8 Z (AllB.cons ?_ AllB.nil)
  refine g9 [] Z Z (t7 G 2 Z Z Z Z Z Z Z Z (b6 ⟨Z,?_⟩))
  refine b7 (rs:=[7]) a8 Z (AllB.cons ?_ AllB.nil)
  refine g9 [] Z Z (j3 G a0z Z Z Z Z Z Z Z Z Z a4v Z Z (b6 ⟨Z,?_⟩))
  refine b7 (rs:=[11]) a8 Z (AllB.cons ?_ AllB.nil)
  refine g9 [] Z Z (j3 G a0z Z Z Z Z Z Z Z Z Z a4v Z Z (b6 ⟨Z,?_⟩))
  refine zsa 12 ?_
  exact a4y
 refine VStep.mk0 [] Z Z (λb1 _ hbn=>t7 G 2 Z Z Z Z Z Z Z Z (b6 Z)) a8 a8 a8 a8 (m6 [(4,[0])] a8 a8 (λe he=>hok e he) a8 (AllVS.cons ?_ AllVS.nil))
 refine c7D ?_
 clear hok
 refine b7 (rs:=[7]) a8 Z (AllB.cons ?_ AllB.nil)
 refine g9 [] Z Z (j3 G a0z Z Z Z Z Z Z Z Z Z a4v Z Z (b6 ⟨Z,?_⟩))
 refine b7 (rs:=[11]) a8 Z (AllB.cons ?_ AllB.nil)
 refine g9 [] Z Z (j3 G a0z Z Z Z Z Z Z Z Z Z a4v Z Z (b6 ⟨Z,?_⟩))
 refine zsa 12 ?_
 exact C3 a8 (Meet.mk Z Z Z Z)
):p:=h
theorem ws5 {p:Prop} (h:p:=by
 refine zf1 ?_
 all_goals exact c2h
):p:=h
theorem u6 {p:Prop} (h:p:=by
 exact ⟨⟨_,Z,by (first | rfl | (simp;done) | (simp;omega))⟩,Z,trivial⟩
):p:=h
theorem b37 {p:Prop} (h:p:=by
 refine zgo ?_
 refine ⟨(i+1),?_,?_,⟨⟨_,Z,by rfl⟩,Z,trivial⟩,trivial,Z,Z,Z⟩
 ·exact ⟨by omega,o9 hinv.2 i6⟩
 omega
):p:=h
theorem ws6 {p:Prop} (h:p:=by
 refine zgo ?_
 refine e6 [0,1,7] [] (λ(i:Nat)=>[(8,.v (.int .i64 (i:Int)))]) (λ(i:Nat)=>[]) (λ(i:Nat)=>i<=xs.length/\∀j,j < i→p (xs.getD j default)=false) (λ(i:Nat)=>xs.length - i) 0 Z Z ?_ ?_ ?_ ?_
 ·exact ⟨Nat.zero_le _,λj hj=>by omega⟩
 ·exact u6
 ·exact trivial
 intro i hinv
 refine vm4 ?_
 refine zcd (λk0=>?_) (λk0=>?_)
 ·refine p8 ?_
  refine b5 Z Z (b1U Z Z (ArgsOK.of Z) Z (hf _ J) Z) ?_
  refine zcd (λk1=>?_) (λk1=>?_)
  ·refine zf1 ?_
   all_goals exact c2i
  exact b37
 refine zf1 ?_
 all_goals exact c2i
):p:=h
theorem ws7 {p:Prop} (h:p:=by
 refine zgo ?_
 refine ⟨(i+1),?_,?_,⟨⟨_,Z,by (first | rfl | (rw [a3i (a8Q i6)];done) | (rw [a3h (a8R J i6)];done) | (rw [a3h ((b2c J J).trans (by simp_all [wOf]))];done) | (rw [a3i ((b2c J J).trans (by simp_all [wOf]))];done))⟩,Z,⟨⟨_,Z,by (first | rfl | (rw [a3i (a8Q i6)];done) | (rw [a3h (a8R J i6)];done) | (rw [a3h ((b2c J J).trans (by simp_all [wOf]))];done) | (rw [a3i ((b2c J J).trans (by simp_all [wOf]))];done))⟩,Z,trivial⟩⟩,trivial,Z,Z,Z⟩
 ·omega
 omega
):p:=h
theorem ws8 {p:Prop} (h:p:=by
 refine zgo ?_
 refine ⟨(i+1),?_,?_,⟨⟨_,Z,by first | rfl | (rw [b19 i6 i6 i6];done) | (rw [a3Z (by simp_all;done)];done) | (rw [a3Z (by simp_all;omega)];done)⟩,Z,⟨⟨_,Z,by first | rfl | (rw [b19 i6 i6 i6];done) | (rw [a3Z (by simp_all;done)];done) | (rw [a3Z (by simp_all;omega)];done)⟩,Z,⟨⟨_,Z,by first | rfl | (rw [b19 i6 i6 i6];done) | (rw [a3Z (by simp_all;done)];done) | (rw [a3Z (by simp_all;omega)];done)⟩,Z,trivial⟩⟩⟩,trivial,Z,Z,Z⟩
 ·omega
 omega
):p:=h
theorem ws9 {p:Prop} (h:p:=by
 refine zf1 ?_
 all_goals exact c2j
):p:=h
theorem c7P {p:Prop} (h:p:=by
 intro r0
 refine c7x ?_
 refine x5 (N:=2) Z (r7 (fuel:=5) [⟨0,29,1,false,.row 182 2 []⟩] (AllVOK.cons (VOK.lit G Z Z Z Z Z) (AllVOK.nil)) (λhok=>?_))
 refine m6 [(4,[0]),(6,[])] a8 a8 (λe he=>hok e he) a8 (AllVS.cons ?_ (AllVS.cons ?_ AllVS.nil))
 ·refine c7C ?_
  clear hok
  refine b7 (rs:=[6]) a8 Z (AllB.cons ?_ AllB.nil)
  refine g9 [0] Z Z (t7 G 3 Z Z Z Z Z Z Z Z (b6 ⟨Z,?_⟩))
  refine b7 (rs:=[7]) a8 Z (AllB.cons ?_ AllB.nil)
  refine g9 [0] Z Z (j3 G a0z Z Z Z Z Z Z Z Z Z a4v Z Z (b6 ⟨Z,?_⟩))
  refine b7 (rs:=[11]) a8 Z (AllB.cons ?_ AllB.nil)
  refine g9 [0] Z Z (j3 G a0z Z Z Z Z Z Z Z Z Z a4v Z Z (b6 ⟨Z,?_⟩))
  refine zsa 12 ?_
  exact a4y
 refine VStep.mk0 [0] Z Z (λb1 _ hbn=>t7 G 3 Z Z Z Z Z Z Z Z (b6 Z)) a8 a8 a8 a8 (m6 [(4,[0])] a8 a8 (λe he=>hok e he) a8 (AllVS.cons ?_ AllVS.nil))
 refine c7C ?_
 clear hok
 refine b7 (rs:=[7]) a8 Z (AllB.cons ?_ AllB.nil)
 refine g9 [0] Z Z (j3 G a0z Z Z Z Z Z Z Z Z Z a4v Z Z (b6 ⟨Z,?_⟩))
 refine b7 (rs:=[11]) a8 Z (AllB.cons ?_ AllB.nil)
 refine g9 [0] Z Z (j3 G a0z Z Z Z Z Z Z Z Z Z a4v Z Z (b6 ⟨Z,?_⟩))
 refine zsa 12 ?_
 exact C3 a8 (Meet.mk Z Z Z Z)
):p:=h
theorem c2V {p:Prop} (h:p:=by
 refine b7 (rs:=[9]) a8 Z (AllB.cons ?_ AllB.nil)
 refine f9 [0,1,2,3,4] Z Z (Z2 (Gh.forget (id:=6) (k:=3) Z Z)<|Z2 (Gh.keep [0,1,2,3,4,5,6,10] Z)<|a4R (tx:=27) 12 rfl rfl rfl rfl rfl<|H0 G a0z rfl rfl rfl rfl rfl rfl rfl rfl rfl rfl R4 rfl rfl (b6 ⟨Z,?_⟩))
 refine zsa 10 ?_
 refine b7 (rs:=[11]) a8 Z (AllB.cons ?_ AllB.nil)
 refine g9 [0,1,2,3,4] Z Z ?_
 refine U6 ?_
 exact C3 a8 (Meet.mk Z Z Z Z)
):p:=h
theorem c2W {p:Prop} (h:p:=by
 refine b7 (rs:=[8]) a8 Z (AllB.cons ?_ AllB.nil)
 refine g9 [0,1,2,3,4] Z Z (A8 G 11 Z Z Z Z Z Z Z Z (.v Z (.own Z (.own Z (.own Z .nil)))) Z Z Z Z (b6 ⟨Z,?_⟩))
 exact c2V
):p:=h
theorem c7Q {p:Prop} (h:p:=by
 refine zgo ?_
 apply x7 [1,2,3,4] [0,1,2,3,4,6,11] 12 12 [0,1,2,3,4] mixed a8 Z Z (λ_ h=>znk h)
 ·intro r0
  refine zsa 0 ?_
  refine zsa 2 ?_
  refine zsa 3 ?_
  refine b0z ?_
  refine b7 (rs:=[1,7]) a8 Z (AllB.cons ?_ (AllB.cons ?_ AllB.nil))
  ·refine g9 [0,1,2,3,4] Z Z ?_
   refine U6 ?_
   refine b7 (rs:=[7]) a8 Z (AllB.cons ?_ AllB.nil)
   refine g9 [0,1,2,3,4] Z Z (c8 10 Z Z Z (ArgsOK.of Z) (a4z (m.cp.getD k default) J J J) Z Z (b6 ⟨Z,?_⟩))
   exact c2W
  refine g9 [0,1,2,3,4] Z Z (c8 10 Z Z Z (ArgsOK.of Z) (a4z (m.cp.getD k default) J J J) Z Z (b6 ⟨Z,?_⟩))
  refine b7 (rs:=[1,8]) a8 Z (AllB.cons ?_ (AllB.cons ?_ AllB.nil))
  ·refine g9 [0,1,2,3,4] Z Z ?_
   refine U6 ?_
   exact c2W
  refine g9 [0,1,2,3,4] Z Z (A8 G 11 Z Z Z Z Z Z Z Z (.v Z (.own Z (.own Z (.own Z .nil)))) Z Z Z Z (b6 ⟨Z,?_⟩))
  refine b7 (rs:=[1]) a8 Z (AllB.cons ?_ AllB.nil)
  refine g9 [0,1,2,3,4] Z Z ?_
  refine U6 ?_
  exact c2V
 refine b8 ?_
 refine b36 ?_
 refine a0s (Gh.sub 11 5 np Z Z Z) (b6 ⟨(k+1),?_,?_,⟨⟨_,Z,by rfl⟩,Z,trivial⟩,⟨⟨_,Z,by (exact congrArg (λz=>Row.nest _ _ z []) (b1o J Z))⟩,Z,Z,trivial⟩,Z,Z,Z⟩)
 ·omega
 omega
):p:=h
theorem c7R {p:Prop} (h:p:=by
 refine j5 0 Z (λ_=>Z) (λu0=>?_)
 refine N3 ?_
 refine zgn ?_
 refine n9 (l3 10 [0] mixed a8 Z Z (λr0=>?_) (λ_ h=>h))
 refine zsa 1 ?_
 refine zsa 2 ?_
 refine zsa 5 ?_
 refine zsa 6 ?_
 refine x5 (N:=4) Z (r7 (fuel:=4) [⟨0,3,2,false,.row 169 3 []⟩,⟨4,7,3,false,.row 182 2 []⟩] (AllVOK.cons (VOK.lit G Z Z Z Z Z) (AllVOK.cons (VOK.lit G Z Z Z Z Z) (AllVOK.nil))) (λhok=>?_))
 refine m6 [(3,[0])] a8 a8 (λe he=>hok e he) a8 (AllVS.cons ?_ AllVS.nil)
 refine VStep.mk1 [0] 3 (.own 2) 2 (.row 169 3 []) [⟨4,7,3,false,.row 182 2 []⟩] Z Z Z Z Z (λb1 _ hbn=>j3 G O9 Z Z Z Z Z Z Z Z Z B1 Z Z (b6 Z)) a8 a8 a8 a8 (m6 [(7,[4])] a8 a8 (λe he=>hok e (vin (is:=[0]) Z he)) a8 (AllVS.cons ?_ AllVS.nil))
 refine VStep.mk1 [0] 7 (.own 3) 3 (.row 182 2 []) [] Z Z Z Z Z (λb1 _ hbn=>j3 G O9 Z Z Z Z Z Z Z Z Z B1 Z Z (b6 Z)) a8 a8 a8 a8 (D1 ?_)
 clear hok
 refine b7 (rs:=[8]) a8 Z (AllB.cons ?_ AllB.nil)
 refine b2K ?_
 refine b7 (rs:=[9]) a8 Z (AllB.cons ?_ AllB.nil)
 refine b2K ?_
 refine J1 ?_
 refine f6 (m8 Z Z Z Z (b4 (d7 Z ?_) (b4 (d7 Z ?_) f8)))
 all_goals (first | rfl | simp)
):p:=h
theorem a2I {p:Prop} (h:p:=by
 refine zf1 ?_
 all_goals (first | rfl | (simp [H1, *];done) | (simp [H1, *];rfl) | (simp [H1, *,I3,a64];done))
):p:=h
theorem b9A {p:Prop} (h:p:=by
 refine a1P ?_
 all_goals exact c5L
):p:=h
theorem c2X {p:Prop} (h:p:=by
 refine zgn ?_
 refine U7 ?_
 refine U7 ?_
 refine ⟨(i+1),?_,?_,⟨⟨_,Z,by (first | rfl | (congr 2;omega))⟩,Z,⟨⟨_,Z,by (first | rfl | (congr 2;omega))⟩,Z,trivial⟩⟩,trivial,Z,Z,Z⟩
 ·omega
 omega
):p:=h
theorem c7S {p:Prop} (h:p:=by
 refine a3v ?_
 refine vm5 ?_
 refine b9x ?_
 refine zgn ?_
 refine j9 Z (λk0=>?_) (λk0=>?_)
 ·try rw [k0]
  try simp only [rfb] at k0
  exact b9A
 try rw [k0]
 try simp only [rfb] at k0
 refine zgn ?_
 refine n9 ?_
 refine U7 ?_
 refine n9 ?_
 refine a45 ?_
 refine b9x ?_
 refine zgn ?_
 refine j9 Z (λk1=>?_) (λk1=>?_)
 ·try rw [k1]
  try simp only [rfb] at k1
  exact b9A
 try rw [k1]
 try simp only [rfb] at k1
 exact c2X
):p:=h
theorem b7d {p:Prop} (h:p:=by
 all_goals exact c5M
):p:=h
theorem b55 {p:Prop} (h:p:=by
 refine f6 (m8 Z Z Z Z (b4 (d7 Z ?_) (b4 (d7 Z ?_) (b4 (d7 Z ?_) (b4 (C7 Z ?_) (b4 (l4 ?_) (b4 (l4 ?_) f8)))))))
 all_goals (first | (rw [hS];done) | (rw [hS];(first | rfl | exact List.map_set.symm | exact c5o Z | (simp only [List.set_set,Int.toNat_natCast];exact c5o Z) | exact congrArg Value.bool (decide_eq_true J))))
):p:=h
theorem c7T {p:Prop} (h:p:=by
 refine c7A ?_
 refine zgo ?_
 exact b55
):p:=h
theorem b7e {p:Prop} (h:p:=by
 refine zf1 ?_
 all_goals exact c2k
):p:=h
theorem b7f {p:Prop} (h:p:=by
 refine zf1 ?_
 all_goals exact c2l
):p:=h
theorem b9B {p:Prop} (h:p:=by
 refine a1P ?_
 all_goals exact c2m
):p:=h
theorem c7U {p:Prop} (h:p:=by
 refine g9 [1] Z Z (b5 Z Z (V9 G Z Z Z Z Z Z s6 s6 s6 s6) (b6 ⟨Z,?_⟩))
 refine b7 (rs:=[8]) a8 Z (AllB.cons ?_ AllB.nil)
 refine g9 [1] Z Z (a4t G Z Z Z Z Z Z Z (vs:=(xs.map e7).drop i) (SrcOK.spare Z s6) (L:=xs.length - i) c2Q (c0i a6w J s6 (by rw [List.length_map]) (by rw [List.length_map])) (λc hc=>(hall c (List.mem_of_mem_drop hc)).2) (λc hc=>(hall c (List.mem_of_mem_drop hc)).1) s6 s6 (b6 ⟨Z,?_⟩))
 exact a4y
):p:=h
theorem c2Y {p:Prop} (h:p:=by
 refine zgo ?_
 refine ⟨(i+1),?_,?_,⟨⟨_,Z,by (first | rfl | (rw [c6U J J J];rfl) | (rw [c6V J J J];rfl) | (rw [c6W J J J];rfl) | (rw [c6X J J J];rfl))⟩,Z,⟨⟨_,Z,by (first | rfl | (rw [c6U J J J];rfl) | (rw [c6V J J J];rfl) | (rw [c6W J J J];rfl) | (rw [c6X J J J];rfl))⟩,Z,trivial⟩⟩,trivial,Z,Z,Z⟩
 ·omega
 omega
):p:=h
theorem c7V {p:Prop} (h:p:=by
 refine c1m ?_
 refine b7b ?_
 refine zcd (λk0=>?_) (λk0=>?_)
 ·have hnm:=hF.nums (i:=i) J J
  refine zgd ?_
  refine zcl (w5 (sl.getD i default).q J J) ?_
  refine b7a ?_
  refine b7a ?_
  refine zcl (w5 (sl.getD i default).p J J) ?_
  refine b7a ?_
  exact c2Y
 exact c2Y
):p:=h
theorem c1s {p:Prop} (h:p:=by
 refine zgo ?_
 refine ⟨(i+1),?_,?_,⟨⟨_,Z,by (first | rfl | (rw [a3i (a8Q i6)];done) | (rw [a3h (a8R i6 i6)];done) | (rw [a3h ((b2b hd J i6 J).trans (by simp_all))];done) | (rw [a3i ((b2b hd J i6 J).trans (by simp_all))];done))⟩,Z,⟨⟨_,Z,by (first | rfl | (rw [a3i (a8Q i6)];done) | (rw [a3h (a8R i6 i6)];done) | (rw [a3h ((b2b hd J i6 J).trans (by simp_all))];done) | (rw [a3i ((b2b hd J i6 J).trans (by simp_all))];done))⟩,Z,trivial⟩⟩,trivial,Z,Z,Z⟩
 ·omega
 omega
):p:=h
theorem b9C {p:Prop} (h:p:=by
 refine zgo ?_
 refine ⟨(i+1),?_,?_,⟨⟨_,Z,by first | rfl | (rw [b5q i6 i6 J];done) | (rw [a30 (by simp_all;done)];done) | (rw [a30 (by simp_all;omega)];done)| (rw [a30 (λ_ _=>J)];done)⟩,Z,⟨⟨_,Z,by first | rfl | (rw [b5q i6 i6 J];done) | (rw [a30 (by simp_all;done)];done) | (rw [a30 (by simp_all;omega)];done)| (rw [a30 (λ_ _=>J)];done)⟩,Z,trivial⟩⟩,trivial,Z,Z,Z⟩
 ·omega
 omega
):p:=h
theorem b9D {p:Prop} (h:p:=by
 refine zf1 ?_
 all_goals exact c2n
):p:=h
theorem b38 {p:Prop} (h:p:=by
 refine zf1 ?_
 all_goals (first | (rw [b75 J];done) | (rw [b76 J J];done) | (rw [b77 J J];done) | (rw [b78 J J J];first | rfl | (exact congrArg Value.bool (by rw [Bool.eq_iff_iff,decide_eq_true_iff];exact c0u))) | rfl)
):p:=h
theorem b9E {p:Prop} (h:p:=by
 refine zf1 ?_
 all_goals (first | (rw [a3q J];done) | (rw [Y4 J];done) | (rw [a7f J];done) | (rw [a40 (by have:=@a4Z w;omega)];done))
):p:=h
theorem c2Z {p:Prop} (h:p:=by
 refine b7 (rs:=[6]) a8 Z (AllB.cons ?_ AllB.nil)
 refine g9 [0] Z Z (w4 4 [1,2] Z Z Z (G3 wa w i J J) Z (RowsIn.cons Z (RowsIn.cons Z RowsIn.nil)) Z Z Z (b6 ⟨Z,?_⟩))
 refine zsa 7 ?_
 exact a4y
):p:=h
theorem c7W {p:Prop} (h:p:=by
 intro r0
 refine zsa 1 ?_
 refine zsa 3 ?_
 refine zsa 4 ?_
 refine x5 (N:=2) Z (r7 (fuel:=4) [⟨0,21,1,false,.row 182 2 []⟩] (AllVOK.cons (VOK.lit G Z Z Z Z Z) (AllVOK.nil)) (λhok=>?_))
 refine m6 [(2,[0]),(5,[])] a8 a8 (λe he=>hok e he) a8 (AllVS.cons ?_ (AllVS.cons ?_ AllVS.nil))
 ·refine c7G ?_
  clear hok
  refine b7 (rs:=[5]) a8 Z (AllB.cons ?_ AllB.nil)
  refine g9 [0] Z Z (t7 G 3 Z Z Z Z Z Z Z Z (b6 ⟨Z,?_⟩))
  exact c2Z
 refine VStep.mk0 [0] Z Z (λb1 _ hbn=>t7 G 3 Z Z Z Z Z Z Z Z (b6 Z)) a8 a8 a8 a8 (m6 [(2,[0])] a8 a8 (λe he=>hok e he) a8 (AllVS.cons ?_ AllVS.nil))
 refine c7G ?_
 clear hok
 exact c2Z
):p:=h
theorem c1t {p:Prop} (h:p:=by
 refine zgo ?_
 refine ⟨(i+1),?_,?_,⟨⟨_,Z,by rfl⟩,Z,trivial⟩,⟨⟨_,Z,by (first | (rw [a1b hcn];done) | (rw [a1d hcn];done) | (rw [a1a hcn,List.map_set];rfl) | (rw [a1c hcn];exact congrArg (λz=>Row.nest _ _ z []) a4w))⟩,Z,Z,⟨⟨_,Z,by (first | (rw [a1b hcn];done) | (rw [a1d hcn];done) | (rw [a1a hcn,List.map_set];rfl) | (rw [a1c hcn];exact congrArg (λz=>Row.nest _ _ z []) a4w))⟩,Z,Z,trivial⟩⟩,Z,Z,Z⟩
 ·omega
 omega
):p:=h
theorem E5 {p:Prop} (h:p:=by
 exact ⟨Nat.zero_le _,λj hj=>by omega⟩
):p:=h
theorem c1u {p:Prop} (h:p:=by
 refine vm5 ?_
 refine b5 Z Z (b9 G Z Z Z Z Z J (by rw [b27 J];omega)) ?_
 refine vm5 ?_
 refine l2 G Z Z Z Z Z (b28 J) Z Z Z Z Z (Nat.le_of_ble_eq_true Z) Z ?_
 refine zgo ?_
 refine ⟨(i+1),?_,?_,⟨⟨_,Z,by rfl⟩,Z,trivial⟩,⟨⟨_,Z,by (rw [← b29 J];rfl)⟩,Z,Z,trivial⟩,Z,Z,Z⟩
 ·omega
 omega
):p:=h
theorem c7X {p:Prop} (h:p:=by
 refine f6 (r5 Z Z Z Z (b4 (l4 ?_) (b4 (l4 ?_) f8)))
 all_goals clear hK14 K14 hK13 K13 hK9 K9
 all_goals (first | (rw [(b0r (s:=s) h3).1];done) | (rw [(b0r (s:=s) h3).2];done) | (rw [(b0s (s:=s) (i:=i) J (by simp only [Z8,Bool.and_eq_false_iff,decide_eq_false_iff_not];omega)).1];done) | (rw [(b0s (s:=s) (i:=i) J (by simp only [Z8,Bool.and_eq_false_iff,decide_eq_false_iff_not];omega)).2];done) | (rw [(a1A (s:=s) (n:=-dV (m7 s) i) (by have e:i=(m7 s).size:=J;rw [a1y J,e]) (by assumption)).1];done) | (rw [(a1A (s:=s) (n:=-dV (m7 s) i) (by have e:i=(m7 s).size:=J;rw [a1y J,e]) (by assumption)).2];done) | (rw [(a1A (s:=s) (n:=dV (m7 s) i) (by have e:i=(m7 s).size:=J;rw [a1z J,e]) (by assumption)).1];done) | (rw [(a1A (s:=s) (n:=dV (m7 s) i) (by have e:i=(m7 s).size:=J;rw [a1z J,e]) (by assumption)).2];done) | (rw [(a1B (s:=s) (n:=-dV (m7 s) i) (i:=i) h3 J hinv.2 (by have e:i=(m7 s).size:=J;rw [a1y J,e]) (by assumption)).1];done) | (rw [(a1B (s:=s) (n:=-dV (m7 s) i) (i:=i) h3 J hinv.2 (by have e:i=(m7 s).size:=J;rw [a1y J,e]) (by assumption)).2];done) | (rw [(a1B (s:=s) (n:=dV (m7 s) i) (i:=i) h3 J hinv.2 (by have e:i=(m7 s).size:=J;rw [a1z J,e]) (by assumption)).1];done) | (rw [(a1B (s:=s) (n:=dV (m7 s) i) (i:=i) h3 J hinv.2 (by have e:i=(m7 s).size:=J;rw [a1z J,e]) (by assumption)).2];done))
):p:=h
theorem c7Y {p:Prop} (h:p:=by
 refine f6 (r5 Z Z Z Z (b4 (l4 ?_) (b4 (l4 ?_) f8)))
 all_goals (first | (rw [(b0r (s:=s) h3).1];done) | (rw [(b0r (s:=s) h3).2];done) | (rw [(b0s (s:=s) (i:=i) J (by simp only [Z8,Bool.and_eq_false_iff,decide_eq_false_iff_not];omega)).1];done) | (rw [(b0s (s:=s) (i:=i) J (by simp only [Z8,Bool.and_eq_false_iff,decide_eq_false_iff_not];omega)).2];done) | (rw [(a1A (s:=s) (n:=-dV (m7 s) i) (by have e:i=(m7 s).size:=J;rw [a1y J,e]) (by assumption)).1];done) | (rw [(a1A (s:=s) (n:=-dV (m7 s) i) (by have e:i=(m7 s).size:=J;rw [a1y J,e]) (by assumption)).2];done) | (rw [(a1A (s:=s) (n:=dV (m7 s) i) (by have e:i=(m7 s).size:=J;rw [a1z J,e]) (by assumption)).1];done) | (rw [(a1A (s:=s) (n:=dV (m7 s) i) (by have e:i=(m7 s).size:=J;rw [a1z J,e]) (by assumption)).2];done) | (rw [(a1B (s:=s) (n:=-dV (m7 s) i) (i:=i) h3 J hinv.2 (by have e:i=(m7 s).size:=J;rw [a1y J,e]) (by assumption)).1];done) | (rw [(a1B (s:=s) (n:=-dV (m7 s) i) (i:=i) h3 J hinv.2 (by have e:i=(m7 s).size:=J;rw [a1y J,e]) (by assumption)).2];done) | (rw [(a1B (s:=s) (n:=dV (m7 s) i) (i:=i) h3 J hinv.2 (by have e:i=(m7 s).size:=J;rw [a1z J,e]) (by assumption)).1];done) | (rw [(a1B (s:=s) (n:=dV (m7 s) i) (i:=i) h3 J hinv.2 (by have e:i=(m7 s).size:=J;rw [a1z J,e]) (by assumption)).2];done))
):p:=h
theorem b9F {p:Prop} (h:p:=by
 refine zf1 ?_
 all_goals (simp only [a7a];first | (rw [if_pos i6];done) | (rw [if_neg J,if_pos J];done) | (rw [if_neg J,if_neg J,if_pos J];done) | (rw [if_neg J,if_neg J,if_neg J,b8P i6];done) | (rw [if_neg J,if_neg J,if_neg J];done))
):p:=h
theorem c1v {p:Prop} (h:p:=by
 refine zf1 ?_
 all_goals ((rw [b4n] at h1;simp only [C6];first | (have e:m5 x.c.size 1 160=true:=s2.mpr J;rw [e,h2.1,h3];generalize Y1 x.r=p;generalize decide ((x.r.size:Int)<=200)=q;cases p<;>cases q<;>rfl) | (rw [h3];simp;done) | (rcases h2 with h2 | h2<;>first | (rw [h2];simp;done) | (have e:m5 x.c.size 1 160=false:=a9e.mpr J;rw [e];simp;done)) | (have e:m5 x.c.size 1 160=false:=a9e.mpr J;rw [e];simp;done)))
):p:=h
theorem c50 {p:Prop} (h:p:=by
 refine f6 (r5 Z Z Z Z (b4 (l4 ?_) (b4 (l4 ?_) f8)))
 all_goals clear hK6 K6
 all_goals (first | (rw [(a1x (s:=s) J).1];done) | (rw [(a1x (s:=s) J).2];done) | (rw [(a3V (s:=s) J (hc1.symm.trans h2)).1];done) | (rw [(a3V (s:=s) J (hc1.symm.trans h2)).2];done) | (rw [(a62 (s:=s) J h3).1];done) | (rw [(a62 (s:=s) J h3).2];done) | (rw [(b08 (s:=s) J (hc1.symm.trans h2) h4).1];done) | (rw [(b08 (s:=s) J (hc1.symm.trans h2) h4).2];done) | (rw [(a63 (s:=s) J (hc1.symm.trans h2) h3 h4).1];done) | (rw [(a63 (s:=s) J (hc1.symm.trans h2) h3 h4).2];done))
):p:=h
theorem R5 {p:Prop} (h:p:=by
 exact ⟨⟨_,Z,by rfl⟩,Z,⟨⟨_,Z,by rfl⟩,Z,trivial⟩⟩
):p:=h
theorem c7Z {p:Prop} (h:p:=by
 refine zgo ?_
 refine e6 [0] [] (λ(i:Nat)=>[(3,.v (.int .i64 (a6V s i))),(4,.v (.int .i64 (i:Int)))]) (λ(i:Nat)=>[]) (λ(i:Nat)=>i<=s.size) (λ(i:Nat)=>s.size - i) 0 Z Z ?_ ?_ ?_ ?_
 ·exact Nat.zero_le _
 ·exact R5
 ·exact trivial
 intro i hinv
 have hi:i<=s.size:=hinv
 have hsl:=a8L s i
 have hbb:=a5G s i
 have hbi:p6 s i=((s.data.toList.getD ((i:Int)).toNat 0).toNat:Int):=Z
 refine vm4 ?_
 refine a47 ?_
 refine zcd (λk0=>?_) (λk0=>?_)
 ·refine c7O ?_
  refine p8 ?_
  refine c5X ?_
  refine zgo ?_
  refine ⟨(i+1),?_,?_,⟨⟨_,Z,by rfl⟩,Z,⟨⟨_,Z,by rfl⟩,Z,trivial⟩⟩,trivial,Z,Z,Z⟩
  ·omega
  omega
 refine zf1 ?_
 all_goals (have e:i=s.size:=J;subst e;rfl)
):p:=h
theorem c1w {p:Prop} (h:p:=by
 refine f6 (r5 Z Z Z Z (b4 (a06 Z ?_) (b4 (l4 ?_) f8)))
 all_goals (simp only [X3];(repeat (first | rw [if_pos J] | rw [if_neg J]));first | done | rfl)
):p:=h
theorem c70 {p:Prop} (h:p:=by
 refine zgn ?_
 refine f6 (G7 Z (d7 Z ?_) Z (AftOK.gone (AftOK.stays Z ?_ Z AftOK.nil)))
 all_goals exact c2o
):p:=h
theorem b0B {p:Prop} (h:p:=by
 exact ⟨⟨_,Z,by (first | rfl | (congr 2;omega))⟩,Z,⟨⟨_,Z,by (first | rfl | (congr 2;omega))⟩,Z,trivial⟩⟩
):p:=h
theorem c1x {p:Prop} (h:p:=by
 refine a1P ?_
 all_goals exact c2p
):p:=h
theorem b7g {p:Prop} (h:p:=by
 refine zgo ?_
 refine f6 (m8 Z Z Z Z (b4 (M8 ?_) (b4 (M8 ?_) (b4 (M8 ?_) (b4 (c0k ?_) (b4 (l4 ?_) (b4 (l4 ?_) f8)))))))
 all_goals (first | rfl | (rw [hO];done) | (rw [hO];rfl))
):p:=h
theorem c22 {p:Prop} (h:p:=by
 refine zf1 ?_
 all_goals (simp only [szL];first | (rw [if_pos J];done) | (rw [if_neg J];done))
):p:=h
theorem b9G {p:Prop} (h:p:=by
 refine zcd (λk0=>?_) (λk0=>?_)
 ·exact c22
 exact c22
):p:=h
theorem c1y {p:Prop} (h:p:=by
 refine zf1 ?_
 all_goals exact c5N
):p:=h
theorem b2M {p:Prop} (h:p:=by
 refine zgo ?_
 refine f6 (r5 Z Z Z Z (b4 (l4 ?_) (b4 (l4 ?_) f8)))
 all_goals (first | (rw [hO];done) | (rw [hO];rfl))
):p:=h
theorem c71 {p:Prop} (h:p:=by
 refine f6 (r5 Z Z Z Z (b4 (a06 Z ?_) (b4 (l4 ?_) f8)))
 all_goals (first | (rw [hO.1];done) | (rw [hO.1];rfl) | (rw [hO.2];done) | (rw [hO.2];rfl))
):p:=h
theorem c1z {p:Prop} (h:p:=by
 refine N3 ?_
 refine zgo ?_
 refine a7k ?_
 refine zgo ?_
 refine f6 (D0 Z (a06 Z ?_))
 all_goals ((first | rfl | (simp_all;done) | (simp_all;omega)))
):p:=h
theorem c72 {p:Prop} (h:p:=by
 refine zgo ?_
 refine ⟨(i+1),?_,?_,⟨⟨_,Z,by (first | rfl | (rw [V8 J];done) | (rw [a1u J];done) | (rw [V8 J];rfl) | (rw [a1u J];rfl) | (rw [V8 J,List.map_append];rfl))⟩,Z,⟨⟨_,Z,by (first | rfl | (rw [V8 J];done) | (rw [a1u J];done) | (rw [V8 J];rfl) | (rw [a1u J];rfl) | (rw [V8 J,List.map_append];rfl))⟩,Z,⟨⟨_,Z,by (first | rfl | (rw [V8 J];done) | (rw [a1u J];done) | (rw [V8 J];rfl) | (rw [a1u J];rfl) | (rw [V8 J,List.map_append];rfl))⟩,Z,trivial⟩⟩⟩,⟨⟨_,Z,by (first | rfl | (rw [V8 J];done) | (rw [a1u J];done) | (rw [V8 J];rfl) | (rw [a1u J];rfl) | (rw [V8 J,List.map_append];rfl))⟩,Z,Z,trivial⟩,Z,Z,Z⟩
 ·omega
 omega
):p:=h
theorem a0J {p:Prop} (h:p:=by
 exact ⟨⟨_,Z,by rfl⟩,Z,Z,trivial⟩
):p:=h
theorem c52 {p:Prop} (h:p:=by
 refine zgo ?_
 refine f6 (r5 Z Z Z Z (b4 (d7 Z ?_) (b4 (l4 ?_) f8)))
 all_goals (first | rfl | (rw [c19 J];done) | (rw [c19 J];rfl) | (rw [b80 J];done) | (rw [b80 J];rfl) | (rw [b83 h0 J];done) | (rw [b83 h0 J];rfl))
):p:=h
theorem c1A {p:Prop} (h:p:=by
 refine zgo ?_
 refine ⟨(i+1),?_,?_,⟨⟨_,Z,by rfl⟩,Z,⟨⟨_,Z,by rfl⟩,Z,trivial⟩⟩,⟨⟨_,Z,by (first | (rw [c67 (by assumption),List.map_append];rfl) | (rw [c68 (by assumption)];done))⟩,Z,Z,trivial⟩,Z,Z,Z⟩
 ·omega
 omega
):p:=h
theorem c73 {p:Prop} (h:p:=by
 refine zgo ?_
 refine ⟨(i+1),?_,?_,⟨⟨_,Z,by rfl⟩,Z,trivial⟩,trivial,Z,Z,Z⟩
 ·exact ⟨by omega,o9 hinv.2 (c0y J ⟨s2.mp i6,s2.mp i6,s2.mp i6⟩ J (λh=>by omega))⟩
 omega
):p:=h
theorem c74 {p:Prop} (h:p:=by
 refine zgn ?_
 refine C4 (Gh.close (id:=0) (id':=3) (i:=i) (k:=3) Z Z (Y2 a7W Z) (λq h=>by cases h) Z) ?_
 refine U7 ?_
 refine ⟨(i+1),?_,?_,⟨⟨_,Z,by (first | rfl | (rw [a1J];simp only [wdI];congr 2;omega))⟩,Z,⟨⟨_,Z,by (first | rfl | (rw [a1J];simp only [wdI];congr 2;omega))⟩,Z,trivial⟩⟩,⟨⟨_,Z,by (rw [a34];exact congrArg (λz=>Row.nest _ _ z []) (by simp only [List.set_set,Int.toNat_natCast];rw [List.map_set];rfl))⟩,Z,Z,trivial⟩,Z,Z,Z⟩
 ·omega
 omega
):p:=h
theorem c77 {p:Prop} (h:p:=by
 refine vm3 ?_
 refine p8 ?_
 refine b42 ?_
 refine p8 ?_
 refine c1n ?_
 refine p8 ?_
 refine b5 Z Z (b9 G Z Z Z Z Z J B1) ?_
 refine vm5 ?_
 first | refine l2 G Z Z Z Z Z (V5 J J) Z Z Z Z Z (Nat.le_of_ble_eq_true Z) Z ?_ | refine l2 G Z Z Z Z Z (by simp;exact ⟨by omega,Z⟩) Z Z Z Z Z (Nat.le_of_ble_eq_true Z) Z ?_
 refine zfo ?_
 all_goals (first | rfl | exact a2F | (simp only [List.nil_append];exact a2F))
):p:=h
theorem b9H {p:Prop} (h:p:=by
 refine zf1 ?_
 all_goals exact c2q
):p:=h
theorem c54 {p:Prop} (h:p:=by
 refine zf1 ?_
 all_goals exact c2r
):p:=h
theorem c1B {p:Prop} (h:p:=by
 refine zf1 ?_
 all_goals exact c5O
):p:=h
theorem c78 {p:Prop} (h:p:=by
 refine zgo ?_
 refine f6 (r5 Z Z Z Z (b4 (d7 Z ?_) (b4 (l4 ?_) f8)))
 all_goals (first | rfl | (rw [c1Z i6];done) | (rw [c1Z i6];rfl) | (rw [c10 i6];done) | (rw [c10 i6];rfl))
):p:=h
theorem c55 {p:Prop} (h:p:=by
 refine zf1 ?_
 all_goals (first | rfl | (simp only [okRts,h1,Bool.true_and,Bool.false_and];done) | (have e8:rs.length=8:=Int.ofNat_inj.mp h2;simp only [okRts,h1,e8,decide_true,Bool.true_and,V6,Bool.not_not];done) | (simp only [okRts,h1,show ¬ rs.length=8 from (λh=>h2 (by rw [h];rfl)),decide_false,Bool.false_and,Bool.and_false];done))
):p:=h
theorem c1C {p:Prop} (h:p:=by
 refine f6 (r5 Z Z Z Z (b4 (a06 Z ?_) (b4 (l4 ?_) (b4 (l4 ?_) f8))))
 all_goals clear hK7 K7
 all_goals (first | (rw [hO.1];rfl) | (rw [hO.2.1];rfl) | (rw [hO.2.1];done) | (rw [hO.2.2];rfl) | (rw [hO.2.2];done))
):p:=h
theorem b9I {p:Prop} (h:p:=by
 refine zf1 ?_
 all_goals ((have e0:((UInt8.toNat 64:Nat):Int)=64:=Z;cases e1:Y1 x.c<;>cases e2:Y1 x.r<;>cases e3:l7 x.c 64<;>simp_all [C6]<;>omega))
):p:=h
theorem c79 {p:Prop} (h:p:=by
 refine zgo ?_
 refine ⟨(i+1),?_,?_,⟨⟨_,Z,by rfl⟩,Z,⟨⟨_,Z,by rfl⟩,Z,trivial⟩⟩,⟨⟨_,Z,by (first | (rw [b8z J,List.map_append];rfl) | (rw [b8z J];done) | (rw [b8z J];rfl) | (rw [c6O J];done))⟩,Z,Z,trivial⟩,Z,Z,Z⟩
 ·omega
 omega
):p:=h
theorem c1D {p:Prop} (h:p:=by
 refine zgo ?_
 refine ⟨(i+1),?_,?_,⟨⟨_,Z,by rfl⟩,Z,trivial⟩,trivial,Z,Z,Z⟩
 ·exact ⟨by omega,o9 hinv.2 (by first | exact c5i i6 | exact c5j i6)⟩
 omega
):p:=h
theorem c1E {p:Prop} (h:p:=by
 refine C8 ?_
 refine f6 (G7 Z (l4 ?_) Z (AftOK.stays Z ?_ Z (AftOK.stays Z ?_ Z (AftOK.stays Z ?_ Z (AftOK.stays Z ?_ Z AftOK.nil)))))
 all_goals (rfl)
):p:=h
theorem c8a {p:Prop} (h:p:=by
 refine p8 ?_
 refine c1r ?_
 refine vm8 ?_
 refine zgo ?_
 refine ⟨(i+1),?_,?_,⟨⟨_,Z,by rfl⟩,Z,⟨⟨_,Z,by rfl⟩,Z,trivial⟩⟩,⟨⟨_,Z,by (first | (rw [c44 J J,List.map_append];rfl) | (rw [c45 J J,List.map_append];rfl))⟩,Z,Z,trivial⟩,Z,Z,Z⟩
 ·omega
 omega
):p:=h
theorem c56 {p:Prop} (h:p:=by
 refine zf1 ?_
 all_goals exact c2s
):p:=h
theorem c8b {p:Prop} (h:p:=by
 refine p8 ?_
 refine c8 2 Z Z Z (ArgsOK.of Z) (b2N (a69 sl i) _ (by have:=@a6i sl i;have:=@X1 sl i;omega) (λx hx=>c0S hF J (u5.mpr J) hx)) Z Z ?_
 refine zgn ?_
 refine b8 ?_
 refine b36 ?_
 refine a0s (Gh.sub 1 0 np Z Z Z) (b6 ⟨(i+1),?_,?_,⟨⟨_,Z,by rfl⟩,Z,⟨⟨_,Z,by rfl⟩,Z,trivial⟩⟩,⟨⟨_,Z,by (first | (rw [b8B J];done) | (rw [b8C J];done))⟩,Z,Z,trivial⟩,Z,Z,Z⟩)
 ·omega
 omega
):p:=h
theorem c1F {p:Prop} (h:p:=by
 refine a1P ?_
 all_goals exact c2t
):p:=h
theorem c8c {p:Prop} (h:p:=by
 refine p8 ?_
 refine c8 4 Z Z Z (ArgsOK.of Z) (a1g (pnS q i) ⟨_,_⟩ J) Z Z ?_
 refine zgn ?_
 refine b8 ?_
 refine b36 ?_
 refine a0s (Gh.sub 3 1 np Z Z Z) (b6 ⟨(i+1),?_,?_,⟨⟨_,Z,by rfl⟩,Z,⟨⟨_,Z,by rfl⟩,Z,trivial⟩⟩,⟨⟨_,Z,by (first | (rw [b1n J,List.map_append];rfl) | (rw [b1n J];done) | (rw [b1n J];rfl) | (rw [c11 J];done))⟩,Z,Z,trivial⟩,Z,Z,Z⟩)
 ·omega
 omega
):p:=h
theorem B2 {p:Prop} (h:p:=by
 exact Nat.zero_le _
):p:=h
theorem c8d {p:Prop} (h:p:=by
 refine b7 (rs:=[11]) Y Z (AllB.cons ?_ AllB.nil)
 refine f9 [1,2,3] Z Z (m3 G Z Z Z Z Z Z Z Z Z Z Z (b6 ⟨Z,?_⟩))
 refine d5 12 Z Y Y Z Z Z Z (c6 Z Z) (C3 Y (hK14 _ ?_))
 clear hK14 K14
 refine f6 (r5 Z Z Z Z (b4 (a06 Z ?_) (b4 (l4 ?_) f8)))
 all_goals (first | (rw [hB.1];rfl) | (rw [hB.2];rfl) | (rw [hB.2];done) | (rw [b05 hB,h4];rfl) | (rw [b05 hB,h4];simp;done))
):p:=h
theorem c57 {p:Prop} (h:p:=by
 refine f6 (m8 Z Z Z Z (b4 (l4 ?_) (b4 (d7 Z ?_) (b4 (d7 Z ?_) (b4 (d7 Z ?_) f8)))))
 all_goals (rfl)
):p:=h
theorem b9J {p:Prop} (h:p:=by
 refine a1P ?_
 all_goals (first | rfl | (exfalso;omega))
):p:=h
theorem c58 {p:Prop} (h:p:=by
 all_goals ((first | rfl | (simp_all;done) | (simp_all;omega)))
):p:=h
theorem c1G {p:Prop} (h:p:=by
 refine a1P ?_
 all_goals (first | (rw [c4H J];done) | (rw [b8h J,htn];done) | (rw [b8h J,← htn];done))
):p:=h
theorem c23 {p:Prop} (h:p:=by
 refine f6 (m8 Z Z Z Z (b4 (d7 Z ?_) (b4 (d7 Z ?_) (b4 (d7 Z ?_) (b4 (C7 Z ?_) (b4 (l4 ?_) (b4 (l4 ?_) (b4 (l4 ?_) f8))))))))
 all_goals (rfl)
):p:=h
theorem c8e {p:Prop} (h:p:=by
 refine b7 (rs:=[5]) a8 Z (AllB.cons ?_ AllB.nil)
 refine b2K ?_
 refine b7 (rs:=[6]) a8 Z (AllB.cons ?_ AllB.nil)
 refine b2K ?_
 refine J1 ?_
 exact c23
):p:=h
theorem c1H {p:Prop} (h:p:=by
 refine zf1 ?_
 all_goals (first | rfl | (simp only [b0u,h1,Bool.true_and,Bool.false_and];done) | (simp only [b0u, *,Bool.true_and,Bool.false_and];done))
):p:=h
theorem c8f {p:Prop} (h:p:=by
 try rw [h1]
 try simp only [rfb] at h1
 refine d3 (λK5 hK5=>?_)
 refine b8 ?_
 refine vm5 ?_
 refine b5 Z Z (w6 G Z Z Z Z) ?_
 refine c1p ?_
 refine c1q ?_
 refine hK5 _ ?_
 clear hK5 K5
 refine f6 (m8 Z Z Z Z (b4 (M8 ?_) (b4 (M8 ?_) (b4 (l4 ?_) f8))))
 all_goals clear hK3 K3
 all_goals (first | rfl | (exfalso;simp_all;done))
):p:=h
theorem c59 {p:Prop} (h:p:=by
 refine f6 (m8 Z Z Z Z (b4 (d7 Z ?_) (b4 (d7 Z ?_) f8)))
 all_goals exact b9o
):p:=h
theorem c6a {p:Prop} (h:p:=by
 refine zf1 ?_
 all_goals ((first | (simp only [b3X];rw [if_pos J];done) | (simp only [b3X];rw [if_neg J,if_pos J];done) | (simp only [b3X];rw [if_neg J,if_neg J];done)))
):p:=h
theorem a8g {p:Prop} (h:p:=by
 exact ⟨⟨_,Z,by rfl⟩,Z,trivial⟩
):p:=h
theorem c8g {p:Prop} (h:p:=by
 exact ⟨by omega,o9 hinv.2 (I4.mpr ⟨s2.mp i6,s2.mp i6,by omega,(λj hj=>by have:=a0a.mp (a8P.mp (show G6 (λj=>decide ((wa.getD j default).q=(wa.getD i default).q)) i < 0 by omega)) j hj;exact of_decide_eq_false this),c2S⟩)⟩
):p:=h
theorem c6b {p:Prop} (h:p:=by
 refine zf1 ?_
 all_goals (rw [← c41 hl.1];simp only [szF]<;>(first | (rw [if_pos i6];done) | (rw [if_neg J];done) | (rw [if_neg J];rw [c0U i6];done)))
):p:=h
theorem c6c {p:Prop} (h:p:=by
 refine zf1 ?_
 all_goals (simp only [b8T];first | (rw [if_pos (by assumption)];done) | (rw [if_neg J,if_pos J];done) | (rw [if_neg J,if_neg J];done))
):p:=h
theorem c6d {p:Prop} (h:p:=by
 refine zf1 ?_
 all_goals (simp only [a4V];first | (rw [if_pos J];done) | (rw [if_neg J,if_pos J];done) | (rw [if_neg J,if_neg J];done))
):p:=h
theorem c8h {p:Prop} (h:p:=by
 refine a1P ?_
 all_goals exact c2u
):p:=h
theorem c8i {p:Prop} (h:p:=by
 refine zgo ?_
 refine ⟨(i+1),?_,?_,⟨⟨_,Z,by rfl⟩,Z,trivial⟩,trivial,Z,Z,Z⟩
 ·exact ⟨by omega,o9 hinv.2 b9s⟩
 omega
):p:=h
theorem c6e {p:Prop} (h:p:=by
 refine zgo ?_
 refine ⟨(i+1),?_,?_,⟨⟨_,Z,by rfl⟩,Z,trivial⟩,trivial,Z,Z,Z⟩
 ·exact ⟨by omega,o9 hinv.2 (by simp_all [fdP,emP])⟩
 omega
):p:=h
theorem c6f {p:Prop} (h:p:=by
 refine zf1 ?_
 all_goals (simp only [szQ];first | (rw [if_pos i6];done) | (rw [if_neg J];done) | (rw [if_neg J,b5I i6];done))
):p:=h
theorem b9K {p:Prop} (h:p:=by
 exact ⟨⟨_,Z,by exact congrArg (Row.row _ _) (by rw [b02])⟩,Z,Z,trivial⟩
):p:=h
theorem b44 {p:Prop} (h:p:=by
 refine zf1 ?_
 all_goals (first | (rw [hO];done) | (rw [hO];rfl))
):p:=h
theorem c6g {p:Prop} (h:p:=by
 exact ⟨⟨_,Z,by (first | rfl | (simp only [Y3];congr 2;omega))⟩,Z,⟨⟨_,Z,by (first | rfl | (simp only [Y3];congr 2;omega))⟩,Z,trivial⟩⟩
):p:=h
theorem c8j {p:Prop} (h:p:=by
 refine zgo ?_
 refine ⟨(i+1),?_,?_,⟨⟨_,Z,by rfl⟩,Z,⟨⟨_,Z,by rfl⟩,Z,trivial⟩⟩,⟨⟨_,Z,by (first | (rw [c6R J];done) | (rw [c6S J,List.map_append];rfl))⟩,Z,Z,trivial⟩,Z,Z,Z⟩
 ·exact ⟨by omega,o9 hinv.2 J⟩
 omega
):p:=h
theorem c24 {p:Prop} (h:p:=by
 refine c1p ?_
 refine c1q ?_
 refine hK6 _ ?_
 clear hK6 K6
 refine f6 (m8 Z Z Z Z (b4 (d7 Z ?_) (b4 (d7 Z ?_) (b4 (l4 ?_) f8))))
 all_goals (first | rfl | (exfalso;simp_all;done))
):p:=h
theorem b56 {p:Prop} (h:p:=by
 refine zf1 ?_
 all_goals (first | rfl | (rw [c5a i6];done) | (rw [c5b i6];done))
):p:=h
theorem c25 {p:Prop} (h:p:=by
 refine zgn ?_
 refine n9 (C4 (Gh.nestX (id:=6) m.cp Z (by simp only [List.length_set,List.length_map])) ?_)
 refine zgo ?_
 refine f6 (m8 Z Z Z Z (b4 (d7 Z ?_) (b4 (d7 Z ?_) (b4 (d7 Z ?_) (b4 (C7 Z ?_) (b4 (l4 ?_) (b4 (l4 ?_) f8)))))))
 all_goals (rfl)
):p:=h
theorem c26 {p:Prop} (h:p:=by
 refine zgo ?_
 refine ⟨(i+1),?_,?_,⟨⟨_,Z,by rfl⟩,Z,⟨⟨_,Z,by rfl⟩,Z,trivial⟩⟩,⟨⟨_,Z,by (first | (rw [c4O i6,List.map_append];rfl) | (rw [c4P i6];done))⟩,Z,Z,trivial⟩,Z,Z,Z⟩
 ·omega
 omega
):p:=h
theorem c27 {p:Prop} (h:p:=by
 refine zgo ?_
 refine f6 (r5 Z Z Z Z (b4 (M8 ?_) (b4 (l4 ?_) (b4 (l4 ?_) f8))))
 all_goals exact c2v
):p:=h
theorem c28 {p:Prop} (h:p:=by
 refine zgo ?_
 refine ⟨(i+1),?_,?_,⟨⟨_,Z,by rfl⟩,Z,⟨⟨_,Z,by rfl⟩,Z,trivial⟩⟩,⟨⟨_,Z,by (rw [b1H,List.map_append];rfl)⟩,Z,Z,trivial⟩,Z,Z,Z⟩
 ·exact ⟨by omega,o9 hinv.2 (by assumption)⟩
 omega
):p:=h
theorem b57 {p:Prop} (h:p:=by
 refine f6 (r5 Z Z Z Z (b4 (d7 Z ?_) (b4 (l4 ?_) f8)))
 all_goals ((rw [hN]))
):p:=h
theorem b1J {p:Prop} (h:p:=by
 exact ⟨⟨_,Z,by (rw [b6r];rfl)⟩,Z,Z,trivial⟩
):p:=h
theorem c29 {p:Prop} (h:p:=by
 refine zgo ?_
 refine ⟨(i+1),?_,?_,⟨⟨_,Z,by rfl⟩,Z,trivial⟩,trivial,Z,Z,Z⟩
 ·exact ⟨by omega,o9 hi.2 (a8U.mpr ⟨by omega,by first | exact .inl J | exact .inr ⟨by assumption,by assumption⟩⟩)⟩
 omega
):p:=h
theorem c3a {p:Prop} (h:p:=by
 refine zf1 ?_
 all_goals exact c2w
):p:=h
theorem c3b {p:Prop} (h:p:=by
 refine zf1 ?_
 all_goals exact c2x
):p:=h
theorem c3c {p:Prop} (h:p:=by
 refine zf1 ?_
 all_goals exact c2y
):p:=h
theorem c3d {p:Prop} (h:p:=by
 refine zf1 ?_
 all_goals exact c2z
):p:=h
theorem c3e {p:Prop} (h:p:=by
 exact ⟨by omega,o9 hinv.2 (I4.mpr ⟨s2.mp i6,s2.mp i6,by omega,λj hj=>hk.2 j J,c2S⟩)⟩
):p:=h
theorem c3f {p:Prop} (h:p:=by
 exact ⟨by omega,o9 hinv.2 (by first | exact c1W i6 (a9G.mpr (ec3.mp i6)) | exact c1X i6 (a3j.mpr ⟨s2.mp i6,s2.mp i6,s2.mp i6⟩) (a8P.mp J))⟩
):p:=h
theorem c3g {p:Prop} (h:p:=by
 refine zgo ?_
 refine ⟨(i+1),?_,?_,⟨⟨_,Z,by rfl⟩,Z,⟨⟨_,Z,by rfl⟩,Z,trivial⟩⟩,⟨⟨_,Z,by (exact congrArg (λz=>Row.row _ _ z) (b8A J))⟩,Z,Z,trivial⟩,Z,Z,Z⟩
 ·omega
 omega
):p:=h
theorem c3h {p:Prop} (h:p:=by
 refine b34 ?_
 refine vm5 ?_
 refine c1n ?_
 refine zfo ?_
 all_goals (first | rfl | simp)
):p:=h
theorem b58 {p:Prop} (h:p:=by
 exact ⟨⟨_,Z,by rfl⟩,Z,Z,⟨⟨_,Z,by rfl⟩,Z,Z,trivial⟩⟩
):p:=h
theorem b59 {p:Prop} (h:p:=by
 refine zf1 ?_
 all_goals (first | rfl | (simp_all [m5];done) | (simp_all [m5];omega))
):p:=h
theorem b6a {p:Prop} (h:p:=by
 refine zf1 ?_
 all_goals (first | rfl | (simp_all [b4A];done) | (simp_all [b4A];omega))
):p:=h
theorem c3i {p:Prop} (h:p:=by
 refine zf1 ?_
 all_goals exact c2A
):p:=h
theorem c3j {p:Prop} (h:p:=by
 refine f6 (r5 Z Z Z Z (b4 (a06 Z ?_) (b4 (l4 ?_) f8)))
 all_goals clear hK4 K4
 all_goals (first | (rw [hB.1];rfl) | (rw [hB.2];rfl) | (rw [hB.2];done) | (rw [b05 hB,h4];rfl) | (rw [b05 hB,h4];simp;done))
):p:=h
theorem b39 {p:Prop} (h:p:=by
 refine zf1 ?_
 all_goals (first | rfl | (simp_all [b8e];done))
):p:=h
theorem c3k {p:Prop} (h:p:=by
 refine zgo ?_
 refine ⟨(i+1),?_,?_,⟨⟨_,Z,by rfl⟩,Z,trivial⟩,trivial,Z,Z,Z⟩
 ·exact ⟨by omega,o9 hinv.2 (by first | assumption | exact a0U.mp i6)⟩
 omega
):p:=h
theorem c3l {p:Prop} (h:p:=by
 exact ⟨by omega,hinv.2.succ hm (λk hk e=>(b5H.mp h5) ((a9N J).mpr ⟨k,hk,e⟩)) (by first | exact c13 b5Z | (obtain rfl:i=0:=J;exact c12))⟩
):p:=h
theorem c3m {p:Prop} (h:p:=by
 refine ⟨(k+1),?_,?_,⟨⟨_,Z,by rfl⟩,Z,trivial⟩,trivial,Z,Z,Z⟩
 ·exact ⟨by omega,o9 hk.2 (c4X i6 i6)⟩
 omega
):p:=h
theorem b6b {p:Prop} (h:p:=by
 refine zf1 ?_
 all_goals ((rw [hO];try rw [← hrl];try rfl))
):p:=h
theorem c3n {p:Prop} (h:p:=by
 refine zgo ?_
 refine ⟨(k+1),?_,?_,⟨⟨_,Z,by rfl⟩,Z,trivial⟩,trivial,Z,Z,Z⟩
 ·exact ⟨by omega,b4s hk.2 i6⟩
 omega
):p:=h
theorem b9L {p:Prop} (h:p:=by
 refine a1P ?_
 all_goals (first | rfl | (simp_all;done))
):p:=h
theorem b6c {p:Prop} (h:p:=by
 refine zf1 ?_
 all_goals (first | rfl | (simp_all [c0H];done))
):p:=h
theorem b6d {p:Prop} (h:p:=by
 refine zf1 ?_
 all_goals (first | rfl | (simp_all [eqL];done))
):p:=h
theorem b9M {p:Prop} (h:p:=by
 refine zf1 ?_
 all_goals (first | rfl | (simp_all [b4x];done) | (simp_all [b4x];omega))
):p:=h
theorem b9N {p:Prop} (h:p:=by
 refine zf1 ?_
 all_goals (first | rfl | (simp_all [b4B];done) | (simp_all [b4B];omega))
):p:=h
theorem a9X {p:Prop} (h:p:=by
 refine zf1 ?_
 all_goals (rfl)
):p:=h
theorem c3o {p:Prop} (h:p:=by
 exact ⟨⟨_,Z,by (first | rfl | (simp;done) | (simp;omega))⟩,Z,⟨⟨_,Z,by (first | rfl | (simp;done) | (simp;omega))⟩,Z,trivial⟩⟩
):p:=h
theorem b6e {p:Prop} (h:p:=by
 first | (exfalso;omega) | (exfalso;simp_all;done)
):p:=h
theorem c3p {p:Prop} (h:p:=by
 exact ⟨⟨_,Z,by rfl⟩,Z,Z,⟨⟨_,Z,by rfl⟩,Z,Z,⟨⟨_,Z,by rfl⟩,Z,Z,trivial⟩⟩⟩
):p:=h
theorem c3q {p:Prop} (h:p:=by
 refine zf1 ?_
 all_goals (first | (rw [b5Q J];done) | (rw [a8X J];done) | (rw [a8X J];rfl))
):p:=h
theorem b9O {p:Prop} (h:p:=by
 refine zf1 ?_
 all_goals (first | rfl | (simp_all [lessW];done))
):p:=h
theorem b9P {p:Prop} (h:p:=by
 refine zf1 ?_
 all_goals (first | rfl | (simp_all [b8c];done))
):p:=h
theorem b9Q {p:Prop} (h:p:=by
 refine zf1 ?_
 all_goals (first | rfl | (simp_all [c02];done))
):p:=h
theorem c3r {p:Prop} (h:p:=by
 exact ⟨⟨_,Z,by rfl⟩,Z,⟨⟨_,Z,by rfl⟩,Z,⟨⟨_,Z,by rfl⟩,Z,trivial⟩⟩⟩
):p:=h
theorem c3s {p:Prop} (h:p:=by
 refine zgo ?_
 refine f6 (r5 Z Z Z Z (b4 (b11 ?_) (b4 (l4 ?_) f8)))
 all_goals (rfl)
):p:=h
theorem c3t {p:Prop} (h:p:=by
 have hE:=c42 (l:=l) J
 refine zf1 ?_
 all_goals (first | (rw [hE];rfl) | (rw [hJ];done))
):p:=h
theorem c3u {p:Prop} (h:p:=by
 first | (exfalso;omega) | exact absurd i6 (hne _ (n6.mpr ⟨k,by omega,Z⟩))
):p:=h
theorem c3v {p:Prop} (h:p:=by
 all_goals (first | rfl | (exact (hbn h1).symm) | (rw [hbn h1];done) | (simp_all;done) | simp)
):p:=h
theorem c3w {p:Prop} (h:p:=by
 refine zf1 ?_
 all_goals (first | rfl | (simp_all [fdP];done) | (simp_all [fdP];rfl))
):p:=h
theorem c3x {p:Prop} (h:p:=by
 refine zf1 ?_
 all_goals (first | rfl | (simp_all [P3];done) | (simp_all [P3];rfl))
):p:=h
theorem b9R {p:Prop} (h:p:=by
 refine f6 (D0 Z (l4 ?_))
 all_goals (rfl)
):p:=h
theorem a9Y {p:Prop} (h:p:=by
 try rw [b2F J] at hO
 exact ws1
):p:=h
theorem b9S {p:Prop} (h:p:=by
 obtain ⟨m1,ir,ok⟩:=sr
 dsimp only at cS hE hir hsm hiq
 refine zgo ?_
 refine a7 Z (a0Z (n:=31) G Z Z Z Tryz.func60 Z Y Z Z Z Z ?_)
 intro b hen hpin
 refine zgo ?_
 refine a7 Z (A3 14 Z Z Z Z Z Z Z (a7 Z (A3 15 Z Z Z Z Z Z Z (a7 Z (d6 G 16 Z Z Z Z Z ?_)))))
 refine zgo ?_
 refine a7 Z (c8 20 Z Z Z (ArgsOK.of Z) cS Z Z ?_)
 refine zgo ?_
 refine a7 Z (d6 G 21 Z Z Z Z Z ?_)
 refine zcd (λk0=>?_) (λk0=>?_)
 ·refine zgo ?_
  refine f6 ⟨.inr Z,_,Z,Z,?_⟩
  have hE2:C0 m s=(m,qmB):=hE.trans (if_neg (by simp [k0]))
  have hO:=H7 h1 h2 h3 hE2
  refine zgo ?_
  refine f6 ⟨.inr Z,_,Z,Z,?_⟩
  refine b6 ⟨Z,?_⟩
  refine zsa 8 ?_
  refine zsa 9 ?_
  refine b7 (rs:=[10]) Y Z (AllB.cons ?_ AllB.nil)
  refine g9 [0,1,2,3,4,5,6,7,9,10] Z Z ?_
  refine zgo ?_
  refine ⟨Z,?_⟩
  refine zsa 11 ?_
  refine C3 Y ?_
  refine znk ?_
  refine f6 ⟨.inr Z,_,Z,Z,?_⟩
  refine zgo ?_
  refine a7 Z (d6 G 22 Z Z Z Z Z ?_)
  refine zgo ?_
  refine a7 Z (c8 26 Z Z Z (ArgsOK.of Z) (s5 _ x (by first | assumption | exact hsm (by assumption)) hx) Z Z ?_)
  refine zgo ?_
  refine a7 Z (b5 Z Z (o8 G Z Z Z) ?_)
  refine zcd (λk1=>?_) (λk1=>?_)
  ·exact a9Y
  try rw [a1f J] at hO
  have hrs:=k1
  exact ws1
 refine zgo ?_
 refine a7 Z (d6 G 22 Z Z Z Z Z ?_)
 refine zwf ?_
 refine zgo ?_
 refine f6 ⟨.inr Z,_,Z,Z,?_⟩
 have hE2:C0 m s=(m1,if ir=-1 then okB else r6 ir):=hE.trans (if_pos k0)
 first | rw [if_neg ((hiq k0).mpr J)] at hE2 | rw [if_pos (Decidable.byContradiction λg=>absurd ((hiq k0).mp g) J)] at hE2
 have hO:=H7 h1 h2 h3 hE2
 refine zgo ?_
 refine f6 ⟨.inr Z,_,Z,Z,?_⟩
 refine b6 ⟨Z,?_⟩
 refine zsa 8 ?_
 refine zsa 9 ?_
 refine b7 (rs:=[10]) Y Z (AllB.cons ?_ AllB.nil)
 refine g9 [0,1,2,3,4,5,6,7,9,10] Z Z ?_
 refine zgo ?_
 refine ⟨Z,?_⟩
 refine zsa 11 ?_
 refine C3 Y ?_
 refine znk ?_
 refine f6 ⟨.inr Z,_,Z,Z,?_⟩
 refine zgo ?_
 refine a7 Z (d6 G 23 Z Z Z Z Z ?_)
 refine zgo ?_
 refine a7 Z (c8 27 Z Z Z (ArgsOK.of Z) (s5 _ x (by first | assumption | exact hsm (by assumption)) hx) Z Z ?_)
 refine zgo ?_
 refine a7 Z (b5 Z Z (o8 G Z Z Z) ?_)
 refine zcd (λk2=>?_) (λk2=>?_)
 ·exact a9Y
 try rw [a1f J] at hO
 have hrs:=k2
 refine zgo ?_
 refine a7 Z (b5 Z Z (f7 Z (ArgsOK.of Z) (t8 x ⟨s,_⟩ hx ⟨by show s.size<=_;omega,by first | exact H6 (by decide) | exact F5 J | exact F5 (Int.ofNat_le.1 hrs)⟩) Z) ?_)
 refine zgo ?_
 refine f6 (m8 Z Z Z Z (b4 (d7 Z ?_) (b4 (d7 Z ?_) (b4 (d7 Z ?_) (b4 (C7 Z ?_) (b4 (l4 ?_) (b4 (l4 ?_) (b4 (l4 ?_) (b4 (l4 ?_) f8)))))))))
 all_goals (first | (rw [hO];done) | (rw [hO];rfl))
):p:=h
theorem b9T {p:Prop} (h:p:=by
 refine zgo ?_
 refine a7 Z (b5 Z Z (f7 Z (ArgsOK.of Z) (Z3 x ⟨s,_⟩ hx ⟨by show s.size<=_;omega,by first | exact H6 (by decide) | exact F5 J | exact F5 (Int.ofNat_le.1 hrs)⟩) Z) ?_)
 exact b1I
):p:=h
theorem b1K {p:Prop} (h:p:=by
 refine zgo ?_
 refine a7 Z (b5 Z Z (o8 G Z Z Z) ?_)
 refine zcd (λk0=>?_) (λk0=>?_)
 ·try rw [b2F J] at hO
  exact b9T
 try rw [a1f J] at hO
 have hrs:=k0
 exact b9T
):p:=h
theorem c3y {p:Prop} (h:p:=by
 refine b7 (rs:=[6]) Y Z (AllB.cons ?_ AllB.nil)
 refine f9 [1,2,3,4,5,8,9] Z Z (Z2 (Gh.forget (id:=7) (k:=4) Z Z)<|Z2 (Gh.keep [1,2,3,4,5,6,7,8,9,11] Z)<|a4R (tx:=35) 13 rfl rfl rfl rfl rfl<|H0 G (by exact Nat.le_of_ble_eq_true Z) rfl rfl rfl rfl rfl rfl rfl rfl rfl rfl (by first | (simp only [List.length_map,List.length_cons,List.length_nil];omega) | (simp;omega)) rfl rfl (b6 ⟨Z,?_⟩))
 refine d5 7 Z Y Y Z Z Z Z (m9 G Z Z Z Z) ?_
 refine b7 (rs:=[8]) Y Z (AllB.cons ?_ AllB.nil)
 refine f9 [1,2,3,4,5,8,9] Z Z (m3 G Z Z Z Z Z Z Z Z Z Z Z (b6 ⟨Z,?_⟩))
 exact a4y
):p:=h
theorem c3z {p:Prop} (h:p:=by
 first | refine f9 [] Z Z (b5 Z Z (b9 G Z Z Z Z Z J a7Y) (b6 ⟨Z,?_⟩)) | refine f9 [] Z Z (b5 Z Z (b9 G Z Z Z Z Z J a7X) (b6 ⟨Z,?_⟩)) | refine f9 [] Z Z (b5 Z Z (b9 G Z Z Z Z Z J a7V) (b6 ⟨Z,?_⟩))
 refine b7 (rs:=[9,13]) a8 Z (AllB.cons ?_ (AllB.cons ?_ AllB.nil))
 ·first | refine f9 [] Z Z (b5 Z Z (d8 G Z Z Z Z (X0 J) Z) (b6 ⟨Z,?_⟩)) | refine f9 [] Z Z (b5 Z Z (d8 G Z Z Z Z (a0b J J) Z) (b6 ⟨Z,?_⟩)) | refine f9 [] Z Z (b5 Z Z (d8 G Z Z Z Z (a0W J J) Z) (b6 ⟨Z,?_⟩))
  refine b7 (rs:=[13]) a8 Z (AllB.cons ?_ AllB.nil)
  exact ws2
 first | refine f9 [] Z Z (b5 Z Z (d8 G Z Z Z Z (X0 J) Z) (b6 ⟨Z,?_⟩)) | refine f9 [] Z Z (b5 Z Z (d8 G Z Z Z Z (a0b J J) Z) (b6 ⟨Z,?_⟩)) | refine f9 [] Z Z (b5 Z Z (d8 G Z Z Z Z (a0W J J) Z) (b6 ⟨Z,?_⟩))
 refine b7 (rs:=[9]) a8 Z (AllB.cons ?_ AllB.nil)
 exact ws2
):p:=h
theorem c3A {p:Prop} (h:p:=by
 refine b7 (rs:=[5]) Y Z (AllB.cons ?_ AllB.nil)
 refine f9 [1,2,3,4,7] Z Z (Z2 (Gh.forget (id:=6) (k:=3) Z Z)<|Z2 (Gh.keep [1,2,3,4,5,6,7,11] Z)<|a4R (tx:=28) 13 rfl rfl rfl rfl rfl<|H0 G (by exact Nat.le_of_ble_eq_true Z) rfl rfl rfl rfl rfl rfl rfl rfl rfl rfl (by first | (simp only [List.length_map,List.length_cons,List.length_nil];omega) | (simp;omega)) rfl rfl (b6 ⟨Z,?_⟩))
 refine d5 6 Z Y Y Z Z Z Z (m9 G Z Z Z Z) ?_
 refine b7 (rs:=[7]) Y Z (AllB.cons ?_ AllB.nil)
 refine f9 [1,2,3,4,7] Z Z (m3 G Z Z Z Z Z Z Z Z Z Z Z (b6 ⟨Z,?_⟩))
 exact a4y
):p:=h
theorem b4a {p:Prop} (h:p:=by
 refine U6 ?_
 exact a4y
):p:=h
theorem c3B {p:Prop} (h:p:=by
 refine b7 (rs:=[10]) a8 Z (AllB.cons ?_ AllB.nil)
 refine f9 [0,1,2,3,4,10] Z Z (Z2 (Gh.forget (id:=7) (k:=4) Z Z)<|Z2 (Gh.keep [0,1,2,3,4,6,7,10,12] Z)<|a4R (tx:=58) 14 rfl rfl rfl rfl rfl<|H0 G a0z rfl rfl rfl rfl rfl rfl rfl rfl rfl rfl R4 rfl rfl (b6 ⟨Z,?_⟩))
 refine zsa 11 ?_
 refine b7 (rs:=[12]) a8 Z (AllB.cons ?_ AllB.nil)
 refine g9 [0,1,2,3,4,10] Z Z ?_
 exact b4a
):p:=h
theorem c3C {p:Prop} (h:p:=by
 refine b7 (rs:=[5]) a8 Z (AllB.cons ?_ AllB.nil)
 refine f9 [1,2,3,4,7] Z Z (Z2 (Gh.forget (id:=6) (k:=3) Z Z)<|Z2 (Gh.keep [1,2,3,4,5,6,7,11] Z)<|a4R (tx:=28) 13 rfl rfl rfl rfl rfl<|H0 G a0z rfl rfl rfl rfl rfl rfl rfl rfl rfl rfl R4 rfl rfl (b6 ⟨Z,?_⟩))
 refine zsa 6 ?_
 refine b7 (rs:=[7]) a8 Z (AllB.cons ?_ AllB.nil)
 refine g9 [1,2,3,4,7] Z Z ?_
 exact b4a
):p:=h
theorem c3D {p:Prop} (h:p:=by
 refine C8 ?_
 refine r4 (e6 [0] [] (λ(i:Nat)=>[(1,.v (.int .i64 (k+2 * (i:Int)))),(5,.v (.int .i64 (i:Int)))]) (λ(i:Nat)=>[]) (λ(i:Nat)=>i<=xs.length) (λ(i:Nat)=>xs.length - i) 0 Z Z ?_ ?_ ?_ ?_)
 ·exact B2
 ·exact b0B
 ·exact trivial
 intro i hinv
 have hi:i<=xs.length:=hinv
 refine c1j ?_
 refine j9 Z (λk0=>?_) (λk0=>?_)
 ·try rw [k0]
  try simp only [rfb] at k0
  refine a2H ?_
  refine n9 (n9 (b8 ?_))
  exact c7S
 try rw [k0]
 try simp only [rfb] at k0
 refine zgn ?_
 refine a1P ?_
 all_goals exact c5L
):p:=h
theorem c3E {p:Prop} (h:p:=by
 refine zgo ?_
 refine e6 [2,4,40,41] [0] (λ(i:Nat)=>[(8,.v (.int .i64 (F8 rs a c (b18 rs a c) i).2)),(9,.v (.int .i64 (F8 rs a c (b18 rs a c) i).1)),(42,.v (.int .i64 (i:Int)))]) (λ(i:Nat)=>[]) (λ(i:Nat)=>i<=rs.length) (λ(i:Nat)=>rs.length - i) 0 Z Z ?_ ?_ ?_ ?_
 ·exact B2
 ·exact ⟨⟨_,Z,by first | rfl | (simp only [F8];rw [b4z J];done) | (simp only [F8];rw [b4y J];done)⟩,Z,⟨⟨_,Z,by first | rfl | (simp only [F8];rw [b4z J];done) | (simp only [F8];rw [b4y J];done)⟩,Z,⟨⟨_,Z,by first | rfl | (simp only [F8];rw [b4z J];done) | (simp only [F8];rw [b4y J];done)⟩,Z,trivial⟩⟩⟩
 ·exact trivial
 intro i hinv
 refine vm4 ?_
 refine zcd (λk0=>?_) (λk0=>?_)
 ·refine zgo ?_
  refine b0x ?_
  refine zcd (λk1=>?_) (λk1=>?_)
  ·refine zcd (λk2=>?_) (λk2=>?_)
   ·refine zcd (λk3=>?_) (λk3=>?_)
    ·refine zgd ?_
     exact ws8
    exact ws8
   refine zwf ?_
   exact ws8
  refine zwf ?_
  exact ws8
 refine zf1 ?_
 all_goals exact c2B
):p:=h
theorem c3F {p:Prop} (h:p:=by
 refine b7 (rs:=[8]) a8 Z (AllB.cons ?_ AllB.nil)
 refine g9 [1,2,5,6] Z Z (c8 8 Z Z Z (ArgsOK.of (by rw [c6N];rfl)) (a00 (x.wa.drop 1) _ (by rw [List.length_drop];omega)) Z Z (b6 ⟨Z,?_⟩))
 refine zsa 9 ?_
 refine b7 (rs:=[10]) a8 Z (AllB.cons ?_ AllB.nil)
 refine g9 [1,2,5,6] Z Z ?_
 exact b4a
):p:=h
theorem c3G {p:Prop} (h:p:=by
 refine d5 6 Z a8 a8 Z Z Z Z (G5 Z Z Z b50) ?_
 refine zsa 7 ?_
 refine b7 (rs:=[8]) a8 Z (AllB.cons ?_ AllB.nil)
 refine g9 [1,2] Z Z ?_
 exact b4a
):p:=h
theorem c3H {p:Prop} (h:p:=by
 refine b7 (rs:=[9]) a8 Z (AllB.cons ?_ AllB.nil)
 refine f9 [0,1,2,3,4,6,8] Z Z (Z2 (Gh.forget (id:=7) (k:=3) Z Z)<|Z2 (Gh.keep [0,1,2,3,4,5,6,7,8,9] Z)<|a4R (tx:=47) 11 rfl rfl rfl rfl rfl<|j3 G a0z rfl rfl rfl rfl rfl rfl rfl rfl rfl R4 rfl rfl (b6 ⟨Z,?_⟩))
 refine zsa 10 ?_
 refine b7 (rs:=[11]) a8 Z (AllB.cons ?_ AllB.nil)
 refine g9 [0,1,2,3,4,6,8] Z Z ?_
 exact b4a
):p:=h
theorem b9U {p:Prop} (h:p:=by
 refine zgo ?_
 apply x7 [4] [0] 2 13 [] mixed a8 Z Z (λ_ h=>znk h)
 ·exact ws4
 refine zfo ?_
 all_goals exact c2C
):p:=h
theorem b4b {p:Prop} (h:p:=by
 refine zcd (λk0=>?_) (λk0=>?_)
 ·refine zcd (λk1=>?_) (λk1=>?_)
  ·exact a2I
  exact a2I
 exact a2I
):p:=h
theorem b9V {p:Prop} (h:p:=by
 refine zgo ?_
 refine a7 Z (c8 6 Z Z Z (ArgsOK.of Z) (Ctr.shpTo (a01 m x hs hx) (.cons .s (.cons .s (.cons .s (.cons (.n flM) (.cons .s (.cons .s (.cons .s .nil)))))))) Z Z ?_)
 exact b1I
):p:=h
theorem c3I {p:Prop} (h:p:=by
 refine b2K ?_
 refine J1 ?_
 exact c57
):p:=h
theorem c3J {p:Prop} (h:p:=by
 refine b7 (rs:=[8]) a8 Z (AllB.cons ?_ AllB.nil)
 refine b2K ?_
 refine b7 (rs:=[9]) a8 Z (AllB.cons ?_ AllB.nil)
 exact c3I
):p:=h
theorem c3K {p:Prop} (h:p:=by
 refine zcl (z6 _) ?_
 refine vm5 ?_
 refine t7 G 5 Z Z Z Z Z Z Z Z ?_
 refine vm8 ?_
 exact c79
):p:=h
theorem b4c {p:Prop} (h:p:=by
 have hn:=Y4 (k:=l5 w) J
 rw [hl] at hn
 refine zgo ?_
 exact c1w
):p:=h
theorem b9W {p:Prop} (h:p:=by
 refine a1P ?_
 exact b7d
):p:=h
theorem c3L {p:Prop} (h:p:=by
 refine C8 ?_
 refine j9 Z (λk0=>?_) (λk0=>?_)
 ·try rw [k0]
  try simp only [rfb] at k0
  exact b9J
 try rw [k0]
 try simp only [rfb] at k0
 refine zgn ?_
 exact b9J
):p:=h
theorem c3M {p:Prop} (h:p:=by
 intro i hinv
 refine vm4 ?_
 refine zcd (λk0=>?_) (λk0=>?_)
 ·refine zgo ?_
  exact c1u
 refine zfo ?_
 all_goals exact b9n
):p:=h
theorem c3N {p:Prop} (h:p:=by
 refine zgo ?_
 refine a0I ?_
 refine b7c ?_
 refine zcd (λk0=>?_) (λk0=>?_)
 ·exact c1y
 refine zgo ?_
 refine ⟨(i+1),?_,?_,⟨⟨_,Z,by rfl⟩,Z,trivial⟩,trivial,Z,Z,Z⟩
 ·refine ⟨by omega,o9 hinv.2 ?_⟩;(simp only [a6U,Bool.and_eq_true,decide_eq_true_eq,Bool.not_eq_true',beq_eq_false_iff_ne,ne_eq] at *;omega)
 omega
):p:=h
theorem c3O {p:Prop} (h:p:=by
 refine zcd (λk0=>?_) (λk0=>?_)
 ·refine zcl (F0 sl _ hl) ?_
  refine zcd (λk1=>?_) (λk1=>?_)
  ·exact b7e
  exact c73
 refine zwf ?_
 exact c73
):p:=h
theorem a4A {p:Prop} (h:p:=by
 refine zwt ?_
 exact b9E
):p:=h
theorem c3P {p:Prop} (h:p:=by
 refine zcd (λk0=>?_) (λk0=>?_)
 ·refine zcl (D6 m s.c hn) ?_
  refine zcd (λk1=>?_) (λk1=>?_)
  ·exact a2I
  exact a2I
 exact a2I
):p:=h
theorem c3Q {p:Prop} (h:p:=by
 refine zcd (λk0=>?_) (λk0=>?_)
 ·refine zcd (λk1=>?_) (λk1=>?_)
  ·refine b2L ?_
   exact a2I
  exact a2I
 exact a2I
):p:=h
theorem b6f {p:Prop} (h:p:=by
 refine zcl (C5 _ _ _) ?_
 refine zf1 ?_
 exact c58
):p:=h
theorem c3R {p:Prop} (h:p:=by
 refine p8 ?_
 refine c8 2 Z Z Z (ArgsOK.of Z) (Y5 sl _ ⟨_,_,_⟩ J J) Z Z ?_
 exact c78
):p:=h
theorem c3S {p:Prop} (h:p:=by
 refine p8 ?_
 refine c8 2 Z Z Z (ArgsOK.of Z) (F2 sl _ ⟨_,_,_⟩ J J) Z Z ?_
 exact c78
):p:=h
theorem c3T {p:Prop} (h:p:=by
 refine p8 ?_
 refine c8 2 Z Z Z (ArgsOK.of Z) (Y5 sl _ ⟨_,_,_⟩ J J) Z Z ?_
 exact c52
):p:=h
theorem c3U {p:Prop} (h:p:=by
 refine zgn ?_
 refine j9 Z (λh2=>?_) (λh2=>?_)
 ·try rw [h2]
  try simp only [rfb] at h2
  refine a1P ?_
  all_goals exact b9p
 try rw [h2]
 try simp only [rfb] at h2
 exact c2X
):p:=h
theorem c3V {p:Prop} (h:p:=by
 refine p8 ?_
 refine c8 8 Z Z Z (ArgsOK.of Z) (a0B _ hQ) Z Z ?_
 refine zgo ?_
 exact c59
):p:=h
theorem c3W {p:Prop} (h:p:=by
 refine Ctr.of (n:=12) G Tryz.func166 Z a8 Z Z Z (λw0=>?_)
 exact c7R
):p:=h
theorem c3X {p:Prop} (h:p:=by
 refine Ctr.of (n:=19) G Tryz.func263 Z a8 Z Z Z (λw0=>?_)
 exact ws6
):p:=h
theorem c3Y {p:Prop} (h:p:=by
 refine Ctr.of (n:=19) G Tryz.func207 Z a8 Z Z Z (λw0=>?_)
 exact ws6
):p:=h
theorem b1L {p:Prop} (h:p:=by
 refine zgo ?_
 exact c71
):p:=h
theorem c3Z {p:Prop} (h:p:=by
 refine vm3 ?_
 exact a9X
):p:=h
theorem c30 {p:Prop} (h:p:=by
 refine p8 ?_
 refine d6 G 12 Z Z Z Z Z ?_
 exact c7T
):p:=h
theorem c31 {p:Prop} (h:p:=by
 have hO:=b1D (s:=⟨sk,sq,sc,sv⟩) (.inl h1)
 refine zwt ?_
 exact b7g
):p:=h
theorem b4d {p:Prop} (h:p:=by
 refine zgo ?_
 refine a7 Z (b5 Z Z (o8 G Z Z Z) ?_)
 refine zcd (λk0=>?_) (λk0=>?_)
 ·try rw [b2F J] at hO
  exact ws1
 try rw [a1f J] at hO
 have hrs:=k0
 exact ws1
):p:=h
theorem c32 {p:Prop} (h:p:=by
 obtain ⟨m1,ir,ok⟩:=sr
 dsimp only at cS hE hir hsm hiq
 refine zgo ?_
 refine a7 Z (a0Z (n:=31) G Z Z Z Tryz.func60 Z Y Z Z Z Z ?_)
 intro b hen hpin
 refine zgo ?_
 refine a7 Z (A3 14 Z Z Z Z Z Z Z (a7 Z (A3 15 Z Z Z Z Z Z Z (a7 Z (d6 G 16 Z Z Z Z Z ?_)))))
 refine zgo ?_
 refine a7 Z (c8 20 Z Z Z (ArgsOK.of Z) cS Z Z ?_)
 refine zgo ?_
 refine a7 Z (d6 G 21 Z Z Z Z Z ?_)
 refine zcd (λh301=>?_) (λh301=>?_)
 ·refine zgo ?_
  refine f6 ⟨.inr Z,_,Z,Z,?_⟩
  have hE2:C0 m s=(m,qmB):=hE.trans (if_neg (by simp [h301]))
  have hO:=H7 h1 h2 h3 hE2
  refine zgo ?_
  refine f6 ⟨.inr Z,_,Z,Z,?_⟩
  refine b6 ⟨Z,?_⟩
  refine zsa 8 ?_
  refine zsa 9 ?_
  refine b7 (rs:=[10]) Y Z (AllB.cons ?_ AllB.nil)
  refine g9 [0,1,2,3,4,5,6,7,9,10] Z Z ?_
  refine zgo ?_
  refine ⟨Z,?_⟩
  refine zsa 11 ?_
  refine C3 Y ?_
  refine znk ?_
  refine f6 ⟨.inr Z,_,Z,Z,?_⟩
  refine zgo ?_
  refine a7 Z (d6 G 22 Z Z Z Z Z ?_)
  refine zgo ?_
  refine a7 Z (c8 26 Z Z Z (ArgsOK.of Z) (s5 _ x (by first | assumption | exact hsm (by assumption)) hx) Z Z ?_)
  exact b4d
 refine zgo ?_
 refine a7 Z (d6 G 22 Z Z Z Z Z ?_)
 refine zwt ?_
 refine n9 (l3 5 [0,1,2,3,4,5,6,7,8,9,10,11,12,13,14,16,17,18,19,20,21] mixed Y Z Z (λr0=>?_) (λ_ h=>h))
 refine zsa 0 ?_
 refine zsa 1 ?_
 refine b7 (rs:=[2]) Y Z (AllB.cons ?_ AllB.nil)
 refine g9 [0,1,2,3,4,5,6,7,8,9,10,11,12,13,14,16,17,18,19,20,21] Z Z (b5 Z Z (f7 Z (ArgsOK.of Z) (w5 ir J J) Z) (b6 ⟨Z,?_⟩))
 refine b7 (rs:=[3]) Y Z (AllB.cons ?_ AllB.nil)
 refine g9 [0,1,2,3,4,5,6,7,8,9,10,11,12,13,14,16,17,18,19,20,21] Z Z ?_
 refine zgo ?_
 refine ⟨Z,?_⟩
 refine zsa 4 ?_
 refine C3 Y ?_
 refine znk ?_
 refine f6 ⟨.inr Z,_,Z,Z,?_⟩
 have hE2:C0 m s=(m1,if ir=-1 then okB else r6 ir):=hE.trans (if_pos h301)
 first | rw [if_neg ((hiq h301).mpr J)] at hE2 | rw [if_pos (Decidable.byContradiction λg=>absurd ((hiq h301).mp g) J)] at hE2
 have hO:=H7 h1 h2 h3 hE2
 refine zgo ?_
 refine f6 ⟨.inr Z,_,Z,Z,?_⟩
 refine b6 ⟨Z,?_⟩
 refine zsa 8 ?_
 refine zsa 9 ?_
 refine b7 (rs:=[10]) Y Z (AllB.cons ?_ AllB.nil)
 refine g9 [0,1,2,3,4,5,6,7,9,10] Z Z ?_
 refine zgo ?_
 refine ⟨Z,?_⟩
 refine zsa 11 ?_
 refine C3 Y ?_
 refine znk ?_
 refine f6 ⟨.inr Z,_,Z,Z,?_⟩
 refine zgo ?_
 refine a7 Z (d6 G 23 Z Z Z Z Z ?_)
 refine zgo ?_
 refine a7 Z (c8 27 Z Z Z (ArgsOK.of Z) (s5 _ x (by first | assumption | exact hsm (by assumption)) hx) Z Z ?_)
 refine zgo ?_
 refine a7 Z (b5 Z Z (o8 G Z Z Z) ?_)
 refine zcd (λk0=>?_) (λk0=>?_)
 ·exact a9Y
 try rw [a1f J] at hO
 have hrs:=k0
 refine zgo ?_
 refine a7 Z (b5 Z Z (f7 Z (ArgsOK.of Z) (t8 x ⟨s,_⟩ hx ⟨by show s.size<=_;omega,by first | exact H6 (by decide) | exact F5 J | exact F5 (Int.ofNat_le.1 hrs)⟩) Z) ?_)
 refine zgo ?_
 refine f6 (m8 Z Z Z Z (b4 (d7 Z ?_) (b4 (d7 Z ?_) (b4 (d7 Z ?_) (b4 (C7 Z ?_) (b4 (l4 ?_) (b4 (l4 ?_) (b4 (l4 ?_) (b4 (l4 ?_) f8)))))))))
 all_goals (first | (rw [hO];done) | (rw [hO];rfl))
):p:=h
theorem b6g {p:Prop} (h:p:=by
 refine f6 ⟨.inr Z,_,Z,Z,?_⟩
 refine zgo ?_
 refine a7 Z (d6 G 14 Z Z Z Z Z ?_)
 refine zgo ?_
 refine a7 Z (c8 18 Z Z Z (ArgsOK.of Z) (s5 _ x (by first | assumption | exact hsm (by assumption)) hx) Z Z ?_)
 exact b4d
):p:=h
theorem c33 {p:Prop} (h:p:=by
 refine g9 [1,2] Z Z ?_
 refine U6 ?_
 refine b7 (rs:=[5]) a8 Z (AllB.cons ?_ AllB.nil)
 refine g9 [1,2] Z Z (b5 Z Z (f7 Z (ArgsOK.of Z) (a0C _ _ a1O a1O i6) Z) (b6 ⟨Z,?_⟩))
 exact c3G
):p:=h
theorem c34 {p:Prop} (h:p:=by
 refine b7 (rs:=[4]) Y Z (AllB.cons ?_ AllB.nil)
 refine f9 [1,2,3,4,7] Z Z (A8 G 12 Z Z Z Z Z Z Z Z (.v Z (.own Z (.own Z (.own Z .nil)))) Z Z Z Z (b6 ⟨Z,?_⟩))
 exact c3A
):p:=h
theorem c35 {p:Prop} (h:p:=by
 refine b7 (rs:=[4]) a8 Z (AllB.cons ?_ AllB.nil)
 refine g9 [1,2,3,4,7] Z Z (A8 G 12 Z Z Z Z Z Z Z Z (.v Z (.own Z (.own Z (.own Z .nil)))) Z Z Z Z (b6 ⟨Z,?_⟩))
 exact c3C
):p:=h
theorem c36 {p:Prop} (h:p:=by
 refine zgo ?_
 refine a7 Z (d6 G 12 Z Z Z Z Z ?_)
 refine zgo ?_
 refine a7 Z (c8 16 Z Z Z (ArgsOK.of Z) (s5 _ x (by first | assumption | exact hsm (by assumption)) hx) Z Z ?_)
 exact b4d
):p:=h
theorem c38 {p:Prop} (h:p:=by
 refine b7 (rs:=[5]) Y Z (AllB.cons ?_ AllB.nil)
 refine f9 [1,2,3,4,5,8,9] Z Z (A8 G 12 Z Z Z Z Z Z Z Z (.own Z .nil) Z Z Z Z (b6 ⟨Z,?_⟩))
 exact c3y
):p:=h
theorem c39 {p:Prop} (h:p:=by
 refine b7 (rs:=[9]) a8 Z (AllB.cons ?_ AllB.nil)
 refine g9 [0,1,2,3,4,10] Z Z (A8 G 13 Z Z Z Z Z Z Z Z (.own Z .nil) Z Z Z Z (b6 ⟨Z,?_⟩))
 exact c3B
):p:=h
theorem c4a {p:Prop} (h:p:=by
 refine b7 (rs:=[7]) a8 Z (AllB.cons ?_ AllB.nil)
 refine g9 [1,2,5,6] Z Z (b5 Z Z (f7 Z (ArgsOK.of Z) (z6 _) Z) (b6 ⟨Z,?_⟩))
 exact c3F
):p:=h
theorem b9X {p:Prop} (h:p:=by
 refine zgn ?_
 refine L8 Z ?_
 exact b9W
):p:=h
end Go.Rf
