/- Ends of walks that are said again. -/
import Derived.Test.YtcnodpipinlpcaaGreatMac
set_option linter.unusedSimpArgs false
set_option linter.unusedVariables false
namespace Go.Rf
variable {p:Prop}
theorem a33 (h:p:=by
 exact a4g a6 (Meet.mk Z Z Z Z)
):p:=h
theorem ws1 (h:p:=by
 first | refine c7 [] Z Z (b7 Z Z (d9 G Z Z Z Z (V9 J) Z) (a8 ⟨Z,?_⟩)) | refine c7 [] Z Z (b7 Z Z (d9 G Z Z Z Z (Z2 J J) Z) (a8 ⟨Z,?_⟩)) | refine c7 [] Z Z (b7 Z Z (d9 G Z Z Z Z (a0W J J) Z) (a8 ⟨Z,?_⟩))
 refine b6 (rs:=[14]) a6 Z (AllB.cons ?_ AllB.nil)
 first | refine c7 [] Z Z (b7 Z Z (c6 G Z Z Z Z Z J a6B) (a8 ⟨Z,?_⟩)) | refine c7 [] Z Z (b7 Z Z (c6 G Z Z Z Z Z J a6A) (a8 ⟨Z,?_⟩)) | refine c7 [] Z Z (b7 Z Z (c6 G Z Z Z Z Z J a6z) (a8 ⟨Z,?_⟩))
 refine b6 (rs:=[15]) a6 Z (AllB.cons ?_ AllB.nil)
 first | refine c7 [] Z Z (d6 G Z Z Z Z Z (V9 J) Z Z Z Z Z (Nat.le_of_ble_eq_true Z) Z (a8 ⟨Z,?_⟩)) | refine c7 [] Z Z (d6 G Z Z Z Z Z (Z2 J J) Z Z Z Z Z (Nat.le_of_ble_eq_true Z) Z (a8 ⟨Z,?_⟩)) | refine c7 [] Z Z (d6 G Z Z Z Z Z (a0W J J) Z Z Z Z Z (Nat.le_of_ble_eq_true Z) Z (a8 ⟨Z,?_⟩))
 refine b6 (rs:=[16]) a6 Z (AllB.cons ?_ AllB.nil)
 first | refine c7 [] Z Z (b7 Z Z (c6 G Z Z Z Z Z J a6B) (a8 ⟨Z,?_⟩)) | refine c7 [] Z Z (b7 Z Z (c6 G Z Z Z Z Z J a6A) (a8 ⟨Z,?_⟩)) | refine c7 [] Z Z (b7 Z Z (c6 G Z Z Z Z Z J a6z) (a8 ⟨Z,?_⟩))
 refine b6 (rs:=[17]) a6 Z (AllB.cons ?_ AllB.nil)
 first | refine c7 [] Z Z (d6 G Z Z Z Z Z (V9 J) Z Z Z Z Z (Nat.le_of_ble_eq_true Z) Z (a8 ⟨Z,?_⟩)) | refine c7 [] Z Z (d6 G Z Z Z Z Z (Z2 J J) Z Z Z Z Z (Nat.le_of_ble_eq_true Z) Z (a8 ⟨Z,?_⟩)) | refine c7 [] Z Z (d6 G Z Z Z Z Z (a0W J J) Z Z Z Z Z (Nat.le_of_ble_eq_true Z) Z (a8 ⟨Z,?_⟩))
 exact a33
):p:=h
theorem ws2 (h:p:=by
 intro r0
 refine c3g ?_
 refine r8 (N:=1) Z (m8 (fuel:=5) [⟨0,33,0,false,.row 3 1 []⟩] (AllVOK.cons (VOK.lit G Z Z Z Z Z) (AllVOK.nil)) (λhok=>?_))
 refine i7 [(4,[0]),(6,[])] a6 a6 (λe he=>hok e he) a6 (AllVS.cons ?_ (AllVS.cons ?_ AllVS.nil))
 ·refine c3l ?_
  clear hok
  refine b6 (rs:=[6]) a6 Z (AllB.cons ?_ AllB.nil)
  refine c8 [] Z Z (p4 G 2 Z Z Z Z Z Z Z Z (a8 ⟨Z,?_⟩))
  refine b6 (rs:=[7]) a6 Z (AllB.cons ?_ AllB.nil)
  refine c8 [] Z Z (i6 G G5 Z Z Z Z Z Z Z Z Z a3X Z Z (a8 ⟨Z,?_⟩))
  refine b6 (rs:=[11]) a6 Z (AllB.cons ?_ AllB.nil)
  refine c8 [] Z Z (i6 G G5 Z Z Z Z Z Z Z Z Z a3X Z Z (a8 ⟨Z,?_⟩))
  refine zsa 12 ?_
  exact a33
 refine VStep.mk0 [] Z Z (λb1 _ hbn=>p4 G 2 Z Z Z Z Z Z Z Z (a8 Z)) a6 a6 a6 a6 (i7 [(4,[0])] a6 a6 (λe he=>hok e he) a6 (AllVS.cons ?_ AllVS.nil))
 refine c3l ?_
 clear hok
 refine b6 (rs:=[7]) a6 Z (AllB.cons ?_ AllB.nil)
 refine c8 [] Z Z (i6 G G5 Z Z Z Z Z Z Z Z Z a3X Z Z (a8 ⟨Z,?_⟩))
 refine b6 (rs:=[11]) a6 Z (AllB.cons ?_ AllB.nil)
 refine c8 [] Z Z (i6 G G5 Z Z Z Z Z Z Z Z Z a3X Z Z (a8 ⟨Z,?_⟩))
 refine zsa 12 ?_
 exact a4g a6 (Meet.mk Z Z Z Z)
):p:=h
theorem R7 (h:p:=by
 exact ⟨⟨_,Z,by rfl⟩,Z,trivial⟩
):p:=h
theorem Y5 (h:p:=by
 exact ⟨⟨_,Z,by rfl⟩,Z,Z,trivial⟩
):p:=h
theorem b9j (h:p:=by
 refine zgo ?_
 refine ⟨(i+1),?_,?_,⟨⟨_,Z,by rfl⟩,Z,trivial⟩,⟨⟨_,Z,by (first | rfl | (exact congrArg (λz=>Row.row _ _ z) (a2g J)) | (exact congrArg (λz=>Row.nest _ _ z []) (a2h J Z)) | (exact congrArg (λz=>Row.row _ _ z) (by rw [N4,List.map_set];rfl)) | (obtain rfl:i=(G3 (m.cp.getD k default).qu).length:=J;rfl))⟩,Z,Z,trivial⟩,Z,Z,Z⟩
 ·omega
 omega
):p:=h
theorem b6w (h:p:=by
 refine zgo ?_
 refine ⟨Z,?_⟩
 exact a4g X (Meet.mk Z Z Z Z)
):p:=h
theorem b9k (h:p:=by
 refine b6 (rs:=[9]) a6 Z (AllB.cons ?_ AllB.nil)
 refine c7 [0,1,2,3,4,6,8] Z Z (v6 (Gh.forget (id:=7) (k:=3) Z Z)<|v6 (Gh.keep [0,1,2,3,4,5,6,7,8,9] Z)<|J2 (tx:=47) 11 rfl rfl rfl rfl rfl<|i6 G G5 rfl rfl rfl rfl rfl rfl rfl rfl rfl C0 rfl rfl (a8 ⟨Z,?_⟩))
 refine zsa 10 ?_
 refine b6 (rs:=[11]) a6 Z (AllB.cons ?_ AllB.nil)
 refine c8 [0,1,2,3,4,6,8] Z Z ?_
 exact b6w
):p:=h
theorem b9l (h:p:=by
 refine b6 (rs:=[10]) a6 Z (AllB.cons ?_ AllB.nil)
 refine c7 [0,1,2,3,4,10] Z Z (v6 (Gh.forget (id:=7) (k:=4) Z Z)<|v6 (Gh.keep [0,1,2,3,4,6,7,10,12] Z)<|J2 (tx:=58) 14 rfl rfl rfl rfl rfl<|w5 G G5 rfl rfl rfl rfl rfl rfl rfl rfl rfl rfl C0 rfl rfl (a8 ⟨Z,?_⟩))
 refine zsa 11 ?_
 refine b6 (rs:=[12]) a6 Z (AllB.cons ?_ AllB.nil)
 refine c8 [0,1,2,3,4,10] Z Z ?_
 exact b6w
):p:=h
theorem b9m (h:p:=by
 refine b6 (rs:=[9]) a6 Z (AllB.cons ?_ AllB.nil)
 refine c8 [0,1,2,3,4,10] Z Z (s9 G 13 Z Z Z Z Z Z Z Z (.own Z .nil) Z Z Z Z (a8 ⟨Z,?_⟩))
 exact b9l
):p:=h
theorem ws3 (h:p:=by
 have hsn:=hI.sn
 have hpl:=b02 hI.qu
 refine m3 ?_
 refine b7 Z Z (Q9 G Z Z Z Z) ?_
 refine m3 ?_
 refine c4 9 Z Z Z (ArgsOK.of Z) (a58 (m.cp.getD k default).qu hI.qu) Z Z ?_
 refine zgo ?_
 refine f6 [1,2,3,4,5] [0,1,2,3,5,6,7,8] (λ(i:Nat)=>[(6,.v (.int .i64 (i:Int)))]) (λ(i:Nat)=>[(4,some (.row 4 1 ((a92 (poN m k) (G3 (m.cp.getD k default).qu) i).map e7)))]) (λ(i:Nat)=>i<=(G3 (m.cp.getD k default).qu).length) (λ(i:Nat)=>(G3 (m.cp.getD k default).qu).length - i) 0 Z Z ?_ ?_ ?_ ?_
 ·exact Nat.zero_le _
 ·exact R7
 ·exact Y5
 intro i hi
 have hbp:=λh=>a9V hI.qu (i:=i) h
 have hpo:=@G4 (poN m k) (G3 (m.cp.getD k default).qu) i
 have hp8:=@u9 m k
 refine vm2 ?_
 refine zcd (λk0=>?_) (λk0=>?_)
 ·have hbq:=hbp J
  refine zgn ?_
  refine p7 (r7 (d7 8 [0,1,2,3,5,6,7,8] mixed a6 Z Z (λr0=>?_) (λ_ h=>h)))
  refine C5 ?_
  first | refine i9 4 Z a6 a6 Z Z Z Z (c6 G Z Z Z Z Z J O4) ?_ | refine i9 4 Z a6 a6 Z Z Z Z (c6 G Z Z Z Z Z J (by rw [List.length_map,G4,u9];omega)) ?_ | refine i9 4 Z a6 a6 Z Z Z Z (c6 G Z Z Z Z Z J g0) ?_ | refine i9 4 Z a6 a6 Z Z Z Z (c6 G Z Z Z Z Z J J) ?_
  first | refine i9 5 Z a6 a6 Z Z Z Z (s0 G Z Z Z Z Z (a2S J) Z) ?_ | refine i9 5 Z a6 a6 Z Z Z Z (s0 G Z Z Z Z Z (w9 J (by rw [G4,u9];omega)) Z) ?_ | refine i9 5 Z a6 a6 Z Z Z Z (s0 G Z Z Z Z Z (w9 J J) Z) ?_
  refine b6 (rs:=[6]) a6 Z (AllB.cons ?_ AllB.nil)
  first | refine c7 [0,1,2,3,5,6,7,8] Z Z (b7 Z Z (c6 G Z Z Z Z Z J O4) (a8 ⟨Z,?_⟩)) | refine c7 [0,1,2,3,5,6,7,8] Z Z (b7 Z Z (c6 G Z Z Z Z Z J (by rw [List.length_map,G4,u9];omega)) (a8 ⟨Z,?_⟩)) | refine c7 [0,1,2,3,5,6,7,8] Z Z (b7 Z Z (c6 G Z Z Z Z Z J g0) (a8 ⟨Z,?_⟩)) | refine c7 [0,1,2,3,5,6,7,8] Z Z (b7 Z Z (c6 G Z Z Z Z Z J J) (a8 ⟨Z,?_⟩))
  refine b6 (rs:=[7]) a6 Z (AllB.cons ?_ AllB.nil)
  first | refine c7 [0,1,2,3,5,6,7,8] Z Z (d6 G Z Z Z Z Z (a2S J) Z Z Z Z Z (Nat.le_of_ble_eq_true Z) Z (a8 ⟨Z,?_⟩)) | refine c7 [0,1,2,3,5,6,7,8] Z Z (d6 G Z Z Z Z Z (w9 J (by rw [G4,u9];omega)) Z Z Z Z Z (Nat.le_of_ble_eq_true Z) Z (a8 ⟨Z,?_⟩)) | refine c7 [0,1,2,3,5,6,7,8] Z Z (d6 G Z Z Z Z Z (w9 J J) Z Z Z Z Z (Nat.le_of_ble_eq_true Z) Z (a8 ⟨Z,?_⟩))
  refine vm6 ?_
  exact b9j
 refine zgo ?_
 apply v8 [1,2,3,4] [0,1,2,3,4,6,7,10] 11 12 [0,1,2,3,4,6,8] mixed a6 Z Z (λ_ h=>znk h)
 ·intro r0
  refine zsa 0 ?_
  refine zsa 2 ?_
  refine zsa 3 ?_
  refine Q4 ?_
  refine i9 6 Z a6 a6 Z Z Z Z (Q9 G Z Z Z Z) (i9 7 Z a6 a6 Z Z Z Z (P9 G Z Z Z Z) (b6 (rs:=[1,8]) a6 Z (AllB.cons ?_ (AllB.cons ?_ AllB.nil))))
  ·refine c8 [0,1,2,3,4,6,8] Z Z ?_
   refine F6 ?_
   refine b6 (rs:=[8]) a6 Z (AllB.cons ?_ AllB.nil)
   refine c8 [0,1,2,3,4,6,8] Z Z (p4 G 10 Z Z Z Z Z Z Z Z (a8 ⟨Z,?_⟩))
   exact b9k
  refine c8 [0,1,2,3,4,6,8] Z Z (p4 G 10 Z Z Z Z Z Z Z Z (a8 ⟨Z,?_⟩))
  refine b6 (rs:=[1]) a6 Z (AllB.cons ?_ AllB.nil)
  refine c8 [0,1,2,3,4,6,8] Z Z ?_
  refine F6 ?_
  exact b9k
 apply v8 [1,2,3,4] [0,1,2,3,4,7,10,13] 14 13 [0,1,2,3,4,10] mixed a6 Z Z (λ_ h=>znk h)
 ·intro r0
  refine zsa 0 ?_
  refine zsa 2 ?_
  refine zsa 3 ?_
  refine Q4 ?_
  refine i9 6 Z a6 a6 Z Z Z Z (Q9 G Z Z Z Z) (i9 7 Z a6 a6 Z Z Z Z (P9 G Z Z Z Z) (b6 (rs:=[1,8]) a6 Z (AllB.cons ?_ (AllB.cons ?_ AllB.nil))))
  ·refine c8 [0,1,2,3,4,10] Z Z ?_
   refine F6 ?_
   refine b6 (rs:=[8]) a6 Z (AllB.cons ?_ AllB.nil)
   refine c8 [0,1,2,3,4,10] Z Z (c4 12 Z Z Z (ArgsOK.of Z) (w7 _ J) Z Z (a8 ⟨Z,?_⟩))
   exact b9m
  refine c8 [0,1,2,3,4,10] Z Z (c4 12 Z Z Z (ArgsOK.of Z) (w7 _ J) Z Z (a8 ⟨Z,?_⟩))
  refine b6 (rs:=[1,9]) a6 Z (AllB.cons ?_ (AllB.cons ?_ AllB.nil))
  ·refine c8 [0,1,2,3,4,10] Z Z ?_
   refine F6 ?_
   exact b9m
  refine c8 [0,1,2,3,4,10] Z Z (s9 G 13 Z Z Z Z Z Z Z Z (.own Z .nil) Z Z Z Z (a8 ⟨Z,?_⟩))
  refine b6 (rs:=[1]) a6 Z (AllB.cons ?_ AllB.nil)
  refine c8 [0,1,2,3,4,10] Z Z ?_
  refine F6 ?_
  exact b9l
 refine X3 ?_
 refine m6 (Gh.sub 10 5 np Z Z Z) (m6 (Gh.sub 13 6 np Z Z Z) (a8 ⟨(k+1),?_,?_,⟨⟨_,Z,by rfl⟩,Z,trivial⟩,⟨⟨_,Z,by (first | rfl | (exact congrArg (λz=>Row.row _ _ z) (a2g J)) | (exact congrArg (λz=>Row.nest _ _ z []) (a2h J Z)) | (exact congrArg (λz=>Row.row _ _ z) (by rw [N4,List.map_set];rfl)) | (obtain rfl:i=(G3 (m.cp.getD k default).qu).length:=J;rfl))⟩,Z,Z,⟨⟨_,Z,by (first | rfl | (exact congrArg (λz=>Row.row _ _ z) (a2g J)) | (exact congrArg (λz=>Row.nest _ _ z []) (a2h J Z)) | (exact congrArg (λz=>Row.row _ _ z) (by rw [N4,List.map_set];rfl)) | (obtain rfl:i=(G3 (m.cp.getD k default).qu).length:=J;rfl))⟩,Z,Z,⟨⟨_,Z,by (first | rfl | (exact congrArg (λz=>Row.row _ _ z) (a2g J)) | (exact congrArg (λz=>Row.nest _ _ z []) (a2h J Z)) | (exact congrArg (λz=>Row.row _ _ z) (by rw [N4,List.map_set];rfl)) | (obtain rfl:i=(G3 (m.cp.getD k default).qu).length:=J;rfl))⟩,Z,Z,trivial⟩⟩⟩,Z,Z,Z⟩))
 ·omega
 omega
):p:=h
theorem b9n (h:p:=by
 refine b6 (rs:=[6]) X Z (AllB.cons ?_ AllB.nil)
 refine c7 [1,2,3,4,5,8,9] Z Z (v6 (Gh.forget (id:=7) (k:=4) Z Z)<|v6 (Gh.keep [1,2,3,4,5,6,7,8,9,11] Z)<|J2 (tx:=35) 13 rfl rfl rfl rfl rfl<|w5 G (by exact Nat.le_of_ble_eq_true Z) rfl rfl rfl rfl rfl rfl rfl rfl rfl rfl (by first | (simp only [List.length_map,List.length_cons,List.length_nil];omega) | (simp;omega)) rfl rfl (a8 ⟨Z,?_⟩))
 refine zsa 7 ?_
 refine b6 (rs:=[8]) X Z (AllB.cons ?_ AllB.nil)
 refine c8 [1,2,3,4,5,8,9] Z Z ?_
 exact b6w
):p:=h
theorem b9o (h:p:=by
 refine b6 (rs:=[5]) X Z (AllB.cons ?_ AllB.nil)
 refine c8 [1,2,3,4,5,8,9] Z Z (s9 G 12 Z Z Z Z Z Z Z Z (.own Z .nil) Z Z Z Z (a8 ⟨Z,?_⟩))
 exact b9n
):p:=h
theorem ws4 (h:p:=by
 have hsn:=hI.sn
 have hpl:=b02 hI.qu
 refine zgo ?_
 refine b5 Z (g9 G 9 Z Z Z Z Z (b5 Z (a94 26 Z (λ_=>Z) λv26=>l5 G Z Z Z Z Z Z Z Z Z Z Z ?_)))
 refine zgo ?_
 refine b5 Z (p4 G 10 Z Z Z Z Z Z Z Z (b5 Z ?_))
 refine v6 (Gh.forget (id:=7) (k:=3) Z Z)<|v6 (Gh.keep [1,2,3,4,5,6,7,8,9] Z)<|i6 G np rfl rfl rfl rfl rfl rfl rfl rfl rfl (by first | (simp only [List.length_map,List.length_cons,List.length_nil];omega) | (simp;omega)) rfl rfl ?_
 refine zgo ?_
 apply v8 [2,3,5,21,22,23] [1,2,3,4,5,7,8,12] 13 9 [1,2,3,4,5,8,9] mixed X Z Z (λ_ h=>znk h)
 ·intro r0
  refine zsa 0 ?_
  refine zsa 2 ?_
  refine zsa 3 ?_
  refine b6 (rs:=[1,4]) X Z (AllB.cons ?_ (AllB.cons ?_ AllB.nil))
  ·refine c8 [1,2,3,4,5,8,9] Z Z ?_
   refine zgo ?_
   refine ⟨Z,?_⟩
   refine b6 (rs:=[4]) X Z (AllB.cons ?_ AllB.nil)
   refine c8 [1,2,3,4,5,8,9] Z Z (c4 11 Z Z Z (ArgsOK.of Z) (u7 _ J) Z Z (a8 ⟨Z,?_⟩))
   exact b9o
  refine c8 [1,2,3,4,5,8,9] Z Z (c4 11 Z Z Z (ArgsOK.of Z) (u7 _ J) Z Z (a8 ⟨Z,?_⟩))
  refine b6 (rs:=[1,5]) X Z (AllB.cons ?_ (AllB.cons ?_ AllB.nil))
  ·refine c8 [1,2,3,4,5,8,9] Z Z ?_
   refine zgo ?_
   refine ⟨Z,?_⟩
   exact b9o
  refine c8 [1,2,3,4,5,8,9] Z Z (s9 G 12 Z Z Z Z Z Z Z Z (.own Z .nil) Z Z Z Z (a8 ⟨Z,?_⟩))
  refine b6 (rs:=[1]) X Z (AllB.cons ?_ AllB.nil)
  refine c8 [1,2,3,4,5,8,9] Z Z ?_
  refine zgo ?_
  refine ⟨Z,?_⟩
  exact b9n
 refine zgo ?_
 refine b5 Z (c4 14 Z Z Z (ArgsOK.of Z) (a4u (m.cp.getD k default).qu hI.qu) Z Z ?_)
 refine zgo ?_
 refine f6 [2,3,21,22,23,44,45] [1,2,3,5,7,12,13] (λ(i:Nat)=>[(46,.v (.int .i64 (i:Int)))]) (λ(i:Nat)=>[(4,some (.row 4 1 ((a92 (poN m k) (G3 (m.cp.getD k default).qu) i).map e7)))]) (λ(i:Nat)=>i<=(G3 (m.cp.getD k default).qu).length) (λ(i:Nat)=>(G3 (m.cp.getD k default).qu).length - i) 0 Z Z ?_ ?_ ?_ ?_
 ·exact Nat.zero_le _
 ·exact R7
 ·exact Y5
 intro i hi
 have hbp:=λh=>a9V hI.qu (i:=i) h
 have hpo:=@G4 (poN m k) (G3 (m.cp.getD k default).qu) i
 have hp8:=@u9 m k
 simp only [List.cons_append,List.nil_append]
 refine zcd (λk0=>?_) (λk0=>?_)
 ·have hbq:=hbp J
  refine zgo ?_
  refine b5 Z ?_
  first | refine b7 Z Z (c6 G Z Z Z Z Z J (by rw [List.length_map];omega)) ?_ | refine b7 Z Z (c6 G Z Z Z Z Z J (by rw [List.length_map,G4,u9];omega)) ?_ | refine b7 Z Z (c6 G Z Z Z Z Z J (by simp;omega)) ?_ | refine b7 Z Z (c6 G Z Z Z Z Z J J) ?_
  refine b5 Z ?_
  first | refine b7 Z Z (s0 G Z Z Z Z Z (a2S J) Z) ?_ | refine b7 Z Z (s0 G Z Z Z Z Z (w9 J (by rw [G4,u9];omega)) Z) ?_ | refine b7 Z Z (s0 G Z Z Z Z Z (w9 J J) Z) ?_
  refine zgo ?_
  refine b5 Z ?_
  first | refine b7 Z Z (c6 G Z Z Z Z Z J (by rw [List.length_map];omega)) ?_ | refine b7 Z Z (c6 G Z Z Z Z Z J (by rw [List.length_map,G4,u9];omega)) ?_ | refine b7 Z Z (c6 G Z Z Z Z Z J (by simp;omega)) ?_ | refine b7 Z Z (c6 G Z Z Z Z Z J J) ?_
  refine b5 Z ?_
  first | refine d6 G Z Z Z Z Z (a2S J) Z Z Z Z Z (Nat.le_of_ble_eq_true Z) Z ?_ | refine d6 G Z Z Z Z Z (w9 J (by rw [G4,u9];omega)) Z Z Z Z Z (Nat.le_of_ble_eq_true Z) Z ?_ | refine d6 G Z Z Z Z Z (w9 J J) Z Z Z Z Z (Nat.le_of_ble_eq_true Z) Z ?_
  exact b9j
 refine zgn ?_
 refine e9 ?_
 iterate 2 refine zst ?_
 refine m6 (Gh.sub 12 6 np Z Z Z) (a8 ⟨(k+1),?_,?_,⟨⟨_,Z,by rfl⟩,Z,trivial⟩,⟨⟨_,Z,by (first | rfl | (exact congrArg (λz=>Row.row _ _ z) (a2g J)) | (exact congrArg (λz=>Row.nest _ _ z []) (a2h J Z)) | (exact congrArg (λz=>Row.row _ _ z) (by rw [N4,List.map_set];rfl)) | (obtain rfl:i=(G3 (m.cp.getD k default).qu).length:=J;rfl))⟩,Z,Z,⟨⟨_,Z,by (first | rfl | (exact congrArg (λz=>Row.row _ _ z) (a2g J)) | (exact congrArg (λz=>Row.nest _ _ z []) (a2h J Z)) | (exact congrArg (λz=>Row.row _ _ z) (by rw [N4,List.map_set];rfl)) | (obtain rfl:i=(G3 (m.cp.getD k default).qu).length:=J;rfl))⟩,Z,Z,⟨⟨_,Z,by (first | rfl | (exact congrArg (λz=>Row.row _ _ z) (a2g J)) | (exact congrArg (λz=>Row.nest _ _ z []) (a2h J Z)) | (exact congrArg (λz=>Row.row _ _ z) (by rw [N4,List.map_set];rfl)) | (obtain rfl:i=(G3 (m.cp.getD k default).qu).length:=J;rfl))⟩,Z,Z,trivial⟩⟩⟩,Z,Z,Z⟩)
 ·omega
 omega
):p:=h
theorem ws5 (h:p:=by
 refine vm5 ?_
 refine zgn ?_
 refine ⟨(i+1),?_,?_,⟨⟨_,Z,by rfl⟩,Z,trivial⟩,⟨⟨_,Z,by (first | rfl | (rw [a9A (b2D b9 b9 b9),List.map_set];rfl) | (rw [a9C (b2D b9 b9 b9),List.map_set];rfl) | (rw [a9B b3k];done) | (rw [a9D b3k];done))⟩,Z,Z,⟨⟨_,Z,by (first | rfl | (rw [a9A (b2D b9 b9 b9),List.map_set];rfl) | (rw [a9C (b2D b9 b9 b9),List.map_set];rfl) | (rw [a9B b3k];done) | (rw [a9D b3k];done))⟩,Z,Z,trivial⟩⟩,Z,Z,Z⟩
 ·omega
 omega
):p:=h
theorem ws6 (h:p:=by
 refine zf1 ?_
 all_goals (first | rfl | (simp [s4, *];done) | (simp [s4, *];rfl) | (simp [s4, *,E7,a1b];done))
):p:=h
theorem ws7 (h:p:=by
 refine zf1 ?_
 all_goals exact b8B
):p:=h
theorem ws8 (h:p:=by
 refine a1M ?_
 all_goals exact b8C
):p:=h
theorem u3 (h:p:=by
 exact ⟨⟨_,Z,by (first | rfl | (simp;done) | (simp;omega))⟩,Z,trivial⟩
):p:=h
theorem b3u (h:p:=by
 refine zgo ?_
 refine ⟨(i+1),?_,?_,⟨⟨_,Z,by rfl⟩,Z,trivial⟩,trivial,Z,Z,Z⟩
 ·exact ⟨by omega,r5 hinv.2 b9⟩
 omega
):p:=h
theorem ws9 (h:p:=by
 refine zgo ?_
 refine f6 [0,1,7] [] (λ(i:Nat)=>[(8,.v (.int .i64 (i:Int)))]) (λ(i:Nat)=>[]) (λ(i:Nat)=>i<=xs.length/\∀j,j < i→p (xs.getD j default)=false) (λ(i:Nat)=>xs.length - i) 0 Z Z ?_ ?_ ?_ ?_
 ·exact ⟨Nat.zero_le _,λj hj=>by omega⟩
 ·exact u3
 ·exact trivial
 intro i hinv
 refine vm2 ?_
 refine zcd (λk0=>?_) (λk0=>?_)
 ·refine m3 ?_
  refine b7 Z Z (a9k Z Z (ArgsOK.of Z) Z (hf _ J) Z) ?_
  refine zcd (λk1=>?_) (λk1=>?_)
  ·refine zf1 ?_
   all_goals exact b8D
  exact b3u
 refine zf1 ?_
 all_goals exact b8D
):p:=h
theorem c3G (h:p:=by
 refine b6 (rs:=[9]) a6 Z (AllB.cons ?_ AllB.nil)
 refine c7 [1,2,3,4,5,6,7,8,9,10,11] Z Z (v6 (Gh.detach (id:=12) Z)<|v6 (Gh.keep [0,1,2,3,4,5,6,7,8,9,10,11,12,13,14] Z)<|J2 (tx:=34) 16 rfl rfl rfl rfl rfl<|i6 G G5 rfl rfl rfl rfl rfl rfl rfl rfl rfl C0 rfl rfl (a8 ⟨Z,?_⟩))
 refine b6 (rs:=[10]) a6 Z (AllB.cons ?_ AllB.nil)
 first | refine c7 [1,2,3,4,5,6,7,8,9,10,11] Z Z (b7 Z Z (d8 G Z Z Z Z Z J J) (a8 ⟨Z,?_⟩)) | refine c7 [1,2,3,4,5,6,7,8,9,10,11] Z Z (b7 Z Z (d8 G Z Z Z Z Z J g0) (a8 ⟨Z,?_⟩))
 refine b6 (rs:=[11]) a6 Z (AllB.cons ?_ AllB.nil)
 first | refine c7 [1,2,3,4,5,6,7,8,9,10,11] Z Z (j6 G Z Z Z Z Z (C9 g0 Z) Z Z (.own Z .nil) Z Z Z (Nat.le_of_ble_eq_true Z) (λq h=>by cases h) Z (a8 ⟨Z,?_⟩)) | refine c7 [1,2,3,4,5,6,7,8,9,10,11] Z Z (j6 G Z Z Z Z Z (C9 g0 (by simp)) Z Z (.own Z .nil) Z Z Z (Nat.le_of_ble_eq_true Z) (λq h=>by cases h) Z (a8 ⟨Z,?_⟩))
 refine vm6 ?_
 refine p7 (d7 5 [0,2,3,4,5,6,7,8,9,10,11,12,14] mixed a6 Z Z (λr0=>?_) (λ_ h=>h))
 refine C5 ?_
 refine b6 (rs:=[4]) a6 Z (AllB.cons ?_ AllB.nil)
 refine b6u ?_
 refine g8 (B6 (((x1.1.rs,⟨(abOf x1.1).en,(abOf x1.1).ra,(abOf x1.1).po,(abOf x1.1).ma,(abOf x1.1).st.set 0 ((abOf x1.1).st.getD 0 default++[x6.1])⟩),x6.2)) (p9 Z Z Z Z (a7 (b8 Z ?_) (a7 (b8 Z ?_) (a7 (b8 Z ?_) (a7 (b8 Z ?_) (a7 (b8 Z ?_) (a7 (t8 Z ?_) d5)))))) Z (AftOK.stays Z ?_ Z AftOK.nil)) (⟨?_,?_⟩))
 all_goals (first | rfl | exact hc6.mono J | (dsimp only;rw [List.map_set];rfl) | exact ⟨hr8,hS.setM⟩ | exact ⟨hr8,hS.setPo⟩ | exact ⟨hr8,hS⟩ | exact ⟨hr8,a4s⟩ | exact ⟨hr8,hF.addS J⟩ | exact List.map_set.symm | exact a2Y Z a0u)
):p:=h
theorem b1l (h:p:=by
 refine zgo ?_
 refine ⟨(i+1),?_,?_,⟨⟨_,Z,by (first | rfl | (rw [a1e (a3A b9)];done) | (rw [a1d (a3B J b9)];done) | (rw [a1d ((a21 J J).trans (by simp_all [wOf]))];done) | (rw [a1e ((a21 J J).trans (by simp_all [wOf]))];done))⟩,Z,⟨⟨_,Z,by (first | rfl | (rw [a1e (a3A b9)];done) | (rw [a1d (a3B J b9)];done) | (rw [a1d ((a21 J J).trans (by simp_all [wOf]))];done) | (rw [a1e ((a21 J J).trans (by simp_all [wOf]))];done))⟩,Z,trivial⟩⟩,trivial,Z,Z,Z⟩
 ·omega
 omega
):p:=h
theorem b7V (h:p:=by
 refine zgo ?_
 refine ⟨(i+1),?_,?_,⟨⟨_,Z,by first | rfl | (rw [a9x b9 b9 b9];done) | (rw [a3y (by simp_all;done)];done) | (rw [a3y (by simp_all;omega)];done)⟩,Z,⟨⟨_,Z,by first | rfl | (rw [a9x b9 b9 b9];done) | (rw [a3y (by simp_all;done)];done) | (rw [a3y (by simp_all;omega)];done)⟩,Z,⟨⟨_,Z,by first | rfl | (rw [a9x b9 b9 b9];done) | (rw [a3y (by simp_all;done)];done) | (rw [a3y (by simp_all;omega)];done)⟩,Z,trivial⟩⟩⟩,trivial,Z,Z,Z⟩
 ·omega
 omega
):p:=h
theorem c3H (h:p:=by
 refine b6 (rs:=[13]) a6 Z (AllB.cons ?_ AllB.nil)
 first | refine c7 [0,1,2,3,4,5,6,8] Z Z (b7 Z Z (d8 G Z Z Z Z Z J J) (a8 ⟨Z,?_⟩)) | refine c7 [0,1,2,3,4,5,6,8] Z Z (b7 Z Z (d8 G Z Z Z Z Z J g0) (a8 ⟨Z,?_⟩))
 refine b6 (rs:=[14]) a6 Z (AllB.cons ?_ AllB.nil)
 first | refine c7 [0,1,2,3,4,5,6,8] Z Z (j6 G Z Z Z Z Z (C9 g0 Z) Z Z (.own Z .nil) Z Z Z (Nat.le_of_ble_eq_true Z) (λq h=>by cases h) Z (a8 ⟨Z,?_⟩)) | refine c7 [0,1,2,3,4,5,6,8] Z Z (j6 G Z Z Z Z Z (C9 g0 (by simp)) Z Z (.own Z .nil) Z Z Z (Nat.le_of_ble_eq_true Z) (λq h=>by cases h) Z (a8 ⟨Z,?_⟩))
 exact a33
):p:=h
theorem b4g (h:p:=by
 refine zf1 ?_
 all_goals exact b8E
):p:=h
theorem c3I (h:p:=by
 intro r0
 refine c3g ?_
 refine r8 (N:=2) Z (m8 (fuel:=5) [⟨0,29,1,false,.row 183 2 []⟩] (AllVOK.cons (VOK.lit G Z Z Z Z Z) (AllVOK.nil)) (λhok=>?_))
 refine i7 [(4,[0]),(6,[])] a6 a6 (λe he=>hok e he) a6 (AllVS.cons ?_ (AllVS.cons ?_ AllVS.nil))
 ·refine c3k ?_
  clear hok
  refine b6 (rs:=[6]) a6 Z (AllB.cons ?_ AllB.nil)
  refine c8 [0] Z Z (p4 G 3 Z Z Z Z Z Z Z Z (a8 ⟨Z,?_⟩))
  refine b6 (rs:=[7]) a6 Z (AllB.cons ?_ AllB.nil)
  refine c8 [0] Z Z (i6 G G5 Z Z Z Z Z Z Z Z Z a3X Z Z (a8 ⟨Z,?_⟩))
  refine b6 (rs:=[11]) a6 Z (AllB.cons ?_ AllB.nil)
  refine c8 [0] Z Z (i6 G G5 Z Z Z Z Z Z Z Z Z a3X Z Z (a8 ⟨Z,?_⟩))
  refine zsa 12 ?_
  exact a33
 refine VStep.mk0 [0] Z Z (λb1 _ hbn=>p4 G 3 Z Z Z Z Z Z Z Z (a8 Z)) a6 a6 a6 a6 (i7 [(4,[0])] a6 a6 (λe he=>hok e he) a6 (AllVS.cons ?_ AllVS.nil))
 refine c3k ?_
 clear hok
 refine b6 (rs:=[7]) a6 Z (AllB.cons ?_ AllB.nil)
 refine c8 [0] Z Z (i6 G G5 Z Z Z Z Z Z Z Z Z a3X Z Z (a8 ⟨Z,?_⟩))
 refine b6 (rs:=[11]) a6 Z (AllB.cons ?_ AllB.nil)
 refine c8 [0] Z Z (i6 G G5 Z Z Z Z Z Z Z Z Z a3X Z Z (a8 ⟨Z,?_⟩))
 refine zsa 12 ?_
 exact a4g a6 (Meet.mk Z Z Z Z)
):p:=h
theorem a70 (h:p:=by
 refine zgo ?_
 refine g8 (G1 Z Z Z Z (a7 (p5 ?_) (a7 (p5 ?_) d5)))
 all_goals exact b1b
):p:=h
theorem c3J (h:p:=by
 refine c3m ?_
 refine zwt ?_
 exact a70
):p:=h
theorem b7W (h:p:=by
 refine a1M ?_
 all_goals exact b8F
):p:=h
theorem c3K (h:p:=by
 refine j8 0 Z (λ_=>Z) (λu0=>?_)
 refine L6 ?_
 refine zgn ?_
 refine p7 (d7 10 [0] mixed a6 Z Z (λr0=>?_) (λ_ h=>h))
 refine b0b ?_
 refine r8 (N:=4) Z (m8 (fuel:=4) [⟨0,3,2,false,.row 154 3 []⟩,⟨4,7,3,false,.row 183 2 []⟩] (AllVOK.cons (VOK.lit G Z Z Z Z Z) (AllVOK.cons (VOK.lit G Z Z Z Z Z) (AllVOK.nil))) (λhok=>?_))
 refine i7 [(3,[0])] a6 a6 (λe he=>hok e he) a6 (AllVS.cons ?_ AllVS.nil)
 refine VStep.mk1 [0] 3 (.own 2) 2 (.row 154 3 []) [⟨4,7,3,false,.row 183 2 []⟩] Z Z Z Z Z (λb1 _ hbn=>i6 G C1 Z Z Z Z Z Z Z Z Z g0 Z Z (a8 Z)) a6 a6 a6 a6 (i7 [(7,[4])] a6 a6 (λe he=>hok e (vin (is:=[0]) Z he)) a6 (AllVS.cons ?_ AllVS.nil))
 refine VStep.mk1 [0] 7 (.own 3) 3 (.row 183 2 []) [] Z Z Z Z Z (λb1 _ hbn=>i6 G C1 Z Z Z Z Z Z Z Z Z g0 Z Z (a8 Z)) a6 a6 a6 a6 (w6 ?_)
 clear hok
 refine b6 (rs:=[8]) a6 Z (AllB.cons ?_ AllB.nil)
 refine a6C ?_
 refine b6 (rs:=[9]) a6 Z (AllB.cons ?_ AllB.nil)
 refine a6C ?_
 refine vm6 ?_
 refine g8 (m5 Z Z Z Z (a7 (b8 Z ?_) (a7 (b8 Z ?_) d5)))
 all_goals (first | rfl | simp)
):p:=h
theorem b4h (h:p:=by
 all_goals exact b6c
):p:=h
theorem b4i (h:p:=by
 refine zgo ?_
 refine g8 (B6 ((⟨_,_,_,_⟩,⟨_,_,_⟩)) (u6 Z (a16 Z Z) Z (AftOK.stays Z Z Z (AftOK.stays Z Z Z (AftOK.stays Z Z Z (AftOK.stays Z Z Z (AftOK.stays Z Z Z AftOK.nil)))))) ⟨?_,?_⟩)
 all_goals (try rcases x1 with ⟨_,_⟩)
 all_goals (try rcases x2 with ⟨_,_⟩)
 all_goals (try rcases x3 with ⟨_,_⟩)
 all_goals (try rcases x4 with ⟨_,_⟩)
 all_goals (try rcases x5 with ⟨_,_⟩)
 all_goals (try dsimp only at *)
 all_goals (first | trivial | exact hc2.mono J | omega)
):p:=h
theorem b3v (h:p:=by
 refine g8 (m5 Z Z Z Z (a7 (b8 Z ?_) (a7 (b8 Z ?_) (a7 (b8 Z ?_) (a7 (t8 Z ?_) (a7 (p5 ?_) (a7 (p5 ?_) d5)))))))
 all_goals (first | (rw [hS];done) | (rw [hS];(first | rfl | exact List.map_set.symm | exact c1x Z | (simp only [List.set_set,Int.toNat_natCast];exact c1x Z) | exact congrArg Value.bool (decide_eq_true J))))
):p:=h
theorem c3L (h:p:=by
 refine c3i ?_
 refine zgo ?_
 exact b3v
):p:=h
theorem b7X (h:p:=by
 refine zgo ?_
 refine ⟨(i+1),?_,?_,⟨⟨_,Z,by rfl⟩,Z,trivial⟩,⟨⟨_,Z,by (first | rfl | (rw [A8 b9 J];done) | (rw [A8 b9 J];rfl) | (rw [A9 C8];done) | (rw [A9 C8];rfl))⟩,Z,Z,⟨⟨_,Z,by (first | rfl | (rw [A8 b9 J];done) | (rw [A8 b9 J];rfl) | (rw [A9 C8];done) | (rw [A9 C8];rfl))⟩,Z,Z,⟨⟨_,Z,by (first | rfl | (rw [A8 b9 J];done) | (rw [A8 b9 J];rfl) | (rw [A9 C8];done) | (rw [A9 C8];rfl))⟩,Z,Z,⟨⟨_,Z,by (first | rfl | (rw [A8 b9 J];done) | (rw [A8 b9 J];rfl) | (rw [A9 C8];done) | (rw [A9 C8];rfl))⟩,Z,Z,trivial⟩⟩⟩⟩,Z,Z,Z⟩
 ·omega
 omega
):p:=h
theorem b4j (h:p:=by
 refine zf1 ?_
 all_goals exact b8G
):p:=h
theorem b4k (h:p:=by
 refine g8 (m5 Z Z Z Z (a7 (b8 Z ?_) (a7 (b8 Z ?_) (a7 (b8 Z ?_) (a7 (b8 Z ?_) (a7 (t8 Z ?_) (a7 (p5 ?_) (a7 (p5 ?_) d5))))))))
 all_goals exact b8H
):p:=h
theorem b9p (h:p:=by
 refine zgn ?_
 refine g8 (m5 Z Z Z Z (a7 (b8 Z ?_) (a7 (b8 Z ?_) (a7 (b8 Z ?_) (a7 (b8 Z ?_) (a7 (t8 Z ?_) (a7 (p5 ?_) (a7 (p5 ?_) d5))))))))
 all_goals exact b6d
):p:=h
theorem c2b (h:p:=by
 refine c3j ?_
 exact b9p
):p:=h
theorem b4l (h:p:=by
 refine zf1 ?_
 all_goals exact b8I
):p:=h
theorem c3M (h:p:=by
 refine b6 (rs:=[9]) a6 Z (AllB.cons ?_ AllB.nil)
 refine c7 [1,2,3,4,5,6,7,8,9,10,11] Z Z (v6 (Gh.detach (id:=12) Z)<|v6 (Gh.keep [0,1,2,3,4,5,6,7,8,9,10,11,12,13,14] Z)<|J2 (tx:=34) 16 rfl rfl rfl rfl rfl<|i6 G G5 rfl rfl rfl rfl rfl rfl rfl rfl rfl C0 rfl rfl (a8 ⟨Z,?_⟩))
 refine b6 (rs:=[10]) a6 Z (AllB.cons ?_ AllB.nil)
 first | refine c7 [1,2,3,4,5,6,7,8,9,10,11] Z Z (b7 Z Z (d8 G Z Z Z Z Z J J) (a8 ⟨Z,?_⟩)) | refine c7 [1,2,3,4,5,6,7,8,9,10,11] Z Z (b7 Z Z (d8 G Z Z Z Z Z J g0) (a8 ⟨Z,?_⟩))
 refine b6 (rs:=[11]) a6 Z (AllB.cons ?_ AllB.nil)
 first | refine c7 [1,2,3,4,5,6,7,8,9,10,11] Z Z (j6 G Z Z Z Z Z (C9 g0 Z) Z Z (.own Z .nil) Z Z Z (Nat.le_of_ble_eq_true Z) (λq h=>by cases h) Z (a8 ⟨Z,?_⟩)) | refine c7 [1,2,3,4,5,6,7,8,9,10,11] Z Z (j6 G Z Z Z Z Z (C9 g0 (by simp)) Z Z (.own Z .nil) Z Z Z (Nat.le_of_ble_eq_true Z) (λq h=>by cases h) Z (a8 ⟨Z,?_⟩))
 refine vm6 ?_
 refine p7 (d7 5 [0,2,3,4,5,6,7,8,9,10,11,12,14] mixed a6 Z Z (λr0=>?_) (λ_ h=>h))
 refine C5 ?_
 refine b6 (rs:=[4]) a6 Z (AllB.cons ?_ AllB.nil)
 refine b6u ?_
 refine g8 (B6 (((x1.1.rs,⟨(abOf x1.1).en,(abOf x1.1).ra,(abOf x1.1).po,(abOf x1.1).ma,(abOf x1.1).st.set 0 ((abOf x1.1).st.getD 0 default++[x5.1])⟩),x5.2)) (p9 Z Z Z Z (a7 (b8 Z ?_) (a7 (b8 Z ?_) (a7 (b8 Z ?_) (a7 (b8 Z ?_) (a7 (b8 Z ?_) (a7 (t8 Z ?_) d5)))))) Z (AftOK.stays Z ?_ Z AftOK.nil)) (⟨?_,?_⟩))
 all_goals (first | rfl | exact hc5.mono J | (dsimp only;rw [List.map_set];rfl) | exact ⟨hr8,hS.setM⟩ | exact ⟨hr8,hS.setPo⟩ | exact ⟨hr8,hS⟩ | exact ⟨hr8,a4s⟩ | exact ⟨hr8,hF.addS J⟩ | exact List.map_set.symm | exact a2Y Z a0u)
):p:=h
theorem b6x (h:p:=by
 refine a1M ?_
 all_goals exact b8J
):p:=h
theorem b7Y (h:p:=by
 refine zgo ?_
 refine ⟨(i+1),?_,?_,⟨⟨_,Z,by (first | rfl | (rw [a1e (a3A b9)];done) | (rw [a1d (a3B b9 b9)];done) | (rw [a1d ((a9F hd J b9 J).trans C8)];done) | (rw [a1e ((a9F hd J b9 J).trans C8)];done))⟩,Z,⟨⟨_,Z,by (first | rfl | (rw [a1e (a3A b9)];done) | (rw [a1d (a3B b9 b9)];done) | (rw [a1d ((a9F hd J b9 J).trans C8)];done) | (rw [a1e ((a9F hd J b9 J).trans C8)];done))⟩,Z,trivial⟩⟩,trivial,Z,Z,Z⟩
 ·omega
 omega
):p:=h
theorem c3N (h:p:=by
 refine b4d ?_
 refine ⟨(i+1),?_,?_,⟨⟨_,Z,by rfl⟩,Z,trivial⟩,trivial,Z,Z,Z⟩
 ·omega
 omega
):p:=h
theorem b6y (h:p:=by
 refine zgo ?_
 refine ⟨(i+1),?_,?_,⟨⟨_,Z,by first | rfl | (rw [a9y b9 b9 J];done) | (rw [a3z (by simp_all;done)];done) | (rw [a3z (by simp_all;omega)];done)| (rw [a3z (λ_ _=>J)];done)⟩,Z,⟨⟨_,Z,by first | rfl | (rw [a9y b9 b9 J];done) | (rw [a3z (by simp_all;done)];done) | (rw [a3z (by simp_all;omega)];done)| (rw [a3z (λ_ _=>J)];done)⟩,Z,trivial⟩⟩,trivial,Z,Z,Z⟩
 ·omega
 omega
):p:=h
theorem b6z (h:p:=by
 refine zf1 ?_
 all_goals exact b8K
):p:=h
theorem b1m (h:p:=by
 refine zf1 ?_
 all_goals (first | (rw [a9H J];done) | (rw [b1V J J];done) | (rw [b1W J J];done) | (rw [a9I J J J];first | rfl | (exact congrArg Value.bool (by rw [Bool.eq_iff_iff,decide_eq_true_iff];exact b7b))) | rfl)
):p:=h
theorem b7Z (h:p:=by
 refine zgo ?_
 refine ⟨(i+1),?_,?_,⟨⟨_,Z,by rfl⟩,Z,trivial⟩,⟨⟨_,Z,by (first | (rw [a0r hcn];done) | (rw [a0t hcn];done) | (rw [a0q hcn,List.map_set];rfl) | (rw [a0s hcn];exact congrArg (λz=>Row.nest _ _ z []) a3Y))⟩,Z,Z,⟨⟨_,Z,by (first | (rw [a0r hcn];done) | (rw [a0t hcn];done) | (rw [a0q hcn,List.map_set];rfl) | (rw [a0s hcn];exact congrArg (λz=>Row.nest _ _ z []) a3Y))⟩,Z,Z,trivial⟩⟩,Z,Z,Z⟩
 ·omega
 omega
):p:=h
theorem c3O (h:p:=by
 refine zgo ?_
 refine ⟨(i+1),?_,?_,⟨⟨_,Z,by rfl⟩,Z,⟨⟨_,Z,by rfl⟩,Z,trivial⟩⟩,⟨⟨_,Z,by (first | rfl | (rw [y5 b9];done) | (rw [R5 b9];done) | (rw [T3 b9 b9,List.map_append];rfl) | (rw [J3 b9 b9];done) | (rw [y5 T5];done))⟩,Z,Z,⟨⟨_,Z,by (first | rfl | (rw [y5 b9];done) | (rw [R5 b9];done) | (rw [T3 b9 b9,List.map_append];rfl) | (rw [J3 b9 b9];done) | (rw [y5 T5];done))⟩,Z,Z,⟨⟨_,Z,by (first | rfl | (rw [y5 b9];done) | (rw [R5 b9];done) | (rw [T3 b9 b9,List.map_append];rfl) | (rw [J3 b9 b9];done) | (rw [y5 T5];done))⟩,Z,Z,⟨⟨_,Z,by (first | rfl | (rw [y5 b9];done) | (rw [R5 b9];done) | (rw [T3 b9 b9,List.map_append];rfl) | (rw [J3 b9 b9];done) | (rw [y5 T5];done))⟩,Z,Z,⟨⟨_,Z,by (first | rfl | (rw [y5 b9];done) | (rw [R5 b9];done) | (rw [T3 b9 b9,List.map_append];rfl) | (rw [J3 b9 b9];done) | (rw [y5 T5];done))⟩,Z,Z,⟨⟨_,Z,by (first | rfl | (rw [y5 b9];done) | (rw [R5 b9];done) | (rw [T3 b9 b9,List.map_append];rfl) | (rw [J3 b9 b9];done) | (rw [y5 T5];done))⟩,Z,Z,trivial⟩⟩⟩⟩⟩⟩,Z,Z,Z⟩
 ·omega
 omega
):p:=h
theorem P3 (h:p:=by
 exact ⟨Nat.zero_le _,λj hj=>by omega⟩
):p:=h
theorem b4m (h:p:=by
 refine zf1 ?_
 all_goals exact b8L
):p:=h
theorem c3P (h:p:=by
 refine zgn ?_
 refine g8 (u6 Z (b8 Z ?_) Z (AftOK.gone (AftOK.stays Z ?_ Z AftOK.nil)))
 all_goals exact b8M
):p:=h
theorem c2c (h:p:=by
 first | exact ⟨by show ((z.1+1:Nat):Int)<=x1.1;omega,(a22 hz2 J J).1,hc9.mono g0⟩ | exact ⟨by show ((z.1+1:Nat):Int)<=x1.1;omega,a85 hz2,hc9.mono g0⟩ | exact ⟨by show ((z.1+1:Nat):Int)<=x1.1;omega,a86 hz2 b9,hc9.mono g0⟩ | exact ⟨by show ((z.1+1:Nat):Int)<=x1.1;omega,hz2,hc9.mono g0⟩
):p:=h
theorem b70 (h:p:=by
 refine a1M ?_
 all_goals exact b8N
):p:=h
theorem b6A (h:p:=by
 first | exact ⟨by show ((z.1+1:Nat):Int)<=x1.1;omega,b5H hz2 J J,hc2.mono g0⟩ | exact ⟨by show ((z.1+1:Nat):Int)<=x1.1;omega,b26 hz2,hc2.mono g0⟩ | exact ⟨by show ((z.1+1:Nat):Int)<=x1.1;omega,b27 hz2,hc2.mono g0⟩ | exact ⟨by show ((z.1+1:Nat):Int)<=x1.1;omega,hz2,hc2.mono g0⟩
):p:=h
theorem c3Q (h:p:=by
 refine m3 ?_
 refine c4 9 Z Z Z (ArgsOK.of Z) (a4v z.2.2 hz2.f) Z Z ?_
 refine zgn ?_
 refine X3 ?_
 refine m6 (Gh.sub 6 2 w3 Z Z Z) (m6 (Gh.sub 7 3 w3 Z Z Z) (m6 (Gh.sub 8 4 w3 Z Z Z) (a8 ⟨(z.1+1,x2.2,(tkX z.2.2).1),?_,?_,⟨⟨_,Z,by (first | rfl | exact congrArg (λv=>AV.v (.int .i64 v)) A5)⟩,Z,trivial⟩,⟨⟨_,Z,by rfl⟩,Z,Z,⟨⟨_,Z,by rfl⟩,Z,Z,⟨⟨_,Z,by rfl⟩,Z,Z,⟨⟨_,Z,by rfl⟩,Z,Z,⟨⟨_,Z,by rfl⟩,Z,Z,trivial⟩⟩⟩⟩⟩,Z,Z,Z⟩)))
 ·exact b6A
 (show x1.1.toNat - (z.1+1) < x1.1.toNat - z.1;omega)
):p:=h
theorem c3R (h:p:=by
 refine zgn ?_
 refine e9 ?_
 refine G9 ?_
 refine m6 (Gh.sub 9 2 np Z Z Z) (m6 (Gh.sub 10 3 np Z Z Z) (m6 (Gh.sub 11 4 np Z Z Z) (m6 (Gh.sub 12 5 np Z Z Z) (a8 ⟨(i+1),?_,?_,⟨⟨_,Z,by rfl⟩,Z,⟨⟨_,Z,by rfl⟩,Z,trivial⟩⟩,⟨⟨_,Z,by (first | rfl | (rw [hQ];done) | (rw [hQ1];done) | (rw [hQ2];done) | (rw [hQ2,List.map_append];rfl))⟩,Z,Z,⟨⟨_,Z,by (first | rfl | (rw [hQ];done) | (rw [hQ1];done) | (rw [hQ2];done) | (rw [hQ2,List.map_append];rfl))⟩,Z,Z,⟨⟨_,Z,by (first | rfl | (rw [hQ];done) | (rw [hQ1];done) | (rw [hQ2];done) | (rw [hQ2,List.map_append];rfl))⟩,Z,Z,⟨⟨_,Z,by (first | rfl | (rw [hQ];done) | (rw [hQ1];done) | (rw [hQ2];done) | (rw [hQ2,List.map_append];rfl))⟩,Z,Z,⟨⟨_,Z,by (first | rfl | (rw [hQ];done) | (rw [hQ1];done) | (rw [hQ2];done) | (rw [hQ2,List.map_append];rfl))⟩,Z,Z,⟨⟨_,Z,by (first | rfl | (rw [hQ];done) | (rw [hQ1];done) | (rw [hQ2];done) | (rw [hQ2,List.map_append];rfl))⟩,Z,Z,trivial⟩⟩⟩⟩⟩⟩,Z,Z,Z⟩))))
 ·omega
 omega
):p:=h
theorem b4n (h:p:=by
 refine zf1 ?_
 all_goals exact b3h
):p:=h
theorem Z5 (h:p:=by
 (show x1.1.toNat - (z.1+1) < x1.1.toNat - z.1;omega)
):p:=h
theorem b9q (h:p:=by
 exact ⟨by dsimp only;omega,by dsimp only;rw [a27 hag];exact hst,hFn,λe=>by cases e⟩
):p:=h
theorem c3S (h:p:=by
 refine m6 (Gh.sub 17 1 np Z Z Z) (m6 (Gh.sub 18 2 np Z Z Z) (m6 (Gh.sub 19 3 np Z Z Z) (m6 (Gh.sub 20 4 np Z Z Z) (m6 (Gh.sub 21 5 np Z Z Z) (m6 (Gh.sub 12 7 np Z Z Z) (m6 (Gh.sub 13 8 np Z Z Z) (m6 (Gh.sub 14 9 np Z Z Z) (m6 (Gh.sub 15 10 np Z Z Z) (a8 ⟨(true,i+1,(stM m1 (ss.getD i default)).1,(n7 m1.rs a1 (ss.getD i default)).1),?_,?_,⟨⟨_,Z,by rfl⟩,Z,trivial⟩,⟨⟨_,Z,by rfl⟩,Z,Z,⟨⟨_,Z,by rfl⟩,Z,Z,⟨⟨_,Z,by rfl⟩,Z,Z,⟨⟨_,Z,by rfl⟩,Z,Z,⟨⟨_,Z,by rfl⟩,Z,Z,⟨⟨_,Z,by rfl⟩,Z,Z,⟨⟨_,Z,by rfl⟩,Z,Z,⟨⟨_,Z,by rfl⟩,Z,Z,⟨⟨_,Z,by rfl⟩,Z,Z,⟨⟨_,Z,by rfl⟩,Z,Z,⟨⟨_,Z,by rfl⟩,Z,Z,trivial⟩⟩⟩⟩⟩⟩⟩⟩⟩⟩⟩,Z,Z,Z⟩)))))))))
 ·exact b9q
 dsimp only;omega
):p:=h
theorem c3T (h:p:=by
 refine m6 (Gh.sub 17 1 np Z Z Z) (m6 (Gh.sub 18 2 np Z Z Z) (m6 (Gh.sub 19 3 np Z Z Z) (m6 (Gh.sub 20 4 np Z Z Z) (m6 (Gh.sub 21 5 np Z Z Z) (m6 (Gh.sub 12 7 np Z Z Z) (m6 (Gh.sub 13 8 np Z Z Z) (m6 (Gh.sub 14 9 np Z Z Z) (m6 (Gh.sub 15 10 np Z Z Z) (a8 ⟨(true,i+1,(stM m (ss.getD i default)).1,(n7 m.rs a1 (ss.getD i default)).1),?_,?_,⟨⟨_,Z,by rfl⟩,Z,trivial⟩,⟨⟨_,Z,by rfl⟩,Z,Z,⟨⟨_,Z,by rfl⟩,Z,Z,⟨⟨_,Z,by rfl⟩,Z,Z,⟨⟨_,Z,by rfl⟩,Z,Z,⟨⟨_,Z,by rfl⟩,Z,Z,⟨⟨_,Z,by rfl⟩,Z,Z,⟨⟨_,Z,by rfl⟩,Z,Z,⟨⟨_,Z,by rfl⟩,Z,Z,⟨⟨_,Z,by rfl⟩,Z,Z,⟨⟨_,Z,by rfl⟩,Z,Z,⟨⟨_,Z,by rfl⟩,Z,Z,trivial⟩⟩⟩⟩⟩⟩⟩⟩⟩⟩⟩,Z,Z,Z⟩)))))))))
 ·exact b9q
 dsimp only;omega
):p:=h
theorem b6B (h:p:=by
 exact ⟨by dsimp only;omega,by dsimp only;rw [a27 hag];exact hst,hF,λe=>by cases e⟩
):p:=h
theorem c3U (h:p:=by
 refine b39 ?_
 refine ⟨(true,i+1,m1,a1),?_,?_,⟨⟨_,Z,by rfl⟩,Z,trivial⟩,⟨⟨_,Z,by rfl⟩,Z,Z,⟨⟨_,Z,by rfl⟩,Z,Z,⟨⟨_,Z,by rfl⟩,Z,Z,⟨⟨_,Z,by rfl⟩,Z,Z,⟨⟨_,Z,by rfl⟩,Z,Z,⟨⟨_,Z,by rfl⟩,Z,Z,⟨⟨_,Z,by rfl⟩,Z,Z,⟨⟨_,Z,by rfl⟩,Z,Z,⟨⟨_,Z,by rfl⟩,Z,Z,⟨⟨_,Z,by rfl⟩,Z,Z,⟨⟨_,Z,by rfl⟩,Z,Z,trivial⟩⟩⟩⟩⟩⟩⟩⟩⟩⟩⟩,Z,Z,Z⟩
 ·exact b6B
 dsimp only;omega
):p:=h
theorem c2d (h:p:=by
 refine zgo ?_
 refine g8 (G1 Z Z Z Z (a7 (b8 Z ?_) (a7 (p5 ?_) d5)))
 all_goals (first | rfl | (rw [b21 J];done) | (rw [b21 J];rfl) | (rw [b5P J];done) | (rw [b5P J];rfl) | (rw [b5R h0 J];done) | (rw [b5R h0 J];rfl))
):p:=h
theorem c2e (h:p:=by
 refine zgo ?_
 refine g8 (G1 Z Z Z Z (a7 (b8 Z ?_) (a7 (p5 ?_) d5)))
 all_goals (first | (rw [hG];done) | (rw [hG];rfl) | (rw [hG,b2U b9];done) | (rw [hG,b2U b9];rfl) | (rw [hG,b0U b9];done) | (rw [hG,b0U b9];rfl))
):p:=h
theorem c3V (h:p:=by
 refine zgo ?_
 refine ⟨(i+1),?_,?_,⟨⟨_,Z,by rfl⟩,Z,trivial⟩,trivial,Z,Z,Z⟩
 ·exact ⟨by omega,r5 hinv.2 (b7f J ⟨s7.mp b9,s7.mp b9,s7.mp b9⟩ J (λh=>by omega))⟩
 omega
):p:=h
theorem b6C (h:p:=by
 exact ⟨by dsimp only;omega,by dsimp only;rw [a27 hag];exact hst,hF,λ_=>Z⟩
):p:=h
theorem c3W (h:p:=by
 refine b39 ?_
 refine ⟨(false,i+1,m,a1),?_,?_,⟨⟨_,Z,by rfl⟩,Z,trivial⟩,⟨⟨_,Z,by rfl⟩,Z,Z,⟨⟨_,Z,by rfl⟩,Z,Z,⟨⟨_,Z,by rfl⟩,Z,Z,⟨⟨_,Z,by rfl⟩,Z,Z,⟨⟨_,Z,by rfl⟩,Z,Z,⟨⟨_,Z,by rfl⟩,Z,Z,⟨⟨_,Z,by rfl⟩,Z,Z,trivial⟩⟩⟩⟩⟩⟩⟩,Z,Z,Z⟩
 ·exact b6C
 dsimp only;omega
):p:=h
theorem c3X (h:p:=by
 refine w8 ?_
 refine b3p ?_
 refine b7T ?_
 refine m3 ?_
 refine b7 Z Z (c6 G Z Z Z Z Z J g0) ?_
 refine vm4 ?_
 first | refine d6 G Z Z Z Z Z (C7 J J) Z Z Z Z Z (Nat.le_of_ble_eq_true Z) Z ?_ | refine d6 G Z Z Z Z Z (by simp;exact ⟨by omega,Z⟩) Z Z Z Z Z (Nat.le_of_ble_eq_true Z) Z ?_
 refine zfo ?_
 all_goals (first | rfl | exact a2B | (simp only [List.nil_append];exact a2B))
):p:=h
theorem b6D (h:p:=by
 refine zf1 ?_
 all_goals exact b8O
):p:=h
theorem c2f (h:p:=by
 refine zf1 ?_
 all_goals exact b8P
):p:=h
theorem b6E (h:p:=by
 first | exact ⟨by show ((v.1+1:Nat):Int)<=x6.1;omega,hV,hc7.mono g0⟩ | exact ⟨by show ((v.1+1:Nat):Int)<=x6.1;omega,(b5I hV hst b9).1,hc7.mono g0⟩
):p:=h
theorem c3Y (h:p:=by
 refine zgo ?_
 refine ⟨(v.1+1,x7.2,v.2.2),?_,?_,⟨⟨_,Z,by (first | rfl | exact congrArg (λv=>AV.v (.int .i64 v)) b6l)⟩,Z,trivial⟩,⟨⟨_,Z,by rfl⟩,Z,Z,⟨⟨_,Z,by rfl⟩,Z,Z,⟨⟨_,Z,by rfl⟩,Z,Z,⟨⟨_,Z,by rfl⟩,Z,Z,⟨⟨_,Z,by rfl⟩,Z,Z,⟨⟨_,Z,by rfl⟩,Z,Z,trivial⟩⟩⟩⟩⟩⟩,Z,Z,Z⟩
 ·exact b6E
 (show x6.1.toNat - (v.1+1) < x6.1.toNat - v.1;omega)
):p:=h
theorem c3Z (h:p:=by
 refine zgo ?_
 refine g8 (G1 Z Z Z Z (a7 (b8 Z ?_) (a7 (p5 ?_) d5)))
 all_goals (first | rfl | (rw [b2U b9];done) | (rw [b2U b9];rfl) | (rw [b0U b9];done) | (rw [b0U b9];rfl))
):p:=h
theorem c30 (h:p:=by
 refine m6 (Gh.sub 16 9 np Z Z Z) (m6 (Gh.sub 17 10 np Z Z Z) (m6 (Gh.sub 18 11 np Z Z Z) (a8 ⟨(i+1),?_,?_,⟨⟨_,Z,by rfl⟩,Z,trivial⟩,⟨⟨_,Z,by (first | rfl | (rw [hs4];done) | (rw [hs4];rfl) | (rw [hs4i,hs4];done) | (rw [hs4i,hs4];rfl))⟩,Z,Z,⟨⟨_,Z,by (first | rfl | (rw [hs4];done) | (rw [hs4];rfl) | (rw [hs4i,hs4];done) | (rw [hs4i,hs4];rfl))⟩,Z,Z,⟨⟨_,Z,by (first | rfl | (rw [hs4];done) | (rw [hs4];rfl) | (rw [hs4i,hs4];done) | (rw [hs4i,hs4];rfl))⟩,Z,Z,⟨⟨_,Z,by (first | rfl | (rw [hs4];done) | (rw [hs4];rfl) | (rw [hs4i,hs4];done) | (rw [hs4i,hs4];rfl))⟩,Z,Z,trivial⟩⟩⟩⟩,Z,Z,Z⟩)))
 ·omega
 omega
):p:=h
theorem c2g (h:p:=by
 refine zf1 ?_
 all_goals (first | rfl | (simp only [okRts,h1,Bool.true_and,Bool.false_and];done) | (have e8:rs.length=8:=Int.ofNat_inj.mp h2;simp only [okRts,h1,e8,decide_true,Bool.true_and,a0D,Bool.not_not];done) | (simp only [okRts,h1,show ¬ rs.length=8 from (λh=>h2 (by rw [h];rfl)),decide_false,Bool.false_and,Bool.and_false];done))
):p:=h
theorem a71 (h:p:=by
 exact ⟨⟨_,Z,by rfl⟩,Z,⟨⟨_,Z,by rfl⟩,Z,trivial⟩⟩
):p:=h
theorem b71 (h:p:=by
 exact ⟨⟨_,Z,by rfl⟩,Z,Z,⟨⟨_,Z,by rfl⟩,Z,Z,⟨⟨_,Z,by rfl⟩,Z,Z,⟨⟨_,Z,by rfl⟩,Z,Z,⟨⟨_,Z,by rfl⟩,Z,Z,⟨⟨_,Z,by rfl⟩,Z,Z,trivial⟩⟩⟩⟩⟩⟩
):p:=h
theorem c31 (h:p:=by
 refine zgo ?_
 refine ⟨(i+1),?_,?_,⟨⟨_,Z,by rfl⟩,Z,⟨⟨_,Z,by rfl⟩,Z,trivial⟩⟩,⟨⟨_,Z,by (first | (rw [b5o J,List.map_append];rfl) | (rw [b5o J];done) | (rw [b5o J];rfl) | (rw [c2M J];done))⟩,Z,Z,trivial⟩,Z,Z,Z⟩
 ·omega
 omega
):p:=h
theorem b0c (h:p:=by
 exact ⟨⟨_,Z,by rfl⟩,Z,Z,⟨⟨_,Z,by rfl⟩,Z,Z,trivial⟩⟩
):p:=h
theorem c2h (h:p:=by
 refine zf1 ?_
 all_goals exact b8Q
):p:=h
theorem c32 (h:p:=by
 refine a3s (id:=0) Z ?_
 refine g8 (u6 Z (p5 ?_) Z (AftOK.stays Z ?_ Z AftOK.nil))
 all_goals (first | (rw [b4z J];done) | (exfalso;omega) | (simp only [nxC,nxS];done) | (simp only [nxC,nxS,a8I (show ¬ x.a < (x.c.length:Int) by omega)];done) | (rw [a8J J];exact congrArg (Value.int .i64) (U8 (Int.le_trans (by decide) M6.1) (Int.le_trans M6.2 (by decide)))) | (rw [a8J J];simp only [nxT,nxS,a8I (show ¬ x.a < (x.c.length:Int) by omega)];exact congrArg (Value.int .i64) (U8 (Int.le_trans (by decide) M6.1) (Int.le_trans M6.2 (by decide)))))
):p:=h
theorem c2i (h:p:=by
 refine zgo ?_
 refine g8 (m5 Z Z Z Z (a7 (t7 ?_) (a7 (t7 ?_) (a7 (t7 ?_) (a7 (t7 ?_) (a7 (a3u ?_) (a7 (t7 ?_) (a7 (p5 ?_) d5))))))))
 all_goals exact b8R
):p:=h
theorem c33 (h:p:=by
 refine m3 ?_
 refine c4 2 Z Z Z (ArgsOK.of Z) (b0d (a5Z sl i) _ (by have:=@a5k sl i;have:=@W0 sl i;omega) (λx hx=>b7x hF J (r4.mpr J) hx)) Z Z ?_
 refine zgn ?_
 refine X3 ?_
 refine m6 (Gh.sub 1 0 np Z Z Z) (a8 ⟨(i+1),?_,?_,⟨⟨_,Z,by rfl⟩,Z,⟨⟨_,Z,by rfl⟩,Z,trivial⟩⟩,⟨⟨_,Z,by (first | (rw [b5r J];done) | (rw [b5s J];done))⟩,Z,Z,trivial⟩,Z,Z,Z⟩)
 ·omega
 omega
):p:=h
theorem c34 (h:p:=by
 refine zgn ?_
 refine e9 ?_
 refine vm4 ?_
 refine vm5 ?_
 refine zgn ?_
 refine ⟨(i+1),?_,?_,⟨⟨_,Z,by rfl⟩,Z,trivial⟩,trivial,Z,Z,Z⟩
 ·exact ⟨by omega,r5 hinv.2.1 (R2.mpr ⟨by omega,by first | assumption | (simp only [tgI];omega),by first | exact .inl J | exact .inr (by simp only [prI];rw [← ht];omega)⟩),r5 hinv.2.2 (b2x.mpr b9)⟩
 omega
):p:=h
theorem c35 (h:p:=by
 refine m3 ?_
 refine c4 4 Z Z Z (ArgsOK.of Z) (a1j (pnS q i) ⟨_,_⟩ J) Z Z ?_
 refine zgn ?_
 refine X3 ?_
 refine m6 (Gh.sub 3 1 np Z Z Z) (a8 ⟨(i+1),?_,?_,⟨⟨_,Z,by rfl⟩,Z,⟨⟨_,Z,by rfl⟩,Z,trivial⟩⟩,⟨⟨_,Z,by (first | (rw [a83 J,List.map_append];rfl) | (rw [a83 J];done) | (rw [a83 J];rfl) | (rw [b8l J];done))⟩,Z,Z,trivial⟩,Z,Z,Z⟩)
 ·omega
 omega
):p:=h
theorem c2j (h:p:=by
 refine g8 (m5 Z Z Z Z (a7 (p5 ?_) (a7 (b8 Z ?_) (a7 (b8 Z ?_) (a7 (b8 Z ?_) d5)))))
 all_goals (rfl)
):p:=h
theorem b72 (h:p:=by
 refine a1M ?_
 all_goals (first | (rw [c08 J];done) | (rw [b5a J,htn];done) | (rw [b5a J,← htn];done))
):p:=h
theorem H0 (h:p:=by
 exact Nat.zero_le _
):p:=h
theorem b73 (h:p:=by
 refine zf1 ?_
 all_goals (first | rfl | (simp only [a8m,h1,Bool.true_and,Bool.false_and];done) | (simp only [a8m, *,Bool.true_and,Bool.false_and];done))
):p:=h
theorem b6F (h:p:=by
 refine zf1 ?_
 all_goals (first | rfl | (simp only [b0G, *,Bool.true_and,Bool.false_and];done) | (simp_all [b0G];done))
):p:=h
theorem c36 (h:p:=by
 try rw [h1]
 try simp only [rfb] at h1
 refine n9 (λK5 hK5=>?_)
 refine e9 ?_
 refine vm4 ?_
 refine b7 Z Z (y9 G Z Z Z Z) ?_
 refine b7U ?_
 refine b3r ?_
 refine hK5 _ ?_
 clear hK5 K5
 refine g8 (m5 Z Z Z Z (a7 (t7 ?_) (a7 (t7 ?_) (a7 (p5 ?_) d5))))
 all_goals clear hK3 K3
 all_goals (first | rfl | (exfalso;simp_all;done))
):p:=h
theorem c2k (h:p:=by
 refine g8 (m5 Z Z Z Z (a7 (b8 Z ?_) (a7 (b8 Z ?_) d5)))
 all_goals exact b6e
):p:=h
theorem c37 (h:p:=by
 first | exact ⟨by show ((z.1+1:Nat):Int)<=x1.1;omega,hz2,hc4.mono g0⟩ | exact ⟨by show ((z.1+1:Nat):Int)<=x1.1;omega,(a5r b9).trans hz2,hc4.mono g0⟩ | exact ⟨by show ((z.1+1:Nat):Int)<=x1.1;omega,a5t.trans hz2,hc4.mono g0⟩ | exact ⟨by show ((z.1+1:Nat):Int)<=x1.1;omega,(a5s b9).trans hz2,hc4.mono g0⟩
):p:=h
theorem c38 (h:p:=by
 first | exact ⟨by show ((z.1+1:Nat):Int)<=x1.1;omega,hz2,hc6.mono g0⟩ | exact ⟨by show ((z.1+1:Nat):Int)<=x1.1;omega,(a5r b9).trans hz2,hc6.mono g0⟩ | exact ⟨by show ((z.1+1:Nat):Int)<=x1.1;omega,a5t.trans hz2,hc6.mono g0⟩ | exact ⟨by show ((z.1+1:Nat):Int)<=x1.1;omega,(a5s b9).trans hz2,hc6.mono g0⟩
):p:=h
theorem c39 (h:p:=by
 first | exact ⟨by show ((z.1+1:Nat):Int)<=x1.1;omega,hz2,hc2.mono g0⟩ | exact ⟨by show ((z.1+1:Nat):Int)<=x1.1;omega,(a5r b9).trans hz2,hc2.mono g0⟩ | exact ⟨by show ((z.1+1:Nat):Int)<=x1.1;omega,a5t.trans hz2,hc2.mono g0⟩ | exact ⟨by show ((z.1+1:Nat):Int)<=x1.1;omega,(a5s b9).trans hz2,hc2.mono g0⟩
):p:=h
theorem c4a (h:p:=by
 first | exact ⟨by show ((z.1+1:Nat):Int)<=x1.1;omega,hz2,hc8.mono g0⟩ | exact ⟨by show ((z.1+1:Nat):Int)<=x1.1;omega,(a5r b9).trans hz2,hc8.mono g0⟩ | exact ⟨by show ((z.1+1:Nat):Int)<=x1.1;omega,a5t.trans hz2,hc8.mono g0⟩ | exact ⟨by show ((z.1+1:Nat):Int)<=x1.1;omega,(a5s b9).trans hz2,hc8.mono g0⟩
):p:=h
theorem c4b (h:p:=by
 first | exact ⟨by show ((z.1+1:Nat):Int)<=x1.1;omega,(a22 hz2 J J).1,hc10.mono g0⟩ | exact ⟨by show ((z.1+1:Nat):Int)<=x1.1;omega,a85 hz2,hc10.mono g0⟩ | exact ⟨by show ((z.1+1:Nat):Int)<=x1.1;omega,a86 hz2 b9,hc10.mono g0⟩ | exact ⟨by show ((z.1+1:Nat):Int)<=x1.1;omega,hz2,hc10.mono g0⟩
):p:=h
theorem c2l (h:p:=by
 refine zf1 ?_
 all_goals ((first | rfl | (simp_all;done) | (simp_all;omega)))
):p:=h
theorem c4c (h:p:=by
 first | exact ⟨by show ((z.1+1:Nat):Int)<=x1.1;omega,(a22 hz2 J J).1,hc2.mono g0⟩ | exact ⟨by show ((z.1+1:Nat):Int)<=x1.1;omega,a85 hz2,hc2.mono g0⟩ | exact ⟨by show ((z.1+1:Nat):Int)<=x1.1;omega,a86 hz2 b9,hc2.mono g0⟩ | exact ⟨by show ((z.1+1:Nat):Int)<=x1.1;omega,hz2,hc2.mono g0⟩
):p:=h
theorem c4d (h:p:=by
 exact ⟨by omega,r5 hinv.2 (N1.mpr ⟨s7.mp b9,s7.mp b9,by omega,(λj hj=>by have:=R4.mp (a7c.mp (show I0 (λj=>decide ((wa.getD j default).q=(wa.getD i default).q)) i < 0 by omega)) j hj;exact of_decide_eq_false this),b9d⟩)⟩
):p:=h
theorem c2m (h:p:=by
 refine zgo ?_
 refine g8 (G1 Z Z Z Z (a7 (b8 Z ?_) (a7 (p5 ?_) d5)))
 all_goals (first | (rw [hG];done) | (rw [hG];rfl))
):p:=h
theorem c2n (h:p:=by
 refine zgo ?_
 refine ⟨(i+1),?_,?_,⟨⟨_,Z,by rfl⟩,Z,trivial⟩,trivial,Z,Z,Z⟩
 ·exact ⟨by omega,r5 hinv.2 (by first | assumption | (simp_all;done))⟩
 omega
):p:=h
theorem c2o (h:p:=by
 refine zgo ?_
 refine g8 (m5 Z Z Z Z (a7 (t7 ?_) (a7 (t7 ?_) (a7 (t7 ?_) (a7 (a3u ?_) (a7 (t7 ?_) (a7 (p5 ?_) d5)))))))
 all_goals (first | (rw [hR];done) | (rw [hR];rfl))
):p:=h
theorem c2p (h:p:=by
 refine zf1 ?_
 all_goals (simp only [a4n];first | (rw [if_pos J];done) | (rw [if_neg J,if_pos J];done) | (rw [if_neg J,if_neg J];done))
):p:=h
theorem b74 (h:p:=by
 exact ⟨⟨_,Z,by rfl⟩,Z,Z,⟨⟨_,Z,by rfl⟩,Z,Z,⟨⟨_,Z,by rfl⟩,Z,Z,trivial⟩⟩⟩
):p:=h
theorem c4e (h:p:=by
 refine zgo ?_
 refine ⟨(i+1),?_,?_,⟨⟨_,Z,by rfl⟩,Z,trivial⟩,trivial,Z,Z,Z⟩
 ·exact ⟨by omega,r5 hinv.2 b6k⟩
 omega
):p:=h
theorem b9r (h:p:=by
 refine zgo ?_
 refine g8 (u6 Z (p5 ?_) Z (AftOK.stays Z ?_ Z AftOK.nil))
 all_goals (first | (rw [hO.1];done) | (rw [hO.2];done) | (rw [hO.1];rfl) | (rw [hO.2];rfl))
):p:=h
theorem b6G (h:p:=by
 refine zgo ?_
 refine ⟨(i+1),?_,?_,⟨⟨_,Z,by rfl⟩,Z,trivial⟩,trivial,Z,Z,Z⟩
 ·exact ⟨by omega,r5 hinv.2 (by simp_all [fdP,emP])⟩
 omega
):p:=h
theorem b9s (h:p:=by
 exact ⟨⟨_,Z,by (first | rfl | (rw [hXe];done) | (rw [hXe];rfl))⟩,Z,Z,⟨⟨_,Z,by (first | rfl | (rw [hXe];done) | (rw [hXe];rfl))⟩,Z,Z,⟨⟨_,Z,by (first | rfl | (rw [hXe];done) | (rw [hXe];rfl))⟩,Z,Z,⟨⟨_,Z,by (first | rfl | (rw [hXe];done) | (rw [hXe];rfl))⟩,Z,Z,trivial⟩⟩⟩⟩
):p:=h
theorem b6H (h:p:=by
 exact ⟨⟨_,Z,by rfl⟩,Z,Z,⟨⟨_,Z,by rfl⟩,Z,Z,⟨⟨_,Z,by rfl⟩,Z,Z,⟨⟨_,Z,by rfl⟩,Z,Z,trivial⟩⟩⟩⟩
):p:=h
theorem b9t (h:p:=by
 refine zgo ?_
 refine ⟨(i+1),?_,?_,⟨⟨_,Z,by rfl⟩,Z,trivial⟩,trivial,Z,Z,Z⟩
 ·exact ⟨by omega,r5 hinv.2 (R2.mpr ⟨by omega,by first | assumption | (simp only [tgI];omega),by first | exact .inl J | exact .inr (by simp only [prI];rw [← ht];omega)⟩)⟩
 omega
):p:=h
theorem b9u (h:p:=by
 refine zgo ?_
 refine ⟨(i+1),?_,?_,⟨⟨_,Z,by rfl⟩,Z,⟨⟨_,Z,by rfl⟩,Z,trivial⟩⟩,⟨⟨_,Z,by (first | (rw [c2P J];done) | (rw [c2Q J,List.map_append];rfl))⟩,Z,Z,trivial⟩,Z,Z,Z⟩
 ·exact ⟨by omega,r5 hinv.2 J⟩
 omega
):p:=h
theorem b9v (h:p:=by
 refine b7U ?_
 refine b3r ?_
 refine hK6 _ ?_
 clear hK6 K6
 refine g8 (m5 Z Z Z Z (a7 (b8 Z ?_) (a7 (b8 Z ?_) (a7 (p5 ?_) d5))))
 all_goals (first | rfl | (exfalso;simp_all;done))
):p:=h
theorem b9w (h:p:=by
 refine g8 (m5 Z Z Z Z (a7 (t7 ?_) (a7 (t7 ?_) (a7 (t7 ?_) (a7 (a3u ?_) (a7 (p5 ?_) d5))))))
 all_goals exact b6f
):p:=h
theorem b9x (h:p:=by
 refine E9 ?_
 refine A7 (Gh.nestX (id:=6) m.cp Z (by simp only [List.length_set,List.length_map])) ?_
 refine zgo ?_
 refine g8 (m5 Z Z Z Z (a7 (b8 Z ?_) (a7 (b8 Z ?_) (a7 (b8 Z ?_) (a7 (t8 Z ?_) (a7 (p5 ?_) (a7 (p5 ?_) d5)))))))
 all_goals (rfl)
):p:=h
theorem b6I (h:p:=by
 refine g8 (a3r Z Z Z Z (a7 (b8 Z ?_) (a7 (p5 ?_) d5)) Z (AftOK.gone AftOK.nil))
 all_goals (first | (rw [hG];done) | (rw [hG];rfl))
):p:=h
theorem b9y (h:p:=by
 refine zgo ?_
 refine g8 (m5 Z Z Z Z (a7 (t7 ?_) (a7 (t7 ?_) (a7 (t7 ?_) (a7 (a3u ?_) (a7 (p5 ?_) d5))))))
 all_goals exact b6g
):p:=h
theorem b9z (h:p:=by
 refine zgo ?_
 refine ⟨(i+1),?_,?_,⟨⟨_,Z,by rfl⟩,Z,⟨⟨_,Z,by rfl⟩,Z,trivial⟩⟩,⟨⟨_,Z,by (first | (rw [b5q b9,List.map_append];rfl) | (rw [c1f b9];done))⟩,Z,Z,trivial⟩,Z,Z,Z⟩
 ·omega
 omega
):p:=h
theorem b9A (h:p:=by
 refine g8 (p9 Z Z Z Z (a7 (p5 ?_) (a7 (b8 Z ?_) (a7 (b8 Z ?_) (a7 (b8 Z ?_) (a7 (p5 ?_) d5))))) Z (AftOK.gone (AftOK.gone (AftOK.gone AftOK.nil))))
 all_goals (first | (rw [hG0];done) | (rw [hG0];rfl) | (rw [hG0,hls];done) | (rw [hG0,hls];rfl))
):p:=h
theorem b9B (h:p:=by
 exact ⟨⟨_,Z,by rfl⟩,Z,Z,⟨⟨_,Z,by rfl⟩,Z,Z,⟨⟨_,Z,by rfl⟩,Z,Z,⟨⟨_,Z,by rfl⟩,Z,Z,⟨⟨_,Z,by rfl⟩,Z,Z,⟨⟨_,Z,by rfl⟩,Z,Z,⟨⟨_,Z,by rfl⟩,Z,Z,trivial⟩⟩⟩⟩⟩⟩⟩
):p:=h
theorem b9C (h:p:=by
 refine zgo ?_
 refine g8 (G1 Z Z Z Z (a7 (t7 ?_) (a7 (p5 ?_) (a7 (p5 ?_) d5))))
 all_goals exact b8S
):p:=h
theorem b9D (h:p:=by
 refine zgo ?_
 refine ⟨(i+1),?_,?_,⟨⟨_,Z,by rfl⟩,Z,trivial⟩,trivial,Z,Z,Z⟩
 ·exact ⟨by omega,r5 hi.2 (a3G.mpr ⟨by omega,by first | exact .inl J | exact .inr ⟨by assumption,by assumption⟩⟩)⟩
 omega
):p:=h
theorem b1n (h:p:=by
 refine g8 (R0 Z (p5 ?_))
 all_goals (first | rfl | (simp_all;done))
):p:=h
theorem b9E (h:p:=by
 exact ⟨by omega,r5 hinv.2 (N1.mpr ⟨s7.mp b9,s7.mp b9,by omega,λj hj=>hk.2 j J,b9d⟩)⟩
):p:=h
theorem b9F (h:p:=by
 exact ⟨by omega,r5 hinv.2 (by first | exact b8g b9 (a7K.mpr (ec3.mp b9)) | exact b8h b9 (a20.mpr ⟨s7.mp b9,s7.mp b9,s7.mp b9⟩) (a7c.mp J))⟩
):p:=h
theorem b9G (h:p:=by
 refine zgo ?_
 refine ⟨(i+1),?_,?_,⟨⟨_,Z,by rfl⟩,Z,⟨⟨_,Z,by rfl⟩,Z,trivial⟩⟩,⟨⟨_,Z,by (exact congrArg (λz=>Row.row _ _ z) (b5p J))⟩,Z,Z,trivial⟩,Z,Z,Z⟩
 ·omega
 omega
):p:=h
theorem b9H (h:p:=by
 refine b4a ?_
 refine b7T ?_
 refine zfo ?_
 all_goals (first | rfl | simp)
):p:=h
theorem b3w (h:p:=by
 refine zf1 ?_
 all_goals (first | rfl | (simp_all [s1];done) | (simp_all [s1];omega))
):p:=h
theorem b9I (h:p:=by
 refine zf1 ?_
 all_goals exact b8T
):p:=h
theorem b9J (h:p:=by
 refine zgo ?_
 refine g8 (m5 Z Z Z Z (a7 (b8 Z ?_) (a7 (b8 Z ?_) (a7 (b8 Z ?_) (a7 (b8 Z ?_) (a7 (t8 Z ?_) (a7 (p5 ?_) d5)))))))
 all_goals (first | rfl | (rw [hT];done) | (rw [hT];rfl))
):p:=h
theorem b9K (h:p:=by
 have hT:=b5G h1
 refine zgo ?_
 refine g8 (m5 Z Z Z Z (a7 (t7 ?_) (a7 (t7 ?_) (a7 (t7 ?_) (a7 (t7 ?_) (a7 (a3u ?_) (a7 (p5 ?_) d5)))))))
 all_goals (first | rfl | (rw [hT];done) | (rw [hT];rfl))
):p:=h
theorem b9L (h:p:=by
 refine zgo ?_
 refine ⟨(i+1),?_,?_,⟨⟨_,Z,by rfl⟩,Z,trivial⟩,trivial,Z,Z,Z⟩
 ·exact ⟨by omega,r5 hinv.2 (by first | assumption | exact a0T.mp b9)⟩
 omega
):p:=h
theorem b1o (h:p:=by
 exact ⟨⟨_,Z,by (first | rfl | simp)⟩,Z,trivial⟩
):p:=h
theorem b9M (h:p:=by
 exact ⟨by omega,hinv.2.succ hm (λk hk e=>(a91.mp h5) ((a5n J).mpr ⟨k,hk,e⟩)) (by first | exact b5y b3i | (obtain rfl:i=0:=J;exact b5x))⟩
):p:=h
theorem b6J (h:p:=by
 exact ⟨⟨_,Z,by (first | rfl | simp)⟩,Z,⟨⟨_,Z,by (first | rfl | simp)⟩,Z,trivial⟩⟩
):p:=h
theorem b9N (h:p:=by
 refine zgo ?_
 refine g8 (b65 (u1) (m5 Z Z Z Z (a7 (a2U ?_) (a7 (a2U ?_) (a7 (a2U ?_) (a7 (a2U ?_) (a7 (b6Z ?_) (a7 (p5 ?_) (a7 (p5 ?_) d5)))))))))
 all_goals (rfl)
):p:=h
theorem a6F (h:p:=by
 refine zf1 ?_
 all_goals (rfl)
):p:=h
theorem b9O (h:p:=by
 refine ⟨(k+1),?_,?_,⟨⟨_,Z,by rfl⟩,Z,trivial⟩,trivial,Z,Z,Z⟩
 ·exact ⟨by omega,r5 hk.2 (c1n b9 b9)⟩
 omega
):p:=h
theorem b9P (h:p:=by
 refine zgo ?_
 refine ⟨(k+1),?_,?_,⟨⟨_,Z,by rfl⟩,Z,trivial⟩,trivial,Z,Z,Z⟩
 ·exact ⟨by omega,b1E hk.2 b9⟩
 omega
):p:=h
theorem b9Q (h:p:=by
 refine w8 ?_
 refine zcl (a3K m x hn) ?_
 refine zf1 ?_
 all_goals (first | rfl | (simp_all;done))
):p:=h
theorem b9R (h:p:=by
 exact ⟨⟨_,Z,by (first | rfl | (simp;done) | (simp;omega))⟩,Z,⟨⟨_,Z,by (first | rfl | (simp;done) | (simp;omega))⟩,Z,trivial⟩⟩
):p:=h
theorem b9S (h:p:=by
 refine zcd (λk0=>?_) (λk0=>?_)
 ·refine zf1 ?_
  all_goals (simp_all;omega)
 refine zf1 ?_
 all_goals (simp_all;omega)
):p:=h
theorem b3x (h:p:=by
 first | (exfalso;omega) | (exfalso;simp_all;done)
):p:=h
theorem b6K (h:p:=by
 refine zf1 ?_
 all_goals (first | rfl | (simp_all [lessW];done))
):p:=h
theorem b9T (h:p:=by
 refine zgo ?_
 refine g8 (G1 Z Z Z Z (a7 (a2U ?_) (a7 (p5 ?_) d5)))
 all_goals (rfl)
):p:=h
theorem b9U (h:p:=by
 first | (exfalso;omega) | exact absurd b9 (hne _ (f8.mpr ⟨k,by omega,Z⟩))
):p:=h
theorem b9V (h:p:=by
 all_goals (first | rfl | (exact (hbn h1).symm) | (rw [hbn h1];done) | (simp_all;done) | simp)
):p:=h
theorem b3y (h:p:=by
 refine zf1 ?_
 all_goals (rw [a69])
):p:=h
theorem b9W (h:p:=by
 refine zf1 ?_
 all_goals (first | rfl | (simp_all [fdP];done) | (simp_all [fdP];rfl))
):p:=h
theorem b9X (h:p:=by
 refine zf1 ?_
 all_goals (first | rfl | (simp_all [N2];done) | (simp_all [N2];rfl))
):p:=h
theorem b9Y (h:p:=by
 refine c8 [1] Z Z (b7 Z Z (V6 G Z Z Z Z Z Z t6 t6 t6 t6) (a8 ⟨Z,?_⟩))
 refine b6 (rs:=[8]) a6 Z (AllB.cons ?_ AllB.nil)
 refine c8 [1] Z Z (a3V G Z Z Z Z Z Z Z (vs:=(xs.map i5).drop i) (SrcOK.spare Z t6) (L:=xs.length - i) b9b (b6X O4 J t6 (by rw [List.length_map]) (by rw [List.length_map])) (λc hc=>(hall c (List.mem_of_mem_drop hc)).2) (λc hc=>(hall c (List.mem_of_mem_drop hc)).1) t6 t6 (a8 ⟨Z,?_⟩))
 exact a33
):p:=h
theorem b9Z (h:p:=by
 refine b6 (rs:=[6]) a6 Z (AllB.cons ?_ AllB.nil)
 refine c8 [0] Z Z (H9 4 [1,2] Z Z Z (J8 wa w i J J) Z (RowsIn.cons Z (RowsIn.cons Z RowsIn.nil)) Z Z Z (a8 ⟨Z,?_⟩))
 refine zsa 7 ?_
 exact a33
):p:=h
theorem b90 (h:p:=by
 intro r0
 refine zsa 1 ?_
 refine zsa 3 ?_
 refine zsa 4 ?_
 refine r8 (N:=2) Z (m8 (fuel:=4) [⟨0,21,1,false,.row 183 2 []⟩] (AllVOK.cons (VOK.lit G Z Z Z Z Z) (AllVOK.nil)) (λhok=>?_))
 refine i7 [(2,[0]),(5,[])] a6 a6 (λe he=>hok e he) a6 (AllVS.cons ?_ (AllVS.cons ?_ AllVS.nil))
 ·refine c3w ?_
  clear hok
  refine b6 (rs:=[5]) a6 Z (AllB.cons ?_ AllB.nil)
  refine c8 [0] Z Z (p4 G 3 Z Z Z Z Z Z Z Z (a8 ⟨Z,?_⟩))
  exact b9Z
 refine VStep.mk0 [0] Z Z (λb1 _ hbn=>p4 G 3 Z Z Z Z Z Z Z Z (a8 Z)) a6 a6 a6 a6 (i7 [(2,[0])] a6 a6 (λe he=>hok e he) a6 (AllVS.cons ?_ AllVS.nil))
 refine c3w ?_
 clear hok
 exact b9Z
):p:=h
theorem b91 (h:p:=by
 refine b6 (rs:=[8]) a6 Z (AllB.cons ?_ AllB.nil)
 refine c7 [0,1,2,3] Z Z (v6 (Gh.forget (id:=5) (k:=3) Z Z)<|v6 (Gh.keep [0,1,2,3,4,5,9] Z)<|J2 (tx:=23) 11 rfl rfl rfl rfl rfl<|w5 G G5 rfl rfl rfl rfl rfl rfl rfl rfl rfl rfl b3j rfl rfl (a8 ⟨Z,?_⟩))
 refine zsa 9 ?_
 refine b6 (rs:=[10]) a6 Z (AllB.cons ?_ AllB.nil)
 refine c8 [0,1,2,3] Z Z ?_
 refine zgn ?_
 refine ⟨Z,?_⟩
 exact a33
):p:=h
theorem b92 (h:p:=by
 first | refine c7 [] Z Z (b7 Z Z (c6 G Z Z Z Z Z J a6B) (a8 ⟨Z,?_⟩)) | refine c7 [] Z Z (b7 Z Z (c6 G Z Z Z Z Z J a6A) (a8 ⟨Z,?_⟩)) | refine c7 [] Z Z (b7 Z Z (c6 G Z Z Z Z Z J a6z) (a8 ⟨Z,?_⟩))
 refine b6 (rs:=[9,13]) a6 Z (AllB.cons ?_ (AllB.cons ?_ AllB.nil))
 ·first | refine c7 [] Z Z (b7 Z Z (d9 G Z Z Z Z (V9 J) Z) (a8 ⟨Z,?_⟩)) | refine c7 [] Z Z (b7 Z Z (d9 G Z Z Z Z (Z2 J J) Z) (a8 ⟨Z,?_⟩)) | refine c7 [] Z Z (b7 Z Z (d9 G Z Z Z Z (a0W J J) Z) (a8 ⟨Z,?_⟩))
  refine b6 (rs:=[13]) a6 Z (AllB.cons ?_ AllB.nil)
  exact ws1
 first | refine c7 [] Z Z (b7 Z Z (d9 G Z Z Z Z (V9 J) Z) (a8 ⟨Z,?_⟩)) | refine c7 [] Z Z (b7 Z Z (d9 G Z Z Z Z (Z2 J J) Z) (a8 ⟨Z,?_⟩)) | refine c7 [] Z Z (b7 Z Z (d9 G Z Z Z Z (a0W J J) Z) (a8 ⟨Z,?_⟩))
 refine b6 (rs:=[9]) a6 Z (AllB.cons ?_ AllB.nil)
 exact ws1
):p:=h
theorem b93 (h:p:=by
 refine Ctr.of (n:=90) G Tryz.func134 Z a6 Z Z Z (λw0=>?_)
 refine j8 0 Z (λ_=>Z) (λu0=>?_)
 refine w8 ?_
 refine a3c ?_
 refine a6D ?_
 refine zcd (λk0=>?_) (λk0=>?_)
 ·refine zcl (R8 _) ?_
  refine zcd (λk1=>?_) (λk1=>?_)
  ·refine zcd (λk2=>?_) (λk2=>?_)
   ·exact ws6
   exact ws6
  exact ws6
 refine zcd (λk3=>?_) (λk3=>?_)
 ·refine zcd (λk4=>?_) (λk4=>?_)
  ·refine zcd (λk5=>?_) (λk5=>?_)
   ·exact ws6
   exact ws6
  exact ws6
 refine zcd (λk6=>?_) (λk6=>?_)
 ·refine zwt ?_
  refine zcd (λk7=>?_) (λk7=>?_)
  ·refine zcd (λk8=>?_) (λk8=>?_)
   ·exact ws6
   exact ws6
  exact ws6
 refine zcd (λk9=>?_) (λk9=>?_)
 ·refine zcd (λk10=>?_) (λk10=>?_)
  ·refine zcd (λk11=>?_) (λk11=>?_)
   ·exact ws6
   exact ws6
  exact ws6
 refine zcd (λk12=>?_) (λk12=>?_)
 ·refine zcd (λk13=>?_) (λk13=>?_)
  ·refine zcd (λk14=>?_) (λk14=>?_)
   ·refine a6D ?_
    exact ws6
   exact ws6
  exact ws6
 refine zcd (λk15=>?_) (λk15=>?_)
 ·refine zcl (R8 _) ?_
  refine zcd (λk16=>?_) (λk16=>?_)
  ·refine zcd (λk17=>?_) (λk17=>?_)
   ·refine a6D ?_
    exact ws6
   exact ws6
  exact ws6
 exact ws6
):p:=h
theorem a6G (h:p:=by
 have hR:agT m ss=((i:Int),true):=by rw [hRt,b18 hag J hst]
 refine a0v ?_
 refine zsa 7 ?_
 refine zsa 8 ?_
 refine zsa 9 ?_
 exact c3J
):p:=h
theorem b3z (h:p:=by
 refine F6 ?_
 exact a33
):p:=h
theorem b94 (h:p:=by
 refine b6 (rs:=[9]) a6 Z (AllB.cons ?_ AllB.nil)
 refine c7 [0,1,2,3,4] Z Z (v6 (Gh.forget (id:=6) (k:=3) Z Z)<|v6 (Gh.keep [0,1,2,3,4,5,6,10] Z)<|J2 (tx:=27) 12 rfl rfl rfl rfl rfl<|w5 G G5 rfl rfl rfl rfl rfl rfl rfl rfl rfl rfl C0 rfl rfl (a8 ⟨Z,?_⟩))
 refine zsa 10 ?_
 refine b6 (rs:=[11]) a6 Z (AllB.cons ?_ AllB.nil)
 refine c8 [0,1,2,3,4] Z Z ?_
 exact b3z
):p:=h
theorem b95 (h:p:=by
 refine zsa 6 ?_
 refine b6 (rs:=[7]) a6 Z (AllB.cons ?_ AllB.nil)
 refine c8 [1,2,3,4,7] Z Z ?_
 exact b3z
):p:=h
theorem b96 (h:p:=by
 refine b6 (rs:=[5]) a6 Z (AllB.cons ?_ AllB.nil)
 refine c7 [1,2,3,4,7] Z Z (v6 (Gh.forget (id:=6) (k:=3) Z Z)<|v6 (Gh.keep [1,2,3,4,5,6,7,11] Z)<|J2 (tx:=28) 13 rfl rfl rfl rfl rfl<|w5 G G5 rfl rfl rfl rfl rfl rfl rfl rfl rfl rfl C0 rfl rfl (a8 ⟨Z,?_⟩))
 exact b95
):p:=h
theorem b97 (h:p:=by
 refine zcd (λk0=>?_) (λk0=>?_)
 ·refine zcd (λk1=>?_) (λk1=>?_)
  ·exact ws6
  exact ws6
 exact ws6
):p:=h
theorem b98 (h:p:=by
 refine b6 (rs:=[9]) a6 Z (AllB.cons ?_ AllB.nil)
 refine c7 [0,1,2,3,4,7] Z Z (v6 (Gh.forget (id:=6) (k:=4) Z Z)<|J2 (tx:=30) 11 rfl rfl rfl rfl rfl<|w5 G G5 rfl rfl rfl rfl rfl rfl rfl rfl rfl rfl g0 rfl rfl (a8 ⟨Z,?_⟩))
 refine zsa 10 ?_
 refine b6 (rs:=[11]) a6 Z (AllB.cons ?_ AllB.nil)
 refine c8 [0,1,2,3,4,7] Z Z ?_
 exact b3z
):p:=h
theorem b99 (h:p:=by
 refine b6 (rs:=[5]) a6 Z (AllB.cons ?_ AllB.nil)
 refine c7 [1,2,3,4,7] Z Z (v6 (Gh.forget (id:=6) (k:=4) Z Z)<|J2 (tx:=31) 11 rfl rfl rfl rfl rfl<|w5 G G5 rfl rfl rfl rfl rfl rfl rfl rfl rfl rfl g0 rfl rfl (a8 ⟨Z,?_⟩))
 exact b95
):p:=h
theorem c0a (h:p:=by
 refine zgo ?_
 refine f6 [2,4,40,41] [0] (λ(i:Nat)=>[(8,.v (.int .i64 (J6 rs a c (a9v rs a c) i).2)),(9,.v (.int .i64 (J6 rs a c (a9v rs a c) i).1)),(42,.v (.int .i64 (i:Int)))]) (λ(i:Nat)=>[]) (λ(i:Nat)=>i<=rs.length) (λ(i:Nat)=>rs.length - i) 0 Z Z ?_ ?_ ?_ ?_
 ·exact H0
 ·exact ⟨⟨_,Z,by first | rfl | (simp only [J6];rw [b1L J];done) | (simp only [J6];rw [b1K J];done)⟩,Z,⟨⟨_,Z,by first | rfl | (simp only [J6];rw [b1L J];done) | (simp only [J6];rw [b1K J];done)⟩,Z,⟨⟨_,Z,by first | rfl | (simp only [J6];rw [b1L J];done) | (simp only [J6];rw [b1K J];done)⟩,Z,trivial⟩⟩⟩
 ·exact trivial
 intro i hinv
 refine vm2 ?_
 refine zcd (λk0=>?_) (λk0=>?_)
 ·refine zgo ?_
  refine vm7 ?_
  refine zcd (λk1=>?_) (λk1=>?_)
  ·refine zcd (λk2=>?_) (λk2=>?_)
   ·refine zcd (λk3=>?_) (λk3=>?_)
    ·refine zgd ?_
     exact b7V
    exact b7V
   refine zwf ?_
   exact b7V
  refine zwf ?_
  exact b7V
 refine zf1 ?_
 all_goals exact b8U
):p:=h
theorem c0b (h:p:=by
 refine b6 (rs:=[12]) a6 Z (AllB.cons ?_ AllB.nil)
 refine c7 [0,1,2,3,4,5,6,8] Z Z (v6 (Gh.detach (id:=7) Z)<|J2 (tx:=59) 12 rfl rfl rfl rfl rfl<|i6 G G5 rfl rfl rfl rfl rfl rfl rfl rfl rfl C0 rfl rfl (a8 ⟨Z,?_⟩))
 exact c3H
):p:=h
theorem c0c (h:p:=by
 refine b6 (rs:=[12]) a6 Z (AllB.cons ?_ AllB.nil)
 refine c7 [0,1,2,3,4,5,6,8] Z Z (v6 (Gh.detach (id:=7) Z)<|J2 (tx:=97) 12 rfl rfl rfl rfl rfl<|i6 G G5 rfl rfl rfl rfl rfl rfl rfl rfl rfl C0 rfl rfl (a8 ⟨Z,?_⟩))
 exact c3H
):p:=h
theorem c0d (h:p:=by
 refine b6 (rs:=[8]) a6 Z (AllB.cons ?_ AllB.nil)
 refine c8 [1,2,5,6] Z Z (c4 8 Z Z Z (ArgsOK.of (by rw [c2K];rfl)) (a0Z (x.wa.drop 1) _ (by rw [List.length_drop];omega)) Z Z (a8 ⟨Z,?_⟩))
 refine zsa 9 ?_
 refine b6 (rs:=[10]) a6 Z (AllB.cons ?_ AllB.nil)
 refine c8 [1,2,5,6] Z Z ?_
 exact b3z
):p:=h
theorem c0e (h:p:=by
 refine zcd (λk0=>?_) (λk0=>?_)
 ·exact ws6
 exact ws6
):p:=h
theorem c0f (h:p:=by
 refine c11 ?_
 refine zgo ?_
 exact b4k
):p:=h
theorem b6L (h:p:=by
 refine zgo ?_
 apply v8 [4] [0] 2 13 [] mixed a6 Z Z (λ_ h=>znk h)
 ·exact ws2
 refine zfo ?_
 all_goals exact b8V
):p:=h
theorem c0g (h:p:=by
 refine zgo ?_
 refine ⟨(z.1+1,x9.2,z.2.2),?_,?_,⟨⟨_,Z,by (first | rfl | exact congrArg (λv=>AV.v (.int .i64 v)) A5)⟩,Z,trivial⟩,⟨⟨_,Z,by rfl⟩,Z,Z,⟨⟨_,Z,by rfl⟩,Z,Z,⟨⟨_,Z,by rfl⟩,Z,Z,⟨⟨_,Z,by rfl⟩,Z,Z,trivial⟩⟩⟩⟩,Z,Z,Z⟩
 ·exact c2c
 exact Z5
):p:=h
theorem c0h (h:p:=by
 refine a6C ?_
 refine vm6 ?_
 exact c2j
):p:=h
theorem c0i (h:p:=by
 refine b6 (rs:=[8]) a6 Z (AllB.cons ?_ AllB.nil)
 refine a6C ?_
 refine b6 (rs:=[9]) a6 Z (AllB.cons ?_ AllB.nil)
 exact c0h
):p:=h
theorem c0j (h:p:=by
 refine b6 (rs:=[5]) a6 Z (AllB.cons ?_ AllB.nil)
 refine c8 [1,2,3,4,5,6,7,8,9,10,11] Z Z (b7 Z Z (z7 G Z Z Z Z Z (s2.2 ⟨_,(C9 g0 Z),Z⟩) (.own a30 .nil)) (a8 ⟨Z,?_⟩))
 exact c3G
):p:=h
theorem c0k (h:p:=by
 refine zcl (B0 _) ?_
 refine vm4 ?_
 refine p4 G 5 Z Z Z Z Z Z Z Z ?_
 refine vm9 ?_
 exact c31
):p:=h
theorem a6H (h:p:=by
 refine zgn ?_
 refine a09 Z ?_
 exact ws8
):p:=h
theorem b3A (h:p:=by
 refine zcl (O5 _ _ _) ?_
 exact c2l
):p:=h
theorem c0l (h:p:=by
 refine Ctr.of (n:=11) G Tryz.func158 Z a6 Z Z Z (λw0=>?_)
 refine j8 0 Z (λ_=>Z) (λu0=>?_)
 refine w8 ?_
 exact b3A
):p:=h
theorem b3B (h:p:=by
 have hR:agT m ss=((i:Int),true):=by rw [hRt,b18 hag J hst]
 exact c3J
):p:=h
theorem b3C (h:p:=by
 have hR:agT m ss=((i:Int),true):=by rw [hRt,b18 hag J hst]
 exact a70
):p:=h
theorem a72 (h:p:=by
 refine zgn ?_
 refine C2 Z ?_
 exact c3N
):p:=h
theorem c0m (h:p:=by
 refine zcd (λk0=>?_) (λk0=>?_)
 ·refine zcl (N5 _) ?_
  refine zcd (λk1=>?_) (λk1=>?_)
  ·refine zcd (λk2=>?_) (λk2=>?_)
   ·refine zcl (O5 _ _ _) ?_
    exact ws6
   exact ws6
  exact ws6
 exact ws6
):p:=h
theorem b3D (h:p:=by
 refine zgn ?_
 refine e9 ?_
 refine zst ?_
 refine vm4 ?_
 exact ws5
):p:=h
theorem b6M (h:p:=by
 refine a1M ?_
 exact b4h
):p:=h
theorem c0n (h:p:=by
 refine m3 ?_
 first | refine b7 Z Z (b3E Z Z Z J J) ?_ | refine b7 Z Z (b76 Z Z Z J) ?_
 exact b9r
):p:=h
theorem c0o (h:p:=by
 refine zcd (λk0=>?_) (λk0=>?_)
 ·refine zcl (B5 sl _ hl) ?_
  refine zcd (λk1=>?_) (λk1=>?_)
  ·exact b4j
  exact c3V
 refine zwf ?_
 exact c3V
):p:=h
theorem b1p (h:p:=by
 refine zgn ?_
 refine a09 Z ?_
 exact b7W
):p:=h
theorem c0p (h:p:=by
 refine m3 ?_
 refine c4 2 Z Z Z (ArgsOK.of Z) (X9 sl _ ⟨_,_,_⟩ J J) Z Z ?_
 exact c3Z
):p:=h
theorem c0q (h:p:=by
 refine b7R ?_
 exact c3Z
):p:=h
theorem c0r (h:p:=by
 refine m3 ?_
 refine c4 2 Z Z Z (ArgsOK.of Z) (X9 sl _ ⟨_,_,_⟩ J J) Z Z ?_
 exact c2d
):p:=h
theorem c0s (h:p:=by
 refine b7R ?_
 exact c2e
):p:=h
theorem c0t (h:p:=by
 refine m3 ?_
 refine c4 8 Z Z Z (ArgsOK.of Z) (a0w _ hQ) Z Z ?_
 refine zgo ?_
 exact c2k
):p:=h
theorem c0u (h:p:=by
 refine Ctr.of (n:=12) G Tryz.func189 Z a6 Z Z Z (λw0=>?_)
 exact c3K
):p:=h
theorem c0v (h:p:=by
 refine Ctr.of (n:=19) G Tryz.func223 Z a6 Z Z Z (λw0=>?_)
 exact ws9
):p:=h
theorem c0w (h:p:=by
 refine Ctr.of (n:=19) G Tryz.func213 Z a6 Z Z Z (λw0=>?_)
 exact ws9
):p:=h
theorem c0x (h:p:=by
 refine b4a ?_
 exact c2m
):p:=h
theorem c0y (h:p:=by
 refine Ctr.of (n:=19) G Tryz.func127 Z a6 Z Z Z (λw0=>?_)
 exact ws9
):p:=h
theorem b6N (h:p:=by
 refine zgn ?_
 refine e9 ?_
 refine vm4 ?_
 exact ws5
):p:=h
theorem c0z (h:p:=by
 refine w8 ?_
 exact a6F
):p:=h
theorem c0A (h:p:=by
 refine zcd (λk0=>?_) (λk0=>?_)
 ·refine zcl (a1k _) ?_
  exact ws6
 exact ws6
):p:=h
theorem c0B (h:p:=by
 refine m3 ?_
 refine b1j ?_
 exact c3L
):p:=h
theorem c0C (h:p:=by
 refine b6 (rs:=[7]) a6 Z (AllB.cons ?_ AllB.nil)
 refine c8 [0,1,2,3] Z Z (s9 G 10 Z Z Z Z Z Z Z Z (.v Z (.own Z (.own Z (.own Z .nil)))) Z Z Z Z (a8 ⟨Z,?_⟩))
 exact b91
):p:=h
theorem c0D (h:p:=by
 refine c3D ?_
 clear hok
 exact c0C
):p:=h
theorem c0E (h:p:=by
 refine b6 (rs:=[9]) a6 Z (AllB.cons ?_ AllB.nil)
 refine c8 [0,1,2,3,4,5,6,8] Z Z (b7 Z Z (z7 G Z Z Z Z Z (s2.2 ⟨_,(C9 g0 Z),Z⟩) (.own a30 .nil)) (a8 ⟨Z,?_⟩))
 exact c0b
):p:=h
theorem c0F (h:p:=by
 refine b6 (rs:=[9]) a6 Z (AllB.cons ?_ AllB.nil)
 refine c8 [0,1,2,3,4,5,6,8] Z Z (b7 Z Z (z7 G Z Z Z Z Z (s2.2 ⟨_,(C9 g0 Z),Z⟩) (.own a30 .nil)) (a8 ⟨Z,?_⟩))
 exact c0c
):p:=h
theorem c0G (h:p:=by
 refine b6 (rs:=[8]) a6 Z (AllB.cons ?_ AllB.nil)
 refine c8 [0,1,2,3,4] Z Z (s9 G 11 Z Z Z Z Z Z Z Z (.v Z (.own Z (.own Z (.own Z .nil)))) Z Z Z Z (a8 ⟨Z,?_⟩))
 exact b94
):p:=h
theorem c0H (h:p:=by
 refine b6 (rs:=[4]) a6 Z (AllB.cons ?_ AllB.nil)
 refine c8 [1,2,3,4,7] Z Z (s9 G 12 Z Z Z Z Z Z Z Z (.v Z (.own Z (.own Z (.own Z .nil)))) Z Z Z Z (a8 ⟨Z,?_⟩))
 exact b96
):p:=h
theorem c0I (h:p:=by
 refine b6 (rs:=[8]) a6 Z (AllB.cons ?_ AllB.nil)
 refine c8 [0,1,2,3,4,7] Z Z (s9 G 10 Z Z Z Z Z Z Z Z (.own Z .nil) Z Z Z Z (a8 ⟨Z,?_⟩))
 exact b98
):p:=h
theorem c0J (h:p:=by
 refine b6 (rs:=[4]) a6 Z (AllB.cons ?_ AllB.nil)
 refine c8 [1,2,3,4,7] Z Z (s9 G 10 Z Z Z Z Z Z Z Z (.own Z .nil) Z Z Z Z (a8 ⟨Z,?_⟩))
 exact b99
):p:=h
theorem c0K (h:p:=by
 refine b6 (rs:=[7]) a6 Z (AllB.cons ?_ AllB.nil)
 refine c8 [1,2,5,6] Z Z (b7 Z Z (l9 Z (ArgsOK.of Z) (B0 _) Z) (a8 ⟨Z,?_⟩))
 exact c0d
):p:=h
theorem c0L (h:p:=by
 refine zcd (λk0=>?_) (λk0=>?_)
 ·refine zcl (T6 _ _ b3m) ?_
  exact c0e
 exact ws6
):p:=h
theorem c0M (h:p:=by
 refine zcd (λk0=>?_) (λk0=>?_)
 ·refine zcl (Q5 m s.c hn) ?_
  exact c0e
 exact ws6
):p:=h
theorem b6O (h:p:=by
 refine zgn ?_
 refine a09 Z ?_
 exact b6M
):p:=h
end Go.Rf
