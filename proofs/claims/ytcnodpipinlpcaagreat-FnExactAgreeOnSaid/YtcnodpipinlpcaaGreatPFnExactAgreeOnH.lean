/- Texts merged into one: M28, M24, M26, M29. -/
import Derived.Test.YtcnodpipinlpcaaGreatPFnExactAgreeOnG
set_option maxRecDepth 20000
set_option linter.unusedVariables false
set_option linter.unusedSimpArgs false
namespace Go.Proofs.YtcnodpipinlpcaaGreat
open Go Go.Rf
set_option maxHeartbeats 4000000 in
set_option maxHeartbeats 4000000 in
theorem c_impl_AgreeOn (m : Mach) (ss : List MStep) (hs : SmallM m) (hl : ss.length ≤ 1048576) : Ctr Tryz.prog 41 [.agg [.lst 2 (m.rs.map encRo), .lst 1 (m.en.map encO), .lst 1 (m.ra.map encO), .nst none 4 (m.cp.map (encIf 154 183))], .lst 4 (ss.map encMc)] (.many [.v (.int .i64 (agT m ss).1), .v (.bool (agT m ss).2)]) := by
 refine Ctr.of (n := 78) G Tryz.func41 rfl vm175 rfl rfl rfl (fun w0 => ?_)
 refine W_pinS 0 rfl (fun _ => rfl) (fun u0 => ?_)
 refine vm1 ?_
 refine zcl (c_impl_IsMachine m hs) ?_
 refine zcd (fun h1 => ?_) (fun h1 => ?_)
 ·have hR := agT_f1 (ss := ss) h1
  refine zwt ?_
  refine zgo ?_
  refine W_ret (fin_many rfl rfl rfl rfl (rcs_cons (rc_v ?_) (rcs_cons (rc_v ?_) rcs_nil)))
  all_goals exact vm107
 have hM := maF h1
 refine zcd (fun h2 => ?_) (fun h2 => ?_)
 ·have hR := agT_f2 (m := m) (ss := ss) (stepsV_f (.inl (by omega)))
  refine zwt ?_
  refine zgo ?_
  refine W_ret (fin_many rfl rfl rfl rfl (rcs_cons (rc_v ?_) (rcs_cons (rc_v ?_) rcs_nil)))
  all_goals exact vm107
 refine zgo ?_
 refine vm78 ?_
 refine WX_q rfl rfl (q_func rfl rfl) ?_
 refine zcl (c_slices_ContainsFunc_impl_MachStep_impl_MachStep_m ss 105 m (fun x => !stepV m.cp.length x) hl (fun k hk => c_impl_AgreeOn_1 _ m hs.cp)) ?_
 refine zcd (fun h3 => ?_) (fun h3 => ?_)
 ·obtain ⟨j, hj, hj2⟩ := anyN_iff.mp h3
  have hR := agT_f2 (m := m) (ss := ss) (stepsV_f (.inr ⟨j, hj, by simpa using hj2⟩))
  refine zgo ?_
  refine W_ret (fin_many rfl rfl rfl rfl (rcs_cons (rc_v ?_) (rcs_cons (rc_v ?_) rcs_nil)))
  all_goals exact vm107
 have hv : ∀ i, i < ss.length → stepV m.cp.length (ss.getD i default) = true := fun i hi => by simpa using anyN_nf.mp h3 i hi
 have hsv := stepsV_iff.mpr ⟨show ss.length ≤ 30 by omega, hv⟩
 have hRt := agT_t h1 hsv
 refine vm52 ?_
 refine WX_call 6 rfl rfl rfl (ArgsOK.of rfl) (c_impl_abstractOf m hM hs) rfl rfl ?_
 refine vm7 ?_
 refine WX_alloc_s G 7 rfl rfl rfl rfl rfl ?_
 refine zgn ?_
 refine zgn ?_
 refine W_block (W_gh (Gh.bump 11 (by decide)) (W_loopK [1, 2, 6, 30, 31] [] (fun (x : Bool × Nat × Mach × Abs) => match x.1 with | false => [(32, .v (.int .i64 (x.2.1 : Int)))] | true => [(32, .v (.int .i64 (x.2.1 : Int)))]) (fun (x : Bool × Nat × Mach × Abs) => match x.1 with | false => [(0, some (.box [.pin (u0 0) 2 (m.rs.map encRo), .pin (u0 1) 1 (m.en.map encO), .pin (u0 2) 1 (m.ra.map encO), .nst (some (u0 3)) 4 (m.cp.map (encIf 154 183))])), (1, some (.row 4 1 (x.2.2.2.en.map encO))), (2, some (.row 4 1 (x.2.2.2.ra.map encO))), (3, some (.row 4 1 (x.2.2.2.po.map encO))), (4, some (.row 3 1 (x.2.2.2.ma.map Rf.encI))), (5, some (.nest 26 1 (x.2.2.2.st.map encSt) [])), (6, some (.box [.own 1, .own 2, .own 3, .own 4, .own 5]))] | true => [(0, some (.box [.own 7, .own 8, .own 9, .own 10])), (1, some (.row 4 1 (x.2.2.2.en.map encO))), (2, some (.row 4 1 (x.2.2.2.ra.map encO))), (3, some (.row 4 1 (x.2.2.2.po.map encO))), (4, some (.row 3 1 (x.2.2.2.ma.map Rf.encI))), (5, some (.nest 26 1 (x.2.2.2.st.map encSt) [])), (6, some (.box [.own 1, .own 2, .own 3, .own 4, .own 5])), (7, some (.row 118 2 (x.2.2.1.rs.map encRo))), (8, some (.row 4 1 (x.2.2.1.en.map encO))), (9, some (.row 4 1 (x.2.2.1.ra.map encO))), (10, some (.nest 113 4 (x.2.2.1.cp.map (encIfT 154 183)) []))]) (fun (x : Bool × Nat × Mach × Abs) => x.2.1 ≤ ss.length ∧ agN m ss x.2.1 = some x.2.2 ∧ AgF m x.2.2 ∧ (x.1 = false → x.2.2.1 = m)) (fun (x : Bool × Nat × Mach × Abs) => ss.length - x.2.1) (false, 0, m, abOf m) rfl rfl ?_ ?_ ?_ ?_))
 ·exact ⟨Nat.zero_le _, rfl, agF_0 hM.g, fun _ => rfl⟩
 ·exact ⟨⟨_, rfl, by rfl⟩, rfl, trivial⟩
 ·exact ⟨⟨_, rfl, by rfl⟩, rfl, rfl, ⟨⟨_, rfl, by rfl⟩, rfl, rfl, ⟨⟨_, rfl, by rfl⟩, rfl, rfl, ⟨⟨_, rfl, by rfl⟩, rfl, rfl, ⟨⟨_, rfl, by rfl⟩, rfl, rfl, ⟨⟨_, rfl, by rfl⟩, rfl, rfl, ⟨⟨_, rfl, by rfl⟩, rfl, rfl, trivial⟩⟩⟩⟩⟩⟩⟩
 intro x hinv
 obtain ⟨ph, i, m1, a1⟩ := x; obtain ⟨hi, hag, hF, hph⟩ := hinv; dsimp only at hi hag hF hph; cases ph
 ·have e : m = m1 := (hph rfl).symm
  subst e
  have hvm := hv i
  have hva : i < ss.length → stepV a1.ma.length (ss.getD i default) = true := fun h => vm203
  have hsz := hF.g.small
  dsimp only
  simp only [List.cons_append, List.nil_append]
  refine zcd (fun h4 => ?_) (fun h4 => ?_)
  ·refine vm52 ?_
   refine vm93 ?_
   refine vm52 ?_
   refine WX_call 16 rfl rfl rfl (ArgsOK.of rfl) (c_impl_stepMachine m _ _ _ _ hF.g (hvm (by omega))) rfl rfl ?_
   refine vm52 ?_
   refine WX_alloc_s G 17 rfl rfl rfl rfl rfl ?_
   refine vm100 ?_
   by_cases hno : noS m.rs a1 (ss.getD i default)
   ·have hmk := makeA_no hno
    refine zgo ?_
    refine WL_cons rfl (WX_calle 17 rfl rfl rfl (ArgsOK.of rfl) (c_impl_stepAbstract_no m.rs a1 _ _ _ _ hF.f (hva (by omega)) hno) (fun _ => rfl) rfl (fun y1 => ?_))
    refine vm52 ?_
    refine WX_alloc_s G 18 rfl rfl rfl rfl rfl ?_
    refine zgn ?_
    refine W_sq (W_sq (W_drawsH 18 [0, 1, 2, 3, 4, 5, 6, 11, 12, 13, 14, 15, 16, 17] mixed vm175 rfl rfl (fun r0 => ?_) (fun _ h => h)))
    refine vm22 ?_
    refine WA_part (gd := 56) rfl (fun h5 => ?_) (fun h5 => ?_)
    ·try rw [h5]
     try simp only [rfb] at h5
     have hst : agS (m, a1) (ss.getD i default) = none := agS_ne (by show (stM m (ss.getD i default)).2.2 ≠ (makeA m.rs a1 (ss.getD i default)).2.2; rw [hmk]; first | exact h5 | (intro e; rw [e] at h5; cases h5) | simpa using h5)
     have hR : agT m ss = ((i : Int), true) := by rw [hRt, agI_at hag (by omega) hst]
     refine vm89 ?_
     refine W_ret (fin_many rfl rfl rfl rfl (rcs_cons (rc_v ?_) (rcs_cons (rc_v ?_) rcs_nil)))
     all_goals exact vm107
    try rw [h5]
    try simp only [rfb] at h5
    have hok : (stM m (ss.getD i default)).2.2 = false := (by first | exact h5 | simpa using h5)
    have hst : agS (m, a1) (ss.getD i default) = some (m, a1) := agS_no (by show (stM m (ss.getD i default)).2.2 = (makeA m.rs a1 (ss.getD i default)).2.2; rw [hmk]; exact hok) hok
    refine vm61 ?_
    refine WA_part (gd := 58) rfl (fun h6 => ?_) (fun h6 => ?_)
    ·try rw [h6]
     try simp only [rfb] at h6
     exfalso; rw [hok] at h6; cases h6
    try rw [h6]
    try simp only [rfb] at h6
    refine vm92 ?_
    refine ⟨(false, i + 1, m, a1), ?_, ?_, ⟨⟨_, rfl, by rfl⟩, rfl, trivial⟩, ⟨⟨_, rfl, by rfl⟩, rfl, rfl, ⟨⟨_, rfl, by rfl⟩, rfl, rfl, ⟨⟨_, rfl, by rfl⟩, rfl, rfl, ⟨⟨_, rfl, by rfl⟩, rfl, rfl, ⟨⟨_, rfl, by rfl⟩, rfl, rfl, ⟨⟨_, rfl, by rfl⟩, rfl, rfl, ⟨⟨_, rfl, by rfl⟩, rfl, rfl, trivial⟩⟩⟩⟩⟩⟩⟩, rfl, rfl, rfl⟩
    ·exact ⟨by dsimp only; omega, by dsimp only; rw [agN_succ hag]; exact hst, hF, fun _ => rfl⟩
    dsimp only; omega
   refine vm52 ?_
   refine WX_call 22 rfl rfl rfl (ArgsOK.of rfl) (c_impl_stepAbstract m.rs a1 _ _ _ _ hF.f (hva (by omega)) hno) rfl rfl ?_
   refine vm52 ?_
   refine WX_alloc_s G 23 rfl rfl rfl rfl rfl ?_
   refine zgn ?_
   refine W_sq (W_sq (W_drawsH 18 [0, 1, 2, 3, 4, 5, 6, 11, 12, 13, 14, 15, 16, 17, 18, 19, 20, 21, 22] mixed vm175 rfl rfl (fun r0 => ?_) (fun _ h => h)))
   refine vm22 ?_
   refine WA_part (gd := 56) rfl (fun h7 => ?_) (fun h7 => ?_)
   ·try rw [h7]
    try simp only [rfb] at h7
    have hst : agS (m, a1) (ss.getD i default) = none := agS_ne (by show (stM m (ss.getD i default)).2.2 ≠ (makeA m.rs a1 (ss.getD i default)).2.2; first | exact h7 | simpa using h7)
    have hR : agT m ss = ((i : Int), true) := by rw [hRt, agI_at hag (by omega) hst]
    refine vm89 ?_
    refine W_ret (fin_many rfl rfl rfl rfl (rcs_cons (rc_v ?_) (rcs_cons (rc_v ?_) rcs_nil)))
    all_goals exact vm107
   try rw [h7]
   try simp only [rfb] at h7
   have heq : (stM m (ss.getD i default)).2.2 = (makeA m.rs a1 (ss.getD i default)).2.2 := (by first | exact h7 | simpa using h7)
   refine vm61 ?_
   refine WA_part (gd := 58) rfl (fun h8 => ?_) (fun h8 => ?_)
   ·try rw [h8]
    try simp only [rfb] at h8
    have hok : (stM m (ss.getD i default)).2.2 = true := h8
    have hFn := agF_s hF (hv i (by omega)) hok
    refine vm36 ?_
    refine WA_part (gd := 62) rfl (fun h9 => ?_) (fun h9 => ?_)
    ·try rw [h9]
     try simp only [rfb] at h9
     have hst : agS (m, a1) (ss.getD i default) = none := agS_f heq hok (fun e => h9 e.1)
     have hR : agT m ss = ((i : Int), true) := by rw [hRt, agI_at hag (by omega) hst]
     refine vm9 ?_
     refine zwt ?_
     refine zgo ?_
     refine W_ret (fin_many rfl rfl rfl rfl (rcs_cons (rc_v ?_) (rcs_cons (rc_v ?_) rcs_nil)))
     all_goals exact vm107
    try rw [h9]
    try simp only [rfb] at h9
    have hir : (stM m (ss.getD i default)).2.1 = (makeA m.rs a1 (ss.getD i default)).2.1 := h9
    refine zsa 10 ?_
    refine zsa 12 ?_
    refine WA_branch (rs := [11]) vm175 rfl (AllB.cons ?_ AllB.nil)
    refine WB_grun [0, 1, 2, 3, 4, 5, 6, 11, 12, 13, 14, 15, 16, 17, 18, 19, 20, 21, 22] rfl rfl rfl rfl (WX_call 28 rfl rfl rfl (ArgsOK.of rfl) (Ctr.argsTo (c_impl_abstractOf_g _ hFn.g hFn.g.small) (fun w vs h => argM flM vs h)) rfl rfl (WL_nil ⟨rfl, ?_⟩))
    refine WA_branch (rs := [13]) vm175 rfl (AllB.cons ?_ AllB.nil)
    refine WB_grun [0, 1, 2, 3, 4, 5, 6, 11, 12, 13, 14, 15, 16, 17, 18, 19, 20, 21, 22] rfl rfl rfl rfl (WX_q rfl rfl (q_call rfl (ArgsOK.of rfl) (c_impl_sameAbstracts _ _ _ (abOf_F hFn.g) hFn.f) rfl) (WL_nil ⟨rfl, ?_⟩))
    refine zsa 14 ?_
    refine zsa 15 ?_
    refine zsa 16 ?_
    refine zsa 17 ?_
    refine vm15 ?_
    refine zcd (fun h10 => ?_) (fun h10 => ?_)
    ·have hst : agS (m, a1) (ss.getD i default) = none := agS_f heq hok (fun e => by have e2 := eqAb_iff.mpr e.2; rw [h10] at e2; cases e2)
     have hR : agT m ss = ((i : Int), true) := by rw [hRt, agI_at hag (by omega) hst]
     refine zgo ?_
     refine W_ret (fin_many rfl rfl rfl rfl (rcs_cons (rc_v ?_) (rcs_cons (rc_v ?_) rcs_nil)))
     all_goals exact vm107
    have hst : agS (m, a1) (ss.getD i default) = some ((stM m (ss.getD i default)).1, (makeA m.rs a1 (ss.getD i default)).1) := agS_t heq hok hir (eqAb_iff.mp h10)
    refine zwt ?_
    refine W_drawsH 4 [1, 2, 3, 4, 5, 11, 12, 13, 14, 15, 16, 17, 18, 19, 20, 21, 22, 23, 24, 25, 26, 27] mixed vm175 rfl rfl (fun r0 => ?_) (fun _ h => h)
    refine zsa 0 ?_
    refine zsa 1 ?_
    refine WA_branch (rs := [2]) vm175 rfl (AllB.cons ?_ AllB.nil)
    refine WB_rn [1, 2, 3, 4, 5, 11, 12, 13, 14, 15, 16, 17, 18, 19, 20, 21, 22, 23, 24, 25, 26, 27] rfl rfl ?_
    refine vm8 ?_
    refine WA_branch (rs := [3]) vm175 rfl (AllB.cons ?_ AllB.nil)
    refine WB_rn [1, 2, 3, 4, 5, 11, 12, 13, 14, 15, 16, 17, 18, 19, 20, 21, 22, 23, 24, 25, 26, 27] rfl rfl ?_
    refine vm8 ?_
    refine vm15 ?_
    refine W_region ?_
    refine vm33 ?_
    refine WL_gh (Gh.sub 17 1 np rfl rfl rfl) (WL_gh (Gh.sub 18 2 np rfl rfl rfl) (WL_gh (Gh.sub 19 3 np rfl rfl rfl) (WL_gh (Gh.sub 20 4 np rfl rfl rfl) (WL_gh (Gh.sub 21 5 np rfl rfl rfl) (WL_gh (Gh.sub 12 7 np rfl rfl rfl) (WL_gh (Gh.sub 13 8 np rfl rfl rfl) (WL_gh (Gh.sub 14 9 np rfl rfl rfl) (WL_gh (Gh.sub 15 10 np rfl rfl rfl) (WL_nil ⟨(true, i + 1, (stM m (ss.getD i default)).1, (makeA m.rs a1 (ss.getD i default)).1), ?_, ?_, ⟨⟨_, rfl, by rfl⟩, rfl, trivial⟩, ⟨⟨_, rfl, by rfl⟩, rfl, rfl, ⟨⟨_, rfl, by rfl⟩, rfl, rfl, ⟨⟨_, rfl, by rfl⟩, rfl, rfl, ⟨⟨_, rfl, by rfl⟩, rfl, rfl, ⟨⟨_, rfl, by rfl⟩, rfl, rfl, ⟨⟨_, rfl, by rfl⟩, rfl, rfl, ⟨⟨_, rfl, by rfl⟩, rfl, rfl, ⟨⟨_, rfl, by rfl⟩, rfl, rfl, ⟨⟨_, rfl, by rfl⟩, rfl, rfl, ⟨⟨_, rfl, by rfl⟩, rfl, rfl, ⟨⟨_, rfl, by rfl⟩, rfl, rfl, trivial⟩⟩⟩⟩⟩⟩⟩⟩⟩⟩⟩, rfl, rfl, rfl⟩)))))))))
    ·exact ⟨by dsimp only; omega, by dsimp only; rw [agN_succ hag]; exact hst, hFn, fun e => by cases e⟩
    dsimp only; omega
   try rw [h8]
   try simp only [rfb] at h8
   have hok : (stM m (ss.getD i default)).2.2 = false := h8
   have hst : agS (m, a1) (ss.getD i default) = some (m, a1) := agS_no heq hok
   refine vm92 ?_
   refine ⟨(false, i + 1, m, a1), ?_, ?_, ⟨⟨_, rfl, by rfl⟩, rfl, trivial⟩, ⟨⟨_, rfl, by rfl⟩, rfl, rfl, ⟨⟨_, rfl, by rfl⟩, rfl, rfl, ⟨⟨_, rfl, by rfl⟩, rfl, rfl, ⟨⟨_, rfl, by rfl⟩, rfl, rfl, ⟨⟨_, rfl, by rfl⟩, rfl, rfl, ⟨⟨_, rfl, by rfl⟩, rfl, rfl, ⟨⟨_, rfl, by rfl⟩, rfl, rfl, trivial⟩⟩⟩⟩⟩⟩⟩, rfl, rfl, rfl⟩
   ·exact ⟨by dsimp only; omega, by dsimp only; rw [agN_succ hag]; exact hst, hF, fun _ => rfl⟩
   dsimp only; omega
  have hR : agT m ss = ((ss.length : Int), true) := by rw [hRt, agI_end hag (by omega)]
  refine zgo ?_
  refine W_ret (fin_many rfl rfl rfl rfl (rcs_cons (rc_v ?_) (rcs_cons (rc_v ?_) rcs_nil)))
  all_goals exact vm107
 have hvm : i < ss.length → stepV m1.cp.length (ss.getD i default) = true := fun h => (by rw [show m1.cp.length = m.cp.length from hF.n]; exact hv i h)
 have hva : i < ss.length → stepV a1.ma.length (ss.getD i default) = true := fun h => vm203
 have hsz := hF.g.small
 dsimp only
 simp only [List.cons_append, List.nil_append]
 refine zcd (fun h11 => ?_) (fun h11 => ?_)
 ·refine vm52 ?_
  refine vm93 ?_
  refine vm52 ?_
  refine WX_call 16 rfl rfl rfl (ArgsOK.of rfl) (Ctr.argsTo (c_impl_stepMachine m1 (ss.getD i default).k (ss.getD i default).q (ss.getD i default).c (ss.getD i default).v hF.g (hvm (by omega))) (fun w vs h => argM flM vs h)) rfl rfl ?_
  refine vm52 ?_
  refine WX_alloc_s G 17 rfl rfl rfl rfl rfl ?_
  refine vm100 ?_
  by_cases hno : noS m1.rs a1 (ss.getD i default)
  ·have hmk := makeA_no hno
   refine zgo ?_
   refine WL_cons rfl (WX_calle 17 rfl rfl rfl (ArgsOK.of rfl) (c_impl_stepAbstract_no m1.rs a1 _ _ _ _ hF.f (hva (by omega)) hno) (fun _ => rfl) rfl (fun y2 => ?_))
   refine vm52 ?_
   refine WX_alloc_s G 18 rfl rfl rfl rfl rfl ?_
   refine zgn ?_
   refine W_sq (W_sq (W_drawsH 18 [0, 1, 2, 3, 4, 5, 6, 7, 8, 9, 10, 11, 12, 13, 14, 15, 16, 17] mixed vm175 rfl rfl (fun r0 => ?_) (fun _ h => h)))
   refine vm22 ?_
   refine WA_part (gd := 56) rfl (fun h12 => ?_) (fun h12 => ?_)
   ·try rw [h12]
    try simp only [rfb] at h12
    have hst : agS (m1, a1) (ss.getD i default) = none := agS_ne (by show (stM m1 (ss.getD i default)).2.2 ≠ (makeA m1.rs a1 (ss.getD i default)).2.2; rw [hmk]; first | exact h12 | (intro e; rw [e] at h12; cases h12) | simpa using h12)
    have hR : agT m ss = ((i : Int), true) := by rw [hRt, agI_at hag (by omega) hst]
    refine vm89 ?_
    refine W_ret (fin_many rfl rfl rfl rfl (rcs_cons (rc_v ?_) (rcs_cons (rc_v ?_) rcs_nil)))
    all_goals exact vm107
   try rw [h12]
   try simp only [rfb] at h12
   have hok : (stM m1 (ss.getD i default)).2.2 = false := (by first | exact h12 | simpa using h12)
   have hst : agS (m1, a1) (ss.getD i default) = some (m1, a1) := agS_no (by show (stM m1 (ss.getD i default)).2.2 = (makeA m1.rs a1 (ss.getD i default)).2.2; rw [hmk]; exact hok) hok
   refine vm61 ?_
   refine WA_part (gd := 58) rfl (fun h13 => ?_) (fun h13 => ?_)
   ·try rw [h13]
    try simp only [rfb] at h13
    exfalso; rw [hok] at h13; cases h13
   try rw [h13]
   try simp only [rfb] at h13
   refine vm92 ?_
   refine ⟨(true, i + 1, m1, a1), ?_, ?_, ⟨⟨_, rfl, by rfl⟩, rfl, trivial⟩, ⟨⟨_, rfl, by rfl⟩, rfl, rfl, ⟨⟨_, rfl, by rfl⟩, rfl, rfl, ⟨⟨_, rfl, by rfl⟩, rfl, rfl, ⟨⟨_, rfl, by rfl⟩, rfl, rfl, ⟨⟨_, rfl, by rfl⟩, rfl, rfl, ⟨⟨_, rfl, by rfl⟩, rfl, rfl, ⟨⟨_, rfl, by rfl⟩, rfl, rfl, ⟨⟨_, rfl, by rfl⟩, rfl, rfl, ⟨⟨_, rfl, by rfl⟩, rfl, rfl, ⟨⟨_, rfl, by rfl⟩, rfl, rfl, ⟨⟨_, rfl, by rfl⟩, rfl, rfl, trivial⟩⟩⟩⟩⟩⟩⟩⟩⟩⟩⟩, rfl, rfl, rfl⟩
   ·exact ⟨by dsimp only; omega, by dsimp only; rw [agN_succ hag]; exact hst, hF, fun e => by cases e⟩
   dsimp only; omega
  refine vm52 ?_
  refine WX_call 22 rfl rfl rfl (ArgsOK.of rfl) (c_impl_stepAbstract m1.rs a1 _ _ _ _ hF.f (hva (by omega)) hno) rfl rfl ?_
  refine vm52 ?_
  refine WX_alloc_s G 23 rfl rfl rfl rfl rfl ?_
  refine zgn ?_
  refine W_sq (W_sq (W_drawsH 18 [0, 1, 2, 3, 4, 5, 6, 7, 8, 9, 10, 11, 12, 13, 14, 15, 16, 17, 18, 19, 20, 21, 22] mixed vm175 rfl rfl (fun r0 => ?_) (fun _ h => h)))
  refine vm22 ?_
  refine WA_part (gd := 56) rfl (fun h14 => ?_) (fun h14 => ?_)
  ·try rw [h14]
   try simp only [rfb] at h14
   have hst : agS (m1, a1) (ss.getD i default) = none := agS_ne (by show (stM m1 (ss.getD i default)).2.2 ≠ (makeA m1.rs a1 (ss.getD i default)).2.2; first | exact h14 | simpa using h14)
   have hR : agT m ss = ((i : Int), true) := by rw [hRt, agI_at hag (by omega) hst]
   refine vm89 ?_
   refine W_ret (fin_many rfl rfl rfl rfl (rcs_cons (rc_v ?_) (rcs_cons (rc_v ?_) rcs_nil)))
   all_goals exact vm107
  try rw [h14]
  try simp only [rfb] at h14
  have heq : (stM m1 (ss.getD i default)).2.2 = (makeA m1.rs a1 (ss.getD i default)).2.2 := (by first | exact h14 | simpa using h14)
  refine vm61 ?_
  refine WA_part (gd := 58) rfl (fun h15 => ?_) (fun h15 => ?_)
  ·try rw [h15]
   try simp only [rfb] at h15
   have hok : (stM m1 (ss.getD i default)).2.2 = true := h15
   have hFn := agF_s hF (hv i (by omega)) hok
   refine vm36 ?_
   refine WA_part (gd := 62) rfl (fun h16 => ?_) (fun h16 => ?_)
   ·try rw [h16]
    try simp only [rfb] at h16
    have hst : agS (m1, a1) (ss.getD i default) = none := agS_f heq hok (fun e => h16 e.1)
    have hR : agT m ss = ((i : Int), true) := by rw [hRt, agI_at hag (by omega) hst]
    refine vm9 ?_
    refine zwt ?_
    refine zgo ?_
    refine W_ret (fin_many rfl rfl rfl rfl (rcs_cons (rc_v ?_) (rcs_cons (rc_v ?_) rcs_nil)))
    all_goals exact vm107
   try rw [h16]
   try simp only [rfb] at h16
   have hir : (stM m1 (ss.getD i default)).2.1 = (makeA m1.rs a1 (ss.getD i default)).2.1 := h16
   refine zsa 10 ?_
   refine zsa 12 ?_
   refine WA_branch (rs := [11]) vm175 rfl (AllB.cons ?_ AllB.nil)
   refine WB_grun [0, 1, 2, 3, 4, 5, 6, 7, 8, 9, 10, 11, 12, 13, 14, 15, 16, 17, 18, 19, 20, 21, 22] rfl rfl rfl rfl (WX_call 28 rfl rfl rfl (ArgsOK.of rfl) (Ctr.argsTo (c_impl_abstractOf_g _ hFn.g hFn.g.small) (fun w vs h => argM flM vs h)) rfl rfl (WL_nil ⟨rfl, ?_⟩))
   refine WA_branch (rs := [13]) vm175 rfl (AllB.cons ?_ AllB.nil)
   refine WB_grun [0, 1, 2, 3, 4, 5, 6, 7, 8, 9, 10, 11, 12, 13, 14, 15, 16, 17, 18, 19, 20, 21, 22] rfl rfl rfl rfl (WX_q rfl rfl (q_call rfl (ArgsOK.of rfl) (c_impl_sameAbstracts _ _ _ (abOf_F hFn.g) hFn.f) rfl) (WL_nil ⟨rfl, ?_⟩))
   refine zsa 14 ?_
   refine zsa 15 ?_
   refine zsa 16 ?_
   refine zsa 17 ?_
   refine vm15 ?_
   refine zcd (fun h17 => ?_) (fun h17 => ?_)
   ·have hst : agS (m1, a1) (ss.getD i default) = none := agS_f heq hok (fun e => by have e2 := eqAb_iff.mpr e.2; rw [h17] at e2; cases e2)
    have hR : agT m ss = ((i : Int), true) := by rw [hRt, agI_at hag (by omega) hst]
    refine zgo ?_
    refine W_ret (fin_many rfl rfl rfl rfl (rcs_cons (rc_v ?_) (rcs_cons (rc_v ?_) rcs_nil)))
    all_goals exact vm107
   have hst : agS (m1, a1) (ss.getD i default) = some ((stM m1 (ss.getD i default)).1, (makeA m1.rs a1 (ss.getD i default)).1) := agS_t heq hok hir (eqAb_iff.mp h17)
   refine zwt ?_
   refine W_drawsH 4 [1, 2, 3, 4, 5, 7, 8, 9, 10, 11, 12, 13, 14, 15, 16, 17, 18, 19, 20, 21, 22, 23, 24, 25, 26, 27] mixed vm175 rfl rfl (fun r0 => ?_) (fun _ h => h)
   refine zsa 0 ?_
   refine zsa 1 ?_
   refine WA_branch (rs := [2]) vm175 rfl (AllB.cons ?_ AllB.nil)
   refine vm105 ?_
   refine WA_branch (rs := [3]) vm175 rfl (AllB.cons ?_ AllB.nil)
   refine vm105 ?_
   refine vm15 ?_
   refine W_region ?_
   refine vm33 ?_
   refine WL_gh (Gh.sub 17 1 np rfl rfl rfl) (WL_gh (Gh.sub 18 2 np rfl rfl rfl) (WL_gh (Gh.sub 19 3 np rfl rfl rfl) (WL_gh (Gh.sub 20 4 np rfl rfl rfl) (WL_gh (Gh.sub 21 5 np rfl rfl rfl) (WL_gh (Gh.sub 12 7 np rfl rfl rfl) (WL_gh (Gh.sub 13 8 np rfl rfl rfl) (WL_gh (Gh.sub 14 9 np rfl rfl rfl) (WL_gh (Gh.sub 15 10 np rfl rfl rfl) (WL_nil ⟨(true, i + 1, (stM m1 (ss.getD i default)).1, (makeA m1.rs a1 (ss.getD i default)).1), ?_, ?_, ⟨⟨_, rfl, by rfl⟩, rfl, trivial⟩, ⟨⟨_, rfl, by rfl⟩, rfl, rfl, ⟨⟨_, rfl, by rfl⟩, rfl, rfl, ⟨⟨_, rfl, by rfl⟩, rfl, rfl, ⟨⟨_, rfl, by rfl⟩, rfl, rfl, ⟨⟨_, rfl, by rfl⟩, rfl, rfl, ⟨⟨_, rfl, by rfl⟩, rfl, rfl, ⟨⟨_, rfl, by rfl⟩, rfl, rfl, ⟨⟨_, rfl, by rfl⟩, rfl, rfl, ⟨⟨_, rfl, by rfl⟩, rfl, rfl, ⟨⟨_, rfl, by rfl⟩, rfl, rfl, ⟨⟨_, rfl, by rfl⟩, rfl, rfl, trivial⟩⟩⟩⟩⟩⟩⟩⟩⟩⟩⟩, rfl, rfl, rfl⟩)))))))))
   ·exact ⟨by dsimp only; omega, by dsimp only; rw [agN_succ hag]; exact hst, hFn, fun e => by cases e⟩
   dsimp only; omega
  try rw [h15]
  try simp only [rfb] at h15
  have hok : (stM m1 (ss.getD i default)).2.2 = false := h15
  have hst : agS (m1, a1) (ss.getD i default) = some (m1, a1) := agS_no heq hok
  refine vm92 ?_
  refine ⟨(true, i + 1, m1, a1), ?_, ?_, ⟨⟨_, rfl, by rfl⟩, rfl, trivial⟩, ⟨⟨_, rfl, by rfl⟩, rfl, rfl, ⟨⟨_, rfl, by rfl⟩, rfl, rfl, ⟨⟨_, rfl, by rfl⟩, rfl, rfl, ⟨⟨_, rfl, by rfl⟩, rfl, rfl, ⟨⟨_, rfl, by rfl⟩, rfl, rfl, ⟨⟨_, rfl, by rfl⟩, rfl, rfl, ⟨⟨_, rfl, by rfl⟩, rfl, rfl, ⟨⟨_, rfl, by rfl⟩, rfl, rfl, ⟨⟨_, rfl, by rfl⟩, rfl, rfl, ⟨⟨_, rfl, by rfl⟩, rfl, rfl, ⟨⟨_, rfl, by rfl⟩, rfl, rfl, trivial⟩⟩⟩⟩⟩⟩⟩⟩⟩⟩⟩, rfl, rfl, rfl⟩
  ·exact ⟨by dsimp only; omega, by dsimp only; rw [agN_succ hag]; exact hst, hF, fun e => by cases e⟩
  dsimp only; omega
 have hR : agT m ss = ((ss.length : Int), true) := by rw [hRt, agI_end hag (by omega)]
 refine zgo ?_
 refine W_ret (fin_many rfl rfl rfl rfl (rcs_cons (rc_v ?_) (rcs_cons (rc_v ?_) rcs_nil)))
 all_goals exact vm107
end Go.Proofs.YtcnodpipinlpcaaGreat
set_option maxRecDepth 20000
set_option linter.unusedVariables false
set_option linter.unusedSimpArgs false
namespace Go.Proofs.YtcnodpipinlpcaaGreat
open Go Go.Rf
set_option maxHeartbeats 1000000 in
set_option maxHeartbeats 4000000 in
theorem c_spec_l21Sync (m : Mach) (hM : MaG m) : Ctr Tryz.prog 155 [.agg [.lst 2 (m.rs.map encRo), .lst 1 (m.en.map encO), .lst 1 (m.ra.map encO), .nst none 4 (m.cp.map (encIf 154 183))]] (.shp true [some 4] [.fr 118 2 ((synM m).rs.map encRo), .fr 4 1 ((synM m).en.map encO), .fr 4 1 ((synM m).ra.map encO), .ne 113 4 ((synM m).cp.map (encIf 154 183))]) := by
 have f1 := hM.n
 have f2 := hM.en
 have f3 := hM.ra
 have f4 := hM.rn
 refine Ctr.of (n := 63) G Tryz.func155 rfl vm175 rfl rfl rfl (fun w0 => ?_)
 refine W_pinS 0 rfl (fun _ => rfl) (fun u0 => ?_)
 refine vm1 ?_
 refine vm12 ?_
 refine vm52 ?_
 refine WX_call 6 rfl rfl rfl (ArgsOK.of rfl) (c_spec_l21Own m hM) rfl rfl ?_
 refine vm7 ?_
 refine WX_alloc_s G 7 rfl rfl rfl rfl rfl ?_
 refine zgo ?_
 refine W_loopK [1, 2, 3] [0, 1, 2, 3, 6] (fun (i : Nat) => [(4, .v (.int .i64 (i : Int)))]) (fun (i : Nat) => [(4, some (.row 4 1 ((synR m i).map encO))), (5, some (.nest 113 4 ((synC m i).map (encIf 154 183)) []))]) (fun (i : Nat) => i ≤ 8) (fun (i : Nat) => 8 - i) 0 rfl rfl ?_ ?_ ?_ ?_
 ·exact Nat.zero_le _
 ·exact ⟨⟨_, rfl, by rfl⟩, rfl, trivial⟩
 ·exact ⟨⟨_, rfl, by rfl⟩, rfl, rfl, ⟨⟨_, rfl, by rfl⟩, rfl, rfl, trivial⟩⟩
 intro i hi
 have hrl := @synR_len m i
 have hcl := @synC_len m i
 have htg := fun h => hM.tg (i := i) h
 simp only [List.cons_append, List.nil_append]
 refine zcd (fun h1 => ?_) (fun h1 => ?_)
 ·obtain ⟨hta, htb, htc⟩ := htg (by omega)
  obtain ⟨hst, hIG⟩ := synC_st hM (i := i) (k := tgM m i) (by omega) htb
  have htd : tgM m i < m.cp.length := htb
  refine zcd (fun h2 => ?_) (fun h2 => ?_)
  ·refine zcd (fun h3 => ?_) (fun h3 => ?_)
   ·refine zgo ?_
    refine vm78 ?_
    refine WX_q rfl rfl (q_field_eptN G rfl rfl rfl rfl) ?_
    refine vm78 ?_
    refine vm58 ?_
    refine zcl (c_spec_l1Has (m.cp.getD (tgM m i) default).st _ (by have := (hM.ok _ htd).f.sn; omega)) ?_
    refine zcd (fun h4 => ?_) (fun h4 => ?_)
    ·have hcn := cnd_mt (m := m) (i := i) h2 h3 h4
     refine vm67 ?_
     refine W_gh (Gh.open (id := 5) (i := (tgM m i)) (k := 1) 8 rfl rfl (getZ (by omega)) rfl rfl) (W_gh (Gh.open (id := 5) (i := (tgM m i)) (k := 2) 9 rfl rfl (setX vm183 rfl) rfl rfl) (W_gh (Gh.open (id := 5) (i := (tgM m i)) (k := 3) 10 rfl rfl (setX vm183 rfl) rfl rfl) (W_drawsH 18 [0, 1, 2, 3, 4, 6, 7, 8, 9] mixed vm175 rfl rfl (fun r0 => ?_) (fun _ h => h))))
     refine vm23 ?_
     refine vm61 ?_
     refine zsa 8 ?_
     refine zsa 9 ?_
     refine zsa 10 ?_
     refine zsa 11 ?_
     refine zsa 12 ?_
     refine zsa 13 ?_
     refine zsa 14 ?_
     refine WA_branch (rs := [6]) vm175 rfl (AllB.cons ?_ AllB.nil)
     first | refine WB_run [0, 1, 2, 3, 4, 6, 7, 8, 9] rfl rfl (WX_q rfl rfl (q_index_nest G rfl rfl rfl rfl rfl (by omega) vm198) (WL_nil ⟨rfl, ?_⟩)) | refine WB_run [0, 1, 2, 3, 4, 6, 7, 8, 9] rfl rfl (WX_q rfl rfl (q_index_nest G rfl rfl rfl rfl rfl (by omega) vm183) (WL_nil ⟨rfl, ?_⟩))
     refine WA_branch (rs := [7]) vm175 rfl (AllB.cons ?_ AllB.nil)
     refine WB_rn [0, 1, 2, 3, 4, 6, 7, 8, 9] rfl rfl (WX_q rfl rfl (q_load_nest_struct G rfl rfl rfl rfl (setX vm183 rfl) rfl (.v (.own vm186 (.own vm186 (.own vm186 .nil))))) (WL_nil ⟨rfl, ?_⟩))
     refine WA_branch (rs := [15]) vm175 rfl (AllB.cons ?_ AllB.nil)
     refine WB_rn [0, 1, 2, 3, 4, 6, 7, 8, 9] rfl rfl (WX_call 13 rfl rfl rfl (ArgsOK.of rfl) (c_spec_l10Raise ((synC m i).getD (tgM m i) default) _ _ hIG.f (by omega) htc) rfl rfl (WL_nil ⟨rfl, ?_⟩))
     refine WA_gh (Gh.detach (id := 5) rfl) (WA_gh (Gh.detach (id := 5) rfl) (WA_gh (Gh.detach (id := 5) rfl) (WA_branch (rs := [16]) vm175 rfl (AllB.cons ?_ AllB.nil))))
     first | refine WB_run [0, 1, 2, 3, 4, 6, 7, 8, 9] rfl rfl (WX_q rfl rfl (q_index_nest G rfl rfl rfl rfl rfl (by omega) vm198) (WL_nil ⟨rfl, ?_⟩)) | refine WB_run [0, 1, 2, 3, 4, 6, 7, 8, 9] rfl rfl (WX_q rfl rfl (q_index_nest G rfl rfl rfl rfl rfl (by omega) vm183) (WL_nil ⟨rfl, ?_⟩))
     refine WA_branch (rs := [17]) vm175 rfl (AllB.cons ?_ AllB.nil)
     refine WB_rn [0, 1, 2, 3, 4, 6, 7, 8, 9] rfl rfl (WX_store_nest G rfl rfl rfl rfl rfl (setX vm183 rfl) rfl rfl (.v rfl (.own rfl (.own rfl (.own rfl .nil)))) rfl rfl rfl (Nat.le_of_ble_eq_true rfl) (fun q h => by cases h) rfl (WL_nil ⟨rfl, ?_⟩))
     refine vm15 ?_
     refine zgo ?_
     refine ⟨(i + 1), ?_, ?_, ⟨⟨_, rfl, by rfl⟩, rfl, trivial⟩, ⟨⟨_, rfl, by (first | (rw [synR_f hcn]; done) | (rw [synC_f hcn]; done) | (rw [synR_t hcn, List.map_set]; rfl) | (rw [synC_t hcn]; exact congrArg (fun z => Row.nest _ _ z []) vm189))⟩, rfl, rfl, ⟨⟨_, rfl, by (first | (rw [synR_f hcn]; done) | (rw [synC_f hcn]; done) | (rw [synR_t hcn, List.map_set]; rfl) | (rw [synC_t hcn]; exact congrArg (fun z => Row.nest _ _ z []) vm189))⟩, rfl, rfl, trivial⟩⟩, rfl, rfl, rfl⟩
     ·omega
     omega
    have hcn := cnd_m3 (m := m) (i := i) h4
    refine zgo ?_
    refine ⟨(i + 1), ?_, ?_, ⟨⟨_, rfl, by rfl⟩, rfl, trivial⟩, ⟨⟨_, rfl, by (first | (rw [synR_f hcn]; done) | (rw [synC_f hcn]; done) | (rw [synR_t hcn, List.map_set]; rfl) | (rw [synC_t hcn]; exact congrArg (fun z => Row.nest _ _ z []) vm189))⟩, rfl, rfl, ⟨⟨_, rfl, by (first | (rw [synR_f hcn]; done) | (rw [synC_f hcn]; done) | (rw [synR_t hcn, List.map_set]; rfl) | (rw [synC_t hcn]; exact congrArg (fun z => Row.nest _ _ z []) vm189))⟩, rfl, rfl, trivial⟩⟩, rfl, rfl, rfl⟩
    ·omega
    omega
   have hcn := cnd_m2 (m := m) (i := i) h3
   refine zwf ?_
   refine zgo ?_
   refine ⟨(i + 1), ?_, ?_, ⟨⟨_, rfl, by rfl⟩, rfl, trivial⟩, ⟨⟨_, rfl, by (first | (rw [synR_f hcn]; done) | (rw [synC_f hcn]; done) | (rw [synR_t hcn, List.map_set]; rfl) | (rw [synC_t hcn]; exact congrArg (fun z => Row.nest _ _ z []) vm189))⟩, rfl, rfl, ⟨⟨_, rfl, by (first | (rw [synR_f hcn]; done) | (rw [synC_f hcn]; done) | (rw [synR_t hcn, List.map_set]; rfl) | (rw [synC_t hcn]; exact congrArg (fun z => Row.nest _ _ z []) vm189))⟩, rfl, rfl, trivial⟩⟩, rfl, rfl, rfl⟩
   ·omega
   omega
  have hcn := cnd_m1 (m := m) (i := i) h2
  refine zwf ?_
  refine zgo ?_
  refine ⟨(i + 1), ?_, ?_, ⟨⟨_, rfl, by rfl⟩, rfl, trivial⟩, ⟨⟨_, rfl, by (first | (rw [synR_f hcn]; done) | (rw [synC_f hcn]; done) | (rw [synR_t hcn, List.map_set]; rfl) | (rw [synC_t hcn]; exact congrArg (fun z => Row.nest _ _ z []) vm189))⟩, rfl, rfl, ⟨⟨_, rfl, by (first | (rw [synR_f hcn]; done) | (rw [synC_f hcn]; done) | (rw [synR_t hcn, List.map_set]; rfl) | (rw [synC_t hcn]; exact congrArg (fun z => Row.nest _ _ z []) vm189))⟩, rfl, rfl, trivial⟩⟩, rfl, rfl, rfl⟩
  ·omega
  omega
 obtain rfl : i = 8 := (by omega)
 refine zgo ?_
 refine W_ret (fin_shp rfl rfl rfl rfl (rcs_cons (rc_own rfl ?_) (rcs_cons (rc_own rfl ?_) (rcs_cons (rc_own rfl ?_) (rcs_cons (rc_ne rfl ?_) rcs_nil)))))
 all_goals (rfl)
end Go.Proofs.YtcnodpipinlpcaaGreat
set_option maxRecDepth 20000
set_option linter.unusedVariables false
set_option linter.unusedSimpArgs false
namespace Go.Proofs.YtcnodpipinlpcaaGreat
open Go Go.Rf
set_option maxHeartbeats 4000000 in
theorem c_spec_l8Take_p (z : Value) (sl : List Slot) (lim : Int) (hF : SlF sl) (hk : tkOK sl lim = false) : Ctr Tryz.prog 181 [.pin z 3 (sl.map encSl), .v (.int .i64 lim)] (.many [.v z, .v (.int .i64 (-1))]) := by
 have hl4 := hF.len
 have hb := @bstS_bd sl true
 have hf := @fnd_bd sl
 have hkk := tkOK_nf.mp hk
 refine Ctr.of (n := 33) G Tryz.func181 rfl vm175 rfl rfl rfl (fun w0 => ?_)
 refine zcl (c_spec_l8Best_t sl (by omega)) ?_
 refine zcd (fun h1 => ?_) (fun h1 => ?_)
 ·refine zwt ?_
  refine zgo ?_
  refine W_ret (fin_many rfl rfl rfl rfl (rcs_cons (rc_pin ?_) (rcs_cons (rc_v ?_) rcs_nil)))
  all_goals (rfl)
 refine zgo ?_
 refine vm78 ?_
 first | refine WX_q rfl rfl (q_index_pin G rfl rfl rfl rfl (by omega) (getN (by omega))) ?_ | refine WX_q rfl rfl (q_index_pin G rfl rfl rfl rfl (by omega) (getNI (by omega) (by omega))) ?_ | refine WX_q rfl rfl (q_index_pin G rfl rfl rfl rfl (by omega) (getM (by omega) (by omega))) ?_
 refine zcd (fun h2 => ?_) (fun h2 => ?_)
 ·refine zgo ?_
  refine W_ret (fin_many rfl rfl rfl rfl (rcs_cons (rc_pin ?_) (rcs_cons (rc_v ?_) rcs_nil)))
  all_goals (rfl)
 exfalso; omega
set_option maxHeartbeats 4000000 in
theorem c_spec_l9Take_no (q : Que) (lim : Int) (hF : QF q) (hk : tkOK q.sl lim = false) : Ctr Tryz.prog 135 [.agg [.lst 3 (q.sl.map encSl), .lst 2 (q.wa.map encWa)], .v (.int .i64 lim)] (.shp false [some 2, none] [.fr 154 3 (q.sl.map encSl), .fr 183 2 (q.wa.map encWa), .v (.int .i64 (-1))]) := by
 have hl4 := hF.sl.len
 have hwn := hF.wn
 refine Ctr.of (n := 24) G Tryz.func135 rfl vm175 rfl rfl rfl (fun w0 => ?_)
 refine W_pinS 0 rfl (fun _ => rfl) (fun u0 => ?_)
 refine vm1 ?_
 refine vm12 ?_
 refine zgo ?_
 refine WL_pinT (t := 10) rfl (fun z10 => ?_)
 refine vm7 ?_
 refine WX_q rfl rfl (q_call rfl (ArgsOK.pin1 rfl (ArgsOK.of rfl)) (c_spec_l8Take_p _ q.sl lim hF.sl hk) rfl) ?_
 refine zgn ?_
 refine W_sq (W_gh (Gh.asPin (d := 6) (t := 10) rfl rfl) (W_drawsH 11 [0] mixed vm175 rfl rfl (fun r0 => ?_) (fun _ h => h)))
 refine zsa 1 ?_
 refine vm61 ?_
 refine zsa 8 ?_
 refine WA_more (N := 4) rfl (WAV_startH (fuel := 5) [⟨0, 15, 2, false, .row 154 3 []⟩, ⟨3, 18, 3, false, .row 183 2 []⟩] (AllVOK.cons (VOK.lit G rfl rfl rfl rfl rfl) (AllVOK.cons (VOK.lit G rfl rfl rfl rfl rfl) (AllVOK.nil))) (fun hok => ?_))
 refine WAV_go [(2, [0])] vm175 vm175 (fun e he => hok e he) vm175 (AllVS.cons ?_ AllVS.nil)
 refine VStep.mk1 [0] 15 (.own 2) 2 (.row 154 3 []) [⟨3, 18, 3, false, .row 183 2 []⟩] rfl rfl rfl rfl rfl (fun b1 _ hbn => WX_append G vm185 rfl rfl rfl rfl rfl rfl rfl rfl rfl vm187 rfl rfl (WL_nil rfl)) vm175 vm175 vm175 vm175 (WAV_go [(6, [3])] vm175 vm175 (fun e he => hok e (vin (is := [0]) rfl he)) vm175 (AllVS.cons ?_ AllVS.nil))
 refine VStep.mk1 [0] 18 (.own 3) 3 (.row 183 2 []) [] rfl rfl rfl rfl rfl (fun b1 _ hbn => WX_append G vm185 rfl rfl rfl rfl rfl rfl rfl rfl rfl vm187 rfl rfl (WL_nil rfl)) vm175 vm175 vm175 vm175 (WAV_nil ?_)
 clear hok
 refine WA_branch (rs := [7]) vm175 rfl (AllB.cons ?_ AllB.nil)
 refine vm71 ?_
 refine WA_branch (rs := [9]) vm175 rfl (AllB.cons ?_ AllB.nil)
 refine vm71 ?_
 refine zsa 10 ?_
 refine vm15 ?_
 refine W_ret (fin_shp rfl rfl rfl rfl (rcs_cons (rc_own rfl ?_) (rcs_cons (rc_own rfl ?_) (rcs_cons (rc_v ?_) rcs_nil))))
 all_goals (first | rfl | simp)
set_option maxHeartbeats 4000000 in
theorem c_spec_l10Take_no (x : Ifc) (hF : IfF x) (hk : okT x = false) : Ctr Tryz.prog 73 [.agg [.v (.int .i64 x.ma), .lst 1 (x.st.map Rf.encI), .lst 3 (x.qu.sl.map encSl), .lst 2 (x.qu.wa.map encWa)]] (.shp false [some 4, none] [.v (.int .i64 x.ma), .fr 3 1 (x.st.map Rf.encI), .fr 154 3 (x.qu.sl.map encSl), .fr 183 2 (x.qu.wa.map encWa), .v (.int .i64 (-1))]) := by
 have hl4 := hF.qu.sl.len
 have hwn := hF.qu.wn
 have hsn := hF.sn
 refine Ctr.of (n := 35) G Tryz.func73 rfl vm175 rfl rfl rfl (fun w0 => ?_)
 refine W_pinS 0 rfl (fun _ => rfl) (fun u0 => ?_)
 refine vm91 ?_
 refine W_sq (W_drawsH 14 [0, 1] mixed vm175 rfl rfl (fun r0 => ?_) (fun _ h => h))
 refine vm23 ?_
 refine zsa 4 ?_
 refine WA_more (N := 3) rfl (WAV_startH (fuel := 8) [⟨11, 4, 2, true, .box (avR [.slice none 0 0, .slice none 0 0] [])⟩] (AllVOK.cons (VOK.boxS G rfl rfl rfl rfl rfl) (AllVOK.nil)) (fun hok => ?_))
 refine WAV_go [(5, [])] vm175 vm175 (fun e he => hok e he) vm175 (AllVS.cons ?_ AllVS.nil)
 refine VStep.mk0 [0, 1] rfl rfl (fun b1 _ hbn => WX_q rfl rfl (q_call rfl (ArgsOK.of rfl) (c_spec_l10Running x hF) rfl) (WL_nil rfl)) vm175 vm175 vm175 vm175 (WAV_go [(6, [])] vm175 vm175 (fun e he => hok e he) vm175 (AllVS.cons ?_ AllVS.nil))
 refine VStep.mk0 [0, 1] rfl rfl (fun b1 _ hbn => WX_q rfl rfl (q_call rfl (ArgsOK.of rfl) (c_spec_l1Least _ _) rfl) (WL_nil rfl)) vm175 vm175 vm175 vm175 (WAV_go [(7, [])] vm175 vm175 (fun e he => hok e he) vm175 (AllVS.cons ?_ AllVS.nil))
 refine VStep.mk0 [0, 1] rfl rfl (fun b1 _ hbn => WX_call 5 rfl rfl rfl (ArgsOK.of rfl) (c_spec_l9Take_no x.qu (limI x) hF.qu hk) rfl rfl (WL_nil rfl)) vm175 vm175 vm175 vm175 (WAV_take 8 rfl vm175 rfl rfl rfl rfl (q_move rfl rfl) vm175 vm175 vm175 (WAV_take 9 rfl vm175 rfl rfl rfl rfl (q_extract rfl rfl rfl) vm175 vm175 vm175 (WAV_take 10 rfl vm175 rfl rfl rfl rfl (q_extract rfl rfl rfl) vm175 vm175 vm175 (WAV_go [(12, [11])] vm175 vm175 (fun e he => hok e he) vm175 (AllVS.cons ?_ AllVS.nil)))))
 refine vm66 ?_
 clear hok
 refine zsa 13 ?_
 refine vm15 ?_
 refine W_sq (W_drawsH 9 [0, 1, 2, 3, 4] mixed vm175 rfl rfl (fun r0 => ?_) (fun _ h => h))
 refine vm23 ?_
 refine zsa 5 ?_
 refine WA_more (N := 6) rfl (WAV_startH (fuel := 3) [⟨7, 6, 5, true, .box (avR [.int .i64 0, .slice none 0 0, .slice none 0 0, .slice none 0 0] [])⟩] (AllVOK.cons (VOK.boxS G rfl rfl rfl rfl rfl) (AllVOK.nil)) (fun hok => ?_))
 refine WAV_go [(4, [])] vm175 vm175 (fun e he => hok e he) vm175 (AllVS.cons ?_ AllVS.nil)
 refine VStep.mk0 [0, 1, 2, 3, 4] rfl rfl (fun b1 _ hbn => WX_call 7 rfl rfl rfl (ArgsOK.of rfl) (c_spec_l1Own x.st (by omega)) rfl rfl (WL_nil rfl)) vm175 vm175 vm175 vm175 (WAV_go [(6, [])] vm175 vm175 (fun e he => hok e he) vm175 (AllVS.cons ?_ AllVS.nil))
 refine VStep.mk0 [0, 1, 2, 3, 4] rfl rfl (fun b1 _ hbn => WX_q rfl rfl (q_build G rfl rfl rfl rfl) (WL_nil rfl)) vm175 vm175 vm175 vm175 (WAV_go [(8, [7])] vm175 vm175 (fun e he => hok e he) vm175 (AllVS.cons ?_ AllVS.nil))
 refine vm62 ?_
 clear hok
 refine vm15 ?_
 refine zcd (fun h1 => ?_) (fun h1 => ?_)
 ·exfalso; omega
 refine zgo ?_
 refine W_ret (fin_shp rfl rfl rfl rfl (rcs_cons (rc_v ?_) (rcs_cons (rc_own rfl ?_) (rcs_cons (rc_own rfl ?_) (rcs_cons (rc_own rfl ?_) (rcs_cons (rc_v ?_) rcs_nil))))))
 all_goals (rfl)
set_option maxHeartbeats 4000000 in
theorem c_spec_l10Leave_no (x : Ifc) (hn : x.st.length = 0) : CtrE (α := Nat → Option Addr × Nat × Nat) Tryz.prog 156 [.agg [.v (.int .i64 x.ma), .lst 1 (x.st.map Rf.encI), .lst 3 (x.qu.sl.map encSl), .lst 2 (x.qu.wa.map encWa)]] (fun y => (.shp false [some 4, none] [.v (.int .i64 x.ma), .v (.slice (y 1).1 (y 1).2.1 (y 1).2.2), .v (.slice (y 2).1 (y 2).2.1 (y 2).2.2), .v (.slice (y 3).1 (y 3).2.1 (y 3).2.2), .v (.int .i64 (-1))])) := by
 refine CtrE.of (n := 41) G Tryz.func156 rfl vm175 rfl rfl rfl (fun w0 => ?_)
 refine W_pinM 0 rfl (fun _ => rfl) (fun u0 => ?_)
 refine vm1 ?_
 refine vm12 ?_
 refine zcd (fun h1 => ?_) (fun h1 => ?_)
 ·refine zgo ?_
  refine W_ret (fine (u0) (fin_shp rfl rfl rfl rfl (rcs_cons (rc_v ?_) (rcs_cons (rc_pin ?_) (rcs_cons (rc_pin ?_) (rcs_cons (rc_pin ?_) (rcs_cons (rc_v ?_) rcs_nil)))))))
  all_goals (rfl)
 exfalso; omega
set_option maxHeartbeats 2000000 in
set_option maxHeartbeats 4000000 in
theorem c_spec_l21Make (m : Mach) (sk sq sc sv : Int) (hM : MaG m) (hv : stepV m.cp.length ⟨sk, sq, sc, sv⟩ = true) (ho : ¬ nopM m ⟨sk, sq, sc, sv⟩) : Ctr Tryz.prog 102 [.agg [.lst 2 (m.rs.map encRo), .lst 1 (m.en.map encO), .lst 1 (m.ra.map encO), .nst none 4 (m.cp.map (encIf 154 183))], .v (.agg ⟨[.int .i64 sk, .int .i64 sq, .int .i64 sc, .int .i64 sv]⟩)] (.shp false [some 4, none, none] [.fr 118 2 ((stM m ⟨sk, sq, sc, sv⟩).1.rs.map encRo), .fr 4 1 ((stM m ⟨sk, sq, sc, sv⟩).1.en.map encO), .fr 4 1 ((stM m ⟨sk, sq, sc, sv⟩).1.ra.map encO), .ne 113 4 ((stM m ⟨sk, sq, sc, sv⟩).1.cp.map (encIf 154 183)), .v (.int .i64 (stM m ⟨sk, sq, sc, sv⟩).2.1), .v (.bool (stM m ⟨sk, sq, sc, sv⟩).2.2)]) := by
 have f1 := hM.n
 have f2 := hM.en
 have f3 := hM.ra
 have f4 := hM.rn
 refine Ctr.of (n := 107) G Tryz.func102 rfl vm175 rfl rfl rfl (fun w0 => ?_)
 refine W_pinS 0 rfl (fun _ => rfl) (fun u0 => ?_)
 refine vm104 ?_
 refine zcd (fun h1 => ?_) (fun h1 => ?_)
 ·have hq := sv_q hv (by omega)
  obtain ⟨q, rfl⟩ : ∃ q : Nat, sq = q := ⟨sq.toNat, by omega⟩
  have hS := sm1 (m := m) (sc := sc) (sv := sv) (q := q) h1
  refine vm16 ?_
  refine zgn ?_
  refine W_sq (W_drawsH 11 [0, 1, 3, 4, 5, 6, 7] mixed vm175 rfl rfl (fun r0 => ?_) (fun _ h => h))
  refine vm99 ?_
  refine zsa 7 ?_
  refine WA_branch (rs := [8]) vm175 rfl (AllB.cons ?_ AllB.nil)
  refine WB_rn [0, 1, 3, 4, 5, 6, 7] rfl rfl ?_
  refine vm8 ?_
  refine zsa 9 ?_
  refine zsa 10 ?_
  refine vm15 ?_
  refine W_ret (fin_shp rfl rfl rfl rfl (rcs_cons (rc_own rfl ?_) (rcs_cons (rc_own rfl ?_) (rcs_cons (rc_own rfl ?_) (rcs_cons (rc_ne rfl ?_) (rcs_cons (rc_v ?_) (rcs_cons (rc_v ?_) rcs_nil)))))))
  all_goals exact vm128
 refine zcd (fun h2 => ?_) (fun h2 => ?_)
 ·have hS := sm2 (m := m) (sq := sq) (sc := sc) (sv := sv) h2
  refine vm52 ?_
  refine WX_call 12 rfl rfl rfl (ArgsOK.of rfl) (c_spec_l21Sync m hM) rfl rfl ?_
  refine zgo ?_
  refine W_ret (fin_shp rfl rfl rfl rfl (rcs_cons (rc_own rfl ?_) (rcs_cons (rc_own rfl ?_) (rcs_cons (rc_own rfl ?_) (rcs_cons (rc_ne rfl ?_) (rcs_cons (rc_v ?_) (rcs_cons (rc_v ?_) rcs_nil)))))))
  all_goals exact vm128
 refine zcd (fun h3 => ?_) (fun h3 => ?_)
 ·have hc := sv_c hv (by omega)
  obtain ⟨c, rfl⟩ : ∃ c : Nat, sc = c := ⟨sc.toNat, by omega⟩
  obtain ⟨g1, g2, g3⟩ := hM.lens (k := c) (by omega)
  have hIG := hM.ok c (by omega)
  have hk := yes3 ho h3
  have hS := sm3 (m := m) (sq := sq) (sv := sv) (c := c) h3 hk
  have hbd := tkI_bd2 hIG hk
  refine vm52 ?_
  refine WX_call 11 rfl rfl rfl (ArgsOK.of rfl) (c_spec_l10Take (m.cp.getD c default) hIG.f hk) rfl rfl ?_
  refine vm52 ?_
  refine vm93 ?_
  refine vm5 ?_
  refine zgo ?_
  refine W_ret (fin_shp rfl rfl rfl rfl (rcs_cons (rc_own rfl ?_) (rcs_cons (rc_own rfl ?_) (rcs_cons (rc_own rfl ?_) (rcs_cons (rc_ne rfl ?_) (rcs_cons (rc_v ?_) (rcs_cons (rc_v ?_) rcs_nil)))))))
  all_goals exact vm128
 refine zcd (fun h4 => ?_) (fun h4 => ?_)
 ·have hc := sv_c hv (by omega)
  obtain ⟨c, rfl⟩ : ∃ c : Nat, sc = c := ⟨sc.toNat, by omega⟩
  obtain ⟨g1, g2, g3⟩ := hM.lens (k := c) (by omega)
  have hIG := hM.ok c (by omega)
  have hk := yes4 ho h4
  have hS := sm4 (m := m) (sq := sq) (sv := sv) (c := c) h4 hk
  have hbd := lastI_bd hIG hk
  refine vm52 ?_
  refine WX_call 11 rfl rfl rfl (ArgsOK.of rfl) (c_spec_l10Leave (m.cp.getD c default) hIG hk) rfl rfl ?_
  refine vm52 ?_
  refine vm93 ?_
  refine vm5 ?_
  refine zgo ?_
  refine W_ret (fin_shp rfl rfl rfl rfl (rcs_cons (rc_own rfl ?_) (rcs_cons (rc_own rfl ?_) (rcs_cons (rc_own rfl ?_) (rcs_cons (rc_ne rfl ?_) (rcs_cons (rc_v ?_) (rcs_cons (rc_v ?_) rcs_nil)))))))
  all_goals exact vm128
 refine zcd (fun h5 => ?_) (fun h5 => ?_)
 ·have hc := sv_c hv (by omega)
  obtain ⟨c, rfl⟩ : ∃ c : Nat, sc = c := ⟨sc.toNat, by omega⟩
  obtain ⟨g1, g2, g3⟩ := hM.lens (k := c) (by omega)
  have hIG := hM.ok c (by omega)
  have hS := sm5 (m := m) (sq := sq) (sv := sv) (c := c) h5
  refine W_sq (W_gh (Gh.open (id := 6) (i := c) (k := 1) 9 rfl rfl (getZ (by omega)) rfl rfl) (W_gh (Gh.open (id := 6) (i := c) (k := 2) 10 rfl rfl (setX vm183 rfl) rfl rfl) (W_gh (Gh.open (id := 6) (i := c) (k := 3) 11 rfl rfl (setX vm183 rfl) rfl rfl) ?_)))
  refine vm30 ?_
  refine WX_q rfl rfl (q_load_nest_struct G rfl rfl rfl rfl (setX vm183 rfl) rfl (.v (.own vm186 (.own vm186 (.own vm186 .nil))))) ?_
  refine vm7 ?_
  refine vm93 ?_
  refine zgn ?_
  refine vm100 ?_
  refine W_gh (Gh.detach (id := 6) rfl) (W_gh (Gh.detach (id := 6) rfl) (W_gh (Gh.detach (id := 6) rfl) ?_))
  refine vm5 ?_
  refine zgo ?_
  refine W_ret (fin_shp rfl rfl rfl rfl (rcs_cons (rc_own rfl ?_) (rcs_cons (rc_own rfl ?_) (rcs_cons (rc_own rfl ?_) (rcs_cons (rc_ne rfl ?_) (rcs_cons (rc_v ?_) (rcs_cons (rc_v ?_) rcs_nil)))))))
  all_goals exact vm128
 have hk := sv_k hv
 have hq := sv_q hv (by omega)
 obtain ⟨q, rfl⟩ : ∃ q : Nat, sq = q := ⟨sq.toNat, by omega⟩
 have hS := sm6 (m := m) (sk := sk) (sc := sc) (sv := sv) (q := q) (by omega)
 refine vm16 ?_
 refine zgo ?_
 refine W_ret (fin_shp rfl rfl rfl rfl (rcs_cons (rc_own rfl ?_) (rcs_cons (rc_own rfl ?_) (rcs_cons (rc_own rfl ?_) (rcs_cons (rc_ne rfl ?_) (rcs_cons (rc_v ?_) (rcs_cons (rc_v ?_) rcs_nil)))))))
 all_goals exact vm128
set_option maxHeartbeats 2000000 in
set_option maxHeartbeats 4000000 in
theorem c_spec_l21Make_no (m : Mach) (sk sq sc sv : Int) (hM : MaG m) (hv : stepV m.cp.length ⟨sk, sq, sc, sv⟩ = true) (ho : nopM m ⟨sk, sq, sc, sv⟩) : Ctr Tryz.prog 102 [.agg [.lst 2 (m.rs.map encRo), .lst 1 (m.en.map encO), .lst 1 (m.ra.map encO), .nst none 4 (m.cp.map (encIf 154 183))], .v (.agg ⟨[.int .i64 sk, .int .i64 sq, .int .i64 sc, .int .i64 sv]⟩)] (.shp false [some 4, none, none] [.fr 118 2 (m.rs.map encRo), .fr 4 1 (m.en.map encO), .fr 4 1 (m.ra.map encO), .ne 113 4 (m.cp.map encIfX), .v (.int .i64 (-1)), .v (.bool false)]) := by
 have f1 := hM.n
 have f2 := hM.en
 have f3 := hM.ra
 have f4 := hM.rn
 refine Ctr.of (n := 107) G Tryz.func102 rfl vm175 rfl rfl rfl (fun w0 => ?_)
 refine W_pinS 0 rfl (fun _ => rfl) (fun u0 => ?_)
 refine vm104 ?_
 refine zcd (fun h1 => ?_) (fun h1 => ?_)
 ·exact absurd (nopM_k ho) (by omega)
 refine zcd (fun h2 => ?_) (fun h2 => ?_)
 ·exact absurd (nopM_k ho) (by omega)
 refine zcd (fun h3 => ?_) (fun h3 => ?_)
 ·have hc := sv_c hv (by omega)
  obtain ⟨c, rfl⟩ : ∃ c : Nat, sc = c := ⟨sc.toNat, by omega⟩
  obtain ⟨g1, g2, g3⟩ := hM.lens (k := c) (by omega)
  have hIG := hM.ok c (by omega)
  have hk := nopM_3 ho h3
  refine vm52 ?_
  refine WX_call 11 rfl rfl rfl (ArgsOK.of rfl) (c_spec_l10Take_no (m.cp.getD c default) hIG.f hk) rfl rfl ?_
  refine vm52 ?_
  refine vm93 ?_
  refine vm5 ?_
  refine vm100 ?_
  refine W_gh (Gh.nestX (id := 6) m.cp rfl (by simp only [List.length_set, List.length_map])) ?_
  refine zgo ?_
  refine W_ret (fin_shp rfl rfl rfl rfl (rcs_cons (rc_own rfl ?_) (rcs_cons (rc_own rfl ?_) (rcs_cons (rc_own rfl ?_) (rcs_cons (rc_ne rfl ?_) (rcs_cons (rc_v ?_) (rcs_cons (rc_v ?_) rcs_nil)))))))
  all_goals (rfl)
 refine zcd (fun h4 => ?_) (fun h4 => ?_)
 ·have hc := sv_c hv (by omega)
  obtain ⟨c, rfl⟩ : ∃ c : Nat, sc = c := ⟨sc.toNat, by omega⟩
  obtain ⟨g1, g2, g3⟩ := hM.lens (k := c) (by omega)
  have hIG := hM.ok c (by omega)
  have hk := nopM_4 ho h4
  refine zgo ?_
  refine WL_cons rfl (WX_calle 8 rfl rfl rfl (ArgsOK.of rfl) (c_spec_l10Leave_no (m.cp.getD c default) hk) (fun _ => rfl) rfl (fun y1 => ?_))
  refine vm52 ?_
  refine vm96 ?_
  refine vm30 ?_
  first | refine WX_store_nest G rfl rfl rfl rfl rfl (getM (by omega) (by omega)) rfl rfl (.v rfl (.v rfl (.v rfl (.v rfl .nil)))) rfl rfl rfl (Nat.le_of_ble_eq_true rfl) (fun q h => by cases h) rfl ?_ | refine WX_store_nest G rfl rfl rfl rfl rfl (getNI (by omega) (by omega)) rfl rfl (.v rfl (.v rfl (.v rfl (.v rfl .nil)))) rfl rfl rfl (Nat.le_of_ble_eq_true rfl) (fun q h => by cases h) rfl ?_ | refine WX_store_nest G rfl rfl rfl rfl rfl (setX vm183 rfl) rfl rfl (.v rfl (.v rfl (.v rfl (.v rfl .nil)))) rfl rfl rfl (Nat.le_of_ble_eq_true rfl) (fun q h => by cases h) rfl ?_
  refine vm100 ?_
  refine W_gh (Gh.nestX (id := 6) m.cp rfl (by simp only [List.length_set, List.length_map])) ?_
  refine zgo ?_
  refine W_ret (fin_shp rfl rfl rfl rfl (rcs_cons (rc_own rfl ?_) (rcs_cons (rc_own rfl ?_) (rcs_cons (rc_own rfl ?_) (rcs_cons (rc_ne rfl ?_) (rcs_cons (rc_v ?_) (rcs_cons (rc_v ?_) rcs_nil)))))))
  all_goals (rfl)
 exact absurd (nopM_k ho) (by omega)
end Go.Proofs.YtcnodpipinlpcaaGreat
set_option maxRecDepth 20000
set_option linter.unusedVariables false
set_option linter.unusedSimpArgs false
namespace Go.Proofs.YtcnodpipinlpcaaGreat
open Go Go.Rf
set_option maxHeartbeats 4000000 in
set_option maxHeartbeats 4000000 in
theorem c_spec_AgreeOn (m : Mach) (ss : List MStep) (hs : SmallM m) (hl : ss.length ≤ 1048576) : Ctr Tryz.prog 39 [.agg [.lst 2 (m.rs.map encRo), .lst 1 (m.en.map encO), .lst 1 (m.ra.map encO), .nst none 4 (m.cp.map (encIf 154 183))], .lst 4 (ss.map encMc)] (.many [.v (.int .i64 (agT m ss).1), .v (.bool (agT m ss).2)]) := by
 refine Ctr.of (n := 79) G Tryz.func39 rfl vm175 rfl rfl rfl (fun w0 => ?_)
 refine W_pinS 0 rfl (fun _ => rfl) (fun u0 => ?_)
 refine vm1 ?_
 refine zcl (c_spec_l21Good m hs) ?_
 refine zcd (fun h1 => ?_) (fun h1 => ?_)
 ·have hR := agT_f1 (ss := ss) h1
  refine zwt ?_
  refine zgo ?_
  refine W_ret (fin_many rfl rfl rfl rfl (rcs_cons (rc_v ?_) (rcs_cons (rc_v ?_) rcs_nil)))
  all_goals exact vm107
 have hM := maF h1
 refine zcl (c_spec_l25Steps m.cp.length ss hs.cp (by omega)) ?_
 refine zcd (fun h2 => ?_) (fun h2 => ?_)
 ·have hR := agT_f2 (m := m) (ss := ss) h2
  refine zgo ?_
  refine W_ret (fin_many rfl rfl rfl rfl (rcs_cons (rc_v ?_) (rcs_cons (rc_v ?_) rcs_nil)))
  all_goals exact vm107
 have hsv := h2
 have hv := (stepsV_iff.mp hsv).2
 have hl30 := (stepsV_iff.mp hsv).1
 have hRt := agT_t h1 hsv
 refine vm52 ?_
 refine WX_call 6 rfl rfl rfl (ArgsOK.of rfl) (c_spec_l25Of m hM hs) rfl rfl ?_
 refine vm7 ?_
 refine WX_alloc_s G 7 rfl rfl rfl rfl rfl ?_
 refine zgn ?_
 refine zgn ?_
 refine W_block (W_gh (Gh.bump 11 (by decide)) (W_loopK [1, 2, 6] [] (fun (x : Bool × Nat × Mach × Abs) => match x.1 with | false => [(7, .v (.int .i64 (x.2.1 : Int)))] | true => [(7, .v (.int .i64 (x.2.1 : Int)))]) (fun (x : Bool × Nat × Mach × Abs) => match x.1 with | false => [(0, some (.box [.pin (u0 0) 2 (m.rs.map encRo), .pin (u0 1) 1 (m.en.map encO), .pin (u0 2) 1 (m.ra.map encO), .nst (some (u0 3)) 4 (m.cp.map (encIf 154 183))])), (1, some (.row 4 1 (x.2.2.2.en.map encO))), (2, some (.row 4 1 (x.2.2.2.ra.map encO))), (3, some (.row 4 1 (x.2.2.2.po.map encO))), (4, some (.row 3 1 (x.2.2.2.ma.map Rf.encI))), (5, some (.nest 26 1 (x.2.2.2.st.map encSt) [])), (6, some (.box [.own 1, .own 2, .own 3, .own 4, .own 5]))] | true => [(0, some (.box [.own 7, .own 8, .own 9, .own 10])), (1, some (.row 4 1 (x.2.2.2.en.map encO))), (2, some (.row 4 1 (x.2.2.2.ra.map encO))), (3, some (.row 4 1 (x.2.2.2.po.map encO))), (4, some (.row 3 1 (x.2.2.2.ma.map Rf.encI))), (5, some (.nest 26 1 (x.2.2.2.st.map encSt) [])), (6, some (.box [.own 1, .own 2, .own 3, .own 4, .own 5])), (7, some (.row 118 2 (x.2.2.1.rs.map encRo))), (8, some (.row 4 1 (x.2.2.1.en.map encO))), (9, some (.row 4 1 (x.2.2.1.ra.map encO))), (10, some (.nest 113 4 (x.2.2.1.cp.map (encIf 154 183)) []))]) (fun (x : Bool × Nat × Mach × Abs) => x.2.1 ≤ ss.length ∧ agN m ss x.2.1 = some x.2.2 ∧ AgF m x.2.2 ∧ (x.1 = false → x.2.2.1 = m)) (fun (x : Bool × Nat × Mach × Abs) => ss.length - x.2.1) (false, 0, m, abOf m) rfl rfl ?_ ?_ ?_ ?_))
 ·exact ⟨Nat.zero_le _, rfl, agF_0 hM.g, fun _ => rfl⟩
 ·exact ⟨⟨_, rfl, by rfl⟩, rfl, trivial⟩
 ·exact ⟨⟨_, rfl, by rfl⟩, rfl, rfl, ⟨⟨_, rfl, by rfl⟩, rfl, rfl, ⟨⟨_, rfl, by rfl⟩, rfl, rfl, ⟨⟨_, rfl, by rfl⟩, rfl, rfl, ⟨⟨_, rfl, by rfl⟩, rfl, rfl, ⟨⟨_, rfl, by rfl⟩, rfl, rfl, ⟨⟨_, rfl, by rfl⟩, rfl, rfl, trivial⟩⟩⟩⟩⟩⟩⟩
 intro x hinv
 obtain ⟨ph, i, m1, a1⟩ := x; obtain ⟨hi, hag, hF, hph⟩ := hinv; dsimp only at hi hag hF hph; cases ph
 ·have e : m = m1 := (hph rfl).symm
  subst e
  have hvm := hv i
  have hva : i < ss.length → stepV a1.ma.length (ss.getD i default) = true := fun h => vm203
  have hsz := hF.g.small
  dsimp only
  simp only [List.cons_append, List.nil_append]
  refine zcd (fun h3 => ?_) (fun h3 => ?_)
  ·refine vm100 ?_
   refine W_block (W_sq ?_)
   by_cases hno : nopM m (ss.getD i default)
   ·have hk0 := stM_no hno
    refine W_drawsH 14 [0, 1, 2, 3, 4, 5, 6] mixed vm175 rfl rfl (fun r0 => ?_) (fun _ h => h)
    refine vm23 ?_
    refine zsa 4 ?_
    refine WA_more (N := 12) rfl (WAV_startH (fuel := 8) [⟨10, 8, 11, true, .box (avR [.slice none 0 0, .slice none 0 0, .slice none 0 0, .slice none 0 0] [])⟩] (AllVOK.cons (VOK.boxS G rfl rfl rfl rfl rfl) (AllVOK.nil)) (fun hok => ?_))
    refine WAV_go [(5, [])] vm175 vm175 (fun e he => hok e he) vm175 (AllVS.cons ?_ AllVS.nil)
    refine VStep.mk0 [0, 1, 2, 3, 4, 5, 6] rfl rfl (fun b1 _ hbn => WX_call 16 rfl rfl rfl (ArgsOK.of rfl) (c_spec_l21Make_no m (ss.getD i default).k (ss.getD i default).q (ss.getD i default).c (ss.getD i default).v hF.g (hvm (by omega)) hno) rfl rfl (WL_nil rfl)) vm175 vm175 vm175 vm175 (WAV_take 6 rfl vm175 rfl rfl rfl rfl (q_move rfl rfl) vm175 vm175 vm175 (WAV_take 7 rfl vm175 rfl rfl rfl rfl (q_extract rfl rfl rfl) vm175 vm175 vm175 (WAV_take 8 rfl vm175 rfl rfl rfl rfl (q_extract rfl rfl rfl) vm175 vm175 vm175 (WAV_take 9 rfl vm175 rfl rfl rfl rfl (q_extract rfl rfl rfl) vm175 vm175 vm175 (WAV_go [(11, [10])] vm175 vm175 (fun e he => hok e he) vm175 (AllVS.cons ?_ AllVS.nil))))))
    refine vm57 ?_
    clear hok
    refine zsa 12 ?_
    refine zsa 13 ?_
    refine vm15 ?_
    refine W_sq (W_drawsH 16 [0, 1, 2, 3, 4, 5, 6, 11, 12, 13, 14, 15] mixed vm175 rfl rfl (fun r0 => ?_) (fun _ h => h))
    refine vm99 ?_
    refine WA_more (N := 17) rfl (WAV_startH (fuel := 8) [⟨12, 11, 16, true, .box (avR [.slice none 0 0, .slice none 0 0, .slice none 0 0, .slice none 0 0, .slice none 0 0] [])⟩] (AllVOK.cons (VOK.boxS G rfl rfl rfl rfl rfl) (AllVOK.nil)) (fun hok => ?_))
    refine WAV_go [(7, [])] vm175 vm175 (fun e he => hok e he) vm175 (AllVS.cons ?_ AllVS.nil)
    refine VStep.mk0 [0, 1, 2, 3, 4, 5, 6, 11, 12, 13, 14, 15] rfl rfl (fun b1 _ hbn => WX_call 22 rfl rfl rfl (ArgsOK.of rfl) (c_spec_l25Make m.rs a1 (ss.getD i default).k (ss.getD i default).q (ss.getD i default).c (ss.getD i default).v hF.f (hva (by omega))) rfl rfl (WL_nil rfl)) vm175 vm175 vm175 vm175 (WAV_take 8 rfl vm175 rfl rfl rfl rfl (q_move rfl rfl) vm175 vm175 vm175 (WAV_take 9 rfl vm175 rfl rfl rfl rfl (q_extract rfl rfl rfl) vm175 vm175 vm175 (WAV_take 10 rfl vm175 rfl rfl rfl rfl (q_extract rfl rfl rfl) vm175 vm175 vm175 (WAV_take 11 rfl vm175 rfl rfl rfl rfl (q_extract rfl rfl rfl) vm175 vm175 vm175 (WAV_go [(13, [12])] vm175 vm175 (fun e he => hok e he) vm175 (AllVS.cons ?_ AllVS.nil))))))
    refine vm49 ?_
    clear hok
    refine zsa 14 ?_
    refine zsa 15 ?_
    refine vm15 ?_
    refine W_sq (W_sq (W_drawsH 18 [0, 1, 2, 3, 4, 5, 6, 11, 12, 13, 14, 15, 16, 17, 18, 19, 20, 21] mixed vm175 rfl rfl (fun r0 => ?_) (fun _ h => h)))
    refine vm22 ?_
    refine WA_part (gd := 58) rfl (fun h4 => ?_) (fun h4 => ?_)
    ·try rw [h4]
     try simp only [rfb] at h4
     have hst : agS (m, a1) (ss.getD i default) = none := agS_ne (by show (stM m (ss.getD i default)).2.2 ≠ (makeA m.rs a1 (ss.getD i default)).2.2; rw [hk0]; first | exact h4 | (intro e; rw [← e] at h4; cases h4) | simpa using h4)
     have hR : agT m ss = ((i : Int), true) := by rw [hRt, agI_at hag (by omega) hst]
     refine vm89 ?_
     refine W_ret (fin_many rfl rfl rfl rfl (rcs_cons (rc_v ?_) (rcs_cons (rc_v ?_) rcs_nil)))
     all_goals exact vm107
    try rw [h4]
    try simp only [rfb] at h4
    have hfi : (makeA m.rs a1 (ss.getD i default)).2.2 = false := (by first | exact h4 | simpa using h4)
    have hst : agS (m, a1) (ss.getD i default) = some (m, a1) := agS_no (by show (stM m (ss.getD i default)).2.2 = (makeA m.rs a1 (ss.getD i default)).2.2; rw [hk0]; exact hfi.symm) hk0
    refine vm61 ?_
    refine vm92 ?_
    refine ⟨(false, i + 1, m, a1), ?_, ?_, ⟨⟨_, rfl, by rfl⟩, rfl, trivial⟩, ⟨⟨_, rfl, by rfl⟩, rfl, rfl, ⟨⟨_, rfl, by rfl⟩, rfl, rfl, ⟨⟨_, rfl, by rfl⟩, rfl, rfl, ⟨⟨_, rfl, by rfl⟩, rfl, rfl, ⟨⟨_, rfl, by rfl⟩, rfl, rfl, ⟨⟨_, rfl, by rfl⟩, rfl, rfl, ⟨⟨_, rfl, by rfl⟩, rfl, rfl, trivial⟩⟩⟩⟩⟩⟩⟩, rfl, rfl, rfl⟩
    ·exact ⟨by dsimp only; omega, by dsimp only; rw [agN_succ hag]; exact hst, hF, fun _ => rfl⟩
    dsimp only; omega
   refine W_drawsH 14 [0, 1, 2, 3, 4, 5, 6] mixed vm175 rfl rfl (fun r0 => ?_) (fun _ h => h)
   refine vm23 ?_
   refine zsa 4 ?_
   refine WA_more (N := 12) rfl (WAV_startH (fuel := 8) [⟨10, 8, 11, true, .box (avR [.slice none 0 0, .slice none 0 0, .slice none 0 0, .slice none 0 0] [])⟩] (AllVOK.cons (VOK.boxS G rfl rfl rfl rfl rfl) (AllVOK.nil)) (fun hok => ?_))
   refine WAV_go [(5, [])] vm175 vm175 (fun e he => hok e he) vm175 (AllVS.cons ?_ AllVS.nil)
   refine VStep.mk0 [0, 1, 2, 3, 4, 5, 6] rfl rfl (fun b1 _ hbn => WX_call 16 rfl rfl rfl (ArgsOK.of rfl) (c_spec_l21Make m (ss.getD i default).k (ss.getD i default).q (ss.getD i default).c (ss.getD i default).v hF.g (hvm (by omega)) hno) rfl rfl (WL_nil rfl)) vm175 vm175 vm175 vm175 (WAV_take 6 rfl vm175 rfl rfl rfl rfl (q_move rfl rfl) vm175 vm175 vm175 (WAV_take 7 rfl vm175 rfl rfl rfl rfl (q_extract rfl rfl rfl) vm175 vm175 vm175 (WAV_take 8 rfl vm175 rfl rfl rfl rfl (q_extract rfl rfl rfl) vm175 vm175 vm175 (WAV_take 9 rfl vm175 rfl rfl rfl rfl (q_extract rfl rfl rfl) vm175 vm175 vm175 (WAV_go [(11, [10])] vm175 vm175 (fun e he => hok e he) vm175 (AllVS.cons ?_ AllVS.nil))))))
   refine vm57 ?_
   clear hok
   refine zsa 12 ?_
   refine zsa 13 ?_
   refine vm15 ?_
   refine W_sq (W_drawsH 16 [0, 1, 2, 3, 4, 5, 6, 11, 12, 13, 14, 15] mixed vm175 rfl rfl (fun r0 => ?_) (fun _ h => h))
   refine vm99 ?_
   refine WA_more (N := 17) rfl (WAV_startH (fuel := 8) [⟨12, 11, 16, true, .box (avR [.slice none 0 0, .slice none 0 0, .slice none 0 0, .slice none 0 0, .slice none 0 0] [])⟩] (AllVOK.cons (VOK.boxS G rfl rfl rfl rfl rfl) (AllVOK.nil)) (fun hok => ?_))
   refine WAV_go [(7, [])] vm175 vm175 (fun e he => hok e he) vm175 (AllVS.cons ?_ AllVS.nil)
   refine VStep.mk0 [0, 1, 2, 3, 4, 5, 6, 11, 12, 13, 14, 15] rfl rfl (fun b1 _ hbn => WX_call 22 rfl rfl rfl (ArgsOK.of rfl) (c_spec_l25Make m.rs a1 (ss.getD i default).k (ss.getD i default).q (ss.getD i default).c (ss.getD i default).v hF.f (hva (by omega))) rfl rfl (WL_nil rfl)) vm175 vm175 vm175 vm175 (WAV_take 8 rfl vm175 rfl rfl rfl rfl (q_move rfl rfl) vm175 vm175 vm175 (WAV_take 9 rfl vm175 rfl rfl rfl rfl (q_extract rfl rfl rfl) vm175 vm175 vm175 (WAV_take 10 rfl vm175 rfl rfl rfl rfl (q_extract rfl rfl rfl) vm175 vm175 vm175 (WAV_take 11 rfl vm175 rfl rfl rfl rfl (q_extract rfl rfl rfl) vm175 vm175 vm175 (WAV_go [(13, [12])] vm175 vm175 (fun e he => hok e he) vm175 (AllVS.cons ?_ AllVS.nil))))))
   refine vm49 ?_
   clear hok
   refine zsa 14 ?_
   refine zsa 15 ?_
   refine vm15 ?_
   refine W_sq (W_sq (W_drawsH 18 [0, 1, 2, 3, 4, 5, 6, 11, 12, 13, 14, 15, 16, 17, 18, 19, 20, 21] mixed vm175 rfl rfl (fun r0 => ?_) (fun _ h => h)))
   refine vm22 ?_
   refine WA_part (gd := 58) rfl (fun h5 => ?_) (fun h5 => ?_)
   ·try rw [h5]
    try simp only [rfb] at h5
    have hst : agS (m, a1) (ss.getD i default) = none := agS_ne (by show (stM m (ss.getD i default)).2.2 ≠ (makeA m.rs a1 (ss.getD i default)).2.2; first | exact h5 | simpa using h5)
    have hR : agT m ss = ((i : Int), true) := by rw [hRt, agI_at hag (by omega) hst]
    refine vm89 ?_
    refine W_ret (fin_many rfl rfl rfl rfl (rcs_cons (rc_v ?_) (rcs_cons (rc_v ?_) rcs_nil)))
    all_goals exact vm107
   try rw [h5]
   try simp only [rfb] at h5
   have heq : (stM m (ss.getD i default)).2.2 = (makeA m.rs a1 (ss.getD i default)).2.2 := (by first | exact h5 | simpa using h5)
   refine vm61 ?_
   refine WA_part (gd := 60) rfl (fun h6 => ?_) (fun h6 => ?_)
   ·try rw [h6]
    try simp only [rfb] at h6
    have hok : (stM m (ss.getD i default)).2.2 = true := h6
    have hFn := agF_s hF (hv i (by omega)) hok
    refine vm36 ?_
    refine WA_part (gd := 64) rfl (fun h7 => ?_) (fun h7 => ?_)
    ·try rw [h7]
     try simp only [rfb] at h7
     have hst : agS (m, a1) (ss.getD i default) = none := agS_f heq hok (fun e => h7 e.1)
     have hR : agT m ss = ((i : Int), true) := by rw [hRt, agI_at hag (by omega) hst]
     refine vm9 ?_
     refine zwt ?_
     refine zgo ?_
     refine W_ret (fin_many rfl rfl rfl rfl (rcs_cons (rc_v ?_) (rcs_cons (rc_v ?_) rcs_nil)))
     all_goals exact vm107
    try rw [h7]
    try simp only [rfb] at h7
    have hir : (stM m (ss.getD i default)).2.1 = (makeA m.rs a1 (ss.getD i default)).2.1 := h7
    refine zsa 10 ?_
    refine zsa 12 ?_
    refine WA_branch (rs := [11]) vm175 rfl (AllB.cons ?_ AllB.nil)
    refine WB_grun [0, 1, 2, 3, 4, 5, 6, 11, 12, 13, 14, 15, 16, 17, 18, 19, 20, 21] rfl rfl rfl rfl (WX_call 27 rfl rfl rfl (ArgsOK.of rfl) (c_spec_l25Of_g _ hFn.g hFn.g.small) rfl rfl (WL_nil ⟨rfl, ?_⟩))
    refine WA_branch (rs := [13]) vm175 rfl (AllB.cons ?_ AllB.nil)
    refine WB_grun [0, 1, 2, 3, 4, 5, 6, 11, 12, 13, 14, 15, 16, 17, 18, 19, 20, 21] rfl rfl rfl rfl (WX_q rfl rfl (q_call rfl (ArgsOK.of rfl) (c_spec_l25Same _ _ _ (abOf_F hFn.g) hFn.f) rfl) (WL_nil ⟨rfl, ?_⟩))
    refine zsa 14 ?_
    refine zsa 15 ?_
    refine zsa 16 ?_
    refine zsa 17 ?_
    refine vm15 ?_
    refine zcd (fun h8 => ?_) (fun h8 => ?_)
    ·have hst : agS (m, a1) (ss.getD i default) = none := agS_f heq hok (fun e => by have e2 := eqAb_iff.mpr e.2; rw [h8] at e2; cases e2)
     have hR : agT m ss = ((i : Int), true) := by rw [hRt, agI_at hag (by omega) hst]
     refine zgo ?_
     refine W_ret (fin_many rfl rfl rfl rfl (rcs_cons (rc_v ?_) (rcs_cons (rc_v ?_) rcs_nil)))
     all_goals exact vm107
    have hst : agS (m, a1) (ss.getD i default) = some ((stM m (ss.getD i default)).1, (makeA m.rs a1 (ss.getD i default)).1) := agS_t heq hok hir (eqAb_iff.mp h8)
    refine zwt ?_
    refine zgn ?_
    refine zgn ?_
    refine vm41 ?_
    refine WL_gh (Gh.sub 17 1 np rfl rfl rfl) (WL_gh (Gh.sub 18 2 np rfl rfl rfl) (WL_gh (Gh.sub 19 3 np rfl rfl rfl) (WL_gh (Gh.sub 20 4 np rfl rfl rfl) (WL_gh (Gh.sub 21 5 np rfl rfl rfl) (WL_gh (Gh.sub 12 7 np rfl rfl rfl) (WL_gh (Gh.sub 13 8 np rfl rfl rfl) (WL_gh (Gh.sub 14 9 np rfl rfl rfl) (WL_gh (Gh.sub 15 10 np rfl rfl rfl) (WL_nil ⟨(true, i + 1, (stM m (ss.getD i default)).1, (makeA m.rs a1 (ss.getD i default)).1), ?_, ?_, ⟨⟨_, rfl, by rfl⟩, rfl, trivial⟩, ⟨⟨_, rfl, by rfl⟩, rfl, rfl, ⟨⟨_, rfl, by rfl⟩, rfl, rfl, ⟨⟨_, rfl, by rfl⟩, rfl, rfl, ⟨⟨_, rfl, by rfl⟩, rfl, rfl, ⟨⟨_, rfl, by rfl⟩, rfl, rfl, ⟨⟨_, rfl, by rfl⟩, rfl, rfl, ⟨⟨_, rfl, by rfl⟩, rfl, rfl, ⟨⟨_, rfl, by rfl⟩, rfl, rfl, ⟨⟨_, rfl, by rfl⟩, rfl, rfl, ⟨⟨_, rfl, by rfl⟩, rfl, rfl, ⟨⟨_, rfl, by rfl⟩, rfl, rfl, trivial⟩⟩⟩⟩⟩⟩⟩⟩⟩⟩⟩, rfl, rfl, rfl⟩)))))))))
    ·exact ⟨by dsimp only; omega, by dsimp only; rw [agN_succ hag]; exact hst, hFn, fun e => by cases e⟩
    dsimp only; omega
   try rw [h6]
   try simp only [rfb] at h6
   have hok : (stM m (ss.getD i default)).2.2 = false := h6
   have hst : agS (m, a1) (ss.getD i default) = some (m, a1) := agS_no heq hok
   refine vm92 ?_
   refine ⟨(false, i + 1, m, a1), ?_, ?_, ⟨⟨_, rfl, by rfl⟩, rfl, trivial⟩, ⟨⟨_, rfl, by rfl⟩, rfl, rfl, ⟨⟨_, rfl, by rfl⟩, rfl, rfl, ⟨⟨_, rfl, by rfl⟩, rfl, rfl, ⟨⟨_, rfl, by rfl⟩, rfl, rfl, ⟨⟨_, rfl, by rfl⟩, rfl, rfl, ⟨⟨_, rfl, by rfl⟩, rfl, rfl, ⟨⟨_, rfl, by rfl⟩, rfl, rfl, trivial⟩⟩⟩⟩⟩⟩⟩, rfl, rfl, rfl⟩
   ·exact ⟨by dsimp only; omega, by dsimp only; rw [agN_succ hag]; exact hst, hF, fun _ => rfl⟩
   dsimp only; omega
  have hR : agT m ss = ((ss.length : Int), true) := by rw [hRt, agI_end hag (by omega)]
  refine zgo ?_
  refine W_ret (fin_many rfl rfl rfl rfl (rcs_cons (rc_v ?_) (rcs_cons (rc_v ?_) rcs_nil)))
  all_goals exact vm107
 have hvm : i < ss.length → stepV m1.cp.length (ss.getD i default) = true := fun h => (by rw [show m1.cp.length = m.cp.length from hF.n]; exact hv i h)
 have hva : i < ss.length → stepV a1.ma.length (ss.getD i default) = true := fun h => vm203
 have hsz := hF.g.small
 dsimp only
 simp only [List.cons_append, List.nil_append]
 refine zcd (fun h9 => ?_) (fun h9 => ?_)
 ·refine vm100 ?_
  refine W_block (W_sq ?_)
  by_cases hno : nopM m1 (ss.getD i default)
  ·have hk0 := stM_no hno
   refine W_drawsH 14 [0, 1, 2, 3, 4, 5, 6, 7, 8, 9, 10] mixed vm175 rfl rfl (fun r0 => ?_) (fun _ h => h)
   refine vm23 ?_
   refine zsa 4 ?_
   refine WA_more (N := 12) rfl (WAV_startH (fuel := 8) [⟨10, 8, 11, true, .box (avR [.slice none 0 0, .slice none 0 0, .slice none 0 0, .slice none 0 0] [])⟩] (AllVOK.cons (VOK.boxS G rfl rfl rfl rfl rfl) (AllVOK.nil)) (fun hok => ?_))
   refine WAV_go [(5, [])] vm175 vm175 (fun e he => hok e he) vm175 (AllVS.cons ?_ AllVS.nil)
   refine VStep.mk0 [0, 1, 2, 3, 4, 5, 6, 7, 8, 9, 10] rfl rfl (fun b1 _ hbn => WX_call 16 rfl rfl rfl (ArgsOK.of rfl) (c_spec_l21Make_no m1 (ss.getD i default).k (ss.getD i default).q (ss.getD i default).c (ss.getD i default).v hF.g (hvm (by omega)) hno) rfl rfl (WL_nil rfl)) vm175 vm175 vm175 vm175 (WAV_take 6 rfl vm175 rfl rfl rfl rfl (q_move rfl rfl) vm175 vm175 vm175 (WAV_take 7 rfl vm175 rfl rfl rfl rfl (q_extract rfl rfl rfl) vm175 vm175 vm175 (WAV_take 8 rfl vm175 rfl rfl rfl rfl (q_extract rfl rfl rfl) vm175 vm175 vm175 (WAV_take 9 rfl vm175 rfl rfl rfl rfl (q_extract rfl rfl rfl) vm175 vm175 vm175 (WAV_go [(11, [10])] vm175 vm175 (fun e he => hok e he) vm175 (AllVS.cons ?_ AllVS.nil))))))
   refine vm53 ?_
   clear hok
   refine zsa 12 ?_
   refine zsa 13 ?_
   refine vm15 ?_
   refine W_sq (W_drawsH 16 [0, 1, 2, 3, 4, 5, 6, 7, 8, 9, 10, 11, 12, 13, 14, 15] mixed vm175 rfl rfl (fun r0 => ?_) (fun _ h => h))
   refine vm99 ?_
   refine WA_more (N := 17) rfl (WAV_startH (fuel := 8) [⟨12, 11, 16, true, .box (avR [.slice none 0 0, .slice none 0 0, .slice none 0 0, .slice none 0 0, .slice none 0 0] [])⟩] (AllVOK.cons (VOK.boxS G rfl rfl rfl rfl rfl) (AllVOK.nil)) (fun hok => ?_))
   refine WAV_go [(7, [])] vm175 vm175 (fun e he => hok e he) vm175 (AllVS.cons ?_ AllVS.nil)
   refine VStep.mk0 [0, 1, 2, 3, 4, 5, 6, 7, 8, 9, 10, 11, 12, 13, 14, 15] rfl rfl (fun b1 _ hbn => WX_call 22 rfl rfl rfl (ArgsOK.of rfl) (c_spec_l25Make m1.rs a1 (ss.getD i default).k (ss.getD i default).q (ss.getD i default).c (ss.getD i default).v hF.f (hva (by omega))) rfl rfl (WL_nil rfl)) vm175 vm175 vm175 vm175 (WAV_take 8 rfl vm175 rfl rfl rfl rfl (q_move rfl rfl) vm175 vm175 vm175 (WAV_take 9 rfl vm175 rfl rfl rfl rfl (q_extract rfl rfl rfl) vm175 vm175 vm175 (WAV_take 10 rfl vm175 rfl rfl rfl rfl (q_extract rfl rfl rfl) vm175 vm175 vm175 (WAV_take 11 rfl vm175 rfl rfl rfl rfl (q_extract rfl rfl rfl) vm175 vm175 vm175 (WAV_go [(13, [12])] vm175 vm175 (fun e he => hok e he) vm175 (AllVS.cons ?_ AllVS.nil))))))
   refine vm48 ?_
   clear hok
   refine zsa 14 ?_
   refine zsa 15 ?_
   refine vm15 ?_
   refine W_sq (W_sq (W_drawsH 18 [0, 1, 2, 3, 4, 5, 6, 7, 8, 9, 10, 11, 12, 13, 14, 15, 16, 17, 18, 19, 20, 21] mixed vm175 rfl rfl (fun r0 => ?_) (fun _ h => h)))
   refine vm22 ?_
   refine WA_part (gd := 58) rfl (fun h10 => ?_) (fun h10 => ?_)
   ·try rw [h10]
    try simp only [rfb] at h10
    have hst : agS (m1, a1) (ss.getD i default) = none := agS_ne (by show (stM m1 (ss.getD i default)).2.2 ≠ (makeA m1.rs a1 (ss.getD i default)).2.2; rw [hk0]; first | exact h10 | (intro e; rw [← e] at h10; cases h10) | simpa using h10)
    have hR : agT m ss = ((i : Int), true) := by rw [hRt, agI_at hag (by omega) hst]
    refine vm89 ?_
    refine W_ret (fin_many rfl rfl rfl rfl (rcs_cons (rc_v ?_) (rcs_cons (rc_v ?_) rcs_nil)))
    all_goals exact vm107
   try rw [h10]
   try simp only [rfb] at h10
   have hfi : (makeA m1.rs a1 (ss.getD i default)).2.2 = false := (by first | exact h10 | simpa using h10)
   have hst : agS (m1, a1) (ss.getD i default) = some (m1, a1) := agS_no (by show (stM m1 (ss.getD i default)).2.2 = (makeA m1.rs a1 (ss.getD i default)).2.2; rw [hk0]; exact hfi.symm) hk0
   refine vm61 ?_
   refine vm92 ?_
   refine ⟨(true, i + 1, m1, a1), ?_, ?_, ⟨⟨_, rfl, by rfl⟩, rfl, trivial⟩, ⟨⟨_, rfl, by rfl⟩, rfl, rfl, ⟨⟨_, rfl, by rfl⟩, rfl, rfl, ⟨⟨_, rfl, by rfl⟩, rfl, rfl, ⟨⟨_, rfl, by rfl⟩, rfl, rfl, ⟨⟨_, rfl, by rfl⟩, rfl, rfl, ⟨⟨_, rfl, by rfl⟩, rfl, rfl, ⟨⟨_, rfl, by rfl⟩, rfl, rfl, ⟨⟨_, rfl, by rfl⟩, rfl, rfl, ⟨⟨_, rfl, by rfl⟩, rfl, rfl, ⟨⟨_, rfl, by rfl⟩, rfl, rfl, ⟨⟨_, rfl, by rfl⟩, rfl, rfl, trivial⟩⟩⟩⟩⟩⟩⟩⟩⟩⟩⟩, rfl, rfl, rfl⟩
   ·exact ⟨by dsimp only; omega, by dsimp only; rw [agN_succ hag]; exact hst, hF, fun e => by cases e⟩
   dsimp only; omega
  refine W_drawsH 14 [0, 1, 2, 3, 4, 5, 6, 7, 8, 9, 10] mixed vm175 rfl rfl (fun r0 => ?_) (fun _ h => h)
  refine vm23 ?_
  refine zsa 4 ?_
  refine WA_more (N := 12) rfl (WAV_startH (fuel := 8) [⟨10, 8, 11, true, .box (avR [.slice none 0 0, .slice none 0 0, .slice none 0 0, .slice none 0 0] [])⟩] (AllVOK.cons (VOK.boxS G rfl rfl rfl rfl rfl) (AllVOK.nil)) (fun hok => ?_))
  refine WAV_go [(5, [])] vm175 vm175 (fun e he => hok e he) vm175 (AllVS.cons ?_ AllVS.nil)
  refine VStep.mk0 [0, 1, 2, 3, 4, 5, 6, 7, 8, 9, 10] rfl rfl (fun b1 _ hbn => WX_call 16 rfl rfl rfl (ArgsOK.of rfl) (c_spec_l21Make m1 (ss.getD i default).k (ss.getD i default).q (ss.getD i default).c (ss.getD i default).v hF.g (hvm (by omega)) hno) rfl rfl (WL_nil rfl)) vm175 vm175 vm175 vm175 (WAV_take 6 rfl vm175 rfl rfl rfl rfl (q_move rfl rfl) vm175 vm175 vm175 (WAV_take 7 rfl vm175 rfl rfl rfl rfl (q_extract rfl rfl rfl) vm175 vm175 vm175 (WAV_take 8 rfl vm175 rfl rfl rfl rfl (q_extract rfl rfl rfl) vm175 vm175 vm175 (WAV_take 9 rfl vm175 rfl rfl rfl rfl (q_extract rfl rfl rfl) vm175 vm175 vm175 (WAV_go [(11, [10])] vm175 vm175 (fun e he => hok e he) vm175 (AllVS.cons ?_ AllVS.nil))))))
  refine vm53 ?_
  clear hok
  refine zsa 12 ?_
  refine zsa 13 ?_
  refine vm15 ?_
  refine W_sq (W_drawsH 16 [0, 1, 2, 3, 4, 5, 6, 7, 8, 9, 10, 11, 12, 13, 14, 15] mixed vm175 rfl rfl (fun r0 => ?_) (fun _ h => h))
  refine vm99 ?_
  refine WA_more (N := 17) rfl (WAV_startH (fuel := 8) [⟨12, 11, 16, true, .box (avR [.slice none 0 0, .slice none 0 0, .slice none 0 0, .slice none 0 0, .slice none 0 0] [])⟩] (AllVOK.cons (VOK.boxS G rfl rfl rfl rfl rfl) (AllVOK.nil)) (fun hok => ?_))
  refine WAV_go [(7, [])] vm175 vm175 (fun e he => hok e he) vm175 (AllVS.cons ?_ AllVS.nil)
  refine VStep.mk0 [0, 1, 2, 3, 4, 5, 6, 7, 8, 9, 10, 11, 12, 13, 14, 15] rfl rfl (fun b1 _ hbn => WX_call 22 rfl rfl rfl (ArgsOK.of rfl) (c_spec_l25Make m1.rs a1 (ss.getD i default).k (ss.getD i default).q (ss.getD i default).c (ss.getD i default).v hF.f (hva (by omega))) rfl rfl (WL_nil rfl)) vm175 vm175 vm175 vm175 (WAV_take 8 rfl vm175 rfl rfl rfl rfl (q_move rfl rfl) vm175 vm175 vm175 (WAV_take 9 rfl vm175 rfl rfl rfl rfl (q_extract rfl rfl rfl) vm175 vm175 vm175 (WAV_take 10 rfl vm175 rfl rfl rfl rfl (q_extract rfl rfl rfl) vm175 vm175 vm175 (WAV_take 11 rfl vm175 rfl rfl rfl rfl (q_extract rfl rfl rfl) vm175 vm175 vm175 (WAV_go [(13, [12])] vm175 vm175 (fun e he => hok e he) vm175 (AllVS.cons ?_ AllVS.nil))))))
  refine vm48 ?_
  clear hok
  refine zsa 14 ?_
  refine zsa 15 ?_
  refine vm15 ?_
  refine W_sq (W_sq (W_drawsH 18 [0, 1, 2, 3, 4, 5, 6, 7, 8, 9, 10, 11, 12, 13, 14, 15, 16, 17, 18, 19, 20, 21] mixed vm175 rfl rfl (fun r0 => ?_) (fun _ h => h)))
  refine vm22 ?_
  refine WA_part (gd := 58) rfl (fun h11 => ?_) (fun h11 => ?_)
  ·try rw [h11]
   try simp only [rfb] at h11
   have hst : agS (m1, a1) (ss.getD i default) = none := agS_ne (by show (stM m1 (ss.getD i default)).2.2 ≠ (makeA m1.rs a1 (ss.getD i default)).2.2; first | exact h11 | simpa using h11)
   have hR : agT m ss = ((i : Int), true) := by rw [hRt, agI_at hag (by omega) hst]
   refine vm89 ?_
   refine W_ret (fin_many rfl rfl rfl rfl (rcs_cons (rc_v ?_) (rcs_cons (rc_v ?_) rcs_nil)))
   all_goals exact vm107
  try rw [h11]
  try simp only [rfb] at h11
  have heq : (stM m1 (ss.getD i default)).2.2 = (makeA m1.rs a1 (ss.getD i default)).2.2 := (by first | exact h11 | simpa using h11)
  refine vm61 ?_
  refine WA_part (gd := 60) rfl (fun h12 => ?_) (fun h12 => ?_)
  ·try rw [h12]
   try simp only [rfb] at h12
   have hok : (stM m1 (ss.getD i default)).2.2 = true := h12
   have hFn := agF_s hF (hv i (by omega)) hok
   refine vm36 ?_
   refine WA_part (gd := 64) rfl (fun h13 => ?_) (fun h13 => ?_)
   ·try rw [h13]
    try simp only [rfb] at h13
    have hst : agS (m1, a1) (ss.getD i default) = none := agS_f heq hok (fun e => h13 e.1)
    have hR : agT m ss = ((i : Int), true) := by rw [hRt, agI_at hag (by omega) hst]
    refine vm9 ?_
    refine zwt ?_
    refine zgo ?_
    refine W_ret (fin_many rfl rfl rfl rfl (rcs_cons (rc_v ?_) (rcs_cons (rc_v ?_) rcs_nil)))
    all_goals exact vm107
   try rw [h13]
   try simp only [rfb] at h13
   have hir : (stM m1 (ss.getD i default)).2.1 = (makeA m1.rs a1 (ss.getD i default)).2.1 := h13
   refine zsa 10 ?_
   refine zsa 12 ?_
   refine WA_branch (rs := [11]) vm175 rfl (AllB.cons ?_ AllB.nil)
   refine WB_grun [0, 1, 2, 3, 4, 5, 6, 7, 8, 9, 10, 11, 12, 13, 14, 15, 16, 17, 18, 19, 20, 21] rfl rfl rfl rfl (WX_call 27 rfl rfl rfl (ArgsOK.of rfl) (c_spec_l25Of_g _ hFn.g hFn.g.small) rfl rfl (WL_nil ⟨rfl, ?_⟩))
   refine WA_branch (rs := [13]) vm175 rfl (AllB.cons ?_ AllB.nil)
   refine WB_grun [0, 1, 2, 3, 4, 5, 6, 7, 8, 9, 10, 11, 12, 13, 14, 15, 16, 17, 18, 19, 20, 21] rfl rfl rfl rfl (WX_q rfl rfl (q_call rfl (ArgsOK.of rfl) (c_spec_l25Same _ _ _ (abOf_F hFn.g) hFn.f) rfl) (WL_nil ⟨rfl, ?_⟩))
   refine zsa 14 ?_
   refine zsa 15 ?_
   refine zsa 16 ?_
   refine zsa 17 ?_
   refine vm15 ?_
   refine zcd (fun h14 => ?_) (fun h14 => ?_)
   ·have hst : agS (m1, a1) (ss.getD i default) = none := agS_f heq hok (fun e => by have e2 := eqAb_iff.mpr e.2; rw [h14] at e2; cases e2)
    have hR : agT m ss = ((i : Int), true) := by rw [hRt, agI_at hag (by omega) hst]
    refine zgo ?_
    refine W_ret (fin_many rfl rfl rfl rfl (rcs_cons (rc_v ?_) (rcs_cons (rc_v ?_) rcs_nil)))
    all_goals exact vm107
   have hst : agS (m1, a1) (ss.getD i default) = some ((stM m1 (ss.getD i default)).1, (makeA m1.rs a1 (ss.getD i default)).1) := agS_t heq hok hir (eqAb_iff.mp h14)
   refine zwt ?_
   refine zgn ?_
   refine zgn ?_
   refine vm41 ?_
   refine WL_gh (Gh.sub 17 1 np rfl rfl rfl) (WL_gh (Gh.sub 18 2 np rfl rfl rfl) (WL_gh (Gh.sub 19 3 np rfl rfl rfl) (WL_gh (Gh.sub 20 4 np rfl rfl rfl) (WL_gh (Gh.sub 21 5 np rfl rfl rfl) (WL_gh (Gh.sub 12 7 np rfl rfl rfl) (WL_gh (Gh.sub 13 8 np rfl rfl rfl) (WL_gh (Gh.sub 14 9 np rfl rfl rfl) (WL_gh (Gh.sub 15 10 np rfl rfl rfl) (WL_nil ⟨(true, i + 1, (stM m1 (ss.getD i default)).1, (makeA m1.rs a1 (ss.getD i default)).1), ?_, ?_, ⟨⟨_, rfl, by rfl⟩, rfl, trivial⟩, ⟨⟨_, rfl, by rfl⟩, rfl, rfl, ⟨⟨_, rfl, by rfl⟩, rfl, rfl, ⟨⟨_, rfl, by rfl⟩, rfl, rfl, ⟨⟨_, rfl, by rfl⟩, rfl, rfl, ⟨⟨_, rfl, by rfl⟩, rfl, rfl, ⟨⟨_, rfl, by rfl⟩, rfl, rfl, ⟨⟨_, rfl, by rfl⟩, rfl, rfl, ⟨⟨_, rfl, by rfl⟩, rfl, rfl, ⟨⟨_, rfl, by rfl⟩, rfl, rfl, ⟨⟨_, rfl, by rfl⟩, rfl, rfl, ⟨⟨_, rfl, by rfl⟩, rfl, rfl, trivial⟩⟩⟩⟩⟩⟩⟩⟩⟩⟩⟩, rfl, rfl, rfl⟩)))))))))
   ·exact ⟨by dsimp only; omega, by dsimp only; rw [agN_succ hag]; exact hst, hFn, fun e => by cases e⟩
   dsimp only; omega
  try rw [h12]
  try simp only [rfb] at h12
  have hok : (stM m1 (ss.getD i default)).2.2 = false := h12
  have hst : agS (m1, a1) (ss.getD i default) = some (m1, a1) := agS_no heq hok
  refine vm92 ?_
  refine ⟨(true, i + 1, m1, a1), ?_, ?_, ⟨⟨_, rfl, by rfl⟩, rfl, trivial⟩, ⟨⟨_, rfl, by rfl⟩, rfl, rfl, ⟨⟨_, rfl, by rfl⟩, rfl, rfl, ⟨⟨_, rfl, by rfl⟩, rfl, rfl, ⟨⟨_, rfl, by rfl⟩, rfl, rfl, ⟨⟨_, rfl, by rfl⟩, rfl, rfl, ⟨⟨_, rfl, by rfl⟩, rfl, rfl, ⟨⟨_, rfl, by rfl⟩, rfl, rfl, ⟨⟨_, rfl, by rfl⟩, rfl, rfl, ⟨⟨_, rfl, by rfl⟩, rfl, rfl, ⟨⟨_, rfl, by rfl⟩, rfl, rfl, ⟨⟨_, rfl, by rfl⟩, rfl, rfl, trivial⟩⟩⟩⟩⟩⟩⟩⟩⟩⟩⟩, rfl, rfl, rfl⟩
  ·exact ⟨by dsimp only; omega, by dsimp only; rw [agN_succ hag]; exact hst, hF, fun e => by cases e⟩
  dsimp only; omega
 have hR : agT m ss = ((ss.length : Int), true) := by rw [hRt, agI_end hag (by omega)]
 refine zgo ?_
 refine W_ret (fin_many rfl rfl rfl rfl (rcs_cons (rc_v ?_) (rcs_cons (rc_v ?_) rcs_nil)))
 all_goals exact vm107
end Go.Proofs.YtcnodpipinlpcaaGreat
