/- Names for what is said again and again in walks. -/
import Derived.Test.YtcnodpipinlpcaaGreatLibE
set_option linter.unusedVariables false
namespace Go.Rf
theorem vm106 {p : Prop} (h : p := by (first | rfl | (simp [stepV, *]; done) | (simp [stepV, *]; rfl) | (simp [stepV, *, eqCells, eqCell]; done))) : p := h
theorem vm107 {p : Prop} (h : p := by (first | (rw [hR]; done) | (rw [hR]; rfl) | trace_state)) : p := h
theorem vm108 {p : Prop} (h : p := by (simp only [szL]; first | (rw [if_pos (by omega)]; done) | (rw [if_neg (by omega)]; done))) : p := h
theorem vm109 {p : Prop} (h : p := by (first | (rw [idx_some (i := i) hinv.2 (by omega) vm177]; done) | (rw [idx_none hinv.2 (by omega)]; done))) : p := h
theorem vm110 {p : Prop} (h : p := by (first | (exact congrArg Value.bool (okMa_r vm177).symm) | (exact congrArg Value.bool (okMa_l (by omega)).symm) | (exact congrArg Value.bool (okMa_k (k := k) (oneM_1 vm177) (by omega)).symm) | (exact congrArg Value.bool (okMa_k (k := k) (oneM_2 vm177) (by omega)).symm) | (exact congrArg Value.bool (okMa_t h1 (by omega) (by omega) hk.2 (by omega)).symm))) : p := h
theorem vm111 {p : Prop} (h : p := by ((first | rfl | (simp_all; done) | (simp_all; omega)))) : p := h
theorem vm112 {p : Prop} (h : p := by (first | (exact congrArg Value.bool (okPa_w (q := ⟨sl, wa⟩) (i := i) (oneWa_f (fun g => by dsimp only at g; first | exact inside_nt vm177 g.1 | exact inside_nt vm177 g.2.1 | (have := g.2.2.1; omega) | (have h9 := idx_ge.mp (show 0 ≤ idxN (fun j => decide ((wa.getD j default).q = (wa.getD i default).q)) i by omega); obtain ⟨j, hj, e⟩ := anyN_iff.mp h9; exact g.2.2.2.1 j hj (of_decide_eq_true e)) | (rcases g.2.2.2.2 with g1 | g1 <;> first | (exfalso; omega) | (rw [← ht (by omega)] at g1; first | (have := urg_neg.mpr g1; omega) | (simp_all; done))) | exact g.2.2.2.1 _ (by omega) vm177)) (show i < wa.length by omega)).symm) | (exact congrArg Value.bool (okPa_s (q := ⟨sl, wa⟩) vm177).symm) | (exact congrArg Value.bool (okPa_fin vm177 hinv.2 (by omega) (by omega))))) : p := h
theorem vm113 {p : Prop} (h : p := by (first | (have e : l ≠ r := fun e => (by (subst e; omega)); simp [e]; done) | (have e : l = r := eq_true_of (by omega) hinv.2 (by omega); simp [e]; done) | (have e : l ≠ r := eq_false_of (i := i) (fun e => vm204); simp [e]; done))) : p := h
theorem vm114 {p : Prop} (h : p := by (first | (exact congrArg Value.bool (okSl_fin hinv.2 (by omega))) | (rw [okSl_l (by omega)]; done) | (exact congrArg Value.bool (okSl_f (i := i) (spec_bad (fun g => by first | exact inside_nt vm177 g.1 | exact inside_nt vm177 g.2.1 | exact inside_nt vm177 g.2.2)) (by omega)).symm) | (exact congrArg Value.bool (okSl_f (i := i) (by first | exact spec_zf (by omega) (by omega) | exact spec_ff (by omega) (by omega) (by omega)) (by omega)).symm))) : p := h
theorem vm115 {p : Prop} (h : p := by (first | (rw [setd_0 (by omega)]; done) | (rw [setd_f (by omega) (by omega)]; done) | (rw [setd_b (by omega) (by omega)]; done) | (rw [setd_l (by omega) (by omega) (by omega)]; first | rfl | (exact congrArg Value.bool (by rw [Bool.eq_iff_iff, decide_eq_true_iff]; exact urg_pos))) | rfl)) : p := h
theorem vm116 {p : Prop} (h : p := by (first | (rw [hM]; done) | (rw [hM]; (first | rfl | exact List.map_set.symm | exact stSet rfl (take_map (ftn (by omega))) | exact stSet1 rfl (take_map (ftn (by omega))) | exact stSet rfl (by rw [List.map_append]; rfl) | (rw [ftn (by omega)]; done) | (simp only [encSt]; done))))) : p := h
theorem vm117 {p : Prop} (h : p := by (exact fill_end (by omega) (by omega))) : p := h
theorem vm118 {p : Prop} (h : p := by (first | (exact congrArg Value.bool (okSl_l (by omega)).symm) | (exact congrArg Value.bool (okSl_t (by omega) hinv.2 (by omega)).symm) | (exact congrArg Value.bool (okSl_f (i := i) (by first | exact one_zf vm177 (fun e => ec3f vm177 (slot_eta.mp e)) | exact one_f2 vm177 (idx_ge.mp (by omega)) | exact one_f1 vm177 (okS1_a vm177) | exact one_f1 vm177 (okS1_b vm177) | exact one_f1 vm177 (okS1_c vm177)) (by omega)).symm))) : p := h
theorem vm119 {p : Prop} (h : p := by (first | (exact congrArg Value.bool (okPa_s (q := ⟨sl, wa⟩) vm177).symm) | (exact congrArg Value.bool (okPa_t (q := ⟨sl, wa⟩) vm177 hinv.2 (show wa.length ≤ i by omega)).symm) | (exact congrArg Value.bool (okPa_w (q := ⟨sl, wa⟩) (i := i) (oneWa_f (fun g => by dsimp only at g; first | exact inside_nt vm177 g.1 | exact inside_nt vm177 g.2.1 | (have := g.2.2.1; omega) | (have h9 := idx_ge.mp (show 0 ≤ idxN (fun j => decide ((wa.getD j default).q = (wa.getD i default).q)) i by omega); obtain ⟨j, hj, e⟩ := anyN_iff.mp h9; exact g.2.2.2.1 j hj (of_decide_eq_true e)) | (rcases g.2.2.2.2 with g1 | g1 <;> first | (exfalso; omega) | (rw [← ht (by omega)] at g1; first | (have := urg_neg.mpr g1; omega) | (simp_all; done))) | exact g.2.2.2.1 _ (by omega) vm177)) (show i < wa.length by omega)).symm))) : p := h
theorem vm120 {p : Prop} (h : p := by (first | (exact congrArg Value.bool (eqAb_nf (fun e => by subst e; first | omega | (simp_all; done))).symm) | (exact congrArg Value.bool (eqAb_iff.mpr (ab_ext hA hB (by omega) (fun j hj => hi.2 j (by omega)) (fun j hj => hk.2 j (by omega)))).symm))) : p := h
theorem vm121 {p : Prop} (h : p := by (first | (have e : xs ≠ ys := fun e => (by (subst e; simp_all; done)); simp [e]; done) | (have e : xs = ys := eq_true_of (by omega) hinv.2 (by omega); simp [e]; done) | (have e : xs ≠ ys := eq_false_of (i := i) (fun e => vm204); simp [e]; done))) : p := h
theorem vm122 {p : Prop} (h : p := by (first | (rw [nextT_b (i := i) (by omega) (by simp only [topP]; try rw [← ftn]; omega)]; done) | (rw [nextT_g (i := i) (by omega) (by simp only [topP]; try rw [← ftn]; omega)]; done))) : p := h
theorem vm123 {p : Prop} (h : p := by (first | rfl | (unfold offr; rw [ho]; done) | (unfold offr; rw [ho]; rfl))) : p := h
theorem vm124 {p : Prop} (h : p := by (first | (exact congrArg Value.bool (okIf_m h1).symm) | (exact congrArg Value.bool (okIf_q h2).symm) | (exact congrArg Value.bool (okIf_s (okSt_in (i := i) (by omega) (fun g => hasI_nf.mp h4 ((actS_mem 4).mpr g)))).symm) | (obtain ⟨k, hk, e⟩ := (mem_take (by omega)).mp (hasI_iff.mp h5); (exact congrArg Value.bool (okIf_s (okSt_dup hSl hk (by omega) e)).symm)) | (exact congrArg Value.bool (okIf_s (okSt_l (i := i) (lvD_f (by omega) vm208) (by omega))).symm) | (have e : i = x.st.length := (by omega); subst e; rw [okIf_e h1 h2, hinv.2.fin hSl, beqN, actS_len]; done))) : p := h
theorem vm125 {p : Prop} (h : p := by (first | (exact congrArg Value.bool (okRq_t hi.2 (by omega) hj.2 (by omega)).symm) | (exact congrArg Value.bool (okRq_s (i := i) (rtS_nf.mpr (fun g => by first | exact g.1 vm177 | (rcases g.2 with g2 | ⟨g2, g3⟩ <;> first | (exact absurd g2 vm177) | (exact absurd g3 vm177)))) (by omega)).symm) | (exact congrArg Value.bool (okRq_w (i := j) (rtW_nf.mpr (fun g => by first | exact absurd g.1 vm177 | exact absurd g.2 vm177)) (by omega)).symm))) : p := h
theorem vm126 {p : Prop} (h : p := by (first | (rw [hS]; done) | (rw [hS]; (first | rfl | exact List.map_set.symm | (rw [synC_len]; done) | exact setE rfl | (simp only [encIf]; done))))) : p := h
theorem vm127 {p : Prop} (h : p := by (first | (rw [hM]; done) | (rw [hM]; (first | rfl | (have e8 : i = 8 := (by omega); subst e8; rfl) | exact List.map_set.symm | exact stSet rfl (take_map (ftn (by omega))) | exact stSet1 rfl (take_map (ftn (by omega))) | exact stSet rfl (by rw [List.map_append]; rfl) | (rw [ftn (by omega)]; done) | (simp only [encSt]; done))))) : p := h
theorem vm128 {p : Prop} (h : p := by (first | (rw [hS]; done) | (rw [hS]; (first | rfl | exact List.map_set.symm | exact setE rfl | (simp only [List.set_set, Int.toNat_natCast]; exact setE rfl) | exact congrArg Value.bool (decide_eq_true (by omega)))))) : p := h
theorem vm129 {p : Prop} (h : p := by (first | rfl | (simp_all [eqMs]; done) | (simp_all [eqMs]; omega))) : p := h
theorem vm130 {p : Prop} (h : p := by (first | (exact congrArg Value.bool (okIf_m h1).symm) | (exact congrArg Value.bool (okIf_q h2).symm) | (exact congrArg Value.bool (okIf_s (okSt_p h3)).symm) | (exact congrArg Value.bool (okIf_s (okSt_l (i := i) (lvD_f (by omega) vm208) (by omega))).symm) | (exact congrArg Value.bool (okIf_t h1 h2 (okSt_t h3 hinv.2 (by omega))).symm))) : p := h
theorem vm131 {p : Prop} (h : p := by (first | rfl | (simp_all; done))) : p := h
theorem vm132 {p : Prop} (h : p := by (first | rfl | (simp only [eqAb, *, Bool.true_and, Bool.false_and]; done) | (simp_all [eqAb]; done))) : p := h
theorem vm133 {p : Prop} (h : p := by (simp only [szMa]; first | (rw [if_pos vm177]; done) | (rw [if_neg (by omega), if_pos (by omega)]; done) | (rw [if_neg (by omega), if_neg (by omega), if_pos (by omega)]; done) | (rw [if_neg (by omega), if_neg (by omega), if_neg (by omega), szFS_neg vm177]; done) | (rw [if_neg (by omega), if_neg (by omega), if_neg (by omega)]; done))) : p := h
theorem vm134 {p : Prop} (h : p := by (first | rfl | (simp_all [eqMa]; done))) : p := h
theorem vm135 {p : Prop} (h : p := by (first | rfl | (simp_all [inside]; done) | (simp_all [inside]; omega))) : p := h
theorem vm136 {p : Prop} (h : p := by (first | (have e : allN rs.length (fun i => okRt c (rs.getD i default)) = false := allN_f (i := i) (by simp_all [okRt]) (by omega); simp only [okRts, e, Bool.and_false]; done) | (have e : allN rs.length (fun i => okRt c (rs.getD i default)) = true := allN_t hinv.2 (by omega); first | (simp only [okRts, e, h4, beq8, Bool.and_true, Bool.true_and, Bool.false_and]; done)))) : p := h
theorem vm137 {p : Prop} (h : p := by (first | rfl | (simp only [okQu, h1, Bool.true_and, Bool.false_and]; done) | (simp only [okQu, *, Bool.true_and, Bool.false_and]; done))) : p := h
theorem vm138 {p : Prop} (h : p := by (first | rfl | (rw [ptS_2 vm177]; done) | (rw [ptS_2 vm177]; rfl) | (rw [ptS_n vm177]; done) | (rw [ptS_n vm177]; rfl))) : p := h
theorem vm139 {p : Prop} (h : p := by (first | (rw [runP_0 (by omega)]; done) | (rw [runP_1 (by omega), htn]; done) | (rw [runP_1 (by omega), ← htn]; done))) : p := h
theorem vm140 {p : Prop} (h : p := by ((rw [putI_at hk.2 hk.1 (by first | exact .inl (by omega) | exact .inr ⟨by omega, by omega⟩), cut_take, cut_rest]; simp [Rf.encI]; done))) : p := h
theorem vm141 {p : Prop} (h : p := by (first | rfl | (rw [edS_n (by omega)]; done) | (rw [edS_n (by omega)]; rfl) | (rw [edS_3 (by omega)]; done) | (rw [edS_3 (by omega)]; rfl) | (rw [edS_3q h0 (by omega)]; done) | (rw [edS_3q h0 (by omega)]; rfl))) : p := h
theorem vm142 {p : Prop} (h : p := by (first | rfl | (exfalso; simp_all; done))) : p := h
theorem vm143 {p : Prop} (h : p := by (first | rfl | (simp_all [eqSl]; done) | (simp_all [eqSl]; omega))) : p := h
theorem vm144 {p : Prop} (h : p := by (first | rfl | (simp_all [eqIf]; done))) : p := h
theorem vm145 {p : Prop} (h : p := by (first | rfl | (simp_all [eqRt]; done) | (simp_all [eqRt]; omega))) : p := h
theorem vm146 {p : Prop} (h : p := by (first | (have e : xs ≠ ys := fun e => (by (subst e; simp_all [eqRt]; done)); simp [e]; done) | (have e : xs = ys := eq_true_of (by omega) hinv.2 (by omega); simp [e]; done) | (have e : xs ≠ ys := eq_false_of (i := i) (fun e => (by simp_all [eqRt])); simp [e]; done))) : p := h
theorem vm147 {p : Prop} (h : p := by (first | (have e : xs ≠ ys := fun e => (by (subst e; simp_all [eqMs]; done)); simp [e]; done) | (have e : xs = ys := eq_true_of (by omega) hinv.2 (by omega); simp [e]; done) | (have e : xs ≠ ys := eq_false_of (i := i) (fun e => (by simp_all [eqMs])); simp [e]; done))) : p := h
theorem vm148 {p : Prop} (h : p := by (first | rfl | (simp only [okRts, h1, Bool.true_and, Bool.false_and]; done) | (have e8 : rs.length = 8 := Int.ofNat_inj.mp h2; simp only [okRts, h1, e8, decide_true, Bool.true_and, anyN, Bool.not_not]; done) | (simp only [okRts, h1, show ¬ rs.length = 8 from (fun h => h2 (by rw [h]; rfl)), decide_false, Bool.false_and, Bool.and_false]; done))) : p := h
theorem vm149 {p : Prop} (h : p := by (first | (rw [nextT_4 (by omega)]; done) | (rw [nextT_n (by omega) (show i = 8 by omega)]; done))) : p := h
theorem vm150 {p : Prop} (h : p := by (simp only [cmpN]; first | (rw [if_pos (by omega)]; done) | (rw [if_neg (by omega), if_pos (by omega)]; done) | (rw [if_neg (by omega), if_neg (by omega)]; done))) : p := h
theorem vm151 {p : Prop} (h : p := by (first | rfl | (have e : i = xs.length := (by omega); subst e; simp; done) | (have ht1 : ((i : Int) + 1).toNat = i + 1 := (by omega); first | (rw [show List.take ((((xs.map encWa).length : Nat) : Int).toNat - ((i : Nat) : Int).toNat) (List.drop ((i : Nat) : Int).toNat (xs.map encWa)) = List.drop i (xs.map encWa) from List.take_of_length_le (by rw [List.length_drop, Int.toNat_natCast, Int.toNat_natCast]; exact Nat.le_refl _)]; simp only [Int.toNat_natCast, ht1, Int.toNat_zero, List.length_drop, List.length_cons, List.length_nil, Nat.zero_add, List.map_append, List.map_take, List.map_drop, List.map_cons, List.map_nil, Nat.sub_zero]; exact ins_grow (by rw [List.length_map]; exact hi) (by rw [List.length_replicate, List.length_map])) | (rw [show xs.length + 1 = (xs.map encWa).length + 1 from by rw [List.length_map]]; simp only [Int.toNat_natCast, ht1, Int.toNat_zero, List.length_drop, List.length_cons, List.length_nil, Nat.zero_add, List.map_append, List.map_take, List.map_drop, List.map_cons, List.map_nil, Nat.sub_zero]; exact ins_room (by rw [List.length_map]; exact hi) (by omega))))) : p := h
theorem vm152 {p : Prop} (h : p := by (first | (rw [tkT_f (tkOK_nf.mpr (by omega))]; done) | (rw [tkT_f (tkOK_nf.mpr (by omega))]; rfl) | (rw [tkT_t (tkOK_iff.mpr (by omega))]; done) | (rw [tkT_t (tkOK_iff.mpr (by omega))]; rfl))) : p := h
theorem vm153 {p : Prop} (h : p := by (first | rfl | (obtain rfl : k = m.cp.length := (by omega); first | rfl | (rw [take_all (Nat.le_refl _)]; rfl)) | simp)) : p := h
theorem vm154 {p : Prop} (h : p := by (first | (have e : xs ≠ ys := fun e => (by (subst e; omega)); simp [e]; done) | (have e : xs = ys := eq_true_of (by omega) hinv.2 (by omega); simp [e]; done) | (have e : xs ≠ ys := eq_false_of (i := i) (fun e => vm204); simp [e]; done))) : p := h
theorem vm155 {p : Prop} (h : p := by (simp only [szQ]; first | (rw [if_pos vm177]; done) | (rw [if_neg (by omega)]; done) | (rw [if_neg (by omega), szL_neg vm177]; done))) : p := h
theorem vm156 {p : Prop} (h : p := by (rw [← szF_eq hl.1]; simp only [szF] <;> (first | (rw [if_pos vm177]; done) | (rw [if_neg (by omega)]; done) | (rw [if_neg (by omega)]; rw [szQ_neg vm177]; done)))) : p := h
theorem vm157 {p : Prop} (h : p := by (first | (simp only [szFS]; rw [if_pos]; have hq := @sumI_nn xs xs.length; omega) | (have e : i = xs.length := (by omega); subst e; simp only [szFS]; rw [if_neg (by omega)]; done) | (have hq := sumI_mono (xs := xs) (show i + 1 ≤ xs.length by omega); rw [sumI_succ] at hq; simp only [szFS]; rw [if_pos]; split at h3 <;> omega))) : p := h
theorem vm158 {p : Prop} (h : p := by (first | (have e : xs ≠ ys := fun e => (by (subst e; simp_all [eqSl]; done)); simp [e]; done) | (have e : xs = ys := eq_true_of (by omega) hinv.2 (by omega); simp [e]; done) | (have e : xs ≠ ys := eq_false_of (i := i) (fun e => (by simp_all [eqSl])); simp [e]; done))) : p := h
theorem vm159 {p : Prop} (h : p := by (first | rfl | (simp_all [eqWa]; done) | (simp_all [eqWa]; omega))) : p := h
theorem vm160 {p : Prop} (h : p := by (first | (have e : xs ≠ ys := fun e => (by (subst e; simp_all [eqWa]; done)); simp [e]; done) | (have e : xs = ys := eq_true_of (by omega) hinv.2 (by omega); simp [e]; done) | (have e : xs ≠ ys := eq_false_of (i := i) (fun e => (by simp_all [eqWa])); simp [e]; done))) : p := h
theorem vm161 {p : Prop} (h : p := by (first | (have e : xs ≠ ys := fun e => (by (subst e; omega)); simp [e]; done) | (have e : xs = ys := eq_true_of (by omega) hinv.2 (by omega); simp [e]; done) | (have e : xs ≠ ys := eq_false_of (i := i) (fun e => (by have := eqIf_iff.mpr e; simp_all)); simp [e]; done))) : p := h
theorem vm162 {p : Prop} (h : p := by (first | rfl | (exfalso; omega) | (simp_all; done))) : p := h
theorem vm163 {p : Prop} (h : p := by (first | (rw [orI_t hinv.2 (by omega) vm177]; done) | (rw [orI_f hinv.2 (by omega)]; done))) : p := h
theorem vm164 {p : Prop} (h : p := by (first | (rw [fndS, idx_some (i := i) hinv.2 (by omega) (by simp_all [fdP])]; done) | (rw [fndS, idx_none hinv.2 (by omega)]; done))) : p := h
theorem vm165 {p : Prop} (h : p := by (first | (rw [freS, idx_some (i := i) hinv.2 (by omega) (by simp_all [emP])]; done) | (rw [freS, idx_none hinv.2 (by omega)]; done))) : p := h
theorem vm166 {p : Prop} (h : p := by (first | (rw [inW, idx_some (i := i) hinv.2 (by omega) (decide_eq_true vm177)]; done) | (rw [inW, idx_none hinv.2 (by omega)]; done))) : p := h
theorem vm167 {p : Prop} (h : p := by (first | (rw [insW_at hinv.2 hinv.1 vm201]; done) | (rw [insW_at hinv.2 hinv.1 vm201]; rfl))) : p := h
theorem vm168 {p : Prop} (h : p := by (first | (rw [insW_at hinv.2 hinv.1 vm201, cut_take, cut_rest]; simp [encWa]; done))) : p := h
theorem vm169 {p : Prop} (h : p := by (first | rfl | (rw [ht]; done) | (rw [ht]; rfl) | (rw [ht, ht2]; done) | (rw [ht, ht2]; rfl))) : p := h
theorem vm170 {p : Prop} (h : p := by (first | rfl | (rw [ht]; done) | (rw [ht]; rfl) | (rw [ht, ht2]; done) | (rw [ht, ht2]; rfl) | (rw [ht, ht2]; simp [takI, Rf.encI]; done))) : p := h
theorem vm171 {p : Prop} (h : p := by (first | (rw [idx_some (i := i) hinv.2 (by omega) vm194]; done) | (rw [idx_none hinv.2 (by omega)]; done))) : p := h
theorem vm172 {p : Prop} (h : p := by (simp only [hasI]; first | (rw [anyN_t (i := i) vm194 (by omega)]; done) | (rw [anyN_f hinv.2 (by omega)]; done))) : p := h
theorem vm173 {p : Prop} (h : p := by (first | (exact congrArg Value.bool (okRq_s (i := i) (rtS_nf.mpr (fun g => g.1 (by omega))) (by omega)).symm) | (exact congrArg Value.bool (ft_ok hinv.2)))) : p := h
theorem vm174 {p : Prop} (h : p := by (first | (rw [stepsV_f (.inr ⟨i, by omega, by assumption⟩)]; done) | (have e : allN ss.length (fun i => stepV n (ss.getD i default)) = true := allN_t hinv.2 (by omega); simp only [stepsV, e, Bool.and_true]; congr 2; simp; omega) | (have e : allN ss.length (fun i => stepV n (ss.getD i default)) = true := allN_t hinv.2 (by omega); simp only [stepsV, e, Bool.and_true]; simp))) : p := h
theorem vm175 {p : Prop} (h : p := by kernel_rfl) : p := h
theorem vm176 {p : Prop} (h : p := by (try simp only [List.length_take, List.length_append, List.length_map, List.length_drop, List.length_cons, List.length_nil, List.length_replicate, Int.toNat_natCast]); omega) : p := h
theorem vm177 {p : Prop} (h : p := by assumption) : p := h
theorem vm178 {p : Prop} (h : p := by first | (simp; omega) | (simp only [cut_take, cut_rest, List.length_append, List.length_map, List.length_take, List.length_drop, List.length_cons, List.length_nil]; omega)) : p := h
theorem vm179 {p : Prop} (h : p := by first | (simp only [List.length_map, List.length_cons, List.length_nil]; omega) | (simp; omega)) : p := h
theorem vm180 {p : Prop} (h : p := by first | exact cnd_f1 vm177 | exact cnd_f2 vm177 | exact cnd_f3 vm177) : p := h
theorem vm181 {p : Prop} (h : p := by exact Nat.le_of_ble_eq_true rfl) : p := h
theorem vm182 {p : Prop} (h : p := by rw [List.length_set, List.length_set, List.length_map, movW_len (by omega)]; omega) : p := h
theorem vm183 {p : Prop} (h : p := by simp only [List.length_set, List.length_map]; omega) : p := h
theorem vm184 {p : Prop} (h : p := by rw [List.length_set, List.length_map, movW_len (by omega)]; omega) : p := h
theorem vm185 {p : Prop} (h : p := by rw [hbn]; exact Nat.le_of_ble_eq_true rfl) : p := h
theorem vm186 {p : Prop} (h : p := by first | exact List.Mem.head _ | exact List.Mem.tail _ (List.Mem.head _) | exact List.Mem.tail _ (List.Mem.tail _ (List.Mem.head _)) | simp) : p := h
theorem vm187 {p : Prop} (h : p := by simp; omega) : p := h
theorem vm188 {p : Prop} (h : p := by rw [List.length_map, movW_len (by omega)]; omega) : p := h
theorem vm189 {p : Prop} (h : p := by simp only [tgM, List.set_set]; rw [List.map_set]; rfl) : p := h
theorem vm190 {p : Prop} (h : p := by simp_all; omega) : p := h
theorem vm191 {p : Prop} (h : p := by simp_all; done) : p := h
theorem vm192 {p : Prop} (h : p := by simp_all [wOf]) : p := h
theorem vm193 {p : Prop} (h : p := by rw [List.nil_append, tail1]) : p := h
theorem vm194 {p : Prop} (h : p := by first | exact decide_eq_true vm177 | exact decide_eq_true (Eq.symm vm177) | exact decide_eq_false vm177 | exact decide_eq_false (Ne.symm vm177)) : p := h
theorem vm195 {p : Prop} (h : p := by rw [setP_succ, List.map_set]; rfl) : p := h
theorem vm196 {p : Prop} (h : p := by simp only [List.length_take, List.length_append, List.length_map, List.length_drop, List.length_cons, List.length_nil, Int.toNat_natCast, Nat.min_def]; (repeat' split) <;> omega) : p := h
theorem vm197 {p : Prop} (h : p := by first | exact .inl (by omega) | (right; rw [← ht (by omega)]; first | exact urg_neg.mp (by omega) | assumption)) : p := h
theorem vm198 {p : Prop} (h : p := by rw [List.length_map]; omega) : p := h
theorem vm199 {p : Prop} (h : p := by first | (simp; done) | (simp; omega)) : p := h
theorem vm200 {p : Prop} (h : p := by first | omega | (simp; done) | (simp; omega)) : p := h
theorem vm201 {p : Prop} (h : p := by first | exact .inl (by omega) | exact .inr ⟨by omega, by first | assumption | (rw [← Bool.not_eq_true, ← urg_neg]; omega)⟩) : p := h
theorem vm202 {p : Prop} (h : p := by first | exact List.Mem.head _ | simp) : p := h
theorem vm203 {p : Prop} (h : p := by rw [show a1.ma.length = m.cp.length from hF.na]; exact hv i h) : p := h
theorem vm204 {p : Prop} (h : p := by simp_all) : p := h
theorem vm205 {p : Prop} (h : p := by first | exact one_z vm177 (slot_eta.mpr (ec3.mp vm177)) | exact one_t vm177 (okS1_iff.mpr ⟨inside_t.mp vm177, inside_t.mp vm177, inside_t.mp vm177⟩) (idx_lt0.mp (by omega))) : p := h
theorem vm206 {p : Prop} (h : p := by first | exact ArgsOK.of rfl | exact ArgsOK.of (congrArg some (congrArg (fun z => [AV.lst 1 z, .v (.int .i64 (x.st.getD i default))]) (cut_take (xs := x.st) (i := i))))) : p := h
theorem vm207 {p : Prop} (h : p := by rw [List.length_map, setP_len, poN_len]; omega) : p := h
theorem vm208 {p : Prop} (h : p := by rw [← hti (by omega)]; omega) : p := h
theorem vm209 {p : Prop} (h : p := by rw [setP_len, poN_len]; omega) : p := h
theorem vm210 {p : Prop} (h : p := by first | rfl | exact congrArg Value.bool (decide_eq_false (by omega)) | (simp; done) | (simp; omega)) : p := h
theorem vm211 {p : Prop} (h : p := by intro c hc; rw [List.mem_singleton.1 hc]; rfl) : p := h
theorem vm212 {p : Prop} (h : p := by first | rfl | simp) : p := h
theorem vm213 {p : Prop} (h : p := by rw [List.length_drop]; omega) : p := h
theorem vm214 {p : Prop} (h : p := by first | (left; omega) | (right; rw [← Bool.not_eq_true, ← urg_neg]; omega)) : p := h
theorem vm215 {p : Prop} (h : p := by first | exact lvD_t vm208 | (obtain rfl : i = 0 := (by omega); exact lvD_0)) : p := h
theorem vm216 {p : Prop} (h : p := by first | assumption | (simp_all; done)) : p := h
theorem vm1 {p q : Prop} (k : q) (h : Hd q → p := by
 intro kk
 refine zgo ?_
 refine WL_cons rfl ?_
 refine WX_box 1 rfl rfl rfl rfl rfl rfl rfl ?_
 exact kk.o) : p := h ⟨k⟩
theorem vm2 {p q : Prop} (k : q) (h : Hd q → p := by
 intro kk
 refine WL_cons rfl ?_
 first | refine WX_q rfl rfl (q_index_own G rfl rfl rfl rfl rfl (by omega) vm187) ?_ | refine WX_q rfl rfl (q_index_own G rfl rfl rfl rfl rfl (by omega) (by omega)) ?_
 refine WL_cons rfl ?_
 exact kk.o) : p := h ⟨k⟩
theorem vm3 {p q : Prop} (k : q) (h : Hd q → p := by
 intro kk
 refine zsa 1 ?_
 refine zsa 2 ?_
 first | refine WA_take 3 rfl vm175 vm175 rfl rfl rfl rfl (q_cut_lst G rfl rfl rfl rfl rfl (by omega) (by omega) (by omega)) ?_ | refine WA_take 3 rfl vm175 vm175 rfl rfl rfl rfl (q_cut_lst G rfl rfl rfl rfl rfl (by omega) vm199 vm199) ?_
 refine zsa 5 ?_
 refine zsa 8 ?_
 refine zsa 9 ?_
 first | refine WA_take 10 rfl vm175 vm175 rfl rfl rfl rfl (q_cut_lst G rfl rfl rfl rfl rfl (by omega) (by omega) (by omega)) ?_ | refine WA_take 10 rfl vm175 vm175 rfl rfl rfl rfl (q_cut_lst G rfl rfl rfl rfl rfl (by omega) vm199 vm199) ?_
 exact kk.o) : p := h ⟨k⟩
theorem vm4 {p q : Prop} (k : q) (h : Hd q → p := by
 intro kk
 refine VStep.mk1 [] 33 (.own 0) 0 (.row 3 1 []) [] rfl rfl rfl rfl rfl (fun b1 _ hbn => WX_append G vm185 rfl rfl rfl rfl rfl rfl rfl rfl rfl vm178 rfl rfl (WL_nil rfl)) vm175 vm175 vm175 vm175 ?_
 refine WAV_nil ?_
 exact kk.o) : p := h ⟨k⟩
theorem vm5 {p q : Prop} (k : q) (h : Hd q → p := by
 intro kk
 refine zgo ?_
 refine WL_cons rfl ?_
 first | refine WX_q rfl rfl (q_index_nest G rfl rfl rfl rfl rfl (by omega) vm198) ?_ | refine WX_q rfl rfl (q_index_nest G rfl rfl rfl rfl rfl (by omega) vm183) ?_ | refine WX_q rfl rfl (q_index_nest G rfl rfl rfl rfl rfl (by omega) (by omega)) ?_
 refine WL_cons rfl ?_
 first | refine WX_store_nest G rfl rfl rfl rfl rfl (getM (by omega) (by omega)) rfl rfl (.v rfl (.own rfl (.own rfl (.own rfl .nil)))) rfl rfl rfl (Nat.le_of_ble_eq_true rfl) (fun q h => by cases h) rfl ?_ | refine WX_store_nest G rfl rfl rfl rfl rfl (getNI (by omega) (by omega)) rfl rfl (.v rfl (.own rfl (.own rfl (.own rfl .nil)))) rfl rfl rfl (Nat.le_of_ble_eq_true rfl) (fun q h => by cases h) rfl ?_ | refine WX_store_nest G rfl rfl rfl rfl rfl (setX vm183 rfl) rfl rfl (.v rfl (.own rfl (.own rfl (.own rfl .nil)))) rfl rfl rfl (Nat.le_of_ble_eq_true rfl) (fun q h => by cases h) rfl ?_
 exact kk.o) : p := h ⟨k⟩
theorem vm6 {p q : Prop} (k : q) (h : Hd q → p := by
 intro kk
 refine WL_cons rfl ?_
 first | refine WX_q rfl rfl (q_arith rfl rfl rfl rfl (by omega) (by omega)) ?_ | refine WX_q rfl rfl (q_wrap rfl rfl rfl rfl) ?_
 exact kk.o) : p := h ⟨k⟩
theorem vm7 {p q : Prop} (k : q) (h : Hd q → p := by exact fun kk => WL_cons rfl kk.o) : p := h ⟨k⟩
theorem vm8 {p q : Prop} (k : q) (h : Hd q → p := by
 intro kk
 refine zgo ?_
 refine ⟨rfl, ?_⟩
 exact kk.o) : p := h ⟨k⟩
theorem vm9 {p q : Prop} (k : q) (h : Hd q → p := by
 intro kk
 refine zsa 10 ?_
 refine zsa 11 ?_
 refine zsa 12 ?_
 refine zsa 13 ?_
 refine zsa 14 ?_
 refine zsa 15 ?_
 refine zsa 16 ?_
 refine zsa 17 ?_
 refine WA_end vm175 ?_
 refine znk ?_
 exact kk.o) : p := h ⟨k⟩
theorem vm10 {p q : Prop} (k : q) (h : Hd q → p := by
 intro kk
 refine vm2 ?_
 first | refine WX_store_row G rfl rfl rfl rfl rfl (getM (by omega) (by rw [syncR_len]; omega)) rfl rfl rfl rfl rfl (Nat.le_of_ble_eq_true rfl) rfl ?_ | refine WX_store_row G rfl rfl rfl rfl rfl (getM (by omega) (by rw [syncP_len]; omega)) rfl rfl rfl rfl rfl (Nat.le_of_ble_eq_true rfl) rfl ?_ | refine WX_store_row G rfl rfl rfl rfl rfl (getM (by omega) (by omega)) rfl rfl rfl rfl rfl (Nat.le_of_ble_eq_true rfl) rfl ?_ | refine WX_store_row G rfl rfl rfl rfl rfl (getM (by omega) vm187) rfl rfl rfl rfl rfl (Nat.le_of_ble_eq_true rfl) rfl ?_
 refine zgn ?_
 exact kk.o) : p := h ⟨k⟩
theorem vm11 {p q : Prop} (k : q) (h : Hd q → p := by
 intro kk
 refine vm7 ?_
 refine WX_q rfl rfl (q_cut_spare G rfl rfl rfl rfl rfl rfl vm176 vm176 vm176 vm176) ?_
 exact kk.o) : p := h ⟨k⟩
theorem vm12 {p q : Prop} (k : q) (h : Hd q → p := by
 intro kk
 refine vm7 ?_
 refine WX_alloc_s G 2 rfl rfl rfl rfl rfl ?_
 exact kk.o) : p := h ⟨k⟩
theorem vm13 {p q : Prop} (k : q) (h : Hd q → p := by
 intro kk
 refine VStep.mk1 [0] 29 (.own 1) 1 (.row 183 2 []) [] rfl rfl rfl rfl rfl (fun b1 _ hbn => WX_append G vm185 rfl rfl rfl rfl rfl rfl rfl rfl rfl vm178 rfl rfl (WL_nil rfl)) vm175 vm175 vm175 vm175 ?_
 refine WAV_nil ?_
 exact kk.o) : p := h ⟨k⟩
theorem vm14 {p q : Prop} (k : q) (h : Hd q → p := by
 intro kk
 refine vm7 ?_
 refine WX_append G np rfl rfl rfl rfl rfl rfl rfl rfl rfl vm179 rfl rfl ?_
 exact kk.o) : p := h ⟨k⟩
theorem vm15 {p q : Prop} (k : q) (h : Hd q → p := by
 intro kk
 refine WA_end vm175 ?_
 refine znk ?_
 exact kk.o) : p := h ⟨k⟩
theorem vm16 {p q : Prop} (k : q) (h : Hd q → p := by
 intro kk
 refine zgo ?_
 refine vm2 ?_
 first | refine WX_store_row G rfl rfl rfl rfl rfl (getN (by omega)) rfl rfl rfl rfl rfl (Nat.le_of_ble_eq_true rfl) rfl ?_ | refine WX_store_row G rfl rfl rfl rfl rfl (getM (by omega) (by omega)) rfl rfl rfl rfl rfl (Nat.le_of_ble_eq_true rfl) rfl ?_ | refine WX_store_row G rfl rfl rfl rfl rfl (getM (by omega) vm187) rfl rfl rfl rfl rfl (Nat.le_of_ble_eq_true rfl) rfl ?_
 exact kk.o) : p := h ⟨k⟩
theorem vm17 {p q : Prop} (k : q) (h : Hd q → p := by
 intro kk
 refine vm7 ?_
 refine WX_q rfl rfl (q_index_own G rfl rfl rfl rfl rfl (by omega) (by rw [fill_len (by omega)]; omega)) ?_
 refine vm7 ?_
 refine WX_store_row G rfl rfl rfl rfl rfl (fill_get (by omega)) rfl rfl rfl rfl rfl (Nat.le_of_ble_eq_true rfl) rfl ?_
 refine zgo ?_
 exact kk.o) : p := h ⟨k⟩
theorem vm18 {p q : Prop} (k : q) (h : Hd q → p := by
 intro kk
 refine zsa 0 ?_
 refine zsa 1 ?_
 refine zsa 2 ?_
 refine zsa 3 ?_
 first | refine WA_take 4 rfl vm175 vm175 rfl rfl rfl rfl (q_index_own G rfl rfl rfl rfl rfl (by omega) vm198) ?_ | refine WA_take 4 rfl vm175 vm175 rfl rfl rfl rfl (q_index_own G rfl rfl rfl rfl rfl (by omega) vm207) ?_ | refine WA_take 4 rfl vm175 vm175 rfl rfl rfl rfl (q_index_own G rfl rfl rfl rfl rfl (by omega) vm187) ?_ | refine WA_take 4 rfl vm175 vm175 rfl rfl rfl rfl (q_index_own G rfl rfl rfl rfl rfl (by omega) (by omega)) ?_
 first | refine WA_take 5 rfl vm175 vm175 rfl rfl rfl rfl (q_load_rpt G rfl rfl rfl rfl rfl (getN (by omega)) rfl) ?_ | refine WA_take 5 rfl vm175 vm175 rfl rfl rfl rfl (q_load_rpt G rfl rfl rfl rfl rfl (getM (by omega) vm209) rfl) ?_ | refine WA_take 5 rfl vm175 vm175 rfl rfl rfl rfl (q_load_rpt G rfl rfl rfl rfl rfl (getM (by omega) (by omega)) rfl) ?_
 exact kk.o) : p := h ⟨k⟩
theorem vm19 {p q : Prop} (k : q) (h : Hd q → p := by
 intro kk
 refine WB_rn [1, 2, 5, 6] rfl rfl ?_
 refine vm8 ?_
 first | refine WA_take 5 rfl vm175 vm175 rfl rfl rfl rfl (q_index_own G rfl rfl rfl rfl rfl (by omega) (by omega)) ?_ | refine WA_take 5 rfl vm175 vm175 rfl rfl rfl rfl (q_index_own G rfl rfl rfl rfl rfl (by omega) vm187) ?_
 first | refine WA_take 6 rfl vm175 vm175 rfl rfl rfl rfl (q_load_rpt_struct G rfl rfl rfl rfl (getN (by omega)) rfl) ?_ | refine WA_take 6 rfl vm175 vm175 rfl rfl rfl rfl (q_load_rpt_struct G rfl rfl rfl rfl (getNI (by omega) (by omega)) rfl) ?_ | refine WA_take 6 rfl vm175 vm175 rfl rfl rfl rfl (q_load_rpt_struct G rfl rfl rfl rfl (getM (by omega) (by omega)) rfl) ?_ | refine WA_take 6 rfl vm175 vm175 rfl rfl rfl rfl (q_load_rpt_struct G rfl rfl rfl rfl (getM (by omega) vm187) rfl) ?_
 exact kk.o) : p := h ⟨k⟩
theorem vm20 {p q : Prop} (k : q) (h : Hd q → p := by
 intro kk
 refine VStep.mk1 [0] 21 (.own 1) 1 (.row 183 2 []) [] rfl rfl rfl rfl rfl (fun b1 _ hbn => WX_append G vm185 rfl rfl rfl rfl rfl rfl rfl rfl rfl vm187 rfl rfl (WL_nil rfl)) vm175 vm175 vm175 vm175 ?_
 refine WAV_nil ?_
 exact kk.o) : p := h ⟨k⟩
theorem vm21 {p q : Prop} (k : q) (h : Hd q → p := by
 intro kk
 refine zgo ?_
 refine vm2 ?_
 first | refine WX_store_row G rfl rfl rfl rfl rfl (getM (by omega) (by omega)) rfl rfl rfl rfl rfl (Nat.le_of_ble_eq_true rfl) rfl ?_ | refine WX_store_row G rfl rfl rfl rfl rfl (getM (by omega) vm187) rfl rfl rfl rfl rfl (Nat.le_of_ble_eq_true rfl) rfl ?_
 exact kk.o) : p := h ⟨k⟩
theorem vm22 {p q : Prop} (k : q) (h : Hd q → p := by
 intro kk
 refine zsa 0 ?_
 refine zsa 1 ?_
 refine WA_take 2 rfl vm175 vm175 rfl rfl rfl rfl (q_bne (G 4 _ rfl).1 rfl rfl rfl) ?_
 refine zsa 3 ?_
 exact kk.o) : p := h ⟨k⟩
theorem vm23 {p q : Prop} (k : q) (h : Hd q → p := by
 intro kk
 refine zsa 0 ?_
 refine zsa 1 ?_
 refine zsa 2 ?_
 refine zsa 3 ?_
 exact kk.o) : p := h ⟨k⟩
theorem vm24 {p q : Prop} (k : q) (h : Hd q → p := by
 intro kk
 refine zgn ?_
 refine W_ret ?_
 refine fin_one rfl ?_
 refine rc_v ?_
 exact kk.o) : p := h ⟨k⟩
theorem vm25 {p q : Prop} (k : q) (h : Hd q → p := by
 intro kk
 refine zgo ?_
 refine QL_run rfl rfl rfl ?_
 first | refine QX_q rfl rfl (q_index_own G rfl rfl rfl rfl rfl (by omega) vm188) ?_ | refine QX_q rfl rfl (q_index_own G rfl rfl rfl rfl rfl (by omega) vm184) ?_ | refine QX_q rfl rfl (q_index_own G rfl rfl rfl rfl rfl (by omega) vm182) ?_
 refine QL_run rfl rfl rfl ?_
 first | refine QX_q rfl rfl (q_load_rpt_struct G rfl rfl rfl rfl (movW_get (by omega)) rfl) ?_ | refine QX_q rfl rfl (q_load_rpt_struct G rfl rfl rfl rfl (movW_gp (by omega) (by omega)) rfl) ?_ | refine QX_q rfl rfl (q_load_rpt_struct G rfl rfl rfl rfl (movW_gs (by omega) (by omega)) rfl) ?_
 exact kk.o) : p := h ⟨k⟩
theorem vm26 {p q : Prop} (k : q) (h : Hd q → p := by
 intro kk
 refine vm1 ?_
 refine vm7 ?_
 refine WX_box 2 rfl rfl rfl rfl rfl rfl rfl ?_
 exact kk.o) : p := h ⟨k⟩
theorem vm27 {p q : Prop} (k : q) (h : Hd q → p := by
 intro kk
 refine zgo ?_
 refine vm7 ?_
 first | refine WX_q rfl rfl (q_index_own G rfl rfl rfl rfl rfl (by omega) (by omega)) ?_ | refine WX_q rfl rfl (q_index_own G rfl rfl rfl rfl rfl (by omega) vm187) ?_
 refine vm7 ?_
 first | refine WX_store_row G rfl rfl rfl rfl rfl (getN (by omega)) rfl rfl rfl rfl rfl (Nat.le_of_ble_eq_true rfl) rfl ?_ | refine WX_store_row G rfl rfl rfl rfl rfl (getNI (by omega) (by omega)) rfl rfl rfl rfl rfl (Nat.le_of_ble_eq_true rfl) rfl ?_ | refine WX_store_row G rfl rfl rfl rfl rfl (getM (by omega) (by omega)) rfl rfl rfl rfl rfl (Nat.le_of_ble_eq_true rfl) rfl ?_ | refine WX_store_row G rfl rfl rfl rfl rfl (getM (by omega) vm187) rfl rfl rfl rfl rfl (Nat.le_of_ble_eq_true rfl) rfl ?_
 exact kk.o) : p := h ⟨k⟩
theorem vm28 {p q : Prop} (k : q) (h : Hd q → p := by
 intro kk
 refine zgo ?_
 refine vm7 ?_
 refine WX_make (n := xs.length) G 1 rfl rfl rfl rfl rfl rfl rfl vm212 vm212 (by omega) (by omega) ?_
 refine zgo ?_
 exact kk.o) : p := h ⟨k⟩
theorem vm29 {p q : Prop} (k : q) (h : Hd q → p := by
 intro kk
 refine W_region ?_
 refine vm7 ?_
 refine WX_q rfl rfl (q_field_ptr G rfl rfl rfl rfl) ?_
 refine vm7 ?_
 refine WX_q rfl rfl (q_lst (q_load_box G rfl rfl rfl rfl rfl rfl rfl)) ?_
 refine vm7 ?_
 refine WX_q rfl rfl (q_move rfl rfl) ?_
 refine vm7 ?_
 exact kk.o) : p := h ⟨k⟩
theorem vm30 {p q : Prop} (k : q) (h : Hd q → p := by
 intro kk
 refine zgo ?_
 refine vm7 ?_
 first | refine WX_q rfl rfl (q_index_nest G rfl rfl rfl rfl rfl (by omega) vm198) ?_ | refine WX_q rfl rfl (q_index_nest G rfl rfl rfl rfl rfl (by omega) vm183) ?_ | refine WX_q rfl rfl (q_index_nest G rfl rfl rfl rfl rfl (by omega) (by omega)) ?_
 refine vm7 ?_
 exact kk.o) : p := h ⟨k⟩
theorem vm31 {p q : Prop} (k : q) (h : Hd q → p := by
 intro kk
 refine VStep.mk1 [0, 1] 3 (.ptr 7 0) 7 (.box (avR [.slice none 0 0, .slice none 0 0, .slice none 0 0, .slice none 0 0, .slice none 0 0] [])) [] rfl rfl rfl rfl rfl (fun b1 _ hbn => WX_store G rfl rfl rfl rfl rfl rfl rfl rfl rfl rfl rfl (WL_nil rfl)) vm175 vm175 vm175 vm175 ?_
 refine WAV_nil ?_
 exact kk.o) : p := h ⟨k⟩
theorem vm32 {p q : Prop} (k : q) (h : Hd q → p := by
 intro kk
 refine VStep.mk1 [0] 7 (.own 3) 3 (.row 183 2 []) [] rfl rfl rfl rfl rfl (fun b1 _ hbn => WX_append G vm185 rfl rfl rfl rfl rfl rfl rfl rfl rfl vm187 rfl rfl (WL_nil rfl)) vm175 vm175 vm175 vm175 ?_
 refine WAV_nil ?_
 exact kk.o) : p := h ⟨k⟩
theorem vm33 {p q : Prop} (k : q) (h : Hd q → p := by
 intro kk
 iterate 2 refine zst ?_
 exact kk.o) : p := h ⟨k⟩
theorem vm34 {p q : Prop} (k : q) (h : Hd q → p := by
 intro kk
 refine QL_run rfl rfl rfl ?_
 first | refine QX_q rfl rfl (q_cut_lst G rfl rfl rfl rfl rfl (by omega) (by omega) (by omega)) ?_ | refine QX_q rfl rfl (q_cut_lst G rfl rfl rfl rfl rfl (by omega) vm199 vm199) ?_
 exact kk.o) : p := h ⟨k⟩
theorem vm35 {p q : Prop} (k : q) (h : Hd q → p := by
 intro kk
 refine vm7 ?_
 refine WX_lit G 2 rfl rfl rfl rfl rfl rfl rfl rfl ?_
 refine zgo ?_
 refine vm7 ?_
 refine WX_append G np rfl rfl rfl rfl rfl rfl rfl rfl rfl vm187 rfl rfl ?_
 refine zgo ?_
 refine vm7 ?_
 refine WX_q rfl rfl (q_index_own G rfl rfl rfl rfl rfl (by omega) vm187) ?_
 refine vm7 ?_
 first | refine WX_store_row G rfl rfl rfl rfl rfl (getNI (by omega) (by omega)) rfl rfl rfl rfl rfl (Nat.le_of_ble_eq_true rfl) rfl ?_ | refine WX_store_row G rfl rfl rfl rfl rfl (by simp; exact ⟨by omega, rfl⟩) rfl rfl rfl rfl rfl (Nat.le_of_ble_eq_true rfl) rfl ?_
 exact kk.o) : p := h ⟨k⟩
theorem vm36 {p q : Prop} (k : q) (h : Hd q → p := by
 intro kk
 refine zsa 6 ?_
 refine zsa 7 ?_
 refine zsa 8 ?_
 refine zsa 9 ?_
 exact kk.o) : p := h ⟨k⟩
theorem vm37 {p q : Prop} (k : q) (h : Hd q → p := by
 intro kk
 refine zgo ?_
 refine vm7 ?_
 refine WX_alloc_s G 1 rfl rfl rfl rfl rfl ?_
 exact kk.o) : p := h ⟨k⟩
theorem vm38 {p q : Prop} (k : q) (h : Hd q → p := by
 intro kk
 refine W_region ?_
 refine vm7 ?_
 refine WX_box 1 rfl rfl rfl rfl rfl rfl rfl ?_
 exact kk.o) : p := h ⟨k⟩
theorem vm39 {p q : Prop} (k : q) (h : Hd q → p := by
 intro kk
 refine zgo ?_
 refine vm7 ?_
 refine WX_q rfl rfl (q_callc rfl rfl (ArgsOK.of rfl) rfl (hf _ (by omega)) rfl) ?_
 exact kk.o) : p := h ⟨k⟩
theorem vm40 {p q : Prop} (k : q) (h : Hd q → p := by
 intro kk
 refine vm7 ?_
 first | refine WX_q rfl rfl (q_conv_k G rfl rfl rfl rfl (wrap_u64 (by omega) (by omega))) ?_ | refine WX_q rfl rfl (q_conv_k G rfl rfl rfl rfl (wrap_u8 (by omega) (by omega))) ?_ | refine WX_q rfl rfl (q_conv G rfl rfl rfl rfl) ?_
 exact kk.o) : p := h ⟨k⟩
theorem vm41 {p q : Prop} (k : q) (h : Hd q → p := by
 intro kk
 refine W_region ?_
 iterate 3 refine zst ?_
 exact kk.o) : p := h ⟨k⟩
theorem vm42 {p q : Prop} (k : q) (h : Hd q → p := by
 intro kk
 refine vm7 ?_
 refine WX_alloc_s G 3 rfl rfl rfl rfl rfl ?_
 exact kk.o) : p := h ⟨k⟩
theorem vm43 {p q : Prop} (k : q) (h : Hd q → p := by
 intro kk
 refine zgo ?_
 refine vm7 ?_
 first | refine WX_q rfl rfl (q_index_own G rfl rfl rfl rfl rfl (by omega) vm198) ?_ | refine WX_q rfl rfl (q_index_own G rfl rfl rfl rfl rfl (by omega) vm207) ?_ | refine WX_q rfl rfl (q_index_own G rfl rfl rfl rfl rfl (by omega) vm187) ?_ | refine WX_q rfl rfl (q_index_own G rfl rfl rfl rfl rfl (by omega) (by omega)) ?_
 refine vm7 ?_
 exact kk.o) : p := h ⟨k⟩
theorem vm44 {p q : Prop} (k : q) (h : Hd q → p := by
 intro kk
 refine W_region ?_
 refine vm7 ?_
 refine WX_q rfl rfl (q_move rfl rfl) ?_
 refine vm7 ?_
 refine WX_q rfl rfl (q_field_ptr G rfl rfl rfl rfl) ?_
 refine vm7 ?_
 refine WX_q rfl rfl (q_load_box G rfl rfl rfl rfl rfl rfl rfl) ?_
 refine vm7 ?_
 refine WX_q rfl rfl (q_build G rfl rfl rfl rfl) ?_
 refine vm7 ?_
 exact kk.o) : p := h ⟨k⟩
theorem vm45 {p q : Prop} (k : q) (h : Hd q → p := by
 intro kk
 refine WX_q rfl rfl (q_move rfl rfl) ?_
 refine vm7 ?_
 refine WX_q rfl rfl (q_extract rfl rfl rfl) ?_
 refine vm7 ?_
 refine WX_q rfl rfl (q_extract rfl rfl rfl) ?_
 refine vm7 ?_
 refine WX_q rfl rfl (q_assign rfl rfl) ?_
 refine vm7 ?_
 refine WX_q rfl rfl (q_assign rfl rfl) ?_
 refine WL_nil ?_
 exact kk.o) : p := h ⟨k⟩
theorem vm46 {p q : Prop} (k : q) (h : Hd q → p := by
 intro kk
 first | refine QX_q rfl rfl (q_arith rfl rfl rfl rfl (by omega) (by omega)) ?_ | refine QX_q rfl rfl (q_wrap rfl rfl rfl rfl) ?_
 refine vm33 ?_
 exact kk.o) : p := h ⟨k⟩
theorem vm47 {p q : Prop} (k : q) (h : Hd q → p := by
 intro kk
 refine WB_rn [0, 1, 2, 3, 4, 10] rfl rfl ?_
 refine vm8 ?_
 exact kk.o) : p := h ⟨k⟩
theorem vm48 {p q : Prop} (k : q) (h : Hd q → p := by
 intro kk
 refine VStep.mk1 [0, 1, 2, 3, 4, 5, 6, 7, 8, 9, 10, 11, 12, 13, 14, 15] 11 (.ptr 16 0) 16 (.box (avR [.slice none 0 0, .slice none 0 0, .slice none 0 0, .slice none 0 0, .slice none 0 0] [])) [] rfl rfl rfl rfl rfl (fun b1 _ hbn => WX_store G rfl rfl rfl rfl rfl rfl rfl rfl rfl rfl rfl (WL_nil rfl)) vm175 vm175 vm175 vm175 ?_
 refine WAV_nil ?_
 exact kk.o) : p := h ⟨k⟩
theorem vm49 {p q : Prop} (k : q) (h : Hd q → p := by
 intro kk
 refine VStep.mk1 [0, 1, 2, 3, 4, 5, 6, 11, 12, 13, 14, 15] 11 (.ptr 16 0) 16 (.box (avR [.slice none 0 0, .slice none 0 0, .slice none 0 0, .slice none 0 0, .slice none 0 0] [])) [] rfl rfl rfl rfl rfl (fun b1 _ hbn => WX_store G rfl rfl rfl rfl rfl rfl rfl rfl rfl rfl rfl (WL_nil rfl)) vm175 vm175 vm175 vm175 ?_
 refine WAV_nil ?_
 exact kk.o) : p := h ⟨k⟩
theorem vm50 {p q : Prop} (k : q) (h : Hd q → p := by
 intro kk
 refine zgo ?_
 refine vm7 ?_
 refine WX_call 2 rfl rfl rfl (ArgsOK.of rfl) (c_impl_withSlot sl _ ⟨_, _, _⟩ (by omega) (by omega)) rfl rfl ?_
 refine zgo ?_
 exact kk.o) : p := h ⟨k⟩
theorem vm51 {p q : Prop} (k : q) (h : Hd q → p := by
 intro kk
 refine zgn ?_
 refine W_gh (Gh.close (id := 6) (id' := 9) (i := (tgM m i)) (k := 1) rfl rfl (setX vm183 rfl) (fun q h => by cases h) rfl) ?_
 refine zgo ?_
 exact kk.o) : p := h ⟨k⟩
theorem vm52 {p q : Prop} (k : q) (h : Hd q → p := by
 intro kk
 refine zgo ?_
 refine vm7 ?_
 exact kk.o) : p := h ⟨k⟩
theorem vm53 {p q : Prop} (k : q) (h : Hd q → p := by
 intro kk
 refine VStep.mk1 [0, 1, 2, 3, 4, 5, 6, 7, 8, 9, 10] 8 (.ptr 11 0) 11 (.box (avR [.slice none 0 0, .slice none 0 0, .slice none 0 0, .slice none 0 0] [])) [] rfl rfl rfl rfl rfl (fun b1 _ hbn => WX_store G rfl rfl rfl rfl rfl rfl rfl rfl rfl rfl rfl (WL_nil rfl)) vm175 vm175 vm175 vm175 ?_
 refine WAV_nil ?_
 exact kk.o) : p := h ⟨k⟩
theorem vm54 {p q : Prop} (k : q) (h : Hd q → p := by
 intro kk
 refine WB_rn [1, 2, 3, 4, 7] rfl rfl ?_
 refine vm8 ?_
 exact kk.o) : p := h ⟨k⟩
theorem vm55 {p q : Prop} (k : q) (h : Hd q → p := by exact fun kk => WX_q rfl rfl (q_cut_own G rfl rfl rfl rfl rfl rfl (by omega) vm200 vm200) kk.o) : p := h ⟨k⟩
theorem vm56 {p q : Prop} (k : q) (h : Hd q → p := by
 intro kk
 refine VStep.mk1 [0, 1] 3 (.ptr 6 0) 6 (.box (avR [.slice none 0 0, .slice none 0 0, .slice none 0 0, .slice none 0 0, .slice none 0 0] [])) [] rfl rfl rfl rfl rfl (fun b1 _ hbn => WX_store G rfl rfl rfl rfl rfl rfl rfl rfl rfl rfl rfl (WL_nil rfl)) vm175 vm175 vm175 vm175 ?_
 refine WAV_nil ?_
 exact kk.o) : p := h ⟨k⟩
theorem vm57 {p q : Prop} (k : q) (h : Hd q → p := by
 intro kk
 refine VStep.mk1 [0, 1, 2, 3, 4, 5, 6] 8 (.ptr 11 0) 11 (.box (avR [.slice none 0 0, .slice none 0 0, .slice none 0 0, .slice none 0 0] [])) [] rfl rfl rfl rfl rfl (fun b1 _ hbn => WX_store G rfl rfl rfl rfl rfl rfl rfl rfl rfl rfl rfl (WL_nil rfl)) vm175 vm175 vm175 vm175 ?_
 refine WAV_nil ?_
 exact kk.o) : p := h ⟨k⟩
theorem vm58 {p q : Prop} (k : q) (h : Hd q → p := by exact fun kk => WX_q rfl rfl (q_load_eptN G rfl rfl rfl rfl) kk.o) : p := h ⟨k⟩
theorem vm59 {p q : Prop} (k : q) (h : Hd q → p := by
 intro kk
 refine vm7 ?_
 refine WX_store G rfl rfl rfl rfl rfl rfl rfl rfl rfl rfl rfl ?_
 refine vm7 ?_
 refine WX_q rfl rfl (q_assign rfl rfl) ?_
 refine WL_nil ?_
 exact kk.o) : p := h ⟨k⟩
theorem vm60 {p q : Prop} (k : q) (h : Hd q → p := by
 intro kk
 refine vm41 ?_
 refine vm2 ?_
 first | refine WX_store_row G rfl rfl rfl rfl rfl (getM (by omega) (by rw [syncR_len]; omega)) rfl rfl rfl rfl rfl (Nat.le_of_ble_eq_true rfl) rfl ?_ | refine WX_store_row G rfl rfl rfl rfl rfl (getM (by omega) (by rw [syncP_len]; omega)) rfl rfl rfl rfl rfl (Nat.le_of_ble_eq_true rfl) rfl ?_
 refine zgn ?_
 exact kk.o) : p := h ⟨k⟩
theorem vm61 {p q : Prop} (k : q) (h : Hd q → p := by
 intro kk
 refine zsa 4 ?_
 refine zsa 5 ?_
 exact kk.o) : p := h ⟨k⟩
theorem vm62 {p q : Prop} (k : q) (h : Hd q → p := by
 intro kk
 refine VStep.mk1 [0, 1, 2, 3, 4] 6 (.ptr 5 0) 5 (.box (avR [.int .i64 0, .slice none 0 0, .slice none 0 0, .slice none 0 0] [])) [] rfl rfl rfl rfl rfl (fun b1 _ hbn => WX_store G rfl rfl rfl rfl rfl rfl rfl rfl rfl rfl rfl (WL_nil rfl)) vm175 vm175 vm175 vm175 ?_
 refine WAV_nil ?_
 exact kk.o) : p := h ⟨k⟩
theorem vm63 {p q : Prop} (k : q) (h : Hd q → p := by
 intro kk
 refine VStep.mk1 [0, 1] 3 (.ptr 6 0) 6 (.box (avR [.slice none 0 0, .slice none 0 0, .slice none 0 0, .slice none 0 0] [])) [] rfl rfl rfl rfl rfl (fun b1 _ hbn => WX_store G rfl rfl rfl rfl rfl rfl rfl rfl rfl rfl rfl (WL_nil rfl)) vm175 vm175 vm175 vm175 ?_
 refine WAV_nil ?_
 exact kk.o) : p := h ⟨k⟩
theorem vm64 {p q : Prop} (k : q) (h : Hd q → p := by
 intro kk
 refine W_sq ?_
 refine W_region ?_
 exact kk.o) : p := h ⟨k⟩
theorem vm65 {p q : Prop} (k : q) (h : Hd q → p := by
 intro kk
 refine VStep.mk1 [0, 1] 5 (.ptr 2 0) 2 (.box (avR [.slice none 0 0, .slice none 0 0] [])) [] rfl rfl rfl rfl rfl (fun b1 _ hbn => WX_store G rfl rfl rfl rfl rfl rfl rfl rfl rfl rfl rfl (WL_nil rfl)) vm175 vm175 vm175 vm175 ?_
 refine WAV_nil ?_
 exact kk.o) : p := h ⟨k⟩
theorem vm66 {p q : Prop} (k : q) (h : Hd q → p := by
 intro kk
 refine VStep.mk1 [0, 1] 4 (.ptr 2 0) 2 (.box (avR [.slice none 0 0, .slice none 0 0] [])) [] rfl rfl rfl rfl rfl (fun b1 _ hbn => WX_store G rfl rfl rfl rfl rfl rfl rfl rfl rfl rfl rfl (WL_nil rfl)) vm175 vm175 vm175 vm175 ?_
 refine WAV_nil ?_
 exact kk.o) : p := h ⟨k⟩
theorem vm67 {p q : Prop} (k : q) (h : Hd q → p := by
 intro kk
 refine zgo ?_
 refine vm2 ?_
 first | refine WX_store_row G rfl rfl rfl rfl rfl (getN (by omega)) rfl rfl rfl rfl rfl (Nat.le_of_ble_eq_true rfl) rfl ?_ | refine WX_store_row G rfl rfl rfl rfl rfl (getM (by omega) (by omega)) rfl rfl rfl rfl rfl (Nat.le_of_ble_eq_true rfl) rfl ?_
 refine zgn ?_
 exact kk.o) : p := h ⟨k⟩
theorem vm68 {p q : Prop} (k : q) (h : Hd q → p := by
 intro kk
 refine zsa 0 ?_
 refine zsa 1 ?_
 refine zsa 2 ?_
 first | refine WA_take 3 rfl vm175 vm175 rfl rfl rfl rfl (q_arith rfl rfl rfl rfl (by omega) (by omega)) ?_ | refine WA_take 3 rfl vm175 vm175 rfl rfl rfl rfl (q_wrap rfl rfl rfl rfl) ?_
 refine zsa 5 ?_
 refine zsa 6 ?_
 exact kk.o) : p := h ⟨k⟩
theorem vm69 {p q : Prop} (k : q) (h : Hd q → p := by
 intro kk
 refine WB_rn [0, 1, 2, 3, 4, 6, 8] rfl rfl ?_
 refine vm8 ?_
 exact kk.o) : p := h ⟨k⟩
theorem vm70 {p q : Prop} (k : q) (h : Hd q → p := by
 intro kk
 refine WA_gh (Gh.nest (id := 5) (yss := []) rfl rfl (by intro _ _ _ h; simp at h)) ?_
 refine vm15 ?_
 refine zgo ?_
 exact kk.o) : p := h ⟨k⟩
theorem vm71 {p q : Prop} (k : q) (h : Hd q → p := by
 intro kk
 refine WB_rn [0] rfl rfl ?_
 refine vm8 ?_
 exact kk.o) : p := h ⟨k⟩
theorem vm72 {p q : Prop} (k : q) (h : Hd q → p := by
 intro kk
 refine zgn ?_
 refine vm64 ?_
 refine zst ?_
 refine vm7 ?_
 first | refine WX_q rfl rfl (q_len' G rfl rfl rfl rfl (show List.length [_] = 1 from rfl)) ?_ | refine WX_q rfl rfl (q_len' G rfl rfl rfl rfl (List.length_map _)) ?_ | refine WX_q rfl rfl (q_len G rfl rfl rfl rfl) ?_
 refine zgn ?_
 refine zgn ?_
 exact kk.o) : p := h ⟨k⟩
theorem vm73 {p q : Prop} (k : q) (h : Hd q → p := by
 intro kk
 refine QL_run rfl rfl rfl ?_
 refine QX_q rfl rfl (q_load_eptN G rfl rfl rfl rfl) ?_
 exact kk.o) : p := h ⟨k⟩
theorem vm74 {p q : Prop} (k : q) (h : Hd q → p := by
 intro kk
 refine vm23 ?_
 refine zsa 4 ?_
 first | refine WA_take 5 rfl vm175 vm175 rfl rfl rfl rfl (q_arith rfl rfl rfl rfl (by omega) (by omega)) ?_ | refine WA_take 5 rfl vm175 vm175 rfl rfl rfl rfl (q_wrap rfl rfl rfl rfl) ?_
 exact kk.o) : p := h ⟨k⟩
theorem vm75 {p q : Prop} (k : q) (h : Hd q → p := by
 intro kk
 refine vm52 ?_
 refine WX_call 2 rfl rfl rfl (ArgsOK.of rfl) (c_spec_l8With sl _ ⟨_, _, _⟩ (by omega) (by omega)) rfl rfl ?_
 refine zgo ?_
 exact kk.o) : p := h ⟨k⟩
theorem vm76 {p q : Prop} (k : q) (h : Hd q → p := by
 intro kk
 refine vm52 ?_
 refine WX_call 2 rfl rfl rfl (ArgsOK.of rfl) (c_spec_l1Put (actS sl i) _ (by have := @actS_len sl i; have := @actN_len sl i; omega) (fun x hx => actS_ne hF (by omega) (actP_iff.mpr (by omega)) hx)) rfl rfl ?_
 refine zgn ?_
 refine vm41 ?_
 exact kk.o) : p := h ⟨k⟩
theorem vm77 {p q : Prop} (k : q) (h : Hd q → p := by
 intro kk
 refine zsa 1 ?_
 refine zsa 2 ?_
 refine zsa 5 ?_
 refine zsa 6 ?_
 exact kk.o) : p := h ⟨k⟩
theorem vm78 {p q : Prop} (k : q) (h : Hd q → p := by exact fun kk => WL_run rfl rfl rfl kk.o) : p := h ⟨k⟩
theorem vm79 {p q : Prop} (k : q) (h : Hd q → p := by
 intro kk
 refine WB_rn [0, 2, 3, 4] rfl rfl ?_
 refine vm8 ?_
 exact kk.o) : p := h ⟨k⟩
theorem vm80 {p q : Prop} (k : q) (h : Hd q → p := by
 intro kk
 refine W_sq ?_
 refine W_draws mixed vm175 ?_
 exact kk.o) : p := h ⟨k⟩
theorem vm81 {p q : Prop} (k : q) (h : Hd q → p := by
 intro kk
 refine zgn ?_
 refine W_region ?_
 refine zst ?_
 refine vm6 ?_
 refine zgn ?_
 exact kk.o) : p := h ⟨k⟩
theorem vm82 {p q : Prop} (k : q) (h : Hd q → p := by
 intro kk
 first | refine WX_q rfl rfl (q_load_rpt G rfl rfl rfl rfl rfl (getN (by omega)) rfl) ?_ | refine WX_q rfl rfl (q_load_rpt G rfl rfl rfl rfl rfl (getM (by omega) (by omega)) rfl) ?_
 exact kk.o) : p := h ⟨k⟩
theorem vm83 {p q : Prop} (k : q) (h : Hd q → p := by
 intro kk
 refine WB_rn [1, 2, 3, 4, 5, 8, 9] rfl rfl ?_
 refine vm8 ?_
 exact kk.o) : p := h ⟨k⟩
theorem vm84 {p q : Prop} (k : q) (h : Hd q → p := by
 intro kk
 refine vm52 ?_
 refine WX_lit G 1 rfl rfl rfl rfl rfl rfl rfl rfl ?_
 exact kk.o) : p := h ⟨k⟩
theorem vm85 {p q : Prop} (k : q) (h : Hd q → p := by
 intro kk
 refine vm1 ?_
 refine vm12 ?_
 refine zgo ?_
 refine vm42 ?_
 refine zgo ?_
 refine W_ret ?_
 refine fin_one rfl ?_
 refine rc_agg rfl ?_
 exact kk.o) : p := h ⟨k⟩
theorem vm86 {p q : Prop} (k : q) (h : Hd q → p := by exact fun kk => QX_q rfl rfl (q_bne (G 4 _ rfl).1 rfl rfl rfl) kk.o) : p := h ⟨k⟩
theorem vm87 {p q : Prop} (k : q) (h : Hd q → p := by
 intro kk
 refine WA_gh (Gh.nest (id := 6) (yss := []) rfl rfl (by intro _ _ _ h; simp at h)) ?_
 refine vm15 ?_
 refine zgo ?_
 exact kk.o) : p := h ⟨k⟩
theorem vm88 {p q : Prop} (k : q) (h : Hd q → p := by
 intro kk
 refine WB_rn [0, 1, 2, 3, 4, 7] rfl rfl ?_
 refine vm8 ?_
 exact kk.o) : p := h ⟨k⟩
theorem vm89 {p q : Prop} (k : q) (h : Hd q → p := by
 intro kk
 refine vm61 ?_
 refine vm36 ?_
 refine vm9 ?_
 refine zwt ?_
 refine zgo ?_
 exact kk.o) : p := h ⟨k⟩
theorem vm90 {p q : Prop} (k : q) (h : Hd q → p := by
 intro kk
 refine vm52 ?_
 refine WX_q rfl rfl (q_field_eptN G rfl rfl rfl rfl) ?_
 refine vm52 ?_
 refine WX_call 9 rfl rfl rfl (ArgsOK.of rfl) (c_spec_l9Pending (m.cp.getD k default).qu hI.qu) rfl rfl ?_
 refine zgo ?_
 exact kk.o) : p := h ⟨k⟩
theorem vm91 {p q : Prop} (k : q) (h : Hd q → p := by
 intro kk
 refine vm1 ?_
 refine vm12 ?_
 refine zgn ?_
 exact kk.o) : p := h ⟨k⟩
theorem vm92 {p q : Prop} (k : q) (h : Hd q → p := by
 intro kk
 refine vm36 ?_
 refine vm9 ?_
 refine zwf ?_
 refine zwf ?_
 refine zgo ?_
 exact kk.o) : p := h ⟨k⟩
theorem vm93 {p q : Prop} (k : q) (h : Hd q → p := by exact fun kk => WX_alloc_s G 12 rfl rfl rfl rfl rfl kk.o) : p := h ⟨k⟩
theorem vm94 {p q : Prop} (k : q) (h : Hd q → p := by exact fun kk => QL_run rfl rfl rfl kk.o) : p := h ⟨k⟩
theorem vm95 {p q : Prop} (k : q) (h : Hd q → p := by
 intro kk
 refine WB_rn [0, 1, 2, 3, 4] rfl rfl ?_
 refine vm8 ?_
 exact kk.o) : p := h ⟨k⟩
theorem vm96 {p q : Prop} (k : q) (h : Hd q → p := by exact fun kk => WX_alloc_s G 9 rfl rfl rfl rfl rfl kk.o) : p := h ⟨k⟩
theorem vm97 {p q : Prop} (k : q) (h : Hd q → p := by exact fun kk => zcl (c_impl_inside _ _ _) kk.o) : p := h ⟨k⟩
theorem vm98 {p q : Prop} (k : q) (h : Hd q → p := by
 intro kk
 refine WB_rn [1, 2, 5, 6] rfl rfl ?_
 refine vm8 ?_
 exact kk.o) : p := h ⟨k⟩
theorem vm99 {p q : Prop} (k : q) (h : Hd q → p := by
 intro kk
 refine vm23 ?_
 refine vm61 ?_
 refine zsa 6 ?_
 exact kk.o) : p := h ⟨k⟩
theorem vm100 {p q : Prop} (k : q) (h : Hd q → p := by
 intro kk
 refine zgn ?_
 refine W_sq ?_
 exact kk.o) : p := h ⟨k⟩
theorem vm101 {p q : Prop} (k : q) (h : Hd q → p := by exact fun kk => zcl (c_spec_l1In _ _ _) kk.o) : p := h ⟨k⟩
theorem vm102 {p q : Prop} (k : q) (h : Hd q → p := by
 intro kk
 iterate 5 refine zst ?_
 exact kk.o) : p := h ⟨k⟩
theorem vm103 {p q : Prop} (k : q) (h : Hd q → p := by
 intro kk
 refine vm64 ?_
 refine vm33 ?_
 refine vm7 ?_
 exact kk.o) : p := h ⟨k⟩
theorem vm104 {p q : Prop} (k : q) (h : Hd q → p := by
 intro kk
 refine vm26 ?_
 refine vm42 ?_
 refine vm52 ?_
 refine WX_call 7 rfl rfl rfl (ArgsOK.of rfl) (c_spec_l21Own m hM) rfl rfl ?_
 refine vm7 ?_
 refine WX_alloc_s G 8 rfl rfl rfl rfl rfl ?_
 exact kk.o) : p := h ⟨k⟩
theorem vm105 {p q : Prop} (k : q) (h : Hd q → p := by
 intro kk
 refine WB_rn [1, 2, 3, 4, 5, 7, 8, 9, 10, 11, 12, 13, 14, 15, 16, 17, 18, 19, 20, 21, 22, 23, 24, 25, 26, 27] rfl rfl ?_
 refine vm8 ?_
 exact kk.o) : p := h ⟨k⟩
end Go.Rf
