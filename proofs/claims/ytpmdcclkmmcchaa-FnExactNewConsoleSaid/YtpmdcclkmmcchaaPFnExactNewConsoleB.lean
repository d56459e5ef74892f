/- Texts merged into one: W3, W4. -/
import Derived.Test.YtpmdcclkmmcchaaPFnExactNewConsoleA
/- Walks through functions of the program, one contract each (written by gen.py). -/
set_option maxRecDepth 20000
set_option linter.unusedVariables false
set_option linter.unusedSimpArgs false
namespace Go.Proofs.Ytpmdcclkmmcchaa
open Go Go.Rf

theorem c_spec_l21Routes_bad (rs : List Route) (c : Int) (hn : rs.length ≤ 1048576) (hc : inside c 1 2 = false) : Ctr Try.prog 21 [.lst 2 (rs.map encRo), .v (.int .i64 c)] (.one (.v (.bool (false)))) := by
  refine Ctr.of (n := 37) G Try.func21 rfl (by kernel_rfl) rfl rfl rfl (fun w0 => ?_)
  refine W_seq (fun K1 hK1 => ?_)
  refine W_region (WL_cons rfl (WX_q rfl rfl (q_assign rfl rfl) (?_)))
  refine WL_nil (hK1 _ ?_)
  clear hK1 K1
  refine W_seq (fun K2 hK2 => ?_)
  refine W_seq (fun K3 hK3 => ?_)
  refine W_region (WL_cons rfl (WX_q rfl rfl (q_assign rfl rfl) (?_)))
  refine WL_nil (hK3 _ ?_)
  clear hK3 K3
  refine W_block ?_
  refine W_loopK [0, 1] [] (fun (i : Nat) => [(5, .v (.int .i64 (i : Int)))]) (fun (i : Nat) => []) (fun (i : Nat) => i ≤ rs.length) (fun (i : Nat) => rs.length - i) 0 rfl rfl ?_ ?_ ?_ ?_
  · exact Nat.zero_le _
  · exact ⟨⟨_, rfl, by (first | rfl | (simp; done) | (simp; omega))⟩, rfl, trivial⟩
  · exact trivial
  · intro i hinv
    simp only [List.cons_append, List.nil_append]
    refine W_seq (fun K4 hK4 => ?_)
    refine W_seq (fun K5 hK5 => ?_)
    refine W_region (WL_cons rfl (WX_q rfl rfl (q_move rfl rfl) (WL_cons rfl (WX_q rfl rfl (q_move rfl rfl) (WL_cons rfl (?_))))))
    first | refine WX_q rfl rfl (q_len' G rfl rfl rfl rfl (List.length_map _)) ?_ | refine WX_q rfl rfl (q_len G rfl rfl rfl rfl) ?_
    refine WL_cons rfl (WX_q rfl rfl (q_cmp rfl rfl rfl rfl) (?_))
    refine WL_nil (hK5 _ ?_)
    clear hK5 K5
    refine W_cond rfl (fun h1 => ?_) (fun h1 => ?_)
    · try rw [h1]
      try simp only [rfb] at h1
      refine W_skip (hK4 _ ?_)
      clear hK4 K4
      refine W_seq (fun K6 hK6 => ?_)
      refine W_block ?_
      refine W_seq (fun K7 hK7 => ?_)
      refine W_region (WL_cons rfl (WX_q rfl rfl (q_move rfl rfl) (WL_cons rfl (WX_q rfl rfl (q_move rfl rfl) (WL_cons rfl (?_))))))
      refine WX_q rfl rfl (q_index_lst G rfl rfl rfl rfl (by omega) (getN (by omega))) ?_
      refine WL_cons rfl (WX_q rfl rfl (q_field_ept G rfl rfl rfl rfl) (WL_cons rfl (WX_q rfl rfl (q_load_ept G rfl rfl rfl rfl rfl) (WL_cons rfl (?_)))))
      refine WX_q rfl rfl (q_call rfl (ArgsOK.of rfl) (c_spec_l6Prio _) rfl) ?_
      refine WL_cons rfl (WX_q rfl rfl (q_not rfl rfl) (WL_cons rfl (WX_q rfl rfl (q_move rfl rfl) (WL_part rfl rfl rfl (fun h2 => ?_) (fun h2 => ?_)))))
      · try rw [h2]
        try simp only [rfb] at h2
        refine WL_skip rfl rfl rfl rfl rfl rfl (WL_skip rfl rfl rfl rfl rfl rfl (WL_skip rfl rfl rfl rfl rfl rfl (WL_skip rfl rfl rfl rfl rfl rfl (WL_skip rfl rfl rfl rfl rfl rfl (WL_skip rfl rfl rfl rfl rfl rfl (WL_skip rfl rfl rfl rfl rfl rfl (WL_skip rfl rfl rfl rfl rfl rfl (WL_skip rfl rfl rfl rfl rfl rfl (WL_cons rfl (WX_q rfl rfl (q_pick_t rfl rfl rfl) (?_)))))))))))
        refine WL_nil (hK7 _ ?_)
        clear hK7 K7
        refine W_true rfl ?_
        refine W_seq (fun K8 hK8 => ?_)
        refine W_region (WL_cons rfl (WX_q rfl rfl (q_assign rfl rfl) (?_)))
        refine WL_nil (hK8 _ ?_)
        clear hK8 K8
        refine W_ret (fin_one rfl (rc_v ?_))
        all_goals clear hK6 K6 hK2 K2
        all_goals (first | rfl | (simp_all; done))
      · try rw [h2]
        try simp only [rfb] at h2
        refine WL_run rfl rfl rfl (WX_q rfl rfl (q_move rfl rfl) (WL_run rfl rfl rfl (WX_q rfl rfl (q_move rfl rfl) (WL_run rfl rfl rfl (?_)))))
        refine WX_q rfl rfl (q_index_lst G rfl rfl rfl rfl (by omega) (getN (by omega))) ?_
        refine WL_run rfl rfl rfl (WX_q rfl rfl (q_field_ept G rfl rfl rfl rfl) (WL_run rfl rfl rfl (WX_q rfl rfl (q_load_ept G rfl rfl rfl rfl rfl) (WL_run rfl rfl rfl (WX_q rfl rfl (q_move rfl rfl) (WL_run rfl rfl rfl (?_)))))))
        first | refine WX_q rfl rfl (q_arith rfl rfl rfl rfl (by omega) (by omega)) ?_ | refine WX_q rfl rfl (q_wrap rfl rfl rfl rfl) ?_
        refine WL_run rfl rfl rfl (?_)
        refine WX_q rfl rfl (q_call rfl (ArgsOK.of rfl) (c_spec_l1In _ _ _) rfl) ?_
        refine WL_run rfl rfl rfl (WX_q rfl rfl (q_not rfl rfl) (WL_cons rfl (WX_q rfl rfl (q_pick_f rfl rfl rfl) (?_))))
        refine WL_nil (hK7 _ ?_)
        clear hK7 K7
        refine W_cond rfl (fun h3 => ?_) (fun h3 => ?_)
        · try rw [h3]
          try simp only [rfb] at h3
          refine W_seq (fun K9 hK9 => ?_)
          refine W_region (WL_cons rfl (WX_q rfl rfl (q_assign rfl rfl) (?_)))
          refine WL_nil (hK9 _ ?_)
          clear hK9 K9
          refine W_ret (fin_one rfl (rc_v ?_))
          all_goals clear hK6 K6 hK2 K2
          all_goals (first | rfl | (simp_all; done))
        · try rw [h3]
          try simp only [rfb] at h3
          refine W_skip (hK6 _ ?_)
          clear hK6 K6
          refine W_region (WL_cons rfl (WX_q rfl rfl (q_move rfl rfl) (WL_cons rfl (?_))))
          first | refine WX_q rfl rfl (q_arith rfl rfl rfl rfl (by omega) (by omega)) ?_ | refine WX_q rfl rfl (q_wrap rfl rfl rfl rfl) ?_
          refine WL_cons rfl (WX_q rfl rfl (q_assign rfl rfl) (?_))
          refine WL_nil ⟨(i + 1), ?_, ?_, ⟨⟨_, rfl, by rfl⟩, rfl, trivial⟩, trivial, rfl, rfl, rfl⟩
          · omega
          · omega
    · try rw [h1]
      try simp only [rfb] at h1
      refine W_exit (hK2 _ ?_)
      clear hK4 K4 hK2 K2
      refine W_seq (fun K10 hK10 => ?_)
      refine W_region (WL_cons rfl (WX_q rfl rfl (q_move rfl rfl) (WL_cons rfl (?_))))
      refine WX_q rfl rfl (q_call rfl (ArgsOK.of rfl) (c_spec_l1In _ _ _) rfl) ?_
      refine WL_cons rfl (WX_q rfl rfl (q_move rfl rfl) (WL_part rfl rfl rfl (fun h4 => ?_) (fun h4 => ?_)))
      · try rw [h4]
        try simp only [rfb] at h4
        refine WL_run rfl rfl rfl (WX_q rfl rfl (q_move rfl rfl) (WL_run rfl rfl rfl (?_)))
        first | refine WX_q rfl rfl (q_len' G rfl rfl rfl rfl (List.length_map _)) ?_ | refine WX_q rfl rfl (q_len G rfl rfl rfl rfl) ?_
        refine WL_run rfl rfl rfl (WX_q rfl rfl (q_cmp rfl rfl rfl rfl) (WL_cons rfl (WX_q rfl rfl (q_pick_t rfl rfl rfl) (WL_cons rfl (WX_q rfl rfl (q_assign rfl rfl) (?_))))))
        refine WL_nil (hK10 _ ?_)
        clear hK10 K10
        refine W_ret (fin_one rfl (rc_v ?_))
        all_goals (first | rfl | (simp_all; done))
      · try rw [h4]
        try simp only [rfb] at h4
        refine WL_skip rfl rfl rfl rfl rfl rfl (WL_skip rfl rfl rfl rfl rfl rfl (WL_skip rfl rfl rfl rfl rfl rfl (WL_cons rfl (WX_q rfl rfl (q_pick_f rfl rfl rfl) (WL_cons rfl (WX_q rfl rfl (q_assign rfl rfl) (?_)))))))
        refine WL_nil (hK10 _ ?_)
        clear hK10 K10
        refine W_ret (fin_one rfl (rc_v ?_))
        all_goals (first | rfl | (simp_all; done))

theorem c_spec_l21Routes_any (rs : List Route) (c : Int) (hn : rs.length ≤ 1048576) : Ctr Try.prog 21 [.lst 2 (rs.map encRo), .v (.int .i64 c)] (.one (.v (.bool (okRts rs c)))) := by
  cases h : inside c 1 2
  · have e : okRts rs c = false := by simp only [okRts, h, Bool.false_and]
    rw [e]; exact c_spec_l21Routes_bad rs c hn h
  · exact c_spec_l21Routes rs c hn (by have := inside_t.mp h; omega)

theorem c_spec_NewMachine (rs : List Route) (c : Int) (hn : rs.length ≤ 1048576) : Ctr Try.prog 13 [.lst 2 (rs.map encRo), .v (.int .i64 c)] (.shp false [some 4, none] [.fr 44 2 ((newMT rs c).1.rs.map encRo), .fr 4 1 ((newMT rs c).1.en.map encO), .fr 4 1 ((newMT rs c).1.ra.map encO), .ne 60 4 ((newMT rs c).1.cp.map (encIf 54 77)), .v (.bool (newMT rs c).2)]) := by
  refine Ctr.of (n := 40) G Try.func13 rfl (by kernel_rfl) rfl rfl rfl (fun w0 => ?_)
  refine W_seq (fun K1 hK1 => ?_)
  refine W_region (WL_cons rfl (WX_alloc_s G 1 rfl rfl rfl rfl rfl (WL_cons rfl (WX_q rfl rfl (q_assign rfl rfl) (?_)))))
  refine WL_nil (hK1 _ ?_)
  clear hK1 K1
  refine W_seq (fun K2 hK2 => ?_)
  refine W_seq (fun K3 hK3 => ?_)
  refine W_region (WL_cons rfl (WX_q rfl rfl (q_move rfl rfl) (WL_cons rfl (WX_q rfl rfl (q_move rfl rfl) (WL_cons rfl (?_))))))
  refine WX_q rfl rfl (q_call rfl (ArgsOK.of rfl) (c_spec_l21Routes_any rs c hn) rfl) ?_
  refine WL_cons rfl (WX_q rfl rfl (q_not rfl rfl) (?_))
  refine WL_nil (hK3 _ ?_)
  clear hK3 K3
  refine W_cond rfl (fun h1 => ?_) (fun h1 => ?_)
  · try rw [h1]
    try simp only [rfb] at h1
    have hM := newMT_f (rs := rs) h1
    refine W_seq (fun K4 hK4 => ?_)
    refine W_region (WL_cons rfl (WX_q rfl rfl (q_build G rfl rfl rfl rfl) (WL_cons rfl (WX_store G rfl rfl rfl rfl rfl rfl rfl rfl rfl rfl rfl (WL_cons rfl (WX_q rfl rfl (q_assign rfl rfl) (?_)))))))
    refine WL_nil (hK4 _ ?_)
    clear hK4 K4
    refine W_ret (fin_shp rfl rfl rfl rfl (rcs_cons (rc_nil ?_) (rcs_cons (rc_nil ?_) (rcs_cons (rc_nil ?_) (rcs_cons (rc_niln ?_) (rcs_cons (rc_v ?_) rcs_nil))))))
    all_goals clear hK2 K2
    all_goals (first | (rw [hM]; done) | (rw [hM]; rfl) | (rw [hM]; simp [newM]; done) | (rw [hM]; simp [noM]; done) | (rw [hM]; have e : k = n := (by omega); subst e; first | done | rfl | (simp [newM]; done)))
  · try rw [h1]
    try simp only [rfb] at h1
    have hM := newMT_t (rs := rs) h1
    have hr := okRts_iff.mp h1
    obtain ⟨n, rfl⟩ : ∃ n : Nat, c = n := ⟨c.toNat, by omega⟩
    refine W_skip (hK2 _ ?_)
    clear hK2 K2
    refine W_seq (fun K5 hK5 => ?_)
    refine W_drawsH 9 [0] mixed (by kernel_rfl) rfl rfl (fun r0 => ?_) (fun _ h => h)
    refine WA_take 1 rfl (by kernel_rfl) (by kernel_rfl) rfl rfl rfl rfl (q_move rfl rfl) (?_)
    refine WA_more (N := 6) rfl (WAV_startH (fuel := 3) [⟨0, 13, 1, false, .row 44 2 []⟩, ⟨3, 16, 2, false, .row 4 1 (List.replicate 8 [.bool false])⟩, ⟨4, 17, 3, false, .row 4 1 (List.replicate 8 [.bool false])⟩, ⟨5, 18, 4, false, .row 60 4 []⟩, ⟨7, 6, 5, true, .box (avR [.slice none 0 0, .slice none 0 0, .slice none 0 0, .slice none 0 0] [])⟩] (AllVOK.cons (VOK.lit G rfl rfl rfl rfl rfl) (AllVOK.cons (VOK.make (n := 8) G rfl rfl rfl rfl rfl (by decide) (by decide)) (AllVOK.cons (VOK.make (n := 8) G rfl rfl rfl rfl rfl (by decide) (by decide)) (AllVOK.cons (VOK.lit G rfl rfl rfl rfl rfl) (AllVOK.cons (VOK.boxS G rfl rfl rfl rfl rfl) (AllVOK.nil)))))) (fun hok => ?_))
    refine WAV_go [(2, [0])] (by kernel_rfl) (by kernel_rfl) (fun e he => hok e he) (by kernel_rfl) (AllVS.cons ?_ AllVS.nil)
    refine VStep.mk1 [0] 13 (.own 1) 1 (.row 44 2 []) [⟨3, 16, 2, false, .row 4 1 (List.replicate 8 [.bool false])⟩, ⟨4, 17, 3, false, .row 4 1 (List.replicate 8 [.bool false])⟩, ⟨5, 18, 4, false, .row 60 4 []⟩, ⟨7, 6, 5, true, .box (avR [.slice none 0 0, .slice none 0 0, .slice none 0 0, .slice none 0 0] [])⟩] rfl rfl rfl rfl rfl (fun b1 _ hbn => WX_append G (by rw [hbn]; exact Nat.le_of_ble_eq_true rfl) rfl rfl rfl rfl rfl rfl rfl rfl rfl (by first | (simp; omega) | (simp only [List.length_map, List.length_cons, List.length_nil, List.length_replicate]; omega)) rfl rfl (WL_nil rfl)) (by kernel_rfl) (by kernel_rfl) (by kernel_rfl) (by kernel_rfl) ?_
    refine WAV_go [(6, [3, 4, 5])] (by kernel_rfl) (by kernel_rfl) (fun e he => hok e (vin (is := [0]) rfl he)) (by kernel_rfl) (AllVS.cons ?_ AllVS.nil)
    refine VStep.mk3 [0] 16 (.own 2) 2 (.row 4 1 (List.replicate 8 [.bool false])) 17 (.own 3) 3 (.row 4 1 (List.replicate 8 [.bool false])) 18 (.own 4) 4 (.row 60 4 []) [⟨7, 6, 5, true, .box (avR [.slice none 0 0, .slice none 0 0, .slice none 0 0, .slice none 0 0] [])⟩] rfl rfl rfl rfl rfl (fun b1 _ hbn => WX_q rfl rfl (q_build G rfl rfl rfl rfl) (WL_nil rfl)) (by kernel_rfl) (by kernel_rfl) (by kernel_rfl) (by kernel_rfl) ?_
    refine WAV_go [(8, [7])] (by kernel_rfl) (by kernel_rfl) (fun e he => hok e (vin (is := [0, 3, 4, 5]) rfl he)) (by kernel_rfl) (AllVS.cons ?_ AllVS.nil)
    refine VStep.mk1 [0] 6 (.ptr 5 0) 5 (.box (avR [.slice none 0 0, .slice none 0 0, .slice none 0 0, .slice none 0 0] [])) [] rfl rfl rfl rfl rfl (fun b1 _ hbn => WX_store G rfl rfl rfl rfl rfl rfl rfl rfl rfl rfl rfl (WL_nil rfl)) (by kernel_rfl) (by kernel_rfl) (by kernel_rfl) (by kernel_rfl) ?_
    refine WAV_nil ?_
    clear hok
    refine WA_gh (Gh.nest (id := 4) (yss := []) rfl rfl (by intro _ _ _ h; simp at h)) ?_
    refine WA_end (by kernel_rfl) (hK5 _ ?_)
    clear hK5 K5
    refine W_seq (fun K6 hK6 => ?_)
    refine W_seq (fun K7 hK7 => ?_)
    refine W_region (WL_cons rfl (WX_q rfl rfl (q_assign rfl rfl) (?_)))
    refine WL_nil (hK7 _ ?_)
    clear hK7 K7
    refine W_block ?_
    refine W_loopK [1, 4, 6] [0, 1, 2, 3, 5] (fun (k : Nat) => [(7, .v (.int .i64 (k : Int)))]) (fun (k : Nat) => [(4, some (.nest 60 4 ((List.replicate k ifc0).map (encIf 54 77)) []))]) (fun (k : Nat) => k ≤ n) (fun (k : Nat) => n - k) 0 rfl rfl ?_ ?_ ?_ ?_
    · exact Nat.zero_le _
    · exact ⟨⟨_, rfl, by (first | rfl | (simp; done) | (simp; omega))⟩, rfl, trivial⟩
    · exact ⟨⟨_, rfl, by rfl⟩, rfl, rfl, trivial⟩
    · intro k hinv
      simp only [List.cons_append, List.nil_append]
      refine W_seq (fun K8 hK8 => ?_)
      refine W_seq (fun K9 hK9 => ?_)
      refine W_region (WL_cons rfl (WX_q rfl rfl (q_move rfl rfl) (WL_cons rfl (WX_q rfl rfl (q_move rfl rfl) (WL_cons rfl (WX_q rfl rfl (q_cmp rfl rfl rfl rfl) (?_)))))))
      refine WL_nil (hK9 _ ?_)
      clear hK9 K9
      refine W_cond rfl (fun h2 => ?_) (fun h2 => ?_)
      · try rw [h2]
        try simp only [rfb] at h2
        refine W_skip (hK8 _ ?_)
        clear hK8 K8
        refine W_seq (fun K10 hK10 => ?_)
        refine W_block ?_
        refine W_region (WL_cons rfl (WX_q rfl rfl (q_field_ptr G rfl rfl rfl rfl) (WL_cons rfl (WX_q rfl rfl (q_load_box G rfl rfl rfl rfl rfl rfl rfl) (WL_cons rfl (WX_lit G 7 rfl rfl rfl rfl rfl rfl rfl rfl (WL_cons rfl (WX_q rfl rfl (q_build G rfl rfl rfl rfl) (WL_cons rfl (WX_q rfl rfl (q_build G rfl rfl rfl rfl) (WL_cons rfl (WX_q rfl rfl (q_build G rfl rfl rfl rfl) (WL_cons rfl (WX_q rfl rfl (q_build G rfl rfl rfl rfl) (WL_cons rfl (WX_lit G 8 rfl rfl rfl rfl rfl rfl rfl rfl (WL_cons rfl (WX_lit G 9 rfl rfl rfl rfl rfl rfl rfl rfl (WL_cons rfl (WX_q rfl rfl (q_build G rfl rfl rfl rfl) (WL_cons rfl (WX_q rfl rfl (q_build G rfl rfl rfl rfl) (WL_cons rfl (WX_lit_nest G 10 rfl rfl rfl rfl rfl rfl rfl rfl (.v rfl (.own rfl (.own rfl (.own rfl .nil)))) rfl rfl rfl rfl (WL_cons rfl (?_))))))))))))))))))))))))))
        refine WX_gh (Gh.forget (id := 5) (k := 3) rfl rfl) <| WX_gh (Gh.keep [0, 1, 2, 3, 4, 5, 9] rfl) <| WX_append_nest G np rfl rfl rfl rfl rfl rfl rfl rfl rfl rfl (by first | (simp; omega) | (simp only [List.length_map, List.length_cons, List.length_nil, List.length_replicate]; omega)) rfl rfl ?_
        refine WL_cons rfl (WX_q rfl rfl (q_field_ptr G rfl rfl rfl rfl) (WL_cons rfl (WX_store G rfl rfl rfl rfl rfl rfl rfl rfl rfl rfl rfl (?_))))
        refine WL_nil (hK10 _ ?_)
        clear hK10 K10
        refine W_region (WL_cons rfl (WX_q rfl rfl (q_move rfl rfl) (WL_cons rfl (?_))))
        first | refine WX_q rfl rfl (q_arith rfl rfl rfl rfl (by omega) (by omega)) ?_ | refine WX_q rfl rfl (q_wrap rfl rfl rfl rfl) ?_
        refine WL_cons rfl (WX_q rfl rfl (q_assign rfl rfl) (?_))
        refine WL_nil ⟨(k + 1), ?_, ?_, ⟨⟨_, rfl, by rfl⟩, rfl, trivial⟩, ⟨⟨_, rfl, by exact congrArg (fun z => Row.nest _ _ z []) (rep_succ rfl)⟩, rfl, rfl, trivial⟩, rfl, rfl, rfl⟩
        · omega
        · omega
      · try rw [h2]
        try simp only [rfb] at h2
        refine W_exit (hK6 _ ?_)
        clear hK8 K8 hK6 K6
        refine W_seq (fun K11 hK11 => ?_)
        refine W_region (WL_cons rfl (WX_q rfl rfl (q_load_box_struct G rfl rfl rfl rfl rfl rfl) (WL_cons rfl (WX_store G rfl rfl rfl rfl rfl rfl rfl rfl rfl rfl rfl (WL_cons rfl (WX_q rfl rfl (q_assign rfl rfl) (?_)))))))
        refine WL_nil (hK11 _ ?_)
        clear hK11 K11
        refine W_ret (fin_shp rfl rfl rfl rfl (rcs_cons (rc_own rfl ?_) (rcs_cons (rc_own rfl ?_) (rcs_cons (rc_own rfl ?_) (rcs_cons (rc_ne rfl ?_) (rcs_cons (rc_v ?_) rcs_nil))))))
        all_goals (first | (rw [hM]; done) | (rw [hM]; rfl) | (rw [hM]; simp [newM]; done) | (rw [hM]; simp [noM]; done) | (rw [hM]; have e : k = n := (by omega); subst e; first | done | rfl | (simp [newM]; done)))

theorem c_impl_NewMachine (rs : List Route) (c : Int) (hn : rs.length ≤ 1048576) : Ctr Try.prog 15 [.lst 2 (rs.map encRo), .v (.int .i64 c)] (.shp false [some 4, none] [.fr 44 2 ((newMT rs c).1.rs.map encRo), .fr 4 1 ((newMT rs c).1.en.map encO), .fr 4 1 ((newMT rs c).1.ra.map encO), .ne 60 4 ((newMT rs c).1.cp.map (encIf 54 77)), .v (.bool (newMT rs c).2)]) := by
  refine Ctr.of (n := 34) G Try.func15 rfl (by kernel_rfl) rfl rfl rfl (fun w0 => ?_)
  refine W_seq (fun K1 hK1 => ?_)
  refine W_region (WL_cons rfl (WX_alloc_s G 1 rfl rfl rfl rfl rfl (WL_cons rfl (WX_q rfl rfl (q_assign rfl rfl) (?_)))))
  refine WL_nil (hK1 _ ?_)
  clear hK1 K1
  refine W_seq (fun K2 hK2 => ?_)
  refine W_seq (fun K3 hK3 => ?_)
  refine W_region (WL_cons rfl (WX_q rfl rfl (q_move rfl rfl) (WL_cons rfl (WX_q rfl rfl (q_move rfl rfl) (WL_cons rfl (?_))))))
  refine WX_q rfl rfl (q_call rfl (ArgsOK.of rfl) (c_impl_areRoutes _ _ (by first | assumption | omega)) rfl) ?_
  refine WL_cons rfl (WX_q rfl rfl (q_not rfl rfl) (?_))
  refine WL_nil (hK3 _ ?_)
  clear hK3 K3
  refine W_cond rfl (fun h1 => ?_) (fun h1 => ?_)
  · try rw [h1]
    try simp only [rfb] at h1
    have hM := newMT_f (rs := rs) h1
    refine W_seq (fun K4 hK4 => ?_)
    refine W_region (WL_cons rfl (WX_q rfl rfl (q_build G rfl rfl rfl rfl) (WL_cons rfl (WX_store G rfl rfl rfl rfl rfl rfl rfl rfl rfl rfl rfl (WL_cons rfl (WX_q rfl rfl (q_assign rfl rfl) (?_)))))))
    refine WL_nil (hK4 _ ?_)
    clear hK4 K4
    refine W_ret (fin_shp rfl rfl rfl rfl (rcs_cons (rc_nil ?_) (rcs_cons (rc_nil ?_) (rcs_cons (rc_nil ?_) (rcs_cons (rc_niln ?_) (rcs_cons (rc_v ?_) rcs_nil))))))
    all_goals clear hK2 K2
    all_goals (first | (rw [hM]; done) | (rw [hM]; rfl) | (rw [hM]; simp [newM]; done) | (rw [hM]; simp [noM]; done) | (rw [hM]; have e : k = n := (by omega); subst e; first | done | rfl | (simp [newM]; done)))
  · try rw [h1]
    try simp only [rfb] at h1
    have hM := newMT_t (rs := rs) h1
    have hr := okRts_iff.mp h1
    obtain ⟨n, rfl⟩ : ∃ n : Nat, c = n := ⟨c.toNat, by omega⟩
    refine W_skip (hK2 _ ?_)
    clear hK2 K2
    refine W_seq (fun K5 hK5 => ?_)
    refine W_drawsH 9 [0] mixed (by kernel_rfl) rfl rfl (fun r0 => ?_) (fun _ h => h)
    refine WA_take 1 rfl (by kernel_rfl) (by kernel_rfl) rfl rfl rfl rfl (q_move rfl rfl) (?_)
    refine WA_more (N := 6) rfl (WAV_startH (fuel := 3) [⟨0, 12, 1, false, .row 44 2 []⟩, ⟨3, 15, 2, false, .row 4 1 (List.replicate 8 [.bool false])⟩, ⟨4, 16, 3, false, .row 4 1 (List.replicate 8 [.bool false])⟩, ⟨5, 17, 4, false, .row 60 4 []⟩, ⟨7, 6, 5, true, .box (avR [.slice none 0 0, .slice none 0 0, .slice none 0 0, .slice none 0 0] [])⟩] (AllVOK.cons (VOK.lit G rfl rfl rfl rfl rfl) (AllVOK.cons (VOK.make (n := 8) G rfl rfl rfl rfl rfl (by decide) (by decide)) (AllVOK.cons (VOK.make (n := 8) G rfl rfl rfl rfl rfl (by decide) (by decide)) (AllVOK.cons (VOK.lit G rfl rfl rfl rfl rfl) (AllVOK.cons (VOK.boxS G rfl rfl rfl rfl rfl) (AllVOK.nil)))))) (fun hok => ?_))
    refine WAV_go [(2, [0])] (by kernel_rfl) (by kernel_rfl) (fun e he => hok e he) (by kernel_rfl) (AllVS.cons ?_ AllVS.nil)
    refine VStep.mk1 [0] 12 (.own 1) 1 (.row 44 2 []) [⟨3, 15, 2, false, .row 4 1 (List.replicate 8 [.bool false])⟩, ⟨4, 16, 3, false, .row 4 1 (List.replicate 8 [.bool false])⟩, ⟨5, 17, 4, false, .row 60 4 []⟩, ⟨7, 6, 5, true, .box (avR [.slice none 0 0, .slice none 0 0, .slice none 0 0, .slice none 0 0] [])⟩] rfl rfl rfl rfl rfl (fun b1 _ hbn => WX_append G (by rw [hbn]; exact Nat.le_of_ble_eq_true rfl) rfl rfl rfl rfl rfl rfl rfl rfl rfl (by first | (simp; omega) | (simp only [List.length_map, List.length_cons, List.length_nil, List.length_replicate]; omega)) rfl rfl (WL_nil rfl)) (by kernel_rfl) (by kernel_rfl) (by kernel_rfl) (by kernel_rfl) ?_
    refine WAV_go [(6, [3, 4, 5])] (by kernel_rfl) (by kernel_rfl) (fun e he => hok e (vin (is := [0]) rfl he)) (by kernel_rfl) (AllVS.cons ?_ AllVS.nil)
    refine VStep.mk3 [0] 15 (.own 2) 2 (.row 4 1 (List.replicate 8 [.bool false])) 16 (.own 3) 3 (.row 4 1 (List.replicate 8 [.bool false])) 17 (.own 4) 4 (.row 60 4 []) [⟨7, 6, 5, true, .box (avR [.slice none 0 0, .slice none 0 0, .slice none 0 0, .slice none 0 0] [])⟩] rfl rfl rfl rfl rfl (fun b1 _ hbn => WX_q rfl rfl (q_build G rfl rfl rfl rfl) (WL_nil rfl)) (by kernel_rfl) (by kernel_rfl) (by kernel_rfl) (by kernel_rfl) ?_
    refine WAV_go [(8, [7])] (by kernel_rfl) (by kernel_rfl) (fun e he => hok e (vin (is := [0, 3, 4, 5]) rfl he)) (by kernel_rfl) (AllVS.cons ?_ AllVS.nil)
    refine VStep.mk1 [0] 6 (.ptr 5 0) 5 (.box (avR [.slice none 0 0, .slice none 0 0, .slice none 0 0, .slice none 0 0] [])) [] rfl rfl rfl rfl rfl (fun b1 _ hbn => WX_store G rfl rfl rfl rfl rfl rfl rfl rfl rfl rfl rfl (WL_nil rfl)) (by kernel_rfl) (by kernel_rfl) (by kernel_rfl) (by kernel_rfl) ?_
    refine WAV_nil ?_
    clear hok
    refine WA_gh (Gh.nest (id := 4) (yss := []) rfl rfl (by intro _ _ _ h; simp at h)) ?_
    refine WA_end (by kernel_rfl) (hK5 _ ?_)
    clear hK5 K5
    refine W_seq (fun K6 hK6 => ?_)
    refine W_seq (fun K7 hK7 => ?_)
    refine W_region (WL_cons rfl (WX_q rfl rfl (q_move rfl rfl) (WL_cons rfl (WX_q rfl rfl (q_move rfl rfl) (?_)))))
    refine WL_nil (hK7 _ ?_)
    clear hK7 K7
    refine W_block ?_
    refine W_loopK [4, 6, 19] [0, 1, 2, 3, 5] (fun (k : Nat) => [(20, .v (.int .i64 (k : Int)))]) (fun (k : Nat) => [(4, some (.nest 60 4 ((List.replicate k ifc0).map (encIf 54 77)) []))]) (fun (k : Nat) => k ≤ n) (fun (k : Nat) => n - k) 0 rfl rfl ?_ ?_ ?_ ?_
    · exact Nat.zero_le _
    · exact ⟨⟨_, rfl, by (first | rfl | (simp; done) | (simp; omega))⟩, rfl, trivial⟩
    · exact ⟨⟨_, rfl, by rfl⟩, rfl, rfl, trivial⟩
    · intro k hinv
      simp only [List.cons_append, List.nil_append]
      refine W_seq (fun K8 hK8 => ?_)
      refine W_region (WL_cons rfl (WX_q rfl rfl (q_cmp rfl rfl rfl rfl) (?_)))
      refine WL_nil (hK8 _ ?_)
      clear hK8 K8
      refine W_seq (fun K9 hK9 => ?_)
      refine W_cond rfl (fun h2 => ?_) (fun h2 => ?_)
      · try rw [h2]
        try simp only [rfb] at h2
        refine W_skip (hK9 _ ?_)
        clear hK9 K9
        refine W_seq (fun K10 hK10 => ?_)
        refine W_block ?_
        apply W_drawsJ [4, 6, 19, 20] [0, 1, 2, 3, 5, 10] 11 11 [0, 1, 2, 3] mixed (by kernel_rfl) rfl rfl hK10
        · intro r0
          refine WA_take 0 rfl (by kernel_rfl) (by kernel_rfl) rfl rfl rfl rfl (q_field_ptr G rfl rfl rfl rfl) (?_)
          refine WA_more (N := 9) rfl (WAV_startH (fuel := 7) [⟨2, 24, 6, false, .row 3 1 []⟩, ⟨3, 25, 7, false, .row 54 3 (List.replicate 4 [.int .i64 0, .int .i64 0, .int .i64 0])⟩, ⟨4, 26, 8, false, .row 77 2 []⟩] (AllVOK.cons (VOK.lit G rfl rfl rfl rfl rfl) (AllVOK.cons (VOK.make (n := 4) G rfl rfl rfl rfl rfl (by decide) (by decide)) (AllVOK.cons (VOK.lit G rfl rfl rfl rfl rfl) (AllVOK.nil)))) (fun hok => ?_))
          refine WAV_go [(1, []), (5, [3, 4])] (by kernel_rfl) (by kernel_rfl) (fun e he => hok e he) (by kernel_rfl) (AllVS.cons ?_ (AllVS.cons ?_ AllVS.nil))
          · refine VStep.mk0 [0, 1, 2, 3] rfl rfl (fun b1 _ hbn => WX_q rfl rfl (q_load_box G rfl rfl rfl rfl rfl rfl rfl) (WL_nil rfl)) (by kernel_rfl) (by kernel_rfl) (by kernel_rfl) (by kernel_rfl) ?_
            refine WAV_go [(5, [3, 4])] (by kernel_rfl) (by kernel_rfl) (fun e he => hok e he) (by kernel_rfl) (AllVS.cons ?_ AllVS.nil)
            refine VStep.mk2 [0, 1, 2, 3] 25 (.own 7) 7 (.row 54 3 (List.replicate 4 [.int .i64 0, .int .i64 0, .int .i64 0])) 26 (.own 8) 8 (.row 77 2 []) [⟨2, 24, 6, false, .row 3 1 []⟩] rfl rfl rfl rfl rfl (fun b1 _ hbn => WX_q rfl rfl (q_build G rfl rfl rfl rfl) (WL_nil rfl)) (by kernel_rfl) (by kernel_rfl) (by kernel_rfl) (by kernel_rfl) ?_
            refine WAV_go [(6, [2])] (by kernel_rfl) (by kernel_rfl) (fun e he => hok e (vin (is := [3, 4]) rfl he)) (by kernel_rfl) (AllVS.cons ?_ AllVS.nil)
            refine VStep.mk1 [0, 1, 2, 3] 24 (.own 6) 6 (.row 3 1 []) [] rfl rfl rfl rfl rfl (fun b1 _ hbn => WX_q rfl rfl (q_build G rfl rfl rfl rfl) (WL_nil rfl)) (by kernel_rfl) (by kernel_rfl) (by kernel_rfl) (by kernel_rfl) ?_
            refine WAV_nil ?_
            clear hok
            refine WA_branch (rs := [7]) (by kernel_rfl) rfl (AllB.cons ?_ AllB.nil)
            refine WB_run [0, 1, 2, 3] rfl rfl (WX_lit_nest G 10 rfl rfl rfl rfl rfl rfl rfl rfl (.v rfl (.own rfl (.own rfl (.own rfl .nil)))) rfl rfl rfl rfl (WL_nil ⟨rfl, ?_⟩))
            refine WA_branch (rs := [8]) (by kernel_rfl) rfl (AllB.cons ?_ AllB.nil)
            refine WB_run [0, 1, 2, 3] rfl rfl (WX_gh (Gh.forget (id := 5) (k := 3) rfl rfl) <| WX_gh (Gh.keep [0, 1, 2, 3, 4, 5, 9] rfl) <| WX_ren (tx := 23) 11 rfl rfl rfl rfl rfl <| WX_append_nest G (by exact Nat.le_of_ble_eq_true rfl) rfl rfl rfl rfl rfl rfl rfl rfl rfl rfl (by first | (simp; omega) | (simp only [List.length_map, List.length_cons, List.length_nil, List.length_replicate]; omega)) rfl rfl (WL_nil ⟨rfl, ?_⟩))
            refine WA_take 9 rfl (by kernel_rfl) (by kernel_rfl) rfl rfl rfl rfl (q_field_ptr G rfl rfl rfl rfl) (?_)
            refine WA_branch (rs := [10]) (by kernel_rfl) rfl (AllB.cons ?_ AllB.nil)
            refine WB_run [0, 1, 2, 3] rfl rfl (WX_store G rfl rfl rfl rfl rfl rfl rfl rfl rfl rfl rfl (WL_nil ⟨rfl, ?_⟩))
            exact WA_end (by kernel_rfl) (Meet.mk rfl rfl rfl rfl)
          · refine VStep.mk2 [0, 1, 2, 3] 25 (.own 7) 7 (.row 54 3 (List.replicate 4 [.int .i64 0, .int .i64 0, .int .i64 0])) 26 (.own 8) 8 (.row 77 2 []) [⟨2, 24, 6, false, .row 3 1 []⟩] rfl rfl rfl rfl rfl (fun b1 _ hbn => WX_q rfl rfl (q_build G rfl rfl rfl rfl) (WL_nil rfl)) (by kernel_rfl) (by kernel_rfl) (by kernel_rfl) (by kernel_rfl) ?_
            refine WAV_go [(1, []), (6, [2])] (by kernel_rfl) (by kernel_rfl) (fun e he => hok e (vin (is := [3, 4]) rfl he)) (by kernel_rfl) (AllVS.cons ?_ (AllVS.cons ?_ AllVS.nil))
            · refine VStep.mk0 [0, 1, 2, 3] rfl rfl (fun b1 _ hbn => WX_q rfl rfl (q_load_box G rfl rfl rfl rfl rfl rfl rfl) (WL_nil rfl)) (by kernel_rfl) (by kernel_rfl) (by kernel_rfl) (by kernel_rfl) ?_
              refine WAV_go [(6, [2])] (by kernel_rfl) (by kernel_rfl) (fun e he => hok e (vin (is := [3, 4]) rfl he)) (by kernel_rfl) (AllVS.cons ?_ AllVS.nil)
              refine VStep.mk1 [0, 1, 2, 3] 24 (.own 6) 6 (.row 3 1 []) [] rfl rfl rfl rfl rfl (fun b1 _ hbn => WX_q rfl rfl (q_build G rfl rfl rfl rfl) (WL_nil rfl)) (by kernel_rfl) (by kernel_rfl) (by kernel_rfl) (by kernel_rfl) ?_
              refine WAV_nil ?_
              clear hok
              refine WA_branch (rs := [7]) (by kernel_rfl) rfl (AllB.cons ?_ AllB.nil)
              refine WB_run [0, 1, 2, 3] rfl rfl (WX_lit_nest G 10 rfl rfl rfl rfl rfl rfl rfl rfl (.v rfl (.own rfl (.own rfl (.own rfl .nil)))) rfl rfl rfl rfl (WL_nil ⟨rfl, ?_⟩))
              refine WA_branch (rs := [8]) (by kernel_rfl) rfl (AllB.cons ?_ AllB.nil)
              refine WB_run [0, 1, 2, 3] rfl rfl (WX_gh (Gh.forget (id := 5) (k := 3) rfl rfl) <| WX_gh (Gh.keep [0, 1, 2, 3, 4, 5, 9] rfl) <| WX_ren (tx := 23) 11 rfl rfl rfl rfl rfl <| WX_append_nest G (by exact Nat.le_of_ble_eq_true rfl) rfl rfl rfl rfl rfl rfl rfl rfl rfl rfl (by first | (simp; omega) | (simp only [List.length_map, List.length_cons, List.length_nil, List.length_replicate]; omega)) rfl rfl (WL_nil ⟨rfl, ?_⟩))
              refine WA_take 9 rfl (by kernel_rfl) (by kernel_rfl) rfl rfl rfl rfl (q_field_ptr G rfl rfl rfl rfl) (?_)
              refine WA_branch (rs := [10]) (by kernel_rfl) rfl (AllB.cons ?_ AllB.nil)
              refine WB_run [0, 1, 2, 3] rfl rfl (WX_store G rfl rfl rfl rfl rfl rfl rfl rfl rfl rfl rfl (WL_nil ⟨rfl, ?_⟩))
              exact WA_end (by kernel_rfl) (Meet.mk rfl rfl rfl rfl)
            · refine VStep.mk1 [0, 1, 2, 3] 24 (.own 6) 6 (.row 3 1 []) [] rfl rfl rfl rfl rfl (fun b1 _ hbn => WX_q rfl rfl (q_build G rfl rfl rfl rfl) (WL_nil rfl)) (by kernel_rfl) (by kernel_rfl) (by kernel_rfl) (by kernel_rfl) ?_
              refine WAV_nil ?_
              clear hok
              refine WA_branch (rs := [1, 7]) (by kernel_rfl) rfl (AllB.cons ?_ (AllB.cons ?_ AllB.nil))
              · refine WB_run [0, 1, 2, 3] rfl rfl (WX_q rfl rfl (q_load_box G rfl rfl rfl rfl rfl rfl rfl) (WL_nil ⟨rfl, ?_⟩))
                refine WA_branch (rs := [7]) (by kernel_rfl) rfl (AllB.cons ?_ AllB.nil)
                refine WB_run [0, 1, 2, 3] rfl rfl (WX_lit_nest G 10 rfl rfl rfl rfl rfl rfl rfl rfl (.v rfl (.own rfl (.own rfl (.own rfl .nil)))) rfl rfl rfl rfl (WL_nil ⟨rfl, ?_⟩))
                refine WA_branch (rs := [8]) (by kernel_rfl) rfl (AllB.cons ?_ AllB.nil)
                refine WB_run [0, 1, 2, 3] rfl rfl (WX_gh (Gh.forget (id := 5) (k := 3) rfl rfl) <| WX_gh (Gh.keep [0, 1, 2, 3, 4, 5, 9] rfl) <| WX_ren (tx := 23) 11 rfl rfl rfl rfl rfl <| WX_append_nest G (by exact Nat.le_of_ble_eq_true rfl) rfl rfl rfl rfl rfl rfl rfl rfl rfl rfl (by first | (simp; omega) | (simp only [List.length_map, List.length_cons, List.length_nil, List.length_replicate]; omega)) rfl rfl (WL_nil ⟨rfl, ?_⟩))
                refine WA_take 9 rfl (by kernel_rfl) (by kernel_rfl) rfl rfl rfl rfl (q_field_ptr G rfl rfl rfl rfl) (?_)
                refine WA_branch (rs := [10]) (by kernel_rfl) rfl (AllB.cons ?_ AllB.nil)
                refine WB_run [0, 1, 2, 3] rfl rfl (WX_store G rfl rfl rfl rfl rfl rfl rfl rfl rfl rfl rfl (WL_nil ⟨rfl, ?_⟩))
                exact WA_end (by kernel_rfl) (Meet.mk rfl rfl rfl rfl)
              · refine WB_run [0, 1, 2, 3] rfl rfl (WX_lit_nest G 10 rfl rfl rfl rfl rfl rfl rfl rfl (.v rfl (.own rfl (.own rfl (.own rfl .nil)))) rfl rfl rfl rfl (WL_nil ⟨rfl, ?_⟩))
                refine WA_branch (rs := [1]) (by kernel_rfl) rfl (AllB.cons ?_ AllB.nil)
                refine WB_run [0, 1, 2, 3] rfl rfl (WX_q rfl rfl (q_load_box G rfl rfl rfl rfl rfl rfl rfl) (WL_nil ⟨rfl, ?_⟩))
                refine WA_branch (rs := [8]) (by kernel_rfl) rfl (AllB.cons ?_ AllB.nil)
                refine WB_run [0, 1, 2, 3] rfl rfl (WX_gh (Gh.forget (id := 5) (k := 3) rfl rfl) <| WX_gh (Gh.keep [0, 1, 2, 3, 4, 5, 9] rfl) <| WX_ren (tx := 23) 11 rfl rfl rfl rfl rfl <| WX_append_nest G (by exact Nat.le_of_ble_eq_true rfl) rfl rfl rfl rfl rfl rfl rfl rfl rfl rfl (by first | (simp; omega) | (simp only [List.length_map, List.length_cons, List.length_nil, List.length_replicate]; omega)) rfl rfl (WL_nil ⟨rfl, ?_⟩))
                refine WA_take 9 rfl (by kernel_rfl) (by kernel_rfl) rfl rfl rfl rfl (q_field_ptr G rfl rfl rfl rfl) (?_)
                refine WA_branch (rs := [10]) (by kernel_rfl) rfl (AllB.cons ?_ AllB.nil)
                refine WB_run [0, 1, 2, 3] rfl rfl (WX_store G rfl rfl rfl rfl rfl rfl rfl rfl rfl rfl rfl (WL_nil ⟨rfl, ?_⟩))
                exact WA_end (by kernel_rfl) (Meet.mk rfl rfl rfl rfl)
        · clear hK10 K10
          refine W_region (WL_cons rfl (?_))
          first | refine WX_q rfl rfl (q_arith rfl rfl rfl rfl (by omega) (by omega)) ?_ | refine WX_q rfl rfl (q_wrap rfl rfl rfl rfl) ?_
          refine WL_cons rfl (WX_q rfl rfl (q_move rfl rfl) (?_))
          refine WL_gh (Gh.sub 10 4 np rfl rfl rfl) ?_
          refine WL_nil ⟨(k + 1), ?_, ?_, ⟨⟨_, rfl, by rfl⟩, rfl, trivial⟩, ⟨⟨_, rfl, by exact congrArg (fun z => Row.nest _ _ z []) (rep_succ rfl)⟩, rfl, rfl, trivial⟩, rfl, rfl, rfl⟩
          · omega
          · omega
      · try rw [h2]
        try simp only [rfb] at h2
        refine W_exit (hK6 _ ?_)
        clear hK9 K9 hK6 K6
        refine W_seq (fun K11 hK11 => ?_)
        refine W_region (WL_cons rfl (WX_q rfl rfl (q_load_box_struct G rfl rfl rfl rfl rfl rfl) (WL_cons rfl (WX_store G rfl rfl rfl rfl rfl rfl rfl rfl rfl rfl rfl (WL_cons rfl (WX_q rfl rfl (q_assign rfl rfl) (?_)))))))
        refine WL_nil (hK11 _ ?_)
        clear hK11 K11
        refine W_ret (fin_shp rfl rfl rfl rfl (rcs_cons (rc_own rfl ?_) (rcs_cons (rc_own rfl ?_) (rcs_cons (rc_own rfl ?_) (rcs_cons (rc_ne rfl ?_) (rcs_cons (rc_v ?_) rcs_nil))))))
        all_goals (first | (rw [hM]; done) | (rw [hM]; rfl) | (rw [hM]; simp [newM]; done) | (rw [hM]; simp [noM]; done) | (rw [hM]; have e : k = n := (by omega); subst e; first | done | rfl | (simp [newM]; done)))

theorem c_spec_NewConsole (rs : List Route) (c : Int) (hn : rs.length ≤ 1048576) : Ctr Try.prog 5 [.lst 2 (rs.map encRo), .v (.int .i64 c)] (.shp false [some 7, none] [.fr 44 2 ((newMT rs c).1.rs.map encRo), .fr 4 1 ((newMT rs c).1.en.map encO), .fr 4 1 ((newMT rs c).1.ra.map encO), .ne 60 4 ((newMT rs c).1.cp.map (encIf 54 77)), .v (.string ⟨#[]⟩), .v (.string ⟨#[]⟩), .v (.int .i64 0), .v (.bool (newMT rs c).2)]) := by
  refine Ctr.of (n := 19) G Try.func5 rfl (by kernel_rfl) rfl rfl rfl (fun w0 => ?_)
  refine W_seq (fun K1 hK1 => ?_)
  refine W_region (WL_cons rfl (WX_alloc_s G 1 rfl rfl rfl rfl rfl (WL_cons rfl (WX_q rfl rfl (q_assign rfl rfl) (?_)))))
  refine WL_nil (hK1 _ ?_)
  clear hK1 K1
  refine W_seq (fun K2 hK2 => ?_)
  refine W_region (WL_cons rfl (WX_q rfl rfl (q_move rfl rfl) (WL_cons rfl (WX_q rfl rfl (q_move rfl rfl) (WL_cons rfl (?_))))))
  refine WX_call 5 rfl rfl rfl (ArgsOK.of rfl) (c_spec_NewMachine _ _ (by first | assumption | omega)) rfl rfl ?_
  refine WL_cons rfl (WX_q rfl rfl (q_move rfl rfl) (WL_cons rfl (WX_q rfl rfl (q_extract rfl rfl rfl) (WL_cons rfl (WX_q rfl rfl (q_extract rfl rfl rfl) (WL_cons rfl (WX_alloc_s G 6 rfl rfl rfl rfl rfl (WL_cons rfl (WX_store G rfl rfl rfl rfl rfl rfl rfl rfl rfl rfl rfl (WL_cons rfl (WX_q rfl rfl (q_assign rfl rfl) (?_))))))))))))
  refine WL_nil (hK2 _ ?_)
  clear hK2 K2
  refine W_seq (fun K3 hK3 => ?_)
  refine W_seq (fun K4 hK4 => ?_)
  refine W_region (WL_cons rfl (WX_q rfl rfl (q_move rfl rfl) (WL_cons rfl (WX_q rfl rfl (q_not rfl rfl) (?_)))))
  refine WL_nil (hK4 _ ?_)
  clear hK4 K4
  refine W_cond rfl (fun h1 => ?_) (fun h1 => ?_)
  · try rw [h1]
    try simp only [rfb] at h1
    have hM := newMT_2f h1
    refine W_seq (fun K5 hK5 => ?_)
    refine W_region (WL_cons rfl (WX_q rfl rfl (q_build G rfl rfl rfl rfl) (WL_cons rfl (WX_store G rfl rfl rfl rfl rfl rfl rfl rfl rfl rfl rfl (WL_cons rfl (WX_q rfl rfl (q_assign rfl rfl) (?_)))))))
    refine WL_nil (hK5 _ ?_)
    clear hK5 K5
    refine W_ret (fin_shp rfl rfl rfl rfl (rcs_cons (rc_nil ?_) (rcs_cons (rc_nil ?_) (rcs_cons (rc_nil ?_) (rcs_cons (rc_niln ?_) (rcs_cons (rc_v ?_) (rcs_cons (rc_v ?_) (rcs_cons (rc_v ?_) (rcs_cons (rc_v ?_) rcs_nil)))))))))
    all_goals clear hK3 K3
    all_goals (first | rfl | (rw [hM]; done) | (rw [hM]; rfl) | (simp_all; done))
  · try rw [h1]
    try simp only [rfb] at h1
    have hM := h1
    refine W_skip (hK3 _ ?_)
    clear hK3 K3
    refine W_seq (fun K6 hK6 => ?_)
    refine W_region (WL_cons rfl (WX_q rfl rfl (q_load_box_struct G rfl rfl rfl rfl rfl rfl) (WL_cons rfl (WX_q rfl rfl (q_build G rfl rfl rfl rfl) (WL_cons rfl (WX_store G rfl rfl rfl rfl rfl rfl rfl rfl rfl rfl rfl (WL_cons rfl (WX_q rfl rfl (q_assign rfl rfl) (?_)))))))))
    refine WL_nil (hK6 _ ?_)
    clear hK6 K6
    refine W_ret (fin_shp rfl rfl rfl rfl (rcs_cons (rc_own rfl ?_) (rcs_cons (rc_own rfl ?_) (rcs_cons (rc_own rfl ?_) (rcs_cons (rc_ne rfl ?_) (rcs_cons (rc_v ?_) (rcs_cons (rc_v ?_) (rcs_cons (rc_v ?_) (rcs_cons (rc_v ?_) rcs_nil)))))))))
    all_goals (first | rfl | (rw [hM]; done) | (rw [hM]; rfl) | (simp_all; done))

theorem c_impl_NewConsole (rs : List Route) (c : Int) (hn : rs.length ≤ 1048576) : Ctr Try.prog 7 [.lst 2 (rs.map encRo), .v (.int .i64 c)] (.shp false [some 7, none] [.fr 44 2 ((newMT rs c).1.rs.map encRo), .fr 4 1 ((newMT rs c).1.en.map encO), .fr 4 1 ((newMT rs c).1.ra.map encO), .ne 60 4 ((newMT rs c).1.cp.map (encIf 54 77)), .v (.string ⟨#[]⟩), .v (.string ⟨#[]⟩), .v (.int .i64 0), .v (.bool (newMT rs c).2)]) := by
  refine Ctr.of (n := 19) G Try.func7 rfl (by kernel_rfl) rfl rfl rfl (fun w0 => ?_)
  refine W_seq (fun K1 hK1 => ?_)
  refine W_region (WL_cons rfl (WX_alloc_s G 1 rfl rfl rfl rfl rfl (WL_cons rfl (WX_q rfl rfl (q_assign rfl rfl) (?_)))))
  refine WL_nil (hK1 _ ?_)
  clear hK1 K1
  refine W_seq (fun K2 hK2 => ?_)
  refine W_region (WL_cons rfl (WX_q rfl rfl (q_move rfl rfl) (WL_cons rfl (WX_q rfl rfl (q_move rfl rfl) (WL_cons rfl (?_))))))
  refine WX_call 5 rfl rfl rfl (ArgsOK.of rfl) (c_impl_NewMachine _ _ (by first | assumption | omega)) rfl rfl ?_
  refine WL_cons rfl (WX_q rfl rfl (q_move rfl rfl) (WL_cons rfl (WX_q rfl rfl (q_extract rfl rfl rfl) (WL_cons rfl (WX_q rfl rfl (q_extract rfl rfl rfl) (WL_cons rfl (WX_alloc_s G 6 rfl rfl rfl rfl rfl (WL_cons rfl (WX_store G rfl rfl rfl rfl rfl rfl rfl rfl rfl rfl rfl (WL_cons rfl (WX_q rfl rfl (q_assign rfl rfl) (?_))))))))))))
  refine WL_nil (hK2 _ ?_)
  clear hK2 K2
  refine W_seq (fun K3 hK3 => ?_)
  refine W_seq (fun K4 hK4 => ?_)
  refine W_region (WL_cons rfl (WX_q rfl rfl (q_move rfl rfl) (WL_cons rfl (WX_q rfl rfl (q_not rfl rfl) (?_)))))
  refine WL_nil (hK4 _ ?_)
  clear hK4 K4
  refine W_cond rfl (fun h1 => ?_) (fun h1 => ?_)
  · try rw [h1]
    try simp only [rfb] at h1
    have hM := newMT_2f h1
    refine W_seq (fun K5 hK5 => ?_)
    refine W_region (WL_cons rfl (WX_q rfl rfl (q_build G rfl rfl rfl rfl) (WL_cons rfl (WX_store G rfl rfl rfl rfl rfl rfl rfl rfl rfl rfl rfl (WL_cons rfl (WX_q rfl rfl (q_assign rfl rfl) (?_)))))))
    refine WL_nil (hK5 _ ?_)
    clear hK5 K5
    refine W_ret (fin_shp rfl rfl rfl rfl (rcs_cons (rc_nil ?_) (rcs_cons (rc_nil ?_) (rcs_cons (rc_nil ?_) (rcs_cons (rc_niln ?_) (rcs_cons (rc_v ?_) (rcs_cons (rc_v ?_) (rcs_cons (rc_v ?_) (rcs_cons (rc_v ?_) rcs_nil)))))))))
    all_goals clear hK3 K3
    all_goals (first | rfl | (rw [hM]; done) | (rw [hM]; rfl) | (simp_all; done))
  · try rw [h1]
    try simp only [rfb] at h1
    have hM := h1
    refine W_skip (hK3 _ ?_)
    clear hK3 K3
    refine W_seq (fun K6 hK6 => ?_)
    refine W_region (WL_cons rfl (WX_q rfl rfl (q_load_box_struct G rfl rfl rfl rfl rfl rfl) (WL_cons rfl (WX_q rfl rfl (q_build G rfl rfl rfl rfl) (WL_cons rfl (WX_store G rfl rfl rfl rfl rfl rfl rfl rfl rfl rfl rfl (WL_cons rfl (WX_q rfl rfl (q_assign rfl rfl) (?_)))))))))
    refine WL_nil (hK6 _ ?_)
    clear hK6 K6
    refine W_ret (fin_shp rfl rfl rfl rfl (rcs_cons (rc_own rfl ?_) (rcs_cons (rc_own rfl ?_) (rcs_cons (rc_own rfl ?_) (rcs_cons (rc_ne rfl ?_) (rcs_cons (rc_v ?_) (rcs_cons (rc_v ?_) (rcs_cons (rc_v ?_) (rcs_cons (rc_v ?_) rcs_nil)))))))))
    all_goals (first | rfl | (rw [hM]; done) | (rw [hM]; rfl) | (simp_all; done))

end Go.Proofs.Ytpmdcclkmmcchaa

/- Walks through functions of the program, one contract each (written by gen.py). -/
set_option maxRecDepth 20000
set_option linter.unusedVariables false
set_option linter.unusedSimpArgs false
namespace Go.Proofs.Ytpmdcclkmmcchaa
open Go Go.Rf

set_option maxHeartbeats 2000000 in
theorem c_laws_FnExactNewConsole (rs : List Route) (c : Int) (h0 : rs.length ≤ 9223372036854775807) : Ctr Try.prog 3 [.lst 2 (rs.map encRo), .v (.int .i64 c)] (.one (.v (.bool true))) := by
  refine Ctr.of (n := 101) G Try.func3 rfl (by kernel_rfl) rfl rfl rfl (fun w0 => ?_)
  refine W_seq (fun K1 hK1 => ?_)
  refine W_region (WL_cons rfl (WX_q rfl rfl (q_assign rfl rfl) (?_)))
  refine WL_nil (hK1 _ ?_)
  clear hK1 K1
  refine W_seq (fun K2 hK2 => ?_)
  refine W_region (WL_cons rfl (WX_q rfl rfl (q_assign rfl rfl) (?_)))
  refine WL_nil (hK2 _ ?_)
  clear hK2 K2
  refine W_seq (fun K3 hK3 => ?_)
  refine W_region (WL_cons rfl (WX_q rfl rfl (q_move rfl rfl) (WL_cons rfl (WX_q rfl rfl (q_move rfl rfl) (WL_cons rfl (?_))))))
  refine WX_q rfl rfl (q_call rfl (ArgsOK.of rfl) (c_laws_szRouteS rs _ h0 (by omega)) rfl) ?_
  refine WL_cons rfl (WX_q rfl rfl (q_assign rfl rfl) (?_))
  refine WL_nil (hK3 _ ?_)
  clear hK3 K3
  refine W_seq (fun K4 hK4 => ?_)
  refine W_seq (fun K5 hK5 => ?_)
  refine W_region (WL_cons rfl (WX_q rfl rfl (q_move rfl rfl) (WL_cons rfl (WX_q rfl rfl (q_cmp rfl rfl rfl rfl) (?_)))))
  refine WL_nil (hK5 _ ?_)
  clear hK5 K5
  refine W_cond rfl (fun h1 => ?_) (fun h1 => ?_)
  · try rw [h1]
    try simp only [rfb] at h1
    refine W_seq (fun K6 hK6 => ?_)
    refine W_region (WL_cons rfl (WX_q rfl rfl (q_assign rfl rfl) (?_)))
    refine WL_nil (hK6 _ ?_)
    clear hK6 K6
    refine W_ret (fin_one rfl (rc_v ?_))
    all_goals clear hK4 K4
    all_goals (first | rfl | (exfalso; omega) | (simp_all; done))
  · try rw [h1]
    try simp only [rfb] at h1
    have hr0 := szL_ok (n := rs.length) (l := 1048576) (by omega)
    have hn : rs.length ≤ 1048576 := by omega
    have hss := @newMT_small rs c
    have cs1 := c_spec_NewConsole rs c hn
    have ci1 := c_impl_NewConsole rs c hn
    generalize newMT rs c = r at hss cs1 ci1
    obtain ⟨x, ok⟩ := r
    dsimp only at hss cs1 ci1
    have hbx := hss.big
    have hm2 := mkMN_le (m := x) (k := 1) hss
    refine W_skip (hK4 _ ?_)
    clear hK4 K4
    refine W_seq (fun K7 hK7 => ?_)
    refine W_region (WL_cons rfl (WX_q rfl rfl (q_move rfl rfl) (WL_cons rfl (?_))))
    refine WX_call 1 rfl rfl rfl (ArgsOK.of rfl) (c_laws_toRouteS rs hn) rfl rfl ?_
    refine WL_cons rfl (WX_q rfl rfl (q_move rfl rfl) (WL_cons rfl (?_)))
    refine WX_call 5 rfl rfl rfl (ArgsOK.of rfl) cs1 rfl rfl ?_
    refine WL_cons rfl (WX_q rfl rfl (q_move rfl rfl) (WL_cons rfl (WX_q rfl rfl (q_extract rfl rfl rfl) (WL_cons rfl (WX_q rfl rfl (q_extract rfl rfl rfl) (WL_cons rfl (WX_alloc_s G 6 rfl rfl rfl rfl rfl (WL_cons rfl (WX_store G rfl rfl rfl rfl rfl rfl rfl rfl rfl rfl rfl (WL_cons rfl (WX_q rfl rfl (q_assign rfl rfl) (?_))))))))))))
    refine WL_nil (hK7 _ ?_)
    clear hK7 K7
    refine W_seq (fun K8 hK8 => ?_)
    refine W_region (WL_cons rfl (WX_q rfl rfl (q_move rfl rfl) (WL_cons rfl (?_))))
    refine WX_call 7 rfl rfl rfl (ArgsOK.of rfl) (c_laws_toRouteS rs hn) rfl rfl ?_
    refine WL_cons rfl (WX_q rfl rfl (q_assign rfl rfl) (?_))
    refine WL_nil (hK8 _ ?_)
    clear hK8 K8
    refine W_seq (fun K9 hK9 => ?_)
    refine W_region (WL_cons rfl (WX_q rfl rfl (q_move rfl rfl) (WL_cons rfl (WX_q rfl rfl (q_move rfl rfl) (WL_cons rfl (?_))))))
    refine WX_call 11 rfl rfl rfl (ArgsOK.of rfl) ci1 rfl rfl ?_
    refine WL_cons rfl (WX_q rfl rfl (q_move rfl rfl) (WL_cons rfl (WX_q rfl rfl (q_extract rfl rfl rfl) (WL_cons rfl (WX_q rfl rfl (q_extract rfl rfl rfl) (WL_cons rfl (WX_alloc_s G 12 rfl rfl rfl rfl rfl (WL_cons rfl (WX_store G rfl rfl rfl rfl rfl rfl rfl rfl rfl rfl rfl (WL_cons rfl (WX_q rfl rfl (q_assign rfl rfl) (?_))))))))))))
    refine WL_nil (hK9 _ ?_)
    clear hK9 K9
    refine W_seq (fun K10 hK10 => ?_)
    refine W_seq (fun K11 hK11 => ?_)
    refine W_region (WL_cons rfl (WX_q rfl rfl (q_load_box_struct G rfl rfl rfl rfl rfl rfl) (WL_cons rfl (WX_q rfl rfl (q_load_box_struct G rfl rfl rfl rfl rfl rfl) (WL_cons rfl (?_))))))
    refine WX_q rfl rfl (q_call rfl (ArgsOK.of rfl) (Ctr.bool (c_laws_eqConsole x x hbx) (eqMa_iff.mpr rfl)) rfl) ?_
    refine WL_cons rfl (WX_q rfl rfl (q_not_t rfl rfl) (WL_cons rfl (WX_q rfl rfl (q_move rfl rfl) (WL_run rfl rfl rfl (WX_q rfl rfl (q_move rfl rfl) (WL_run rfl rfl rfl (WX_q rfl rfl (q_move rfl rfl) (WL_run rfl rfl rfl (?_)))))))))
    refine WX_q rfl rfl (q_eqv (v' := .bool false) (q_bne (G 4 _ rfl).1 rfl rfl rfl) (by first | rfl | exact congrArg Value.bool (decide_eq_false (by omega)) | (simp; done) | (simp; omega))) ?_
    refine WL_cons rfl (WX_q rfl rfl (q_pick_f rfl rfl rfl) (?_))
    refine WL_nil (hK11 _ ?_)
    clear hK11 K11
    refine W_false rfl ?_
    refine W_skip (hK10 _ ?_)
    clear hK10 K10
    refine W_seq (fun K12 hK12 => ?_)
    refine W_seq (fun K13 hK13 => ?_)
    refine W_region (WL_cons rfl (WX_q rfl rfl (q_move rfl rfl) (WL_cons rfl (WX_q rfl rfl (q_move rfl rfl) (WL_cons rfl (?_))))))
    refine WX_call 13 rfl rfl rfl (ArgsOK.of rfl) (c_laws_toRouteS rs hn) rfl rfl ?_
    refine WL_cons rfl (?_)
    refine WX_q rfl rfl (q_call rfl (ArgsOK.of rfl) (Ctr.bool (c_laws_eqRouteS rs rs h0) (decide_eq_true rfl)) rfl) ?_
    refine WL_cons rfl (WX_q rfl rfl (q_not_t rfl rfl) (?_))
    refine WL_nil (hK13 _ ?_)
    clear hK13 K13
    refine W_false rfl ?_
    refine W_skip (hK12 _ ?_)
    clear hK12 K12
    refine W_seq (fun K14 hK14 => ?_)
    refine W_region (WL_cons rfl (WX_q rfl rfl (q_assign rfl rfl) (?_)))
    refine WL_nil (hK14 _ ?_)
    clear hK14 K14
    refine W_seq (fun K15 hK15 => ?_)
    refine W_region (WL_cons rfl (WX_q rfl rfl (q_move rfl rfl) (WL_cons rfl (WX_q rfl rfl (q_move rfl rfl) (WL_cons rfl (?_))))))
    refine WX_callm 13 [6] rfl rfl rfl (c_laws_markRouteS rs hn) rfl (RowsIn.cons rfl RowsIn.nil) rfl rfl rfl ?_
    refine WL_cons rfl (WX_q rfl rfl (q_assign rfl rfl) (?_))
    refine WL_nil (hK15 _ ?_)
    clear hK15 K15
    refine W_seq (fun K16 hK16 => ?_)
    refine W_seq (fun K17 hK17 => ?_)
    refine W_region (WL_cons rfl (WX_q rfl rfl (q_move rfl rfl) (WL_cons rfl (?_))))
    refine WX_q rfl rfl (q_eqv (v' := .bool false) (q_cmp rfl rfl rfl rfl) (by first | rfl | exact congrArg Value.bool (decide_eq_false (by omega)) | (simp; done) | (simp; omega))) ?_
    refine WL_cons rfl (WX_q rfl rfl (q_move rfl rfl) (WL_run rfl rfl rfl (WX_q rfl rfl (q_load_box_struct G rfl rfl rfl rfl rfl rfl) (WL_run rfl rfl rfl (WX_q rfl rfl (q_load_box_struct G rfl rfl rfl rfl rfl rfl) (WL_run rfl rfl rfl (?_)))))))
    refine WX_q rfl rfl (q_call rfl (ArgsOK.of rfl) (Ctr.bool (c_laws_eqConsole x x hbx) (eqMa_iff.mpr rfl)) rfl) ?_
    refine WL_run rfl rfl rfl (WX_q rfl rfl (q_not_t rfl rfl) (WL_cons rfl (WX_q rfl rfl (q_pick_f rfl rfl rfl) (WL_cons rfl (WX_q rfl rfl (q_move rfl rfl) (WL_run rfl rfl rfl (WX_q rfl rfl (q_move rfl rfl) (WL_run rfl rfl rfl (WX_q rfl rfl (q_move rfl rfl) (WL_run rfl rfl rfl (?_)))))))))))
    refine WX_q rfl rfl (q_eqv (v' := .bool false) (q_bne (G 4 _ rfl).1 rfl rfl rfl) (by first | rfl | exact congrArg Value.bool (decide_eq_false (by omega)) | (simp; done) | (simp; omega))) ?_
    refine WL_cons rfl (WX_q rfl rfl (q_pick_f rfl rfl rfl) (?_))
    refine WL_nil (hK17 _ ?_)
    clear hK17 K17
    refine W_false rfl ?_
    refine W_skip (hK16 _ ?_)
    clear hK16 K16
    refine W_seq (fun K18 hK18 => ?_)
    refine W_region (WL_cons rfl (WX_q rfl rfl (q_assign rfl rfl) (?_)))
    refine WL_nil (hK18 _ ?_)
    clear hK18 K18
    refine W_seq (fun K19 hK19 => ?_)
    refine W_region (WL_cons rfl (WX_q rfl rfl (q_load_box_struct G rfl rfl rfl rfl rfl rfl) (WL_cons rfl (WX_q rfl rfl (q_move rfl rfl) (WL_cons rfl (?_))))))
    refine WX_callm 13 [7, 8, 9, 10] rfl rfl rfl (c_laws_markConsole x 1 hss (by omega)) rfl (RowsIn.cons rfl (RowsIn.cons rfl (RowsIn.cons rfl (RowsIn.cons rfl RowsIn.nil)))) rfl rfl rfl ?_
    refine WL_cons rfl (WX_q rfl rfl (q_assign rfl rfl) (?_))
    refine WL_nil (hK19 _ ?_)
    clear hK19 K19
    refine W_seq (fun K20 hK20 => ?_)
    refine W_region (WL_cons rfl (WX_q rfl rfl (q_assign rfl rfl) (?_)))
    refine WL_nil (hK20 _ ?_)
    clear hK20 K20
    refine W_seq (fun K21 hK21 => ?_)
    refine W_region (WL_cons rfl (WX_q rfl rfl (q_load_box_struct G rfl rfl rfl rfl rfl rfl) (WL_cons rfl (WX_q rfl rfl (q_move rfl rfl) (WL_cons rfl (?_))))))
    refine WX_q rfl rfl (q_call rfl (ArgsOK.of rfl) (c_laws_heldConsole x 1 hss (by omega)) rfl) ?_
    refine WL_cons rfl (WX_q rfl rfl (q_assign rfl rfl) (?_))
    refine WL_nil (hK21 _ ?_)
    clear hK21 K21
    refine W_seq (fun K22 hK22 => ?_)
    refine W_seq (fun K23 hK23 => ?_)
    refine W_region (WL_cons rfl (WX_q rfl rfl (q_move rfl rfl) (WL_cons rfl (?_))))
    refine WX_q rfl rfl (q_eqv (v' := .bool false) (q_cmp rfl rfl rfl rfl) (by first | rfl | exact congrArg Value.bool (decide_eq_false (by omega)) | (simp; done) | (simp; omega))) ?_
    refine WL_nil (hK23 _ ?_)
    clear hK23 K23
    refine W_false rfl ?_
    refine W_skip (hK22 _ ?_)
    clear hK22 K22
    refine W_seq (fun K24 hK24 => ?_)
    refine W_seq (fun K25 hK25 => ?_)
    refine W_region (WL_cons rfl (WX_q rfl rfl (q_move rfl rfl) (WL_cons rfl (WX_q rfl rfl (q_move rfl rfl) (WL_cons rfl (?_))))))
    refine WX_q rfl rfl (q_eqv (v' := .bool false) (q_cmp rfl rfl rfl rfl) (by first | rfl | exact congrArg Value.bool (decide_eq_false (by omega)) | (simp; done) | (simp; omega))) ?_
    refine WL_nil (hK25 _ ?_)
    clear hK25 K25
    refine W_false rfl ?_
    refine W_skip (hK24 _ ?_)
    clear hK24 K24
    refine W_seq (fun K26 hK26 => ?_)
    refine W_region (WL_cons rfl (WX_q rfl rfl (q_move rfl rfl) (WL_cons rfl (?_))))
    refine WX_call 14 rfl rfl rfl (ArgsOK.of rfl) (c_laws_toRouteS rs hn) rfl rfl ?_
    refine WL_cons rfl (WX_q rfl rfl (q_move rfl rfl) (WL_cons rfl (?_)))
    refine WX_call 18 rfl rfl rfl (ArgsOK.of rfl) ci1 rfl rfl ?_
    refine WL_cons rfl (WX_q rfl rfl (q_move rfl rfl) (WL_cons rfl (WX_q rfl rfl (q_extract rfl rfl rfl) (WL_cons rfl (WX_q rfl rfl (q_extract rfl rfl rfl) (WL_cons rfl (WX_alloc_s G 19 rfl rfl rfl rfl rfl (WL_cons rfl (WX_store G rfl rfl rfl rfl rfl rfl rfl rfl rfl rfl rfl (WL_cons rfl (WX_q rfl rfl (q_assign rfl rfl) (?_))))))))))))
    refine WL_nil (hK26 _ ?_)
    clear hK26 K26
    refine W_seq (fun K27 hK27 => ?_)
    refine W_seq (fun K28 hK28 => ?_)
    refine W_region (WL_cons rfl (WX_q rfl rfl (q_load_box_struct G rfl rfl rfl rfl rfl rfl) (WL_cons rfl (WX_q rfl rfl (q_load_box_struct G rfl rfl rfl rfl rfl rfl) (WL_cons rfl (?_))))))
    refine WX_q rfl rfl (q_call rfl (ArgsOK.of rfl) (Ctr.bool (c_laws_eqConsole x x hbx) (eqMa_iff.mpr rfl)) rfl) ?_
    refine WL_cons rfl (WX_q rfl rfl (q_not_t rfl rfl) (WL_cons rfl (WX_q rfl rfl (q_move rfl rfl) (WL_run rfl rfl rfl (WX_q rfl rfl (q_move rfl rfl) (WL_run rfl rfl rfl (WX_q rfl rfl (q_move rfl rfl) (WL_run rfl rfl rfl (?_)))))))))
    refine WX_q rfl rfl (q_eqv (v' := .bool false) (q_bne (G 4 _ rfl).1 rfl rfl rfl) (by first | rfl | exact congrArg Value.bool (decide_eq_false (by omega)) | (simp; done) | (simp; omega))) ?_
    refine WL_cons rfl (WX_q rfl rfl (q_pick_f rfl rfl rfl) (?_))
    refine WL_nil (hK28 _ ?_)
    clear hK28 K28
    refine W_false rfl ?_
    refine W_skip (hK27 _ ?_)
    clear hK27 K27
    refine W_seq (fun K29 hK29 => ?_)
    refine W_region (WL_cons rfl (WX_q rfl rfl (q_assign rfl rfl) (?_)))
    refine WL_nil (hK29 _ ?_)
    clear hK29 K29
    refine W_seq (fun K30 hK30 => ?_)
    refine W_region (WL_cons rfl (WX_q rfl rfl (q_load_box_struct G rfl rfl rfl rfl rfl rfl) (WL_cons rfl (WX_q rfl rfl (q_move rfl rfl) (WL_cons rfl (?_))))))
    refine WX_q rfl rfl (q_call rfl (ArgsOK.of rfl) (c_laws_heldConsole x 1 hss (by omega)) rfl) ?_
    refine WL_cons rfl (WX_q rfl rfl (q_assign rfl rfl) (?_))
    refine WL_nil (hK30 _ ?_)
    clear hK30 K30
    refine W_seq (fun K31 hK31 => ?_)
    refine W_seq (fun K32 hK32 => ?_)
    refine W_region (WL_cons rfl (WX_q rfl rfl (q_move rfl rfl) (WL_cons rfl (?_))))
    refine WX_q rfl rfl (q_eqv (v' := .bool false) (q_cmp rfl rfl rfl rfl) (by first | rfl | exact congrArg Value.bool (decide_eq_false (by omega)) | (simp; done) | (simp; omega))) ?_
    refine WL_nil (hK32 _ ?_)
    clear hK32 K32
    refine W_false rfl ?_
    refine W_skip (hK31 _ ?_)
    clear hK31 K31
    refine W_seq (fun K33 hK33 => ?_)
    refine W_seq (fun K34 hK34 => ?_)
    refine W_region (WL_cons rfl (WX_q rfl rfl (q_move rfl rfl) (WL_cons rfl (WX_q rfl rfl (q_move rfl rfl) (WL_cons rfl (?_))))))
    refine WX_q rfl rfl (q_eqv (v' := .bool false) (q_cmp rfl rfl rfl rfl) (by first | rfl | exact congrArg Value.bool (decide_eq_false (by omega)) | (simp; done) | (simp; omega))) ?_
    refine WL_nil (hK34 _ ?_)
    clear hK34 K34
    refine W_false rfl ?_
    refine W_skip (hK33 _ ?_)
    clear hK33 K33
    refine W_seq (fun K35 hK35 => ?_)
    refine W_region (WL_cons rfl (WX_q rfl rfl (q_assign rfl rfl) (?_)))
    refine WL_nil (hK35 _ ?_)
    clear hK35 K35
    refine W_ret (fin_one rfl (rc_v ?_))
    all_goals (first | rfl | (exfalso; omega) | (simp_all; done))

end Go.Proofs.Ytpmdcclkmmcchaa
