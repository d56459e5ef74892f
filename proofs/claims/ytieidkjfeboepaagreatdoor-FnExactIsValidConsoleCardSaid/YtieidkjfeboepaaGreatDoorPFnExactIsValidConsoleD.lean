/- Texts merged into one: M20, C1, C2, E. -/
import Derived.Test.YtieidkjfeboepaaGreatDoorPFnExactIsValidConsoleC
import Derived.Test.YtieidkjfeboepaaGreatDoorRows
import Derived.LaidLaws
import Derived.Lib.LaidIn
import Derived.Stop.LaidErr
import Derived.HandedShaped
/- Walks through functions of the program, one contract each (written by gen.py). -/
set_option maxRecDepth 20000
set_option linter.unusedVariables false
set_option linter.unusedSimpArgs false
namespace Go.Proofs.YtieidkjfeboepaaGreatDoor
open Go Go.Rf

theorem c_laws_szSlotS (xs : List Slot) (l : Int) (h0 : xs.length ≤ 9223372036854775807) (hl : 0 ≤ l ∧ l ≤ 1048576) : Ctr Tryz.prog 104 [.lst 3 (xs.map encSl), .v (.int .i64 l)] (.one (.v (.int .i64 (szL xs.length l)))) := by
  refine Ctr.of (n := 12) G Tryz.func104 rfl (by kernel_rfl) rfl rfl rfl (fun w0 => ?_)
  refine W_seq (fun K1 hK1 => ?_)
  refine W_region (WL_cons rfl (WX_q rfl rfl (q_assign rfl rfl) (?_)))
  refine WL_nil (hK1 _ ?_)
  clear hK1 K1
  refine W_seq (fun K2 hK2 => ?_)
  refine W_region (WL_cons rfl (WX_q rfl rfl (q_move rfl rfl) (WL_cons rfl (WX_q rfl rfl (q_move rfl rfl) (WL_cons rfl (?_))))))
  first | refine WX_q rfl rfl (q_len' G rfl rfl rfl rfl (List.length_map _)) ?_ | refine WX_q rfl rfl (q_len G rfl rfl rfl rfl) ?_
  refine WL_cons rfl (?_)
  first | refine WX_q rfl rfl (q_arith rfl rfl rfl rfl (by omega) (by omega)) ?_ | refine WX_q rfl rfl (q_wrap rfl rfl rfl rfl) ?_
  refine WL_cons rfl (WX_q rfl rfl (q_assign rfl rfl) (?_))
  refine WL_nil (hK2 _ ?_)
  clear hK2 K2
  refine W_seq (fun K3 hK3 => ?_)
  refine W_seq (fun K4 hK4 => ?_)
  refine W_region (WL_cons rfl (WX_q rfl rfl (q_move rfl rfl) (WL_cons rfl (WX_q rfl rfl (q_cmp rfl rfl rfl rfl) (?_)))))
  refine WL_nil (hK4 _ ?_)
  clear hK4 K4
  refine W_cond rfl (fun h1 => ?_) (fun h1 => ?_)
  · try rw [h1]
    try simp only [rfb] at h1
    refine W_seq (fun K5 hK5 => ?_)
    refine W_region (WL_cons rfl (WX_q rfl rfl (q_assign rfl rfl) (?_)))
    refine WL_nil (hK5 _ ?_)
    clear hK5 K5
    refine W_ret (fin_one rfl (rc_v ?_))
    all_goals clear hK3 K3
    all_goals (simp only [szL]; first | (rw [if_pos (by omega)]; done) | (rw [if_neg (by omega)]; done))
  · try rw [h1]
    try simp only [rfb] at h1
    refine W_skip (hK3 _ ?_)
    clear hK3 K3
    refine W_seq (fun K6 hK6 => ?_)
    refine W_region (WL_cons rfl (WX_q rfl rfl (q_move rfl rfl) (WL_cons rfl (WX_q rfl rfl (q_assign rfl rfl) (?_)))))
    refine WL_nil (hK6 _ ?_)
    clear hK6 K6
    refine W_ret (fin_one rfl (rc_v ?_))
    all_goals (simp only [szL]; first | (rw [if_pos (by omega)]; done) | (rw [if_neg (by omega)]; done))

theorem c_laws_szWaiterS (xs : List Wtr) (l : Int) (h0 : xs.length ≤ 9223372036854775807) (hl : 0 ≤ l ∧ l ≤ 1048576) : Ctr Tryz.prog 105 [.lst 2 (xs.map encWa), .v (.int .i64 l)] (.one (.v (.int .i64 (szL xs.length l)))) := by
  refine Ctr.of (n := 12) G Tryz.func105 rfl (by kernel_rfl) rfl rfl rfl (fun w0 => ?_)
  refine W_seq (fun K1 hK1 => ?_)
  refine W_region (WL_cons rfl (WX_q rfl rfl (q_assign rfl rfl) (?_)))
  refine WL_nil (hK1 _ ?_)
  clear hK1 K1
  refine W_seq (fun K2 hK2 => ?_)
  refine W_region (WL_cons rfl (WX_q rfl rfl (q_move rfl rfl) (WL_cons rfl (WX_q rfl rfl (q_move rfl rfl) (WL_cons rfl (?_))))))
  first | refine WX_q rfl rfl (q_len' G rfl rfl rfl rfl (List.length_map _)) ?_ | refine WX_q rfl rfl (q_len G rfl rfl rfl rfl) ?_
  refine WL_cons rfl (?_)
  first | refine WX_q rfl rfl (q_arith rfl rfl rfl rfl (by omega) (by omega)) ?_ | refine WX_q rfl rfl (q_wrap rfl rfl rfl rfl) ?_
  refine WL_cons rfl (WX_q rfl rfl (q_assign rfl rfl) (?_))
  refine WL_nil (hK2 _ ?_)
  clear hK2 K2
  refine W_seq (fun K3 hK3 => ?_)
  refine W_seq (fun K4 hK4 => ?_)
  refine W_region (WL_cons rfl (WX_q rfl rfl (q_move rfl rfl) (WL_cons rfl (WX_q rfl rfl (q_cmp rfl rfl rfl rfl) (?_)))))
  refine WL_nil (hK4 _ ?_)
  clear hK4 K4
  refine W_cond rfl (fun h1 => ?_) (fun h1 => ?_)
  · try rw [h1]
    try simp only [rfb] at h1
    refine W_seq (fun K5 hK5 => ?_)
    refine W_region (WL_cons rfl (WX_q rfl rfl (q_assign rfl rfl) (?_)))
    refine WL_nil (hK5 _ ?_)
    clear hK5 K5
    refine W_ret (fin_one rfl (rc_v ?_))
    all_goals clear hK3 K3
    all_goals (simp only [szL]; first | (rw [if_pos (by omega)]; done) | (rw [if_neg (by omega)]; done))
  · try rw [h1]
    try simp only [rfb] at h1
    refine W_skip (hK3 _ ?_)
    clear hK3 K3
    refine W_seq (fun K6 hK6 => ?_)
    refine W_region (WL_cons rfl (WX_q rfl rfl (q_move rfl rfl) (WL_cons rfl (WX_q rfl rfl (q_assign rfl rfl) (?_)))))
    refine WL_nil (hK6 _ ?_)
    clear hK6 K6
    refine W_ret (fin_one rfl (rc_v ?_))
    all_goals (simp only [szL]; first | (rw [if_pos (by omega)]; done) | (rw [if_neg (by omega)]; done))

theorem c_laws_szQueue (q : Que) (l : Int) (h0 : q.sl.length ≤ 9223372036854775807) (hw : q.wa.length ≤ 9223372036854775807) (hl : 0 ≤ l ∧ l ≤ 1048576) : Ctr Tryz.prog 74 [.agg [.lst 3 (q.sl.map encSl), .lst 2 (q.wa.map encWa)], .v (.int .i64 l)] (.one (.v (.int .i64 (szQ q l)))) := by
  refine Ctr.of (n := 18) G Tryz.func74 rfl (by kernel_rfl) rfl rfl rfl (fun w0 => ?_)
  refine W_pinS 0 rfl (fun _ => rfl) (fun u0 => ?_)
  refine W_seq (fun K1 hK1 => ?_)
  refine W_region (WL_cons rfl (WX_box 1 rfl rfl rfl rfl rfl rfl rfl (WL_cons rfl (WX_q rfl rfl (q_assign rfl rfl) (?_)))))
  refine WL_nil (hK1 _ ?_)
  clear hK1 K1
  refine W_seq (fun K2 hK2 => ?_)
  refine W_region (WL_cons rfl (WX_q rfl rfl (q_field_ptr G rfl rfl rfl rfl) (WL_cons rfl (WX_q rfl rfl (q_lst (q_load_box G rfl rfl rfl rfl rfl rfl rfl)) (WL_cons rfl (WX_q rfl rfl (q_move rfl rfl) (WL_cons rfl (?_))))))))
  refine WX_q rfl rfl (q_call rfl (ArgsOK.of rfl) (c_laws_szSlotS q.sl l h0 hl) rfl) ?_
  refine WL_cons rfl (WX_q rfl rfl (q_assign rfl rfl) (?_))
  refine WL_nil (hK2 _ ?_)
  clear hK2 K2
  refine W_seq (fun K3 hK3 => ?_)
  refine W_seq (fun K4 hK4 => ?_)
  refine W_region (WL_cons rfl (WX_q rfl rfl (q_move rfl rfl) (WL_cons rfl (WX_q rfl rfl (q_cmp rfl rfl rfl rfl) (?_)))))
  refine WL_nil (hK4 _ ?_)
  clear hK4 K4
  refine W_cond rfl (fun h1 => ?_) (fun h1 => ?_)
  · try rw [h1]
    try simp only [rfb] at h1
    refine W_seq (fun K5 hK5 => ?_)
    refine W_region (WL_cons rfl (WX_q rfl rfl (q_assign rfl rfl) (?_)))
    refine WL_nil (hK5 _ ?_)
    clear hK5 K5
    refine W_ret (fin_one rfl (rc_v ?_))
    all_goals clear hK3 K3
    all_goals (simp only [szQ]; first | (rw [if_pos (by assumption)]; done) | (rw [if_neg (by omega)]; done) | (rw [if_neg (by omega), szL_neg (by assumption)]; done))
  · try rw [h1]
    try simp only [rfb] at h1
    refine W_skip (hK3 _ ?_)
    clear hK3 K3
    refine W_seq (fun K6 hK6 => ?_)
    refine W_region (WL_cons rfl (WX_q rfl rfl (q_field_ptr G rfl rfl rfl rfl) (WL_cons rfl (WX_q rfl rfl (q_lst (q_load_box G rfl rfl rfl rfl rfl rfl rfl)) (WL_cons rfl (WX_q rfl rfl (q_move rfl rfl) (WL_cons rfl (?_))))))))
    refine WX_q rfl rfl (q_call rfl (ArgsOK.of rfl) (c_laws_szWaiterS q.wa _ hw (szL_in hl (by omega))) rfl) ?_
    refine WL_cons rfl (WX_q rfl rfl (q_assign rfl rfl) (?_))
    refine WL_nil (hK6 _ ?_)
    clear hK6 K6
    refine W_seq (fun K7 hK7 => ?_)
    refine W_seq (fun K8 hK8 => ?_)
    refine W_region (WL_cons rfl (WX_q rfl rfl (q_move rfl rfl) (WL_cons rfl (WX_q rfl rfl (q_cmp rfl rfl rfl rfl) (?_)))))
    refine WL_nil (hK8 _ ?_)
    clear hK8 K8
    refine W_cond rfl (fun h2 => ?_) (fun h2 => ?_)
    · try rw [h2]
      try simp only [rfb] at h2
      refine W_seq (fun K9 hK9 => ?_)
      refine W_region (WL_cons rfl (WX_q rfl rfl (q_assign rfl rfl) (?_)))
      refine WL_nil (hK9 _ ?_)
      clear hK9 K9
      refine W_ret (fin_one rfl (rc_v ?_))
      all_goals clear hK7 K7
      all_goals (simp only [szQ]; first | (rw [if_pos (by assumption)]; done) | (rw [if_neg (by omega)]; done) | (rw [if_neg (by omega), szL_neg (by assumption)]; done))
    · try rw [h2]
      try simp only [rfb] at h2
      refine W_skip (hK7 _ ?_)
      clear hK7 K7
      refine W_seq (fun K10 hK10 => ?_)
      refine W_region (WL_cons rfl (WX_q rfl rfl (q_move rfl rfl) (WL_cons rfl (WX_q rfl rfl (q_assign rfl rfl) (?_)))))
      refine WL_nil (hK10 _ ?_)
      clear hK10 K10
      refine W_ret (fin_one rfl (rc_v ?_))
      all_goals (simp only [szQ]; first | (rw [if_pos (by assumption)]; done) | (rw [if_neg (by omega)]; done) | (rw [if_neg (by omega), szL_neg (by assumption)]; done))

theorem c_laws_szInterface (x : Ifc) (l : Int) (hb : BigI x) (hl : 0 ≤ l ∧ l ≤ 1048576) : Ctr Tryz.prog 44 [.agg [.v (.int .i64 x.ma), .lst 1 (x.st.map Rf.encI), .lst 3 (x.qu.sl.map encSl), .lst 2 (x.qu.wa.map encWa)], .v (.int .i64 l)] (.one (.v (.int .i64 (if l - szI x < 0 then -1 else l - szI x)))) := by
  refine Ctr.of (n := 18) G Tryz.func44 rfl (by kernel_rfl) rfl rfl rfl (fun w0 => ?_)
  refine W_pinS 0 rfl (fun _ => rfl) (fun u0 => ?_)
  refine W_seq (fun K1 hK1 => ?_)
  refine W_region (WL_cons rfl (WX_box 1 rfl rfl rfl rfl rfl rfl rfl (WL_cons rfl (WX_q rfl rfl (q_assign rfl rfl) (?_)))))
  refine WL_nil (hK1 _ ?_)
  clear hK1 K1
  refine W_seq (fun K2 hK2 => ?_)
  refine W_region (WL_cons rfl (WX_q rfl rfl (q_field_ptr G rfl rfl rfl rfl) (WL_cons rfl (WX_q rfl rfl (q_lst (q_load_box G rfl rfl rfl rfl rfl rfl rfl)) (WL_cons rfl (WX_q rfl rfl (q_move rfl rfl) (WL_cons rfl (?_))))))))
  refine WX_q rfl rfl (q_call rfl (ArgsOK.of rfl) (c_laws_szIntS x.st l hb.st hl) rfl) ?_
  refine WL_cons rfl (WX_q rfl rfl (q_assign rfl rfl) (?_))
  refine WL_nil (hK2 _ ?_)
  clear hK2 K2
  refine W_seq (fun K3 hK3 => ?_)
  refine W_seq (fun K4 hK4 => ?_)
  refine W_region (WL_cons rfl (WX_q rfl rfl (q_move rfl rfl) (WL_cons rfl (WX_q rfl rfl (q_cmp rfl rfl rfl rfl) (?_)))))
  refine WL_nil (hK4 _ ?_)
  clear hK4 K4
  refine W_cond rfl (fun h1 => ?_) (fun h1 => ?_)
  · try rw [h1]
    try simp only [rfb] at h1
    refine W_seq (fun K5 hK5 => ?_)
    refine W_region (WL_cons rfl (WX_q rfl rfl (q_assign rfl rfl) (?_)))
    refine WL_nil (hK5 _ ?_)
    clear hK5 K5
    refine W_ret (fin_one rfl (rc_v ?_))
    all_goals clear hK3 K3
    all_goals (rw [← szF_eq hl.1]; simp only [szF] <;> (first | (rw [if_pos (by assumption)]; done) | (rw [if_neg (by omega)]; done) | (rw [if_neg (by omega)]; rw [szQ_neg (by assumption)]; done)))
  · try rw [h1]
    try simp only [rfb] at h1
    refine W_skip (hK3 _ ?_)
    clear hK3 K3
    refine W_seq (fun K6 hK6 => ?_)
    refine W_region (WL_cons rfl (WX_q rfl rfl (q_field_ptr G rfl rfl rfl rfl) (WL_cons rfl (WX_q rfl rfl (q_load_box_struct G rfl rfl rfl rfl rfl rfl) (WL_cons rfl (WX_q rfl rfl (q_move rfl rfl) (WL_cons rfl (?_))))))))
    refine WX_q rfl rfl (q_call rfl (ArgsOK.of rfl) (c_laws_szQueue x.qu _ hb.sl hb.wa (szL_in hl (by omega))) rfl) ?_
    refine WL_cons rfl (WX_q rfl rfl (q_assign rfl rfl) (?_))
    refine WL_nil (hK6 _ ?_)
    clear hK6 K6
    refine W_seq (fun K7 hK7 => ?_)
    refine W_seq (fun K8 hK8 => ?_)
    refine W_region (WL_cons rfl (WX_q rfl rfl (q_move rfl rfl) (WL_cons rfl (WX_q rfl rfl (q_cmp rfl rfl rfl rfl) (?_)))))
    refine WL_nil (hK8 _ ?_)
    clear hK8 K8
    refine W_cond rfl (fun h2 => ?_) (fun h2 => ?_)
    · try rw [h2]
      try simp only [rfb] at h2
      refine W_seq (fun K9 hK9 => ?_)
      refine W_region (WL_cons rfl (WX_q rfl rfl (q_assign rfl rfl) (?_)))
      refine WL_nil (hK9 _ ?_)
      clear hK9 K9
      refine W_ret (fin_one rfl (rc_v ?_))
      all_goals clear hK7 K7
      all_goals (rw [← szF_eq hl.1]; simp only [szF] <;> (first | (rw [if_pos (by assumption)]; done) | (rw [if_neg (by omega)]; done) | (rw [if_neg (by omega)]; rw [szQ_neg (by assumption)]; done)))
    · try rw [h2]
      try simp only [rfb] at h2
      refine W_skip (hK7 _ ?_)
      clear hK7 K7
      refine W_seq (fun K10 hK10 => ?_)
      refine W_region (WL_cons rfl (WX_q rfl rfl (q_move rfl rfl) (WL_cons rfl (WX_q rfl rfl (q_assign rfl rfl) (?_)))))
      refine WL_nil (hK10 _ ?_)
      clear hK10 K10
      refine W_ret (fin_one rfl (rc_v ?_))
      all_goals (rw [← szF_eq hl.1]; simp only [szF] <;> (first | (rw [if_pos (by assumption)]; done) | (rw [if_neg (by omega)]; done) | (rw [if_neg (by omega)]; rw [szQ_neg (by assumption)]; done)))

theorem c_laws_szInterfaceS (xs : List Ifc) (l : Int) (h0 : xs.length ≤ 9223372036854775807) (hz : ∀ i, i < xs.length → BigI (xs.getD i default)) (hl : 0 ≤ l ∧ l ≤ 1048576) : Ctr Tryz.prog 29 [.nst none 4 (xs.map (encIf 81 61)), .v (.int .i64 l)] (.one (.v (.int .i64 (szFS xs l)))) := by
  refine Ctr.of (n := 27) G Tryz.func29 rfl (by kernel_rfl) rfl rfl rfl (fun w0 => ?_)
  refine W_seq (fun K1 hK1 => ?_)
  refine W_region (WL_cons rfl (WX_q rfl rfl (q_assign rfl rfl) (?_)))
  refine WL_nil (hK1 _ ?_)
  clear hK1 K1
  refine W_seq (fun K2 hK2 => ?_)
  refine W_region (WL_cons rfl (WX_q rfl rfl (q_move rfl rfl) (WL_cons rfl (WX_q rfl rfl (q_move rfl rfl) (WL_cons rfl (?_))))))
  first | refine WX_q rfl rfl (q_len' G rfl rfl rfl rfl (List.length_map _)) ?_ | refine WX_q rfl rfl (q_len G rfl rfl rfl rfl) ?_
  refine WL_cons rfl (?_)
  first | refine WX_q rfl rfl (q_arith rfl rfl rfl rfl (by omega) (by omega)) ?_ | refine WX_q rfl rfl (q_wrap rfl rfl rfl rfl) ?_
  refine WL_cons rfl (WX_q rfl rfl (q_assign rfl rfl) (?_))
  refine WL_nil (hK2 _ ?_)
  clear hK2 K2
  refine W_seq (fun K3 hK3 => ?_)
  refine W_seq (fun K4 hK4 => ?_)
  refine W_region (WL_cons rfl (WX_q rfl rfl (q_move rfl rfl) (WL_cons rfl (WX_q rfl rfl (q_cmp rfl rfl rfl rfl) (?_)))))
  refine WL_nil (hK4 _ ?_)
  clear hK4 K4
  refine W_cond rfl (fun h1 => ?_) (fun h1 => ?_)
  · try rw [h1]
    try simp only [rfb] at h1
    refine W_seq (fun K5 hK5 => ?_)
    refine W_region (WL_cons rfl (WX_q rfl rfl (q_assign rfl rfl) (?_)))
    refine WL_nil (hK5 _ ?_)
    clear hK5 K5
    refine W_ret (fin_one rfl (rc_v ?_))
    all_goals clear hK3 K3
    all_goals (first | (simp only [szFS]; rw [if_pos]; have hq := @sumI_nn xs xs.length; omega) | (have e : i = xs.length := (by omega); subst e; simp only [szFS]; rw [if_neg (by omega)]; done) | (have hq := sumI_mono (xs := xs) (show i + 1 ≤ xs.length by omega); rw [sumI_succ] at hq; simp only [szFS]; rw [if_pos]; split at h3 <;> omega))
  · try rw [h1]
    try simp only [rfb] at h1
    refine W_skip (hK3 _ ?_)
    clear hK3 K3
    refine W_seq (fun K6 hK6 => ?_)
    refine W_seq (fun K7 hK7 => ?_)
    refine W_region (WL_cons rfl (WX_q rfl rfl (q_assign rfl rfl) (?_)))
    refine WL_nil (hK7 _ ?_)
    clear hK7 K7
    refine W_block ?_
    refine W_loopK [0] [] (fun (i : Nat) => [(1, .v (.int .i64 (l - xs.length - sumI xs i))), (5, .v (.int .i64 (i : Int)))]) (fun (i : Nat) => []) (fun (i : Nat) => i ≤ xs.length ∧ 0 ≤ l - xs.length - sumI xs i) (fun (i : Nat) => xs.length - i) 0 rfl rfl ?_ ?_ ?_ ?_
    · (refine ⟨Nat.zero_le _, ?_⟩; simp only [sumI]; omega)
    · exact ⟨⟨_, rfl, by (first | rfl | (simp only [sumI]; congr 2; omega))⟩, rfl, ⟨⟨_, rfl, by (first | rfl | (simp only [sumI]; congr 2; omega))⟩, rfl, trivial⟩⟩
    · exact trivial
    · intro i hinv
      have hln := @sumI_nn xs i
      simp only [List.cons_append, List.nil_append]
      refine W_seq (fun K8 hK8 => ?_)
      refine W_seq (fun K9 hK9 => ?_)
      refine W_region (WL_cons rfl (WX_q rfl rfl (q_move rfl rfl) (WL_cons rfl (WX_q rfl rfl (q_move rfl rfl) (WL_cons rfl (?_))))))
      first | refine WX_q rfl rfl (q_len' G rfl rfl rfl rfl (List.length_map _)) ?_ | refine WX_q rfl rfl (q_len G rfl rfl rfl rfl) ?_
      refine WL_cons rfl (WX_q rfl rfl (q_cmp rfl rfl rfl rfl) (?_))
      refine WL_nil (hK9 _ ?_)
      clear hK9 K9
      refine W_cond rfl (fun h2 => ?_) (fun h2 => ?_)
      · try rw [h2]
        try simp only [rfb] at h2
        refine W_skip (hK8 _ ?_)
        clear hK8 K8
        refine W_seq (fun K10 hK10 => ?_)
        refine W_block ?_
        refine W_seq (fun K11 hK11 => ?_)
        refine W_region (WL_cons rfl (WX_q rfl rfl (q_move rfl rfl) (WL_cons rfl (WX_q rfl rfl (q_move rfl rfl) (WL_cons rfl (?_))))))
        refine WX_q rfl rfl (q_index_nst G rfl rfl rfl rfl (by omega) (getN (by omega)) rfl) ?_
        refine WL_cons rfl (WX_q rfl rfl (q_load_eptN_struct G rfl rfl rfl rfl) (WL_cons rfl (WX_q rfl rfl (q_move rfl rfl) (WL_cons rfl (?_)))))
        refine WX_q rfl rfl (q_call rfl (ArgsOK.of rfl) (c_laws_szInterface _ _ (hz i (by omega)) (by omega)) rfl) ?_
        refine WL_cons rfl (WX_q rfl rfl (q_assign rfl rfl) (?_))
        refine WL_nil (hK11 _ ?_)
        clear hK11 K11
        refine W_seq (fun K12 hK12 => ?_)
        refine W_region (WL_cons rfl (WX_q rfl rfl (q_move rfl rfl) (WL_cons rfl (WX_q rfl rfl (q_cmp rfl rfl rfl rfl) (?_)))))
        refine WL_nil (hK12 _ ?_)
        clear hK12 K12
        refine W_cond rfl (fun h3 => ?_) (fun h3 => ?_)
        · try rw [h3]
          try simp only [rfb] at h3
          refine W_seq (fun K13 hK13 => ?_)
          refine W_region (WL_cons rfl (WX_q rfl rfl (q_assign rfl rfl) (?_)))
          refine WL_nil (hK13 _ ?_)
          clear hK13 K13
          refine W_ret (fin_one rfl (rc_v ?_))
          all_goals clear hK10 K10 hK6 K6
          all_goals (first | (simp only [szFS]; rw [if_pos]; have hq := @sumI_nn xs xs.length; omega) | (have e : i = xs.length := (by omega); subst e; simp only [szFS]; rw [if_neg (by omega)]; done) | (have hq := sumI_mono (xs := xs) (show i + 1 ≤ xs.length by omega); rw [sumI_succ] at hq; simp only [szFS]; rw [if_pos]; split at h3 <;> omega))
        · try rw [h3]
          try simp only [rfb] at h3
          refine W_skip (hK10 _ ?_)
          clear hK10 K10
          refine W_region (WL_cons rfl (WX_q rfl rfl (q_move rfl rfl) (WL_cons rfl (?_))))
          first | refine WX_q rfl rfl (q_arith rfl rfl rfl rfl (by omega) (by omega)) ?_ | refine WX_q rfl rfl (q_wrap rfl rfl rfl rfl) ?_
          refine WL_cons rfl (WX_q rfl rfl (q_assign rfl rfl) (?_))
          refine WL_nil ⟨(i + 1), ?_, ?_, ⟨⟨_, rfl, by (first | rfl | (congr 2; rw [sumI_succ]; rw [if_neg (by split at h3 <;> omega)]; omega))⟩, rfl, ⟨⟨_, rfl, by (first | rfl | (congr 2; rw [sumI_succ]; rw [if_neg (by split at h3 <;> omega)]; omega))⟩, rfl, trivial⟩⟩, trivial, rfl, rfl, rfl⟩
          · (refine ⟨by omega, ?_⟩; rw [sumI_succ]; split at h3 <;> omega)
          · omega
      · try rw [h2]
        try simp only [rfb] at h2
        refine W_exit (hK6 _ ?_)
        clear hK8 K8 hK6 K6
        refine W_seq (fun K14 hK14 => ?_)
        refine W_region (WL_cons rfl (WX_q rfl rfl (q_move rfl rfl) (WL_cons rfl (WX_q rfl rfl (q_assign rfl rfl) (?_)))))
        refine WL_nil (hK14 _ ?_)
        clear hK14 K14
        refine W_ret (fin_one rfl (rc_v ?_))
        all_goals (first | (simp only [szFS]; rw [if_pos]; have hq := @sumI_nn xs xs.length; omega) | (have e : i = xs.length := (by omega); subst e; simp only [szFS]; rw [if_neg (by omega)]; done) | (have hq := sumI_mono (xs := xs) (show i + 1 ≤ xs.length by omega); rw [sumI_succ] at hq; simp only [szFS]; rw [if_pos]; split at h3 <;> omega))

theorem c_laws_szMachine (m : Mach) (l : Int) (hb : BigM m) (hl : 0 ≤ l ∧ l ≤ 1048576) : Ctr Tryz.prog 12 [.agg [.lst 2 (m.rs.map encRo), .lst 1 (m.en.map encO), .lst 1 (m.ra.map encO), .nst none 4 (m.cp.map (encIf 81 61))], .v (.int .i64 l)] (.one (.v (.int .i64 (szMa m l)))) := by
  refine Ctr.of (n := 30) G Tryz.func12 rfl (by kernel_rfl) rfl rfl rfl (fun w0 => ?_)
  refine W_pinS 0 rfl (fun _ => rfl) (fun u0 => ?_)
  refine W_seq (fun K1 hK1 => ?_)
  refine W_region (WL_cons rfl (WX_box 1 rfl rfl rfl rfl rfl rfl rfl (WL_cons rfl (WX_q rfl rfl (q_assign rfl rfl) (?_)))))
  refine WL_nil (hK1 _ ?_)
  clear hK1 K1
  refine W_seq (fun K2 hK2 => ?_)
  refine W_region (WL_cons rfl (WX_q rfl rfl (q_field_ptr G rfl rfl rfl rfl) (WL_cons rfl (WX_q rfl rfl (q_lst (q_load_box G rfl rfl rfl rfl rfl rfl rfl)) (WL_cons rfl (WX_q rfl rfl (q_move rfl rfl) (WL_cons rfl (?_))))))))
  refine WX_q rfl rfl (q_call rfl (ArgsOK.of rfl) (c_laws_szRouteS m.rs l hb.rs hl) rfl) ?_
  refine WL_cons rfl (WX_q rfl rfl (q_assign rfl rfl) (?_))
  refine WL_nil (hK2 _ ?_)
  clear hK2 K2
  refine W_seq (fun K3 hK3 => ?_)
  refine W_seq (fun K4 hK4 => ?_)
  refine W_region (WL_cons rfl (WX_q rfl rfl (q_move rfl rfl) (WL_cons rfl (WX_q rfl rfl (q_cmp rfl rfl rfl rfl) (?_)))))
  refine WL_nil (hK4 _ ?_)
  clear hK4 K4
  refine W_cond rfl (fun h1 => ?_) (fun h1 => ?_)
  · try rw [h1]
    try simp only [rfb] at h1
    refine W_seq (fun K5 hK5 => ?_)
    refine W_region (WL_cons rfl (WX_q rfl rfl (q_assign rfl rfl) (?_)))
    refine WL_nil (hK5 _ ?_)
    clear hK5 K5
    refine W_ret (fin_one rfl (rc_v ?_))
    all_goals clear hK3 K3
    all_goals (simp only [szMa]; first | (rw [if_pos (by assumption)]; done) | (rw [if_neg (by omega), if_pos (by omega)]; done) | (rw [if_neg (by omega), if_neg (by omega), if_pos (by omega)]; done) | (rw [if_neg (by omega), if_neg (by omega), if_neg (by omega), szFS_neg (by assumption)]; done) | (rw [if_neg (by omega), if_neg (by omega), if_neg (by omega)]; done))
  · try rw [h1]
    try simp only [rfb] at h1
    refine W_skip (hK3 _ ?_)
    clear hK3 K3
    refine W_seq (fun K6 hK6 => ?_)
    refine W_region (WL_cons rfl (WX_q rfl rfl (q_field_ptr G rfl rfl rfl rfl) (WL_cons rfl (WX_q rfl rfl (q_lst (q_load_box G rfl rfl rfl rfl rfl rfl rfl)) (WL_cons rfl (WX_q rfl rfl (q_move rfl rfl) (WL_cons rfl (?_))))))))
    refine WX_q rfl rfl (q_call rfl (ArgsOK.of rfl) (c_laws_szBoolS m.en _ hb.en (szL_in hl (by omega))) rfl) ?_
    refine WL_cons rfl (WX_q rfl rfl (q_assign rfl rfl) (?_))
    refine WL_nil (hK6 _ ?_)
    clear hK6 K6
    refine W_seq (fun K7 hK7 => ?_)
    refine W_seq (fun K8 hK8 => ?_)
    refine W_region (WL_cons rfl (WX_q rfl rfl (q_move rfl rfl) (WL_cons rfl (WX_q rfl rfl (q_cmp rfl rfl rfl rfl) (?_)))))
    refine WL_nil (hK8 _ ?_)
    clear hK8 K8
    refine W_cond rfl (fun h2 => ?_) (fun h2 => ?_)
    · try rw [h2]
      try simp only [rfb] at h2
      refine W_seq (fun K9 hK9 => ?_)
      refine W_region (WL_cons rfl (WX_q rfl rfl (q_assign rfl rfl) (?_)))
      refine WL_nil (hK9 _ ?_)
      clear hK9 K9
      refine W_ret (fin_one rfl (rc_v ?_))
      all_goals clear hK7 K7
      all_goals (simp only [szMa]; first | (rw [if_pos (by assumption)]; done) | (rw [if_neg (by omega), if_pos (by omega)]; done) | (rw [if_neg (by omega), if_neg (by omega), if_pos (by omega)]; done) | (rw [if_neg (by omega), if_neg (by omega), if_neg (by omega), szFS_neg (by assumption)]; done) | (rw [if_neg (by omega), if_neg (by omega), if_neg (by omega)]; done))
    · try rw [h2]
      try simp only [rfb] at h2
      refine W_skip (hK7 _ ?_)
      clear hK7 K7
      refine W_seq (fun K10 hK10 => ?_)
      refine W_region (WL_cons rfl (WX_q rfl rfl (q_field_ptr G rfl rfl rfl rfl) (WL_cons rfl (WX_q rfl rfl (q_lst (q_load_box G rfl rfl rfl rfl rfl rfl rfl)) (WL_cons rfl (WX_q rfl rfl (q_move rfl rfl) (WL_cons rfl (?_))))))))
      refine WX_q rfl rfl (q_call rfl (ArgsOK.of rfl) (c_laws_szBoolS m.ra _ hb.ra (szL_in (szL_in hl (by omega)) (by omega))) rfl) ?_
      refine WL_cons rfl (WX_q rfl rfl (q_assign rfl rfl) (?_))
      refine WL_nil (hK10 _ ?_)
      clear hK10 K10
      refine W_seq (fun K11 hK11 => ?_)
      refine W_seq (fun K12 hK12 => ?_)
      refine W_region (WL_cons rfl (WX_q rfl rfl (q_move rfl rfl) (WL_cons rfl (WX_q rfl rfl (q_cmp rfl rfl rfl rfl) (?_)))))
      refine WL_nil (hK12 _ ?_)
      clear hK12 K12
      refine W_cond rfl (fun h3 => ?_) (fun h3 => ?_)
      · try rw [h3]
        try simp only [rfb] at h3
        refine W_seq (fun K13 hK13 => ?_)
        refine W_region (WL_cons rfl (WX_q rfl rfl (q_assign rfl rfl) (?_)))
        refine WL_nil (hK13 _ ?_)
        clear hK13 K13
        refine W_ret (fin_one rfl (rc_v ?_))
        all_goals clear hK11 K11
        all_goals (simp only [szMa]; first | (rw [if_pos (by assumption)]; done) | (rw [if_neg (by omega), if_pos (by omega)]; done) | (rw [if_neg (by omega), if_neg (by omega), if_pos (by omega)]; done) | (rw [if_neg (by omega), if_neg (by omega), if_neg (by omega), szFS_neg (by assumption)]; done) | (rw [if_neg (by omega), if_neg (by omega), if_neg (by omega)]; done))
      · try rw [h3]
        try simp only [rfb] at h3
        refine W_skip (hK11 _ ?_)
        clear hK11 K11
        refine W_seq (fun K14 hK14 => ?_)
        refine W_region (WL_cons rfl (WX_q rfl rfl (q_field_ptr G rfl rfl rfl rfl) (WL_cons rfl (WX_q rfl rfl (q_nst (q_load_box G rfl rfl rfl rfl rfl rfl rfl)) (WL_cons rfl (WX_q rfl rfl (q_move rfl rfl) (WL_cons rfl (?_))))))))
        refine WX_q rfl rfl (q_call rfl (ArgsOK.of rfl) (c_laws_szInterfaceS m.cp _ hb.cp hb.all (szL_in (szL_in (szL_in hl (by omega)) (by omega)) (by omega))) rfl) ?_
        refine WL_cons rfl (WX_q rfl rfl (q_assign rfl rfl) (?_))
        refine WL_nil (hK14 _ ?_)
        clear hK14 K14
        refine W_seq (fun K15 hK15 => ?_)
        refine W_seq (fun K16 hK16 => ?_)
        refine W_region (WL_cons rfl (WX_q rfl rfl (q_move rfl rfl) (WL_cons rfl (WX_q rfl rfl (q_cmp rfl rfl rfl rfl) (?_)))))
        refine WL_nil (hK16 _ ?_)
        clear hK16 K16
        refine W_cond rfl (fun h4 => ?_) (fun h4 => ?_)
        · try rw [h4]
          try simp only [rfb] at h4
          refine W_seq (fun K17 hK17 => ?_)
          refine W_region (WL_cons rfl (WX_q rfl rfl (q_assign rfl rfl) (?_)))
          refine WL_nil (hK17 _ ?_)
          clear hK17 K17
          refine W_ret (fin_one rfl (rc_v ?_))
          all_goals clear hK15 K15
          all_goals (simp only [szMa]; first | (rw [if_pos (by assumption)]; done) | (rw [if_neg (by omega), if_pos (by omega)]; done) | (rw [if_neg (by omega), if_neg (by omega), if_pos (by omega)]; done) | (rw [if_neg (by omega), if_neg (by omega), if_neg (by omega), szFS_neg (by assumption)]; done) | (rw [if_neg (by omega), if_neg (by omega), if_neg (by omega)]; done))
        · try rw [h4]
          try simp only [rfb] at h4
          refine W_skip (hK15 _ ?_)
          clear hK15 K15
          refine W_seq (fun K18 hK18 => ?_)
          refine W_region (WL_cons rfl (WX_q rfl rfl (q_move rfl rfl) (WL_cons rfl (WX_q rfl rfl (q_assign rfl rfl) (?_)))))
          refine WL_nil (hK18 _ ?_)
          clear hK18 K18
          refine W_ret (fin_one rfl (rc_v ?_))
          all_goals (simp only [szMa]; first | (rw [if_pos (by assumption)]; done) | (rw [if_neg (by omega), if_pos (by omega)]; done) | (rw [if_neg (by omega), if_neg (by omega), if_pos (by omega)]; done) | (rw [if_neg (by omega), if_neg (by omega), if_neg (by omega), szFS_neg (by assumption)]; done) | (rw [if_neg (by omega), if_neg (by omega), if_neg (by omega)]; done))

theorem c_laws_toSlot (x : Slot) : Ctr Tryz.prog 153 [.v (encSv x)] (.one (.v (encSv x))) := by
  refine Ctr.of (n := 14) G Tryz.func153 rfl (by kernel_rfl) rfl rfl rfl (fun w0 => ?_)
  refine W_seq (fun K1 hK1 => ?_)
  refine W_region (WL_cons rfl (WX_box 1 rfl rfl rfl rfl rfl rfl rfl (WL_cons rfl (WX_alloc_s G 2 rfl rfl rfl rfl rfl (?_)))))
  refine WL_nil (hK1 _ ?_)
  clear hK1 K1
  refine W_seq (fun K2 hK2 => ?_)
  refine W_region (WL_cons rfl (WX_alloc_s G 3 rfl rfl rfl rfl rfl (?_)))
  refine WL_nil (hK2 _ ?_)
  clear hK2 K2
  refine W_seq (fun K3 hK3 => ?_)
  refine W_region (WL_cons rfl (WX_q rfl rfl (q_field_ptr G rfl rfl rfl rfl) (WL_cons rfl (WX_q rfl rfl (q_load_box G rfl rfl rfl rfl rfl rfl rfl) (WL_cons rfl (WX_q rfl rfl (q_field_ptr G rfl rfl rfl rfl) (WL_cons rfl (WX_store G rfl rfl rfl rfl rfl rfl rfl rfl rfl rfl rfl (?_)))))))))
  refine WL_nil (hK3 _ ?_)
  clear hK3 K3
  refine W_seq (fun K4 hK4 => ?_)
  refine W_region (WL_cons rfl (WX_q rfl rfl (q_field_ptr G rfl rfl rfl rfl) (WL_cons rfl (WX_q rfl rfl (q_load_box G rfl rfl rfl rfl rfl rfl rfl) (WL_cons rfl (WX_q rfl rfl (q_field_ptr G rfl rfl rfl rfl) (WL_cons rfl (WX_store G rfl rfl rfl rfl rfl rfl rfl rfl rfl rfl rfl (?_)))))))))
  refine WL_nil (hK4 _ ?_)
  clear hK4 K4
  refine W_seq (fun K5 hK5 => ?_)
  refine W_region (WL_cons rfl (WX_q rfl rfl (q_field_ptr G rfl rfl rfl rfl) (WL_cons rfl (WX_q rfl rfl (q_load_box G rfl rfl rfl rfl rfl rfl rfl) (WL_cons rfl (WX_q rfl rfl (q_field_ptr G rfl rfl rfl rfl) (WL_cons rfl (WX_store G rfl rfl rfl rfl rfl rfl rfl rfl rfl rfl rfl (?_)))))))))
  refine WL_nil (hK5 _ ?_)
  clear hK5 K5
  refine W_seq (fun K6 hK6 => ?_)
  refine W_region (WL_cons rfl (WX_q rfl rfl (q_load_box_struct G rfl rfl rfl rfl rfl rfl) (WL_cons rfl (WX_store G rfl rfl rfl rfl rfl rfl rfl rfl rfl rfl rfl (?_)))))
  refine WL_nil (hK6 _ ?_)
  clear hK6 K6
  refine W_ret (fin_one rfl (rc_agg rfl ?_))
  all_goals ((first | rfl | (simp_all; done) | (simp_all; omega)))

theorem c_laws_toSlotS (xs : List Slot) (hn : xs.length ≤ 1048576) : Ctr Tryz.prog 112 [.lst 3 (xs.map encSl)] (.one (.fr 81 3 (xs.map encSl))) := by
  refine Ctr.of (n := 23) G Tryz.func112 rfl (by kernel_rfl) rfl rfl rfl (fun w0 => ?_)
  refine W_seq (fun K1 hK1 => ?_)
  refine W_region (WL_cons rfl (WX_q rfl rfl (q_assign rfl rfl) (?_)))
  refine WL_nil (hK1 _ ?_)
  clear hK1 K1
  refine W_seq (fun K2 hK2 => ?_)
  refine W_region (WL_cons rfl (WX_q rfl rfl (q_move rfl rfl) (WL_cons rfl (?_))))
  first | refine WX_q rfl rfl (q_len' G rfl rfl rfl rfl (List.length_map _)) ?_ | refine WX_q rfl rfl (q_len G rfl rfl rfl rfl) ?_
  refine WL_cons rfl (?_)
  refine WX_make (n := xs.length) G 1 rfl rfl rfl rfl rfl rfl rfl (by first | rfl | simp) (by first | rfl | simp) (by omega) (by omega) ?_
  refine WL_cons rfl (WX_q rfl rfl (q_assign rfl rfl) (?_))
  refine WL_nil (hK2 _ ?_)
  clear hK2 K2
  refine W_seq (fun K3 hK3 => ?_)
  refine W_seq (fun K4 hK4 => ?_)
  refine W_region (WL_cons rfl (WX_q rfl rfl (q_assign rfl rfl) (?_)))
  refine WL_nil (hK4 _ ?_)
  clear hK4 K4
  refine W_block ?_
  refine W_loopK [0, 3] [] (fun (i : Nat) => [(4, .v (.int .i64 (i : Int)))]) (fun (i : Nat) => [(0, some (.row 81 3 (fill encSl (encSl zSl) xs i)))]) (fun (i : Nat) => i ≤ xs.length) (fun (i : Nat) => xs.length - i) 0 rfl rfl ?_ ?_ ?_ ?_
  · exact Nat.zero_le _
  · exact ⟨⟨_, rfl, by (first | rfl | (simp; done) | (simp; omega))⟩, rfl, trivial⟩
  · exact ⟨⟨_, rfl, by (rw [fill_zero]; rfl)⟩, rfl, rfl, trivial⟩
  · intro i hinv
    simp only [List.cons_append, List.nil_append]
    refine W_seq (fun K5 hK5 => ?_)
    refine W_seq (fun K6 hK6 => ?_)
    refine W_region (WL_cons rfl (WX_q rfl rfl (q_move rfl rfl) (WL_cons rfl (WX_q rfl rfl (q_move rfl rfl) (WL_cons rfl (?_))))))
    first | refine WX_q rfl rfl (q_len' G rfl rfl rfl rfl (List.length_map _)) ?_ | refine WX_q rfl rfl (q_len G rfl rfl rfl rfl) ?_
    refine WL_cons rfl (WX_q rfl rfl (q_cmp rfl rfl rfl rfl) (?_))
    refine WL_nil (hK6 _ ?_)
    clear hK6 K6
    refine W_cond rfl (fun h1 => ?_) (fun h1 => ?_)
    · try rw [h1]
      try simp only [rfb] at h1
      refine W_skip (hK5 _ ?_)
      clear hK5 K5
      refine W_seq (fun K7 hK7 => ?_)
      refine W_block ?_
      refine W_region (WL_cons rfl (WX_q rfl rfl (q_move rfl rfl) (WL_cons rfl (WX_q rfl rfl (q_move rfl rfl) (WL_cons rfl (WX_q rfl rfl (q_move rfl rfl) (WL_cons rfl (WX_q rfl rfl (q_move rfl rfl) (WL_cons rfl (?_))))))))))
      refine WX_q rfl rfl (q_index_lst G rfl rfl rfl rfl (by omega) (getN (by omega))) ?_
      refine WL_cons rfl (WX_q rfl rfl (q_load_ept_struct G rfl rfl rfl rfl) (WL_cons rfl (?_)))
      refine WX_q rfl rfl (q_call rfl (ArgsOK.of rfl) (c_laws_toSlot _) rfl) ?_
      refine WL_cons rfl (?_)
      refine WX_q rfl rfl (q_index_own G rfl rfl rfl rfl rfl (by omega) (by rw [fill_len (by omega)]; omega)) ?_
      refine WL_cons rfl (?_)
      refine WX_store_row G rfl rfl rfl rfl rfl (fill_get (by omega)) rfl rfl rfl rfl rfl (Nat.le_of_ble_eq_true rfl) rfl ?_
      refine WL_nil (hK7 _ ?_)
      clear hK7 K7
      refine W_region (WL_cons rfl (WX_q rfl rfl (q_move rfl rfl) (WL_cons rfl (?_))))
      first | refine WX_q rfl rfl (q_arith rfl rfl rfl rfl (by omega) (by omega)) ?_ | refine WX_q rfl rfl (q_wrap rfl rfl rfl rfl) ?_
      refine WL_cons rfl (WX_q rfl rfl (q_assign rfl rfl) (?_))
      refine WL_nil ⟨(i + 1), ?_, ?_, ⟨⟨_, rfl, by rfl⟩, rfl, trivial⟩, ⟨⟨_, rfl, by (rw [← fill_set (by omega)]; rfl)⟩, rfl, rfl, trivial⟩, rfl, rfl, rfl⟩
      · omega
      · omega
    · try rw [h1]
      try simp only [rfb] at h1
      refine W_exit (hK3 _ ?_)
      clear hK5 K5 hK3 K3
      refine W_seq (fun K8 hK8 => ?_)
      refine W_region (WL_cons rfl (WX_q rfl rfl (q_move rfl rfl) (WL_cons rfl (WX_q rfl rfl (q_assign rfl rfl) (?_)))))
      refine WL_nil (hK8 _ ?_)
      clear hK8 K8
      refine W_ret (fin_one rfl (rc_own rfl ?_))
      all_goals (exact fill_end (by omega) (by omega))

theorem c_laws_toWaiter (x : Wtr) : Ctr Tryz.prog 154 [.v (encWv x)] (.one (.v (encWv x))) := by
  refine Ctr.of (n := 11) G Tryz.func154 rfl (by kernel_rfl) rfl rfl rfl (fun w0 => ?_)
  refine W_seq (fun K1 hK1 => ?_)
  refine W_region (WL_cons rfl (WX_box 1 rfl rfl rfl rfl rfl rfl rfl (WL_cons rfl (WX_alloc_s G 2 rfl rfl rfl rfl rfl (?_)))))
  refine WL_nil (hK1 _ ?_)
  clear hK1 K1
  refine W_seq (fun K2 hK2 => ?_)
  refine W_region (WL_cons rfl (WX_alloc_s G 3 rfl rfl rfl rfl rfl (?_)))
  refine WL_nil (hK2 _ ?_)
  clear hK2 K2
  refine W_seq (fun K3 hK3 => ?_)
  refine W_region (WL_cons rfl (WX_q rfl rfl (q_field_ptr G rfl rfl rfl rfl) (WL_cons rfl (WX_q rfl rfl (q_load_box G rfl rfl rfl rfl rfl rfl rfl) (WL_cons rfl (WX_q rfl rfl (q_field_ptr G rfl rfl rfl rfl) (WL_cons rfl (WX_store G rfl rfl rfl rfl rfl rfl rfl rfl rfl rfl rfl (?_)))))))))
  refine WL_nil (hK3 _ ?_)
  clear hK3 K3
  refine W_seq (fun K4 hK4 => ?_)
  refine W_region (WL_cons rfl (WX_q rfl rfl (q_field_ptr G rfl rfl rfl rfl) (WL_cons rfl (WX_q rfl rfl (q_load_box G rfl rfl rfl rfl rfl rfl rfl) (WL_cons rfl (WX_q rfl rfl (q_field_ptr G rfl rfl rfl rfl) (WL_cons rfl (WX_store G rfl rfl rfl rfl rfl rfl rfl rfl rfl rfl rfl (?_)))))))))
  refine WL_nil (hK4 _ ?_)
  clear hK4 K4
  refine W_seq (fun K5 hK5 => ?_)
  refine W_region (WL_cons rfl (WX_q rfl rfl (q_load_box_struct G rfl rfl rfl rfl rfl rfl) (WL_cons rfl (WX_store G rfl rfl rfl rfl rfl rfl rfl rfl rfl rfl rfl (?_)))))
  refine WL_nil (hK5 _ ?_)
  clear hK5 K5
  refine W_ret (fin_one rfl (rc_agg rfl ?_))
  all_goals ((first | rfl | (simp_all; done) | (simp_all; omega)))

theorem c_laws_toWaiterS (xs : List Wtr) (hn : xs.length ≤ 1048576) : Ctr Tryz.prog 113 [.lst 2 (xs.map encWa)] (.one (.fr 61 2 (xs.map encWa))) := by
  refine Ctr.of (n := 23) G Tryz.func113 rfl (by kernel_rfl) rfl rfl rfl (fun w0 => ?_)
  refine W_seq (fun K1 hK1 => ?_)
  refine W_region (WL_cons rfl (WX_q rfl rfl (q_assign rfl rfl) (?_)))
  refine WL_nil (hK1 _ ?_)
  clear hK1 K1
  refine W_seq (fun K2 hK2 => ?_)
  refine W_region (WL_cons rfl (WX_q rfl rfl (q_move rfl rfl) (WL_cons rfl (?_))))
  first | refine WX_q rfl rfl (q_len' G rfl rfl rfl rfl (List.length_map _)) ?_ | refine WX_q rfl rfl (q_len G rfl rfl rfl rfl) ?_
  refine WL_cons rfl (?_)
  refine WX_make (n := xs.length) G 1 rfl rfl rfl rfl rfl rfl rfl (by first | rfl | simp) (by first | rfl | simp) (by omega) (by omega) ?_
  refine WL_cons rfl (WX_q rfl rfl (q_assign rfl rfl) (?_))
  refine WL_nil (hK2 _ ?_)
  clear hK2 K2
  refine W_seq (fun K3 hK3 => ?_)
  refine W_seq (fun K4 hK4 => ?_)
  refine W_region (WL_cons rfl (WX_q rfl rfl (q_assign rfl rfl) (?_)))
  refine WL_nil (hK4 _ ?_)
  clear hK4 K4
  refine W_block ?_
  refine W_loopK [0, 3] [] (fun (i : Nat) => [(4, .v (.int .i64 (i : Int)))]) (fun (i : Nat) => [(0, some (.row 61 2 (fill encWa (encWa ⟨0, 0⟩) xs i)))]) (fun (i : Nat) => i ≤ xs.length) (fun (i : Nat) => xs.length - i) 0 rfl rfl ?_ ?_ ?_ ?_
  · exact Nat.zero_le _
  · exact ⟨⟨_, rfl, by (first | rfl | (simp; done) | (simp; omega))⟩, rfl, trivial⟩
  · exact ⟨⟨_, rfl, by (rw [fill_zero]; rfl)⟩, rfl, rfl, trivial⟩
  · intro i hinv
    simp only [List.cons_append, List.nil_append]
    refine W_seq (fun K5 hK5 => ?_)
    refine W_seq (fun K6 hK6 => ?_)
    refine W_region (WL_cons rfl (WX_q rfl rfl (q_move rfl rfl) (WL_cons rfl (WX_q rfl rfl (q_move rfl rfl) (WL_cons rfl (?_))))))
    first | refine WX_q rfl rfl (q_len' G rfl rfl rfl rfl (List.length_map _)) ?_ | refine WX_q rfl rfl (q_len G rfl rfl rfl rfl) ?_
    refine WL_cons rfl (WX_q rfl rfl (q_cmp rfl rfl rfl rfl) (?_))
    refine WL_nil (hK6 _ ?_)
    clear hK6 K6
    refine W_cond rfl (fun h1 => ?_) (fun h1 => ?_)
    · try rw [h1]
      try simp only [rfb] at h1
      refine W_skip (hK5 _ ?_)
      clear hK5 K5
      refine W_seq (fun K7 hK7 => ?_)
      refine W_block ?_
      refine W_region (WL_cons rfl (WX_q rfl rfl (q_move rfl rfl) (WL_cons rfl (WX_q rfl rfl (q_move rfl rfl) (WL_cons rfl (WX_q rfl rfl (q_move rfl rfl) (WL_cons rfl (WX_q rfl rfl (q_move rfl rfl) (WL_cons rfl (?_))))))))))
      refine WX_q rfl rfl (q_index_lst G rfl rfl rfl rfl (by omega) (getN (by omega))) ?_
      refine WL_cons rfl (WX_q rfl rfl (q_load_ept_struct G rfl rfl rfl rfl) (WL_cons rfl (?_)))
      refine WX_q rfl rfl (q_call rfl (ArgsOK.of rfl) (c_laws_toWaiter _) rfl) ?_
      refine WL_cons rfl (?_)
      refine WX_q rfl rfl (q_index_own G rfl rfl rfl rfl rfl (by omega) (by rw [fill_len (by omega)]; omega)) ?_
      refine WL_cons rfl (?_)
      refine WX_store_row G rfl rfl rfl rfl rfl (fill_get (by omega)) rfl rfl rfl rfl rfl (Nat.le_of_ble_eq_true rfl) rfl ?_
      refine WL_nil (hK7 _ ?_)
      clear hK7 K7
      refine W_region (WL_cons rfl (WX_q rfl rfl (q_move rfl rfl) (WL_cons rfl (?_))))
      first | refine WX_q rfl rfl (q_arith rfl rfl rfl rfl (by omega) (by omega)) ?_ | refine WX_q rfl rfl (q_wrap rfl rfl rfl rfl) ?_
      refine WL_cons rfl (WX_q rfl rfl (q_assign rfl rfl) (?_))
      refine WL_nil ⟨(i + 1), ?_, ?_, ⟨⟨_, rfl, by rfl⟩, rfl, trivial⟩, ⟨⟨_, rfl, by (rw [← fill_set (by omega)]; rfl)⟩, rfl, rfl, trivial⟩, rfl, rfl, rfl⟩
      · omega
      · omega
    · try rw [h1]
      try simp only [rfb] at h1
      refine W_exit (hK3 _ ?_)
      clear hK5 K5 hK3 K3
      refine W_seq (fun K8 hK8 => ?_)
      refine W_region (WL_cons rfl (WX_q rfl rfl (q_move rfl rfl) (WL_cons rfl (WX_q rfl rfl (q_assign rfl rfl) (?_)))))
      refine WL_nil (hK8 _ ?_)
      clear hK8 K8
      refine W_ret (fin_one rfl (rc_own rfl ?_))
      all_goals (exact fill_end (by omega) (by omega))

theorem c_laws_toQueue (q : Que) (hl : q.sl.length ≤ 1048576) (hw : q.wa.length ≤ 1048576) : Ctr Tryz.prog 84 [.agg [.lst 3 (q.sl.map encSl), .lst 2 (q.wa.map encWa)]] (.shp true [some 2] [.fr 81 3 (q.sl.map encSl), .fr 61 2 (q.wa.map encWa)]) := by
  refine Ctr.of (n := 13) G Tryz.func84 rfl (by kernel_rfl) rfl rfl rfl (fun w0 => ?_)
  refine W_pinS 0 rfl (fun _ => rfl) (fun u0 => ?_)
  refine W_seq (fun K1 hK1 => ?_)
  refine W_region (WL_cons rfl (WX_box 1 rfl rfl rfl rfl rfl rfl rfl (WL_cons rfl (WX_alloc_s G 2 rfl rfl rfl rfl rfl (?_)))))
  refine WL_nil (hK1 _ ?_)
  clear hK1 K1
  refine W_seq (fun K2 hK2 => ?_)
  refine W_region (WL_cons rfl (WX_alloc_s G 3 rfl rfl rfl rfl rfl (?_)))
  refine WL_nil (hK2 _ ?_)
  clear hK2 K2
  refine W_seq (fun K3 hK3 => ?_)
  refine W_region (WL_cons rfl (WX_q rfl rfl (q_field_ptr G rfl rfl rfl rfl) (WL_cons rfl (WX_q rfl rfl (q_lst (q_load_box G rfl rfl rfl rfl rfl rfl rfl)) (WL_cons rfl (?_))))))
  refine WX_call 4 rfl rfl rfl (ArgsOK.of rfl) (c_laws_toSlotS q.sl hl) rfl rfl ?_
  refine WL_cons rfl (WX_q rfl rfl (q_field_ptr G rfl rfl rfl rfl) (WL_cons rfl (WX_store G rfl rfl rfl rfl rfl rfl rfl rfl rfl rfl rfl (?_))))
  refine WL_nil (hK3 _ ?_)
  clear hK3 K3
  refine W_seq (fun K4 hK4 => ?_)
  refine W_region (WL_cons rfl (WX_q rfl rfl (q_field_ptr G rfl rfl rfl rfl) (WL_cons rfl (WX_q rfl rfl (q_lst (q_load_box G rfl rfl rfl rfl rfl rfl rfl)) (WL_cons rfl (?_))))))
  refine WX_call 5 rfl rfl rfl (ArgsOK.of rfl) (c_laws_toWaiterS q.wa hw) rfl rfl ?_
  refine WL_cons rfl (WX_q rfl rfl (q_field_ptr G rfl rfl rfl rfl) (WL_cons rfl (WX_store G rfl rfl rfl rfl rfl rfl rfl rfl rfl rfl rfl (?_))))
  refine WL_nil (hK4 _ ?_)
  clear hK4 K4
  refine W_seq (fun K5 hK5 => ?_)
  refine W_region (WL_cons rfl (WX_q rfl rfl (q_load_box_struct G rfl rfl rfl rfl rfl rfl) (WL_cons rfl (WX_store G rfl rfl rfl rfl rfl rfl rfl rfl rfl rfl rfl (?_)))))
  refine WL_nil (hK5 _ ?_)
  clear hK5 K5
  refine W_ret (fin_shp rfl rfl rfl rfl (rcs_cons (rc_own rfl ?_) (rcs_cons (rc_own rfl ?_) rcs_nil)))
  all_goals (rfl)

theorem c_laws_toInterface (x : Ifc) (hn : x.st.length ≤ 1048576) (hl : x.qu.sl.length ≤ 1048576) (hw : x.qu.wa.length ≤ 1048576) : Ctr Tryz.prog 50 [.agg [.v (.int .i64 x.ma), .lst 1 (x.st.map Rf.encI), .lst 3 (x.qu.sl.map encSl), .lst 2 (x.qu.wa.map encWa)]] (.shp true [some 4] [.v (.int .i64 x.ma), .fr 3 1 (x.st.map Rf.encI), .fr 81 3 (x.qu.sl.map encSl), .fr 61 2 (x.qu.wa.map encWa)]) := by
  refine Ctr.of (n := 16) G Tryz.func50 rfl (by kernel_rfl) rfl rfl rfl (fun w0 => ?_)
  refine W_pinS 0 rfl (fun _ => rfl) (fun u0 => ?_)
  refine W_seq (fun K1 hK1 => ?_)
  refine W_region (WL_cons rfl (WX_box 1 rfl rfl rfl rfl rfl rfl rfl (WL_cons rfl (WX_alloc_s G 2 rfl rfl rfl rfl rfl (?_)))))
  refine WL_nil (hK1 _ ?_)
  clear hK1 K1
  refine W_seq (fun K2 hK2 => ?_)
  refine W_region (WL_cons rfl (WX_alloc_s G 3 rfl rfl rfl rfl rfl (?_)))
  refine WL_nil (hK2 _ ?_)
  clear hK2 K2
  refine W_seq (fun K3 hK3 => ?_)
  refine W_region (WL_cons rfl (WX_q rfl rfl (q_field_ptr G rfl rfl rfl rfl) (WL_cons rfl (WX_q rfl rfl (q_load_box G rfl rfl rfl rfl rfl rfl rfl) (WL_cons rfl (WX_q rfl rfl (q_field_ptr G rfl rfl rfl rfl) (WL_cons rfl (WX_store G rfl rfl rfl rfl rfl rfl rfl rfl rfl rfl rfl (?_)))))))))
  refine WL_nil (hK3 _ ?_)
  clear hK3 K3
  refine W_seq (fun K4 hK4 => ?_)
  refine W_region (WL_cons rfl (WX_q rfl rfl (q_field_ptr G rfl rfl rfl rfl) (WL_cons rfl (WX_q rfl rfl (q_lst (q_load_box G rfl rfl rfl rfl rfl rfl rfl)) (WL_cons rfl (?_))))))
  refine WX_call 4 rfl rfl rfl (ArgsOK.of rfl) (c_laws_toIntS x.st hn) rfl rfl ?_
  refine WL_cons rfl (WX_q rfl rfl (q_field_ptr G rfl rfl rfl rfl) (WL_cons rfl (WX_store G rfl rfl rfl rfl rfl rfl rfl rfl rfl rfl rfl (?_))))
  refine WL_nil (hK4 _ ?_)
  clear hK4 K4
  refine W_seq (fun K5 hK5 => ?_)
  refine W_region (WL_cons rfl (WX_q rfl rfl (q_field_ptr G rfl rfl rfl rfl) (WL_cons rfl (WX_q rfl rfl (q_load_box_struct G rfl rfl rfl rfl rfl rfl) (WL_cons rfl (?_))))))
  refine WX_call 6 rfl rfl rfl (ArgsOK.of rfl) (c_laws_toQueue x.qu hl hw) rfl rfl ?_
  refine WL_cons rfl (WX_q rfl rfl (q_field_ptr G rfl rfl rfl rfl) (WL_cons rfl (WX_store G rfl rfl rfl rfl rfl rfl rfl rfl rfl rfl rfl (?_))))
  refine WL_nil (hK5 _ ?_)
  clear hK5 K5
  refine W_seq (fun K6 hK6 => ?_)
  refine W_region (WL_cons rfl (WX_q rfl rfl (q_load_box_struct G rfl rfl rfl rfl rfl rfl) (WL_cons rfl (WX_store G rfl rfl rfl rfl rfl rfl rfl rfl rfl rfl rfl (?_)))))
  refine WL_nil (hK6 _ ?_)
  clear hK6 K6
  refine W_ret (fin_shp rfl rfl rfl rfl (rcs_cons (rc_v ?_) (rcs_cons (rc_own rfl ?_) (rcs_cons (rc_own rfl ?_) (rcs_cons (rc_own rfl ?_) rcs_nil)))))
  all_goals (rfl)

set_option maxHeartbeats 1000000 in
theorem c_laws_toInterfaceS (xs : List Ifc) (hn : xs.length ≤ 1048576) (hz : sumI xs xs.length ≤ 1048576) : Ctr Tryz.prog 34 [.nst none 4 (xs.map (encIf 81 61))] (.one (.ne 59 4 (xs.map (encIf 81 61)))) := by
  refine Ctr.of (n := 23) G Tryz.func34 rfl (by kernel_rfl) rfl rfl rfl (fun w0 => ?_)
  refine W_seq (fun K1 hK1 => ?_)
  refine W_region (WL_cons rfl (WX_q rfl rfl (q_assign rfl rfl) (?_)))
  refine WL_nil (hK1 _ ?_)
  clear hK1 K1
  refine W_seq (fun K2 hK2 => ?_)
  refine W_region (WL_cons rfl (WX_q rfl rfl (q_move rfl rfl) (WL_cons rfl (?_))))
  first | refine WX_q rfl rfl (q_len' G rfl rfl rfl rfl (List.length_map _)) ?_ | refine WX_q rfl rfl (q_len G rfl rfl rfl rfl) ?_
  refine WL_cons rfl (?_)
  refine WX_make (n := xs.length) G 1 rfl rfl rfl rfl rfl rfl rfl (by first | rfl | simp) (by first | rfl | simp) (by omega) (by omega) <| WL_gh (Gh.nest (id := 0) (yss := List.replicate (xs.length) [.v (.int .i64 0), .l 3 1 [], .l 81 3 [], .l 61 2 []]) rfl (by simp) (replicate_plain (.v (.s (.s (.s .nil)))))) ?_
  refine WL_cons rfl (WX_q rfl rfl (q_assign rfl rfl) (?_))
  refine WL_nil (hK2 _ ?_)
  clear hK2 K2
  refine W_seq (fun K3 hK3 => ?_)
  refine W_seq (fun K4 hK4 => ?_)
  refine W_region (WL_cons rfl (WX_q rfl rfl (q_assign rfl rfl) (?_)))
  refine WL_nil (hK4 _ ?_)
  clear hK4 K4
  refine W_block ?_
  refine W_loopK [0, 3] [] (fun (i : Nat) => [(4, .v (.int .i64 (i : Int)))]) (fun (i : Nat) => [(0, some (.nest 59 4 (fill (encIf 81 61) ((encIf 81 61) noI) xs i) []))]) (fun (i : Nat) => i ≤ xs.length) (fun (i : Nat) => xs.length - i) 0 rfl rfl ?_ ?_ ?_ ?_
  · exact Nat.zero_le _
  · exact ⟨⟨_, rfl, by (first | rfl | (simp; done) | (simp; omega))⟩, rfl, trivial⟩
  · exact ⟨⟨_, rfl, by (rw [fill_zero]; rfl)⟩, rfl, rfl, trivial⟩
  · intro i hinv
    simp only [List.cons_append, List.nil_append]
    refine W_seq (fun K5 hK5 => ?_)
    refine W_seq (fun K6 hK6 => ?_)
    refine W_region (WL_cons rfl (WX_q rfl rfl (q_move rfl rfl) (WL_cons rfl (WX_q rfl rfl (q_move rfl rfl) (WL_cons rfl (?_))))))
    first | refine WX_q rfl rfl (q_len' G rfl rfl rfl rfl (List.length_map _)) ?_ | refine WX_q rfl rfl (q_len G rfl rfl rfl rfl) ?_
    refine WL_cons rfl (WX_q rfl rfl (q_cmp rfl rfl rfl rfl) (?_))
    refine WL_nil (hK6 _ ?_)
    clear hK6 K6
    refine W_cond rfl (fun h1 => ?_) (fun h1 => ?_)
    · try rw [h1]
      try simp only [rfb] at h1
      have hs1 := sumI_get (xs := xs) (i := i) (n := xs.length) (by omega)
      have hs2 : szI (xs.getD i default) = (xs.getD i default).st.length + (xs.getD i default).qu.sl.length + (xs.getD i default).qu.wa.length := rfl
      refine W_skip (hK5 _ ?_)
      clear hK5 K5
      refine W_seq (fun K7 hK7 => ?_)
      refine W_block ?_
      refine W_region (WL_cons rfl (WX_q rfl rfl (q_move rfl rfl) (WL_cons rfl (WX_q rfl rfl (q_move rfl rfl) (WL_cons rfl (WX_q rfl rfl (q_move rfl rfl) (WL_cons rfl (WX_q rfl rfl (q_move rfl rfl) (WL_cons rfl (?_))))))))))
      refine WX_q rfl rfl (q_index_nst G rfl rfl rfl rfl (by omega) (getN (by omega)) rfl) ?_
      refine WL_cons rfl (WX_q rfl rfl (q_load_eptN_struct G rfl rfl rfl rfl) (WL_cons rfl (?_)))
      refine WX_call 4 rfl rfl rfl (ArgsOK.of rfl) (c_laws_toInterface (xs.getD i default) (by omega) (by omega) (by omega)) rfl rfl ?_
      refine WL_cons rfl (?_)
      refine WX_q rfl rfl (q_index_nest G rfl rfl rfl rfl rfl (by omega) (by rw [fill_len (by omega)]; omega)) ?_
      refine WL_cons rfl (?_)
      refine WX_store_nest G rfl rfl rfl rfl rfl (fill_get (by omega)) rfl rfl (.v rfl (.own rfl (.own rfl (.own rfl .nil)))) rfl rfl rfl (Nat.le_of_ble_eq_true rfl) (fun q h => by cases h) (fill_set (by omega)) ?_
      refine WL_nil (hK7 _ ?_)
      clear hK7 K7
      refine W_region (WL_cons rfl (WX_q rfl rfl (q_move rfl rfl) (WL_cons rfl (?_))))
      first | refine WX_q rfl rfl (q_arith rfl rfl rfl rfl (by omega) (by omega)) ?_ | refine WX_q rfl rfl (q_wrap rfl rfl rfl rfl) ?_
      refine WL_cons rfl (WX_q rfl rfl (q_assign rfl rfl) (?_))
      refine WL_nil ⟨(i + 1), ?_, ?_, ⟨⟨_, rfl, by rfl⟩, rfl, trivial⟩, ⟨⟨_, rfl, by rfl⟩, rfl, rfl, trivial⟩, rfl, rfl, rfl⟩
      · omega
      · omega
    · try rw [h1]
      try simp only [rfb] at h1
      refine W_exit (hK3 _ ?_)
      clear hK5 K5 hK3 K3
      refine W_seq (fun K8 hK8 => ?_)
      refine W_region (WL_cons rfl (WX_q rfl rfl (q_move rfl rfl) (WL_cons rfl (WX_q rfl rfl (q_assign rfl rfl) (?_)))))
      refine WL_nil (hK8 _ ?_)
      clear hK8 K8
      refine W_ret (fin_one rfl (rc_ne rfl ?_))
      all_goals (exact fill_end (by omega) (by omega))

theorem c_laws_toMachine (m : Mach) (hs : SmallM m) : Ctr Tryz.prog 15 [.agg [.lst 2 (m.rs.map encRo), .lst 1 (m.en.map encO), .lst 1 (m.ra.map encO), .nst none 4 (m.cp.map (encIf 81 61))]] (.shp true [some 4] [.fr 95 2 (m.rs.map encRo), .fr 4 1 (m.en.map encO), .fr 4 1 (m.ra.map encO), .ne 59 4 (m.cp.map (encIf 81 61))]) := by
  refine Ctr.of (n := 21) G Tryz.func15 rfl (by kernel_rfl) rfl rfl rfl (fun w0 => ?_)
  refine W_pinS 0 rfl (fun _ => rfl) (fun u0 => ?_)
  refine W_seq (fun K1 hK1 => ?_)
  refine W_region (WL_cons rfl (WX_box 1 rfl rfl rfl rfl rfl rfl rfl (WL_cons rfl (WX_alloc_s G 2 rfl rfl rfl rfl rfl (?_)))))
  refine WL_nil (hK1 _ ?_)
  clear hK1 K1
  refine W_seq (fun K2 hK2 => ?_)
  refine W_region (WL_cons rfl (WX_alloc_s G 3 rfl rfl rfl rfl rfl (?_)))
  refine WL_nil (hK2 _ ?_)
  clear hK2 K2
  refine W_seq (fun K3 hK3 => ?_)
  refine W_region (WL_cons rfl (WX_q rfl rfl (q_field_ptr G rfl rfl rfl rfl) (WL_cons rfl (WX_q rfl rfl (q_lst (q_load_box G rfl rfl rfl rfl rfl rfl rfl)) (WL_cons rfl (?_))))))
  refine WX_call 4 rfl rfl rfl (ArgsOK.of rfl) (c_laws_toRouteS m.rs hs.rs) rfl rfl ?_
  refine WL_cons rfl (WX_q rfl rfl (q_field_ptr G rfl rfl rfl rfl) (WL_cons rfl (WX_store G rfl rfl rfl rfl rfl rfl rfl rfl rfl rfl rfl (?_))))
  refine WL_nil (hK3 _ ?_)
  clear hK3 K3
  refine W_seq (fun K4 hK4 => ?_)
  refine W_region (WL_cons rfl (WX_q rfl rfl (q_field_ptr G rfl rfl rfl rfl) (WL_cons rfl (WX_q rfl rfl (q_lst (q_load_box G rfl rfl rfl rfl rfl rfl rfl)) (WL_cons rfl (?_))))))
  refine WX_call 5 rfl rfl rfl (ArgsOK.of rfl) (c_laws_toBoolS m.en hs.en) rfl rfl ?_
  refine WL_cons rfl (WX_q rfl rfl (q_field_ptr G rfl rfl rfl rfl) (WL_cons rfl (WX_store G rfl rfl rfl rfl rfl rfl rfl rfl rfl rfl rfl (?_))))
  refine WL_nil (hK4 _ ?_)
  clear hK4 K4
  refine W_seq (fun K5 hK5 => ?_)
  refine W_region (WL_cons rfl (WX_q rfl rfl (q_field_ptr G rfl rfl rfl rfl) (WL_cons rfl (WX_q rfl rfl (q_lst (q_load_box G rfl rfl rfl rfl rfl rfl rfl)) (WL_cons rfl (?_))))))
  refine WX_call 6 rfl rfl rfl (ArgsOK.of rfl) (c_laws_toBoolS m.ra hs.ra) rfl rfl ?_
  refine WL_cons rfl (WX_q rfl rfl (q_field_ptr G rfl rfl rfl rfl) (WL_cons rfl (WX_store G rfl rfl rfl rfl rfl rfl rfl rfl rfl rfl rfl (?_))))
  refine WL_nil (hK5 _ ?_)
  clear hK5 K5
  refine W_seq (fun K6 hK6 => ?_)
  refine W_region (WL_cons rfl (WX_q rfl rfl (q_field_ptr G rfl rfl rfl rfl) (WL_cons rfl (WX_q rfl rfl (q_nst (q_load_box G rfl rfl rfl rfl rfl rfl rfl)) (WL_cons rfl (?_))))))
  refine WX_call 7 rfl rfl rfl (ArgsOK.of rfl) (c_laws_toInterfaceS m.cp hs.cp hs.sum) rfl rfl ?_
  refine WL_cons rfl (WX_q rfl rfl (q_field_ptr G rfl rfl rfl rfl) (WL_cons rfl (WX_store G rfl rfl rfl rfl rfl rfl rfl rfl rfl rfl rfl (?_))))
  refine WL_nil (hK6 _ ?_)
  clear hK6 K6
  refine W_seq (fun K7 hK7 => ?_)
  refine W_region (WL_cons rfl (WX_q rfl rfl (q_load_box_struct G rfl rfl rfl rfl rfl rfl) (WL_cons rfl (WX_store G rfl rfl rfl rfl rfl rfl rfl rfl rfl rfl rfl (?_)))))
  refine WL_nil (hK7 _ ?_)
  clear hK7 K7
  refine W_ret (fin_shp rfl rfl rfl rfl (rcs_cons (rc_own rfl ?_) (rcs_cons (rc_own rfl ?_) (rcs_cons (rc_own rfl ?_) (rcs_cons (rc_ne rfl ?_) rcs_nil)))))
  all_goals (rfl)

end Go.Proofs.YtieidkjfeboepaaGreatDoor

/- Walks through functions of the program, one contract each (written by gen.py). -/
set_option maxRecDepth 20000
set_option linter.unusedVariables false
set_option linter.unusedSimpArgs false
namespace Go.Proofs.YtieidkjfeboepaaGreatDoor
open Go Go.Rf

theorem c_spec_l28Good (m : Mach) (x : Lg) (hs : SmallM m) (hx : x.d.size + x.p.size ≤ 1048576) : Ctr Tryz.prog 14 [.agg [.lst 2 (m.rs.map encRo), .lst 1 (m.en.map encO), .lst 1 (m.ra.map encO), .nst none 4 (m.cp.map (encIf 81 61)), .v (.string x.d), .v (.string x.p), .v (.int .i64 x.n)]] (.one (.v (.bool (okCo m x)))) := by
  refine Ctr.of (n := 11) G Tryz.func14 rfl (by kernel_rfl) rfl rfl rfl (fun w0 => ?_)
  refine W_pinS 0 rfl (fun _ => rfl) (fun u0 => ?_)
  refine W_seq (fun K1 hK1 => ?_)
  refine W_region (WL_cons rfl (WX_box 1 rfl rfl rfl rfl rfl rfl rfl (WL_cons rfl (WX_q rfl rfl (q_assign rfl rfl) (?_)))))
  refine WL_nil (hK1 _ ?_)
  clear hK1 K1
  refine W_seq (fun K2 hK2 => ?_)
  refine W_region (WL_cons rfl (WX_q rfl rfl (q_field_ptr G rfl rfl rfl rfl) (WL_cons rfl (WX_q rfl rfl (q_load_box_struct G rfl rfl rfl rfl rfl rfl) (WL_cons rfl (?_))))))
  refine WX_q rfl rfl (q_call rfl (ArgsOK.of rfl) (c_spec_l21Good m hs) rfl) ?_
  refine WL_cons rfl (WX_q rfl rfl (q_move rfl rfl) (WL_part rfl rfl rfl (fun h1 => ?_) (fun h1 => ?_)))
  · try rw [h1]
    try simp only [rfb] at h1
    refine WL_run rfl rfl rfl (WX_q rfl rfl (q_field_ptr G rfl rfl rfl rfl) (WL_run rfl rfl rfl (WX_q rfl rfl (q_load_box_struct G rfl rfl rfl rfl rfl rfl) (WL_run rfl rfl rfl (?_)))))
    refine WX_q rfl rfl (q_call rfl (ArgsOK.of rfl) (c_spec_l27Log x hx) rfl) ?_
    refine WL_cons rfl (WX_q rfl rfl (q_pick_t rfl rfl rfl) (WL_cons rfl (WX_q rfl rfl (q_assign rfl rfl) (?_))))
    refine WL_nil (hK2 _ ?_)
    clear hK2 K2
    refine W_ret (fin_one rfl (rc_v ?_))
    all_goals (first | rfl | (rw [okCo_1 (by assumption)]; done) | (rw [okCo_2 (by assumption)]; done))
  · try rw [h1]
    try simp only [rfb] at h1
    refine WL_skip rfl rfl rfl rfl rfl rfl (WL_skip rfl rfl rfl rfl rfl rfl (WL_skip rfl rfl rfl rfl rfl rfl (WL_cons rfl (WX_q rfl rfl (q_pick_f rfl rfl rfl) (WL_cons rfl (WX_q rfl rfl (q_assign rfl rfl) (?_)))))))
    refine WL_nil (hK2 _ ?_)
    clear hK2 K2
    refine W_ret (fin_one rfl (rc_v ?_))
    all_goals (first | rfl | (rw [okCo_1 (by assumption)]; done) | (rw [okCo_2 (by assumption)]; done))

theorem c_spec_IsValidConsole (m : Mach) (x : Lg) (hs : SmallM m) (hx : x.d.size + x.p.size ≤ 1048576) : Ctr Tryz.prog 6 [.agg [.lst 2 (m.rs.map encRo), .lst 1 (m.en.map encO), .lst 1 (m.ra.map encO), .nst none 4 (m.cp.map (encIf 81 61)), .v (.string x.d), .v (.string x.p), .v (.int .i64 x.n)]] (.one (.v (.bool (okCo m x)))) := by
  refine Ctr.of (n := 5) G Tryz.func6 rfl (by kernel_rfl) rfl rfl rfl (fun w0 => ?_)
  refine W_pinS 0 rfl (fun _ => rfl) (fun u0 => ?_)
  refine W_seq (fun K1 hK1 => ?_)
  refine W_region (WL_cons rfl (WX_box 1 rfl rfl rfl rfl rfl rfl rfl (WL_cons rfl (WX_q rfl rfl (q_assign rfl rfl) (?_)))))
  refine WL_nil (hK1 _ ?_)
  clear hK1 K1
  refine W_seq (fun K2 hK2 => ?_)
  refine W_region (WL_cons rfl (WX_q rfl rfl (q_load_box_struct G rfl rfl rfl rfl rfl rfl) (WL_cons rfl (?_))))
  refine WX_q rfl rfl (q_call rfl (ArgsOK.of rfl) (c_spec_l28Good m x hs hx) rfl) ?_
  refine WL_cons rfl (WX_q rfl rfl (q_assign rfl rfl) (?_))
  refine WL_nil (hK2 _ ?_)
  clear hK2 K2
  refine W_ret (fin_one rfl (rc_v ?_))
  all_goals (first | rfl | (rw [okCo_1 (by assumption)]; done) | (rw [okCo_2 (by assumption)]; done))

theorem c_impl_IsValidConsole (m : Mach) (x : Lg) (hs : SmallM m) (hx : x.d.size + x.p.size ≤ 1048576) : Ctr Tryz.prog 8 [.agg [.lst 2 (m.rs.map encRo), .lst 1 (m.en.map encO), .lst 1 (m.ra.map encO), .nst none 4 (m.cp.map (encIf 81 61)), .v (.string x.d), .v (.string x.p), .v (.int .i64 x.n)]] (.one (.v (.bool (okCo m x)))) := by
  refine Ctr.of (n := 11) G Tryz.func8 rfl (by kernel_rfl) rfl rfl rfl (fun w0 => ?_)
  refine W_pinS 0 rfl (fun _ => rfl) (fun u0 => ?_)
  refine W_seq (fun K1 hK1 => ?_)
  refine W_region (WL_cons rfl (WX_box 1 rfl rfl rfl rfl rfl rfl rfl (WL_cons rfl (WX_q rfl rfl (q_assign rfl rfl) (?_)))))
  refine WL_nil (hK1 _ ?_)
  clear hK1 K1
  refine W_seq (fun K2 hK2 => ?_)
  refine W_region (WL_cons rfl (WX_q rfl rfl (q_field_ptr G rfl rfl rfl rfl) (WL_cons rfl (WX_q rfl rfl (q_load_box_struct G rfl rfl rfl rfl rfl rfl) (WL_cons rfl (?_))))))
  refine WX_q rfl rfl (q_call rfl (ArgsOK.of rfl) (c_impl_IsMachine m hs) rfl) ?_
  refine WL_cons rfl (WX_q rfl rfl (q_move rfl rfl) (WL_part rfl rfl rfl (fun h1 => ?_) (fun h1 => ?_)))
  · try rw [h1]
    try simp only [rfb] at h1
    refine WL_run rfl rfl rfl (WX_q rfl rfl (q_field_ptr G rfl rfl rfl rfl) (WL_run rfl rfl rfl (WX_q rfl rfl (q_load_box_struct G rfl rfl rfl rfl rfl rfl) (WL_run rfl rfl rfl (?_)))))
    refine WX_q rfl rfl (q_call rfl (ArgsOK.of rfl) (c_impl_IsValidLog x hx) rfl) ?_
    refine WL_cons rfl (WX_q rfl rfl (q_pick_t rfl rfl rfl) (WL_cons rfl (WX_q rfl rfl (q_assign rfl rfl) (?_))))
    refine WL_nil (hK2 _ ?_)
    clear hK2 K2
    refine W_ret (fin_one rfl (rc_v ?_))
    all_goals (first | rfl | (rw [okCo_1 (by assumption)]; done) | (rw [okCo_2 (by assumption)]; done))
  · try rw [h1]
    try simp only [rfb] at h1
    refine WL_skip rfl rfl rfl rfl rfl rfl (WL_skip rfl rfl rfl rfl rfl rfl (WL_skip rfl rfl rfl rfl rfl rfl (WL_cons rfl (WX_q rfl rfl (q_pick_f rfl rfl rfl) (WL_cons rfl (WX_q rfl rfl (q_assign rfl rfl) (?_)))))))
    refine WL_nil (hK2 _ ?_)
    clear hK2 K2
    refine W_ret (fin_one rfl (rc_v ?_))
    all_goals (first | rfl | (rw [okCo_1 (by assumption)]; done) | (rw [okCo_2 (by assumption)]; done))

theorem c_laws_szConsole (m : Mach) (x : Lg) (l : Int) (hb : BigM m) (h0 : x.d.size ≤ 9223372036854775807 ∧ x.p.size ≤ 9223372036854775807) (hl : 0 ≤ l ∧ l ≤ 1048576) : Ctr Tryz.prog 5 [.agg [.lst 2 (m.rs.map encRo), .lst 1 (m.en.map encO), .lst 1 (m.ra.map encO), .nst none 4 (m.cp.map (encIf 81 61)), .v (.string x.d), .v (.string x.p), .v (.int .i64 x.n)], .v (.int .i64 l)] (.one (.v (.int .i64 (szCo m x l)))) := by
  refine Ctr.of (n := 18) G Tryz.func5 rfl (by kernel_rfl) rfl rfl rfl (fun w0 => ?_)
  refine W_pinS 0 rfl (fun _ => rfl) (fun u0 => ?_)
  refine W_seq (fun K1 hK1 => ?_)
  refine W_region (WL_cons rfl (WX_box 1 rfl rfl rfl rfl rfl rfl rfl (WL_cons rfl (WX_q rfl rfl (q_assign rfl rfl) (?_)))))
  refine WL_nil (hK1 _ ?_)
  clear hK1 K1
  refine W_seq (fun K2 hK2 => ?_)
  refine W_region (WL_cons rfl (WX_q rfl rfl (q_field_ptr G rfl rfl rfl rfl) (WL_cons rfl (WX_q rfl rfl (q_load_box_struct G rfl rfl rfl rfl rfl rfl) (WL_cons rfl (WX_q rfl rfl (q_move rfl rfl) (WL_cons rfl (?_))))))))
  refine WX_q rfl rfl (q_call rfl (ArgsOK.of rfl) (c_laws_szMachine m l hb hl) rfl) ?_
  refine WL_cons rfl (WX_q rfl rfl (q_assign rfl rfl) (?_))
  refine WL_nil (hK2 _ ?_)
  clear hK2 K2
  refine W_seq (fun K3 hK3 => ?_)
  refine W_seq (fun K4 hK4 => ?_)
  refine W_region (WL_cons rfl (WX_q rfl rfl (q_move rfl rfl) (WL_cons rfl (WX_q rfl rfl (q_cmp rfl rfl rfl rfl) (?_)))))
  refine WL_nil (hK4 _ ?_)
  clear hK4 K4
  refine W_cond rfl (fun h1 => ?_) (fun h1 => ?_)
  · try rw [h1]
    try simp only [rfb] at h1
    refine W_seq (fun K5 hK5 => ?_)
    refine W_region (WL_cons rfl (WX_q rfl rfl (q_assign rfl rfl) (?_)))
    refine WL_nil (hK5 _ ?_)
    clear hK5 K5
    refine W_ret (fin_one rfl (rc_v ?_))
    all_goals clear hK3 K3
    all_goals (simp only [szCo]; first | (rw [if_pos (by assumption)]; done) | (rw [if_neg (by omega), if_pos (by omega)]; done) | (rw [if_neg (by omega), if_neg (by omega)]; done))
  · try rw [h1]
    try simp only [rfb] at h1
    refine W_skip (hK3 _ ?_)
    clear hK3 K3
    refine W_seq (fun K6 hK6 => ?_)
    refine W_region (WL_cons rfl (WX_q rfl rfl (q_field_ptr G rfl rfl rfl rfl) (WL_cons rfl (WX_q rfl rfl (q_load_box_struct G rfl rfl rfl rfl rfl rfl) (WL_cons rfl (WX_q rfl rfl (q_move rfl rfl) (WL_cons rfl (?_))))))))
    refine WX_q rfl rfl (q_call rfl (ArgsOK.of rfl) (c_laws_szLog x _ h0 (szMa_in hl (by omega))) rfl) ?_
    refine WL_cons rfl (WX_q rfl rfl (q_assign rfl rfl) (?_))
    refine WL_nil (hK6 _ ?_)
    clear hK6 K6
    refine W_seq (fun K7 hK7 => ?_)
    refine W_seq (fun K8 hK8 => ?_)
    refine W_region (WL_cons rfl (WX_q rfl rfl (q_move rfl rfl) (WL_cons rfl (WX_q rfl rfl (q_cmp rfl rfl rfl rfl) (?_)))))
    refine WL_nil (hK8 _ ?_)
    clear hK8 K8
    refine W_cond rfl (fun h2 => ?_) (fun h2 => ?_)
    · try rw [h2]
      try simp only [rfb] at h2
      refine W_seq (fun K9 hK9 => ?_)
      refine W_region (WL_cons rfl (WX_q rfl rfl (q_assign rfl rfl) (?_)))
      refine WL_nil (hK9 _ ?_)
      clear hK9 K9
      refine W_ret (fin_one rfl (rc_v ?_))
      all_goals clear hK7 K7
      all_goals (simp only [szCo]; first | (rw [if_pos (by assumption)]; done) | (rw [if_neg (by omega), if_pos (by omega)]; done) | (rw [if_neg (by omega), if_neg (by omega)]; done))
    · try rw [h2]
      try simp only [rfb] at h2
      refine W_skip (hK7 _ ?_)
      clear hK7 K7
      refine W_seq (fun K10 hK10 => ?_)
      refine W_region (WL_cons rfl (WX_q rfl rfl (q_move rfl rfl) (WL_cons rfl (WX_q rfl rfl (q_assign rfl rfl) (?_)))))
      refine WL_nil (hK10 _ ?_)
      clear hK10 K10
      refine W_ret (fin_one rfl (rc_v ?_))
      all_goals (simp only [szCo]; first | (rw [if_pos (by assumption)]; done) | (rw [if_neg (by omega), if_pos (by omega)]; done) | (rw [if_neg (by omega), if_neg (by omega)]; done))

theorem c_laws_toConsole (m : Mach) (x : Lg) (hs : SmallM m) (hx : x.d.size + x.p.size ≤ 1048576) : Ctr Tryz.prog 7 [.agg [.lst 2 (m.rs.map encRo), .lst 1 (m.en.map encO), .lst 1 (m.ra.map encO), .nst none 4 (m.cp.map (encIf 81 61)), .v (.string x.d), .v (.string x.p), .v (.int .i64 x.n)]] (.shp true [some 7] [.fr 95 2 (m.rs.map encRo), .fr 4 1 (m.en.map encO), .fr 4 1 (m.ra.map encO), .ne 59 4 (m.cp.map (encIf 81 61)), .v (.string x.d), .v (.string x.p), .v (.int .i64 x.n)]) := by
  refine Ctr.of (n := 13) G Tryz.func7 rfl (by kernel_rfl) rfl rfl rfl (fun w0 => ?_)
  refine W_pinS 0 rfl (fun _ => rfl) (fun u0 => ?_)
  refine W_seq (fun K1 hK1 => ?_)
  refine W_region (WL_cons rfl (WX_box 1 rfl rfl rfl rfl rfl rfl rfl (WL_cons rfl (WX_alloc_s G 2 rfl rfl rfl rfl rfl (?_)))))
  refine WL_nil (hK1 _ ?_)
  clear hK1 K1
  refine W_seq (fun K2 hK2 => ?_)
  refine W_region (WL_cons rfl (WX_alloc_s G 3 rfl rfl rfl rfl rfl (?_)))
  refine WL_nil (hK2 _ ?_)
  clear hK2 K2
  refine W_seq (fun K3 hK3 => ?_)
  refine W_region (WL_cons rfl (WX_q rfl rfl (q_field_ptr G rfl rfl rfl rfl) (WL_cons rfl (WX_q rfl rfl (q_load_box_struct G rfl rfl rfl rfl rfl rfl) (WL_cons rfl (?_))))))
  refine WX_call 7 rfl rfl rfl (ArgsOK.of rfl) (c_laws_toMachine m hs) rfl rfl ?_
  refine WL_cons rfl (WX_q rfl rfl (q_field_ptr G rfl rfl rfl rfl) (WL_cons rfl (WX_store G rfl rfl rfl rfl rfl rfl rfl rfl rfl rfl rfl (?_))))
  refine WL_nil (hK3 _ ?_)
  clear hK3 K3
  refine W_seq (fun K4 hK4 => ?_)
  refine W_region (WL_cons rfl (WX_q rfl rfl (q_field_ptr G rfl rfl rfl rfl) (WL_cons rfl (WX_q rfl rfl (q_load_box_struct G rfl rfl rfl rfl rfl rfl) (WL_cons rfl (?_))))))
  refine WX_q rfl rfl (q_call rfl (ArgsOK.of rfl) (c_laws_toLog x) rfl) ?_
  refine WL_cons rfl (WX_q rfl rfl (q_field_ptr G rfl rfl rfl rfl) (WL_cons rfl (WX_store G rfl rfl rfl rfl rfl rfl rfl rfl rfl rfl rfl (?_))))
  refine WL_nil (hK4 _ ?_)
  clear hK4 K4
  refine W_seq (fun K5 hK5 => ?_)
  refine W_region (WL_cons rfl (WX_q rfl rfl (q_load_box_struct G rfl rfl rfl rfl rfl rfl) (WL_cons rfl (WX_store G rfl rfl rfl rfl rfl rfl rfl rfl rfl rfl rfl (?_)))))
  refine WL_nil (hK5 _ ?_)
  clear hK5 K5
  refine W_ret (fin_shp rfl rfl rfl rfl (rcs_cons (rc_own rfl ?_) (rcs_cons (rc_own rfl ?_) (rcs_cons (rc_own rfl ?_) (rcs_cons (rc_ne rfl ?_) (rcs_cons (rc_v ?_) (rcs_cons (rc_v ?_) (rcs_cons (rc_v ?_) rcs_nil))))))))
  all_goals (rfl)

theorem c_laws_eqConsole (m : Mach) (x : Lg) (n : Mach) (y : Lg) (hb : BigM m) : Ctr Tryz.prog 9 [.agg [.lst 2 (m.rs.map encRo), .lst 1 (m.en.map encO), .lst 1 (m.ra.map encO), .nst none 4 (m.cp.map (encIf 81 61)), .v (.string x.d), .v (.string x.p), .v (.int .i64 x.n)], .agg [.lst 2 (n.rs.map encRo), .lst 1 (n.en.map encO), .lst 1 (n.ra.map encO), .nst none 4 (n.cp.map (encIf 81 61)), .v (.string y.d), .v (.string y.p), .v (.int .i64 y.n)]] (.one (.v (.bool (eqCo m x n y)))) := by
  refine Ctr.of (n := 17) G Tryz.func9 rfl (by kernel_rfl) rfl rfl rfl (fun w0 => ?_)
  refine W_pinS 0 rfl (fun _ => rfl) (fun u0 => ?_)
  refine W_pinS 1 rfl (fun _ => rfl) (fun u1 => ?_)
  refine W_seq (fun K1 hK1 => ?_)
  refine W_region (WL_cons rfl (WX_box 1 rfl rfl rfl rfl rfl rfl rfl (WL_cons rfl (WX_box 2 rfl rfl rfl rfl rfl rfl rfl (WL_cons rfl (WX_q rfl rfl (q_assign rfl rfl) (?_)))))))
  refine WL_nil (hK1 _ ?_)
  clear hK1 K1
  refine W_seq (fun K2 hK2 => ?_)
  refine W_seq (fun K3 hK3 => ?_)
  refine W_region (WL_cons rfl (WX_q rfl rfl (q_field_ptr G rfl rfl rfl rfl) (WL_cons rfl (WX_q rfl rfl (q_load_box_struct G rfl rfl rfl rfl rfl rfl) (WL_cons rfl (WX_q rfl rfl (q_field_ptr G rfl rfl rfl rfl) (WL_cons rfl (WX_q rfl rfl (q_load_box_struct G rfl rfl rfl rfl rfl rfl) (WL_cons rfl (?_))))))))))
  refine WX_q rfl rfl (q_call rfl (ArgsOK.of rfl) (c_laws_eqMachine m n hb) rfl) ?_
  refine WL_cons rfl (WX_q rfl rfl (q_not rfl rfl) (?_))
  refine WL_nil (hK3 _ ?_)
  clear hK3 K3
  refine W_cond rfl (fun h1 => ?_) (fun h1 => ?_)
  · try rw [h1]
    try simp only [rfb] at h1
    refine W_seq (fun K4 hK4 => ?_)
    refine W_region (WL_cons rfl (WX_q rfl rfl (q_assign rfl rfl) (?_)))
    refine WL_nil (hK4 _ ?_)
    clear hK4 K4
    refine W_ret (fin_one rfl (rc_v ?_))
    all_goals clear hK2 K2
    all_goals (first | rfl | (simp_all [eqCo]; done))
  · try rw [h1]
    try simp only [rfb] at h1
    refine W_skip (hK2 _ ?_)
    clear hK2 K2
    refine W_seq (fun K5 hK5 => ?_)
    refine W_seq (fun K6 hK6 => ?_)
    refine W_region (WL_cons rfl (WX_q rfl rfl (q_field_ptr G rfl rfl rfl rfl) (WL_cons rfl (WX_q rfl rfl (q_load_box_struct G rfl rfl rfl rfl rfl rfl) (WL_cons rfl (WX_q rfl rfl (q_field_ptr G rfl rfl rfl rfl) (WL_cons rfl (WX_q rfl rfl (q_load_box_struct G rfl rfl rfl rfl rfl rfl) (WL_cons rfl (?_))))))))))
    refine WX_q rfl rfl (q_call rfl (ArgsOK.of rfl) (c_laws_eqLog x y) rfl) ?_
    refine WL_cons rfl (WX_q rfl rfl (q_not rfl rfl) (?_))
    refine WL_nil (hK6 _ ?_)
    clear hK6 K6
    refine W_cond rfl (fun h2 => ?_) (fun h2 => ?_)
    · try rw [h2]
      try simp only [rfb] at h2
      refine W_seq (fun K7 hK7 => ?_)
      refine W_region (WL_cons rfl (WX_q rfl rfl (q_assign rfl rfl) (?_)))
      refine WL_nil (hK7 _ ?_)
      clear hK7 K7
      refine W_ret (fin_one rfl (rc_v ?_))
      all_goals clear hK5 K5
      all_goals (first | rfl | (simp_all [eqCo]; done))
    · try rw [h2]
      try simp only [rfb] at h2
      refine W_skip (hK5 _ ?_)
      clear hK5 K5
      refine W_seq (fun K8 hK8 => ?_)
      refine W_region (WL_cons rfl (WX_q rfl rfl (q_assign rfl rfl) (?_)))
      refine WL_nil (hK8 _ ?_)
      clear hK8 K8
      refine W_ret (fin_one rfl (rc_v ?_))
      all_goals (first | rfl | (simp_all [eqCo]; done))

end Go.Proofs.YtieidkjfeboepaaGreatDoor

/- Walks through functions of the program, one contract each (written by gen.py). -/
set_option maxRecDepth 20000
set_option linter.unusedVariables false
set_option linter.unusedSimpArgs false
namespace Go.Proofs.YtieidkjfeboepaaGreatDoor
open Go Go.Rf

set_option maxHeartbeats 2000000 in
theorem c_laws_FnExactIsValidConsole (m : Mach) (x : Lg) (hb : BigM m) (h0 : x.d.size ≤ 9223372036854775807 ∧ x.p.size ≤ 9223372036854775807) : Ctr Tryz.prog 3 [.agg [.lst 2 (m.rs.map encRo), .lst 1 (m.en.map encO), .lst 1 (m.ra.map encO), .nst none 4 (m.cp.map (encIf 81 61)), .v (.string x.d), .v (.string x.p), .v (.int .i64 x.n)]] (.one (.v (.bool true))) := by
  refine Ctr.of (n := 27) G Tryz.func3 rfl (by kernel_rfl) rfl rfl rfl (fun w0 => ?_)
  refine W_pinS 0 rfl (fun _ => rfl) (fun u0 => ?_)
  refine W_seq (fun K1 hK1 => ?_)
  refine W_region (WL_cons rfl (WX_box 1 rfl rfl rfl rfl rfl rfl rfl (WL_cons rfl (WX_q rfl rfl (q_assign rfl rfl) (?_)))))
  refine WL_nil (hK1 _ ?_)
  clear hK1 K1
  refine W_seq (fun K2 hK2 => ?_)
  refine W_region (WL_cons rfl (WX_q rfl rfl (q_assign rfl rfl) (?_)))
  refine WL_nil (hK2 _ ?_)
  clear hK2 K2
  refine W_seq (fun K3 hK3 => ?_)
  refine W_region (WL_cons rfl (WX_q rfl rfl (q_load_box_struct G rfl rfl rfl rfl rfl rfl) (WL_cons rfl (WX_q rfl rfl (q_move rfl rfl) (WL_cons rfl (?_))))))
  refine WX_q rfl rfl (q_call rfl (ArgsOK.of rfl) (c_laws_szConsole m x _ hb h0 (by omega)) rfl) ?_
  refine WL_cons rfl (WX_q rfl rfl (q_assign rfl rfl) (?_))
  refine WL_nil (hK3 _ ?_)
  clear hK3 K3
  refine W_seq (fun K4 hK4 => ?_)
  refine W_seq (fun K5 hK5 => ?_)
  refine W_region (WL_cons rfl (WX_q rfl rfl (q_move rfl rfl) (WL_cons rfl (WX_q rfl rfl (q_cmp rfl rfl rfl rfl) (?_)))))
  refine WL_nil (hK5 _ ?_)
  clear hK5 K5
  refine W_cond rfl (fun h1 => ?_) (fun h1 => ?_)
  · try rw [h1]
    try simp only [rfb] at h1
    refine W_seq (fun K6 hK6 => ?_)
    refine W_region (WL_cons rfl (WX_q rfl rfl (q_assign rfl rfl) (?_)))
    refine WL_nil (hK6 _ ?_)
    clear hK6 K6
    refine W_ret (fin_one rfl (rc_v ?_))
    all_goals clear hK4 K4
    all_goals (first | rfl | (exfalso; omega) | (simp_all; done))
  · try rw [h1]
    try simp only [rfb] at h1
    obtain ⟨hs, hx⟩ := szCo_small (m := m) (x := x) (l := 1048576) (by omega) (by omega)
    refine W_skip (hK4 _ ?_)
    clear hK4 K4
    refine W_seq (fun K7 hK7 => ?_)
    refine W_region (WL_cons rfl (WX_q rfl rfl (q_load_box_struct G rfl rfl rfl rfl rfl rfl) (WL_cons rfl (?_))))
    refine WX_call 5 rfl rfl rfl (ArgsOK.of rfl) (c_laws_toConsole m x hs hx) rfl rfl ?_
    refine WL_cons rfl (?_)
    refine WX_q rfl rfl (q_call rfl (ArgsOK.of rfl) (c_spec_IsValidConsole m x hs hx) rfl) ?_
    refine WL_cons rfl (WX_q rfl rfl (q_assign rfl rfl) (?_))
    refine WL_nil (hK7 _ ?_)
    clear hK7 K7
    refine W_seq (fun K8 hK8 => ?_)
    refine W_region (WL_cons rfl (WX_q rfl rfl (q_load_box_struct G rfl rfl rfl rfl rfl rfl) (WL_cons rfl (?_))))
    refine WX_call 9 rfl rfl rfl (ArgsOK.of rfl) (c_laws_toConsole m x hs hx) rfl rfl ?_
    refine WL_cons rfl (WX_alloc_s G 10 rfl rfl rfl rfl rfl (WL_cons rfl (WX_store G rfl rfl rfl rfl rfl rfl rfl rfl rfl rfl rfl (?_))))
    refine WL_nil (hK8 _ ?_)
    clear hK8 K8
    refine W_seq (fun K9 hK9 => ?_)
    refine W_region (WL_cons rfl (WX_q rfl rfl (q_load_box_struct G rfl rfl rfl rfl rfl rfl) (WL_cons rfl (?_))))
    refine WX_q rfl rfl (q_call rfl (ArgsOK.of rfl) (c_impl_IsValidConsole m x hs hx) rfl) ?_
    refine WL_cons rfl (WX_q rfl rfl (q_assign rfl rfl) (?_))
    refine WL_nil (hK9 _ ?_)
    clear hK9 K9
    refine W_seq (fun K10 hK10 => ?_)
    refine W_seq (fun K11 hK11 => ?_)
    refine W_region (WL_cons rfl (WX_q rfl rfl (q_move rfl rfl) (WL_cons rfl (WX_q rfl rfl (q_move rfl rfl) (WL_cons rfl (?_))))))
    refine WX_q rfl rfl (q_eqv (v' := .bool false) (q_bne (G 4 _ rfl).1 rfl rfl rfl) (by first | rfl | exact congrArg Value.bool (decide_eq_false (by omega)) | (simp; done) | (simp; omega))) ?_
    refine WL_nil (hK11 _ ?_)
    clear hK11 K11
    refine W_false rfl ?_
    refine W_skip (hK10 _ ?_)
    clear hK10 K10
    refine W_seq (fun K12 hK12 => ?_)
    refine W_seq (fun K13 hK13 => ?_)
    refine W_drawsH 5 [0, 1, 2, 3, 4, 5, 6, 7, 8, 9] mixed (by kernel_rfl) rfl rfl (fun r0 => ?_) (fun _ h => h)
    refine WA_take 0 rfl (by kernel_rfl) (by kernel_rfl) rfl rfl rfl rfl (q_load_box_struct G rfl rfl rfl rfl rfl rfl) (WA_take 1 rfl (by kernel_rfl) (by kernel_rfl) rfl rfl rfl rfl (q_load_box_struct G rfl rfl rfl rfl rfl rfl) (?_))
    refine WA_branch (rs := [2]) (by kernel_rfl) rfl (AllB.cons ?_ AllB.nil)
    refine WB_run [0, 1, 2, 3, 4, 5, 6, 7, 8, 9] rfl rfl (WX_call 14 rfl rfl rfl (ArgsOK.of rfl) (c_laws_toConsole m x hs hx) rfl rfl (WL_nil ⟨rfl, ?_⟩))
    refine WA_branch (rs := [3]) (by kernel_rfl) rfl (AllB.cons ?_ AllB.nil)
    refine WB_run [0, 1, 2, 3, 4, 5, 6, 7, 8, 9] rfl rfl (WX_q rfl rfl (q_call rfl (ArgsOK.of rfl) (Ctr.bool (c_laws_eqConsole m x m x hb) (eqCo_self)) rfl) (WL_nil ⟨rfl, ?_⟩))
    refine WA_take 4 rfl (by kernel_rfl) (by kernel_rfl) rfl rfl rfl rfl (q_not_t rfl rfl) (?_)
    refine WA_end (by kernel_rfl) (hK13 _ ?_)
    clear hK13 K13
    refine W_false rfl ?_
    refine W_skip (hK12 _ ?_)
    clear hK12 K12
    refine W_seq (fun K14 hK14 => ?_)
    refine W_region (WL_cons rfl (WX_q rfl rfl (q_assign rfl rfl) (?_)))
    refine WL_nil (hK14 _ ?_)
    clear hK14 K14
    refine W_ret (fin_one rfl (rc_v ?_))
    all_goals (first | rfl | (exfalso; omega) | (simp_all; done))

end Go.Proofs.YtieidkjfeboepaaGreatDoor

/- One start that fits what is laid; the environment, out of what is laid. -/
set_option linter.unusedVariables false
namespace Go.Proofs.YtieidkjfeboepaaGreatDoor
open Go Go.ChangeShapes Go.WideShapes Go.ChangeAt Go.RowKit Go.Rf
/-- the wrap of a row that lists variables, the world's shape kept -/
theorem returnsInHanded_both {H : Type} {enc : TypeId × Value → H} {a : Assume} {C : Checked} {os : Os} {f : FuncId} {fn : Func} {s : ChangeSpec} {conds : List PathCond} {apart fresh handsOn again : Bool} {X : World → Array Value → Prop}
    (hX : ∀ (w w' : World) (args : Array Value), w.heap = w'.heap → X w args → X w' args)
    (own : ownKnob C.prog.godebug = none) (started : os.Started) (noInit : C.prog.inits.idxOf? f = none) (hfn : C.prog.funcs[f]? = some fn)
    (witness : ∃ (w : World) (tape : Tape) (i : Input), w.os = os ∧ (w.forCall tape i).Shaped C.prog ∧ i.vars = [] ∧ Input.okWide C.prog (w.forCall tape i) .any w.heap.size f i ∧
      ((s.pre enc C.prog fn conds apart (w.forCall tape i).memory i.args ∧ X (w.forCall tape i).memory i.args) ∧ sizedMet enc C.prog fn (OpenSpec.ofChange s) apart (w.forCall tape i).memory i.args) ∧ a.holds C.prog (lone (Frame.enter C.prog f i.args .normal) [] (w.forCall tape i)))
    (contract : ∀ (W : World) (base : Nat) (args : Array Value) (ds gs : List (DataW H)) (before : List MemPlace),
      (∀ (j : Nat) t v, fn.params[j]? = some t → args[j]? = some v → Value.okWide C.prog W .any base t v) →
      DataW.Whole enc C.prog fn.params.toList s.vars apart W args.toList ds gs before →
      W.ShapedOpen C.prog → X W args →
      Calls C.prog f args W fun e W' => ∃ v, e = .returned v ∧ s.post enc C.prog fn apart fresh handsOn again W args v W') :
    ReturnsInHanded a C os f .any (fun w args => (s.pre enc C.prog fn conds apart w args ∧ X w args) ∧ sizedMet enc C.prog fn (OpenSpec.ofChange s) apart w args) (s.post enc C.prog fn apart fresh handsOn again) := by
  refine returnsInHanded_of_calls own started noInit witness ?_
  intro w tape i _ hsh _ hok hpre hholds
  obtain ⟨_, _, _, fn', hfn', _, _, _, _, hval⟩ := hok
  have e : fn' = fn := Option.some.inj (hfn'.symm.trans hfn)
  subst e
  obtain ⟨⟨⟨ds, gs, before, hw, hc⟩, hx⟩, hz⟩ := hpre
  have hw' := DataW.Whole.of_heap (w' := w.forCall tape i) (by rfl) hw
  refine (contract (w.forCall tape i) w.heap.size i.args ds gs before hval hw' hsh (hX _ _ _ (by rfl) hx)).mono fun e W' ⟨v, he, hp⟩ => ?_
  subst he
  exact ChangeSpec.post_blind hp
theorem own : ownKnob Tryz.prog.godebug = Option.none := by kernel_rfl
theorem laidOut : laidOutB Tryz.prog = true := by kernel_rfl
abbrev laidList : List (String × DataW Unit) := [("math/bits.deBruijn32tab", Rows.laid_math_bits_deBruijn32tab), ("math/bits.deBruijn64tab", Rows.laid_math_bits_deBruijn64tab), ("internal/strconv.uint64pow10", Rows.laid_internal_strconv_uint64pow10)]
noncomputable def laidWorld (os : Os) : World :=
  let w0 := World.holding Tryz.prog os ⟨#[], #[], []⟩
  let put (h : Array Obj) (g : Nat) (cs : Array Value) : Array Obj := h.modify g fun
    | .cells _ t frozen => .cells cs t frozen
    | o => o
  let h1 := put w0.heap 2 #[.int .u8 0, .int .u8 1, .int .u8 28, .int .u8 2, .int .u8 29, .int .u8 14, .int .u8 24, .int .u8 3, .int .u8 30, .int .u8 22, .int .u8 20, .int .u8 15, .int .u8 25, .int .u8 17, .int .u8 4, .int .u8 8, .int .u8 31, .int .u8 27, .int .u8 13, .int .u8 23, .int .u8 21, .int .u8 19, .int .u8 16, .int .u8 7, .int .u8 26, .int .u8 12, .int .u8 18, .int .u8 6, .int .u8 11, .int .u8 5, .int .u8 10, .int .u8 9]
  let h2 := put h1 3 #[.int .u8 0, .int .u8 1, .int .u8 56, .int .u8 2, .int .u8 57, .int .u8 49, .int .u8 28, .int .u8 3, .int .u8 61, .int .u8 58, .int .u8 42, .int .u8 50, .int .u8 38, .int .u8 29, .int .u8 17, .int .u8 4, .int .u8 62, .int .u8 47, .int .u8 59, .int .u8 36, .int .u8 45, .int .u8 43, .int .u8 51, .int .u8 22, .int .u8 53, .int .u8 39, .int .u8 33, .int .u8 30, .int .u8 24, .int .u8 18, .int .u8 12, .int .u8 5, .int .u8 63, .int .u8 55, .int .u8 48, .int .u8 27, .int .u8 60, .int .u8 41, .int .u8 37, .int .u8 16, .int .u8 46, .int .u8 35, .int .u8 44, .int .u8 21, .int .u8 52, .int .u8 32, .int .u8 23, .int .u8 11, .int .u8 54, .int .u8 26, .int .u8 40, .int .u8 15, .int .u8 34, .int .u8 20, .int .u8 31, .int .u8 10, .int .u8 25, .int .u8 14, .int .u8 19, .int .u8 9, .int .u8 13, .int .u8 8, .int .u8 7, .int .u8 6]
  let h3 := put h2 0 #[.int .u64 1, .int .u64 10, .int .u64 100, .int .u64 1000, .int .u64 10000, .int .u64 100000, .int .u64 1000000, .int .u64 10000000, .int .u64 100000000, .int .u64 1000000000, .int .u64 10000000000, .int .u64 100000000000, .int .u64 1000000000000, .int .u64 10000000000000, .int .u64 100000000000000, .int .u64 1000000000000000, .int .u64 10000000000000000, .int .u64 100000000000000000, .int .u64 1000000000000000000, .int .u64 10000000000000000000]
  { w0 with heap := h3 }
theorem laid_met (os : Os) (args : Array Value) : laidMet Tryz.prog laidList ((laidWorld os).forCall (fun _ _ => 0) ⟨#[], args, []⟩).memory :=
  (LaidIn.of_run [2, 3, 0] 8 (by kernel_rfl) (by kernel_rfl) (by kernel_rfl) (by kernel_rfl)).met
theorem gP : Tryz.prog.globalNamed "internal/strconv.uint64pow10" = some 0 := by kernel_rfl
theorem gPType : (Tryz.prog.globals[0]?).map (·.type) = some 186 := by kernel_rfl
theorem cellsE : Tryz.prog.cellsOf 151 = 1 := by kernel_rfl
theorem cellsT : Tryz.prog.cellsOf 186 = 20 := by kernel_rfl
theorem tabE : (Rows.laid_internal_strconv_uint64pow10 : DataW Unit) = Lib.tabData .u64 Lib.pow10Tab := by kernel_rfl
theorem tab_of {W : World} (h : laidMet Tryz.prog laidList W) : Lib.TabIs Tryz.prog W "internal/strconv.uint64pow10" .u64 Lib.pow10Tab := by
  have h2 := h.tail.tail
  rw [tabE] at h2
  exact Lib.tabIs_of_head gP gPType Tryz.underlying186 Tryz.underlying151 cellsE cellsT h2
theorem env_of {W : World} (h : laidMet Tryz.prog laidList W) (hsh : W.ShapedOpen Tryz.prog) : Env.E Tryz.prog W := ⟨tab_of h, maxLen_of W hsh⟩
end Go.Proofs.YtieidkjfeboepaaGreatDoor
