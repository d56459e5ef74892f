/- Texts merged into one: Tab, W1, W2, M8, W3. -/
import Derived.Test.YtcnodpipinlpcaaGreatLibD
import Derived.Test.YtcnodpipinlpcaaGreatProg
import Derived.KernelRfl
/- The types of this program, as a table that is held against it by evaluation. -/
namespace Go.Proofs.YtcnodpipinlpcaaGreat
open Go Go.Rf
def tb : List (Nat × TyI) := [
  (2, .flat (.int .i64) (.int .i64 0)),
  (3, .flat (.int .i64) (.int .i64 0)),
  (4, .flat .bool (.bool false)),
  (5, .flat (.int .u8) (.int .u8 0)),
  (6, .flat (.int .u8) (.int .u8 0)),
  (7, .struct [(0, 2), (1, 3), (2, 4), (3, 6)] [.int .i64 0, .int .i64 0, .bool false, .int .u8 0]),
  (8, .struct [(0, 2), (1, 3), (2, 4), (3, 6)] [.int .i64 0, .int .i64 0, .bool false, .int .u8 0]),
  (9, .flat .str (.string ⟨#[]⟩)),
  (10, .flat .str (.string ⟨#[]⟩)),
  (11, .flat .str (.string ⟨#[]⟩)),
  (12, .flat (.int .u64) (.int .u64 0)),
  (13, .struct [(0, 9), (1, 12)] [.string ⟨#[]⟩, .int .u64 0]),
  (14, .struct [(0, 9), (1, 12)] [.string ⟨#[]⟩, .int .u64 0]),
  (15, .flat .other (.pointer none)),
  (16, .flat .other (.pointer none)),
  (17, .flat .other (.pointer none)),
  (18, .struct [(0, 17)] [.pointer none]),
  (19, .struct [(0, 17)] [.pointer none]),
  (21, .flat (.int .i32) (.int .i32 0)),
  (22, .slice 5 1 1 [.int .u8 0]),
  (24, .slice 118 2 16 [.int .i64 0, .int .i64 0]),
  (25, .slice 4 1 1 [.bool false]),
  (26, .slice 3 1 8 [.int .i64 0]),
  (27, .slice 26 1 24 [.slice none 0 0]),
  (28, .struct [(0, 25), (1, 25), (2, 25), (3, 26), (4, 27)] [.slice none 0 0, .slice none 0 0, .slice none 0 0, .slice none 0 0, .slice none 0 0]),
  (29, .struct [(0, 25), (1, 25), (2, 25), (3, 26), (4, 27)] [.slice none 0 0, .slice none 0 0, .slice none 0 0, .slice none 0 0, .slice none 0 0]),
  (30, .slice 40 4 32 [.int .i64 0, .int .i64 0, .int .i64 0, .int .i64 0]),
  (39, .struct [(0, 3), (1, 3), (2, 3), (3, 3)] [.int .i64 0, .int .i64 0, .int .i64 0, .int .i64 0]),
  (40, .struct [(0, 3), (1, 3), (2, 3), (3, 3)] [.int .i64 0, .int .i64 0, .int .i64 0, .int .i64 0]),
  (47, .slice 120 2 16 [.int .i64 0, .int .i64 0]),
  (48, .struct [(0, 25), (1, 25), (2, 25), (3, 26), (4, 27)] [.slice none 0 0, .slice none 0 0, .slice none 0 0, .slice none 0 0, .slice none 0 0]),
  (51, .slice 113 4 80 [.int .i64 0, .slice none 0 0, .slice none 0 0, .slice none 0 0]),
  (52, .struct [(0, 24), (1, 25), (2, 25), (3, 51)] [.slice none 0 0, .slice none 0 0, .slice none 0 0, .slice none 0 0]),
  (53, .struct [(0, 24), (1, 25), (2, 25), (3, 51)] [.slice none 0 0, .slice none 0 0, .slice none 0 0, .slice none 0 0]),
  (64, .slice 170 4 80 [.int .i64 0, .slice none 0 0, .slice none 0 0, .slice none 0 0]),
  (65, .struct [(0, 47), (1, 25), (2, 25), (3, 64)] [.slice none 0 0, .slice none 0 0, .slice none 0 0, .slice none 0 0]),
  (66, .struct [(0, 47), (1, 25), (2, 25), (3, 64)] [.slice none 0 0, .slice none 0 0, .slice none 0 0, .slice none 0 0]),
  (72, .slice 136 4 32 [.int .i64 0, .int .i64 0, .int .i64 0, .int .i64 0]),
  (87, .flat .other (.pointer none)),
  (88, .flat (.int .u64) (.int .u64 0)),
  (89, .struct [(0, 22), (1, 3), (2, 88)] [.slice none 0 0, .int .i64 0, .int .u64 0]),
  (90, .struct [(0, 22), (1, 3), (2, 88)] [.slice none 0 0, .int .i64 0, .int .u64 0]),
  (108, .slice 154 3 24 [.int .i64 0, .int .i64 0, .int .i64 0]),
  (109, .slice 183 2 16 [.int .i64 0, .int .i64 0]),
  (110, .struct [(0, 108), (1, 109)] [.slice none 0 0, .slice none 0 0]),
  (111, .struct [(0, 108), (1, 109)] [.slice none 0 0, .slice none 0 0]),
  (112, .struct [(0, 3), (1, 26), (2, 111)] [.int .i64 0, .slice none 0 0, .slice none 0 0, .slice none 0 0]),
  (113, .struct [(0, 3), (1, 26), (2, 111)] [.int .i64 0, .slice none 0 0, .slice none 0 0, .slice none 0 0]),
  (117, .struct [(0, 3), (1, 3)] [.int .i64 0, .int .i64 0]),
  (118, .struct [(0, 3), (1, 3)] [.int .i64 0, .int .i64 0]),
  (120, .struct [(0, 3), (1, 3)] [.int .i64 0, .int .i64 0]),
  (136, .struct [(0, 3), (1, 3), (2, 3), (3, 3)] [.int .i64 0, .int .i64 0, .int .i64 0, .int .i64 0]),
  (153, .struct [(0, 3), (1, 3), (2, 3)] [.int .i64 0, .int .i64 0, .int .i64 0]),
  (154, .struct [(0, 3), (1, 3), (2, 3)] [.int .i64 0, .int .i64 0, .int .i64 0]),
  (165, .slice 246 3 24 [.int .i64 0, .int .i64 0, .int .i64 0]),
  (166, .slice 248 2 16 [.int .i64 0, .int .i64 0]),
  (167, .struct [(0, 165), (1, 166)] [.slice none 0 0, .slice none 0 0]),
  (168, .struct [(0, 165), (1, 166)] [.slice none 0 0, .slice none 0 0]),
  (169, .struct [(0, 3), (1, 26), (2, 168)] [.int .i64 0, .slice none 0 0, .slice none 0 0, .slice none 0 0]),
  (170, .struct [(0, 3), (1, 26), (2, 168)] [.int .i64 0, .slice none 0 0, .slice none 0 0, .slice none 0 0]),
  (182, .struct [(0, 3), (1, 3)] [.int .i64 0, .int .i64 0]),
  (183, .struct [(0, 3), (1, 3)] [.int .i64 0, .int .i64 0]),
  (188, .flat (.int .u64) (.int .u64 0)),
  (204, .flat .other (.pointer none)),
  (205, .flat .other (.pointer none)),
  (231, .flat (.int .i64) (.int .i64 0)),
  (239, .flat (.int .u32) (.int .u32 0)),
  (246, .struct [(0, 3), (1, 3), (2, 3)] [.int .i64 0, .int .i64 0, .int .i64 0]),
  (248, .struct [(0, 3), (1, 3)] [.int .i64 0, .int .i64 0]),
  (254, .flat (.int .u64) (.int .u64 0)),
  (258, .flat .other (.pointer none)),
  (262, .flat .other (.pointer none)),
  (268, .struct [(0, 17), (1, 17), (2, 17), (3, 9)] [.pointer none, .pointer none, .pointer none, .string ⟨#[]⟩]),
  (269, .struct [(0, 17), (1, 17), (2, 17), (3, 9)] [.pointer none, .pointer none, .pointer none, .string ⟨#[]⟩]),
  (273, .flat (.int .u8) (.int .u8 0)),
  (274, .flat (.int .u8) (.int .u8 0)),
  (276, .flat .other (.pointer none)),
  (277, .flat (.int .i32) (.int .i32 0)),
  (278, .flat (.int .i32) (.int .i32 0))]
theorem G : Go.Rf.Good Tryz.prog tb := Go.Rf.Good.of (by kernel_rfl)
instance : Env Tryz.prog := ⟨fun _ => True, fun _ _ => trivial⟩
theorem mixed : Tryz.prog.follows .mixedOrders = true := by kernel_rfl
end Go.Proofs.YtcnodpipinlpcaaGreat

/- Walks through functions of the program, one contract each (written by gen.py). -/
set_option maxRecDepth 20000
set_option linter.unusedVariables false
set_option linter.unusedSimpArgs false
namespace Go.Proofs.YtcnodpipinlpcaaGreat
open Go Go.Rf

theorem c_impl_inside (n l h : Int) : Ctr Tryz.prog 65 [.v (.int .i64 n), .v (.int .i64 l), .v (.int .i64 h)] (.one (.v (.bool (inside n l h)))) := by
  refine Ctr.of (n := 15) G Tryz.func65 rfl (by kernel_rfl) rfl rfl rfl (fun w0 => ?_)
  refine W_seq (fun K1 hK1 => ?_)
  refine W_region (WL_cons rfl (WX_q rfl rfl (q_assign rfl rfl) (?_)))
  refine WL_nil (hK1 _ ?_)
  clear hK1 K1
  refine W_seq (fun K2 hK2 => ?_)
  refine W_region (WL_cons rfl (WX_q rfl rfl (q_move rfl rfl) (WL_cons rfl (WX_q rfl rfl (q_move rfl rfl) (WL_cons rfl (WX_q rfl rfl (q_cmp rfl rfl rfl rfl) (WL_cons rfl (WX_q rfl rfl (q_move rfl rfl) (WL_part rfl rfl rfl (fun h1 => ?_) (fun h1 => ?_))))))))))
  · try rw [h1]
    try simp only [rfb] at h1
    refine WL_run rfl rfl rfl (WX_q rfl rfl (q_move rfl rfl) (WL_run rfl rfl rfl (WX_q rfl rfl (q_move rfl rfl) (WL_run rfl rfl rfl (WX_q rfl rfl (q_cmp rfl rfl rfl rfl) (WL_cons rfl (WX_q rfl rfl (q_pick_t rfl rfl rfl) (WL_cons rfl (WX_q rfl rfl (q_assign rfl rfl) (?_))))))))))
    refine WL_nil (hK2 _ ?_)
    clear hK2 K2
    refine W_ret (fin_one rfl (rc_v ?_))
    all_goals (first | rfl | (simp_all [inside]; done) | (simp_all [inside]; omega))
  · try rw [h1]
    try simp only [rfb] at h1
    refine WL_skip rfl rfl rfl rfl rfl rfl (WL_skip rfl rfl rfl rfl rfl rfl (WL_skip rfl rfl rfl rfl rfl rfl (WL_cons rfl (WX_q rfl rfl (q_pick_f rfl rfl rfl) (WL_cons rfl (WX_q rfl rfl (q_assign rfl rfl) (?_)))))))
    refine WL_nil (hK2 _ ?_)
    clear hK2 K2
    refine W_ret (fin_one rfl (rc_v ?_))
    all_goals (first | rfl | (simp_all [inside]; done) | (simp_all [inside]; omega))

theorem c_spec_l1In (n l h : Int) : Ctr Tryz.prog 67 [.v (.int .i64 n), .v (.int .i64 l), .v (.int .i64 h)] (.one (.v (.bool (inside n l h)))) := by
  refine Ctr.of (n := 15) G Tryz.func67 rfl (by kernel_rfl) rfl rfl rfl (fun w0 => ?_)
  refine W_seq (fun K1 hK1 => ?_)
  refine W_region (WL_cons rfl (WX_q rfl rfl (q_assign rfl rfl) (?_)))
  refine WL_nil (hK1 _ ?_)
  clear hK1 K1
  refine W_seq (fun K2 hK2 => ?_)
  refine W_region (WL_cons rfl (WX_q rfl rfl (q_move rfl rfl) (WL_cons rfl (WX_q rfl rfl (q_move rfl rfl) (WL_cons rfl (WX_q rfl rfl (q_cmp rfl rfl rfl rfl) (WL_cons rfl (WX_q rfl rfl (q_move rfl rfl) (WL_part rfl rfl rfl (fun h1 => ?_) (fun h1 => ?_))))))))))
  · try rw [h1]
    try simp only [rfb] at h1
    refine WL_run rfl rfl rfl (WX_q rfl rfl (q_move rfl rfl) (WL_run rfl rfl rfl (WX_q rfl rfl (q_move rfl rfl) (WL_run rfl rfl rfl (WX_q rfl rfl (q_cmp rfl rfl rfl rfl) (WL_cons rfl (WX_q rfl rfl (q_pick_t rfl rfl rfl) (WL_cons rfl (WX_q rfl rfl (q_assign rfl rfl) (?_))))))))))
    refine WL_nil (hK2 _ ?_)
    clear hK2 K2
    refine W_ret (fin_one rfl (rc_v ?_))
    all_goals (first | rfl | (simp_all [inside]; done) | (simp_all [inside]; omega))
  · try rw [h1]
    try simp only [rfb] at h1
    refine WL_skip rfl rfl rfl rfl rfl rfl (WL_skip rfl rfl rfl rfl rfl rfl (WL_skip rfl rfl rfl rfl rfl rfl (WL_cons rfl (WX_q rfl rfl (q_pick_f rfl rfl rfl) (WL_cons rfl (WX_q rfl rfl (q_assign rfl rfl) (?_)))))))
    refine WL_nil (hK2 _ ?_)
    clear hK2 K2
    refine W_ret (fin_one rfl (rc_v ?_))
    all_goals (first | rfl | (simp_all [inside]; done) | (simp_all [inside]; omega))

theorem c_impl_isMask (n : Int) : Ctr Tryz.prog 114 [.v (.int .i64 n)] (.one (.v (.bool (inside n 0 16)))) := by
  refine Ctr.of (n := 5) G Tryz.func114 rfl (by kernel_rfl) rfl rfl rfl (fun w0 => ?_)
  refine W_seq (fun K1 hK1 => ?_)
  refine W_region (WL_cons rfl (WX_q rfl rfl (q_assign rfl rfl) (?_)))
  refine WL_nil (hK1 _ ?_)
  clear hK1 K1
  refine W_seq (fun K2 hK2 => ?_)
  refine W_region (WL_cons rfl (WX_q rfl rfl (q_move rfl rfl) (WL_cons rfl (?_))))
  refine WX_q rfl rfl (q_call rfl (ArgsOK.of rfl) (c_impl_inside _ _ _) rfl) ?_
  refine WL_cons rfl (WX_q rfl rfl (q_assign rfl rfl) (?_))
  refine WL_nil (hK2 _ ?_)
  clear hK2 K2
  refine W_ret (fin_one rfl (rc_v ?_))
  all_goals ((first | rfl | (simp_all; done) | (simp_all; omega)))

theorem c_impl_isIrq (n : Int) : Ctr Tryz.prog 115 [.v (.int .i64 n)] (.one (.v (.bool (inside n 0 7)))) := by
  refine Ctr.of (n := 5) G Tryz.func115 rfl (by kernel_rfl) rfl rfl rfl (fun w0 => ?_)
  refine W_seq (fun K1 hK1 => ?_)
  refine W_region (WL_cons rfl (WX_q rfl rfl (q_assign rfl rfl) (?_)))
  refine WL_nil (hK1 _ ?_)
  clear hK1 K1
  refine W_seq (fun K2 hK2 => ?_)
  refine W_region (WL_cons rfl (WX_q rfl rfl (q_move rfl rfl) (WL_cons rfl (?_))))
  refine WX_q rfl rfl (q_call rfl (ArgsOK.of rfl) (c_impl_inside _ _ _) rfl) ?_
  refine WL_cons rfl (WX_q rfl rfl (q_assign rfl rfl) (?_))
  refine WL_nil (hK2 _ ?_)
  clear hK2 K2
  refine W_ret (fin_one rfl (rc_v ?_))
  all_goals ((first | rfl | (simp_all; done) | (simp_all; omega)))

theorem c_spec_l6Irq (n : Int) : Ctr Tryz.prog 179 [.v (.int .i64 n)] (.one (.v (.bool (inside n 0 7)))) := by
  refine Ctr.of (n := 5) G Tryz.func179 rfl (by kernel_rfl) rfl rfl rfl (fun w0 => ?_)
  refine W_seq (fun K1 hK1 => ?_)
  refine W_region (WL_cons rfl (WX_q rfl rfl (q_assign rfl rfl) (?_)))
  refine WL_nil (hK1 _ ?_)
  clear hK1 K1
  refine W_seq (fun K2 hK2 => ?_)
  refine W_region (WL_cons rfl (WX_q rfl rfl (q_move rfl rfl) (WL_cons rfl (?_))))
  refine WX_q rfl rfl (q_call rfl (ArgsOK.of rfl) (c_spec_l1In _ _ _) rfl) ?_
  refine WL_cons rfl (WX_q rfl rfl (q_assign rfl rfl) (?_))
  refine WL_nil (hK2 _ ?_)
  clear hK2 K2
  refine W_ret (fin_one rfl (rc_v ?_))
  all_goals ((first | rfl | (simp_all; done) | (simp_all; omega)))

theorem c_impl_isPriority (n : Int) : Ctr Tryz.prog 166 [.v (.int .i64 n)] (.one (.v (.bool (inside n 0 15)))) := by
  refine Ctr.of (n := 5) G Tryz.func166 rfl (by kernel_rfl) rfl rfl rfl (fun w0 => ?_)
  refine W_seq (fun K1 hK1 => ?_)
  refine W_region (WL_cons rfl (WX_q rfl rfl (q_assign rfl rfl) (?_)))
  refine WL_nil (hK1 _ ?_)
  clear hK1 K1
  refine W_seq (fun K2 hK2 => ?_)
  refine W_region (WL_cons rfl (WX_q rfl rfl (q_move rfl rfl) (WL_cons rfl (?_))))
  refine WX_q rfl rfl (q_call rfl (ArgsOK.of rfl) (c_impl_inside _ _ _) rfl) ?_
  refine WL_cons rfl (WX_q rfl rfl (q_assign rfl rfl) (?_))
  refine WL_nil (hK2 _ ?_)
  clear hK2 K2
  refine W_ret (fin_one rfl (rc_v ?_))
  all_goals ((first | rfl | (simp_all; done) | (simp_all; omega)))

theorem c_spec_l6Prio (n : Int) : Ctr Tryz.prog 178 [.v (.int .i64 n)] (.one (.v (.bool (inside n 0 15)))) := by
  refine Ctr.of (n := 5) G Tryz.func178 rfl (by kernel_rfl) rfl rfl rfl (fun w0 => ?_)
  refine W_seq (fun K1 hK1 => ?_)
  refine W_region (WL_cons rfl (WX_q rfl rfl (q_assign rfl rfl) (?_)))
  refine WL_nil (hK1 _ ?_)
  clear hK1 K1
  refine W_seq (fun K2 hK2 => ?_)
  refine W_region (WL_cons rfl (WX_q rfl rfl (q_move rfl rfl) (WL_cons rfl (?_))))
  refine WX_q rfl rfl (q_call rfl (ArgsOK.of rfl) (c_spec_l1In _ _ _) rfl) ?_
  refine WL_cons rfl (WX_q rfl rfl (q_assign rfl rfl) (?_))
  refine WL_nil (hK2 _ ?_)
  clear hK2 K2
  refine W_ret (fin_one rfl (rc_v ?_))
  all_goals ((first | rfl | (simp_all; done) | (simp_all; omega)))

theorem c_laws_szRouteS (xs : List Route) (l : Int) (h0 : xs.length ≤ 9223372036854775807) (hl : 0 ≤ l ∧ l ≤ 1048576) : Ctr Tryz.prog 20 [.lst 2 (xs.map encRo), .v (.int .i64 l)] (.one (.v (.int .i64 (szL xs.length l)))) := by
  refine Ctr.of (n := 12) G Tryz.func20 rfl (by kernel_rfl) rfl rfl rfl (fun w0 => ?_)
  refine W_seq (fun K1 hK1 => ?_)
  refine W_region (WL_cons rfl (WX_q rfl rfl (q_assign rfl rfl) (?_)))
  refine WL_nil (hK1 _ ?_)
  clear hK1 K1
  refine W_seq (fun K2 hK2 => ?_)
  refine W_region (WL_cons rfl (WX_q rfl rfl (q_move rfl rfl) (WL_cons rfl (WX_q rfl rfl (q_move rfl rfl) (WL_cons rfl (?_))))))
  first | refine WX_q rfl rfl (q_len' G rfl rfl rfl rfl (List.length_map _)) ?_ | refine WX_q rfl rfl (q_len G rfl rfl rfl rfl) ?_
  refine WL_cons rfl (?_)
  first | refine WX_q rfl rfl (q_arith rfl rfl rfl rfl (by omega) (by omega)) ?_ | refine WX_q rfl rfl (q_wrap rfl rfl rfl rfl) ?_
  refine WL_cons rfl (WX_q rfl rfl (q_assign rfl rfl) (?_))
  refine WL_nil (hK2 _ ?_)
  clear hK2 K2
  refine W_seq (fun K3 hK3 => ?_)
  refine W_seq (fun K4 hK4 => ?_)
  refine W_region (WL_cons rfl (WX_q rfl rfl (q_move rfl rfl) (WL_cons rfl (WX_q rfl rfl (q_cmp rfl rfl rfl rfl) (?_)))))
  refine WL_nil (hK4 _ ?_)
  clear hK4 K4
  refine W_cond rfl (fun h1 => ?_) (fun h1 => ?_)
  · try rw [h1]
    try simp only [rfb] at h1
    refine W_seq (fun K5 hK5 => ?_)
    refine W_region (WL_cons rfl (WX_q rfl rfl (q_assign rfl rfl) (?_)))
    refine WL_nil (hK5 _ ?_)
    clear hK5 K5
    refine W_ret (fin_one rfl (rc_v ?_))
    all_goals clear hK3 K3
    all_goals (simp only [szL]; first | (rw [if_pos (by omega)]; done) | (rw [if_neg (by omega)]; done))
  · try rw [h1]
    try simp only [rfb] at h1
    refine W_skip (hK3 _ ?_)
    clear hK3 K3
    refine W_seq (fun K6 hK6 => ?_)
    refine W_region (WL_cons rfl (WX_q rfl rfl (q_move rfl rfl) (WL_cons rfl (WX_q rfl rfl (q_assign rfl rfl) (?_)))))
    refine WL_nil (hK6 _ ?_)
    clear hK6 K6
    refine W_ret (fin_one rfl (rc_v ?_))
    all_goals (simp only [szL]; first | (rw [if_pos (by omega)]; done) | (rw [if_neg (by omega)]; done))

theorem c_laws_szBoolS (xs : List Bool) (l : Int) (h0 : xs.length ≤ 9223372036854775807) (hl : 0 ≤ l ∧ l ≤ 1048576) : Ctr Tryz.prog 69 [.lst 1 (xs.map encO), .v (.int .i64 l)] (.one (.v (.int .i64 (szL xs.length l)))) := by
  refine Ctr.of (n := 12) G Tryz.func69 rfl (by kernel_rfl) rfl rfl rfl (fun w0 => ?_)
  refine W_seq (fun K1 hK1 => ?_)
  refine W_region (WL_cons rfl (WX_q rfl rfl (q_assign rfl rfl) (?_)))
  refine WL_nil (hK1 _ ?_)
  clear hK1 K1
  refine W_seq (fun K2 hK2 => ?_)
  refine W_region (WL_cons rfl (WX_q rfl rfl (q_move rfl rfl) (WL_cons rfl (WX_q rfl rfl (q_move rfl rfl) (WL_cons rfl (?_))))))
  first | refine WX_q rfl rfl (q_len' G rfl rfl rfl rfl (List.length_map _)) ?_ | refine WX_q rfl rfl (q_len G rfl rfl rfl rfl) ?_
  refine WL_cons rfl (?_)
  first | refine WX_q rfl rfl (q_arith rfl rfl rfl rfl (by omega) (by omega)) ?_ | refine WX_q rfl rfl (q_wrap rfl rfl rfl rfl) ?_
  refine WL_cons rfl (WX_q rfl rfl (q_assign rfl rfl) (?_))
  refine WL_nil (hK2 _ ?_)
  clear hK2 K2
  refine W_seq (fun K3 hK3 => ?_)
  refine W_seq (fun K4 hK4 => ?_)
  refine W_region (WL_cons rfl (WX_q rfl rfl (q_move rfl rfl) (WL_cons rfl (WX_q rfl rfl (q_cmp rfl rfl rfl rfl) (?_)))))
  refine WL_nil (hK4 _ ?_)
  clear hK4 K4
  refine W_cond rfl (fun h1 => ?_) (fun h1 => ?_)
  · try rw [h1]
    try simp only [rfb] at h1
    refine W_seq (fun K5 hK5 => ?_)
    refine W_region (WL_cons rfl (WX_q rfl rfl (q_assign rfl rfl) (?_)))
    refine WL_nil (hK5 _ ?_)
    clear hK5 K5
    refine W_ret (fin_one rfl (rc_v ?_))
    all_goals clear hK3 K3
    all_goals (simp only [szL]; first | (rw [if_pos (by omega)]; done) | (rw [if_neg (by omega)]; done))
  · try rw [h1]
    try simp only [rfb] at h1
    refine W_skip (hK3 _ ?_)
    clear hK3 K3
    refine W_seq (fun K6 hK6 => ?_)
    refine W_region (WL_cons rfl (WX_q rfl rfl (q_move rfl rfl) (WL_cons rfl (WX_q rfl rfl (q_assign rfl rfl) (?_)))))
    refine WL_nil (hK6 _ ?_)
    clear hK6 K6
    refine W_ret (fin_one rfl (rc_v ?_))
    all_goals (simp only [szL]; first | (rw [if_pos (by omega)]; done) | (rw [if_neg (by omega)]; done))

theorem c_laws_szIntS (xs : List Int) (l : Int) (h0 : xs.length ≤ 9223372036854775807) (hl : 0 ≤ l ∧ l ≤ 1048576) : Ctr Tryz.prog 70 [.lst 1 (xs.map encI), .v (.int .i64 l)] (.one (.v (.int .i64 (szL xs.length l)))) := by
  refine Ctr.of (n := 12) G Tryz.func70 rfl (by kernel_rfl) rfl rfl rfl (fun w0 => ?_)
  refine W_seq (fun K1 hK1 => ?_)
  refine W_region (WL_cons rfl (WX_q rfl rfl (q_assign rfl rfl) (?_)))
  refine WL_nil (hK1 _ ?_)
  clear hK1 K1
  refine W_seq (fun K2 hK2 => ?_)
  refine W_region (WL_cons rfl (WX_q rfl rfl (q_move rfl rfl) (WL_cons rfl (WX_q rfl rfl (q_move rfl rfl) (WL_cons rfl (?_))))))
  first | refine WX_q rfl rfl (q_len' G rfl rfl rfl rfl (List.length_map _)) ?_ | refine WX_q rfl rfl (q_len G rfl rfl rfl rfl) ?_
  refine WL_cons rfl (?_)
  first | refine WX_q rfl rfl (q_arith rfl rfl rfl rfl (by omega) (by omega)) ?_ | refine WX_q rfl rfl (q_wrap rfl rfl rfl rfl) ?_
  refine WL_cons rfl (WX_q rfl rfl (q_assign rfl rfl) (?_))
  refine WL_nil (hK2 _ ?_)
  clear hK2 K2
  refine W_seq (fun K3 hK3 => ?_)
  refine W_seq (fun K4 hK4 => ?_)
  refine W_region (WL_cons rfl (WX_q rfl rfl (q_move rfl rfl) (WL_cons rfl (WX_q rfl rfl (q_cmp rfl rfl rfl rfl) (?_)))))
  refine WL_nil (hK4 _ ?_)
  clear hK4 K4
  refine W_cond rfl (fun h1 => ?_) (fun h1 => ?_)
  · try rw [h1]
    try simp only [rfb] at h1
    refine W_seq (fun K5 hK5 => ?_)
    refine W_region (WL_cons rfl (WX_q rfl rfl (q_assign rfl rfl) (?_)))
    refine WL_nil (hK5 _ ?_)
    clear hK5 K5
    refine W_ret (fin_one rfl (rc_v ?_))
    all_goals clear hK3 K3
    all_goals (simp only [szL]; first | (rw [if_pos (by omega)]; done) | (rw [if_neg (by omega)]; done))
  · try rw [h1]
    try simp only [rfb] at h1
    refine W_skip (hK3 _ ?_)
    clear hK3 K3
    refine W_seq (fun K6 hK6 => ?_)
    refine W_region (WL_cons rfl (WX_q rfl rfl (q_move rfl rfl) (WL_cons rfl (WX_q rfl rfl (q_assign rfl rfl) (?_)))))
    refine WL_nil (hK6 _ ?_)
    clear hK6 K6
    refine W_ret (fin_one rfl (rc_v ?_))
    all_goals (simp only [szL]; first | (rw [if_pos (by omega)]; done) | (rw [if_neg (by omega)]; done))

theorem c_laws_szIntSS (xs : List (List Int)) (l : Int) (h0 : xs.length ≤ 9223372036854775807) (hz : ∀ i, i < xs.length → (xs.getD i default).length ≤ 9223372036854775807) (hl : 0 ≤ l ∧ l ≤ 1048576) : Ctr Tryz.prog 71 [.nst none 1 (xs.map encSt), .v (.int .i64 l)] (.one (.v (.int .i64 (szSS xs l)))) := by
  refine Ctr.of (n := 27) G Tryz.func71 rfl (by kernel_rfl) rfl rfl rfl (fun w0 => ?_)
  refine W_seq (fun K1 hK1 => ?_)
  refine W_region (WL_cons rfl (WX_q rfl rfl (q_assign rfl rfl) (?_)))
  refine WL_nil (hK1 _ ?_)
  clear hK1 K1
  refine W_seq (fun K2 hK2 => ?_)
  refine W_region (WL_cons rfl (WX_q rfl rfl (q_move rfl rfl) (WL_cons rfl (WX_q rfl rfl (q_move rfl rfl) (WL_cons rfl (?_))))))
  first | refine WX_q rfl rfl (q_len' G rfl rfl rfl rfl (List.length_map _)) ?_ | refine WX_q rfl rfl (q_len G rfl rfl rfl rfl) ?_
  refine WL_cons rfl (?_)
  first | refine WX_q rfl rfl (q_arith rfl rfl rfl rfl (by omega) (by omega)) ?_ | refine WX_q rfl rfl (q_wrap rfl rfl rfl rfl) ?_
  refine WL_cons rfl (WX_q rfl rfl (q_assign rfl rfl) (?_))
  refine WL_nil (hK2 _ ?_)
  clear hK2 K2
  refine W_seq (fun K3 hK3 => ?_)
  refine W_seq (fun K4 hK4 => ?_)
  refine W_region (WL_cons rfl (WX_q rfl rfl (q_move rfl rfl) (WL_cons rfl (WX_q rfl rfl (q_cmp rfl rfl rfl rfl) (?_)))))
  refine WL_nil (hK4 _ ?_)
  clear hK4 K4
  refine W_cond rfl (fun h1 => ?_) (fun h1 => ?_)
  · try rw [h1]
    try simp only [rfb] at h1
    refine W_seq (fun K5 hK5 => ?_)
    refine W_region (WL_cons rfl (WX_q rfl rfl (q_assign rfl rfl) (?_)))
    refine WL_nil (hK5 _ ?_)
    clear hK5 K5
    refine W_ret (fin_one rfl (rc_v ?_))
    all_goals clear hK3 K3
    all_goals (first | (simp only [szSS]; rw [if_pos]; have hq := @lenN_nn xs xs.length; omega) | (have e : i = xs.length := (by omega); subst e; simp only [szSS]; rw [if_neg (by omega)]; done) | (have hq := lenN_mono (xss := xs) (show i + 1 ≤ xs.length by omega); rw [lenN_succ] at hq; simp only [szSS]; rw [if_pos]; simp only [szL] at h3; split at h3 <;> omega))
  · try rw [h1]
    try simp only [rfb] at h1
    refine W_skip (hK3 _ ?_)
    clear hK3 K3
    refine W_seq (fun K6 hK6 => ?_)
    refine W_seq (fun K7 hK7 => ?_)
    refine W_region (WL_cons rfl (WX_q rfl rfl (q_assign rfl rfl) (?_)))
    refine WL_nil (hK7 _ ?_)
    clear hK7 K7
    refine W_block ?_
    refine W_loopK [0] [] (fun (i : Nat) => [(1, .v (.int .i64 (l - xs.length - lenN xs i))), (5, .v (.int .i64 (i : Int)))]) (fun (i : Nat) => []) (fun (i : Nat) => i ≤ xs.length ∧ 0 ≤ l - xs.length - lenN xs i) (fun (i : Nat) => xs.length - i) 0 rfl rfl ?_ ?_ ?_ ?_
    · (refine ⟨Nat.zero_le _, ?_⟩; simp only [lenN]; omega)
    · exact ⟨⟨_, rfl, by (first | rfl | (simp only [lenN]; congr 2; omega))⟩, rfl, ⟨⟨_, rfl, by (first | rfl | (simp only [lenN]; congr 2; omega))⟩, rfl, trivial⟩⟩
    · exact trivial
    · intro i hinv
      have hln := @lenN_nn xs i
      simp only [List.cons_append, List.nil_append]
      refine W_seq (fun K8 hK8 => ?_)
      refine W_seq (fun K9 hK9 => ?_)
      refine W_region (WL_cons rfl (WX_q rfl rfl (q_move rfl rfl) (WL_cons rfl (WX_q rfl rfl (q_move rfl rfl) (WL_cons rfl (?_))))))
      first | refine WX_q rfl rfl (q_len' G rfl rfl rfl rfl (List.length_map _)) ?_ | refine WX_q rfl rfl (q_len G rfl rfl rfl rfl) ?_
      refine WL_cons rfl (WX_q rfl rfl (q_cmp rfl rfl rfl rfl) (?_))
      refine WL_nil (hK9 _ ?_)
      clear hK9 K9
      refine W_cond rfl (fun h2 => ?_) (fun h2 => ?_)
      · try rw [h2]
        try simp only [rfb] at h2
        refine W_skip (hK8 _ ?_)
        clear hK8 K8
        refine W_seq (fun K10 hK10 => ?_)
        refine W_block ?_
        refine W_seq (fun K11 hK11 => ?_)
        refine W_region (WL_cons rfl (WX_q rfl rfl (q_move rfl rfl) (WL_cons rfl (WX_q rfl rfl (q_move rfl rfl) (WL_cons rfl (?_))))))
        refine WX_q rfl rfl (q_index_nst G rfl rfl rfl rfl (by omega) (getN (by omega)) rfl) ?_
        refine WL_cons rfl (WX_q rfl rfl (q_load_eptN G rfl rfl rfl rfl) (WL_cons rfl (WX_q rfl rfl (q_move rfl rfl) (WL_cons rfl (?_)))))
        refine WX_q rfl rfl (q_call rfl (ArgsOK.of rfl) (c_laws_szIntS _ _ (hz i (by omega)) (by omega)) rfl) ?_
        refine WL_cons rfl (WX_q rfl rfl (q_assign rfl rfl) (?_))
        refine WL_nil (hK11 _ ?_)
        clear hK11 K11
        refine W_seq (fun K12 hK12 => ?_)
        refine W_region (WL_cons rfl (WX_q rfl rfl (q_move rfl rfl) (WL_cons rfl (WX_q rfl rfl (q_cmp rfl rfl rfl rfl) (?_)))))
        refine WL_nil (hK12 _ ?_)
        clear hK12 K12
        refine W_cond rfl (fun h3 => ?_) (fun h3 => ?_)
        · try rw [h3]
          try simp only [rfb] at h3
          refine W_seq (fun K13 hK13 => ?_)
          refine W_region (WL_cons rfl (WX_q rfl rfl (q_assign rfl rfl) (?_)))
          refine WL_nil (hK13 _ ?_)
          clear hK13 K13
          refine W_ret (fin_one rfl (rc_v ?_))
          all_goals clear hK10 K10 hK6 K6
          all_goals (first | (simp only [szSS]; rw [if_pos]; have hq := @lenN_nn xs xs.length; omega) | (have e : i = xs.length := (by omega); subst e; simp only [szSS]; rw [if_neg (by omega)]; done) | (have hq := lenN_mono (xss := xs) (show i + 1 ≤ xs.length by omega); rw [lenN_succ] at hq; simp only [szSS]; rw [if_pos]; simp only [szL] at h3; split at h3 <;> omega))
        · try rw [h3]
          try simp only [rfb] at h3
          refine W_skip (hK10 _ ?_)
          clear hK10 K10
          refine W_region (WL_cons rfl (WX_q rfl rfl (q_move rfl rfl) (WL_cons rfl (?_))))
          first | refine WX_q rfl rfl (q_arith rfl rfl rfl rfl (by omega) (by omega)) ?_ | refine WX_q rfl rfl (q_wrap rfl rfl rfl rfl) ?_
          refine WL_cons rfl (WX_q rfl rfl (q_assign rfl rfl) (?_))
          refine WL_nil ⟨(i + 1), ?_, ?_, ⟨⟨_, rfl, by (first | rfl | (congr 2; rw [lenN_succ]; simp only [szL] at *; rw [if_neg (by split at h3 <;> omega)]; omega))⟩, rfl, ⟨⟨_, rfl, by (first | rfl | (congr 2; rw [lenN_succ]; simp only [szL] at *; rw [if_neg (by split at h3 <;> omega)]; omega))⟩, rfl, trivial⟩⟩, trivial, rfl, rfl, rfl⟩
          · (refine ⟨by omega, ?_⟩; rw [lenN_succ]; simp only [szL] at *; split at h3 <;> omega)
          · omega
      · try rw [h2]
        try simp only [rfb] at h2
        refine W_exit (hK6 _ ?_)
        clear hK8 K8 hK6 K6
        refine W_seq (fun K14 hK14 => ?_)
        refine W_region (WL_cons rfl (WX_q rfl rfl (q_move rfl rfl) (WL_cons rfl (WX_q rfl rfl (q_assign rfl rfl) (?_)))))
        refine WL_nil (hK14 _ ?_)
        clear hK14 K14
        refine W_ret (fin_one rfl (rc_v ?_))
        all_goals (first | (simp only [szSS]; rw [if_pos]; have hq := @lenN_nn xs xs.length; omega) | (have e : i = xs.length := (by omega); subst e; simp only [szSS]; rw [if_neg (by omega)]; done) | (have hq := lenN_mono (xss := xs) (show i + 1 ≤ xs.length by omega); rw [lenN_succ] at hq; simp only [szSS]; rw [if_pos]; simp only [szL] at h3; split at h3 <;> omega))

theorem c_laws_szAbstract (a : Abs) (l : Int) (hb : BigA a) (hl : 0 ≤ l ∧ l ≤ 1048576) : Ctr Tryz.prog 21 [.agg [.lst 1 (a.en.map encO), .lst 1 (a.ra.map encO), .lst 1 (a.po.map encO), .lst 1 (a.ma.map encI), .nst none 1 (a.st.map encSt)], .v (.int .i64 l)] (.one (.v (.int .i64 (szAb a l)))) := by
  refine Ctr.of (n := 36) G Tryz.func21 rfl (by kernel_rfl) rfl rfl rfl (fun w0 => ?_)
  refine W_pinS 0 rfl (fun _ => rfl) (fun u0 => ?_)
  refine W_seq (fun K1 hK1 => ?_)
  refine W_region (WL_cons rfl (WX_box 1 rfl rfl rfl rfl rfl rfl rfl (WL_cons rfl (WX_q rfl rfl (q_assign rfl rfl) (?_)))))
  refine WL_nil (hK1 _ ?_)
  clear hK1 K1
  refine W_seq (fun K2 hK2 => ?_)
  refine W_region (WL_cons rfl (WX_q rfl rfl (q_field_ptr G rfl rfl rfl rfl) (WL_cons rfl (WX_q rfl rfl (q_lst (q_load_box G rfl rfl rfl rfl rfl rfl rfl)) (WL_cons rfl (WX_q rfl rfl (q_move rfl rfl) (WL_cons rfl (?_))))))))
  refine WX_q rfl rfl (q_call rfl (ArgsOK.of rfl) (c_laws_szBoolS a.en l hb.en hl) rfl) ?_
  refine WL_cons rfl (WX_q rfl rfl (q_assign rfl rfl) (?_))
  refine WL_nil (hK2 _ ?_)
  clear hK2 K2
  refine W_seq (fun K3 hK3 => ?_)
  refine W_seq (fun K4 hK4 => ?_)
  refine W_region (WL_cons rfl (WX_q rfl rfl (q_move rfl rfl) (WL_cons rfl (WX_q rfl rfl (q_cmp rfl rfl rfl rfl) (?_)))))
  refine WL_nil (hK4 _ ?_)
  clear hK4 K4
  refine W_cond rfl (fun h1 => ?_) (fun h1 => ?_)
  · try rw [h1]
    try simp only [rfb] at h1
    refine W_seq (fun K5 hK5 => ?_)
    refine W_region (WL_cons rfl (WX_q rfl rfl (q_assign rfl rfl) (?_)))
    refine WL_nil (hK5 _ ?_)
    clear hK5 K5
    refine W_ret (fin_one rfl (rc_v ?_))
    all_goals clear hK3 K3
    all_goals (simp only [szAb]; first | (rw [if_pos (by assumption)]; done) | (rw [if_neg (by omega), if_pos (by omega)]; done) | (rw [if_neg (by omega), if_neg (by omega), if_pos (by omega)]; done) | (rw [if_neg (by omega), if_neg (by omega), if_neg (by omega), if_pos (by omega)]; done) | (rw [if_neg (by omega), if_neg (by omega), if_neg (by omega), if_neg (by omega), szSS_neg (by assumption)]; done) | (rw [if_neg (by omega), if_neg (by omega), if_neg (by omega), if_neg (by omega)]; done))
  · try rw [h1]
    try simp only [rfb] at h1
    refine W_skip (hK3 _ ?_)
    clear hK3 K3
    refine W_seq (fun K6 hK6 => ?_)
    refine W_region (WL_cons rfl (WX_q rfl rfl (q_field_ptr G rfl rfl rfl rfl) (WL_cons rfl (WX_q rfl rfl (q_lst (q_load_box G rfl rfl rfl rfl rfl rfl rfl)) (WL_cons rfl (WX_q rfl rfl (q_move rfl rfl) (WL_cons rfl (?_))))))))
    refine WX_q rfl rfl (q_call rfl (ArgsOK.of rfl) (c_laws_szBoolS a.ra _ hb.ra (szL_in hl (by omega))) rfl) ?_
    refine WL_cons rfl (WX_q rfl rfl (q_assign rfl rfl) (?_))
    refine WL_nil (hK6 _ ?_)
    clear hK6 K6
    refine W_seq (fun K7 hK7 => ?_)
    refine W_seq (fun K8 hK8 => ?_)
    refine W_region (WL_cons rfl (WX_q rfl rfl (q_move rfl rfl) (WL_cons rfl (WX_q rfl rfl (q_cmp rfl rfl rfl rfl) (?_)))))
    refine WL_nil (hK8 _ ?_)
    clear hK8 K8
    refine W_cond rfl (fun h2 => ?_) (fun h2 => ?_)
    · try rw [h2]
      try simp only [rfb] at h2
      refine W_seq (fun K9 hK9 => ?_)
      refine W_region (WL_cons rfl (WX_q rfl rfl (q_assign rfl rfl) (?_)))
      refine WL_nil (hK9 _ ?_)
      clear hK9 K9
      refine W_ret (fin_one rfl (rc_v ?_))
      all_goals clear hK7 K7
      all_goals (simp only [szAb]; first | (rw [if_pos (by assumption)]; done) | (rw [if_neg (by omega), if_pos (by omega)]; done) | (rw [if_neg (by omega), if_neg (by omega), if_pos (by omega)]; done) | (rw [if_neg (by omega), if_neg (by omega), if_neg (by omega), if_pos (by omega)]; done) | (rw [if_neg (by omega), if_neg (by omega), if_neg (by omega), if_neg (by omega), szSS_neg (by assumption)]; done) | (rw [if_neg (by omega), if_neg (by omega), if_neg (by omega), if_neg (by omega)]; done))
    · try rw [h2]
      try simp only [rfb] at h2
      refine W_skip (hK7 _ ?_)
      clear hK7 K7
      refine W_seq (fun K10 hK10 => ?_)
      refine W_region (WL_cons rfl (WX_q rfl rfl (q_field_ptr G rfl rfl rfl rfl) (WL_cons rfl (WX_q rfl rfl (q_lst (q_load_box G rfl rfl rfl rfl rfl rfl rfl)) (WL_cons rfl (WX_q rfl rfl (q_move rfl rfl) (WL_cons rfl (?_))))))))
      refine WX_q rfl rfl (q_call rfl (ArgsOK.of rfl) (c_laws_szBoolS a.po _ hb.po (szL_in (szL_in hl (by omega)) (by omega))) rfl) ?_
      refine WL_cons rfl (WX_q rfl rfl (q_assign rfl rfl) (?_))
      refine WL_nil (hK10 _ ?_)
      clear hK10 K10
      refine W_seq (fun K11 hK11 => ?_)
      refine W_seq (fun K12 hK12 => ?_)
      refine W_region (WL_cons rfl (WX_q rfl rfl (q_move rfl rfl) (WL_cons rfl (WX_q rfl rfl (q_cmp rfl rfl rfl rfl) (?_)))))
      refine WL_nil (hK12 _ ?_)
      clear hK12 K12
      refine W_cond rfl (fun h3 => ?_) (fun h3 => ?_)
      · try rw [h3]
        try simp only [rfb] at h3
        refine W_seq (fun K13 hK13 => ?_)
        refine W_region (WL_cons rfl (WX_q rfl rfl (q_assign rfl rfl) (?_)))
        refine WL_nil (hK13 _ ?_)
        clear hK13 K13
        refine W_ret (fin_one rfl (rc_v ?_))
        all_goals clear hK11 K11
        all_goals (simp only [szAb]; first | (rw [if_pos (by assumption)]; done) | (rw [if_neg (by omega), if_pos (by omega)]; done) | (rw [if_neg (by omega), if_neg (by omega), if_pos (by omega)]; done) | (rw [if_neg (by omega), if_neg (by omega), if_neg (by omega), if_pos (by omega)]; done) | (rw [if_neg (by omega), if_neg (by omega), if_neg (by omega), if_neg (by omega), szSS_neg (by assumption)]; done) | (rw [if_neg (by omega), if_neg (by omega), if_neg (by omega), if_neg (by omega)]; done))
      · try rw [h3]
        try simp only [rfb] at h3
        refine W_skip (hK11 _ ?_)
        clear hK11 K11
        refine W_seq (fun K14 hK14 => ?_)
        refine W_region (WL_cons rfl (WX_q rfl rfl (q_field_ptr G rfl rfl rfl rfl) (WL_cons rfl (WX_q rfl rfl (q_lst (q_load_box G rfl rfl rfl rfl rfl rfl rfl)) (WL_cons rfl (WX_q rfl rfl (q_move rfl rfl) (WL_cons rfl (?_))))))))
        refine WX_q rfl rfl (q_call rfl (ArgsOK.of rfl) (c_laws_szIntS a.ma _ hb.ma (szL_in (szL_in (szL_in hl (by omega)) (by omega)) (by omega))) rfl) ?_
        refine WL_cons rfl (WX_q rfl rfl (q_assign rfl rfl) (?_))
        refine WL_nil (hK14 _ ?_)
        clear hK14 K14
        refine W_seq (fun K15 hK15 => ?_)
        refine W_seq (fun K16 hK16 => ?_)
        refine W_region (WL_cons rfl (WX_q rfl rfl (q_move rfl rfl) (WL_cons rfl (WX_q rfl rfl (q_cmp rfl rfl rfl rfl) (?_)))))
        refine WL_nil (hK16 _ ?_)
        clear hK16 K16
        refine W_cond rfl (fun h4 => ?_) (fun h4 => ?_)
        · try rw [h4]
          try simp only [rfb] at h4
          refine W_seq (fun K17 hK17 => ?_)
          refine W_region (WL_cons rfl (WX_q rfl rfl (q_assign rfl rfl) (?_)))
          refine WL_nil (hK17 _ ?_)
          clear hK17 K17
          refine W_ret (fin_one rfl (rc_v ?_))
          all_goals clear hK15 K15
          all_goals (simp only [szAb]; first | (rw [if_pos (by assumption)]; done) | (rw [if_neg (by omega), if_pos (by omega)]; done) | (rw [if_neg (by omega), if_neg (by omega), if_pos (by omega)]; done) | (rw [if_neg (by omega), if_neg (by omega), if_neg (by omega), if_pos (by omega)]; done) | (rw [if_neg (by omega), if_neg (by omega), if_neg (by omega), if_neg (by omega), szSS_neg (by assumption)]; done) | (rw [if_neg (by omega), if_neg (by omega), if_neg (by omega), if_neg (by omega)]; done))
        · try rw [h4]
          try simp only [rfb] at h4
          refine W_skip (hK15 _ ?_)
          clear hK15 K15
          refine W_seq (fun K18 hK18 => ?_)
          refine W_region (WL_cons rfl (WX_q rfl rfl (q_field_ptr G rfl rfl rfl rfl) (WL_cons rfl (WX_q rfl rfl (q_nst (q_load_box G rfl rfl rfl rfl rfl rfl rfl)) (WL_cons rfl (WX_q rfl rfl (q_move rfl rfl) (WL_cons rfl (?_))))))))
          refine WX_q rfl rfl (q_call rfl (ArgsOK.of rfl) (c_laws_szIntSS a.st _ hb.st hb.all (szL_in (szL_in (szL_in (szL_in hl (by omega)) (by omega)) (by omega)) (by omega))) rfl) ?_
          refine WL_cons rfl (WX_q rfl rfl (q_assign rfl rfl) (?_))
          refine WL_nil (hK18 _ ?_)
          clear hK18 K18
          refine W_seq (fun K19 hK19 => ?_)
          refine W_seq (fun K20 hK20 => ?_)
          refine W_region (WL_cons rfl (WX_q rfl rfl (q_move rfl rfl) (WL_cons rfl (WX_q rfl rfl (q_cmp rfl rfl rfl rfl) (?_)))))
          refine WL_nil (hK20 _ ?_)
          clear hK20 K20
          refine W_cond rfl (fun h5 => ?_) (fun h5 => ?_)
          · try rw [h5]
            try simp only [rfb] at h5
            refine W_seq (fun K21 hK21 => ?_)
            refine W_region (WL_cons rfl (WX_q rfl rfl (q_assign rfl rfl) (?_)))
            refine WL_nil (hK21 _ ?_)
            clear hK21 K21
            refine W_ret (fin_one rfl (rc_v ?_))
            all_goals clear hK19 K19
            all_goals (simp only [szAb]; first | (rw [if_pos (by assumption)]; done) | (rw [if_neg (by omega), if_pos (by omega)]; done) | (rw [if_neg (by omega), if_neg (by omega), if_pos (by omega)]; done) | (rw [if_neg (by omega), if_neg (by omega), if_neg (by omega), if_pos (by omega)]; done) | (rw [if_neg (by omega), if_neg (by omega), if_neg (by omega), if_neg (by omega), szSS_neg (by assumption)]; done) | (rw [if_neg (by omega), if_neg (by omega), if_neg (by omega), if_neg (by omega)]; done))
          · try rw [h5]
            try simp only [rfb] at h5
            refine W_skip (hK19 _ ?_)
            clear hK19 K19
            refine W_seq (fun K22 hK22 => ?_)
            refine W_region (WL_cons rfl (WX_q rfl rfl (q_move rfl rfl) (WL_cons rfl (WX_q rfl rfl (q_assign rfl rfl) (?_)))))
            refine WL_nil (hK22 _ ?_)
            clear hK22 K22
            refine W_ret (fin_one rfl (rc_v ?_))
            all_goals (simp only [szAb]; first | (rw [if_pos (by assumption)]; done) | (rw [if_neg (by omega), if_pos (by omega)]; done) | (rw [if_neg (by omega), if_neg (by omega), if_pos (by omega)]; done) | (rw [if_neg (by omega), if_neg (by omega), if_neg (by omega), if_pos (by omega)]; done) | (rw [if_neg (by omega), if_neg (by omega), if_neg (by omega), if_neg (by omega), szSS_neg (by assumption)]; done) | (rw [if_neg (by omega), if_neg (by omega), if_neg (by omega), if_neg (by omega)]; done))

theorem c_laws_toRoute (x : Route) : Ctr Tryz.prog 75 [.v (encRt x)] (.one (.v (encRt x))) := by
  refine Ctr.of (n := 11) G Tryz.func75 rfl (by kernel_rfl) rfl rfl rfl (fun w0 => ?_)
  refine W_seq (fun K1 hK1 => ?_)
  refine W_region (WL_cons rfl (WX_box 1 rfl rfl rfl rfl rfl rfl rfl (WL_cons rfl (WX_alloc_s G 2 rfl rfl rfl rfl rfl (?_)))))
  refine WL_nil (hK1 _ ?_)
  clear hK1 K1
  refine W_seq (fun K2 hK2 => ?_)
  refine W_region (WL_cons rfl (WX_alloc_s G 3 rfl rfl rfl rfl rfl (?_)))
  refine WL_nil (hK2 _ ?_)
  clear hK2 K2
  refine W_seq (fun K3 hK3 => ?_)
  refine W_region (WL_cons rfl (WX_q rfl rfl (q_field_ptr G rfl rfl rfl rfl) (WL_cons rfl (WX_q rfl rfl (q_load_box G rfl rfl rfl rfl rfl rfl rfl) (WL_cons rfl (WX_q rfl rfl (q_field_ptr G rfl rfl rfl rfl) (WL_cons rfl (WX_store G rfl rfl rfl rfl rfl rfl rfl rfl rfl rfl rfl (?_)))))))))
  refine WL_nil (hK3 _ ?_)
  clear hK3 K3
  refine W_seq (fun K4 hK4 => ?_)
  refine W_region (WL_cons rfl (WX_q rfl rfl (q_field_ptr G rfl rfl rfl rfl) (WL_cons rfl (WX_q rfl rfl (q_load_box G rfl rfl rfl rfl rfl rfl rfl) (WL_cons rfl (WX_q rfl rfl (q_field_ptr G rfl rfl rfl rfl) (WL_cons rfl (WX_store G rfl rfl rfl rfl rfl rfl rfl rfl rfl rfl rfl (?_)))))))))
  refine WL_nil (hK4 _ ?_)
  clear hK4 K4
  refine W_seq (fun K5 hK5 => ?_)
  refine W_region (WL_cons rfl (WX_q rfl rfl (q_load_box_struct G rfl rfl rfl rfl rfl rfl) (WL_cons rfl (WX_store G rfl rfl rfl rfl rfl rfl rfl rfl rfl rfl rfl (?_)))))
  refine WL_nil (hK5 _ ?_)
  clear hK5 K5
  refine W_ret (fin_one rfl (rc_agg rfl ?_))
  all_goals ((first | rfl | (simp_all; done) | (simp_all; omega)))

theorem c_laws_toRouteS (xs : List Route) (hn : xs.length ≤ 1048576) : Ctr Tryz.prog 23 [.lst 2 (xs.map encRo)] (.one (.fr 118 2 (xs.map encRo))) := by
  refine Ctr.of (n := 23) G Tryz.func23 rfl (by kernel_rfl) rfl rfl rfl (fun w0 => ?_)
  refine W_seq (fun K1 hK1 => ?_)
  refine W_region (WL_cons rfl (WX_q rfl rfl (q_assign rfl rfl) (?_)))
  refine WL_nil (hK1 _ ?_)
  clear hK1 K1
  refine W_seq (fun K2 hK2 => ?_)
  refine W_region (WL_cons rfl (WX_q rfl rfl (q_move rfl rfl) (WL_cons rfl (?_))))
  first | refine WX_q rfl rfl (q_len' G rfl rfl rfl rfl (List.length_map _)) ?_ | refine WX_q rfl rfl (q_len G rfl rfl rfl rfl) ?_
  refine WL_cons rfl (?_)
  refine WX_make (n := xs.length) G 1 rfl rfl rfl rfl rfl rfl rfl (by first | rfl | simp) (by first | rfl | simp) (by omega) (by omega) ?_
  refine WL_cons rfl (WX_q rfl rfl (q_assign rfl rfl) (?_))
  refine WL_nil (hK2 _ ?_)
  clear hK2 K2
  refine W_seq (fun K3 hK3 => ?_)
  refine W_seq (fun K4 hK4 => ?_)
  refine W_region (WL_cons rfl (WX_q rfl rfl (q_assign rfl rfl) (?_)))
  refine WL_nil (hK4 _ ?_)
  clear hK4 K4
  refine W_block ?_
  refine W_loopK [0, 3] [] (fun (i : Nat) => [(4, .v (.int .i64 (i : Int)))]) (fun (i : Nat) => [(0, some (.row 118 2 (fill encRo (encRo ⟨0, 0⟩) xs i)))]) (fun (i : Nat) => i ≤ xs.length) (fun (i : Nat) => xs.length - i) 0 rfl rfl ?_ ?_ ?_ ?_
  · exact Nat.zero_le _
  · exact ⟨⟨_, rfl, by (first | rfl | (simp; done) | (simp; omega))⟩, rfl, trivial⟩
  · exact ⟨⟨_, rfl, by (rw [fill_zero]; rfl)⟩, rfl, rfl, trivial⟩
  · intro i hinv
    simp only [List.cons_append, List.nil_append]
    refine W_seq (fun K5 hK5 => ?_)
    refine W_seq (fun K6 hK6 => ?_)
    refine W_region (WL_cons rfl (WX_q rfl rfl (q_move rfl rfl) (WL_cons rfl (WX_q rfl rfl (q_move rfl rfl) (WL_cons rfl (?_))))))
    first | refine WX_q rfl rfl (q_len' G rfl rfl rfl rfl (List.length_map _)) ?_ | refine WX_q rfl rfl (q_len G rfl rfl rfl rfl) ?_
    refine WL_cons rfl (WX_q rfl rfl (q_cmp rfl rfl rfl rfl) (?_))
    refine WL_nil (hK6 _ ?_)
    clear hK6 K6
    refine W_cond rfl (fun h1 => ?_) (fun h1 => ?_)
    · try rw [h1]
      try simp only [rfb] at h1
      refine W_skip (hK5 _ ?_)
      clear hK5 K5
      refine W_seq (fun K7 hK7 => ?_)
      refine W_block ?_
      refine W_region (WL_cons rfl (WX_q rfl rfl (q_move rfl rfl) (WL_cons rfl (WX_q rfl rfl (q_move rfl rfl) (WL_cons rfl (WX_q rfl rfl (q_move rfl rfl) (WL_cons rfl (WX_q rfl rfl (q_move rfl rfl) (WL_cons rfl (?_))))))))))
      refine WX_q rfl rfl (q_index_lst G rfl rfl rfl rfl (by omega) (getN (by omega))) ?_
      refine WL_cons rfl (WX_q rfl rfl (q_load_ept_struct G rfl rfl rfl rfl) (WL_cons rfl (?_)))
      refine WX_q rfl rfl (q_call rfl (ArgsOK.of rfl) (c_laws_toRoute _) rfl) ?_
      refine WL_cons rfl (?_)
      refine WX_q rfl rfl (q_index_own G rfl rfl rfl rfl rfl (by omega) (by rw [fill_len (by omega)]; omega)) ?_
      refine WL_cons rfl (?_)
      refine WX_store_row G rfl rfl rfl rfl rfl (fill_get (by omega)) rfl rfl rfl rfl rfl (Nat.le_of_ble_eq_true rfl) rfl ?_
      refine WL_nil (hK7 _ ?_)
      clear hK7 K7
      refine W_region (WL_cons rfl (WX_q rfl rfl (q_move rfl rfl) (WL_cons rfl (?_))))
      first | refine WX_q rfl rfl (q_arith rfl rfl rfl rfl (by omega) (by omega)) ?_ | refine WX_q rfl rfl (q_wrap rfl rfl rfl rfl) ?_
      refine WL_cons rfl (WX_q rfl rfl (q_assign rfl rfl) (?_))
      refine WL_nil ⟨(i + 1), ?_, ?_, ⟨⟨_, rfl, by rfl⟩, rfl, trivial⟩, ⟨⟨_, rfl, by (rw [← fill_set (by omega)]; rfl)⟩, rfl, rfl, trivial⟩, rfl, rfl, rfl⟩
      · omega
      · omega
    · try rw [h1]
      try simp only [rfb] at h1
      refine W_exit (hK3 _ ?_)
      clear hK5 K5 hK3 K3
      refine W_seq (fun K8 hK8 => ?_)
      refine W_region (WL_cons rfl (WX_q rfl rfl (q_move rfl rfl) (WL_cons rfl (WX_q rfl rfl (q_assign rfl rfl) (?_)))))
      refine WL_nil (hK8 _ ?_)
      clear hK8 K8
      refine W_ret (fin_one rfl (rc_own rfl ?_))
      all_goals (exact fill_end (by omega) (by omega))

theorem c_laws_toBoolS (xs : List Bool) (hn : xs.length ≤ 1048576) : Ctr Tryz.prog 76 [.lst 1 (xs.map encO)] (.one (.fr 4 1 (xs.map encO))) := by
  refine Ctr.of (n := 22) G Tryz.func76 rfl (by kernel_rfl) rfl rfl rfl (fun w0 => ?_)
  refine W_seq (fun K1 hK1 => ?_)
  refine W_region (WL_cons rfl (WX_q rfl rfl (q_assign rfl rfl) (?_)))
  refine WL_nil (hK1 _ ?_)
  clear hK1 K1
  refine W_seq (fun K2 hK2 => ?_)
  refine W_region (WL_cons rfl (WX_q rfl rfl (q_move rfl rfl) (WL_cons rfl (?_))))
  first | refine WX_q rfl rfl (q_len' G rfl rfl rfl rfl (List.length_map _)) ?_ | refine WX_q rfl rfl (q_len G rfl rfl rfl rfl) ?_
  refine WL_cons rfl (?_)
  refine WX_make (n := xs.length) G 1 rfl rfl rfl rfl rfl rfl rfl (by first | rfl | simp) (by first | rfl | simp) (by omega) (by omega) ?_
  refine WL_cons rfl (WX_q rfl rfl (q_assign rfl rfl) (?_))
  refine WL_nil (hK2 _ ?_)
  clear hK2 K2
  refine W_seq (fun K3 hK3 => ?_)
  refine W_seq (fun K4 hK4 => ?_)
  refine W_region (WL_cons rfl (WX_q rfl rfl (q_assign rfl rfl) (?_)))
  refine WL_nil (hK4 _ ?_)
  clear hK4 K4
  refine W_block ?_
  refine W_loopK [0, 3] [] (fun (i : Nat) => [(4, .v (.int .i64 (i : Int)))]) (fun (i : Nat) => [(0, some (.row 4 1 (fill encO (encO false) xs i)))]) (fun (i : Nat) => i ≤ xs.length) (fun (i : Nat) => xs.length - i) 0 rfl rfl ?_ ?_ ?_ ?_
  · exact Nat.zero_le _
  · exact ⟨⟨_, rfl, by (first | rfl | (simp; done) | (simp; omega))⟩, rfl, trivial⟩
  · exact ⟨⟨_, rfl, by (rw [fill_zero]; rfl)⟩, rfl, rfl, trivial⟩
  · intro i hinv
    simp only [List.cons_append, List.nil_append]
    refine W_seq (fun K5 hK5 => ?_)
    refine W_seq (fun K6 hK6 => ?_)
    refine W_region (WL_cons rfl (WX_q rfl rfl (q_move rfl rfl) (WL_cons rfl (WX_q rfl rfl (q_move rfl rfl) (WL_cons rfl (?_))))))
    first | refine WX_q rfl rfl (q_len' G rfl rfl rfl rfl (List.length_map _)) ?_ | refine WX_q rfl rfl (q_len G rfl rfl rfl rfl) ?_
    refine WL_cons rfl (WX_q rfl rfl (q_cmp rfl rfl rfl rfl) (?_))
    refine WL_nil (hK6 _ ?_)
    clear hK6 K6
    refine W_cond rfl (fun h1 => ?_) (fun h1 => ?_)
    · try rw [h1]
      try simp only [rfb] at h1
      refine W_skip (hK5 _ ?_)
      clear hK5 K5
      refine W_seq (fun K7 hK7 => ?_)
      refine W_block ?_
      refine W_region (WL_cons rfl (WX_q rfl rfl (q_move rfl rfl) (WL_cons rfl (WX_q rfl rfl (q_move rfl rfl) (WL_cons rfl (WX_q rfl rfl (q_move rfl rfl) (WL_cons rfl (WX_q rfl rfl (q_move rfl rfl) (WL_cons rfl (?_))))))))))
      refine WX_q rfl rfl (q_index_lst G rfl rfl rfl rfl (by omega) (getN (by omega))) ?_
      refine WL_cons rfl (WX_q rfl rfl (q_load_ept G rfl rfl rfl rfl rfl) (WL_cons rfl (?_)))
      refine WX_q rfl rfl (q_index_own G rfl rfl rfl rfl rfl (by omega) (by rw [fill_len (by omega)]; omega)) ?_
      refine WL_cons rfl (?_)
      refine WX_store_row G rfl rfl rfl rfl rfl (fill_get (by omega)) rfl rfl rfl rfl rfl (Nat.le_of_ble_eq_true rfl) rfl ?_
      refine WL_nil (hK7 _ ?_)
      clear hK7 K7
      refine W_region (WL_cons rfl (WX_q rfl rfl (q_move rfl rfl) (WL_cons rfl (?_))))
      first | refine WX_q rfl rfl (q_arith rfl rfl rfl rfl (by omega) (by omega)) ?_ | refine WX_q rfl rfl (q_wrap rfl rfl rfl rfl) ?_
      refine WL_cons rfl (WX_q rfl rfl (q_assign rfl rfl) (?_))
      refine WL_nil ⟨(i + 1), ?_, ?_, ⟨⟨_, rfl, by rfl⟩, rfl, trivial⟩, ⟨⟨_, rfl, by (rw [← fill_set (by omega)]; rfl)⟩, rfl, rfl, trivial⟩, rfl, rfl, rfl⟩
      · omega
      · omega
    · try rw [h1]
      try simp only [rfb] at h1
      refine W_exit (hK3 _ ?_)
      clear hK5 K5 hK3 K3
      refine W_seq (fun K8 hK8 => ?_)
      refine W_region (WL_cons rfl (WX_q rfl rfl (q_move rfl rfl) (WL_cons rfl (WX_q rfl rfl (q_assign rfl rfl) (?_)))))
      refine WL_nil (hK8 _ ?_)
      clear hK8 K8
      refine W_ret (fin_one rfl (rc_own rfl ?_))
      all_goals (exact fill_end (by omega) (by omega))

theorem c_laws_toIntS (xs : List Int) (hn : xs.length ≤ 1048576) : Ctr Tryz.prog 77 [.lst 1 (xs.map encI)] (.one (.fr 3 1 (xs.map encI))) := by
  refine Ctr.of (n := 22) G Tryz.func77 rfl (by kernel_rfl) rfl rfl rfl (fun w0 => ?_)
  refine W_seq (fun K1 hK1 => ?_)
  refine W_region (WL_cons rfl (WX_q rfl rfl (q_assign rfl rfl) (?_)))
  refine WL_nil (hK1 _ ?_)
  clear hK1 K1
  refine W_seq (fun K2 hK2 => ?_)
  refine W_region (WL_cons rfl (WX_q rfl rfl (q_move rfl rfl) (WL_cons rfl (?_))))
  first | refine WX_q rfl rfl (q_len' G rfl rfl rfl rfl (List.length_map _)) ?_ | refine WX_q rfl rfl (q_len G rfl rfl rfl rfl) ?_
  refine WL_cons rfl (?_)
  refine WX_make (n := xs.length) G 1 rfl rfl rfl rfl rfl rfl rfl (by first | rfl | simp) (by first | rfl | simp) (by omega) (by omega) ?_
  refine WL_cons rfl (WX_q rfl rfl (q_assign rfl rfl) (?_))
  refine WL_nil (hK2 _ ?_)
  clear hK2 K2
  refine W_seq (fun K3 hK3 => ?_)
  refine W_seq (fun K4 hK4 => ?_)
  refine W_region (WL_cons rfl (WX_q rfl rfl (q_assign rfl rfl) (?_)))
  refine WL_nil (hK4 _ ?_)
  clear hK4 K4
  refine W_block ?_
  refine W_loopK [0, 3] [] (fun (i : Nat) => [(4, .v (.int .i64 (i : Int)))]) (fun (i : Nat) => [(0, some (.row 3 1 (fill encI (encI 0) xs i)))]) (fun (i : Nat) => i ≤ xs.length) (fun (i : Nat) => xs.length - i) 0 rfl rfl ?_ ?_ ?_ ?_
  · exact Nat.zero_le _
  · exact ⟨⟨_, rfl, by (first | rfl | (simp; done) | (simp; omega))⟩, rfl, trivial⟩
  · exact ⟨⟨_, rfl, by (rw [fill_zero]; rfl)⟩, rfl, rfl, trivial⟩
  · intro i hinv
    simp only [List.cons_append, List.nil_append]
    refine W_seq (fun K5 hK5 => ?_)
    refine W_seq (fun K6 hK6 => ?_)
    refine W_region (WL_cons rfl (WX_q rfl rfl (q_move rfl rfl) (WL_cons rfl (WX_q rfl rfl (q_move rfl rfl) (WL_cons rfl (?_))))))
    first | refine WX_q rfl rfl (q_len' G rfl rfl rfl rfl (List.length_map _)) ?_ | refine WX_q rfl rfl (q_len G rfl rfl rfl rfl) ?_
    refine WL_cons rfl (WX_q rfl rfl (q_cmp rfl rfl rfl rfl) (?_))
    refine WL_nil (hK6 _ ?_)
    clear hK6 K6
    refine W_cond rfl (fun h1 => ?_) (fun h1 => ?_)
    · try rw [h1]
      try simp only [rfb] at h1
      refine W_skip (hK5 _ ?_)
      clear hK5 K5
      refine W_seq (fun K7 hK7 => ?_)
      refine W_block ?_
      refine W_region (WL_cons rfl (WX_q rfl rfl (q_move rfl rfl) (WL_cons rfl (WX_q rfl rfl (q_move rfl rfl) (WL_cons rfl (WX_q rfl rfl (q_move rfl rfl) (WL_cons rfl (WX_q rfl rfl (q_move rfl rfl) (WL_cons rfl (?_))))))))))
      refine WX_q rfl rfl (q_index_lst G rfl rfl rfl rfl (by omega) (getN (by omega))) ?_
      refine WL_cons rfl (WX_q rfl rfl (q_load_ept G rfl rfl rfl rfl rfl) (WL_cons rfl (?_)))
      refine WX_q rfl rfl (q_index_own G rfl rfl rfl rfl rfl (by omega) (by rw [fill_len (by omega)]; omega)) ?_
      refine WL_cons rfl (?_)
      refine WX_store_row G rfl rfl rfl rfl rfl (fill_get (by omega)) rfl rfl rfl rfl rfl (Nat.le_of_ble_eq_true rfl) rfl ?_
      refine WL_nil (hK7 _ ?_)
      clear hK7 K7
      refine W_region (WL_cons rfl (WX_q rfl rfl (q_move rfl rfl) (WL_cons rfl (?_))))
      first | refine WX_q rfl rfl (q_arith rfl rfl rfl rfl (by omega) (by omega)) ?_ | refine WX_q rfl rfl (q_wrap rfl rfl rfl rfl) ?_
      refine WL_cons rfl (WX_q rfl rfl (q_assign rfl rfl) (?_))
      refine WL_nil ⟨(i + 1), ?_, ?_, ⟨⟨_, rfl, by rfl⟩, rfl, trivial⟩, ⟨⟨_, rfl, by (rw [← fill_set (by omega)]; rfl)⟩, rfl, rfl, trivial⟩, rfl, rfl, rfl⟩
      · omega
      · omega
    · try rw [h1]
      try simp only [rfb] at h1
      refine W_exit (hK3 _ ?_)
      clear hK5 K5 hK3 K3
      refine W_seq (fun K8 hK8 => ?_)
      refine W_region (WL_cons rfl (WX_q rfl rfl (q_move rfl rfl) (WL_cons rfl (WX_q rfl rfl (q_assign rfl rfl) (?_)))))
      refine WL_nil (hK8 _ ?_)
      clear hK8 K8
      refine W_ret (fin_one rfl (rc_own rfl ?_))
      all_goals (exact fill_end (by omega) (by omega))

theorem c_laws_toIntSS (xs : List (List Int)) (hn : xs.length ≤ 1048576) (hz : ∀ i, i < xs.length → (xs.getD i default).length ≤ 1048576) : Ctr Tryz.prog 78 [.nst none 1 (xs.map encSt)] (.one (.ne 26 1 (xs.map encSt))) := by
  refine Ctr.of (n := 23) G Tryz.func78 rfl (by kernel_rfl) rfl rfl rfl (fun w0 => ?_)
  refine W_seq (fun K1 hK1 => ?_)
  refine W_region (WL_cons rfl (WX_q rfl rfl (q_assign rfl rfl) (?_)))
  refine WL_nil (hK1 _ ?_)
  clear hK1 K1
  refine W_seq (fun K2 hK2 => ?_)
  refine W_region (WL_cons rfl (WX_q rfl rfl (q_move rfl rfl) (WL_cons rfl (?_))))
  first | refine WX_q rfl rfl (q_len' G rfl rfl rfl rfl (List.length_map _)) ?_ | refine WX_q rfl rfl (q_len G rfl rfl rfl rfl) ?_
  refine WL_cons rfl (?_)
  refine WX_make (n := xs.length) G 1 rfl rfl rfl rfl rfl rfl rfl (by first | rfl | simp) (by first | rfl | simp) (by omega) (by omega) <| WL_gh (Gh.nest (id := 0) (yss := List.replicate (xs.length) [.l 3 1 []]) rfl (by simp) (replicate_plain (.s .nil))) ?_
  refine WL_cons rfl (WX_q rfl rfl (q_assign rfl rfl) (?_))
  refine WL_nil (hK2 _ ?_)
  clear hK2 K2
  refine W_seq (fun K3 hK3 => ?_)
  refine W_seq (fun K4 hK4 => ?_)
  refine W_region (WL_cons rfl (WX_q rfl rfl (q_assign rfl rfl) (?_)))
  refine WL_nil (hK4 _ ?_)
  clear hK4 K4
  refine W_block ?_
  refine W_loopK [0, 3] [] (fun (i : Nat) => [(4, .v (.int .i64 (i : Int)))]) (fun (i : Nat) => [(0, some (.nest 26 1 (fill encSt (encSt []) xs i) []))]) (fun (i : Nat) => i ≤ xs.length) (fun (i : Nat) => xs.length - i) 0 rfl rfl ?_ ?_ ?_ ?_
  · exact Nat.zero_le _
  · exact ⟨⟨_, rfl, by (first | rfl | (simp; done) | (simp; omega))⟩, rfl, trivial⟩
  · exact ⟨⟨_, rfl, by (rw [fill_zero]; rfl)⟩, rfl, rfl, trivial⟩
  · intro i hinv
    simp only [List.cons_append, List.nil_append]
    refine W_seq (fun K5 hK5 => ?_)
    refine W_seq (fun K6 hK6 => ?_)
    refine W_region (WL_cons rfl (WX_q rfl rfl (q_move rfl rfl) (WL_cons rfl (WX_q rfl rfl (q_move rfl rfl) (WL_cons rfl (?_))))))
    first | refine WX_q rfl rfl (q_len' G rfl rfl rfl rfl (List.length_map _)) ?_ | refine WX_q rfl rfl (q_len G rfl rfl rfl rfl) ?_
    refine WL_cons rfl (WX_q rfl rfl (q_cmp rfl rfl rfl rfl) (?_))
    refine WL_nil (hK6 _ ?_)
    clear hK6 K6
    refine W_cond rfl (fun h1 => ?_) (fun h1 => ?_)
    · try rw [h1]
      try simp only [rfb] at h1
      refine W_skip (hK5 _ ?_)
      clear hK5 K5
      refine W_seq (fun K7 hK7 => ?_)
      refine W_block ?_
      refine W_region (WL_cons rfl (WX_q rfl rfl (q_move rfl rfl) (WL_cons rfl (WX_q rfl rfl (q_move rfl rfl) (WL_cons rfl (WX_q rfl rfl (q_move rfl rfl) (WL_cons rfl (WX_q rfl rfl (q_move rfl rfl) (WL_cons rfl (?_))))))))))
      refine WX_q rfl rfl (q_index_nst G rfl rfl rfl rfl (by omega) (getN (by omega)) rfl) ?_
      refine WL_cons rfl (WX_q rfl rfl (q_load_eptN G rfl rfl rfl rfl) (WL_cons rfl (?_)))
      refine WX_call 2 rfl rfl rfl (ArgsOK.of rfl) (c_laws_toIntS _ (hz i (by omega))) rfl rfl ?_
      refine WL_cons rfl (?_)
      refine WX_q rfl rfl (q_index_nest G rfl rfl rfl rfl rfl (by omega) (by rw [fill_len (by omega)]; omega)) ?_
      refine WL_cons rfl (?_)
      refine WX_store_nest G rfl rfl rfl rfl rfl (fill_get (by omega)) rfl rfl (.own rfl .nil) rfl rfl rfl (Nat.le_of_ble_eq_true rfl) (fun q h => by cases h) (fill_set (by omega)) ?_
      refine WL_nil (hK7 _ ?_)
      clear hK7 K7
      refine W_region (WL_cons rfl (WX_q rfl rfl (q_move rfl rfl) (WL_cons rfl (?_))))
      first | refine WX_q rfl rfl (q_arith rfl rfl rfl rfl (by omega) (by omega)) ?_ | refine WX_q rfl rfl (q_wrap rfl rfl rfl rfl) ?_
      refine WL_cons rfl (WX_q rfl rfl (q_assign rfl rfl) (?_))
      refine WL_nil ⟨(i + 1), ?_, ?_, ⟨⟨_, rfl, by rfl⟩, rfl, trivial⟩, ⟨⟨_, rfl, by rfl⟩, rfl, rfl, trivial⟩, rfl, rfl, rfl⟩
      · omega
      · omega
    · try rw [h1]
      try simp only [rfb] at h1
      refine W_exit (hK3 _ ?_)
      clear hK5 K5 hK3 K3
      refine W_seq (fun K8 hK8 => ?_)
      refine W_region (WL_cons rfl (WX_q rfl rfl (q_move rfl rfl) (WL_cons rfl (WX_q rfl rfl (q_assign rfl rfl) (?_)))))
      refine WL_nil (hK8 _ ?_)
      clear hK8 K8
      refine W_ret (fin_one rfl (rc_ne rfl ?_))
      all_goals (exact fill_end (by omega) (by omega))

theorem c_laws_toAbstract (a : Abs) (hs : SmallA a) : Ctr Tryz.prog 24 [.agg [.lst 1 (a.en.map encO), .lst 1 (a.ra.map encO), .lst 1 (a.po.map encO), .lst 1 (a.ma.map encI), .nst none 1 (a.st.map encSt)]] (.shp true [some 5] [.fr 4 1 (a.en.map encO), .fr 4 1 (a.ra.map encO), .fr 4 1 (a.po.map encO), .fr 3 1 (a.ma.map encI), .ne 26 1 (a.st.map encSt)]) := by
  refine Ctr.of (n := 25) G Tryz.func24 rfl (by kernel_rfl) rfl rfl rfl (fun w0 => ?_)
  refine W_pinS 0 rfl (fun _ => rfl) (fun u0 => ?_)
  refine W_seq (fun K1 hK1 => ?_)
  refine W_region (WL_cons rfl (WX_box 1 rfl rfl rfl rfl rfl rfl rfl (WL_cons rfl (WX_alloc_s G 2 rfl rfl rfl rfl rfl (?_)))))
  refine WL_nil (hK1 _ ?_)
  clear hK1 K1
  refine W_seq (fun K2 hK2 => ?_)
  refine W_region (WL_cons rfl (WX_alloc_s G 3 rfl rfl rfl rfl rfl (?_)))
  refine WL_nil (hK2 _ ?_)
  clear hK2 K2
  refine W_seq (fun K3 hK3 => ?_)
  refine W_region (WL_cons rfl (WX_q rfl rfl (q_field_ptr G rfl rfl rfl rfl) (WL_cons rfl (WX_q rfl rfl (q_lst (q_load_box G rfl rfl rfl rfl rfl rfl rfl)) (WL_cons rfl (?_))))))
  refine WX_call 4 rfl rfl rfl (ArgsOK.of rfl) (c_laws_toBoolS a.en hs.en) rfl rfl ?_
  refine WL_cons rfl (WX_q rfl rfl (q_field_ptr G rfl rfl rfl rfl) (WL_cons rfl (WX_store G rfl rfl rfl rfl rfl rfl rfl rfl rfl rfl rfl (?_))))
  refine WL_nil (hK3 _ ?_)
  clear hK3 K3
  refine W_seq (fun K4 hK4 => ?_)
  refine W_region (WL_cons rfl (WX_q rfl rfl (q_field_ptr G rfl rfl rfl rfl) (WL_cons rfl (WX_q rfl rfl (q_lst (q_load_box G rfl rfl rfl rfl rfl rfl rfl)) (WL_cons rfl (?_))))))
  refine WX_call 5 rfl rfl rfl (ArgsOK.of rfl) (c_laws_toBoolS a.ra hs.ra) rfl rfl ?_
  refine WL_cons rfl (WX_q rfl rfl (q_field_ptr G rfl rfl rfl rfl) (WL_cons rfl (WX_store G rfl rfl rfl rfl rfl rfl rfl rfl rfl rfl rfl (?_))))
  refine WL_nil (hK4 _ ?_)
  clear hK4 K4
  refine W_seq (fun K5 hK5 => ?_)
  refine W_region (WL_cons rfl (WX_q rfl rfl (q_field_ptr G rfl rfl rfl rfl) (WL_cons rfl (WX_q rfl rfl (q_lst (q_load_box G rfl rfl rfl rfl rfl rfl rfl)) (WL_cons rfl (?_))))))
  refine WX_call 6 rfl rfl rfl (ArgsOK.of rfl) (c_laws_toBoolS a.po hs.po) rfl rfl ?_
  refine WL_cons rfl (WX_q rfl rfl (q_field_ptr G rfl rfl rfl rfl) (WL_cons rfl (WX_store G rfl rfl rfl rfl rfl rfl rfl rfl rfl rfl rfl (?_))))
  refine WL_nil (hK5 _ ?_)
  clear hK5 K5
  refine W_seq (fun K6 hK6 => ?_)
  refine W_region (WL_cons rfl (WX_q rfl rfl (q_field_ptr G rfl rfl rfl rfl) (WL_cons rfl (WX_q rfl rfl (q_lst (q_load_box G rfl rfl rfl rfl rfl rfl rfl)) (WL_cons rfl (?_))))))
  refine WX_call 7 rfl rfl rfl (ArgsOK.of rfl) (c_laws_toIntS a.ma hs.ma) rfl rfl ?_
  refine WL_cons rfl (WX_q rfl rfl (q_field_ptr G rfl rfl rfl rfl) (WL_cons rfl (WX_store G rfl rfl rfl rfl rfl rfl rfl rfl rfl rfl rfl (?_))))
  refine WL_nil (hK6 _ ?_)
  clear hK6 K6
  refine W_seq (fun K7 hK7 => ?_)
  refine W_region (WL_cons rfl (WX_q rfl rfl (q_field_ptr G rfl rfl rfl rfl) (WL_cons rfl (WX_q rfl rfl (q_nst (q_load_box G rfl rfl rfl rfl rfl rfl rfl)) (WL_cons rfl (?_))))))
  refine WX_call 8 rfl rfl rfl (ArgsOK.of rfl) (c_laws_toIntSS a.st hs.st hs.all) rfl rfl ?_
  refine WL_cons rfl (WX_q rfl rfl (q_field_ptr G rfl rfl rfl rfl) (WL_cons rfl (WX_store G rfl rfl rfl rfl rfl rfl rfl rfl rfl rfl rfl (?_))))
  refine WL_nil (hK7 _ ?_)
  clear hK7 K7
  refine W_seq (fun K8 hK8 => ?_)
  refine W_region (WL_cons rfl (WX_q rfl rfl (q_load_box_struct G rfl rfl rfl rfl rfl rfl) (WL_cons rfl (WX_store G rfl rfl rfl rfl rfl rfl rfl rfl rfl rfl rfl (?_)))))
  refine WL_nil (hK8 _ ?_)
  clear hK8 K8
  refine W_ret (fin_shp rfl rfl rfl rfl (rcs_cons (rc_own rfl ?_) (rcs_cons (rc_own rfl ?_) (rcs_cons (rc_own rfl ?_) (rcs_cons (rc_own rfl ?_) (rcs_cons (rc_ne rfl ?_) rcs_nil))))))
  all_goals (rfl)

end Go.Proofs.YtcnodpipinlpcaaGreat

/- Walks through functions of the program, one contract each (written by gen.py). -/
set_option maxRecDepth 20000
set_option linter.unusedVariables false
set_option linter.unusedSimpArgs false
namespace Go.Proofs.YtcnodpipinlpcaaGreat
open Go Go.Rf

theorem c_laws_eqRoute (x y : Route) : Ctr Tryz.prog 85 [.v (encRt x), .v (encRt y)] (.one (.v (.bool (eqRt x y)))) := by
  refine Ctr.of (n := 15) G Tryz.func85 rfl (by kernel_rfl) rfl rfl rfl (fun w0 => ?_)
  refine W_seq (fun K1 hK1 => ?_)
  refine W_region (WL_cons rfl (WX_box 1 rfl rfl rfl rfl rfl rfl rfl (WL_cons rfl (WX_box 2 rfl rfl rfl rfl rfl rfl rfl (WL_cons rfl (WX_q rfl rfl (q_assign rfl rfl) (?_)))))))
  refine WL_nil (hK1 _ ?_)
  clear hK1 K1
  refine W_seq (fun K2 hK2 => ?_)
  refine W_seq (fun K3 hK3 => ?_)
  refine W_region (WL_cons rfl (WX_q rfl rfl (q_field_ptr G rfl rfl rfl rfl) (WL_cons rfl (WX_q rfl rfl (q_load_box G rfl rfl rfl rfl rfl rfl rfl) (WL_cons rfl (WX_q rfl rfl (q_field_ptr G rfl rfl rfl rfl) (WL_cons rfl (WX_q rfl rfl (q_load_box G rfl rfl rfl rfl rfl rfl rfl) (WL_cons rfl (WX_q rfl rfl (q_cmp rfl rfl rfl rfl) (?_)))))))))))
  refine WL_nil (hK3 _ ?_)
  clear hK3 K3
  refine W_cond rfl (fun h1 => ?_) (fun h1 => ?_)
  · try rw [h1]
    try simp only [rfb] at h1
    refine W_seq (fun K4 hK4 => ?_)
    refine W_region (WL_cons rfl (WX_q rfl rfl (q_assign rfl rfl) (?_)))
    refine WL_nil (hK4 _ ?_)
    clear hK4 K4
    refine W_ret (fin_one rfl (rc_v ?_))
    all_goals clear hK2 K2
    all_goals (first | rfl | (simp_all [eqRt]; done) | (simp_all [eqRt]; omega))
  · try rw [h1]
    try simp only [rfb] at h1
    refine W_skip (hK2 _ ?_)
    clear hK2 K2
    refine W_seq (fun K5 hK5 => ?_)
    refine W_seq (fun K6 hK6 => ?_)
    refine W_region (WL_cons rfl (WX_q rfl rfl (q_field_ptr G rfl rfl rfl rfl) (WL_cons rfl (WX_q rfl rfl (q_load_box G rfl rfl rfl rfl rfl rfl rfl) (WL_cons rfl (WX_q rfl rfl (q_field_ptr G rfl rfl rfl rfl) (WL_cons rfl (WX_q rfl rfl (q_load_box G rfl rfl rfl rfl rfl rfl rfl) (WL_cons rfl (WX_q rfl rfl (q_cmp rfl rfl rfl rfl) (?_)))))))))))
    refine WL_nil (hK6 _ ?_)
    clear hK6 K6
    refine W_cond rfl (fun h2 => ?_) (fun h2 => ?_)
    · try rw [h2]
      try simp only [rfb] at h2
      refine W_seq (fun K7 hK7 => ?_)
      refine W_region (WL_cons rfl (WX_q rfl rfl (q_assign rfl rfl) (?_)))
      refine WL_nil (hK7 _ ?_)
      clear hK7 K7
      refine W_ret (fin_one rfl (rc_v ?_))
      all_goals clear hK5 K5
      all_goals (first | rfl | (simp_all [eqRt]; done) | (simp_all [eqRt]; omega))
    · try rw [h2]
      try simp only [rfb] at h2
      refine W_skip (hK5 _ ?_)
      clear hK5 K5
      refine W_seq (fun K8 hK8 => ?_)
      refine W_region (WL_cons rfl (WX_q rfl rfl (q_assign rfl rfl) (?_)))
      refine WL_nil (hK8 _ ?_)
      clear hK8 K8
      refine W_ret (fin_one rfl (rc_v ?_))
      all_goals (first | rfl | (simp_all [eqRt]; done) | (simp_all [eqRt]; omega))

theorem c_laws_eqRouteS (xs ys : List Route) (hn : xs.length ≤ 9223372036854775807) : Ctr Tryz.prog 27 [.lst 2 (xs.map encRo), .lst 2 (ys.map encRo)] (.one (.v (.bool (decide (xs = ys))))) := by
  refine Ctr.of (n := 27) G Tryz.func27 rfl (by kernel_rfl) rfl rfl rfl (fun w0 => ?_)
  refine W_seq (fun K1 hK1 => ?_)
  refine W_region (WL_cons rfl (WX_q rfl rfl (q_assign rfl rfl) (?_)))
  refine WL_nil (hK1 _ ?_)
  clear hK1 K1
  refine W_seq (fun K2 hK2 => ?_)
  refine W_seq (fun K3 hK3 => ?_)
  refine W_region (WL_cons rfl (WX_q rfl rfl (q_move rfl rfl) (WL_cons rfl (?_))))
  first | refine WX_q rfl rfl (q_len' G rfl rfl rfl rfl (List.length_map _)) ?_ | refine WX_q rfl rfl (q_len G rfl rfl rfl rfl) ?_
  refine WL_cons rfl (WX_q rfl rfl (q_move rfl rfl) (WL_cons rfl (?_)))
  first | refine WX_q rfl rfl (q_len' G rfl rfl rfl rfl (List.length_map _)) ?_ | refine WX_q rfl rfl (q_len G rfl rfl rfl rfl) ?_
  refine WL_cons rfl (WX_q rfl rfl (q_cmp rfl rfl rfl rfl) (?_))
  refine WL_nil (hK3 _ ?_)
  clear hK3 K3
  refine W_cond rfl (fun h1 => ?_) (fun h1 => ?_)
  · try rw [h1]
    try simp only [rfb] at h1
    refine W_seq (fun K4 hK4 => ?_)
    refine W_region (WL_cons rfl (WX_q rfl rfl (q_assign rfl rfl) (?_)))
    refine WL_nil (hK4 _ ?_)
    clear hK4 K4
    refine W_ret (fin_one rfl (rc_v ?_))
    all_goals clear hK2 K2
    all_goals (first | (have e : xs ≠ ys := fun e => (by (subst e; simp_all [eqRt]; done)); simp [e]; done) | (have e : xs = ys := eq_true_of (by omega) hinv.2 (by omega); simp [e]; done) | (have e : xs ≠ ys := eq_false_of (i := i) (fun e => (by simp_all [eqRt])); simp [e]; done))
  · try rw [h1]
    try simp only [rfb] at h1
    refine W_skip (hK2 _ ?_)
    clear hK2 K2
    refine W_seq (fun K5 hK5 => ?_)
    refine W_seq (fun K6 hK6 => ?_)
    refine W_region (WL_cons rfl (WX_q rfl rfl (q_assign rfl rfl) (?_)))
    refine WL_nil (hK6 _ ?_)
    clear hK6 K6
    refine W_block ?_
    refine W_loopK [0, 1] [] (fun (i : Nat) => [(5, .v (.int .i64 (i : Int)))]) (fun (i : Nat) => []) (fun (i : Nat) => i ≤ xs.length ∧ ∀ j, j < i → xs.getD j default = ys.getD j default) (fun (i : Nat) => xs.length - i) 0 rfl rfl ?_ ?_ ?_ ?_
    · exact ⟨Nat.zero_le _, fun j hj => by omega⟩
    · exact ⟨⟨_, rfl, by (first | rfl | (simp; done) | (simp; omega))⟩, rfl, trivial⟩
    · exact trivial
    · intro i hinv
      simp only [List.cons_append, List.nil_append]
      refine W_seq (fun K7 hK7 => ?_)
      refine W_seq (fun K8 hK8 => ?_)
      refine W_region (WL_cons rfl (WX_q rfl rfl (q_move rfl rfl) (WL_cons rfl (WX_q rfl rfl (q_move rfl rfl) (WL_cons rfl (?_))))))
      first | refine WX_q rfl rfl (q_len' G rfl rfl rfl rfl (List.length_map _)) ?_ | refine WX_q rfl rfl (q_len G rfl rfl rfl rfl) ?_
      refine WL_cons rfl (WX_q rfl rfl (q_cmp rfl rfl rfl rfl) (?_))
      refine WL_nil (hK8 _ ?_)
      clear hK8 K8
      refine W_cond rfl (fun h2 => ?_) (fun h2 => ?_)
      · try rw [h2]
        try simp only [rfb] at h2
        refine W_skip (hK7 _ ?_)
        clear hK7 K7
        refine W_seq (fun K9 hK9 => ?_)
        refine W_block ?_
        refine W_seq (fun K10 hK10 => ?_)
        refine W_draws mixed (by kernel_rfl) (QL_cons rfl (QX_q rfl rfl (q_move rfl rfl) (QL_cons rfl (QX_q rfl rfl (q_move rfl rfl) (QL_cons rfl (?_))))))
        refine QX_q rfl rfl (q_index_lst G rfl rfl rfl rfl (by omega) (getN (by omega))) ?_
        refine QL_cons rfl (QX_q rfl rfl (q_load_ept_struct G rfl rfl rfl rfl) (QL_cons rfl (QX_q rfl rfl (q_move rfl rfl) (QL_cons rfl (QX_q rfl rfl (q_move rfl rfl) (QL_cons rfl (?_)))))))
        refine QX_q rfl rfl (q_index_lst G rfl rfl rfl rfl (by omega) (getN (by omega))) ?_
        refine QL_cons rfl (QX_q rfl rfl (q_load_ept_struct G rfl rfl rfl rfl) (QL_cons rfl (?_)))
        refine QX_q rfl rfl (q_call rfl (ArgsOK.of rfl) (c_laws_eqRoute _ _) rfl) ?_
        refine QL_cons rfl (QX_q rfl rfl (q_not rfl rfl) (?_))
        refine QL_nil (hK10 _ ?_)
        clear hK10 K10
        refine W_cond rfl (fun h3 => ?_) (fun h3 => ?_)
        · try rw [h3]
          try simp only [rfb] at h3
          refine W_seq (fun K11 hK11 => ?_)
          refine W_region (WL_cons rfl (WX_q rfl rfl (q_assign rfl rfl) (?_)))
          refine WL_nil (hK11 _ ?_)
          clear hK11 K11
          refine W_ret (fin_one rfl (rc_v ?_))
          all_goals clear hK9 K9 hK5 K5
          all_goals (first | (have e : xs ≠ ys := fun e => (by (subst e; simp_all [eqRt]; done)); simp [e]; done) | (have e : xs = ys := eq_true_of (by omega) hinv.2 (by omega); simp [e]; done) | (have e : xs ≠ ys := eq_false_of (i := i) (fun e => (by simp_all [eqRt])); simp [e]; done))
        · try rw [h3]
          try simp only [rfb] at h3
          refine W_skip (hK9 _ ?_)
          clear hK9 K9
          refine W_region (WL_cons rfl (WX_q rfl rfl (q_move rfl rfl) (WL_cons rfl (?_))))
          first | refine WX_q rfl rfl (q_arith rfl rfl rfl rfl (by omega) (by omega)) ?_ | refine WX_q rfl rfl (q_wrap rfl rfl rfl rfl) ?_
          refine WL_cons rfl (WX_q rfl rfl (q_assign rfl rfl) (?_))
          refine WL_nil ⟨(i + 1), ?_, ?_, ⟨⟨_, rfl, by rfl⟩, rfl, trivial⟩, trivial, rfl, rfl, rfl⟩
          · exact ⟨by omega, upto_succ hinv.2 (by first | exact eqRt_iff.mp (by assumption) | exact eqRt_iff.mp (by simp_all))⟩
          · omega
      · try rw [h2]
        try simp only [rfb] at h2
        refine W_exit (hK5 _ ?_)
        clear hK7 K7 hK5 K5
        refine W_seq (fun K12 hK12 => ?_)
        refine W_region (WL_cons rfl (WX_q rfl rfl (q_assign rfl rfl) (?_)))
        refine WL_nil (hK12 _ ?_)
        clear hK12 K12
        refine W_ret (fin_one rfl (rc_v ?_))
        all_goals (first | (have e : xs ≠ ys := fun e => (by (subst e; simp_all [eqRt]; done)); simp [e]; done) | (have e : xs = ys := eq_true_of (by omega) hinv.2 (by omega); simp [e]; done) | (have e : xs ≠ ys := eq_false_of (i := i) (fun e => (by simp_all [eqRt])); simp [e]; done))

theorem c_laws_eqBoolS (xs ys : List Bool) (hn : xs.length ≤ 9223372036854775807) : Ctr Tryz.prog 83 [.lst 1 (xs.map encO), .lst 1 (ys.map encO)] (.one (.v (.bool (decide (xs = ys))))) := by
  refine Ctr.of (n := 26) G Tryz.func83 rfl (by kernel_rfl) rfl rfl rfl (fun w0 => ?_)
  refine W_seq (fun K1 hK1 => ?_)
  refine W_region (WL_cons rfl (WX_q rfl rfl (q_assign rfl rfl) (?_)))
  refine WL_nil (hK1 _ ?_)
  clear hK1 K1
  refine W_seq (fun K2 hK2 => ?_)
  refine W_seq (fun K3 hK3 => ?_)
  refine W_region (WL_cons rfl (WX_q rfl rfl (q_move rfl rfl) (WL_cons rfl (?_))))
  first | refine WX_q rfl rfl (q_len' G rfl rfl rfl rfl (List.length_map _)) ?_ | refine WX_q rfl rfl (q_len G rfl rfl rfl rfl) ?_
  refine WL_cons rfl (WX_q rfl rfl (q_move rfl rfl) (WL_cons rfl (?_)))
  first | refine WX_q rfl rfl (q_len' G rfl rfl rfl rfl (List.length_map _)) ?_ | refine WX_q rfl rfl (q_len G rfl rfl rfl rfl) ?_
  refine WL_cons rfl (WX_q rfl rfl (q_cmp rfl rfl rfl rfl) (?_))
  refine WL_nil (hK3 _ ?_)
  clear hK3 K3
  refine W_cond rfl (fun h1 => ?_) (fun h1 => ?_)
  · try rw [h1]
    try simp only [rfb] at h1
    refine W_seq (fun K4 hK4 => ?_)
    refine W_region (WL_cons rfl (WX_q rfl rfl (q_assign rfl rfl) (?_)))
    refine WL_nil (hK4 _ ?_)
    clear hK4 K4
    refine W_ret (fin_one rfl (rc_v ?_))
    all_goals clear hK2 K2
    all_goals (first | (have e : xs ≠ ys := fun e => (by (subst e; simp_all; done)); simp [e]; done) | (have e : xs = ys := eq_true_of (by omega) hinv.2 (by omega); simp [e]; done) | (have e : xs ≠ ys := eq_false_of (i := i) (fun e => (by simp_all)); simp [e]; done))
  · try rw [h1]
    try simp only [rfb] at h1
    refine W_skip (hK2 _ ?_)
    clear hK2 K2
    refine W_seq (fun K5 hK5 => ?_)
    refine W_seq (fun K6 hK6 => ?_)
    refine W_region (WL_cons rfl (WX_q rfl rfl (q_assign rfl rfl) (?_)))
    refine WL_nil (hK6 _ ?_)
    clear hK6 K6
    refine W_block ?_
    refine W_loopK [0, 1] [] (fun (i : Nat) => [(5, .v (.int .i64 (i : Int)))]) (fun (i : Nat) => []) (fun (i : Nat) => i ≤ xs.length ∧ ∀ j, j < i → xs.getD j default = ys.getD j default) (fun (i : Nat) => xs.length - i) 0 rfl rfl ?_ ?_ ?_ ?_
    · exact ⟨Nat.zero_le _, fun j hj => by omega⟩
    · exact ⟨⟨_, rfl, by (first | rfl | (simp; done) | (simp; omega))⟩, rfl, trivial⟩
    · exact trivial
    · intro i hinv
      simp only [List.cons_append, List.nil_append]
      refine W_seq (fun K7 hK7 => ?_)
      refine W_seq (fun K8 hK8 => ?_)
      refine W_region (WL_cons rfl (WX_q rfl rfl (q_move rfl rfl) (WL_cons rfl (WX_q rfl rfl (q_move rfl rfl) (WL_cons rfl (?_))))))
      first | refine WX_q rfl rfl (q_len' G rfl rfl rfl rfl (List.length_map _)) ?_ | refine WX_q rfl rfl (q_len G rfl rfl rfl rfl) ?_
      refine WL_cons rfl (WX_q rfl rfl (q_cmp rfl rfl rfl rfl) (?_))
      refine WL_nil (hK8 _ ?_)
      clear hK8 K8
      refine W_cond rfl (fun h2 => ?_) (fun h2 => ?_)
      · try rw [h2]
        try simp only [rfb] at h2
        refine W_skip (hK7 _ ?_)
        clear hK7 K7
        refine W_seq (fun K9 hK9 => ?_)
        refine W_block ?_
        refine W_seq (fun K10 hK10 => ?_)
        refine W_draws mixed (by kernel_rfl) (QL_cons rfl (QX_q rfl rfl (q_move rfl rfl) (QL_cons rfl (QX_q rfl rfl (q_move rfl rfl) (QL_cons rfl (?_))))))
        refine QX_q rfl rfl (q_index_lst G rfl rfl rfl rfl (by omega) (getN (by omega))) ?_
        refine QL_cons rfl (QX_q rfl rfl (q_load_ept G rfl rfl rfl rfl rfl) (QL_cons rfl (QX_q rfl rfl (q_move rfl rfl) (QL_cons rfl (QX_q rfl rfl (q_move rfl rfl) (QL_cons rfl (?_)))))))
        refine QX_q rfl rfl (q_index_lst G rfl rfl rfl rfl (by omega) (getN (by omega))) ?_
        refine QL_cons rfl (QX_q rfl rfl (q_load_ept G rfl rfl rfl rfl rfl) (QL_cons rfl (QX_q rfl rfl (q_bne (G 4 _ rfl).1 rfl rfl rfl) (?_))))
        refine QL_nil (hK10 _ ?_)
        clear hK10 K10
        refine W_cond rfl (fun h3 => ?_) (fun h3 => ?_)
        · try rw [h3]
          try simp only [rfb] at h3
          refine W_seq (fun K11 hK11 => ?_)
          refine W_region (WL_cons rfl (WX_q rfl rfl (q_assign rfl rfl) (?_)))
          refine WL_nil (hK11 _ ?_)
          clear hK11 K11
          refine W_ret (fin_one rfl (rc_v ?_))
          all_goals clear hK9 K9 hK5 K5
          all_goals (first | (have e : xs ≠ ys := fun e => (by (subst e; simp_all; done)); simp [e]; done) | (have e : xs = ys := eq_true_of (by omega) hinv.2 (by omega); simp [e]; done) | (have e : xs ≠ ys := eq_false_of (i := i) (fun e => (by simp_all)); simp [e]; done))
        · try rw [h3]
          try simp only [rfb] at h3
          refine W_skip (hK9 _ ?_)
          clear hK9 K9
          refine W_region (WL_cons rfl (WX_q rfl rfl (q_move rfl rfl) (WL_cons rfl (?_))))
          first | refine WX_q rfl rfl (q_arith rfl rfl rfl rfl (by omega) (by omega)) ?_ | refine WX_q rfl rfl (q_wrap rfl rfl rfl rfl) ?_
          refine WL_cons rfl (WX_q rfl rfl (q_assign rfl rfl) (?_))
          refine WL_nil ⟨(i + 1), ?_, ?_, ⟨⟨_, rfl, by rfl⟩, rfl, trivial⟩, trivial, rfl, rfl, rfl⟩
          · exact ⟨by omega, upto_succ hinv.2 (by assumption)⟩
          · omega
      · try rw [h2]
        try simp only [rfb] at h2
        refine W_exit (hK5 _ ?_)
        clear hK7 K7 hK5 K5
        refine W_seq (fun K12 hK12 => ?_)
        refine W_region (WL_cons rfl (WX_q rfl rfl (q_assign rfl rfl) (?_)))
        refine WL_nil (hK12 _ ?_)
        clear hK12 K12
        refine W_ret (fin_one rfl (rc_v ?_))
        all_goals (first | (have e : xs ≠ ys := fun e => (by (subst e; simp_all; done)); simp [e]; done) | (have e : xs = ys := eq_true_of (by omega) hinv.2 (by omega); simp [e]; done) | (have e : xs ≠ ys := eq_false_of (i := i) (fun e => (by simp_all)); simp [e]; done))

theorem c_laws_eqIntS (xs ys : List Int) (hn : xs.length ≤ 9223372036854775807) : Ctr Tryz.prog 86 [.lst 1 (xs.map encI), .lst 1 (ys.map encI)] (.one (.v (.bool (decide (xs = ys))))) := by
  refine Ctr.of (n := 26) G Tryz.func86 rfl (by kernel_rfl) rfl rfl rfl (fun w0 => ?_)
  refine W_seq (fun K1 hK1 => ?_)
  refine W_region (WL_cons rfl (WX_q rfl rfl (q_assign rfl rfl) (?_)))
  refine WL_nil (hK1 _ ?_)
  clear hK1 K1
  refine W_seq (fun K2 hK2 => ?_)
  refine W_seq (fun K3 hK3 => ?_)
  refine W_region (WL_cons rfl (WX_q rfl rfl (q_move rfl rfl) (WL_cons rfl (?_))))
  first | refine WX_q rfl rfl (q_len' G rfl rfl rfl rfl (List.length_map _)) ?_ | refine WX_q rfl rfl (q_len G rfl rfl rfl rfl) ?_
  refine WL_cons rfl (WX_q rfl rfl (q_move rfl rfl) (WL_cons rfl (?_)))
  first | refine WX_q rfl rfl (q_len' G rfl rfl rfl rfl (List.length_map _)) ?_ | refine WX_q rfl rfl (q_len G rfl rfl rfl rfl) ?_
  refine WL_cons rfl (WX_q rfl rfl (q_cmp rfl rfl rfl rfl) (?_))
  refine WL_nil (hK3 _ ?_)
  clear hK3 K3
  refine W_cond rfl (fun h1 => ?_) (fun h1 => ?_)
  · try rw [h1]
    try simp only [rfb] at h1
    refine W_seq (fun K4 hK4 => ?_)
    refine W_region (WL_cons rfl (WX_q rfl rfl (q_assign rfl rfl) (?_)))
    refine WL_nil (hK4 _ ?_)
    clear hK4 K4
    refine W_ret (fin_one rfl (rc_v ?_))
    all_goals clear hK2 K2
    all_goals (first | (have e : xs ≠ ys := fun e => (by (subst e; simp_all; done)); simp [e]; done) | (have e : xs = ys := eq_true_of (by omega) hinv.2 (by omega); simp [e]; done) | (have e : xs ≠ ys := eq_false_of (i := i) (fun e => (by simp_all)); simp [e]; done))
  · try rw [h1]
    try simp only [rfb] at h1
    refine W_skip (hK2 _ ?_)
    clear hK2 K2
    refine W_seq (fun K5 hK5 => ?_)
    refine W_seq (fun K6 hK6 => ?_)
    refine W_region (WL_cons rfl (WX_q rfl rfl (q_assign rfl rfl) (?_)))
    refine WL_nil (hK6 _ ?_)
    clear hK6 K6
    refine W_block ?_
    refine W_loopK [0, 1] [] (fun (i : Nat) => [(5, .v (.int .i64 (i : Int)))]) (fun (i : Nat) => []) (fun (i : Nat) => i ≤ xs.length ∧ ∀ j, j < i → xs.getD j default = ys.getD j default) (fun (i : Nat) => xs.length - i) 0 rfl rfl ?_ ?_ ?_ ?_
    · exact ⟨Nat.zero_le _, fun j hj => by omega⟩
    · exact ⟨⟨_, rfl, by (first | rfl | (simp; done) | (simp; omega))⟩, rfl, trivial⟩
    · exact trivial
    · intro i hinv
      simp only [List.cons_append, List.nil_append]
      refine W_seq (fun K7 hK7 => ?_)
      refine W_seq (fun K8 hK8 => ?_)
      refine W_region (WL_cons rfl (WX_q rfl rfl (q_move rfl rfl) (WL_cons rfl (WX_q rfl rfl (q_move rfl rfl) (WL_cons rfl (?_))))))
      first | refine WX_q rfl rfl (q_len' G rfl rfl rfl rfl (List.length_map _)) ?_ | refine WX_q rfl rfl (q_len G rfl rfl rfl rfl) ?_
      refine WL_cons rfl (WX_q rfl rfl (q_cmp rfl rfl rfl rfl) (?_))
      refine WL_nil (hK8 _ ?_)
      clear hK8 K8
      refine W_cond rfl (fun h2 => ?_) (fun h2 => ?_)
      · try rw [h2]
        try simp only [rfb] at h2
        refine W_skip (hK7 _ ?_)
        clear hK7 K7
        refine W_seq (fun K9 hK9 => ?_)
        refine W_block ?_
        refine W_seq (fun K10 hK10 => ?_)
        refine W_draws mixed (by kernel_rfl) (QL_cons rfl (QX_q rfl rfl (q_move rfl rfl) (QL_cons rfl (QX_q rfl rfl (q_move rfl rfl) (QL_cons rfl (?_))))))
        refine QX_q rfl rfl (q_index_lst G rfl rfl rfl rfl (by omega) (getN (by omega))) ?_
        refine QL_cons rfl (QX_q rfl rfl (q_load_ept G rfl rfl rfl rfl rfl) (QL_cons rfl (QX_q rfl rfl (q_move rfl rfl) (QL_cons rfl (QX_q rfl rfl (q_move rfl rfl) (QL_cons rfl (?_)))))))
        refine QX_q rfl rfl (q_index_lst G rfl rfl rfl rfl (by omega) (getN (by omega))) ?_
        refine QL_cons rfl (QX_q rfl rfl (q_load_ept G rfl rfl rfl rfl rfl) (QL_cons rfl (QX_q rfl rfl (q_cmp rfl rfl rfl rfl) (?_))))
        refine QL_nil (hK10 _ ?_)
        clear hK10 K10
        refine W_cond rfl (fun h3 => ?_) (fun h3 => ?_)
        · try rw [h3]
          try simp only [rfb] at h3
          refine W_seq (fun K11 hK11 => ?_)
          refine W_region (WL_cons rfl (WX_q rfl rfl (q_assign rfl rfl) (?_)))
          refine WL_nil (hK11 _ ?_)
          clear hK11 K11
          refine W_ret (fin_one rfl (rc_v ?_))
          all_goals clear hK9 K9 hK5 K5
          all_goals (first | (have e : xs ≠ ys := fun e => (by (subst e; simp_all; done)); simp [e]; done) | (have e : xs = ys := eq_true_of (by omega) hinv.2 (by omega); simp [e]; done) | (have e : xs ≠ ys := eq_false_of (i := i) (fun e => (by simp_all)); simp [e]; done))
        · try rw [h3]
          try simp only [rfb] at h3
          refine W_skip (hK9 _ ?_)
          clear hK9 K9
          refine W_region (WL_cons rfl (WX_q rfl rfl (q_move rfl rfl) (WL_cons rfl (?_))))
          first | refine WX_q rfl rfl (q_arith rfl rfl rfl rfl (by omega) (by omega)) ?_ | refine WX_q rfl rfl (q_wrap rfl rfl rfl rfl) ?_
          refine WL_cons rfl (WX_q rfl rfl (q_assign rfl rfl) (?_))
          refine WL_nil ⟨(i + 1), ?_, ?_, ⟨⟨_, rfl, by rfl⟩, rfl, trivial⟩, trivial, rfl, rfl, rfl⟩
          · exact ⟨by omega, upto_succ hinv.2 (by assumption)⟩
          · omega
      · try rw [h2]
        try simp only [rfb] at h2
        refine W_exit (hK5 _ ?_)
        clear hK7 K7 hK5 K5
        refine W_seq (fun K12 hK12 => ?_)
        refine W_region (WL_cons rfl (WX_q rfl rfl (q_assign rfl rfl) (?_)))
        refine WL_nil (hK12 _ ?_)
        clear hK12 K12
        refine W_ret (fin_one rfl (rc_v ?_))
        all_goals (first | (have e : xs ≠ ys := fun e => (by (subst e; simp_all; done)); simp [e]; done) | (have e : xs = ys := eq_true_of (by omega) hinv.2 (by omega); simp [e]; done) | (have e : xs ≠ ys := eq_false_of (i := i) (fun e => (by simp_all)); simp [e]; done))

theorem c_laws_eqIntSS (xs ys : List (List Int)) (hn : xs.length ≤ 9223372036854775807) (hz : ∀ i, i < xs.length → (xs.getD i default).length ≤ 9223372036854775807) : Ctr Tryz.prog 87 [.nst none 1 (xs.map encSt), .nst none 1 (ys.map encSt)] (.one (.v (.bool (decide (xs = ys))))) := by
  refine Ctr.of (n := 27) G Tryz.func87 rfl (by kernel_rfl) rfl rfl rfl (fun w0 => ?_)
  refine W_seq (fun K1 hK1 => ?_)
  refine W_region (WL_cons rfl (WX_q rfl rfl (q_assign rfl rfl) (?_)))
  refine WL_nil (hK1 _ ?_)
  clear hK1 K1
  refine W_seq (fun K2 hK2 => ?_)
  refine W_seq (fun K3 hK3 => ?_)
  refine W_region (WL_cons rfl (WX_q rfl rfl (q_move rfl rfl) (WL_cons rfl (?_))))
  first | refine WX_q rfl rfl (q_len' G rfl rfl rfl rfl (List.length_map _)) ?_ | refine WX_q rfl rfl (q_len G rfl rfl rfl rfl) ?_
  refine WL_cons rfl (WX_q rfl rfl (q_move rfl rfl) (WL_cons rfl (?_)))
  first | refine WX_q rfl rfl (q_len' G rfl rfl rfl rfl (List.length_map _)) ?_ | refine WX_q rfl rfl (q_len G rfl rfl rfl rfl) ?_
  refine WL_cons rfl (WX_q rfl rfl (q_cmp rfl rfl rfl rfl) (?_))
  refine WL_nil (hK3 _ ?_)
  clear hK3 K3
  refine W_cond rfl (fun h1 => ?_) (fun h1 => ?_)
  · try rw [h1]
    try simp only [rfb] at h1
    refine W_seq (fun K4 hK4 => ?_)
    refine W_region (WL_cons rfl (WX_q rfl rfl (q_assign rfl rfl) (?_)))
    refine WL_nil (hK4 _ ?_)
    clear hK4 K4
    refine W_ret (fin_one rfl (rc_v ?_))
    all_goals clear hK2 K2
    all_goals (first | (have e : xs ≠ ys := fun e => (by (subst e; simp_all; done)); simp [e]; done) | (have e : xs = ys := eq_true_of (by omega) hinv.2 (by omega); simp [e]; done) | (have e : xs ≠ ys := eq_false_of (i := i) (fun e => (by simp_all)); simp [e]; done))
  · try rw [h1]
    try simp only [rfb] at h1
    refine W_skip (hK2 _ ?_)
    clear hK2 K2
    refine W_seq (fun K5 hK5 => ?_)
    refine W_seq (fun K6 hK6 => ?_)
    refine W_region (WL_cons rfl (WX_q rfl rfl (q_assign rfl rfl) (?_)))
    refine WL_nil (hK6 _ ?_)
    clear hK6 K6
    refine W_block ?_
    refine W_loopK [0, 1] [] (fun (i : Nat) => [(5, .v (.int .i64 (i : Int)))]) (fun (i : Nat) => []) (fun (i : Nat) => i ≤ xs.length ∧ ∀ j, j < i → xs.getD j default = ys.getD j default) (fun (i : Nat) => xs.length - i) 0 rfl rfl ?_ ?_ ?_ ?_
    · exact ⟨Nat.zero_le _, fun j hj => by omega⟩
    · exact ⟨⟨_, rfl, by (first | rfl | (simp; done) | (simp; omega))⟩, rfl, trivial⟩
    · exact trivial
    · intro i hinv
      simp only [List.cons_append, List.nil_append]
      refine W_seq (fun K7 hK7 => ?_)
      refine W_seq (fun K8 hK8 => ?_)
      refine W_region (WL_cons rfl (WX_q rfl rfl (q_move rfl rfl) (WL_cons rfl (WX_q rfl rfl (q_move rfl rfl) (WL_cons rfl (?_))))))
      first | refine WX_q rfl rfl (q_len' G rfl rfl rfl rfl (List.length_map _)) ?_ | refine WX_q rfl rfl (q_len G rfl rfl rfl rfl) ?_
      refine WL_cons rfl (WX_q rfl rfl (q_cmp rfl rfl rfl rfl) (?_))
      refine WL_nil (hK8 _ ?_)
      clear hK8 K8
      refine W_cond rfl (fun h2 => ?_) (fun h2 => ?_)
      · try rw [h2]
        try simp only [rfb] at h2
        refine W_skip (hK7 _ ?_)
        clear hK7 K7
        refine W_seq (fun K9 hK9 => ?_)
        refine W_block ?_
        refine W_seq (fun K10 hK10 => ?_)
        refine W_draws mixed (by kernel_rfl) (QL_cons rfl (QX_q rfl rfl (q_move rfl rfl) (QL_cons rfl (QX_q rfl rfl (q_move rfl rfl) (QL_cons rfl (?_))))))
        refine QX_q rfl rfl (q_index_nst G rfl rfl rfl rfl (by omega) (getN (by omega)) rfl) ?_
        refine QL_cons rfl (QX_q rfl rfl (q_load_eptN G rfl rfl rfl rfl) (QL_cons rfl (QX_q rfl rfl (q_move rfl rfl) (QL_cons rfl (QX_q rfl rfl (q_move rfl rfl) (QL_cons rfl (?_)))))))
        refine QX_q rfl rfl (q_index_nst G rfl rfl rfl rfl (by omega) (getN (by omega)) rfl) ?_
        refine QL_cons rfl (QX_q rfl rfl (q_load_eptN G rfl rfl rfl rfl) (QL_cons rfl (?_)))
        refine QX_q rfl rfl (q_call rfl (ArgsOK.of rfl) (c_laws_eqIntS _ _ (hz i (by omega))) rfl) ?_
        refine QL_cons rfl (QX_q rfl rfl (q_not rfl rfl) (?_))
        refine QL_nil (hK10 _ ?_)
        clear hK10 K10
        refine W_cond rfl (fun h3 => ?_) (fun h3 => ?_)
        · try rw [h3]
          try simp only [rfb] at h3
          refine W_seq (fun K11 hK11 => ?_)
          refine W_region (WL_cons rfl (WX_q rfl rfl (q_assign rfl rfl) (?_)))
          refine WL_nil (hK11 _ ?_)
          clear hK11 K11
          refine W_ret (fin_one rfl (rc_v ?_))
          all_goals clear hK9 K9 hK5 K5
          all_goals (first | (have e : xs ≠ ys := fun e => (by (subst e; simp_all; done)); simp [e]; done) | (have e : xs = ys := eq_true_of (by omega) hinv.2 (by omega); simp [e]; done) | (have e : xs ≠ ys := eq_false_of (i := i) (fun e => (by simp_all)); simp [e]; done))
        · try rw [h3]
          try simp only [rfb] at h3
          refine W_skip (hK9 _ ?_)
          clear hK9 K9
          refine W_region (WL_cons rfl (WX_q rfl rfl (q_move rfl rfl) (WL_cons rfl (?_))))
          first | refine WX_q rfl rfl (q_arith rfl rfl rfl rfl (by omega) (by omega)) ?_ | refine WX_q rfl rfl (q_wrap rfl rfl rfl rfl) ?_
          refine WL_cons rfl (WX_q rfl rfl (q_assign rfl rfl) (?_))
          refine WL_nil ⟨(i + 1), ?_, ?_, ⟨⟨_, rfl, by rfl⟩, rfl, trivial⟩, trivial, rfl, rfl, rfl⟩
          · exact ⟨by omega, upto_succ hinv.2 (by first | assumption | (simp_all; done))⟩
          · omega
      · try rw [h2]
        try simp only [rfb] at h2
        refine W_exit (hK5 _ ?_)
        clear hK7 K7 hK5 K5
        refine W_seq (fun K12 hK12 => ?_)
        refine W_region (WL_cons rfl (WX_q rfl rfl (q_assign rfl rfl) (?_)))
        refine WL_nil (hK12 _ ?_)
        clear hK12 K12
        refine W_ret (fin_one rfl (rc_v ?_))
        all_goals (first | (have e : xs ≠ ys := fun e => (by (subst e; simp_all; done)); simp [e]; done) | (have e : xs = ys := eq_true_of (by omega) hinv.2 (by omega); simp [e]; done) | (have e : xs ≠ ys := eq_false_of (i := i) (fun e => (by simp_all)); simp [e]; done))

theorem c_laws_eqAbstract (x y : Abs) (hb : BigA x) : Ctr Tryz.prog 28 [.agg [.lst 1 (x.en.map encO), .lst 1 (x.ra.map encO), .lst 1 (x.po.map encO), .lst 1 (x.ma.map encI), .nst none 1 (x.st.map encSt)], .agg [.lst 1 (y.en.map encO), .lst 1 (y.ra.map encO), .lst 1 (y.po.map encO), .lst 1 (y.ma.map encI), .nst none 1 (y.st.map encSt)]] (.one (.v (.bool (eqAb x y)))) := by
  refine Ctr.of (n := 35) G Tryz.func28 rfl (by kernel_rfl) rfl rfl rfl (fun w0 => ?_)
  refine W_pinS 0 rfl (fun _ => rfl) (fun u0 => ?_)
  refine W_pinS 1 rfl (fun _ => rfl) (fun u1 => ?_)
  refine W_seq (fun K1 hK1 => ?_)
  refine W_region (WL_cons rfl (WX_box 1 rfl rfl rfl rfl rfl rfl rfl (WL_cons rfl (WX_box 2 rfl rfl rfl rfl rfl rfl rfl (WL_cons rfl (WX_q rfl rfl (q_assign rfl rfl) (?_)))))))
  refine WL_nil (hK1 _ ?_)
  clear hK1 K1
  refine W_seq (fun K2 hK2 => ?_)
  refine W_seq (fun K3 hK3 => ?_)
  refine W_region (WL_cons rfl (WX_q rfl rfl (q_field_ptr G rfl rfl rfl rfl) (WL_cons rfl (WX_q rfl rfl (q_lst (q_load_box G rfl rfl rfl rfl rfl rfl rfl)) (WL_cons rfl (WX_q rfl rfl (q_field_ptr G rfl rfl rfl rfl) (WL_cons rfl (WX_q rfl rfl (q_lst (q_load_box G rfl rfl rfl rfl rfl rfl rfl)) (WL_cons rfl (?_))))))))))
  refine WX_q rfl rfl (q_call rfl (ArgsOK.of rfl) (c_laws_eqBoolS x.en y.en hb.en) rfl) ?_
  refine WL_cons rfl (WX_q rfl rfl (q_not rfl rfl) (?_))
  refine WL_nil (hK3 _ ?_)
  clear hK3 K3
  refine W_cond rfl (fun h1 => ?_) (fun h1 => ?_)
  · try rw [h1]
    try simp only [rfb] at h1
    refine W_seq (fun K4 hK4 => ?_)
    refine W_region (WL_cons rfl (WX_q rfl rfl (q_assign rfl rfl) (?_)))
    refine WL_nil (hK4 _ ?_)
    clear hK4 K4
    refine W_ret (fin_one rfl (rc_v ?_))
    all_goals clear hK2 K2
    all_goals (first | rfl | (simp_all [eqAb]; done))
  · try rw [h1]
    try simp only [rfb] at h1
    refine W_skip (hK2 _ ?_)
    clear hK2 K2
    refine W_seq (fun K5 hK5 => ?_)
    refine W_seq (fun K6 hK6 => ?_)
    refine W_region (WL_cons rfl (WX_q rfl rfl (q_field_ptr G rfl rfl rfl rfl) (WL_cons rfl (WX_q rfl rfl (q_lst (q_load_box G rfl rfl rfl rfl rfl rfl rfl)) (WL_cons rfl (WX_q rfl rfl (q_field_ptr G rfl rfl rfl rfl) (WL_cons rfl (WX_q rfl rfl (q_lst (q_load_box G rfl rfl rfl rfl rfl rfl rfl)) (WL_cons rfl (?_))))))))))
    refine WX_q rfl rfl (q_call rfl (ArgsOK.of rfl) (c_laws_eqBoolS x.ra y.ra hb.ra) rfl) ?_
    refine WL_cons rfl (WX_q rfl rfl (q_not rfl rfl) (?_))
    refine WL_nil (hK6 _ ?_)
    clear hK6 K6
    refine W_cond rfl (fun h2 => ?_) (fun h2 => ?_)
    · try rw [h2]
      try simp only [rfb] at h2
      refine W_seq (fun K7 hK7 => ?_)
      refine W_region (WL_cons rfl (WX_q rfl rfl (q_assign rfl rfl) (?_)))
      refine WL_nil (hK7 _ ?_)
      clear hK7 K7
      refine W_ret (fin_one rfl (rc_v ?_))
      all_goals clear hK5 K5
      all_goals (first | rfl | (simp_all [eqAb]; done))
    · try rw [h2]
      try simp only [rfb] at h2
      refine W_skip (hK5 _ ?_)
      clear hK5 K5
      refine W_seq (fun K8 hK8 => ?_)
      refine W_seq (fun K9 hK9 => ?_)
      refine W_region (WL_cons rfl (WX_q rfl rfl (q_field_ptr G rfl rfl rfl rfl) (WL_cons rfl (WX_q rfl rfl (q_lst (q_load_box G rfl rfl rfl rfl rfl rfl rfl)) (WL_cons rfl (WX_q rfl rfl (q_field_ptr G rfl rfl rfl rfl) (WL_cons rfl (WX_q rfl rfl (q_lst (q_load_box G rfl rfl rfl rfl rfl rfl rfl)) (WL_cons rfl (?_))))))))))
      refine WX_q rfl rfl (q_call rfl (ArgsOK.of rfl) (c_laws_eqBoolS x.po y.po hb.po) rfl) ?_
      refine WL_cons rfl (WX_q rfl rfl (q_not rfl rfl) (?_))
      refine WL_nil (hK9 _ ?_)
      clear hK9 K9
      refine W_cond rfl (fun h3 => ?_) (fun h3 => ?_)
      · try rw [h3]
        try simp only [rfb] at h3
        refine W_seq (fun K10 hK10 => ?_)
        refine W_region (WL_cons rfl (WX_q rfl rfl (q_assign rfl rfl) (?_)))
        refine WL_nil (hK10 _ ?_)
        clear hK10 K10
        refine W_ret (fin_one rfl (rc_v ?_))
        all_goals clear hK8 K8
        all_goals (first | rfl | (simp_all [eqAb]; done))
      · try rw [h3]
        try simp only [rfb] at h3
        refine W_skip (hK8 _ ?_)
        clear hK8 K8
        refine W_seq (fun K11 hK11 => ?_)
        refine W_seq (fun K12 hK12 => ?_)
        refine W_region (WL_cons rfl (WX_q rfl rfl (q_field_ptr G rfl rfl rfl rfl) (WL_cons rfl (WX_q rfl rfl (q_lst (q_load_box G rfl rfl rfl rfl rfl rfl rfl)) (WL_cons rfl (WX_q rfl rfl (q_field_ptr G rfl rfl rfl rfl) (WL_cons rfl (WX_q rfl rfl (q_lst (q_load_box G rfl rfl rfl rfl rfl rfl rfl)) (WL_cons rfl (?_))))))))))
        refine WX_q rfl rfl (q_call rfl (ArgsOK.of rfl) (c_laws_eqIntS x.ma y.ma hb.ma) rfl) ?_
        refine WL_cons rfl (WX_q rfl rfl (q_not rfl rfl) (?_))
        refine WL_nil (hK12 _ ?_)
        clear hK12 K12
        refine W_cond rfl (fun h4 => ?_) (fun h4 => ?_)
        · try rw [h4]
          try simp only [rfb] at h4
          refine W_seq (fun K13 hK13 => ?_)
          refine W_region (WL_cons rfl (WX_q rfl rfl (q_assign rfl rfl) (?_)))
          refine WL_nil (hK13 _ ?_)
          clear hK13 K13
          refine W_ret (fin_one rfl (rc_v ?_))
          all_goals clear hK11 K11
          all_goals (first | rfl | (simp_all [eqAb]; done))
        · try rw [h4]
          try simp only [rfb] at h4
          refine W_skip (hK11 _ ?_)
          clear hK11 K11
          refine W_seq (fun K14 hK14 => ?_)
          refine W_seq (fun K15 hK15 => ?_)
          refine W_region (WL_cons rfl (WX_q rfl rfl (q_field_ptr G rfl rfl rfl rfl) (WL_cons rfl (WX_q rfl rfl (q_nst (q_load_box G rfl rfl rfl rfl rfl rfl rfl)) (WL_cons rfl (WX_q rfl rfl (q_field_ptr G rfl rfl rfl rfl) (WL_cons rfl (WX_q rfl rfl (q_nst (q_load_box G rfl rfl rfl rfl rfl rfl rfl)) (WL_cons rfl (?_))))))))))
          refine WX_q rfl rfl (q_call rfl (ArgsOK.of rfl) (c_laws_eqIntSS x.st y.st hb.st hb.all) rfl) ?_
          refine WL_cons rfl (WX_q rfl rfl (q_not rfl rfl) (?_))
          refine WL_nil (hK15 _ ?_)
          clear hK15 K15
          refine W_cond rfl (fun h5 => ?_) (fun h5 => ?_)
          · try rw [h5]
            try simp only [rfb] at h5
            refine W_seq (fun K16 hK16 => ?_)
            refine W_region (WL_cons rfl (WX_q rfl rfl (q_assign rfl rfl) (?_)))
            refine WL_nil (hK16 _ ?_)
            clear hK16 K16
            refine W_ret (fin_one rfl (rc_v ?_))
            all_goals clear hK14 K14
            all_goals (first | rfl | (simp_all [eqAb]; done))
          · try rw [h5]
            try simp only [rfb] at h5
            refine W_skip (hK14 _ ?_)
            clear hK14 K14
            refine W_seq (fun K17 hK17 => ?_)
            refine W_region (WL_cons rfl (WX_q rfl rfl (q_assign rfl rfl) (?_)))
            refine WL_nil (hK17 _ ?_)
            clear hK17 K17
            refine W_ret (fin_one rfl (rc_v ?_))
            all_goals (first | rfl | (simp_all [eqAb]; done))

theorem c_impl_areRoutes_1 (x : Route) (c : Int) (hc : 1 ≤ c ∧ c ≤ 2) : Ctr Tryz.prog 165 [.v (encRt x), .ept [.int .i64 c]] (.one (.v (.bool (!okRt c x)))) := by
  refine Ctr.of (n := 16) G Tryz.func165 rfl (by kernel_rfl) rfl rfl rfl (fun w0 => ?_)
  refine W_seq (fun K1 hK1 => ?_)
  refine W_region (WL_cons rfl (WX_box 1 rfl rfl rfl rfl rfl rfl rfl (WL_cons rfl (WX_q rfl rfl (q_assign rfl rfl) (?_)))))
  refine WL_nil (hK1 _ ?_)
  clear hK1 K1
  refine W_seq (fun K2 hK2 => ?_)
  refine W_region (WL_cons rfl (WX_q rfl rfl (q_field_ptr G rfl rfl rfl rfl) (WL_cons rfl (WX_q rfl rfl (q_load_box G rfl rfl rfl rfl rfl rfl rfl) (WL_cons rfl (?_))))))
  refine WX_q rfl rfl (q_call rfl (ArgsOK.of rfl) (c_impl_isPriority _) rfl) ?_
  refine WL_cons rfl (WX_q rfl rfl (q_not rfl rfl) (WL_cons rfl (WX_q rfl rfl (q_move rfl rfl) (WL_part rfl rfl rfl (fun h1 => ?_) (fun h1 => ?_)))))
  · try rw [h1]
    try simp only [rfb] at h1
    refine WL_skip rfl rfl rfl rfl rfl rfl (WL_skip rfl rfl rfl rfl rfl rfl (WL_skip rfl rfl rfl rfl rfl rfl (WL_skip rfl rfl rfl rfl rfl rfl (WL_skip rfl rfl rfl rfl rfl rfl (WL_skip rfl rfl rfl rfl rfl rfl (WL_cons rfl (WX_q rfl rfl (q_pick_t rfl rfl rfl) (WL_cons rfl (WX_q rfl rfl (q_assign rfl rfl) (?_))))))))))
    refine WL_nil (hK2 _ ?_)
    clear hK2 K2
    refine W_ret (fin_one rfl (rc_v ?_))
    all_goals (first | rfl | (simp_all [okRt]; done))
  · try rw [h1]
    try simp only [rfb] at h1
    refine WL_run rfl rfl rfl (WX_q rfl rfl (q_field_ptr G rfl rfl rfl rfl) (WL_run rfl rfl rfl (WX_q rfl rfl (q_load_box G rfl rfl rfl rfl rfl rfl rfl) (WL_run rfl rfl rfl (WX_q rfl rfl (q_load_ept G rfl rfl rfl rfl rfl) (WL_run rfl rfl rfl (?_)))))))
    first | refine WX_q rfl rfl (q_arith rfl rfl rfl rfl (by omega) (by omega)) ?_ | refine WX_q rfl rfl (q_wrap rfl rfl rfl rfl) ?_
    refine WL_run rfl rfl rfl (?_)
    refine WX_q rfl rfl (q_call rfl (ArgsOK.of rfl) (c_impl_inside _ _ _) rfl) ?_
    refine WL_run rfl rfl rfl (WX_q rfl rfl (q_not rfl rfl) (WL_cons rfl (WX_q rfl rfl (q_pick_f rfl rfl rfl) (WL_cons rfl (WX_q rfl rfl (q_assign rfl rfl) (?_))))))
    refine WL_nil (hK2 _ ?_)
    clear hK2 K2
    refine W_ret (fin_one rfl (rc_v ?_))
    all_goals (first | rfl | (simp_all [okRt]; done))

theorem c_slices_IndexFunc_impl_Route_impl_Route (xs : List Route) (f : Nat) (c : List Value) (p : Route → Bool) (hl : xs.length ≤ 1048576) (hf : ∀ i, i < xs.length → Ctr Tryz.prog f [.v (encRt (xs.getD i default)), .ept c] (.one (.v (.bool (p (xs.getD i default)))))) : Ctr Tryz.prog 205 [.lst 2 (xs.map encRo), .fnc f [.ept c]] (.one (.v (.int .i64 (idxN (fun i => p (xs.getD i default)) xs.length)))) := by
  refine Ctr.of (n := 19) G Tryz.func205 rfl (by kernel_rfl) rfl rfl rfl (fun w0 => ?_)
  refine W_seq (fun K1 hK1 => ?_)
  refine W_region (WL_cons rfl (WX_q rfl rfl (q_assign rfl rfl) (?_)))
  refine WL_nil (hK1 _ ?_)
  clear hK1 K1
  refine W_seq (fun K2 hK2 => ?_)
  refine W_seq (fun K3 hK3 => ?_)
  refine W_region (WL_cons rfl (WX_q rfl rfl (q_move rfl rfl) (WL_cons rfl (?_))))
  first | refine WX_q rfl rfl (q_len' G rfl rfl rfl rfl (List.length_map _)) ?_ | refine WX_q rfl rfl (q_len G rfl rfl rfl rfl) ?_
  refine WL_cons rfl (WX_q rfl rfl (q_move rfl rfl) (?_))
  refine WL_nil (hK3 _ ?_)
  clear hK3 K3
  refine W_block ?_
  refine W_loopK [0, 1, 7] [] (fun (i : Nat) => [(8, .v (.int .i64 (i : Int)))]) (fun (i : Nat) => []) (fun (i : Nat) => i ≤ xs.length ∧ ∀ j, j < i → p (xs.getD j default) = false) (fun (i : Nat) => xs.length - i) 0 rfl rfl ?_ ?_ ?_ ?_
  · exact ⟨Nat.zero_le _, fun j hj => by omega⟩
  · exact ⟨⟨_, rfl, by (first | rfl | (simp; done) | (simp; omega))⟩, rfl, trivial⟩
  · exact trivial
  · intro i hinv
    simp only [List.cons_append, List.nil_append]
    refine W_seq (fun K4 hK4 => ?_)
    refine W_region (WL_cons rfl (WX_q rfl rfl (q_cmp rfl rfl rfl rfl) (?_)))
    refine WL_nil (hK4 _ ?_)
    clear hK4 K4
    refine W_seq (fun K5 hK5 => ?_)
    refine W_cond rfl (fun h1 => ?_) (fun h1 => ?_)
    · try rw [h1]
      try simp only [rfb] at h1
      refine W_skip (hK5 _ ?_)
      clear hK5 K5
      refine W_seq (fun K6 hK6 => ?_)
      refine W_block ?_
      refine W_seq (fun K7 hK7 => ?_)
      refine W_region (WL_cons rfl (WX_q rfl rfl (q_move rfl rfl) (WL_cons rfl (WX_q rfl rfl (q_assign rfl rfl) (?_)))))
      refine WL_nil (hK7 _ ?_)
      clear hK7 K7
      refine W_seq (fun K8 hK8 => ?_)
      refine W_region (WL_cons rfl (WX_q rfl rfl (q_move rfl rfl) (WL_cons rfl (WX_q rfl rfl (q_move rfl rfl) (WL_cons rfl (WX_q rfl rfl (q_move rfl rfl) (WL_cons rfl (?_))))))))
      refine WX_q rfl rfl (q_index_lst G rfl rfl rfl rfl (by omega) (getN (by omega))) ?_
      refine WL_cons rfl (WX_q rfl rfl (q_load_ept_struct G rfl rfl rfl rfl) (WL_cons rfl (?_)))
      refine WX_q rfl rfl (q_callc rfl rfl (ArgsOK.of rfl) rfl (hf _ (by omega)) rfl) ?_
      refine WL_nil (hK8 _ ?_)
      clear hK8 K8
      refine W_cond rfl (fun h2 => ?_) (fun h2 => ?_)
      · try rw [h2]
        try simp only [rfb] at h2
        refine W_seq (fun K9 hK9 => ?_)
        refine W_region (WL_cons rfl (WX_q rfl rfl (q_move rfl rfl) (WL_cons rfl (WX_q rfl rfl (q_assign rfl rfl) (?_)))))
        refine WL_nil (hK9 _ ?_)
        clear hK9 K9
        refine W_ret (fin_one rfl (rc_v ?_))
        all_goals clear hK6 K6 hK2 K2
        all_goals (first | (rw [idx_some (i := i) hinv.2 (by omega) (by assumption)]; done) | (rw [idx_none hinv.2 (by omega)]; done))
      · try rw [h2]
        try simp only [rfb] at h2
        refine W_skip (hK6 _ ?_)
        clear hK6 K6
        refine W_region (WL_cons rfl (?_))
        first | refine WX_q rfl rfl (q_arith rfl rfl rfl rfl (by omega) (by omega)) ?_ | refine WX_q rfl rfl (q_wrap rfl rfl rfl rfl) ?_
        refine WL_cons rfl (WX_q rfl rfl (q_move rfl rfl) (?_))
        refine WL_nil ⟨(i + 1), ?_, ?_, ⟨⟨_, rfl, by rfl⟩, rfl, trivial⟩, trivial, rfl, rfl, rfl⟩
        · exact ⟨by omega, upto_succ hinv.2 (by assumption)⟩
        · omega
    · try rw [h1]
      try simp only [rfb] at h1
      refine W_exit (hK2 _ ?_)
      clear hK5 K5 hK2 K2
      refine W_seq (fun K10 hK10 => ?_)
      refine W_region (WL_cons rfl (WX_q rfl rfl (q_assign rfl rfl) (?_)))
      refine WL_nil (hK10 _ ?_)
      clear hK10 K10
      refine W_ret (fin_one rfl (rc_v ?_))
      all_goals (first | (rw [idx_some (i := i) hinv.2 (by omega) (by assumption)]; done) | (rw [idx_none hinv.2 (by omega)]; done))

theorem c_slices_ContainsFunc_impl_Route_impl_Route (xs : List Route) (f : Nat) (c : List Value) (p : Route → Bool) (hl : xs.length ≤ 1048576) (hf : ∀ i, i < xs.length → Ctr Tryz.prog f [.v (encRt (xs.getD i default)), .ept c] (.one (.v (.bool (p (xs.getD i default)))))) : Ctr Tryz.prog 164 [.lst 2 (xs.map encRo), .fnc f [.ept c]] (.one (.v (.bool (anyN xs.length (fun i => p (xs.getD i default)))))) := by
  refine Ctr.of (n := 9) G Tryz.func164 rfl (by kernel_rfl) rfl rfl rfl (fun w0 => ?_)
  refine W_seq (fun K1 hK1 => ?_)
  refine W_region (WL_cons rfl (WX_q rfl rfl (q_assign rfl rfl) (?_)))
  refine WL_nil (hK1 _ ?_)
  clear hK1 K1
  refine W_seq (fun K2 hK2 => ?_)
  refine W_region (WL_cons rfl (WX_q rfl rfl (q_move rfl rfl) (WL_cons rfl (WX_q rfl rfl (q_move rfl rfl) (WL_cons rfl (?_))))))
  refine WX_q rfl rfl (q_call rfl (ArgsOK.of rfl) (c_slices_IndexFunc_impl_Route_impl_Route xs f c p hl hf) rfl) ?_
  refine WL_cons rfl (WX_q rfl rfl (q_cmp rfl rfl rfl rfl) (WL_cons rfl (WX_q rfl rfl (q_assign rfl rfl) (?_))))
  refine WL_nil (hK2 _ ?_)
  clear hK2 K2
  refine W_ret (fin_one rfl (rc_v ?_))
  all_goals (rw [idx_any])

theorem c_impl_areRoutes (rs : List Route) (c : Int) (hn : rs.length ≤ 9223372036854775807) : Ctr Tryz.prog 113 [.lst 2 (rs.map encRo), .v (.int .i64 c)] (.one (.v (.bool (okRts rs c)))) := by
  refine Ctr.of (n := 18) G Tryz.func113 rfl (by kernel_rfl) rfl rfl rfl (fun w0 => ?_)
  refine W_seq (fun K1 hK1 => ?_)
  refine W_region (WL_cons rfl (WX_box 1 rfl rfl rfl rfl rfl rfl rfl (WL_cons rfl (WX_q rfl rfl (q_assign rfl rfl) (?_)))))
  refine WL_nil (hK1 _ ?_)
  clear hK1 K1
  refine W_seq (fun K2 hK2 => ?_)
  refine W_region (WL_cons rfl (WX_q rfl rfl (q_load_box G rfl rfl rfl rfl rfl rfl rfl) (WL_cons rfl (?_))))
  refine WX_q rfl rfl (q_call rfl (ArgsOK.of rfl) (c_impl_inside _ _ _) rfl) ?_
  refine WL_cons rfl (WX_q rfl rfl (q_move rfl rfl) (WL_part rfl rfl rfl (fun h1 => ?_) (fun h1 => ?_)))
  · try rw [h1]
    try simp only [rfb] at h1
    refine WL_run rfl rfl rfl (WX_q rfl rfl (q_move rfl rfl) (WL_run rfl rfl rfl (?_)))
    first | refine WX_q rfl rfl (q_len' G rfl rfl rfl rfl (List.length_map _)) ?_ | refine WX_q rfl rfl (q_len G rfl rfl rfl rfl) ?_
    refine WL_run rfl rfl rfl (WX_q rfl rfl (q_cmp rfl rfl rfl rfl) (WL_cons rfl (WX_q rfl rfl (q_pick_t rfl rfl rfl) (WL_cons rfl (WX_q rfl rfl (q_move rfl rfl) (WL_part rfl rfl rfl (fun h2 => ?_) (fun h2 => ?_)))))))
    · try rw [h2]
      try simp only [rfb] at h2
      refine WL_run rfl rfl rfl (WX_q rfl rfl (q_move rfl rfl) (WL_run rfl rfl rfl (WX_q rfl rfl (q_func rfl rfl) (WL_run rfl rfl rfl (?_)))))
      refine WX_q rfl rfl (q_call rfl (ArgsOK.of rfl) (c_slices_ContainsFunc_impl_Route_impl_Route rs 165 [.int .i64 c] (fun x => !okRt c x) (by omega) (fun k hk => c_impl_areRoutes_1 _ _ (inside_t.mp (by assumption)))) rfl) ?_
      refine WL_run rfl rfl rfl (WX_q rfl rfl (q_not rfl rfl) (WL_cons rfl (WX_q rfl rfl (q_pick_t rfl rfl rfl) (WL_cons rfl (WX_q rfl rfl (q_assign rfl rfl) (?_))))))
      refine WL_nil (hK2 _ ?_)
      clear hK2 K2
      refine W_ret (fin_one rfl (rc_v ?_))
      all_goals (first | rfl | (simp only [okRts, h1, Bool.true_and, Bool.false_and]; done) | (have e8 : rs.length = 8 := Int.ofNat_inj.mp h2; simp only [okRts, h1, e8, decide_true, Bool.true_and, anyN, Bool.not_not]; done) | (simp only [okRts, h1, show ¬ rs.length = 8 from (fun h => h2 (by rw [h]; rfl)), decide_false, Bool.false_and, Bool.and_false]; done))
    · try rw [h2]
      try simp only [rfb] at h2
      refine WL_skip rfl rfl rfl rfl rfl rfl (WL_skip rfl rfl rfl rfl rfl rfl (WL_skip rfl rfl rfl rfl rfl rfl (WL_skip rfl rfl rfl rfl rfl rfl (WL_cons rfl (WX_q rfl rfl (q_pick_f rfl rfl rfl) (WL_cons rfl (WX_q rfl rfl (q_assign rfl rfl) (?_))))))))
      refine WL_nil (hK2 _ ?_)
      clear hK2 K2
      refine W_ret (fin_one rfl (rc_v ?_))
      all_goals (first | rfl | (simp only [okRts, h1, Bool.true_and, Bool.false_and]; done) | (have e8 : rs.length = 8 := Int.ofNat_inj.mp h2; simp only [okRts, h1, e8, decide_true, Bool.true_and, anyN, Bool.not_not]; done) | (simp only [okRts, h1, show ¬ rs.length = 8 from (fun h => h2 (by rw [h]; rfl)), decide_false, Bool.false_and, Bool.and_false]; done))
  · try rw [h1]
    try simp only [rfb] at h1
    refine WL_skip rfl rfl rfl rfl rfl rfl (WL_skip rfl rfl rfl rfl rfl rfl (WL_skip rfl rfl rfl rfl rfl rfl (WL_cons rfl (WX_q rfl rfl (q_pick_f rfl rfl rfl) (WL_cons rfl (WX_q rfl rfl (q_move rfl rfl) (WL_skip rfl rfl rfl rfl rfl rfl (WL_skip rfl rfl rfl rfl rfl rfl (WL_skip rfl rfl rfl rfl rfl rfl (WL_skip rfl rfl rfl rfl rfl rfl (WL_cons rfl (WX_q rfl rfl (q_pick_f rfl rfl rfl) (WL_cons rfl (WX_q rfl rfl (q_assign rfl rfl) (?_)))))))))))))))
    refine WL_nil (hK2 _ ?_)
    clear hK2 K2
    refine W_ret (fin_one rfl (rc_v ?_))
    all_goals (first | rfl | (simp only [okRts, h1, Bool.true_and, Bool.false_and]; done) | (have e8 : rs.length = 8 := Int.ofNat_inj.mp h2; simp only [okRts, h1, e8, decide_true, Bool.true_and, anyN, Bool.not_not]; done) | (simp only [okRts, h1, show ¬ rs.length = 8 from (fun h => h2 (by rw [h]; rfl)), decide_false, Bool.false_and, Bool.and_false]; done))

theorem c_spec_l21Routes (rs : List Route) (c : Int) (hn : rs.length ≤ 1048576) (hc : 0 ≤ c ∧ c ≤ 1048576) : Ctr Tryz.prog 130 [.lst 2 (rs.map encRo), .v (.int .i64 c)] (.one (.v (.bool (okRts rs c)))) := by
  refine Ctr.of (n := 37) G Tryz.func130 rfl (by kernel_rfl) rfl rfl rfl (fun w0 => ?_)
  refine W_seq (fun K1 hK1 => ?_)
  refine W_region (WL_cons rfl (WX_q rfl rfl (q_assign rfl rfl) (?_)))
  refine WL_nil (hK1 _ ?_)
  clear hK1 K1
  refine W_seq (fun K2 hK2 => ?_)
  refine W_seq (fun K3 hK3 => ?_)
  refine W_region (WL_cons rfl (WX_q rfl rfl (q_assign rfl rfl) (?_)))
  refine WL_nil (hK3 _ ?_)
  clear hK3 K3
  refine W_block ?_
  refine W_loopK [0, 1] [] (fun (i : Nat) => [(5, .v (.int .i64 (i : Int)))]) (fun (i : Nat) => []) (fun (i : Nat) => i ≤ rs.length ∧ ∀ j, j < i → okRt c (rs.getD j default) = true) (fun (i : Nat) => rs.length - i) 0 rfl rfl ?_ ?_ ?_ ?_
  · exact ⟨Nat.zero_le _, fun j hj => by omega⟩
  · exact ⟨⟨_, rfl, by (first | rfl | (simp; done) | (simp; omega))⟩, rfl, trivial⟩
  · exact trivial
  · intro i hinv
    simp only [List.cons_append, List.nil_append]
    refine W_seq (fun K4 hK4 => ?_)
    refine W_seq (fun K5 hK5 => ?_)
    refine W_region (WL_cons rfl (WX_q rfl rfl (q_move rfl rfl) (WL_cons rfl (WX_q rfl rfl (q_move rfl rfl) (WL_cons rfl (?_))))))
    first | refine WX_q rfl rfl (q_len' G rfl rfl rfl rfl (List.length_map _)) ?_ | refine WX_q rfl rfl (q_len G rfl rfl rfl rfl) ?_
    refine WL_cons rfl (WX_q rfl rfl (q_cmp rfl rfl rfl rfl) (?_))
    refine WL_nil (hK5 _ ?_)
    clear hK5 K5
    refine W_cond rfl (fun h1 => ?_) (fun h1 => ?_)
    · try rw [h1]
      try simp only [rfb] at h1
      refine W_skip (hK4 _ ?_)
      clear hK4 K4
      refine W_seq (fun K6 hK6 => ?_)
      refine W_block ?_
      refine W_seq (fun K7 hK7 => ?_)
      refine W_region (WL_cons rfl (WX_q rfl rfl (q_move rfl rfl) (WL_cons rfl (WX_q rfl rfl (q_move rfl rfl) (WL_cons rfl (?_))))))
      refine WX_q rfl rfl (q_index_lst G rfl rfl rfl rfl (by omega) (getN (by omega))) ?_
      refine WL_cons rfl (WX_q rfl rfl (q_field_ept G rfl rfl rfl rfl) (WL_cons rfl (WX_q rfl rfl (q_load_ept G rfl rfl rfl rfl rfl) (WL_cons rfl (?_)))))
      refine WX_q rfl rfl (q_call rfl (ArgsOK.of rfl) (c_spec_l6Prio _) rfl) ?_
      refine WL_cons rfl (WX_q rfl rfl (q_not rfl rfl) (WL_cons rfl (WX_q rfl rfl (q_move rfl rfl) (WL_part rfl rfl rfl (fun h2 => ?_) (fun h2 => ?_)))))
      · try rw [h2]
        try simp only [rfb] at h2
        refine WL_skip rfl rfl rfl rfl rfl rfl (WL_skip rfl rfl rfl rfl rfl rfl (WL_skip rfl rfl rfl rfl rfl rfl (WL_skip rfl rfl rfl rfl rfl rfl (WL_skip rfl rfl rfl rfl rfl rfl (WL_skip rfl rfl rfl rfl rfl rfl (WL_skip rfl rfl rfl rfl rfl rfl (WL_skip rfl rfl rfl rfl rfl rfl (WL_skip rfl rfl rfl rfl rfl rfl (WL_cons rfl (WX_q rfl rfl (q_pick_t rfl rfl rfl) (?_)))))))))))
        refine WL_nil (hK7 _ ?_)
        clear hK7 K7
        refine W_true rfl ?_
        refine W_seq (fun K8 hK8 => ?_)
        refine W_region (WL_cons rfl (WX_q rfl rfl (q_assign rfl rfl) (?_)))
        refine WL_nil (hK8 _ ?_)
        clear hK8 K8
        refine W_ret (fin_one rfl (rc_v ?_))
        all_goals clear hK6 K6 hK2 K2
        all_goals (first | (have e : allN rs.length (fun i => okRt c (rs.getD i default)) = false := allN_f (i := i) (by simp_all [okRt]) (by omega); simp only [okRts, e, Bool.and_false]; done) | (have e : allN rs.length (fun i => okRt c (rs.getD i default)) = true := allN_t hinv.2 (by omega); first | (simp only [okRts, e, h4, beq8, Bool.and_true, Bool.true_and, Bool.false_and]; done)))
      · try rw [h2]
        try simp only [rfb] at h2
        refine WL_run rfl rfl rfl (WX_q rfl rfl (q_move rfl rfl) (WL_run rfl rfl rfl (WX_q rfl rfl (q_move rfl rfl) (WL_run rfl rfl rfl (?_)))))
        refine WX_q rfl rfl (q_index_lst G rfl rfl rfl rfl (by omega) (getN (by omega))) ?_
        refine WL_run rfl rfl rfl (WX_q rfl rfl (q_field_ept G rfl rfl rfl rfl) (WL_run rfl rfl rfl (WX_q rfl rfl (q_load_ept G rfl rfl rfl rfl rfl) (WL_run rfl rfl rfl (WX_q rfl rfl (q_move rfl rfl) (WL_run rfl rfl rfl (?_)))))))
        first | refine WX_q rfl rfl (q_arith rfl rfl rfl rfl (by omega) (by omega)) ?_ | refine WX_q rfl rfl (q_wrap rfl rfl rfl rfl) ?_
        refine WL_run rfl rfl rfl (?_)
        refine WX_q rfl rfl (q_call rfl (ArgsOK.of rfl) (c_spec_l1In _ _ _) rfl) ?_
        refine WL_run rfl rfl rfl (WX_q rfl rfl (q_not rfl rfl) (WL_cons rfl (WX_q rfl rfl (q_pick_f rfl rfl rfl) (?_))))
        refine WL_nil (hK7 _ ?_)
        clear hK7 K7
        refine W_cond rfl (fun h3 => ?_) (fun h3 => ?_)
        · try rw [h3]
          try simp only [rfb] at h3
          refine W_seq (fun K9 hK9 => ?_)
          refine W_region (WL_cons rfl (WX_q rfl rfl (q_assign rfl rfl) (?_)))
          refine WL_nil (hK9 _ ?_)
          clear hK9 K9
          refine W_ret (fin_one rfl (rc_v ?_))
          all_goals clear hK6 K6 hK2 K2
          all_goals (first | (have e : allN rs.length (fun i => okRt c (rs.getD i default)) = false := allN_f (i := i) (by simp_all [okRt]) (by omega); simp only [okRts, e, Bool.and_false]; done) | (have e : allN rs.length (fun i => okRt c (rs.getD i default)) = true := allN_t hinv.2 (by omega); first | (simp only [okRts, e, h4, beq8, Bool.and_true, Bool.true_and, Bool.false_and]; done)))
        · try rw [h3]
          try simp only [rfb] at h3
          refine W_skip (hK6 _ ?_)
          clear hK6 K6
          refine W_region (WL_cons rfl (WX_q rfl rfl (q_move rfl rfl) (WL_cons rfl (?_))))
          first | refine WX_q rfl rfl (q_arith rfl rfl rfl rfl (by omega) (by omega)) ?_ | refine WX_q rfl rfl (q_wrap rfl rfl rfl rfl) ?_
          refine WL_cons rfl (WX_q rfl rfl (q_assign rfl rfl) (?_))
          refine WL_nil ⟨(i + 1), ?_, ?_, ⟨⟨_, rfl, by rfl⟩, rfl, trivial⟩, trivial, rfl, rfl, rfl⟩
          · exact ⟨by omega, upto_succ hinv.2 (by simp_all [okRt])⟩
          · omega
    · try rw [h1]
      try simp only [rfb] at h1
      refine W_exit (hK2 _ ?_)
      clear hK4 K4 hK2 K2
      refine W_seq (fun K10 hK10 => ?_)
      refine W_region (WL_cons rfl (WX_q rfl rfl (q_move rfl rfl) (WL_cons rfl (?_))))
      refine WX_q rfl rfl (q_call rfl (ArgsOK.of rfl) (c_spec_l1In _ _ _) rfl) ?_
      refine WL_cons rfl (WX_q rfl rfl (q_move rfl rfl) (WL_part rfl rfl rfl (fun h4 => ?_) (fun h4 => ?_)))
      · try rw [h4]
        try simp only [rfb] at h4
        refine WL_run rfl rfl rfl (WX_q rfl rfl (q_move rfl rfl) (WL_run rfl rfl rfl (?_)))
        first | refine WX_q rfl rfl (q_len' G rfl rfl rfl rfl (List.length_map _)) ?_ | refine WX_q rfl rfl (q_len G rfl rfl rfl rfl) ?_
        refine WL_run rfl rfl rfl (WX_q rfl rfl (q_cmp rfl rfl rfl rfl) (WL_cons rfl (WX_q rfl rfl (q_pick_t rfl rfl rfl) (WL_cons rfl (WX_q rfl rfl (q_assign rfl rfl) (?_))))))
        refine WL_nil (hK10 _ ?_)
        clear hK10 K10
        refine W_ret (fin_one rfl (rc_v ?_))
        all_goals (first | (have e : allN rs.length (fun i => okRt c (rs.getD i default)) = false := allN_f (i := i) (by simp_all [okRt]) (by omega); simp only [okRts, e, Bool.and_false]; done) | (have e : allN rs.length (fun i => okRt c (rs.getD i default)) = true := allN_t hinv.2 (by omega); first | (simp only [okRts, e, h4, beq8, Bool.and_true, Bool.true_and, Bool.false_and]; done)))
      · try rw [h4]
        try simp only [rfb] at h4
        refine WL_skip rfl rfl rfl rfl rfl rfl (WL_skip rfl rfl rfl rfl rfl rfl (WL_skip rfl rfl rfl rfl rfl rfl (WL_cons rfl (WX_q rfl rfl (q_pick_f rfl rfl rfl) (WL_cons rfl (WX_q rfl rfl (q_assign rfl rfl) (?_)))))))
        refine WL_nil (hK10 _ ?_)
        clear hK10 K10
        refine W_ret (fin_one rfl (rc_v ?_))
        all_goals (first | (have e : allN rs.length (fun i => okRt c (rs.getD i default)) = false := allN_f (i := i) (by simp_all [okRt]) (by omega); simp only [okRts, e, Bool.and_false]; done) | (have e : allN rs.length (fun i => okRt c (rs.getD i default)) = true := allN_t hinv.2 (by omega); first | (simp only [okRts, e, h4, beq8, Bool.and_true, Bool.true_and, Bool.false_and]; done)))

end Go.Proofs.YtcnodpipinlpcaaGreat

/- Walks through functions of the program, one contract each (written by gen.py). -/
set_option maxRecDepth 20000
set_option linter.unusedVariables false
set_option linter.unusedSimpArgs false
namespace Go.Proofs.YtcnodpipinlpcaaGreat
open Go Go.Rf

theorem c_spec_l21Routes_bad (rs : List Route) (c : Int) (hn : rs.length ≤ 1048576) (hc : inside c 1 2 = false) : Ctr Tryz.prog 130 [.lst 2 (rs.map encRo), .v (.int .i64 c)] (.one (.v (.bool (false)))) := by
  refine Ctr.of (n := 37) G Tryz.func130 rfl (by kernel_rfl) rfl rfl rfl (fun w0 => ?_)
  refine W_seq (fun K1 hK1 => ?_)
  refine W_region (WL_cons rfl (WX_q rfl rfl (q_assign rfl rfl) (?_)))
  refine WL_nil (hK1 _ ?_)
  clear hK1 K1
  refine W_seq (fun K2 hK2 => ?_)
  refine W_seq (fun K3 hK3 => ?_)
  refine W_region (WL_cons rfl (WX_q rfl rfl (q_assign rfl rfl) (?_)))
  refine WL_nil (hK3 _ ?_)
  clear hK3 K3
  refine W_block ?_
  refine W_loopK [0, 1] [] (fun (i : Nat) => [(5, .v (.int .i64 (i : Int)))]) (fun (i : Nat) => []) (fun (i : Nat) => i ≤ rs.length) (fun (i : Nat) => rs.length - i) 0 rfl rfl ?_ ?_ ?_ ?_
  · exact Nat.zero_le _
  · exact ⟨⟨_, rfl, by (first | rfl | (simp; done) | (simp; omega))⟩, rfl, trivial⟩
  · exact trivial
  · intro i hinv
    simp only [List.cons_append, List.nil_append]
    refine W_seq (fun K4 hK4 => ?_)
    refine W_seq (fun K5 hK5 => ?_)
    refine W_region (WL_cons rfl (WX_q rfl rfl (q_move rfl rfl) (WL_cons rfl (WX_q rfl rfl (q_move rfl rfl) (WL_cons rfl (?_))))))
    first | refine WX_q rfl rfl (q_len' G rfl rfl rfl rfl (List.length_map _)) ?_ | refine WX_q rfl rfl (q_len G rfl rfl rfl rfl) ?_
    refine WL_cons rfl (WX_q rfl rfl (q_cmp rfl rfl rfl rfl) (?_))
    refine WL_nil (hK5 _ ?_)
    clear hK5 K5
    refine W_cond rfl (fun h1 => ?_) (fun h1 => ?_)
    · try rw [h1]
      try simp only [rfb] at h1
      refine W_skip (hK4 _ ?_)
      clear hK4 K4
      refine W_seq (fun K6 hK6 => ?_)
      refine W_block ?_
      refine W_seq (fun K7 hK7 => ?_)
      refine W_region (WL_cons rfl (WX_q rfl rfl (q_move rfl rfl) (WL_cons rfl (WX_q rfl rfl (q_move rfl rfl) (WL_cons rfl (?_))))))
      refine WX_q rfl rfl (q_index_lst G rfl rfl rfl rfl (by omega) (getN (by omega))) ?_
      refine WL_cons rfl (WX_q rfl rfl (q_field_ept G rfl rfl rfl rfl) (WL_cons rfl (WX_q rfl rfl (q_load_ept G rfl rfl rfl rfl rfl) (WL_cons rfl (?_)))))
      refine WX_q rfl rfl (q_call rfl (ArgsOK.of rfl) (c_spec_l6Prio _) rfl) ?_
      refine WL_cons rfl (WX_q rfl rfl (q_not rfl rfl) (WL_cons rfl (WX_q rfl rfl (q_move rfl rfl) (WL_part rfl rfl rfl (fun h2 => ?_) (fun h2 => ?_)))))
      · try rw [h2]
        try simp only [rfb] at h2
        refine WL_skip rfl rfl rfl rfl rfl rfl (WL_skip rfl rfl rfl rfl rfl rfl (WL_skip rfl rfl rfl rfl rfl rfl (WL_skip rfl rfl rfl rfl rfl rfl (WL_skip rfl rfl rfl rfl rfl rfl (WL_skip rfl rfl rfl rfl rfl rfl (WL_skip rfl rfl rfl rfl rfl rfl (WL_skip rfl rfl rfl rfl rfl rfl (WL_skip rfl rfl rfl rfl rfl rfl (WL_cons rfl (WX_q rfl rfl (q_pick_t rfl rfl rfl) (?_)))))))))))
        refine WL_nil (hK7 _ ?_)
        clear hK7 K7
        refine W_true rfl ?_
        refine W_seq (fun K8 hK8 => ?_)
        refine W_region (WL_cons rfl (WX_q rfl rfl (q_assign rfl rfl) (?_)))
        refine WL_nil (hK8 _ ?_)
        clear hK8 K8
        refine W_ret (fin_one rfl (rc_v ?_))
        all_goals clear hK6 K6 hK2 K2
        all_goals (first | rfl | (simp_all; done))
      · try rw [h2]
        try simp only [rfb] at h2
        refine WL_run rfl rfl rfl (WX_q rfl rfl (q_move rfl rfl) (WL_run rfl rfl rfl (WX_q rfl rfl (q_move rfl rfl) (WL_run rfl rfl rfl (?_)))))
        refine WX_q rfl rfl (q_index_lst G rfl rfl rfl rfl (by omega) (getN (by omega))) ?_
        refine WL_run rfl rfl rfl (WX_q rfl rfl (q_field_ept G rfl rfl rfl rfl) (WL_run rfl rfl rfl (WX_q rfl rfl (q_load_ept G rfl rfl rfl rfl rfl) (WL_run rfl rfl rfl (WX_q rfl rfl (q_move rfl rfl) (WL_run rfl rfl rfl (?_)))))))
        first | refine WX_q rfl rfl (q_arith rfl rfl rfl rfl (by omega) (by omega)) ?_ | refine WX_q rfl rfl (q_wrap rfl rfl rfl rfl) ?_
        refine WL_run rfl rfl rfl (?_)
        refine WX_q rfl rfl (q_call rfl (ArgsOK.of rfl) (c_spec_l1In _ _ _) rfl) ?_
        refine WL_run rfl rfl rfl (WX_q rfl rfl (q_not rfl rfl) (WL_cons rfl (WX_q rfl rfl (q_pick_f rfl rfl rfl) (?_))))
        refine WL_nil (hK7 _ ?_)
        clear hK7 K7
        refine W_cond rfl (fun h3 => ?_) (fun h3 => ?_)
        · try rw [h3]
          try simp only [rfb] at h3
          refine W_seq (fun K9 hK9 => ?_)
          refine W_region (WL_cons rfl (WX_q rfl rfl (q_assign rfl rfl) (?_)))
          refine WL_nil (hK9 _ ?_)
          clear hK9 K9
          refine W_ret (fin_one rfl (rc_v ?_))
          all_goals clear hK6 K6 hK2 K2
          all_goals (first | rfl | (simp_all; done))
        · try rw [h3]
          try simp only [rfb] at h3
          refine W_skip (hK6 _ ?_)
          clear hK6 K6
          refine W_region (WL_cons rfl (WX_q rfl rfl (q_move rfl rfl) (WL_cons rfl (?_))))
          first | refine WX_q rfl rfl (q_arith rfl rfl rfl rfl (by omega) (by omega)) ?_ | refine WX_q rfl rfl (q_wrap rfl rfl rfl rfl) ?_
          refine WL_cons rfl (WX_q rfl rfl (q_assign rfl rfl) (?_))
          refine WL_nil ⟨(i + 1), ?_, ?_, ⟨⟨_, rfl, by rfl⟩, rfl, trivial⟩, trivial, rfl, rfl, rfl⟩
          · omega
          · omega
    · try rw [h1]
      try simp only [rfb] at h1
      refine W_exit (hK2 _ ?_)
      clear hK4 K4 hK2 K2
      refine W_seq (fun K10 hK10 => ?_)
      refine W_region (WL_cons rfl (WX_q rfl rfl (q_move rfl rfl) (WL_cons rfl (?_))))
      refine WX_q rfl rfl (q_call rfl (ArgsOK.of rfl) (c_spec_l1In _ _ _) rfl) ?_
      refine WL_cons rfl (WX_q rfl rfl (q_move rfl rfl) (WL_part rfl rfl rfl (fun h4 => ?_) (fun h4 => ?_)))
      · try rw [h4]
        try simp only [rfb] at h4
        refine WL_run rfl rfl rfl (WX_q rfl rfl (q_move rfl rfl) (WL_run rfl rfl rfl (?_)))
        first | refine WX_q rfl rfl (q_len' G rfl rfl rfl rfl (List.length_map _)) ?_ | refine WX_q rfl rfl (q_len G rfl rfl rfl rfl) ?_
        refine WL_run rfl rfl rfl (WX_q rfl rfl (q_cmp rfl rfl rfl rfl) (WL_cons rfl (WX_q rfl rfl (q_pick_t rfl rfl rfl) (WL_cons rfl (WX_q rfl rfl (q_assign rfl rfl) (?_))))))
        refine WL_nil (hK10 _ ?_)
        clear hK10 K10
        refine W_ret (fin_one rfl (rc_v ?_))
        all_goals (first | rfl | (simp_all; done))
      · try rw [h4]
        try simp only [rfb] at h4
        refine WL_skip rfl rfl rfl rfl rfl rfl (WL_skip rfl rfl rfl rfl rfl rfl (WL_skip rfl rfl rfl rfl rfl rfl (WL_cons rfl (WX_q rfl rfl (q_pick_f rfl rfl rfl) (WL_cons rfl (WX_q rfl rfl (q_assign rfl rfl) (?_)))))))
        refine WL_nil (hK10 _ ?_)
        clear hK10 K10
        refine W_ret (fin_one rfl (rc_v ?_))
        all_goals (first | rfl | (simp_all; done))

theorem c_spec_l21Routes_any (rs : List Route) (c : Int) (hn : rs.length ≤ 1048576) : Ctr Tryz.prog 130 [.lst 2 (rs.map encRo), .v (.int .i64 c)] (.one (.v (.bool (okRts rs c)))) := by
  cases h : inside c 1 2
  · have e : okRts rs c = false := by simp only [okRts, h, Bool.false_and]
    rw [e]; exact c_spec_l21Routes_bad rs c hn h
  · exact c_spec_l21Routes rs c hn (by have := inside_t.mp h; omega)

theorem c_spec_NewMachine (rs : List Route) (c : Int) (hn : rs.length ≤ 1048576) : Ctr Tryz.prog 72 [.lst 2 (rs.map encRo), .v (.int .i64 c)] (.shp false [some 4, none] [.fr 118 2 ((newMT rs c).1.rs.map encRo), .fr 4 1 ((newMT rs c).1.en.map encO), .fr 4 1 ((newMT rs c).1.ra.map encO), .ne 113 4 ((newMT rs c).1.cp.map (encIf 154 183)), .v (.bool (newMT rs c).2)]) := by
  refine Ctr.of (n := 40) G Tryz.func72 rfl (by kernel_rfl) rfl rfl rfl (fun w0 => ?_)
  refine W_seq (fun K1 hK1 => ?_)
  refine W_region (WL_cons rfl (WX_alloc_s G 1 rfl rfl rfl rfl rfl (WL_cons rfl (WX_q rfl rfl (q_assign rfl rfl) (?_)))))
  refine WL_nil (hK1 _ ?_)
  clear hK1 K1
  refine W_seq (fun K2 hK2 => ?_)
  refine W_seq (fun K3 hK3 => ?_)
  refine W_region (WL_cons rfl (WX_q rfl rfl (q_move rfl rfl) (WL_cons rfl (WX_q rfl rfl (q_move rfl rfl) (WL_cons rfl (?_))))))
  refine WX_q rfl rfl (q_call rfl (ArgsOK.of rfl) (c_spec_l21Routes_any rs c hn) rfl) ?_
  refine WL_cons rfl (WX_q rfl rfl (q_not rfl rfl) (?_))
  refine WL_nil (hK3 _ ?_)
  clear hK3 K3
  refine W_cond rfl (fun h1 => ?_) (fun h1 => ?_)
  · try rw [h1]
    try simp only [rfb] at h1
    have hM := newMT_f (rs := rs) h1
    refine W_seq (fun K4 hK4 => ?_)
    refine W_region (WL_cons rfl (WX_q rfl rfl (q_build G rfl rfl rfl rfl) (WL_cons rfl (WX_store G rfl rfl rfl rfl rfl rfl rfl rfl rfl rfl rfl (WL_cons rfl (WX_q rfl rfl (q_assign rfl rfl) (?_)))))))
    refine WL_nil (hK4 _ ?_)
    clear hK4 K4
    refine W_ret (fin_shp rfl rfl rfl rfl (rcs_cons (rc_nil ?_) (rcs_cons (rc_nil ?_) (rcs_cons (rc_nil ?_) (rcs_cons (rc_niln ?_) (rcs_cons (rc_v ?_) rcs_nil))))))
    all_goals clear hK2 K2
    all_goals (first | (rw [hM]; done) | (rw [hM]; rfl) | (rw [hM]; simp [newM]; done) | (rw [hM]; simp [noM]; done) | (rw [hM]; have e : k = n := (by omega); subst e; first | done | rfl | (simp [newM]; done)))
  · try rw [h1]
    try simp only [rfb] at h1
    have hM := newMT_t (rs := rs) h1
    have hr := okRts_iff.mp h1
    obtain ⟨n, rfl⟩ : ∃ n : Nat, c = n := ⟨c.toNat, by omega⟩
    refine W_skip (hK2 _ ?_)
    clear hK2 K2
    refine W_seq (fun K5 hK5 => ?_)
    refine W_drawsH 9 [0] mixed (by kernel_rfl) rfl rfl (fun r0 => ?_) (fun _ h => h)
    refine WA_take 1 rfl (by kernel_rfl) (by kernel_rfl) rfl rfl rfl rfl (q_move rfl rfl) (?_)
    refine WA_more (N := 6) rfl (WAV_startH (fuel := 3) [⟨0, 13, 1, false, .row 118 2 []⟩, ⟨3, 16, 2, false, .row 4 1 (List.replicate 8 [.bool false])⟩, ⟨4, 17, 3, false, .row 4 1 (List.replicate 8 [.bool false])⟩, ⟨5, 18, 4, false, .row 113 4 []⟩, ⟨7, 6, 5, true, .box (avR [.slice none 0 0, .slice none 0 0, .slice none 0 0, .slice none 0 0] [])⟩] (AllVOK.cons (VOK.lit G rfl rfl rfl rfl rfl) (AllVOK.cons (VOK.make (n := 8) G rfl rfl rfl rfl rfl (by decide) (by decide)) (AllVOK.cons (VOK.make (n := 8) G rfl rfl rfl rfl rfl (by decide) (by decide)) (AllVOK.cons (VOK.lit G rfl rfl rfl rfl rfl) (AllVOK.cons (VOK.boxS G rfl rfl rfl rfl rfl) (AllVOK.nil)))))) (fun hok => ?_))
    refine WAV_go [(2, [0])] (by kernel_rfl) (by kernel_rfl) (fun e he => hok e he) (by kernel_rfl) (AllVS.cons ?_ AllVS.nil)
    refine VStep.mk1 [0] 13 (.own 1) 1 (.row 118 2 []) [⟨3, 16, 2, false, .row 4 1 (List.replicate 8 [.bool false])⟩, ⟨4, 17, 3, false, .row 4 1 (List.replicate 8 [.bool false])⟩, ⟨5, 18, 4, false, .row 113 4 []⟩, ⟨7, 6, 5, true, .box (avR [.slice none 0 0, .slice none 0 0, .slice none 0 0, .slice none 0 0] [])⟩] rfl rfl rfl rfl rfl (fun b1 _ hbn => WX_append G (by rw [hbn]; exact Nat.le_of_ble_eq_true rfl) rfl rfl rfl rfl rfl rfl rfl rfl rfl (by first | (simp; omega) | (simp only [List.length_map, List.length_cons, List.length_nil, List.length_replicate]; omega)) rfl rfl (WL_nil rfl)) (by kernel_rfl) (by kernel_rfl) (by kernel_rfl) (by kernel_rfl) ?_
    refine WAV_go [(6, [3, 4, 5])] (by kernel_rfl) (by kernel_rfl) (fun e he => hok e (vin (is := [0]) rfl he)) (by kernel_rfl) (AllVS.cons ?_ AllVS.nil)
    refine VStep.mk3 [0] 16 (.own 2) 2 (.row 4 1 (List.replicate 8 [.bool false])) 17 (.own 3) 3 (.row 4 1 (List.replicate 8 [.bool false])) 18 (.own 4) 4 (.row 113 4 []) [⟨7, 6, 5, true, .box (avR [.slice none 0 0, .slice none 0 0, .slice none 0 0, .slice none 0 0] [])⟩] rfl rfl rfl rfl rfl (fun b1 _ hbn => WX_q rfl rfl (q_build G rfl rfl rfl rfl) (WL_nil rfl)) (by kernel_rfl) (by kernel_rfl) (by kernel_rfl) (by kernel_rfl) ?_
    refine WAV_go [(8, [7])] (by kernel_rfl) (by kernel_rfl) (fun e he => hok e (vin (is := [0, 3, 4, 5]) rfl he)) (by kernel_rfl) (AllVS.cons ?_ AllVS.nil)
    refine VStep.mk1 [0] 6 (.ptr 5 0) 5 (.box (avR [.slice none 0 0, .slice none 0 0, .slice none 0 0, .slice none 0 0] [])) [] rfl rfl rfl rfl rfl (fun b1 _ hbn => WX_store G rfl rfl rfl rfl rfl rfl rfl rfl rfl rfl rfl (WL_nil rfl)) (by kernel_rfl) (by kernel_rfl) (by kernel_rfl) (by kernel_rfl) ?_
    refine WAV_nil ?_
    clear hok
    refine WA_gh (Gh.nest (id := 4) (yss := []) rfl rfl (by intro _ _ _ h; simp at h)) ?_
    refine WA_end (by kernel_rfl) (hK5 _ ?_)
    clear hK5 K5
    refine W_seq (fun K6 hK6 => ?_)
    refine W_seq (fun K7 hK7 => ?_)
    refine W_region (WL_cons rfl (WX_q rfl rfl (q_assign rfl rfl) (?_)))
    refine WL_nil (hK7 _ ?_)
    clear hK7 K7
    refine W_block ?_
    refine W_loopK [1, 4, 6] [0, 1, 2, 3, 5] (fun (k : Nat) => [(7, .v (.int .i64 (k : Int)))]) (fun (k : Nat) => [(4, some (.nest 113 4 ((List.replicate k ifc0).map (encIf 154 183)) []))]) (fun (k : Nat) => k ≤ n) (fun (k : Nat) => n - k) 0 rfl rfl ?_ ?_ ?_ ?_
    · exact Nat.zero_le _
    · exact ⟨⟨_, rfl, by (first | rfl | (simp; done) | (simp; omega))⟩, rfl, trivial⟩
    · exact ⟨⟨_, rfl, by rfl⟩, rfl, rfl, trivial⟩
    · intro k hinv
      simp only [List.cons_append, List.nil_append]
      refine W_seq (fun K8 hK8 => ?_)
      refine W_seq (fun K9 hK9 => ?_)
      refine W_region (WL_cons rfl (WX_q rfl rfl (q_move rfl rfl) (WL_cons rfl (WX_q rfl rfl (q_move rfl rfl) (WL_cons rfl (WX_q rfl rfl (q_cmp rfl rfl rfl rfl) (?_)))))))
      refine WL_nil (hK9 _ ?_)
      clear hK9 K9
      refine W_cond rfl (fun h2 => ?_) (fun h2 => ?_)
      · try rw [h2]
        try simp only [rfb] at h2
        refine W_skip (hK8 _ ?_)
        clear hK8 K8
        refine W_seq (fun K10 hK10 => ?_)
        refine W_block ?_
        refine W_region (WL_cons rfl (WX_q rfl rfl (q_field_ptr G rfl rfl rfl rfl) (WL_cons rfl (WX_q rfl rfl (q_load_box G rfl rfl rfl rfl rfl rfl rfl) (WL_cons rfl (WX_lit G 7 rfl rfl rfl rfl rfl rfl rfl rfl (WL_cons rfl (WX_q rfl rfl (q_build G rfl rfl rfl rfl) (WL_cons rfl (WX_q rfl rfl (q_build G rfl rfl rfl rfl) (WL_cons rfl (WX_q rfl rfl (q_build G rfl rfl rfl rfl) (WL_cons rfl (WX_q rfl rfl (q_build G rfl rfl rfl rfl) (WL_cons rfl (WX_lit G 8 rfl rfl rfl rfl rfl rfl rfl rfl (WL_cons rfl (WX_lit G 9 rfl rfl rfl rfl rfl rfl rfl rfl (WL_cons rfl (WX_q rfl rfl (q_build G rfl rfl rfl rfl) (WL_cons rfl (WX_q rfl rfl (q_build G rfl rfl rfl rfl) (WL_cons rfl (WX_lit_nest G 10 rfl rfl rfl rfl rfl rfl rfl rfl (.v rfl (.own rfl (.own rfl (.own rfl .nil)))) rfl rfl rfl rfl (WL_cons rfl (?_))))))))))))))))))))))))))
        refine WX_gh (Gh.forget (id := 5) (k := 3) rfl rfl) <| WX_gh (Gh.keep [0, 1, 2, 3, 4, 5, 9] rfl) <| WX_append_nest G np rfl rfl rfl rfl rfl rfl rfl rfl rfl rfl (by first | (simp; omega) | (simp only [List.length_map, List.length_cons, List.length_nil, List.length_replicate]; omega)) rfl rfl ?_
        refine WL_cons rfl (WX_q rfl rfl (q_field_ptr G rfl rfl rfl rfl) (WL_cons rfl (WX_store G rfl rfl rfl rfl rfl rfl rfl rfl rfl rfl rfl (?_))))
        refine WL_nil (hK10 _ ?_)
        clear hK10 K10
        refine W_region (WL_cons rfl (WX_q rfl rfl (q_move rfl rfl) (WL_cons rfl (?_))))
        first | refine WX_q rfl rfl (q_arith rfl rfl rfl rfl (by omega) (by omega)) ?_ | refine WX_q rfl rfl (q_wrap rfl rfl rfl rfl) ?_
        refine WL_cons rfl (WX_q rfl rfl (q_assign rfl rfl) (?_))
        refine WL_nil ⟨(k + 1), ?_, ?_, ⟨⟨_, rfl, by rfl⟩, rfl, trivial⟩, ⟨⟨_, rfl, by exact congrArg (fun z => Row.nest _ _ z []) (rep_succ rfl)⟩, rfl, rfl, trivial⟩, rfl, rfl, rfl⟩
        · omega
        · omega
      · try rw [h2]
        try simp only [rfb] at h2
        refine W_exit (hK6 _ ?_)
        clear hK8 K8 hK6 K6
        refine W_seq (fun K11 hK11 => ?_)
        refine W_region (WL_cons rfl (WX_q rfl rfl (q_load_box_struct G rfl rfl rfl rfl rfl rfl) (WL_cons rfl (WX_store G rfl rfl rfl rfl rfl rfl rfl rfl rfl rfl rfl (WL_cons rfl (WX_q rfl rfl (q_assign rfl rfl) (?_)))))))
        refine WL_nil (hK11 _ ?_)
        clear hK11 K11
        refine W_ret (fin_shp rfl rfl rfl rfl (rcs_cons (rc_own rfl ?_) (rcs_cons (rc_own rfl ?_) (rcs_cons (rc_own rfl ?_) (rcs_cons (rc_ne rfl ?_) (rcs_cons (rc_v ?_) rcs_nil))))))
        all_goals (first | (rw [hM]; done) | (rw [hM]; rfl) | (rw [hM]; simp [newM]; done) | (rw [hM]; simp [noM]; done) | (rw [hM]; have e : k = n := (by omega); subst e; first | done | rfl | (simp [newM]; done)))

theorem c_impl_NewMachine (rs : List Route) (c : Int) (hn : rs.length ≤ 1048576) : Ctr Tryz.prog 79 [.lst 2 (rs.map encRo), .v (.int .i64 c)] (.shp false [some 4, none] [.fr 118 2 ((newMT rs c).1.rs.map encRo), .fr 4 1 ((newMT rs c).1.en.map encO), .fr 4 1 ((newMT rs c).1.ra.map encO), .ne 113 4 ((newMT rs c).1.cp.map (encIf 154 183)), .v (.bool (newMT rs c).2)]) := by
  refine Ctr.of (n := 34) G Tryz.func79 rfl (by kernel_rfl) rfl rfl rfl (fun w0 => ?_)
  refine W_seq (fun K1 hK1 => ?_)
  refine W_region (WL_cons rfl (WX_alloc_s G 1 rfl rfl rfl rfl rfl (WL_cons rfl (WX_q rfl rfl (q_assign rfl rfl) (?_)))))
  refine WL_nil (hK1 _ ?_)
  clear hK1 K1
  refine W_seq (fun K2 hK2 => ?_)
  refine W_seq (fun K3 hK3 => ?_)
  refine W_region (WL_cons rfl (WX_q rfl rfl (q_move rfl rfl) (WL_cons rfl (WX_q rfl rfl (q_move rfl rfl) (WL_cons rfl (?_))))))
  refine WX_q rfl rfl (q_call rfl (ArgsOK.of rfl) (c_impl_areRoutes _ _ (by first | assumption | omega)) rfl) ?_
  refine WL_cons rfl (WX_q rfl rfl (q_not rfl rfl) (?_))
  refine WL_nil (hK3 _ ?_)
  clear hK3 K3
  refine W_cond rfl (fun h1 => ?_) (fun h1 => ?_)
  · try rw [h1]
    try simp only [rfb] at h1
    have hM := newMT_f (rs := rs) h1
    refine W_seq (fun K4 hK4 => ?_)
    refine W_region (WL_cons rfl (WX_q rfl rfl (q_build G rfl rfl rfl rfl) (WL_cons rfl (WX_store G rfl rfl rfl rfl rfl rfl rfl rfl rfl rfl rfl (WL_cons rfl (WX_q rfl rfl (q_assign rfl rfl) (?_)))))))
    refine WL_nil (hK4 _ ?_)
    clear hK4 K4
    refine W_ret (fin_shp rfl rfl rfl rfl (rcs_cons (rc_nil ?_) (rcs_cons (rc_nil ?_) (rcs_cons (rc_nil ?_) (rcs_cons (rc_niln ?_) (rcs_cons (rc_v ?_) rcs_nil))))))
    all_goals clear hK2 K2
    all_goals (first | (rw [hM]; done) | (rw [hM]; rfl) | (rw [hM]; simp [newM]; done) | (rw [hM]; simp [noM]; done) | (rw [hM]; have e : k = n := (by omega); subst e; first | done | rfl | (simp [newM]; done)))
  · try rw [h1]
    try simp only [rfb] at h1
    have hM := newMT_t (rs := rs) h1
    have hr := okRts_iff.mp h1
    obtain ⟨n, rfl⟩ : ∃ n : Nat, c = n := ⟨c.toNat, by omega⟩
    refine W_skip (hK2 _ ?_)
    clear hK2 K2
    refine W_seq (fun K5 hK5 => ?_)
    refine W_drawsH 9 [0] mixed (by kernel_rfl) rfl rfl (fun r0 => ?_) (fun _ h => h)
    refine WA_take 1 rfl (by kernel_rfl) (by kernel_rfl) rfl rfl rfl rfl (q_move rfl rfl) (?_)
    refine WA_more (N := 6) rfl (WAV_startH (fuel := 3) [⟨0, 12, 1, false, .row 118 2 []⟩, ⟨3, 15, 2, false, .row 4 1 (List.replicate 8 [.bool false])⟩, ⟨4, 16, 3, false, .row 4 1 (List.replicate 8 [.bool false])⟩, ⟨5, 17, 4, false, .row 113 4 []⟩, ⟨7, 6, 5, true, .box (avR [.slice none 0 0, .slice none 0 0, .slice none 0 0, .slice none 0 0] [])⟩] (AllVOK.cons (VOK.lit G rfl rfl rfl rfl rfl) (AllVOK.cons (VOK.make (n := 8) G rfl rfl rfl rfl rfl (by decide) (by decide)) (AllVOK.cons (VOK.make (n := 8) G rfl rfl rfl rfl rfl (by decide) (by decide)) (AllVOK.cons (VOK.lit G rfl rfl rfl rfl rfl) (AllVOK.cons (VOK.boxS G rfl rfl rfl rfl rfl) (AllVOK.nil)))))) (fun hok => ?_))
    refine WAV_go [(2, [0])] (by kernel_rfl) (by kernel_rfl) (fun e he => hok e he) (by kernel_rfl) (AllVS.cons ?_ AllVS.nil)
    refine VStep.mk1 [0] 12 (.own 1) 1 (.row 118 2 []) [⟨3, 15, 2, false, .row 4 1 (List.replicate 8 [.bool false])⟩, ⟨4, 16, 3, false, .row 4 1 (List.replicate 8 [.bool false])⟩, ⟨5, 17, 4, false, .row 113 4 []⟩, ⟨7, 6, 5, true, .box (avR [.slice none 0 0, .slice none 0 0, .slice none 0 0, .slice none 0 0] [])⟩] rfl rfl rfl rfl rfl (fun b1 _ hbn => WX_append G (by rw [hbn]; exact Nat.le_of_ble_eq_true rfl) rfl rfl rfl rfl rfl rfl rfl rfl rfl (by first | (simp; omega) | (simp only [List.length_map, List.length_cons, List.length_nil, List.length_replicate]; omega)) rfl rfl (WL_nil rfl)) (by kernel_rfl) (by kernel_rfl) (by kernel_rfl) (by kernel_rfl) ?_
    refine WAV_go [(6, [3, 4, 5])] (by kernel_rfl) (by kernel_rfl) (fun e he => hok e (vin (is := [0]) rfl he)) (by kernel_rfl) (AllVS.cons ?_ AllVS.nil)
    refine VStep.mk3 [0] 15 (.own 2) 2 (.row 4 1 (List.replicate 8 [.bool false])) 16 (.own 3) 3 (.row 4 1 (List.replicate 8 [.bool false])) 17 (.own 4) 4 (.row 113 4 []) [⟨7, 6, 5, true, .box (avR [.slice none 0 0, .slice none 0 0, .slice none 0 0, .slice none 0 0] [])⟩] rfl rfl rfl rfl rfl (fun b1 _ hbn => WX_q rfl rfl (q_build G rfl rfl rfl rfl) (WL_nil rfl)) (by kernel_rfl) (by kernel_rfl) (by kernel_rfl) (by kernel_rfl) ?_
    refine WAV_go [(8, [7])] (by kernel_rfl) (by kernel_rfl) (fun e he => hok e (vin (is := [0, 3, 4, 5]) rfl he)) (by kernel_rfl) (AllVS.cons ?_ AllVS.nil)
    refine VStep.mk1 [0] 6 (.ptr 5 0) 5 (.box (avR [.slice none 0 0, .slice none 0 0, .slice none 0 0, .slice none 0 0] [])) [] rfl rfl rfl rfl rfl (fun b1 _ hbn => WX_store G rfl rfl rfl rfl rfl rfl rfl rfl rfl rfl rfl (WL_nil rfl)) (by kernel_rfl) (by kernel_rfl) (by kernel_rfl) (by kernel_rfl) ?_
    refine WAV_nil ?_
    clear hok
    refine WA_gh (Gh.nest (id := 4) (yss := []) rfl rfl (by intro _ _ _ h; simp at h)) ?_
    refine WA_end (by kernel_rfl) (hK5 _ ?_)
    clear hK5 K5
    refine W_seq (fun K6 hK6 => ?_)
    refine W_seq (fun K7 hK7 => ?_)
    refine W_region (WL_cons rfl (WX_q rfl rfl (q_move rfl rfl) (WL_cons rfl (WX_q rfl rfl (q_move rfl rfl) (?_)))))
    refine WL_nil (hK7 _ ?_)
    clear hK7 K7
    refine W_block ?_
    refine W_loopK [4, 6, 19] [0, 1, 2, 3, 5] (fun (k : Nat) => [(20, .v (.int .i64 (k : Int)))]) (fun (k : Nat) => [(4, some (.nest 113 4 ((List.replicate k ifc0).map (encIf 154 183)) []))]) (fun (k : Nat) => k ≤ n) (fun (k : Nat) => n - k) 0 rfl rfl ?_ ?_ ?_ ?_
    · exact Nat.zero_le _
    · exact ⟨⟨_, rfl, by (first | rfl | (simp; done) | (simp; omega))⟩, rfl, trivial⟩
    · exact ⟨⟨_, rfl, by rfl⟩, rfl, rfl, trivial⟩
    · intro k hinv
      simp only [List.cons_append, List.nil_append]
      refine W_seq (fun K8 hK8 => ?_)
      refine W_region (WL_cons rfl (WX_q rfl rfl (q_cmp rfl rfl rfl rfl) (?_)))
      refine WL_nil (hK8 _ ?_)
      clear hK8 K8
      refine W_seq (fun K9 hK9 => ?_)
      refine W_cond rfl (fun h2 => ?_) (fun h2 => ?_)
      · try rw [h2]
        try simp only [rfb] at h2
        refine W_skip (hK9 _ ?_)
        clear hK9 K9
        refine W_seq (fun K10 hK10 => ?_)
        refine W_block ?_
        apply W_drawsJ [4, 6, 19, 20] [0, 1, 2, 3, 5, 10] 11 11 [0, 1, 2, 3] mixed (by kernel_rfl) rfl rfl hK10
        · intro r0
          refine WA_take 0 rfl (by kernel_rfl) (by kernel_rfl) rfl rfl rfl rfl (q_field_ptr G rfl rfl rfl rfl) (?_)
          refine WA_more (N := 9) rfl (WAV_startH (fuel := 7) [⟨2, 24, 6, false, .row 3 1 []⟩, ⟨3, 25, 7, false, .row 154 3 (List.replicate 4 [.int .i64 0, .int .i64 0, .int .i64 0])⟩, ⟨4, 26, 8, false, .row 183 2 []⟩] (AllVOK.cons (VOK.lit G rfl rfl rfl rfl rfl) (AllVOK.cons (VOK.make (n := 4) G rfl rfl rfl rfl rfl (by decide) (by decide)) (AllVOK.cons (VOK.lit G rfl rfl rfl rfl rfl) (AllVOK.nil)))) (fun hok => ?_))
          refine WAV_go [(1, []), (5, [3, 4])] (by kernel_rfl) (by kernel_rfl) (fun e he => hok e he) (by kernel_rfl) (AllVS.cons ?_ (AllVS.cons ?_ AllVS.nil))
          · refine VStep.mk0 [0, 1, 2, 3] rfl rfl (fun b1 _ hbn => WX_q rfl rfl (q_load_box G rfl rfl rfl rfl rfl rfl rfl) (WL_nil rfl)) (by kernel_rfl) (by kernel_rfl) (by kernel_rfl) (by kernel_rfl) ?_
            refine WAV_go [(5, [3, 4])] (by kernel_rfl) (by kernel_rfl) (fun e he => hok e he) (by kernel_rfl) (AllVS.cons ?_ AllVS.nil)
            refine VStep.mk2 [0, 1, 2, 3] 25 (.own 7) 7 (.row 154 3 (List.replicate 4 [.int .i64 0, .int .i64 0, .int .i64 0])) 26 (.own 8) 8 (.row 183 2 []) [⟨2, 24, 6, false, .row 3 1 []⟩] rfl rfl rfl rfl rfl (fun b1 _ hbn => WX_q rfl rfl (q_build G rfl rfl rfl rfl) (WL_nil rfl)) (by kernel_rfl) (by kernel_rfl) (by kernel_rfl) (by kernel_rfl) ?_
            refine WAV_go [(6, [2])] (by kernel_rfl) (by kernel_rfl) (fun e he => hok e (vin (is := [3, 4]) rfl he)) (by kernel_rfl) (AllVS.cons ?_ AllVS.nil)
            refine VStep.mk1 [0, 1, 2, 3] 24 (.own 6) 6 (.row 3 1 []) [] rfl rfl rfl rfl rfl (fun b1 _ hbn => WX_q rfl rfl (q_build G rfl rfl rfl rfl) (WL_nil rfl)) (by kernel_rfl) (by kernel_rfl) (by kernel_rfl) (by kernel_rfl) ?_
            refine WAV_nil ?_
            clear hok
            refine WA_branch (rs := [7]) (by kernel_rfl) rfl (AllB.cons ?_ AllB.nil)
            refine WB_run [0, 1, 2, 3] rfl rfl (WX_lit_nest G 10 rfl rfl rfl rfl rfl rfl rfl rfl (.v rfl (.own rfl (.own rfl (.own rfl .nil)))) rfl rfl rfl rfl (WL_nil ⟨rfl, ?_⟩))
            refine WA_branch (rs := [8]) (by kernel_rfl) rfl (AllB.cons ?_ AllB.nil)
            refine WB_run [0, 1, 2, 3] rfl rfl (WX_gh (Gh.forget (id := 5) (k := 3) rfl rfl) <| WX_gh (Gh.keep [0, 1, 2, 3, 4, 5, 9] rfl) <| WX_ren (tx := 23) 11 rfl rfl rfl rfl rfl <| WX_append_nest G (by exact Nat.le_of_ble_eq_true rfl) rfl rfl rfl rfl rfl rfl rfl rfl rfl rfl (by first | (simp; omega) | (simp only [List.length_map, List.length_cons, List.length_nil, List.length_replicate]; omega)) rfl rfl (WL_nil ⟨rfl, ?_⟩))
            refine WA_take 9 rfl (by kernel_rfl) (by kernel_rfl) rfl rfl rfl rfl (q_field_ptr G rfl rfl rfl rfl) (?_)
            refine WA_branch (rs := [10]) (by kernel_rfl) rfl (AllB.cons ?_ AllB.nil)
            refine WB_run [0, 1, 2, 3] rfl rfl (WX_store G rfl rfl rfl rfl rfl rfl rfl rfl rfl rfl rfl (WL_nil ⟨rfl, ?_⟩))
            exact WA_end (by kernel_rfl) (Meet.mk rfl rfl rfl rfl)
          · refine VStep.mk2 [0, 1, 2, 3] 25 (.own 7) 7 (.row 154 3 (List.replicate 4 [.int .i64 0, .int .i64 0, .int .i64 0])) 26 (.own 8) 8 (.row 183 2 []) [⟨2, 24, 6, false, .row 3 1 []⟩] rfl rfl rfl rfl rfl (fun b1 _ hbn => WX_q rfl rfl (q_build G rfl rfl rfl rfl) (WL_nil rfl)) (by kernel_rfl) (by kernel_rfl) (by kernel_rfl) (by kernel_rfl) ?_
            refine WAV_go [(1, []), (6, [2])] (by kernel_rfl) (by kernel_rfl) (fun e he => hok e (vin (is := [3, 4]) rfl he)) (by kernel_rfl) (AllVS.cons ?_ (AllVS.cons ?_ AllVS.nil))
            · refine VStep.mk0 [0, 1, 2, 3] rfl rfl (fun b1 _ hbn => WX_q rfl rfl (q_load_box G rfl rfl rfl rfl rfl rfl rfl) (WL_nil rfl)) (by kernel_rfl) (by kernel_rfl) (by kernel_rfl) (by kernel_rfl) ?_
              refine WAV_go [(6, [2])] (by kernel_rfl) (by kernel_rfl) (fun e he => hok e (vin (is := [3, 4]) rfl he)) (by kernel_rfl) (AllVS.cons ?_ AllVS.nil)
              refine VStep.mk1 [0, 1, 2, 3] 24 (.own 6) 6 (.row 3 1 []) [] rfl rfl rfl rfl rfl (fun b1 _ hbn => WX_q rfl rfl (q_build G rfl rfl rfl rfl) (WL_nil rfl)) (by kernel_rfl) (by kernel_rfl) (by kernel_rfl) (by kernel_rfl) ?_
              refine WAV_nil ?_
              clear hok
              refine WA_branch (rs := [7]) (by kernel_rfl) rfl (AllB.cons ?_ AllB.nil)
              refine WB_run [0, 1, 2, 3] rfl rfl (WX_lit_nest G 10 rfl rfl rfl rfl rfl rfl rfl rfl (.v rfl (.own rfl (.own rfl (.own rfl .nil)))) rfl rfl rfl rfl (WL_nil ⟨rfl, ?_⟩))
              refine WA_branch (rs := [8]) (by kernel_rfl) rfl (AllB.cons ?_ AllB.nil)
              refine WB_run [0, 1, 2, 3] rfl rfl (WX_gh (Gh.forget (id := 5) (k := 3) rfl rfl) <| WX_gh (Gh.keep [0, 1, 2, 3, 4, 5, 9] rfl) <| WX_ren (tx := 23) 11 rfl rfl rfl rfl rfl <| WX_append_nest G (by exact Nat.le_of_ble_eq_true rfl) rfl rfl rfl rfl rfl rfl rfl rfl rfl rfl (by first | (simp; omega) | (simp only [List.length_map, List.length_cons, List.length_nil, List.length_replicate]; omega)) rfl rfl (WL_nil ⟨rfl, ?_⟩))
              refine WA_take 9 rfl (by kernel_rfl) (by kernel_rfl) rfl rfl rfl rfl (q_field_ptr G rfl rfl rfl rfl) (?_)
              refine WA_branch (rs := [10]) (by kernel_rfl) rfl (AllB.cons ?_ AllB.nil)
              refine WB_run [0, 1, 2, 3] rfl rfl (WX_store G rfl rfl rfl rfl rfl rfl rfl rfl rfl rfl rfl (WL_nil ⟨rfl, ?_⟩))
              exact WA_end (by kernel_rfl) (Meet.mk rfl rfl rfl rfl)
            · refine VStep.mk1 [0, 1, 2, 3] 24 (.own 6) 6 (.row 3 1 []) [] rfl rfl rfl rfl rfl (fun b1 _ hbn => WX_q rfl rfl (q_build G rfl rfl rfl rfl) (WL_nil rfl)) (by kernel_rfl) (by kernel_rfl) (by kernel_rfl) (by kernel_rfl) ?_
              refine WAV_nil ?_
              clear hok
              refine WA_branch (rs := [1, 7]) (by kernel_rfl) rfl (AllB.cons ?_ (AllB.cons ?_ AllB.nil))
              · refine WB_run [0, 1, 2, 3] rfl rfl (WX_q rfl rfl (q_load_box G rfl rfl rfl rfl rfl rfl rfl) (WL_nil ⟨rfl, ?_⟩))
                refine WA_branch (rs := [7]) (by kernel_rfl) rfl (AllB.cons ?_ AllB.nil)
                refine WB_run [0, 1, 2, 3] rfl rfl (WX_lit_nest G 10 rfl rfl rfl rfl rfl rfl rfl rfl (.v rfl (.own rfl (.own rfl (.own rfl .nil)))) rfl rfl rfl rfl (WL_nil ⟨rfl, ?_⟩))
                refine WA_branch (rs := [8]) (by kernel_rfl) rfl (AllB.cons ?_ AllB.nil)
                refine WB_run [0, 1, 2, 3] rfl rfl (WX_gh (Gh.forget (id := 5) (k := 3) rfl rfl) <| WX_gh (Gh.keep [0, 1, 2, 3, 4, 5, 9] rfl) <| WX_ren (tx := 23) 11 rfl rfl rfl rfl rfl <| WX_append_nest G (by exact Nat.le_of_ble_eq_true rfl) rfl rfl rfl rfl rfl rfl rfl rfl rfl rfl (by first | (simp; omega) | (simp only [List.length_map, List.length_cons, List.length_nil, List.length_replicate]; omega)) rfl rfl (WL_nil ⟨rfl, ?_⟩))
                refine WA_take 9 rfl (by kernel_rfl) (by kernel_rfl) rfl rfl rfl rfl (q_field_ptr G rfl rfl rfl rfl) (?_)
                refine WA_branch (rs := [10]) (by kernel_rfl) rfl (AllB.cons ?_ AllB.nil)
                refine WB_run [0, 1, 2, 3] rfl rfl (WX_store G rfl rfl rfl rfl rfl rfl rfl rfl rfl rfl rfl (WL_nil ⟨rfl, ?_⟩))
                exact WA_end (by kernel_rfl) (Meet.mk rfl rfl rfl rfl)
              · refine WB_run [0, 1, 2, 3] rfl rfl (WX_lit_nest G 10 rfl rfl rfl rfl rfl rfl rfl rfl (.v rfl (.own rfl (.own rfl (.own rfl .nil)))) rfl rfl rfl rfl (WL_nil ⟨rfl, ?_⟩))
                refine WA_branch (rs := [1]) (by kernel_rfl) rfl (AllB.cons ?_ AllB.nil)
                refine WB_run [0, 1, 2, 3] rfl rfl (WX_q rfl rfl (q_load_box G rfl rfl rfl rfl rfl rfl rfl) (WL_nil ⟨rfl, ?_⟩))
                refine WA_branch (rs := [8]) (by kernel_rfl) rfl (AllB.cons ?_ AllB.nil)
                refine WB_run [0, 1, 2, 3] rfl rfl (WX_gh (Gh.forget (id := 5) (k := 3) rfl rfl) <| WX_gh (Gh.keep [0, 1, 2, 3, 4, 5, 9] rfl) <| WX_ren (tx := 23) 11 rfl rfl rfl rfl rfl <| WX_append_nest G (by exact Nat.le_of_ble_eq_true rfl) rfl rfl rfl rfl rfl rfl rfl rfl rfl rfl (by first | (simp; omega) | (simp only [List.length_map, List.length_cons, List.length_nil, List.length_replicate]; omega)) rfl rfl (WL_nil ⟨rfl, ?_⟩))
                refine WA_take 9 rfl (by kernel_rfl) (by kernel_rfl) rfl rfl rfl rfl (q_field_ptr G rfl rfl rfl rfl) (?_)
                refine WA_branch (rs := [10]) (by kernel_rfl) rfl (AllB.cons ?_ AllB.nil)
                refine WB_run [0, 1, 2, 3] rfl rfl (WX_store G rfl rfl rfl rfl rfl rfl rfl rfl rfl rfl rfl (WL_nil ⟨rfl, ?_⟩))
                exact WA_end (by kernel_rfl) (Meet.mk rfl rfl rfl rfl)
        · clear hK10 K10
          refine W_region (WL_cons rfl (?_))
          first | refine WX_q rfl rfl (q_arith rfl rfl rfl rfl (by omega) (by omega)) ?_ | refine WX_q rfl rfl (q_wrap rfl rfl rfl rfl) ?_
          refine WL_cons rfl (WX_q rfl rfl (q_move rfl rfl) (?_))
          refine WL_gh (Gh.sub 10 4 np rfl rfl rfl) ?_
          refine WL_nil ⟨(k + 1), ?_, ?_, ⟨⟨_, rfl, by rfl⟩, rfl, trivial⟩, ⟨⟨_, rfl, by exact congrArg (fun z => Row.nest _ _ z []) (rep_succ rfl)⟩, rfl, rfl, trivial⟩, rfl, rfl, rfl⟩
          · omega
          · omega
      · try rw [h2]
        try simp only [rfb] at h2
        refine W_exit (hK6 _ ?_)
        clear hK9 K9 hK6 K6
        refine W_seq (fun K11 hK11 => ?_)
        refine W_region (WL_cons rfl (WX_q rfl rfl (q_load_box_struct G rfl rfl rfl rfl rfl rfl) (WL_cons rfl (WX_store G rfl rfl rfl rfl rfl rfl rfl rfl rfl rfl rfl (WL_cons rfl (WX_q rfl rfl (q_assign rfl rfl) (?_)))))))
        refine WL_nil (hK11 _ ?_)
        clear hK11 K11
        refine W_ret (fin_shp rfl rfl rfl rfl (rcs_cons (rc_own rfl ?_) (rcs_cons (rc_own rfl ?_) (rcs_cons (rc_own rfl ?_) (rcs_cons (rc_ne rfl ?_) (rcs_cons (rc_v ?_) rcs_nil))))))
        all_goals (first | (rw [hM]; done) | (rw [hM]; rfl) | (rw [hM]; simp [newM]; done) | (rw [hM]; simp [noM]; done) | (rw [hM]; have e : k = n := (by omega); subst e; first | done | rfl | (simp [newM]; done)))

end Go.Proofs.YtcnodpipinlpcaaGreat

/- Walks through functions of the program, one contract each (written by gen.py). -/
set_option maxRecDepth 20000
set_option linter.unusedVariables false
set_option linter.unusedSimpArgs false
namespace Go.Proofs.YtcnodpipinlpcaaGreat
open Go Go.Rf

theorem c_spec_l25Stack (rs : List Route) (l : List Int) (k : Nat) (h8 : rs.length = 8) (hn : l.length ≤ 9223372036854775807) : Ctr Tryz.prog 131 [.lst 2 (rs.map encRo), .lst 1 (l.map encI), .v (.int .i64 (k : Int))] (.one (.v (.bool (stG rs l k)))) := by
  refine Ctr.of (n := 57) G Tryz.func131 rfl (by kernel_rfl) rfl rfl rfl (fun w0 => ?_)
  refine W_seq (fun K1 hK1 => ?_)
  refine W_region (WL_cons rfl (WX_q rfl rfl (q_assign rfl rfl) (?_)))
  refine WL_nil (hK1 _ ?_)
  clear hK1 K1
  refine W_seq (fun K2 hK2 => ?_)
  refine W_seq (fun K3 hK3 => ?_)
  refine W_region (WL_cons rfl (WX_q rfl rfl (q_assign rfl rfl) (?_)))
  refine WL_nil (hK3 _ ?_)
  clear hK3 K3
  refine W_block ?_
  refine W_loopK [0, 1, 2] [] (fun (i : Nat) => [(7, .v (.int .i64 (i : Int)))]) (fun (i : Nat) => []) (fun (i : Nat) => i ≤ l.length ∧ ∀ j, j < i → elS rs l k j = true) (fun (i : Nat) => l.length - i) 0 rfl rfl ?_ ?_ ?_ ?_
  · exact ⟨Nat.zero_le _, fun j hj => by omega⟩
  · exact ⟨⟨_, rfl, by (first | rfl | (simp; done) | (simp; omega))⟩, rfl, trivial⟩
  · exact trivial
  · intro i hinv
    have ht : ((i : Int) - 1).toNat = i - 1 := (by omega)
    have hprev : 0 < i → 0 ≤ l.getD ((i : Int) - 1).toNat default ∧ l.getD ((i : Int) - 1).toNat default ≤ 7 := fun h0 => (by rw [ht]; exact (elS_iff.mp (hinv.2 (i - 1) (by omega))).1)
    simp only [List.cons_append, List.nil_append]
    refine W_seq (fun K4 hK4 => ?_)
    refine W_seq (fun K5 hK5 => ?_)
    refine W_region (WL_cons rfl (WX_q rfl rfl (q_move rfl rfl) (WL_cons rfl (WX_q rfl rfl (q_move rfl rfl) (WL_cons rfl (?_))))))
    first | refine WX_q rfl rfl (q_len' G rfl rfl rfl rfl (List.length_map _)) ?_ | refine WX_q rfl rfl (q_len G rfl rfl rfl rfl) ?_
    refine WL_cons rfl (WX_q rfl rfl (q_cmp rfl rfl rfl rfl) (?_))
    refine WL_nil (hK5 _ ?_)
    clear hK5 K5
    refine W_cond rfl (fun h1 => ?_) (fun h1 => ?_)
    · try rw [h1]
      try simp only [rfb] at h1
      refine W_skip (hK4 _ ?_)
      clear hK4 K4
      refine W_seq (fun K6 hK6 => ?_)
      refine W_block ?_
      refine W_seq (fun K7 hK7 => ?_)
      refine W_seq (fun K8 hK8 => ?_)
      refine W_region (WL_cons rfl (WX_q rfl rfl (q_move rfl rfl) (WL_cons rfl (WX_q rfl rfl (q_move rfl rfl) (WL_cons rfl (?_))))))
      first | refine WX_q rfl rfl (q_index_lst G rfl rfl rfl rfl (by omega) (getN (by omega))) ?_ | refine WX_q rfl rfl (q_index_lst G rfl rfl rfl rfl (by omega) (getNI (by omega) (by omega))) ?_
      refine WL_cons rfl (WX_q rfl rfl (q_load_ept G rfl rfl rfl rfl rfl) (WL_cons rfl (?_)))
      refine WX_q rfl rfl (q_call rfl (ArgsOK.of rfl) (c_spec_l6Irq _) rfl) ?_
      refine WL_cons rfl (WX_q rfl rfl (q_not rfl rfl) (WL_cons rfl (WX_q rfl rfl (q_move rfl rfl) (WL_part rfl rfl rfl (fun h2 => ?_) (fun h2 => ?_)))))
      · try rw [h2]
        try simp only [rfb] at h2
        have hq := inside_nt h2
        refine WL_skip rfl rfl rfl rfl rfl rfl (WL_skip rfl rfl rfl rfl rfl rfl (WL_skip rfl rfl rfl rfl rfl rfl (WL_skip rfl rfl rfl rfl rfl rfl (WL_skip rfl rfl rfl rfl rfl rfl (WL_skip rfl rfl rfl rfl rfl rfl (WL_skip rfl rfl rfl rfl rfl rfl (WL_skip rfl rfl rfl rfl rfl rfl (WL_skip rfl rfl rfl rfl rfl rfl (WL_skip rfl rfl rfl rfl rfl rfl (WL_cons rfl (WX_q rfl rfl (q_pick_t rfl rfl rfl) (?_))))))))))))
        refine WL_nil (hK8 _ ?_)
        clear hK8 K8
        refine W_true rfl ?_
        refine W_seq (fun K9 hK9 => ?_)
        refine W_region (WL_cons rfl (WX_q rfl rfl (q_assign rfl rfl) (?_)))
        refine WL_nil (hK9 _ ?_)
        clear hK9 K9
        refine W_ret (fin_one rfl (rc_v ?_))
        all_goals clear hK7 K7 hK6 K6 hK2 K2
        all_goals (first | (have e : allN l.length (elS rs l k) = false := allN_f (i := i) (elS_f (by simp only [tgI, prI]; rw [← ht]; omega)) (by omega); simp only [stG, e, Bool.false_and]; done) | (have e : allN l.length (elS rs l k) = true := allN_t hinv.2 (by omega); simp only [stG, e, Bool.true_and, le4]; done))
      · try rw [h2]
        try simp only [rfb] at h2
        have hq := inside_t.mp h2
        refine WL_run rfl rfl rfl (WX_q rfl rfl (q_move rfl rfl) (WL_run rfl rfl rfl (WX_q rfl rfl (q_move rfl rfl) (WL_run rfl rfl rfl (WX_q rfl rfl (q_move rfl rfl) (WL_run rfl rfl rfl (?_)))))))
        first | refine WX_q rfl rfl (q_index_lst G rfl rfl rfl rfl (by omega) (getN (by omega))) ?_ | refine WX_q rfl rfl (q_index_lst G rfl rfl rfl rfl (by omega) (getNI (by omega) (by omega))) ?_
        refine WL_run rfl rfl rfl (WX_q rfl rfl (q_load_ept G rfl rfl rfl rfl rfl) (WL_run rfl rfl rfl (?_)))
        first | refine WX_q rfl rfl (q_index_lst G rfl rfl rfl rfl (by omega) (getN (by omega))) ?_ | refine WX_q rfl rfl (q_index_lst G rfl rfl rfl rfl (by omega) (getNI (by omega) (by omega))) ?_
        refine WL_run rfl rfl rfl (WX_q rfl rfl (q_field_ept G rfl rfl rfl rfl) (WL_run rfl rfl rfl (WX_q rfl rfl (q_load_ept G rfl rfl rfl rfl rfl) (WL_run rfl rfl rfl (WX_q rfl rfl (q_move rfl rfl) (WL_run rfl rfl rfl (WX_q rfl rfl (q_cmp rfl rfl rfl rfl) (WL_cons rfl (WX_q rfl rfl (q_pick_f rfl rfl rfl) (?_))))))))))
        refine WL_nil (hK8 _ ?_)
        clear hK8 K8
        refine W_cond rfl (fun h3 => ?_) (fun h3 => ?_)
        · try rw [h3]
          try simp only [rfb] at h3
          refine W_seq (fun K10 hK10 => ?_)
          refine W_region (WL_cons rfl (WX_q rfl rfl (q_assign rfl rfl) (?_)))
          refine WL_nil (hK10 _ ?_)
          clear hK10 K10
          refine W_ret (fin_one rfl (rc_v ?_))
          all_goals clear hK7 K7 hK6 K6 hK2 K2
          all_goals (first | (have e : allN l.length (elS rs l k) = false := allN_f (i := i) (elS_f (by simp only [tgI, prI]; rw [← ht]; omega)) (by omega); simp only [stG, e, Bool.false_and]; done) | (have e : allN l.length (elS rs l k) = true := allN_t hinv.2 (by omega); simp only [stG, e, Bool.true_and, le4]; done))
        · try rw [h3]
          try simp only [rfb] at h3
          refine W_skip (hK7 _ ?_)
          clear hK7 K7
          refine W_seq (fun K11 hK11 => ?_)
          refine W_draws mixed (by kernel_rfl) (QL_cons rfl (QX_q rfl rfl (q_move rfl rfl) (QL_cons rfl (QX_q rfl rfl (q_cmp rfl rfl rfl rfl) (QL_cons rfl (QX_q rfl rfl (q_move rfl rfl) (QL_part rfl rfl rfl (fun h4 => ?_) (fun h4 => ?_))))))))
          · try rw [h4]
            try simp only [rfb] at h4
            refine QL_run rfl rfl rfl (QX_q rfl rfl (q_move rfl rfl) (QL_run rfl rfl rfl (QX_q rfl rfl (q_move rfl rfl) (QL_run rfl rfl rfl (QX_q rfl rfl (q_move rfl rfl) (QL_run rfl rfl rfl (?_)))))))
            first | refine QX_q rfl rfl (q_arith rfl rfl rfl rfl (by omega) (by omega)) ?_ | refine QX_q rfl rfl (q_wrap rfl rfl rfl rfl) ?_
            refine QL_run rfl rfl rfl (?_)
            first | refine QX_q rfl rfl (q_index_lst G rfl rfl rfl rfl (by omega) (getN (by omega))) ?_ | refine QX_q rfl rfl (q_index_lst G rfl rfl rfl rfl (by omega) (getNI (by omega) (by omega))) ?_
            refine QL_run rfl rfl rfl (QX_q rfl rfl (q_load_ept G rfl rfl rfl rfl rfl) (QL_run rfl rfl rfl (?_)))
            first | refine QX_q rfl rfl (q_index_lst G rfl rfl rfl rfl (by omega) (getN (by omega))) ?_ | refine QX_q rfl rfl (q_index_lst G rfl rfl rfl rfl (by omega) (getNI (by omega) (by omega))) ?_
            refine QL_run rfl rfl rfl (QX_q rfl rfl (q_field_ept G rfl rfl rfl rfl) (QL_run rfl rfl rfl (QX_q rfl rfl (q_load_ept G rfl rfl rfl rfl rfl) (QL_run rfl rfl rfl (QX_q rfl rfl (q_move rfl rfl) (QL_run rfl rfl rfl (QX_q rfl rfl (q_move rfl rfl) (QL_run rfl rfl rfl (QX_q rfl rfl (q_move rfl rfl) (QL_run rfl rfl rfl (?_)))))))))))
            first | refine QX_q rfl rfl (q_index_lst G rfl rfl rfl rfl (by omega) (getN (by omega))) ?_ | refine QX_q rfl rfl (q_index_lst G rfl rfl rfl rfl (by omega) (getNI (by omega) (by omega))) ?_
            refine QL_run rfl rfl rfl (QX_q rfl rfl (q_load_ept G rfl rfl rfl rfl rfl) (QL_run rfl rfl rfl (?_)))
            first | refine QX_q rfl rfl (q_index_lst G rfl rfl rfl rfl (by omega) (getN (by omega))) ?_ | refine QX_q rfl rfl (q_index_lst G rfl rfl rfl rfl (by omega) (getNI (by omega) (by omega))) ?_
            refine QL_run rfl rfl rfl (QX_q rfl rfl (q_field_ept G rfl rfl rfl rfl) (QL_run rfl rfl rfl (QX_q rfl rfl (q_load_ept G rfl rfl rfl rfl rfl) (QL_run rfl rfl rfl (QX_q rfl rfl (q_cmp rfl rfl rfl rfl) (QL_cons rfl (QX_q rfl rfl (q_pick_t rfl rfl rfl) (?_))))))))
            refine QL_nil (hK11 _ ?_)
            clear hK11 K11
            refine W_cond rfl (fun h5 => ?_) (fun h5 => ?_)
            · try rw [h5]
              try simp only [rfb] at h5
              refine W_seq (fun K12 hK12 => ?_)
              refine W_region (WL_cons rfl (WX_q rfl rfl (q_assign rfl rfl) (?_)))
              refine WL_nil (hK12 _ ?_)
              clear hK12 K12
              refine W_ret (fin_one rfl (rc_v ?_))
              all_goals clear hK6 K6 hK2 K2
              all_goals (first | (have e : allN l.length (elS rs l k) = false := allN_f (i := i) (elS_f (by simp only [tgI, prI]; rw [← ht]; omega)) (by omega); simp only [stG, e, Bool.false_and]; done) | (have e : allN l.length (elS rs l k) = true := allN_t hinv.2 (by omega); simp only [stG, e, Bool.true_and, le4]; done))
            · try rw [h5]
              try simp only [rfb] at h5
              refine W_skip (hK6 _ ?_)
              clear hK6 K6
              refine W_region (WL_cons rfl (WX_q rfl rfl (q_move rfl rfl) (WL_cons rfl (?_))))
              first | refine WX_q rfl rfl (q_arith rfl rfl rfl rfl (by omega) (by omega)) ?_ | refine WX_q rfl rfl (q_wrap rfl rfl rfl rfl) ?_
              refine WL_cons rfl (WX_q rfl rfl (q_assign rfl rfl) (?_))
              refine WL_nil ⟨(i + 1), ?_, ?_, ⟨⟨_, rfl, by rfl⟩, rfl, trivial⟩, trivial, rfl, rfl, rfl⟩
              · exact ⟨by omega, upto_succ hinv.2 (elS_iff.mpr ⟨by omega, by first | assumption | (simp only [tgI]; omega), by first | exact .inl (by omega) | exact .inr (by simp only [prI]; rw [← ht]; omega)⟩)⟩
              · omega
          · try rw [h4]
            try simp only [rfb] at h4
            refine QL_skip rfl rfl rfl rfl rfl rfl (QL_skip rfl rfl rfl rfl rfl rfl (QL_skip rfl rfl rfl rfl rfl rfl (QL_skip rfl rfl rfl rfl rfl rfl (QL_skip rfl rfl rfl rfl rfl rfl (QL_skip rfl rfl rfl rfl rfl rfl (QL_skip rfl rfl rfl rfl rfl rfl (QL_skip rfl rfl rfl rfl rfl rfl (QL_skip rfl rfl rfl rfl rfl rfl (QL_skip rfl rfl rfl rfl rfl rfl (QL_skip rfl rfl rfl rfl rfl rfl (QL_skip rfl rfl rfl rfl rfl rfl (QL_skip rfl rfl rfl rfl rfl rfl (QL_skip rfl rfl rfl rfl rfl rfl (QL_skip rfl rfl rfl rfl rfl rfl (QL_skip rfl rfl rfl rfl rfl rfl (QL_skip rfl rfl rfl rfl rfl rfl (QL_skip rfl rfl rfl rfl rfl rfl (QL_cons rfl (QX_q rfl rfl (q_pick_f rfl rfl rfl) (?_))))))))))))))))))))
            refine QL_nil (hK11 _ ?_)
            clear hK11 K11
            refine W_false rfl ?_
            refine W_skip (hK6 _ ?_)
            clear hK6 K6
            refine W_region (WL_cons rfl (WX_q rfl rfl (q_move rfl rfl) (WL_cons rfl (?_))))
            first | refine WX_q rfl rfl (q_arith rfl rfl rfl rfl (by omega) (by omega)) ?_ | refine WX_q rfl rfl (q_wrap rfl rfl rfl rfl) ?_
            refine WL_cons rfl (WX_q rfl rfl (q_assign rfl rfl) (?_))
            refine WL_nil ⟨(i + 1), ?_, ?_, ⟨⟨_, rfl, by rfl⟩, rfl, trivial⟩, trivial, rfl, rfl, rfl⟩
            · exact ⟨by omega, upto_succ hinv.2 (elS_iff.mpr ⟨by omega, by first | assumption | (simp only [tgI]; omega), by first | exact .inl (by omega) | exact .inr (by simp only [prI]; rw [← ht]; omega)⟩)⟩
            · omega
    · try rw [h1]
      try simp only [rfb] at h1
      refine W_exit (hK2 _ ?_)
      clear hK4 K4 hK2 K2
      refine W_seq (fun K13 hK13 => ?_)
      refine W_region (WL_cons rfl (WX_q rfl rfl (q_move rfl rfl) (WL_cons rfl (?_))))
      first | refine WX_q rfl rfl (q_len' G rfl rfl rfl rfl (List.length_map _)) ?_ | refine WX_q rfl rfl (q_len G rfl rfl rfl rfl) ?_
      refine WL_cons rfl (WX_q rfl rfl (q_cmp rfl rfl rfl rfl) (WL_cons rfl (WX_q rfl rfl (q_assign rfl rfl) (?_))))
      refine WL_nil (hK13 _ ?_)
      clear hK13 K13
      refine W_ret (fin_one rfl (rc_v ?_))
      all_goals (first | (have e : allN l.length (elS rs l k) = false := allN_f (i := i) (elS_f (by simp only [tgI, prI]; rw [← ht]; omega)) (by omega); simp only [stG, e, Bool.false_and]; done) | (have e : allN l.length (elS rs l k) = true := allN_t hinv.2 (by omega); simp only [stG, e, Bool.true_and, le4]; done))

theorem c_spec_l25Good (rs : List Route) (a : Abs) (hs : SmallA a) (hn : rs.length ≤ 1048576) : Ctr Tryz.prog 58 [.lst 2 (rs.map encRo), .agg [.lst 1 (a.en.map encO), .lst 1 (a.ra.map encO), .lst 1 (a.po.map encO), .lst 1 (a.ma.map encI), .nst none 1 (a.st.map encSt)]] (.one (.v (.bool (absOK rs a)))) := by
  refine Ctr.of (n := 85) G Tryz.func58 rfl (by kernel_rfl) rfl rfl rfl (fun w0 => ?_)
  refine W_pinS 1 rfl (fun _ => rfl) (fun u1 => ?_)
  refine W_seq (fun K1 hK1 => ?_)
  refine W_region (WL_cons rfl (WX_box 1 rfl rfl rfl rfl rfl rfl rfl (WL_cons rfl (WX_q rfl rfl (q_assign rfl rfl) (?_)))))
  refine WL_nil (hK1 _ ?_)
  clear hK1 K1
  refine W_seq (fun K2 hK2 => ?_)
  refine W_region (WL_cons rfl (WX_q rfl rfl (q_field_ptr G rfl rfl rfl rfl) (WL_cons rfl (WX_q rfl rfl (q_lst (q_load_box G rfl rfl rfl rfl rfl rfl rfl)) (WL_cons rfl (?_))))))
  first | refine WX_q rfl rfl (q_len' G rfl rfl rfl rfl (List.length_map _)) ?_ | refine WX_q rfl rfl (q_len G rfl rfl rfl rfl) ?_
  refine WL_cons rfl (WX_q rfl rfl (q_assign rfl rfl) (?_))
  refine WL_nil (hK2 _ ?_)
  clear hK2 K2
  refine W_seq (fun K3 hK3 => ?_)
  refine W_seq (fun K4 hK4 => ?_)
  refine W_region (WL_cons rfl (WX_q rfl rfl (q_move rfl rfl) (WL_cons rfl (WX_q rfl rfl (q_move rfl rfl) (WL_cons rfl (?_))))))
  refine WX_q rfl rfl (q_call rfl (ArgsOK.of rfl) (c_spec_l21Routes rs _ hn (by have := hs.ma; omega)) rfl) ?_
  refine WL_cons rfl (WX_q rfl rfl (q_not rfl rfl) (WL_cons rfl (WX_q rfl rfl (q_move rfl rfl) (WL_part rfl rfl rfl (fun h1 => ?_) (fun h1 => ?_)))))
  · try rw [h1]
    try simp only [rfb] at h1
    refine WL_skip rfl rfl rfl rfl rfl rfl (WL_skip rfl rfl rfl rfl rfl rfl (WL_skip rfl rfl rfl rfl rfl rfl (WL_skip rfl rfl rfl rfl rfl rfl (WL_skip rfl rfl rfl rfl rfl rfl (WL_cons rfl (WX_q rfl rfl (q_pick_t rfl rfl rfl) (WL_cons rfl (WX_q rfl rfl (q_move rfl rfl) (WL_skip rfl rfl rfl rfl rfl rfl (WL_skip rfl rfl rfl rfl rfl rfl (WL_skip rfl rfl rfl rfl rfl rfl (WL_skip rfl rfl rfl rfl rfl rfl (WL_cons rfl (WX_q rfl rfl (q_pick_t rfl rfl rfl) (WL_cons rfl (WX_q rfl rfl (q_move rfl rfl) (WL_skip rfl rfl rfl rfl rfl rfl (WL_skip rfl rfl rfl rfl rfl rfl (WL_skip rfl rfl rfl rfl rfl rfl (WL_skip rfl rfl rfl rfl rfl rfl (WL_cons rfl (WX_q rfl rfl (q_pick_t rfl rfl rfl) (WL_cons rfl (WX_q rfl rfl (q_move rfl rfl) (WL_skip rfl rfl rfl rfl rfl rfl (WL_skip rfl rfl rfl rfl rfl rfl (WL_skip rfl rfl rfl rfl rfl rfl (WL_skip rfl rfl rfl rfl rfl rfl (WL_cons rfl (WX_q rfl rfl (q_pick_t rfl rfl rfl) (?_)))))))))))))))))))))))))))))))
    refine WL_nil (hK4 _ ?_)
    clear hK4 K4
    refine W_true rfl ?_
    refine W_seq (fun K5 hK5 => ?_)
    refine W_region (WL_cons rfl (WX_q rfl rfl (q_assign rfl rfl) (?_)))
    refine WL_nil (hK5 _ ?_)
    clear hK5 K5
    refine W_ret (fin_one rfl (rc_v ?_))
    all_goals clear hK3 K3
    all_goals (first | (exact congrArg Value.bool (absOK_r (by assumption)).symm) | (rw [absOK_l (by omega)]; done) | (exact congrArg Value.bool (absOK_f (k := k) (oneK_in (by assumption)) (by omega)).symm) | (exact congrArg Value.bool (absOK_f (k := k) (oneK_st (by assumption)) (by omega)).symm) | (exact congrArg Value.bool (absOK_f (k := k) (oneK_po (i := i) (elP_f.mpr (by assumption)) (by omega)) (by omega)).symm) | (exact congrArg Value.bool (absOK_t h1 (lensA_iff.mpr hl) (fun j hj => hk.2 j (by omega))).symm))
  · try rw [h1]
    try simp only [rfb] at h1
    refine WL_run rfl rfl rfl (WX_q rfl rfl (q_field_ptr G rfl rfl rfl rfl) (WL_run rfl rfl rfl (WX_q rfl rfl (q_nst (q_load_box G rfl rfl rfl rfl rfl rfl rfl)) (WL_run rfl rfl rfl (?_)))))
    first | refine WX_q rfl rfl (q_len' G rfl rfl rfl rfl (List.length_map _)) ?_ | refine WX_q rfl rfl (q_len G rfl rfl rfl rfl) ?_
    refine WL_run rfl rfl rfl (WX_q rfl rfl (q_move rfl rfl) (WL_run rfl rfl rfl (WX_q rfl rfl (q_cmp rfl rfl rfl rfl) (WL_cons rfl (WX_q rfl rfl (q_pick_f rfl rfl rfl) (WL_cons rfl (WX_q rfl rfl (q_move rfl rfl) (WL_part rfl rfl rfl (fun h2 => ?_) (fun h2 => ?_)))))))))
    · try rw [h2]
      try simp only [rfb] at h2
      refine WL_skip rfl rfl rfl rfl rfl rfl (WL_skip rfl rfl rfl rfl rfl rfl (WL_skip rfl rfl rfl rfl rfl rfl (WL_skip rfl rfl rfl rfl rfl rfl (WL_cons rfl (WX_q rfl rfl (q_pick_t rfl rfl rfl) (WL_cons rfl (WX_q rfl rfl (q_move rfl rfl) (WL_skip rfl rfl rfl rfl rfl rfl (WL_skip rfl rfl rfl rfl rfl rfl (WL_skip rfl rfl rfl rfl rfl rfl (WL_skip rfl rfl rfl rfl rfl rfl (WL_cons rfl (WX_q rfl rfl (q_pick_t rfl rfl rfl) (WL_cons rfl (WX_q rfl rfl (q_move rfl rfl) (WL_skip rfl rfl rfl rfl rfl rfl (WL_skip rfl rfl rfl rfl rfl rfl (WL_skip rfl rfl rfl rfl rfl rfl (WL_skip rfl rfl rfl rfl rfl rfl (WL_cons rfl (WX_q rfl rfl (q_pick_t rfl rfl rfl) (?_))))))))))))))))))))))
      refine WL_nil (hK4 _ ?_)
      clear hK4 K4
      refine W_true rfl ?_
      refine W_seq (fun K6 hK6 => ?_)
      refine W_region (WL_cons rfl (WX_q rfl rfl (q_assign rfl rfl) (?_)))
      refine WL_nil (hK6 _ ?_)
      clear hK6 K6
      refine W_ret (fin_one rfl (rc_v ?_))
      all_goals clear hK3 K3
      all_goals (first | (exact congrArg Value.bool (absOK_r (by assumption)).symm) | (rw [absOK_l (by omega)]; done) | (exact congrArg Value.bool (absOK_f (k := k) (oneK_in (by assumption)) (by omega)).symm) | (exact congrArg Value.bool (absOK_f (k := k) (oneK_st (by assumption)) (by omega)).symm) | (exact congrArg Value.bool (absOK_f (k := k) (oneK_po (i := i) (elP_f.mpr (by assumption)) (by omega)) (by omega)).symm) | (exact congrArg Value.bool (absOK_t h1 (lensA_iff.mpr hl) (fun j hj => hk.2 j (by omega))).symm))
    · try rw [h2]
      try simp only [rfb] at h2
      refine WL_run rfl rfl rfl (WX_q rfl rfl (q_field_ptr G rfl rfl rfl rfl) (WL_run rfl rfl rfl (WX_q rfl rfl (q_lst (q_load_box G rfl rfl rfl rfl rfl rfl rfl)) (WL_run rfl rfl rfl (?_)))))
      first | refine WX_q rfl rfl (q_len' G rfl rfl rfl rfl (List.length_map _)) ?_ | refine WX_q rfl rfl (q_len G rfl rfl rfl rfl) ?_
      refine WL_run rfl rfl rfl (WX_q rfl rfl (q_cmp rfl rfl rfl rfl) (WL_cons rfl (WX_q rfl rfl (q_pick_f rfl rfl rfl) (WL_cons rfl (WX_q rfl rfl (q_move rfl rfl) (WL_part rfl rfl rfl (fun h3 => ?_) (fun h3 => ?_)))))))
      · try rw [h3]
        try simp only [rfb] at h3
        refine WL_skip rfl rfl rfl rfl rfl rfl (WL_skip rfl rfl rfl rfl rfl rfl (WL_skip rfl rfl rfl rfl rfl rfl (WL_skip rfl rfl rfl rfl rfl rfl (WL_cons rfl (WX_q rfl rfl (q_pick_t rfl rfl rfl) (WL_cons rfl (WX_q rfl rfl (q_move rfl rfl) (WL_skip rfl rfl rfl rfl rfl rfl (WL_skip rfl rfl rfl rfl rfl rfl (WL_skip rfl rfl rfl rfl rfl rfl (WL_skip rfl rfl rfl rfl rfl rfl (WL_cons rfl (WX_q rfl rfl (q_pick_t rfl rfl rfl) (?_))))))))))))))
        refine WL_nil (hK4 _ ?_)
        clear hK4 K4
        refine W_true rfl ?_
        refine W_seq (fun K7 hK7 => ?_)
        refine W_region (WL_cons rfl (WX_q rfl rfl (q_assign rfl rfl) (?_)))
        refine WL_nil (hK7 _ ?_)
        clear hK7 K7
        refine W_ret (fin_one rfl (rc_v ?_))
        all_goals clear hK3 K3
        all_goals (first | (exact congrArg Value.bool (absOK_r (by assumption)).symm) | (rw [absOK_l (by omega)]; done) | (exact congrArg Value.bool (absOK_f (k := k) (oneK_in (by assumption)) (by omega)).symm) | (exact congrArg Value.bool (absOK_f (k := k) (oneK_st (by assumption)) (by omega)).symm) | (exact congrArg Value.bool (absOK_f (k := k) (oneK_po (i := i) (elP_f.mpr (by assumption)) (by omega)) (by omega)).symm) | (exact congrArg Value.bool (absOK_t h1 (lensA_iff.mpr hl) (fun j hj => hk.2 j (by omega))).symm))
      · try rw [h3]
        try simp only [rfb] at h3
        refine WL_run rfl rfl rfl (WX_q rfl rfl (q_field_ptr G rfl rfl rfl rfl) (WL_run rfl rfl rfl (WX_q rfl rfl (q_lst (q_load_box G rfl rfl rfl rfl rfl rfl rfl)) (WL_run rfl rfl rfl (?_)))))
        first | refine WX_q rfl rfl (q_len' G rfl rfl rfl rfl (List.length_map _)) ?_ | refine WX_q rfl rfl (q_len G rfl rfl rfl rfl) ?_
        refine WL_run rfl rfl rfl (WX_q rfl rfl (q_cmp rfl rfl rfl rfl) (WL_cons rfl (WX_q rfl rfl (q_pick_f rfl rfl rfl) (WL_cons rfl (WX_q rfl rfl (q_move rfl rfl) (WL_part rfl rfl rfl (fun h4 => ?_) (fun h4 => ?_)))))))
        · try rw [h4]
          try simp only [rfb] at h4
          refine WL_skip rfl rfl rfl rfl rfl rfl (WL_skip rfl rfl rfl rfl rfl rfl (WL_skip rfl rfl rfl rfl rfl rfl (WL_skip rfl rfl rfl rfl rfl rfl (WL_cons rfl (WX_q rfl rfl (q_pick_t rfl rfl rfl) (?_))))))
          refine WL_nil (hK4 _ ?_)
          clear hK4 K4
          refine W_true rfl ?_
          refine W_seq (fun K8 hK8 => ?_)
          refine W_region (WL_cons rfl (WX_q rfl rfl (q_assign rfl rfl) (?_)))
          refine WL_nil (hK8 _ ?_)
          clear hK8 K8
          refine W_ret (fin_one rfl (rc_v ?_))
          all_goals clear hK3 K3
          all_goals (first | (exact congrArg Value.bool (absOK_r (by assumption)).symm) | (rw [absOK_l (by omega)]; done) | (exact congrArg Value.bool (absOK_f (k := k) (oneK_in (by assumption)) (by omega)).symm) | (exact congrArg Value.bool (absOK_f (k := k) (oneK_st (by assumption)) (by omega)).symm) | (exact congrArg Value.bool (absOK_f (k := k) (oneK_po (i := i) (elP_f.mpr (by assumption)) (by omega)) (by omega)).symm) | (exact congrArg Value.bool (absOK_t h1 (lensA_iff.mpr hl) (fun j hj => hk.2 j (by omega))).symm))
        · try rw [h4]
          try simp only [rfb] at h4
          refine WL_run rfl rfl rfl (WX_q rfl rfl (q_field_ptr G rfl rfl rfl rfl) (WL_run rfl rfl rfl (WX_q rfl rfl (q_lst (q_load_box G rfl rfl rfl rfl rfl rfl rfl)) (WL_run rfl rfl rfl (?_)))))
          first | refine WX_q rfl rfl (q_len' G rfl rfl rfl rfl (List.length_map _)) ?_ | refine WX_q rfl rfl (q_len G rfl rfl rfl rfl) ?_
          refine WL_run rfl rfl rfl (WX_q rfl rfl (q_cmp rfl rfl rfl rfl) (WL_cons rfl (WX_q rfl rfl (q_pick_f rfl rfl rfl) (?_))))
          refine WL_nil (hK4 _ ?_)
          clear hK4 K4
          refine W_cond rfl (fun h5 => ?_) (fun h5 => ?_)
          · try rw [h5]
            try simp only [rfb] at h5
            refine W_seq (fun K9 hK9 => ?_)
            refine W_region (WL_cons rfl (WX_q rfl rfl (q_assign rfl rfl) (?_)))
            refine WL_nil (hK9 _ ?_)
            clear hK9 K9
            refine W_ret (fin_one rfl (rc_v ?_))
            all_goals clear hK3 K3
            all_goals (first | (exact congrArg Value.bool (absOK_r (by assumption)).symm) | (rw [absOK_l (by omega)]; done) | (exact congrArg Value.bool (absOK_f (k := k) (oneK_in (by assumption)) (by omega)).symm) | (exact congrArg Value.bool (absOK_f (k := k) (oneK_st (by assumption)) (by omega)).symm) | (exact congrArg Value.bool (absOK_f (k := k) (oneK_po (i := i) (elP_f.mpr (by assumption)) (by omega)) (by omega)).symm) | (exact congrArg Value.bool (absOK_t h1 (lensA_iff.mpr hl) (fun j hj => hk.2 j (by omega))).symm))
          · try rw [h5]
            try simp only [rfb] at h5
            have hrt := okRts_iff.mp h1
            have hr8 := hrt.2.1
            have hl : a.st.length = a.ma.length ∧ a.en.length = 8 ∧ a.ra.length = 8 ∧ a.po.length = 8 := ⟨by omega, by omega, by omega, by omega⟩
            refine W_skip (hK3 _ ?_)
            clear hK3 K3
            refine W_seq (fun K10 hK10 => ?_)
            refine W_seq (fun K11 hK11 => ?_)
            refine W_region (WL_cons rfl (WX_q rfl rfl (q_assign rfl rfl) (?_)))
            refine WL_nil (hK11 _ ?_)
            clear hK11 K11
            refine W_block ?_
            refine W_loopK [0, 3, 5] [0] (fun (k : Nat) => [(6, .v (.int .i64 (k : Int)))]) (fun (k : Nat) => []) (fun (k : Nat) => k ≤ a.ma.length ∧ ∀ j, j < k → oneK rs a j = true) (fun (k : Nat) => a.ma.length - k) 0 rfl rfl ?_ ?_ ?_ ?_
            · exact ⟨Nat.zero_le _, fun j hj => by omega⟩
            · exact ⟨⟨_, rfl, by (first | rfl | (simp; done) | (simp; omega))⟩, rfl, trivial⟩
            · exact trivial
            · intro k hk
              simp only [List.cons_append, List.nil_append]
              refine W_seq (fun K12 hK12 => ?_)
              refine W_seq (fun K13 hK13 => ?_)
              refine W_region (WL_cons rfl (WX_q rfl rfl (q_move rfl rfl) (WL_cons rfl (WX_q rfl rfl (q_move rfl rfl) (WL_cons rfl (WX_q rfl rfl (q_cmp rfl rfl rfl rfl) (?_)))))))
              refine WL_nil (hK13 _ ?_)
              clear hK13 K13
              refine W_cond rfl (fun h6 => ?_) (fun h6 => ?_)
              · try rw [h6]
                try simp only [rfb] at h6
                refine W_skip (hK12 _ ?_)
                clear hK12 K12
                refine W_seq (fun K14 hK14 => ?_)
                refine W_block ?_
                refine W_seq (fun K15 hK15 => ?_)
                refine W_seq (fun K16 hK16 => ?_)
                refine W_region (WL_cons rfl (WX_q rfl rfl (q_field_ptr G rfl rfl rfl rfl) (WL_cons rfl (WX_q rfl rfl (q_lst (q_load_box G rfl rfl rfl rfl rfl rfl rfl)) (WL_cons rfl (WX_q rfl rfl (q_move rfl rfl) (WL_cons rfl (?_))))))))
                first | refine WX_q rfl rfl (q_index_lst G rfl rfl rfl rfl (by omega) (getN (by omega))) ?_ | refine WX_q rfl rfl (q_index_lst G rfl rfl rfl rfl (by omega) (getNI (by omega) (by omega))) ?_
                refine WL_cons rfl (WX_q rfl rfl (q_load_ept G rfl rfl rfl rfl rfl) (WL_cons rfl (?_)))
                refine WX_q rfl rfl (q_call rfl (ArgsOK.of rfl) (c_spec_l1In _ _ _) rfl) ?_
                refine WL_cons rfl (WX_q rfl rfl (q_not rfl rfl) (WL_cons rfl (WX_q rfl rfl (q_move rfl rfl) (WL_part rfl rfl rfl (fun h7 => ?_) (fun h7 => ?_)))))
                · try rw [h7]
                  try simp only [rfb] at h7
                  refine WL_skip rfl rfl rfl rfl rfl rfl (WL_skip rfl rfl rfl rfl rfl rfl (WL_skip rfl rfl rfl rfl rfl rfl (WL_skip rfl rfl rfl rfl rfl rfl (WL_skip rfl rfl rfl rfl rfl rfl (WL_skip rfl rfl rfl rfl rfl rfl (WL_skip rfl rfl rfl rfl rfl rfl (WL_skip rfl rfl rfl rfl rfl rfl (WL_skip rfl rfl rfl rfl rfl rfl (WL_cons rfl (WX_q rfl rfl (q_pick_t rfl rfl rfl) (?_)))))))))))
                  refine WL_nil (hK16 _ ?_)
                  clear hK16 K16
                  refine W_true rfl ?_
                  refine W_seq (fun K17 hK17 => ?_)
                  refine W_region (WL_cons rfl (WX_q rfl rfl (q_assign rfl rfl) (?_)))
                  refine WL_nil (hK17 _ ?_)
                  clear hK17 K17
                  refine W_ret (fin_one rfl (rc_v ?_))
                  all_goals clear hK15 K15 hK14 K14 hK10 K10
                  all_goals (first | (exact congrArg Value.bool (absOK_r (by assumption)).symm) | (rw [absOK_l (by omega)]; done) | (exact congrArg Value.bool (absOK_f (k := k) (oneK_in (by assumption)) (by omega)).symm) | (exact congrArg Value.bool (absOK_f (k := k) (oneK_st (by assumption)) (by omega)).symm) | (exact congrArg Value.bool (absOK_f (k := k) (oneK_po (i := i) (elP_f.mpr (by assumption)) (by omega)) (by omega)).symm) | (exact congrArg Value.bool (absOK_t h1 (lensA_iff.mpr hl) (fun j hj => hk.2 j (by omega))).symm))
                · try rw [h7]
                  try simp only [rfb] at h7
                  refine WL_run rfl rfl rfl (WX_q rfl rfl (q_move rfl rfl) (WL_run rfl rfl rfl (WX_q rfl rfl (q_field_ptr G rfl rfl rfl rfl) (WL_run rfl rfl rfl (WX_q rfl rfl (q_nst (q_load_box G rfl rfl rfl rfl rfl rfl rfl)) (WL_run rfl rfl rfl (WX_q rfl rfl (q_move rfl rfl) (WL_run rfl rfl rfl (?_)))))))))
                  first | refine WX_q rfl rfl (q_index_nst G rfl rfl rfl rfl (by omega) (getN (by omega)) rfl) ?_ | refine WX_q rfl rfl (q_index_nst G rfl rfl rfl rfl (by omega) (getNI (by omega) (by omega)) rfl) ?_
                  refine WL_run rfl rfl rfl (WX_q rfl rfl (q_load_eptN G rfl rfl rfl rfl) (WL_run rfl rfl rfl (WX_q rfl rfl (q_move rfl rfl) (WL_run rfl rfl rfl (?_)))))
                  refine WX_q rfl rfl (q_call rfl (ArgsOK.of rfl) (c_spec_l25Stack rs _ k hr8 (Nat.le_trans (hs.all k (by omega)) (by decide))) rfl) ?_
                  refine WL_run rfl rfl rfl (WX_q rfl rfl (q_not rfl rfl) (WL_cons rfl (WX_q rfl rfl (q_pick_f rfl rfl rfl) (?_))))
                  refine WL_nil (hK16 _ ?_)
                  clear hK16 K16
                  refine W_cond rfl (fun h8 => ?_) (fun h8 => ?_)
                  · try rw [h8]
                    try simp only [rfb] at h8
                    refine W_seq (fun K18 hK18 => ?_)
                    refine W_region (WL_cons rfl (WX_q rfl rfl (q_assign rfl rfl) (?_)))
                    refine WL_nil (hK18 _ ?_)
                    clear hK18 K18
                    refine W_ret (fin_one rfl (rc_v ?_))
                    all_goals clear hK15 K15 hK14 K14 hK10 K10
                    all_goals (first | (exact congrArg Value.bool (absOK_r (by assumption)).symm) | (rw [absOK_l (by omega)]; done) | (exact congrArg Value.bool (absOK_f (k := k) (oneK_in (by assumption)) (by omega)).symm) | (exact congrArg Value.bool (absOK_f (k := k) (oneK_st (by assumption)) (by omega)).symm) | (exact congrArg Value.bool (absOK_f (k := k) (oneK_po (i := i) (elP_f.mpr (by assumption)) (by omega)) (by omega)).symm) | (exact congrArg Value.bool (absOK_t h1 (lensA_iff.mpr hl) (fun j hj => hk.2 j (by omega))).symm))
                  · try rw [h8]
                    try simp only [rfb] at h8
                    refine W_skip (hK15 _ ?_)
                    clear hK15 K15
                    refine W_seq (fun K19 hK19 => ?_)
                    refine W_region (WL_cons rfl (WX_q rfl rfl (q_assign rfl rfl) (?_)))
                    refine WL_nil (hK19 _ ?_)
                    clear hK19 K19
                    refine W_block ?_
                    refine W_loopK [0, 3, 5, 6] [0] (fun (i : Nat) => [(7, .v (.int .i64 (i : Int)))]) (fun (i : Nat) => []) (fun (i : Nat) => i ≤ (a.st.getD k default).length ∧ ∀ j, j < i → elP a.po (a.st.getD k default) j = true) (fun (i : Nat) => (a.st.getD k default).length - i) 0 rfl rfl ?_ ?_ ?_ ?_
                    · exact ⟨Nat.zero_le _, fun j hj => (by omega)⟩
                    · exact ⟨⟨_, rfl, by (first | rfl | (simp; done) | (simp; omega))⟩, rfl, trivial⟩
                    · exact trivial
                    · intro i hinv
                      have hlk := hs.all k (by omega)
                      simp only [List.cons_append, List.nil_append]
                      refine W_seq (fun K20 hK20 => ?_)
                      refine W_seq (fun K21 hK21 => ?_)
                      refine W_region (WL_cons rfl (WX_q rfl rfl (q_move rfl rfl) (WL_cons rfl (WX_q rfl rfl (q_field_ptr G rfl rfl rfl rfl) (WL_cons rfl (WX_q rfl rfl (q_nst (q_load_box G rfl rfl rfl rfl rfl rfl rfl)) (WL_cons rfl (WX_q rfl rfl (q_move rfl rfl) (WL_cons rfl (?_))))))))))
                      first | refine WX_q rfl rfl (q_index_nst G rfl rfl rfl rfl (by omega) (getN (by omega)) rfl) ?_ | refine WX_q rfl rfl (q_index_nst G rfl rfl rfl rfl (by omega) (getNI (by omega) (by omega)) rfl) ?_
                      refine WL_cons rfl (WX_q rfl rfl (q_load_eptN G rfl rfl rfl rfl) (WL_cons rfl (?_)))
                      first | refine WX_q rfl rfl (q_len' G rfl rfl rfl rfl (List.length_map _)) ?_ | refine WX_q rfl rfl (q_len G rfl rfl rfl rfl) ?_
                      refine WL_cons rfl (WX_q rfl rfl (q_cmp rfl rfl rfl rfl) (?_))
                      refine WL_nil (hK21 _ ?_)
                      clear hK21 K21
                      refine W_cond rfl (fun h9 => ?_) (fun h9 => ?_)
                      · try rw [h9]
                        try simp only [rfb] at h9
                        have hel := (elS_iff.mp ((stG_t h8).1 i (by omega))).1
                        refine W_skip (hK20 _ ?_)
                        clear hK20 K20
                        refine W_seq (fun K22 hK22 => ?_)
                        refine W_block ?_
                        refine W_seq (fun K23 hK23 => ?_)
                        refine W_draws mixed (by kernel_rfl) (QL_cons rfl (QX_q rfl rfl (q_field_ptr G rfl rfl rfl rfl) (QL_cons rfl (QX_q rfl rfl (q_lst (q_load_box G rfl rfl rfl rfl rfl rfl rfl)) (QL_cons rfl (QX_q rfl rfl (q_field_ptr G rfl rfl rfl rfl) (QL_cons rfl (QX_q rfl rfl (q_nst (q_load_box G rfl rfl rfl rfl rfl rfl rfl)) (QL_cons rfl (QX_q rfl rfl (q_move rfl rfl) (QL_cons rfl (?_))))))))))))
                        first | refine QX_q rfl rfl (q_index_nst G rfl rfl rfl rfl (by omega) (getN (by omega)) rfl) ?_ | refine QX_q rfl rfl (q_index_nst G rfl rfl rfl rfl (by omega) (getNI (by omega) (by omega)) rfl) ?_
                        refine QL_cons rfl (QX_q rfl rfl (q_load_eptN G rfl rfl rfl rfl) (QL_cons rfl (QX_q rfl rfl (q_move rfl rfl) (QL_cons rfl (?_)))))
                        first | refine QX_q rfl rfl (q_index_lst G rfl rfl rfl rfl (by omega) (getN (by omega))) ?_ | refine QX_q rfl rfl (q_index_lst G rfl rfl rfl rfl (by omega) (getNI (by omega) (by omega))) ?_
                        refine QL_cons rfl (QX_q rfl rfl (q_load_ept G rfl rfl rfl rfl rfl) (QL_cons rfl (?_)))
                        first | refine QX_q rfl rfl (q_index_lst G rfl rfl rfl rfl (by omega) (getN (by omega))) ?_ | refine QX_q rfl rfl (q_index_lst G rfl rfl rfl rfl (by omega) (getNI (by omega) (by omega))) ?_
                        refine QL_cons rfl (QX_q rfl rfl (q_load_ept G rfl rfl rfl rfl rfl) (?_))
                        refine QL_nil (hK23 _ ?_)
                        clear hK23 K23
                        refine W_cond rfl (fun h10 => ?_) (fun h10 => ?_)
                        · try rw [h10]
                          try simp only [rfb] at h10
                          refine W_seq (fun K24 hK24 => ?_)
                          refine W_region (WL_cons rfl (WX_q rfl rfl (q_assign rfl rfl) (?_)))
                          refine WL_nil (hK24 _ ?_)
                          clear hK24 K24
                          refine W_ret (fin_one rfl (rc_v ?_))
                          all_goals clear hK22 K22 hK14 K14 hK10 K10
                          all_goals (first | (exact congrArg Value.bool (absOK_r (by assumption)).symm) | (rw [absOK_l (by omega)]; done) | (exact congrArg Value.bool (absOK_f (k := k) (oneK_in (by assumption)) (by omega)).symm) | (exact congrArg Value.bool (absOK_f (k := k) (oneK_st (by assumption)) (by omega)).symm) | (exact congrArg Value.bool (absOK_f (k := k) (oneK_po (i := i) (elP_f.mpr (by assumption)) (by omega)) (by omega)).symm) | (exact congrArg Value.bool (absOK_t h1 (lensA_iff.mpr hl) (fun j hj => hk.2 j (by omega))).symm))
                        · try rw [h10]
                          try simp only [rfb] at h10
                          refine W_skip (hK22 _ ?_)
                          clear hK22 K22
                          refine W_region (WL_cons rfl (WX_q rfl rfl (q_move rfl rfl) (WL_cons rfl (?_))))
                          first | refine WX_q rfl rfl (q_arith rfl rfl rfl rfl (by omega) (by omega)) ?_ | refine WX_q rfl rfl (q_wrap rfl rfl rfl rfl) ?_
                          refine WL_cons rfl (WX_q rfl rfl (q_assign rfl rfl) (?_))
                          refine WL_nil ⟨(i + 1), ?_, ?_, ⟨⟨_, rfl, by rfl⟩, rfl, trivial⟩, trivial, rfl, rfl, rfl⟩
                          · exact ⟨by omega, upto_succ hinv.2 (elP_t.mpr (by assumption))⟩
                          · omega
                      · try rw [h9]
                        try simp only [rfb] at h9
                        refine W_exit (hK14 _ ?_)
                        clear hK20 K20 hK14 K14
                        refine W_region (WL_cons rfl (WX_q rfl rfl (q_move rfl rfl) (WL_cons rfl (?_))))
                        first | refine WX_q rfl rfl (q_arith rfl rfl rfl rfl (by omega) (by omega)) ?_ | refine WX_q rfl rfl (q_wrap rfl rfl rfl rfl) ?_
                        refine WL_cons rfl (WX_q rfl rfl (q_assign rfl rfl) (?_))
                        refine WL_nil ⟨(k + 1), ?_, ?_, ⟨⟨_, rfl, by rfl⟩, rfl, trivial⟩, trivial, rfl, rfl, rfl⟩
                        · exact ⟨by omega, upto_succ hk.2 (oneK_t' h7 h8 (fun j hj => hinv.2 j (by omega)))⟩
                        · omega
              · try rw [h6]
                try simp only [rfb] at h6
                refine W_exit (hK10 _ ?_)
                clear hK12 K12 hK10 K10
                refine W_seq (fun K25 hK25 => ?_)
                refine W_region (WL_cons rfl (WX_q rfl rfl (q_assign rfl rfl) (?_)))
                refine WL_nil (hK25 _ ?_)
                clear hK25 K25
                refine W_ret (fin_one rfl (rc_v ?_))
                all_goals (first | (exact congrArg Value.bool (absOK_r (by assumption)).symm) | (rw [absOK_l (by omega)]; done) | (exact congrArg Value.bool (absOK_f (k := k) (oneK_in (by assumption)) (by omega)).symm) | (exact congrArg Value.bool (absOK_f (k := k) (oneK_st (by assumption)) (by omega)).symm) | (exact congrArg Value.bool (absOK_f (k := k) (oneK_po (i := i) (elP_f.mpr (by assumption)) (by omega)) (by omega)).symm) | (exact congrArg Value.bool (absOK_t h1 (lensA_iff.mpr hl) (fun j hj => hk.2 j (by omega))).symm))

theorem c_impl_IsAbstract (rs : List Route) (a : Abs) (hs : SmallA a) (hn : rs.length ≤ 1048576) : Ctr Tryz.prog 45 [.lst 2 (rs.map encRo), .agg [.lst 1 (a.en.map encO), .lst 1 (a.ra.map encO), .lst 1 (a.po.map encO), .lst 1 (a.ma.map encI), .nst none 1 (a.st.map encSt)]] (.one (.v (.bool (absOK rs a)))) := by
  refine Ctr.of (n := 111) G Tryz.func45 rfl (by kernel_rfl) rfl rfl rfl (fun w0 => ?_)
  refine W_pinS 1 rfl (fun _ => rfl) (fun u1 => ?_)
  refine W_seq (fun K1 hK1 => ?_)
  refine W_region (WL_cons rfl (WX_box 1 rfl rfl rfl rfl rfl rfl rfl (WL_cons rfl (WX_q rfl rfl (q_assign rfl rfl) (?_)))))
  refine WL_nil (hK1 _ ?_)
  clear hK1 K1
  refine W_seq (fun K2 hK2 => ?_)
  refine W_seq (fun K3 hK3 => ?_)
  refine W_region (WL_cons rfl (WX_q rfl rfl (q_move rfl rfl) (WL_cons rfl (WX_q rfl rfl (q_field_ptr G rfl rfl rfl rfl) (WL_cons rfl (WX_q rfl rfl (q_lst (q_load_box G rfl rfl rfl rfl rfl rfl rfl)) (WL_cons rfl (?_))))))))
  first | refine WX_q rfl rfl (q_len' G rfl rfl rfl rfl (List.length_map _)) ?_ | refine WX_q rfl rfl (q_len G rfl rfl rfl rfl) ?_
  refine WL_cons rfl (?_)
  refine WX_q rfl rfl (q_call rfl (ArgsOK.of rfl) (c_impl_areRoutes _ _ (by first | assumption | omega)) rfl) ?_
  refine WL_cons rfl (WX_q rfl rfl (q_not rfl rfl) (WL_cons rfl (WX_q rfl rfl (q_move rfl rfl) (WL_part rfl rfl rfl (fun h1 => ?_) (fun h1 => ?_)))))
  · try rw [h1]
    try simp only [rfb] at h1
    refine WL_skip rfl rfl rfl rfl rfl rfl (WL_skip rfl rfl rfl rfl rfl rfl (WL_skip rfl rfl rfl rfl rfl rfl (WL_skip rfl rfl rfl rfl rfl rfl (WL_skip rfl rfl rfl rfl rfl rfl (WL_skip rfl rfl rfl rfl rfl rfl (WL_skip rfl rfl rfl rfl rfl rfl (WL_cons rfl (WX_q rfl rfl (q_pick_t rfl rfl rfl) (WL_cons rfl (WX_q rfl rfl (q_move rfl rfl) (WL_skip rfl rfl rfl rfl rfl rfl (WL_skip rfl rfl rfl rfl rfl rfl (WL_skip rfl rfl rfl rfl rfl rfl (WL_skip rfl rfl rfl rfl rfl rfl (WL_cons rfl (WX_q rfl rfl (q_pick_t rfl rfl rfl) (WL_cons rfl (WX_q rfl rfl (q_move rfl rfl) (WL_skip rfl rfl rfl rfl rfl rfl (WL_skip rfl rfl rfl rfl rfl rfl (WL_skip rfl rfl rfl rfl rfl rfl (WL_skip rfl rfl rfl rfl rfl rfl (WL_cons rfl (WX_q rfl rfl (q_pick_t rfl rfl rfl) (WL_cons rfl (WX_q rfl rfl (q_move rfl rfl) (WL_skip rfl rfl rfl rfl rfl rfl (WL_skip rfl rfl rfl rfl rfl rfl (WL_skip rfl rfl rfl rfl rfl rfl (WL_skip rfl rfl rfl rfl rfl rfl (WL_cons rfl (WX_q rfl rfl (q_pick_t rfl rfl rfl) (?_)))))))))))))))))))))))))))))))))
    refine WL_nil (hK3 _ ?_)
    clear hK3 K3
    refine W_true rfl ?_
    refine W_seq (fun K4 hK4 => ?_)
    refine W_region (WL_cons rfl (WX_q rfl rfl (q_assign rfl rfl) (?_)))
    refine WL_nil (hK4 _ ?_)
    clear hK4 K4
    refine W_ret (fin_one rfl (rc_v ?_))
    all_goals clear hK2 K2
    all_goals (first | (exact congrArg Value.bool (absOK_r (by assumption)).symm) | (rw [absOK_l (by omega)]; done) | (exact congrArg Value.bool (absOK_f (k := k) (oneK_in (by assumption)) (by omega)).symm) | (exact congrArg Value.bool (absOK_f (k := k) (oneK_len (by omega)) (by omega)).symm) | (exact congrArg Value.bool (absOK_f (k := k) (oneK_po (i := i) (elP_f.mpr (by assumption)) (by omega)) (by omega)).symm) | (exact congrArg Value.bool (absOK_t h1 (lensA_iff.mpr hl) (fun j hj => hk.2 j (by omega))).symm) | (exact congrArg Value.bool (absOK_f (k := k) (oneK_el (i := i) (elS_f (by simp only [tgI, prI]; rw [← ht]; omega)) (by omega)) (by omega)).symm))
  · try rw [h1]
    try simp only [rfb] at h1
    refine WL_run rfl rfl rfl (WX_q rfl rfl (q_field_ptr G rfl rfl rfl rfl) (WL_run rfl rfl rfl (WX_q rfl rfl (q_nst (q_load_box G rfl rfl rfl rfl rfl rfl rfl)) (WL_run rfl rfl rfl (?_)))))
    first | refine WX_q rfl rfl (q_len' G rfl rfl rfl rfl (List.length_map _)) ?_ | refine WX_q rfl rfl (q_len G rfl rfl rfl rfl) ?_
    refine WL_run rfl rfl rfl (WX_q rfl rfl (q_field_ptr G rfl rfl rfl rfl) (WL_run rfl rfl rfl (WX_q rfl rfl (q_lst (q_load_box G rfl rfl rfl rfl rfl rfl rfl)) (WL_run rfl rfl rfl (?_)))))
    first | refine WX_q rfl rfl (q_len' G rfl rfl rfl rfl (List.length_map _)) ?_ | refine WX_q rfl rfl (q_len G rfl rfl rfl rfl) ?_
    refine WL_run rfl rfl rfl (WX_q rfl rfl (q_cmp rfl rfl rfl rfl) (WL_cons rfl (WX_q rfl rfl (q_pick_f rfl rfl rfl) (WL_cons rfl (WX_q rfl rfl (q_move rfl rfl) (WL_part rfl rfl rfl (fun h2 => ?_) (fun h2 => ?_)))))))
    · try rw [h2]
      try simp only [rfb] at h2
      refine WL_skip rfl rfl rfl rfl rfl rfl (WL_skip rfl rfl rfl rfl rfl rfl (WL_skip rfl rfl rfl rfl rfl rfl (WL_skip rfl rfl rfl rfl rfl rfl (WL_cons rfl (WX_q rfl rfl (q_pick_t rfl rfl rfl) (WL_cons rfl (WX_q rfl rfl (q_move rfl rfl) (WL_skip rfl rfl rfl rfl rfl rfl (WL_skip rfl rfl rfl rfl rfl rfl (WL_skip rfl rfl rfl rfl rfl rfl (WL_skip rfl rfl rfl rfl rfl rfl (WL_cons rfl (WX_q rfl rfl (q_pick_t rfl rfl rfl) (WL_cons rfl (WX_q rfl rfl (q_move rfl rfl) (WL_skip rfl rfl rfl rfl rfl rfl (WL_skip rfl rfl rfl rfl rfl rfl (WL_skip rfl rfl rfl rfl rfl rfl (WL_skip rfl rfl rfl rfl rfl rfl (WL_cons rfl (WX_q rfl rfl (q_pick_t rfl rfl rfl) (?_))))))))))))))))))))))
      refine WL_nil (hK3 _ ?_)
      clear hK3 K3
      refine W_true rfl ?_
      refine W_seq (fun K5 hK5 => ?_)
      refine W_region (WL_cons rfl (WX_q rfl rfl (q_assign rfl rfl) (?_)))
      refine WL_nil (hK5 _ ?_)
      clear hK5 K5
      refine W_ret (fin_one rfl (rc_v ?_))
      all_goals clear hK2 K2
      all_goals (first | (exact congrArg Value.bool (absOK_r (by assumption)).symm) | (rw [absOK_l (by omega)]; done) | (exact congrArg Value.bool (absOK_f (k := k) (oneK_in (by assumption)) (by omega)).symm) | (exact congrArg Value.bool (absOK_f (k := k) (oneK_len (by omega)) (by omega)).symm) | (exact congrArg Value.bool (absOK_f (k := k) (oneK_po (i := i) (elP_f.mpr (by assumption)) (by omega)) (by omega)).symm) | (exact congrArg Value.bool (absOK_t h1 (lensA_iff.mpr hl) (fun j hj => hk.2 j (by omega))).symm) | (exact congrArg Value.bool (absOK_f (k := k) (oneK_el (i := i) (elS_f (by simp only [tgI, prI]; rw [← ht]; omega)) (by omega)) (by omega)).symm))
    · try rw [h2]
      try simp only [rfb] at h2
      refine WL_run rfl rfl rfl (WX_q rfl rfl (q_field_ptr G rfl rfl rfl rfl) (WL_run rfl rfl rfl (WX_q rfl rfl (q_lst (q_load_box G rfl rfl rfl rfl rfl rfl rfl)) (WL_run rfl rfl rfl (?_)))))
      first | refine WX_q rfl rfl (q_len' G rfl rfl rfl rfl (List.length_map _)) ?_ | refine WX_q rfl rfl (q_len G rfl rfl rfl rfl) ?_
      refine WL_run rfl rfl rfl (WX_q rfl rfl (q_cmp rfl rfl rfl rfl) (WL_cons rfl (WX_q rfl rfl (q_pick_f rfl rfl rfl) (WL_cons rfl (WX_q rfl rfl (q_move rfl rfl) (WL_part rfl rfl rfl (fun h3 => ?_) (fun h3 => ?_)))))))
      · try rw [h3]
        try simp only [rfb] at h3
        refine WL_skip rfl rfl rfl rfl rfl rfl (WL_skip rfl rfl rfl rfl rfl rfl (WL_skip rfl rfl rfl rfl rfl rfl (WL_skip rfl rfl rfl rfl rfl rfl (WL_cons rfl (WX_q rfl rfl (q_pick_t rfl rfl rfl) (WL_cons rfl (WX_q rfl rfl (q_move rfl rfl) (WL_skip rfl rfl rfl rfl rfl rfl (WL_skip rfl rfl rfl rfl rfl rfl (WL_skip rfl rfl rfl rfl rfl rfl (WL_skip rfl rfl rfl rfl rfl rfl (WL_cons rfl (WX_q rfl rfl (q_pick_t rfl rfl rfl) (?_))))))))))))))
        refine WL_nil (hK3 _ ?_)
        clear hK3 K3
        refine W_true rfl ?_
        refine W_seq (fun K6 hK6 => ?_)
        refine W_region (WL_cons rfl (WX_q rfl rfl (q_assign rfl rfl) (?_)))
        refine WL_nil (hK6 _ ?_)
        clear hK6 K6
        refine W_ret (fin_one rfl (rc_v ?_))
        all_goals clear hK2 K2
        all_goals (first | (exact congrArg Value.bool (absOK_r (by assumption)).symm) | (rw [absOK_l (by omega)]; done) | (exact congrArg Value.bool (absOK_f (k := k) (oneK_in (by assumption)) (by omega)).symm) | (exact congrArg Value.bool (absOK_f (k := k) (oneK_len (by omega)) (by omega)).symm) | (exact congrArg Value.bool (absOK_f (k := k) (oneK_po (i := i) (elP_f.mpr (by assumption)) (by omega)) (by omega)).symm) | (exact congrArg Value.bool (absOK_t h1 (lensA_iff.mpr hl) (fun j hj => hk.2 j (by omega))).symm) | (exact congrArg Value.bool (absOK_f (k := k) (oneK_el (i := i) (elS_f (by simp only [tgI, prI]; rw [← ht]; omega)) (by omega)) (by omega)).symm))
      · try rw [h3]
        try simp only [rfb] at h3
        refine WL_run rfl rfl rfl (WX_q rfl rfl (q_field_ptr G rfl rfl rfl rfl) (WL_run rfl rfl rfl (WX_q rfl rfl (q_lst (q_load_box G rfl rfl rfl rfl rfl rfl rfl)) (WL_run rfl rfl rfl (?_)))))
        first | refine WX_q rfl rfl (q_len' G rfl rfl rfl rfl (List.length_map _)) ?_ | refine WX_q rfl rfl (q_len G rfl rfl rfl rfl) ?_
        refine WL_run rfl rfl rfl (WX_q rfl rfl (q_cmp rfl rfl rfl rfl) (WL_cons rfl (WX_q rfl rfl (q_pick_f rfl rfl rfl) (WL_cons rfl (WX_q rfl rfl (q_move rfl rfl) (WL_part rfl rfl rfl (fun h4 => ?_) (fun h4 => ?_)))))))
        · try rw [h4]
          try simp only [rfb] at h4
          refine WL_skip rfl rfl rfl rfl rfl rfl (WL_skip rfl rfl rfl rfl rfl rfl (WL_skip rfl rfl rfl rfl rfl rfl (WL_skip rfl rfl rfl rfl rfl rfl (WL_cons rfl (WX_q rfl rfl (q_pick_t rfl rfl rfl) (?_))))))
          refine WL_nil (hK3 _ ?_)
          clear hK3 K3
          refine W_true rfl ?_
          refine W_seq (fun K7 hK7 => ?_)
          refine W_region (WL_cons rfl (WX_q rfl rfl (q_assign rfl rfl) (?_)))
          refine WL_nil (hK7 _ ?_)
          clear hK7 K7
          refine W_ret (fin_one rfl (rc_v ?_))
          all_goals clear hK2 K2
          all_goals (first | (exact congrArg Value.bool (absOK_r (by assumption)).symm) | (rw [absOK_l (by omega)]; done) | (exact congrArg Value.bool (absOK_f (k := k) (oneK_in (by assumption)) (by omega)).symm) | (exact congrArg Value.bool (absOK_f (k := k) (oneK_len (by omega)) (by omega)).symm) | (exact congrArg Value.bool (absOK_f (k := k) (oneK_po (i := i) (elP_f.mpr (by assumption)) (by omega)) (by omega)).symm) | (exact congrArg Value.bool (absOK_t h1 (lensA_iff.mpr hl) (fun j hj => hk.2 j (by omega))).symm) | (exact congrArg Value.bool (absOK_f (k := k) (oneK_el (i := i) (elS_f (by simp only [tgI, prI]; rw [← ht]; omega)) (by omega)) (by omega)).symm))
        · try rw [h4]
          try simp only [rfb] at h4
          refine WL_run rfl rfl rfl (WX_q rfl rfl (q_field_ptr G rfl rfl rfl rfl) (WL_run rfl rfl rfl (WX_q rfl rfl (q_lst (q_load_box G rfl rfl rfl rfl rfl rfl rfl)) (WL_run rfl rfl rfl (?_)))))
          first | refine WX_q rfl rfl (q_len' G rfl rfl rfl rfl (List.length_map _)) ?_ | refine WX_q rfl rfl (q_len G rfl rfl rfl rfl) ?_
          refine WL_run rfl rfl rfl (WX_q rfl rfl (q_cmp rfl rfl rfl rfl) (WL_cons rfl (WX_q rfl rfl (q_pick_f rfl rfl rfl) (?_))))
          refine WL_nil (hK3 _ ?_)
          clear hK3 K3
          refine W_cond rfl (fun h5 => ?_) (fun h5 => ?_)
          · try rw [h5]
            try simp only [rfb] at h5
            refine W_seq (fun K8 hK8 => ?_)
            refine W_region (WL_cons rfl (WX_q rfl rfl (q_assign rfl rfl) (?_)))
            refine WL_nil (hK8 _ ?_)
            clear hK8 K8
            refine W_ret (fin_one rfl (rc_v ?_))
            all_goals clear hK2 K2
            all_goals (first | (exact congrArg Value.bool (absOK_r (by assumption)).symm) | (rw [absOK_l (by omega)]; done) | (exact congrArg Value.bool (absOK_f (k := k) (oneK_in (by assumption)) (by omega)).symm) | (exact congrArg Value.bool (absOK_f (k := k) (oneK_len (by omega)) (by omega)).symm) | (exact congrArg Value.bool (absOK_f (k := k) (oneK_po (i := i) (elP_f.mpr (by assumption)) (by omega)) (by omega)).symm) | (exact congrArg Value.bool (absOK_t h1 (lensA_iff.mpr hl) (fun j hj => hk.2 j (by omega))).symm) | (exact congrArg Value.bool (absOK_f (k := k) (oneK_el (i := i) (elS_f (by simp only [tgI, prI]; rw [← ht]; omega)) (by omega)) (by omega)).symm))
          · try rw [h5]
            try simp only [rfb] at h5
            have hrt := okRts_iff.mp h1
            have hr8 := hrt.2.1
            have hl : a.st.length = a.ma.length ∧ a.en.length = 8 ∧ a.ra.length = 8 ∧ a.po.length = 8 := ⟨by omega, by omega, by omega, by omega⟩
            refine W_skip (hK2 _ ?_)
            clear hK2 K2
            refine W_seq (fun K9 hK9 => ?_)
            refine W_seq (fun K10 hK10 => ?_)
            refine W_region (WL_cons rfl (WX_q rfl rfl (q_field_ptr G rfl rfl rfl rfl) (WL_cons rfl (WX_q rfl rfl (q_nst (q_load_box G rfl rfl rfl rfl rfl rfl rfl)) (WL_cons rfl (?_))))))
            first | refine WX_q rfl rfl (q_len' G rfl rfl rfl rfl (List.length_map _)) ?_ | refine WX_q rfl rfl (q_len G rfl rfl rfl rfl) ?_
            refine WL_cons rfl (WX_q rfl rfl (q_move rfl rfl) (?_))
            refine WL_nil (hK10 _ ?_)
            clear hK10 K10
            refine W_block ?_
            refine W_loopK [0, 3, 43, 44] [0] (fun (k : Nat) => [(45, .v (.int .i64 (k : Int)))]) (fun (k : Nat) => []) (fun (k : Nat) => k ≤ a.st.length ∧ ∀ j, j < k → oneK rs a j = true) (fun (k : Nat) => a.st.length - k) 0 rfl rfl ?_ ?_ ?_ ?_
            · exact ⟨Nat.zero_le _, fun j hj => by omega⟩
            · exact ⟨⟨_, rfl, by (first | rfl | (simp; done) | (simp; omega))⟩, rfl, trivial⟩
            · exact trivial
            · intro k hk
              simp only [List.cons_append, List.nil_append]
              refine W_seq (fun K11 hK11 => ?_)
              refine W_region (WL_cons rfl (WX_q rfl rfl (q_cmp rfl rfl rfl rfl) (?_)))
              refine WL_nil (hK11 _ ?_)
              clear hK11 K11
              refine W_seq (fun K12 hK12 => ?_)
              refine W_cond rfl (fun h6 => ?_) (fun h6 => ?_)
              · try rw [h6]
                try simp only [rfb] at h6
                refine W_skip (hK12 _ ?_)
                clear hK12 K12
                refine W_seq (fun K13 hK13 => ?_)
                refine W_block ?_
                refine W_seq (fun K14 hK14 => ?_)
                refine W_region (WL_cons rfl (WX_q rfl rfl (q_move rfl rfl) (WL_cons rfl (?_))))
                first | refine WX_q rfl rfl (q_index_nst G rfl rfl rfl rfl (by omega) (getN (by omega)) rfl) ?_ | refine WX_q rfl rfl (q_index_nst G rfl rfl rfl rfl (by omega) (getNI (by omega) (by omega)) rfl) ?_
                refine WL_cons rfl (WX_q rfl rfl (q_load_eptN G rfl rfl rfl rfl) (WL_cons rfl (WX_q rfl rfl (q_assign rfl rfl) (WL_cons rfl (WX_q rfl rfl (q_assign rfl rfl) (?_))))))
                refine WL_nil (hK14 _ ?_)
                clear hK14 K14
                refine W_seq (fun K15 hK15 => ?_)
                refine W_seq (fun K16 hK16 => ?_)
                refine W_region (WL_cons rfl (WX_q rfl rfl (q_field_ptr G rfl rfl rfl rfl) (WL_cons rfl (WX_q rfl rfl (q_lst (q_load_box G rfl rfl rfl rfl rfl rfl rfl)) (WL_cons rfl (WX_q rfl rfl (q_move rfl rfl) (WL_cons rfl (?_))))))))
                first | refine WX_q rfl rfl (q_index_lst G rfl rfl rfl rfl (by omega) (getN (by omega))) ?_ | refine WX_q rfl rfl (q_index_lst G rfl rfl rfl rfl (by omega) (getNI (by omega) (by omega))) ?_
                refine WL_cons rfl (WX_q rfl rfl (q_load_ept G rfl rfl rfl rfl rfl) (WL_cons rfl (?_)))
                refine WX_q rfl rfl (q_call rfl (ArgsOK.of rfl) (c_impl_isMask _) rfl) ?_
                refine WL_cons rfl (WX_q rfl rfl (q_not rfl rfl) (WL_cons rfl (WX_q rfl rfl (q_move rfl rfl) (WL_part rfl rfl rfl (fun h7 => ?_) (fun h7 => ?_)))))
                · try rw [h7]
                  try simp only [rfb] at h7
                  refine WL_skip rfl rfl rfl rfl rfl rfl (WL_skip rfl rfl rfl rfl rfl rfl (WL_skip rfl rfl rfl rfl rfl rfl (WL_cons rfl (WX_q rfl rfl (q_pick_t rfl rfl rfl) (?_)))))
                  refine WL_nil (hK16 _ ?_)
                  clear hK16 K16
                  refine W_true rfl ?_
                  refine W_seq (fun K17 hK17 => ?_)
                  refine W_region (WL_cons rfl (WX_q rfl rfl (q_assign rfl rfl) (?_)))
                  refine WL_nil (hK17 _ ?_)
                  clear hK17 K17
                  refine W_ret (fin_one rfl (rc_v ?_))
                  all_goals clear hK15 K15 hK13 K13 hK9 K9
                  all_goals (first | (exact congrArg Value.bool (absOK_r (by assumption)).symm) | (rw [absOK_l (by omega)]; done) | (exact congrArg Value.bool (absOK_f (k := k) (oneK_in (by assumption)) (by omega)).symm) | (exact congrArg Value.bool (absOK_f (k := k) (oneK_len (by omega)) (by omega)).symm) | (exact congrArg Value.bool (absOK_f (k := k) (oneK_po (i := i) (elP_f.mpr (by assumption)) (by omega)) (by omega)).symm) | (exact congrArg Value.bool (absOK_t h1 (lensA_iff.mpr hl) (fun j hj => hk.2 j (by omega))).symm) | (exact congrArg Value.bool (absOK_f (k := k) (oneK_el (i := i) (elS_f (by simp only [tgI, prI]; rw [← ht]; omega)) (by omega)) (by omega)).symm))
                · try rw [h7]
                  try simp only [rfb] at h7
                  refine WL_run rfl rfl rfl (WX_q rfl rfl (q_move rfl rfl) (WL_run rfl rfl rfl (?_)))
                  first | refine WX_q rfl rfl (q_len' G rfl rfl rfl rfl (List.length_map _)) ?_ | refine WX_q rfl rfl (q_len G rfl rfl rfl rfl) ?_
                  refine WL_run rfl rfl rfl (WX_q rfl rfl (q_cmp rfl rfl rfl rfl) (WL_cons rfl (WX_q rfl rfl (q_pick_f rfl rfl rfl) (?_))))
                  refine WL_nil (hK16 _ ?_)
                  clear hK16 K16
                  refine W_cond rfl (fun h8 => ?_) (fun h8 => ?_)
                  · try rw [h8]
                    try simp only [rfb] at h8
                    refine W_seq (fun K18 hK18 => ?_)
                    refine W_region (WL_cons rfl (WX_q rfl rfl (q_assign rfl rfl) (?_)))
                    refine WL_nil (hK18 _ ?_)
                    clear hK18 K18
                    refine W_ret (fin_one rfl (rc_v ?_))
                    all_goals clear hK15 K15 hK13 K13 hK9 K9
                    all_goals (first | (exact congrArg Value.bool (absOK_r (by assumption)).symm) | (rw [absOK_l (by omega)]; done) | (exact congrArg Value.bool (absOK_f (k := k) (oneK_in (by assumption)) (by omega)).symm) | (exact congrArg Value.bool (absOK_f (k := k) (oneK_len (by omega)) (by omega)).symm) | (exact congrArg Value.bool (absOK_f (k := k) (oneK_po (i := i) (elP_f.mpr (by assumption)) (by omega)) (by omega)).symm) | (exact congrArg Value.bool (absOK_t h1 (lensA_iff.mpr hl) (fun j hj => hk.2 j (by omega))).symm) | (exact congrArg Value.bool (absOK_f (k := k) (oneK_el (i := i) (elS_f (by simp only [tgI, prI]; rw [← ht]; omega)) (by omega)) (by omega)).symm))
                  · try rw [h8]
                    try simp only [rfb] at h8
                    refine W_skip (hK15 _ ?_)
                    clear hK15 K15
                    refine W_seq (fun K19 hK19 => ?_)
                    refine W_region (WL_cons rfl (WX_q rfl rfl (q_move rfl rfl) (WL_cons rfl (?_))))
                    first | refine WX_q rfl rfl (q_len' G rfl rfl rfl rfl (List.length_map _)) ?_ | refine WX_q rfl rfl (q_len G rfl rfl rfl rfl) ?_
                    refine WL_cons rfl (WX_q rfl rfl (q_move rfl rfl) (?_))
                    refine WL_nil (hK19 _ ?_)
                    clear hK19 K19
                    refine W_block ?_
                    refine W_loopK [0, 3, 5, 6, 43, 44, 45, 62, 63] [0] (fun (i : Nat) => [(64, .v (.int .i64 (i : Int)))]) (fun (i : Nat) => []) (fun (i : Nat) => i ≤ (a.st.getD k default).length ∧ (∀ j, j < i → elS rs (a.st.getD k default) k j = true) ∧ ∀ j, j < i → elP a.po (a.st.getD k default) j = true) (fun (i : Nat) => (a.st.getD k default).length - i) 0 rfl rfl ?_ ?_ ?_ ?_
                    · exact ⟨Nat.zero_le _, fun j hj => (by omega), fun j hj => (by omega)⟩
                    · exact ⟨⟨_, rfl, by (first | rfl | (simp; done) | (simp; omega))⟩, rfl, trivial⟩
                    · exact trivial
                    · intro i hinv
                      have hlk := hs.all k (by omega)
                      have ht : ((i : Int) - 1).toNat = i - 1 := (by omega)
                      have hprev : 0 < i → 0 ≤ (a.st.getD k default).getD ((i : Int) - 1).toNat default ∧ (a.st.getD k default).getD ((i : Int) - 1).toNat default ≤ 7 := fun h0 => (by rw [ht]; exact (elS_iff.mp (hinv.2.1 (i - 1) (by omega))).1)
                      simp only [List.cons_append, List.nil_append]
                      refine W_seq (fun K20 hK20 => ?_)
                      refine W_region (WL_cons rfl (WX_q rfl rfl (q_cmp rfl rfl rfl rfl) (?_)))
                      refine WL_nil (hK20 _ ?_)
                      clear hK20 K20
                      refine W_seq (fun K21 hK21 => ?_)
                      refine W_cond rfl (fun h9 => ?_) (fun h9 => ?_)
                      · try rw [h9]
                        try simp only [rfb] at h9
                        refine W_skip (hK21 _ ?_)
                        clear hK21 K21
                        refine W_seq (fun K22 hK22 => ?_)
                        refine W_block ?_
                        refine W_seq (fun K23 hK23 => ?_)
                        refine W_region (WL_cons rfl (WX_q rfl rfl (q_move rfl rfl) (WL_cons rfl (?_))))
                        first | refine WX_q rfl rfl (q_index_lst G rfl rfl rfl rfl (by omega) (getN (by omega))) ?_ | refine WX_q rfl rfl (q_index_lst G rfl rfl rfl rfl (by omega) (getNI (by omega) (by omega))) ?_
                        refine WL_cons rfl (WX_q rfl rfl (q_load_ept G rfl rfl rfl rfl rfl) (WL_cons rfl (WX_q rfl rfl (q_assign rfl rfl) (WL_cons rfl (WX_q rfl rfl (q_assign rfl rfl) (?_))))))
                        refine WL_nil (hK23 _ ?_)
                        clear hK23 K23
                        refine W_seq (fun K24 hK24 => ?_)
                        refine W_draws mixed (by kernel_rfl) (QL_cons rfl (QX_q rfl rfl (q_move rfl rfl) (QL_cons rfl (?_))))
                        refine QX_q rfl rfl (q_call rfl (ArgsOK.of rfl) (c_impl_isIrq _) rfl) ?_
                        refine QL_cons rfl (QX_q rfl rfl (q_not rfl rfl) (QL_cons rfl (QX_q rfl rfl (q_move rfl rfl) (QL_part rfl rfl rfl (fun h10 => ?_) (fun h10 => ?_)))))
                        · try rw [h10]
                          try simp only [rfb] at h10
                          have hq := inside_nt h10
                          refine QL_skip rfl rfl rfl rfl rfl rfl (QL_skip rfl rfl rfl rfl rfl rfl (QL_skip rfl rfl rfl rfl rfl rfl (QL_skip rfl rfl rfl rfl rfl rfl (QL_skip rfl rfl rfl rfl rfl rfl (QL_skip rfl rfl rfl rfl rfl rfl (QL_skip rfl rfl rfl rfl rfl rfl (QL_cons rfl (QX_q rfl rfl (q_pick_t rfl rfl rfl) (QL_cons rfl (QX_q rfl rfl (q_move rfl rfl) (QL_skip rfl rfl rfl rfl rfl rfl (QL_skip rfl rfl rfl rfl rfl rfl (QL_skip rfl rfl rfl rfl rfl rfl (QL_skip rfl rfl rfl rfl rfl rfl (QL_skip rfl rfl rfl rfl rfl rfl (QL_cons rfl (QX_q rfl rfl (q_pick_t rfl rfl rfl) (QL_cons rfl (QX_q rfl rfl (q_move rfl rfl) (QL_skip rfl rfl rfl rfl rfl rfl (QL_skip rfl rfl rfl rfl rfl rfl (QL_skip rfl rfl rfl rfl rfl rfl (QL_skip_u rfl rfl rfl rfl rfl (QL_skip_u rfl rfl rfl rfl rfl (QL_skip_u rfl rfl rfl rfl rfl (QL_skip_u rfl rfl rfl rfl rfl (QL_skip_u rfl rfl rfl rfl rfl (QL_skip_u rfl rfl rfl rfl rfl (QL_skip_u rfl rfl rfl rfl rfl (QL_skip_u rfl rfl rfl rfl rfl (QL_skip_u rfl rfl rfl rfl rfl (QL_skip_u rfl rfl rfl rfl rfl (QL_skip_u rfl rfl rfl rfl rfl (QL_skip_u rfl rfl rfl rfl rfl (QL_skip_u rfl rfl rfl rfl rfl (QL_skip_u rfl rfl rfl rfl rfl (QL_skip_u rfl rfl rfl rfl rfl (QL_skip rfl rfl rfl rfl rfl rfl (QL_cons rfl (QX_q rfl rfl (q_pick_t rfl rfl rfl) (?_)))))))))))))))))))))))))))))))))))))))))
                          refine QL_nil (hK24 _ ?_)
                          clear hK24 K24
                          refine W_true rfl ?_
                          refine W_seq (fun K25 hK25 => ?_)
                          refine W_region (WL_cons rfl (WX_q rfl rfl (q_assign rfl rfl) (?_)))
                          refine WL_nil (hK25 _ ?_)
                          clear hK25 K25
                          refine W_ret (fin_one rfl (rc_v ?_))
                          all_goals clear hK22 K22 hK13 K13 hK9 K9
                          all_goals (first | (exact congrArg Value.bool (absOK_r (by assumption)).symm) | (rw [absOK_l (by omega)]; done) | (exact congrArg Value.bool (absOK_f (k := k) (oneK_in (by assumption)) (by omega)).symm) | (exact congrArg Value.bool (absOK_f (k := k) (oneK_len (by omega)) (by omega)).symm) | (exact congrArg Value.bool (absOK_f (k := k) (oneK_po (i := i) (elP_f.mpr (by assumption)) (by omega)) (by omega)).symm) | (exact congrArg Value.bool (absOK_t h1 (lensA_iff.mpr hl) (fun j hj => hk.2 j (by omega))).symm) | (exact congrArg Value.bool (absOK_f (k := k) (oneK_el (i := i) (elS_f (by simp only [tgI, prI]; rw [← ht]; omega)) (by omega)) (by omega)).symm))
                        · try rw [h10]
                          try simp only [rfb] at h10
                          have hq := inside_t.mp h10
                          refine QL_run rfl rfl rfl (QX_q rfl rfl (q_move rfl rfl) (QL_run rfl rfl rfl (QX_q rfl rfl (q_move rfl rfl) (QL_run rfl rfl rfl (?_)))))
                          first | refine QX_q rfl rfl (q_index_lst G rfl rfl rfl rfl (by omega) (getN (by omega))) ?_ | refine QX_q rfl rfl (q_index_lst G rfl rfl rfl rfl (by omega) (getNI (by omega) (by omega))) ?_
                          refine QL_run rfl rfl rfl (QX_q rfl rfl (q_field_ept G rfl rfl rfl rfl) (QL_run rfl rfl rfl (QX_q rfl rfl (q_load_ept G rfl rfl rfl rfl rfl) (QL_run rfl rfl rfl (QX_q rfl rfl (q_move rfl rfl) (QL_run rfl rfl rfl (QX_q rfl rfl (q_cmp rfl rfl rfl rfl) (QL_cons rfl (QX_q rfl rfl (q_pick_f rfl rfl rfl) (QL_cons rfl (QX_q rfl rfl (q_move rfl rfl) (QL_part rfl rfl rfl (fun h11 => ?_) (fun h11 => ?_)))))))))))))
                          · try rw [h11]
                            try simp only [rfb] at h11
                            refine QL_skip rfl rfl rfl rfl rfl rfl (QL_skip rfl rfl rfl rfl rfl rfl (QL_skip rfl rfl rfl rfl rfl rfl (QL_skip rfl rfl rfl rfl rfl rfl (QL_skip rfl rfl rfl rfl rfl rfl (QL_cons rfl (QX_q rfl rfl (q_pick_t rfl rfl rfl) (QL_cons rfl (QX_q rfl rfl (q_move rfl rfl) (QL_skip rfl rfl rfl rfl rfl rfl (QL_skip rfl rfl rfl rfl rfl rfl (QL_skip rfl rfl rfl rfl rfl rfl (QL_skip_u rfl rfl rfl rfl rfl (QL_skip_u rfl rfl rfl rfl rfl (QL_skip_u rfl rfl rfl rfl rfl (QL_skip_u rfl rfl rfl rfl rfl (QL_skip_u rfl rfl rfl rfl rfl (QL_skip_u rfl rfl rfl rfl rfl (QL_skip_u rfl rfl rfl rfl rfl (QL_skip_u rfl rfl rfl rfl rfl (QL_skip_u rfl rfl rfl rfl rfl (QL_skip_u rfl rfl rfl rfl rfl (QL_skip_u rfl rfl rfl rfl rfl (QL_skip_u rfl rfl rfl rfl rfl (QL_skip_u rfl rfl rfl rfl rfl (QL_skip_u rfl rfl rfl rfl rfl (QL_skip_u rfl rfl rfl rfl rfl (QL_skip rfl rfl rfl rfl rfl rfl (QL_cons rfl (QX_q rfl rfl (q_pick_t rfl rfl rfl) (?_))))))))))))))))))))))))))))))
                            refine QL_nil (hK24 _ ?_)
                            clear hK24 K24
                            refine W_true rfl ?_
                            refine W_seq (fun K26 hK26 => ?_)
                            refine W_region (WL_cons rfl (WX_q rfl rfl (q_assign rfl rfl) (?_)))
                            refine WL_nil (hK26 _ ?_)
                            clear hK26 K26
                            refine W_ret (fin_one rfl (rc_v ?_))
                            all_goals clear hK22 K22 hK13 K13 hK9 K9
                            all_goals (first | (exact congrArg Value.bool (absOK_r (by assumption)).symm) | (rw [absOK_l (by omega)]; done) | (exact congrArg Value.bool (absOK_f (k := k) (oneK_in (by assumption)) (by omega)).symm) | (exact congrArg Value.bool (absOK_f (k := k) (oneK_len (by omega)) (by omega)).symm) | (exact congrArg Value.bool (absOK_f (k := k) (oneK_po (i := i) (elP_f.mpr (by assumption)) (by omega)) (by omega)).symm) | (exact congrArg Value.bool (absOK_t h1 (lensA_iff.mpr hl) (fun j hj => hk.2 j (by omega))).symm) | (exact congrArg Value.bool (absOK_f (k := k) (oneK_el (i := i) (elS_f (by simp only [tgI, prI]; rw [← ht]; omega)) (by omega)) (by omega)).symm))
                          · try rw [h11]
                            try simp only [rfb] at h11
                            refine QL_run rfl rfl rfl (QX_q rfl rfl (q_field_ptr G rfl rfl rfl rfl) (QL_run rfl rfl rfl (QX_q rfl rfl (q_lst (q_load_box G rfl rfl rfl rfl rfl rfl rfl)) (QL_run rfl rfl rfl (QX_q rfl rfl (q_move rfl rfl) (QL_run rfl rfl rfl (?_)))))))
                            first | refine QX_q rfl rfl (q_index_lst G rfl rfl rfl rfl (by omega) (getN (by omega))) ?_ | refine QX_q rfl rfl (q_index_lst G rfl rfl rfl rfl (by omega) (getNI (by omega) (by omega))) ?_
                            refine QL_run rfl rfl rfl (QX_q rfl rfl (q_load_ept G rfl rfl rfl rfl rfl) (QL_cons rfl (QX_q rfl rfl (q_pick_f rfl rfl rfl) (QL_cons rfl (QX_q rfl rfl (q_move rfl rfl) (QL_part rfl rfl rfl (fun h12 => ?_) (fun h12 => ?_)))))))
                            · try rw [h12]
                              try simp only [rfb] at h12
                              refine QL_skip rfl rfl rfl rfl rfl rfl (QL_skip rfl rfl rfl rfl rfl rfl (QL_skip rfl rfl rfl rfl rfl rfl (QL_skip_u rfl rfl rfl rfl rfl (QL_skip_u rfl rfl rfl rfl rfl (QL_skip_u rfl rfl rfl rfl rfl (QL_skip_u rfl rfl rfl rfl rfl (QL_skip_u rfl rfl rfl rfl rfl (QL_skip_u rfl rfl rfl rfl rfl (QL_skip_u rfl rfl rfl rfl rfl (QL_skip_u rfl rfl rfl rfl rfl (QL_skip_u rfl rfl rfl rfl rfl (QL_skip_u rfl rfl rfl rfl rfl (QL_skip_u rfl rfl rfl rfl rfl (QL_skip_u rfl rfl rfl rfl rfl (QL_skip_u rfl rfl rfl rfl rfl (QL_skip_u rfl rfl rfl rfl rfl (QL_skip_u rfl rfl rfl rfl rfl (QL_skip rfl rfl rfl rfl rfl rfl (QL_cons rfl (QX_q rfl rfl (q_pick_t rfl rfl rfl) (?_)))))))))))))))))))))
                              refine QL_nil (hK24 _ ?_)
                              clear hK24 K24
                              refine W_true rfl ?_
                              refine W_seq (fun K27 hK27 => ?_)
                              refine W_region (WL_cons rfl (WX_q rfl rfl (q_assign rfl rfl) (?_)))
                              refine WL_nil (hK27 _ ?_)
                              clear hK27 K27
                              refine W_ret (fin_one rfl (rc_v ?_))
                              all_goals clear hK22 K22 hK13 K13 hK9 K9
                              all_goals (first | (exact congrArg Value.bool (absOK_r (by assumption)).symm) | (rw [absOK_l (by omega)]; done) | (exact congrArg Value.bool (absOK_f (k := k) (oneK_in (by assumption)) (by omega)).symm) | (exact congrArg Value.bool (absOK_f (k := k) (oneK_len (by omega)) (by omega)).symm) | (exact congrArg Value.bool (absOK_f (k := k) (oneK_po (i := i) (elP_f.mpr (by assumption)) (by omega)) (by omega)).symm) | (exact congrArg Value.bool (absOK_t h1 (lensA_iff.mpr hl) (fun j hj => hk.2 j (by omega))).symm) | (exact congrArg Value.bool (absOK_f (k := k) (oneK_el (i := i) (elS_f (by simp only [tgI, prI]; rw [← ht]; omega)) (by omega)) (by omega)).symm))
                            · try rw [h12]
                              try simp only [rfb] at h12
                              refine QL_run rfl rfl rfl (QX_q rfl rfl (q_move rfl rfl) (QL_run rfl rfl rfl (QX_q rfl rfl (q_cmp rfl rfl rfl rfl) (QL_run rfl rfl rfl (QX_q rfl rfl (q_move rfl rfl) (QL_part rfl rfl rfl (fun h13 => ?_) (fun h13 => ?_)))))))
                              · try rw [h13]
                                try simp only [rfb] at h13
                                refine QL_run rfl rfl rfl (QX_q rfl rfl (q_move rfl rfl) (QL_run rfl rfl rfl (QX_q rfl rfl (q_move rfl rfl) (QL_run rfl rfl rfl (QX_q rfl rfl (q_move rfl rfl) (QL_run rfl rfl rfl (?_)))))))
                                first | refine QX_q rfl rfl (q_arith rfl rfl rfl rfl (by omega) (by omega)) ?_ | refine QX_q rfl rfl (q_wrap rfl rfl rfl rfl) ?_
                                refine QL_run rfl rfl rfl (?_)
                                first | refine QX_q rfl rfl (q_index_lst G rfl rfl rfl rfl (by omega) (getN (by omega))) ?_ | refine QX_q rfl rfl (q_index_lst G rfl rfl rfl rfl (by omega) (getNI (by omega) (by omega))) ?_
                                refine QL_run rfl rfl rfl (QX_q rfl rfl (q_load_ept G rfl rfl rfl rfl rfl) (QL_run rfl rfl rfl (?_)))
                                first | refine QX_q rfl rfl (q_index_lst G rfl rfl rfl rfl (by omega) (getN (by omega))) ?_ | refine QX_q rfl rfl (q_index_lst G rfl rfl rfl rfl (by omega) (getNI (by omega) (by omega))) ?_
                                refine QL_run rfl rfl rfl (QX_q rfl rfl (q_field_ept G rfl rfl rfl rfl) (QL_run rfl rfl rfl (QX_q rfl rfl (q_load_ept G rfl rfl rfl rfl rfl) (QL_run rfl rfl rfl (QX_q rfl rfl (q_move rfl rfl) (QL_run rfl rfl rfl (QX_q rfl rfl (q_move rfl rfl) (QL_run rfl rfl rfl (?_)))))))))
                                first | refine QX_q rfl rfl (q_index_lst G rfl rfl rfl rfl (by omega) (getN (by omega))) ?_ | refine QX_q rfl rfl (q_index_lst G rfl rfl rfl rfl (by omega) (getNI (by omega) (by omega))) ?_
                                refine QL_run rfl rfl rfl (QX_q rfl rfl (q_field_ept G rfl rfl rfl rfl) (QL_run rfl rfl rfl (QX_q rfl rfl (q_load_ept G rfl rfl rfl rfl rfl) (QL_run rfl rfl rfl (QX_q rfl rfl (q_cmp rfl rfl rfl rfl) (QL_run rfl rfl rfl (QX_q rfl rfl (q_pick_t rfl rfl rfl) (QL_cons rfl (QX_q rfl rfl (q_pick_f rfl rfl rfl) (?_))))))))))
                                refine QL_nil (hK24 _ ?_)
                                clear hK24 K24
                                refine W_cond rfl (fun h14 => ?_) (fun h14 => ?_)
                                · try rw [h14]
                                  try simp only [rfb] at h14
                                  refine W_seq (fun K28 hK28 => ?_)
                                  refine W_region (WL_cons rfl (WX_q rfl rfl (q_assign rfl rfl) (?_)))
                                  refine WL_nil (hK28 _ ?_)
                                  clear hK28 K28
                                  refine W_ret (fin_one rfl (rc_v ?_))
                                  all_goals clear hK22 K22 hK13 K13 hK9 K9
                                  all_goals (first | (exact congrArg Value.bool (absOK_r (by assumption)).symm) | (rw [absOK_l (by omega)]; done) | (exact congrArg Value.bool (absOK_f (k := k) (oneK_in (by assumption)) (by omega)).symm) | (exact congrArg Value.bool (absOK_f (k := k) (oneK_len (by omega)) (by omega)).symm) | (exact congrArg Value.bool (absOK_f (k := k) (oneK_po (i := i) (elP_f.mpr (by assumption)) (by omega)) (by omega)).symm) | (exact congrArg Value.bool (absOK_t h1 (lensA_iff.mpr hl) (fun j hj => hk.2 j (by omega))).symm) | (exact congrArg Value.bool (absOK_f (k := k) (oneK_el (i := i) (elS_f (by simp only [tgI, prI]; rw [← ht]; omega)) (by omega)) (by omega)).symm))
                                · try rw [h14]
                                  try simp only [rfb] at h14
                                  refine W_skip (hK22 _ ?_)
                                  clear hK22 K22
                                  refine W_region (WL_cons rfl (?_))
                                  first | refine WX_q rfl rfl (q_arith rfl rfl rfl rfl (by omega) (by omega)) ?_ | refine WX_q rfl rfl (q_wrap rfl rfl rfl rfl) ?_
                                  refine WL_cons rfl (WX_q rfl rfl (q_move rfl rfl) (?_))
                                  refine WL_nil ⟨(i + 1), ?_, ?_, ⟨⟨_, rfl, by rfl⟩, rfl, trivial⟩, trivial, rfl, rfl, rfl⟩
                                  · exact ⟨by omega, upto_succ hinv.2.1 (elS_iff.mpr ⟨by omega, by first | assumption | (simp only [tgI]; omega), by first | exact .inl (by omega) | exact .inr (by simp only [prI]; rw [← ht]; omega)⟩), upto_succ hinv.2.2 (elP_t.mpr (by assumption))⟩
                                  · omega
                              · try rw [h13]
                                try simp only [rfb] at h13
                                refine QL_skip rfl rfl rfl rfl rfl rfl (QL_skip rfl rfl rfl rfl rfl rfl (QL_skip rfl rfl rfl rfl rfl rfl (QL_skip rfl rfl rfl rfl rfl rfl (QL_skip rfl rfl rfl rfl rfl rfl (QL_skip rfl rfl rfl rfl rfl rfl (QL_skip rfl rfl rfl rfl rfl rfl (QL_skip rfl rfl rfl rfl rfl rfl (QL_skip rfl rfl rfl rfl rfl rfl (QL_skip rfl rfl rfl rfl rfl rfl (QL_skip rfl rfl rfl rfl rfl rfl (QL_skip rfl rfl rfl rfl rfl rfl (QL_skip rfl rfl rfl rfl rfl rfl (QL_skip rfl rfl rfl rfl rfl rfl (QL_skip rfl rfl rfl rfl rfl rfl (QL_run rfl rfl rfl (QX_q rfl rfl (q_pick_f rfl rfl rfl) (QL_cons rfl (QX_q rfl rfl (q_pick_f rfl rfl rfl) (?_)))))))))))))))))))
                                refine QL_nil (hK24 _ ?_)
                                clear hK24 K24
                                refine W_false rfl ?_
                                refine W_skip (hK22 _ ?_)
                                clear hK22 K22
                                refine W_region (WL_cons rfl (?_))
                                first | refine WX_q rfl rfl (q_arith rfl rfl rfl rfl (by omega) (by omega)) ?_ | refine WX_q rfl rfl (q_wrap rfl rfl rfl rfl) ?_
                                refine WL_cons rfl (WX_q rfl rfl (q_move rfl rfl) (?_))
                                refine WL_nil ⟨(i + 1), ?_, ?_, ⟨⟨_, rfl, by rfl⟩, rfl, trivial⟩, trivial, rfl, rfl, rfl⟩
                                · exact ⟨by omega, upto_succ hinv.2.1 (elS_iff.mpr ⟨by omega, by first | assumption | (simp only [tgI]; omega), by first | exact .inl (by omega) | exact .inr (by simp only [prI]; rw [← ht]; omega)⟩), upto_succ hinv.2.2 (elP_t.mpr (by assumption))⟩
                                · omega
                      · try rw [h9]
                        try simp only [rfb] at h9
                        refine W_exit (hK13 _ ?_)
                        clear hK21 K21 hK13 K13
                        refine W_region (WL_cons rfl (?_))
                        first | refine WX_q rfl rfl (q_arith rfl rfl rfl rfl (by omega) (by omega)) ?_ | refine WX_q rfl rfl (q_wrap rfl rfl rfl rfl) ?_
                        refine WL_cons rfl (WX_q rfl rfl (q_move rfl rfl) (?_))
                        refine WL_nil ⟨(k + 1), ?_, ?_, ⟨⟨_, rfl, by rfl⟩, rfl, trivial⟩, trivial, rfl, rfl, rfl⟩
                        · exact ⟨by omega, upto_succ hk.2 (oneK_t h7 (by omega) (fun j hj => hinv.2.1 j (by omega)) (fun j hj => hinv.2.2 j (by omega)))⟩
                        · omega
              · try rw [h6]
                try simp only [rfb] at h6
                refine W_exit (hK9 _ ?_)
                clear hK12 K12 hK9 K9
                refine W_seq (fun K29 hK29 => ?_)
                refine W_region (WL_cons rfl (WX_q rfl rfl (q_assign rfl rfl) (?_)))
                refine WL_nil (hK29 _ ?_)
                clear hK29 K29
                refine W_ret (fin_one rfl (rc_v ?_))
                all_goals (first | (exact congrArg Value.bool (absOK_r (by assumption)).symm) | (rw [absOK_l (by omega)]; done) | (exact congrArg Value.bool (absOK_f (k := k) (oneK_in (by assumption)) (by omega)).symm) | (exact congrArg Value.bool (absOK_f (k := k) (oneK_len (by omega)) (by omega)).symm) | (exact congrArg Value.bool (absOK_f (k := k) (oneK_po (i := i) (elP_f.mpr (by assumption)) (by omega)) (by omega)).symm) | (exact congrArg Value.bool (absOK_t h1 (lensA_iff.mpr hl) (fun j hj => hk.2 j (by omega))).symm) | (exact congrArg Value.bool (absOK_f (k := k) (oneK_el (i := i) (elS_f (by simp only [tgI, prI]; rw [← ht]; omega)) (by omega)) (by omega)).symm))

end Go.Proofs.YtcnodpipinlpcaaGreat
