/- Texts merged into one: Tab, Shelf, S, W1, W2, W3. -/
import Derived.Test.YtcnodpipinlpcaaGreatLibD
import Derived.Test.YtcnodpipinlpcaaGreatProg
import Derived.KernelRfl
import Derived.Shelf.Sort.Plain
import Derived.Shelf.Slices.In.SortNone
/- The types of this program, as a table that is held against it by evaluation. -/
namespace Go.Proofs.YtcnodpipinlpcaaGreat
open Go Go.Rf
def tb : List (Nat × TyI) := [
  (2, .flat (.int .i64) (.int .i64 0)),
  (3, .flat (.int .i64) (.int .i64 0)),
  (4, .flat .bool (.bool false)),
  (5, .flat (.int .u8) (.int .u8 0)),
  (6, .flat (.int .u8) (.int .u8 0)),
  (7, .struct [(0, 2), (1, 3), (2, 4), (3, 6)] [.int .i64 0, .int .i64 0, .bool false, .int .u8 0]),
  (8, .struct [(0, 2), (1, 3), (2, 4), (3, 6)] [.int .i64 0, .int .i64 0, .bool false, .int .u8 0]),
  (9, .flat .str (.string ⟨#[]⟩)),
  (10, .flat .str (.string ⟨#[]⟩)),
  (11, .flat .str (.string ⟨#[]⟩)),
  (12, .flat (.int .u64) (.int .u64 0)),
  (13, .struct [(0, 9), (1, 12)] [.string ⟨#[]⟩, .int .u64 0]),
  (14, .struct [(0, 9), (1, 12)] [.string ⟨#[]⟩, .int .u64 0]),
  (15, .flat .other (.pointer none)),
  (16, .flat .other (.pointer none)),
  (17, .flat .other (.pointer none)),
  (18, .struct [(0, 17)] [.pointer none]),
  (19, .struct [(0, 17)] [.pointer none]),
  (21, .flat (.int .i32) (.int .i32 0)),
  (22, .slice 5 1 1 [.int .u8 0]),
  (24, .slice 118 2 16 [.int .i64 0, .int .i64 0]),
  (25, .slice 4 1 1 [.bool false]),
  (26, .slice 3 1 8 [.int .i64 0]),
  (27, .slice 26 1 24 [.slice none 0 0]),
  (28, .struct [(0, 25), (1, 25), (2, 25), (3, 26), (4, 27)] [.slice none 0 0, .slice none 0 0, .slice none 0 0, .slice none 0 0, .slice none 0 0]),
  (29, .struct [(0, 25), (1, 25), (2, 25), (3, 26), (4, 27)] [.slice none 0 0, .slice none 0 0, .slice none 0 0, .slice none 0 0, .slice none 0 0]),
  (30, .slice 40 4 32 [.int .i64 0, .int .i64 0, .int .i64 0, .int .i64 0]),
  (39, .struct [(0, 3), (1, 3), (2, 3), (3, 3)] [.int .i64 0, .int .i64 0, .int .i64 0, .int .i64 0]),
  (40, .struct [(0, 3), (1, 3), (2, 3), (3, 3)] [.int .i64 0, .int .i64 0, .int .i64 0, .int .i64 0]),
  (47, .slice 120 2 16 [.int .i64 0, .int .i64 0]),
  (48, .struct [(0, 25), (1, 25), (2, 25), (3, 26), (4, 27)] [.slice none 0 0, .slice none 0 0, .slice none 0 0, .slice none 0 0, .slice none 0 0]),
  (51, .slice 113 4 80 [.int .i64 0, .slice none 0 0, .slice none 0 0, .slice none 0 0]),
  (52, .struct [(0, 24), (1, 25), (2, 25), (3, 51)] [.slice none 0 0, .slice none 0 0, .slice none 0 0, .slice none 0 0]),
  (53, .struct [(0, 24), (1, 25), (2, 25), (3, 51)] [.slice none 0 0, .slice none 0 0, .slice none 0 0, .slice none 0 0]),
  (64, .slice 170 4 80 [.int .i64 0, .slice none 0 0, .slice none 0 0, .slice none 0 0]),
  (65, .struct [(0, 47), (1, 25), (2, 25), (3, 64)] [.slice none 0 0, .slice none 0 0, .slice none 0 0, .slice none 0 0]),
  (66, .struct [(0, 47), (1, 25), (2, 25), (3, 64)] [.slice none 0 0, .slice none 0 0, .slice none 0 0, .slice none 0 0]),
  (72, .slice 136 4 32 [.int .i64 0, .int .i64 0, .int .i64 0, .int .i64 0]),
  (87, .flat .other (.pointer none)),
  (88, .flat (.int .u64) (.int .u64 0)),
  (89, .struct [(0, 22), (1, 3), (2, 88)] [.slice none 0 0, .int .i64 0, .int .u64 0]),
  (90, .struct [(0, 22), (1, 3), (2, 88)] [.slice none 0 0, .int .i64 0, .int .u64 0]),
  (108, .slice 154 3 24 [.int .i64 0, .int .i64 0, .int .i64 0]),
  (109, .slice 183 2 16 [.int .i64 0, .int .i64 0]),
  (110, .struct [(0, 108), (1, 109)] [.slice none 0 0, .slice none 0 0]),
  (111, .struct [(0, 108), (1, 109)] [.slice none 0 0, .slice none 0 0]),
  (112, .struct [(0, 3), (1, 26), (2, 111)] [.int .i64 0, .slice none 0 0, .slice none 0 0, .slice none 0 0]),
  (113, .struct [(0, 3), (1, 26), (2, 111)] [.int .i64 0, .slice none 0 0, .slice none 0 0, .slice none 0 0]),
  (117, .struct [(0, 3), (1, 3)] [.int .i64 0, .int .i64 0]),
  (118, .struct [(0, 3), (1, 3)] [.int .i64 0, .int .i64 0]),
  (120, .struct [(0, 3), (1, 3)] [.int .i64 0, .int .i64 0]),
  (136, .struct [(0, 3), (1, 3), (2, 3), (3, 3)] [.int .i64 0, .int .i64 0, .int .i64 0, .int .i64 0]),
  (153, .struct [(0, 3), (1, 3), (2, 3)] [.int .i64 0, .int .i64 0, .int .i64 0]),
  (154, .struct [(0, 3), (1, 3), (2, 3)] [.int .i64 0, .int .i64 0, .int .i64 0]),
  (165, .slice 246 3 24 [.int .i64 0, .int .i64 0, .int .i64 0]),
  (166, .slice 248 2 16 [.int .i64 0, .int .i64 0]),
  (167, .struct [(0, 165), (1, 166)] [.slice none 0 0, .slice none 0 0]),
  (168, .struct [(0, 165), (1, 166)] [.slice none 0 0, .slice none 0 0]),
  (169, .struct [(0, 3), (1, 26), (2, 168)] [.int .i64 0, .slice none 0 0, .slice none 0 0, .slice none 0 0]),
  (170, .struct [(0, 3), (1, 26), (2, 168)] [.int .i64 0, .slice none 0 0, .slice none 0 0, .slice none 0 0]),
  (182, .struct [(0, 3), (1, 3)] [.int .i64 0, .int .i64 0]),
  (183, .struct [(0, 3), (1, 3)] [.int .i64 0, .int .i64 0]),
  (188, .flat (.int .u64) (.int .u64 0)),
  (204, .flat .other (.pointer none)),
  (205, .flat .other (.pointer none)),
  (231, .flat (.int .i64) (.int .i64 0)),
  (239, .flat (.int .u32) (.int .u32 0)),
  (246, .struct [(0, 3), (1, 3), (2, 3)] [.int .i64 0, .int .i64 0, .int .i64 0]),
  (248, .struct [(0, 3), (1, 3)] [.int .i64 0, .int .i64 0]),
  (254, .flat (.int .u64) (.int .u64 0)),
  (258, .flat .other (.pointer none)),
  (262, .flat .other (.pointer none)),
  (268, .struct [(0, 17), (1, 17), (2, 17), (3, 9)] [.pointer none, .pointer none, .pointer none, .string ⟨#[]⟩]),
  (269, .struct [(0, 17), (1, 17), (2, 17), (3, 9)] [.pointer none, .pointer none, .pointer none, .string ⟨#[]⟩]),
  (273, .flat (.int .u8) (.int .u8 0)),
  (274, .flat (.int .u8) (.int .u8 0)),
  (276, .flat .other (.pointer none)),
  (277, .flat (.int .i32) (.int .i32 0)),
  (278, .flat (.int .i32) (.int .i32 0))]
theorem G : Go.Rf.Good Tryz.prog tb := Go.Rf.Good.of (by kernel_rfl)
instance : Env Tryz.prog := ⟨fun _ => True, fun _ _ => trivial⟩
theorem mixed : Tryz.prog.follows .mixedOrders = true := by kernel_rfl
end Go.Proofs.YtcnodpipinlpcaaGreat

/-
  DERIVED: THE SHELF's CONTRACTS AT THIS DUMP, IN PLAIN WORDS (tools/lay-plain.mjs out of 'TryzShelf.lean', which tools/lay-shelf.mjs wrote): THE SAME DECLARATIONS UNDER THE SAME NAMES: 'import', 'namespace', 'open', 'def', 'theorem' AND NOTHING ELSE: no command of the shelf's: FOR A HAND-IN. Each laying: the table of numbers ('.._ren') and one theorem, a field a fact of the dump's own or the kernel's comparison; each contract: ONE APPLICATION.
-/
namespace Go.Proofs
open Go.Shelf
def Tryz.lays189_ren : Go.Shelf.Ren := ⟨fun | 189 => 169 | 125 => 211 | 257 => 210 | 128 => 251 | 129 => 252 | 294 => 242 | 295 => 243 | 296 => 244 | 297 => 245 | 298 => 246 | 299 => 247 | 216 => 248 | 300 => 249 | 301 => 250 | 328 => 273 | 329 => 274 | 330 => 275 | 331 => 276 | 332 => 277 | 215 => 272 | 343 => 282 | n => n, fun | 28 => 26 | 3 => 3 | 46 => 188 | 0 => 0 | 51 => 239 | 53 => 88 | 4 => 4 | 183 => 232 | 182 => 231 | 131 => 45 | 5 => 5 | 9 => 9 | 218 => 254 | 222 => 258 | 228 => 262 | 229 => 263 | n => n, fun | n => n⟩
theorem Tryz.lays189 : Go.Proofs.Lays.n189 Tryz.prog Tryz.lays189_ren := {
  mixed := by kernel_rfl
  f125 := Tryz.func211.trans (congrArg some (by kernel_rfl))
  f128 := Tryz.func251.trans (congrArg some (by kernel_rfl))
  f129 := Tryz.func252.trans (congrArg some (by kernel_rfl))
  f189 := Tryz.func169.trans (congrArg some (by kernel_rfl))
  f215 := Tryz.func272.trans (congrArg some (by kernel_rfl))
  f216 := Tryz.func248.trans (congrArg some (by kernel_rfl))
  f257 := Tryz.func210.trans (congrArg some (by kernel_rfl))
  f294 := Tryz.func242.trans (congrArg some (by kernel_rfl))
  f295 := Tryz.func243.trans (congrArg some (by kernel_rfl))
  f296 := Tryz.func244.trans (congrArg some (by kernel_rfl))
  f297 := Tryz.func245.trans (congrArg some (by kernel_rfl))
  f298 := Tryz.func246.trans (congrArg some (by kernel_rfl))
  f299 := Tryz.func247.trans (congrArg some (by kernel_rfl))
  f300 := Tryz.func249.trans (congrArg some (by kernel_rfl))
  f301 := Tryz.func250.trans (congrArg some (by kernel_rfl))
  f328 := Tryz.func273.trans (congrArg some (by kernel_rfl))
  f329 := Tryz.func274.trans (congrArg some (by kernel_rfl))
  f330 := Tryz.func275.trans (congrArg some (by kernel_rfl))
  f331 := Tryz.func276.trans (congrArg some (by kernel_rfl))
  f332 := Tryz.func277.trans (congrArg some (by kernel_rfl))
  f343 := Tryz.func282.trans (congrArg some (by kernel_rfl))
  t0 := Tryz.underlying0
  a0 := Tryz.isAgg0
  z0 := Tryz.sizeOf0
  v0 := Tryz.zeroValue0
  t3 := Tryz.underlying3
  a3 := Tryz.isAgg3
  z3 := Tryz.sizeOf3
  v3 := Tryz.zeroValue3
  t4 := Tryz.underlying4
  a4 := Tryz.isAgg4
  z4 := Tryz.sizeOf4
  v4 := Tryz.zeroValue4
  t5 := Tryz.underlying5
  a5 := Tryz.isAgg5
  z5 := Tryz.sizeOf5
  v5 := Tryz.zeroValue5
  t9 := Tryz.underlying9
  a9 := Tryz.isAgg9
  z9 := Tryz.sizeOf9
  v9 := Tryz.zeroValue9
  t28 := Tryz.underlying26
  a28 := Tryz.isAgg26
  z28 := Tryz.sizeOf26
  v28 := Tryz.zeroValue26
  t46 := Tryz.underlying188
  a46 := Tryz.isAgg188
  z46 := Tryz.sizeOf188
  v46 := Tryz.zeroValue188
  t51 := Tryz.underlying239
  a51 := Tryz.isAgg239
  z51 := Tryz.sizeOf239
  v51 := Tryz.zeroValue239
  t53 := Tryz.underlying88
  a53 := Tryz.isAgg88
  z53 := Tryz.sizeOf88
  v53 := Tryz.zeroValue88
  t131 := Tryz.underlying45
  a131 := Tryz.isAgg45
  z131 := Tryz.sizeOf45
  v131 := Tryz.zeroValue45
  t182 := Tryz.underlying231
  a182 := Tryz.isAgg231
  z182 := Tryz.sizeOf231
  v182 := Tryz.zeroValue231
  t183 := Tryz.underlying232
  a183 := Tryz.isAgg232
  z183 := Tryz.sizeOf232
  v183 := Tryz.zeroValue232
  t218 := Tryz.underlying254
  a218 := Tryz.isAgg254
  z218 := Tryz.sizeOf254
  v218 := Tryz.zeroValue254
  t222 := Tryz.underlying258
  a222 := Tryz.isAgg258
  z222 := Tryz.sizeOf258
  v222 := Tryz.zeroValue258
  t228 := Tryz.underlying262
  a228 := Tryz.isAgg262
  z228 := Tryz.sizeOf262
  v228 := Tryz.zeroValue262
  t229 := Tryz.underlying263
  a229 := Tryz.isAgg263
  z229 := Tryz.sizeOf263
  v229 := Tryz.zeroValue263 }
open Go.Sort Go.RowKit in
theorem Tryz.slices_Sort_int (blk off cap : Nat) (zs : List Int) (w : World) (hH : Holds (Value.int .i64) w blk off zs.toArray) (hblk : blk < w.heap.size) (hsz : zs.length < 4611686018427387904) :
    Calls Tryz.prog 169 #[.slice (some ⟨blk, off, none⟩) zs.length cap] w fun e w' =>
      e = .returned (.tuple #[]) ∧ ∃ n os, w' = grow (putRow (Value.int .i64) (Sort.ahead w n) blk off (zs.mergeSort fun x y => decide (x ≤ y)).toArray) os := Any.slices_Sort_int Tryz.lays189 blk off cap zs w hH hblk hsz
open Go.RowKit Go.Sort in
/-- .. and plain. (LAID: no walk: one application.) -/
theorem Tryz.slices_Sort_int_none (p : Option Addr) (cap : Nat) (w : World) :
    Calls Tryz.prog 169 #[.slice p 0 cap] w fun e w' => e = .returned (.tuple #[]) ∧ w' = w := Any.slices_Sort_int_none Tryz.lays189 p cap w
end Go.Proofs

/- Contracts of the library's functions that this program calls. -/
set_option linter.unusedVariables false
namespace Go.Proofs.YtcnodpipinlpcaaGreat
open Go Go.Rf
theorem c_slices_Sort_int_int (l : List Int) (hl : l.length ≤ 1048576) : CtrM Tryz.prog 169 [.own 0] [.row 3 1 (l.map Go.Rf.encI)] (.many []) [some (.row 3 1 ((srtI l).map Go.Rf.encI))] :=
  CtrM.sort ⟨_, Tryz.func169, by kernel_rfl, rfl⟩ hl (fun blk off cap w hH hb hs => Tryz.slices_Sort_int blk off cap l w hH hb hs) (fun p cap w => Tryz.slices_Sort_int_none p cap w)
end Go.Proofs.YtcnodpipinlpcaaGreat

/- Walks through functions of the program, one contract each (written by gen.py). -/
set_option maxRecDepth 20000
set_option linter.unusedVariables false
set_option linter.unusedSimpArgs false
namespace Go.Proofs.YtcnodpipinlpcaaGreat
open Go Go.Rf

theorem c_impl_inside (n l h : Int) : Ctr Tryz.prog 65 [.v (.int .i64 n), .v (.int .i64 l), .v (.int .i64 h)] (.one (.v (.bool (inside n l h)))) := by
  refine Ctr.of (n := 15) G Tryz.func65 rfl (by kernel_rfl) rfl rfl rfl (fun w0 => ?_)
  refine W_seq (fun K1 hK1 => ?_)
  refine W_region (WL_cons rfl (WX_q rfl rfl (q_assign rfl rfl) (?_)))
  refine WL_nil (hK1 _ ?_)
  clear hK1 K1
  refine W_seq (fun K2 hK2 => ?_)
  refine W_region (WL_cons rfl (WX_q rfl rfl (q_move rfl rfl) (WL_cons rfl (WX_q rfl rfl (q_move rfl rfl) (WL_cons rfl (WX_q rfl rfl (q_cmp rfl rfl rfl rfl) (WL_cons rfl (WX_q rfl rfl (q_move rfl rfl) (WL_part rfl rfl rfl (fun h1 => ?_) (fun h1 => ?_))))))))))
  · try rw [h1]
    try simp only [rfb] at h1
    refine WL_run rfl rfl rfl (WX_q rfl rfl (q_move rfl rfl) (WL_run rfl rfl rfl (WX_q rfl rfl (q_move rfl rfl) (WL_run rfl rfl rfl (WX_q rfl rfl (q_cmp rfl rfl rfl rfl) (WL_cons rfl (WX_q rfl rfl (q_pick_t rfl rfl rfl) (WL_cons rfl (WX_q rfl rfl (q_assign rfl rfl) (?_))))))))))
    refine WL_nil (hK2 _ ?_)
    clear hK2 K2
    refine W_ret (fin_one rfl (rc_v ?_))
    all_goals (first | rfl | (simp_all [inside]; done) | (simp_all [inside]; omega))
  · try rw [h1]
    try simp only [rfb] at h1
    refine WL_skip rfl rfl rfl rfl rfl rfl (WL_skip rfl rfl rfl rfl rfl rfl (WL_skip rfl rfl rfl rfl rfl rfl (WL_cons rfl (WX_q rfl rfl (q_pick_f rfl rfl rfl) (WL_cons rfl (WX_q rfl rfl (q_assign rfl rfl) (?_)))))))
    refine WL_nil (hK2 _ ?_)
    clear hK2 K2
    refine W_ret (fin_one rfl (rc_v ?_))
    all_goals (first | rfl | (simp_all [inside]; done) | (simp_all [inside]; omega))

theorem c_spec_l1In (n l h : Int) : Ctr Tryz.prog 67 [.v (.int .i64 n), .v (.int .i64 l), .v (.int .i64 h)] (.one (.v (.bool (inside n l h)))) := by
  refine Ctr.of (n := 15) G Tryz.func67 rfl (by kernel_rfl) rfl rfl rfl (fun w0 => ?_)
  refine W_seq (fun K1 hK1 => ?_)
  refine W_region (WL_cons rfl (WX_q rfl rfl (q_assign rfl rfl) (?_)))
  refine WL_nil (hK1 _ ?_)
  clear hK1 K1
  refine W_seq (fun K2 hK2 => ?_)
  refine W_region (WL_cons rfl (WX_q rfl rfl (q_move rfl rfl) (WL_cons rfl (WX_q rfl rfl (q_move rfl rfl) (WL_cons rfl (WX_q rfl rfl (q_cmp rfl rfl rfl rfl) (WL_cons rfl (WX_q rfl rfl (q_move rfl rfl) (WL_part rfl rfl rfl (fun h1 => ?_) (fun h1 => ?_))))))))))
  · try rw [h1]
    try simp only [rfb] at h1
    refine WL_run rfl rfl rfl (WX_q rfl rfl (q_move rfl rfl) (WL_run rfl rfl rfl (WX_q rfl rfl (q_move rfl rfl) (WL_run rfl rfl rfl (WX_q rfl rfl (q_cmp rfl rfl rfl rfl) (WL_cons rfl (WX_q rfl rfl (q_pick_t rfl rfl rfl) (WL_cons rfl (WX_q rfl rfl (q_assign rfl rfl) (?_))))))))))
    refine WL_nil (hK2 _ ?_)
    clear hK2 K2
    refine W_ret (fin_one rfl (rc_v ?_))
    all_goals (first | rfl | (simp_all [inside]; done) | (simp_all [inside]; omega))
  · try rw [h1]
    try simp only [rfb] at h1
    refine WL_skip rfl rfl rfl rfl rfl rfl (WL_skip rfl rfl rfl rfl rfl rfl (WL_skip rfl rfl rfl rfl rfl rfl (WL_cons rfl (WX_q rfl rfl (q_pick_f rfl rfl rfl) (WL_cons rfl (WX_q rfl rfl (q_assign rfl rfl) (?_)))))))
    refine WL_nil (hK2 _ ?_)
    clear hK2 K2
    refine W_ret (fin_one rfl (rc_v ?_))
    all_goals (first | rfl | (simp_all [inside]; done) | (simp_all [inside]; omega))

theorem c_impl_isMask (n : Int) : Ctr Tryz.prog 114 [.v (.int .i64 n)] (.one (.v (.bool (inside n 0 16)))) := by
  refine Ctr.of (n := 5) G Tryz.func114 rfl (by kernel_rfl) rfl rfl rfl (fun w0 => ?_)
  refine W_seq (fun K1 hK1 => ?_)
  refine W_region (WL_cons rfl (WX_q rfl rfl (q_assign rfl rfl) (?_)))
  refine WL_nil (hK1 _ ?_)
  clear hK1 K1
  refine W_seq (fun K2 hK2 => ?_)
  refine W_region (WL_cons rfl (WX_q rfl rfl (q_move rfl rfl) (WL_cons rfl (?_))))
  refine WX_q rfl rfl (q_call rfl (ArgsOK.of rfl) (c_impl_inside _ _ _) rfl) ?_
  refine WL_cons rfl (WX_q rfl rfl (q_assign rfl rfl) (?_))
  refine WL_nil (hK2 _ ?_)
  clear hK2 K2
  refine W_ret (fin_one rfl (rc_v ?_))
  all_goals ((first | rfl | (simp_all; done) | (simp_all; omega)))

theorem c_impl_isIrq (n : Int) : Ctr Tryz.prog 115 [.v (.int .i64 n)] (.one (.v (.bool (inside n 0 7)))) := by
  refine Ctr.of (n := 5) G Tryz.func115 rfl (by kernel_rfl) rfl rfl rfl (fun w0 => ?_)
  refine W_seq (fun K1 hK1 => ?_)
  refine W_region (WL_cons rfl (WX_q rfl rfl (q_assign rfl rfl) (?_)))
  refine WL_nil (hK1 _ ?_)
  clear hK1 K1
  refine W_seq (fun K2 hK2 => ?_)
  refine W_region (WL_cons rfl (WX_q rfl rfl (q_move rfl rfl) (WL_cons rfl (?_))))
  refine WX_q rfl rfl (q_call rfl (ArgsOK.of rfl) (c_impl_inside _ _ _) rfl) ?_
  refine WL_cons rfl (WX_q rfl rfl (q_assign rfl rfl) (?_))
  refine WL_nil (hK2 _ ?_)
  clear hK2 K2
  refine W_ret (fin_one rfl (rc_v ?_))
  all_goals ((first | rfl | (simp_all; done) | (simp_all; omega)))

theorem c_spec_l6Irq (n : Int) : Ctr Tryz.prog 179 [.v (.int .i64 n)] (.one (.v (.bool (inside n 0 7)))) := by
  refine Ctr.of (n := 5) G Tryz.func179 rfl (by kernel_rfl) rfl rfl rfl (fun w0 => ?_)
  refine W_seq (fun K1 hK1 => ?_)
  refine W_region (WL_cons rfl (WX_q rfl rfl (q_assign rfl rfl) (?_)))
  refine WL_nil (hK1 _ ?_)
  clear hK1 K1
  refine W_seq (fun K2 hK2 => ?_)
  refine W_region (WL_cons rfl (WX_q rfl rfl (q_move rfl rfl) (WL_cons rfl (?_))))
  refine WX_q rfl rfl (q_call rfl (ArgsOK.of rfl) (c_spec_l1In _ _ _) rfl) ?_
  refine WL_cons rfl (WX_q rfl rfl (q_assign rfl rfl) (?_))
  refine WL_nil (hK2 _ ?_)
  clear hK2 K2
  refine W_ret (fin_one rfl (rc_v ?_))
  all_goals ((first | rfl | (simp_all; done) | (simp_all; omega)))

theorem c_impl_isPriority (n : Int) : Ctr Tryz.prog 166 [.v (.int .i64 n)] (.one (.v (.bool (inside n 0 15)))) := by
  refine Ctr.of (n := 5) G Tryz.func166 rfl (by kernel_rfl) rfl rfl rfl (fun w0 => ?_)
  refine W_seq (fun K1 hK1 => ?_)
  refine W_region (WL_cons rfl (WX_q rfl rfl (q_assign rfl rfl) (?_)))
  refine WL_nil (hK1 _ ?_)
  clear hK1 K1
  refine W_seq (fun K2 hK2 => ?_)
  refine W_region (WL_cons rfl (WX_q rfl rfl (q_move rfl rfl) (WL_cons rfl (?_))))
  refine WX_q rfl rfl (q_call rfl (ArgsOK.of rfl) (c_impl_inside _ _ _) rfl) ?_
  refine WL_cons rfl (WX_q rfl rfl (q_assign rfl rfl) (?_))
  refine WL_nil (hK2 _ ?_)
  clear hK2 K2
  refine W_ret (fin_one rfl (rc_v ?_))
  all_goals ((first | rfl | (simp_all; done) | (simp_all; omega)))

theorem c_spec_l6Prio (n : Int) : Ctr Tryz.prog 178 [.v (.int .i64 n)] (.one (.v (.bool (inside n 0 15)))) := by
  refine Ctr.of (n := 5) G Tryz.func178 rfl (by kernel_rfl) rfl rfl rfl (fun w0 => ?_)
  refine W_seq (fun K1 hK1 => ?_)
  refine W_region (WL_cons rfl (WX_q rfl rfl (q_assign rfl rfl) (?_)))
  refine WL_nil (hK1 _ ?_)
  clear hK1 K1
  refine W_seq (fun K2 hK2 => ?_)
  refine W_region (WL_cons rfl (WX_q rfl rfl (q_move rfl rfl) (WL_cons rfl (?_))))
  refine WX_q rfl rfl (q_call rfl (ArgsOK.of rfl) (c_spec_l1In _ _ _) rfl) ?_
  refine WL_cons rfl (WX_q rfl rfl (q_assign rfl rfl) (?_))
  refine WL_nil (hK2 _ ?_)
  clear hK2 K2
  refine W_ret (fin_one rfl (rc_v ?_))
  all_goals ((first | rfl | (simp_all; done) | (simp_all; omega)))

theorem c_laws_szRouteS (xs : List Route) (l : Int) (h0 : xs.length ≤ 9223372036854775807) (hl : 0 ≤ l ∧ l ≤ 1048576) : Ctr Tryz.prog 20 [.lst 2 (xs.map encRo), .v (.int .i64 l)] (.one (.v (.int .i64 (szL xs.length l)))) := by
  refine Ctr.of (n := 12) G Tryz.func20 rfl (by kernel_rfl) rfl rfl rfl (fun w0 => ?_)
  refine W_seq (fun K1 hK1 => ?_)
  refine W_region (WL_cons rfl (WX_q rfl rfl (q_assign rfl rfl) (?_)))
  refine WL_nil (hK1 _ ?_)
  clear hK1 K1
  refine W_seq (fun K2 hK2 => ?_)
  refine W_region (WL_cons rfl (WX_q rfl rfl (q_move rfl rfl) (WL_cons rfl (WX_q rfl rfl (q_move rfl rfl) (WL_cons rfl (?_))))))
  first | refine WX_q rfl rfl (q_len' G rfl rfl rfl rfl (List.length_map _)) ?_ | refine WX_q rfl rfl (q_len G rfl rfl rfl rfl) ?_
  refine WL_cons rfl (?_)
  first | refine WX_q rfl rfl (q_arith rfl rfl rfl rfl (by omega) (by omega)) ?_ | refine WX_q rfl rfl (q_wrap rfl rfl rfl rfl) ?_
  refine WL_cons rfl (WX_q rfl rfl (q_assign rfl rfl) (?_))
  refine WL_nil (hK2 _ ?_)
  clear hK2 K2
  refine W_seq (fun K3 hK3 => ?_)
  refine W_seq (fun K4 hK4 => ?_)
  refine W_region (WL_cons rfl (WX_q rfl rfl (q_move rfl rfl) (WL_cons rfl (WX_q rfl rfl (q_cmp rfl rfl rfl rfl) (?_)))))
  refine WL_nil (hK4 _ ?_)
  clear hK4 K4
  refine W_cond rfl (fun h1 => ?_) (fun h1 => ?_)
  · try rw [h1]
    try simp only [rfb] at h1
    refine W_seq (fun K5 hK5 => ?_)
    refine W_region (WL_cons rfl (WX_q rfl rfl (q_assign rfl rfl) (?_)))
    refine WL_nil (hK5 _ ?_)
    clear hK5 K5
    refine W_ret (fin_one rfl (rc_v ?_))
    all_goals clear hK3 K3
    all_goals (simp only [szL]; first | (rw [if_pos (by omega)]; done) | (rw [if_neg (by omega)]; done))
  · try rw [h1]
    try simp only [rfb] at h1
    refine W_skip (hK3 _ ?_)
    clear hK3 K3
    refine W_seq (fun K6 hK6 => ?_)
    refine W_region (WL_cons rfl (WX_q rfl rfl (q_move rfl rfl) (WL_cons rfl (WX_q rfl rfl (q_assign rfl rfl) (?_)))))
    refine WL_nil (hK6 _ ?_)
    clear hK6 K6
    refine W_ret (fin_one rfl (rc_v ?_))
    all_goals (simp only [szL]; first | (rw [if_pos (by omega)]; done) | (rw [if_neg (by omega)]; done))

theorem c_laws_szBoolS (xs : List Bool) (l : Int) (h0 : xs.length ≤ 9223372036854775807) (hl : 0 ≤ l ∧ l ≤ 1048576) : Ctr Tryz.prog 69 [.lst 1 (xs.map encO), .v (.int .i64 l)] (.one (.v (.int .i64 (szL xs.length l)))) := by
  refine Ctr.of (n := 12) G Tryz.func69 rfl (by kernel_rfl) rfl rfl rfl (fun w0 => ?_)
  refine W_seq (fun K1 hK1 => ?_)
  refine W_region (WL_cons rfl (WX_q rfl rfl (q_assign rfl rfl) (?_)))
  refine WL_nil (hK1 _ ?_)
  clear hK1 K1
  refine W_seq (fun K2 hK2 => ?_)
  refine W_region (WL_cons rfl (WX_q rfl rfl (q_move rfl rfl) (WL_cons rfl (WX_q rfl rfl (q_move rfl rfl) (WL_cons rfl (?_))))))
  first | refine WX_q rfl rfl (q_len' G rfl rfl rfl rfl (List.length_map _)) ?_ | refine WX_q rfl rfl (q_len G rfl rfl rfl rfl) ?_
  refine WL_cons rfl (?_)
  first | refine WX_q rfl rfl (q_arith rfl rfl rfl rfl (by omega) (by omega)) ?_ | refine WX_q rfl rfl (q_wrap rfl rfl rfl rfl) ?_
  refine WL_cons rfl (WX_q rfl rfl (q_assign rfl rfl) (?_))
  refine WL_nil (hK2 _ ?_)
  clear hK2 K2
  refine W_seq (fun K3 hK3 => ?_)
  refine W_seq (fun K4 hK4 => ?_)
  refine W_region (WL_cons rfl (WX_q rfl rfl (q_move rfl rfl) (WL_cons rfl (WX_q rfl rfl (q_cmp rfl rfl rfl rfl) (?_)))))
  refine WL_nil (hK4 _ ?_)
  clear hK4 K4
  refine W_cond rfl (fun h1 => ?_) (fun h1 => ?_)
  · try rw [h1]
    try simp only [rfb] at h1
    refine W_seq (fun K5 hK5 => ?_)
    refine W_region (WL_cons rfl (WX_q rfl rfl (q_assign rfl rfl) (?_)))
    refine WL_nil (hK5 _ ?_)
    clear hK5 K5
    refine W_ret (fin_one rfl (rc_v ?_))
    all_goals clear hK3 K3
    all_goals (simp only [szL]; first | (rw [if_pos (by omega)]; done) | (rw [if_neg (by omega)]; done))
  · try rw [h1]
    try simp only [rfb] at h1
    refine W_skip (hK3 _ ?_)
    clear hK3 K3
    refine W_seq (fun K6 hK6 => ?_)
    refine W_region (WL_cons rfl (WX_q rfl rfl (q_move rfl rfl) (WL_cons rfl (WX_q rfl rfl (q_assign rfl rfl) (?_)))))
    refine WL_nil (hK6 _ ?_)
    clear hK6 K6
    refine W_ret (fin_one rfl (rc_v ?_))
    all_goals (simp only [szL]; first | (rw [if_pos (by omega)]; done) | (rw [if_neg (by omega)]; done))

theorem c_laws_szIntS (xs : List Int) (l : Int) (h0 : xs.length ≤ 9223372036854775807) (hl : 0 ≤ l ∧ l ≤ 1048576) : Ctr Tryz.prog 70 [.lst 1 (xs.map Rf.encI), .v (.int .i64 l)] (.one (.v (.int .i64 (szL xs.length l)))) := by
  refine Ctr.of (n := 12) G Tryz.func70 rfl (by kernel_rfl) rfl rfl rfl (fun w0 => ?_)
  refine W_seq (fun K1 hK1 => ?_)
  refine W_region (WL_cons rfl (WX_q rfl rfl (q_assign rfl rfl) (?_)))
  refine WL_nil (hK1 _ ?_)
  clear hK1 K1
  refine W_seq (fun K2 hK2 => ?_)
  refine W_region (WL_cons rfl (WX_q rfl rfl (q_move rfl rfl) (WL_cons rfl (WX_q rfl rfl (q_move rfl rfl) (WL_cons rfl (?_))))))
  first | refine WX_q rfl rfl (q_len' G rfl rfl rfl rfl (List.length_map _)) ?_ | refine WX_q rfl rfl (q_len G rfl rfl rfl rfl) ?_
  refine WL_cons rfl (?_)
  first | refine WX_q rfl rfl (q_arith rfl rfl rfl rfl (by omega) (by omega)) ?_ | refine WX_q rfl rfl (q_wrap rfl rfl rfl rfl) ?_
  refine WL_cons rfl (WX_q rfl rfl (q_assign rfl rfl) (?_))
  refine WL_nil (hK2 _ ?_)
  clear hK2 K2
  refine W_seq (fun K3 hK3 => ?_)
  refine W_seq (fun K4 hK4 => ?_)
  refine W_region (WL_cons rfl (WX_q rfl rfl (q_move rfl rfl) (WL_cons rfl (WX_q rfl rfl (q_cmp rfl rfl rfl rfl) (?_)))))
  refine WL_nil (hK4 _ ?_)
  clear hK4 K4
  refine W_cond rfl (fun h1 => ?_) (fun h1 => ?_)
  · try rw [h1]
    try simp only [rfb] at h1
    refine W_seq (fun K5 hK5 => ?_)
    refine W_region (WL_cons rfl (WX_q rfl rfl (q_assign rfl rfl) (?_)))
    refine WL_nil (hK5 _ ?_)
    clear hK5 K5
    refine W_ret (fin_one rfl (rc_v ?_))
    all_goals clear hK3 K3
    all_goals (simp only [szL]; first | (rw [if_pos (by omega)]; done) | (rw [if_neg (by omega)]; done))
  · try rw [h1]
    try simp only [rfb] at h1
    refine W_skip (hK3 _ ?_)
    clear hK3 K3
    refine W_seq (fun K6 hK6 => ?_)
    refine W_region (WL_cons rfl (WX_q rfl rfl (q_move rfl rfl) (WL_cons rfl (WX_q rfl rfl (q_assign rfl rfl) (?_)))))
    refine WL_nil (hK6 _ ?_)
    clear hK6 K6
    refine W_ret (fin_one rfl (rc_v ?_))
    all_goals (simp only [szL]; first | (rw [if_pos (by omega)]; done) | (rw [if_neg (by omega)]; done))

theorem c_laws_toRoute (x : Route) : Ctr Tryz.prog 75 [.v (encRt x)] (.one (.v (encRt x))) := by
  refine Ctr.of (n := 11) G Tryz.func75 rfl (by kernel_rfl) rfl rfl rfl (fun w0 => ?_)
  refine W_seq (fun K1 hK1 => ?_)
  refine W_region (WL_cons rfl (WX_box 1 rfl rfl rfl rfl rfl rfl rfl (WL_cons rfl (WX_alloc_s G 2 rfl rfl rfl rfl rfl (?_)))))
  refine WL_nil (hK1 _ ?_)
  clear hK1 K1
  refine W_seq (fun K2 hK2 => ?_)
  refine W_region (WL_cons rfl (WX_alloc_s G 3 rfl rfl rfl rfl rfl (?_)))
  refine WL_nil (hK2 _ ?_)
  clear hK2 K2
  refine W_seq (fun K3 hK3 => ?_)
  refine W_region (WL_cons rfl (WX_q rfl rfl (q_field_ptr G rfl rfl rfl rfl) (WL_cons rfl (WX_q rfl rfl (q_load_box G rfl rfl rfl rfl rfl rfl rfl) (WL_cons rfl (WX_q rfl rfl (q_field_ptr G rfl rfl rfl rfl) (WL_cons rfl (WX_store G rfl rfl rfl rfl rfl rfl rfl rfl rfl rfl rfl (?_)))))))))
  refine WL_nil (hK3 _ ?_)
  clear hK3 K3
  refine W_seq (fun K4 hK4 => ?_)
  refine W_region (WL_cons rfl (WX_q rfl rfl (q_field_ptr G rfl rfl rfl rfl) (WL_cons rfl (WX_q rfl rfl (q_load_box G rfl rfl rfl rfl rfl rfl rfl) (WL_cons rfl (WX_q rfl rfl (q_field_ptr G rfl rfl rfl rfl) (WL_cons rfl (WX_store G rfl rfl rfl rfl rfl rfl rfl rfl rfl rfl rfl (?_)))))))))
  refine WL_nil (hK4 _ ?_)
  clear hK4 K4
  refine W_seq (fun K5 hK5 => ?_)
  refine W_region (WL_cons rfl (WX_q rfl rfl (q_load_box_struct G rfl rfl rfl rfl rfl rfl) (WL_cons rfl (WX_store G rfl rfl rfl rfl rfl rfl rfl rfl rfl rfl rfl (?_)))))
  refine WL_nil (hK5 _ ?_)
  clear hK5 K5
  refine W_ret (fin_one rfl (rc_agg rfl ?_))
  all_goals ((first | rfl | (simp_all; done) | (simp_all; omega)))

theorem c_laws_toRouteS (xs : List Route) (hn : xs.length ≤ 1048576) : Ctr Tryz.prog 23 [.lst 2 (xs.map encRo)] (.one (.fr 118 2 (xs.map encRo))) := by
  refine Ctr.of (n := 23) G Tryz.func23 rfl (by kernel_rfl) rfl rfl rfl (fun w0 => ?_)
  refine W_seq (fun K1 hK1 => ?_)
  refine W_region (WL_cons rfl (WX_q rfl rfl (q_assign rfl rfl) (?_)))
  refine WL_nil (hK1 _ ?_)
  clear hK1 K1
  refine W_seq (fun K2 hK2 => ?_)
  refine W_region (WL_cons rfl (WX_q rfl rfl (q_move rfl rfl) (WL_cons rfl (?_))))
  first | refine WX_q rfl rfl (q_len' G rfl rfl rfl rfl (List.length_map _)) ?_ | refine WX_q rfl rfl (q_len G rfl rfl rfl rfl) ?_
  refine WL_cons rfl (?_)
  refine WX_make (n := xs.length) G 1 rfl rfl rfl rfl rfl rfl rfl (by first | rfl | simp) (by first | rfl | simp) (by omega) (by omega) ?_
  refine WL_cons rfl (WX_q rfl rfl (q_assign rfl rfl) (?_))
  refine WL_nil (hK2 _ ?_)
  clear hK2 K2
  refine W_seq (fun K3 hK3 => ?_)
  refine W_seq (fun K4 hK4 => ?_)
  refine W_region (WL_cons rfl (WX_q rfl rfl (q_assign rfl rfl) (?_)))
  refine WL_nil (hK4 _ ?_)
  clear hK4 K4
  refine W_block ?_
  refine W_loopK [0, 3] [] (fun (i : Nat) => [(4, .v (.int .i64 (i : Int)))]) (fun (i : Nat) => [(0, some (.row 118 2 (fill encRo (encRo ⟨0, 0⟩) xs i)))]) (fun (i : Nat) => i ≤ xs.length) (fun (i : Nat) => xs.length - i) 0 rfl rfl ?_ ?_ ?_ ?_
  · exact Nat.zero_le _
  · exact ⟨⟨_, rfl, by (first | rfl | (simp; done) | (simp; omega))⟩, rfl, trivial⟩
  · exact ⟨⟨_, rfl, by (rw [fill_zero]; rfl)⟩, rfl, rfl, trivial⟩
  · intro i hinv
    simp only [List.cons_append, List.nil_append]
    refine W_seq (fun K5 hK5 => ?_)
    refine W_seq (fun K6 hK6 => ?_)
    refine W_region (WL_cons rfl (WX_q rfl rfl (q_move rfl rfl) (WL_cons rfl (WX_q rfl rfl (q_move rfl rfl) (WL_cons rfl (?_))))))
    first | refine WX_q rfl rfl (q_len' G rfl rfl rfl rfl (List.length_map _)) ?_ | refine WX_q rfl rfl (q_len G rfl rfl rfl rfl) ?_
    refine WL_cons rfl (WX_q rfl rfl (q_cmp rfl rfl rfl rfl) (?_))
    refine WL_nil (hK6 _ ?_)
    clear hK6 K6
    refine W_cond rfl (fun h1 => ?_) (fun h1 => ?_)
    · try rw [h1]
      try simp only [rfb] at h1
      refine W_skip (hK5 _ ?_)
      clear hK5 K5
      refine W_seq (fun K7 hK7 => ?_)
      refine W_block ?_
      refine W_region (WL_cons rfl (WX_q rfl rfl (q_move rfl rfl) (WL_cons rfl (WX_q rfl rfl (q_move rfl rfl) (WL_cons rfl (WX_q rfl rfl (q_move rfl rfl) (WL_cons rfl (WX_q rfl rfl (q_move rfl rfl) (WL_cons rfl (?_))))))))))
      refine WX_q rfl rfl (q_index_lst G rfl rfl rfl rfl (by omega) (getN (by omega))) ?_
      refine WL_cons rfl (WX_q rfl rfl (q_load_ept_struct G rfl rfl rfl rfl) (WL_cons rfl (?_)))
      refine WX_q rfl rfl (q_call rfl (ArgsOK.of rfl) (c_laws_toRoute _) rfl) ?_
      refine WL_cons rfl (?_)
      refine WX_q rfl rfl (q_index_own G rfl rfl rfl rfl rfl (by omega) (by rw [fill_len (by omega)]; omega)) ?_
      refine WL_cons rfl (?_)
      refine WX_store_row G rfl rfl rfl rfl rfl (fill_get (by omega)) rfl rfl rfl rfl rfl (Nat.le_of_ble_eq_true rfl) rfl ?_
      refine WL_nil (hK7 _ ?_)
      clear hK7 K7
      refine W_region (WL_cons rfl (WX_q rfl rfl (q_move rfl rfl) (WL_cons rfl (?_))))
      first | refine WX_q rfl rfl (q_arith rfl rfl rfl rfl (by omega) (by omega)) ?_ | refine WX_q rfl rfl (q_wrap rfl rfl rfl rfl) ?_
      refine WL_cons rfl (WX_q rfl rfl (q_assign rfl rfl) (?_))
      refine WL_nil ⟨(i + 1), ?_, ?_, ⟨⟨_, rfl, by rfl⟩, rfl, trivial⟩, ⟨⟨_, rfl, by (rw [← fill_set (by omega)]; rfl)⟩, rfl, rfl, trivial⟩, rfl, rfl, rfl⟩
      · omega
      · omega
    · try rw [h1]
      try simp only [rfb] at h1
      refine W_exit (hK3 _ ?_)
      clear hK5 K5 hK3 K3
      refine W_seq (fun K8 hK8 => ?_)
      refine W_region (WL_cons rfl (WX_q rfl rfl (q_move rfl rfl) (WL_cons rfl (WX_q rfl rfl (q_assign rfl rfl) (?_)))))
      refine WL_nil (hK8 _ ?_)
      clear hK8 K8
      refine W_ret (fin_one rfl (rc_own rfl ?_))
      all_goals (exact fill_end (by omega) (by omega))

theorem c_laws_toBoolS (xs : List Bool) (hn : xs.length ≤ 1048576) : Ctr Tryz.prog 76 [.lst 1 (xs.map encO)] (.one (.fr 4 1 (xs.map encO))) := by
  refine Ctr.of (n := 22) G Tryz.func76 rfl (by kernel_rfl) rfl rfl rfl (fun w0 => ?_)
  refine W_seq (fun K1 hK1 => ?_)
  refine W_region (WL_cons rfl (WX_q rfl rfl (q_assign rfl rfl) (?_)))
  refine WL_nil (hK1 _ ?_)
  clear hK1 K1
  refine W_seq (fun K2 hK2 => ?_)
  refine W_region (WL_cons rfl (WX_q rfl rfl (q_move rfl rfl) (WL_cons rfl (?_))))
  first | refine WX_q rfl rfl (q_len' G rfl rfl rfl rfl (List.length_map _)) ?_ | refine WX_q rfl rfl (q_len G rfl rfl rfl rfl) ?_
  refine WL_cons rfl (?_)
  refine WX_make (n := xs.length) G 1 rfl rfl rfl rfl rfl rfl rfl (by first | rfl | simp) (by first | rfl | simp) (by omega) (by omega) ?_
  refine WL_cons rfl (WX_q rfl rfl (q_assign rfl rfl) (?_))
  refine WL_nil (hK2 _ ?_)
  clear hK2 K2
  refine W_seq (fun K3 hK3 => ?_)
  refine W_seq (fun K4 hK4 => ?_)
  refine W_region (WL_cons rfl (WX_q rfl rfl (q_assign rfl rfl) (?_)))
  refine WL_nil (hK4 _ ?_)
  clear hK4 K4
  refine W_block ?_
  refine W_loopK [0, 3] [] (fun (i : Nat) => [(4, .v (.int .i64 (i : Int)))]) (fun (i : Nat) => [(0, some (.row 4 1 (fill encO (encO false) xs i)))]) (fun (i : Nat) => i ≤ xs.length) (fun (i : Nat) => xs.length - i) 0 rfl rfl ?_ ?_ ?_ ?_
  · exact Nat.zero_le _
  · exact ⟨⟨_, rfl, by (first | rfl | (simp; done) | (simp; omega))⟩, rfl, trivial⟩
  · exact ⟨⟨_, rfl, by (rw [fill_zero]; rfl)⟩, rfl, rfl, trivial⟩
  · intro i hinv
    simp only [List.cons_append, List.nil_append]
    refine W_seq (fun K5 hK5 => ?_)
    refine W_seq (fun K6 hK6 => ?_)
    refine W_region (WL_cons rfl (WX_q rfl rfl (q_move rfl rfl) (WL_cons rfl (WX_q rfl rfl (q_move rfl rfl) (WL_cons rfl (?_))))))
    first | refine WX_q rfl rfl (q_len' G rfl rfl rfl rfl (List.length_map _)) ?_ | refine WX_q rfl rfl (q_len G rfl rfl rfl rfl) ?_
    refine WL_cons rfl (WX_q rfl rfl (q_cmp rfl rfl rfl rfl) (?_))
    refine WL_nil (hK6 _ ?_)
    clear hK6 K6
    refine W_cond rfl (fun h1 => ?_) (fun h1 => ?_)
    · try rw [h1]
      try simp only [rfb] at h1
      refine W_skip (hK5 _ ?_)
      clear hK5 K5
      refine W_seq (fun K7 hK7 => ?_)
      refine W_block ?_
      refine W_region (WL_cons rfl (WX_q rfl rfl (q_move rfl rfl) (WL_cons rfl (WX_q rfl rfl (q_move rfl rfl) (WL_cons rfl (WX_q rfl rfl (q_move rfl rfl) (WL_cons rfl (WX_q rfl rfl (q_move rfl rfl) (WL_cons rfl (?_))))))))))
      refine WX_q rfl rfl (q_index_lst G rfl rfl rfl rfl (by omega) (getN (by omega))) ?_
      refine WL_cons rfl (WX_q rfl rfl (q_load_ept G rfl rfl rfl rfl rfl) (WL_cons rfl (?_)))
      refine WX_q rfl rfl (q_index_own G rfl rfl rfl rfl rfl (by omega) (by rw [fill_len (by omega)]; omega)) ?_
      refine WL_cons rfl (?_)
      refine WX_store_row G rfl rfl rfl rfl rfl (fill_get (by omega)) rfl rfl rfl rfl rfl (Nat.le_of_ble_eq_true rfl) rfl ?_
      refine WL_nil (hK7 _ ?_)
      clear hK7 K7
      refine W_region (WL_cons rfl (WX_q rfl rfl (q_move rfl rfl) (WL_cons rfl (?_))))
      first | refine WX_q rfl rfl (q_arith rfl rfl rfl rfl (by omega) (by omega)) ?_ | refine WX_q rfl rfl (q_wrap rfl rfl rfl rfl) ?_
      refine WL_cons rfl (WX_q rfl rfl (q_assign rfl rfl) (?_))
      refine WL_nil ⟨(i + 1), ?_, ?_, ⟨⟨_, rfl, by rfl⟩, rfl, trivial⟩, ⟨⟨_, rfl, by (rw [← fill_set (by omega)]; rfl)⟩, rfl, rfl, trivial⟩, rfl, rfl, rfl⟩
      · omega
      · omega
    · try rw [h1]
      try simp only [rfb] at h1
      refine W_exit (hK3 _ ?_)
      clear hK5 K5 hK3 K3
      refine W_seq (fun K8 hK8 => ?_)
      refine W_region (WL_cons rfl (WX_q rfl rfl (q_move rfl rfl) (WL_cons rfl (WX_q rfl rfl (q_assign rfl rfl) (?_)))))
      refine WL_nil (hK8 _ ?_)
      clear hK8 K8
      refine W_ret (fin_one rfl (rc_own rfl ?_))
      all_goals (exact fill_end (by omega) (by omega))

theorem c_laws_toIntS (xs : List Int) (hn : xs.length ≤ 1048576) : Ctr Tryz.prog 77 [.lst 1 (xs.map Rf.encI)] (.one (.fr 3 1 (xs.map Rf.encI))) := by
  refine Ctr.of (n := 22) G Tryz.func77 rfl (by kernel_rfl) rfl rfl rfl (fun w0 => ?_)
  refine W_seq (fun K1 hK1 => ?_)
  refine W_region (WL_cons rfl (WX_q rfl rfl (q_assign rfl rfl) (?_)))
  refine WL_nil (hK1 _ ?_)
  clear hK1 K1
  refine W_seq (fun K2 hK2 => ?_)
  refine W_region (WL_cons rfl (WX_q rfl rfl (q_move rfl rfl) (WL_cons rfl (?_))))
  first | refine WX_q rfl rfl (q_len' G rfl rfl rfl rfl (List.length_map _)) ?_ | refine WX_q rfl rfl (q_len G rfl rfl rfl rfl) ?_
  refine WL_cons rfl (?_)
  refine WX_make (n := xs.length) G 1 rfl rfl rfl rfl rfl rfl rfl (by first | rfl | simp) (by first | rfl | simp) (by omega) (by omega) ?_
  refine WL_cons rfl (WX_q rfl rfl (q_assign rfl rfl) (?_))
  refine WL_nil (hK2 _ ?_)
  clear hK2 K2
  refine W_seq (fun K3 hK3 => ?_)
  refine W_seq (fun K4 hK4 => ?_)
  refine W_region (WL_cons rfl (WX_q rfl rfl (q_assign rfl rfl) (?_)))
  refine WL_nil (hK4 _ ?_)
  clear hK4 K4
  refine W_block ?_
  refine W_loopK [0, 3] [] (fun (i : Nat) => [(4, .v (.int .i64 (i : Int)))]) (fun (i : Nat) => [(0, some (.row 3 1 (fill Rf.encI (Rf.encI 0) xs i)))]) (fun (i : Nat) => i ≤ xs.length) (fun (i : Nat) => xs.length - i) 0 rfl rfl ?_ ?_ ?_ ?_
  · exact Nat.zero_le _
  · exact ⟨⟨_, rfl, by (first | rfl | (simp; done) | (simp; omega))⟩, rfl, trivial⟩
  · exact ⟨⟨_, rfl, by (rw [fill_zero]; rfl)⟩, rfl, rfl, trivial⟩
  · intro i hinv
    simp only [List.cons_append, List.nil_append]
    refine W_seq (fun K5 hK5 => ?_)
    refine W_seq (fun K6 hK6 => ?_)
    refine W_region (WL_cons rfl (WX_q rfl rfl (q_move rfl rfl) (WL_cons rfl (WX_q rfl rfl (q_move rfl rfl) (WL_cons rfl (?_))))))
    first | refine WX_q rfl rfl (q_len' G rfl rfl rfl rfl (List.length_map _)) ?_ | refine WX_q rfl rfl (q_len G rfl rfl rfl rfl) ?_
    refine WL_cons rfl (WX_q rfl rfl (q_cmp rfl rfl rfl rfl) (?_))
    refine WL_nil (hK6 _ ?_)
    clear hK6 K6
    refine W_cond rfl (fun h1 => ?_) (fun h1 => ?_)
    · try rw [h1]
      try simp only [rfb] at h1
      refine W_skip (hK5 _ ?_)
      clear hK5 K5
      refine W_seq (fun K7 hK7 => ?_)
      refine W_block ?_
      refine W_region (WL_cons rfl (WX_q rfl rfl (q_move rfl rfl) (WL_cons rfl (WX_q rfl rfl (q_move rfl rfl) (WL_cons rfl (WX_q rfl rfl (q_move rfl rfl) (WL_cons rfl (WX_q rfl rfl (q_move rfl rfl) (WL_cons rfl (?_))))))))))
      refine WX_q rfl rfl (q_index_lst G rfl rfl rfl rfl (by omega) (getN (by omega))) ?_
      refine WL_cons rfl (WX_q rfl rfl (q_load_ept G rfl rfl rfl rfl rfl) (WL_cons rfl (?_)))
      refine WX_q rfl rfl (q_index_own G rfl rfl rfl rfl rfl (by omega) (by rw [fill_len (by omega)]; omega)) ?_
      refine WL_cons rfl (?_)
      refine WX_store_row G rfl rfl rfl rfl rfl (fill_get (by omega)) rfl rfl rfl rfl rfl (Nat.le_of_ble_eq_true rfl) rfl ?_
      refine WL_nil (hK7 _ ?_)
      clear hK7 K7
      refine W_region (WL_cons rfl (WX_q rfl rfl (q_move rfl rfl) (WL_cons rfl (?_))))
      first | refine WX_q rfl rfl (q_arith rfl rfl rfl rfl (by omega) (by omega)) ?_ | refine WX_q rfl rfl (q_wrap rfl rfl rfl rfl) ?_
      refine WL_cons rfl (WX_q rfl rfl (q_assign rfl rfl) (?_))
      refine WL_nil ⟨(i + 1), ?_, ?_, ⟨⟨_, rfl, by rfl⟩, rfl, trivial⟩, ⟨⟨_, rfl, by (rw [← fill_set (by omega)]; rfl)⟩, rfl, rfl, trivial⟩, rfl, rfl, rfl⟩
      · omega
      · omega
    · try rw [h1]
      try simp only [rfb] at h1
      refine W_exit (hK3 _ ?_)
      clear hK5 K5 hK3 K3
      refine W_seq (fun K8 hK8 => ?_)
      refine W_region (WL_cons rfl (WX_q rfl rfl (q_move rfl rfl) (WL_cons rfl (WX_q rfl rfl (q_assign rfl rfl) (?_)))))
      refine WL_nil (hK8 _ ?_)
      clear hK8 K8
      refine W_ret (fin_one rfl (rc_own rfl ?_))
      all_goals (exact fill_end (by omega) (by omega))

end Go.Proofs.YtcnodpipinlpcaaGreat

/- Walks through functions of the program, one contract each (written by gen.py). -/
set_option maxRecDepth 20000
set_option linter.unusedVariables false
set_option linter.unusedSimpArgs false
namespace Go.Proofs.YtcnodpipinlpcaaGreat
open Go Go.Rf

theorem c_laws_eqRoute (x y : Route) : Ctr Tryz.prog 85 [.v (encRt x), .v (encRt y)] (.one (.v (.bool (eqRt x y)))) := by
  refine Ctr.of (n := 15) G Tryz.func85 rfl (by kernel_rfl) rfl rfl rfl (fun w0 => ?_)
  refine W_seq (fun K1 hK1 => ?_)
  refine W_region (WL_cons rfl (WX_box 1 rfl rfl rfl rfl rfl rfl rfl (WL_cons rfl (WX_box 2 rfl rfl rfl rfl rfl rfl rfl (WL_cons rfl (WX_q rfl rfl (q_assign rfl rfl) (?_)))))))
  refine WL_nil (hK1 _ ?_)
  clear hK1 K1
  refine W_seq (fun K2 hK2 => ?_)
  refine W_seq (fun K3 hK3 => ?_)
  refine W_region (WL_cons rfl (WX_q rfl rfl (q_field_ptr G rfl rfl rfl rfl) (WL_cons rfl (WX_q rfl rfl (q_load_box G rfl rfl rfl rfl rfl rfl rfl) (WL_cons rfl (WX_q rfl rfl (q_field_ptr G rfl rfl rfl rfl) (WL_cons rfl (WX_q rfl rfl (q_load_box G rfl rfl rfl rfl rfl rfl rfl) (WL_cons rfl (WX_q rfl rfl (q_cmp rfl rfl rfl rfl) (?_)))))))))))
  refine WL_nil (hK3 _ ?_)
  clear hK3 K3
  refine W_cond rfl (fun h1 => ?_) (fun h1 => ?_)
  · try rw [h1]
    try simp only [rfb] at h1
    refine W_seq (fun K4 hK4 => ?_)
    refine W_region (WL_cons rfl (WX_q rfl rfl (q_assign rfl rfl) (?_)))
    refine WL_nil (hK4 _ ?_)
    clear hK4 K4
    refine W_ret (fin_one rfl (rc_v ?_))
    all_goals clear hK2 K2
    all_goals (first | rfl | (simp_all [eqRt]; done) | (simp_all [eqRt]; omega))
  · try rw [h1]
    try simp only [rfb] at h1
    refine W_skip (hK2 _ ?_)
    clear hK2 K2
    refine W_seq (fun K5 hK5 => ?_)
    refine W_seq (fun K6 hK6 => ?_)
    refine W_region (WL_cons rfl (WX_q rfl rfl (q_field_ptr G rfl rfl rfl rfl) (WL_cons rfl (WX_q rfl rfl (q_load_box G rfl rfl rfl rfl rfl rfl rfl) (WL_cons rfl (WX_q rfl rfl (q_field_ptr G rfl rfl rfl rfl) (WL_cons rfl (WX_q rfl rfl (q_load_box G rfl rfl rfl rfl rfl rfl rfl) (WL_cons rfl (WX_q rfl rfl (q_cmp rfl rfl rfl rfl) (?_)))))))))))
    refine WL_nil (hK6 _ ?_)
    clear hK6 K6
    refine W_cond rfl (fun h2 => ?_) (fun h2 => ?_)
    · try rw [h2]
      try simp only [rfb] at h2
      refine W_seq (fun K7 hK7 => ?_)
      refine W_region (WL_cons rfl (WX_q rfl rfl (q_assign rfl rfl) (?_)))
      refine WL_nil (hK7 _ ?_)
      clear hK7 K7
      refine W_ret (fin_one rfl (rc_v ?_))
      all_goals clear hK5 K5
      all_goals (first | rfl | (simp_all [eqRt]; done) | (simp_all [eqRt]; omega))
    · try rw [h2]
      try simp only [rfb] at h2
      refine W_skip (hK5 _ ?_)
      clear hK5 K5
      refine W_seq (fun K8 hK8 => ?_)
      refine W_region (WL_cons rfl (WX_q rfl rfl (q_assign rfl rfl) (?_)))
      refine WL_nil (hK8 _ ?_)
      clear hK8 K8
      refine W_ret (fin_one rfl (rc_v ?_))
      all_goals (first | rfl | (simp_all [eqRt]; done) | (simp_all [eqRt]; omega))

theorem c_laws_eqRouteS (xs ys : List Route) (hn : xs.length ≤ 9223372036854775807) : Ctr Tryz.prog 27 [.lst 2 (xs.map encRo), .lst 2 (ys.map encRo)] (.one (.v (.bool (decide (xs = ys))))) := by
  refine Ctr.of (n := 27) G Tryz.func27 rfl (by kernel_rfl) rfl rfl rfl (fun w0 => ?_)
  refine W_seq (fun K1 hK1 => ?_)
  refine W_region (WL_cons rfl (WX_q rfl rfl (q_assign rfl rfl) (?_)))
  refine WL_nil (hK1 _ ?_)
  clear hK1 K1
  refine W_seq (fun K2 hK2 => ?_)
  refine W_seq (fun K3 hK3 => ?_)
  refine W_region (WL_cons rfl (WX_q rfl rfl (q_move rfl rfl) (WL_cons rfl (?_))))
  first | refine WX_q rfl rfl (q_len' G rfl rfl rfl rfl (List.length_map _)) ?_ | refine WX_q rfl rfl (q_len G rfl rfl rfl rfl) ?_
  refine WL_cons rfl (WX_q rfl rfl (q_move rfl rfl) (WL_cons rfl (?_)))
  first | refine WX_q rfl rfl (q_len' G rfl rfl rfl rfl (List.length_map _)) ?_ | refine WX_q rfl rfl (q_len G rfl rfl rfl rfl) ?_
  refine WL_cons rfl (WX_q rfl rfl (q_cmp rfl rfl rfl rfl) (?_))
  refine WL_nil (hK3 _ ?_)
  clear hK3 K3
  refine W_cond rfl (fun h1 => ?_) (fun h1 => ?_)
  · try rw [h1]
    try simp only [rfb] at h1
    refine W_seq (fun K4 hK4 => ?_)
    refine W_region (WL_cons rfl (WX_q rfl rfl (q_assign rfl rfl) (?_)))
    refine WL_nil (hK4 _ ?_)
    clear hK4 K4
    refine W_ret (fin_one rfl (rc_v ?_))
    all_goals clear hK2 K2
    all_goals (first | (have e : xs ≠ ys := fun e => (by (subst e; simp_all [eqRt]; done)); simp [e]; done) | (have e : xs = ys := eq_true_of (by omega) hinv.2 (by omega); simp [e]; done) | (have e : xs ≠ ys := eq_false_of (i := i) (fun e => (by simp_all [eqRt])); simp [e]; done))
  · try rw [h1]
    try simp only [rfb] at h1
    refine W_skip (hK2 _ ?_)
    clear hK2 K2
    refine W_seq (fun K5 hK5 => ?_)
    refine W_seq (fun K6 hK6 => ?_)
    refine W_region (WL_cons rfl (WX_q rfl rfl (q_assign rfl rfl) (?_)))
    refine WL_nil (hK6 _ ?_)
    clear hK6 K6
    refine W_block ?_
    refine W_loopK [0, 1] [] (fun (i : Nat) => [(5, .v (.int .i64 (i : Int)))]) (fun (i : Nat) => []) (fun (i : Nat) => i ≤ xs.length ∧ ∀ j, j < i → xs.getD j default = ys.getD j default) (fun (i : Nat) => xs.length - i) 0 rfl rfl ?_ ?_ ?_ ?_
    · exact ⟨Nat.zero_le _, fun j hj => by omega⟩
    · exact ⟨⟨_, rfl, by (first | rfl | (simp; done) | (simp; omega))⟩, rfl, trivial⟩
    · exact trivial
    · intro i hinv
      simp only [List.cons_append, List.nil_append]
      refine W_seq (fun K7 hK7 => ?_)
      refine W_seq (fun K8 hK8 => ?_)
      refine W_region (WL_cons rfl (WX_q rfl rfl (q_move rfl rfl) (WL_cons rfl (WX_q rfl rfl (q_move rfl rfl) (WL_cons rfl (?_))))))
      first | refine WX_q rfl rfl (q_len' G rfl rfl rfl rfl (List.length_map _)) ?_ | refine WX_q rfl rfl (q_len G rfl rfl rfl rfl) ?_
      refine WL_cons rfl (WX_q rfl rfl (q_cmp rfl rfl rfl rfl) (?_))
      refine WL_nil (hK8 _ ?_)
      clear hK8 K8
      refine W_cond rfl (fun h2 => ?_) (fun h2 => ?_)
      · try rw [h2]
        try simp only [rfb] at h2
        refine W_skip (hK7 _ ?_)
        clear hK7 K7
        refine W_seq (fun K9 hK9 => ?_)
        refine W_block ?_
        refine W_seq (fun K10 hK10 => ?_)
        refine W_draws mixed (by kernel_rfl) (QL_cons rfl (QX_q rfl rfl (q_move rfl rfl) (QL_cons rfl (QX_q rfl rfl (q_move rfl rfl) (QL_cons rfl (?_))))))
        refine QX_q rfl rfl (q_index_lst G rfl rfl rfl rfl (by omega) (getN (by omega))) ?_
        refine QL_cons rfl (QX_q rfl rfl (q_load_ept_struct G rfl rfl rfl rfl) (QL_cons rfl (QX_q rfl rfl (q_move rfl rfl) (QL_cons rfl (QX_q rfl rfl (q_move rfl rfl) (QL_cons rfl (?_)))))))
        refine QX_q rfl rfl (q_index_lst G rfl rfl rfl rfl (by omega) (getN (by omega))) ?_
        refine QL_cons rfl (QX_q rfl rfl (q_load_ept_struct G rfl rfl rfl rfl) (QL_cons rfl (?_)))
        refine QX_q rfl rfl (q_call rfl (ArgsOK.of rfl) (c_laws_eqRoute _ _) rfl) ?_
        refine QL_cons rfl (QX_q rfl rfl (q_not rfl rfl) (?_))
        refine QL_nil (hK10 _ ?_)
        clear hK10 K10
        refine W_cond rfl (fun h3 => ?_) (fun h3 => ?_)
        · try rw [h3]
          try simp only [rfb] at h3
          refine W_seq (fun K11 hK11 => ?_)
          refine W_region (WL_cons rfl (WX_q rfl rfl (q_assign rfl rfl) (?_)))
          refine WL_nil (hK11 _ ?_)
          clear hK11 K11
          refine W_ret (fin_one rfl (rc_v ?_))
          all_goals clear hK9 K9 hK5 K5
          all_goals (first | (have e : xs ≠ ys := fun e => (by (subst e; simp_all [eqRt]; done)); simp [e]; done) | (have e : xs = ys := eq_true_of (by omega) hinv.2 (by omega); simp [e]; done) | (have e : xs ≠ ys := eq_false_of (i := i) (fun e => (by simp_all [eqRt])); simp [e]; done))
        · try rw [h3]
          try simp only [rfb] at h3
          refine W_skip (hK9 _ ?_)
          clear hK9 K9
          refine W_region (WL_cons rfl (WX_q rfl rfl (q_move rfl rfl) (WL_cons rfl (?_))))
          first | refine WX_q rfl rfl (q_arith rfl rfl rfl rfl (by omega) (by omega)) ?_ | refine WX_q rfl rfl (q_wrap rfl rfl rfl rfl) ?_
          refine WL_cons rfl (WX_q rfl rfl (q_assign rfl rfl) (?_))
          refine WL_nil ⟨(i + 1), ?_, ?_, ⟨⟨_, rfl, by rfl⟩, rfl, trivial⟩, trivial, rfl, rfl, rfl⟩
          · exact ⟨by omega, upto_succ hinv.2 (by first | exact eqRt_iff.mp (by assumption) | exact eqRt_iff.mp (by simp_all))⟩
          · omega
      · try rw [h2]
        try simp only [rfb] at h2
        refine W_exit (hK5 _ ?_)
        clear hK7 K7 hK5 K5
        refine W_seq (fun K12 hK12 => ?_)
        refine W_region (WL_cons rfl (WX_q rfl rfl (q_assign rfl rfl) (?_)))
        refine WL_nil (hK12 _ ?_)
        clear hK12 K12
        refine W_ret (fin_one rfl (rc_v ?_))
        all_goals (first | (have e : xs ≠ ys := fun e => (by (subst e; simp_all [eqRt]; done)); simp [e]; done) | (have e : xs = ys := eq_true_of (by omega) hinv.2 (by omega); simp [e]; done) | (have e : xs ≠ ys := eq_false_of (i := i) (fun e => (by simp_all [eqRt])); simp [e]; done))

theorem c_laws_eqBoolS (xs ys : List Bool) (hn : xs.length ≤ 9223372036854775807) : Ctr Tryz.prog 83 [.lst 1 (xs.map encO), .lst 1 (ys.map encO)] (.one (.v (.bool (decide (xs = ys))))) := by
  refine Ctr.of (n := 26) G Tryz.func83 rfl (by kernel_rfl) rfl rfl rfl (fun w0 => ?_)
  refine W_seq (fun K1 hK1 => ?_)
  refine W_region (WL_cons rfl (WX_q rfl rfl (q_assign rfl rfl) (?_)))
  refine WL_nil (hK1 _ ?_)
  clear hK1 K1
  refine W_seq (fun K2 hK2 => ?_)
  refine W_seq (fun K3 hK3 => ?_)
  refine W_region (WL_cons rfl (WX_q rfl rfl (q_move rfl rfl) (WL_cons rfl (?_))))
  first | refine WX_q rfl rfl (q_len' G rfl rfl rfl rfl (List.length_map _)) ?_ | refine WX_q rfl rfl (q_len G rfl rfl rfl rfl) ?_
  refine WL_cons rfl (WX_q rfl rfl (q_move rfl rfl) (WL_cons rfl (?_)))
  first | refine WX_q rfl rfl (q_len' G rfl rfl rfl rfl (List.length_map _)) ?_ | refine WX_q rfl rfl (q_len G rfl rfl rfl rfl) ?_
  refine WL_cons rfl (WX_q rfl rfl (q_cmp rfl rfl rfl rfl) (?_))
  refine WL_nil (hK3 _ ?_)
  clear hK3 K3
  refine W_cond rfl (fun h1 => ?_) (fun h1 => ?_)
  · try rw [h1]
    try simp only [rfb] at h1
    refine W_seq (fun K4 hK4 => ?_)
    refine W_region (WL_cons rfl (WX_q rfl rfl (q_assign rfl rfl) (?_)))
    refine WL_nil (hK4 _ ?_)
    clear hK4 K4
    refine W_ret (fin_one rfl (rc_v ?_))
    all_goals clear hK2 K2
    all_goals (first | (have e : xs ≠ ys := fun e => (by (subst e; simp_all; done)); simp [e]; done) | (have e : xs = ys := eq_true_of (by omega) hinv.2 (by omega); simp [e]; done) | (have e : xs ≠ ys := eq_false_of (i := i) (fun e => (by simp_all)); simp [e]; done))
  · try rw [h1]
    try simp only [rfb] at h1
    refine W_skip (hK2 _ ?_)
    clear hK2 K2
    refine W_seq (fun K5 hK5 => ?_)
    refine W_seq (fun K6 hK6 => ?_)
    refine W_region (WL_cons rfl (WX_q rfl rfl (q_assign rfl rfl) (?_)))
    refine WL_nil (hK6 _ ?_)
    clear hK6 K6
    refine W_block ?_
    refine W_loopK [0, 1] [] (fun (i : Nat) => [(5, .v (.int .i64 (i : Int)))]) (fun (i : Nat) => []) (fun (i : Nat) => i ≤ xs.length ∧ ∀ j, j < i → xs.getD j default = ys.getD j default) (fun (i : Nat) => xs.length - i) 0 rfl rfl ?_ ?_ ?_ ?_
    · exact ⟨Nat.zero_le _, fun j hj => by omega⟩
    · exact ⟨⟨_, rfl, by (first | rfl | (simp; done) | (simp; omega))⟩, rfl, trivial⟩
    · exact trivial
    · intro i hinv
      simp only [List.cons_append, List.nil_append]
      refine W_seq (fun K7 hK7 => ?_)
      refine W_seq (fun K8 hK8 => ?_)
      refine W_region (WL_cons rfl (WX_q rfl rfl (q_move rfl rfl) (WL_cons rfl (WX_q rfl rfl (q_move rfl rfl) (WL_cons rfl (?_))))))
      first | refine WX_q rfl rfl (q_len' G rfl rfl rfl rfl (List.length_map _)) ?_ | refine WX_q rfl rfl (q_len G rfl rfl rfl rfl) ?_
      refine WL_cons rfl (WX_q rfl rfl (q_cmp rfl rfl rfl rfl) (?_))
      refine WL_nil (hK8 _ ?_)
      clear hK8 K8
      refine W_cond rfl (fun h2 => ?_) (fun h2 => ?_)
      · try rw [h2]
        try simp only [rfb] at h2
        refine W_skip (hK7 _ ?_)
        clear hK7 K7
        refine W_seq (fun K9 hK9 => ?_)
        refine W_block ?_
        refine W_seq (fun K10 hK10 => ?_)
        refine W_draws mixed (by kernel_rfl) (QL_cons rfl (QX_q rfl rfl (q_move rfl rfl) (QL_cons rfl (QX_q rfl rfl (q_move rfl rfl) (QL_cons rfl (?_))))))
        refine QX_q rfl rfl (q_index_lst G rfl rfl rfl rfl (by omega) (getN (by omega))) ?_
        refine QL_cons rfl (QX_q rfl rfl (q_load_ept G rfl rfl rfl rfl rfl) (QL_cons rfl (QX_q rfl rfl (q_move rfl rfl) (QL_cons rfl (QX_q rfl rfl (q_move rfl rfl) (QL_cons rfl (?_)))))))
        refine QX_q rfl rfl (q_index_lst G rfl rfl rfl rfl (by omega) (getN (by omega))) ?_
        refine QL_cons rfl (QX_q rfl rfl (q_load_ept G rfl rfl rfl rfl rfl) (QL_cons rfl (QX_q rfl rfl (q_bne (G 4 _ rfl).1 rfl rfl rfl) (?_))))
        refine QL_nil (hK10 _ ?_)
        clear hK10 K10
        refine W_cond rfl (fun h3 => ?_) (fun h3 => ?_)
        · try rw [h3]
          try simp only [rfb] at h3
          refine W_seq (fun K11 hK11 => ?_)
          refine W_region (WL_cons rfl (WX_q rfl rfl (q_assign rfl rfl) (?_)))
          refine WL_nil (hK11 _ ?_)
          clear hK11 K11
          refine W_ret (fin_one rfl (rc_v ?_))
          all_goals clear hK9 K9 hK5 K5
          all_goals (first | (have e : xs ≠ ys := fun e => (by (subst e; simp_all; done)); simp [e]; done) | (have e : xs = ys := eq_true_of (by omega) hinv.2 (by omega); simp [e]; done) | (have e : xs ≠ ys := eq_false_of (i := i) (fun e => (by simp_all)); simp [e]; done))
        · try rw [h3]
          try simp only [rfb] at h3
          refine W_skip (hK9 _ ?_)
          clear hK9 K9
          refine W_region (WL_cons rfl (WX_q rfl rfl (q_move rfl rfl) (WL_cons rfl (?_))))
          first | refine WX_q rfl rfl (q_arith rfl rfl rfl rfl (by omega) (by omega)) ?_ | refine WX_q rfl rfl (q_wrap rfl rfl rfl rfl) ?_
          refine WL_cons rfl (WX_q rfl rfl (q_assign rfl rfl) (?_))
          refine WL_nil ⟨(i + 1), ?_, ?_, ⟨⟨_, rfl, by rfl⟩, rfl, trivial⟩, trivial, rfl, rfl, rfl⟩
          · exact ⟨by omega, upto_succ hinv.2 (by assumption)⟩
          · omega
      · try rw [h2]
        try simp only [rfb] at h2
        refine W_exit (hK5 _ ?_)
        clear hK7 K7 hK5 K5
        refine W_seq (fun K12 hK12 => ?_)
        refine W_region (WL_cons rfl (WX_q rfl rfl (q_assign rfl rfl) (?_)))
        refine WL_nil (hK12 _ ?_)
        clear hK12 K12
        refine W_ret (fin_one rfl (rc_v ?_))
        all_goals (first | (have e : xs ≠ ys := fun e => (by (subst e; simp_all; done)); simp [e]; done) | (have e : xs = ys := eq_true_of (by omega) hinv.2 (by omega); simp [e]; done) | (have e : xs ≠ ys := eq_false_of (i := i) (fun e => (by simp_all)); simp [e]; done))

theorem c_laws_eqIntS (xs ys : List Int) (hn : xs.length ≤ 9223372036854775807) : Ctr Tryz.prog 86 [.lst 1 (xs.map Rf.encI), .lst 1 (ys.map Rf.encI)] (.one (.v (.bool (decide (xs = ys))))) := by
  refine Ctr.of (n := 26) G Tryz.func86 rfl (by kernel_rfl) rfl rfl rfl (fun w0 => ?_)
  refine W_seq (fun K1 hK1 => ?_)
  refine W_region (WL_cons rfl (WX_q rfl rfl (q_assign rfl rfl) (?_)))
  refine WL_nil (hK1 _ ?_)
  clear hK1 K1
  refine W_seq (fun K2 hK2 => ?_)
  refine W_seq (fun K3 hK3 => ?_)
  refine W_region (WL_cons rfl (WX_q rfl rfl (q_move rfl rfl) (WL_cons rfl (?_))))
  first | refine WX_q rfl rfl (q_len' G rfl rfl rfl rfl (List.length_map _)) ?_ | refine WX_q rfl rfl (q_len G rfl rfl rfl rfl) ?_
  refine WL_cons rfl (WX_q rfl rfl (q_move rfl rfl) (WL_cons rfl (?_)))
  first | refine WX_q rfl rfl (q_len' G rfl rfl rfl rfl (List.length_map _)) ?_ | refine WX_q rfl rfl (q_len G rfl rfl rfl rfl) ?_
  refine WL_cons rfl (WX_q rfl rfl (q_cmp rfl rfl rfl rfl) (?_))
  refine WL_nil (hK3 _ ?_)
  clear hK3 K3
  refine W_cond rfl (fun h1 => ?_) (fun h1 => ?_)
  · try rw [h1]
    try simp only [rfb] at h1
    refine W_seq (fun K4 hK4 => ?_)
    refine W_region (WL_cons rfl (WX_q rfl rfl (q_assign rfl rfl) (?_)))
    refine WL_nil (hK4 _ ?_)
    clear hK4 K4
    refine W_ret (fin_one rfl (rc_v ?_))
    all_goals clear hK2 K2
    all_goals (first | (have e : xs ≠ ys := fun e => (by (subst e; simp_all; done)); simp [e]; done) | (have e : xs = ys := eq_true_of (by omega) hinv.2 (by omega); simp [e]; done) | (have e : xs ≠ ys := eq_false_of (i := i) (fun e => (by simp_all)); simp [e]; done))
  · try rw [h1]
    try simp only [rfb] at h1
    refine W_skip (hK2 _ ?_)
    clear hK2 K2
    refine W_seq (fun K5 hK5 => ?_)
    refine W_seq (fun K6 hK6 => ?_)
    refine W_region (WL_cons rfl (WX_q rfl rfl (q_assign rfl rfl) (?_)))
    refine WL_nil (hK6 _ ?_)
    clear hK6 K6
    refine W_block ?_
    refine W_loopK [0, 1] [] (fun (i : Nat) => [(5, .v (.int .i64 (i : Int)))]) (fun (i : Nat) => []) (fun (i : Nat) => i ≤ xs.length ∧ ∀ j, j < i → xs.getD j default = ys.getD j default) (fun (i : Nat) => xs.length - i) 0 rfl rfl ?_ ?_ ?_ ?_
    · exact ⟨Nat.zero_le _, fun j hj => by omega⟩
    · exact ⟨⟨_, rfl, by (first | rfl | (simp; done) | (simp; omega))⟩, rfl, trivial⟩
    · exact trivial
    · intro i hinv
      simp only [List.cons_append, List.nil_append]
      refine W_seq (fun K7 hK7 => ?_)
      refine W_seq (fun K8 hK8 => ?_)
      refine W_region (WL_cons rfl (WX_q rfl rfl (q_move rfl rfl) (WL_cons rfl (WX_q rfl rfl (q_move rfl rfl) (WL_cons rfl (?_))))))
      first | refine WX_q rfl rfl (q_len' G rfl rfl rfl rfl (List.length_map _)) ?_ | refine WX_q rfl rfl (q_len G rfl rfl rfl rfl) ?_
      refine WL_cons rfl (WX_q rfl rfl (q_cmp rfl rfl rfl rfl) (?_))
      refine WL_nil (hK8 _ ?_)
      clear hK8 K8
      refine W_cond rfl (fun h2 => ?_) (fun h2 => ?_)
      · try rw [h2]
        try simp only [rfb] at h2
        refine W_skip (hK7 _ ?_)
        clear hK7 K7
        refine W_seq (fun K9 hK9 => ?_)
        refine W_block ?_
        refine W_seq (fun K10 hK10 => ?_)
        refine W_draws mixed (by kernel_rfl) (QL_cons rfl (QX_q rfl rfl (q_move rfl rfl) (QL_cons rfl (QX_q rfl rfl (q_move rfl rfl) (QL_cons rfl (?_))))))
        refine QX_q rfl rfl (q_index_lst G rfl rfl rfl rfl (by omega) (getN (by omega))) ?_
        refine QL_cons rfl (QX_q rfl rfl (q_load_ept G rfl rfl rfl rfl rfl) (QL_cons rfl (QX_q rfl rfl (q_move rfl rfl) (QL_cons rfl (QX_q rfl rfl (q_move rfl rfl) (QL_cons rfl (?_)))))))
        refine QX_q rfl rfl (q_index_lst G rfl rfl rfl rfl (by omega) (getN (by omega))) ?_
        refine QL_cons rfl (QX_q rfl rfl (q_load_ept G rfl rfl rfl rfl rfl) (QL_cons rfl (QX_q rfl rfl (q_cmp rfl rfl rfl rfl) (?_))))
        refine QL_nil (hK10 _ ?_)
        clear hK10 K10
        refine W_cond rfl (fun h3 => ?_) (fun h3 => ?_)
        · try rw [h3]
          try simp only [rfb] at h3
          refine W_seq (fun K11 hK11 => ?_)
          refine W_region (WL_cons rfl (WX_q rfl rfl (q_assign rfl rfl) (?_)))
          refine WL_nil (hK11 _ ?_)
          clear hK11 K11
          refine W_ret (fin_one rfl (rc_v ?_))
          all_goals clear hK9 K9 hK5 K5
          all_goals (first | (have e : xs ≠ ys := fun e => (by (subst e; simp_all; done)); simp [e]; done) | (have e : xs = ys := eq_true_of (by omega) hinv.2 (by omega); simp [e]; done) | (have e : xs ≠ ys := eq_false_of (i := i) (fun e => (by simp_all)); simp [e]; done))
        · try rw [h3]
          try simp only [rfb] at h3
          refine W_skip (hK9 _ ?_)
          clear hK9 K9
          refine W_region (WL_cons rfl (WX_q rfl rfl (q_move rfl rfl) (WL_cons rfl (?_))))
          first | refine WX_q rfl rfl (q_arith rfl rfl rfl rfl (by omega) (by omega)) ?_ | refine WX_q rfl rfl (q_wrap rfl rfl rfl rfl) ?_
          refine WL_cons rfl (WX_q rfl rfl (q_assign rfl rfl) (?_))
          refine WL_nil ⟨(i + 1), ?_, ?_, ⟨⟨_, rfl, by rfl⟩, rfl, trivial⟩, trivial, rfl, rfl, rfl⟩
          · exact ⟨by omega, upto_succ hinv.2 (by assumption)⟩
          · omega
      · try rw [h2]
        try simp only [rfb] at h2
        refine W_exit (hK5 _ ?_)
        clear hK7 K7 hK5 K5
        refine W_seq (fun K12 hK12 => ?_)
        refine W_region (WL_cons rfl (WX_q rfl rfl (q_assign rfl rfl) (?_)))
        refine WL_nil (hK12 _ ?_)
        clear hK12 K12
        refine W_ret (fin_one rfl (rc_v ?_))
        all_goals (first | (have e : xs ≠ ys := fun e => (by (subst e; simp_all; done)); simp [e]; done) | (have e : xs = ys := eq_true_of (by omega) hinv.2 (by omega); simp [e]; done) | (have e : xs ≠ ys := eq_false_of (i := i) (fun e => (by simp_all)); simp [e]; done))

theorem c_laws_eqIntSS (xs ys : List (List Int)) (hn : xs.length ≤ 9223372036854775807) (hz : ∀ i, i < xs.length → (xs.getD i default).length ≤ 9223372036854775807) : Ctr Tryz.prog 87 [.nst none 1 (xs.map encSt), .nst none 1 (ys.map encSt)] (.one (.v (.bool (decide (xs = ys))))) := by
  refine Ctr.of (n := 27) G Tryz.func87 rfl (by kernel_rfl) rfl rfl rfl (fun w0 => ?_)
  refine W_seq (fun K1 hK1 => ?_)
  refine W_region (WL_cons rfl (WX_q rfl rfl (q_assign rfl rfl) (?_)))
  refine WL_nil (hK1 _ ?_)
  clear hK1 K1
  refine W_seq (fun K2 hK2 => ?_)
  refine W_seq (fun K3 hK3 => ?_)
  refine W_region (WL_cons rfl (WX_q rfl rfl (q_move rfl rfl) (WL_cons rfl (?_))))
  first | refine WX_q rfl rfl (q_len' G rfl rfl rfl rfl (List.length_map _)) ?_ | refine WX_q rfl rfl (q_len G rfl rfl rfl rfl) ?_
  refine WL_cons rfl (WX_q rfl rfl (q_move rfl rfl) (WL_cons rfl (?_)))
  first | refine WX_q rfl rfl (q_len' G rfl rfl rfl rfl (List.length_map _)) ?_ | refine WX_q rfl rfl (q_len G rfl rfl rfl rfl) ?_
  refine WL_cons rfl (WX_q rfl rfl (q_cmp rfl rfl rfl rfl) (?_))
  refine WL_nil (hK3 _ ?_)
  clear hK3 K3
  refine W_cond rfl (fun h1 => ?_) (fun h1 => ?_)
  · try rw [h1]
    try simp only [rfb] at h1
    refine W_seq (fun K4 hK4 => ?_)
    refine W_region (WL_cons rfl (WX_q rfl rfl (q_assign rfl rfl) (?_)))
    refine WL_nil (hK4 _ ?_)
    clear hK4 K4
    refine W_ret (fin_one rfl (rc_v ?_))
    all_goals clear hK2 K2
    all_goals (first | (have e : xs ≠ ys := fun e => (by (subst e; simp_all; done)); simp [e]; done) | (have e : xs = ys := eq_true_of (by omega) hinv.2 (by omega); simp [e]; done) | (have e : xs ≠ ys := eq_false_of (i := i) (fun e => (by simp_all)); simp [e]; done))
  · try rw [h1]
    try simp only [rfb] at h1
    refine W_skip (hK2 _ ?_)
    clear hK2 K2
    refine W_seq (fun K5 hK5 => ?_)
    refine W_seq (fun K6 hK6 => ?_)
    refine W_region (WL_cons rfl (WX_q rfl rfl (q_assign rfl rfl) (?_)))
    refine WL_nil (hK6 _ ?_)
    clear hK6 K6
    refine W_block ?_
    refine W_loopK [0, 1] [] (fun (i : Nat) => [(5, .v (.int .i64 (i : Int)))]) (fun (i : Nat) => []) (fun (i : Nat) => i ≤ xs.length ∧ ∀ j, j < i → xs.getD j default = ys.getD j default) (fun (i : Nat) => xs.length - i) 0 rfl rfl ?_ ?_ ?_ ?_
    · exact ⟨Nat.zero_le _, fun j hj => by omega⟩
    · exact ⟨⟨_, rfl, by (first | rfl | (simp; done) | (simp; omega))⟩, rfl, trivial⟩
    · exact trivial
    · intro i hinv
      simp only [List.cons_append, List.nil_append]
      refine W_seq (fun K7 hK7 => ?_)
      refine W_seq (fun K8 hK8 => ?_)
      refine W_region (WL_cons rfl (WX_q rfl rfl (q_move rfl rfl) (WL_cons rfl (WX_q rfl rfl (q_move rfl rfl) (WL_cons rfl (?_))))))
      first | refine WX_q rfl rfl (q_len' G rfl rfl rfl rfl (List.length_map _)) ?_ | refine WX_q rfl rfl (q_len G rfl rfl rfl rfl) ?_
      refine WL_cons rfl (WX_q rfl rfl (q_cmp rfl rfl rfl rfl) (?_))
      refine WL_nil (hK8 _ ?_)
      clear hK8 K8
      refine W_cond rfl (fun h2 => ?_) (fun h2 => ?_)
      · try rw [h2]
        try simp only [rfb] at h2
        refine W_skip (hK7 _ ?_)
        clear hK7 K7
        refine W_seq (fun K9 hK9 => ?_)
        refine W_block ?_
        refine W_seq (fun K10 hK10 => ?_)
        refine W_draws mixed (by kernel_rfl) (QL_cons rfl (QX_q rfl rfl (q_move rfl rfl) (QL_cons rfl (QX_q rfl rfl (q_move rfl rfl) (QL_cons rfl (?_))))))
        refine QX_q rfl rfl (q_index_nst G rfl rfl rfl rfl (by omega) (getN (by omega)) rfl) ?_
        refine QL_cons rfl (QX_q rfl rfl (q_load_eptN G rfl rfl rfl rfl) (QL_cons rfl (QX_q rfl rfl (q_move rfl rfl) (QL_cons rfl (QX_q rfl rfl (q_move rfl rfl) (QL_cons rfl (?_)))))))
        refine QX_q rfl rfl (q_index_nst G rfl rfl rfl rfl (by omega) (getN (by omega)) rfl) ?_
        refine QL_cons rfl (QX_q rfl rfl (q_load_eptN G rfl rfl rfl rfl) (QL_cons rfl (?_)))
        refine QX_q rfl rfl (q_call rfl (ArgsOK.of rfl) (c_laws_eqIntS _ _ (hz i (by omega))) rfl) ?_
        refine QL_cons rfl (QX_q rfl rfl (q_not rfl rfl) (?_))
        refine QL_nil (hK10 _ ?_)
        clear hK10 K10
        refine W_cond rfl (fun h3 => ?_) (fun h3 => ?_)
        · try rw [h3]
          try simp only [rfb] at h3
          refine W_seq (fun K11 hK11 => ?_)
          refine W_region (WL_cons rfl (WX_q rfl rfl (q_assign rfl rfl) (?_)))
          refine WL_nil (hK11 _ ?_)
          clear hK11 K11
          refine W_ret (fin_one rfl (rc_v ?_))
          all_goals clear hK9 K9 hK5 K5
          all_goals (first | (have e : xs ≠ ys := fun e => (by (subst e; simp_all; done)); simp [e]; done) | (have e : xs = ys := eq_true_of (by omega) hinv.2 (by omega); simp [e]; done) | (have e : xs ≠ ys := eq_false_of (i := i) (fun e => (by simp_all)); simp [e]; done))
        · try rw [h3]
          try simp only [rfb] at h3
          refine W_skip (hK9 _ ?_)
          clear hK9 K9
          refine W_region (WL_cons rfl (WX_q rfl rfl (q_move rfl rfl) (WL_cons rfl (?_))))
          first | refine WX_q rfl rfl (q_arith rfl rfl rfl rfl (by omega) (by omega)) ?_ | refine WX_q rfl rfl (q_wrap rfl rfl rfl rfl) ?_
          refine WL_cons rfl (WX_q rfl rfl (q_assign rfl rfl) (?_))
          refine WL_nil ⟨(i + 1), ?_, ?_, ⟨⟨_, rfl, by rfl⟩, rfl, trivial⟩, trivial, rfl, rfl, rfl⟩
          · exact ⟨by omega, upto_succ hinv.2 (by first | assumption | (simp_all; done))⟩
          · omega
      · try rw [h2]
        try simp only [rfb] at h2
        refine W_exit (hK5 _ ?_)
        clear hK7 K7 hK5 K5
        refine W_seq (fun K12 hK12 => ?_)
        refine W_region (WL_cons rfl (WX_q rfl rfl (q_assign rfl rfl) (?_)))
        refine WL_nil (hK12 _ ?_)
        clear hK12 K12
        refine W_ret (fin_one rfl (rc_v ?_))
        all_goals (first | (have e : xs ≠ ys := fun e => (by (subst e; simp_all; done)); simp [e]; done) | (have e : xs = ys := eq_true_of (by omega) hinv.2 (by omega); simp [e]; done) | (have e : xs ≠ ys := eq_false_of (i := i) (fun e => (by simp_all)); simp [e]; done))

theorem c_laws_eqAbstract (x y : Abs) (hb : BigA x) : Ctr Tryz.prog 28 [.agg [.lst 1 (x.en.map encO), .lst 1 (x.ra.map encO), .lst 1 (x.po.map encO), .lst 1 (x.ma.map Rf.encI), .nst none 1 (x.st.map encSt)], .agg [.lst 1 (y.en.map encO), .lst 1 (y.ra.map encO), .lst 1 (y.po.map encO), .lst 1 (y.ma.map Rf.encI), .nst none 1 (y.st.map encSt)]] (.one (.v (.bool (eqAb x y)))) := by
  refine Ctr.of (n := 35) G Tryz.func28 rfl (by kernel_rfl) rfl rfl rfl (fun w0 => ?_)
  refine W_pinS 0 rfl (fun _ => rfl) (fun u0 => ?_)
  refine W_pinS 1 rfl (fun _ => rfl) (fun u1 => ?_)
  refine W_seq (fun K1 hK1 => ?_)
  refine W_region (WL_cons rfl (WX_box 1 rfl rfl rfl rfl rfl rfl rfl (WL_cons rfl (WX_box 2 rfl rfl rfl rfl rfl rfl rfl (WL_cons rfl (WX_q rfl rfl (q_assign rfl rfl) (?_)))))))
  refine WL_nil (hK1 _ ?_)
  clear hK1 K1
  refine W_seq (fun K2 hK2 => ?_)
  refine W_seq (fun K3 hK3 => ?_)
  refine W_region (WL_cons rfl (WX_q rfl rfl (q_field_ptr G rfl rfl rfl rfl) (WL_cons rfl (WX_q rfl rfl (q_lst (q_load_box G rfl rfl rfl rfl rfl rfl rfl)) (WL_cons rfl (WX_q rfl rfl (q_field_ptr G rfl rfl rfl rfl) (WL_cons rfl (WX_q rfl rfl (q_lst (q_load_box G rfl rfl rfl rfl rfl rfl rfl)) (WL_cons rfl (?_))))))))))
  refine WX_q rfl rfl (q_call rfl (ArgsOK.of rfl) (c_laws_eqBoolS x.en y.en hb.en) rfl) ?_
  refine WL_cons rfl (WX_q rfl rfl (q_not rfl rfl) (?_))
  refine WL_nil (hK3 _ ?_)
  clear hK3 K3
  refine W_cond rfl (fun h1 => ?_) (fun h1 => ?_)
  · try rw [h1]
    try simp only [rfb] at h1
    refine W_seq (fun K4 hK4 => ?_)
    refine W_region (WL_cons rfl (WX_q rfl rfl (q_assign rfl rfl) (?_)))
    refine WL_nil (hK4 _ ?_)
    clear hK4 K4
    refine W_ret (fin_one rfl (rc_v ?_))
    all_goals clear hK2 K2
    all_goals (first | rfl | (simp_all [eqAb]; done))
  · try rw [h1]
    try simp only [rfb] at h1
    refine W_skip (hK2 _ ?_)
    clear hK2 K2
    refine W_seq (fun K5 hK5 => ?_)
    refine W_seq (fun K6 hK6 => ?_)
    refine W_region (WL_cons rfl (WX_q rfl rfl (q_field_ptr G rfl rfl rfl rfl) (WL_cons rfl (WX_q rfl rfl (q_lst (q_load_box G rfl rfl rfl rfl rfl rfl rfl)) (WL_cons rfl (WX_q rfl rfl (q_field_ptr G rfl rfl rfl rfl) (WL_cons rfl (WX_q rfl rfl (q_lst (q_load_box G rfl rfl rfl rfl rfl rfl rfl)) (WL_cons rfl (?_))))))))))
    refine WX_q rfl rfl (q_call rfl (ArgsOK.of rfl) (c_laws_eqBoolS x.ra y.ra hb.ra) rfl) ?_
    refine WL_cons rfl (WX_q rfl rfl (q_not rfl rfl) (?_))
    refine WL_nil (hK6 _ ?_)
    clear hK6 K6
    refine W_cond rfl (fun h2 => ?_) (fun h2 => ?_)
    · try rw [h2]
      try simp only [rfb] at h2
      refine W_seq (fun K7 hK7 => ?_)
      refine W_region (WL_cons rfl (WX_q rfl rfl (q_assign rfl rfl) (?_)))
      refine WL_nil (hK7 _ ?_)
      clear hK7 K7
      refine W_ret (fin_one rfl (rc_v ?_))
      all_goals clear hK5 K5
      all_goals (first | rfl | (simp_all [eqAb]; done))
    · try rw [h2]
      try simp only [rfb] at h2
      refine W_skip (hK5 _ ?_)
      clear hK5 K5
      refine W_seq (fun K8 hK8 => ?_)
      refine W_seq (fun K9 hK9 => ?_)
      refine W_region (WL_cons rfl (WX_q rfl rfl (q_field_ptr G rfl rfl rfl rfl) (WL_cons rfl (WX_q rfl rfl (q_lst (q_load_box G rfl rfl rfl rfl rfl rfl rfl)) (WL_cons rfl (WX_q rfl rfl (q_field_ptr G rfl rfl rfl rfl) (WL_cons rfl (WX_q rfl rfl (q_lst (q_load_box G rfl rfl rfl rfl rfl rfl rfl)) (WL_cons rfl (?_))))))))))
      refine WX_q rfl rfl (q_call rfl (ArgsOK.of rfl) (c_laws_eqBoolS x.po y.po hb.po) rfl) ?_
      refine WL_cons rfl (WX_q rfl rfl (q_not rfl rfl) (?_))
      refine WL_nil (hK9 _ ?_)
      clear hK9 K9
      refine W_cond rfl (fun h3 => ?_) (fun h3 => ?_)
      · try rw [h3]
        try simp only [rfb] at h3
        refine W_seq (fun K10 hK10 => ?_)
        refine W_region (WL_cons rfl (WX_q rfl rfl (q_assign rfl rfl) (?_)))
        refine WL_nil (hK10 _ ?_)
        clear hK10 K10
        refine W_ret (fin_one rfl (rc_v ?_))
        all_goals clear hK8 K8
        all_goals (first | rfl | (simp_all [eqAb]; done))
      · try rw [h3]
        try simp only [rfb] at h3
        refine W_skip (hK8 _ ?_)
        clear hK8 K8
        refine W_seq (fun K11 hK11 => ?_)
        refine W_seq (fun K12 hK12 => ?_)
        refine W_region (WL_cons rfl (WX_q rfl rfl (q_field_ptr G rfl rfl rfl rfl) (WL_cons rfl (WX_q rfl rfl (q_lst (q_load_box G rfl rfl rfl rfl rfl rfl rfl)) (WL_cons rfl (WX_q rfl rfl (q_field_ptr G rfl rfl rfl rfl) (WL_cons rfl (WX_q rfl rfl (q_lst (q_load_box G rfl rfl rfl rfl rfl rfl rfl)) (WL_cons rfl (?_))))))))))
        refine WX_q rfl rfl (q_call rfl (ArgsOK.of rfl) (c_laws_eqIntS x.ma y.ma hb.ma) rfl) ?_
        refine WL_cons rfl (WX_q rfl rfl (q_not rfl rfl) (?_))
        refine WL_nil (hK12 _ ?_)
        clear hK12 K12
        refine W_cond rfl (fun h4 => ?_) (fun h4 => ?_)
        · try rw [h4]
          try simp only [rfb] at h4
          refine W_seq (fun K13 hK13 => ?_)
          refine W_region (WL_cons rfl (WX_q rfl rfl (q_assign rfl rfl) (?_)))
          refine WL_nil (hK13 _ ?_)
          clear hK13 K13
          refine W_ret (fin_one rfl (rc_v ?_))
          all_goals clear hK11 K11
          all_goals (first | rfl | (simp_all [eqAb]; done))
        · try rw [h4]
          try simp only [rfb] at h4
          refine W_skip (hK11 _ ?_)
          clear hK11 K11
          refine W_seq (fun K14 hK14 => ?_)
          refine W_seq (fun K15 hK15 => ?_)
          refine W_region (WL_cons rfl (WX_q rfl rfl (q_field_ptr G rfl rfl rfl rfl) (WL_cons rfl (WX_q rfl rfl (q_nst (q_load_box G rfl rfl rfl rfl rfl rfl rfl)) (WL_cons rfl (WX_q rfl rfl (q_field_ptr G rfl rfl rfl rfl) (WL_cons rfl (WX_q rfl rfl (q_nst (q_load_box G rfl rfl rfl rfl rfl rfl rfl)) (WL_cons rfl (?_))))))))))
          refine WX_q rfl rfl (q_call rfl (ArgsOK.of rfl) (c_laws_eqIntSS x.st y.st hb.st hb.all) rfl) ?_
          refine WL_cons rfl (WX_q rfl rfl (q_not rfl rfl) (?_))
          refine WL_nil (hK15 _ ?_)
          clear hK15 K15
          refine W_cond rfl (fun h5 => ?_) (fun h5 => ?_)
          · try rw [h5]
            try simp only [rfb] at h5
            refine W_seq (fun K16 hK16 => ?_)
            refine W_region (WL_cons rfl (WX_q rfl rfl (q_assign rfl rfl) (?_)))
            refine WL_nil (hK16 _ ?_)
            clear hK16 K16
            refine W_ret (fin_one rfl (rc_v ?_))
            all_goals clear hK14 K14
            all_goals (first | rfl | (simp_all [eqAb]; done))
          · try rw [h5]
            try simp only [rfb] at h5
            refine W_skip (hK14 _ ?_)
            clear hK14 K14
            refine W_seq (fun K17 hK17 => ?_)
            refine W_region (WL_cons rfl (WX_q rfl rfl (q_assign rfl rfl) (?_)))
            refine WL_nil (hK17 _ ?_)
            clear hK17 K17
            refine W_ret (fin_one rfl (rc_v ?_))
            all_goals (first | rfl | (simp_all [eqAb]; done))

theorem c_impl_areRoutes_1 (x : Route) (c : Int) (hc : 1 ≤ c ∧ c ≤ 2) : Ctr Tryz.prog 165 [.v (encRt x), .ept [.int .i64 c]] (.one (.v (.bool (!okRt c x)))) := by
  refine Ctr.of (n := 16) G Tryz.func165 rfl (by kernel_rfl) rfl rfl rfl (fun w0 => ?_)
  refine W_seq (fun K1 hK1 => ?_)
  refine W_region (WL_cons rfl (WX_box 1 rfl rfl rfl rfl rfl rfl rfl (WL_cons rfl (WX_q rfl rfl (q_assign rfl rfl) (?_)))))
  refine WL_nil (hK1 _ ?_)
  clear hK1 K1
  refine W_seq (fun K2 hK2 => ?_)
  refine W_region (WL_cons rfl (WX_q rfl rfl (q_field_ptr G rfl rfl rfl rfl) (WL_cons rfl (WX_q rfl rfl (q_load_box G rfl rfl rfl rfl rfl rfl rfl) (WL_cons rfl (?_))))))
  refine WX_q rfl rfl (q_call rfl (ArgsOK.of rfl) (c_impl_isPriority _) rfl) ?_
  refine WL_cons rfl (WX_q rfl rfl (q_not rfl rfl) (WL_cons rfl (WX_q rfl rfl (q_move rfl rfl) (WL_part rfl rfl rfl (fun h1 => ?_) (fun h1 => ?_)))))
  · try rw [h1]
    try simp only [rfb] at h1
    refine WL_skip rfl rfl rfl rfl rfl rfl (WL_skip rfl rfl rfl rfl rfl rfl (WL_skip rfl rfl rfl rfl rfl rfl (WL_skip rfl rfl rfl rfl rfl rfl (WL_skip rfl rfl rfl rfl rfl rfl (WL_skip rfl rfl rfl rfl rfl rfl (WL_cons rfl (WX_q rfl rfl (q_pick_t rfl rfl rfl) (WL_cons rfl (WX_q rfl rfl (q_assign rfl rfl) (?_))))))))))
    refine WL_nil (hK2 _ ?_)
    clear hK2 K2
    refine W_ret (fin_one rfl (rc_v ?_))
    all_goals (first | rfl | (simp_all [okRt]; done))
  · try rw [h1]
    try simp only [rfb] at h1
    refine WL_run rfl rfl rfl (WX_q rfl rfl (q_field_ptr G rfl rfl rfl rfl) (WL_run rfl rfl rfl (WX_q rfl rfl (q_load_box G rfl rfl rfl rfl rfl rfl rfl) (WL_run rfl rfl rfl (WX_q rfl rfl (q_load_ept G rfl rfl rfl rfl rfl) (WL_run rfl rfl rfl (?_)))))))
    first | refine WX_q rfl rfl (q_arith rfl rfl rfl rfl (by omega) (by omega)) ?_ | refine WX_q rfl rfl (q_wrap rfl rfl rfl rfl) ?_
    refine WL_run rfl rfl rfl (?_)
    refine WX_q rfl rfl (q_call rfl (ArgsOK.of rfl) (c_impl_inside _ _ _) rfl) ?_
    refine WL_run rfl rfl rfl (WX_q rfl rfl (q_not rfl rfl) (WL_cons rfl (WX_q rfl rfl (q_pick_f rfl rfl rfl) (WL_cons rfl (WX_q rfl rfl (q_assign rfl rfl) (?_))))))
    refine WL_nil (hK2 _ ?_)
    clear hK2 K2
    refine W_ret (fin_one rfl (rc_v ?_))
    all_goals (first | rfl | (simp_all [okRt]; done))

theorem c_slices_IndexFunc_impl_Route_impl_Route (xs : List Route) (f : Nat) (c : List Value) (p : Route → Bool) (hl : xs.length ≤ 1048576) (hf : ∀ i, i < xs.length → Ctr Tryz.prog f [.v (encRt (xs.getD i default)), .ept c] (.one (.v (.bool (p (xs.getD i default)))))) : Ctr Tryz.prog 205 [.lst 2 (xs.map encRo), .fnc f [.ept c]] (.one (.v (.int .i64 (idxN (fun i => p (xs.getD i default)) xs.length)))) := by
  refine Ctr.of (n := 19) G Tryz.func205 rfl (by kernel_rfl) rfl rfl rfl (fun w0 => ?_)
  refine W_seq (fun K1 hK1 => ?_)
  refine W_region (WL_cons rfl (WX_q rfl rfl (q_assign rfl rfl) (?_)))
  refine WL_nil (hK1 _ ?_)
  clear hK1 K1
  refine W_seq (fun K2 hK2 => ?_)
  refine W_seq (fun K3 hK3 => ?_)
  refine W_region (WL_cons rfl (WX_q rfl rfl (q_move rfl rfl) (WL_cons rfl (?_))))
  first | refine WX_q rfl rfl (q_len' G rfl rfl rfl rfl (List.length_map _)) ?_ | refine WX_q rfl rfl (q_len G rfl rfl rfl rfl) ?_
  refine WL_cons rfl (WX_q rfl rfl (q_move rfl rfl) (?_))
  refine WL_nil (hK3 _ ?_)
  clear hK3 K3
  refine W_block ?_
  refine W_loopK [0, 1, 7] [] (fun (i : Nat) => [(8, .v (.int .i64 (i : Int)))]) (fun (i : Nat) => []) (fun (i : Nat) => i ≤ xs.length ∧ ∀ j, j < i → p (xs.getD j default) = false) (fun (i : Nat) => xs.length - i) 0 rfl rfl ?_ ?_ ?_ ?_
  · exact ⟨Nat.zero_le _, fun j hj => by omega⟩
  · exact ⟨⟨_, rfl, by (first | rfl | (simp; done) | (simp; omega))⟩, rfl, trivial⟩
  · exact trivial
  · intro i hinv
    simp only [List.cons_append, List.nil_append]
    refine W_seq (fun K4 hK4 => ?_)
    refine W_region (WL_cons rfl (WX_q rfl rfl (q_cmp rfl rfl rfl rfl) (?_)))
    refine WL_nil (hK4 _ ?_)
    clear hK4 K4
    refine W_seq (fun K5 hK5 => ?_)
    refine W_cond rfl (fun h1 => ?_) (fun h1 => ?_)
    · try rw [h1]
      try simp only [rfb] at h1
      refine W_skip (hK5 _ ?_)
      clear hK5 K5
      refine W_seq (fun K6 hK6 => ?_)
      refine W_block ?_
      refine W_seq (fun K7 hK7 => ?_)
      refine W_region (WL_cons rfl (WX_q rfl rfl (q_move rfl rfl) (WL_cons rfl (WX_q rfl rfl (q_assign rfl rfl) (?_)))))
      refine WL_nil (hK7 _ ?_)
      clear hK7 K7
      refine W_seq (fun K8 hK8 => ?_)
      refine W_region (WL_cons rfl (WX_q rfl rfl (q_move rfl rfl) (WL_cons rfl (WX_q rfl rfl (q_move rfl rfl) (WL_cons rfl (WX_q rfl rfl (q_move rfl rfl) (WL_cons rfl (?_))))))))
      refine WX_q rfl rfl (q_index_lst G rfl rfl rfl rfl (by omega) (getN (by omega))) ?_
      refine WL_cons rfl (WX_q rfl rfl (q_load_ept_struct G rfl rfl rfl rfl) (WL_cons rfl (?_)))
      refine WX_q rfl rfl (q_callc rfl rfl (ArgsOK.of rfl) rfl (hf _ (by omega)) rfl) ?_
      refine WL_nil (hK8 _ ?_)
      clear hK8 K8
      refine W_cond rfl (fun h2 => ?_) (fun h2 => ?_)
      · try rw [h2]
        try simp only [rfb] at h2
        refine W_seq (fun K9 hK9 => ?_)
        refine W_region (WL_cons rfl (WX_q rfl rfl (q_move rfl rfl) (WL_cons rfl (WX_q rfl rfl (q_assign rfl rfl) (?_)))))
        refine WL_nil (hK9 _ ?_)
        clear hK9 K9
        refine W_ret (fin_one rfl (rc_v ?_))
        all_goals clear hK6 K6 hK2 K2
        all_goals (first | (rw [idx_some (i := i) hinv.2 (by omega) (by assumption)]; done) | (rw [idx_none hinv.2 (by omega)]; done))
      · try rw [h2]
        try simp only [rfb] at h2
        refine W_skip (hK6 _ ?_)
        clear hK6 K6
        refine W_region (WL_cons rfl (?_))
        first | refine WX_q rfl rfl (q_arith rfl rfl rfl rfl (by omega) (by omega)) ?_ | refine WX_q rfl rfl (q_wrap rfl rfl rfl rfl) ?_
        refine WL_cons rfl (WX_q rfl rfl (q_move rfl rfl) (?_))
        refine WL_nil ⟨(i + 1), ?_, ?_, ⟨⟨_, rfl, by rfl⟩, rfl, trivial⟩, trivial, rfl, rfl, rfl⟩
        · exact ⟨by omega, upto_succ hinv.2 (by assumption)⟩
        · omega
    · try rw [h1]
      try simp only [rfb] at h1
      refine W_exit (hK2 _ ?_)
      clear hK5 K5 hK2 K2
      refine W_seq (fun K10 hK10 => ?_)
      refine W_region (WL_cons rfl (WX_q rfl rfl (q_assign rfl rfl) (?_)))
      refine WL_nil (hK10 _ ?_)
      clear hK10 K10
      refine W_ret (fin_one rfl (rc_v ?_))
      all_goals (first | (rw [idx_some (i := i) hinv.2 (by omega) (by assumption)]; done) | (rw [idx_none hinv.2 (by omega)]; done))

theorem c_slices_ContainsFunc_impl_Route_impl_Route (xs : List Route) (f : Nat) (c : List Value) (p : Route → Bool) (hl : xs.length ≤ 1048576) (hf : ∀ i, i < xs.length → Ctr Tryz.prog f [.v (encRt (xs.getD i default)), .ept c] (.one (.v (.bool (p (xs.getD i default)))))) : Ctr Tryz.prog 164 [.lst 2 (xs.map encRo), .fnc f [.ept c]] (.one (.v (.bool (anyN xs.length (fun i => p (xs.getD i default)))))) := by
  refine Ctr.of (n := 9) G Tryz.func164 rfl (by kernel_rfl) rfl rfl rfl (fun w0 => ?_)
  refine W_seq (fun K1 hK1 => ?_)
  refine W_region (WL_cons rfl (WX_q rfl rfl (q_assign rfl rfl) (?_)))
  refine WL_nil (hK1 _ ?_)
  clear hK1 K1
  refine W_seq (fun K2 hK2 => ?_)
  refine W_region (WL_cons rfl (WX_q rfl rfl (q_move rfl rfl) (WL_cons rfl (WX_q rfl rfl (q_move rfl rfl) (WL_cons rfl (?_))))))
  refine WX_q rfl rfl (q_call rfl (ArgsOK.of rfl) (c_slices_IndexFunc_impl_Route_impl_Route xs f c p hl hf) rfl) ?_
  refine WL_cons rfl (WX_q rfl rfl (q_cmp rfl rfl rfl rfl) (WL_cons rfl (WX_q rfl rfl (q_assign rfl rfl) (?_))))
  refine WL_nil (hK2 _ ?_)
  clear hK2 K2
  refine W_ret (fin_one rfl (rc_v ?_))
  all_goals (rw [idx_any])

theorem c_impl_areRoutes (rs : List Route) (c : Int) (hn : rs.length ≤ 9223372036854775807) : Ctr Tryz.prog 113 [.lst 2 (rs.map encRo), .v (.int .i64 c)] (.one (.v (.bool (okRts rs c)))) := by
  refine Ctr.of (n := 18) G Tryz.func113 rfl (by kernel_rfl) rfl rfl rfl (fun w0 => ?_)
  refine W_seq (fun K1 hK1 => ?_)
  refine W_region (WL_cons rfl (WX_box 1 rfl rfl rfl rfl rfl rfl rfl (WL_cons rfl (WX_q rfl rfl (q_assign rfl rfl) (?_)))))
  refine WL_nil (hK1 _ ?_)
  clear hK1 K1
  refine W_seq (fun K2 hK2 => ?_)
  refine W_region (WL_cons rfl (WX_q rfl rfl (q_load_box G rfl rfl rfl rfl rfl rfl rfl) (WL_cons rfl (?_))))
  refine WX_q rfl rfl (q_call rfl (ArgsOK.of rfl) (c_impl_inside _ _ _) rfl) ?_
  refine WL_cons rfl (WX_q rfl rfl (q_move rfl rfl) (WL_part rfl rfl rfl (fun h1 => ?_) (fun h1 => ?_)))
  · try rw [h1]
    try simp only [rfb] at h1
    refine WL_run rfl rfl rfl (WX_q rfl rfl (q_move rfl rfl) (WL_run rfl rfl rfl (?_)))
    first | refine WX_q rfl rfl (q_len' G rfl rfl rfl rfl (List.length_map _)) ?_ | refine WX_q rfl rfl (q_len G rfl rfl rfl rfl) ?_
    refine WL_run rfl rfl rfl (WX_q rfl rfl (q_cmp rfl rfl rfl rfl) (WL_cons rfl (WX_q rfl rfl (q_pick_t rfl rfl rfl) (WL_cons rfl (WX_q rfl rfl (q_move rfl rfl) (WL_part rfl rfl rfl (fun h2 => ?_) (fun h2 => ?_)))))))
    · try rw [h2]
      try simp only [rfb] at h2
      refine WL_run rfl rfl rfl (WX_q rfl rfl (q_move rfl rfl) (WL_run rfl rfl rfl (WX_q rfl rfl (q_func rfl rfl) (WL_run rfl rfl rfl (?_)))))
      refine WX_q rfl rfl (q_call rfl (ArgsOK.of rfl) (c_slices_ContainsFunc_impl_Route_impl_Route rs 165 [.int .i64 c] (fun x => !okRt c x) (by omega) (fun k hk => c_impl_areRoutes_1 _ _ (inside_t.mp (by assumption)))) rfl) ?_
      refine WL_run rfl rfl rfl (WX_q rfl rfl (q_not rfl rfl) (WL_cons rfl (WX_q rfl rfl (q_pick_t rfl rfl rfl) (WL_cons rfl (WX_q rfl rfl (q_assign rfl rfl) (?_))))))
      refine WL_nil (hK2 _ ?_)
      clear hK2 K2
      refine W_ret (fin_one rfl (rc_v ?_))
      all_goals (first | rfl | (simp only [okRts, h1, Bool.true_and, Bool.false_and]; done) | (have e8 : rs.length = 8 := Int.ofNat_inj.mp h2; simp only [okRts, h1, e8, decide_true, Bool.true_and, anyN, Bool.not_not]; done) | (simp only [okRts, h1, show ¬ rs.length = 8 from (fun h => h2 (by rw [h]; rfl)), decide_false, Bool.false_and, Bool.and_false]; done))
    · try rw [h2]
      try simp only [rfb] at h2
      refine WL_skip rfl rfl rfl rfl rfl rfl (WL_skip rfl rfl rfl rfl rfl rfl (WL_skip rfl rfl rfl rfl rfl rfl (WL_skip rfl rfl rfl rfl rfl rfl (WL_cons rfl (WX_q rfl rfl (q_pick_f rfl rfl rfl) (WL_cons rfl (WX_q rfl rfl (q_assign rfl rfl) (?_))))))))
      refine WL_nil (hK2 _ ?_)
      clear hK2 K2
      refine W_ret (fin_one rfl (rc_v ?_))
      all_goals (first | rfl | (simp only [okRts, h1, Bool.true_and, Bool.false_and]; done) | (have e8 : rs.length = 8 := Int.ofNat_inj.mp h2; simp only [okRts, h1, e8, decide_true, Bool.true_and, anyN, Bool.not_not]; done) | (simp only [okRts, h1, show ¬ rs.length = 8 from (fun h => h2 (by rw [h]; rfl)), decide_false, Bool.false_and, Bool.and_false]; done))
  · try rw [h1]
    try simp only [rfb] at h1
    refine WL_skip rfl rfl rfl rfl rfl rfl (WL_skip rfl rfl rfl rfl rfl rfl (WL_skip rfl rfl rfl rfl rfl rfl (WL_cons rfl (WX_q rfl rfl (q_pick_f rfl rfl rfl) (WL_cons rfl (WX_q rfl rfl (q_move rfl rfl) (WL_skip rfl rfl rfl rfl rfl rfl (WL_skip rfl rfl rfl rfl rfl rfl (WL_skip rfl rfl rfl rfl rfl rfl (WL_skip rfl rfl rfl rfl rfl rfl (WL_cons rfl (WX_q rfl rfl (q_pick_f rfl rfl rfl) (WL_cons rfl (WX_q rfl rfl (q_assign rfl rfl) (?_)))))))))))))))
    refine WL_nil (hK2 _ ?_)
    clear hK2 K2
    refine W_ret (fin_one rfl (rc_v ?_))
    all_goals (first | rfl | (simp only [okRts, h1, Bool.true_and, Bool.false_and]; done) | (have e8 : rs.length = 8 := Int.ofNat_inj.mp h2; simp only [okRts, h1, e8, decide_true, Bool.true_and, anyN, Bool.not_not]; done) | (simp only [okRts, h1, show ¬ rs.length = 8 from (fun h => h2 (by rw [h]; rfl)), decide_false, Bool.false_and, Bool.and_false]; done))

theorem c_spec_l21Routes (rs : List Route) (c : Int) (hn : rs.length ≤ 1048576) (hc : 0 ≤ c ∧ c ≤ 1048576) : Ctr Tryz.prog 130 [.lst 2 (rs.map encRo), .v (.int .i64 c)] (.one (.v (.bool (okRts rs c)))) := by
  refine Ctr.of (n := 37) G Tryz.func130 rfl (by kernel_rfl) rfl rfl rfl (fun w0 => ?_)
  refine W_seq (fun K1 hK1 => ?_)
  refine W_region (WL_cons rfl (WX_q rfl rfl (q_assign rfl rfl) (?_)))
  refine WL_nil (hK1 _ ?_)
  clear hK1 K1
  refine W_seq (fun K2 hK2 => ?_)
  refine W_seq (fun K3 hK3 => ?_)
  refine W_region (WL_cons rfl (WX_q rfl rfl (q_assign rfl rfl) (?_)))
  refine WL_nil (hK3 _ ?_)
  clear hK3 K3
  refine W_block ?_
  refine W_loopK [0, 1] [] (fun (i : Nat) => [(5, .v (.int .i64 (i : Int)))]) (fun (i : Nat) => []) (fun (i : Nat) => i ≤ rs.length ∧ ∀ j, j < i → okRt c (rs.getD j default) = true) (fun (i : Nat) => rs.length - i) 0 rfl rfl ?_ ?_ ?_ ?_
  · exact ⟨Nat.zero_le _, fun j hj => by omega⟩
  · exact ⟨⟨_, rfl, by (first | rfl | (simp; done) | (simp; omega))⟩, rfl, trivial⟩
  · exact trivial
  · intro i hinv
    simp only [List.cons_append, List.nil_append]
    refine W_seq (fun K4 hK4 => ?_)
    refine W_seq (fun K5 hK5 => ?_)
    refine W_region (WL_cons rfl (WX_q rfl rfl (q_move rfl rfl) (WL_cons rfl (WX_q rfl rfl (q_move rfl rfl) (WL_cons rfl (?_))))))
    first | refine WX_q rfl rfl (q_len' G rfl rfl rfl rfl (List.length_map _)) ?_ | refine WX_q rfl rfl (q_len G rfl rfl rfl rfl) ?_
    refine WL_cons rfl (WX_q rfl rfl (q_cmp rfl rfl rfl rfl) (?_))
    refine WL_nil (hK5 _ ?_)
    clear hK5 K5
    refine W_cond rfl (fun h1 => ?_) (fun h1 => ?_)
    · try rw [h1]
      try simp only [rfb] at h1
      refine W_skip (hK4 _ ?_)
      clear hK4 K4
      refine W_seq (fun K6 hK6 => ?_)
      refine W_block ?_
      refine W_seq (fun K7 hK7 => ?_)
      refine W_region (WL_cons rfl (WX_q rfl rfl (q_move rfl rfl) (WL_cons rfl (WX_q rfl rfl (q_move rfl rfl) (WL_cons rfl (?_))))))
      refine WX_q rfl rfl (q_index_lst G rfl rfl rfl rfl (by omega) (getN (by omega))) ?_
      refine WL_cons rfl (WX_q rfl rfl (q_field_ept G rfl rfl rfl rfl) (WL_cons rfl (WX_q rfl rfl (q_load_ept G rfl rfl rfl rfl rfl) (WL_cons rfl (?_)))))
      refine WX_q rfl rfl (q_call rfl (ArgsOK.of rfl) (c_spec_l6Prio _) rfl) ?_
      refine WL_cons rfl (WX_q rfl rfl (q_not rfl rfl) (WL_cons rfl (WX_q rfl rfl (q_move rfl rfl) (WL_part rfl rfl rfl (fun h2 => ?_) (fun h2 => ?_)))))
      · try rw [h2]
        try simp only [rfb] at h2
        refine WL_skip rfl rfl rfl rfl rfl rfl (WL_skip rfl rfl rfl rfl rfl rfl (WL_skip rfl rfl rfl rfl rfl rfl (WL_skip rfl rfl rfl rfl rfl rfl (WL_skip rfl rfl rfl rfl rfl rfl (WL_skip rfl rfl rfl rfl rfl rfl (WL_skip rfl rfl rfl rfl rfl rfl (WL_skip rfl rfl rfl rfl rfl rfl (WL_skip rfl rfl rfl rfl rfl rfl (WL_cons rfl (WX_q rfl rfl (q_pick_t rfl rfl rfl) (?_)))))))))))
        refine WL_nil (hK7 _ ?_)
        clear hK7 K7
        refine W_true rfl ?_
        refine W_seq (fun K8 hK8 => ?_)
        refine W_region (WL_cons rfl (WX_q rfl rfl (q_assign rfl rfl) (?_)))
        refine WL_nil (hK8 _ ?_)
        clear hK8 K8
        refine W_ret (fin_one rfl (rc_v ?_))
        all_goals clear hK6 K6 hK2 K2
        all_goals (first | (have e : allN rs.length (fun i => okRt c (rs.getD i default)) = false := allN_f (i := i) (by simp_all [okRt]) (by omega); simp only [okRts, e, Bool.and_false]; done) | (have e : allN rs.length (fun i => okRt c (rs.getD i default)) = true := allN_t hinv.2 (by omega); first | (simp only [okRts, e, h4, beq8, Bool.and_true, Bool.true_and, Bool.false_and]; done)))
      · try rw [h2]
        try simp only [rfb] at h2
        refine WL_run rfl rfl rfl (WX_q rfl rfl (q_move rfl rfl) (WL_run rfl rfl rfl (WX_q rfl rfl (q_move rfl rfl) (WL_run rfl rfl rfl (?_)))))
        refine WX_q rfl rfl (q_index_lst G rfl rfl rfl rfl (by omega) (getN (by omega))) ?_
        refine WL_run rfl rfl rfl (WX_q rfl rfl (q_field_ept G rfl rfl rfl rfl) (WL_run rfl rfl rfl (WX_q rfl rfl (q_load_ept G rfl rfl rfl rfl rfl) (WL_run rfl rfl rfl (WX_q rfl rfl (q_move rfl rfl) (WL_run rfl rfl rfl (?_)))))))
        first | refine WX_q rfl rfl (q_arith rfl rfl rfl rfl (by omega) (by omega)) ?_ | refine WX_q rfl rfl (q_wrap rfl rfl rfl rfl) ?_
        refine WL_run rfl rfl rfl (?_)
        refine WX_q rfl rfl (q_call rfl (ArgsOK.of rfl) (c_spec_l1In _ _ _) rfl) ?_
        refine WL_run rfl rfl rfl (WX_q rfl rfl (q_not rfl rfl) (WL_cons rfl (WX_q rfl rfl (q_pick_f rfl rfl rfl) (?_))))
        refine WL_nil (hK7 _ ?_)
        clear hK7 K7
        refine W_cond rfl (fun h3 => ?_) (fun h3 => ?_)
        · try rw [h3]
          try simp only [rfb] at h3
          refine W_seq (fun K9 hK9 => ?_)
          refine W_region (WL_cons rfl (WX_q rfl rfl (q_assign rfl rfl) (?_)))
          refine WL_nil (hK9 _ ?_)
          clear hK9 K9
          refine W_ret (fin_one rfl (rc_v ?_))
          all_goals clear hK6 K6 hK2 K2
          all_goals (first | (have e : allN rs.length (fun i => okRt c (rs.getD i default)) = false := allN_f (i := i) (by simp_all [okRt]) (by omega); simp only [okRts, e, Bool.and_false]; done) | (have e : allN rs.length (fun i => okRt c (rs.getD i default)) = true := allN_t hinv.2 (by omega); first | (simp only [okRts, e, h4, beq8, Bool.and_true, Bool.true_and, Bool.false_and]; done)))
        · try rw [h3]
          try simp only [rfb] at h3
          refine W_skip (hK6 _ ?_)
          clear hK6 K6
          refine W_region (WL_cons rfl (WX_q rfl rfl (q_move rfl rfl) (WL_cons rfl (?_))))
          first | refine WX_q rfl rfl (q_arith rfl rfl rfl rfl (by omega) (by omega)) ?_ | refine WX_q rfl rfl (q_wrap rfl rfl rfl rfl) ?_
          refine WL_cons rfl (WX_q rfl rfl (q_assign rfl rfl) (?_))
          refine WL_nil ⟨(i + 1), ?_, ?_, ⟨⟨_, rfl, by rfl⟩, rfl, trivial⟩, trivial, rfl, rfl, rfl⟩
          · exact ⟨by omega, upto_succ hinv.2 (by simp_all [okRt])⟩
          · omega
    · try rw [h1]
      try simp only [rfb] at h1
      refine W_exit (hK2 _ ?_)
      clear hK4 K4 hK2 K2
      refine W_seq (fun K10 hK10 => ?_)
      refine W_region (WL_cons rfl (WX_q rfl rfl (q_move rfl rfl) (WL_cons rfl (?_))))
      refine WX_q rfl rfl (q_call rfl (ArgsOK.of rfl) (c_spec_l1In _ _ _) rfl) ?_
      refine WL_cons rfl (WX_q rfl rfl (q_move rfl rfl) (WL_part rfl rfl rfl (fun h4 => ?_) (fun h4 => ?_)))
      · try rw [h4]
        try simp only [rfb] at h4
        refine WL_run rfl rfl rfl (WX_q rfl rfl (q_move rfl rfl) (WL_run rfl rfl rfl (?_)))
        first | refine WX_q rfl rfl (q_len' G rfl rfl rfl rfl (List.length_map _)) ?_ | refine WX_q rfl rfl (q_len G rfl rfl rfl rfl) ?_
        refine WL_run rfl rfl rfl (WX_q rfl rfl (q_cmp rfl rfl rfl rfl) (WL_cons rfl (WX_q rfl rfl (q_pick_t rfl rfl rfl) (WL_cons rfl (WX_q rfl rfl (q_assign rfl rfl) (?_))))))
        refine WL_nil (hK10 _ ?_)
        clear hK10 K10
        refine W_ret (fin_one rfl (rc_v ?_))
        all_goals (first | (have e : allN rs.length (fun i => okRt c (rs.getD i default)) = false := allN_f (i := i) (by simp_all [okRt]) (by omega); simp only [okRts, e, Bool.and_false]; done) | (have e : allN rs.length (fun i => okRt c (rs.getD i default)) = true := allN_t hinv.2 (by omega); first | (simp only [okRts, e, h4, beq8, Bool.and_true, Bool.true_and, Bool.false_and]; done)))
      · try rw [h4]
        try simp only [rfb] at h4
        refine WL_skip rfl rfl rfl rfl rfl rfl (WL_skip rfl rfl rfl rfl rfl rfl (WL_skip rfl rfl rfl rfl rfl rfl (WL_cons rfl (WX_q rfl rfl (q_pick_f rfl rfl rfl) (WL_cons rfl (WX_q rfl rfl (q_assign rfl rfl) (?_)))))))
        refine WL_nil (hK10 _ ?_)
        clear hK10 K10
        refine W_ret (fin_one rfl (rc_v ?_))
        all_goals (first | (have e : allN rs.length (fun i => okRt c (rs.getD i default)) = false := allN_f (i := i) (by simp_all [okRt]) (by omega); simp only [okRts, e, Bool.and_false]; done) | (have e : allN rs.length (fun i => okRt c (rs.getD i default)) = true := allN_t hinv.2 (by omega); first | (simp only [okRts, e, h4, beq8, Bool.and_true, Bool.true_and, Bool.false_and]; done)))

end Go.Proofs.YtcnodpipinlpcaaGreat

/- Walks through functions of the program, one contract each (written by gen.py). -/
set_option maxRecDepth 20000
set_option linter.unusedVariables false
set_option linter.unusedSimpArgs false
namespace Go.Proofs.YtcnodpipinlpcaaGreat
open Go Go.Rf

end Go.Proofs.YtcnodpipinlpcaaGreat
