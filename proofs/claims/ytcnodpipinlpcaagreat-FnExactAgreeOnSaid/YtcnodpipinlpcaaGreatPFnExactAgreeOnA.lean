/- Texts merged into one: Tab, Shelf, S, W1, W2, W3. -/
import Derived.Test.YtcnodpipinlpcaaGreatMac
import Derived.Test.YtcnodpipinlpcaaGreatProg
import Derived.KernelRfl
import Derived.Shelf.Sort.Plain
import Derived.Shelf.Slices.In.SortNone
namespace Go.Proofs.YtcnodpipinlpcaaGreat
open Go Go.Rf
def tb : List (Nat × TyI) := [
 (2, .flat (.int .i64) (.int .i64 0)),
 (3, .flat (.int .i64) (.int .i64 0)),
 (4, .flat .bool (.bool false)),
 (5, .flat (.int .u8) (.int .u8 0)),
 (6, .flat (.int .u8) (.int .u8 0)),
 (7, .struct [(0, 2), (1, 3), (2, 4), (3, 6)] [.int .i64 0, .int .i64 0, .bool false, .int .u8 0]),
 (8, .struct [(0, 2), (1, 3), (2, 4), (3, 6)] [.int .i64 0, .int .i64 0, .bool false, .int .u8 0]),
 (9, .flat .str (.string ⟨#[]⟩)),
 (10, .flat .str (.string ⟨#[]⟩)),
 (11, .flat .str (.string ⟨#[]⟩)),
 (12, .flat (.int .u64) (.int .u64 0)),
 (13, .struct [(0, 9), (1, 12)] [.string ⟨#[]⟩, .int .u64 0]),
 (14, .struct [(0, 9), (1, 12)] [.string ⟨#[]⟩, .int .u64 0]),
 (15, .flat .other (.pointer none)),
 (16, .flat .other (.pointer none)),
 (17, .flat .other (.pointer none)),
 (18, .struct [(0, 17)] [.pointer none]),
 (19, .struct [(0, 17)] [.pointer none]),
 (21, .flat (.int .i32) (.int .i32 0)),
 (22, .slice 5 1 1 [.int .u8 0]),
 (24, .slice 118 2 16 [.int .i64 0, .int .i64 0]),
 (25, .slice 4 1 1 [.bool false]),
 (26, .slice 3 1 8 [.int .i64 0]),
 (27, .slice 26 1 24 [.slice none 0 0]),
 (28, .struct [(0, 25), (1, 25), (2, 25), (3, 26), (4, 27)] [.slice none 0 0, .slice none 0 0, .slice none 0 0, .slice none 0 0, .slice none 0 0]),
 (29, .struct [(0, 25), (1, 25), (2, 25), (3, 26), (4, 27)] [.slice none 0 0, .slice none 0 0, .slice none 0 0, .slice none 0 0, .slice none 0 0]),
 (30, .slice 40 4 32 [.int .i64 0, .int .i64 0, .int .i64 0, .int .i64 0]),
 (39, .struct [(0, 3), (1, 3), (2, 3), (3, 3)] [.int .i64 0, .int .i64 0, .int .i64 0, .int .i64 0]),
 (40, .struct [(0, 3), (1, 3), (2, 3), (3, 3)] [.int .i64 0, .int .i64 0, .int .i64 0, .int .i64 0]),
 (47, .slice 120 2 16 [.int .i64 0, .int .i64 0]),
 (48, .struct [(0, 25), (1, 25), (2, 25), (3, 26), (4, 27)] [.slice none 0 0, .slice none 0 0, .slice none 0 0, .slice none 0 0, .slice none 0 0]),
 (51, .slice 113 4 80 [.int .i64 0, .slice none 0 0, .slice none 0 0, .slice none 0 0]),
 (52, .struct [(0, 24), (1, 25), (2, 25), (3, 51)] [.slice none 0 0, .slice none 0 0, .slice none 0 0, .slice none 0 0]),
 (53, .struct [(0, 24), (1, 25), (2, 25), (3, 51)] [.slice none 0 0, .slice none 0 0, .slice none 0 0, .slice none 0 0]),
 (64, .slice 170 4 80 [.int .i64 0, .slice none 0 0, .slice none 0 0, .slice none 0 0]),
 (65, .struct [(0, 47), (1, 25), (2, 25), (3, 64)] [.slice none 0 0, .slice none 0 0, .slice none 0 0, .slice none 0 0]),
 (66, .struct [(0, 47), (1, 25), (2, 25), (3, 64)] [.slice none 0 0, .slice none 0 0, .slice none 0 0, .slice none 0 0]),
 (72, .slice 136 4 32 [.int .i64 0, .int .i64 0, .int .i64 0, .int .i64 0]),
 (87, .flat .other (.pointer none)),
 (88, .flat (.int .u64) (.int .u64 0)),
 (89, .struct [(0, 22), (1, 3), (2, 88)] [.slice none 0 0, .int .i64 0, .int .u64 0]),
 (90, .struct [(0, 22), (1, 3), (2, 88)] [.slice none 0 0, .int .i64 0, .int .u64 0]),
 (108, .slice 154 3 24 [.int .i64 0, .int .i64 0, .int .i64 0]),
 (109, .slice 183 2 16 [.int .i64 0, .int .i64 0]),
 (110, .struct [(0, 108), (1, 109)] [.slice none 0 0, .slice none 0 0]),
 (111, .struct [(0, 108), (1, 109)] [.slice none 0 0, .slice none 0 0]),
 (112, .struct [(0, 3), (1, 26), (2, 111)] [.int .i64 0, .slice none 0 0, .slice none 0 0, .slice none 0 0]),
 (113, .struct [(0, 3), (1, 26), (2, 111)] [.int .i64 0, .slice none 0 0, .slice none 0 0, .slice none 0 0]),
 (117, .struct [(0, 3), (1, 3)] [.int .i64 0, .int .i64 0]),
 (118, .struct [(0, 3), (1, 3)] [.int .i64 0, .int .i64 0]),
 (120, .struct [(0, 3), (1, 3)] [.int .i64 0, .int .i64 0]),
 (136, .struct [(0, 3), (1, 3), (2, 3), (3, 3)] [.int .i64 0, .int .i64 0, .int .i64 0, .int .i64 0]),
 (153, .struct [(0, 3), (1, 3), (2, 3)] [.int .i64 0, .int .i64 0, .int .i64 0]),
 (154, .struct [(0, 3), (1, 3), (2, 3)] [.int .i64 0, .int .i64 0, .int .i64 0]),
 (165, .slice 246 3 24 [.int .i64 0, .int .i64 0, .int .i64 0]),
 (166, .slice 248 2 16 [.int .i64 0, .int .i64 0]),
 (167, .struct [(0, 165), (1, 166)] [.slice none 0 0, .slice none 0 0]),
 (168, .struct [(0, 165), (1, 166)] [.slice none 0 0, .slice none 0 0]),
 (169, .struct [(0, 3), (1, 26), (2, 168)] [.int .i64 0, .slice none 0 0, .slice none 0 0, .slice none 0 0]),
 (170, .struct [(0, 3), (1, 26), (2, 168)] [.int .i64 0, .slice none 0 0, .slice none 0 0, .slice none 0 0]),
 (182, .struct [(0, 3), (1, 3)] [.int .i64 0, .int .i64 0]),
 (183, .struct [(0, 3), (1, 3)] [.int .i64 0, .int .i64 0]),
 (188, .flat (.int .u64) (.int .u64 0)),
 (204, .flat .other (.pointer none)),
 (205, .flat .other (.pointer none)),
 (231, .flat (.int .i64) (.int .i64 0)),
 (239, .flat (.int .u32) (.int .u32 0)),
 (246, .struct [(0, 3), (1, 3), (2, 3)] [.int .i64 0, .int .i64 0, .int .i64 0]),
 (248, .struct [(0, 3), (1, 3)] [.int .i64 0, .int .i64 0]),
 (254, .flat (.int .u64) (.int .u64 0)),
 (258, .flat .other (.pointer none)),
 (262, .flat .other (.pointer none)),
 (268, .struct [(0, 17), (1, 17), (2, 17), (3, 9)] [.pointer none, .pointer none, .pointer none, .string ⟨#[]⟩]),
 (269, .struct [(0, 17), (1, 17), (2, 17), (3, 9)] [.pointer none, .pointer none, .pointer none, .string ⟨#[]⟩]),
 (273, .flat (.int .u8) (.int .u8 0)),
 (274, .flat (.int .u8) (.int .u8 0)),
 (276, .flat .other (.pointer none)),
 (277, .flat (.int .i32) (.int .i32 0)),
 (278, .flat (.int .i32) (.int .i32 0))]
theorem G : Go.Rf.Good Tryz.prog tb := Go.Rf.Good.of (by kernel_rfl)
instance : Env Tryz.prog := ⟨fun _ => True, fun _ _ => trivial⟩
theorem mixed : Tryz.prog.follows .mixedOrders = true := by kernel_rfl
end Go.Proofs.YtcnodpipinlpcaaGreat
namespace Go.Proofs
open Go.Shelf
def Tryz.lays189_ren : Go.Shelf.Ren := ⟨fun | 189 => 169 | 125 => 211 | 257 => 210 | 128 => 251 | 129 => 252 | 294 => 242 | 295 => 243 | 296 => 244 | 297 => 245 | 298 => 246 | 299 => 247 | 216 => 248 | 300 => 249 | 301 => 250 | 328 => 273 | 329 => 274 | 330 => 275 | 331 => 276 | 332 => 277 | 215 => 272 | 343 => 282 | n => n, fun | 28 => 26 | 3 => 3 | 46 => 188 | 0 => 0 | 51 => 239 | 53 => 88 | 4 => 4 | 183 => 232 | 182 => 231 | 131 => 45 | 5 => 5 | 9 => 9 | 218 => 254 | 222 => 258 | 228 => 262 | 229 => 263 | n => n, fun | n => n⟩
theorem Tryz.lays189 : Go.Proofs.Lays.n189 Tryz.prog Tryz.lays189_ren := {
 mixed := by kernel_rfl
 f125 := Tryz.func211.trans (congrArg some (by kernel_rfl))
 f128 := Tryz.func251.trans (congrArg some (by kernel_rfl))
 f129 := Tryz.func252.trans (congrArg some (by kernel_rfl))
 f189 := Tryz.func169.trans (congrArg some (by kernel_rfl))
 f215 := Tryz.func272.trans (congrArg some (by kernel_rfl))
 f216 := Tryz.func248.trans (congrArg some (by kernel_rfl))
 f257 := Tryz.func210.trans (congrArg some (by kernel_rfl))
 f294 := Tryz.func242.trans (congrArg some (by kernel_rfl))
 f295 := Tryz.func243.trans (congrArg some (by kernel_rfl))
 f296 := Tryz.func244.trans (congrArg some (by kernel_rfl))
 f297 := Tryz.func245.trans (congrArg some (by kernel_rfl))
 f298 := Tryz.func246.trans (congrArg some (by kernel_rfl))
 f299 := Tryz.func247.trans (congrArg some (by kernel_rfl))
 f300 := Tryz.func249.trans (congrArg some (by kernel_rfl))
 f301 := Tryz.func250.trans (congrArg some (by kernel_rfl))
 f328 := Tryz.func273.trans (congrArg some (by kernel_rfl))
 f329 := Tryz.func274.trans (congrArg some (by kernel_rfl))
 f330 := Tryz.func275.trans (congrArg some (by kernel_rfl))
 f331 := Tryz.func276.trans (congrArg some (by kernel_rfl))
 f332 := Tryz.func277.trans (congrArg some (by kernel_rfl))
 f343 := Tryz.func282.trans (congrArg some (by kernel_rfl))
 t0 := Tryz.underlying0
 a0 := Tryz.isAgg0
 z0 := Tryz.sizeOf0
 v0 := Tryz.zeroValue0
 t3 := Tryz.underlying3
 a3 := Tryz.isAgg3
 z3 := Tryz.sizeOf3
 v3 := Tryz.zeroValue3
 t4 := Tryz.underlying4
 a4 := Tryz.isAgg4
 z4 := Tryz.sizeOf4
 v4 := Tryz.zeroValue4
 t5 := Tryz.underlying5
 a5 := Tryz.isAgg5
 z5 := Tryz.sizeOf5
 v5 := Tryz.zeroValue5
 t9 := Tryz.underlying9
 a9 := Tryz.isAgg9
 z9 := Tryz.sizeOf9
 v9 := Tryz.zeroValue9
 t28 := Tryz.underlying26
 a28 := Tryz.isAgg26
 z28 := Tryz.sizeOf26
 v28 := Tryz.zeroValue26
 t46 := Tryz.underlying188
 a46 := Tryz.isAgg188
 z46 := Tryz.sizeOf188
 v46 := Tryz.zeroValue188
 t51 := Tryz.underlying239
 a51 := Tryz.isAgg239
 z51 := Tryz.sizeOf239
 v51 := Tryz.zeroValue239
 t53 := Tryz.underlying88
 a53 := Tryz.isAgg88
 z53 := Tryz.sizeOf88
 v53 := Tryz.zeroValue88
 t131 := Tryz.underlying45
 a131 := Tryz.isAgg45
 z131 := Tryz.sizeOf45
 v131 := Tryz.zeroValue45
 t182 := Tryz.underlying231
 a182 := Tryz.isAgg231
 z182 := Tryz.sizeOf231
 v182 := Tryz.zeroValue231
 t183 := Tryz.underlying232
 a183 := Tryz.isAgg232
 z183 := Tryz.sizeOf232
 v183 := Tryz.zeroValue232
 t218 := Tryz.underlying254
 a218 := Tryz.isAgg254
 z218 := Tryz.sizeOf254
 v218 := Tryz.zeroValue254
 t222 := Tryz.underlying258
 a222 := Tryz.isAgg258
 z222 := Tryz.sizeOf258
 v222 := Tryz.zeroValue258
 t228 := Tryz.underlying262
 a228 := Tryz.isAgg262
 z228 := Tryz.sizeOf262
 v228 := Tryz.zeroValue262
 t229 := Tryz.underlying263
 a229 := Tryz.isAgg263
 z229 := Tryz.sizeOf263
 v229 := Tryz.zeroValue263 }
open Go.Sort Go.RowKit in
theorem Tryz.slices_Sort_int (blk off cap : Nat) (zs : List Int) (w : World) (hH : Holds (Value.int .i64) w blk off zs.toArray) (hblk : blk < w.heap.size) (hsz : zs.length < 4611686018427387904) :
 Calls Tryz.prog 169 #[.slice (some ⟨blk, off, none⟩) zs.length cap] w fun e w' =>
  e = .returned (.tuple #[]) ∧ ∃ n os, w' = grow (putRow (Value.int .i64) (Sort.ahead w n) blk off (zs.mergeSort fun x y => decide (x ≤ y)).toArray) os := Any.slices_Sort_int Tryz.lays189 blk off cap zs w hH hblk hsz
open Go.RowKit Go.Sort in
theorem Tryz.slices_Sort_int_none (p : Option Addr) (cap : Nat) (w : World) :
 Calls Tryz.prog 169 #[.slice p 0 cap] w fun e w' => e = .returned (.tuple #[]) ∧ w' = w := Any.slices_Sort_int_none Tryz.lays189 p cap w
end Go.Proofs
set_option linter.unusedVariables false
namespace Go.Proofs.YtcnodpipinlpcaaGreat
open Go Go.Rf
theorem c_slices_Sort_int_int (l : List Int) (hl : l.length ≤ 1048576) : CtrM Tryz.prog 169 [.own 0] [.row 3 1 (l.map Go.Rf.encI)] (.many []) [some (.row 3 1 ((srtI l).map Go.Rf.encI))] :=
 CtrM.sort ⟨_, Tryz.func169, by kernel_rfl, rfl⟩ hl (fun blk off cap w hH hb hs => Tryz.slices_Sort_int blk off cap l w hH hb hs) (fun p cap w => Tryz.slices_Sort_int_none p cap w)
end Go.Proofs.YtcnodpipinlpcaaGreat
set_option maxRecDepth 20000
set_option linter.unusedVariables false
set_option linter.unusedSimpArgs false
namespace Go.Proofs.YtcnodpipinlpcaaGreat
open Go Go.Rf
set_option maxHeartbeats 4000000 in
theorem c_impl_inside (n l h : Int) : Ctr Tryz.prog 65 [.v (.int .i64 n), .v (.int .i64 l), .v (.int .i64 h)] (.one (.v (.bool (inside n l h)))) := by
 refine Ctr.of (n := 15) G Tryz.func65 rfl vm175 rfl rfl rfl (fun w0 => ?_)
 refine zcd (fun h1 => ?_) (fun h1 => ?_)
 ·refine zf1 ?_
  all_goals exact vm135
 refine zf1 ?_
 all_goals exact vm135
set_option maxHeartbeats 4000000 in
theorem c_spec_l1In (n l h : Int) : Ctr Tryz.prog 67 [.v (.int .i64 n), .v (.int .i64 l), .v (.int .i64 h)] (.one (.v (.bool (inside n l h)))) := by
 refine Ctr.of (n := 15) G Tryz.func67 rfl vm175 rfl rfl rfl (fun w0 => ?_)
 refine zcd (fun h1 => ?_) (fun h1 => ?_)
 ·refine zf1 ?_
  all_goals exact vm135
 refine zf1 ?_
 all_goals exact vm135
set_option maxHeartbeats 4000000 in
theorem c_impl_isMask (n : Int) : Ctr Tryz.prog 114 [.v (.int .i64 n)] (.one (.v (.bool (inside n 0 16)))) := by
 refine Ctr.of (n := 5) G Tryz.func114 rfl vm175 rfl rfl rfl (fun w0 => ?_)
 refine vm97 ?_
 refine zf1 ?_
 all_goals exact vm111
set_option maxHeartbeats 4000000 in
theorem c_impl_isIrq (n : Int) : Ctr Tryz.prog 115 [.v (.int .i64 n)] (.one (.v (.bool (inside n 0 7)))) := by
 refine Ctr.of (n := 5) G Tryz.func115 rfl vm175 rfl rfl rfl (fun w0 => ?_)
 refine vm97 ?_
 refine zf1 ?_
 all_goals exact vm111
set_option maxHeartbeats 4000000 in
theorem c_spec_l6Irq (n : Int) : Ctr Tryz.prog 179 [.v (.int .i64 n)] (.one (.v (.bool (inside n 0 7)))) := by
 refine Ctr.of (n := 5) G Tryz.func179 rfl vm175 rfl rfl rfl (fun w0 => ?_)
 refine vm101 ?_
 refine zf1 ?_
 all_goals exact vm111
set_option maxHeartbeats 4000000 in
theorem c_impl_isPriority (n : Int) : Ctr Tryz.prog 166 [.v (.int .i64 n)] (.one (.v (.bool (inside n 0 15)))) := by
 refine Ctr.of (n := 5) G Tryz.func166 rfl vm175 rfl rfl rfl (fun w0 => ?_)
 refine vm97 ?_
 refine zf1 ?_
 all_goals exact vm111
set_option maxHeartbeats 4000000 in
theorem c_spec_l6Prio (n : Int) : Ctr Tryz.prog 178 [.v (.int .i64 n)] (.one (.v (.bool (inside n 0 15)))) := by
 refine Ctr.of (n := 5) G Tryz.func178 rfl vm175 rfl rfl rfl (fun w0 => ?_)
 refine vm101 ?_
 refine zf1 ?_
 all_goals exact vm111
set_option maxHeartbeats 4000000 in
theorem c_laws_szRouteS (xs : List Route) (l : Int) (h0 : xs.length ≤ 9223372036854775807) (hl : 0 ≤ l ∧ l ≤ 1048576) : Ctr Tryz.prog 20 [.lst 2 (xs.map encRo), .v (.int .i64 l)] (.one (.v (.int .i64 (szL xs.length l)))) := by
 refine Ctr.of (n := 12) G Tryz.func20 rfl vm175 rfl rfl rfl (fun w0 => ?_)
 refine zcd (fun h1 => ?_) (fun h1 => ?_)
 ·refine zf1 ?_
  all_goals exact vm108
 refine zf1 ?_
 all_goals exact vm108
set_option maxHeartbeats 4000000 in
theorem c_laws_szBoolS (xs : List Bool) (l : Int) (h0 : xs.length ≤ 9223372036854775807) (hl : 0 ≤ l ∧ l ≤ 1048576) : Ctr Tryz.prog 69 [.lst 1 (xs.map encO), .v (.int .i64 l)] (.one (.v (.int .i64 (szL xs.length l)))) := by
 refine Ctr.of (n := 12) G Tryz.func69 rfl vm175 rfl rfl rfl (fun w0 => ?_)
 refine zcd (fun h1 => ?_) (fun h1 => ?_)
 ·refine zf1 ?_
  all_goals exact vm108
 refine zf1 ?_
 all_goals exact vm108
set_option maxHeartbeats 4000000 in
theorem c_laws_szIntS (xs : List Int) (l : Int) (h0 : xs.length ≤ 9223372036854775807) (hl : 0 ≤ l ∧ l ≤ 1048576) : Ctr Tryz.prog 70 [.lst 1 (xs.map Rf.encI), .v (.int .i64 l)] (.one (.v (.int .i64 (szL xs.length l)))) := by
 refine Ctr.of (n := 12) G Tryz.func70 rfl vm175 rfl rfl rfl (fun w0 => ?_)
 refine zcd (fun h1 => ?_) (fun h1 => ?_)
 ·refine zf1 ?_
  all_goals exact vm108
 refine zf1 ?_
 all_goals exact vm108
set_option maxHeartbeats 4000000 in
theorem c_laws_szMachStepS (xs : List MStep) (l : Int) (h0 : xs.length ≤ 9223372036854775807) (hl : 0 ≤ l ∧ l ≤ 1048576) : Ctr Tryz.prog 38 [.lst 4 (xs.map encMc), .v (.int .i64 l)] (.one (.v (.int .i64 (szL xs.length l)))) := by
 refine Ctr.of (n := 12) G Tryz.func38 rfl vm175 rfl rfl rfl (fun w0 => ?_)
 refine zcd (fun h1 => ?_) (fun h1 => ?_)
 ·refine zf1 ?_
  all_goals exact vm108
 refine zf1 ?_
 all_goals exact vm108
set_option maxHeartbeats 4000000 in
theorem c_laws_toRoute (x : Route) : Ctr Tryz.prog 75 [.v (encRt x)] (.one (.v (encRt x))) := by
 refine Ctr.of (n := 11) G Tryz.func75 rfl vm175 rfl rfl rfl (fun w0 => ?_)
 refine vm85 ?_
 all_goals exact vm111
set_option maxHeartbeats 4000000 in
theorem c_laws_toMachStep (x : MStep) : Ctr Tryz.prog 104 [.v (encMs x)] (.one (.v (encMs x))) := by
 refine Ctr.of (n := 17) G Tryz.func104 rfl vm175 rfl rfl rfl (fun w0 => ?_)
 refine vm85 ?_
 all_goals exact vm111
set_option maxHeartbeats 4000000 in
theorem c_laws_toRouteS (xs : List Route) (hn : xs.length ≤ 1048576) : Ctr Tryz.prog 23 [.lst 2 (xs.map encRo)] (.one (.fr 118 2 (xs.map encRo))) := by
 refine Ctr.of (n := 23) G Tryz.func23 rfl vm175 rfl rfl rfl (fun w0 => ?_)
 refine vm28 ?_
 refine W_loopK [0, 3] [] (fun (i : Nat) => [(4, .v (.int .i64 (i : Int)))]) (fun (i : Nat) => [(0, some (.row 118 2 (fill encRo (encRo ⟨0, 0⟩) xs i)))]) (fun (i : Nat) => i ≤ xs.length) (fun (i : Nat) => xs.length - i) 0 rfl rfl ?_ ?_ ?_ ?_
 ·exact Nat.zero_le _
 ·exact ⟨⟨_, rfl, by (first | rfl | (simp; done) | (simp; omega))⟩, rfl, trivial⟩
 ·exact ⟨⟨_, rfl, by (rw [fill_zero]; rfl)⟩, rfl, rfl, trivial⟩
 intro i hinv
 simp only [List.cons_append, List.nil_append]
 refine zcd (fun h1 => ?_) (fun h1 => ?_)
 ·refine zcl (c_laws_toRoute _) ?_
  refine vm17 ?_
  refine ⟨(i + 1), ?_, ?_, ⟨⟨_, rfl, by rfl⟩, rfl, trivial⟩, ⟨⟨_, rfl, by (rw [← fill_set (by omega)]; rfl)⟩, rfl, rfl, trivial⟩, rfl, rfl, rfl⟩
  ·omega
  omega
 refine zfo ?_
 all_goals exact vm117
set_option maxHeartbeats 4000000 in
theorem c_laws_toMachStepS (xs : List MStep) (hn : xs.length ≤ 1048576) : Ctr Tryz.prog 40 [.lst 4 (xs.map encMc)] (.one (.fr 40 4 (xs.map encMc))) := by
 refine Ctr.of (n := 23) G Tryz.func40 rfl vm175 rfl rfl rfl (fun w0 => ?_)
 refine vm28 ?_
 refine W_loopK [0, 3] [] (fun (i : Nat) => [(4, .v (.int .i64 (i : Int)))]) (fun (i : Nat) => [(0, some (.row 40 4 (fill encMc (encMc ⟨0, 0, 0, 0⟩) xs i)))]) (fun (i : Nat) => i ≤ xs.length) (fun (i : Nat) => xs.length - i) 0 rfl rfl ?_ ?_ ?_ ?_
 ·exact Nat.zero_le _
 ·exact ⟨⟨_, rfl, by (first | rfl | (simp; done) | (simp; omega))⟩, rfl, trivial⟩
 ·exact ⟨⟨_, rfl, by (rw [fill_zero]; rfl)⟩, rfl, rfl, trivial⟩
 intro i hinv
 simp only [List.cons_append, List.nil_append]
 refine zcd (fun h1 => ?_) (fun h1 => ?_)
 ·refine zcl (c_laws_toMachStep _) ?_
  refine vm17 ?_
  refine ⟨(i + 1), ?_, ?_, ⟨⟨_, rfl, by rfl⟩, rfl, trivial⟩, ⟨⟨_, rfl, by (rw [← fill_set (by omega)]; rfl)⟩, rfl, rfl, trivial⟩, rfl, rfl, rfl⟩
  ·omega
  omega
 refine zfo ?_
 all_goals exact vm117
set_option maxHeartbeats 4000000 in
theorem c_laws_toBoolS (xs : List Bool) (hn : xs.length ≤ 1048576) : Ctr Tryz.prog 76 [.lst 1 (xs.map encO)] (.one (.fr 4 1 (xs.map encO))) := by
 refine Ctr.of (n := 22) G Tryz.func76 rfl vm175 rfl rfl rfl (fun w0 => ?_)
 refine vm28 ?_
 refine W_loopK [0, 3] [] (fun (i : Nat) => [(4, .v (.int .i64 (i : Int)))]) (fun (i : Nat) => [(0, some (.row 4 1 (fill encO (encO false) xs i)))]) (fun (i : Nat) => i ≤ xs.length) (fun (i : Nat) => xs.length - i) 0 rfl rfl ?_ ?_ ?_ ?_
 ·exact Nat.zero_le _
 ·exact ⟨⟨_, rfl, by (first | rfl | (simp; done) | (simp; omega))⟩, rfl, trivial⟩
 ·exact ⟨⟨_, rfl, by (rw [fill_zero]; rfl)⟩, rfl, rfl, trivial⟩
 intro i hinv
 simp only [List.cons_append, List.nil_append]
 refine zcd (fun h1 => ?_) (fun h1 => ?_)
 ·refine zgo ?_
  refine vm17 ?_
  refine ⟨(i + 1), ?_, ?_, ⟨⟨_, rfl, by rfl⟩, rfl, trivial⟩, ⟨⟨_, rfl, by (rw [← fill_set (by omega)]; rfl)⟩, rfl, rfl, trivial⟩, rfl, rfl, rfl⟩
  ·omega
  omega
 refine zfo ?_
 all_goals exact vm117
set_option maxHeartbeats 4000000 in
theorem c_laws_toIntS (xs : List Int) (hn : xs.length ≤ 1048576) : Ctr Tryz.prog 77 [.lst 1 (xs.map Rf.encI)] (.one (.fr 3 1 (xs.map Rf.encI))) := by
 refine Ctr.of (n := 22) G Tryz.func77 rfl vm175 rfl rfl rfl (fun w0 => ?_)
 refine vm28 ?_
 refine W_loopK [0, 3] [] (fun (i : Nat) => [(4, .v (.int .i64 (i : Int)))]) (fun (i : Nat) => [(0, some (.row 3 1 (fill Rf.encI (Rf.encI 0) xs i)))]) (fun (i : Nat) => i ≤ xs.length) (fun (i : Nat) => xs.length - i) 0 rfl rfl ?_ ?_ ?_ ?_
 ·exact Nat.zero_le _
 ·exact ⟨⟨_, rfl, by (first | rfl | (simp; done) | (simp; omega))⟩, rfl, trivial⟩
 ·exact ⟨⟨_, rfl, by (rw [fill_zero]; rfl)⟩, rfl, rfl, trivial⟩
 intro i hinv
 simp only [List.cons_append, List.nil_append]
 refine zcd (fun h1 => ?_) (fun h1 => ?_)
 ·refine zgo ?_
  refine vm17 ?_
  refine ⟨(i + 1), ?_, ?_, ⟨⟨_, rfl, by rfl⟩, rfl, trivial⟩, ⟨⟨_, rfl, by (rw [← fill_set (by omega)]; rfl)⟩, rfl, rfl, trivial⟩, rfl, rfl, rfl⟩
  ·omega
  omega
 refine zfo ?_
 all_goals exact vm117
end Go.Proofs.YtcnodpipinlpcaaGreat
set_option maxRecDepth 20000
set_option linter.unusedVariables false
set_option linter.unusedSimpArgs false
namespace Go.Proofs.YtcnodpipinlpcaaGreat
open Go Go.Rf
set_option maxHeartbeats 4000000 in
theorem c_laws_eqRoute (x y : Route) : Ctr Tryz.prog 85 [.v (encRt x), .v (encRt y)] (.one (.v (.bool (eqRt x y)))) := by
 refine Ctr.of (n := 15) G Tryz.func85 rfl vm175 rfl rfl rfl (fun w0 => ?_)
 refine vm26 ?_
 refine zcd (fun h1 => ?_) (fun h1 => ?_)
 ·refine zf1 ?_
  all_goals exact vm145
 refine zcd (fun h2 => ?_) (fun h2 => ?_)
 ·refine zf1 ?_
  all_goals exact vm145
 refine zf1 ?_
 all_goals exact vm145
set_option maxHeartbeats 4000000 in
theorem c_laws_eqRouteS (xs ys : List Route) (hn : xs.length ≤ 9223372036854775807) : Ctr Tryz.prog 27 [.lst 2 (xs.map encRo), .lst 2 (ys.map encRo)] (.one (.v (.bool (decide (xs = ys))))) := by
 refine Ctr.of (n := 27) G Tryz.func27 rfl vm175 rfl rfl rfl (fun w0 => ?_)
 refine zcd (fun h1 => ?_) (fun h1 => ?_)
 ·refine zf1 ?_
  all_goals exact vm146
 refine zgo ?_
 refine W_loopK [0, 1] [] (fun (i : Nat) => [(5, .v (.int .i64 (i : Int)))]) (fun (i : Nat) => []) (fun (i : Nat) => i ≤ xs.length ∧ ∀ j, j < i → xs.getD j default = ys.getD j default) (fun (i : Nat) => xs.length - i) 0 rfl rfl ?_ ?_ ?_ ?_
 ·exact ⟨Nat.zero_le _, fun j hj => by omega⟩
 ·exact ⟨⟨_, rfl, by (first | rfl | (simp; done) | (simp; omega))⟩, rfl, trivial⟩
 ·exact trivial
 intro i hinv
 simp only [List.cons_append, List.nil_append]
 refine zcd (fun h2 => ?_) (fun h2 => ?_)
 ·refine zgd ?_
  refine zcl (c_laws_eqRoute _ _) ?_
  refine zcd (fun h3 => ?_) (fun h3 => ?_)
  ·refine zf1 ?_
   all_goals exact vm146
  refine zgo ?_
  refine ⟨(i + 1), ?_, ?_, ⟨⟨_, rfl, by rfl⟩, rfl, trivial⟩, trivial, rfl, rfl, rfl⟩
  ·exact ⟨by omega, upto_succ hinv.2 (by first | exact eqRt_iff.mp vm177 | exact eqRt_iff.mp vm204)⟩
  omega
 refine zf1 ?_
 all_goals exact vm146
set_option maxHeartbeats 4000000 in
theorem c_laws_eqMachStep (x y : MStep) : Ctr Tryz.prog 109 [.v (encMs x), .v (encMs y)] (.one (.v (.bool (eqMs x y)))) := by
 refine Ctr.of (n := 25) G Tryz.func109 rfl vm175 rfl rfl rfl (fun w0 => ?_)
 refine vm26 ?_
 refine zcd (fun h1 => ?_) (fun h1 => ?_)
 ·refine zf1 ?_
  all_goals exact vm129
 refine zcd (fun h2 => ?_) (fun h2 => ?_)
 ·refine zf1 ?_
  all_goals exact vm129
 refine zcd (fun h3 => ?_) (fun h3 => ?_)
 ·refine zf1 ?_
  all_goals exact vm129
 refine zcd (fun h4 => ?_) (fun h4 => ?_)
 ·refine zf1 ?_
  all_goals exact vm129
 refine zf1 ?_
 all_goals exact vm129
set_option maxHeartbeats 4000000 in
theorem c_laws_eqMachStepS (xs ys : List MStep) (hn : xs.length ≤ 9223372036854775807) : Ctr Tryz.prog 42 [.lst 4 (xs.map encMc), .lst 4 (ys.map encMc)] (.one (.v (.bool (decide (xs = ys))))) := by
 refine Ctr.of (n := 27) G Tryz.func42 rfl vm175 rfl rfl rfl (fun w0 => ?_)
 refine zcd (fun h1 => ?_) (fun h1 => ?_)
 ·refine zf1 ?_
  all_goals exact vm147
 refine zgo ?_
 refine W_loopK [0, 1] [] (fun (i : Nat) => [(5, .v (.int .i64 (i : Int)))]) (fun (i : Nat) => []) (fun (i : Nat) => i ≤ xs.length ∧ ∀ j, j < i → xs.getD j default = ys.getD j default) (fun (i : Nat) => xs.length - i) 0 rfl rfl ?_ ?_ ?_ ?_
 ·exact ⟨Nat.zero_le _, fun j hj => by omega⟩
 ·exact ⟨⟨_, rfl, by (first | rfl | (simp; done) | (simp; omega))⟩, rfl, trivial⟩
 ·exact trivial
 intro i hinv
 simp only [List.cons_append, List.nil_append]
 refine zcd (fun h2 => ?_) (fun h2 => ?_)
 ·refine zgd ?_
  refine zcl (c_laws_eqMachStep _ _) ?_
  refine zcd (fun h3 => ?_) (fun h3 => ?_)
  ·refine zf1 ?_
   all_goals exact vm147
  refine zgo ?_
  refine ⟨(i + 1), ?_, ?_, ⟨⟨_, rfl, by rfl⟩, rfl, trivial⟩, trivial, rfl, rfl, rfl⟩
  ·exact ⟨by omega, upto_succ hinv.2 (by first | exact eqMs_iff.mp vm177 | exact eqMs_iff.mp vm204)⟩
  omega
 refine zf1 ?_
 all_goals exact vm147
set_option maxHeartbeats 4000000 in
theorem c_laws_eqBoolS (xs ys : List Bool) (hn : xs.length ≤ 9223372036854775807) : Ctr Tryz.prog 83 [.lst 1 (xs.map encO), .lst 1 (ys.map encO)] (.one (.v (.bool (decide (xs = ys))))) := by
 refine Ctr.of (n := 26) G Tryz.func83 rfl vm175 rfl rfl rfl (fun w0 => ?_)
 refine zcd (fun h1 => ?_) (fun h1 => ?_)
 ·refine zf1 ?_
  all_goals exact vm121
 refine zgo ?_
 refine W_loopK [0, 1] [] (fun (i : Nat) => [(5, .v (.int .i64 (i : Int)))]) (fun (i : Nat) => []) (fun (i : Nat) => i ≤ xs.length ∧ ∀ j, j < i → xs.getD j default = ys.getD j default) (fun (i : Nat) => xs.length - i) 0 rfl rfl ?_ ?_ ?_ ?_
 ·exact ⟨Nat.zero_le _, fun j hj => by omega⟩
 ·exact ⟨⟨_, rfl, by (first | rfl | (simp; done) | (simp; omega))⟩, rfl, trivial⟩
 ·exact trivial
 intro i hinv
 simp only [List.cons_append, List.nil_append]
 refine zcd (fun h2 => ?_) (fun h2 => ?_)
 ·refine zgd ?_
  refine zgo ?_
  refine QL_cons rfl ?_
  refine vm86 ?_
  refine zcd (fun h3 => ?_) (fun h3 => ?_)
  ·refine zf1 ?_
   all_goals exact vm121
  refine zgo ?_
  refine ⟨(i + 1), ?_, ?_, ⟨⟨_, rfl, by rfl⟩, rfl, trivial⟩, trivial, rfl, rfl, rfl⟩
  ·exact ⟨by omega, upto_succ hinv.2 vm177⟩
  omega
 refine zf1 ?_
 all_goals exact vm121
set_option maxHeartbeats 4000000 in
theorem c_laws_eqIntS (xs ys : List Int) (hn : xs.length ≤ 9223372036854775807) : Ctr Tryz.prog 86 [.lst 1 (xs.map Rf.encI), .lst 1 (ys.map Rf.encI)] (.one (.v (.bool (decide (xs = ys))))) := by
 refine Ctr.of (n := 26) G Tryz.func86 rfl vm175 rfl rfl rfl (fun w0 => ?_)
 refine zcd (fun h1 => ?_) (fun h1 => ?_)
 ·refine zf1 ?_
  all_goals exact vm121
 refine zgo ?_
 refine W_loopK [0, 1] [] (fun (i : Nat) => [(5, .v (.int .i64 (i : Int)))]) (fun (i : Nat) => []) (fun (i : Nat) => i ≤ xs.length ∧ ∀ j, j < i → xs.getD j default = ys.getD j default) (fun (i : Nat) => xs.length - i) 0 rfl rfl ?_ ?_ ?_ ?_
 ·exact ⟨Nat.zero_le _, fun j hj => by omega⟩
 ·exact ⟨⟨_, rfl, by (first | rfl | (simp; done) | (simp; omega))⟩, rfl, trivial⟩
 ·exact trivial
 intro i hinv
 simp only [List.cons_append, List.nil_append]
 refine zcd (fun h2 => ?_) (fun h2 => ?_)
 ·refine zgd ?_
  refine zcd (fun h3 => ?_) (fun h3 => ?_)
  ·refine zf1 ?_
   all_goals exact vm121
  refine zgo ?_
  refine ⟨(i + 1), ?_, ?_, ⟨⟨_, rfl, by rfl⟩, rfl, trivial⟩, trivial, rfl, rfl, rfl⟩
  ·exact ⟨by omega, upto_succ hinv.2 vm177⟩
  omega
 refine zf1 ?_
 all_goals exact vm121
set_option maxHeartbeats 4000000 in
theorem c_impl_areRoutes_1 (x : Route) (c : Int) (hc : 1 ≤ c ∧ c ≤ 2) : Ctr Tryz.prog 165 [.v (encRt x), .ept [.int .i64 c]] (.one (.v (.bool (!okRt c x)))) := by
 refine Ctr.of (n := 16) G Tryz.func165 rfl vm175 rfl rfl rfl (fun w0 => ?_)
 refine vm1 ?_
 refine zcl (c_impl_isPriority _) ?_
 refine zcd (fun h1 => ?_) (fun h1 => ?_)
 ·refine zf1 ?_
  all_goals (first | rfl | (simp_all [okRt]; done))
 refine vm97 ?_
 refine zf1 ?_
 all_goals (first | rfl | (simp_all [okRt]; done))
set_option maxHeartbeats 4000000 in
theorem c_slices_IndexFunc_impl_Route_impl_Route (xs : List Route) (f : Nat) (c : List Value) (p : Route → Bool) (hl : xs.length ≤ 1048576) (hf : ∀ i, i < xs.length → Ctr Tryz.prog f [.v (encRt (xs.getD i default)), .ept c] (.one (.v (.bool (p (xs.getD i default)))))) : Ctr Tryz.prog 205 [.lst 2 (xs.map encRo), .fnc f [.ept c]] (.one (.v (.int .i64 (idxN (fun i => p (xs.getD i default)) xs.length)))) := by
 refine Ctr.of (n := 19) G Tryz.func205 rfl vm175 rfl rfl rfl (fun w0 => ?_)
 refine zgo ?_
 refine W_loopK [0, 1, 7] [] (fun (i : Nat) => [(8, .v (.int .i64 (i : Int)))]) (fun (i : Nat) => []) (fun (i : Nat) => i ≤ xs.length ∧ ∀ j, j < i → p (xs.getD j default) = false) (fun (i : Nat) => xs.length - i) 0 rfl rfl ?_ ?_ ?_ ?_
 ·exact ⟨Nat.zero_le _, fun j hj => by omega⟩
 ·exact ⟨⟨_, rfl, by (first | rfl | (simp; done) | (simp; omega))⟩, rfl, trivial⟩
 ·exact trivial
 intro i hinv
 simp only [List.cons_append, List.nil_append]
 refine zcd (fun h1 => ?_) (fun h1 => ?_)
 ·refine vm39 ?_
  refine zcd (fun h2 => ?_) (fun h2 => ?_)
  ·refine zf1 ?_
   all_goals exact vm109
  refine zgo ?_
  refine ⟨(i + 1), ?_, ?_, ⟨⟨_, rfl, by rfl⟩, rfl, trivial⟩, trivial, rfl, rfl, rfl⟩
  ·exact ⟨by omega, upto_succ hinv.2 vm177⟩
  omega
 refine zf1 ?_
 all_goals exact vm109
set_option maxHeartbeats 4000000 in
theorem c_slices_ContainsFunc_impl_Route_impl_Route (xs : List Route) (f : Nat) (c : List Value) (p : Route → Bool) (hl : xs.length ≤ 1048576) (hf : ∀ i, i < xs.length → Ctr Tryz.prog f [.v (encRt (xs.getD i default)), .ept c] (.one (.v (.bool (p (xs.getD i default)))))) : Ctr Tryz.prog 164 [.lst 2 (xs.map encRo), .fnc f [.ept c]] (.one (.v (.bool (anyN xs.length (fun i => p (xs.getD i default)))))) := by
 refine Ctr.of (n := 9) G Tryz.func164 rfl vm175 rfl rfl rfl (fun w0 => ?_)
 refine zcl (c_slices_IndexFunc_impl_Route_impl_Route xs f c p hl hf) ?_
 refine zf1 ?_
 all_goals (rw [idx_any])
set_option maxHeartbeats 4000000 in
theorem c_impl_areRoutes (rs : List Route) (c : Int) (hn : rs.length ≤ 9223372036854775807) : Ctr Tryz.prog 113 [.lst 2 (rs.map encRo), .v (.int .i64 c)] (.one (.v (.bool (okRts rs c)))) := by
 refine Ctr.of (n := 18) G Tryz.func113 rfl vm175 rfl rfl rfl (fun w0 => ?_)
 refine vm1 ?_
 refine vm97 ?_
 refine zcd (fun h1 => ?_) (fun h1 => ?_)
 ·refine zcd (fun h2 => ?_) (fun h2 => ?_)
  ·refine zgo ?_
   refine vm78 ?_
   refine WX_q rfl rfl (q_func rfl rfl) ?_
   refine zcl (c_slices_ContainsFunc_impl_Route_impl_Route rs 165 [.int .i64 c] (fun x => !okRt c x) (by omega) (fun k hk => c_impl_areRoutes_1 _ _ (inside_t.mp vm177))) ?_
   refine zf1 ?_
   all_goals exact vm148
  refine zf1 ?_
  all_goals exact vm148
 refine zf1 ?_
 all_goals exact vm148
set_option maxHeartbeats 4000000 in
theorem c_spec_l21Routes (rs : List Route) (c : Int) (hn : rs.length ≤ 1048576) (hc : 0 ≤ c ∧ c ≤ 1048576) : Ctr Tryz.prog 130 [.lst 2 (rs.map encRo), .v (.int .i64 c)] (.one (.v (.bool (okRts rs c)))) := by
 refine Ctr.of (n := 37) G Tryz.func130 rfl vm175 rfl rfl rfl (fun w0 => ?_)
 refine zgo ?_
 refine W_loopK [0, 1] [] (fun (i : Nat) => [(5, .v (.int .i64 (i : Int)))]) (fun (i : Nat) => []) (fun (i : Nat) => i ≤ rs.length ∧ ∀ j, j < i → okRt c (rs.getD j default) = true) (fun (i : Nat) => rs.length - i) 0 rfl rfl ?_ ?_ ?_ ?_
 ·exact ⟨Nat.zero_le _, fun j hj => by omega⟩
 ·exact ⟨⟨_, rfl, by (first | rfl | (simp; done) | (simp; omega))⟩, rfl, trivial⟩
 ·exact trivial
 intro i hinv
 simp only [List.cons_append, List.nil_append]
 refine zcd (fun h1 => ?_) (fun h1 => ?_)
 ·refine zcl (c_spec_l6Prio _) ?_
  refine zcd (fun h2 => ?_) (fun h2 => ?_)
  ·refine zwt ?_
   refine zf1 ?_
   all_goals exact vm136
  refine vm101 ?_
  refine zcd (fun h3 => ?_) (fun h3 => ?_)
  ·refine zf1 ?_
   all_goals exact vm136
  refine zgo ?_
  refine ⟨(i + 1), ?_, ?_, ⟨⟨_, rfl, by rfl⟩, rfl, trivial⟩, trivial, rfl, rfl, rfl⟩
  ·exact ⟨by omega, upto_succ hinv.2 (by simp_all [okRt])⟩
  omega
 refine vm101 ?_
 refine zcd (fun h4 => ?_) (fun h4 => ?_)
 ·refine zf1 ?_
  all_goals exact vm136
 refine zf1 ?_
 all_goals exact vm136
end Go.Proofs.YtcnodpipinlpcaaGreat
set_option maxRecDepth 20000
set_option linter.unusedVariables false
set_option linter.unusedSimpArgs false
namespace Go.Proofs.YtcnodpipinlpcaaGreat
open Go Go.Rf
end Go.Proofs.YtcnodpipinlpcaaGreat
