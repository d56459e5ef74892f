/- The types of this program, as a table that is held against it by evaluation. -/
import Derived.Test.YthpllgbaeokeiaaDoorProg
import Derived.Test.YthpllgbaeokeiaaDoorRfM
import Derived.KernelRfl
import Derived.Test.YthpllgbaeokeiaaDoorRfV
namespace Go.Proofs.YthpllgbaeokeiaaDoor
open Go Go.Rf
def tb : List (Nat × TyI) := [
  (2, .flat (.int .i64) (.int .i64 0)),
  (3, .flat (.int .i64) (.int .i64 0)),
  (4, .flat .bool (.bool false)),
  (5, .flat (.int .u8) (.int .u8 0)),
  (6, .flat (.int .u8) (.int .u8 0)),
  (7, .struct [(0, 2), (1, 3), (2, 4), (3, 6)] [.int .i64 0, .int .i64 0, .bool false, .int .u8 0]),
  (8, .struct [(0, 2), (1, 3), (2, 4), (3, 6)] [.int .i64 0, .int .i64 0, .bool false, .int .u8 0]),
  (9, .flat .str (.string ⟨#[]⟩)),
  (10, .flat .str (.string ⟨#[]⟩)),
  (11, .flat .str (.string ⟨#[]⟩)),
  (12, .flat (.int .u64) (.int .u64 0)),
  (13, .struct [(0, 9), (1, 12)] [.string ⟨#[]⟩, .int .u64 0]),
  (14, .struct [(0, 9), (1, 12)] [.string ⟨#[]⟩, .int .u64 0]),
  (15, .flat .other (.pointer none)),
  (16, .flat .other (.pointer none)),
  (17, .flat .other (.pointer none)),
  (18, .struct [(0, 17)] [.pointer none]),
  (19, .struct [(0, 17)] [.pointer none]),
  (21, .flat (.int .i32) (.int .i32 0)),
  (22, .struct [(0, 9), (1, 9)] [.string ⟨#[]⟩, .string ⟨#[]⟩]),
  (23, .struct [(0, 9), (1, 9)] [.string ⟨#[]⟩, .string ⟨#[]⟩]),
  (27, .struct [(0, 9), (1, 9)] [.string ⟨#[]⟩, .string ⟨#[]⟩]),
  (30, .struct [(0, 9), (1, 9), (2, 3)] [.string ⟨#[]⟩, .string ⟨#[]⟩, .int .i64 0]),
  (31, .struct [(0, 9), (1, 9), (2, 3)] [.string ⟨#[]⟩, .string ⟨#[]⟩, .int .i64 0]),
  (36, .struct [(0, 9), (1, 9), (2, 3)] [.string ⟨#[]⟩, .string ⟨#[]⟩, .int .i64 0]),
  (48, .slice 27 2 32 [.string ⟨#[]⟩, .string ⟨#[]⟩]),
  (53, .slice 5 1 1 [.int .u8 0]),
  (66, .slice 3 1 8 [.int .i64 0]),
  (71, .flat .other (.pointer none)),
  (72, .flat (.int .u64) (.int .u64 0)),
  (73, .struct [(0, 53), (1, 3), (2, 72)] [.slice none 0 0, .int .i64 0, .int .u64 0]),
  (74, .struct [(0, 53), (1, 3), (2, 72)] [.slice none 0 0, .int .i64 0, .int .u64 0]),
  (86, .slice 9 1 16 [.string ⟨#[]⟩]),
  (98, .flat (.int .u64) (.int .u64 0)),
  (106, .flat (.int .u32) (.int .u32 0)),
  (117, .struct [(0, 17), (1, 17), (2, 17), (3, 9)] [.pointer none, .pointer none, .pointer none, .string ⟨#[]⟩]),
  (118, .struct [(0, 17), (1, 17), (2, 17), (3, 9)] [.pointer none, .pointer none, .pointer none, .string ⟨#[]⟩]),
  (122, .flat (.int .u8) (.int .u8 0)),
  (123, .flat (.int .u8) (.int .u8 0)),
  (125, .flat .other (.pointer none)),
  (126, .flat (.int .i32) (.int .i32 0)),
  (127, .flat (.int .i32) (.int .i32 0))]
theorem G : Go.Rf.Good Tryd.prog tb := Go.Rf.Good.of (by kernel_rfl)
open Go.Lib in
instance : Env Tryd.prog := ⟨fun w => TabIs Tryd.prog w "internal/strconv.uint64pow10" .u64 pow10Tab ∧ ∃ m : Int, w.cell? ⟨0, 0, none⟩ = some (.int .i64 m),
  fun h hb => ⟨Rf.tab_below h.1 hb, let ⟨m, hm⟩ := h.2; ⟨m, (Rf.cell_below hm hb)⟩⟩⟩
theorem mixed : Tryd.prog.follows .mixedOrders = true := by kernel_rfl
end Go.Proofs.YthpllgbaeokeiaaDoor
