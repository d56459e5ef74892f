/- The types of this program, as a table that is held against it by evaluation. -/
import Derived.Test.YtehijimgenicfaaDoorProg
import Derived.Test.YtehijimgenicfaaDoorRfM
import Derived.KernelRfl
import Derived.Test.YtehijimgenicfaaDoorRfV
namespace Go.Proofs.YtehijimgenicfaaDoor
open Go Go.Rf
def tb : List (Nat × TyI) := [
  (2, .flat (.int .i64) (.int .i64 0)),
  (3, .flat (.int .i64) (.int .i64 0)),
  (4, .flat .bool (.bool false)),
  (5, .flat (.int .u8) (.int .u8 0)),
  (6, .flat (.int .u8) (.int .u8 0)),
  (7, .struct [(0, 2), (1, 3), (2, 4), (3, 6)] [.int .i64 0, .int .i64 0, .bool false, .int .u8 0]),
  (8, .struct [(0, 2), (1, 3), (2, 4), (3, 6)] [.int .i64 0, .int .i64 0, .bool false, .int .u8 0]),
  (9, .flat .str (.string ⟨#[]⟩)),
  (10, .flat .str (.string ⟨#[]⟩)),
  (11, .flat .str (.string ⟨#[]⟩)),
  (12, .flat (.int .u64) (.int .u64 0)),
  (13, .struct [(0, 9), (1, 12)] [.string ⟨#[]⟩, .int .u64 0]),
  (14, .struct [(0, 9), (1, 12)] [.string ⟨#[]⟩, .int .u64 0]),
  (15, .flat .other (.pointer none)),
  (16, .flat .other (.pointer none)),
  (17, .flat .other (.pointer none)),
  (18, .struct [(0, 17)] [.pointer none]),
  (19, .struct [(0, 17)] [.pointer none]),
  (21, .flat (.int .i32) (.int .i32 0)),
  (22, .struct [(0, 3), (1, 9), (2, 3), (3, 3), (4, 3), (5, 4)] [.int .i64 0, .string ⟨#[]⟩, .int .i64 0, .int .i64 0, .int .i64 0, .bool false]),
  (23, .struct [(0, 3), (1, 9), (2, 3), (3, 3), (4, 3), (5, 4)] [.int .i64 0, .string ⟨#[]⟩, .int .i64 0, .int .i64 0, .int .i64 0, .bool false]),
  (27, .struct [(0, 3), (1, 9), (2, 3), (3, 3), (4, 3), (5, 4)] [.int .i64 0, .string ⟨#[]⟩, .int .i64 0, .int .i64 0, .int .i64 0, .bool false]),
  (30, .slice 23 6 56 [.int .i64 0, .string ⟨#[]⟩, .int .i64 0, .int .i64 0, .int .i64 0, .bool false]),
  (33, .slice 27 6 56 [.int .i64 0, .string ⟨#[]⟩, .int .i64 0, .int .i64 0, .int .i64 0, .bool false]),
  (44, .slice 5 1 1 [.int .u8 0]),
  (52, .slice 9 1 16 [.string ⟨#[]⟩]),
  (60, .flat .other (.pointer none)),
  (61, .flat (.int .u64) (.int .u64 0)),
  (62, .struct [(0, 44), (1, 3), (2, 61)] [.slice none 0 0, .int .i64 0, .int .u64 0]),
  (63, .struct [(0, 44), (1, 3), (2, 61)] [.slice none 0 0, .int .i64 0, .int .u64 0]),
  (77, .slice 3 1 8 [.int .i64 0]),
  (85, .flat (.int .u64) (.int .u64 0)),
  (91, .flat (.int .i64) (.int .i64 0)),
  (94, .flat .other (.pointer none)),
  (105, .struct [(0, 9), (1, 9), (2, 72)] [.string ⟨#[]⟩, .string ⟨#[]⟩, .nilIface]),
  (106, .struct [(0, 9), (1, 9), (2, 72)] [.string ⟨#[]⟩, .string ⟨#[]⟩, .nilIface]),
  (110, .flat (.int .u32) (.int .u32 0)),
  (114, .struct [(0, 5), (1, 5)] [.int .u8 0, .int .u8 0]),
  (115, .struct [(0, 5), (1, 5)] [.int .u8 0, .int .u8 0]),
  (120, .flat .other (.pointer none)),
  (121, .flat .other (.pointer none)),
  (122, .struct [(0, 9)] [.string ⟨#[]⟩]),
  (123, .struct [(0, 9)] [.string ⟨#[]⟩]),
  (128, .struct [(0, 17), (1, 17), (2, 17), (3, 9)] [.pointer none, .pointer none, .pointer none, .string ⟨#[]⟩]),
  (129, .struct [(0, 17), (1, 17), (2, 17), (3, 9)] [.pointer none, .pointer none, .pointer none, .string ⟨#[]⟩]),
  (133, .flat (.int .u8) (.int .u8 0)),
  (134, .flat (.int .u8) (.int .u8 0)),
  (136, .flat (.int .i32) (.int .i32 0)),
  (137, .flat (.int .i32) (.int .i32 0))]
theorem G : Go.Rf.Good Tryd.prog tb := Go.Rf.Good.of (by kernel_rfl)
open Go.Lib in
instance : Env Tryd.prog := ⟨fun w => TabIs Tryd.prog w "internal/strconv.uint64pow10" .u64 pow10Tab, fun h hb => Rf.tab_below h hb⟩
theorem mixed : Tryd.prog.follows .mixedOrders = true := by kernel_rfl
end Go.Proofs.YtehijimgenicfaaDoor
