/- The types of this program, as a table that is held against it by evaluation. -/
import Derived.Test.YtbepplocdmnchaaProg
import Derived.Test.YtbepplocdmnchaaRfM
import Derived.KernelRfl
namespace Go.Proofs.Ytbepplocdmnchaa
open Go Go.Rf
def tb : List (Nat × TyI) := [
  (2, .flat (.int .i64) (.int .i64 0)),
  (3, .flat (.int .i64) (.int .i64 0)),
  (4, .flat .bool (.bool false)),
  (5, .flat (.int .u8) (.int .u8 0)),
  (6, .flat (.int .u8) (.int .u8 0)),
  (7, .struct [(0, 2), (1, 3), (2, 4), (3, 6)] [.int .i64 0, .int .i64 0, .bool false, .int .u8 0]),
  (8, .struct [(0, 2), (1, 3), (2, 4), (3, 6)] [.int .i64 0, .int .i64 0, .bool false, .int .u8 0]),
  (9, .flat .str (.string ⟨#[]⟩)),
  (10, .flat .str (.string ⟨#[]⟩)),
  (11, .flat .str (.string ⟨#[]⟩)),
  (12, .flat (.int .u64) (.int .u64 0)),
  (13, .struct [(0, 9), (1, 12)] [.string ⟨#[]⟩, .int .u64 0]),
  (14, .struct [(0, 9), (1, 12)] [.string ⟨#[]⟩, .int .u64 0]),
  (15, .flat .other (.pointer none)),
  (16, .flat .other (.pointer none)),
  (17, .flat .other (.pointer none)),
  (18, .struct [(0, 17)] [.pointer none]),
  (19, .struct [(0, 17)] [.pointer none]),
  (21, .flat (.int .i32) (.int .i32 0)),
  (22, .slice 53 3 24 [.int .i64 0, .int .i64 0, .int .i64 0]),
  (25, .slice 48 3 24 [.int .i64 0, .int .i64 0, .int .i64 0]),
  (39, .slice 3 1 8 [.int .i64 0]),
  (44, .slice 5 1 1 [.int .u8 0]),
  (47, .struct [(0, 3), (1, 3), (2, 3)] [.int .i64 0, .int .i64 0, .int .i64 0]),
  (48, .struct [(0, 3), (1, 3), (2, 3)] [.int .i64 0, .int .i64 0, .int .i64 0]),
  (53, .struct [(0, 3), (1, 3), (2, 3)] [.int .i64 0, .int .i64 0, .int .i64 0]),
  (66, .flat .other (.pointer none)),
  (67, .flat (.int .u64) (.int .u64 0)),
  (68, .struct [(0, 44), (1, 3), (2, 67)] [.slice none 0 0, .int .i64 0, .int .u64 0]),
  (69, .struct [(0, 44), (1, 3), (2, 67)] [.slice none 0 0, .int .i64 0, .int .u64 0]),
  (71, .flat (.int .u64) (.int .u64 0)),
  (73, .struct [(0, 17), (1, 17), (2, 17), (3, 9)] [.pointer none, .pointer none, .pointer none, .string ⟨#[]⟩]),
  (74, .struct [(0, 17), (1, 17), (2, 17), (3, 9)] [.pointer none, .pointer none, .pointer none, .string ⟨#[]⟩]),
  (78, .flat (.int .u32) (.int .u32 0)),
  (79, .flat (.int .u8) (.int .u8 0)),
  (80, .flat (.int .u8) (.int .u8 0)),
  (82, .flat .other (.pointer none)),
  (83, .flat (.int .i32) (.int .i32 0)),
  (84, .flat (.int .i32) (.int .i32 0))]
theorem G : Go.Rf.Good Try.prog tb := Go.Rf.Good.of (by kernel_rfl)
instance : Env Try.prog := ⟨fun _ => True, fun _ _ => trivial⟩
theorem mixed : Try.prog.follows .mixedOrders = true := by kernel_rfl
end Go.Proofs.Ytbepplocdmnchaa
