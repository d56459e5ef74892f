/- The types of this program, as a table that is held against it by evaluation. -/
import Derived.Test.YteplehpcplbioaaProg
import Derived.Test.YteplehpcplbioaaRfM
import Derived.KernelRfl
namespace Go.Proofs.Yteplehpcplbioaa
open Go Go.Rf
def tb : List (Nat × TyI) := [
  (2, .flat (.int .i64) (.int .i64 0)),
  (3, .flat (.int .i64) (.int .i64 0)),
  (4, .flat .bool (.bool false)),
  (5, .flat (.int .u8) (.int .u8 0)),
  (6, .flat (.int .u8) (.int .u8 0)),
  (7, .struct [(0, 2), (1, 3), (2, 4), (3, 6)] [.int .i64 0, .int .i64 0, .bool false, .int .u8 0]),
  (8, .struct [(0, 2), (1, 3), (2, 4), (3, 6)] [.int .i64 0, .int .i64 0, .bool false, .int .u8 0]),
  (9, .flat .str (.string ⟨#[]⟩)),
  (10, .flat .str (.string ⟨#[]⟩)),
  (11, .flat .str (.string ⟨#[]⟩)),
  (12, .flat (.int .u64) (.int .u64 0)),
  (13, .struct [(0, 9), (1, 12)] [.string ⟨#[]⟩, .int .u64 0]),
  (14, .struct [(0, 9), (1, 12)] [.string ⟨#[]⟩, .int .u64 0]),
  (15, .flat .other (.pointer none)),
  (16, .flat .other (.pointer none)),
  (17, .flat .other (.pointer none)),
  (18, .struct [(0, 17)] [.pointer none]),
  (19, .struct [(0, 17)] [.pointer none]),
  (21, .flat (.int .i32) (.int .i32 0)),
  (22, .struct [(0, 3), (1, 3), (2, 3), (3, 3), (4, 3)] [.int .i64 0, .int .i64 0, .int .i64 0, .int .i64 0, .int .i64 0]),
  (23, .struct [(0, 3), (1, 3), (2, 3), (3, 3), (4, 3)] [.int .i64 0, .int .i64 0, .int .i64 0, .int .i64 0, .int .i64 0]),
  (26, .struct [(0, 3), (1, 3), (2, 3), (3, 3), (4, 3)] [.int .i64 0, .int .i64 0, .int .i64 0, .int .i64 0, .int .i64 0]),
  (32, .slice 23 5 40 [.int .i64 0, .int .i64 0, .int .i64 0, .int .i64 0, .int .i64 0]),
  (35, .slice 26 5 40 [.int .i64 0, .int .i64 0, .int .i64 0, .int .i64 0, .int .i64 0]),
  (46, .slice 3 1 8 [.int .i64 0]),
  (47, .slice 4 1 1 [.bool false]),
  (61, .slice 5 1 1 [.int .u8 0]),
  (75, .struct [(0, 3), (1, 9), (2, 3), (3, 3), (4, 3), (5, 4)] [.int .i64 0, .string ⟨#[]⟩, .int .i64 0, .int .i64 0, .int .i64 0, .bool false]),
  (76, .struct [(0, 3), (1, 9), (2, 3), (3, 3), (4, 3), (5, 4)] [.int .i64 0, .string ⟨#[]⟩, .int .i64 0, .int .i64 0, .int .i64 0, .bool false]),
  (79, .struct [(0, 3), (1, 9), (2, 3), (3, 3), (4, 3), (5, 4)] [.int .i64 0, .string ⟨#[]⟩, .int .i64 0, .int .i64 0, .int .i64 0, .bool false]),
  (88, .flat .other (.pointer none)),
  (89, .flat (.int .u64) (.int .u64 0)),
  (90, .struct [(0, 61), (1, 3), (2, 89)] [.slice none 0 0, .int .i64 0, .int .u64 0]),
  (91, .struct [(0, 61), (1, 3), (2, 89)] [.slice none 0 0, .int .i64 0, .int .u64 0]),
  (100, .flat (.int .u64) (.int .u64 0)),
  (102, .struct [(0, 17), (1, 17), (2, 17), (3, 9)] [.pointer none, .pointer none, .pointer none, .string ⟨#[]⟩]),
  (103, .struct [(0, 17), (1, 17), (2, 17), (3, 9)] [.pointer none, .pointer none, .pointer none, .string ⟨#[]⟩]),
  (107, .flat (.int .u32) (.int .u32 0)),
  (108, .flat (.int .u8) (.int .u8 0)),
  (109, .flat (.int .u8) (.int .u8 0)),
  (111, .flat .other (.pointer none)),
  (112, .flat (.int .i32) (.int .i32 0)),
  (113, .flat (.int .i32) (.int .i32 0))]
theorem G : Go.Rf.Good Try.prog tb := Go.Rf.Good.of (by kernel_rfl)
instance : Env Try.prog := ⟨fun _ => True, fun _ _ => trivial⟩
theorem mixed : Try.prog.follows .mixedOrders = true := by kernel_rfl
end Go.Proofs.Yteplehpcplbioaa
