/- The types of this program, as a table that is held against it by evaluation. -/
import Derived.Test.YtehijimgenicfaaProg
import Derived.Test.YtehijimgenicfaaRfM
import Derived.KernelRfl
namespace Go.Proofs.Ytehijimgenicfaa
open Go Go.Rf
def tb : List (Nat × TyI) := [
  (2, .flat (.int .i64) (.int .i64 0)),
  (3, .flat (.int .i64) (.int .i64 0)),
  (4, .flat .bool (.bool false)),
  (5, .flat (.int .u8) (.int .u8 0)),
  (6, .flat (.int .u8) (.int .u8 0)),
  (7, .struct [(0, 2), (1, 3), (2, 4), (3, 6)] [.int .i64 0, .int .i64 0, .bool false, .int .u8 0]),
  (8, .struct [(0, 2), (1, 3), (2, 4), (3, 6)] [.int .i64 0, .int .i64 0, .bool false, .int .u8 0]),
  (9, .flat .str (.string ⟨#[]⟩)),
  (10, .flat .str (.string ⟨#[]⟩)),
  (11, .flat .str (.string ⟨#[]⟩)),
  (12, .flat (.int .u64) (.int .u64 0)),
  (13, .struct [(0, 9), (1, 12)] [.string ⟨#[]⟩, .int .u64 0]),
  (14, .struct [(0, 9), (1, 12)] [.string ⟨#[]⟩, .int .u64 0]),
  (15, .flat .other (.pointer none)),
  (16, .flat .other (.pointer none)),
  (17, .flat .other (.pointer none)),
  (18, .struct [(0, 17)] [.pointer none]),
  (19, .struct [(0, 17)] [.pointer none]),
  (21, .flat (.int .i32) (.int .i32 0)),
  (22, .slice 36 6 56 [.int .i64 0, .string ⟨#[]⟩, .int .i64 0, .int .i64 0, .int .i64 0, .bool false]),
  (25, .slice 39 6 56 [.int .i64 0, .string ⟨#[]⟩, .int .i64 0, .int .i64 0, .int .i64 0, .bool false]),
  (35, .struct [(0, 3), (1, 9), (2, 3), (3, 3), (4, 3), (5, 4)] [.int .i64 0, .string ⟨#[]⟩, .int .i64 0, .int .i64 0, .int .i64 0, .bool false]),
  (36, .struct [(0, 3), (1, 9), (2, 3), (3, 3), (4, 3), (5, 4)] [.int .i64 0, .string ⟨#[]⟩, .int .i64 0, .int .i64 0, .int .i64 0, .bool false]),
  (39, .struct [(0, 3), (1, 9), (2, 3), (3, 3), (4, 3), (5, 4)] [.int .i64 0, .string ⟨#[]⟩, .int .i64 0, .int .i64 0, .int .i64 0, .bool false]),
  (42, .slice 5 1 1 [.int .u8 0]),
  (56, .flat .other (.pointer none)),
  (57, .flat (.int .u64) (.int .u64 0)),
  (58, .struct [(0, 42), (1, 3), (2, 57)] [.slice none 0 0, .int .i64 0, .int .u64 0]),
  (59, .struct [(0, 42), (1, 3), (2, 57)] [.slice none 0 0, .int .i64 0, .int .u64 0]),
  (64, .slice 3 1 8 [.int .i64 0]),
  (72, .slice 9 1 16 [.string ⟨#[]⟩]),
  (74, .flat (.int .u64) (.int .u64 0)),
  (77, .struct [(0, 17), (1, 17), (2, 17), (3, 9)] [.pointer none, .pointer none, .pointer none, .string ⟨#[]⟩]),
  (78, .struct [(0, 17), (1, 17), (2, 17), (3, 9)] [.pointer none, .pointer none, .pointer none, .string ⟨#[]⟩]),
  (82, .flat (.int .u32) (.int .u32 0)),
  (83, .flat (.int .u8) (.int .u8 0)),
  (84, .flat (.int .u8) (.int .u8 0)),
  (86, .flat .other (.pointer none)),
  (87, .flat (.int .i32) (.int .i32 0)),
  (88, .flat (.int .i32) (.int .i32 0))]
theorem G : Go.Rf.Good Try.prog tb := Go.Rf.Good.of (by kernel_rfl)
instance : Env Try.prog := ⟨fun _ => True, fun _ _ => trivial⟩
theorem mixed : Try.prog.follows .mixedOrders = true := by kernel_rfl
end Go.Proofs.Ytehijimgenicfaa
