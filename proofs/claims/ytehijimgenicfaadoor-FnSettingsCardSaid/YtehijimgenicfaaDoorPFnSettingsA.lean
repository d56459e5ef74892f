/- Texts merged into one: Tab, Shelf, S, M, W1, N, W2, X1, X2, X3. -/
import Derived.Test.YtehijimgenicfaaDoorLibC
import Derived.Test.YtehijimgenicfaaDoorProg
import Derived.KernelRfl
import Derived.Shelf.Utf8.RuneCount
import Derived.Shelf.Strconv.Itoa0
import Derived.Shelf.Strconv.Itoa1
import Derived.Shelf.LaysM
import Derived.Shelf.Strconv.Itoa2
import Derived.Shelf.Strconv.Itoa3
import Derived.Shelf.Strings.Search1
import Derived.Shelf.Strings.Search2
import Derived.Shelf.Strings.Search3
import Derived.Shelf.Strings.Count
import Derived.Shelf.Strings.Shaped
import Derived.Shelf.Strings.Split
import Derived.Shelf.Strings.SplitShaped
import Derived.Shelf.Unicode.Decode
import Derived.Shelf.Strings.RuneCount
import Derived.Shelf.Strings.Explode
import Derived.Shelf.Unicode.DecodeSlow
import Derived.Shelf.Unicode.DecodeAny
/- The types of this program, as a table that is held against it by evaluation. -/
namespace Go.Proofs.YtehijimgenicfaaDoor
open Go Go.Rf
def tb : List (Nat × TyI) := [
  (2, .flat (.int .i64) (.int .i64 0)),
  (3, .flat (.int .i64) (.int .i64 0)),
  (4, .flat .bool (.bool false)),
  (5, .flat (.int .u8) (.int .u8 0)),
  (6, .flat (.int .u8) (.int .u8 0)),
  (7, .struct [(0, 2), (1, 3), (2, 4), (3, 6)] [.int .i64 0, .int .i64 0, .bool false, .int .u8 0]),
  (8, .struct [(0, 2), (1, 3), (2, 4), (3, 6)] [.int .i64 0, .int .i64 0, .bool false, .int .u8 0]),
  (9, .flat .str (.string ⟨#[]⟩)),
  (10, .flat .str (.string ⟨#[]⟩)),
  (11, .flat .str (.string ⟨#[]⟩)),
  (12, .flat (.int .u64) (.int .u64 0)),
  (13, .struct [(0, 9), (1, 12)] [.string ⟨#[]⟩, .int .u64 0]),
  (14, .struct [(0, 9), (1, 12)] [.string ⟨#[]⟩, .int .u64 0]),
  (15, .flat .other (.pointer none)),
  (16, .flat .other (.pointer none)),
  (17, .flat .other (.pointer none)),
  (18, .struct [(0, 17)] [.pointer none]),
  (19, .struct [(0, 17)] [.pointer none]),
  (21, .flat (.int .i32) (.int .i32 0)),
  (22, .struct [(0, 3), (1, 9), (2, 3), (3, 3), (4, 3), (5, 4)] [.int .i64 0, .string ⟨#[]⟩, .int .i64 0, .int .i64 0, .int .i64 0, .bool false]),
  (23, .struct [(0, 3), (1, 9), (2, 3), (3, 3), (4, 3), (5, 4)] [.int .i64 0, .string ⟨#[]⟩, .int .i64 0, .int .i64 0, .int .i64 0, .bool false]),
  (27, .struct [(0, 3), (1, 9), (2, 3), (3, 3), (4, 3), (5, 4)] [.int .i64 0, .string ⟨#[]⟩, .int .i64 0, .int .i64 0, .int .i64 0, .bool false]),
  (30, .slice 23 6 56 [.int .i64 0, .string ⟨#[]⟩, .int .i64 0, .int .i64 0, .int .i64 0, .bool false]),
  (33, .slice 27 6 56 [.int .i64 0, .string ⟨#[]⟩, .int .i64 0, .int .i64 0, .int .i64 0, .bool false]),
  (44, .slice 5 1 1 [.int .u8 0]),
  (52, .slice 9 1 16 [.string ⟨#[]⟩]),
  (60, .flat .other (.pointer none)),
  (61, .flat (.int .u64) (.int .u64 0)),
  (62, .struct [(0, 44), (1, 3), (2, 61)] [.slice none 0 0, .int .i64 0, .int .u64 0]),
  (63, .struct [(0, 44), (1, 3), (2, 61)] [.slice none 0 0, .int .i64 0, .int .u64 0]),
  (77, .slice 3 1 8 [.int .i64 0]),
  (85, .flat (.int .u64) (.int .u64 0)),
  (91, .flat (.int .i64) (.int .i64 0)),
  (94, .flat .other (.pointer none)),
  (105, .struct [(0, 9), (1, 9), (2, 72)] [.string ⟨#[]⟩, .string ⟨#[]⟩, .nilIface]),
  (106, .struct [(0, 9), (1, 9), (2, 72)] [.string ⟨#[]⟩, .string ⟨#[]⟩, .nilIface]),
  (110, .flat (.int .u32) (.int .u32 0)),
  (114, .struct [(0, 5), (1, 5)] [.int .u8 0, .int .u8 0]),
  (115, .struct [(0, 5), (1, 5)] [.int .u8 0, .int .u8 0]),
  (120, .flat .other (.pointer none)),
  (121, .flat .other (.pointer none)),
  (122, .struct [(0, 9)] [.string ⟨#[]⟩]),
  (123, .struct [(0, 9)] [.string ⟨#[]⟩]),
  (128, .struct [(0, 17), (1, 17), (2, 17), (3, 9)] [.pointer none, .pointer none, .pointer none, .string ⟨#[]⟩]),
  (129, .struct [(0, 17), (1, 17), (2, 17), (3, 9)] [.pointer none, .pointer none, .pointer none, .string ⟨#[]⟩]),
  (133, .flat (.int .u8) (.int .u8 0)),
  (134, .flat (.int .u8) (.int .u8 0)),
  (136, .flat (.int .i32) (.int .i32 0)),
  (137, .flat (.int .i32) (.int .i32 0))]
theorem G : Go.Rf.Good Tryd.prog tb := Go.Rf.Good.of (by kernel_rfl)
open Go.Lib in
instance : Env Tryd.prog := ⟨fun w => TabIs Tryd.prog w "internal/strconv.uint64pow10" .u64 pow10Tab ∧ (∃ ev : Value, w.cell? ⟨1, 0, none⟩ = some ev ∧ (ev = .nilIface ∨ ∃ te pe, ev = .iface te pe)) ∧ ∃ m : Int, w.cell? ⟨0, 0, none⟩ = some (.int .i64 m),
  fun h hb => ⟨Rf.tab_below h.1 hb, (let ⟨ev, h1, h2⟩ := h.2.1; ⟨ev, Rf.cell_below h1 hb, h2⟩), let ⟨m, hm⟩ := h.2.2; ⟨m, Rf.cell_below hm hb⟩⟩⟩
theorem mixed : Tryd.prog.follows .mixedOrders = true := by kernel_rfl
end Go.Proofs.YtehijimgenicfaaDoor

/-
  DERIVED: THE SHELF's CONTRACTS AT THIS DUMP, IN PLAIN WORDS (tools/lay-plain.mjs out of 'TrydShelf.lean', which tools/lay-shelf.mjs wrote): THE SAME DECLARATIONS UNDER THE SAME NAMES: 'import', 'namespace', 'open', 'def', 'theorem' AND NOTHING ELSE: no command of the shelf's: FOR A HAND-IN. Each laying: the table of numbers ('.._ren') and one theorem, a field a fact of the dump's own or the kernel's comparison; each contract: ONE APPLICATION.
-/
namespace Go.Proofs
open Go.Shelf
def Tryd.lays195_ren : Go.Shelf.Ren := ⟨fun | 195 => 75 | n => n, fun | 9 => 9 | 3 => 3 | 0 => 0 | 4 => 4 | n => n, fun | n => n⟩
theorem Tryd.lays195 : Go.Proofs.Lays.n195 Tryd.prog Tryd.lays195_ren := {
  mixed := by kernel_rfl
  f195 := Tryd.func75.trans (congrArg some (by kernel_rfl))
  t0 := Tryd.underlying0
  a0 := Tryd.isAgg0
  z0 := Tryd.sizeOf0
  v0 := Tryd.zeroValue0
  t3 := Tryd.underlying3
  a3 := Tryd.isAgg3
  z3 := Tryd.sizeOf3
  v3 := Tryd.zeroValue3
  t4 := Tryd.underlying4
  a4 := Tryd.isAgg4
  z4 := Tryd.sizeOf4
  v4 := Tryd.zeroValue4
  t9 := Tryd.underlying9
  a9 := Tryd.isAgg9
  z9 := Tryd.sizeOf9
  v9 := Tryd.zeroValue9 }
open Go.RowKit in
/-- unicode/utf8.RuneCountInString: "RuneCountInString is like RuneCount but its input is a string." ("RuneCount returns the number of runes in p. Erroneous and short encodings are treated as single runes of width 1 byte."): EVERY STRING, valid UTF-8 or not: 'Lib.runeCount s' (plain Lean over the model's own 'Utf8.decode'; 'Lib.runeCount_le': at most len(s); 'Lib.runeCount_ascii': on ASCII: len(s)). THE ONE CONDITION: len(s) below 2^63 - 1 (the counter does not wrap): the form's reach pays it. THE WORLD BEHIND THE CALL: ONE BLOCK MORE: the model's iterator over s, at its end: all else as it was. (LAID: no walk: one application.) -/
theorem Tryd.utf8_RuneCountInString (s : ByteArray) (w : World) (hs : s.size < 9223372036854775807) :
    Calls Tryd.prog 75 #[.string s] w fun e w' => e = .returned (.int .i64 (Lib.runeCount s)) ∧ ∃ pos, w' = w.iter s pos := Any.utf8_RuneCountInString Tryd.lays195 s w hs
def Tryd.lays129_ren : Go.Shelf.Ren := ⟨fun | 129 => 97 | n => n, fun | 53 => 61 | 3 => 3 | 4 => 4 | 46 => 85 | 5 => 5 | 9 => 9 | n => n, fun | n => n⟩
theorem Tryd.lays129 : Go.Proofs.Lays.n129 Tryd.prog Tryd.lays129_ren := {
  mixed := by kernel_rfl
  f129 := Tryd.func97.trans (congrArg some (by kernel_rfl))
  t3 := Tryd.underlying3
  a3 := Tryd.isAgg3
  z3 := Tryd.sizeOf3
  v3 := Tryd.zeroValue3
  t4 := Tryd.underlying4
  a4 := Tryd.isAgg4
  z4 := Tryd.sizeOf4
  v4 := Tryd.zeroValue4
  t5 := Tryd.underlying5
  a5 := Tryd.isAgg5
  z5 := Tryd.sizeOf5
  v5 := Tryd.zeroValue5
  t9 := Tryd.underlying9
  a9 := Tryd.isAgg9
  z9 := Tryd.sizeOf9
  v9 := Tryd.zeroValue9
  t46 := Tryd.underlying85
  a46 := Tryd.isAgg85
  z46 := Tryd.sizeOf85
  v46 := Tryd.zeroValue85
  t53 := Tryd.underlying61
  a53 := Tryd.isAgg61
  z53 := Tryd.sizeOf61
  v53 := Tryd.zeroValue61 }
/-- bits.Len64: "Len64 returns the minimum number of bits required to represent x; the result is 0 for x == 0.": IT RETURNS 'Lib.bitLen x'; the world is as it was. ('h0', 'h1': x is a uint64.) (LAID: no walk: one application.) -/
theorem Tryd.bits_Len64 (x : Int) (w : World) (h0 : 0 ≤ x) (h1 : x ≤ 18446744073709551615) :
    Calls Tryd.prog 97 #[.int .u64 x] w fun e w' => e = .returned (.int .i64 (Lib.bitLen x.toNat)) ∧ w' = w := Any.bits_Len64 Tryd.lays129 x w h0 h1
def Tryd.lays317_ren : Go.Shelf.Ren := ⟨fun | 317 => 96 | n => n, fun | 3 => 3 | 46 => 85 | n => n, fun | n => n⟩
theorem Tryd.lays317 : Go.Proofs.Lays.n317 Tryd.prog Tryd.lays317_ren := {
  mixed := by kernel_rfl
  f317 := Tryd.func96.trans (congrArg some (by kernel_rfl))
  t3 := Tryd.underlying3
  a3 := Tryd.isAgg3
  z3 := Tryd.sizeOf3
  v3 := Tryd.zeroValue3
  t46 := Tryd.underlying85
  a46 := Tryd.isAgg85
  z46 := Tryd.sizeOf85
  v46 := Tryd.zeroValue85 }
open Go.Lib in
/-- internal/strconv.log10Pow2: "log10Pow2(x) returns ⌊log₁₀ 2**x⌋ = ⌊x * log₁₀ 2⌋.": '(x * 78913) >> 18', at an x up to 64 (a length in bits). The world is as it was. (LAID: no walk: one application.) -/
theorem Tryd.internal_strconv_log10Pow2 (x : Nat) (h : x ≤ 64) (w : World) :
    Calls Tryd.prog 96 #[.int .i64 x] w fun e w' => e = .returned (.int .i64 (Lib.l10 x)) ∧ w' = w := Any.internal_strconv_log10Pow2 Tryd.lays317 x h w
def Tryd.lays318_ren : Go.Shelf.Ren := ⟨fun | 318 => 98 | n => n, fun | 3 => 3 | 4 => 4 | n => n, fun | n => n⟩
theorem Tryd.lays318 : Go.Proofs.Lays.n318 Tryd.prog Tryd.lays318_ren := {
  mixed := by kernel_rfl
  f318 := Tryd.func98.trans (congrArg some (by kernel_rfl))
  t3 := Tryd.underlying3
  a3 := Tryd.isAgg3
  z3 := Tryd.sizeOf3
  v3 := Tryd.zeroValue3
  t4 := Tryd.underlying4
  a4 := Tryd.isAgg4
  z4 := Tryd.sizeOf4
  v4 := Tryd.zeroValue4 }
open Go.Lib in
/-- internal/strconv.bool2: "bool2 converts b to an integer: 1 for true, 0 for false." The world is as it was. (LAID: no walk: one application.) -/
theorem Tryd.internal_strconv_bool2_int (b : Bool) (w : World) :
    Calls Tryd.prog 98 #[.bool b] w fun e w' => e = .returned (.int .i64 (if b then 1 else 0)) ∧ w' = w := Any.internal_strconv_bool2_int Tryd.lays318 b w
def Tryd.lays283_ren : Go.Shelf.Ren := ⟨fun | 283 => 84 | n => n, fun | 3 => 3 | 9 => 9 | 4 => 4 | n => n, fun | n => n⟩
theorem Tryd.lays283 : Go.Proofs.Lays.n283 Tryd.prog Tryd.lays283_ren := {
  mixed := by kernel_rfl
  f283 := Tryd.func84.trans (congrArg some (by kernel_rfl))
  t3 := Tryd.underlying3
  a3 := Tryd.isAgg3
  z3 := Tryd.sizeOf3
  v3 := Tryd.zeroValue3
  t4 := Tryd.underlying4
  a4 := Tryd.isAgg4
  z4 := Tryd.sizeOf4
  v4 := Tryd.zeroValue4
  t9 := Tryd.underlying9
  a9 := Tryd.isAgg9
  z9 := Tryd.sizeOf9
  v9 := Tryd.zeroValue9 }
open Go.Lib in
/-- internal/strconv.small: "small returns the string for an i with 0 <= i < nSmalls.": i's decimal numeral. The world is as it was. (LAID: no walk: one application.) -/
theorem Tryd.internal_strconv_small (i : Nat) (h : i < 100) (w : World) :
    Calls Tryd.prog 84 #[.int .i64 i] w fun e w' => e = .returned (.string ⟨(Lib.decDigits i).toArray⟩) ∧ w' = w := Any.internal_strconv_small Tryd.lays283 i h w
def Tryd.laysM284_ren : Go.Shelf.Ren := ⟨fun | 284 => 85 | 129 => 97 | 317 => 96 | 318 => 98 | n => n, fun | 53 => 61 | 3 => 3 | 212 => 109 | 0 => 0 | 4 => 4 | 46 => 85 | 5 => 5 | 9 => 9 | n => n, fun | 17 => 3 | n => n⟩
theorem Tryd.laysM284 : Go.Proofs.LaysM.n284 Tryd.prog Tryd.laysM284_ren := {
  mixed := by kernel_rfl
  f129 := Tryd.func97.trans (congrArg some (by kernel_rfl))
  f284 := Tryd.func85.trans (congrArg some (by kernel_rfl))
  f317 := Tryd.func96.trans (congrArg some (by kernel_rfl))
  f318 := Tryd.func98.trans (congrArg some (by kernel_rfl))
  t0 := Tryd.underlying0
  a0 := Tryd.isAgg0
  z0 := Tryd.sizeOf0
  v0 := Tryd.zeroValue0
  t3 := Tryd.underlying3
  a3 := Tryd.isAgg3
  z3 := Tryd.sizeOf3
  v3 := Tryd.zeroValue3
  t4 := Tryd.underlying4
  a4 := Tryd.isAgg4
  z4 := Tryd.sizeOf4
  v4 := Tryd.zeroValue4
  t5 := Tryd.underlying5
  a5 := Tryd.isAgg5
  z5 := Tryd.sizeOf5
  v5 := Tryd.zeroValue5
  t9 := Tryd.underlying9
  a9 := Tryd.isAgg9
  z9 := Tryd.sizeOf9
  v9 := Tryd.zeroValue9
  t46 := Tryd.underlying85
  a46 := Tryd.isAgg85
  z46 := Tryd.sizeOf85
  v46 := Tryd.zeroValue85
  t53 := Tryd.underlying61
  a53 := Tryd.isAgg61
  z53 := Tryd.sizeOf61
  v53 := Tryd.zeroValue61
  t212 := Tryd.underlying109
  a212 := Tryd.isAgg109
  z212 := Tryd.sizeOf109
  v212 := Tryd.zeroValue109
  g17 := by kernel_rfl
  i0 := by kernel_rfl
  i3 := by kernel_rfl
  i4 := by kernel_rfl
  i5 := by kernel_rfl
  i9 := by kernel_rfl
  i46 := by kernel_rfl
  i53 := by kernel_rfl
  i212 := by kernel_rfl
  m17 := by kernel_rfl }
open Go.Lib in
/-- internal/strconv.numDigits, at a d that is not 0: THE NUMBER OF d's DECIMAL DIGITS. The world is as it was. (LAID: no walk: one application.) -/
theorem Tryd.internal_strconv_numDigits (u : Nat) (h1 : 1 ≤ u) (h2 : u < 18446744073709551616) (w : World) (htab : Lib.TabIs Tryd.prog w "internal/strconv.uint64pow10" .u64 Lib.pow10Tab) :
    Calls Tryd.prog 85 #[.int .u64 u] w fun e w' => e = .returned (.int .i64 (Lib.nDigits u)) ∧ w' = w := Any.internal_strconv_numDigits Tryd.laysM284 u h1 h2 w htab
def Tryd.lays285_ren : Go.Shelf.Ren := ⟨fun | 285 => 86 | n => n, fun | 37 => 44 | 53 => 61 | 3 => 3 | 4 => 4 | 51 => 110 | 9 => 9 | 5 => 5 | 0 => 0 | n => n, fun | n => n⟩
theorem Tryd.lays285 : Go.Proofs.Lays.n285 Tryd.prog Tryd.lays285_ren := {
  mixed := by kernel_rfl
  f285 := Tryd.func86.trans (congrArg some (by kernel_rfl))
  t0 := Tryd.underlying0
  a0 := Tryd.isAgg0
  z0 := Tryd.sizeOf0
  v0 := Tryd.zeroValue0
  t3 := Tryd.underlying3
  a3 := Tryd.isAgg3
  z3 := Tryd.sizeOf3
  v3 := Tryd.zeroValue3
  t4 := Tryd.underlying4
  a4 := Tryd.isAgg4
  z4 := Tryd.sizeOf4
  v4 := Tryd.zeroValue4
  t5 := Tryd.underlying5
  a5 := Tryd.isAgg5
  z5 := Tryd.sizeOf5
  v5 := Tryd.zeroValue5
  t9 := Tryd.underlying9
  a9 := Tryd.isAgg9
  z9 := Tryd.sizeOf9
  v9 := Tryd.zeroValue9
  t37 := Tryd.underlying44
  a37 := Tryd.isAgg44
  z37 := Tryd.sizeOf44
  v37 := Tryd.zeroValue44
  t51 := Tryd.underlying110
  a51 := Tryd.isAgg110
  z51 := Tryd.sizeOf110
  v51 := Tryd.zeroValue110
  t53 := Tryd.underlying61
  a53 := Tryd.isAgg61
  z53 := Tryd.sizeOf61
  v53 := Tryd.zeroValue61 }
open Go.RowKit Go.Sort Go.Lib in
/-- internal/strconv.formatBase10: "formatBase10 formats the decimal representation of u into a. The caller is responsible for ensuring that a is big enough to hold u. If a is too big, leading zeros will be filled in as needed.": THE ROW HOLDS u's DIGITS ('FmtInv .. 0 ..': every place t holds 'dg u (len - 1 - t)'); all else is as it was but for the count of draws. (LAID: no walk: one application.) -/
theorem Tryd.internal_strconv_formatBase10 (blk off cap : Nat) (u : Nat) (d : Array UInt8) (w : World) (hH : Holds (fun (b : UInt8) => Value.int .u8 (b.toNat : Int)) w blk off d) (hu : u < 10 ^ d.size) (hu64 : u < 18446744073709551616) (hsz : d.size < 4611686018427387904) :
    Calls Tryd.prog 86 #[.slice (some ⟨blk, off, none⟩) d.size cap, .int .u64 u] w fun e w' =>
      e = .returned (.tuple #[]) ∧ ∃ (n v' : Nat) (dk : Array UInt8), w' = (putRow (fun (b : UInt8) => Value.int .u8 (b.toNat : Int)) w blk off dk).drewN n ∧ FmtInv d.size u 0 v' dk := Any.internal_strconv_formatBase10 Tryd.lays285 blk off cap u d w hH hu hu64 hsz
def Tryd.laysM246_ren : Go.Shelf.Ren := ⟨fun | 246 => 74 | 283 => 84 | 284 => 85 | 285 => 86 | 286 => 87 | 129 => 97 | 317 => 96 | 318 => 98 | 319 => 99 | 320 => 100 | 337 => 105 | 338 => 106 | n => n, fun | 2 => 2 | 3 => 3 | 9 => 9 | 4 => 4 | 171 => 97 | 0 => 0 | 53 => 61 | 37 => 44 | 5 => 5 | 173 => 100 | 212 => 109 | 51 => 110 | 20 => 20 | 213 => 111 | 46 => 85 | 232 => 125 | 233 => 126 | n => n, fun | 17 => 3 | 18 => 6 | 19 => 7 | n => n⟩
theorem Tryd.laysM246 : Go.Proofs.LaysM.n246 Tryd.prog Tryd.laysM246_ren := {
  mixed := by kernel_rfl
  f129 := Tryd.func97.trans (congrArg some (by kernel_rfl))
  f246 := Tryd.func74.trans (congrArg some (by kernel_rfl))
  f283 := Tryd.func84.trans (congrArg some (by kernel_rfl))
  f284 := Tryd.func85.trans (congrArg some (by kernel_rfl))
  f285 := Tryd.func86.trans (congrArg some (by kernel_rfl))
  f286 := Tryd.func87.trans (congrArg some (by kernel_rfl))
  f317 := Tryd.func96.trans (congrArg some (by kernel_rfl))
  f318 := Tryd.func98.trans (congrArg some (by kernel_rfl))
  f319 := Tryd.func99.trans (congrArg some (by kernel_rfl))
  f320 := Tryd.func100.trans (congrArg some (by kernel_rfl))
  f337 := Tryd.func105.trans (congrArg some (by kernel_rfl))
  f338 := Tryd.func106.trans (congrArg some (by kernel_rfl))
  t0 := Tryd.underlying0
  a0 := Tryd.isAgg0
  z0 := Tryd.sizeOf0
  v0 := Tryd.zeroValue0
  t2 := Tryd.underlying2
  a2 := Tryd.isAgg2
  z2 := Tryd.sizeOf2
  v2 := Tryd.zeroValue2
  t3 := Tryd.underlying3
  a3 := Tryd.isAgg3
  z3 := Tryd.sizeOf3
  v3 := Tryd.zeroValue3
  t4 := Tryd.underlying4
  a4 := Tryd.isAgg4
  z4 := Tryd.sizeOf4
  v4 := Tryd.zeroValue4
  t5 := Tryd.underlying5
  a5 := Tryd.isAgg5
  z5 := Tryd.sizeOf5
  v5 := Tryd.zeroValue5
  t9 := Tryd.underlying9
  a9 := Tryd.isAgg9
  z9 := Tryd.sizeOf9
  v9 := Tryd.zeroValue9
  t20 := Tryd.underlying20
  a20 := Tryd.isAgg20
  z20 := Tryd.sizeOf20
  v20 := Tryd.zeroValue20
  t37 := Tryd.underlying44
  a37 := Tryd.isAgg44
  z37 := Tryd.sizeOf44
  v37 := Tryd.zeroValue44
  t46 := Tryd.underlying85
  a46 := Tryd.isAgg85
  z46 := Tryd.sizeOf85
  v46 := Tryd.zeroValue85
  t51 := Tryd.underlying110
  a51 := Tryd.isAgg110
  z51 := Tryd.sizeOf110
  v51 := Tryd.zeroValue110
  t53 := Tryd.underlying61
  a53 := Tryd.isAgg61
  z53 := Tryd.sizeOf61
  v53 := Tryd.zeroValue61
  t171 := Tryd.underlying97
  a171 := Tryd.isAgg97
  z171 := Tryd.sizeOf97
  v171 := Tryd.zeroValue97
  t173 := Tryd.underlying100
  a173 := Tryd.isAgg100
  z173 := Tryd.sizeOf100
  v173 := Tryd.zeroValue100
  t212 := Tryd.underlying109
  a212 := Tryd.isAgg109
  z212 := Tryd.sizeOf109
  v212 := Tryd.zeroValue109
  t213 := Tryd.underlying111
  a213 := Tryd.isAgg111
  z213 := Tryd.sizeOf111
  t232 := Tryd.underlying125
  a232 := Tryd.isAgg125
  z232 := Tryd.sizeOf125
  v232 := Tryd.zeroValue125
  t233 := Tryd.underlying126
  a233 := Tryd.isAgg126
  z233 := Tryd.sizeOf126
  v233 := Tryd.zeroValue126
  g17 := by kernel_rfl
  g18 := by kernel_rfl
  g19 := by kernel_rfl
  i0 := by kernel_rfl
  i2 := by kernel_rfl
  i3 := by kernel_rfl
  i4 := by kernel_rfl
  i5 := by kernel_rfl
  i9 := by kernel_rfl
  i20 := by kernel_rfl
  i37 := by kernel_rfl
  i46 := by kernel_rfl
  i51 := by kernel_rfl
  i53 := by kernel_rfl
  i171 := by kernel_rfl
  i173 := by kernel_rfl
  i212 := by kernel_rfl
  i232 := by kernel_rfl
  i233 := by kernel_rfl
  m17 := by kernel_rfl
  m18 := by kernel_rfl
  m19 := by kernel_rfl }
open Go.RowKit Go.Sort Go.Lib in
/-- internal/strconv.FormatInt: "FormatInt returns the string representation of i in the given base": AT BASE 10: i's decimal numeral, for every int64. The world behind the call: the world before it, new blocks behind the heap, draws. (LAID: no walk: one application.) -/
theorem Tryd.internal_strconv_FormatInt_10 (n : Int) (h0 : -9223372036854775808 ≤ n) (h1 : n ≤ 9223372036854775807) (w : World) (htab : Lib.TabIs Tryd.prog w "internal/strconv.uint64pow10" .u64 Lib.pow10Tab) :
    Calls Tryd.prog 74 #[.int .i64 n, .int .i64 10] w fun e w' => e = .returned (.string ⟨(Lib.itoa n).toArray⟩) ∧ ∃ k os, w' = grow (w.drewN k) os := Any.internal_strconv_FormatInt_10 Tryd.laysM246 n h0 h1 w htab
def Tryd.lays246_ren : Go.Shelf.Ren := ⟨fun | 246 => 74 | 283 => 84 | 284 => 85 | 285 => 86 | 286 => 87 | 129 => 97 | 317 => 96 | 318 => 98 | 319 => 99 | 320 => 100 | 337 => 105 | 338 => 106 | n => n, fun | 2 => 2 | 3 => 3 | 9 => 9 | 4 => 4 | 171 => 97 | 0 => 0 | 53 => 61 | 37 => 44 | 5 => 5 | 173 => 100 | 212 => 109 | 51 => 110 | 20 => 20 | 213 => 111 | 46 => 85 | 232 => 125 | 233 => 126 | n => n, fun | 17 => 3 | 18 => 6 | 19 => 7 | n => n⟩
theorem Tryd.lays246 : Go.Proofs.Lays.n246 Tryd.prog Tryd.lays246_ren := {
  mixed := by kernel_rfl
  f129 := Tryd.func97.trans (congrArg some (by kernel_rfl))
  f246 := Tryd.func74.trans (congrArg some (by kernel_rfl))
  f283 := Tryd.func84.trans (congrArg some (by kernel_rfl))
  f284 := Tryd.func85.trans (congrArg some (by kernel_rfl))
  f285 := Tryd.func86.trans (congrArg some (by kernel_rfl))
  f286 := Tryd.func87.trans (congrArg some (by kernel_rfl))
  f317 := Tryd.func96.trans (congrArg some (by kernel_rfl))
  f318 := Tryd.func98.trans (congrArg some (by kernel_rfl))
  f319 := Tryd.func99.trans (congrArg some (by kernel_rfl))
  f320 := Tryd.func100.trans (congrArg some (by kernel_rfl))
  f337 := Tryd.func105.trans (congrArg some (by kernel_rfl))
  f338 := Tryd.func106.trans (congrArg some (by kernel_rfl))
  t0 := Tryd.underlying0
  a0 := Tryd.isAgg0
  z0 := Tryd.sizeOf0
  v0 := Tryd.zeroValue0
  t2 := Tryd.underlying2
  a2 := Tryd.isAgg2
  z2 := Tryd.sizeOf2
  v2 := Tryd.zeroValue2
  t3 := Tryd.underlying3
  a3 := Tryd.isAgg3
  z3 := Tryd.sizeOf3
  v3 := Tryd.zeroValue3
  t4 := Tryd.underlying4
  a4 := Tryd.isAgg4
  z4 := Tryd.sizeOf4
  v4 := Tryd.zeroValue4
  t5 := Tryd.underlying5
  a5 := Tryd.isAgg5
  z5 := Tryd.sizeOf5
  v5 := Tryd.zeroValue5
  t9 := Tryd.underlying9
  a9 := Tryd.isAgg9
  z9 := Tryd.sizeOf9
  v9 := Tryd.zeroValue9
  t20 := Tryd.underlying20
  a20 := Tryd.isAgg20
  z20 := Tryd.sizeOf20
  v20 := Tryd.zeroValue20
  t37 := Tryd.underlying44
  a37 := Tryd.isAgg44
  z37 := Tryd.sizeOf44
  v37 := Tryd.zeroValue44
  t46 := Tryd.underlying85
  a46 := Tryd.isAgg85
  z46 := Tryd.sizeOf85
  v46 := Tryd.zeroValue85
  t51 := Tryd.underlying110
  a51 := Tryd.isAgg110
  z51 := Tryd.sizeOf110
  v51 := Tryd.zeroValue110
  t53 := Tryd.underlying61
  a53 := Tryd.isAgg61
  z53 := Tryd.sizeOf61
  v53 := Tryd.zeroValue61
  t171 := Tryd.underlying97
  a171 := Tryd.isAgg97
  z171 := Tryd.sizeOf97
  v171 := Tryd.zeroValue97
  t173 := Tryd.underlying100
  a173 := Tryd.isAgg100
  z173 := Tryd.sizeOf100
  v173 := Tryd.zeroValue100
  t212 := Tryd.underlying109
  a212 := Tryd.isAgg109
  z212 := Tryd.sizeOf109
  v212 := Tryd.zeroValue109
  t213 := Tryd.underlying111
  a213 := Tryd.isAgg111
  z213 := Tryd.sizeOf111
  t232 := Tryd.underlying125
  a232 := Tryd.isAgg125
  z232 := Tryd.sizeOf125
  v232 := Tryd.zeroValue125
  t233 := Tryd.underlying126
  a233 := Tryd.isAgg126
  z233 := Tryd.sizeOf126
  v233 := Tryd.zeroValue126
  g17 := by kernel_rfl
  g18 := by kernel_rfl
  g19 := by kernel_rfl }
open Go.RowKit Go.Sort Go.Lib in
/-- THE ROAD WITHOUT THE TABLE: 0 <= i < 100: two constants are read, nothing is laid: no premise on the world, and the world is as it was. (LAID: no walk: one application.) -/
theorem Tryd.internal_strconv_FormatInt_10_small (i : Nat) (hi : i < 100) (w : World) :
    Calls Tryd.prog 74 #[.int .i64 i, .int .i64 10] w fun e w' => e = .returned (.string ⟨(Lib.decDigits i).toArray⟩) ∧ w' = w := Any.internal_strconv_FormatInt_10_small Tryd.lays246 i hi w
def Tryd.laysM243_ren : Go.Shelf.Ren := ⟨fun | 243 => 67 | 246 => 74 | 283 => 84 | 284 => 85 | 285 => 86 | 286 => 87 | 129 => 97 | 317 => 96 | 318 => 98 | 319 => 99 | 320 => 100 | 337 => 105 | 338 => 106 | n => n, fun | 3 => 3 | 9 => 9 | 2 => 2 | 4 => 4 | 171 => 97 | 0 => 0 | 53 => 61 | 37 => 44 | 5 => 5 | 173 => 100 | 212 => 109 | 51 => 110 | 20 => 20 | 213 => 111 | 46 => 85 | 232 => 125 | 233 => 126 | n => n, fun | 17 => 3 | 18 => 6 | 19 => 7 | n => n⟩
theorem Tryd.laysM243 : Go.Proofs.LaysM.n243 Tryd.prog Tryd.laysM243_ren := {
  mixed := by kernel_rfl
  f129 := Tryd.func97.trans (congrArg some (by kernel_rfl))
  f243 := Tryd.func67.trans (congrArg some (by kernel_rfl))
  f246 := Tryd.func74.trans (congrArg some (by kernel_rfl))
  f283 := Tryd.func84.trans (congrArg some (by kernel_rfl))
  f284 := Tryd.func85.trans (congrArg some (by kernel_rfl))
  f285 := Tryd.func86.trans (congrArg some (by kernel_rfl))
  f286 := Tryd.func87.trans (congrArg some (by kernel_rfl))
  f317 := Tryd.func96.trans (congrArg some (by kernel_rfl))
  f318 := Tryd.func98.trans (congrArg some (by kernel_rfl))
  f319 := Tryd.func99.trans (congrArg some (by kernel_rfl))
  f320 := Tryd.func100.trans (congrArg some (by kernel_rfl))
  f337 := Tryd.func105.trans (congrArg some (by kernel_rfl))
  f338 := Tryd.func106.trans (congrArg some (by kernel_rfl))
  t0 := Tryd.underlying0
  a0 := Tryd.isAgg0
  z0 := Tryd.sizeOf0
  v0 := Tryd.zeroValue0
  t2 := Tryd.underlying2
  a2 := Tryd.isAgg2
  z2 := Tryd.sizeOf2
  v2 := Tryd.zeroValue2
  t3 := Tryd.underlying3
  a3 := Tryd.isAgg3
  z3 := Tryd.sizeOf3
  v3 := Tryd.zeroValue3
  t4 := Tryd.underlying4
  a4 := Tryd.isAgg4
  z4 := Tryd.sizeOf4
  v4 := Tryd.zeroValue4
  t5 := Tryd.underlying5
  a5 := Tryd.isAgg5
  z5 := Tryd.sizeOf5
  v5 := Tryd.zeroValue5
  t9 := Tryd.underlying9
  a9 := Tryd.isAgg9
  z9 := Tryd.sizeOf9
  v9 := Tryd.zeroValue9
  t20 := Tryd.underlying20
  a20 := Tryd.isAgg20
  z20 := Tryd.sizeOf20
  v20 := Tryd.zeroValue20
  t37 := Tryd.underlying44
  a37 := Tryd.isAgg44
  z37 := Tryd.sizeOf44
  v37 := Tryd.zeroValue44
  t46 := Tryd.underlying85
  a46 := Tryd.isAgg85
  z46 := Tryd.sizeOf85
  v46 := Tryd.zeroValue85
  t51 := Tryd.underlying110
  a51 := Tryd.isAgg110
  z51 := Tryd.sizeOf110
  v51 := Tryd.zeroValue110
  t53 := Tryd.underlying61
  a53 := Tryd.isAgg61
  z53 := Tryd.sizeOf61
  v53 := Tryd.zeroValue61
  t171 := Tryd.underlying97
  a171 := Tryd.isAgg97
  z171 := Tryd.sizeOf97
  v171 := Tryd.zeroValue97
  t173 := Tryd.underlying100
  a173 := Tryd.isAgg100
  z173 := Tryd.sizeOf100
  v173 := Tryd.zeroValue100
  t212 := Tryd.underlying109
  a212 := Tryd.isAgg109
  z212 := Tryd.sizeOf109
  v212 := Tryd.zeroValue109
  t213 := Tryd.underlying111
  a213 := Tryd.isAgg111
  z213 := Tryd.sizeOf111
  t232 := Tryd.underlying125
  a232 := Tryd.isAgg125
  z232 := Tryd.sizeOf125
  v232 := Tryd.zeroValue125
  t233 := Tryd.underlying126
  a233 := Tryd.isAgg126
  z233 := Tryd.sizeOf126
  v233 := Tryd.zeroValue126
  g17 := by kernel_rfl
  g18 := by kernel_rfl
  g19 := by kernel_rfl
  i0 := by kernel_rfl
  i2 := by kernel_rfl
  i3 := by kernel_rfl
  i4 := by kernel_rfl
  i5 := by kernel_rfl
  i9 := by kernel_rfl
  i20 := by kernel_rfl
  i37 := by kernel_rfl
  i46 := by kernel_rfl
  i51 := by kernel_rfl
  i53 := by kernel_rfl
  i171 := by kernel_rfl
  i173 := by kernel_rfl
  i212 := by kernel_rfl
  i232 := by kernel_rfl
  i233 := by kernel_rfl
  m17 := by kernel_rfl
  m18 := by kernel_rfl
  m19 := by kernel_rfl }
open Go.RowKit Go.Sort Go.Lib in
/-- internal/strconv.Itoa: "Itoa is equivalent to FormatInt(int64(i), 10).": i's decimal numeral, for every int. (LAID: no walk: one application.) -/
theorem Tryd.internal_strconv_Itoa (n : Int) (h0 : -9223372036854775808 ≤ n) (h1 : n ≤ 9223372036854775807) (w : World) (htab : Lib.TabIs Tryd.prog w "internal/strconv.uint64pow10" .u64 Lib.pow10Tab) :
    Calls Tryd.prog 67 #[.int .i64 n] w fun e w' => e = .returned (.string ⟨(Lib.itoa n).toArray⟩) ∧ ∃ k os, w' = grow (w.drewN k) os := Any.internal_strconv_Itoa Tryd.laysM243 n h0 h1 w htab
def Tryd.lays243_ren : Go.Shelf.Ren := ⟨fun | 243 => 67 | 246 => 74 | 283 => 84 | 284 => 85 | 285 => 86 | 286 => 87 | 129 => 97 | 317 => 96 | 318 => 98 | 319 => 99 | 320 => 100 | 337 => 105 | 338 => 106 | n => n, fun | 3 => 3 | 9 => 9 | 2 => 2 | 4 => 4 | 171 => 97 | 0 => 0 | 53 => 61 | 37 => 44 | 5 => 5 | 173 => 100 | 212 => 109 | 51 => 110 | 20 => 20 | 213 => 111 | 46 => 85 | 232 => 125 | 233 => 126 | n => n, fun | 17 => 3 | 18 => 6 | 19 => 7 | n => n⟩
theorem Tryd.lays243 : Go.Proofs.Lays.n243 Tryd.prog Tryd.lays243_ren := {
  mixed := by kernel_rfl
  f129 := Tryd.func97.trans (congrArg some (by kernel_rfl))
  f243 := Tryd.func67.trans (congrArg some (by kernel_rfl))
  f246 := Tryd.func74.trans (congrArg some (by kernel_rfl))
  f283 := Tryd.func84.trans (congrArg some (by kernel_rfl))
  f284 := Tryd.func85.trans (congrArg some (by kernel_rfl))
  f285 := Tryd.func86.trans (congrArg some (by kernel_rfl))
  f286 := Tryd.func87.trans (congrArg some (by kernel_rfl))
  f317 := Tryd.func96.trans (congrArg some (by kernel_rfl))
  f318 := Tryd.func98.trans (congrArg some (by kernel_rfl))
  f319 := Tryd.func99.trans (congrArg some (by kernel_rfl))
  f320 := Tryd.func100.trans (congrArg some (by kernel_rfl))
  f337 := Tryd.func105.trans (congrArg some (by kernel_rfl))
  f338 := Tryd.func106.trans (congrArg some (by kernel_rfl))
  t0 := Tryd.underlying0
  a0 := Tryd.isAgg0
  z0 := Tryd.sizeOf0
  v0 := Tryd.zeroValue0
  t2 := Tryd.underlying2
  a2 := Tryd.isAgg2
  z2 := Tryd.sizeOf2
  v2 := Tryd.zeroValue2
  t3 := Tryd.underlying3
  a3 := Tryd.isAgg3
  z3 := Tryd.sizeOf3
  v3 := Tryd.zeroValue3
  t4 := Tryd.underlying4
  a4 := Tryd.isAgg4
  z4 := Tryd.sizeOf4
  v4 := Tryd.zeroValue4
  t5 := Tryd.underlying5
  a5 := Tryd.isAgg5
  z5 := Tryd.sizeOf5
  v5 := Tryd.zeroValue5
  t9 := Tryd.underlying9
  a9 := Tryd.isAgg9
  z9 := Tryd.sizeOf9
  v9 := Tryd.zeroValue9
  t20 := Tryd.underlying20
  a20 := Tryd.isAgg20
  z20 := Tryd.sizeOf20
  v20 := Tryd.zeroValue20
  t37 := Tryd.underlying44
  a37 := Tryd.isAgg44
  z37 := Tryd.sizeOf44
  v37 := Tryd.zeroValue44
  t46 := Tryd.underlying85
  a46 := Tryd.isAgg85
  z46 := Tryd.sizeOf85
  v46 := Tryd.zeroValue85
  t51 := Tryd.underlying110
  a51 := Tryd.isAgg110
  z51 := Tryd.sizeOf110
  v51 := Tryd.zeroValue110
  t53 := Tryd.underlying61
  a53 := Tryd.isAgg61
  z53 := Tryd.sizeOf61
  v53 := Tryd.zeroValue61
  t171 := Tryd.underlying97
  a171 := Tryd.isAgg97
  z171 := Tryd.sizeOf97
  v171 := Tryd.zeroValue97
  t173 := Tryd.underlying100
  a173 := Tryd.isAgg100
  z173 := Tryd.sizeOf100
  v173 := Tryd.zeroValue100
  t212 := Tryd.underlying109
  a212 := Tryd.isAgg109
  z212 := Tryd.sizeOf109
  v212 := Tryd.zeroValue109
  t213 := Tryd.underlying111
  a213 := Tryd.isAgg111
  z213 := Tryd.sizeOf111
  t232 := Tryd.underlying125
  a232 := Tryd.isAgg125
  z232 := Tryd.sizeOf125
  v232 := Tryd.zeroValue125
  t233 := Tryd.underlying126
  a233 := Tryd.isAgg126
  z233 := Tryd.sizeOf126
  v233 := Tryd.zeroValue126
  g17 := by kernel_rfl
  g18 := by kernel_rfl
  g19 := by kernel_rfl }
open Go.RowKit Go.Sort Go.Lib in
/-- THE ROAD WITHOUT THE TABLE: 0 <= i < 100. (LAID: no walk: one application.) -/
theorem Tryd.internal_strconv_Itoa_small (i : Nat) (hi : i < 100) (w : World) :
    Calls Tryd.prog 67 #[.int .i64 i] w fun e w' => e = .returned (.string ⟨(Lib.decDigits i).toArray⟩) ∧ w' = w := Any.internal_strconv_Itoa_small Tryd.lays243 i hi w
def Tryd.laysM171_ren : Go.Shelf.Ren := ⟨fun | 171 => 54 | 243 => 67 | 246 => 74 | 283 => 84 | 284 => 85 | 285 => 86 | 286 => 87 | 129 => 97 | 317 => 96 | 318 => 98 | 319 => 99 | 320 => 100 | 337 => 105 | 338 => 106 | n => n, fun | 3 => 3 | 9 => 9 | 2 => 2 | 4 => 4 | 171 => 97 | 0 => 0 | 53 => 61 | 37 => 44 | 5 => 5 | 173 => 100 | 212 => 109 | 51 => 110 | 20 => 20 | 213 => 111 | 46 => 85 | 232 => 125 | 233 => 126 | n => n, fun | 17 => 3 | 18 => 6 | 19 => 7 | n => n⟩
theorem Tryd.laysM171 : Go.Proofs.LaysM.n171 Tryd.prog Tryd.laysM171_ren := {
  mixed := by kernel_rfl
  f129 := Tryd.func97.trans (congrArg some (by kernel_rfl))
  f171 := Tryd.func54.trans (congrArg some (by kernel_rfl))
  f243 := Tryd.func67.trans (congrArg some (by kernel_rfl))
  f246 := Tryd.func74.trans (congrArg some (by kernel_rfl))
  f283 := Tryd.func84.trans (congrArg some (by kernel_rfl))
  f284 := Tryd.func85.trans (congrArg some (by kernel_rfl))
  f285 := Tryd.func86.trans (congrArg some (by kernel_rfl))
  f286 := Tryd.func87.trans (congrArg some (by kernel_rfl))
  f317 := Tryd.func96.trans (congrArg some (by kernel_rfl))
  f318 := Tryd.func98.trans (congrArg some (by kernel_rfl))
  f319 := Tryd.func99.trans (congrArg some (by kernel_rfl))
  f320 := Tryd.func100.trans (congrArg some (by kernel_rfl))
  f337 := Tryd.func105.trans (congrArg some (by kernel_rfl))
  f338 := Tryd.func106.trans (congrArg some (by kernel_rfl))
  t0 := Tryd.underlying0
  a0 := Tryd.isAgg0
  z0 := Tryd.sizeOf0
  v0 := Tryd.zeroValue0
  t2 := Tryd.underlying2
  a2 := Tryd.isAgg2
  z2 := Tryd.sizeOf2
  v2 := Tryd.zeroValue2
  t3 := Tryd.underlying3
  a3 := Tryd.isAgg3
  z3 := Tryd.sizeOf3
  v3 := Tryd.zeroValue3
  t4 := Tryd.underlying4
  a4 := Tryd.isAgg4
  z4 := Tryd.sizeOf4
  v4 := Tryd.zeroValue4
  t5 := Tryd.underlying5
  a5 := Tryd.isAgg5
  z5 := Tryd.sizeOf5
  v5 := Tryd.zeroValue5
  t9 := Tryd.underlying9
  a9 := Tryd.isAgg9
  z9 := Tryd.sizeOf9
  v9 := Tryd.zeroValue9
  t20 := Tryd.underlying20
  a20 := Tryd.isAgg20
  z20 := Tryd.sizeOf20
  v20 := Tryd.zeroValue20
  t37 := Tryd.underlying44
  a37 := Tryd.isAgg44
  z37 := Tryd.sizeOf44
  v37 := Tryd.zeroValue44
  t46 := Tryd.underlying85
  a46 := Tryd.isAgg85
  z46 := Tryd.sizeOf85
  v46 := Tryd.zeroValue85
  t51 := Tryd.underlying110
  a51 := Tryd.isAgg110
  z51 := Tryd.sizeOf110
  v51 := Tryd.zeroValue110
  t53 := Tryd.underlying61
  a53 := Tryd.isAgg61
  z53 := Tryd.sizeOf61
  v53 := Tryd.zeroValue61
  t171 := Tryd.underlying97
  a171 := Tryd.isAgg97
  z171 := Tryd.sizeOf97
  v171 := Tryd.zeroValue97
  t173 := Tryd.underlying100
  a173 := Tryd.isAgg100
  z173 := Tryd.sizeOf100
  v173 := Tryd.zeroValue100
  t212 := Tryd.underlying109
  a212 := Tryd.isAgg109
  z212 := Tryd.sizeOf109
  v212 := Tryd.zeroValue109
  t213 := Tryd.underlying111
  a213 := Tryd.isAgg111
  z213 := Tryd.sizeOf111
  t232 := Tryd.underlying125
  a232 := Tryd.isAgg125
  z232 := Tryd.sizeOf125
  v232 := Tryd.zeroValue125
  t233 := Tryd.underlying126
  a233 := Tryd.isAgg126
  z233 := Tryd.sizeOf126
  v233 := Tryd.zeroValue126
  g17 := by kernel_rfl
  g18 := by kernel_rfl
  g19 := by kernel_rfl
  i0 := by kernel_rfl
  i2 := by kernel_rfl
  i3 := by kernel_rfl
  i4 := by kernel_rfl
  i5 := by kernel_rfl
  i9 := by kernel_rfl
  i20 := by kernel_rfl
  i37 := by kernel_rfl
  i46 := by kernel_rfl
  i51 := by kernel_rfl
  i53 := by kernel_rfl
  i171 := by kernel_rfl
  i173 := by kernel_rfl
  i212 := by kernel_rfl
  i232 := by kernel_rfl
  i233 := by kernel_rfl
  m17 := by kernel_rfl
  m18 := by kernel_rfl
  m19 := by kernel_rfl }
open Go.RowKit Go.Sort Go.Lib in
/-- strconv.Itoa: "Itoa is equivalent to FormatInt(int64(i), 10).": i's DECIMAL NUMERAL ('Lib.itoa': a '-' where i is negative, then the digits), FOR EVERY int. The world behind the call: the world before it, new blocks behind the heap (the library's 'var a [24]byte'), draws. (LAID: no walk: one application.) -/
theorem Tryd.strconv_Itoa (n : Int) (h0 : -9223372036854775808 ≤ n) (h1 : n ≤ 9223372036854775807) (w : World) (htab : Lib.TabIs Tryd.prog w "internal/strconv.uint64pow10" .u64 Lib.pow10Tab) :
    Calls Tryd.prog 54 #[.int .i64 n] w fun e w' => e = .returned (.string ⟨(Lib.itoa n).toArray⟩) ∧ ∃ k os, w' = grow (w.drewN k) os := Any.strconv_Itoa Tryd.laysM171 n h0 h1 w htab
def Tryd.lays171_ren : Go.Shelf.Ren := ⟨fun | 171 => 54 | 243 => 67 | 246 => 74 | 283 => 84 | 284 => 85 | 285 => 86 | 286 => 87 | 129 => 97 | 317 => 96 | 318 => 98 | 319 => 99 | 320 => 100 | 337 => 105 | 338 => 106 | n => n, fun | 3 => 3 | 9 => 9 | 2 => 2 | 4 => 4 | 171 => 97 | 0 => 0 | 53 => 61 | 37 => 44 | 5 => 5 | 173 => 100 | 212 => 109 | 51 => 110 | 20 => 20 | 213 => 111 | 46 => 85 | 232 => 125 | 233 => 126 | n => n, fun | 17 => 3 | 18 => 6 | 19 => 7 | n => n⟩
theorem Tryd.lays171 : Go.Proofs.Lays.n171 Tryd.prog Tryd.lays171_ren := {
  mixed := by kernel_rfl
  f129 := Tryd.func97.trans (congrArg some (by kernel_rfl))
  f171 := Tryd.func54.trans (congrArg some (by kernel_rfl))
  f243 := Tryd.func67.trans (congrArg some (by kernel_rfl))
  f246 := Tryd.func74.trans (congrArg some (by kernel_rfl))
  f283 := Tryd.func84.trans (congrArg some (by kernel_rfl))
  f284 := Tryd.func85.trans (congrArg some (by kernel_rfl))
  f285 := Tryd.func86.trans (congrArg some (by kernel_rfl))
  f286 := Tryd.func87.trans (congrArg some (by kernel_rfl))
  f317 := Tryd.func96.trans (congrArg some (by kernel_rfl))
  f318 := Tryd.func98.trans (congrArg some (by kernel_rfl))
  f319 := Tryd.func99.trans (congrArg some (by kernel_rfl))
  f320 := Tryd.func100.trans (congrArg some (by kernel_rfl))
  f337 := Tryd.func105.trans (congrArg some (by kernel_rfl))
  f338 := Tryd.func106.trans (congrArg some (by kernel_rfl))
  t0 := Tryd.underlying0
  a0 := Tryd.isAgg0
  z0 := Tryd.sizeOf0
  v0 := Tryd.zeroValue0
  t2 := Tryd.underlying2
  a2 := Tryd.isAgg2
  z2 := Tryd.sizeOf2
  v2 := Tryd.zeroValue2
  t3 := Tryd.underlying3
  a3 := Tryd.isAgg3
  z3 := Tryd.sizeOf3
  v3 := Tryd.zeroValue3
  t4 := Tryd.underlying4
  a4 := Tryd.isAgg4
  z4 := Tryd.sizeOf4
  v4 := Tryd.zeroValue4
  t5 := Tryd.underlying5
  a5 := Tryd.isAgg5
  z5 := Tryd.sizeOf5
  v5 := Tryd.zeroValue5
  t9 := Tryd.underlying9
  a9 := Tryd.isAgg9
  z9 := Tryd.sizeOf9
  v9 := Tryd.zeroValue9
  t20 := Tryd.underlying20
  a20 := Tryd.isAgg20
  z20 := Tryd.sizeOf20
  v20 := Tryd.zeroValue20
  t37 := Tryd.underlying44
  a37 := Tryd.isAgg44
  z37 := Tryd.sizeOf44
  v37 := Tryd.zeroValue44
  t46 := Tryd.underlying85
  a46 := Tryd.isAgg85
  z46 := Tryd.sizeOf85
  v46 := Tryd.zeroValue85
  t51 := Tryd.underlying110
  a51 := Tryd.isAgg110
  z51 := Tryd.sizeOf110
  v51 := Tryd.zeroValue110
  t53 := Tryd.underlying61
  a53 := Tryd.isAgg61
  z53 := Tryd.sizeOf61
  v53 := Tryd.zeroValue61
  t171 := Tryd.underlying97
  a171 := Tryd.isAgg97
  z171 := Tryd.sizeOf97
  v171 := Tryd.zeroValue97
  t173 := Tryd.underlying100
  a173 := Tryd.isAgg100
  z173 := Tryd.sizeOf100
  v173 := Tryd.zeroValue100
  t212 := Tryd.underlying109
  a212 := Tryd.isAgg109
  z212 := Tryd.sizeOf109
  v212 := Tryd.zeroValue109
  t213 := Tryd.underlying111
  a213 := Tryd.isAgg111
  z213 := Tryd.sizeOf111
  t232 := Tryd.underlying125
  a232 := Tryd.isAgg125
  z232 := Tryd.sizeOf125
  v232 := Tryd.zeroValue125
  t233 := Tryd.underlying126
  a233 := Tryd.isAgg126
  z233 := Tryd.sizeOf126
  v233 := Tryd.zeroValue126
  g17 := by kernel_rfl
  g18 := by kernel_rfl
  g19 := by kernel_rfl }
open Go.RowKit Go.Sort Go.Lib in
/-- THE ROAD WITHOUT THE TABLE: 0 <= i < 100: NO PREMISE ON THE WORLD, AND THE WORLD IS AS IT WAS: a row that keeps its argument in that range need list no table ('laid = []'). (LAID: no walk: one application.) -/
theorem Tryd.strconv_Itoa_small (i : Nat) (hi : i < 100) (w : World) :
    Calls Tryd.prog 54 #[.int .i64 i] w fun e w' => e = .returned (.string ⟨(Lib.decDigits i).toArray⟩) ∧ w' = w := Any.strconv_Itoa_small Tryd.lays171 i hi w
def Tryd.lays217_ren : Go.Shelf.Ren := ⟨fun | 217 => 89 | 266 => 101 | n => n, fun | 9 => 9 | 5 => 5 | 3 => 3 | n => n, fun | n => n⟩
theorem Tryd.lays217 : Go.Proofs.Lays.n217 Tryd.prog Tryd.lays217_ren := {
  mixed := by kernel_rfl
  f217 := Tryd.func89.trans (congrArg some (by kernel_rfl))
  f266 := Tryd.func101.trans (congrArg some (by kernel_rfl))
  t3 := Tryd.underlying3
  a3 := Tryd.isAgg3
  z3 := Tryd.sizeOf3
  v3 := Tryd.zeroValue3
  t5 := Tryd.underlying5
  a5 := Tryd.isAgg5
  z5 := Tryd.sizeOf5
  v5 := Tryd.zeroValue5
  t9 := Tryd.underlying9
  a9 := Tryd.isAgg9
  z9 := Tryd.sizeOf9
  v9 := Tryd.zeroValue9 }
open Go.RowKit Go.Lib in
/-- internal/stringslite.IndexByte (what strings.IndexByte calls): IT RETURNS 'Lib.indexByte s c'; the world is as it was. (LAID: no walk: one application.) -/
theorem Tryd.stringslite_IndexByte (s : ByteArray) (c : Int) (w : World) :
    Calls Tryd.prog 89 #[.string s, .int .u8 c] w fun e w' => e = .returned (.int .i64 (Lib.indexByte s.data.toList c.toNat.toUInt8)) ∧ w' = w := Any.stringslite_IndexByte Tryd.lays217 s c w
def Tryd.lays224_ren : Go.Shelf.Ren := ⟨fun | 224 => 91 | n => n, fun | 3 => 3 | n => n, fun | n => n⟩
theorem Tryd.lays224 : Go.Proofs.Lays.n224 Tryd.prog Tryd.lays224_ren := {
  mixed := by kernel_rfl
  f224 := Tryd.func91.trans (congrArg some (by kernel_rfl))
  t3 := Tryd.underlying3
  a3 := Tryd.isAgg3
  z3 := Tryd.sizeOf3
  v3 := Tryd.zeroValue3 }
open Go.RowKit Go.Lib in
/-- internal/bytealg.Cutover: "Cutover reports the number of failures of IndexByte we should tolerate before switching over to Index. n is the number of bytes processed so far.": on amd64: (n + 16) / 8. (LAID: no walk: one application.) -/
theorem Tryd.bytealg_Cutover (n : Int) (h0 : 0 ≤ n) (h1 : n < 4611686018427387904) (w : World) :
    Calls Tryd.prog 91 #[.int .i64 n] w fun e w' => e = .returned (.int .i64 ((n + 16) / 8)) ∧ w' = w := Any.bytealg_Cutover Tryd.lays224 n h0 h1 w
def Tryd.lays314_ren : Go.Shelf.Ren := ⟨fun | 314 => 102 | n => n, fun | 9 => 9 | 51 => 110 | 3 => 3 | 4 => 4 | 5 => 5 | 46 => 85 | n => n, fun | n => n⟩
theorem Tryd.lays314 : Go.Proofs.Lays.n314 Tryd.prog Tryd.lays314_ren := {
  mixed := by kernel_rfl
  f314 := Tryd.func102.trans (congrArg some (by kernel_rfl))
  t3 := Tryd.underlying3
  a3 := Tryd.isAgg3
  z3 := Tryd.sizeOf3
  v3 := Tryd.zeroValue3
  t4 := Tryd.underlying4
  a4 := Tryd.isAgg4
  z4 := Tryd.sizeOf4
  v4 := Tryd.zeroValue4
  t5 := Tryd.underlying5
  a5 := Tryd.isAgg5
  z5 := Tryd.sizeOf5
  v5 := Tryd.zeroValue5
  t9 := Tryd.underlying9
  a9 := Tryd.isAgg9
  z9 := Tryd.sizeOf9
  v9 := Tryd.zeroValue9
  t46 := Tryd.underlying85
  a46 := Tryd.isAgg85
  z46 := Tryd.sizeOf85
  v46 := Tryd.zeroValue85
  t51 := Tryd.underlying110
  a51 := Tryd.isAgg110
  z51 := Tryd.sizeOf110
  v51 := Tryd.zeroValue110 }
open Go.RowKit Go.Lib in
/-- hashStr: "returns the hash and the appropriate multiplicative factor for use in Rabin-Karp algorithm": THE HASH OF ALL OF sep, AND 16777619 ^ len(sep), both in uint32. (LAID: no walk: one application.) -/
theorem Tryd.bytealg_hashStr (sep : ByteArray) (hs : sep.size < 4294967281) (w : World) :
    Calls Tryd.prog 102 #[.string sep] w fun e w' => e = .returned (.tuple #[.int .u32 (RK.H sep.data.toList % 4294967296), .int .u32 (16777619 ^ sep.size % 4294967296)]) ∧ w' = w := Any.bytealg_hashStr Tryd.lays314 sep hs w
def Tryd.lays267_ren : Go.Shelf.Ren := ⟨fun | 267 => 92 | 314 => 102 | n => n, fun | 9 => 9 | 3 => 3 | 146 => 117 | 51 => 110 | 4 => 4 | 5 => 5 | 46 => 85 | n => n, fun | n => n⟩
theorem Tryd.lays267 : Go.Proofs.Lays.n267 Tryd.prog Tryd.lays267_ren := {
  mixed := by kernel_rfl
  f267 := Tryd.func92.trans (congrArg some (by kernel_rfl))
  f314 := Tryd.func102.trans (congrArg some (by kernel_rfl))
  t3 := Tryd.underlying3
  a3 := Tryd.isAgg3
  z3 := Tryd.sizeOf3
  v3 := Tryd.zeroValue3
  t4 := Tryd.underlying4
  a4 := Tryd.isAgg4
  z4 := Tryd.sizeOf4
  v4 := Tryd.zeroValue4
  t5 := Tryd.underlying5
  a5 := Tryd.isAgg5
  z5 := Tryd.sizeOf5
  v5 := Tryd.zeroValue5
  t9 := Tryd.underlying9
  a9 := Tryd.isAgg9
  z9 := Tryd.sizeOf9
  v9 := Tryd.zeroValue9
  t46 := Tryd.underlying85
  a46 := Tryd.isAgg85
  z46 := Tryd.sizeOf85
  v46 := Tryd.zeroValue85
  t51 := Tryd.underlying110
  a51 := Tryd.isAgg110
  z51 := Tryd.sizeOf110
  v51 := Tryd.zeroValue110
  t146 := Tryd.underlying117
  a146 := Tryd.isAgg117
  z146 := Tryd.sizeOf117
  v146 := Tryd.zeroValue117 }
open Go.RowKit Go.Lib in
theorem Tryd.bytealg_IndexRabinKarp (s sep : ByteArray) (h1 : 1 ≤ sep.size) (h2 : sep.size ≤ s.size) (hs : s.size < 4294967281) (w : World) :
    Calls Tryd.prog 92 #[.string s, .string sep] w fun e w' => e = .returned (.int .i64 (Lib.index s.data.toList sep.data.toList)) ∧ w' = w := Any.bytealg_IndexRabinKarp Tryd.lays267 s sep h1 h2 hs w
def Tryd.lays219_ren : Go.Shelf.Ren := ⟨fun | 219 => 78 | 217 => 89 | 225 => 90 | 224 => 91 | 267 => 92 | 266 => 101 | 314 => 102 | n => n, fun | 9 => 9 | 3 => 3 | 4 => 4 | 5 => 5 | 46 => 85 | 146 => 117 | 51 => 110 | n => n, fun | 1 => 0 | n => n⟩
theorem Tryd.lays219 : Go.Proofs.Lays.n219 Tryd.prog Tryd.lays219_ren := {
  mixed := by kernel_rfl
  f217 := Tryd.func89.trans (congrArg some (by kernel_rfl))
  f219 := Tryd.func78.trans (congrArg some (by kernel_rfl))
  f224 := Tryd.func91.trans (congrArg some (by kernel_rfl))
  f225 := Tryd.func90.trans (congrArg some (by kernel_rfl))
  f266 := Tryd.func101.trans (congrArg some (by kernel_rfl))
  f267 := Tryd.func92.trans (congrArg some (by kernel_rfl))
  f314 := Tryd.func102.trans (congrArg some (by kernel_rfl))
  t3 := Tryd.underlying3
  a3 := Tryd.isAgg3
  z3 := Tryd.sizeOf3
  v3 := Tryd.zeroValue3
  t4 := Tryd.underlying4
  a4 := Tryd.isAgg4
  z4 := Tryd.sizeOf4
  v4 := Tryd.zeroValue4
  t5 := Tryd.underlying5
  a5 := Tryd.isAgg5
  z5 := Tryd.sizeOf5
  v5 := Tryd.zeroValue5
  t9 := Tryd.underlying9
  a9 := Tryd.isAgg9
  z9 := Tryd.sizeOf9
  v9 := Tryd.zeroValue9
  t46 := Tryd.underlying85
  a46 := Tryd.isAgg85
  z46 := Tryd.sizeOf85
  v46 := Tryd.zeroValue85
  t51 := Tryd.underlying110
  a51 := Tryd.isAgg110
  z51 := Tryd.sizeOf110
  v51 := Tryd.zeroValue110
  t146 := Tryd.underlying117
  a146 := Tryd.isAgg117
  z146 := Tryd.sizeOf117
  v146 := Tryd.zeroValue117
  g1 := by kernel_rfl }
open Go.RowKit Go.Lib in
/-- internal/stringslite.Index (what strings.Index calls) AT A substr OF ONE BYTE c: IT RETURNS 'Lib.indexByte s c'; the world is as it was. (LAID: no walk: one application.) -/
theorem Tryd.stringslite_Index_one (s : ByteArray) (c : UInt8) (w : World) :
    Calls Tryd.prog 78 #[.string s, .string ⟨#[c]⟩] w fun e w' => e = .returned (.int .i64 (Lib.indexByte s.data.toList c)) ∧ w' = w := Any.stringslite_Index_one Tryd.lays219 s c w
open Go.RowKit Go.Lib in
/-- internal/stringslite.Index (what strings.Index calls) AT A substr OF WHATEVER LENGTH: IT RETURNS 'Lib.index s substr'; the world is as it was. 'm': what internal/bytealg.MaxLen holds: whatever. (LAID: no walk: one application.) -/
theorem Tryd.stringslite_Index (s sub : ByteArray) (m : Int) (w : World) (hs : s.size < 4294967281) (hm : w.cell? ⟨0, 0, none⟩ = some (.int .i64 m)) :
    Calls Tryd.prog 78 #[.string s, .string sub] w fun e w' => e = .returned (.int .i64 (Lib.index s.data.toList sub.data.toList)) ∧ w' = w := Any.stringslite_Index Tryd.lays219 s sub m w hs hm
def Tryd.lays143_ren : Go.Shelf.Ren := ⟨fun | 143 => 71 | 219 => 78 | 217 => 89 | 225 => 90 | 224 => 91 | 267 => 92 | 266 => 101 | 314 => 102 | n => n, fun | 9 => 9 | 3 => 3 | 4 => 4 | 5 => 5 | 46 => 85 | 146 => 117 | 51 => 110 | n => n, fun | 1 => 0 | n => n⟩
theorem Tryd.lays143 : Go.Proofs.Lays.n143 Tryd.prog Tryd.lays143_ren := {
  mixed := by kernel_rfl
  f143 := Tryd.func71.trans (congrArg some (by kernel_rfl))
  f217 := Tryd.func89.trans (congrArg some (by kernel_rfl))
  f219 := Tryd.func78.trans (congrArg some (by kernel_rfl))
  f224 := Tryd.func91.trans (congrArg some (by kernel_rfl))
  f225 := Tryd.func90.trans (congrArg some (by kernel_rfl))
  f266 := Tryd.func101.trans (congrArg some (by kernel_rfl))
  f267 := Tryd.func92.trans (congrArg some (by kernel_rfl))
  f314 := Tryd.func102.trans (congrArg some (by kernel_rfl))
  t3 := Tryd.underlying3
  a3 := Tryd.isAgg3
  z3 := Tryd.sizeOf3
  v3 := Tryd.zeroValue3
  t4 := Tryd.underlying4
  a4 := Tryd.isAgg4
  z4 := Tryd.sizeOf4
  v4 := Tryd.zeroValue4
  t5 := Tryd.underlying5
  a5 := Tryd.isAgg5
  z5 := Tryd.sizeOf5
  v5 := Tryd.zeroValue5
  t9 := Tryd.underlying9
  a9 := Tryd.isAgg9
  z9 := Tryd.sizeOf9
  v9 := Tryd.zeroValue9
  t46 := Tryd.underlying85
  a46 := Tryd.isAgg85
  z46 := Tryd.sizeOf85
  v46 := Tryd.zeroValue85
  t51 := Tryd.underlying110
  a51 := Tryd.isAgg110
  z51 := Tryd.sizeOf110
  v51 := Tryd.zeroValue110
  t146 := Tryd.underlying117
  a146 := Tryd.isAgg117
  z146 := Tryd.sizeOf117
  v146 := Tryd.zeroValue117
  g1 := by kernel_rfl }
open Go.RowKit Go.Lib in
/-- strings.Index: "Index returns the index of the first instance of substr in s, or -1 if substr is not present in s.": AT A substr OF ONE BYTE c: IT RETURNS 'Lib.indexByte s c'; the world is as it was. (LAID: no walk: one application.) -/
theorem Tryd.strings_Index_one (s : ByteArray) (c : UInt8) (w : World) :
    Calls Tryd.prog 71 #[.string s, .string ⟨#[c]⟩] w fun e w' => e = .returned (.int .i64 (Lib.indexByte s.data.toList c)) ∧ w' = w := Any.strings_Index_one Tryd.lays143 s c w
open Go.RowKit Go.Lib in
/-- strings.Index: "Index returns the index of the first instance of substr in s, or -1 if substr is not present in s.": IT RETURNS 'Lib.index s substr'; the world is as it was. (LAID: no walk: one application.) -/
theorem Tryd.strings_Index (s sub : ByteArray) (m : Int) (w : World) (hs : s.size < 4294967281) (hm : w.cell? ⟨0, 0, none⟩ = some (.int .i64 m)) :
    Calls Tryd.prog 71 #[.string s, .string sub] w fun e w' => e = .returned (.int .i64 (Lib.index s.data.toList sub.data.toList)) ∧ w' = w := Any.strings_Index Tryd.lays143 s sub m w hs hm
def Tryd.lays138_ren : Go.Shelf.Ren := ⟨fun | 138 => 70 | 195 => 75 | 218 => 77 | 143 => 71 | 219 => 78 | 217 => 89 | 225 => 90 | 224 => 91 | 267 => 92 | 266 => 101 | 314 => 102 | n => n, fun | 9 => 9 | 3 => 3 | 4 => 4 | 5 => 5 | 0 => 0 | 46 => 85 | 146 => 117 | 51 => 110 | n => n, fun | 1 => 0 | n => n⟩
theorem Tryd.lays138 : Go.Proofs.Lays.n138 Tryd.prog Tryd.lays138_ren := {
  mixed := by kernel_rfl
  f138 := Tryd.func70.trans (congrArg some (by kernel_rfl))
  f143 := Tryd.func71.trans (congrArg some (by kernel_rfl))
  f195 := Tryd.func75.trans (congrArg some (by kernel_rfl))
  f217 := Tryd.func89.trans (congrArg some (by kernel_rfl))
  f218 := Tryd.func77.trans (congrArg some (by kernel_rfl))
  f219 := Tryd.func78.trans (congrArg some (by kernel_rfl))
  f224 := Tryd.func91.trans (congrArg some (by kernel_rfl))
  f225 := Tryd.func90.trans (congrArg some (by kernel_rfl))
  f266 := Tryd.func101.trans (congrArg some (by kernel_rfl))
  f267 := Tryd.func92.trans (congrArg some (by kernel_rfl))
  f314 := Tryd.func102.trans (congrArg some (by kernel_rfl))
  t0 := Tryd.underlying0
  a0 := Tryd.isAgg0
  z0 := Tryd.sizeOf0
  v0 := Tryd.zeroValue0
  t3 := Tryd.underlying3
  a3 := Tryd.isAgg3
  z3 := Tryd.sizeOf3
  v3 := Tryd.zeroValue3
  t4 := Tryd.underlying4
  a4 := Tryd.isAgg4
  z4 := Tryd.sizeOf4
  v4 := Tryd.zeroValue4
  t5 := Tryd.underlying5
  a5 := Tryd.isAgg5
  z5 := Tryd.sizeOf5
  v5 := Tryd.zeroValue5
  t9 := Tryd.underlying9
  a9 := Tryd.isAgg9
  z9 := Tryd.sizeOf9
  v9 := Tryd.zeroValue9
  t46 := Tryd.underlying85
  a46 := Tryd.isAgg85
  z46 := Tryd.sizeOf85
  v46 := Tryd.zeroValue85
  t51 := Tryd.underlying110
  a51 := Tryd.isAgg110
  z51 := Tryd.sizeOf110
  v51 := Tryd.zeroValue110
  t146 := Tryd.underlying117
  a146 := Tryd.isAgg117
  z146 := Tryd.sizeOf117
  v146 := Tryd.zeroValue117
  g1 := by kernel_rfl }
open Go.RowKit Go.Lib in
/-- strings.Count AT A substr OF ONE BYTE ('hp'): "Count counts the number of non-overlapping instances of substr in s.": IT RETURNS 'Lib.countByte s (that byte)'; the world is as it was. ✋ NO CONTRACT HERE YET at an empty substr (utf8.RuneCountInString) or at a longer one (a loop over strings.Index). (LAID: no walk: one application.) -/
theorem Tryd.strings_Count_one (s : ByteArray) (c : UInt8) (w : World) :
    Calls Tryd.prog 70 #[.string s, .string ⟨#[c]⟩] w fun e w' => e = .returned (.int .i64 (Lib.countByte s.data.toList c)) ∧ w' = w := Any.strings_Count_one Tryd.lays138 s c w
open Go.RowKit Go.Lib in
/-- strings.Count AT A substr OF TWO BYTES OR MORE: "Count counts the number of non-overlapping instances of substr in s.": IT RETURNS 'Lib.count s substr'; the world is as it was. (LAID: no walk: one application.) -/
theorem Tryd.strings_Count (s sub : ByteArray) (m : Int) (w : World) (hs : s.size < 4294967281) (hm : w.cell? ⟨0, 0, none⟩ = some (.int .i64 m)) (h2 : 2 ≤ sub.size) :
    Calls Tryd.prog 70 #[.string s, .string sub] w fun e w' => e = .returned (.int .i64 (Lib.countB s sub)) ∧ w' = w := Any.strings_Count Tryd.lays138 s sub m w hs hm h2
def Tryd.laysM219_ren : Go.Shelf.Ren := ⟨fun | 219 => 78 | 217 => 89 | 225 => 90 | 224 => 91 | 267 => 92 | 266 => 101 | 314 => 102 | n => n, fun | 9 => 9 | 3 => 3 | 4 => 4 | 5 => 5 | 46 => 85 | 146 => 117 | 51 => 110 | n => n, fun | 1 => 0 | n => n⟩
theorem Tryd.laysM219 : Go.Proofs.LaysM.n219 Tryd.prog Tryd.laysM219_ren := {
  mixed := by kernel_rfl
  f217 := Tryd.func89.trans (congrArg some (by kernel_rfl))
  f219 := Tryd.func78.trans (congrArg some (by kernel_rfl))
  f224 := Tryd.func91.trans (congrArg some (by kernel_rfl))
  f225 := Tryd.func90.trans (congrArg some (by kernel_rfl))
  f266 := Tryd.func101.trans (congrArg some (by kernel_rfl))
  f267 := Tryd.func92.trans (congrArg some (by kernel_rfl))
  f314 := Tryd.func102.trans (congrArg some (by kernel_rfl))
  t3 := Tryd.underlying3
  a3 := Tryd.isAgg3
  z3 := Tryd.sizeOf3
  v3 := Tryd.zeroValue3
  t4 := Tryd.underlying4
  a4 := Tryd.isAgg4
  z4 := Tryd.sizeOf4
  v4 := Tryd.zeroValue4
  t5 := Tryd.underlying5
  a5 := Tryd.isAgg5
  z5 := Tryd.sizeOf5
  v5 := Tryd.zeroValue5
  t9 := Tryd.underlying9
  a9 := Tryd.isAgg9
  z9 := Tryd.sizeOf9
  v9 := Tryd.zeroValue9
  t46 := Tryd.underlying85
  a46 := Tryd.isAgg85
  z46 := Tryd.sizeOf85
  v46 := Tryd.zeroValue85
  t51 := Tryd.underlying110
  a51 := Tryd.isAgg110
  z51 := Tryd.sizeOf110
  v51 := Tryd.zeroValue110
  t146 := Tryd.underlying117
  a146 := Tryd.isAgg117
  z146 := Tryd.sizeOf117
  v146 := Tryd.zeroValue117
  g1 := by kernel_rfl
  i3 := by kernel_rfl
  i4 := by kernel_rfl
  i5 := by kernel_rfl
  i9 := by kernel_rfl
  i46 := by kernel_rfl
  i51 := by kernel_rfl
  i146 := by kernel_rfl
  m1 := by kernel_rfl
  s1_3 := fun w h => Go.Proofs.cell_of_shapedOpen_int (zero := #[.int .i64 0]) (t := 3) h (of_decide_eq_true (by kernel_rfl)) (by kernel_rfl) rfl (by kernel_rfl) (by kernel_rfl) Tryd.underlying3 }
open Go.RowKit Go.Lib in
theorem Tryd.stringslite_Index_shaped (s sub : ByteArray) (w : World) (h : w.ShapedOpen Tryd.prog) (hs : s.size < 4294967281) :
    Calls Tryd.prog 78 #[.string s, .string sub] w fun e w' => e = .returned (.int .i64 (Lib.index s.data.toList sub.data.toList)) ∧ w' = w := Any.stringslite_Index_shaped Tryd.laysM219 s sub w h hs
def Tryd.laysM143_ren : Go.Shelf.Ren := ⟨fun | 143 => 71 | 219 => 78 | 217 => 89 | 225 => 90 | 224 => 91 | 267 => 92 | 266 => 101 | 314 => 102 | n => n, fun | 9 => 9 | 3 => 3 | 4 => 4 | 5 => 5 | 46 => 85 | 146 => 117 | 51 => 110 | n => n, fun | 1 => 0 | n => n⟩
theorem Tryd.laysM143 : Go.Proofs.LaysM.n143 Tryd.prog Tryd.laysM143_ren := {
  mixed := by kernel_rfl
  f143 := Tryd.func71.trans (congrArg some (by kernel_rfl))
  f217 := Tryd.func89.trans (congrArg some (by kernel_rfl))
  f219 := Tryd.func78.trans (congrArg some (by kernel_rfl))
  f224 := Tryd.func91.trans (congrArg some (by kernel_rfl))
  f225 := Tryd.func90.trans (congrArg some (by kernel_rfl))
  f266 := Tryd.func101.trans (congrArg some (by kernel_rfl))
  f267 := Tryd.func92.trans (congrArg some (by kernel_rfl))
  f314 := Tryd.func102.trans (congrArg some (by kernel_rfl))
  t3 := Tryd.underlying3
  a3 := Tryd.isAgg3
  z3 := Tryd.sizeOf3
  v3 := Tryd.zeroValue3
  t4 := Tryd.underlying4
  a4 := Tryd.isAgg4
  z4 := Tryd.sizeOf4
  v4 := Tryd.zeroValue4
  t5 := Tryd.underlying5
  a5 := Tryd.isAgg5
  z5 := Tryd.sizeOf5
  v5 := Tryd.zeroValue5
  t9 := Tryd.underlying9
  a9 := Tryd.isAgg9
  z9 := Tryd.sizeOf9
  v9 := Tryd.zeroValue9
  t46 := Tryd.underlying85
  a46 := Tryd.isAgg85
  z46 := Tryd.sizeOf85
  v46 := Tryd.zeroValue85
  t51 := Tryd.underlying110
  a51 := Tryd.isAgg110
  z51 := Tryd.sizeOf110
  v51 := Tryd.zeroValue110
  t146 := Tryd.underlying117
  a146 := Tryd.isAgg117
  z146 := Tryd.sizeOf117
  v146 := Tryd.zeroValue117
  g1 := by kernel_rfl
  i3 := by kernel_rfl
  i4 := by kernel_rfl
  i5 := by kernel_rfl
  i9 := by kernel_rfl
  i46 := by kernel_rfl
  i51 := by kernel_rfl
  i146 := by kernel_rfl
  m1 := by kernel_rfl
  s1_3 := fun w h => Go.Proofs.cell_of_shapedOpen_int (zero := #[.int .i64 0]) (t := 3) h (of_decide_eq_true (by kernel_rfl)) (by kernel_rfl) rfl (by kernel_rfl) (by kernel_rfl) Tryd.underlying3 }
open Go.RowKit Go.Lib in
theorem Tryd.strings_Index_shaped (s sub : ByteArray) (w : World) (h : w.ShapedOpen Tryd.prog) (hs : s.size < 4294967281) :
    Calls Tryd.prog 71 #[.string s, .string sub] w fun e w' => e = .returned (.int .i64 (Lib.index s.data.toList sub.data.toList)) ∧ w' = w := Any.strings_Index_shaped Tryd.laysM143 s sub w h hs
def Tryd.laysM138_ren : Go.Shelf.Ren := ⟨fun | 138 => 70 | 195 => 75 | 218 => 77 | 143 => 71 | 219 => 78 | 217 => 89 | 225 => 90 | 224 => 91 | 267 => 92 | 266 => 101 | 314 => 102 | n => n, fun | 9 => 9 | 3 => 3 | 4 => 4 | 5 => 5 | 0 => 0 | 46 => 85 | 146 => 117 | 51 => 110 | n => n, fun | 1 => 0 | n => n⟩
theorem Tryd.laysM138 : Go.Proofs.LaysM.n138 Tryd.prog Tryd.laysM138_ren := {
  mixed := by kernel_rfl
  f138 := Tryd.func70.trans (congrArg some (by kernel_rfl))
  f143 := Tryd.func71.trans (congrArg some (by kernel_rfl))
  f195 := Tryd.func75.trans (congrArg some (by kernel_rfl))
  f217 := Tryd.func89.trans (congrArg some (by kernel_rfl))
  f218 := Tryd.func77.trans (congrArg some (by kernel_rfl))
  f219 := Tryd.func78.trans (congrArg some (by kernel_rfl))
  f224 := Tryd.func91.trans (congrArg some (by kernel_rfl))
  f225 := Tryd.func90.trans (congrArg some (by kernel_rfl))
  f266 := Tryd.func101.trans (congrArg some (by kernel_rfl))
  f267 := Tryd.func92.trans (congrArg some (by kernel_rfl))
  f314 := Tryd.func102.trans (congrArg some (by kernel_rfl))
  t0 := Tryd.underlying0
  a0 := Tryd.isAgg0
  z0 := Tryd.sizeOf0
  v0 := Tryd.zeroValue0
  t3 := Tryd.underlying3
  a3 := Tryd.isAgg3
  z3 := Tryd.sizeOf3
  v3 := Tryd.zeroValue3
  t4 := Tryd.underlying4
  a4 := Tryd.isAgg4
  z4 := Tryd.sizeOf4
  v4 := Tryd.zeroValue4
  t5 := Tryd.underlying5
  a5 := Tryd.isAgg5
  z5 := Tryd.sizeOf5
  v5 := Tryd.zeroValue5
  t9 := Tryd.underlying9
  a9 := Tryd.isAgg9
  z9 := Tryd.sizeOf9
  v9 := Tryd.zeroValue9
  t46 := Tryd.underlying85
  a46 := Tryd.isAgg85
  z46 := Tryd.sizeOf85
  v46 := Tryd.zeroValue85
  t51 := Tryd.underlying110
  a51 := Tryd.isAgg110
  z51 := Tryd.sizeOf110
  v51 := Tryd.zeroValue110
  t146 := Tryd.underlying117
  a146 := Tryd.isAgg117
  z146 := Tryd.sizeOf117
  v146 := Tryd.zeroValue117
  g1 := by kernel_rfl
  i0 := by kernel_rfl
  i3 := by kernel_rfl
  i4 := by kernel_rfl
  i5 := by kernel_rfl
  i9 := by kernel_rfl
  i46 := by kernel_rfl
  i51 := by kernel_rfl
  i146 := by kernel_rfl
  m1 := by kernel_rfl
  s1_3 := fun w h => Go.Proofs.cell_of_shapedOpen_int (zero := #[.int .i64 0]) (t := 3) h (of_decide_eq_true (by kernel_rfl)) (by kernel_rfl) rfl (by kernel_rfl) (by kernel_rfl) Tryd.underlying3 }
open Go.RowKit Go.Lib in
theorem Tryd.strings_Count_shaped (s sub : ByteArray) (w : World) (h : w.ShapedOpen Tryd.prog) (hs : s.size < 4294967281) (h2 : 2 ≤ sub.size) :
    Calls Tryd.prog 70 #[.string s, .string sub] w fun e w' => e = .returned (.int .i64 (Lib.countB s sub)) ∧ w' = w := Any.strings_Count_shaped Tryd.laysM138 s sub w h hs h2
open Go.RowKit Go.Lib in
/-- strings.Count at whatever sep that is not empty: the two roads under one statement. (LAID: no walk: one application.) -/
theorem Tryd.strings_Count_any (s sep : ByteArray) (m : Int) (w : World) (hs : s.size < 4294967281) (hm : w.cell? ⟨0, 0, none⟩ = some (.int .i64 m)) (h1 : 1 ≤ sep.size) :
    Calls Tryd.prog 70 #[.string s, .string sep] w fun e w' => e = .returned (.int .i64 (Lib.countB s sep)) ∧ w' = w := Any.strings_Count_any Tryd.lays138 s sep m w hs hm h1
def Tryd.lays221_ren : Go.Shelf.Ren := ⟨fun | 221 => 60 | 268 => 69 | 138 => 70 | 143 => 71 | 195 => 75 | 197 => 76 | 218 => 77 | 219 => 78 | 260 => 88 | 217 => 89 | 225 => 90 | 224 => 91 | 267 => 92 | 266 => 101 | 314 => 102 | n => n, fun | 9 => 9 | 3 => 3 | 31 => 52 | 4 => 4 | 0 => 0 | 105 => 88 | 21 => 21 | 5 => 5 | 46 => 85 | 119 => 113 | 139 => 116 | 138 => 115 | 146 => 117 | 51 => 110 | n => n, fun | 1 => 0 | 3 => 4 | 4 => 5 | n => n⟩
theorem Tryd.lays221 : Go.Proofs.Lays.n221 Tryd.prog Tryd.lays221_ren := {
  mixed := by kernel_rfl
  f138 := Tryd.func70.trans (congrArg some (by kernel_rfl))
  f143 := Tryd.func71.trans (congrArg some (by kernel_rfl))
  f195 := Tryd.func75.trans (congrArg some (by kernel_rfl))
  f197 := Tryd.func76.trans (congrArg some (by kernel_rfl))
  f217 := Tryd.func89.trans (congrArg some (by kernel_rfl))
  f218 := Tryd.func77.trans (congrArg some (by kernel_rfl))
  f219 := Tryd.func78.trans (congrArg some (by kernel_rfl))
  f221 := Tryd.func60.trans (congrArg some (by kernel_rfl))
  f224 := Tryd.func91.trans (congrArg some (by kernel_rfl))
  f225 := Tryd.func90.trans (congrArg some (by kernel_rfl))
  f260 := Tryd.func88.trans (congrArg some (by kernel_rfl))
  f266 := Tryd.func101.trans (congrArg some (by kernel_rfl))
  f267 := Tryd.func92.trans (congrArg some (by kernel_rfl))
  f268 := Tryd.func69.trans (congrArg some (by kernel_rfl))
  f314 := Tryd.func102.trans (congrArg some (by kernel_rfl))
  t0 := Tryd.underlying0
  a0 := Tryd.isAgg0
  z0 := Tryd.sizeOf0
  v0 := Tryd.zeroValue0
  t3 := Tryd.underlying3
  a3 := Tryd.isAgg3
  z3 := Tryd.sizeOf3
  v3 := Tryd.zeroValue3
  t4 := Tryd.underlying4
  a4 := Tryd.isAgg4
  z4 := Tryd.sizeOf4
  v4 := Tryd.zeroValue4
  t5 := Tryd.underlying5
  a5 := Tryd.isAgg5
  z5 := Tryd.sizeOf5
  v5 := Tryd.zeroValue5
  t9 := Tryd.underlying9
  a9 := Tryd.isAgg9
  z9 := Tryd.sizeOf9
  v9 := Tryd.zeroValue9
  t21 := Tryd.underlying21
  a21 := Tryd.isAgg21
  z21 := Tryd.sizeOf21
  v21 := Tryd.zeroValue21
  t31 := Tryd.underlying52
  a31 := Tryd.isAgg52
  z31 := Tryd.sizeOf52
  v31 := Tryd.zeroValue52
  t46 := Tryd.underlying85
  a46 := Tryd.isAgg85
  z46 := Tryd.sizeOf85
  v46 := Tryd.zeroValue85
  t51 := Tryd.underlying110
  a51 := Tryd.isAgg110
  z51 := Tryd.sizeOf110
  v51 := Tryd.zeroValue110
  t105 := Tryd.underlying88
  a105 := Tryd.isAgg88
  z105 := Tryd.sizeOf88
  v105 := Tryd.zeroValue88
  t119 := Tryd.underlying113
  a119 := Tryd.isAgg113
  z119 := Tryd.sizeOf113
  t138 := Tryd.underlying115
  a138 := Tryd.isAgg115
  z138 := Tryd.sizeOf115
  v138 := Tryd.zeroValue115
  t139 := Tryd.underlying116
  a139 := Tryd.isAgg116
  z139 := Tryd.sizeOf116
  v139 := Tryd.zeroValue116
  t146 := Tryd.underlying117
  a146 := Tryd.isAgg117
  z146 := Tryd.sizeOf117
  v146 := Tryd.zeroValue117
  g1 := by kernel_rfl
  g3 := by kernel_rfl
  g4 := by kernel_rfl }
open Go.RowKit Go.Lib in
theorem Tryd.strings_genSplit (s sep : ByteArray) (sv : Nat) (n : Int) (N : Nat) (m : Int) (w : World) (hs : s.size < 4294967281) (hm : w.cell? ⟨0, 0, none⟩ = some (.int .i64 m)) (h1 : 1 ≤ sep.size) (hsv : sv ≤ sep.size) (hn0 : n ≠ 0) (hn63 : n ≤ 9223372036854775807) (hN : (N : Int) = min (if n < 0 then (Lib.countB s sep : Int) + 1 else n) ((s.size : Int) + 1)) :
    Calls Tryd.prog 60 #[.string s, .string sep, .int .i64 sv, .int .i64 n] w fun e w' =>
      e = .returned (.slice (some ⟨w.heap.size, 0, none⟩) (Lib.splitB sep sv (N - 1) s).length N) ∧ w' = w.alloc (.cells (Lib.cellsOf (Lib.splitB sep sv (N - 1) s) N) 9) := Any.strings_genSplit Tryd.lays221 (by kernel_rfl) s sep sv n N m w hs hm h1 hsv hn0 hn63 hN
def Tryd.lays146_ren : Go.Shelf.Ren := ⟨fun | 146 => 37 | 221 => 60 | 268 => 69 | 138 => 70 | 143 => 71 | 195 => 75 | 197 => 76 | 218 => 77 | 219 => 78 | 260 => 88 | 217 => 89 | 225 => 90 | 224 => 91 | 267 => 92 | 266 => 101 | 314 => 102 | n => n, fun | 9 => 9 | 31 => 52 | 3 => 3 | 4 => 4 | 0 => 0 | 105 => 88 | 21 => 21 | 5 => 5 | 46 => 85 | 119 => 113 | 139 => 116 | 138 => 115 | 146 => 117 | 51 => 110 | n => n, fun | 1 => 0 | 3 => 4 | 4 => 5 | n => n⟩
theorem Tryd.lays146 : Go.Proofs.Lays.n146 Tryd.prog Tryd.lays146_ren := {
  mixed := by kernel_rfl
  f138 := Tryd.func70.trans (congrArg some (by kernel_rfl))
  f143 := Tryd.func71.trans (congrArg some (by kernel_rfl))
  f146 := Tryd.func37.trans (congrArg some (by kernel_rfl))
  f195 := Tryd.func75.trans (congrArg some (by kernel_rfl))
  f197 := Tryd.func76.trans (congrArg some (by kernel_rfl))
  f217 := Tryd.func89.trans (congrArg some (by kernel_rfl))
  f218 := Tryd.func77.trans (congrArg some (by kernel_rfl))
  f219 := Tryd.func78.trans (congrArg some (by kernel_rfl))
  f221 := Tryd.func60.trans (congrArg some (by kernel_rfl))
  f224 := Tryd.func91.trans (congrArg some (by kernel_rfl))
  f225 := Tryd.func90.trans (congrArg some (by kernel_rfl))
  f260 := Tryd.func88.trans (congrArg some (by kernel_rfl))
  f266 := Tryd.func101.trans (congrArg some (by kernel_rfl))
  f267 := Tryd.func92.trans (congrArg some (by kernel_rfl))
  f268 := Tryd.func69.trans (congrArg some (by kernel_rfl))
  f314 := Tryd.func102.trans (congrArg some (by kernel_rfl))
  t0 := Tryd.underlying0
  a0 := Tryd.isAgg0
  z0 := Tryd.sizeOf0
  v0 := Tryd.zeroValue0
  t3 := Tryd.underlying3
  a3 := Tryd.isAgg3
  z3 := Tryd.sizeOf3
  v3 := Tryd.zeroValue3
  t4 := Tryd.underlying4
  a4 := Tryd.isAgg4
  z4 := Tryd.sizeOf4
  v4 := Tryd.zeroValue4
  t5 := Tryd.underlying5
  a5 := Tryd.isAgg5
  z5 := Tryd.sizeOf5
  v5 := Tryd.zeroValue5
  t9 := Tryd.underlying9
  a9 := Tryd.isAgg9
  z9 := Tryd.sizeOf9
  v9 := Tryd.zeroValue9
  t21 := Tryd.underlying21
  a21 := Tryd.isAgg21
  z21 := Tryd.sizeOf21
  v21 := Tryd.zeroValue21
  t31 := Tryd.underlying52
  a31 := Tryd.isAgg52
  z31 := Tryd.sizeOf52
  v31 := Tryd.zeroValue52
  t46 := Tryd.underlying85
  a46 := Tryd.isAgg85
  z46 := Tryd.sizeOf85
  v46 := Tryd.zeroValue85
  t51 := Tryd.underlying110
  a51 := Tryd.isAgg110
  z51 := Tryd.sizeOf110
  v51 := Tryd.zeroValue110
  t105 := Tryd.underlying88
  a105 := Tryd.isAgg88
  z105 := Tryd.sizeOf88
  v105 := Tryd.zeroValue88
  t119 := Tryd.underlying113
  a119 := Tryd.isAgg113
  z119 := Tryd.sizeOf113
  t138 := Tryd.underlying115
  a138 := Tryd.isAgg115
  z138 := Tryd.sizeOf115
  v138 := Tryd.zeroValue115
  t139 := Tryd.underlying116
  a139 := Tryd.isAgg116
  z139 := Tryd.sizeOf116
  v139 := Tryd.zeroValue116
  t146 := Tryd.underlying117
  a146 := Tryd.isAgg117
  z146 := Tryd.sizeOf117
  v146 := Tryd.zeroValue117
  g1 := by kernel_rfl
  g3 := by kernel_rfl
  g4 := by kernel_rfl }
open Go.RowKit Go.Lib in
/-- strings.Split. (LAID: no walk: one application.) -/
theorem Tryd.strings_Split (s sep : ByteArray) (m : Int) (w : World) (hs : s.size < 4294967281) (hm : w.cell? ⟨0, 0, none⟩ = some (.int .i64 m)) (h1 : 1 ≤ sep.size) :
    Calls Tryd.prog 37 #[.string s, .string sep] w fun e w' =>
      e = .returned (.slice (some ⟨w.heap.size, 0, none⟩) (Lib.countB s sep + 1) (Lib.countB s sep + 1)) ∧ w' = w.alloc (.cells ((Lib.splitB sep 0 (Lib.countB s sep) s).map Value.string).toArray 9) := Any.strings_Split Tryd.lays146 (by kernel_rfl) s sep m w hs hm h1
def Tryd.laysM146_ren : Go.Shelf.Ren := ⟨fun | 146 => 37 | 221 => 60 | 268 => 69 | 138 => 70 | 143 => 71 | 195 => 75 | 197 => 76 | 218 => 77 | 219 => 78 | 260 => 88 | 217 => 89 | 225 => 90 | 224 => 91 | 267 => 92 | 266 => 101 | 314 => 102 | n => n, fun | 9 => 9 | 31 => 52 | 3 => 3 | 4 => 4 | 0 => 0 | 105 => 88 | 21 => 21 | 5 => 5 | 46 => 85 | 119 => 113 | 139 => 116 | 138 => 115 | 146 => 117 | 51 => 110 | n => n, fun | 1 => 0 | 3 => 4 | 4 => 5 | n => n⟩
theorem Tryd.laysM146 : Go.Proofs.LaysM.n146 Tryd.prog Tryd.laysM146_ren := {
  mixed := by kernel_rfl
  f138 := Tryd.func70.trans (congrArg some (by kernel_rfl))
  f143 := Tryd.func71.trans (congrArg some (by kernel_rfl))
  f146 := Tryd.func37.trans (congrArg some (by kernel_rfl))
  f195 := Tryd.func75.trans (congrArg some (by kernel_rfl))
  f197 := Tryd.func76.trans (congrArg some (by kernel_rfl))
  f217 := Tryd.func89.trans (congrArg some (by kernel_rfl))
  f218 := Tryd.func77.trans (congrArg some (by kernel_rfl))
  f219 := Tryd.func78.trans (congrArg some (by kernel_rfl))
  f221 := Tryd.func60.trans (congrArg some (by kernel_rfl))
  f224 := Tryd.func91.trans (congrArg some (by kernel_rfl))
  f225 := Tryd.func90.trans (congrArg some (by kernel_rfl))
  f260 := Tryd.func88.trans (congrArg some (by kernel_rfl))
  f266 := Tryd.func101.trans (congrArg some (by kernel_rfl))
  f267 := Tryd.func92.trans (congrArg some (by kernel_rfl))
  f268 := Tryd.func69.trans (congrArg some (by kernel_rfl))
  f314 := Tryd.func102.trans (congrArg some (by kernel_rfl))
  t0 := Tryd.underlying0
  a0 := Tryd.isAgg0
  z0 := Tryd.sizeOf0
  v0 := Tryd.zeroValue0
  t3 := Tryd.underlying3
  a3 := Tryd.isAgg3
  z3 := Tryd.sizeOf3
  v3 := Tryd.zeroValue3
  t4 := Tryd.underlying4
  a4 := Tryd.isAgg4
  z4 := Tryd.sizeOf4
  v4 := Tryd.zeroValue4
  t5 := Tryd.underlying5
  a5 := Tryd.isAgg5
  z5 := Tryd.sizeOf5
  v5 := Tryd.zeroValue5
  t9 := Tryd.underlying9
  a9 := Tryd.isAgg9
  z9 := Tryd.sizeOf9
  v9 := Tryd.zeroValue9
  t21 := Tryd.underlying21
  a21 := Tryd.isAgg21
  z21 := Tryd.sizeOf21
  v21 := Tryd.zeroValue21
  t31 := Tryd.underlying52
  a31 := Tryd.isAgg52
  z31 := Tryd.sizeOf52
  v31 := Tryd.zeroValue52
  t46 := Tryd.underlying85
  a46 := Tryd.isAgg85
  z46 := Tryd.sizeOf85
  v46 := Tryd.zeroValue85
  t51 := Tryd.underlying110
  a51 := Tryd.isAgg110
  z51 := Tryd.sizeOf110
  v51 := Tryd.zeroValue110
  t105 := Tryd.underlying88
  a105 := Tryd.isAgg88
  z105 := Tryd.sizeOf88
  v105 := Tryd.zeroValue88
  t119 := Tryd.underlying113
  a119 := Tryd.isAgg113
  z119 := Tryd.sizeOf113
  t138 := Tryd.underlying115
  a138 := Tryd.isAgg115
  z138 := Tryd.sizeOf115
  v138 := Tryd.zeroValue115
  t139 := Tryd.underlying116
  a139 := Tryd.isAgg116
  z139 := Tryd.sizeOf116
  v139 := Tryd.zeroValue116
  t146 := Tryd.underlying117
  a146 := Tryd.isAgg117
  z146 := Tryd.sizeOf117
  v146 := Tryd.zeroValue117
  g1 := by kernel_rfl
  g3 := by kernel_rfl
  g4 := by kernel_rfl
  i0 := by kernel_rfl
  i3 := by kernel_rfl
  i4 := by kernel_rfl
  i5 := by kernel_rfl
  i9 := by kernel_rfl
  i21 := by kernel_rfl
  i31 := by kernel_rfl
  i46 := by kernel_rfl
  i51 := by kernel_rfl
  i105 := by kernel_rfl
  i138 := by kernel_rfl
  i139 := by kernel_rfl
  i146 := by kernel_rfl
  m1 := by kernel_rfl
  s1_3 := fun w h => Go.Proofs.cell_of_shapedOpen_int (zero := #[.int .i64 0]) (t := 3) h (of_decide_eq_true (by kernel_rfl)) (by kernel_rfl) rfl (by kernel_rfl) (by kernel_rfl) Tryd.underlying3
  m3 := by kernel_rfl
  m4 := by kernel_rfl }
open Go.RowKit Go.Lib in
/-- strings.Split, sep not empty. (LAID: no walk: one application.) -/
theorem Tryd.strings_Split_shaped (s sep : ByteArray) (w : World) (h : w.ShapedOpen Tryd.prog) (hs : s.size < 4294967281) (h1 : 1 ≤ sep.size) :
    Calls Tryd.prog 37 #[.string s, .string sep] w fun e w' =>
      e = .returned (.slice (some ⟨w.heap.size, 0, none⟩) (Lib.countB s sep + 1) (Lib.countB s sep + 1)) ∧ w' = w.alloc (.cells ((Lib.splitB sep 0 (Lib.countB s sep) s).map Value.string).toArray 9) := Any.strings_Split_shaped Tryd.laysM146 s sep w h hs h1
def Tryd.lays197_ren : Go.Shelf.Ren := ⟨fun | 197 => 76 | 260 => 88 | n => n, fun | 9 => 9 | 21 => 21 | 3 => 3 | 4 => 4 | 5 => 5 | 105 => 88 | 119 => 113 | 0 => 0 | 46 => 85 | 139 => 116 | 138 => 115 | n => n, fun | 3 => 4 | 4 => 5 | n => n⟩
theorem Tryd.lays197 : Go.Proofs.Lays.n197 Tryd.prog Tryd.lays197_ren := {
  mixed := by kernel_rfl
  f197 := Tryd.func76.trans (congrArg some (by kernel_rfl))
  f260 := Tryd.func88.trans (congrArg some (by kernel_rfl))
  t0 := Tryd.underlying0
  a0 := Tryd.isAgg0
  z0 := Tryd.sizeOf0
  v0 := Tryd.zeroValue0
  t3 := Tryd.underlying3
  a3 := Tryd.isAgg3
  z3 := Tryd.sizeOf3
  v3 := Tryd.zeroValue3
  t4 := Tryd.underlying4
  a4 := Tryd.isAgg4
  z4 := Tryd.sizeOf4
  v4 := Tryd.zeroValue4
  t5 := Tryd.underlying5
  a5 := Tryd.isAgg5
  z5 := Tryd.sizeOf5
  v5 := Tryd.zeroValue5
  t9 := Tryd.underlying9
  a9 := Tryd.isAgg9
  z9 := Tryd.sizeOf9
  v9 := Tryd.zeroValue9
  t21 := Tryd.underlying21
  a21 := Tryd.isAgg21
  z21 := Tryd.sizeOf21
  v21 := Tryd.zeroValue21
  t46 := Tryd.underlying85
  a46 := Tryd.isAgg85
  z46 := Tryd.sizeOf85
  v46 := Tryd.zeroValue85
  t105 := Tryd.underlying88
  a105 := Tryd.isAgg88
  z105 := Tryd.sizeOf88
  v105 := Tryd.zeroValue88
  t119 := Tryd.underlying113
  a119 := Tryd.isAgg113
  z119 := Tryd.sizeOf113
  t138 := Tryd.underlying115
  a138 := Tryd.isAgg115
  z138 := Tryd.sizeOf115
  v138 := Tryd.zeroValue115
  t139 := Tryd.underlying116
  a139 := Tryd.isAgg116
  z139 := Tryd.sizeOf116
  v139 := Tryd.zeroValue116
  g3 := by kernel_rfl
  g4 := by kernel_rfl }
open Go.RowKit Go.Lib in
/-- unicode/utf8.DecodeRuneInString: "DecodeRuneInString is like DecodeRune but its input is a string.": ("DecodeRune unpacks the first UTF-8 encoding in p and returns the rune and its width in bytes."): WHERE s BEGINS WITH AN ASCII BYTE x: (x, 1). (LAID: no walk: one application.) -/
theorem Tryd.utf8_DecodeRuneInString_ascii (s : ByteArray) (x : UInt8) (w : World) (h0 : s.data.toList[0]? = some x) (hx : x.toNat < 128) :
    Calls Tryd.prog 76 #[.string s] w fun e w' => e = .returned (.tuple #[.int .i32 x.toNat, .int .i64 1]) ∧ w' = w := Any.utf8_DecodeRuneInString_ascii Tryd.lays197 s x w h0 hx
open Go.RowKit Go.Lib in
theorem Tryd.utf8_RuneCountInString_ascii (s : ByteArray) (w : World) (hs : s.size < 4294967281) (hascii : ∀ (j : Nat) b, s.data.toList[j]? = some b → b.toNat < 128) :
    Calls Tryd.prog 75 #[.string s] w fun e w' => e = .returned (.int .i64 s.size) ∧ w' = w.iter s s.size := Any.utf8_RuneCountInString_ascii Tryd.lays195 s w hs hascii
def Tryd.lays268_ren : Go.Shelf.Ren := ⟨fun | 268 => 69 | 195 => 75 | 197 => 76 | 260 => 88 | n => n, fun | 9 => 9 | 3 => 3 | 31 => 52 | 4 => 4 | 105 => 88 | 21 => 21 | 0 => 0 | 5 => 5 | 119 => 113 | 46 => 85 | 139 => 116 | 138 => 115 | n => n, fun | 3 => 4 | 4 => 5 | n => n⟩
theorem Tryd.lays268 : Go.Proofs.Lays.n268 Tryd.prog Tryd.lays268_ren := {
  mixed := by kernel_rfl
  f195 := Tryd.func75.trans (congrArg some (by kernel_rfl))
  f197 := Tryd.func76.trans (congrArg some (by kernel_rfl))
  f260 := Tryd.func88.trans (congrArg some (by kernel_rfl))
  f268 := Tryd.func69.trans (congrArg some (by kernel_rfl))
  t0 := Tryd.underlying0
  a0 := Tryd.isAgg0
  z0 := Tryd.sizeOf0
  v0 := Tryd.zeroValue0
  t3 := Tryd.underlying3
  a3 := Tryd.isAgg3
  z3 := Tryd.sizeOf3
  v3 := Tryd.zeroValue3
  t4 := Tryd.underlying4
  a4 := Tryd.isAgg4
  z4 := Tryd.sizeOf4
  v4 := Tryd.zeroValue4
  t5 := Tryd.underlying5
  a5 := Tryd.isAgg5
  z5 := Tryd.sizeOf5
  v5 := Tryd.zeroValue5
  t9 := Tryd.underlying9
  a9 := Tryd.isAgg9
  z9 := Tryd.sizeOf9
  v9 := Tryd.zeroValue9
  t21 := Tryd.underlying21
  a21 := Tryd.isAgg21
  z21 := Tryd.sizeOf21
  v21 := Tryd.zeroValue21
  t31 := Tryd.underlying52
  a31 := Tryd.isAgg52
  z31 := Tryd.sizeOf52
  v31 := Tryd.zeroValue52
  t46 := Tryd.underlying85
  a46 := Tryd.isAgg85
  z46 := Tryd.sizeOf85
  v46 := Tryd.zeroValue85
  t105 := Tryd.underlying88
  a105 := Tryd.isAgg88
  z105 := Tryd.sizeOf88
  v105 := Tryd.zeroValue88
  t119 := Tryd.underlying113
  a119 := Tryd.isAgg113
  z119 := Tryd.sizeOf113
  t138 := Tryd.underlying115
  a138 := Tryd.isAgg115
  z138 := Tryd.sizeOf115
  v138 := Tryd.zeroValue115
  t139 := Tryd.underlying116
  a139 := Tryd.isAgg116
  z139 := Tryd.sizeOf116
  v139 := Tryd.zeroValue116
  g3 := by kernel_rfl
  g4 := by kernel_rfl }
open Go.RowKit Go.Lib in
theorem Tryd.strings_explode_all (s : ByteArray) (n : Int) (w : World) (hn : n < 0) (hs : s.size < 4294967281) (hascii : ∀ (j : Nat) b, s.data.toList[j]? = some b → b.toNat < 128) :
    Calls Tryd.prog 69 #[.string s, .int .i64 n] w fun e w' =>
      e = .returned (.slice (some ⟨(w.iter s s.size).heap.size, 0, none⟩) s.size s.size) ∧ w' = (w.iter s s.size).alloc (.cells ((Lib.charsB s).map Value.string).toArray 9) := Any.strings_explode_all Tryd.lays268 (by kernel_rfl) s n w hn hs hascii
open Go.RowKit Go.Lib in
/-- strings.genSplit at sep == "", n < 0: 'return explode(s, n)'. (LAID: no walk: one application.) -/
theorem Tryd.strings_genSplit_chars (s sep : ByteArray) (sv n : Int) (w : World) (h0 : sep.size = 0) (hn : n < 0) (hs : s.size < 4294967281) (hascii : ∀ (j : Nat) b, s.data.toList[j]? = some b → b.toNat < 128) :
    Calls Tryd.prog 60 #[.string s, .string sep, .int .i64 sv, .int .i64 n] w fun e w' =>
      e = .returned (.slice (some ⟨(w.iter s s.size).heap.size, 0, none⟩) s.size s.size) ∧ w' = (w.iter s s.size).alloc (.cells ((Lib.charsB s).map Value.string).toArray 9) := Any.strings_genSplit_chars Tryd.lays221 (by kernel_rfl) s sep sv n w h0 hn hs hascii
open Go.RowKit Go.Lib in
/-- strings.Split(s, ""), s ASCII: a piece a byte. (LAID: no walk: one application.) -/
theorem Tryd.strings_Split_chars (s sep : ByteArray) (w : World) (h0 : sep.size = 0) (hs : s.size < 4294967281) (hascii : ∀ (j : Nat) b, s.data.toList[j]? = some b → b.toNat < 128) :
    Calls Tryd.prog 37 #[.string s, .string sep] w fun e w' =>
      e = .returned (.slice (some ⟨(w.iter s s.size).heap.size, 0, none⟩) s.size s.size) ∧ w' = (w.iter s s.size).alloc (.cells ((Lib.charsB s).map Value.string).toArray 9) := Any.strings_Split_chars Tryd.lays146 (by kernel_rfl) s sep w h0 hs hascii
def Tryd.lays260_ren : Go.Shelf.Ren := ⟨fun | 260 => 88 | n => n, fun | 9 => 9 | 21 => 21 | 3 => 3 | 4 => 4 | 5 => 5 | 119 => 113 | 0 => 0 | 46 => 85 | 139 => 116 | 138 => 115 | n => n, fun | 3 => 4 | 4 => 5 | n => n⟩
theorem Tryd.lays260 : Go.Proofs.Lays.n260 Tryd.prog Tryd.lays260_ren := {
  mixed := by kernel_rfl
  f260 := Tryd.func88.trans (congrArg some (by kernel_rfl))
  t0 := Tryd.underlying0
  a0 := Tryd.isAgg0
  z0 := Tryd.sizeOf0
  v0 := Tryd.zeroValue0
  t3 := Tryd.underlying3
  a3 := Tryd.isAgg3
  z3 := Tryd.sizeOf3
  v3 := Tryd.zeroValue3
  t4 := Tryd.underlying4
  a4 := Tryd.isAgg4
  z4 := Tryd.sizeOf4
  v4 := Tryd.zeroValue4
  t5 := Tryd.underlying5
  a5 := Tryd.isAgg5
  z5 := Tryd.sizeOf5
  v5 := Tryd.zeroValue5
  t9 := Tryd.underlying9
  a9 := Tryd.isAgg9
  z9 := Tryd.sizeOf9
  v9 := Tryd.zeroValue9
  t21 := Tryd.underlying21
  a21 := Tryd.isAgg21
  z21 := Tryd.sizeOf21
  v21 := Tryd.zeroValue21
  t46 := Tryd.underlying85
  a46 := Tryd.isAgg85
  z46 := Tryd.sizeOf85
  v46 := Tryd.zeroValue85
  t119 := Tryd.underlying113
  a119 := Tryd.isAgg113
  z119 := Tryd.sizeOf113
  t138 := Tryd.underlying115
  a138 := Tryd.isAgg115
  z138 := Tryd.sizeOf115
  v138 := Tryd.zeroValue115
  t139 := Tryd.underlying116
  a139 := Tryd.isAgg116
  z139 := Tryd.sizeOf116
  v139 := Tryd.zeroValue116
  g3 := by kernel_rfl
  g4 := by kernel_rfl }
open Go.RowKit Go.Lib in
theorem Tryd.utf8_decodeRuneInStringSlow (s : ByteArray) (w : World) (hT : Lib.Utf8Tabs 4 5 w) :
    Calls Tryd.prog 88 #[.string s] w fun e w' => e = .returned (.tuple #[.int .i32 (Lib.decodeGo s).1, .int .i64 (Lib.decodeGo s).2]) ∧ Below w.heap.size w w' := Any.utf8_decodeRuneInStringSlow Tryd.lays260 s w hT
open Go.RowKit Go.Lib in
/-- **unicode/utf8.DecodeRuneInString AT EVERY STRING.** (LAID: no walk: one application.) -/
theorem Tryd.utf8_DecodeRuneInString (s : ByteArray) (w : World) (hT : Lib.Utf8Tabs 4 5 w) :
    Calls Tryd.prog 76 #[.string s] w fun e w' => e = .returned (.tuple #[.int .i32 (Lib.decodeGo s).1, .int .i64 (Lib.decodeGo s).2]) ∧ Below w.heap.size w w' := Any.utf8_DecodeRuneInString Tryd.lays197 s w hT
end Go.Proofs

/- Contracts of the library's functions that this program calls. -/
set_option linter.unusedVariables false
namespace Go.Proofs.YtehijimgenicfaaDoor
open Go Go.Rf
theorem c_strconv_Itoa (n : Int) (h0 : -9223372036854775808 ≤ n) (h1 : n ≤ 9223372036854775807) : Ctr Tryd.prog 54 [.v (.int .i64 n)] (.one (.v (.string (numT n)))) :=
  Ctr.lib (xs := [.int .i64 n]) ⟨_, Tryd.func54, by kernel_rfl, rfl⟩ (fun w he => (Tryd.strconv_Itoa n h0 h1 w he.1).mono fun e w' ⟨h, k, os, hw⟩ => ⟨h, hw ▸ below_grow w k os⟩)
end Go.Proofs.YtehijimgenicfaaDoor

/- Settings as text. -/
set_option linter.unusedVariables false
set_option linter.unusedSimpArgs false
set_option linter.unusedSectionVars false
namespace Go.Proofs.YtehijimgenicfaaDoor
open Go Go.Rf
def setT0 (x : Setting) : ByteArray := (⟨#[103, 117, 101, 115, 116, 32]⟩ : ByteArray) ++ numT x.g ++ (⟨#[32]⟩ : ByteArray) ++ x.n ++ (⟨#[32, 99, 112, 117, 115, 32]⟩ : ByteArray) ++ numT x.c ++ (⟨#[32, 102, 114, 97, 109, 101, 115, 32]⟩ : ByteArray) ++ numT x.f ++ (⟨#[32, 119, 101, 105, 103, 104, 116, 32]⟩ : ByteArray) ++ numT x.w
def setT (x : Setting) : ByteArray := if x.k then setT0 x ++ (⟨#[32, 116, 105, 109, 101, 114, 115]⟩ : ByteArray) else setT0 x
theorem isSet_ok {x : Setting} (h : isSet x = true) : (1 ≤ x.g ∧ x.g ≤ 4) ∧ x.n.size ≤ 8 ∧ (1 ≤ x.c ∧ x.c ≤ 4) ∧ (1 ≤ x.f ∧ x.f ≤ 16) ∧ (1 ≤ x.w ∧ x.w ≤ 100) := by
  simp only [isSet, kindB, inside, Bool.and_eq_true, decide_eq_true_eq] at h
  omega
theorem size_lit (a : Array UInt8) : (⟨a⟩ : ByteArray).size = a.size := rfl
def setsF (xs : List Setting) (i : Nat) : ByteArray := foldN (fun i t => t ++ setT (xs.getD i default) ++ (⟨#[10]⟩ : ByteArray)) ⟨#[]⟩ i
theorem setsF_succ {xs : List Setting} {i : Nat} : setsF xs (i + 1) = setsF xs i ++ setT (xs.getD i default) ++ (⟨#[10]⟩ : ByteArray) := rfl
theorem setsF_succ2 {xs : List Setting} {i : Nat} : setsF xs (i + 1) = setsF xs i ++ (setT (xs.getD i default) ++ (⟨#[10]⟩ : ByteArray)) := by rw [setsF_succ, ByteArray.append_assoc]
def setsT (xs : List Setting) : ByteArray := if goodT xs then setsF xs xs.length else ⟨#[]⟩
theorem goodT_set {xs : List Setting} (h : goodT xs = true) : ∀ i, i < xs.length → isSet (xs.getD i default) = true := fun i hi => by
  simp only [goodT, Bool.and_eq_true] at h
  have := allN_iff.mp h.1 i hi
  simp only [oneT, Bool.and_eq_true] at this
  exact this.1.1
theorem setT_size {x : Setting} (h : isSet x = true) : (setT x).size ≤ 200 := by
  have ho := isSet_ok h
  have z1 := numT_size (n := x.g) (by omega) (by omega)
  have z2 := numT_size (n := x.c) (by omega) (by omega)
  have z3 := numT_size (n := x.f) (by omega) (by omega)
  have z4 := numT_size (n := x.w) (by omega) (by omega)
  unfold setT setT0
  split <;> simp only [ByteArray.size_append, size_lit, List.size_toArray, List.length_cons, List.length_nil] <;> omega
theorem setsF_size {xs : List Setting} (h : ∀ i, i < xs.length → isSet (xs.getD i default) = true) : ∀ i, i ≤ xs.length → (setsF xs i).size ≤ 201 * i
  | 0, _ => by simp [setsF, foldN, ByteArray.size]
  | i + 1, hi => by
    have h1 := setsF_size h i (by omega)
    have h2 := setT_size (h i (by omega))
    rw [setsF_succ]
    simp only [ByteArray.size_append, size_lit, List.size_toArray, List.length_cons, List.length_nil]
    omega
end Go.Proofs.YtehijimgenicfaaDoor

/- Walks through functions of the program, one contract each (written by gen.py). -/
set_option maxRecDepth 20000
set_option linter.unusedVariables false
set_option linter.unusedSimpArgs false
namespace Go.Proofs.YtehijimgenicfaaDoor
open Go Go.Rf

theorem c_spec_l1Num_rec (n : Int) (h0 : -9223372036854775807 ≤ n) (h1 : n ≤ 9223372036854775807) (ih : ∀ k : Int, 0 ≤ k → (n < 0 ∨ k < n) → k ≤ 9223372036854775807 → Ctr Tryd.prog 53 [.v (.int .i64 k)] (.one (.v (.string (numT k))))) : Ctr Tryd.prog 53 [.v (.int .i64 n)] (.one (.v (.string (numT n)))) := by
  refine Ctr.of (n := 25) G Tryd.func53 rfl (by kernel_rfl) rfl rfl rfl (fun w0 => ?_)
  refine W_seq (fun K1 hK1 => ?_)
  refine W_region (WL_cons rfl (WX_q rfl rfl (q_assign rfl rfl) (?_)))
  refine WL_nil (hK1 _ ?_)
  clear hK1 K1
  refine W_seq (fun K2 hK2 => ?_)
  refine W_seq (fun K3 hK3 => ?_)
  refine W_region (WL_cons rfl (WX_q rfl rfl (q_move rfl rfl) (WL_cons rfl (WX_q rfl rfl (q_cmp rfl rfl rfl rfl) (?_)))))
  refine WL_nil (hK3 _ ?_)
  clear hK3 K3
  refine W_cond rfl (fun h1 => ?_) (fun h1 => ?_)
  · try rw [h1]
    try simp only [decide_eq_true_eq, decide_eq_false_iff_not, beq_iff_eq, bne_iff_ne, ne_eq, Bool.not_eq_true', Bool.not_eq_false', beq_eq_false_iff_ne, bne_eq_false_iff_eq, Bool.not_eq_true, Bool.not_eq_false, Int.not_lt, Int.not_le, gt_iff_lt, ge_iff_le, Bool.and_eq_true, Bool.and_eq_false_iff, Bool.or_eq_true, Bool.or_eq_false_iff] at h1
    refine W_seq (fun K4 hK4 => ?_)
    refine W_region (WL_cons rfl (WX_q rfl rfl (q_move rfl rfl) (WL_cons rfl (?_))))
    refine WX_q rfl rfl (q_neg rfl rfl (by omega) (by omega)) ?_
    refine WL_cons rfl (?_)
    refine WX_q rfl rfl (q_call rfl (ArgsOK.of rfl) (ih _ (by omega) (by omega) (by omega)) rfl) ?_
    refine WL_cons rfl (?_)
    refine WX_q rfl rfl (q_cat rfl rfl rfl (by first | (have hz := numT_size (n := -n) (by omega) (by omega); rw [size_lit]; simp only [List.size_toArray, List.length_cons, List.length_nil]; omega) | (have hz := numT_size (n := (k : Int) / 10) (by omega) (by omega); rw [ByteArray.size_extract]; simp only [size_lit, List.size_toArray, List.length_cons, List.length_nil]; omega))) ?_
    refine WL_cons rfl (WX_q rfl rfl (q_assign rfl rfl) (?_))
    refine WL_nil (hK4 _ ?_)
    clear hK4 K4
    refine W_ret (fin_one rfl (rc_v ?_))
    all_goals clear hK2 K2
    all_goals (first | (rw [numT_neg h1]; done) | (have e : ((k : Int) + 1).toNat = k + 1 := (by omega); rw [e]; exact congrArg Value.string ((digit_at (by omega)).trans (numT_small (by omega)).symm)) | (have e : ((k : Int) % 10).toNat = k % 10 := (by omega); have e2 : ((k : Int) % 10 + 1).toNat = k % 10 + 1 := (by omega); rw [e, e2, digit_at (by omega), numT_step (by omega)]; rfl))
  · try rw [h1]
    try simp only [decide_eq_true_eq, decide_eq_false_iff_not, beq_iff_eq, bne_iff_ne, ne_eq, Bool.not_eq_true', Bool.not_eq_false', beq_eq_false_iff_ne, bne_eq_false_iff_eq, Bool.not_eq_true, Bool.not_eq_false, Int.not_lt, Int.not_le, gt_iff_lt, ge_iff_le, Bool.and_eq_true, Bool.and_eq_false_iff, Bool.or_eq_true, Bool.or_eq_false_iff] at h1
    refine W_skip (hK2 _ ?_)
    clear hK2 K2
    refine W_seq (fun K5 hK5 => ?_)
    refine W_seq (fun K6 hK6 => ?_)
    refine W_region (WL_cons rfl (WX_q rfl rfl (q_move rfl rfl) (WL_cons rfl (WX_q rfl rfl (q_cmp rfl rfl rfl rfl) (?_)))))
    refine WL_nil (hK6 _ ?_)
    clear hK6 K6
    refine W_cond rfl (fun h2 => ?_) (fun h2 => ?_)
    · try rw [h2]
      try simp only [decide_eq_true_eq, decide_eq_false_iff_not, beq_iff_eq, bne_iff_ne, ne_eq, Bool.not_eq_true', Bool.not_eq_false', beq_eq_false_iff_ne, bne_eq_false_iff_eq, Bool.not_eq_true, Bool.not_eq_false, Int.not_lt, Int.not_le, gt_iff_lt, ge_iff_le, Bool.and_eq_true, Bool.and_eq_false_iff, Bool.or_eq_true, Bool.or_eq_false_iff] at h2
      obtain ⟨k, rfl⟩ : ∃ k : Nat, n = (k : Int) := ⟨n.toNat, by omega⟩
      refine W_seq (fun K7 hK7 => ?_)
      refine W_region (WL_cons rfl (WX_q rfl rfl (q_move rfl rfl) (WL_cons rfl (WX_q rfl rfl (q_move rfl rfl) (WL_cons rfl (?_))))))
      first | refine WX_q rfl rfl (q_arith rfl rfl rfl rfl (by omega) (by omega)) ?_ | refine WX_q rfl rfl (q_wrap rfl rfl rfl rfl) ?_
      refine WL_cons rfl (?_)
      refine WX_q rfl rfl (q_cut_str G rfl rfl rfl rfl rfl (by omega) (by omega) (by rw [size_lit]; simp only [List.size_toArray, List.length_cons, List.length_nil]; omega)) ?_
      refine WL_cons rfl (WX_q rfl rfl (q_assign rfl rfl) (?_))
      refine WL_nil (hK7 _ ?_)
      clear hK7 K7
      refine W_ret (fin_one rfl (rc_v ?_))
      all_goals clear hK5 K5
      all_goals (first | (rw [numT_neg h1]; done) | (have e : ((k : Int) + 1).toNat = k + 1 := (by omega); rw [e]; exact congrArg Value.string ((digit_at (by omega)).trans (numT_small (by omega)).symm)) | (have e : ((k : Int) % 10).toNat = k % 10 := (by omega); have e2 : ((k : Int) % 10 + 1).toNat = k % 10 + 1 := (by omega); rw [e, e2, digit_at (by omega), numT_step (by omega)]; rfl))
    · try rw [h2]
      try simp only [decide_eq_true_eq, decide_eq_false_iff_not, beq_iff_eq, bne_iff_ne, ne_eq, Bool.not_eq_true', Bool.not_eq_false', beq_eq_false_iff_ne, bne_eq_false_iff_eq, Bool.not_eq_true, Bool.not_eq_false, Int.not_lt, Int.not_le, gt_iff_lt, ge_iff_le, Bool.and_eq_true, Bool.and_eq_false_iff, Bool.or_eq_true, Bool.or_eq_false_iff] at h2
      obtain ⟨k, rfl⟩ : ∃ k : Nat, n = (k : Int) := ⟨n.toNat, by omega⟩
      refine W_skip (hK5 _ ?_)
      clear hK5 K5
      refine W_seq (fun K8 hK8 => ?_)
      refine W_draws mixed (by kernel_rfl) (QL_cons rfl (QX_q rfl rfl (q_move rfl rfl) (QL_cons rfl (?_))))
      first | refine QX_q rfl rfl (q_quo_pos rfl rfl rfl (by omega) (by omega) (by omega)) ?_ | refine QX_q rfl rfl (q_quo rfl rfl rfl (by omega)) ?_
      refine QL_cons rfl (?_)
      refine QX_q rfl rfl (q_call rfl (ArgsOK.of rfl) (ih _ (by omega) (by omega) (by omega)) rfl) ?_
      refine QL_cons rfl (QX_q rfl rfl (q_move rfl rfl) (QL_cons rfl (?_)))
      first | refine QX_q rfl rfl (q_rem_pos rfl rfl rfl (by omega) (by omega)) ?_ | refine QX_q rfl rfl (q_rem rfl rfl rfl (by omega)) ?_
      refine QL_cons rfl (QX_q rfl rfl (q_move rfl rfl) (QL_cons rfl (?_)))
      first | refine QX_q rfl rfl (q_rem_pos rfl rfl rfl (by omega) (by omega)) ?_ | refine QX_q rfl rfl (q_rem rfl rfl rfl (by omega)) ?_
      refine QL_cons rfl (?_)
      first | refine QX_q rfl rfl (q_arith rfl rfl rfl rfl (by omega) (by omega)) ?_ | refine QX_q rfl rfl (q_wrap rfl rfl rfl rfl) ?_
      refine QL_cons rfl (?_)
      refine QX_q rfl rfl (q_cut_str G rfl rfl rfl rfl rfl (by omega) (by omega) (by rw [size_lit]; simp only [List.size_toArray, List.length_cons, List.length_nil]; omega)) ?_
      refine QL_cons rfl (?_)
      refine QX_q rfl rfl (q_cat rfl rfl rfl (by first | (have hz := numT_size (n := -n) (by omega) (by omega); rw [size_lit]; simp only [List.size_toArray, List.length_cons, List.length_nil]; omega) | (have hz := numT_size (n := (k : Int) / 10) (by omega) (by omega); rw [ByteArray.size_extract]; simp only [size_lit, List.size_toArray, List.length_cons, List.length_nil]; omega))) ?_
      refine QL_cons rfl (QX_q rfl rfl (q_assign rfl rfl) (?_))
      refine QL_nil (hK8 _ ?_)
      clear hK8 K8
      refine W_ret (fin_one rfl (rc_v ?_))
      all_goals (first | (rw [numT_neg h1]; done) | (have e : ((k : Int) + 1).toNat = k + 1 := (by omega); rw [e]; exact congrArg Value.string ((digit_at (by omega)).trans (numT_small (by omega)).symm)) | (have e : ((k : Int) % 10).toNat = k % 10 := (by omega); have e2 : ((k : Int) % 10 + 1).toNat = k % 10 + 1 := (by omega); rw [e, e2, digit_at (by omega), numT_step (by omega)]; rfl))

end Go.Proofs.YtehijimgenicfaaDoor

/- The text of a number: the recursion. -/
namespace Go.Proofs.YtehijimgenicfaaDoor
open Go Go.Rf
theorem l1Num_pos : ∀ (m : Nat) (n : Int), n.toNat = m → 0 ≤ n → n ≤ 9223372036854775807 → Ctr Tryd.prog 53 [.v (.int .i64 n)] (.one (.v (.string (numT n)))) := by
  intro m
  induction m using Nat.strongRecOn with
  | ind m ih =>
    intro n hm h0 h1
    exact c_spec_l1Num_rec n (by omega) h1 (fun k hk hlt hk1 => ih k.toNat (by omega) k rfl hk hk1)
theorem c_spec_l1Num (n : Int) (h0 : -9223372036854775807 ≤ n) (h1 : n ≤ 9223372036854775807) : Ctr Tryd.prog 53 [.v (.int .i64 n)] (.one (.v (.string (numT n)))) := by
  by_cases h : 0 ≤ n
  · exact l1Num_pos _ n rfl h h1
  · exact c_spec_l1Num_rec n h0 h1 (fun k hk _ hk1 => l1Num_pos _ k rfl hk hk1)
end Go.Proofs.YtehijimgenicfaaDoor

/- Walks through functions of the program, one contract each (written by gen.py). -/
set_option maxRecDepth 20000
set_option linter.unusedVariables false
set_option linter.unusedSimpArgs false
namespace Go.Proofs.YtehijimgenicfaaDoor
open Go Go.Rf

theorem c_impl_inside (n l h : Int) : Ctr Tryd.prog 44 [.v (.int .i64 n), .v (.int .i64 l), .v (.int .i64 h)] (.one (.v (.bool (inside n l h)))) := by
  refine Ctr.of (n := 15) G Tryd.func44 rfl (by kernel_rfl) rfl rfl rfl (fun w0 => ?_)
  refine W_seq (fun K1 hK1 => ?_)
  refine W_region (WL_cons rfl (WX_q rfl rfl (q_assign rfl rfl) (?_)))
  refine WL_nil (hK1 _ ?_)
  clear hK1 K1
  refine W_seq (fun K2 hK2 => ?_)
  refine W_region (WL_cons rfl (WX_q rfl rfl (q_move rfl rfl) (WL_cons rfl (WX_q rfl rfl (q_move rfl rfl) (WL_cons rfl (WX_q rfl rfl (q_cmp rfl rfl rfl rfl) (WL_cons rfl (WX_q rfl rfl (q_move rfl rfl) (WL_part rfl rfl rfl (fun h1 => ?_) (fun h1 => ?_))))))))))
  · try rw [h1]
    try simp only [decide_eq_true_eq, decide_eq_false_iff_not, beq_iff_eq, bne_iff_ne, ne_eq, Bool.not_eq_true', Bool.not_eq_false', beq_eq_false_iff_ne, bne_eq_false_iff_eq, Bool.not_eq_true, Bool.not_eq_false, Int.not_lt, Int.not_le, gt_iff_lt, ge_iff_le, Bool.and_eq_true, Bool.and_eq_false_iff, Bool.or_eq_true, Bool.or_eq_false_iff] at h1
    refine WL_run rfl rfl rfl (WX_q rfl rfl (q_move rfl rfl) (WL_run rfl rfl rfl (WX_q rfl rfl (q_move rfl rfl) (WL_run rfl rfl rfl (WX_q rfl rfl (q_cmp rfl rfl rfl rfl) (WL_cons rfl (WX_q rfl rfl (q_pick_t rfl rfl rfl) (WL_cons rfl (WX_q rfl rfl (q_assign rfl rfl) (?_))))))))))
    refine WL_nil (hK2 _ ?_)
    clear hK2 K2
    refine W_ret (fin_one rfl (rc_v ?_))
    all_goals (first | rfl | (simp_all [inside]; done) | (simp_all [inside]; omega))
  · try rw [h1]
    try simp only [decide_eq_true_eq, decide_eq_false_iff_not, beq_iff_eq, bne_iff_ne, ne_eq, Bool.not_eq_true', Bool.not_eq_false', beq_eq_false_iff_ne, bne_eq_false_iff_eq, Bool.not_eq_true, Bool.not_eq_false, Int.not_lt, Int.not_le, gt_iff_lt, ge_iff_le, Bool.and_eq_true, Bool.and_eq_false_iff, Bool.or_eq_true, Bool.or_eq_false_iff] at h1
    refine WL_skip rfl rfl rfl rfl rfl rfl (WL_skip rfl rfl rfl rfl rfl rfl (WL_skip rfl rfl rfl rfl rfl rfl (WL_cons rfl (WX_q rfl rfl (q_pick_f rfl rfl rfl) (WL_cons rfl (WX_q rfl rfl (q_assign rfl rfl) (?_)))))))
    refine WL_nil (hK2 _ ?_)
    clear hK2 K2
    refine W_ret (fin_one rfl (rc_v ?_))
    all_goals (first | rfl | (simp_all [inside]; done) | (simp_all [inside]; omega))

theorem c_spec_l1In (n l h : Int) : Ctr Tryd.prog 51 [.v (.int .i64 n), .v (.int .i64 l), .v (.int .i64 h)] (.one (.v (.bool (inside n l h)))) := by
  refine Ctr.of (n := 15) G Tryd.func51 rfl (by kernel_rfl) rfl rfl rfl (fun w0 => ?_)
  refine W_seq (fun K1 hK1 => ?_)
  refine W_region (WL_cons rfl (WX_q rfl rfl (q_assign rfl rfl) (?_)))
  refine WL_nil (hK1 _ ?_)
  clear hK1 K1
  refine W_seq (fun K2 hK2 => ?_)
  refine W_region (WL_cons rfl (WX_q rfl rfl (q_move rfl rfl) (WL_cons rfl (WX_q rfl rfl (q_move rfl rfl) (WL_cons rfl (WX_q rfl rfl (q_cmp rfl rfl rfl rfl) (WL_cons rfl (WX_q rfl rfl (q_move rfl rfl) (WL_part rfl rfl rfl (fun h1 => ?_) (fun h1 => ?_))))))))))
  · try rw [h1]
    try simp only [decide_eq_true_eq, decide_eq_false_iff_not, beq_iff_eq, bne_iff_ne, ne_eq, Bool.not_eq_true', Bool.not_eq_false', beq_eq_false_iff_ne, bne_eq_false_iff_eq, Bool.not_eq_true, Bool.not_eq_false, Int.not_lt, Int.not_le, gt_iff_lt, ge_iff_le, Bool.and_eq_true, Bool.and_eq_false_iff, Bool.or_eq_true, Bool.or_eq_false_iff] at h1
    refine WL_run rfl rfl rfl (WX_q rfl rfl (q_move rfl rfl) (WL_run rfl rfl rfl (WX_q rfl rfl (q_move rfl rfl) (WL_run rfl rfl rfl (WX_q rfl rfl (q_cmp rfl rfl rfl rfl) (WL_cons rfl (WX_q rfl rfl (q_pick_t rfl rfl rfl) (WL_cons rfl (WX_q rfl rfl (q_assign rfl rfl) (?_))))))))))
    refine WL_nil (hK2 _ ?_)
    clear hK2 K2
    refine W_ret (fin_one rfl (rc_v ?_))
    all_goals (first | rfl | (simp_all [inside]; done) | (simp_all [inside]; omega))
  · try rw [h1]
    try simp only [decide_eq_true_eq, decide_eq_false_iff_not, beq_iff_eq, bne_iff_ne, ne_eq, Bool.not_eq_true', Bool.not_eq_false', beq_eq_false_iff_ne, bne_eq_false_iff_eq, Bool.not_eq_true, Bool.not_eq_false, Int.not_lt, Int.not_le, gt_iff_lt, ge_iff_le, Bool.and_eq_true, Bool.and_eq_false_iff, Bool.or_eq_true, Bool.or_eq_false_iff] at h1
    refine WL_skip rfl rfl rfl rfl rfl rfl (WL_skip rfl rfl rfl rfl rfl rfl (WL_skip rfl rfl rfl rfl rfl rfl (WL_cons rfl (WX_q rfl rfl (q_pick_f rfl rfl rfl) (WL_cons rfl (WX_q rfl rfl (q_assign rfl rfl) (?_)))))))
    refine WL_nil (hK2 _ ?_)
    clear hK2 K2
    refine W_ret (fin_one rfl (rc_v ?_))
    all_goals (first | rfl | (simp_all [inside]; done) | (simp_all [inside]; omega))

theorem c_impl_isGuest (n : Int) : Ctr Tryd.prog 42 [.v (.int .i64 n)] (.one (.v (.bool (inside n 1 4)))) := by
  refine Ctr.of (n := 5) G Tryd.func42 rfl (by kernel_rfl) rfl rfl rfl (fun w0 => ?_)
  refine W_seq (fun K1 hK1 => ?_)
  refine W_region (WL_cons rfl (WX_q rfl rfl (q_assign rfl rfl) (?_)))
  refine WL_nil (hK1 _ ?_)
  clear hK1 K1
  refine W_seq (fun K2 hK2 => ?_)
  refine W_region (WL_cons rfl (WX_q rfl rfl (q_move rfl rfl) (WL_cons rfl (?_))))
  refine WX_q rfl rfl (q_call rfl (ArgsOK.of rfl) (c_impl_inside _ _ _) rfl) ?_
  refine WL_cons rfl (WX_q rfl rfl (q_assign rfl rfl) (?_))
  refine WL_nil (hK2 _ ?_)
  clear hK2 K2
  refine W_ret (fin_one rfl (rc_v ?_))
  all_goals ((first | rfl | (simp_all; done) | (simp_all; omega)))

theorem c_impl_isWord (s : ByteArray) (hs : s.size ≤ 9223372036854775807) : Ctr Tryd.prog 62 [.v (.string s)] (.one (.v (.bool (wordB s && inside s.size 1 10)))) := by
  refine Ctr.of (n := 23) G Tryd.func62 rfl (by kernel_rfl) rfl rfl rfl (fun w0 => ?_)
  refine W_seq (fun K1 hK1 => ?_)
  refine W_region (WL_cons rfl (WX_q rfl rfl (q_assign rfl rfl) (?_)))
  refine WL_nil (hK1 _ ?_)
  clear hK1 K1
  refine W_seq (fun K2 hK2 => ?_)
  refine W_seq (fun K3 hK3 => ?_)
  refine W_region (WL_cons rfl (WX_q rfl rfl (q_assign rfl rfl) (?_)))
  refine WL_nil (hK3 _ ?_)
  clear hK3 K3
  refine W_block ?_
  refine W_loopK [0] [] (fun (i : Nat) => [(3, .v (.int .i64 (i : Int)))]) (fun (i : Nat) => []) (fun (i : Nat) => i ≤ s.size ∧ ∀ j, j < i → lowN s j = true) (fun (i : Nat) => s.size - i) 0 rfl rfl ?_ ?_ ?_ ?_
  · exact ⟨Nat.zero_le _, fun j hj => by omega⟩
  · exact ⟨⟨_, rfl, by (first | rfl | (simp; done) | (simp; omega))⟩, rfl, trivial⟩
  · exact trivial
  · intro i hinv
    have hbi : byteN s i = ((s.data.toList.getD ((i : Int)).toNat 0).toNat : Int) := rfl
    simp only [List.cons_append, List.nil_append]
    refine W_seq (fun K4 hK4 => ?_)
    refine W_seq (fun K5 hK5 => ?_)
    refine W_region (WL_cons rfl (WX_q rfl rfl (q_move rfl rfl) (WL_cons rfl (WX_q rfl rfl (q_move rfl rfl) (WL_cons rfl (WX_q rfl rfl (q_len_str G rfl rfl rfl) (WL_cons rfl (WX_q rfl rfl (q_cmp rfl rfl rfl rfl) (?_)))))))))
    refine WL_nil (hK5 _ ?_)
    clear hK5 K5
    refine W_cond rfl (fun h1 => ?_) (fun h1 => ?_)
    · try rw [h1]
      try simp only [decide_eq_true_eq, decide_eq_false_iff_not, beq_iff_eq, bne_iff_ne, ne_eq, Bool.not_eq_true', Bool.not_eq_false', beq_eq_false_iff_ne, bne_eq_false_iff_eq, Bool.not_eq_true, Bool.not_eq_false, Int.not_lt, Int.not_le, gt_iff_lt, ge_iff_le, Bool.and_eq_true, Bool.and_eq_false_iff, Bool.or_eq_true, Bool.or_eq_false_iff] at h1
      refine W_skip (hK4 _ ?_)
      clear hK4 K4
      refine W_seq (fun K6 hK6 => ?_)
      refine W_block ?_
      refine W_seq (fun K7 hK7 => ?_)
      refine W_region (WL_cons rfl (WX_q rfl rfl (q_move rfl rfl) (WL_cons rfl (WX_q rfl rfl (q_move rfl rfl) (WL_cons rfl (?_))))))
      refine WX_q rfl rfl (q_index_str G rfl rfl rfl rfl (by omega) (by omega)) ?_
      refine WL_cons rfl (WX_q rfl rfl (q_cmp rfl rfl rfl rfl) (WL_cons rfl (WX_q rfl rfl (q_move rfl rfl) (WL_part rfl rfl rfl (fun h2 => ?_) (fun h2 => ?_)))))
      · try rw [h2]
        try simp only [decide_eq_true_eq, decide_eq_false_iff_not, beq_iff_eq, bne_iff_ne, ne_eq, Bool.not_eq_true', Bool.not_eq_false', beq_eq_false_iff_ne, bne_eq_false_iff_eq, Bool.not_eq_true, Bool.not_eq_false, Int.not_lt, Int.not_le, gt_iff_lt, ge_iff_le, Bool.and_eq_true, Bool.and_eq_false_iff, Bool.or_eq_true, Bool.or_eq_false_iff] at h2
        refine WL_skip rfl rfl rfl rfl rfl rfl (WL_skip rfl rfl rfl rfl rfl rfl (WL_skip rfl rfl rfl rfl rfl rfl (WL_skip rfl rfl rfl rfl rfl rfl (WL_cons rfl (WX_q rfl rfl (q_pick_t rfl rfl rfl) (?_))))))
        refine WL_nil (hK7 _ ?_)
        clear hK7 K7
        refine W_true rfl ?_
        refine W_seq (fun K8 hK8 => ?_)
        refine W_region (WL_cons rfl (WX_q rfl rfl (q_assign rfl rfl) (?_)))
        refine WL_nil (hK8 _ ?_)
        clear hK8 K8
        refine W_ret (fin_one rfl (rc_v ?_))
        all_goals clear hK6 K6 hK2 K2
        all_goals (first | (have e : wordB s = true := allN_t hinv.2 (by omega); simp_all [kindB]; done) | (have e : wordB s = false := allN_f (i := i) (by simp only [lowN, Bool.and_eq_false_iff, decide_eq_false_iff_not]; omega) (by omega); simp [kindB, e]; done))
      · try rw [h2]
        try simp only [decide_eq_true_eq, decide_eq_false_iff_not, beq_iff_eq, bne_iff_ne, ne_eq, Bool.not_eq_true', Bool.not_eq_false', beq_eq_false_iff_ne, bne_eq_false_iff_eq, Bool.not_eq_true, Bool.not_eq_false, Int.not_lt, Int.not_le, gt_iff_lt, ge_iff_le, Bool.and_eq_true, Bool.and_eq_false_iff, Bool.or_eq_true, Bool.or_eq_false_iff] at h2
        refine WL_run rfl rfl rfl (WX_q rfl rfl (q_move rfl rfl) (WL_run rfl rfl rfl (WX_q rfl rfl (q_move rfl rfl) (WL_run rfl rfl rfl (?_)))))
        refine WX_q rfl rfl (q_index_str G rfl rfl rfl rfl (by omega) (by omega)) ?_
        refine WL_run rfl rfl rfl (WX_q rfl rfl (q_cmp rfl rfl rfl rfl) (WL_cons rfl (WX_q rfl rfl (q_pick_f rfl rfl rfl) (?_))))
        refine WL_nil (hK7 _ ?_)
        clear hK7 K7
        refine W_cond rfl (fun h3 => ?_) (fun h3 => ?_)
        · try rw [h3]
          try simp only [decide_eq_true_eq, decide_eq_false_iff_not, beq_iff_eq, bne_iff_ne, ne_eq, Bool.not_eq_true', Bool.not_eq_false', beq_eq_false_iff_ne, bne_eq_false_iff_eq, Bool.not_eq_true, Bool.not_eq_false, Int.not_lt, Int.not_le, gt_iff_lt, ge_iff_le, Bool.and_eq_true, Bool.and_eq_false_iff, Bool.or_eq_true, Bool.or_eq_false_iff] at h3
          refine W_seq (fun K9 hK9 => ?_)
          refine W_region (WL_cons rfl (WX_q rfl rfl (q_assign rfl rfl) (?_)))
          refine WL_nil (hK9 _ ?_)
          clear hK9 K9
          refine W_ret (fin_one rfl (rc_v ?_))
          all_goals clear hK6 K6 hK2 K2
          all_goals (first | (have e : wordB s = true := allN_t hinv.2 (by omega); simp_all [kindB]; done) | (have e : wordB s = false := allN_f (i := i) (by simp only [lowN, Bool.and_eq_false_iff, decide_eq_false_iff_not]; omega) (by omega); simp [kindB, e]; done))
        · try rw [h3]
          try simp only [decide_eq_true_eq, decide_eq_false_iff_not, beq_iff_eq, bne_iff_ne, ne_eq, Bool.not_eq_true', Bool.not_eq_false', beq_eq_false_iff_ne, bne_eq_false_iff_eq, Bool.not_eq_true, Bool.not_eq_false, Int.not_lt, Int.not_le, gt_iff_lt, ge_iff_le, Bool.and_eq_true, Bool.and_eq_false_iff, Bool.or_eq_true, Bool.or_eq_false_iff] at h3
          refine W_skip (hK6 _ ?_)
          clear hK6 K6
          refine W_region (WL_cons rfl (WX_q rfl rfl (q_move rfl rfl) (WL_cons rfl (?_))))
          first | refine WX_q rfl rfl (q_arith rfl rfl rfl rfl (by omega) (by omega)) ?_ | refine WX_q rfl rfl (q_wrap rfl rfl rfl rfl) ?_
          refine WL_cons rfl (WX_q rfl rfl (q_assign rfl rfl) (?_))
          refine WL_nil ⟨(i + 1), ?_, ?_, ⟨⟨_, rfl, by rfl⟩, rfl, trivial⟩, trivial, rfl, rfl, rfl⟩
          · refine ⟨by omega, upto_succ hinv.2 ?_⟩; simp only [lowN, Bool.and_eq_true, decide_eq_true_eq]; omega
          · omega
    · try rw [h1]
      try simp only [decide_eq_true_eq, decide_eq_false_iff_not, beq_iff_eq, bne_iff_ne, ne_eq, Bool.not_eq_true', Bool.not_eq_false', beq_eq_false_iff_ne, bne_eq_false_iff_eq, Bool.not_eq_true, Bool.not_eq_false, Int.not_lt, Int.not_le, gt_iff_lt, ge_iff_le, Bool.and_eq_true, Bool.and_eq_false_iff, Bool.or_eq_true, Bool.or_eq_false_iff] at h1
      refine W_exit (hK2 _ ?_)
      clear hK4 K4 hK2 K2
      refine W_seq (fun K10 hK10 => ?_)
      refine W_region (WL_cons rfl (WX_q rfl rfl (q_move rfl rfl) (WL_cons rfl (WX_q rfl rfl (q_len_str G rfl rfl rfl) (WL_cons rfl (?_))))))
      refine WX_q rfl rfl (q_call rfl (ArgsOK.of rfl) (c_impl_inside _ _ _) rfl) ?_
      refine WL_cons rfl (WX_q rfl rfl (q_assign rfl rfl) (?_))
      refine WL_nil (hK10 _ ?_)
      clear hK10 K10
      refine W_ret (fin_one rfl (rc_v ?_))
      all_goals (first | (have e : wordB s = true := allN_t hinv.2 (by omega); simp_all [kindB]; done) | (have e : wordB s = false := allN_f (i := i) (by simp only [lowN, Bool.and_eq_false_iff, decide_eq_false_iff_not]; omega) (by omega); simp [kindB, e]; done))

theorem c_spec_l22Kind (s : ByteArray) (hs : s.size ≤ 9223372036854775807) : Ctr Tryd.prog 52 [.v (.string s)] (.one (.v (.bool (kindB s)))) := by
  refine Ctr.of (n := 23) G Tryd.func52 rfl (by kernel_rfl) rfl rfl rfl (fun w0 => ?_)
  refine W_seq (fun K1 hK1 => ?_)
  refine W_region (WL_cons rfl (WX_q rfl rfl (q_assign rfl rfl) (?_)))
  refine WL_nil (hK1 _ ?_)
  clear hK1 K1
  refine W_seq (fun K2 hK2 => ?_)
  refine W_seq (fun K3 hK3 => ?_)
  refine W_region (WL_cons rfl (WX_q rfl rfl (q_assign rfl rfl) (?_)))
  refine WL_nil (hK3 _ ?_)
  clear hK3 K3
  refine W_block ?_
  refine W_loopK [0] [] (fun (i : Nat) => [(3, .v (.int .i64 (i : Int)))]) (fun (i : Nat) => []) (fun (i : Nat) => i ≤ s.size ∧ ∀ j, j < i → lowN s j = true) (fun (i : Nat) => s.size - i) 0 rfl rfl ?_ ?_ ?_ ?_
  · exact ⟨Nat.zero_le _, fun j hj => by omega⟩
  · exact ⟨⟨_, rfl, by (first | rfl | (simp; done) | (simp; omega))⟩, rfl, trivial⟩
  · exact trivial
  · intro i hinv
    have hbi : byteN s i = ((s.data.toList.getD ((i : Int)).toNat 0).toNat : Int) := rfl
    simp only [List.cons_append, List.nil_append]
    refine W_seq (fun K4 hK4 => ?_)
    refine W_seq (fun K5 hK5 => ?_)
    refine W_region (WL_cons rfl (WX_q rfl rfl (q_move rfl rfl) (WL_cons rfl (WX_q rfl rfl (q_move rfl rfl) (WL_cons rfl (WX_q rfl rfl (q_len_str G rfl rfl rfl) (WL_cons rfl (WX_q rfl rfl (q_cmp rfl rfl rfl rfl) (?_)))))))))
    refine WL_nil (hK5 _ ?_)
    clear hK5 K5
    refine W_cond rfl (fun h1 => ?_) (fun h1 => ?_)
    · try rw [h1]
      try simp only [decide_eq_true_eq, decide_eq_false_iff_not, beq_iff_eq, bne_iff_ne, ne_eq, Bool.not_eq_true', Bool.not_eq_false', beq_eq_false_iff_ne, bne_eq_false_iff_eq, Bool.not_eq_true, Bool.not_eq_false, Int.not_lt, Int.not_le, gt_iff_lt, ge_iff_le, Bool.and_eq_true, Bool.and_eq_false_iff, Bool.or_eq_true, Bool.or_eq_false_iff] at h1
      refine W_skip (hK4 _ ?_)
      clear hK4 K4
      refine W_seq (fun K6 hK6 => ?_)
      refine W_block ?_
      refine W_seq (fun K7 hK7 => ?_)
      refine W_region (WL_cons rfl (WX_q rfl rfl (q_move rfl rfl) (WL_cons rfl (WX_q rfl rfl (q_move rfl rfl) (WL_cons rfl (?_))))))
      refine WX_q rfl rfl (q_index_str G rfl rfl rfl rfl (by omega) (by omega)) ?_
      refine WL_cons rfl (WX_q rfl rfl (q_cmp rfl rfl rfl rfl) (WL_cons rfl (WX_q rfl rfl (q_move rfl rfl) (WL_part rfl rfl rfl (fun h2 => ?_) (fun h2 => ?_)))))
      · try rw [h2]
        try simp only [decide_eq_true_eq, decide_eq_false_iff_not, beq_iff_eq, bne_iff_ne, ne_eq, Bool.not_eq_true', Bool.not_eq_false', beq_eq_false_iff_ne, bne_eq_false_iff_eq, Bool.not_eq_true, Bool.not_eq_false, Int.not_lt, Int.not_le, gt_iff_lt, ge_iff_le, Bool.and_eq_true, Bool.and_eq_false_iff, Bool.or_eq_true, Bool.or_eq_false_iff] at h2
        refine WL_skip rfl rfl rfl rfl rfl rfl (WL_skip rfl rfl rfl rfl rfl rfl (WL_skip rfl rfl rfl rfl rfl rfl (WL_skip rfl rfl rfl rfl rfl rfl (WL_cons rfl (WX_q rfl rfl (q_pick_t rfl rfl rfl) (?_))))))
        refine WL_nil (hK7 _ ?_)
        clear hK7 K7
        refine W_true rfl ?_
        refine W_seq (fun K8 hK8 => ?_)
        refine W_region (WL_cons rfl (WX_q rfl rfl (q_assign rfl rfl) (?_)))
        refine WL_nil (hK8 _ ?_)
        clear hK8 K8
        refine W_ret (fin_one rfl (rc_v ?_))
        all_goals clear hK6 K6 hK2 K2
        all_goals (first | (have e : wordB s = true := allN_t hinv.2 (by omega); simp_all [kindB]; done) | (have e : wordB s = false := allN_f (i := i) (by simp only [lowN, Bool.and_eq_false_iff, decide_eq_false_iff_not]; omega) (by omega); simp [kindB, e]; done))
      · try rw [h2]
        try simp only [decide_eq_true_eq, decide_eq_false_iff_not, beq_iff_eq, bne_iff_ne, ne_eq, Bool.not_eq_true', Bool.not_eq_false', beq_eq_false_iff_ne, bne_eq_false_iff_eq, Bool.not_eq_true, Bool.not_eq_false, Int.not_lt, Int.not_le, gt_iff_lt, ge_iff_le, Bool.and_eq_true, Bool.and_eq_false_iff, Bool.or_eq_true, Bool.or_eq_false_iff] at h2
        refine WL_run rfl rfl rfl (WX_q rfl rfl (q_move rfl rfl) (WL_run rfl rfl rfl (WX_q rfl rfl (q_move rfl rfl) (WL_run rfl rfl rfl (?_)))))
        refine WX_q rfl rfl (q_index_str G rfl rfl rfl rfl (by omega) (by omega)) ?_
        refine WL_run rfl rfl rfl (WX_q rfl rfl (q_cmp rfl rfl rfl rfl) (WL_cons rfl (WX_q rfl rfl (q_pick_f rfl rfl rfl) (?_))))
        refine WL_nil (hK7 _ ?_)
        clear hK7 K7
        refine W_cond rfl (fun h3 => ?_) (fun h3 => ?_)
        · try rw [h3]
          try simp only [decide_eq_true_eq, decide_eq_false_iff_not, beq_iff_eq, bne_iff_ne, ne_eq, Bool.not_eq_true', Bool.not_eq_false', beq_eq_false_iff_ne, bne_eq_false_iff_eq, Bool.not_eq_true, Bool.not_eq_false, Int.not_lt, Int.not_le, gt_iff_lt, ge_iff_le, Bool.and_eq_true, Bool.and_eq_false_iff, Bool.or_eq_true, Bool.or_eq_false_iff] at h3
          refine W_seq (fun K9 hK9 => ?_)
          refine W_region (WL_cons rfl (WX_q rfl rfl (q_assign rfl rfl) (?_)))
          refine WL_nil (hK9 _ ?_)
          clear hK9 K9
          refine W_ret (fin_one rfl (rc_v ?_))
          all_goals clear hK6 K6 hK2 K2
          all_goals (first | (have e : wordB s = true := allN_t hinv.2 (by omega); simp_all [kindB]; done) | (have e : wordB s = false := allN_f (i := i) (by simp only [lowN, Bool.and_eq_false_iff, decide_eq_false_iff_not]; omega) (by omega); simp [kindB, e]; done))
        · try rw [h3]
          try simp only [decide_eq_true_eq, decide_eq_false_iff_not, beq_iff_eq, bne_iff_ne, ne_eq, Bool.not_eq_true', Bool.not_eq_false', beq_eq_false_iff_ne, bne_eq_false_iff_eq, Bool.not_eq_true, Bool.not_eq_false, Int.not_lt, Int.not_le, gt_iff_lt, ge_iff_le, Bool.and_eq_true, Bool.and_eq_false_iff, Bool.or_eq_true, Bool.or_eq_false_iff] at h3
          refine W_skip (hK6 _ ?_)
          clear hK6 K6
          refine W_region (WL_cons rfl (WX_q rfl rfl (q_move rfl rfl) (WL_cons rfl (?_))))
          first | refine WX_q rfl rfl (q_arith rfl rfl rfl rfl (by omega) (by omega)) ?_ | refine WX_q rfl rfl (q_wrap rfl rfl rfl rfl) ?_
          refine WL_cons rfl (WX_q rfl rfl (q_assign rfl rfl) (?_))
          refine WL_nil ⟨(i + 1), ?_, ?_, ⟨⟨_, rfl, by rfl⟩, rfl, trivial⟩, trivial, rfl, rfl, rfl⟩
          · refine ⟨by omega, upto_succ hinv.2 ?_⟩; simp only [lowN, Bool.and_eq_true, decide_eq_true_eq]; omega
          · omega
    · try rw [h1]
      try simp only [decide_eq_true_eq, decide_eq_false_iff_not, beq_iff_eq, bne_iff_ne, ne_eq, Bool.not_eq_true', Bool.not_eq_false', beq_eq_false_iff_ne, bne_eq_false_iff_eq, Bool.not_eq_true, Bool.not_eq_false, Int.not_lt, Int.not_le, gt_iff_lt, ge_iff_le, Bool.and_eq_true, Bool.and_eq_false_iff, Bool.or_eq_true, Bool.or_eq_false_iff] at h1
      refine W_exit (hK2 _ ?_)
      clear hK4 K4 hK2 K2
      refine W_seq (fun K10 hK10 => ?_)
      refine W_region (WL_cons rfl (WX_q rfl rfl (q_move rfl rfl) (WL_cons rfl (WX_q rfl rfl (q_len_str G rfl rfl rfl) (WL_cons rfl (?_))))))
      refine WX_q rfl rfl (q_call rfl (ArgsOK.of rfl) (c_spec_l1In _ _ _) rfl) ?_
      refine WL_cons rfl (WX_q rfl rfl (q_assign rfl rfl) (?_))
      refine WL_nil (hK10 _ ?_)
      clear hK10 K10
      refine W_ret (fin_one rfl (rc_v ?_))
      all_goals (first | (have e : wordB s = true := allN_t hinv.2 (by omega); simp_all [kindB]; done) | (have e : wordB s = false := allN_f (i := i) (by simp only [lowN, Bool.and_eq_false_iff, decide_eq_false_iff_not]; omega) (by omega); simp [kindB, e]; done))

theorem c_impl_isEventKind (s : ByteArray) (hs : s.size ≤ 9223372036854775807) : Ctr Tryd.prog 43 [.v (.string s)] (.one (.v (.bool (kindB s)))) := by
  refine Ctr.of (n := 10) G Tryd.func43 rfl (by kernel_rfl) rfl rfl rfl (fun w0 => ?_)
  refine W_seq (fun K1 hK1 => ?_)
  refine W_region (WL_cons rfl (WX_q rfl rfl (q_assign rfl rfl) (?_)))
  refine WL_nil (hK1 _ ?_)
  clear hK1 K1
  refine W_seq (fun K2 hK2 => ?_)
  refine W_region (WL_cons rfl (WX_q rfl rfl (q_move rfl rfl) (WL_cons rfl (?_))))
  refine WX_q rfl rfl (q_call rfl (ArgsOK.of rfl) (c_impl_isWord _ (by first | assumption | omega)) rfl) ?_
  refine WL_cons rfl (WX_q rfl rfl (q_move rfl rfl) (WL_part rfl rfl rfl (fun h1 => ?_) (fun h1 => ?_)))
  · try rw [h1]
    try simp only [decide_eq_true_eq, decide_eq_false_iff_not, beq_iff_eq, bne_iff_ne, ne_eq, Bool.not_eq_true', Bool.not_eq_false', beq_eq_false_iff_ne, bne_eq_false_iff_eq, Bool.not_eq_true, Bool.not_eq_false, Int.not_lt, Int.not_le, gt_iff_lt, ge_iff_le, Bool.and_eq_true, Bool.and_eq_false_iff, Bool.or_eq_true, Bool.or_eq_false_iff] at h1
    refine WL_run rfl rfl rfl (WX_q rfl rfl (q_move rfl rfl) (WL_run rfl rfl rfl (WX_q rfl rfl (q_len_str G rfl rfl rfl) (WL_run rfl rfl rfl (WX_q rfl rfl (q_cmp rfl rfl rfl rfl) (WL_cons rfl (WX_q rfl rfl (q_pick_t rfl rfl rfl) (WL_cons rfl (WX_q rfl rfl (q_assign rfl rfl) (?_))))))))))
    refine WL_nil (hK2 _ ?_)
    clear hK2 K2
    refine W_ret (fin_one rfl (rc_v ?_))
    all_goals ((cases hz : wordB s <;> simp_all [kindB, inside] <;> omega))
  · try rw [h1]
    try simp only [decide_eq_true_eq, decide_eq_false_iff_not, beq_iff_eq, bne_iff_ne, ne_eq, Bool.not_eq_true', Bool.not_eq_false', beq_eq_false_iff_ne, bne_eq_false_iff_eq, Bool.not_eq_true, Bool.not_eq_false, Int.not_lt, Int.not_le, gt_iff_lt, ge_iff_le, Bool.and_eq_true, Bool.and_eq_false_iff, Bool.or_eq_true, Bool.or_eq_false_iff] at h1
    refine WL_skip rfl rfl rfl rfl rfl rfl (WL_skip rfl rfl rfl rfl rfl rfl (WL_skip rfl rfl rfl rfl rfl rfl (WL_cons rfl (WX_q rfl rfl (q_pick_f rfl rfl rfl) (WL_cons rfl (WX_q rfl rfl (q_assign rfl rfl) (?_)))))))
    refine WL_nil (hK2 _ ?_)
    clear hK2 K2
    refine W_ret (fin_one rfl (rc_v ?_))
    all_goals ((cases hz : wordB s <;> simp_all [kindB, inside] <;> omega))

theorem c_impl_IsSetting (x : Setting) (hs : x.n.size ≤ 9223372036854775807) : Ctr Tryd.prog 26 [.v (encT x)] (.one (.v (.bool (isSet x)))) := by
  refine Ctr.of (n := 26) G Tryd.func26 rfl (by kernel_rfl) rfl rfl rfl (fun w0 => ?_)
  refine W_seq (fun K1 hK1 => ?_)
  refine W_region (WL_cons rfl (WX_box 1 rfl rfl rfl rfl rfl rfl rfl (WL_cons rfl (WX_q rfl rfl (q_assign rfl rfl) (?_)))))
  refine WL_nil (hK1 _ ?_)
  clear hK1 K1
  refine W_seq (fun K2 hK2 => ?_)
  refine W_region (WL_cons rfl (WX_q rfl rfl (q_field_ptr G rfl rfl rfl rfl) (WL_cons rfl (WX_q rfl rfl (q_load_box G rfl rfl rfl rfl rfl rfl rfl) (WL_cons rfl (?_))))))
  refine WX_q rfl rfl (q_call rfl (ArgsOK.of rfl) (c_impl_isGuest _) rfl) ?_
  refine WL_cons rfl (WX_q rfl rfl (q_move rfl rfl) (WL_part rfl rfl rfl (fun h1 => ?_) (fun h1 => ?_)))
  · try rw [h1]
    try simp only [decide_eq_true_eq, decide_eq_false_iff_not, beq_iff_eq, bne_iff_ne, ne_eq, Bool.not_eq_true', Bool.not_eq_false', beq_eq_false_iff_ne, bne_eq_false_iff_eq, Bool.not_eq_true, Bool.not_eq_false, Int.not_lt, Int.not_le, gt_iff_lt, ge_iff_le, Bool.and_eq_true, Bool.and_eq_false_iff, Bool.or_eq_true, Bool.or_eq_false_iff] at h1
    refine WL_run rfl rfl rfl (WX_q rfl rfl (q_field_ptr G rfl rfl rfl rfl) (WL_run rfl rfl rfl (WX_q rfl rfl (q_load_box G rfl rfl rfl rfl rfl rfl rfl) (WL_run rfl rfl rfl (?_)))))
    refine WX_q rfl rfl (q_call rfl (ArgsOK.of rfl) (c_impl_isEventKind _ (by first | assumption | omega)) rfl) ?_
    refine WL_cons rfl (WX_q rfl rfl (q_pick_t rfl rfl rfl) (WL_cons rfl (WX_q rfl rfl (q_move rfl rfl) (WL_part rfl rfl rfl (fun h2 => ?_) (fun h2 => ?_)))))
    · try rw [h2]
      try simp only [decide_eq_true_eq, decide_eq_false_iff_not, beq_iff_eq, bne_iff_ne, ne_eq, Bool.not_eq_true', Bool.not_eq_false', beq_eq_false_iff_ne, bne_eq_false_iff_eq, Bool.not_eq_true, Bool.not_eq_false, Int.not_lt, Int.not_le, gt_iff_lt, ge_iff_le, Bool.and_eq_true, Bool.and_eq_false_iff, Bool.or_eq_true, Bool.or_eq_false_iff] at h2
      refine WL_run rfl rfl rfl (WX_q rfl rfl (q_field_ptr G rfl rfl rfl rfl) (WL_run rfl rfl rfl (WX_q rfl rfl (q_load_box G rfl rfl rfl rfl rfl rfl rfl) (WL_run rfl rfl rfl (?_)))))
      refine WX_q rfl rfl (q_call rfl (ArgsOK.of rfl) (c_impl_inside _ _ _) rfl) ?_
      refine WL_cons rfl (WX_q rfl rfl (q_pick_t rfl rfl rfl) (WL_cons rfl (WX_q rfl rfl (q_move rfl rfl) (WL_part rfl rfl rfl (fun h3 => ?_) (fun h3 => ?_)))))
      · try rw [h3]
        try simp only [decide_eq_true_eq, decide_eq_false_iff_not, beq_iff_eq, bne_iff_ne, ne_eq, Bool.not_eq_true', Bool.not_eq_false', beq_eq_false_iff_ne, bne_eq_false_iff_eq, Bool.not_eq_true, Bool.not_eq_false, Int.not_lt, Int.not_le, gt_iff_lt, ge_iff_le, Bool.and_eq_true, Bool.and_eq_false_iff, Bool.or_eq_true, Bool.or_eq_false_iff] at h3
        refine WL_run rfl rfl rfl (WX_q rfl rfl (q_field_ptr G rfl rfl rfl rfl) (WL_run rfl rfl rfl (WX_q rfl rfl (q_load_box G rfl rfl rfl rfl rfl rfl rfl) (WL_run rfl rfl rfl (?_)))))
        refine WX_q rfl rfl (q_call rfl (ArgsOK.of rfl) (c_impl_inside _ _ _) rfl) ?_
        refine WL_cons rfl (WX_q rfl rfl (q_pick_t rfl rfl rfl) (WL_cons rfl (WX_q rfl rfl (q_move rfl rfl) (WL_part rfl rfl rfl (fun h4 => ?_) (fun h4 => ?_)))))
        · try rw [h4]
          try simp only [decide_eq_true_eq, decide_eq_false_iff_not, beq_iff_eq, bne_iff_ne, ne_eq, Bool.not_eq_true', Bool.not_eq_false', beq_eq_false_iff_ne, bne_eq_false_iff_eq, Bool.not_eq_true, Bool.not_eq_false, Int.not_lt, Int.not_le, gt_iff_lt, ge_iff_le, Bool.and_eq_true, Bool.and_eq_false_iff, Bool.or_eq_true, Bool.or_eq_false_iff] at h4
          refine WL_run rfl rfl rfl (WX_q rfl rfl (q_field_ptr G rfl rfl rfl rfl) (WL_run rfl rfl rfl (WX_q rfl rfl (q_load_box G rfl rfl rfl rfl rfl rfl rfl) (WL_run rfl rfl rfl (?_)))))
          refine WX_q rfl rfl (q_call rfl (ArgsOK.of rfl) (c_impl_inside _ _ _) rfl) ?_
          refine WL_cons rfl (WX_q rfl rfl (q_pick_t rfl rfl rfl) (WL_cons rfl (WX_q rfl rfl (q_assign rfl rfl) (?_))))
          refine WL_nil (hK2 _ ?_)
          clear hK2 K2
          refine W_ret (fin_one rfl (rc_v ?_))
          all_goals (first | rfl | (simp_all [isSet]; done) | (simp_all [isSet]; omega))
        · try rw [h4]
          try simp only [decide_eq_true_eq, decide_eq_false_iff_not, beq_iff_eq, bne_iff_ne, ne_eq, Bool.not_eq_true', Bool.not_eq_false', beq_eq_false_iff_ne, bne_eq_false_iff_eq, Bool.not_eq_true, Bool.not_eq_false, Int.not_lt, Int.not_le, gt_iff_lt, ge_iff_le, Bool.and_eq_true, Bool.and_eq_false_iff, Bool.or_eq_true, Bool.or_eq_false_iff] at h4
          refine WL_skip rfl rfl rfl rfl rfl rfl (WL_skip rfl rfl rfl rfl rfl rfl (WL_skip rfl rfl rfl rfl rfl rfl (WL_cons rfl (WX_q rfl rfl (q_pick_f rfl rfl rfl) (WL_cons rfl (WX_q rfl rfl (q_assign rfl rfl) (?_)))))))
          refine WL_nil (hK2 _ ?_)
          clear hK2 K2
          refine W_ret (fin_one rfl (rc_v ?_))
          all_goals (first | rfl | (simp_all [isSet]; done) | (simp_all [isSet]; omega))
      · try rw [h3]
        try simp only [decide_eq_true_eq, decide_eq_false_iff_not, beq_iff_eq, bne_iff_ne, ne_eq, Bool.not_eq_true', Bool.not_eq_false', beq_eq_false_iff_ne, bne_eq_false_iff_eq, Bool.not_eq_true, Bool.not_eq_false, Int.not_lt, Int.not_le, gt_iff_lt, ge_iff_le, Bool.and_eq_true, Bool.and_eq_false_iff, Bool.or_eq_true, Bool.or_eq_false_iff] at h3
        refine WL_skip rfl rfl rfl rfl rfl rfl (WL_skip rfl rfl rfl rfl rfl rfl (WL_skip rfl rfl rfl rfl rfl rfl (WL_cons rfl (WX_q rfl rfl (q_pick_f rfl rfl rfl) (WL_cons rfl (WX_q rfl rfl (q_move rfl rfl) (WL_skip rfl rfl rfl rfl rfl rfl (WL_skip rfl rfl rfl rfl rfl rfl (WL_skip rfl rfl rfl rfl rfl rfl (WL_cons rfl (WX_q rfl rfl (q_pick_f rfl rfl rfl) (WL_cons rfl (WX_q rfl rfl (q_assign rfl rfl) (?_))))))))))))))
        refine WL_nil (hK2 _ ?_)
        clear hK2 K2
        refine W_ret (fin_one rfl (rc_v ?_))
        all_goals (first | rfl | (simp_all [isSet]; done) | (simp_all [isSet]; omega))
    · try rw [h2]
      try simp only [decide_eq_true_eq, decide_eq_false_iff_not, beq_iff_eq, bne_iff_ne, ne_eq, Bool.not_eq_true', Bool.not_eq_false', beq_eq_false_iff_ne, bne_eq_false_iff_eq, Bool.not_eq_true, Bool.not_eq_false, Int.not_lt, Int.not_le, gt_iff_lt, ge_iff_le, Bool.and_eq_true, Bool.and_eq_false_iff, Bool.or_eq_true, Bool.or_eq_false_iff] at h2
      refine WL_skip rfl rfl rfl rfl rfl rfl (WL_skip rfl rfl rfl rfl rfl rfl (WL_skip rfl rfl rfl rfl rfl rfl (WL_cons rfl (WX_q rfl rfl (q_pick_f rfl rfl rfl) (WL_cons rfl (WX_q rfl rfl (q_move rfl rfl) (WL_skip rfl rfl rfl rfl rfl rfl (WL_skip rfl rfl rfl rfl rfl rfl (WL_skip rfl rfl rfl rfl rfl rfl (WL_cons rfl (WX_q rfl rfl (q_pick_f rfl rfl rfl) (WL_cons rfl (WX_q rfl rfl (q_move rfl rfl) (WL_skip rfl rfl rfl rfl rfl rfl (WL_skip rfl rfl rfl rfl rfl rfl (WL_skip rfl rfl rfl rfl rfl rfl (WL_cons rfl (WX_q rfl rfl (q_pick_f rfl rfl rfl) (WL_cons rfl (WX_q rfl rfl (q_assign rfl rfl) (?_)))))))))))))))))))))
      refine WL_nil (hK2 _ ?_)
      clear hK2 K2
      refine W_ret (fin_one rfl (rc_v ?_))
      all_goals (first | rfl | (simp_all [isSet]; done) | (simp_all [isSet]; omega))
  · try rw [h1]
    try simp only [decide_eq_true_eq, decide_eq_false_iff_not, beq_iff_eq, bne_iff_ne, ne_eq, Bool.not_eq_true', Bool.not_eq_false', beq_eq_false_iff_ne, bne_eq_false_iff_eq, Bool.not_eq_true, Bool.not_eq_false, Int.not_lt, Int.not_le, gt_iff_lt, ge_iff_le, Bool.and_eq_true, Bool.and_eq_false_iff, Bool.or_eq_true, Bool.or_eq_false_iff] at h1
    refine WL_skip rfl rfl rfl rfl rfl rfl (WL_skip rfl rfl rfl rfl rfl rfl (WL_skip rfl rfl rfl rfl rfl rfl (WL_cons rfl (WX_q rfl rfl (q_pick_f rfl rfl rfl) (WL_cons rfl (WX_q rfl rfl (q_move rfl rfl) (WL_skip rfl rfl rfl rfl rfl rfl (WL_skip rfl rfl rfl rfl rfl rfl (WL_skip rfl rfl rfl rfl rfl rfl (WL_cons rfl (WX_q rfl rfl (q_pick_f rfl rfl rfl) (WL_cons rfl (WX_q rfl rfl (q_move rfl rfl) (WL_skip rfl rfl rfl rfl rfl rfl (WL_skip rfl rfl rfl rfl rfl rfl (WL_skip rfl rfl rfl rfl rfl rfl (WL_cons rfl (WX_q rfl rfl (q_pick_f rfl rfl rfl) (WL_cons rfl (WX_q rfl rfl (q_move rfl rfl) (WL_skip rfl rfl rfl rfl rfl rfl (WL_skip rfl rfl rfl rfl rfl rfl (WL_skip rfl rfl rfl rfl rfl rfl (WL_cons rfl (WX_q rfl rfl (q_pick_f rfl rfl rfl) (WL_cons rfl (WX_q rfl rfl (q_assign rfl rfl) (?_))))))))))))))))))))))))))))
    refine WL_nil (hK2 _ ?_)
    clear hK2 K2
    refine W_ret (fin_one rfl (rc_v ?_))
    all_goals (first | rfl | (simp_all [isSet]; done) | (simp_all [isSet]; omega))

theorem c_spec_l24One (x : Setting) (hs : x.n.size ≤ 9223372036854775807) : Ctr Tryd.prog 31 [.v (encT x)] (.one (.v (.bool (isSet x)))) := by
  refine Ctr.of (n := 26) G Tryd.func31 rfl (by kernel_rfl) rfl rfl rfl (fun w0 => ?_)
  refine W_seq (fun K1 hK1 => ?_)
  refine W_region (WL_cons rfl (WX_box 1 rfl rfl rfl rfl rfl rfl rfl (WL_cons rfl (WX_q rfl rfl (q_assign rfl rfl) (?_)))))
  refine WL_nil (hK1 _ ?_)
  clear hK1 K1
  refine W_seq (fun K2 hK2 => ?_)
  refine W_region (WL_cons rfl (WX_q rfl rfl (q_field_ptr G rfl rfl rfl rfl) (WL_cons rfl (WX_q rfl rfl (q_load_box G rfl rfl rfl rfl rfl rfl rfl) (WL_cons rfl (?_))))))
  refine WX_q rfl rfl (q_call rfl (ArgsOK.of rfl) (c_spec_l1In _ _ _) rfl) ?_
  refine WL_cons rfl (WX_q rfl rfl (q_move rfl rfl) (WL_part rfl rfl rfl (fun h1 => ?_) (fun h1 => ?_)))
  · try rw [h1]
    try simp only [decide_eq_true_eq, decide_eq_false_iff_not, beq_iff_eq, bne_iff_ne, ne_eq, Bool.not_eq_true', Bool.not_eq_false', beq_eq_false_iff_ne, bne_eq_false_iff_eq, Bool.not_eq_true, Bool.not_eq_false, Int.not_lt, Int.not_le, gt_iff_lt, ge_iff_le, Bool.and_eq_true, Bool.and_eq_false_iff, Bool.or_eq_true, Bool.or_eq_false_iff] at h1
    refine WL_run rfl rfl rfl (WX_q rfl rfl (q_field_ptr G rfl rfl rfl rfl) (WL_run rfl rfl rfl (WX_q rfl rfl (q_load_box G rfl rfl rfl rfl rfl rfl rfl) (WL_run rfl rfl rfl (?_)))))
    refine WX_q rfl rfl (q_call rfl (ArgsOK.of rfl) (c_spec_l22Kind _ (by first | assumption | omega)) rfl) ?_
    refine WL_cons rfl (WX_q rfl rfl (q_pick_t rfl rfl rfl) (WL_cons rfl (WX_q rfl rfl (q_move rfl rfl) (WL_part rfl rfl rfl (fun h2 => ?_) (fun h2 => ?_)))))
    · try rw [h2]
      try simp only [decide_eq_true_eq, decide_eq_false_iff_not, beq_iff_eq, bne_iff_ne, ne_eq, Bool.not_eq_true', Bool.not_eq_false', beq_eq_false_iff_ne, bne_eq_false_iff_eq, Bool.not_eq_true, Bool.not_eq_false, Int.not_lt, Int.not_le, gt_iff_lt, ge_iff_le, Bool.and_eq_true, Bool.and_eq_false_iff, Bool.or_eq_true, Bool.or_eq_false_iff] at h2
      refine WL_run rfl rfl rfl (WX_q rfl rfl (q_field_ptr G rfl rfl rfl rfl) (WL_run rfl rfl rfl (WX_q rfl rfl (q_load_box G rfl rfl rfl rfl rfl rfl rfl) (WL_run rfl rfl rfl (?_)))))
      refine WX_q rfl rfl (q_call rfl (ArgsOK.of rfl) (c_spec_l1In _ _ _) rfl) ?_
      refine WL_cons rfl (WX_q rfl rfl (q_pick_t rfl rfl rfl) (WL_cons rfl (WX_q rfl rfl (q_move rfl rfl) (WL_part rfl rfl rfl (fun h3 => ?_) (fun h3 => ?_)))))
      · try rw [h3]
        try simp only [decide_eq_true_eq, decide_eq_false_iff_not, beq_iff_eq, bne_iff_ne, ne_eq, Bool.not_eq_true', Bool.not_eq_false', beq_eq_false_iff_ne, bne_eq_false_iff_eq, Bool.not_eq_true, Bool.not_eq_false, Int.not_lt, Int.not_le, gt_iff_lt, ge_iff_le, Bool.and_eq_true, Bool.and_eq_false_iff, Bool.or_eq_true, Bool.or_eq_false_iff] at h3
        refine WL_run rfl rfl rfl (WX_q rfl rfl (q_field_ptr G rfl rfl rfl rfl) (WL_run rfl rfl rfl (WX_q rfl rfl (q_load_box G rfl rfl rfl rfl rfl rfl rfl) (WL_run rfl rfl rfl (?_)))))
        refine WX_q rfl rfl (q_call rfl (ArgsOK.of rfl) (c_spec_l1In _ _ _) rfl) ?_
        refine WL_cons rfl (WX_q rfl rfl (q_pick_t rfl rfl rfl) (WL_cons rfl (WX_q rfl rfl (q_move rfl rfl) (WL_part rfl rfl rfl (fun h4 => ?_) (fun h4 => ?_)))))
        · try rw [h4]
          try simp only [decide_eq_true_eq, decide_eq_false_iff_not, beq_iff_eq, bne_iff_ne, ne_eq, Bool.not_eq_true', Bool.not_eq_false', beq_eq_false_iff_ne, bne_eq_false_iff_eq, Bool.not_eq_true, Bool.not_eq_false, Int.not_lt, Int.not_le, gt_iff_lt, ge_iff_le, Bool.and_eq_true, Bool.and_eq_false_iff, Bool.or_eq_true, Bool.or_eq_false_iff] at h4
          refine WL_run rfl rfl rfl (WX_q rfl rfl (q_field_ptr G rfl rfl rfl rfl) (WL_run rfl rfl rfl (WX_q rfl rfl (q_load_box G rfl rfl rfl rfl rfl rfl rfl) (WL_run rfl rfl rfl (?_)))))
          refine WX_q rfl rfl (q_call rfl (ArgsOK.of rfl) (c_spec_l1In _ _ _) rfl) ?_
          refine WL_cons rfl (WX_q rfl rfl (q_pick_t rfl rfl rfl) (WL_cons rfl (WX_q rfl rfl (q_assign rfl rfl) (?_))))
          refine WL_nil (hK2 _ ?_)
          clear hK2 K2
          refine W_ret (fin_one rfl (rc_v ?_))
          all_goals (first | rfl | (simp_all [isSet]; done) | (simp_all [isSet]; omega))
        · try rw [h4]
          try simp only [decide_eq_true_eq, decide_eq_false_iff_not, beq_iff_eq, bne_iff_ne, ne_eq, Bool.not_eq_true', Bool.not_eq_false', beq_eq_false_iff_ne, bne_eq_false_iff_eq, Bool.not_eq_true, Bool.not_eq_false, Int.not_lt, Int.not_le, gt_iff_lt, ge_iff_le, Bool.and_eq_true, Bool.and_eq_false_iff, Bool.or_eq_true, Bool.or_eq_false_iff] at h4
          refine WL_skip rfl rfl rfl rfl rfl rfl (WL_skip rfl rfl rfl rfl rfl rfl (WL_skip rfl rfl rfl rfl rfl rfl (WL_cons rfl (WX_q rfl rfl (q_pick_f rfl rfl rfl) (WL_cons rfl (WX_q rfl rfl (q_assign rfl rfl) (?_)))))))
          refine WL_nil (hK2 _ ?_)
          clear hK2 K2
          refine W_ret (fin_one rfl (rc_v ?_))
          all_goals (first | rfl | (simp_all [isSet]; done) | (simp_all [isSet]; omega))
      · try rw [h3]
        try simp only [decide_eq_true_eq, decide_eq_false_iff_not, beq_iff_eq, bne_iff_ne, ne_eq, Bool.not_eq_true', Bool.not_eq_false', beq_eq_false_iff_ne, bne_eq_false_iff_eq, Bool.not_eq_true, Bool.not_eq_false, Int.not_lt, Int.not_le, gt_iff_lt, ge_iff_le, Bool.and_eq_true, Bool.and_eq_false_iff, Bool.or_eq_true, Bool.or_eq_false_iff] at h3
        refine WL_skip rfl rfl rfl rfl rfl rfl (WL_skip rfl rfl rfl rfl rfl rfl (WL_skip rfl rfl rfl rfl rfl rfl (WL_cons rfl (WX_q rfl rfl (q_pick_f rfl rfl rfl) (WL_cons rfl (WX_q rfl rfl (q_move rfl rfl) (WL_skip rfl rfl rfl rfl rfl rfl (WL_skip rfl rfl rfl rfl rfl rfl (WL_skip rfl rfl rfl rfl rfl rfl (WL_cons rfl (WX_q rfl rfl (q_pick_f rfl rfl rfl) (WL_cons rfl (WX_q rfl rfl (q_assign rfl rfl) (?_))))))))))))))
        refine WL_nil (hK2 _ ?_)
        clear hK2 K2
        refine W_ret (fin_one rfl (rc_v ?_))
        all_goals (first | rfl | (simp_all [isSet]; done) | (simp_all [isSet]; omega))
    · try rw [h2]
      try simp only [decide_eq_true_eq, decide_eq_false_iff_not, beq_iff_eq, bne_iff_ne, ne_eq, Bool.not_eq_true', Bool.not_eq_false', beq_eq_false_iff_ne, bne_eq_false_iff_eq, Bool.not_eq_true, Bool.not_eq_false, Int.not_lt, Int.not_le, gt_iff_lt, ge_iff_le, Bool.and_eq_true, Bool.and_eq_false_iff, Bool.or_eq_true, Bool.or_eq_false_iff] at h2
      refine WL_skip rfl rfl rfl rfl rfl rfl (WL_skip rfl rfl rfl rfl rfl rfl (WL_skip rfl rfl rfl rfl rfl rfl (WL_cons rfl (WX_q rfl rfl (q_pick_f rfl rfl rfl) (WL_cons rfl (WX_q rfl rfl (q_move rfl rfl) (WL_skip rfl rfl rfl rfl rfl rfl (WL_skip rfl rfl rfl rfl rfl rfl (WL_skip rfl rfl rfl rfl rfl rfl (WL_cons rfl (WX_q rfl rfl (q_pick_f rfl rfl rfl) (WL_cons rfl (WX_q rfl rfl (q_move rfl rfl) (WL_skip rfl rfl rfl rfl rfl rfl (WL_skip rfl rfl rfl rfl rfl rfl (WL_skip rfl rfl rfl rfl rfl rfl (WL_cons rfl (WX_q rfl rfl (q_pick_f rfl rfl rfl) (WL_cons rfl (WX_q rfl rfl (q_assign rfl rfl) (?_)))))))))))))))))))))
      refine WL_nil (hK2 _ ?_)
      clear hK2 K2
      refine W_ret (fin_one rfl (rc_v ?_))
      all_goals (first | rfl | (simp_all [isSet]; done) | (simp_all [isSet]; omega))
  · try rw [h1]
    try simp only [decide_eq_true_eq, decide_eq_false_iff_not, beq_iff_eq, bne_iff_ne, ne_eq, Bool.not_eq_true', Bool.not_eq_false', beq_eq_false_iff_ne, bne_eq_false_iff_eq, Bool.not_eq_true, Bool.not_eq_false, Int.not_lt, Int.not_le, gt_iff_lt, ge_iff_le, Bool.and_eq_true, Bool.and_eq_false_iff, Bool.or_eq_true, Bool.or_eq_false_iff] at h1
    refine WL_skip rfl rfl rfl rfl rfl rfl (WL_skip rfl rfl rfl rfl rfl rfl (WL_skip rfl rfl rfl rfl rfl rfl (WL_cons rfl (WX_q rfl rfl (q_pick_f rfl rfl rfl) (WL_cons rfl (WX_q rfl rfl (q_move rfl rfl) (WL_skip rfl rfl rfl rfl rfl rfl (WL_skip rfl rfl rfl rfl rfl rfl (WL_skip rfl rfl rfl rfl rfl rfl (WL_cons rfl (WX_q rfl rfl (q_pick_f rfl rfl rfl) (WL_cons rfl (WX_q rfl rfl (q_move rfl rfl) (WL_skip rfl rfl rfl rfl rfl rfl (WL_skip rfl rfl rfl rfl rfl rfl (WL_skip rfl rfl rfl rfl rfl rfl (WL_cons rfl (WX_q rfl rfl (q_pick_f rfl rfl rfl) (WL_cons rfl (WX_q rfl rfl (q_move rfl rfl) (WL_skip rfl rfl rfl rfl rfl rfl (WL_skip rfl rfl rfl rfl rfl rfl (WL_skip rfl rfl rfl rfl rfl rfl (WL_cons rfl (WX_q rfl rfl (q_pick_f rfl rfl rfl) (WL_cons rfl (WX_q rfl rfl (q_assign rfl rfl) (?_))))))))))))))))))))))))))))
    refine WL_nil (hK2 _ ?_)
    clear hK2 K2
    refine W_ret (fin_one rfl (rc_v ?_))
    all_goals (first | rfl | (simp_all [isSet]; done) | (simp_all [isSet]; omega))

theorem c_laws_toSetting (x : Setting) : Ctr Tryd.prog 10 [.v (encT x)] (.one (.v (encT x))) := by
  refine Ctr.of (n := 23) G Tryd.func10 rfl (by kernel_rfl) rfl rfl rfl (fun w0 => ?_)
  refine W_seq (fun K1 hK1 => ?_)
  refine W_region (WL_cons rfl (WX_box 1 rfl rfl rfl rfl rfl rfl rfl (WL_cons rfl (WX_alloc_s G 2 rfl rfl rfl rfl rfl (?_)))))
  refine WL_nil (hK1 _ ?_)
  clear hK1 K1
  refine W_seq (fun K2 hK2 => ?_)
  refine W_region (WL_cons rfl (WX_alloc_s G 3 rfl rfl rfl rfl rfl (?_)))
  refine WL_nil (hK2 _ ?_)
  clear hK2 K2
  refine W_seq (fun K3 hK3 => ?_)
  refine W_region (WL_cons rfl (WX_q rfl rfl (q_field_ptr G rfl rfl rfl rfl) (WL_cons rfl (WX_q rfl rfl (q_load_box G rfl rfl rfl rfl rfl rfl rfl) (WL_cons rfl (WX_q rfl rfl (q_field_ptr G rfl rfl rfl rfl) (WL_cons rfl (WX_store G rfl rfl rfl rfl rfl rfl rfl rfl rfl rfl rfl (?_)))))))))
  refine WL_nil (hK3 _ ?_)
  clear hK3 K3
  refine W_seq (fun K4 hK4 => ?_)
  refine W_region (WL_cons rfl (WX_q rfl rfl (q_field_ptr G rfl rfl rfl rfl) (WL_cons rfl (WX_q rfl rfl (q_load_box G rfl rfl rfl rfl rfl rfl rfl) (WL_cons rfl (WX_q rfl rfl (q_field_ptr G rfl rfl rfl rfl) (WL_cons rfl (WX_store G rfl rfl rfl rfl rfl rfl rfl rfl rfl rfl rfl (?_)))))))))
  refine WL_nil (hK4 _ ?_)
  clear hK4 K4
  refine W_seq (fun K5 hK5 => ?_)
  refine W_region (WL_cons rfl (WX_q rfl rfl (q_field_ptr G rfl rfl rfl rfl) (WL_cons rfl (WX_q rfl rfl (q_load_box G rfl rfl rfl rfl rfl rfl rfl) (WL_cons rfl (WX_q rfl rfl (q_field_ptr G rfl rfl rfl rfl) (WL_cons rfl (WX_store G rfl rfl rfl rfl rfl rfl rfl rfl rfl rfl rfl (?_)))))))))
  refine WL_nil (hK5 _ ?_)
  clear hK5 K5
  refine W_seq (fun K6 hK6 => ?_)
  refine W_region (WL_cons rfl (WX_q rfl rfl (q_field_ptr G rfl rfl rfl rfl) (WL_cons rfl (WX_q rfl rfl (q_load_box G rfl rfl rfl rfl rfl rfl rfl) (WL_cons rfl (WX_q rfl rfl (q_field_ptr G rfl rfl rfl rfl) (WL_cons rfl (WX_store G rfl rfl rfl rfl rfl rfl rfl rfl rfl rfl rfl (?_)))))))))
  refine WL_nil (hK6 _ ?_)
  clear hK6 K6
  refine W_seq (fun K7 hK7 => ?_)
  refine W_region (WL_cons rfl (WX_q rfl rfl (q_field_ptr G rfl rfl rfl rfl) (WL_cons rfl (WX_q rfl rfl (q_load_box G rfl rfl rfl rfl rfl rfl rfl) (WL_cons rfl (WX_q rfl rfl (q_field_ptr G rfl rfl rfl rfl) (WL_cons rfl (WX_store G rfl rfl rfl rfl rfl rfl rfl rfl rfl rfl rfl (?_)))))))))
  refine WL_nil (hK7 _ ?_)
  clear hK7 K7
  refine W_seq (fun K8 hK8 => ?_)
  refine W_region (WL_cons rfl (WX_q rfl rfl (q_field_ptr G rfl rfl rfl rfl) (WL_cons rfl (WX_q rfl rfl (q_load_box G rfl rfl rfl rfl rfl rfl rfl) (WL_cons rfl (WX_q rfl rfl (q_field_ptr G rfl rfl rfl rfl) (WL_cons rfl (WX_store G rfl rfl rfl rfl rfl rfl rfl rfl rfl rfl rfl (?_)))))))))
  refine WL_nil (hK8 _ ?_)
  clear hK8 K8
  refine W_seq (fun K9 hK9 => ?_)
  refine W_region (WL_cons rfl (WX_q rfl rfl (q_load_box_struct G rfl rfl rfl rfl rfl rfl) (WL_cons rfl (WX_store G rfl rfl rfl rfl rfl rfl rfl rfl rfl rfl rfl (?_)))))
  refine WL_nil (hK9 _ ?_)
  clear hK9 K9
  refine W_ret (fin_one rfl (rc_agg rfl ?_))
  all_goals ((first | rfl | (simp_all; done) | (simp_all; omega)))

theorem c_laws_eqSetting (x y : Setting) : Ctr Tryd.prog 19 [.v (encT x), .v (encT y)] (.one (.v (.bool (eqT x y)))) := by
  refine Ctr.of (n := 35) G Tryd.func19 rfl (by kernel_rfl) rfl rfl rfl (fun w0 => ?_)
  refine W_seq (fun K1 hK1 => ?_)
  refine W_region (WL_cons rfl (WX_box 1 rfl rfl rfl rfl rfl rfl rfl (WL_cons rfl (WX_box 2 rfl rfl rfl rfl rfl rfl rfl (WL_cons rfl (WX_q rfl rfl (q_assign rfl rfl) (?_)))))))
  refine WL_nil (hK1 _ ?_)
  clear hK1 K1
  refine W_seq (fun K2 hK2 => ?_)
  refine W_seq (fun K3 hK3 => ?_)
  refine W_region (WL_cons rfl (WX_q rfl rfl (q_field_ptr G rfl rfl rfl rfl) (WL_cons rfl (WX_q rfl rfl (q_load_box G rfl rfl rfl rfl rfl rfl rfl) (WL_cons rfl (WX_q rfl rfl (q_field_ptr G rfl rfl rfl rfl) (WL_cons rfl (WX_q rfl rfl (q_load_box G rfl rfl rfl rfl rfl rfl rfl) (WL_cons rfl (WX_q rfl rfl (q_cmp rfl rfl rfl rfl) (?_)))))))))))
  refine WL_nil (hK3 _ ?_)
  clear hK3 K3
  refine W_cond rfl (fun h1 => ?_) (fun h1 => ?_)
  · try rw [h1]
    try simp only [decide_eq_true_eq, decide_eq_false_iff_not, beq_iff_eq, bne_iff_ne, ne_eq, Bool.not_eq_true', Bool.not_eq_false', beq_eq_false_iff_ne, bne_eq_false_iff_eq, Bool.not_eq_true, Bool.not_eq_false, Int.not_lt, Int.not_le, gt_iff_lt, ge_iff_le, Bool.and_eq_true, Bool.and_eq_false_iff, Bool.or_eq_true, Bool.or_eq_false_iff] at h1
    refine W_seq (fun K4 hK4 => ?_)
    refine W_region (WL_cons rfl (WX_q rfl rfl (q_assign rfl rfl) (?_)))
    refine WL_nil (hK4 _ ?_)
    clear hK4 K4
    refine W_ret (fin_one rfl (rc_v ?_))
    all_goals clear hK2 K2
    all_goals (first | rfl | (simp_all [eqT]; done) | (simp_all [eqT]; omega))
  · try rw [h1]
    try simp only [decide_eq_true_eq, decide_eq_false_iff_not, beq_iff_eq, bne_iff_ne, ne_eq, Bool.not_eq_true', Bool.not_eq_false', beq_eq_false_iff_ne, bne_eq_false_iff_eq, Bool.not_eq_true, Bool.not_eq_false, Int.not_lt, Int.not_le, gt_iff_lt, ge_iff_le, Bool.and_eq_true, Bool.and_eq_false_iff, Bool.or_eq_true, Bool.or_eq_false_iff] at h1
    refine W_skip (hK2 _ ?_)
    clear hK2 K2
    refine W_seq (fun K5 hK5 => ?_)
    refine W_seq (fun K6 hK6 => ?_)
    refine W_region (WL_cons rfl (WX_q rfl rfl (q_field_ptr G rfl rfl rfl rfl) (WL_cons rfl (WX_q rfl rfl (q_load_box G rfl rfl rfl rfl rfl rfl rfl) (WL_cons rfl (WX_q rfl rfl (q_field_ptr G rfl rfl rfl rfl) (WL_cons rfl (WX_q rfl rfl (q_load_box G rfl rfl rfl rfl rfl rfl rfl) (WL_cons rfl (WX_q rfl rfl (q_cmp_str rfl rfl rfl rfl) (?_)))))))))))
    refine WL_nil (hK6 _ ?_)
    clear hK6 K6
    refine W_cond rfl (fun h2 => ?_) (fun h2 => ?_)
    · try rw [h2]
      try simp only [decide_eq_true_eq, decide_eq_false_iff_not, beq_iff_eq, bne_iff_ne, ne_eq, Bool.not_eq_true', Bool.not_eq_false', beq_eq_false_iff_ne, bne_eq_false_iff_eq, Bool.not_eq_true, Bool.not_eq_false, Int.not_lt, Int.not_le, gt_iff_lt, ge_iff_le, Bool.and_eq_true, Bool.and_eq_false_iff, Bool.or_eq_true, Bool.or_eq_false_iff] at h2
      refine W_seq (fun K7 hK7 => ?_)
      refine W_region (WL_cons rfl (WX_q rfl rfl (q_assign rfl rfl) (?_)))
      refine WL_nil (hK7 _ ?_)
      clear hK7 K7
      refine W_ret (fin_one rfl (rc_v ?_))
      all_goals clear hK5 K5
      all_goals (first | rfl | (simp_all [eqT]; done) | (simp_all [eqT]; omega))
    · try rw [h2]
      try simp only [decide_eq_true_eq, decide_eq_false_iff_not, beq_iff_eq, bne_iff_ne, ne_eq, Bool.not_eq_true', Bool.not_eq_false', beq_eq_false_iff_ne, bne_eq_false_iff_eq, Bool.not_eq_true, Bool.not_eq_false, Int.not_lt, Int.not_le, gt_iff_lt, ge_iff_le, Bool.and_eq_true, Bool.and_eq_false_iff, Bool.or_eq_true, Bool.or_eq_false_iff] at h2
      refine W_skip (hK5 _ ?_)
      clear hK5 K5
      refine W_seq (fun K8 hK8 => ?_)
      refine W_seq (fun K9 hK9 => ?_)
      refine W_region (WL_cons rfl (WX_q rfl rfl (q_field_ptr G rfl rfl rfl rfl) (WL_cons rfl (WX_q rfl rfl (q_load_box G rfl rfl rfl rfl rfl rfl rfl) (WL_cons rfl (WX_q rfl rfl (q_field_ptr G rfl rfl rfl rfl) (WL_cons rfl (WX_q rfl rfl (q_load_box G rfl rfl rfl rfl rfl rfl rfl) (WL_cons rfl (WX_q rfl rfl (q_cmp rfl rfl rfl rfl) (?_)))))))))))
      refine WL_nil (hK9 _ ?_)
      clear hK9 K9
      refine W_cond rfl (fun h3 => ?_) (fun h3 => ?_)
      · try rw [h3]
        try simp only [decide_eq_true_eq, decide_eq_false_iff_not, beq_iff_eq, bne_iff_ne, ne_eq, Bool.not_eq_true', Bool.not_eq_false', beq_eq_false_iff_ne, bne_eq_false_iff_eq, Bool.not_eq_true, Bool.not_eq_false, Int.not_lt, Int.not_le, gt_iff_lt, ge_iff_le, Bool.and_eq_true, Bool.and_eq_false_iff, Bool.or_eq_true, Bool.or_eq_false_iff] at h3
        refine W_seq (fun K10 hK10 => ?_)
        refine W_region (WL_cons rfl (WX_q rfl rfl (q_assign rfl rfl) (?_)))
        refine WL_nil (hK10 _ ?_)
        clear hK10 K10
        refine W_ret (fin_one rfl (rc_v ?_))
        all_goals clear hK8 K8
        all_goals (first | rfl | (simp_all [eqT]; done) | (simp_all [eqT]; omega))
      · try rw [h3]
        try simp only [decide_eq_true_eq, decide_eq_false_iff_not, beq_iff_eq, bne_iff_ne, ne_eq, Bool.not_eq_true', Bool.not_eq_false', beq_eq_false_iff_ne, bne_eq_false_iff_eq, Bool.not_eq_true, Bool.not_eq_false, Int.not_lt, Int.not_le, gt_iff_lt, ge_iff_le, Bool.and_eq_true, Bool.and_eq_false_iff, Bool.or_eq_true, Bool.or_eq_false_iff] at h3
        refine W_skip (hK8 _ ?_)
        clear hK8 K8
        refine W_seq (fun K11 hK11 => ?_)
        refine W_seq (fun K12 hK12 => ?_)
        refine W_region (WL_cons rfl (WX_q rfl rfl (q_field_ptr G rfl rfl rfl rfl) (WL_cons rfl (WX_q rfl rfl (q_load_box G rfl rfl rfl rfl rfl rfl rfl) (WL_cons rfl (WX_q rfl rfl (q_field_ptr G rfl rfl rfl rfl) (WL_cons rfl (WX_q rfl rfl (q_load_box G rfl rfl rfl rfl rfl rfl rfl) (WL_cons rfl (WX_q rfl rfl (q_cmp rfl rfl rfl rfl) (?_)))))))))))
        refine WL_nil (hK12 _ ?_)
        clear hK12 K12
        refine W_cond rfl (fun h4 => ?_) (fun h4 => ?_)
        · try rw [h4]
          try simp only [decide_eq_true_eq, decide_eq_false_iff_not, beq_iff_eq, bne_iff_ne, ne_eq, Bool.not_eq_true', Bool.not_eq_false', beq_eq_false_iff_ne, bne_eq_false_iff_eq, Bool.not_eq_true, Bool.not_eq_false, Int.not_lt, Int.not_le, gt_iff_lt, ge_iff_le, Bool.and_eq_true, Bool.and_eq_false_iff, Bool.or_eq_true, Bool.or_eq_false_iff] at h4
          refine W_seq (fun K13 hK13 => ?_)
          refine W_region (WL_cons rfl (WX_q rfl rfl (q_assign rfl rfl) (?_)))
          refine WL_nil (hK13 _ ?_)
          clear hK13 K13
          refine W_ret (fin_one rfl (rc_v ?_))
          all_goals clear hK11 K11
          all_goals (first | rfl | (simp_all [eqT]; done) | (simp_all [eqT]; omega))
        · try rw [h4]
          try simp only [decide_eq_true_eq, decide_eq_false_iff_not, beq_iff_eq, bne_iff_ne, ne_eq, Bool.not_eq_true', Bool.not_eq_false', beq_eq_false_iff_ne, bne_eq_false_iff_eq, Bool.not_eq_true, Bool.not_eq_false, Int.not_lt, Int.not_le, gt_iff_lt, ge_iff_le, Bool.and_eq_true, Bool.and_eq_false_iff, Bool.or_eq_true, Bool.or_eq_false_iff] at h4
          refine W_skip (hK11 _ ?_)
          clear hK11 K11
          refine W_seq (fun K14 hK14 => ?_)
          refine W_seq (fun K15 hK15 => ?_)
          refine W_region (WL_cons rfl (WX_q rfl rfl (q_field_ptr G rfl rfl rfl rfl) (WL_cons rfl (WX_q rfl rfl (q_load_box G rfl rfl rfl rfl rfl rfl rfl) (WL_cons rfl (WX_q rfl rfl (q_field_ptr G rfl rfl rfl rfl) (WL_cons rfl (WX_q rfl rfl (q_load_box G rfl rfl rfl rfl rfl rfl rfl) (WL_cons rfl (WX_q rfl rfl (q_cmp rfl rfl rfl rfl) (?_)))))))))))
          refine WL_nil (hK15 _ ?_)
          clear hK15 K15
          refine W_cond rfl (fun h5 => ?_) (fun h5 => ?_)
          · try rw [h5]
            try simp only [decide_eq_true_eq, decide_eq_false_iff_not, beq_iff_eq, bne_iff_ne, ne_eq, Bool.not_eq_true', Bool.not_eq_false', beq_eq_false_iff_ne, bne_eq_false_iff_eq, Bool.not_eq_true, Bool.not_eq_false, Int.not_lt, Int.not_le, gt_iff_lt, ge_iff_le, Bool.and_eq_true, Bool.and_eq_false_iff, Bool.or_eq_true, Bool.or_eq_false_iff] at h5
            refine W_seq (fun K16 hK16 => ?_)
            refine W_region (WL_cons rfl (WX_q rfl rfl (q_assign rfl rfl) (?_)))
            refine WL_nil (hK16 _ ?_)
            clear hK16 K16
            refine W_ret (fin_one rfl (rc_v ?_))
            all_goals clear hK14 K14
            all_goals (first | rfl | (simp_all [eqT]; done) | (simp_all [eqT]; omega))
          · try rw [h5]
            try simp only [decide_eq_true_eq, decide_eq_false_iff_not, beq_iff_eq, bne_iff_ne, ne_eq, Bool.not_eq_true', Bool.not_eq_false', beq_eq_false_iff_ne, bne_eq_false_iff_eq, Bool.not_eq_true, Bool.not_eq_false, Int.not_lt, Int.not_le, gt_iff_lt, ge_iff_le, Bool.and_eq_true, Bool.and_eq_false_iff, Bool.or_eq_true, Bool.or_eq_false_iff] at h5
            refine W_skip (hK14 _ ?_)
            clear hK14 K14
            refine W_seq (fun K17 hK17 => ?_)
            refine W_seq (fun K18 hK18 => ?_)
            refine W_region (WL_cons rfl (WX_q rfl rfl (q_field_ptr G rfl rfl rfl rfl) (WL_cons rfl (WX_q rfl rfl (q_load_box G rfl rfl rfl rfl rfl rfl rfl) (WL_cons rfl (WX_q rfl rfl (q_field_ptr G rfl rfl rfl rfl) (WL_cons rfl (WX_q rfl rfl (q_load_box G rfl rfl rfl rfl rfl rfl rfl) (WL_cons rfl (WX_q rfl rfl (q_bne (G 4 _ rfl).1 rfl rfl rfl) (?_)))))))))))
            refine WL_nil (hK18 _ ?_)
            clear hK18 K18
            refine W_cond rfl (fun h6 => ?_) (fun h6 => ?_)
            · try rw [h6]
              try simp only [decide_eq_true_eq, decide_eq_false_iff_not, beq_iff_eq, bne_iff_ne, ne_eq, Bool.not_eq_true', Bool.not_eq_false', beq_eq_false_iff_ne, bne_eq_false_iff_eq, Bool.not_eq_true, Bool.not_eq_false, Int.not_lt, Int.not_le, gt_iff_lt, ge_iff_le, Bool.and_eq_true, Bool.and_eq_false_iff, Bool.or_eq_true, Bool.or_eq_false_iff] at h6
              refine W_seq (fun K19 hK19 => ?_)
              refine W_region (WL_cons rfl (WX_q rfl rfl (q_assign rfl rfl) (?_)))
              refine WL_nil (hK19 _ ?_)
              clear hK19 K19
              refine W_ret (fin_one rfl (rc_v ?_))
              all_goals clear hK17 K17
              all_goals (first | rfl | (simp_all [eqT]; done) | (simp_all [eqT]; omega))
            · try rw [h6]
              try simp only [decide_eq_true_eq, decide_eq_false_iff_not, beq_iff_eq, bne_iff_ne, ne_eq, Bool.not_eq_true', Bool.not_eq_false', beq_eq_false_iff_ne, bne_eq_false_iff_eq, Bool.not_eq_true, Bool.not_eq_false, Int.not_lt, Int.not_le, gt_iff_lt, ge_iff_le, Bool.and_eq_true, Bool.and_eq_false_iff, Bool.or_eq_true, Bool.or_eq_false_iff] at h6
              refine W_skip (hK17 _ ?_)
              clear hK17 K17
              refine W_seq (fun K20 hK20 => ?_)
              refine W_region (WL_cons rfl (WX_q rfl rfl (q_assign rfl rfl) (?_)))
              refine WL_nil (hK20 _ ?_)
              clear hK20 K20
              refine W_ret (fin_one rfl (rc_v ?_))
              all_goals (first | rfl | (simp_all [eqT]; done) | (simp_all [eqT]; omega))

theorem c_laws_szSetting (x : Setting) (l : Int) (h0 : x.n.size ≤ 9223372036854775807) (hl : 0 ≤ l ∧ l ≤ 1048576) : Ctr Tryd.prog 8 [.v (encT x), .v (.int .i64 l)] (.one (.v (.int .i64 (if l - x.n.size < 0 then -1 else l - x.n.size)))) := by
  refine Ctr.of (n := 13) G Tryd.func8 rfl (by kernel_rfl) rfl rfl rfl (fun w0 => ?_)
  refine W_seq (fun K1 hK1 => ?_)
  refine W_region (WL_cons rfl (WX_box 1 rfl rfl rfl rfl rfl rfl rfl (WL_cons rfl (WX_q rfl rfl (q_assign rfl rfl) (?_)))))
  refine WL_nil (hK1 _ ?_)
  clear hK1 K1
  refine W_seq (fun K2 hK2 => ?_)
  refine W_region (WL_cons rfl (WX_q rfl rfl (q_move rfl rfl) (WL_cons rfl (WX_q rfl rfl (q_field_ptr G rfl rfl rfl rfl) (WL_cons rfl (WX_q rfl rfl (q_load_box G rfl rfl rfl rfl rfl rfl rfl) (WL_cons rfl (WX_q rfl rfl (q_len_str G rfl rfl rfl) (WL_cons rfl (?_))))))))))
  first | refine WX_q rfl rfl (q_arith rfl rfl rfl rfl (by omega) (by omega)) ?_ | refine WX_q rfl rfl (q_wrap rfl rfl rfl rfl) ?_
  refine WL_cons rfl (WX_q rfl rfl (q_assign rfl rfl) (?_))
  refine WL_nil (hK2 _ ?_)
  clear hK2 K2
  refine W_seq (fun K3 hK3 => ?_)
  refine W_seq (fun K4 hK4 => ?_)
  refine W_region (WL_cons rfl (WX_q rfl rfl (q_move rfl rfl) (WL_cons rfl (WX_q rfl rfl (q_cmp rfl rfl rfl rfl) (?_)))))
  refine WL_nil (hK4 _ ?_)
  clear hK4 K4
  refine W_cond rfl (fun h1 => ?_) (fun h1 => ?_)
  · try rw [h1]
    try simp only [decide_eq_true_eq, decide_eq_false_iff_not, beq_iff_eq, bne_iff_ne, ne_eq, Bool.not_eq_true', Bool.not_eq_false', beq_eq_false_iff_ne, bne_eq_false_iff_eq, Bool.not_eq_true, Bool.not_eq_false, Int.not_lt, Int.not_le, gt_iff_lt, ge_iff_le, Bool.and_eq_true, Bool.and_eq_false_iff, Bool.or_eq_true, Bool.or_eq_false_iff] at h1
    refine W_seq (fun K5 hK5 => ?_)
    refine W_region (WL_cons rfl (WX_q rfl rfl (q_assign rfl rfl) (?_)))
    refine WL_nil (hK5 _ ?_)
    clear hK5 K5
    refine W_ret (fin_one rfl (rc_v ?_))
    all_goals clear hK3 K3
    all_goals ((first | rfl | (simp_all; done) | (simp_all; omega)))
  · try rw [h1]
    try simp only [decide_eq_true_eq, decide_eq_false_iff_not, beq_iff_eq, bne_iff_ne, ne_eq, Bool.not_eq_true', Bool.not_eq_false', beq_eq_false_iff_ne, bne_eq_false_iff_eq, Bool.not_eq_true, Bool.not_eq_false, Int.not_lt, Int.not_le, gt_iff_lt, ge_iff_le, Bool.and_eq_true, Bool.and_eq_false_iff, Bool.or_eq_true, Bool.or_eq_false_iff] at h1
    refine W_skip (hK3 _ ?_)
    clear hK3 K3
    refine W_seq (fun K6 hK6 => ?_)
    refine W_region (WL_cons rfl (WX_q rfl rfl (q_move rfl rfl) (WL_cons rfl (WX_q rfl rfl (q_assign rfl rfl) (?_)))))
    refine WL_nil (hK6 _ ?_)
    clear hK6 K6
    refine W_ret (fin_one rfl (rc_v ?_))
    all_goals ((first | rfl | (simp_all; done) | (simp_all; omega)))

theorem c_spec_l24Text (x : Setting) (hs : isSet x = true) : Ctr Tryd.prog 32 [.v (encT x)] (.one (.v (.string (setT x)))) := by
  have ho := isSet_ok hs
  have z1 := numT_size (n := x.g) (by omega) (by omega)
  have z2 := numT_size (n := x.c) (by omega) (by omega)
  have z3 := numT_size (n := x.f) (by omega) (by omega)
  have z4 := numT_size (n := x.w) (by omega) (by omega)
  refine Ctr.of (n := 32) G Tryd.func32 rfl (by kernel_rfl) rfl rfl rfl (fun w0 => ?_)
  refine W_seq (fun K1 hK1 => ?_)
  refine W_region (WL_cons rfl (WX_box 1 rfl rfl rfl rfl rfl rfl rfl (WL_cons rfl (WX_q rfl rfl (q_assign rfl rfl) (?_)))))
  refine WL_nil (hK1 _ ?_)
  clear hK1 K1
  refine W_seq (fun K2 hK2 => ?_)
  refine W_draws mixed (by kernel_rfl) (QL_cons rfl (QX_q rfl rfl (q_field_ptr G rfl rfl rfl rfl) (QL_cons rfl (QX_q rfl rfl (q_load_box G rfl rfl rfl rfl rfl rfl rfl) (QL_cons rfl (?_))))))
  refine QX_q rfl rfl (q_call rfl (ArgsOK.of rfl) (c_spec_l1Num _ (by omega) (by omega)) rfl) ?_
  refine QL_cons rfl (?_)
  refine QX_q rfl rfl (q_cat rfl rfl rfl (by simp only [ByteArray.size_append, size_lit, List.size_toArray, List.length_cons, List.length_nil]; omega)) ?_
  refine QL_cons rfl (?_)
  refine QX_q rfl rfl (q_cat rfl rfl rfl (by simp only [ByteArray.size_append, size_lit, List.size_toArray, List.length_cons, List.length_nil]; omega)) ?_
  refine QL_cons rfl (QX_q rfl rfl (q_field_ptr G rfl rfl rfl rfl) (QL_cons rfl (QX_q rfl rfl (q_load_box G rfl rfl rfl rfl rfl rfl rfl) (QL_cons rfl (?_)))))
  refine QX_q rfl rfl (q_cat rfl rfl rfl (by simp only [ByteArray.size_append, size_lit, List.size_toArray, List.length_cons, List.length_nil]; omega)) ?_
  refine QL_cons rfl (?_)
  refine QX_q rfl rfl (q_cat rfl rfl rfl (by simp only [ByteArray.size_append, size_lit, List.size_toArray, List.length_cons, List.length_nil]; omega)) ?_
  refine QL_cons rfl (QX_q rfl rfl (q_field_ptr G rfl rfl rfl rfl) (QL_cons rfl (QX_q rfl rfl (q_load_box G rfl rfl rfl rfl rfl rfl rfl) (QL_cons rfl (?_)))))
  refine QX_q rfl rfl (q_call rfl (ArgsOK.of rfl) (c_spec_l1Num _ (by omega) (by omega)) rfl) ?_
  refine QL_cons rfl (?_)
  refine QX_q rfl rfl (q_cat rfl rfl rfl (by simp only [ByteArray.size_append, size_lit, List.size_toArray, List.length_cons, List.length_nil]; omega)) ?_
  refine QL_cons rfl (?_)
  refine QX_q rfl rfl (q_cat rfl rfl rfl (by simp only [ByteArray.size_append, size_lit, List.size_toArray, List.length_cons, List.length_nil]; omega)) ?_
  refine QL_cons rfl (QX_q rfl rfl (q_field_ptr G rfl rfl rfl rfl) (QL_cons rfl (QX_q rfl rfl (q_load_box G rfl rfl rfl rfl rfl rfl rfl) (QL_cons rfl (?_)))))
  refine QX_q rfl rfl (q_call rfl (ArgsOK.of rfl) (c_spec_l1Num _ (by omega) (by omega)) rfl) ?_
  refine QL_cons rfl (?_)
  refine QX_q rfl rfl (q_cat rfl rfl rfl (by simp only [ByteArray.size_append, size_lit, List.size_toArray, List.length_cons, List.length_nil]; omega)) ?_
  refine QL_cons rfl (?_)
  refine QX_q rfl rfl (q_cat rfl rfl rfl (by simp only [ByteArray.size_append, size_lit, List.size_toArray, List.length_cons, List.length_nil]; omega)) ?_
  refine QL_cons rfl (QX_q rfl rfl (q_field_ptr G rfl rfl rfl rfl) (QL_cons rfl (QX_q rfl rfl (q_load_box G rfl rfl rfl rfl rfl rfl rfl) (QL_cons rfl (?_)))))
  refine QX_q rfl rfl (q_call rfl (ArgsOK.of rfl) (c_spec_l1Num _ (by omega) (by omega)) rfl) ?_
  refine QL_cons rfl (?_)
  refine QX_q rfl rfl (q_cat rfl rfl rfl (by simp only [ByteArray.size_append, size_lit, List.size_toArray, List.length_cons, List.length_nil]; omega)) ?_
  refine QL_cons rfl (QX_q rfl rfl (q_assign rfl rfl) (?_))
  refine QL_nil (hK2 _ ?_)
  clear hK2 K2
  refine W_seq (fun K3 hK3 => ?_)
  refine W_seq (fun K4 hK4 => ?_)
  refine W_region (WL_cons rfl (WX_q rfl rfl (q_field_ptr G rfl rfl rfl rfl) (WL_cons rfl (WX_q rfl rfl (q_load_box G rfl rfl rfl rfl rfl rfl rfl) (?_)))))
  refine WL_nil (hK4 _ ?_)
  clear hK4 K4
  refine W_cond rfl (fun h1 => ?_) (fun h1 => ?_)
  · try rw [h1]
    try simp only [decide_eq_true_eq, decide_eq_false_iff_not, beq_iff_eq, bne_iff_ne, ne_eq, Bool.not_eq_true', Bool.not_eq_false', beq_eq_false_iff_ne, bne_eq_false_iff_eq, Bool.not_eq_true, Bool.not_eq_false, Int.not_lt, Int.not_le, gt_iff_lt, ge_iff_le, Bool.and_eq_true, Bool.and_eq_false_iff, Bool.or_eq_true, Bool.or_eq_false_iff] at h1
    refine W_seq (fun K5 hK5 => ?_)
    refine W_region (WL_cons rfl (WX_q rfl rfl (q_move rfl rfl) (WL_cons rfl (?_))))
    refine WX_q rfl rfl (q_cat rfl rfl rfl (by simp only [ByteArray.size_append, size_lit, List.size_toArray, List.length_cons, List.length_nil]; omega)) ?_
    refine WL_cons rfl (WX_q rfl rfl (q_assign rfl rfl) (?_))
    refine WL_nil (hK5 _ ?_)
    clear hK5 K5
    refine W_ret (fin_one rfl (rc_v ?_))
    all_goals clear hK3 K3
    all_goals ((simp only [setT, setT0]; simp_all))
  · try rw [h1]
    try simp only [decide_eq_true_eq, decide_eq_false_iff_not, beq_iff_eq, bne_iff_ne, ne_eq, Bool.not_eq_true', Bool.not_eq_false', beq_eq_false_iff_ne, bne_eq_false_iff_eq, Bool.not_eq_true, Bool.not_eq_false, Int.not_lt, Int.not_le, gt_iff_lt, ge_iff_le, Bool.and_eq_true, Bool.and_eq_false_iff, Bool.or_eq_true, Bool.or_eq_false_iff] at h1
    refine W_skip (hK3 _ ?_)
    clear hK3 K3
    refine W_seq (fun K6 hK6 => ?_)
    refine W_region (WL_cons rfl (WX_q rfl rfl (q_move rfl rfl) (WL_cons rfl (WX_q rfl rfl (q_assign rfl rfl) (?_)))))
    refine WL_nil (hK6 _ ?_)
    clear hK6 K6
    refine W_ret (fin_one rfl (rc_v ?_))
    all_goals ((simp only [setT, setT0]; simp_all))

theorem c_impl_settingText (x : Setting) (hs : isSet x = true) : Ctr Tryd.prog 33 [.v (encT x)] (.one (.v (.string (setT x)))) := by
  have ho := isSet_ok hs
  have z1 := numT_size (n := x.g) (by omega) (by omega)
  have z2 := numT_size (n := x.c) (by omega) (by omega)
  have z3 := numT_size (n := x.f) (by omega) (by omega)
  have z4 := numT_size (n := x.w) (by omega) (by omega)
  refine Ctr.of (n := 32) G Tryd.func33 rfl (by kernel_rfl) rfl rfl rfl (fun w0 => ?_)
  refine W_seq (fun K1 hK1 => ?_)
  refine W_region (WL_cons rfl (WX_box 1 rfl rfl rfl rfl rfl rfl rfl (WL_cons rfl (WX_q rfl rfl (q_assign rfl rfl) (?_)))))
  refine WL_nil (hK1 _ ?_)
  clear hK1 K1
  refine W_seq (fun K2 hK2 => ?_)
  refine W_draws mixed (by kernel_rfl) (QL_cons rfl (QX_q rfl rfl (q_field_ptr G rfl rfl rfl rfl) (QL_cons rfl (QX_q rfl rfl (q_load_box G rfl rfl rfl rfl rfl rfl rfl) (QL_cons rfl (?_))))))
  refine QX_q rfl rfl (q_call rfl (ArgsOK.of rfl) (c_strconv_Itoa _ (by omega) (by omega)) rfl) ?_
  refine QL_cons rfl (?_)
  refine QX_q rfl rfl (q_cat rfl rfl rfl (by simp only [ByteArray.size_append, size_lit, List.size_toArray, List.length_cons, List.length_nil]; omega)) ?_
  refine QL_cons rfl (?_)
  refine QX_q rfl rfl (q_cat rfl rfl rfl (by simp only [ByteArray.size_append, size_lit, List.size_toArray, List.length_cons, List.length_nil]; omega)) ?_
  refine QL_cons rfl (QX_q rfl rfl (q_field_ptr G rfl rfl rfl rfl) (QL_cons rfl (QX_q rfl rfl (q_load_box G rfl rfl rfl rfl rfl rfl rfl) (QL_cons rfl (?_)))))
  refine QX_q rfl rfl (q_cat rfl rfl rfl (by simp only [ByteArray.size_append, size_lit, List.size_toArray, List.length_cons, List.length_nil]; omega)) ?_
  refine QL_cons rfl (?_)
  refine QX_q rfl rfl (q_cat rfl rfl rfl (by simp only [ByteArray.size_append, size_lit, List.size_toArray, List.length_cons, List.length_nil]; omega)) ?_
  refine QL_cons rfl (QX_q rfl rfl (q_field_ptr G rfl rfl rfl rfl) (QL_cons rfl (QX_q rfl rfl (q_load_box G rfl rfl rfl rfl rfl rfl rfl) (QL_cons rfl (?_)))))
  refine QX_q rfl rfl (q_call rfl (ArgsOK.of rfl) (c_strconv_Itoa _ (by omega) (by omega)) rfl) ?_
  refine QL_cons rfl (?_)
  refine QX_q rfl rfl (q_cat rfl rfl rfl (by simp only [ByteArray.size_append, size_lit, List.size_toArray, List.length_cons, List.length_nil]; omega)) ?_
  refine QL_cons rfl (?_)
  refine QX_q rfl rfl (q_cat rfl rfl rfl (by simp only [ByteArray.size_append, size_lit, List.size_toArray, List.length_cons, List.length_nil]; omega)) ?_
  refine QL_cons rfl (QX_q rfl rfl (q_field_ptr G rfl rfl rfl rfl) (QL_cons rfl (QX_q rfl rfl (q_load_box G rfl rfl rfl rfl rfl rfl rfl) (QL_cons rfl (?_)))))
  refine QX_q rfl rfl (q_call rfl (ArgsOK.of rfl) (c_strconv_Itoa _ (by omega) (by omega)) rfl) ?_
  refine QL_cons rfl (?_)
  refine QX_q rfl rfl (q_cat rfl rfl rfl (by simp only [ByteArray.size_append, size_lit, List.size_toArray, List.length_cons, List.length_nil]; omega)) ?_
  refine QL_cons rfl (?_)
  refine QX_q rfl rfl (q_cat rfl rfl rfl (by simp only [ByteArray.size_append, size_lit, List.size_toArray, List.length_cons, List.length_nil]; omega)) ?_
  refine QL_cons rfl (QX_q rfl rfl (q_field_ptr G rfl rfl rfl rfl) (QL_cons rfl (QX_q rfl rfl (q_load_box G rfl rfl rfl rfl rfl rfl rfl) (QL_cons rfl (?_)))))
  refine QX_q rfl rfl (q_call rfl (ArgsOK.of rfl) (c_strconv_Itoa _ (by omega) (by omega)) rfl) ?_
  refine QL_cons rfl (?_)
  refine QX_q rfl rfl (q_cat rfl rfl rfl (by simp only [ByteArray.size_append, size_lit, List.size_toArray, List.length_cons, List.length_nil]; omega)) ?_
  refine QL_cons rfl (QX_q rfl rfl (q_assign rfl rfl) (?_))
  refine QL_nil (hK2 _ ?_)
  clear hK2 K2
  refine W_seq (fun K3 hK3 => ?_)
  refine W_seq (fun K4 hK4 => ?_)
  refine W_region (WL_cons rfl (WX_q rfl rfl (q_field_ptr G rfl rfl rfl rfl) (WL_cons rfl (WX_q rfl rfl (q_load_box G rfl rfl rfl rfl rfl rfl rfl) (?_)))))
  refine WL_nil (hK4 _ ?_)
  clear hK4 K4
  refine W_cond rfl (fun h1 => ?_) (fun h1 => ?_)
  · try rw [h1]
    try simp only [decide_eq_true_eq, decide_eq_false_iff_not, beq_iff_eq, bne_iff_ne, ne_eq, Bool.not_eq_true', Bool.not_eq_false', beq_eq_false_iff_ne, bne_eq_false_iff_eq, Bool.not_eq_true, Bool.not_eq_false, Int.not_lt, Int.not_le, gt_iff_lt, ge_iff_le, Bool.and_eq_true, Bool.and_eq_false_iff, Bool.or_eq_true, Bool.or_eq_false_iff] at h1
    refine W_region (WL_cons rfl (WX_q rfl rfl (q_move rfl rfl) (WL_cons rfl (?_))))
    refine WX_q rfl rfl (q_cat rfl rfl rfl (by simp only [ByteArray.size_append, size_lit, List.size_toArray, List.length_cons, List.length_nil]; omega)) ?_
    refine WL_cons rfl (WX_q rfl rfl (q_assign rfl rfl) (?_))
    refine WL_nil (hK3 _ ?_)
    clear hK3 K3
    refine W_seq (fun K5 hK5 => ?_)
    refine W_region (WL_cons rfl (WX_q rfl rfl (q_move rfl rfl) (WL_cons rfl (WX_q rfl rfl (q_assign rfl rfl) (?_)))))
    refine WL_nil (hK5 _ ?_)
    clear hK5 K5
    refine W_ret (fin_one rfl (rc_v ?_))
    all_goals ((simp only [setT, setT0]; simp_all))
  · try rw [h1]
    try simp only [decide_eq_true_eq, decide_eq_false_iff_not, beq_iff_eq, bne_iff_ne, ne_eq, Bool.not_eq_true', Bool.not_eq_false', beq_eq_false_iff_ne, bne_eq_false_iff_eq, Bool.not_eq_true, Bool.not_eq_false, Int.not_lt, Int.not_le, gt_iff_lt, ge_iff_le, Bool.and_eq_true, Bool.and_eq_false_iff, Bool.or_eq_true, Bool.or_eq_false_iff] at h1
    refine W_skip (hK3 _ ?_)
    clear hK3 K3
    refine W_seq (fun K6 hK6 => ?_)
    refine W_region (WL_cons rfl (WX_q rfl rfl (q_move rfl rfl) (WL_cons rfl (WX_q rfl rfl (q_assign rfl rfl) (?_)))))
    refine WL_nil (hK6 _ ?_)
    clear hK6 K6
    refine W_ret (fin_one rfl (rc_v ?_))
    all_goals ((simp only [setT, setT0]; simp_all))

theorem c_spec_SettingText (x : Setting) (hs : x.n.size ≤ 9223372036854775807) : Ctr Tryd.prog 9 [.v (encT x)] (.many [.v (.string (if isSet x then setT x else ⟨#[]⟩)), .v (.bool (isSet x))]) := by
  refine Ctr.of (n := 9) G Tryd.func9 rfl (by kernel_rfl) rfl rfl rfl (fun w0 => ?_)
  refine W_seq (fun K1 hK1 => ?_)
  refine W_region (WL_cons rfl (WX_box 1 rfl rfl rfl rfl rfl rfl rfl (WL_cons rfl (WX_q rfl rfl (q_assign rfl rfl) (WL_cons rfl (WX_q rfl rfl (q_assign rfl rfl) (?_)))))))
  refine WL_nil (hK1 _ ?_)
  clear hK1 K1
  refine W_seq (fun K2 hK2 => ?_)
  refine W_seq (fun K3 hK3 => ?_)
  refine W_region (WL_cons rfl (WX_q rfl rfl (q_load_box_struct G rfl rfl rfl rfl rfl rfl) (WL_cons rfl (?_))))
  refine WX_q rfl rfl (q_call rfl (ArgsOK.of rfl) (c_spec_l24One _ (by first | assumption | omega)) rfl) ?_
  refine WL_cons rfl (WX_q rfl rfl (q_not rfl rfl) (?_))
  refine WL_nil (hK3 _ ?_)
  clear hK3 K3
  refine W_cond rfl (fun h1 => ?_) (fun h1 => ?_)
  · try rw [h1]
    try simp only [decide_eq_true_eq, decide_eq_false_iff_not, beq_iff_eq, bne_iff_ne, ne_eq, Bool.not_eq_true', Bool.not_eq_false', beq_eq_false_iff_ne, bne_eq_false_iff_eq, Bool.not_eq_true, Bool.not_eq_false, Int.not_lt, Int.not_le, gt_iff_lt, ge_iff_le, Bool.and_eq_true, Bool.and_eq_false_iff, Bool.or_eq_true, Bool.or_eq_false_iff] at h1
    refine W_seq (fun K4 hK4 => ?_)
    refine W_region (WL_cons rfl (WX_q rfl rfl (q_assign rfl rfl) (WL_cons rfl (WX_q rfl rfl (q_assign rfl rfl) (?_)))))
    refine WL_nil (hK4 _ ?_)
    clear hK4 K4
    refine W_ret (fin_many rfl rfl rfl rfl (rcs_cons (rc_v ?_) (rcs_cons (rc_v ?_) rcs_nil)))
    all_goals clear hK2 K2
    all_goals (first | rfl | (simp_all; done))
  · try rw [h1]
    try simp only [decide_eq_true_eq, decide_eq_false_iff_not, beq_iff_eq, bne_iff_ne, ne_eq, Bool.not_eq_true', Bool.not_eq_false', beq_eq_false_iff_ne, bne_eq_false_iff_eq, Bool.not_eq_true, Bool.not_eq_false, Int.not_lt, Int.not_le, gt_iff_lt, ge_iff_le, Bool.and_eq_true, Bool.and_eq_false_iff, Bool.or_eq_true, Bool.or_eq_false_iff] at h1
    refine W_skip (hK2 _ ?_)
    clear hK2 K2
    refine W_seq (fun K5 hK5 => ?_)
    refine W_region (WL_cons rfl (WX_q rfl rfl (q_load_box_struct G rfl rfl rfl rfl rfl rfl) (WL_cons rfl (?_))))
    refine WX_q rfl rfl (q_call rfl (ArgsOK.of rfl) (c_spec_l24Text _ (by assumption)) rfl) ?_
    refine WL_cons rfl (WX_q rfl rfl (q_assign rfl rfl) (WL_cons rfl (WX_q rfl rfl (q_assign rfl rfl) (?_))))
    refine WL_nil (hK5 _ ?_)
    clear hK5 K5
    refine W_ret (fin_many rfl rfl rfl rfl (rcs_cons (rc_v ?_) (rcs_cons (rc_v ?_) rcs_nil)))
    all_goals (first | rfl | (simp_all; done))

theorem c_impl_SettingText (x : Setting) (hs : x.n.size ≤ 9223372036854775807) : Ctr Tryd.prog 11 [.v (encT x)] (.many [.v (.string (if isSet x then setT x else ⟨#[]⟩)), .v (.bool (isSet x))]) := by
  refine Ctr.of (n := 9) G Tryd.func11 rfl (by kernel_rfl) rfl rfl rfl (fun w0 => ?_)
  refine W_seq (fun K1 hK1 => ?_)
  refine W_region (WL_cons rfl (WX_box 1 rfl rfl rfl rfl rfl rfl rfl (WL_cons rfl (WX_q rfl rfl (q_assign rfl rfl) (WL_cons rfl (WX_q rfl rfl (q_assign rfl rfl) (?_)))))))
  refine WL_nil (hK1 _ ?_)
  clear hK1 K1
  refine W_seq (fun K2 hK2 => ?_)
  refine W_seq (fun K3 hK3 => ?_)
  refine W_region (WL_cons rfl (WX_q rfl rfl (q_load_box_struct G rfl rfl rfl rfl rfl rfl) (WL_cons rfl (?_))))
  refine WX_q rfl rfl (q_call rfl (ArgsOK.of rfl) (c_impl_IsSetting _ (by first | assumption | omega)) rfl) ?_
  refine WL_cons rfl (WX_q rfl rfl (q_not rfl rfl) (?_))
  refine WL_nil (hK3 _ ?_)
  clear hK3 K3
  refine W_cond rfl (fun h1 => ?_) (fun h1 => ?_)
  · try rw [h1]
    try simp only [decide_eq_true_eq, decide_eq_false_iff_not, beq_iff_eq, bne_iff_ne, ne_eq, Bool.not_eq_true', Bool.not_eq_false', beq_eq_false_iff_ne, bne_eq_false_iff_eq, Bool.not_eq_true, Bool.not_eq_false, Int.not_lt, Int.not_le, gt_iff_lt, ge_iff_le, Bool.and_eq_true, Bool.and_eq_false_iff, Bool.or_eq_true, Bool.or_eq_false_iff] at h1
    refine W_seq (fun K4 hK4 => ?_)
    refine W_region (WL_cons rfl (WX_q rfl rfl (q_assign rfl rfl) (WL_cons rfl (WX_q rfl rfl (q_assign rfl rfl) (?_)))))
    refine WL_nil (hK4 _ ?_)
    clear hK4 K4
    refine W_ret (fin_many rfl rfl rfl rfl (rcs_cons (rc_v ?_) (rcs_cons (rc_v ?_) rcs_nil)))
    all_goals clear hK2 K2
    all_goals (first | rfl | (simp_all; done))
  · try rw [h1]
    try simp only [decide_eq_true_eq, decide_eq_false_iff_not, beq_iff_eq, bne_iff_ne, ne_eq, Bool.not_eq_true', Bool.not_eq_false', beq_eq_false_iff_ne, bne_eq_false_iff_eq, Bool.not_eq_true, Bool.not_eq_false, Int.not_lt, Int.not_le, gt_iff_lt, ge_iff_le, Bool.and_eq_true, Bool.and_eq_false_iff, Bool.or_eq_true, Bool.or_eq_false_iff] at h1
    refine W_skip (hK2 _ ?_)
    clear hK2 K2
    refine W_seq (fun K5 hK5 => ?_)
    refine W_region (WL_cons rfl (WX_q rfl rfl (q_load_box_struct G rfl rfl rfl rfl rfl rfl) (WL_cons rfl (?_))))
    refine WX_q rfl rfl (q_call rfl (ArgsOK.of rfl) (c_impl_settingText _ (by assumption)) rfl) ?_
    refine WL_cons rfl (WX_q rfl rfl (q_assign rfl rfl) (WL_cons rfl (WX_q rfl rfl (q_assign rfl rfl) (?_))))
    refine WL_nil (hK5 _ ?_)
    clear hK5 K5
    refine W_ret (fin_many rfl rfl rfl rfl (rcs_cons (rc_v ?_) (rcs_cons (rc_v ?_) rcs_nil)))
    all_goals (first | rfl | (simp_all; done))

theorem c_laws_FnExactSettingText (x : Setting) (h0 : x.n.size ≤ 9223372036854775807) : Ctr Tryd.prog 3 [.v (encT x)] (.one (.v (.bool true))) := by
  refine Ctr.of (n := 33) G Tryd.func3 rfl (by kernel_rfl) rfl rfl rfl (fun w0 => ?_)
  refine W_seq (fun K1 hK1 => ?_)
  refine W_region (WL_cons rfl (WX_box 1 rfl rfl rfl rfl rfl rfl rfl (WL_cons rfl (WX_q rfl rfl (q_assign rfl rfl) (?_)))))
  refine WL_nil (hK1 _ ?_)
  clear hK1 K1
  refine W_seq (fun K2 hK2 => ?_)
  refine W_region (WL_cons rfl (WX_q rfl rfl (q_assign rfl rfl) (?_)))
  refine WL_nil (hK2 _ ?_)
  clear hK2 K2
  refine W_seq (fun K3 hK3 => ?_)
  refine W_region (WL_cons rfl (WX_q rfl rfl (q_load_box_struct G rfl rfl rfl rfl rfl rfl) (WL_cons rfl (WX_q rfl rfl (q_move rfl rfl) (WL_cons rfl (?_))))))
  refine WX_q rfl rfl (q_call rfl (ArgsOK.of rfl) (c_laws_szSetting _ _ (by first | assumption | omega) (by first | assumption | omega)) rfl) ?_
  refine WL_cons rfl (WX_q rfl rfl (q_assign rfl rfl) (?_))
  refine WL_nil (hK3 _ ?_)
  clear hK3 K3
  refine W_seq (fun K4 hK4 => ?_)
  refine W_seq (fun K5 hK5 => ?_)
  refine W_region (WL_cons rfl (WX_q rfl rfl (q_move rfl rfl) (WL_cons rfl (WX_q rfl rfl (q_cmp rfl rfl rfl rfl) (?_)))))
  refine WL_nil (hK5 _ ?_)
  clear hK5 K5
  refine W_cond rfl (fun h1 => ?_) (fun h1 => ?_)
  · try rw [h1]
    try simp only [decide_eq_true_eq, decide_eq_false_iff_not, beq_iff_eq, bne_iff_ne, ne_eq, Bool.not_eq_true', Bool.not_eq_false', beq_eq_false_iff_ne, bne_eq_false_iff_eq, Bool.not_eq_true, Bool.not_eq_false, Int.not_lt, Int.not_le, gt_iff_lt, ge_iff_le, Bool.and_eq_true, Bool.and_eq_false_iff, Bool.or_eq_true, Bool.or_eq_false_iff] at h1
    refine W_seq (fun K6 hK6 => ?_)
    refine W_region (WL_cons rfl (WX_q rfl rfl (q_assign rfl rfl) (?_)))
    refine WL_nil (hK6 _ ?_)
    clear hK6 K6
    refine W_ret (fin_one rfl (rc_v ?_))
    all_goals clear hK4 K4
    all_goals ((first | rfl | (simp_all; done) | (simp_all; omega)))
  · try rw [h1]
    try simp only [decide_eq_true_eq, decide_eq_false_iff_not, beq_iff_eq, bne_iff_ne, ne_eq, Bool.not_eq_true', Bool.not_eq_false', beq_eq_false_iff_ne, bne_eq_false_iff_eq, Bool.not_eq_true, Bool.not_eq_false, Int.not_lt, Int.not_le, gt_iff_lt, ge_iff_le, Bool.and_eq_true, Bool.and_eq_false_iff, Bool.or_eq_true, Bool.or_eq_false_iff] at h1
    refine W_skip (hK4 _ ?_)
    clear hK4 K4
    refine W_seq (fun K7 hK7 => ?_)
    refine W_region (WL_cons rfl (WX_q rfl rfl (q_load_box_struct G rfl rfl rfl rfl rfl rfl) (WL_cons rfl (?_))))
    refine WX_q rfl rfl (q_call rfl (ArgsOK.of rfl) (c_laws_toSetting _) rfl) ?_
    refine WL_cons rfl (?_)
    refine WX_q rfl rfl (q_call rfl (ArgsOK.of rfl) (c_spec_SettingText _ (by assumption)) rfl) ?_
    refine WL_cons rfl (WX_q rfl rfl (q_move rfl rfl) (WL_cons rfl (WX_q rfl rfl (q_extract rfl rfl rfl) (WL_cons rfl (WX_q rfl rfl (q_extract rfl rfl rfl) (WL_cons rfl (WX_q rfl rfl (q_assign rfl rfl) (WL_cons rfl (WX_q rfl rfl (q_assign rfl rfl) (?_))))))))))
    refine WL_nil (hK7 _ ?_)
    clear hK7 K7
    refine W_seq (fun K8 hK8 => ?_)
    refine W_region (WL_cons rfl (WX_q rfl rfl (q_load_box_struct G rfl rfl rfl rfl rfl rfl) (WL_cons rfl (?_))))
    refine WX_q rfl rfl (q_call rfl (ArgsOK.of rfl) (c_laws_toSetting _) rfl) ?_
    refine WL_cons rfl (?_)
    refine WX_q rfl rfl (q_call rfl (ArgsOK.of rfl) (c_impl_SettingText _ (by assumption)) rfl) ?_
    refine WL_cons rfl (WX_q rfl rfl (q_move rfl rfl) (WL_cons rfl (WX_q rfl rfl (q_extract rfl rfl rfl) (WL_cons rfl (WX_q rfl rfl (q_extract rfl rfl rfl) (WL_cons rfl (WX_q rfl rfl (q_assign rfl rfl) (WL_cons rfl (WX_q rfl rfl (q_assign rfl rfl) (?_))))))))))
    refine WL_nil (hK8 _ ?_)
    clear hK8 K8
    refine W_seq (fun K9 hK9 => ?_)
    refine W_seq (fun K10 hK10 => ?_)
    refine W_region (WL_cons rfl (WX_q rfl rfl (q_move rfl rfl) (WL_cons rfl (WX_q rfl rfl (q_move rfl rfl) (WL_cons rfl (WX_q rfl rfl (q_cmp_str rfl rfl rfl rfl) (WL_cons rfl (WX_q rfl rfl (q_move rfl rfl) (WL_part rfl rfl rfl (fun h2 => ?_) (fun h2 => ?_))))))))))
    · try rw [h2]
      try simp only [decide_eq_true_eq, decide_eq_false_iff_not, beq_iff_eq, bne_iff_ne, ne_eq, Bool.not_eq_true', Bool.not_eq_false', beq_eq_false_iff_ne, bne_eq_false_iff_eq, Bool.not_eq_true, Bool.not_eq_false, Int.not_lt, Int.not_le, gt_iff_lt, ge_iff_le, Bool.and_eq_true, Bool.and_eq_false_iff, Bool.or_eq_true, Bool.or_eq_false_iff] at h2
      refine WL_skip rfl rfl rfl rfl rfl rfl (WL_skip rfl rfl rfl rfl rfl rfl (WL_skip rfl rfl rfl rfl rfl rfl (WL_cons rfl (WX_q rfl rfl (q_pick_t rfl rfl rfl) (?_)))))
      refine WL_nil (hK10 _ ?_)
      clear hK10 K10
      refine W_true rfl ?_
      refine W_seq (fun K11 hK11 => ?_)
      refine W_region (WL_cons rfl (WX_q rfl rfl (q_assign rfl rfl) (?_)))
      refine WL_nil (hK11 _ ?_)
      clear hK11 K11
      refine W_ret (fin_one rfl (rc_v ?_))
      all_goals clear hK9 K9
      all_goals ((first | rfl | (simp_all; done) | (simp_all; omega)))
    · try rw [h2]
      try simp only [decide_eq_true_eq, decide_eq_false_iff_not, beq_iff_eq, bne_iff_ne, ne_eq, Bool.not_eq_true', Bool.not_eq_false', beq_eq_false_iff_ne, bne_eq_false_iff_eq, Bool.not_eq_true, Bool.not_eq_false, Int.not_lt, Int.not_le, gt_iff_lt, ge_iff_le, Bool.and_eq_true, Bool.and_eq_false_iff, Bool.or_eq_true, Bool.or_eq_false_iff] at h2
      refine WL_run rfl rfl rfl (WX_q rfl rfl (q_move rfl rfl) (WL_run rfl rfl rfl (WX_q rfl rfl (q_move rfl rfl) (WL_run rfl rfl rfl (WX_q rfl rfl (q_bne (G 4 _ rfl).1 rfl rfl rfl) (WL_cons rfl (WX_q rfl rfl (q_pick_f rfl rfl rfl) (?_))))))))
      refine WL_nil (hK10 _ ?_)
      clear hK10 K10
      refine W_cond rfl (fun h3 => ?_) (fun h3 => ?_)
      · try rw [h3]
        try simp only [decide_eq_true_eq, decide_eq_false_iff_not, beq_iff_eq, bne_iff_ne, ne_eq, Bool.not_eq_true', Bool.not_eq_false', beq_eq_false_iff_ne, bne_eq_false_iff_eq, Bool.not_eq_true, Bool.not_eq_false, Int.not_lt, Int.not_le, gt_iff_lt, ge_iff_le, Bool.and_eq_true, Bool.and_eq_false_iff, Bool.or_eq_true, Bool.or_eq_false_iff] at h3
        refine W_seq (fun K12 hK12 => ?_)
        refine W_region (WL_cons rfl (WX_q rfl rfl (q_assign rfl rfl) (?_)))
        refine WL_nil (hK12 _ ?_)
        clear hK12 K12
        refine W_ret (fin_one rfl (rc_v ?_))
        all_goals clear hK9 K9
        all_goals ((first | rfl | (simp_all; done) | (simp_all; omega)))
      · try rw [h3]
        try simp only [decide_eq_true_eq, decide_eq_false_iff_not, beq_iff_eq, bne_iff_ne, ne_eq, Bool.not_eq_true', Bool.not_eq_false', beq_eq_false_iff_ne, bne_eq_false_iff_eq, Bool.not_eq_true, Bool.not_eq_false, Int.not_lt, Int.not_le, gt_iff_lt, ge_iff_le, Bool.and_eq_true, Bool.and_eq_false_iff, Bool.or_eq_true, Bool.or_eq_false_iff] at h3
        refine W_skip (hK9 _ ?_)
        clear hK9 K9
        refine W_seq (fun K13 hK13 => ?_)
        refine W_region (WL_cons rfl (WX_q rfl rfl (q_assign rfl rfl) (?_)))
        refine WL_nil (hK13 _ ?_)
        clear hK13 K13
        refine W_ret (fin_one rfl (rc_v ?_))
        all_goals ((first | rfl | (simp_all; done) | (simp_all; omega)))

end Go.Proofs.YtehijimgenicfaaDoor

/- Walks through functions of the program, one contract each (written by gen.py). -/
set_option maxRecDepth 20000
set_option linter.unusedVariables false
set_option linter.unusedSimpArgs false
namespace Go.Proofs.YtehijimgenicfaaDoor
open Go Go.Rf

theorem c_spec_l1Cur_next (x : Cur) (h0 : 0 ≤ x.a ∧ x.a ≤ 4611686018427387904) (hc : bytesOK x.c) : CtrM Tryd.prog 65 [.ptr 0 0] [.box [.lst 1 (x.c.map encU), .v (.int .i64 x.a), .v (.int .u64 x.s)]] (.one (.v (.int .i64 (nxV x)))) [some (.box [.lst 1 ((nxC x).c.map encU), .v (.int .i64 (nxC x).a), .v (.int .u64 (nxC x).s)])] := by
  have hcl := hc.1
  have hcb := nxB_in hc
  refine CtrM.of (n := 62) (k := 1) G Tryd.func65 rfl (by kernel_rfl) rfl rfl rfl rfl rfl rfl rfl (fun w0 _ hpin => ?_)
  refine W_seq (fun K1 hK1 => ?_)
  refine W_region (WL_cons rfl (WX_q rfl rfl (q_assign rfl rfl) (?_)))
  refine WL_nil (hK1 _ ?_)
  clear hK1 K1
  refine W_pin (id := 0) rfl (fun y => ?_)
  refine W_seq (fun K2 hK2 => ?_)
  refine W_region (WL_cons rfl (WX_q rfl rfl (q_assign rfl rfl) (?_)))
  refine WL_nil (hK2 _ ?_)
  clear hK2 K2
  refine W_seq (fun K3 hK3 => ?_)
  refine W_seq (fun K4 hK4 => ?_)
  refine W_draws mixed (by kernel_rfl) (QL_cons rfl (QX_q rfl rfl (q_move rfl rfl) (QL_cons rfl (QX_q rfl rfl (q_nil_ptr rfl rfl) (QL_cons rfl (QX_q rfl rfl (q_field_ptr G rfl rfl rfl rfl) (QL_cons rfl (QX_q rfl rfl (q_load_box G rfl rfl rfl rfl rfl rfl rfl) (QL_cons rfl (QX_q rfl rfl (q_move rfl rfl) (QL_cons rfl (QX_q rfl rfl (q_nil_ptr rfl rfl) (QL_cons rfl (QX_q rfl rfl (q_field_ptr G rfl rfl rfl rfl) (QL_cons rfl (QX_q rfl rfl (q_load_box G rfl rfl rfl rfl rfl rfl rfl) (QL_cons rfl (?_))))))))))))))))))
  first | refine QX_q rfl rfl (q_len' G rfl rfl rfl rfl (List.length_map _)) ?_ | refine QX_q rfl rfl (q_len G rfl rfl rfl rfl) ?_
  refine QL_cons rfl (QX_q rfl rfl (q_cmp rfl rfl rfl rfl) (?_))
  refine QL_nil (hK4 _ ?_)
  clear hK4 K4
  refine W_cond rfl (fun h1 => ?_) (fun h1 => ?_)
  · try rw [h1]
    try simp only [decide_eq_true_eq, decide_eq_false_iff_not, beq_iff_eq, bne_iff_ne, ne_eq, Bool.not_eq_true', Bool.not_eq_false', beq_eq_false_iff_ne, bne_eq_false_iff_eq, Bool.not_eq_true, Bool.not_eq_false, Int.not_lt, Int.not_le, gt_iff_lt, ge_iff_le, Bool.and_eq_true, Bool.and_eq_false_iff, Bool.or_eq_true, Bool.or_eq_false_iff] at h1
    refine W_draws mixed (by kernel_rfl) (QL_cons rfl (QX_q rfl rfl (q_move rfl rfl) (QL_cons rfl (QX_q rfl rfl (q_nil_ptr rfl rfl) (QL_cons rfl (QX_q rfl rfl (q_field_ptr G rfl rfl rfl rfl) (QL_cons rfl (QX_q rfl rfl (q_load_box G rfl rfl rfl rfl rfl rfl rfl) (QL_cons rfl (QX_q rfl rfl (q_move rfl rfl) (QL_cons rfl (QX_q rfl rfl (q_nil_ptr rfl rfl) (QL_cons rfl (QX_q rfl rfl (q_field_ptr G rfl rfl rfl rfl) (QL_cons rfl (QX_q rfl rfl (q_load_box G rfl rfl rfl rfl rfl rfl rfl) (QL_cons rfl (?_))))))))))))))))))
    refine QX_q rfl rfl (q_index_pin G rfl rfl rfl rfl (by omega) (getNI (by omega) (by omega))) ?_
    refine QL_cons rfl (QX_q rfl rfl (q_load_ept G rfl rfl rfl rfl rfl) (QL_cons rfl (?_)))
    first | refine QX_q rfl rfl (q_conv_in G rfl rfl rfl rfl (by omega) (by omega)) ?_ | refine QX_q rfl rfl (q_conv G rfl rfl rfl rfl) ?_
    refine QL_cons rfl (QX_q rfl rfl (q_assign rfl rfl) (?_))
    refine QL_nil (hK3 _ ?_)
    clear hK3 K3
    try rw [show IntKind.i64.wrap (x.c.getD x.a.toNat default) = nxB x from by rw [nxB_t (by assumption)] at hcb ⊢; exact wrap_in (by omega) (by omega)]
    refine W_seq (fun K5 hK5 => ?_)
    refine W_region (WL_cons rfl (WX_q rfl rfl (q_move rfl rfl) (WL_cons rfl (WX_q rfl rfl (q_nil_ptr rfl rfl) (WL_cons rfl (WX_q rfl rfl (q_field_ptr G rfl rfl rfl rfl) (WL_cons rfl (WX_q rfl rfl (q_load_box G rfl rfl rfl rfl rfl rfl rfl) (WL_cons rfl (?_))))))))))
    first | refine WX_q rfl rfl (q_arith rfl rfl rfl rfl (by omega) (by omega)) ?_ | refine WX_q rfl rfl (q_wrap rfl rfl rfl rfl) ?_
    refine WL_cons rfl (WX_q rfl rfl (q_nil_ptr rfl rfl) (WL_cons rfl (WX_q rfl rfl (q_field_ptr G rfl rfl rfl rfl) (WL_cons rfl (WX_store G rfl rfl rfl rfl rfl rfl rfl rfl rfl rfl rfl (?_))))))
    refine WL_nil (hK5 _ ?_)
    clear hK5 K5
    refine W_seq (fun K6 hK6 => ?_)
    refine W_region (WL_cons rfl (WX_q rfl rfl (q_move rfl rfl) (WL_cons rfl (WX_q rfl rfl (q_move rfl rfl) (WL_cons rfl (WX_q rfl rfl (q_nil_ptr rfl rfl) (WL_cons rfl (WX_q rfl rfl (q_field_ptr G rfl rfl rfl rfl) (WL_cons rfl (WX_q rfl rfl (q_load_box G rfl rfl rfl rfl rfl rfl rfl) (WL_cons rfl (?_))))))))))))
    first | refine WX_q rfl rfl (q_arith rfl rfl rfl rfl (by omega) (by omega)) ?_ | refine WX_q rfl rfl (q_wrap rfl rfl rfl rfl) ?_
    refine WL_cons rfl (WX_q rfl rfl (q_move rfl rfl) (WL_cons rfl (WX_q rfl rfl (q_conv G rfl rfl rfl rfl) (WL_cons rfl (?_)))))
    first | refine WX_q rfl rfl (q_arith rfl rfl rfl rfl (by omega) (by omega)) ?_ | refine WX_q rfl rfl (q_wrap rfl rfl rfl rfl) ?_
    refine WL_cons rfl (?_)
    first | refine WX_q rfl rfl (q_arith rfl rfl rfl rfl (by omega) (by omega)) ?_ | refine WX_q rfl rfl (q_wrap rfl rfl rfl rfl) ?_
    refine WL_cons rfl (WX_q rfl rfl (q_nil_ptr rfl rfl) (WL_cons rfl (WX_q rfl rfl (q_field_ptr G rfl rfl rfl rfl) (WL_cons rfl (WX_store G rfl rfl rfl rfl rfl rfl rfl rfl rfl rfl rfl (?_))))))
    refine WL_nil (hK6 _ ?_)
    clear hK6 K6
    refine W_seq (fun K7 hK7 => ?_)
    refine W_seq (fun K8 hK8 => ?_)
    refine W_draws mixed (by kernel_rfl) (QL_cons rfl (QX_q rfl rfl (q_move rfl rfl) (QL_cons rfl (QX_q rfl rfl (q_nil_ptr rfl rfl) (QL_cons rfl (QX_q rfl rfl (q_field_ptr G rfl rfl rfl rfl) (QL_cons rfl (QX_q rfl rfl (q_load_box G rfl rfl rfl rfl rfl rfl rfl) (QL_cons rfl (QX_q rfl rfl (q_move rfl rfl) (QL_cons rfl (QX_q rfl rfl (q_nil_ptr rfl rfl) (QL_cons rfl (QX_q rfl rfl (q_field_ptr G rfl rfl rfl rfl) (QL_cons rfl (QX_q rfl rfl (q_load_box G rfl rfl rfl rfl rfl rfl rfl) (QL_cons rfl (?_))))))))))))))))))
    first | refine QX_q rfl rfl (q_len' G rfl rfl rfl rfl (List.length_map _)) ?_ | refine QX_q rfl rfl (q_len G rfl rfl rfl rfl) ?_
    refine QL_cons rfl (QX_q rfl rfl (q_cmp rfl rfl rfl rfl) (?_))
    refine QL_nil (hK8 _ ?_)
    clear hK8 K8
    refine W_cond rfl (fun h2 => ?_) (fun h2 => ?_)
    · try rw [h2]
      try simp only [decide_eq_true_eq, decide_eq_false_iff_not, beq_iff_eq, bne_iff_ne, ne_eq, Bool.not_eq_true', Bool.not_eq_false', beq_eq_false_iff_ne, bne_eq_false_iff_eq, Bool.not_eq_true, Bool.not_eq_false, Int.not_lt, Int.not_le, gt_iff_lt, ge_iff_le, Bool.and_eq_true, Bool.and_eq_false_iff, Bool.or_eq_true, Bool.or_eq_false_iff] at h2
      refine W_seq (fun K9 hK9 => ?_)
      refine W_region (WL_cons rfl (WX_q rfl rfl (q_move rfl rfl) (WL_cons rfl (WX_q rfl rfl (q_assign rfl rfl) (?_)))))
      refine WL_nil (hK9 _ ?_)
      clear hK9 K9
      refine W_unpin (id := 0) rfl ?_
      refine W_ret (finm_one rfl (rc_v ?_) rfl (AftOK.stays rfl ?_ rfl AftOK.nil))
      all_goals clear hK7 K7
      all_goals (first | (rw [nxV_t (by omega)]; done) | (exfalso; omega) | (simp only [nxC, nxS]; done) | (simp only [nxC, nxS, nxB_f (show ¬ x.a < (x.c.length : Int) by omega)]; done) | (rw [nxV_f (by omega)]; exact congrArg (Value.int .i64) (wrap_in (Int.le_trans (by decide) and_255.1) (Int.le_trans and_255.2 (by decide)))) | (rw [nxV_f (by omega)]; simp only [nxT, nxS, nxB_f (show ¬ x.a < (x.c.length : Int) by omega)]; exact congrArg (Value.int .i64) (wrap_in (Int.le_trans (by decide) and_255.1) (Int.le_trans and_255.2 (by decide)))))
    · try rw [h2]
      try simp only [decide_eq_true_eq, decide_eq_false_iff_not, beq_iff_eq, bne_iff_ne, ne_eq, Bool.not_eq_true', Bool.not_eq_false', beq_eq_false_iff_ne, bne_eq_false_iff_eq, Bool.not_eq_true, Bool.not_eq_false, Int.not_lt, Int.not_le, gt_iff_lt, ge_iff_le, Bool.and_eq_true, Bool.and_eq_false_iff, Bool.or_eq_true, Bool.or_eq_false_iff] at h2
      refine W_skip (hK7 _ ?_)
      clear hK7 K7
      refine W_seq (fun K10 hK10 => ?_)
      refine W_region (WL_cons rfl (WX_q rfl rfl (q_move rfl rfl) (WL_cons rfl (WX_q rfl rfl (q_nil_ptr rfl rfl) (WL_cons rfl (WX_q rfl rfl (q_field_ptr G rfl rfl rfl rfl) (WL_cons rfl (WX_q rfl rfl (q_load_box G rfl rfl rfl rfl rfl rfl rfl) (WL_cons rfl (WX_q rfl rfl (q_shr rfl rfl rfl (by decide)) (WL_cons rfl (WX_q rfl rfl (q_and rfl rfl rfl) (WL_cons rfl (WX_q rfl rfl (q_conv G rfl rfl rfl rfl) (WL_cons rfl (WX_q rfl rfl (q_assign rfl rfl) (?_)))))))))))))))))
      refine WL_nil (hK10 _ ?_)
      clear hK10 K10
      refine W_unpin (id := 0) rfl ?_
      refine W_ret (finm_one rfl (rc_v ?_) rfl (AftOK.stays rfl ?_ rfl AftOK.nil))
      all_goals (first | (rw [nxV_t (by omega)]; done) | (exfalso; omega) | (simp only [nxC, nxS]; done) | (simp only [nxC, nxS, nxB_f (show ¬ x.a < (x.c.length : Int) by omega)]; done) | (rw [nxV_f (by omega)]; exact congrArg (Value.int .i64) (wrap_in (Int.le_trans (by decide) and_255.1) (Int.le_trans and_255.2 (by decide)))) | (rw [nxV_f (by omega)]; simp only [nxT, nxS, nxB_f (show ¬ x.a < (x.c.length : Int) by omega)]; exact congrArg (Value.int .i64) (wrap_in (Int.le_trans (by decide) and_255.1) (Int.le_trans and_255.2 (by decide)))))
  · try rw [h1]
    try simp only [decide_eq_true_eq, decide_eq_false_iff_not, beq_iff_eq, bne_iff_ne, ne_eq, Bool.not_eq_true', Bool.not_eq_false', beq_eq_false_iff_ne, bne_eq_false_iff_eq, Bool.not_eq_true, Bool.not_eq_false, Int.not_lt, Int.not_le, gt_iff_lt, ge_iff_le, Bool.and_eq_true, Bool.and_eq_false_iff, Bool.or_eq_true, Bool.or_eq_false_iff] at h1
    refine W_skip (hK3 _ ?_)
    clear hK3 K3
    try rw [show IntKind.i64.wrap (x.c.getD x.a.toNat default) = nxB x from by rw [nxB_t (by assumption)] at hcb ⊢; exact wrap_in (by omega) (by omega)]
    refine W_seq (fun K11 hK11 => ?_)
    refine W_region (WL_cons rfl (WX_q rfl rfl (q_move rfl rfl) (WL_cons rfl (WX_q rfl rfl (q_nil_ptr rfl rfl) (WL_cons rfl (WX_q rfl rfl (q_field_ptr G rfl rfl rfl rfl) (WL_cons rfl (WX_q rfl rfl (q_load_box G rfl rfl rfl rfl rfl rfl rfl) (WL_cons rfl (?_))))))))))
    first | refine WX_q rfl rfl (q_arith rfl rfl rfl rfl (by omega) (by omega)) ?_ | refine WX_q rfl rfl (q_wrap rfl rfl rfl rfl) ?_
    refine WL_cons rfl (WX_q rfl rfl (q_nil_ptr rfl rfl) (WL_cons rfl (WX_q rfl rfl (q_field_ptr G rfl rfl rfl rfl) (WL_cons rfl (WX_store G rfl rfl rfl rfl rfl rfl rfl rfl rfl rfl rfl (?_))))))
    refine WL_nil (hK11 _ ?_)
    clear hK11 K11
    refine W_seq (fun K12 hK12 => ?_)
    refine W_region (WL_cons rfl (WX_q rfl rfl (q_move rfl rfl) (WL_cons rfl (WX_q rfl rfl (q_move rfl rfl) (WL_cons rfl (WX_q rfl rfl (q_nil_ptr rfl rfl) (WL_cons rfl (WX_q rfl rfl (q_field_ptr G rfl rfl rfl rfl) (WL_cons rfl (WX_q rfl rfl (q_load_box G rfl rfl rfl rfl rfl rfl rfl) (WL_cons rfl (?_))))))))))))
    first | refine WX_q rfl rfl (q_arith rfl rfl rfl rfl (by omega) (by omega)) ?_ | refine WX_q rfl rfl (q_wrap rfl rfl rfl rfl) ?_
    refine WL_cons rfl (WX_q rfl rfl (q_move rfl rfl) (WL_cons rfl (WX_q rfl rfl (q_conv G rfl rfl rfl rfl) (WL_cons rfl (?_)))))
    first | refine WX_q rfl rfl (q_arith rfl rfl rfl rfl (by omega) (by omega)) ?_ | refine WX_q rfl rfl (q_wrap rfl rfl rfl rfl) ?_
    refine WL_cons rfl (?_)
    first | refine WX_q rfl rfl (q_arith rfl rfl rfl rfl (by omega) (by omega)) ?_ | refine WX_q rfl rfl (q_wrap rfl rfl rfl rfl) ?_
    refine WL_cons rfl (WX_q rfl rfl (q_nil_ptr rfl rfl) (WL_cons rfl (WX_q rfl rfl (q_field_ptr G rfl rfl rfl rfl) (WL_cons rfl (WX_store G rfl rfl rfl rfl rfl rfl rfl rfl rfl rfl rfl (?_))))))
    refine WL_nil (hK12 _ ?_)
    clear hK12 K12
    refine W_seq (fun K13 hK13 => ?_)
    refine W_seq (fun K14 hK14 => ?_)
    refine W_draws mixed (by kernel_rfl) (QL_cons rfl (QX_q rfl rfl (q_move rfl rfl) (QL_cons rfl (QX_q rfl rfl (q_nil_ptr rfl rfl) (QL_cons rfl (QX_q rfl rfl (q_field_ptr G rfl rfl rfl rfl) (QL_cons rfl (QX_q rfl rfl (q_load_box G rfl rfl rfl rfl rfl rfl rfl) (QL_cons rfl (QX_q rfl rfl (q_move rfl rfl) (QL_cons rfl (QX_q rfl rfl (q_nil_ptr rfl rfl) (QL_cons rfl (QX_q rfl rfl (q_field_ptr G rfl rfl rfl rfl) (QL_cons rfl (QX_q rfl rfl (q_load_box G rfl rfl rfl rfl rfl rfl rfl) (QL_cons rfl (?_))))))))))))))))))
    first | refine QX_q rfl rfl (q_len' G rfl rfl rfl rfl (List.length_map _)) ?_ | refine QX_q rfl rfl (q_len G rfl rfl rfl rfl) ?_
    refine QL_cons rfl (QX_q rfl rfl (q_cmp rfl rfl rfl rfl) (?_))
    refine QL_nil (hK14 _ ?_)
    clear hK14 K14
    refine W_cond rfl (fun h3 => ?_) (fun h3 => ?_)
    · try rw [h3]
      try simp only [decide_eq_true_eq, decide_eq_false_iff_not, beq_iff_eq, bne_iff_ne, ne_eq, Bool.not_eq_true', Bool.not_eq_false', beq_eq_false_iff_ne, bne_eq_false_iff_eq, Bool.not_eq_true, Bool.not_eq_false, Int.not_lt, Int.not_le, gt_iff_lt, ge_iff_le, Bool.and_eq_true, Bool.and_eq_false_iff, Bool.or_eq_true, Bool.or_eq_false_iff] at h3
      refine W_seq (fun K15 hK15 => ?_)
      refine W_region (WL_cons rfl (WX_q rfl rfl (q_move rfl rfl) (WL_cons rfl (WX_q rfl rfl (q_assign rfl rfl) (?_)))))
      refine WL_nil (hK15 _ ?_)
      clear hK15 K15
      refine W_unpin (id := 0) rfl ?_
      refine W_ret (finm_one rfl (rc_v ?_) rfl (AftOK.stays rfl ?_ rfl AftOK.nil))
      all_goals clear hK13 K13
      all_goals (first | (rw [nxV_t (by omega)]; done) | (exfalso; omega) | (simp only [nxC, nxS]; done) | (simp only [nxC, nxS, nxB_f (show ¬ x.a < (x.c.length : Int) by omega)]; done) | (rw [nxV_f (by omega)]; exact congrArg (Value.int .i64) (wrap_in (Int.le_trans (by decide) and_255.1) (Int.le_trans and_255.2 (by decide)))) | (rw [nxV_f (by omega)]; simp only [nxT, nxS, nxB_f (show ¬ x.a < (x.c.length : Int) by omega)]; exact congrArg (Value.int .i64) (wrap_in (Int.le_trans (by decide) and_255.1) (Int.le_trans and_255.2 (by decide)))))
    · try rw [h3]
      try simp only [decide_eq_true_eq, decide_eq_false_iff_not, beq_iff_eq, bne_iff_ne, ne_eq, Bool.not_eq_true', Bool.not_eq_false', beq_eq_false_iff_ne, bne_eq_false_iff_eq, Bool.not_eq_true, Bool.not_eq_false, Int.not_lt, Int.not_le, gt_iff_lt, ge_iff_le, Bool.and_eq_true, Bool.and_eq_false_iff, Bool.or_eq_true, Bool.or_eq_false_iff] at h3
      refine W_skip (hK13 _ ?_)
      clear hK13 K13
      refine W_seq (fun K16 hK16 => ?_)
      refine W_region (WL_cons rfl (WX_q rfl rfl (q_move rfl rfl) (WL_cons rfl (WX_q rfl rfl (q_nil_ptr rfl rfl) (WL_cons rfl (WX_q rfl rfl (q_field_ptr G rfl rfl rfl rfl) (WL_cons rfl (WX_q rfl rfl (q_load_box G rfl rfl rfl rfl rfl rfl rfl) (WL_cons rfl (WX_q rfl rfl (q_shr rfl rfl rfl (by decide)) (WL_cons rfl (WX_q rfl rfl (q_and rfl rfl rfl) (WL_cons rfl (WX_q rfl rfl (q_conv G rfl rfl rfl rfl) (WL_cons rfl (WX_q rfl rfl (q_assign rfl rfl) (?_)))))))))))))))))
      refine WL_nil (hK16 _ ?_)
      clear hK16 K16
      refine W_unpin (id := 0) rfl ?_
      refine W_ret (finm_one rfl (rc_v ?_) rfl (AftOK.stays rfl ?_ rfl AftOK.nil))
      all_goals (first | (rw [nxV_t (by omega)]; done) | (exfalso; omega) | (simp only [nxC, nxS]; done) | (simp only [nxC, nxS, nxB_f (show ¬ x.a < (x.c.length : Int) by omega)]; done) | (rw [nxV_f (by omega)]; exact congrArg (Value.int .i64) (wrap_in (Int.le_trans (by decide) and_255.1) (Int.le_trans and_255.2 (by decide)))) | (rw [nxV_f (by omega)]; simp only [nxT, nxS, nxB_f (show ¬ x.a < (x.c.length : Int) by omega)]; exact congrArg (Value.int .i64) (wrap_in (Int.le_trans (by decide) and_255.1) (Int.le_trans and_255.2 (by decide)))))

theorem c_spec_l1Cur_pick (x : Cur) (n : Int) (h0 : 0 ≤ x.a ∧ x.a ≤ 4611686018427387000) (hc : bytesOK x.c) : CtrM Tryd.prog 46 [.ptr 0 0, .v (.int .i64 n)] [.box [.lst 1 (x.c.map encU), .v (.int .i64 x.a), .v (.int .u64 x.s)]] (.one (.v (.int .i64 (pkV x n)))) [some (.box [.lst 1 ((pkC x n).c.map encU), .v (.int .i64 (pkC x n).a), .v (.int .u64 (pkC x n).s)])] := by
  have hv1 := nxV_in hc
  have hv2 := nxV_in (x := nxC x) hc
  have ha1 : (nxC x).a = x.a + 1 := rfl
  refine CtrM.of (n := 20) (k := 1) G Tryd.func46 rfl (by kernel_rfl) rfl rfl rfl rfl rfl rfl rfl (fun w0 _ hpin => ?_)
  refine W_seq (fun K1 hK1 => ?_)
  refine W_region (WL_cons rfl (WX_q rfl rfl (q_assign rfl rfl) (?_)))
  refine WL_nil (hK1 _ ?_)
  clear hK1 K1
  refine W_seq (fun K2 hK2 => ?_)
  refine W_seq (fun K3 hK3 => ?_)
  refine W_region (WL_cons rfl (WX_q rfl rfl (q_move rfl rfl) (WL_cons rfl (WX_q rfl rfl (q_cmp rfl rfl rfl rfl) (?_)))))
  refine WL_nil (hK3 _ ?_)
  clear hK3 K3
  refine W_cond rfl (fun h1 => ?_) (fun h1 => ?_)
  · try rw [h1]
    try simp only [decide_eq_true_eq, decide_eq_false_iff_not, beq_iff_eq, bne_iff_ne, ne_eq, Bool.not_eq_true', Bool.not_eq_false', beq_eq_false_iff_ne, bne_eq_false_iff_eq, Bool.not_eq_true, Bool.not_eq_false, Int.not_lt, Int.not_le, gt_iff_lt, ge_iff_le, Bool.and_eq_true, Bool.and_eq_false_iff, Bool.or_eq_true, Bool.or_eq_false_iff] at h1
    have hO := pk_1 (x := x) h1
    refine W_seq (fun K4 hK4 => ?_)
    refine W_region (WL_cons rfl (WX_q rfl rfl (q_assign rfl rfl) (?_)))
    refine WL_nil (hK4 _ ?_)
    clear hK4 K4
    refine W_ret (finm_one rfl (rc_v ?_) rfl (AftOK.stays rfl ?_ rfl AftOK.nil))
    all_goals clear hK2 K2
    all_goals (first | (rw [hO.1]; done) | (rw [hO.2]; done) | (rw [hO.1]; rfl) | (rw [hO.2]; rfl))
  · try rw [h1]
    try simp only [decide_eq_true_eq, decide_eq_false_iff_not, beq_iff_eq, bne_iff_ne, ne_eq, Bool.not_eq_true', Bool.not_eq_false', beq_eq_false_iff_ne, bne_eq_false_iff_eq, Bool.not_eq_true, Bool.not_eq_false, Int.not_lt, Int.not_le, gt_iff_lt, ge_iff_le, Bool.and_eq_true, Bool.and_eq_false_iff, Bool.or_eq_true, Bool.or_eq_false_iff] at h1
    refine W_skip (hK2 _ ?_)
    clear hK2 K2
    refine W_seq (fun K5 hK5 => ?_)
    refine W_region (WL_cons rfl (WX_q rfl rfl (q_move rfl rfl) (WL_cons rfl (?_))))
    refine WX_callm 1 [0] rfl rfl rfl (c_spec_l1Cur_next x (by omega) hc) rfl (RowsIn.cons rfl RowsIn.nil) rfl rfl rfl ?_
    refine WL_cons rfl (WX_q rfl rfl (q_assign rfl rfl) (?_))
    refine WL_nil (hK5 _ ?_)
    clear hK5 K5
    refine W_seq (fun K6 hK6 => ?_)
    refine W_seq (fun K7 hK7 => ?_)
    refine W_region (WL_cons rfl (WX_q rfl rfl (q_move rfl rfl) (WL_cons rfl (WX_q rfl rfl (q_cmp rfl rfl rfl rfl) (?_)))))
    refine WL_nil (hK7 _ ?_)
    clear hK7 K7
    refine W_cond rfl (fun h2 => ?_) (fun h2 => ?_)
    · try rw [h2]
      try simp only [decide_eq_true_eq, decide_eq_false_iff_not, beq_iff_eq, bne_iff_ne, ne_eq, Bool.not_eq_true', Bool.not_eq_false', beq_eq_false_iff_ne, bne_eq_false_iff_eq, Bool.not_eq_true, Bool.not_eq_false, Int.not_lt, Int.not_le, gt_iff_lt, ge_iff_le, Bool.and_eq_true, Bool.and_eq_false_iff, Bool.or_eq_true, Bool.or_eq_false_iff] at h2
      have hO := pk_3 (x := x) (n := n) (by omega) (by omega)
      refine W_region (WL_cons rfl (WX_q rfl rfl (q_move rfl rfl) (WL_cons rfl (?_))))
      first | refine WX_q rfl rfl (q_arith rfl rfl rfl rfl (by omega) (by omega)) ?_ | refine WX_q rfl rfl (q_wrap rfl rfl rfl rfl) ?_
      refine WL_cons rfl (WX_q rfl rfl (q_move rfl rfl) (WL_cons rfl (?_)))
      refine WX_callm 1 [0] rfl rfl rfl (c_spec_l1Cur_next (nxC x) (by omega) hc) rfl (RowsIn.cons rfl RowsIn.nil) rfl rfl rfl ?_
      refine WL_cons rfl (?_)
      first | refine WX_q rfl rfl (q_arith rfl rfl rfl rfl (by omega) (by omega)) ?_ | refine WX_q rfl rfl (q_wrap rfl rfl rfl rfl) ?_
      refine WL_cons rfl (WX_q rfl rfl (q_assign rfl rfl) (?_))
      refine WL_nil (hK6 _ ?_)
      clear hK6 K6
      refine W_seq (fun K8 hK8 => ?_)
      refine W_region (WL_cons rfl (WX_q rfl rfl (q_move rfl rfl) (WL_cons rfl (WX_q rfl rfl (q_move rfl rfl) (WL_cons rfl (?_))))))
      first | refine WX_q rfl rfl (q_rem_pos rfl rfl rfl (by omega) (by omega)) ?_ | refine WX_q rfl rfl (q_rem rfl rfl rfl (by omega)) ?_
      refine WL_cons rfl (WX_q rfl rfl (q_assign rfl rfl) (?_))
      refine WL_nil (hK8 _ ?_)
      clear hK8 K8
      refine W_ret (finm_one rfl (rc_v ?_) rfl (AftOK.stays rfl ?_ rfl AftOK.nil))
      all_goals (first | (rw [hO.1]; done) | (rw [hO.2]; done) | (rw [hO.1]; rfl) | (rw [hO.2]; rfl))
    · try rw [h2]
      try simp only [decide_eq_true_eq, decide_eq_false_iff_not, beq_iff_eq, bne_iff_ne, ne_eq, Bool.not_eq_true', Bool.not_eq_false', beq_eq_false_iff_ne, bne_eq_false_iff_eq, Bool.not_eq_true, Bool.not_eq_false, Int.not_lt, Int.not_le, gt_iff_lt, ge_iff_le, Bool.and_eq_true, Bool.and_eq_false_iff, Bool.or_eq_true, Bool.or_eq_false_iff] at h2
      have hO := pk_2 (x := x) (n := n) (by omega) (by omega)
      refine W_skip (hK6 _ ?_)
      clear hK6 K6
      refine W_seq (fun K9 hK9 => ?_)
      refine W_region (WL_cons rfl (WX_q rfl rfl (q_move rfl rfl) (WL_cons rfl (WX_q rfl rfl (q_move rfl rfl) (WL_cons rfl (?_))))))
      first | refine WX_q rfl rfl (q_rem_pos rfl rfl rfl (by omega) (by omega)) ?_ | refine WX_q rfl rfl (q_rem rfl rfl rfl (by omega)) ?_
      refine WL_cons rfl (WX_q rfl rfl (q_assign rfl rfl) (?_))
      refine WL_nil (hK9 _ ?_)
      clear hK9 K9
      refine W_ret (finm_one rfl (rc_v ?_) rfl (AftOK.stays rfl ?_ rfl AftOK.nil))
      all_goals (first | (rw [hO.1]; done) | (rw [hO.2]; done) | (rw [hO.1]; rfl) | (rw [hO.2]; rfl))

theorem c_spec_l1Cur_one (x : Cur) (n : Int) (h0 : 0 ≤ x.a ∧ x.a ≤ 4611686018427387000) (hc : bytesOK x.c) : CtrM Tryd.prog 47 [.ptr 0 0, .v (.int .i64 n)] [.box [.lst 1 (x.c.map encU), .v (.int .i64 x.a), .v (.int .u64 x.s)]] (.one (.v (.bool (pkV x n == 0)))) [some (.box [.lst 1 ((pkC x n).c.map encU), .v (.int .i64 (pkC x n).a), .v (.int .u64 (pkC x n).s)])] := by
  refine CtrM.of (n := 9) (k := 1) G Tryd.func47 rfl (by kernel_rfl) rfl rfl rfl rfl rfl rfl rfl (fun w0 _ hpin => ?_)
  refine W_seq (fun K1 hK1 => ?_)
  refine W_region (WL_cons rfl (WX_q rfl rfl (q_assign rfl rfl) (?_)))
  refine WL_nil (hK1 _ ?_)
  clear hK1 K1
  refine W_seq (fun K2 hK2 => ?_)
  refine W_region (WL_cons rfl (WX_q rfl rfl (q_move rfl rfl) (WL_cons rfl (WX_q rfl rfl (q_move rfl rfl) (WL_cons rfl (?_))))))
  refine WX_callm 1 [0] rfl rfl rfl (c_spec_l1Cur_pick x n (by omega) hc) rfl (RowsIn.cons rfl RowsIn.nil) rfl rfl rfl ?_
  refine WL_cons rfl (WX_q rfl rfl (q_cmp rfl rfl rfl rfl) (WL_cons rfl (WX_q rfl rfl (q_assign rfl rfl) (?_))))
  refine WL_nil (hK2 _ ?_)
  clear hK2 K2
  refine W_ret (finm_one rfl (rc_v ?_) rfl (AftOK.stays rfl ?_ rfl AftOK.nil))
  all_goals (first | rfl | (simp; done))

theorem c_spec_l1Cur_among (x : Cur) (l : List Int) (hn : 1 ≤ l.length ∧ l.length ≤ 1048576) (h0 : 0 ≤ x.a ∧ x.a ≤ 4611686018427387000) (hc : bytesOK x.c) : CtrM Tryd.prog 64 [.ptr 0 0, .own 1] [.box [.lst 1 (x.c.map encU), .v (.int .i64 x.a), .v (.int .u64 x.s)], .row 3 1 (l.map encI)] (.one (.v (.int .i64 (l.getD (pkV x l.length).toNat default)))) [some (.box [.lst 1 ((pkC x l.length).c.map encU), .v (.int .i64 (pkC x l.length).a), .v (.int .u64 (pkC x l.length).s)]), some (.row 3 1 (l.map encI))] := by
  have hp := pk_in (x := x) (n := l.length) hc
  refine CtrM.of (n := 12) (k := 2) G Tryd.func64 rfl (by kernel_rfl) rfl rfl rfl rfl rfl rfl rfl (fun w0 _ hpin => ?_)
  refine W_seq (fun K1 hK1 => ?_)
  refine W_region (WL_cons rfl (WX_q rfl rfl (q_assign rfl rfl) (?_)))
  refine WL_nil (hK1 _ ?_)
  clear hK1 K1
  refine W_seq (fun K2 hK2 => ?_)
  refine W_region (WL_cons rfl (WX_q rfl rfl (q_move rfl rfl) (WL_cons rfl (WX_q rfl rfl (q_move rfl rfl) (WL_cons rfl (WX_q rfl rfl (q_move rfl rfl) (WL_cons rfl (?_))))))))
  first | refine WX_q rfl rfl (q_len' G rfl rfl rfl rfl (List.length_map _)) ?_ | refine WX_q rfl rfl (q_len G rfl rfl rfl rfl) ?_
  refine WL_cons rfl (?_)
  refine WX_callm 2 [0] rfl rfl rfl (c_spec_l1Cur_pick x l.length (by omega) hc) rfl (RowsIn.cons rfl RowsIn.nil) rfl rfl rfl ?_
  refine WL_cons rfl (?_)
  refine WX_q rfl rfl (q_index_own G rfl rfl rfl rfl rfl (by omega) (by rw [List.length_map]; omega)) ?_
  refine WL_cons rfl (?_)
  refine WX_q rfl rfl (q_load_rpt G rfl rfl rfl rfl rfl (getNI (by omega) (by omega)) rfl) ?_
  refine WL_cons rfl (WX_q rfl rfl (q_assign rfl rfl) (?_))
  refine WL_nil (hK2 _ ?_)
  clear hK2 K2
  refine W_ret (finm_one rfl (rc_v ?_) rfl (AftOK.stays rfl ?_ rfl (AftOK.stays rfl ?_ rfl AftOK.nil)))
  all_goals (first | rfl | (simp; done))

theorem c_spec_l1Cur_of (x : Cur) (l : List ByteArray) (hn : 1 ≤ l.length ∧ l.length ≤ 1048576) (h0 : 0 ≤ x.a ∧ x.a ≤ 4611686018427387000) (hc : bytesOK x.c) : CtrM Tryd.prog 63 [.ptr 0 0, .own 1] [.box [.lst 1 (x.c.map encU), .v (.int .i64 x.a), .v (.int .u64 x.s)], .row 9 1 (l.map encW)] (.one (.v (.string (l.getD (pkV x l.length).toNat default)))) [some (.box [.lst 1 ((pkC x l.length).c.map encU), .v (.int .i64 (pkC x l.length).a), .v (.int .u64 (pkC x l.length).s)]), some (.row 9 1 (l.map encW))] := by
  have hp := pk_in (x := x) (n := l.length) hc
  refine CtrM.of (n := 12) (k := 2) G Tryd.func63 rfl (by kernel_rfl) rfl rfl rfl rfl rfl rfl rfl (fun w0 _ hpin => ?_)
  refine W_seq (fun K1 hK1 => ?_)
  refine W_region (WL_cons rfl (WX_q rfl rfl (q_assign rfl rfl) (?_)))
  refine WL_nil (hK1 _ ?_)
  clear hK1 K1
  refine W_seq (fun K2 hK2 => ?_)
  refine W_region (WL_cons rfl (WX_q rfl rfl (q_move rfl rfl) (WL_cons rfl (WX_q rfl rfl (q_move rfl rfl) (WL_cons rfl (WX_q rfl rfl (q_move rfl rfl) (WL_cons rfl (?_))))))))
  first | refine WX_q rfl rfl (q_len' G rfl rfl rfl rfl (List.length_map _)) ?_ | refine WX_q rfl rfl (q_len G rfl rfl rfl rfl) ?_
  refine WL_cons rfl (?_)
  refine WX_callm 2 [0] rfl rfl rfl (c_spec_l1Cur_pick x l.length (by omega) hc) rfl (RowsIn.cons rfl RowsIn.nil) rfl rfl rfl ?_
  refine WL_cons rfl (?_)
  refine WX_q rfl rfl (q_index_own G rfl rfl rfl rfl rfl (by omega) (by rw [List.length_map]; omega)) ?_
  refine WL_cons rfl (?_)
  refine WX_q rfl rfl (q_load_rpt G rfl rfl rfl rfl rfl (getNI (by omega) (by omega)) rfl) ?_
  refine WL_cons rfl (WX_q rfl rfl (q_assign rfl rfl) (?_))
  refine WL_nil (hK2 _ ?_)
  clear hK2 K2
  refine W_ret (finm_one rfl (rc_v ?_) rfl (AftOK.stays rfl ?_ rfl (AftOK.stays rfl ?_ rfl AftOK.nil)))
  all_goals (first | rfl | (simp; done))

theorem c_spec_l1Cur_among_s (x : Cur) (l : List Int) (k : Nat) (hn : 1 ≤ k ∧ k ≤ l.length ∧ l.length ≤ 1048576) (h0 : 0 ≤ x.a ∧ x.a ≤ 4611686018427387000) (hc : bytesOK x.c) : CtrM Tryd.prog 64 [.ptr 0 0, .sub 1 1 0 k] [.box [.lst 1 (x.c.map encU), .v (.int .i64 x.a), .v (.int .u64 x.s)], .row 3 1 (l.map encI)] (.one (.v (.int .i64 (l.getD (pkV x k).toNat default)))) [some (.box [.lst 1 ((pkC x k).c.map encU), .v (.int .i64 (pkC x k).a), .v (.int .u64 (pkC x k).s)]), some (.row 3 1 (l.map encI))] := by
  have hp := pk_in (x := x) (n := k) hc
  refine CtrM.of (n := 12) (k := 2) G Tryd.func64 rfl (by kernel_rfl) rfl rfl rfl rfl rfl rfl rfl (fun w0 _ hpin => ?_)
  refine W_seq (fun K1 hK1 => ?_)
  refine W_region (WL_cons rfl (WX_q rfl rfl (q_assign rfl rfl) (?_)))
  refine WL_nil (hK1 _ ?_)
  clear hK1 K1
  refine W_seq (fun K2 hK2 => ?_)
  refine W_region (WL_cons rfl (WX_q rfl rfl (q_move rfl rfl) (WL_cons rfl (WX_q rfl rfl (q_move rfl rfl) (WL_cons rfl (WX_q rfl rfl (q_move rfl rfl) (WL_cons rfl (WX_q rfl rfl (q_len G rfl rfl rfl rfl) (WL_cons rfl (?_))))))))))
  refine WX_callm 2 [0] rfl rfl rfl (c_spec_l1Cur_pick x k (by omega) hc) rfl (RowsIn.cons rfl RowsIn.nil) rfl rfl rfl ?_
  refine WL_cons rfl (?_)
  refine WX_q rfl rfl (q_index_sub G rfl rfl rfl rfl rfl (by omega) (by omega)) ?_
  refine WL_cons rfl (?_)
  first | refine WX_q rfl rfl (q_load_rpt G rfl rfl rfl rfl rfl (getNI2 (by omega) (by omega)) rfl) ?_ | refine WX_q rfl rfl (q_load_rpt G rfl rfl rfl rfl rfl (getNI (by omega) (by omega)) rfl) ?_
  refine WL_cons rfl (WX_q rfl rfl (q_assign rfl rfl) (?_))
  refine WL_nil (hK2 _ ?_)
  clear hK2 K2
  refine W_ret (finm_one rfl (rc_v ?_) rfl (AftOK.stays rfl ?_ rfl (AftOK.stays rfl ?_ rfl AftOK.nil)))
  all_goals (first | rfl | (simp; done))

end Go.Proofs.YtehijimgenicfaaDoor

/- The cursor of the draws, of which only bounds are told. -/
set_option maxRecDepth 20000
set_option linter.unusedVariables false
namespace Go.Proofs.YtehijimgenicfaaDoor
open Go Go.Rf
theorem x_pick {x : Cur} {n : Int} (h : okC n x) (hn : n ≤ 1000000000000) (k : Int) : CtrX (α := Int × Cur) Tryd.prog 46 [.ptr 0 0, .v (.int .i64 k)] [.box [.lst 1 (x.c.map encU), .v (.int .i64 x.a), .v (.int .u64 x.s)]] (fun y => (0 ≤ y.1 ∧ (y.1 < k ∨ (k ≤ 1 ∧ y.1 = 0))) ∧ okC (n + 2) y.2) (fun y => .one (.v (.int .i64 y.1))) (fun y => [some (.box [.lst 1 (y.2.c.map encU), .v (.int .i64 y.2.a), .v (.int .u64 y.2.s)])]) :=
  CtrX.ofM (pkV x k, pkC x k) (c_spec_l1Cur_pick x k (h.big hn) h.1) ⟨pk_in h.1, h.pk _⟩ rfl rfl
theorem x_one {x : Cur} {n : Int} (h : okC n x) (hn : n ≤ 1000000000000) (k : Int) : CtrX (α := Bool × Cur) Tryd.prog 47 [.ptr 0 0, .v (.int .i64 k)] [.box [.lst 1 (x.c.map encU), .v (.int .i64 x.a), .v (.int .u64 x.s)]] (fun y => (True) ∧ okC (n + 2) y.2) (fun y => .one (.v (.bool y.1))) (fun y => [some (.box [.lst 1 (y.2.c.map encU), .v (.int .i64 y.2.a), .v (.int .u64 y.2.s)])]) :=
  CtrX.ofM (pkV x k == 0, pkC x k) (c_spec_l1Cur_one x k (h.big hn) h.1) ⟨trivial, h.pk _⟩ rfl rfl
theorem x_among {x : Cur} {n : Int} (h : okC n x) (hn : n ≤ 1000000000000) (l : List Int) (lo hi : Int) (hl : 1 ≤ l.length ∧ l.length ≤ 1048576) (hb : ∀ z ∈ l, lo ≤ z ∧ z ≤ hi) : CtrX (α := Int × Cur) Tryd.prog 64 [.ptr 0 0, .own 1] [.box [.lst 1 (x.c.map encU), .v (.int .i64 x.a), .v (.int .u64 x.s)], .row 3 1 (l.map encI)] (fun y => (lo ≤ y.1 ∧ y.1 ≤ hi) ∧ okC (n + 2) y.2) (fun y => .one (.v (.int .i64 y.1))) (fun y => [some (.box [.lst 1 (y.2.c.map encU), .v (.int .i64 y.2.a), .v (.int .u64 y.2.s)]), some (.row 3 1 (l.map encI))]) :=
  CtrX.ofM (l.getD (pkV x l.length).toNat default, pkC x l.length) (c_spec_l1Cur_among x l hl (h.big hn) h.1) ⟨getD_in hb (by have := pk_in (n := l.length) h.1; omega), h.pk _⟩ rfl rfl
theorem x_amongv {x : Cur} {n : Int} (h : okC n x) (hn : n ≤ 1000000000000) (l : List Int) (hl : 1 ≤ l.length ∧ l.length ≤ 1048576) : CtrX (α := Int × Cur) Tryd.prog 64 [.ptr 0 0, .own 1] [.box [.lst 1 (x.c.map encU), .v (.int .i64 x.a), .v (.int .u64 x.s)], .row 3 1 (l.map encI)] (fun y => (True) ∧ okC (n + 2) y.2) (fun y => .one (.v (.int .i64 y.1))) (fun y => [some (.box [.lst 1 (y.2.c.map encU), .v (.int .i64 y.2.a), .v (.int .u64 y.2.s)]), some (.row 3 1 (l.map encI))]) :=
  CtrX.ofM (l.getD (pkV x l.length).toNat default, pkC x l.length) (c_spec_l1Cur_among x l hl (h.big hn) h.1) ⟨trivial, h.pk _⟩ rfl rfl
theorem x_amongs {x : Cur} {n : Int} (h : okC n x) (hn : n ≤ 1000000000000) (l : List Int) (lo hi : Int) (k : Nat) (hl : 1 ≤ k ∧ k ≤ l.length ∧ l.length ≤ 1048576) (hb : ∀ z ∈ l, lo ≤ z ∧ z ≤ hi) : CtrX (α := Int × Cur) Tryd.prog 64 [.ptr 0 0, .sub 1 1 0 k] [.box [.lst 1 (x.c.map encU), .v (.int .i64 x.a), .v (.int .u64 x.s)], .row 3 1 (l.map encI)] (fun y => (lo ≤ y.1 ∧ y.1 ≤ hi) ∧ okC (n + 2) y.2) (fun y => .one (.v (.int .i64 y.1))) (fun y => [some (.box [.lst 1 (y.2.c.map encU), .v (.int .i64 y.2.a), .v (.int .u64 y.2.s)]), some (.row 3 1 (l.map encI))]) :=
  CtrX.ofM (l.getD (pkV x k).toNat default, pkC x k) (c_spec_l1Cur_among_s x l k hl (h.big hn) h.1) ⟨getD_in hb (by have := pk_in (n := k) h.1; omega), h.pk _⟩ rfl rfl
theorem x_of {x : Cur} {n : Int} (h : okC n x) (hn : n ≤ 1000000000000) (l : List ByteArray) (hl : 1 ≤ l.length ∧ l.length ≤ 1048576) : CtrX (α := ByteArray × Cur) Tryd.prog 63 [.ptr 0 0, .own 1] [.box [.lst 1 (x.c.map encU), .v (.int .i64 x.a), .v (.int .u64 x.s)], .row 9 1 (l.map encW)] (fun y => (y.1 ∈ l) ∧ okC (n + 2) y.2) (fun y => .one (.v (.string y.1))) (fun y => [some (.box [.lst 1 (y.2.c.map encU), .v (.int .i64 y.2.a), .v (.int .u64 y.2.s)]), some (.row 9 1 (l.map encW))]) :=
  CtrX.ofM (l.getD (pkV x l.length).toNat default, pkC x l.length) (c_spec_l1Cur_of x l hl (h.big hn) h.1) ⟨getD_mem (by have := pk_in (n := l.length) h.1; omega), h.pk _⟩ rfl rfl
end Go.Proofs.YtehijimgenicfaaDoor

/- Walks through functions of the program, one contract each (written by gen.py). -/
set_option maxRecDepth 20000
set_option linter.unusedVariables false
set_option linter.unusedSimpArgs false
namespace Go.Proofs.YtehijimgenicfaaDoor
open Go Go.Rf

set_option maxHeartbeats 1600000 in
theorem c_spec_l1Cur_setting {x : Cur} {n : Int} (h : okC n x) (hn : n ≤ 900000000000) (g : Int) : CtrX (α := Setting × Cur) Tryd.prog 45 [.ptr 0 0, .v (.int .i64 g)] [.box [.lst 1 (x.c.map encU), .v (.int .i64 x.a), .v (.int .u64 x.s)]] (fun y => y.1.n.size ≤ 9 ∧ okC (n + 20) y.2) (fun y => .one (.v (encT y.1))) (fun y => [some (.box [.lst 1 (y.2.c.map encU), .v (.int .i64 y.2.a), .v (.int .u64 y.2.s)])]) := by
  refine CtrX.of (n := 55) (k := 1) G Tryd.func45 rfl (by kernel_rfl) rfl rfl rfl rfl (fun _ => rfl) rfl rfl (fun w0 _ hpin => ?_)
  refine W_seq (fun K1 hK1 => ?_)
  refine W_region (WL_cons rfl (WX_alloc_s G 2 rfl rfl rfl rfl rfl (?_)))
  refine WL_nil (hK1 _ ?_)
  clear hK1 K1
  refine W_seq (fun K2 hK2 => ?_)
  refine W_region (WL_cons rfl (WX_q rfl rfl (q_move rfl rfl) (WL_cons rfl (WX_q rfl rfl (q_move rfl rfl) (WL_cons rfl (WX_lit G 3 rfl rfl rfl rfl rfl rfl rfl rfl (WL_cons rfl (?_))))))))
  refine WX_callx 3 [0, 2] rfl rfl rfl (x_of h (by omega) [⟨#[109, 97, 105, 108]⟩, ⟨#[119, 101, 98]⟩, ⟨#[100, 98]⟩, ⟨#[97]⟩, ⟨#[108, 111, 110, 103, 110, 97, 109, 101]⟩, ⟨#[109, 97, 105, 108]⟩] (by decide)) rfl (RowsIn.cons rfl (RowsIn.cons rfl RowsIn.nil)) rfl (fun _ => rfl) rfl (fun x1 ⟨hv1, hc1⟩ => ?_)
  refine WL_cons rfl (WX_q rfl rfl (q_move rfl rfl) (WL_cons rfl (?_)))
  refine WX_callx 3 [0] rfl rfl rfl (x_pick hc1 (by omega) (4)) rfl (RowsIn.cons rfl RowsIn.nil) rfl (fun _ => rfl) rfl (fun x2 ⟨hv2, hc2⟩ => ?_)
  refine WL_cons rfl (?_)
  first | refine WX_q rfl rfl (q_arith rfl rfl rfl rfl (by omega) (by omega)) ?_ | refine WX_q rfl rfl (q_wrap rfl rfl rfl rfl) ?_
  refine WL_cons rfl (WX_q rfl rfl (q_move rfl rfl) (WL_cons rfl (WX_lit G 4 rfl rfl rfl rfl rfl rfl rfl rfl (WL_cons rfl (?_)))))
  refine WX_callx 4 [0, 3] rfl rfl rfl (x_among hc2 (by omega) [1, 2, 3, 4, 16] (1) (16) (by decide) (by decide)) rfl (RowsIn.cons rfl (RowsIn.cons rfl RowsIn.nil)) rfl (fun _ => rfl) rfl (fun x3 ⟨hv3, hc3⟩ => ?_)
  refine WL_cons rfl (WX_q rfl rfl (q_move rfl rfl) (WL_cons rfl (WX_lit G 5 rfl rfl rfl rfl rfl rfl rfl rfl (WL_cons rfl (?_)))))
  refine WX_callx 5 [0, 4] rfl rfl rfl (x_among hc3 (by omega) [1, 50, 100] (1) (100) (by decide) (by decide)) rfl (RowsIn.cons rfl (RowsIn.cons rfl RowsIn.nil)) rfl (fun _ => rfl) rfl (fun x4 ⟨hv4, hc4⟩ => ?_)
  refine WL_cons rfl (WX_q rfl rfl (q_move rfl rfl) (WL_cons rfl (?_)))
  refine WX_callx 5 [0] rfl rfl rfl (x_one hc4 (by omega) (2)) rfl (RowsIn.cons rfl RowsIn.nil) rfl (fun _ => rfl) rfl (fun x5 ⟨hv5, hc5⟩ => ?_)
  refine WL_cons rfl (WX_q rfl rfl (q_build G rfl rfl rfl rfl) (WL_cons rfl (WX_alloc_s G 6 rfl rfl rfl rfl rfl (WL_cons rfl (WX_store G rfl rfl rfl rfl rfl rfl rfl rfl rfl rfl rfl (?_))))))
  refine WL_nil (hK2 _ ?_)
  clear hK2 K2
  refine W_seq (fun K3 hK3 => ?_)
  refine W_seq (fun K4 hK4 => ?_)
  refine W_region (WL_cons rfl (WX_q rfl rfl (q_move rfl rfl) (WL_cons rfl (?_))))
  refine WX_callx 6 [0] rfl rfl rfl (x_pick hc5 (by omega) (60)) rfl (RowsIn.cons rfl RowsIn.nil) rfl (fun _ => rfl) rfl (fun x6 ⟨hv6, hc6⟩ => ?_)
  refine WL_nil (hK4 _ ?_)
  clear hK4 K4
  refine W_block ?_
  refine W_seq (fun K5 hK5 => ?_)
  refine W_region (WL_cons rfl (WX_q rfl rfl (q_cmp rfl rfl rfl rfl) (WL_cons rfl (WX_q rfl rfl (q_assign rfl rfl) (?_)))))
  refine WL_nil (hK5 _ ?_)
  clear hK5 K5
  refine W_cond rfl (fun h1 => ?_) (fun h1 => ?_)
  · try rw [h1]
    try simp only [decide_eq_true_eq, decide_eq_false_iff_not, beq_iff_eq, bne_iff_ne, ne_eq, Bool.not_eq_true', Bool.not_eq_false', beq_eq_false_iff_ne, bne_eq_false_iff_eq, Bool.not_eq_true, Bool.not_eq_false, Int.not_lt, Int.not_le, gt_iff_lt, ge_iff_le, Bool.and_eq_true, Bool.and_eq_false_iff, Bool.or_eq_true, Bool.or_eq_false_iff] at h1
    refine W_region (WL_cons rfl (WX_q rfl rfl (q_move rfl rfl) (WL_cons rfl (WX_lit G 7 rfl rfl rfl rfl rfl rfl rfl rfl (WL_cons rfl (?_))))))
    refine WX_callx 7 [0, 6] rfl rfl rfl (x_among hc6 (by omega) [0, 5] (0) (5) (by decide) (by decide)) rfl (RowsIn.cons rfl (RowsIn.cons rfl RowsIn.nil)) rfl (fun _ => rfl) rfl (fun x7 ⟨hv7, hc7⟩ => ?_)
    refine WL_cons rfl (WX_q rfl rfl (q_field_ptr G rfl rfl rfl rfl) (WL_cons rfl (WX_store G rfl rfl rfl rfl rfl rfl rfl rfl rfl rfl rfl (?_))))
    refine WL_nil (hK3 _ ?_)
    clear hK3 K3
    refine W_seq (fun K6 hK6 => ?_)
    refine W_region (WL_cons rfl (WX_q rfl rfl (q_load_box_struct G rfl rfl rfl rfl rfl rfl) (WL_cons rfl (WX_store G rfl rfl rfl rfl rfl rfl rfl rfl rfl rfl rfl (?_)))))
    refine WL_nil (hK6 _ ?_)
    clear hK6 K6
    refine W_ret (finx ((⟨_, _, _, _, _, _⟩, ⟨_, _, _⟩)) (finm_one rfl (rc_agg rfl rfl) rfl (AftOK.stays rfl rfl rfl AftOK.nil)) (⟨?_, ?_⟩))
    all_goals (try rcases x1 with ⟨_, _⟩)
    all_goals (try rcases x2 with ⟨_, _⟩)
    all_goals (try rcases x3 with ⟨_, _⟩)
    all_goals (try rcases x4 with ⟨_, _⟩)
    all_goals (try rcases x5 with ⟨_, _⟩)
    all_goals (try rcases x6 with ⟨_, _⟩)
    all_goals (try rcases x7 with ⟨_, _⟩)
    all_goals (try dsimp only at *)
    all_goals (first | exact hc7.mono (by omega) | exact of_size (by assumption) (by decide))
  · try rw [h1]
    try simp only [decide_eq_true_eq, decide_eq_false_iff_not, beq_iff_eq, bne_iff_ne, ne_eq, Bool.not_eq_true', Bool.not_eq_false', beq_eq_false_iff_ne, bne_eq_false_iff_eq, Bool.not_eq_true, Bool.not_eq_false, Int.not_lt, Int.not_le, gt_iff_lt, ge_iff_le, Bool.and_eq_true, Bool.and_eq_false_iff, Bool.or_eq_true, Bool.or_eq_false_iff] at h1
    refine W_seq (fun K7 hK7 => ?_)
    refine W_region (WL_cons rfl (WX_q rfl rfl (q_cmp rfl rfl rfl rfl) (WL_cons rfl (WX_q rfl rfl (q_assign rfl rfl) (?_)))))
    refine WL_nil (hK7 _ ?_)
    clear hK7 K7
    refine W_cond rfl (fun h2 => ?_) (fun h2 => ?_)
    · try rw [h2]
      try simp only [decide_eq_true_eq, decide_eq_false_iff_not, beq_iff_eq, bne_iff_ne, ne_eq, Bool.not_eq_true', Bool.not_eq_false', beq_eq_false_iff_ne, bne_eq_false_iff_eq, Bool.not_eq_true, Bool.not_eq_false, Int.not_lt, Int.not_le, gt_iff_lt, ge_iff_le, Bool.and_eq_true, Bool.and_eq_false_iff, Bool.or_eq_true, Bool.or_eq_false_iff] at h2
      refine W_region (WL_cons rfl (WX_q rfl rfl (q_move rfl rfl) (WL_cons rfl (WX_lit G 7 rfl rfl rfl rfl rfl rfl rfl rfl (WL_cons rfl (?_))))))
      refine WX_callx 7 [0, 6] rfl rfl rfl (x_of hc6 (by omega) [⟨#[]⟩, ⟨#[65]⟩, ⟨#[110, 105, 110, 101, 99, 104, 97, 114, 115]⟩] (by decide)) rfl (RowsIn.cons rfl (RowsIn.cons rfl RowsIn.nil)) rfl (fun _ => rfl) rfl (fun x8 ⟨hv8, hc8⟩ => ?_)
      refine WL_cons rfl (WX_q rfl rfl (q_field_ptr G rfl rfl rfl rfl) (WL_cons rfl (WX_store G rfl rfl rfl rfl rfl rfl rfl rfl rfl rfl rfl (?_))))
      refine WL_nil (hK3 _ ?_)
      clear hK3 K3
      refine W_seq (fun K8 hK8 => ?_)
      refine W_region (WL_cons rfl (WX_q rfl rfl (q_load_box_struct G rfl rfl rfl rfl rfl rfl) (WL_cons rfl (WX_store G rfl rfl rfl rfl rfl rfl rfl rfl rfl rfl rfl (?_)))))
      refine WL_nil (hK8 _ ?_)
      clear hK8 K8
      refine W_ret (finx ((⟨_, _, _, _, _, _⟩, ⟨_, _, _⟩)) (finm_one rfl (rc_agg rfl rfl) rfl (AftOK.stays rfl rfl rfl AftOK.nil)) (⟨?_, ?_⟩))
      all_goals (try rcases x1 with ⟨_, _⟩)
      all_goals (try rcases x2 with ⟨_, _⟩)
      all_goals (try rcases x3 with ⟨_, _⟩)
      all_goals (try rcases x4 with ⟨_, _⟩)
      all_goals (try rcases x5 with ⟨_, _⟩)
      all_goals (try rcases x6 with ⟨_, _⟩)
      all_goals (try rcases x7 with ⟨_, _⟩)
      all_goals (try rcases x8 with ⟨_, _⟩)
      all_goals (try dsimp only at *)
      all_goals (first | exact hc8.mono (by omega) | exact of_size (by assumption) (by decide))
    · try rw [h2]
      try simp only [decide_eq_true_eq, decide_eq_false_iff_not, beq_iff_eq, bne_iff_ne, ne_eq, Bool.not_eq_true', Bool.not_eq_false', beq_eq_false_iff_ne, bne_eq_false_iff_eq, Bool.not_eq_true, Bool.not_eq_false, Int.not_lt, Int.not_le, gt_iff_lt, ge_iff_le, Bool.and_eq_true, Bool.and_eq_false_iff, Bool.or_eq_true, Bool.or_eq_false_iff] at h2
      refine W_seq (fun K9 hK9 => ?_)
      refine W_region (WL_cons rfl (WX_q rfl rfl (q_cmp rfl rfl rfl rfl) (WL_cons rfl (WX_q rfl rfl (q_assign rfl rfl) (?_)))))
      refine WL_nil (hK9 _ ?_)
      clear hK9 K9
      refine W_cond rfl (fun h3 => ?_) (fun h3 => ?_)
      · try rw [h3]
        try simp only [decide_eq_true_eq, decide_eq_false_iff_not, beq_iff_eq, bne_iff_ne, ne_eq, Bool.not_eq_true', Bool.not_eq_false', beq_eq_false_iff_ne, bne_eq_false_iff_eq, Bool.not_eq_true, Bool.not_eq_false, Int.not_lt, Int.not_le, gt_iff_lt, ge_iff_le, Bool.and_eq_true, Bool.and_eq_false_iff, Bool.or_eq_true, Bool.or_eq_false_iff] at h3
        refine W_region (WL_cons rfl (WX_q rfl rfl (q_move rfl rfl) (WL_cons rfl (WX_lit G 7 rfl rfl rfl rfl rfl rfl rfl rfl (WL_cons rfl (?_))))))
        refine WX_callx 7 [0, 6] rfl rfl rfl (x_among hc6 (by omega) [0, 5] (0) (5) (by decide) (by decide)) rfl (RowsIn.cons rfl (RowsIn.cons rfl RowsIn.nil)) rfl (fun _ => rfl) rfl (fun x9 ⟨hv9, hc9⟩ => ?_)
        refine WL_cons rfl (WX_q rfl rfl (q_field_ptr G rfl rfl rfl rfl) (WL_cons rfl (WX_store G rfl rfl rfl rfl rfl rfl rfl rfl rfl rfl rfl (?_))))
        refine WL_nil (hK3 _ ?_)
        clear hK3 K3
        refine W_seq (fun K10 hK10 => ?_)
        refine W_region (WL_cons rfl (WX_q rfl rfl (q_load_box_struct G rfl rfl rfl rfl rfl rfl) (WL_cons rfl (WX_store G rfl rfl rfl rfl rfl rfl rfl rfl rfl rfl rfl (?_)))))
        refine WL_nil (hK10 _ ?_)
        clear hK10 K10
        refine W_ret (finx ((⟨_, _, _, _, _, _⟩, ⟨_, _, _⟩)) (finm_one rfl (rc_agg rfl rfl) rfl (AftOK.stays rfl rfl rfl AftOK.nil)) (⟨?_, ?_⟩))
        all_goals (try rcases x1 with ⟨_, _⟩)
        all_goals (try rcases x2 with ⟨_, _⟩)
        all_goals (try rcases x3 with ⟨_, _⟩)
        all_goals (try rcases x4 with ⟨_, _⟩)
        all_goals (try rcases x5 with ⟨_, _⟩)
        all_goals (try rcases x6 with ⟨_, _⟩)
        all_goals (try rcases x7 with ⟨_, _⟩)
        all_goals (try rcases x8 with ⟨_, _⟩)
        all_goals (try rcases x9 with ⟨_, _⟩)
        all_goals (try dsimp only at *)
        all_goals (first | exact hc9.mono (by omega) | exact of_size (by assumption) (by decide))
      · try rw [h3]
        try simp only [decide_eq_true_eq, decide_eq_false_iff_not, beq_iff_eq, bne_iff_ne, ne_eq, Bool.not_eq_true', Bool.not_eq_false', beq_eq_false_iff_ne, bne_eq_false_iff_eq, Bool.not_eq_true, Bool.not_eq_false, Int.not_lt, Int.not_le, gt_iff_lt, ge_iff_le, Bool.and_eq_true, Bool.and_eq_false_iff, Bool.or_eq_true, Bool.or_eq_false_iff] at h3
        refine W_seq (fun K11 hK11 => ?_)
        refine W_region (WL_cons rfl (WX_q rfl rfl (q_cmp rfl rfl rfl rfl) (WL_cons rfl (WX_q rfl rfl (q_assign rfl rfl) (?_)))))
        refine WL_nil (hK11 _ ?_)
        clear hK11 K11
        refine W_cond rfl (fun h4 => ?_) (fun h4 => ?_)
        · try rw [h4]
          try simp only [decide_eq_true_eq, decide_eq_false_iff_not, beq_iff_eq, bne_iff_ne, ne_eq, Bool.not_eq_true', Bool.not_eq_false', beq_eq_false_iff_ne, bne_eq_false_iff_eq, Bool.not_eq_true, Bool.not_eq_false, Int.not_lt, Int.not_le, gt_iff_lt, ge_iff_le, Bool.and_eq_true, Bool.and_eq_false_iff, Bool.or_eq_true, Bool.or_eq_false_iff] at h4
          refine W_region (WL_cons rfl (WX_q rfl rfl (q_move rfl rfl) (WL_cons rfl (WX_lit G 7 rfl rfl rfl rfl rfl rfl rfl rfl (WL_cons rfl (?_))))))
          refine WX_callx 7 [0, 6] rfl rfl rfl (x_among hc6 (by omega) [0, 17] (0) (17) (by decide) (by decide)) rfl (RowsIn.cons rfl (RowsIn.cons rfl RowsIn.nil)) rfl (fun _ => rfl) rfl (fun x10 ⟨hv10, hc10⟩ => ?_)
          refine WL_cons rfl (WX_q rfl rfl (q_field_ptr G rfl rfl rfl rfl) (WL_cons rfl (WX_store G rfl rfl rfl rfl rfl rfl rfl rfl rfl rfl rfl (?_))))
          refine WL_nil (hK3 _ ?_)
          clear hK3 K3
          refine W_seq (fun K12 hK12 => ?_)
          refine W_region (WL_cons rfl (WX_q rfl rfl (q_load_box_struct G rfl rfl rfl rfl rfl rfl) (WL_cons rfl (WX_store G rfl rfl rfl rfl rfl rfl rfl rfl rfl rfl rfl (?_)))))
          refine WL_nil (hK12 _ ?_)
          clear hK12 K12
          refine W_ret (finx ((⟨_, _, _, _, _, _⟩, ⟨_, _, _⟩)) (finm_one rfl (rc_agg rfl rfl) rfl (AftOK.stays rfl rfl rfl AftOK.nil)) (⟨?_, ?_⟩))
          all_goals (try rcases x1 with ⟨_, _⟩)
          all_goals (try rcases x2 with ⟨_, _⟩)
          all_goals (try rcases x3 with ⟨_, _⟩)
          all_goals (try rcases x4 with ⟨_, _⟩)
          all_goals (try rcases x5 with ⟨_, _⟩)
          all_goals (try rcases x6 with ⟨_, _⟩)
          all_goals (try rcases x7 with ⟨_, _⟩)
          all_goals (try rcases x8 with ⟨_, _⟩)
          all_goals (try rcases x9 with ⟨_, _⟩)
          all_goals (try rcases x10 with ⟨_, _⟩)
          all_goals (try dsimp only at *)
          all_goals (first | exact hc10.mono (by omega) | exact of_size (by assumption) (by decide))
        · try rw [h4]
          try simp only [decide_eq_true_eq, decide_eq_false_iff_not, beq_iff_eq, bne_iff_ne, ne_eq, Bool.not_eq_true', Bool.not_eq_false', beq_eq_false_iff_ne, bne_eq_false_iff_eq, Bool.not_eq_true, Bool.not_eq_false, Int.not_lt, Int.not_le, gt_iff_lt, ge_iff_le, Bool.and_eq_true, Bool.and_eq_false_iff, Bool.or_eq_true, Bool.or_eq_false_iff] at h4
          refine W_seq (fun K13 hK13 => ?_)
          refine W_region (WL_cons rfl (WX_q rfl rfl (q_cmp rfl rfl rfl rfl) (WL_cons rfl (WX_q rfl rfl (q_assign rfl rfl) (?_)))))
          refine WL_nil (hK13 _ ?_)
          clear hK13 K13
          refine W_cond rfl (fun h5 => ?_) (fun h5 => ?_)
          · try rw [h5]
            try simp only [decide_eq_true_eq, decide_eq_false_iff_not, beq_iff_eq, bne_iff_ne, ne_eq, Bool.not_eq_true', Bool.not_eq_false', beq_eq_false_iff_ne, bne_eq_false_iff_eq, Bool.not_eq_true, Bool.not_eq_false, Int.not_lt, Int.not_le, gt_iff_lt, ge_iff_le, Bool.and_eq_true, Bool.and_eq_false_iff, Bool.or_eq_true, Bool.or_eq_false_iff] at h5
            refine W_region (WL_cons rfl (WX_q rfl rfl (q_move rfl rfl) (WL_cons rfl (WX_lit G 7 rfl rfl rfl rfl rfl rfl rfl rfl (WL_cons rfl (?_))))))
            refine WX_callx 7 [0, 6] rfl rfl rfl (x_among hc6 (by omega) [0, 101] (0) (101) (by decide) (by decide)) rfl (RowsIn.cons rfl (RowsIn.cons rfl RowsIn.nil)) rfl (fun _ => rfl) rfl (fun x11 ⟨hv11, hc11⟩ => ?_)
            refine WL_cons rfl (WX_q rfl rfl (q_field_ptr G rfl rfl rfl rfl) (WL_cons rfl (WX_store G rfl rfl rfl rfl rfl rfl rfl rfl rfl rfl rfl (?_))))
            refine WL_nil (hK3 _ ?_)
            clear hK3 K3
            refine W_seq (fun K14 hK14 => ?_)
            refine W_region (WL_cons rfl (WX_q rfl rfl (q_load_box_struct G rfl rfl rfl rfl rfl rfl) (WL_cons rfl (WX_store G rfl rfl rfl rfl rfl rfl rfl rfl rfl rfl rfl (?_)))))
            refine WL_nil (hK14 _ ?_)
            clear hK14 K14
            refine W_ret (finx ((⟨_, _, _, _, _, _⟩, ⟨_, _, _⟩)) (finm_one rfl (rc_agg rfl rfl) rfl (AftOK.stays rfl rfl rfl AftOK.nil)) (⟨?_, ?_⟩))
            all_goals (try rcases x1 with ⟨_, _⟩)
            all_goals (try rcases x2 with ⟨_, _⟩)
            all_goals (try rcases x3 with ⟨_, _⟩)
            all_goals (try rcases x4 with ⟨_, _⟩)
            all_goals (try rcases x5 with ⟨_, _⟩)
            all_goals (try rcases x6 with ⟨_, _⟩)
            all_goals (try rcases x7 with ⟨_, _⟩)
            all_goals (try rcases x8 with ⟨_, _⟩)
            all_goals (try rcases x9 with ⟨_, _⟩)
            all_goals (try rcases x10 with ⟨_, _⟩)
            all_goals (try rcases x11 with ⟨_, _⟩)
            all_goals (try dsimp only at *)
            all_goals (first | exact hc11.mono (by omega) | exact of_size (by assumption) (by decide))
          · try rw [h5]
            try simp only [decide_eq_true_eq, decide_eq_false_iff_not, beq_iff_eq, bne_iff_ne, ne_eq, Bool.not_eq_true', Bool.not_eq_false', beq_eq_false_iff_ne, bne_eq_false_iff_eq, Bool.not_eq_true, Bool.not_eq_false, Int.not_lt, Int.not_le, gt_iff_lt, ge_iff_le, Bool.and_eq_true, Bool.and_eq_false_iff, Bool.or_eq_true, Bool.or_eq_false_iff] at h5
            refine W_skip (hK3 _ ?_)
            clear hK3 K3
            refine W_seq (fun K15 hK15 => ?_)
            refine W_region (WL_cons rfl (WX_q rfl rfl (q_load_box_struct G rfl rfl rfl rfl rfl rfl) (WL_cons rfl (WX_store G rfl rfl rfl rfl rfl rfl rfl rfl rfl rfl rfl (?_)))))
            refine WL_nil (hK15 _ ?_)
            clear hK15 K15
            refine W_ret (finx ((⟨_, _, _, _, _, _⟩, ⟨_, _, _⟩)) (finm_one rfl (rc_agg rfl rfl) rfl (AftOK.stays rfl rfl rfl AftOK.nil)) (⟨?_, ?_⟩))
            all_goals (try rcases x1 with ⟨_, _⟩)
            all_goals (try rcases x2 with ⟨_, _⟩)
            all_goals (try rcases x3 with ⟨_, _⟩)
            all_goals (try rcases x4 with ⟨_, _⟩)
            all_goals (try rcases x5 with ⟨_, _⟩)
            all_goals (try rcases x6 with ⟨_, _⟩)
            all_goals (try rcases x7 with ⟨_, _⟩)
            all_goals (try rcases x8 with ⟨_, _⟩)
            all_goals (try rcases x9 with ⟨_, _⟩)
            all_goals (try rcases x10 with ⟨_, _⟩)
            all_goals (try rcases x11 with ⟨_, _⟩)
            all_goals (try dsimp only at *)
            all_goals (first | exact hc6.mono (by omega) | exact of_size (by assumption) (by decide))

end Go.Proofs.YtehijimgenicfaaDoor
