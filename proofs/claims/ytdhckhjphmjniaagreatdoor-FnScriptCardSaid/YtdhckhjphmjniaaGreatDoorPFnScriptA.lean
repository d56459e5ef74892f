/- Texts merged into one: Tab, Shelf, Atoi, S, W1, D1, D2, L1, N, L2, L3, L4. -/
import Derived.Test.YtdhckhjphmjniaaGreatDoorWs
import Derived.Test.YtdhckhjphmjniaaGreatDoorProg
import Derived.KernelRfl
import Derived.Shelf.Strings.OnBuilder
import Derived.Shelf.Utf8.RuneCount
import Derived.Shelf.Strconv.Itoa0
import Derived.Shelf.Strconv.Itoa1
import Derived.Shelf.LaysM
import Derived.Shelf.Strconv.Itoa2
import Derived.Shelf.Strconv.Itoa3
import Derived.Shelf.Strings.Search1
import Derived.Shelf.Strings.Search2
import Derived.Shelf.Strings.Search3
import Derived.Shelf.Strings.Cut
import Derived.Shelf.Strings.Shaped
import Derived.Shelf.Sort.Plain
import Derived.Shelf.Strings.Split
import Derived.Shelf.Strings.SplitShaped
import Derived.Shelf.Unicode.Decode
import Derived.Shelf.Strings.RuneCount
import Derived.Shelf.Strings.Explode
import Derived.Shelf.Unicode.DecodeAny
import Derived.Shelf.Slices.In.SortNone
import Derived.Shelf.Strconv.Atoi
import Derived.Shelf.Strconv.AtoiErr
import Derived.Shelf.LaysC
set_option maxHeartbeats 4000000
set_option linter.unusedSimpArgs false
set_option linter.unusedVariables false
set_option maxRecDepth 20000
namespace Go.Proofs.YtdhckhjphmjniaaGreatDoor
open Go Go.Rf
def tb:List (Nat×TyI):=[
 (2,.flat (.int .i64) (.int .i64 0)),
 (3,.flat (.int .i64) (.int .i64 0)),
 (4,.flat .bool (.bool false)),
 (5,.flat (.int .u8) (.int .u8 0)),
 (6,.flat (.int .u8) (.int .u8 0)),
 (7,.struct [(0,2),(1,3),(2,4),(3,6)] [.int .i64 0,.int .i64 0,.bool false,.int .u8 0]),
 (8,.struct [(0,2),(1,3),(2,4),(3,6)] [.int .i64 0,.int .i64 0,.bool false,.int .u8 0]),
 (9,.flat .str (.string ⟨#[]⟩)),
 (10,.flat .str (.string ⟨#[]⟩)),
 (11,.flat .str (.string ⟨#[]⟩)),
 (12,.flat (.int .u64) (.int .u64 0)),
 (13,.struct [(0,9),(1,12)] [.string ⟨#[]⟩,.int .u64 0]),
 (14,.struct [(0,9),(1,12)] [.string ⟨#[]⟩,.int .u64 0]),
 (15,.flat .other (.pointer none)),
 (16,.flat .other (.pointer none)),
 (17,.flat .other (.pointer none)),
 (18,.struct [(0,17)] [.pointer none]),
 (19,.struct [(0,17)] [.pointer none]),
 (21,.flat (.int .i32) (.int .i32 0)),
 (22,.slice 5 1 1 [.int .u8 0]),
 (24,.slice 132 2 16 [.int .i64 0,.int .i64 0]),
 (25,.slice 4 1 1 [.bool false]),
 (26,.slice 74 4 80 [.int .i64 0,.slice none 0 0,.slice none 0 0,.slice none 0 0]),
 (27,.struct [(0,24),(1,25),(2,25),(3,26)] [.slice none 0 0,.slice none 0 0,.slice none 0 0,.slice none 0 0]),
 (28,.struct [(0,24),(1,25),(2,25),(3,26)] [.slice none 0 0,.slice none 0 0,.slice none 0 0,.slice none 0 0]),
 (29,.struct [(0,9),(1,9),(2,3)] [.string ⟨#[]⟩,.string ⟨#[]⟩,.int .i64 0]),
 (30,.struct [(0,9),(1,9),(2,3)] [.string ⟨#[]⟩,.string ⟨#[]⟩,.int .i64 0]),
 (31,.struct [(0,28),(4,30)] [.slice none 0 0,.slice none 0 0,.slice none 0 0,.slice none 0 0,.string ⟨#[]⟩,.string ⟨#[]⟩,.int .i64 0]),
 (32,.struct [(0,28),(4,30)] [.slice none 0 0,.slice none 0 0,.slice none 0 0,.slice none 0 0,.string ⟨#[]⟩,.string ⟨#[]⟩,.int .i64 0]),
 (35,.slice 9 1 16 [.string ⟨#[]⟩]),
 (44,.slice 48 2 32 [.string ⟨#[]⟩,.string ⟨#[]⟩]),
 (47,.struct [(0,9),(1,9)] [.string ⟨#[]⟩,.string ⟨#[]⟩]),
 (48,.struct [(0,9),(1,9)] [.string ⟨#[]⟩,.string ⟨#[]⟩]),
 (58,.flat .other (.pointer none)),
 (59,.flat (.int .u64) (.int .u64 0)),
 (60,.struct [(0,22),(1,3),(2,59)] [.slice none 0 0,.int .i64 0,.int .u64 0]),
 (61,.struct [(0,22),(1,3),(2,59)] [.slice none 0 0,.int .i64 0,.int .u64 0]),
 (68,.slice 3 1 8 [.int .i64 0]),
 (69,.slice 104 3 24 [.int .i64 0,.int .i64 0,.int .i64 0]),
 (70,.slice 76 2 16 [.int .i64 0,.int .i64 0]),
 (71,.struct [(0,69),(1,70)] [.slice none 0 0,.slice none 0 0]),
 (72,.struct [(0,69),(1,70)] [.slice none 0 0,.slice none 0 0]),
 (73,.struct [(0,3),(1,68),(2,72)] [.int .i64 0,.slice none 0 0,.slice none 0 0,.slice none 0 0]),
 (74,.struct [(0,3),(1,68),(2,72)] [.int .i64 0,.slice none 0 0,.slice none 0 0,.slice none 0 0]),
 (75,.struct [(0,3),(1,3)] [.int .i64 0,.int .i64 0]),
 (76,.struct [(0,3),(1,3)] [.int .i64 0,.int .i64 0]),
 (86,.flat .other (.pointer none)),
 (103,.struct [(0,3),(1,3),(2,3)] [.int .i64 0,.int .i64 0,.int .i64 0]),
 (104,.struct [(0,3),(1,3),(2,3)] [.int .i64 0,.int .i64 0,.int .i64 0]),
 (112,.struct [(0,3),(1,3),(2,3),(3,3)] [.int .i64 0,.int .i64 0,.int .i64 0,.int .i64 0]),
 (113,.struct [(0,3),(1,3),(2,3),(3,3)] [.int .i64 0,.int .i64 0,.int .i64 0,.int .i64 0]),
 (131,.struct [(0,3),(1,3)] [.int .i64 0,.int .i64 0]),
 (132,.struct [(0,3),(1,3)] [.int .i64 0,.int .i64 0]),
 (139,.flat (.int .u64) (.int .u64 0)),
 (144,.flat .other (.pointer none)),
 (145,.struct [(0,144),(1,22)] [.pointer none,.slice none 0 0]),
 (146,.struct [(0,144),(1,22)] [.pointer none,.slice none 0 0]),
 (160,.slice 68 1 24 [.slice none 0 0]),
 (161,.struct [(0,25),(1,25),(2,25),(3,68),(4,160)] [.slice none 0 0,.slice none 0 0,.slice none 0 0,.slice none 0 0,.slice none 0 0]),
 (162,.struct [(0,25),(1,25),(2,25),(3,68),(4,160)] [.slice none 0 0,.slice none 0 0,.slice none 0 0,.slice none 0 0,.slice none 0 0]),
 (199,.flat .other (.pointer none)),
 (225,.flat (.int .u32) (.int .u32 0)),
 (230,.flat (.int .i64) (.int .i64 0)),
 (233,.flat .other (.pointer none)),
 (239,.flat .other (.pointer none)),
 (240,.flat .other (.pointer none)),
 (249,.flat (.int .i64) (.int .i64 0)),
 (264,.struct [(0,5),(1,5)] [.int .u8 0,.int .u8 0]),
 (265,.struct [(0,5),(1,5)] [.int .u8 0,.int .u8 0]),
 (272,.struct [(0,9),(1,9),(2,149)] [.string ⟨#[]⟩,.string ⟨#[]⟩,.nilIface]),
 (273,.struct [(0,9),(1,9),(2,149)] [.string ⟨#[]⟩,.string ⟨#[]⟩,.nilIface]),
 (283,.flat (.int .u64) (.int .u64 0)),
 (287,.flat .other (.pointer none)),
 (293,.flat .other (.pointer none)),
 (294,.struct [(0,9)] [.string ⟨#[]⟩]),
 (295,.struct [(0,9)] [.string ⟨#[]⟩]),
 (298,.flat .other (.pointer none)),
 (305,.struct [(0,17),(1,17),(2,17),(3,9)] [.pointer none,.pointer none,.pointer none,.string ⟨#[]⟩]),
 (306,.struct [(0,17),(1,17),(2,17),(3,9)] [.pointer none,.pointer none,.pointer none,.string ⟨#[]⟩]),
 (310,.flat (.int .u8) (.int .u8 0)),
 (311,.flat (.int .u8) (.int .u8 0)),
 (313,.flat (.int .i32) (.int .i32 0)),
 (314,.flat (.int .i32) (.int .i32 0))]
theorem G:Go.Rf.Good Tryz.prog tb:=Go.Rf.Good.of Y
open Go.Lib in
instance:Env Tryz.prog:=⟨λw=>TabIs Tryz.prog w "internal/strconv.uint64pow10" .u64 pow10Tab/\(∃ev:Value,w.cell? ⟨4,0,none⟩=some ev/\(ev=.nilIface∨∃te pe,ev=.iface te pe))/\∃m:Int,w.cell? ⟨0,0,none⟩=some (.int .i64 m),
 λh hb=>⟨Rf.b64 h.1 hb,(let ⟨ev,h1,h2⟩:=h.2.1;⟨ev,Rf.a9X h1 hb,h2⟩),let ⟨m,hm⟩:=h.2.2;⟨m,Rf.a9X hm hb⟩⟩⟩
theorem mixed:Tryz.prog.follows .mixedOrders=true:=by kernel_rfl
end Go.Proofs.YtdhckhjphmjniaaGreatDoor
namespace Go.Proofs
open Go.Shelf
def Tryz.lays156_ren:Go.Shelf.Ren:=⟨fun | 156=>68 | 165=>107 | 166=>108 | 169=>109 | 240=>167 | 241=>168 | 276=>220 | 277=>221 | n=>n,fun | 31=>35 | 9=>9 | 3=>3 | 4=>4 | 0=>0 | 20=>20 | 72=>146 | 76=>150 | 70=>144 | 37=>22 | 75=>149 | 127=>199 | 164=>227 | 5=>5 | 80=>152 | n=>n,fun | n=>n⟩
theorem Tryz.lays156:Go.Proofs.Lays.n156 Tryz.prog Tryz.lays156_ren:={
 mixed:=by kernel_rfl
 f156:=Tryz.func68.trans (congrArg some (by kernel_rfl))
 f165:=Tryz.func107.trans (congrArg some (by kernel_rfl))
 f166:=Tryz.func108.trans (congrArg some (by kernel_rfl))
 f169:=Tryz.func109.trans (congrArg some (by kernel_rfl))
 f240:=Tryz.func167.trans (congrArg some (by kernel_rfl))
 f241:=Tryz.func168.trans (congrArg some (by kernel_rfl))
 f276:=Tryz.func220.trans (congrArg some (by kernel_rfl))
 f277:=Tryz.func221.trans (congrArg some (by kernel_rfl))
 t0:=Tryz.underlying0
 a0:=Tryz.isAgg0
 z0:=Tryz.sizeOf0
 v0:=Tryz.zeroValue0
 t3:=Tryz.underlying3
 a3:=Tryz.isAgg3
 z3:=Tryz.sizeOf3
 v3:=Tryz.zeroValue3
 t4:=Tryz.underlying4
 a4:=Tryz.isAgg4
 z4:=Tryz.sizeOf4
 v4:=Tryz.zeroValue4
 t9:=Tryz.underlying9
 a9:=Tryz.isAgg9
 z9:=Tryz.sizeOf9
 v9:=Tryz.zeroValue9
 t20:=Tryz.underlying20
 a20:=Tryz.isAgg20
 z20:=Tryz.sizeOf20
 v20:=Tryz.zeroValue20
 t31:=Tryz.underlying35
 a31:=Tryz.isAgg35
 z31:=Tryz.sizeOf35
 v31:=Tryz.zeroValue35
 t37:=Tryz.underlying22
 a37:=Tryz.isAgg22
 z37:=Tryz.sizeOf22
 v37:=Tryz.zeroValue22
 t70:=Tryz.underlying144
 a70:=Tryz.isAgg144
 z70:=Tryz.sizeOf144
 v70:=Tryz.zeroValue144
 t72:=Tryz.underlying146
 a72:=Tryz.isAgg146
 z72:=Tryz.sizeOf146
 v72:=Tryz.zeroValue146
 t75:=Tryz.underlying149
 a75:=Tryz.isAgg149
 z75:=Tryz.sizeOf149
 v75:=Tryz.zeroValue149
 t76:=Tryz.underlying150
 a76:=Tryz.isAgg150
 z76:=Tryz.sizeOf150
 v76:=Tryz.zeroValue150
 t127:=Tryz.underlying199
 a127:=Tryz.isAgg199
 z127:=Tryz.sizeOf199
 v127:=Tryz.zeroValue199
 t164:=Tryz.underlying227
 a164:=Tryz.isAgg227
 z164:=Tryz.sizeOf227
 v164:=Tryz.zeroValue227 }
theorem Tryz.Builder_Extra_156:Builder.Extra Tryz.prog Tryz.lays156_ren:={
 sizeBuilder:=by kernel_rfl
 liesBuilder:=by kernel_rfl
 t5:=Tryz.underlying5
 a5:=Tryz.isAgg5
 z5:=Tryz.sizeOf5
 v5:=Tryz.zeroValue5
 infoByte:=by kernel_rfl
 cellsByte:=by kernel_rfl
 sizeByte:=by kernel_rfl
 neB5:=by decide }
open Go.RowKit in
theorem Tryz.strings_Join_none (a:Option Addr) (c:Nat) (sep:ByteArray) (w:World) :
 Calls Tryz.prog 68 #[.slice a 0 c,.string sep] w λe w'=>e=.returned (.string ⟨#[]⟩)/\w'=w:=Any.strings_Join_none Tryz.lays156 Tryz.Builder_Extra_156 a c sep w
open Go.RowKit in
theorem Tryz.strings_Join (bk o c:Nat) (xs:List ByteArray) (sep:ByteArray) (w:World) (hcells:∀(j:Nat) x,xs[j]?=some x→w.cell? ⟨bk,o+j,none⟩=some (.string x)) (hbk:bk < w.heap.size) (hN:xs.length<=140737488355328) (hcap:xs.length<=c) (hlen:(Lib.join (xs.map (·.data.toList)) sep.data.toList).length<=140737488355328) :
 Calls Tryz.prog 68 #[.slice (some ⟨bk,o,none⟩) xs.length c,.string sep] w λe w'=>e=.returned (.string ⟨(Lib.join (xs.map (·.data.toList)) sep.data.toList).toArray⟩)/\Below w.heap.size w w':=Any.strings_Join Tryz.lays156 Tryz.Builder_Extra_156 bk o c xs sep w hcells hbk hN hcap hlen
def Tryz.laysM171_ren:Go.Shelf.Ren:=⟨fun | 171=>34 | 243=>67 | 246=>106 | 283=>163 | 284=>164 | 285=>165 | 286=>166 | 129=>216 | 317=>215 | 318=>217 | 319=>218 | 320=>219 | 337=>264 | 338=>265 | n=>n,fun | 3=>3 | 9=>9 | 2=>2 | 4=>4 | 171=>194 | 0=>0 | 53=>59 | 37=>22 | 5=>5 | 173=>197 | 212=>224 | 51=>225 | 20=>20 | 213=>226 | 46=>139 | 232=>290 | 233=>291 | n=>n,fun | 17=>1 | 18=>6 | 19=>7 | n=>n⟩
theorem Tryz.laysM171:Go.Proofs.LaysM.n171 Tryz.prog Tryz.laysM171_ren:={
 mixed:=by kernel_rfl
 f129:=Tryz.func216.trans (congrArg some (by kernel_rfl))
 f171:=Tryz.func34.trans (congrArg some (by kernel_rfl))
 f243:=Tryz.func67.trans (congrArg some (by kernel_rfl))
 f246:=Tryz.func106.trans (congrArg some (by kernel_rfl))
 f283:=Tryz.func163.trans (congrArg some (by kernel_rfl))
 f284:=Tryz.func164.trans (congrArg some (by kernel_rfl))
 f285:=Tryz.func165.trans (congrArg some (by kernel_rfl))
 f286:=Tryz.func166.trans (congrArg some (by kernel_rfl))
 f317:=Tryz.func215.trans (congrArg some (by kernel_rfl))
 f318:=Tryz.func217.trans (congrArg some (by kernel_rfl))
 f319:=Tryz.func218.trans (congrArg some (by kernel_rfl))
 f320:=Tryz.func219.trans (congrArg some (by kernel_rfl))
 f337:=Tryz.func264.trans (congrArg some (by kernel_rfl))
 f338:=Tryz.func265.trans (congrArg some (by kernel_rfl))
 t0:=Tryz.underlying0
 a0:=Tryz.isAgg0
 z0:=Tryz.sizeOf0
 v0:=Tryz.zeroValue0
 t2:=Tryz.underlying2
 a2:=Tryz.isAgg2
 z2:=Tryz.sizeOf2
 v2:=Tryz.zeroValue2
 t3:=Tryz.underlying3
 a3:=Tryz.isAgg3
 z3:=Tryz.sizeOf3
 v3:=Tryz.zeroValue3
 t4:=Tryz.underlying4
 a4:=Tryz.isAgg4
 z4:=Tryz.sizeOf4
 v4:=Tryz.zeroValue4
 t5:=Tryz.underlying5
 a5:=Tryz.isAgg5
 z5:=Tryz.sizeOf5
 v5:=Tryz.zeroValue5
 t9:=Tryz.underlying9
 a9:=Tryz.isAgg9
 z9:=Tryz.sizeOf9
 v9:=Tryz.zeroValue9
 t20:=Tryz.underlying20
 a20:=Tryz.isAgg20
 z20:=Tryz.sizeOf20
 v20:=Tryz.zeroValue20
 t37:=Tryz.underlying22
 a37:=Tryz.isAgg22
 z37:=Tryz.sizeOf22
 v37:=Tryz.zeroValue22
 t46:=Tryz.underlying139
 a46:=Tryz.isAgg139
 z46:=Tryz.sizeOf139
 v46:=Tryz.zeroValue139
 t51:=Tryz.underlying225
 a51:=Tryz.isAgg225
 z51:=Tryz.sizeOf225
 v51:=Tryz.zeroValue225
 t53:=Tryz.underlying59
 a53:=Tryz.isAgg59
 z53:=Tryz.sizeOf59
 v53:=Tryz.zeroValue59
 t171:=Tryz.underlying194
 a171:=Tryz.isAgg194
 z171:=Tryz.sizeOf194
 v171:=Tryz.zeroValue194
 t173:=Tryz.underlying197
 a173:=Tryz.isAgg197
 z173:=Tryz.sizeOf197
 v173:=Tryz.zeroValue197
 t212:=Tryz.underlying224
 a212:=Tryz.isAgg224
 z212:=Tryz.sizeOf224
 v212:=Tryz.zeroValue224
 t213:=Tryz.underlying226
 a213:=Tryz.isAgg226
 z213:=Tryz.sizeOf226
 t232:=Tryz.underlying290
 a232:=Tryz.isAgg290
 z232:=Tryz.sizeOf290
 v232:=Tryz.zeroValue290
 t233:=Tryz.underlying291
 a233:=Tryz.isAgg291
 z233:=Tryz.sizeOf291
 v233:=Tryz.zeroValue291
 g17:=by kernel_rfl
 g18:=by kernel_rfl
 g19:=by kernel_rfl
 i0:=by kernel_rfl
 i2:=by kernel_rfl
 i3:=by kernel_rfl
 i4:=by kernel_rfl
 i5:=by kernel_rfl
 i9:=by kernel_rfl
 i20:=by kernel_rfl
 i37:=by kernel_rfl
 i46:=by kernel_rfl
 i51:=by kernel_rfl
 i53:=by kernel_rfl
 i171:=by kernel_rfl
 i173:=by kernel_rfl
 i212:=by kernel_rfl
 i232:=by kernel_rfl
 i233:=by kernel_rfl
 m17:=by kernel_rfl
 m18:=by kernel_rfl
 m19:=by kernel_rfl }
open Go.RowKit Go.Sort Go.Lib in
theorem Tryz.strconv_Itoa (n:Int) (h0:-9223372036854775808<=n) (h1:n<=9223372036854775807) (w:World) (htab:Lib.TabIs Tryz.prog w "internal/strconv.uint64pow10" .u64 Lib.pow10Tab) :
 Calls Tryz.prog 34 #[.int .i64 n] w λe w'=>e=.returned (.string ⟨(Lib.itoa n).toArray⟩)/\∃k os,w'=grow (w.drewN k) os:=Any.strconv_Itoa Tryz.laysM171 n h0 h1 w htab
def Tryz.lays144_ren:Go.Shelf.Ren:=⟨fun | 144=>72 | 143=>103 | 219=>158 | 217=>207 | 225=>208 | 224=>209 | 267=>210 | 266=>258 | 314=>259 | n=>n,fun | 9=>9 | 4=>4 | 3=>3 | 5=>5 | 46=>139 | 146=>267 | 51=>225 | n=>n,fun | 1=>0 | n=>n⟩
theorem Tryz.lays144:Go.Proofs.Lays.n144 Tryz.prog Tryz.lays144_ren:={
 mixed:=by kernel_rfl
 f143:=Tryz.func103.trans (congrArg some (by kernel_rfl))
 f144:=Tryz.func72.trans (congrArg some (by kernel_rfl))
 f217:=Tryz.func207.trans (congrArg some (by kernel_rfl))
 f219:=Tryz.func158.trans (congrArg some (by kernel_rfl))
 f224:=Tryz.func209.trans (congrArg some (by kernel_rfl))
 f225:=Tryz.func208.trans (congrArg some (by kernel_rfl))
 f266:=Tryz.func258.trans (congrArg some (by kernel_rfl))
 f267:=Tryz.func210.trans (congrArg some (by kernel_rfl))
 f314:=Tryz.func259.trans (congrArg some (by kernel_rfl))
 t3:=Tryz.underlying3
 a3:=Tryz.isAgg3
 z3:=Tryz.sizeOf3
 v3:=Tryz.zeroValue3
 t4:=Tryz.underlying4
 a4:=Tryz.isAgg4
 z4:=Tryz.sizeOf4
 v4:=Tryz.zeroValue4
 t5:=Tryz.underlying5
 a5:=Tryz.isAgg5
 z5:=Tryz.sizeOf5
 v5:=Tryz.zeroValue5
 t9:=Tryz.underlying9
 a9:=Tryz.isAgg9
 z9:=Tryz.sizeOf9
 v9:=Tryz.zeroValue9
 t46:=Tryz.underlying139
 a46:=Tryz.isAgg139
 z46:=Tryz.sizeOf139
 v46:=Tryz.zeroValue139
 t51:=Tryz.underlying225
 a51:=Tryz.isAgg225
 z51:=Tryz.sizeOf225
 v51:=Tryz.zeroValue225
 t146:=Tryz.underlying267
 a146:=Tryz.isAgg267
 z146:=Tryz.sizeOf267
 v146:=Tryz.zeroValue267
 g1:=by kernel_rfl }
open Go.RowKit Go.Lib in
theorem Tryz.strings_Contains_one (s:ByteArray) (c:UInt8) (w:World) :
 Calls Tryz.prog 72 #[.string s,.string ⟨#[c]⟩] w λe w'=>e=.returned (.bool (decide (0<=Lib.indexByte s.data.toList c)))/\w'=w:=Any.strings_Contains_one Tryz.lays144 s c w
def Tryz.lays145_ren:Go.Shelf.Ren:=⟨fun | 145=>145 | 220=>197 | 219=>158 | 217=>207 | 225=>208 | 224=>209 | 267=>210 | 266=>258 | 314=>259 | n=>n,fun | 9=>9 | 4=>4 | 59=>179 | 3=>3 | 5=>5 | 46=>139 | 146=>267 | 51=>225 | n=>n,fun | 1=>0 | n=>n⟩
theorem Tryz.lays145:Go.Proofs.Lays.n145 Tryz.prog Tryz.lays145_ren:={
 mixed:=by kernel_rfl
 f145:=Tryz.func145.trans (congrArg some (by kernel_rfl))
 f217:=Tryz.func207.trans (congrArg some (by kernel_rfl))
 f219:=Tryz.func158.trans (congrArg some (by kernel_rfl))
 f220:=Tryz.func197.trans (congrArg some (by kernel_rfl))
 f224:=Tryz.func209.trans (congrArg some (by kernel_rfl))
 f225:=Tryz.func208.trans (congrArg some (by kernel_rfl))
 f266:=Tryz.func258.trans (congrArg some (by kernel_rfl))
 f267:=Tryz.func210.trans (congrArg some (by kernel_rfl))
 f314:=Tryz.func259.trans (congrArg some (by kernel_rfl))
 t3:=Tryz.underlying3
 a3:=Tryz.isAgg3
 z3:=Tryz.sizeOf3
 v3:=Tryz.zeroValue3
 t4:=Tryz.underlying4
 a4:=Tryz.isAgg4
 z4:=Tryz.sizeOf4
 v4:=Tryz.zeroValue4
 t5:=Tryz.underlying5
 a5:=Tryz.isAgg5
 z5:=Tryz.sizeOf5
 v5:=Tryz.zeroValue5
 t9:=Tryz.underlying9
 a9:=Tryz.isAgg9
 z9:=Tryz.sizeOf9
 v9:=Tryz.zeroValue9
 t46:=Tryz.underlying139
 a46:=Tryz.isAgg139
 z46:=Tryz.sizeOf139
 v46:=Tryz.zeroValue139
 t51:=Tryz.underlying225
 a51:=Tryz.isAgg225
 z51:=Tryz.sizeOf225
 v51:=Tryz.zeroValue225
 t59:=Tryz.underlying179
 a59:=Tryz.isAgg179
 z59:=Tryz.sizeOf179
 v59:=Tryz.zeroValue179
 t146:=Tryz.underlying267
 a146:=Tryz.isAgg267
 z146:=Tryz.sizeOf267
 v146:=Tryz.zeroValue267
 g1:=by kernel_rfl }
open Go.RowKit Go.Lib in
theorem Tryz.strings_Cut (s sep:ByteArray) (m:Int) (w:World) (hs:s.size < 4294967281) (hm:w.cell? ⟨0,0,none⟩=some (.int .i64 m)) :
 Calls Tryz.prog 145 #[.string s,.string sep] w λe w'=>e=.returned (.tuple #[.string ⟨(Lib.cut s.data.toList sep.data.toList).1.toArray⟩,.string ⟨(Lib.cut s.data.toList sep.data.toList).2.1.toArray⟩,.bool (Lib.cut s.data.toList sep.data.toList).2.2])/\∃n,w'=w.drewN n:=Any.strings_Cut Tryz.lays145 s sep m w hs hm
def Tryz.laysM145_ren:Go.Shelf.Ren:=⟨fun | 145=>145 | 220=>197 | 219=>158 | 217=>207 | 225=>208 | 224=>209 | 267=>210 | 266=>258 | 314=>259 | n=>n,fun | 9=>9 | 4=>4 | 59=>179 | 3=>3 | 5=>5 | 46=>139 | 146=>267 | 51=>225 | n=>n,fun | 1=>0 | n=>n⟩
theorem Tryz.laysM145:Go.Proofs.LaysM.n145 Tryz.prog Tryz.laysM145_ren:={
 mixed:=by kernel_rfl
 f145:=Tryz.func145.trans (congrArg some (by kernel_rfl))
 f217:=Tryz.func207.trans (congrArg some (by kernel_rfl))
 f219:=Tryz.func158.trans (congrArg some (by kernel_rfl))
 f220:=Tryz.func197.trans (congrArg some (by kernel_rfl))
 f224:=Tryz.func209.trans (congrArg some (by kernel_rfl))
 f225:=Tryz.func208.trans (congrArg some (by kernel_rfl))
 f266:=Tryz.func258.trans (congrArg some (by kernel_rfl))
 f267:=Tryz.func210.trans (congrArg some (by kernel_rfl))
 f314:=Tryz.func259.trans (congrArg some (by kernel_rfl))
 t3:=Tryz.underlying3
 a3:=Tryz.isAgg3
 z3:=Tryz.sizeOf3
 v3:=Tryz.zeroValue3
 t4:=Tryz.underlying4
 a4:=Tryz.isAgg4
 z4:=Tryz.sizeOf4
 v4:=Tryz.zeroValue4
 t5:=Tryz.underlying5
 a5:=Tryz.isAgg5
 z5:=Tryz.sizeOf5
 v5:=Tryz.zeroValue5
 t9:=Tryz.underlying9
 a9:=Tryz.isAgg9
 z9:=Tryz.sizeOf9
 v9:=Tryz.zeroValue9
 t46:=Tryz.underlying139
 a46:=Tryz.isAgg139
 z46:=Tryz.sizeOf139
 v46:=Tryz.zeroValue139
 t51:=Tryz.underlying225
 a51:=Tryz.isAgg225
 z51:=Tryz.sizeOf225
 v51:=Tryz.zeroValue225
 t59:=Tryz.underlying179
 a59:=Tryz.isAgg179
 z59:=Tryz.sizeOf179
 v59:=Tryz.zeroValue179
 t146:=Tryz.underlying267
 a146:=Tryz.isAgg267
 z146:=Tryz.sizeOf267
 v146:=Tryz.zeroValue267
 g1:=by kernel_rfl
 i3:=by kernel_rfl
 i4:=by kernel_rfl
 i5:=by kernel_rfl
 i9:=by kernel_rfl
 i46:=by kernel_rfl
 i51:=by kernel_rfl
 i59:=by kernel_rfl
 i146:=by kernel_rfl
 m1:=by kernel_rfl
 s1_3:=λw h=>Go.Proofs.cell_of_shapedOpen_int (zero:=#[.int .i64 0]) (t:=3) h (of_decide_eq_true (by kernel_rfl)) (by kernel_rfl) rfl (by kernel_rfl) (by kernel_rfl) Tryz.underlying3 }
def Tryz.lays189_ren:Go.Shelf.Ren:=⟨fun | 189=>137 | 125=>193 | 257=>192 | 128=>250 | 129=>216 | 294=>241 | 295=>242 | 296=>243 | 297=>244 | 298=>245 | 299=>246 | 216=>247 | 300=>248 | 301=>249 | 328=>285 | 329=>286 | 330=>287 | 331=>288 | 332=>289 | 215=>277 | 343=>299 | n=>n,fun | 28=>68 | 3=>3 | 46=>139 | 0=>0 | 51=>225 | 53=>59 | 4=>4 | 183=>250 | 182=>249 | 131=>51 | 5=>5 | 9=>9 | 218=>283 | 222=>287 | 228=>298 | 229=>299 | n=>n,fun | n=>n⟩
theorem Tryz.lays189:Go.Proofs.Lays.n189 Tryz.prog Tryz.lays189_ren:={
 mixed:=by kernel_rfl
 f125:=Tryz.func193.trans (congrArg some (by kernel_rfl))
 f128:=Tryz.func250.trans (congrArg some (by kernel_rfl))
 f129:=Tryz.func216.trans (congrArg some (by kernel_rfl))
 f189:=Tryz.func137.trans (congrArg some (by kernel_rfl))
 f215:=Tryz.func277.trans (congrArg some (by kernel_rfl))
 f216:=Tryz.func247.trans (congrArg some (by kernel_rfl))
 f257:=Tryz.func192.trans (congrArg some (by kernel_rfl))
 f294:=Tryz.func241.trans (congrArg some (by kernel_rfl))
 f295:=Tryz.func242.trans (congrArg some (by kernel_rfl))
 f296:=Tryz.func243.trans (congrArg some (by kernel_rfl))
 f297:=Tryz.func244.trans (congrArg some (by kernel_rfl))
 f298:=Tryz.func245.trans (congrArg some (by kernel_rfl))
 f299:=Tryz.func246.trans (congrArg some (by kernel_rfl))
 f300:=Tryz.func248.trans (congrArg some (by kernel_rfl))
 f301:=Tryz.func249.trans (congrArg some (by kernel_rfl))
 f328:=Tryz.func285.trans (congrArg some (by kernel_rfl))
 f329:=Tryz.func286.trans (congrArg some (by kernel_rfl))
 f330:=Tryz.func287.trans (congrArg some (by kernel_rfl))
 f331:=Tryz.func288.trans (congrArg some (by kernel_rfl))
 f332:=Tryz.func289.trans (congrArg some (by kernel_rfl))
 f343:=Tryz.func299.trans (congrArg some (by kernel_rfl))
 t0:=Tryz.underlying0
 a0:=Tryz.isAgg0
 z0:=Tryz.sizeOf0
 v0:=Tryz.zeroValue0
 t3:=Tryz.underlying3
 a3:=Tryz.isAgg3
 z3:=Tryz.sizeOf3
 v3:=Tryz.zeroValue3
 t4:=Tryz.underlying4
 a4:=Tryz.isAgg4
 z4:=Tryz.sizeOf4
 v4:=Tryz.zeroValue4
 t5:=Tryz.underlying5
 a5:=Tryz.isAgg5
 z5:=Tryz.sizeOf5
 v5:=Tryz.zeroValue5
 t9:=Tryz.underlying9
 a9:=Tryz.isAgg9
 z9:=Tryz.sizeOf9
 v9:=Tryz.zeroValue9
 t28:=Tryz.underlying68
 a28:=Tryz.isAgg68
 z28:=Tryz.sizeOf68
 v28:=Tryz.zeroValue68
 t46:=Tryz.underlying139
 a46:=Tryz.isAgg139
 z46:=Tryz.sizeOf139
 v46:=Tryz.zeroValue139
 t51:=Tryz.underlying225
 a51:=Tryz.isAgg225
 z51:=Tryz.sizeOf225
 v51:=Tryz.zeroValue225
 t53:=Tryz.underlying59
 a53:=Tryz.isAgg59
 z53:=Tryz.sizeOf59
 v53:=Tryz.zeroValue59
 t131:=Tryz.underlying51
 a131:=Tryz.isAgg51
 z131:=Tryz.sizeOf51
 v131:=Tryz.zeroValue51
 t182:=Tryz.underlying249
 a182:=Tryz.isAgg249
 z182:=Tryz.sizeOf249
 v182:=Tryz.zeroValue249
 t183:=Tryz.underlying250
 a183:=Tryz.isAgg250
 z183:=Tryz.sizeOf250
 v183:=Tryz.zeroValue250
 t218:=Tryz.underlying283
 a218:=Tryz.isAgg283
 z218:=Tryz.sizeOf283
 v218:=Tryz.zeroValue283
 t222:=Tryz.underlying287
 a222:=Tryz.isAgg287
 z222:=Tryz.sizeOf287
 v222:=Tryz.zeroValue287
 t228:=Tryz.underlying298
 a228:=Tryz.isAgg298
 z228:=Tryz.sizeOf298
 v228:=Tryz.zeroValue298
 t229:=Tryz.underlying299
 a229:=Tryz.isAgg299
 z229:=Tryz.sizeOf299
 v229:=Tryz.zeroValue299 }
open Go.Sort Go.RowKit in
theorem Tryz.slices_Sort_int (blk off cap:Nat) (zs:List Int) (w:World) (hH:Holds (Value.int .i64) w blk off zs.toArray) (hblk:blk < w.heap.size) (hsz:zs.length < 4611686018427387904) :
 Calls Tryz.prog 137 #[.slice (some ⟨blk,off,none⟩) zs.length cap] w λe w' =>
  e=.returned (.tuple #[])/\∃n os,w'=grow (putRow (Value.int .i64) (Sort.ahead w n) blk off (zs.mergeSort λx y=>decide (x<=y)).toArray) os:=Any.slices_Sort_int Tryz.lays189 blk off cap zs w hH hblk hsz
def Tryz.lays146_ren:Go.Shelf.Ren:=⟨fun | 146=>31 | 221=>65 | 268=>101 | 138=>102 | 143=>103 | 195=>155 | 197=>156 | 218=>157 | 219=>158 | 260=>206 | 217=>207 | 225=>208 | 224=>209 | 267=>210 | 266=>258 | 314=>259 | n=>n,fun | 9=>9 | 31=>35 | 3=>3 | 4=>4 | 0=>0 | 105=>189 | 21=>21 | 5=>5 | 46=>139 | 119=>263 | 139=>266 | 138=>265 | 146=>267 | 51=>225 | n=>n,fun | 1=>0 | 3=>2 | 4=>3 | n=>n⟩
theorem Tryz.lays146:Go.Proofs.Lays.n146 Tryz.prog Tryz.lays146_ren:={
 mixed:=by kernel_rfl
 f138:=Tryz.func102.trans (congrArg some (by kernel_rfl))
 f143:=Tryz.func103.trans (congrArg some (by kernel_rfl))
 f146:=Tryz.func31.trans (congrArg some (by kernel_rfl))
 f195:=Tryz.func155.trans (congrArg some (by kernel_rfl))
 f197:=Tryz.func156.trans (congrArg some (by kernel_rfl))
 f217:=Tryz.func207.trans (congrArg some (by kernel_rfl))
 f218:=Tryz.func157.trans (congrArg some (by kernel_rfl))
 f219:=Tryz.func158.trans (congrArg some (by kernel_rfl))
 f221:=Tryz.func65.trans (congrArg some (by kernel_rfl))
 f224:=Tryz.func209.trans (congrArg some (by kernel_rfl))
 f225:=Tryz.func208.trans (congrArg some (by kernel_rfl))
 f260:=Tryz.func206.trans (congrArg some (by kernel_rfl))
 f266:=Tryz.func258.trans (congrArg some (by kernel_rfl))
 f267:=Tryz.func210.trans (congrArg some (by kernel_rfl))
 f268:=Tryz.func101.trans (congrArg some (by kernel_rfl))
 f314:=Tryz.func259.trans (congrArg some (by kernel_rfl))
 t0:=Tryz.underlying0
 a0:=Tryz.isAgg0
 z0:=Tryz.sizeOf0
 v0:=Tryz.zeroValue0
 t3:=Tryz.underlying3
 a3:=Tryz.isAgg3
 z3:=Tryz.sizeOf3
 v3:=Tryz.zeroValue3
 t4:=Tryz.underlying4
 a4:=Tryz.isAgg4
 z4:=Tryz.sizeOf4
 v4:=Tryz.zeroValue4
 t5:=Tryz.underlying5
 a5:=Tryz.isAgg5
 z5:=Tryz.sizeOf5
 v5:=Tryz.zeroValue5
 t9:=Tryz.underlying9
 a9:=Tryz.isAgg9
 z9:=Tryz.sizeOf9
 v9:=Tryz.zeroValue9
 t21:=Tryz.underlying21
 a21:=Tryz.isAgg21
 z21:=Tryz.sizeOf21
 v21:=Tryz.zeroValue21
 t31:=Tryz.underlying35
 a31:=Tryz.isAgg35
 z31:=Tryz.sizeOf35
 v31:=Tryz.zeroValue35
 t46:=Tryz.underlying139
 a46:=Tryz.isAgg139
 z46:=Tryz.sizeOf139
 v46:=Tryz.zeroValue139
 t51:=Tryz.underlying225
 a51:=Tryz.isAgg225
 z51:=Tryz.sizeOf225
 v51:=Tryz.zeroValue225
 t105:=Tryz.underlying189
 a105:=Tryz.isAgg189
 z105:=Tryz.sizeOf189
 v105:=Tryz.zeroValue189
 t119:=Tryz.underlying263
 a119:=Tryz.isAgg263
 z119:=Tryz.sizeOf263
 t138:=Tryz.underlying265
 a138:=Tryz.isAgg265
 z138:=Tryz.sizeOf265
 v138:=Tryz.zeroValue265
 t139:=Tryz.underlying266
 a139:=Tryz.isAgg266
 z139:=Tryz.sizeOf266
 v139:=Tryz.zeroValue266
 t146:=Tryz.underlying267
 a146:=Tryz.isAgg267
 z146:=Tryz.sizeOf267
 v146:=Tryz.zeroValue267
 g1:=by kernel_rfl
 g3:=by kernel_rfl
 g4:=by kernel_rfl }
open Go.RowKit Go.Lib in
theorem Tryz.strings_Split (s sep:ByteArray) (m:Int) (w:World) (hs:s.size < 4294967281) (hm:w.cell? ⟨0,0,none⟩=some (.int .i64 m)) (h1:1<=sep.size) :
 Calls Tryz.prog 31 #[.string s,.string sep] w λe w' =>
  e=.returned (.slice (some ⟨w.heap.size,0,none⟩) (Lib.countB s sep+1) (Lib.countB s sep+1))/\w'=w.alloc (.cells ((Lib.splitB sep 0 (Lib.countB s sep) s).map Value.string).toArray 9):=Any.strings_Split Tryz.lays146 (by kernel_rfl) s sep m w hs hm h1
open Go.RowKit Go.Sort in
theorem Tryz.slices_Sort_int_none (p:Option Addr) (cap:Nat) (w:World) :
 Calls Tryz.prog 137 #[.slice p 0 cap] w λe w'=>e=.returned (.tuple #[])/\w'=w:=Any.slices_Sort_int_none Tryz.lays189 p cap w
def Tryz.laysC172_ren:Go.Shelf.Ren:=⟨fun | 172=>112 | 244=>171 | 245=>172 | 247=>222 | 279=>223 | 280=>224 | 281=>225 | 282=>226 | 287=>266 | 316=>267 | 171=>34 | 205=>268 | 321=>291 | 322=>292 | 243=>67 | 246=>106 | 283=>163 | 284=>164 | 285=>165 | 286=>166 | 129=>216 | 317=>215 | 318=>217 | 319=>218 | 320=>219 | 337=>264 | 338=>265 | n=>n,fun | 9=>9 | 3=>3 | 75=>149 | 76=>150 | 4=>4 | 5=>5 | 167=>230 | 37=>22 | 0=>0 | 85=>231 | 2=>2 | 168=>233 | 53=>59 | 175=>270 | 46=>139 | 210=>273 | 127=>199 | 145=>295 | 143=>293 | 21=>21 | 171=>194 | 173=>197 | 212=>224 | 51=>225 | 20=>20 | 213=>226 | 232=>290 | 233=>291 | 80=>152 | n=>n,fun | 15=>4 | 16=>5 | 17=>1 | 18=>6 | 19=>7 | n=>n⟩
theorem Tryz.laysC172:Go.Proofs.LaysC.n172 Tryz.prog Tryz.laysC172_ren:={
 mixed:=by kernel_rfl
 f129:=Tryz.func216.trans (congrArg some (by kernel_rfl))
 f171:=Tryz.func34.trans (congrArg some (by kernel_rfl))
 f172:=Tryz.func112.trans (congrArg some (by kernel_rfl))
 f205:=Tryz.func268.trans (congrArg some (by kernel_rfl))
 f243:=Tryz.func67.trans (congrArg some (by kernel_rfl))
 f244:=Tryz.func171.trans (congrArg some (by kernel_rfl))
 f245:=Tryz.func172.trans (congrArg some (by kernel_rfl))
 f246:=Tryz.func106.trans (congrArg some (by kernel_rfl))
 f247:=Tryz.func222.trans (congrArg some (by kernel_rfl))
 f279:=Tryz.func223.trans (congrArg some (by kernel_rfl))
 f280:=Tryz.func224.trans (congrArg some (by kernel_rfl))
 f281:=Tryz.func225.trans (congrArg some (by kernel_rfl))
 f282:=Tryz.func226.trans (congrArg some (by kernel_rfl))
 f283:=Tryz.func163.trans (congrArg some (by kernel_rfl))
 f284:=Tryz.func164.trans (congrArg some (by kernel_rfl))
 f285:=Tryz.func165.trans (congrArg some (by kernel_rfl))
 f286:=Tryz.func166.trans (congrArg some (by kernel_rfl))
 f287:=Tryz.func266.trans (congrArg some (by kernel_rfl))
 f316:=Tryz.func267.trans (congrArg some (by kernel_rfl))
 f317:=Tryz.func215.trans (congrArg some (by kernel_rfl))
 f318:=Tryz.func217.trans (congrArg some (by kernel_rfl))
 f319:=Tryz.func218.trans (congrArg some (by kernel_rfl))
 f320:=Tryz.func219.trans (congrArg some (by kernel_rfl))
 f321:=Tryz.func291.trans (congrArg some (by kernel_rfl))
 f322:=Tryz.func292.trans (congrArg some (by kernel_rfl))
 f337:=Tryz.func264.trans (congrArg some (by kernel_rfl))
 f338:=Tryz.func265.trans (congrArg some (by kernel_rfl))
 t0:=Tryz.underlying0
 a0:=Tryz.isAgg0
 z0:=Tryz.sizeOf0
 v0:=Tryz.zeroValue0
 t2:=Tryz.underlying2
 a2:=Tryz.isAgg2
 z2:=Tryz.sizeOf2
 v2:=Tryz.zeroValue2
 t3:=Tryz.underlying3
 a3:=Tryz.isAgg3
 z3:=Tryz.sizeOf3
 v3:=Tryz.zeroValue3
 t4:=Tryz.underlying4
 a4:=Tryz.isAgg4
 z4:=Tryz.sizeOf4
 v4:=Tryz.zeroValue4
 t5:=Tryz.underlying5
 a5:=Tryz.isAgg5
 z5:=Tryz.sizeOf5
 v5:=Tryz.zeroValue5
 t9:=Tryz.underlying9
 a9:=Tryz.isAgg9
 z9:=Tryz.sizeOf9
 v9:=Tryz.zeroValue9
 t20:=Tryz.underlying20
 a20:=Tryz.isAgg20
 z20:=Tryz.sizeOf20
 v20:=Tryz.zeroValue20
 t21:=Tryz.underlying21
 a21:=Tryz.isAgg21
 z21:=Tryz.sizeOf21
 v21:=Tryz.zeroValue21
 t37:=Tryz.underlying22
 a37:=Tryz.isAgg22
 z37:=Tryz.sizeOf22
 v37:=Tryz.zeroValue22
 t46:=Tryz.underlying139
 a46:=Tryz.isAgg139
 z46:=Tryz.sizeOf139
 v46:=Tryz.zeroValue139
 t51:=Tryz.underlying225
 a51:=Tryz.isAgg225
 z51:=Tryz.sizeOf225
 v51:=Tryz.zeroValue225
 t53:=Tryz.underlying59
 a53:=Tryz.isAgg59
 z53:=Tryz.sizeOf59
 v53:=Tryz.zeroValue59
 t75:=Tryz.underlying149
 a75:=Tryz.isAgg149
 z75:=Tryz.sizeOf149
 v75:=Tryz.zeroValue149
 t76:=Tryz.underlying150
 a76:=Tryz.isAgg150
 z76:=Tryz.sizeOf150
 v76:=Tryz.zeroValue150
 t85:=Tryz.underlying231
 a85:=Tryz.isAgg231
 z85:=Tryz.sizeOf231
 v85:=Tryz.zeroValue231
 t127:=Tryz.underlying199
 a127:=Tryz.isAgg199
 z127:=Tryz.sizeOf199
 v127:=Tryz.zeroValue199
 t143:=Tryz.underlying293
 a143:=Tryz.isAgg293
 z143:=Tryz.sizeOf293
 v143:=Tryz.zeroValue293
 t145:=Tryz.underlying295
 a145:=Tryz.isAgg295
 z145:=Tryz.sizeOf295
 v145:=Tryz.zeroValue295
 t167:=Tryz.underlying230
 a167:=Tryz.isAgg230
 z167:=Tryz.sizeOf230
 v167:=Tryz.zeroValue230
 t168:=Tryz.underlying233
 a168:=Tryz.isAgg233
 z168:=Tryz.sizeOf233
 v168:=Tryz.zeroValue233
 t171:=Tryz.underlying194
 a171:=Tryz.isAgg194
 z171:=Tryz.sizeOf194
 v171:=Tryz.zeroValue194
 t173:=Tryz.underlying197
 a173:=Tryz.isAgg197
 z173:=Tryz.sizeOf197
 v173:=Tryz.zeroValue197
 t175:=Tryz.underlying270
 a175:=Tryz.isAgg270
 z175:=Tryz.sizeOf270
 v175:=Tryz.zeroValue270
 t210:=Tryz.underlying273
 a210:=Tryz.isAgg273
 z210:=Tryz.sizeOf273
 v210:=Tryz.zeroValue273
 t212:=Tryz.underlying224
 a212:=Tryz.isAgg224
 z212:=Tryz.sizeOf224
 v212:=Tryz.zeroValue224
 t213:=Tryz.underlying226
 a213:=Tryz.isAgg226
 z213:=Tryz.sizeOf226
 t232:=Tryz.underlying290
 a232:=Tryz.isAgg290
 z232:=Tryz.sizeOf290
 v232:=Tryz.zeroValue290
 t233:=Tryz.underlying291
 a233:=Tryz.isAgg291
 z233:=Tryz.sizeOf291
 v233:=Tryz.zeroValue291
 g15:=by kernel_rfl
 g16:=by kernel_rfl
 g17:=by kernel_rfl
 g18:=by kernel_rfl
 g19:=by kernel_rfl
 t80:=Tryz.underlying152
 a80:=Tryz.isAgg152
 z80:=Tryz.sizeOf152
 v80:=Tryz.zeroValue152
 i0:=by kernel_rfl
 i2:=by kernel_rfl
 i3:=by kernel_rfl
 i4:=by kernel_rfl
 i5:=by kernel_rfl
 i9:=by kernel_rfl
 i20:=by kernel_rfl
 i21:=by kernel_rfl
 i37:=by kernel_rfl
 i46:=by kernel_rfl
 i51:=by kernel_rfl
 i53:=by kernel_rfl
 i75:=by kernel_rfl
 i76:=by kernel_rfl
 i80:=by kernel_rfl
 i85:=by kernel_rfl
 i127:=by kernel_rfl
 i143:=by kernel_rfl
 i145:=by kernel_rfl
 i167:=by kernel_rfl
 i168:=by kernel_rfl
 i171:=by kernel_rfl
 i173:=by kernel_rfl
 i175:=by kernel_rfl
 i210:=by kernel_rfl
 i212:=by kernel_rfl
 i232:=by kernel_rfl
 i233:=by kernel_rfl
 m15:=by kernel_rfl
 m16:=by kernel_rfl
 m17:=by kernel_rfl
 m18:=by kernel_rfl
 m19:=by kernel_rfl
 c0:=by kernel_rfl
 c2:=by kernel_rfl
 c3:=by kernel_rfl
 c4:=by kernel_rfl
 c5:=by kernel_rfl
 c9:=by kernel_rfl
 c20:=by kernel_rfl
 c21:=by kernel_rfl
 c37:=by kernel_rfl
 c46:=by kernel_rfl
 c51:=by kernel_rfl
 c53:=by kernel_rfl
 c75:=by kernel_rfl
 c76:=by kernel_rfl
 c80:=by kernel_rfl
 c85:=by kernel_rfl
 c127:=by kernel_rfl
 c143:=by kernel_rfl
 c145:=by kernel_rfl
 c167:=by kernel_rfl
 c168:=by kernel_rfl
 c171:=by kernel_rfl
 c173:=by kernel_rfl
 c175:=by kernel_rfl
 c210:=by kernel_rfl
 c212:=by kernel_rfl
 c213:=by kernel_rfl
 c232:=by kernel_rfl
 c233:=by kernel_rfl }
end Go.Proofs
namespace Go.Proofs.YtdhckhjphmjniaaGreatDoor
open Go Go.Rf Go.Proofs Go.RowKit
theorem a1t (s:ByteArray) (c:UInt8):Ctr Tryz.prog 72 [.v (.string s),.v (.string ⟨#[c]⟩)] (.one (.v (.bool (m4 s c.toNat)))) :=
 Ctr.lib (xs:=[.string s,.string ⟨#[c]⟩]) ⟨_,Tryz.func72,by kernel_rfl,Z⟩ (λw he=>(Tryz.strings_Contains_one s c w).mono λe w' ⟨h,hw⟩=>⟨by rw [h,a3o],hw▸Below.refl _ _⟩)
theorem y8 (n:Int) (h0:-9223372036854775808<=n) (h1:n<=9223372036854775807):Ctr Tryz.prog 34 [.v (.int .i64 n)] (.one (.v (.string (s5 n)))) :=
 Ctr.lib (xs:=[.int .i64 n]) ⟨_,Tryz.func34,by kernel_rfl,Z⟩ (λw he=>(Tryz.strconv_Itoa n h0 h1 w he.1).mono λe w' ⟨h,k,os,hw⟩=>⟨h,hw▸b4K w k os⟩)
theorem b7L (W:World) (hsh:W.ShapedOpen Tryz.prog):∃m:Int,W.cell? ⟨0,0,none⟩=some (.int .i64 m):=Tryz.laysM145.s1_3 W hsh
theorem a0p (s:ByteArray) (c:UInt8) (b:Int) (hb:b=(c.toNat:Int)) (hs:s.size<=1048576):Ctr Tryz.prog 145 [.v (.string s),.v (.string ⟨#[c]⟩)] (.many [.v (.string (l9 s b)),.v (.string (u4 s b)),.v (.bool (m4 s b))]):=by
 subst hb
 obtain ⟨h1,h2,h3⟩:=c0N (s:=s) (c:=c)
 refine ⟨⟨_,Tryz.func145,by kernel_rfl,Z⟩,λw vs he hv=>?_⟩
 rw [RelVs.map_v_eq (w0:=w) [.string s,.string ⟨#[c]⟩] hv]
 obtain ⟨m,hm⟩:=he.2.2
 refine (Tryz.strings_Cut s ⟨#[c]⟩ m w J hm).mono λe w' ⟨g1,n,g2⟩=>?_
 rw [h1,h2,h3] at g1
 refine ⟨_,g1,⟨_,Z,?_⟩,g2▸⟨Z,Z,Z,Nat.le_refl _,λi hi=>Z⟩⟩
 exact ⟨_,_,Z,Z,⟨_,_,Z,Z,⟨_,_,Z,Z,Z,λ_ h=>h.elim⟩,λ_ h=>h.elim⟩,λ_ h=>h.elim⟩
theorem Z2 (l:List Int) (hl:l.length<=1048576):CtrM Tryz.prog 137 [.own 0] [.row 3 1 (l.map Go.Rf.r7)] (.many []) [some (.row 3 1 ((srtI l).map Go.Rf.r7))] :=
 CtrM.sort ⟨_,Tryz.func137,by kernel_rfl,Z⟩ hl (λblk off cap w hH hb hs=>Tryz.slices_Sort_int blk off cap l w hH hb hs) (λp cap w=>Tryz.slices_Sort_int_none p cap w)
theorem a4A (ws:List ByteArray) (hl:ws.length<=1048576) (hs:(jnA ws).size<=140737488355328):Ctr Tryz.prog 68 [.lst 1 (ws.map a0M),.v (.string ⟨#[32]⟩)] (.one (.v (.string (jnA ws)))) :=
 Ctr.join ⟨_,Tryz.func68,by kernel_rfl,Z⟩ hl hs (λbk o c w h hb hn hc hj=>Tryz.strings_Join bk o c ws spB w h hb hn hc hj) (λa c w=>Tryz.strings_Join_none a c spB w)
theorem b0E (s:ByteArray) (hs:s.size<=18):CtrX (α:=Value) Tryz.prog 112 [.v (.string s)] [] (λy=>c2q y/\nnB y=(Lib.atoi s.data.toList).isNone) (λy=>.many [.v (.int .i64 ((Lib.atoi s.data.toList).getD 0)),.v y]) (λ_=>[]) :=
 CtrX.lib (xs:=[.string s]) ⟨_,Tryz.func112,by kernel_rfl,Z⟩ (λw he=>by
  cases ha:Lib.atoi s.data.toList with
  | some n=>exact (Any.strconv_Atoi { Tryz.laysC172 with } s n hs ha w).mono λe w' ⟨h,t,hw⟩=>⟨.nilIface,⟨.inl Z,Z⟩,h,hw▸Lib.bytesWorld_below _ _ _⟩
  | none =>
   obtain ⟨ev,h1,h2⟩:=he.2.1
   exact (Any.strconv_Atoi_err Tryz.laysC172 s hs ha ev w h1 h2).mono λe w' ⟨N,h,_,_,hb⟩=>⟨_,⟨.inr ⟨_,_,Z⟩,Z⟩,h,hb⟩)
theorem b5x:∀{l:List ByteArray},(l.map a0M).flatten=l.map Value.string
 | []=>rfl
 | x :: r=>by simp [a0M,b5x (l:=r)]
theorem a3R (s:ByteArray) (c:UInt8) (hs:s.size<=1048576):Ctr Tryz.prog 31 [.v (.string s),.v (.string ⟨#[c]⟩)] (.one (.fr 9 1 ((i6 s c.toNat).map a0M))) :=
 ⟨⟨_,Tryz.func31,by kernel_rfl,Z⟩,λw vs he hv=>by
  rw [RelVs.map_v_eq (w0:=w) [.string s,.string ⟨#[c]⟩] hv]
  obtain ⟨m,hm⟩:=he.2.2
  refine (Tryz.strings_Split s ⟨#[c]⟩ m w J hm (Nat.le_refl 1)).mono ?_
  rintro e w' ⟨rfl,rfl⟩
  have hsp:=b7b (c:=c) s.size s (Nat.le_refl _)
  have hlen:=Lib.splitB_all ⟨#[c]⟩ (Nat.le_refl 1) 0 (Lib.countB s ⟨#[c]⟩) s Z
  rw [hsp] at hlen ⊢
  have hl:=F7 (s:=s) (b:=c.toNat)
  refine ⟨_,Z,?_,(Below.refl w.heap.size w).alloc (Nat.le_refl _) _⟩
  rw [← hlen]
  simp only [ResRel,RCRel]
  refine ⟨⟨by simp [b5x],.inr ⟨w.heap.size,(i6 s c.toNat).length,_,by simp,Nat.le_refl _,heap_alloc_new w _,by simp,by unfold maxLen;omega,by simp,by simp only [Nat.mul_one,b5x,List.toList_toArray];exact List.take_of_length_le (by simp)⟩⟩,λx hx=>?_⟩
  obtain ⟨y,_,rfl⟩:=List.mem_map.1 hx
  exact ⟨Z,λu hu=>by rw [List.mem_singleton.1 hu];rfl⟩⟩
theorem b7M (s:ByteArray) (hs:s.size<=1048576):Ctr Tryz.prog 31 [.v (.string s),.v (.string ⟨#[32]⟩)] (.one (.fr 9 1 ((i6 s 32).map a0M))):=a3R s 32 hs
theorem b7N (s:ByteArray) (hs:s.size<=1048576):Ctr Tryz.prog 31 [.v (.string s),.v (.string ⟨#[10]⟩)] (.one (.fr 9 1 ((i6 s 10).map a0M))):=a3R s 10 hs
end Go.Proofs.YtdhckhjphmjniaaGreatDoor
namespace Go.Proofs.YtdhckhjphmjniaaGreatDoor
open Go Go.Rf
theorem H9 (n l h:Int):Ctr Tryz.prog 59 [.v (.int .i64 n),.v (.int .i64 l),.v (.int .i64 h)] (.one (.v (.bool (n7 n l h)))):=by
 refine Ctr.of (n:=15) G Tryz.func59 Z a8 Z Z Z (λw0=>?_)
 refine zcd (λh1=>?_) (λh1=>?_)
 ·exact b6K
 exact b6K
theorem a0I (n l h:Int):Ctr Tryz.prog 124 [.v (.int .i64 n),.v (.int .i64 l),.v (.int .i64 h)] (.one (.v (.bool (n7 n l h)))):=by
 refine Ctr.of (n:=15) G Tryz.func124 Z a8 Z Z Z (λw0=>?_)
 refine zcd (λh1=>?_) (λh1=>?_)
 ·exact b6K
 exact b6K
theorem a5J (n:Int):Ctr Tryz.prog 134 [.v (.int .i64 n)] (.one (.v (.bool (n7 n 0 16)))):=by
 refine Ctr.of (n:=5) G Tryz.func134 Z a8 Z Z Z (λw0=>?_)
 exact b6O
theorem a08 (n:Int):Ctr Tryz.prog 177 [.v (.int .i64 n)] (.one (.v (.bool (n7 n 0 7)))):=by
 refine Ctr.of (n:=5) G Tryz.func177 Z a8 Z Z Z (λw0=>?_)
 exact b6O
theorem a09 (n:Int):Ctr Tryz.prog 148 [.v (.int .i64 n)] (.one (.v (.bool (n7 n 0 7)))):=by
 refine Ctr.of (n:=5) G Tryz.func148 Z a8 Z Z Z (λw0=>?_)
 refine b3d ?_
 exact c0j
theorem Y2 (n:Int):Ctr Tryz.prog 133 [.v (.int .i64 n)] (.one (.v (.bool (n7 n 0 15)))):=by
 refine Ctr.of (n:=5) G Tryz.func133 Z a8 Z Z Z (λw0=>?_)
 exact b6O
theorem a0q (n:Int):Ctr Tryz.prog 147 [.v (.int .i64 n)] (.one (.v (.bool (n7 n 0 15)))):=by
 refine Ctr.of (n:=5) G Tryz.func147 Z a8 Z Z Z (λw0=>?_)
 refine b3d ?_
 exact c0j
theorem a10 (x:Cur) (h0:0<=x.a/\x.a<=4611686018427387904) (hc:X3 x.c):CtrM Tryz.prog 64 [.ptr 0 0] [.box [.lst 1 (x.c.map B4),.v (.int .i64 x.a),.v (.int .u64 x.s)]] (.one (.v (.int .i64 (nxV x)))) [some (.box [.lst 1 ((nxC x).c.map B4),.v (.int .i64 (nxC x).a),.v (.int .u64 (nxC x).s)])]:=by
 have hcl:=hc.1
 have hcb:=b70 hc
 refine CtrM.of (n:=62) (k:=1) G Tryz.func64 Z Y Z Z Z Z Z Z Z (λw0 _ hpin=>?_)
 refine c1 (λK1 hK1=>?_)
 refine b6 (a7 Z (b5 Z Z (b8 Z Z) (b4 (hK1 _ ?_))))
 clear hK1 K1
 refine c7a (id:=0) Z (λy=>?_)
 refine c1 (λK2 hK2=>?_)
 refine b6 (a7 Z (b5 Z Z (b8 Z Z) (b4 (hK2 _ ?_))))
 clear hK2 K2
 refine c1 (λK3 hK3=>?_)
 refine c1 (λK4 hK4=>?_)
 refine I2 mixed Y (c6 Z (g8 Z Z (b9 Z Z) (c6 Z (g8 Z Z (s8 Z Z) (c6 Z (g8 Z Z (d3 G Z Z Z Z) (c6 Z (g8 Z Z (f7 G Z Z Z Z Z Z Z) (c6 Z (g8 Z Z (b9 Z Z) (c6 Z (g8 Z Z (s8 Z Z) (c6 Z (g8 Z Z (d3 G Z Z Z Z) (c6 Z (g8 Z Z (f7 G Z Z Z Z Z Z Z) (c6 Z ?_)))))))))))))))))
 first | refine g8 Z Z (E1 G Z Z Z Z (List.length_map _)) ?_ | refine g8 Z Z (K0 G Z Z Z Z) ?_
 refine c6 Z (g8 Z Z (t8 Z Z Z Z) (S4 (hK4 _ ?_)))
 clear hK4 K4
 refine l4 Z (λh1=>?_) (λh1=>?_)
 ·try rw [h1]
  try simp only [rfb] at h1
  refine I2 mixed Y (c6 Z (g8 Z Z (b9 Z Z) (c6 Z (g8 Z Z (s8 Z Z) (c6 Z (g8 Z Z (d3 G Z Z Z Z) (c6 Z (g8 Z Z (f7 G Z Z Z Z Z Z Z) (c6 Z (g8 Z Z (b9 Z Z) (c6 Z (g8 Z Z (s8 Z Z) (c6 Z (g8 Z Z (d3 G Z Z Z Z) (c6 Z (g8 Z Z (f7 G Z Z Z Z Z Z Z) (c6 Z (g8 Z Z (a1G G Z Z Z Z J (A7 J J)) (c6 Z (g8 Z Z (a5O G Z Z Z Z Z) (c6 Z ?_)))))))))))))))))))))
  first | refine g8 Z Z (a7W G Z Z Z Z J J) ?_ | refine g8 Z Z (a17 G Z Z Z Z) ?_
  refine c6 Z (g8 Z Z (b8 Z Z) (S4 (hK3 _ ?_)))
  clear hK3 K3
  try rw [show IntKind.i64.wrap (x.c.getD x.a.toNat default)=nxB x from by rw [c2l (by assumption)] at hcb ⊢;exact O2 J J]
  refine c1 (λK5 hK5=>?_)
  refine b6 (a7 Z (b5 Z Z (b9 Z Z) (a7 Z (b5 Z Z (s8 Z Z) (a7 Z (b5 Z Z (d3 G Z Z Z Z) (a7 Z (b5 Z Z (f7 G Z Z Z Z Z Z Z) (a7 Z ?_)))))))))
  first | refine b5 Z Z (p5 Z Z Z Z J J) ?_ | refine b5 Z Z (s3 Z Z Z Z) ?_
  refine a7 Z (b5 Z Z (s8 Z Z) (a7 Z (b5 Z Z (d3 G Z Z Z Z) (a7 Z (e9 G Z Z Z Z Z Z Z Z Z Z Z (b4 (hK5 _ ?_)))))))
  clear hK5 K5
  refine c1 (λK6 hK6=>?_)
  refine b6 (a7 Z (b5 Z Z (b9 Z Z) (a7 Z (b5 Z Z (b9 Z Z) (a7 Z (b5 Z Z (s8 Z Z) (a7 Z (b5 Z Z (d3 G Z Z Z Z) (a7 Z (b5 Z Z (f7 G Z Z Z Z Z Z Z) (a7 Z ?_)))))))))))
  first | refine b5 Z Z (p5 Z Z Z Z J J) ?_ | refine b5 Z Z (s3 Z Z Z Z) ?_
  refine a7 Z (b5 Z Z (b9 Z Z) (a7 Z (b5 Z Z (a17 G Z Z Z Z) (a7 Z ?_))))
  first | refine b5 Z Z (p5 Z Z Z Z J J) ?_ | refine b5 Z Z (s3 Z Z Z Z) ?_
  refine a7 Z ?_
  first | refine b5 Z Z (p5 Z Z Z Z J J) ?_ | refine b5 Z Z (s3 Z Z Z Z) ?_
  refine a7 Z (b5 Z Z (s8 Z Z) (a7 Z (b5 Z Z (d3 G Z Z Z Z) (a7 Z (e9 G Z Z Z Z Z Z Z Z Z Z Z (b4 (hK6 _ ?_)))))))
  clear hK6 K6
  refine c1 (λK7 hK7=>?_)
  refine c1 (λK8 hK8=>?_)
  refine I2 mixed Y (c6 Z (g8 Z Z (b9 Z Z) (c6 Z (g8 Z Z (s8 Z Z) (c6 Z (g8 Z Z (d3 G Z Z Z Z) (c6 Z (g8 Z Z (f7 G Z Z Z Z Z Z Z) (c6 Z (g8 Z Z (b9 Z Z) (c6 Z (g8 Z Z (s8 Z Z) (c6 Z (g8 Z Z (d3 G Z Z Z Z) (c6 Z (g8 Z Z (f7 G Z Z Z Z Z Z Z) (c6 Z ?_)))))))))))))))))
  first | refine g8 Z Z (E1 G Z Z Z Z (List.length_map _)) ?_ | refine g8 Z Z (K0 G Z Z Z Z) ?_
  refine c6 Z (g8 Z Z (t8 Z Z Z Z) (S4 (hK8 _ ?_)))
  clear hK8 K8
  refine l4 Z (λh2=>?_) (λh2=>?_)
  ·try rw [h2]
   try simp only [rfb] at h2
   refine c1 (λK9 hK9=>?_)
   refine b6 (a7 Z (b5 Z Z (b9 Z Z) (a7 Z (b5 Z Z (b8 Z Z) (b4 (hK9 _ ?_))))))
   clear hK9 K9
   refine a9v (id:=0) Z ?_
   refine d8 (n9 Z (j8 ?_) Z (AftOK.stays Z ?_ Z AftOK.nil))
   all_goals clear hK7 K7
   all_goals (first | (rw [b7Z J];done) | (exfalso;omega) | (simp only [nxC,nxS];done) | (simp only [nxC,nxS,b1l (show ¬ x.a < (x.c.length:Int) by omega)];done) | (rw [b1m J];exact congrArg (Value.int .i64) (O2 (Int.le_trans (by decide) R2.1) (Int.le_trans R2.2 (by decide)))) | (rw [b1m J];simp only [nxT,nxS,b1l (show ¬ x.a < (x.c.length:Int) by omega)];exact congrArg (Value.int .i64) (O2 (Int.le_trans (by decide) R2.1) (Int.le_trans R2.2 (by decide)))))
  ·try rw [h2]
   try simp only [rfb] at h2
   refine p8 (hK7 _ ?_)
   clear hK7 K7
   refine c1 (λK10 hK10=>?_)
   refine b6 (a7 Z (b5 Z Z (b9 Z Z) (a7 Z (b5 Z Z (s8 Z Z) (a7 Z (b5 Z Z (d3 G Z Z Z Z) (a7 Z (b5 Z Z (f7 G Z Z Z Z Z Z Z) (a7 Z (b5 Z Z (c2j Z Z Z (by decide)) (a7 Z (b5 Z Z (c2k Z Z Z) (a7 Z (b5 Z Z (a17 G Z Z Z Z) (a7 Z (b5 Z Z (b8 Z Z) (b4 (hK10 _ ?_))))))))))))))))))
   clear hK10 K10
   exact c88
 ·try rw [h1]
  try simp only [rfb] at h1
  refine p8 (hK3 _ ?_)
  clear hK3 K3
  try rw [show IntKind.i64.wrap (x.c.getD x.a.toNat default)=nxB x from by rw [c2l (by assumption)] at hcb ⊢;exact O2 J J]
  refine c1 (λK11 hK11=>?_)
  refine b6 (a7 Z (b5 Z Z (b9 Z Z) (a7 Z (b5 Z Z (s8 Z Z) (a7 Z (b5 Z Z (d3 G Z Z Z Z) (a7 Z (b5 Z Z (f7 G Z Z Z Z Z Z Z) (a7 Z ?_)))))))))
  first | refine b5 Z Z (p5 Z Z Z Z J J) ?_ | refine b5 Z Z (s3 Z Z Z Z) ?_
  refine a7 Z (b5 Z Z (s8 Z Z) (a7 Z (b5 Z Z (d3 G Z Z Z Z) (a7 Z (e9 G Z Z Z Z Z Z Z Z Z Z Z (b4 (hK11 _ ?_)))))))
  clear hK11 K11
  refine c1 (λK12 hK12=>?_)
  refine b6 (a7 Z (b5 Z Z (b9 Z Z) (a7 Z (b5 Z Z (b9 Z Z) (a7 Z (b5 Z Z (s8 Z Z) (a7 Z (b5 Z Z (d3 G Z Z Z Z) (a7 Z (b5 Z Z (f7 G Z Z Z Z Z Z Z) (a7 Z ?_)))))))))))
  first | refine b5 Z Z (p5 Z Z Z Z J J) ?_ | refine b5 Z Z (s3 Z Z Z Z) ?_
  refine a7 Z (b5 Z Z (b9 Z Z) (a7 Z (b5 Z Z (a17 G Z Z Z Z) (a7 Z ?_))))
  first | refine b5 Z Z (p5 Z Z Z Z J J) ?_ | refine b5 Z Z (s3 Z Z Z Z) ?_
  refine a7 Z ?_
  first | refine b5 Z Z (p5 Z Z Z Z J J) ?_ | refine b5 Z Z (s3 Z Z Z Z) ?_
  refine a7 Z (b5 Z Z (s8 Z Z) (a7 Z (b5 Z Z (d3 G Z Z Z Z) (a7 Z (e9 G Z Z Z Z Z Z Z Z Z Z Z (b4 (hK12 _ ?_)))))))
  clear hK12 K12
  refine c1 (λK13 hK13=>?_)
  refine c1 (λK14 hK14=>?_)
  refine I2 mixed Y (c6 Z (g8 Z Z (b9 Z Z) (c6 Z (g8 Z Z (s8 Z Z) (c6 Z (g8 Z Z (d3 G Z Z Z Z) (c6 Z (g8 Z Z (f7 G Z Z Z Z Z Z Z) (c6 Z (g8 Z Z (b9 Z Z) (c6 Z (g8 Z Z (s8 Z Z) (c6 Z (g8 Z Z (d3 G Z Z Z Z) (c6 Z (g8 Z Z (f7 G Z Z Z Z Z Z Z) (c6 Z ?_)))))))))))))))))
  first | refine g8 Z Z (E1 G Z Z Z Z (List.length_map _)) ?_ | refine g8 Z Z (K0 G Z Z Z Z) ?_
  refine c6 Z (g8 Z Z (t8 Z Z Z Z) (S4 (hK14 _ ?_)))
  clear hK14 K14
  refine l4 Z (λh3=>?_) (λh3=>?_)
  ·try rw [h3]
   try simp only [rfb] at h3
   refine c1 (λK15 hK15=>?_)
   refine b6 (a7 Z (b5 Z Z (b9 Z Z) (a7 Z (b5 Z Z (b8 Z Z) (b4 (hK15 _ ?_))))))
   clear hK15 K15
   refine a9v (id:=0) Z ?_
   refine d8 (n9 Z (j8 ?_) Z (AftOK.stays Z ?_ Z AftOK.nil))
   all_goals clear hK13 K13
   all_goals (first | (rw [b7Z J];done) | (exfalso;omega) | (simp only [nxC,nxS];done) | (simp only [nxC,nxS,b1l (show ¬ x.a < (x.c.length:Int) by omega)];done) | (rw [b1m J];exact congrArg (Value.int .i64) (O2 (Int.le_trans (by decide) R2.1) (Int.le_trans R2.2 (by decide)))) | (rw [b1m J];simp only [nxT,nxS,b1l (show ¬ x.a < (x.c.length:Int) by omega)];exact congrArg (Value.int .i64) (O2 (Int.le_trans (by decide) R2.1) (Int.le_trans R2.2 (by decide)))))
  ·try rw [h3]
   try simp only [rfb] at h3
   refine p8 (hK13 _ ?_)
   clear hK13 K13
   refine c1 (λK16 hK16=>?_)
   refine b6 (a7 Z (b5 Z Z (b9 Z Z) (a7 Z (b5 Z Z (s8 Z Z) (a7 Z (b5 Z Z (d3 G Z Z Z Z) (a7 Z (b5 Z Z (f7 G Z Z Z Z Z Z Z) (a7 Z (b5 Z Z (c2j Z Z Z (by decide)) (a7 Z (b5 Z Z (c2k Z Z Z) (a7 Z (b5 Z Z (a17 G Z Z Z Z) (a7 Z (b5 Z Z (b8 Z Z) (b4 (hK16 _ ?_))))))))))))))))))
   clear hK16 K16
   exact c88
theorem Y1 (x:Cur) (n:Int) (h0:0<=x.a/\x.a<=4611686018427387000) (hc:X3 x.c):CtrM Tryz.prog 29 [.ptr 0 0,.v (.int .i64 n)] [.box [.lst 1 (x.c.map B4),.v (.int .i64 x.a),.v (.int .u64 x.s)]] (.one (.v (.int .i64 (pkV x n)))) [some (.box [.lst 1 ((pkC x n).c.map B4),.v (.int .i64 (pkC x n).a),.v (.int .u64 (pkC x n).s)])]:=by
 have hv1:=b2m hc
 have hv2:=b2m (x:=nxC x) hc
 have ha1:(nxC x).a=x.a+1:=rfl
 refine CtrM.of (n:=20) (k:=1) G Tryz.func29 Z a8 Z Z Z Z Z Z Z (λw0 _ hpin=>?_)
 refine zcd (λh1=>?_) (λh1=>?_)
 ·have hO:=c7b (x:=x) h1
  exact c3C
 refine vm3 ?_
 refine L8 1 [0] Z Z Z (a10 x J hc) Z (RowsIn.cons Z RowsIn.nil) Z Z Z ?_
 refine zcd (λh2=>?_) (λh2=>?_)
 ·have hO:=c7d (x:=x) (n:=n) J J
  refine vm3 ?_
  refine L8 1 [0] Z Z Z (a10 (nxC x) J hc) Z (RowsIn.cons Z RowsIn.nil) Z Z Z ?_
  exact c4q
 have hO:=c7c (x:=x) (n:=n) J J
 exact c4q
theorem a8s (x:Cur) (n:Int) (h0:0<=x.a/\x.a<=4611686018427387000) (hc:X3 x.c):CtrM Tryz.prog 30 [.ptr 0 0,.v (.int .i64 n)] [.box [.lst 1 (x.c.map B4),.v (.int .i64 x.a),.v (.int .u64 x.s)]] (.one (.v (.bool (pkV x n==0)))) [some (.box [.lst 1 ((pkC x n).c.map B4),.v (.int .i64 (pkC x n).a),.v (.int .u64 (pkC x n).s)])]:=by
 refine CtrM.of (n:=9) (k:=1) G Tryz.func30 Z a8 Z Z Z Z Z Z Z (λw0 _ hpin=>?_)
 refine vm3 ?_
 refine L8 1 [0] Z Z Z (Y1 x n J hc) Z (RowsIn.cons Z RowsIn.nil) Z Z Z ?_
 refine zgo ?_
 refine d8 (n9 Z (j8 ?_) Z (AftOK.stays Z ?_ Z AftOK.nil))
 all_goals (first | rfl | (simp;done))
theorem a6k (x:Cur) (l:List Int) (hn:1<=l.length/\l.length<=1048576) (h0:0<=x.a/\x.a<=4611686018427387000) (hc:X3 x.c):CtrM Tryz.prog 93 [.ptr 0 0,.own 1] [.box [.lst 1 (x.c.map B4),.v (.int .i64 x.a),.v (.int .u64 x.s)],.row 3 1 (l.map Rf.r7)] (.one (.v (.int .i64 (l.getD (pkV x l.length).toNat default)))) [some (.box [.lst 1 ((pkC x l.length).c.map B4),.v (.int .i64 (pkC x l.length).a),.v (.int .u64 (pkC x l.length).s)]),some (.row 3 1 (l.map Rf.r7))]:=by
 have hp:=b3A (x:=x) (n:=l.length) hc
 refine CtrM.of (n:=12) (k:=2) G Tryz.func93 Z a8 Z Z Z Z Z Z Z (λw0 _ hpin=>?_)
 exact c9g
theorem a86 (x:Cur) (l:List ByteArray) (hn:1<=l.length/\l.length<=1048576) (h0:0<=x.a/\x.a<=4611686018427387000) (hc:X3 x.c):CtrM Tryz.prog 63 [.ptr 0 0,.own 1] [.box [.lst 1 (x.c.map B4),.v (.int .i64 x.a),.v (.int .u64 x.s)],.row 9 1 (l.map a0M)] (.one (.v (.string (l.getD (pkV x l.length).toNat default)))) [some (.box [.lst 1 ((pkC x l.length).c.map B4),.v (.int .i64 (pkC x l.length).a),.v (.int .u64 (pkC x l.length).s)]),some (.row 9 1 (l.map a0M))]:=by
 have hp:=b3A (x:=x) (n:=l.length) hc
 refine CtrM.of (n:=12) (k:=2) G Tryz.func63 Z a8 Z Z Z Z Z Z Z (λw0 _ hpin=>?_)
 exact c9g
theorem p9 {x:Cur} {n:Int} (h:okC n x) (hn:n<=1000000000000) (k:Int):CtrX (α:=Int×Cur) Tryz.prog 29 [.ptr 0 0,.v (.int .i64 k)] [.box [.lst 1 (x.c.map B4),.v (.int .i64 x.a),.v (.int .u64 x.s)]] (λy=>(0<=y.1/\(y.1 < k∨(k<=1/\y.1=0)))/\okC (n+2) y.2) (λy=>.one (.v (.int .i64 y.1))) (λy=>[some (.box [.lst 1 (y.2.c.map B4),.v (.int .i64 y.2.a),.v (.int .u64 y.2.s)])]) :=
 CtrX.ofM (pkV x k,pkC x k) (Y1 x k (h.big hn) h.1) ⟨b3A h.1,h.pk _⟩ Z Z
theorem a4B {x:Cur} {n:Int} (h:okC n x) (hn:n<=1000000000000) (k:Int):CtrX (α:=Bool×Cur) Tryz.prog 30 [.ptr 0 0,.v (.int .i64 k)] [.box [.lst 1 (x.c.map B4),.v (.int .i64 x.a),.v (.int .u64 x.s)]] (λy=>(True)/\okC (n+2) y.2) (λy=>.one (.v (.bool y.1))) (λy=>[some (.box [.lst 1 (y.2.c.map B4),.v (.int .i64 y.2.a),.v (.int .u64 y.2.s)])]) :=
 CtrX.ofM (pkV x k==0,pkC x k) (a8s x k (h.big hn) h.1) ⟨trivial,h.pk _⟩ Z Z
theorem I4 {x:Cur} {n:Int} (h:okC n x) (hn:n<=1000000000000) (l:List Int) (lo hi:Int) (hl:1<=l.length/\l.length<=1048576) (hb:∀z∈l,lo<=z/\z<=hi):CtrX (α:=Int×Cur) Tryz.prog 93 [.ptr 0 0,.own 1] [.box [.lst 1 (x.c.map B4),.v (.int .i64 x.a),.v (.int .u64 x.s)],.row 3 1 (l.map Rf.r7)] (λy=>(lo<=y.1/\y.1<=hi)/\okC (n+2) y.2) (λy=>.one (.v (.int .i64 y.1))) (λy=>[some (.box [.lst 1 (y.2.c.map B4),.v (.int .i64 y.2.a),.v (.int .u64 y.2.s)]),some (.row 3 1 (l.map Rf.r7))]) :=
 CtrX.ofM (l.getD (pkV x l.length).toNat default,pkC x l.length) (a6k x l hl (h.big hn) h.1) ⟨c0I hb (by have:=b3A (n:=l.length) h.1;omega),h.pk _⟩ Z Z
theorem b4y {x:Cur} {n:Int} (h:okC n x) (hn:n<=1000000000000) (l:List ByteArray) (hl:1<=l.length/\l.length<=1048576):CtrX (α:=ByteArray×Cur) Tryz.prog 63 [.ptr 0 0,.own 1] [.box [.lst 1 (x.c.map B4),.v (.int .i64 x.a),.v (.int .u64 x.s)],.row 9 1 (l.map a0M)] (λy=>(y.1∈l)/\okC (n+2) y.2) (λy=>.one (.v (.string y.1))) (λy=>[some (.box [.lst 1 (y.2.c.map B4),.v (.int .i64 y.2.a),.v (.int .u64 y.2.s)]),some (.row 9 1 (l.map a0M))]) :=
 CtrX.ofM (l.getD (pkV x l.length).toNat default,pkC x l.length) (a86 x l hl (h.big hn) h.1) ⟨b3B (by have:=b3A (n:=l.length) h.1;omega),h.pk _⟩ Z Z
theorem a4C (s:ByteArray) (hs:s.size<=9223372036854775807):Ctr Tryz.prog 71 [.v (.string s)] (.one (.v (.bool (a0L s)))):=by
 refine Ctr.of (n:=26) G Tryz.func71 Z a8 Z Z Z (λw0=>?_)
 refine zgo ?_
 refine i7 [0] [] (λ(i:Nat)=>[(3,.v (.int .i64 (i:Int)))]) (λ(i:Nat)=>[]) (λ(i:Nat)=>i<=s.size/\∀j,j < i→(a7X s) j=true) (λ(i:Nat)=>s.size - i) 0 Z Z ?_ ?_ ?_ ?_
 ·exact T7
 ·exact E7
 ·exact trivial
 intro i hinv
 have hbb:=a6P s i
 have hbi:s2 s i=((s.data.toList.getD ((i:Int)).toNat 0).toNat:Int):=rfl
 refine vm2 ?_
 refine vm3 ?_
 refine a4z ?_
 refine zcd (λh1=>?_) (λh1=>?_)
 ·refine vm3 ?_
  refine b7B ?_
  refine zcd (λh2=>?_) (λh2=>?_)
  ·refine zwt ?_
   exact c17
  refine zgo ?_
  refine a0k ?_
  refine b7B ?_
  refine zcd (λh3=>?_) (λh3=>?_)
  ·refine zwt ?_
   exact c17
  exact c4p
 refine zf1 ?_
 all_goals exact c6u
theorem a3S (s:ByteArray) (k:Int) (hs:s.size<=9223372036854775807):Ctr Tryz.prog 80 [.v (.string s),.v (.int .i64 k)] (.one (.v (.bool (a0L s && decide ((s.size:Int)<=k))))):=by
 refine Ctr.of (n:=28) G Tryz.func80 Z a8 Z Z Z (λw0=>?_)
 refine zgo ?_
 refine i7 [0,1] [] (λ(i:Nat)=>[(5,.v (.int .i64 (i:Int)))]) (λ(i:Nat)=>[]) (λ(i:Nat)=>i<=s.size/\∀j,j < i→(a7X s) j=true) (λ(i:Nat)=>s.size - i) 0 Z Z ?_ ?_ ?_ ?_
 ·exact T7
 ·exact E7
 ·exact trivial
 intro i hinv
 have hbb:=a6P s i
 have hbi:s2 s i=((s.data.toList.getD ((i:Int)).toNat 0).toNat:Int):=rfl
 refine vm2 ?_
 refine vm3 ?_
 refine a4z ?_
 refine zcd (λh1=>?_) (λh1=>?_)
 ·refine c8K ?_
  refine b3d ?_
  refine zcd (λh2=>?_) (λh2=>?_)
  ·have hin:=a9V.mp h2
   refine zwt ?_
   exact c17
  have hin:=v8.mp h2
  exact c4p
 refine vm3 ?_
 refine a4z ?_
 refine zf1 ?_
 all_goals exact c6u
theorem a87 (s:ByteArray) (b:Int) (hs:s.size<=9223372036854775807):Ctr Tryz.prog 81 [.v (.string s),.v (.int .u8 b)] (.one (.v (.bool (m4 s b)))):=by
 refine Ctr.of (n:=17) G Tryz.func81 Z a8 Z Z Z (λw0=>?_)
 refine zgo ?_
 refine i7 [0,1] [] (λ(i:Nat)=>[(5,.v (.int .i64 (i:Int)))]) (λ(i:Nat)=>[]) (λ(i:Nat)=>i<=s.size/\∀j,j < i→((λj=>!(s2 s j==b))) j=true) (λ(i:Nat)=>s.size - i) 0 Z Z ?_ ?_ ?_ ?_
 ·exact T7
 ·exact E7
 ·exact trivial
 intro i hinv
 have hbb:=a6P s i
 have hbi:s2 s i=((s.data.toList.getD ((i:Int)).toNat 0).toNat:Int):=rfl
 refine vm2 ?_
 refine vm3 ?_
 refine a4z ?_
 refine zcd (λh1=>?_) (λh1=>?_)
 ·refine vm3 ?_
  refine b7B ?_
  refine zcd (λh2=>?_) (λh2=>?_)
  ·refine zf1 ?_
   all_goals exact c3b
  refine zgo ?_
  refine ⟨(i+1),?_,?_,⟨⟨_,Z,by rfl⟩,Z,trivial⟩,trivial,Z,Z,Z⟩
  ·refine ⟨by omega,s4 hinv.2 ?_⟩;(simp only [Bool.not_eq_true',beq_eq_false_iff_ne,ne_eq];omega)
  omega
 refine zf1 ?_
 all_goals exact c3b
theorem a1u (x:Rec) (h0:x.c.size<=9223372036854775807/\x.r.size<=9223372036854775807):Ctr Tryz.prog 47 [.v (b2n x)] (.one (.v (.bool (I7 x)))):=by
 refine Ctr.of (n:=22) G Tryz.func47 Z a8 Z Z Z (λw0=>?_)
 refine vm1 ?_
 refine X0 ?_
 refine zcd (λh1=>?_) (λh1=>?_)
 ·refine zcl (a3S x.c _ h0.1) ?_
  refine zcd (λh2=>?_) (λh2=>?_)
  ·refine zcl (a87 x.c _ h0.1) ?_
   refine zcd (λh3=>?_) (λh3=>?_)
   ·refine zcl (a3S x.r _ h0.2) ?_
    exact c14
   exact c14
  exact c14
 exact c14
theorem Q0 (x:Rec) (h0:x.c.size<=9223372036854775807/\x.r.size<=9223372036854775807):Ctr Tryz.prog 43 [.v (b2n x)] (.one (.v (.bool (I7 x)))):=by
 refine Ctr.of (n:=29) G Tryz.func43 Z a8 Z Z Z (λw0=>?_)
 refine vm1 ?_
 refine vm3 ?_
 refine a4z ?_
 refine zcl (H9 _ _ _) ?_
 refine zcd (λh1=>?_) (λh1=>?_)
 ·refine zgo ?_
  refine a0k ?_
  refine a4z ?_
  refine zcd (λh2=>?_) (λh2=>?_)
  ·refine zcl (a4C x.c h0.1) ?_
   refine zcd (λh3=>?_) (λh3=>?_)
   ·refine zcl (a4C x.r h0.2) ?_
    refine zcd (λh4=>?_) (λh4=>?_)
    ·refine zcl (a1t x.c 64) ?_
     exact c0i
    exact c0i
   exact c0i
  exact c0i
 exact c0i
theorem b3g (s:ByteArray) (hs:s.size<=9223372036854775807):Ctr Tryz.prog 169 [.v (.string s)] (.one (.v (.int .i64 (a7Y s s.size)))):=by
 refine Ctr.of (n:=21) G Tryz.func169 Z a8 Z Z Z (λw0=>?_)
 exact c4n
theorem a88 (s:ByteArray) (hs:s.size<=9223372036854775807):Ctr Tryz.prog 181 [.v (.string s)] (.one (.v (.int .i64 (a7Y s s.size)))):=by
 refine Ctr.of (n:=21) G Tryz.func181 Z a8 Z Z Z (λw0=>?_)
 exact c4n
theorem a2W (n:Int) (h0:-9223372036854775807<=n) (h1:n<=9223372036854775807) (ih:∀k:Int,0<=k→(n < 0∨k < n)→k<=9223372036854775807→Ctr Tryz.prog 37 [.v (.int .i64 k)] (.one (.v (.string (s5 k))))):Ctr Tryz.prog 37 [.v (.int .i64 n)] (.one (.v (.string (s5 n)))):=by
 refine Ctr.of (n:=25) G Tryz.func37 Z Y Z Z Z (λw0=>?_)
 refine c1 (λK1 hK1=>?_)
 refine b6 (a7 Z (b5 Z Z (b8 Z Z) (b4 (hK1 _ ?_))))
 clear hK1 K1
 refine c1 (λK2 hK2=>?_)
 refine c1 (λK3 hK3=>?_)
 refine b6 (a7 Z (b5 Z Z (b9 Z Z) (a7 Z (b5 Z Z (t8 Z Z Z Z) (b4 (hK3 _ ?_))))))
 clear hK3 K3
 refine l4 Z (λh1=>?_) (λh1=>?_)
 ·try rw [h1]
  try simp only [rfb] at h1
  refine c1 (λK4 hK4=>?_)
  refine b6 (a7 Z (b5 Z Z (b9 Z Z) (a7 Z (b5 Z Z (c2i Z Z J J) (a7 Z (b5 Z Z (j4 Z (ArgsOK.of Z) (ih _ J J J) Z) (a7 Z (b5 Z Z (s6 Z Z Z (by first | (have hz:=w8 (n:=-n) J J;rw [i8];simp only [List.size_toArray,List.length_cons,List.length_nil];omega) | (have hz:=w8 (n:=(k:Int) / 10) J J;rw [ByteArray.size_extract];simp only [i8,List.size_toArray,List.length_cons,List.length_nil];omega))) (a7 Z (b5 Z Z (b8 Z Z) (b4 (hK4 _ ?_))))))))))))
  clear hK4 K4
  refine d8 (O3 Z (j8 ?_))
  all_goals clear hK2 K2
  all_goals (first | (rw [a6O h1];done) | (have e:((k:Int)+1).toNat=k+1:=J;rw [e];exact congrArg Value.string ((a2z J).trans (a3n J).symm)) | (have e:((k:Int) % 10).toNat=k % 10:=J;have e2:((k:Int) % 10+1).toNat=k % 10+1:=J;rw [e,e2,a2z J,a40 J];rfl))
 ·try rw [h1]
  try simp only [rfb] at h1
  refine p8 (hK2 _ ?_)
  clear hK2 K2
  refine c1 (λK5 hK5=>?_)
  refine c1 (λK6 hK6=>?_)
  refine b6 (a7 Z (b5 Z Z (b9 Z Z) (a7 Z (b5 Z Z (t8 Z Z Z Z) (b4 (hK6 _ ?_))))))
  clear hK6 K6
  refine l4 Z (λh2=>?_) (λh2=>?_)
  ·try rw [h2]
   try simp only [rfb] at h2
   obtain ⟨k,rfl⟩:∃k:Nat,n=(k:Int):=⟨n.toNat,by omega⟩
   refine c1 (λK7 hK7=>?_)
   refine b6 (a7 Z (b5 Z Z (b9 Z Z) (a7 Z (b5 Z Z (b9 Z Z) (a7 Z ?_)))))
   first | refine b5 Z Z (p5 Z Z Z Z J J) ?_ | refine b5 Z Z (s3 Z Z Z Z) ?_
   refine a7 Z (b5 Z Z (z6 G Z Z Z Z Z J J (by rw [i8];simp only [List.size_toArray,List.length_cons,List.length_nil];omega)) (a7 Z (b5 Z Z (b8 Z Z) (b4 (hK7 _ ?_)))))
   clear hK7 K7
   refine d8 (O3 Z (j8 ?_))
   all_goals clear hK5 K5
   all_goals (first | (rw [a6O h1];done) | (have e:((k:Int)+1).toNat=k+1:=J;rw [e];exact congrArg Value.string ((a2z J).trans (a3n J).symm)) | (have e:((k:Int) % 10).toNat=k % 10:=J;have e2:((k:Int) % 10+1).toNat=k % 10+1:=J;rw [e,e2,a2z J,a40 J];rfl))
  ·try rw [h2]
   try simp only [rfb] at h2
   obtain ⟨k,rfl⟩:∃k:Nat,n=(k:Int):=⟨n.toNat,by omega⟩
   refine p8 (hK5 _ ?_)
   clear hK5 K5
   refine c1 (λK8 hK8=>?_)
   refine I2 mixed Y (c6 Z (g8 Z Z (b9 Z Z) (c6 Z ?_)))
   first | refine g8 Z Z (b6Q Z Z Z J J J) ?_ | refine g8 Z Z (c2g Z Z Z J) ?_
   refine c6 Z (g8 Z Z (j4 Z (ArgsOK.of Z) (ih _ J J J) Z) (c6 Z (g8 Z Z (b9 Z Z) (c6 Z ?_))))
   first | refine g8 Z Z (a7O Z Z Z J J) ?_ | refine g8 Z Z (b5z Z Z Z J) ?_
   refine c6 Z (g8 Z Z (b9 Z Z) (c6 Z ?_))
   first | refine g8 Z Z (a7O Z Z Z J J) ?_ | refine g8 Z Z (b5z Z Z Z J) ?_
   refine c6 Z ?_
   first | refine g8 Z Z (p5 Z Z Z Z J J) ?_ | refine g8 Z Z (s3 Z Z Z Z) ?_
   refine c6 Z (g8 Z Z (z6 G Z Z Z Z Z J J (by rw [i8];simp only [List.size_toArray,List.length_cons,List.length_nil];omega)) (c6 Z (g8 Z Z (s6 Z Z Z (by first | (have hz:=w8 (n:=-n) J J;rw [i8];simp only [List.size_toArray,List.length_cons,List.length_nil];omega) | (have hz:=w8 (n:=(k:Int) / 10) J J;rw [ByteArray.size_extract];simp only [i8,List.size_toArray,List.length_cons,List.length_nil];omega))) (c6 Z (g8 Z Z (b8 Z Z) (S4 (hK8 _ ?_)))))))
   clear hK8 K8
   refine d8 (O3 Z (j8 ?_))
   all_goals (first | (rw [a6O h1];done) | (have e:((k:Int)+1).toNat=k+1:=J;rw [e];exact congrArg Value.string ((a2z J).trans (a3n J).symm)) | (have e:((k:Int) % 10).toNat=k % 10:=J;have e2:((k:Int) % 10+1).toNat=k % 10+1:=J;rw [e,e2,a2z J,a40 J];rfl))
theorem b2c:∀(m:Nat) (n:Int),n.toNat=m→0<=n→n<=9223372036854775807→Ctr Tryz.prog 37 [.v (.int .i64 n)] (.one (.v (.string (s5 n)))):=by
 intro m
 induction m using Nat.strongRecOn with
 | ind m ih =>
  intro n hm h0 h1
  exact a2W n J h1 (λk hk hlt hk1=>ih k.toNat J k Z hk hk1)
theorem u7 (n:Int) (h0:-9223372036854775807<=n) (h1:n<=9223372036854775807):Ctr Tryz.prog 37 [.v (.int .i64 n)] (.one (.v (.string (s5 n)))):=by
 by_cases h:0<=n
 ·exact b2c _ n Z h h1
 exact a2W n h0 h1 (λk hk _ hk1=>b2c _ k Z hk hk1)
theorem b03 (s:ByteArray) (hs:s.size<=3900):Ctr Tryz.prog 110 [.v (.string s)] (.one (.v (.string (a1H s)))):=by
 have hsm:=a9w s s.size
 have hz:=w8 (n:=a7Y s s.size) J J
 refine Ctr.of (n:=9) G Tryz.func110 Z Y Z Z Z (λw0=>?_)
 refine c1 (λK1 hK1=>?_)
 refine b6 (a7 Z (b5 Z Z (b8 Z Z) (b4 (hK1 _ ?_))))
 clear hK1 K1
 refine c1 (λK2 hK2=>?_)
 refine b6 (a7 Z (b5 Z Z (b9 Z Z) (a7 Z (b5 Z Z (s6 Z Z Z (by (try simp only [ByteArray.size_append,i8,List.size_toArray,List.length_cons,List.length_nil]);omega)) (a7 Z (b5 Z Z (b9 Z Z) (a7 Z (b5 Z Z (j4 Z (ArgsOK.of Z) (b3g _ (by first | assumption | omega)) Z) (a7 Z (b5 Z Z (j4 Z (ArgsOK.of Z) (u7 _ J J) Z) (a7 Z (b5 Z Z (s6 Z Z Z (by (try simp only [ByteArray.size_append,i8,List.size_toArray,List.length_cons,List.length_nil]);omega)) (a7 Z (b5 Z Z (b8 Z Z) (b4 (hK2 _ ?_))))))))))))))))
 clear hK2 K2
 exact c0q
theorem a3Y (s:ByteArray) (hs:s.size<=3900) (hst:m4 s 35=false):Ctr Tryz.prog 122 [.v (.string s)] (.many [.v (.string (a1H s)),.v (.bool true)]):=by
 have hsm:=a9w s s.size
 have hz:=w8 (n:=a7Y s s.size) J J
 have e35:((UInt8.toNat 35:Nat):Int)=35:=rfl
 have hss:=a2B (s:=s)
 have hse:(a1H s).size=(s++(⟨#[35]⟩:ByteArray)++s5 (a7Y s s.size)).size:=rfl
 refine Ctr.of (n:=22) G Tryz.func122 Z Y Z Z Z (λw0=>?_)
 refine c1 (λK1 hK1=>?_)
 refine b6 (a7 Z (b5 Z Z (b8 Z Z) (a7 Z (b5 Z Z (b8 Z Z) (b4 (hK1 _ ?_))))))
 clear hK1 K1
 refine c1 (λK2 hK2=>?_)
 refine c1 (λK3 hK3=>?_)
 refine b6 (a7 Z (b5 Z Z (b9 Z Z) (a7 Z (b5 Z Z (r5 G Z Z Z) (a7 Z (b5 Z Z (t8 Z Z Z Z) (a7 Z (b5 Z Z (b9 Z Z) (A5 Z Z Z (λh1=>?_) (λh1=>?_))))))))))
 ·try rw [h1]
  try simp only [rfb] at h1
  exfalso;omega
 ·try rw [h1]
  try simp only [rfb] at h1
  refine o9 Z Z Z (b5 Z Z (b9 Z Z) (o9 Z Z Z (b5 Z Z (j4 Z (ArgsOK.of Z) (a1t s 35) Z) (a7 Z (b5 Z Z (A6 Z Z Z) (b4 (hK3 _ ?_)))))))
  clear hK3 K3
  refine l4 Z (λh2=>?_) (λh2=>?_)
  ·try rw [h2]
   try simp only [rfb] at h2
   exact absurd (show m4 s 35=true from h2) (by rw [hst];simp)
  ·try rw [h2]
   try simp only [rfb] at h2
   refine p8 (hK2 _ ?_)
   clear hK2 K2
   refine c1 (λK4 hK4=>?_)
   refine b6 (a7 Z (b5 Z Z (b9 Z Z) (a7 Z (b5 Z Z (s6 Z Z Z (by (try simp only [ByteArray.size_append,i8,List.size_toArray,List.length_cons,List.length_nil]);omega)) (a7 Z (b5 Z Z (b9 Z Z) (a7 Z (b5 Z Z (j4 Z (ArgsOK.of Z) (a88 _ (by first | assumption | omega)) Z) (a7 Z (b5 Z Z (j4 Z (ArgsOK.of Z) (y8 _ J J) Z) (a7 Z (b5 Z Z (s6 Z Z Z (by (try simp only [ByteArray.size_append,i8,List.size_toArray,List.length_cons,List.length_nil]);omega)) (a7 Z (b5 Z Z (b8 Z Z) (b4 (hK4 _ ?_))))))))))))))))
   clear hK4 K4
   refine c1 (λK5 hK5=>?_)
   refine c1 (λK6 hK6=>?_)
   refine b6 (a7 Z (b5 Z Z (b9 Z Z) (a7 Z (b5 Z Z (r5 G Z Z Z) (a7 Z (b5 Z Z (t8 Z Z Z Z) (b4 (hK6 _ ?_))))))))
   clear hK6 K6
   refine l4 Z (λh3=>?_) (λh3=>?_)
   ·try rw [h3]
    try simp only [rfb] at h3
    exfalso;have h3q:(4000:Int) < ((a1H s).size:Int):=h3;omega
   ·try rw [h3]
    try simp only [rfb] at h3
    refine p8 (hK5 _ ?_)
    clear hK5 K5
    refine c1 (λK7 hK7=>?_)
    refine b6 (a7 Z (b5 Z Z (b9 Z Z) (a7 Z (b5 Z Z (b8 Z Z) (a7 Z (b5 Z Z (b8 Z Z) (b4 (hK7 _ ?_))))))))
    clear hK7 K7
    refine d8 (r4 Z Z Z Z (b3 (j8 ?_) (b3 (j8 ?_) d9)))
    all_goals (first | rfl | (simp_all;done))
theorem a1s (k:Int) (x:Rec) (hk:0<=k) (hk2:k<=1000000) (hx:I7 x=true):Ctr Tryz.prog 69 [.v (.int .i64 k),.v (b2n x)] (.one (.v (.string (a1I k x)))):=by
 have hbs:=a41 hk J hx
 have hst:=a4f hk hx
 obtain ⟨hx1,hx2,hx3,hx4,hx5⟩:=a2A hx
 have hz:=w8 (n:=k) J J
 have hss:=a2B (s:=P3 k x)
 refine Ctr.of (n:=17) G Tryz.func69 Z Y Z Z Z (λw0=>?_)
 refine c1 (λK1 hK1=>?_)
 refine b6 (a7 Z (B3 1 Z Z Z Z Z Z Z (a7 Z (b5 Z Z (b8 Z Z) (b4 (hK1 _ ?_))))))
 clear hK1 K1
 refine c1 (λK2 hK2=>?_)
 refine I2 mixed Y (c6 Z (g8 Z Z (b9 Z Z) (c6 Z (g8 Z Z (j4 Z (ArgsOK.of Z) (u7 _ J J) Z) (c6 Z (g8 Z Z (s6 Z Z Z (by (try simp only [ByteArray.size_append,i8,List.size_toArray,List.length_cons,List.length_nil]);omega)) (c6 Z (g8 Z Z (d3 G Z Z Z Z) (c6 Z (g8 Z Z (f7 G Z Z Z Z Z Z Z) (c6 Z (g8 Z Z (s6 Z Z Z (by (try simp only [ByteArray.size_append,i8,List.size_toArray,List.length_cons,List.length_nil]);omega)) (c6 Z (g8 Z Z (s6 Z Z Z (by (try simp only [ByteArray.size_append,i8,List.size_toArray,List.length_cons,List.length_nil]);omega)) (c6 Z (g8 Z Z (d3 G Z Z Z Z) (c6 Z (g8 Z Z (f7 G Z Z Z Z Z Z Z) (c6 Z (g8 Z Z (s6 Z Z Z (by (try simp only [ByteArray.size_append,i8,List.size_toArray,List.length_cons,List.length_nil]);omega)) (c6 Z (g8 Z Z (j4 Z (ArgsOK.of Z) (b03 (P3 k x) J) Z) (c6 Z (g8 Z Z (s6 Z Z Z (by (try simp only [ByteArray.size_append,i8,List.size_toArray,List.length_cons,List.length_nil]);omega)) (c6 Z (g8 Z Z (b8 Z Z) (S4 (hK2 _ ?_))))))))))))))))))))))))))))
 clear hK2 K2
 exact c0q
theorem a0X (k:Int) (x:Rec) (hk:0<=k) (hk2:k<=1000000) (hx:I7 x=true):Ctr Tryz.prog 78 [.v (.int .i64 k),.v (b2n x)] (.one (.v (.string (a1I k x)))):=by
 have hbs:=a41 hk J hx
 have hst:=a4f hk hx
 obtain ⟨hx1,hx2,hx3,hx4,hx5⟩:=a2A hx
 have hz:=w8 (n:=k) J J
 have hss:=a2B (s:=P3 k x)
 refine Ctr.of (n:=23) G Tryz.func78 Z Y Z Z Z (λw0=>?_)
 refine c1 (λK1 hK1=>?_)
 refine b6 (a7 Z (B3 1 Z Z Z Z Z Z Z (a7 Z (b5 Z Z (b8 Z Z) (b4 (hK1 _ ?_))))))
 clear hK1 K1
 refine c1 (λK2 hK2=>?_)
 refine I2 mixed Y (c6 Z (g8 Z Z (b9 Z Z) (c6 Z (g8 Z Z (j4 Z (ArgsOK.of Z) (y8 _ J J) Z) (c6 Z (g8 Z Z (s6 Z Z Z (by (try simp only [ByteArray.size_append,i8,List.size_toArray,List.length_cons,List.length_nil]);omega)) (c6 Z (g8 Z Z (d3 G Z Z Z Z) (c6 Z (g8 Z Z (f7 G Z Z Z Z Z Z Z) (c6 Z (g8 Z Z (s6 Z Z Z (by (try simp only [ByteArray.size_append,i8,List.size_toArray,List.length_cons,List.length_nil]);omega)) (c6 Z (g8 Z Z (s6 Z Z Z (by (try simp only [ByteArray.size_append,i8,List.size_toArray,List.length_cons,List.length_nil]);omega)) (c6 Z (g8 Z Z (d3 G Z Z Z Z) (c6 Z (g8 Z Z (f7 G Z Z Z Z Z Z Z) (c6 Z (g8 Z Z (s6 Z Z Z (by (try simp only [ByteArray.size_append,i8,List.size_toArray,List.length_cons,List.length_nil]);omega)) (c6 Z (g8 Z Z (j4 Z (ArgsOK.of Z) (a3Y (P3 k x) J hst) Z) (c6 Z (g8 Z Z (b9 Z Z) (c6 Z (g8 Z Z (i1 Z Z Z) (c6 Z (g8 Z Z (i1 Z Z Z) (c6 Z (g8 Z Z (b8 Z Z) (c6 Z (g8 Z Z (b8 Z Z) (S4 (hK2 _ ?_))))))))))))))))))))))))))))))))))
 clear hK2 K2
 refine c1 (λK3 hK3=>?_)
 refine b6 (a7 Z (b5 Z Z (b9 Z Z) (a7 Z (b5 Z Z (s6 Z Z Z (by (try simp only [ByteArray.size_append,i8,List.size_toArray,List.length_cons,List.length_nil]);omega)) (a7 Z (b5 Z Z (b8 Z Z) (b4 (hK3 _ ?_))))))))
 clear hK3 K3
 exact c0q
theorem J0 (s:ByteArray) (b:Int) (hs:s.size<=1048576):Ctr Tryz.prog 32 [.v (.string s),.v (.int .u8 b)] (.one (.fr 9 1 ((i6 s b).map a0M))):=by
 refine Ctr.of (n:=35) G Tryz.func32 Z a8 Z Z Z (λw0=>?_)
 refine b01 ?_
 refine zgo ?_
 refine i7 [0,1] [] (λ(i:Nat)=>[(5,.own 0),(6,.v (.int .i64 ((spO s b i).2:Int))),(7,.v (.int .i64 (i:Int)))]) (λ(i:Nat)=>[(0,some (.row 9 1 ((spO s b i).1.map a0M)))]) (λ(i:Nat)=>i<=s.size) (λ(i:Nat)=>s.size - i) 0 Z Z ?_ ?_ ?_ ?_
 ·exact R9
 ·exact c33
 ·exact a07
 intro i hinv
 have hi:i<=s.size:=hinv
 have hsp:=b4M (s:=s) (b:=b) (i:=i)
 have hbi:s2 s i=((s.data.toList.getD ((i:Int)).toNat 0).toNat:Int):=rfl
 refine vm2 ?_
 refine vm3 ?_
 refine a4z ?_
 refine zcd (λh1=>?_) (λh1=>?_)
 ·refine vm3 ?_
  refine b7B ?_
  refine zcd (λh2=>?_) (λh2=>?_)
  ·refine c1V ?_
   refine p6 ?_
   refine b3b ?_
   refine p6 ?_
   refine c1W ?_
   exact c8Y
  exact c8Y
 refine c1V ?_
 refine p6 ?_
 refine b3b ?_
 refine p6 ?_
 refine c1W ?_
 refine zfo ?_
 all_goals ((have e:i=s.size:=J;subst e;simp only [i6,List.map_append];rfl))
theorem b0F (s:ByteArray) (k:Int) (hs:s.size<=1048576) (hk:0<=k) (hk2:k<=1000000):Ctr Tryz.prog 146 [.v (.string s),.v (.int .i64 k)] (.many [.v (b2n (rdE s k)),.v (.bool (rdK s k))]):=by
 have hf1:=P4 (s:=s) (c:=35)
 have hf2:=a6R (s:=s) (c:=35)
 have hz:=w8 (n:=k) J J
 have ha:(P5 k).size=(s5 k).size+1:=(by unfold P5;rw [ByteArray.size_append];rfl)
 obtain ⟨hs1,hs2⟩:=R3 (s:=s) (b:=35)
 obtain ⟨ht1,ht2⟩:=R3 (s:=D9 s k) (b:=64)
 have hl1:=F7 (s:=s) (b:=35)
 have hrs:(D9 s k).size=(l9 s 35).size - (P5 k).size:=(by rw [D9,a2C (Nat.le_refl _)])
 have hf3:=P4 (s:=D9 s k) (c:=64)
 have hf4:=a6R (s:=D9 s k) (c:=64)
 have hl2:=F7 (s:=D9 s k) (b:=64)
 refine Ctr.of (n:=64) G Tryz.func146 Z Y Z Z Z (λw0=>?_)
 refine c1 (λK1 hK1=>?_)
 refine b6 (a7 Z (d7 G 1 Z Z Z Z Z (a7 Z (b5 Z Z (b8 Z Z) (b4 (hK1 _ ?_))))))
 clear hK1 K1
 refine c1 (λK2 hK2=>?_)
 refine b6 (a7 Z (b5 Z Z (b9 Z Z) (a7 Z (b5 Z Z (j4 Z (ArgsOK.of Z) (u7 _ J J) Z) (a7 Z (b5 Z Z (s6 Z Z Z (by (try simp only [ByteArray.size_append,i8,List.size_toArray,List.length_cons,List.length_nil]);omega)) (a7 Z (b5 Z Z (b8 Z Z) (b4 (hK2 _ ?_))))))))))
 clear hK2 K2
 rw [show (s5 k++(⟨#[32]⟩:ByteArray))=P5 k from rfl]
 refine c1 (λK3 hK3=>?_)
 refine b6 (a7 Z (b5 Z Z (b9 Z Z) (a7 Z (d4 2 Z Z Z (ArgsOK.of Z) (J0 s 35 J) Z Z (a7 Z ?_)))))
 first | refine b5 Z Z (c7 G Z Z Z Z Z J (by simp;omega)) ?_ | refine b5 Z Z (c7 G Z Z Z Z Z J J) ?_
 refine a7 Z (b5 Z Z (f8 G Z Z Z Z Z (A1 J (by simp;omega)) Z) (a7 Z (b5 Z Z (b8 Z Z) (b4 (hK3 _ ?_)))))
 clear hK3 K3
 first | rw [hs1] | rw [show (i6 s 35).getD ((0:Int)).toNat default=l9 s 35 from hs1] | trace_state
 refine c1 (λK4 hK4=>?_)
 refine c1 (λK5 hK5=>?_)
 refine b6 (a7 Z (b5 Z Z (b9 Z Z) (a7 Z (b5 Z Z (r5 G Z Z Z) (a7 Z (b5 Z Z (b9 Z Z) (a7 Z (b5 Z Z (r5 G Z Z Z) (a7 Z (b5 Z Z (t8 Z Z Z Z) (a7 Z (b5 Z Z (b9 Z Z) (A5 Z Z Z (λh1=>?_) (λh1=>?_))))))))))))))
 ·try rw [h1]
  try simp only [rfb] at h1
  have hB:=c4V (c4W (s:=s) (k:=k) J)
  refine l7 Z Z Z Z Z Z (l7 Z Z Z Z Z Z (l7 Z Z Z Z Z Z (l7 Z Z Z Z Z Z (l7 Z Z Z Z Z Z (l7 Z Z Z Z Z Z (a7 Z (b5 Z Z (w5 Z Z Z) (b4 (hK5 _ ?_)))))))))
  clear hK5 K5
  refine J4 Z ?_
  refine c1 (λK6 hK6=>?_)
  refine b6 (a7 Z (b5 Z Z (w9 G Z Z Z Z) (a7 Z (e9 G Z Z Z Z Z Z Z Z Z Z Z (a7 Z (b5 Z Z (b8 Z Z) (b4 (hK6 _ ?_))))))))
  clear hK6 K6
  exact c3R
 ·try rw [h1]
  try simp only [rfb] at h1
  refine o9 Z Z Z (b5 Z Z (b9 Z Z) (o9 Z Z Z (b5 Z Z (b9 Z Z) (o9 Z Z Z (b5 Z Z (r5 G Z Z Z) (o9 Z Z Z (b5 Z Z (z6 G Z Z Z Z Z J J J) (o9 Z Z Z (b5 Z Z (b9 Z Z) (o9 Z Z Z (b5 Z Z (w7 Z Z Z Z) (a7 Z (b5 Z Z (A6 Z Z Z) (b4 (hK5 _ ?_)))))))))))))))
  clear hK5 K5
  refine l4 Z (λh2=>?_) (λh2=>?_)
  ·try rw [h2]
   try simp only [rfb] at h2
   have hB:=c4V (c4X (s:=s) (k:=k) h2)
   refine c1 (λK7 hK7=>?_)
   refine b6 (a7 Z (b5 Z Z (w9 G Z Z Z Z) (a7 Z (e9 G Z Z Z Z Z Z Z Z Z Z Z (a7 Z (b5 Z Z (b8 Z Z) (b4 (hK7 _ ?_))))))))
   clear hK7 K7
   exact c3R
  ·try rw [h2]
   try simp only [rfb] at h2
   have hA:=c7i (s:=s) (k:=k) J h2
   refine p8 (hK4 _ ?_)
   clear hK4 K4
   refine c1 (λK8 hK8=>?_)
   refine b6 (a7 Z (b5 Z Z (b9 Z Z) (a7 Z (b5 Z Z (b9 Z Z) (a7 Z (b5 Z Z (r5 G Z Z Z) (a7 Z (b5 Z Z (z6 G Z Z Z Z Z J J J) (a7 Z (b5 Z Z (b8 Z Z) (b4 (hK8 _ ?_))))))))))))
   clear hK8 K8
   rw [show (l9 s 35).extract (((P5 k).size:Int)).toNat (((l9 s 35).size:Int)).toNat=D9 s k from rfl]
   refine c1 (λK9 hK9=>?_)
   refine b6 (a7 Z (b5 Z Z (b9 Z Z) (a7 Z (d4 3 Z Z Z (ArgsOK.of Z) (J0 (D9 s k) 64 J) Z Z (a7 Z ?_)))))
   first | refine b5 Z Z (c7 G Z Z Z Z Z J (by simp;omega)) ?_ | refine b5 Z Z (c7 G Z Z Z Z Z J J) ?_
   refine a7 Z (b5 Z Z (f8 G Z Z Z Z Z (A1 J (by simp;omega)) Z) (a7 Z (b5 Z Z (b8 Z Z) (b4 (hK9 _ ?_)))))
   clear hK9 K9
   first | rw [ht1] | rw [show (i6 (D9 s k) 64).getD ((0:Int)).toNat default=l9 (D9 s k) 64 from ht1] | trace_state
   refine c1 (λK10 hK10=>?_)
   refine c1 (λK11 hK11=>?_)
   refine b6 (a7 Z (b5 Z Z (b9 Z Z) (a7 Z (b5 Z Z (r5 G Z Z Z) (a7 Z (b5 Z Z (b9 Z Z) (a7 Z (b5 Z Z (r5 G Z Z Z) (a7 Z (b5 Z Z (t8 Z Z Z Z) (b4 (hK11 _ ?_))))))))))))
   clear hK11 K11
   refine l4 Z (λh3=>?_) (λh3=>?_)
   ·try rw [h3]
    try simp only [rfb] at h3
    have hB:=c4V (c4Y (s:=s) (k:=k) J)
    refine c1 (λK12 hK12=>?_)
    refine b6 (a7 Z (b5 Z Z (w9 G Z Z Z Z) (a7 Z (e9 G Z Z Z Z Z Z Z Z Z Z Z (a7 Z (b5 Z Z (b8 Z Z) (b4 (hK12 _ ?_))))))))
    clear hK12 K12
    refine d8 (r4 Z Z Z Z (b3 (C2 Z ?_) (b3 (j8 ?_) d9)))
    all_goals clear hK10 K10
    all_goals (first | (rw [hB.1];rfl) | (rw [hB.2];rfl) | (rw [hB.2];done) | (rw [b1p hB,h4];rfl) | (rw [b1p hB,h4];simp;done))
   ·try rw [h3]
    try simp only [rfb] at h3
    have hB:=c7j hA J
    have hr:=b72 (s:=s) (k:=k)
    have hxs:(rdX s k).c.size<=9223372036854775807/\(rdX s k).r.size<=9223372036854775807:=J
    refine p8 (hK10 _ ?_)
    clear hK10 K10
    refine c1 (λK13 hK13=>?_)
    refine b6 (a7 Z (b5 Z Z (b9 Z Z) (a7 Z (b5 Z Z (b9 Z Z) (a7 Z (b5 Z Z (b9 Z Z) (a7 Z (b5 Z Z (r5 G Z Z Z) (a7 Z ?_)))))))))
    first | refine b5 Z Z (p5 Z Z Z Z J J) ?_ | refine b5 Z Z (s3 Z Z Z Z) ?_
    refine a7 Z (b5 Z Z (z6 G Z Z Z Z Z J J J) (a7 Z (b5 Z Z (w9 G Z Z Z Z) (a7 Z (d7 G 4 Z Z Z Z Z (a7 Z (e9 G Z Z Z Z Z Z Z Z Z Z Z (b4 (hK13 _ ?_)))))))))
    clear hK13 K13
    rw [show (D9 s k).extract (((l9 (D9 s k) 64).size:Int)+1).toNat (((D9 s k).size:Int)).toNat=(rdX s k).r from rfl]
    rw [show l9 (D9 s k) 64=(rdX s k).c from rfl]
    refine c1 (λK14 hK14=>?_)
    refine l2 13 [1,2,3] mixed Y Z Z (λr0=>?_) (λ_ h=>h)
    refine d5 0 Z Y Y Z Z Z Z (d1 G Z Z Z Z Z Z) (d5 1 Z Y Y Z Z Z Z (d1 G Z Z Z Z Z Z) ?_)
    refine b7 (rs:=[2]) Y Z (AllB.cons ?_ AllB.nil)
    refine f9 [1,2,3] Z Z (b5 Z Z (j4 Z (ArgsOK.of Z) (a1u (rdX s k) hxs) Z) (b4 ⟨Z,?_⟩))
    refine d5 3 Z Y Y Z Z Z Z (b9 Z Z) (c0G (gd:=56) Z (λh4=>?_) (λh4=>?_))
    ·try rw [h4]
     try simp only [rfb] at h4
     refine V7 4 Z Y Y Z Z Z Z Z Z (b9 Z Z) (V7 5 Z Y Y Z Z Z Z Z Z (d1 G Z Z Z Z Z Z) (V7 7 Z Y Y Z Z Z Z Z Z (b9 Z Z) (V7 8 Z Y Y Z Z Z Z Z Z (s6 Z Z Z (by (try simp only [ByteArray.size_append,i8,List.size_toArray,List.length_cons,List.length_nil]);omega)) ?_)))
     refine b7 (rs:=[6]) Y Z (AllB.cons ?_ AllB.nil)
     refine c0H [1,2,3] Z Z Z Z (b5 Z Z (j4 Z (ArgsOK.of Z) (a1s k (rdX s k) J J (by assumption)) Z) (b4 ⟨Z,?_⟩))
     refine V7 9 Z Y Y Z Z Z Z Z Z (w7 Z Z Z Z) (d5 10 Z Y Y Z Z Z Z (w5 Z Z Z) ?_)
     exact c9c
    ·try rw [h4]
     try simp only [rfb] at h4
     refine a3j 4 Z Y Y Z Z Z Z Z Z (a3j 5 Z Y Y Z Z Z Z Z Z (a3j 6 Z Y Y Z Z Z Z Z Z (a3j 7 Z Y Y Z Z Z Z Z Z (a3j 8 Z Y Y Z Z Z Z Z Z (a3j 9 Z Y Y Z Z Z Z Z Z (d5 10 Z Y Y Z Z Z Z (A6 Z Z Z) ?_))))))
     exact c9c
theorem a7A (s:ByteArray) (k:Int) (hs:s.size<=1048576) (hk:0<=k) (hk2:k<=1000000):Ctr Tryz.prog 92 [.v (.string s),.v (.int .i64 k)] (.many [.v (b2n (rrE s k)),.v (.int .i64 (rrN s k)),.v (.bool (okL s k))]):=by
 have a1:=a1c (s:=s) (c:=10)
 have a2:=a1c (s:=l9 s 10) (c:=35)
 have a3:=a4g (s:=l9 (l9 s 10) 35) (c:=32)
 have a4:=a1c (s:=u4 (l9 (l9 s 10) 35) 32) (c:=64)
 have a5:=a4g (s:=u4 (l9 (l9 s 10) 35) 32) (c:=64)
 have hxs:(riE (l9 s 10)).c.size<=9223372036854775807/\(riE (l9 s 10)).r.size<=9223372036854775807:=(by have a6:=b73 (s:=l9 s 10);exact ⟨Nat.le_trans a6.1 J,Nat.le_trans a6.2 J⟩)
 refine Ctr.of (n:=71) G Tryz.func92 Z Y Z Z Z (λw0=>?_)
 refine c1 (λK1 hK1=>?_)
 refine b6 (a7 Z (d7 G 1 Z Z Z Z Z (a7 Z (b5 Z Z (b8 Z Z) (a7 Z (b5 Z Z (b8 Z Z) (b4 (hK1 _ ?_))))))))
 clear hK1 K1
 refine c1 (λK2 hK2=>?_)
 refine b6 (a7 Z (b5 Z Z (b9 Z Z) (a7 Z (b5 Z Z (j4 Z (ArgsOK.of Z) (a0p s 10 10 Z J) Z) (a7 Z (b5 Z Z (b9 Z Z) (a7 Z (b5 Z Z (i1 Z Z Z) (a7 Z (b5 Z Z (i1 Z Z Z) (a7 Z (b5 Z Z (i1 Z Z Z) (a7 Z (b5 Z Z (b8 Z Z) (a7 Z (b5 Z Z (b8 Z Z) (a7 Z (b5 Z Z (b8 Z Z) (b4 (hK2 _ ?_))))))))))))))))))))
 clear hK2 K2
 refine c1 (λK3 hK3=>?_)
 refine b6 (a7 Z (b5 Z Z (b9 Z Z) (a7 Z (b5 Z Z (j4 Z (ArgsOK.of Z) (a0p (l9 s 10) 35 35 Z J) Z) (a7 Z (b5 Z Z (b9 Z Z) (a7 Z (b5 Z Z (i1 Z Z Z) (a7 Z (b5 Z Z (i1 Z Z Z) (a7 Z (b5 Z Z (i1 Z Z Z) (a7 Z (b5 Z Z (b8 Z Z) (a7 Z (b5 Z Z (b8 Z Z) (a7 Z (b5 Z Z (b8 Z Z) (b4 (hK3 _ ?_))))))))))))))))))))
 clear hK3 K3
 refine c1 (λK4 hK4=>?_)
 refine b6 (a7 Z (b5 Z Z (b9 Z Z) (a7 Z (b5 Z Z (j4 Z (ArgsOK.of Z) (a0p (l9 (l9 s 10) 35) 32 32 Z J) Z) (a7 Z (b5 Z Z (b9 Z Z) (a7 Z (b5 Z Z (i1 Z Z Z) (a7 Z (b5 Z Z (i1 Z Z Z) (a7 Z (b5 Z Z (i1 Z Z Z) (a7 Z (b5 Z Z (b8 Z Z) (a7 Z (b5 Z Z (b8 Z Z) (a7 Z (b5 Z Z (b8 Z Z) (b4 (hK4 _ ?_))))))))))))))))))))
 clear hK4 K4
 refine c1 (λK5 hK5=>?_)
 refine b6 (a7 Z (b5 Z Z (b9 Z Z) (a7 Z (b5 Z Z (j4 Z (ArgsOK.of Z) (a0p (u4 (l9 (l9 s 10) 35) 32) 64 64 Z J) Z) (a7 Z (b5 Z Z (b9 Z Z) (a7 Z (b5 Z Z (i1 Z Z Z) (a7 Z (b5 Z Z (i1 Z Z Z) (a7 Z (b5 Z Z (i1 Z Z Z) (a7 Z (b5 Z Z (b8 Z Z) (a7 Z (b5 Z Z (b8 Z Z) (a7 Z (b5 Z Z (b8 Z Z) (b4 (hK5 _ ?_))))))))))))))))))))
 clear hK5 K5
 rw [← c7k,← c7l]
 refine c1 (λK6 hK6=>?_)
 refine b6 (a7 Z (b5 Z Z (b9 Z Z) (a7 Z (b5 Z Z (b9 Z Z) (a7 Z (b5 Z Z (w9 G Z Z Z Z) (a7 Z (d7 G 2 Z Z Z Z Z (a7 Z (e9 G Z Z Z Z Z Z Z Z Z Z Z (b4 (hK6 _ ?_))))))))))))
 clear hK6 K6
 refine c1 (λK7 hK7=>?_)
 refine c1 (λK8 hK8=>?_)
 refine b6 (a7 Z (b5 Z Z (b9 Z Z) (a7 Z (b5 Z Z (a1z Z Z) (a7 Z (b5 Z Z (b9 Z Z) (A5 Z Z Z (λh1=>?_) (λh1=>?_))))))))
 ·try rw [h1]
  try simp only [rfb] at h1
  have hO:=b5G (s:=s) (k:=k) (by rw [b3G hk,riK];simp [h1])
  refine l7 Z Z Z Z Z Z (l7 Z Z Z Z Z Z (a7 Z (b5 Z Z (w5 Z Z Z) (a7 Z (b5 Z Z (b9 Z Z) (l7 Z Z Z Z Z Z (l7 Z Z Z Z Z Z (l7 Z Z Z Z Z Z (a7 Z (b5 Z Z (w5 Z Z Z) (a7 Z (b5 Z Z (b9 Z Z) (l7 Z Z Z Z Z Z (l7 Z Z Z Z Z Z (l7 Z Z Z Z Z Z (l7 Z Z Z Z Z Z (l7 Z Z Z Z Z Z (l7 Z Z Z Z Z Z (a7 Z (b5 Z Z (w5 Z Z Z) (b4 (hK8 _ ?_))))))))))))))))))))))
  clear hK8 K8
  refine J4 Z ?_
  refine c1 (λK9 hK9=>?_)
  refine b6 (a7 Z (b5 Z Z (w9 G Z Z Z Z) (a7 Z (e9 G Z Z Z Z Z Z Z Z Z Z Z (a7 Z (b5 Z Z (b8 Z Z) (a7 Z (b5 Z Z (b8 Z Z) (b4 (hK9 _ ?_))))))))))
  clear hK9 K9
  exact c19
 ·try rw [h1]
  try simp only [rfb] at h1
  refine o9 Z Z Z (b5 Z Z (b9 Z Z) (o9 Z Z Z (b5 Z Z (t8 Z Z Z Z) (a7 Z (b5 Z Z (A6 Z Z Z) (a7 Z (b5 Z Z (b9 Z Z) (A5 Z Z Z (λh2=>?_) (λh2=>?_)))))))))
  ·try rw [h2]
   try simp only [rfb] at h2
   have d2:decide (k < 60)=false:=decide_eq_false J
   have hO:=b5G (s:=s) (k:=k) (by rw [b3G hk,riK];simp [h1,d2])
   refine l7 Z Z Z Z Z Z (l7 Z Z Z Z Z Z (l7 Z Z Z Z Z Z (a7 Z (b5 Z Z (w5 Z Z Z) (a7 Z (b5 Z Z (b9 Z Z) (l7 Z Z Z Z Z Z (l7 Z Z Z Z Z Z (l7 Z Z Z Z Z Z (l7 Z Z Z Z Z Z (l7 Z Z Z Z Z Z (l7 Z Z Z Z Z Z (a7 Z (b5 Z Z (w5 Z Z Z) (b4 (hK8 _ ?_))))))))))))))))
   clear hK8 K8
   refine J4 Z ?_
   refine c1 (λK10 hK10=>?_)
   refine b6 (a7 Z (b5 Z Z (w9 G Z Z Z Z) (a7 Z (e9 G Z Z Z Z Z Z Z Z Z Z Z (a7 Z (b5 Z Z (b8 Z Z) (a7 Z (b5 Z Z (b8 Z Z) (b4 (hK10 _ ?_))))))))))
   clear hK10 K10
   exact c19
  ·try rw [h2]
   try simp only [rfb] at h2
   have d2:decide (k < 60)=true:=decide_eq_true J
   refine o9 Z Z Z (b5 Z Z (d1 G Z Z Z Z Z Z) (o9 Z Z Z (b5 Z Z (j4 Z (ArgsOK.of Z) (Q0 (riE (l9 s 10)) hxs) Z) ?_)))
   refine o9 Z Z Z (b5 Z Z (a1z Z Z) (a7 Z (b5 Z Z (A6 Z Z Z) (a7 Z (b5 Z Z (b9 Z Z) (A5 Z Z Z (λh3=>?_) (λh3=>?_)))))))
   ·try rw [h3]
    try simp only [rfb] at h3
    have hO:=b5G (s:=s) (k:=k) (by rw [b3G hk,riK];simp [h1,d2,h3])
    refine l7 Z Z Z Z Z Z (l7 Z Z Z Z Z Z (l7 Z Z Z Z Z Z (l7 Z Z Z Z Z Z (l7 Z Z Z Z Z Z (l7 Z Z Z Z Z Z (a7 Z (b5 Z Z (w5 Z Z Z) (b4 (hK8 _ ?_)))))))))
    clear hK8 K8
    refine J4 Z ?_
    refine c1 (λK11 hK11=>?_)
    refine b6 (a7 Z (b5 Z Z (w9 G Z Z Z Z) (a7 Z (e9 G Z Z Z Z Z Z Z Z Z Z Z (a7 Z (b5 Z Z (b8 Z Z) (a7 Z (b5 Z Z (b8 Z Z) (b4 (hK11 _ ?_))))))))))
    clear hK11 K11
    exact c19
   ·try rw [h3]
    try simp only [rfb] at h3
    refine o9 Z Z Z (b5 Z Z (b9 Z Z) (o9 Z Z Z (b5 Z Z (d1 G Z Z Z Z Z Z) (o9 Z Z Z (b5 Z Z (j4 Z (ArgsOK.of Z) (a0X k (riE (l9 s 10)) J J (by assumption)) Z) (o9 Z Z Z (b5 Z Z (b9 Z Z) (o9 Z Z Z (b5 Z Z (s6 Z Z Z (by (try simp only [ByteArray.size_append,i8,List.size_toArray,List.length_cons,List.length_nil]);omega)) (o9 Z Z Z (b5 Z Z (w7 Z Z Z Z) (a7 Z (b5 Z Z (A6 Z Z Z) (b4 (hK8 _ ?_)))))))))))))))
    clear hK8 K8
    refine l4 Z (λh4=>?_) (λh4=>?_)
    ·try rw [h4]
     try simp only [rfb] at h4
     have hO:=b5G (s:=s) (k:=k) (by rw [b3G hk,riK];simp [h1,d2,h3,h4])
     refine c1 (λK12 hK12=>?_)
     refine b6 (a7 Z (b5 Z Z (w9 G Z Z Z Z) (a7 Z (e9 G Z Z Z Z Z Z Z Z Z Z Z (a7 Z (b5 Z Z (b8 Z Z) (a7 Z (b5 Z Z (b8 Z Z) (b4 (hK12 _ ?_))))))))))
     clear hK12 K12
     exact c19
    ·try rw [h4]
     try simp only [rfb] at h4
     have hO:=c7m (s:=s) (k:=k) hk (by rw [b3G hk,riK];simp [h1,d2,h3,h4])
     refine p8 (hK7 _ ?_)
     clear hK7 K7
     refine c1 (λK13 hK13=>?_)
     refine b6 (a7 Z (b5 Z Z (d1 G Z Z Z Z Z Z) (a7 Z (b5 Z Z (b9 Z Z) (a7 Z (b5 Z Z (r5 G Z Z Z) (a7 Z ?_)))))))
     first | refine b5 Z Z (p5 Z Z Z Z J J) ?_ | refine b5 Z Z (s3 Z Z Z Z) ?_
     refine a7 Z (e9 G Z Z Z Z Z Z Z Z Z Z Z (a7 Z (b5 Z Z (b8 Z Z) (a7 Z (b5 Z Z (b8 Z Z) (b4 (hK13 _ ?_)))))))
     clear hK13 K13
     refine d8 (r4 Z Z Z Z (b3 (C2 Z ?_) (b3 (j8 ?_) (b3 (j8 ?_) d9))))
     all_goals (first | (rw [hO.1];rfl) | (rw [hO.2.1];rfl) | (rw [hO.2.1];done) | (rw [hO.2.2];rfl) | (rw [hO.2.2];done))
end Go.Proofs.YtdhckhjphmjniaaGreatDoor
