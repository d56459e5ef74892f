/- Texts merged into one: Tab, Shelf, Atoi, S, W1, M1. -/
import Derived.Test.YtpfhomblkgmkkaaGreatDoorWs
import Derived.Test.YtpfhomblkgmkkaaGreatDoorProg
import Derived.KernelRfl
import Derived.Shelf.Strings.OnBuilder
import Derived.Shelf.Utf8.RuneCount
import Derived.Shelf.Strconv.Itoa0
import Derived.Shelf.Strconv.Itoa1
import Derived.Shelf.LaysM
import Derived.Shelf.Strconv.Itoa2
import Derived.Shelf.Strconv.Itoa3
import Derived.Shelf.Strings.Search1
import Derived.Shelf.Strings.Search2
import Derived.Shelf.Strings.Search3
import Derived.Shelf.Strings.Cut
import Derived.Shelf.Strings.Shaped
import Derived.Shelf.Sort.Plain
import Derived.Shelf.Strings.Split
import Derived.Shelf.Strings.SplitShaped
import Derived.Shelf.Unicode.Decode
import Derived.Shelf.Strings.RuneCount
import Derived.Shelf.Strings.Explode
import Derived.Shelf.Unicode.DecodeAny
import Derived.Shelf.Slices.In.SortNone
import Derived.Shelf.Strconv.Atoi
import Derived.Shelf.Strconv.AtoiErr
set_option maxHeartbeats 4000000
set_option linter.unusedSimpArgs false
set_option linter.unusedVariables false
namespace Go.Proofs.YtpfhomblkgmkkaaGreatDoor
open Go Go.Rf
def tb:List (Nat×TyI):=[
 (2,.flat (.int .i64) (.int .i64 0)),
 (3,.flat (.int .i64) (.int .i64 0)),
 (4,.flat .bool (.bool false)),
 (5,.flat (.int .u8) (.int .u8 0)),
 (6,.flat (.int .u8) (.int .u8 0)),
 (7,.struct [(0,2),(1,3),(2,4),(3,6)] [.int .i64 0,.int .i64 0,.bool false,.int .u8 0]),
 (8,.struct [(0,2),(1,3),(2,4),(3,6)] [.int .i64 0,.int .i64 0,.bool false,.int .u8 0]),
 (9,.flat .str (.string ⟨#[]⟩)),
 (10,.flat .str (.string ⟨#[]⟩)),
 (11,.flat .str (.string ⟨#[]⟩)),
 (12,.flat (.int .u64) (.int .u64 0)),
 (13,.struct [(0,9),(1,12)] [.string ⟨#[]⟩,.int .u64 0]),
 (14,.struct [(0,9),(1,12)] [.string ⟨#[]⟩,.int .u64 0]),
 (15,.flat .other (.pointer none)),
 (16,.flat .other (.pointer none)),
 (17,.flat .other (.pointer none)),
 (18,.struct [(0,17)] [.pointer none]),
 (19,.struct [(0,17)] [.pointer none]),
 (21,.flat (.int .i32) (.int .i32 0)),
 (22,.slice 85 2 16 [.int .i64 0,.int .i64 0]),
 (23,.slice 4 1 1 [.bool false]),
 (24,.slice 129 4 80 [.int .i64 0,.slice none 0 0,.slice none 0 0,.slice none 0 0]),
 (25,.struct [(0,22),(1,23),(2,23),(3,24)] [.slice none 0 0,.slice none 0 0,.slice none 0 0,.slice none 0 0]),
 (26,.struct [(0,22),(1,23),(2,23),(3,24)] [.slice none 0 0,.slice none 0 0,.slice none 0 0,.slice none 0 0]),
 (27,.struct [(0,9),(1,9),(2,3)] [.string ⟨#[]⟩,.string ⟨#[]⟩,.int .i64 0]),
 (28,.struct [(0,9),(1,9),(2,3)] [.string ⟨#[]⟩,.string ⟨#[]⟩,.int .i64 0]),
 (29,.struct [(0,26),(4,28)] [.slice none 0 0,.slice none 0 0,.slice none 0 0,.slice none 0 0,.string ⟨#[]⟩,.string ⟨#[]⟩,.int .i64 0]),
 (30,.struct [(0,26),(4,28)] [.slice none 0 0,.slice none 0 0,.slice none 0 0,.slice none 0 0,.string ⟨#[]⟩,.string ⟨#[]⟩,.int .i64 0]),
 (32,.slice 83 2 16 [.int .i64 0,.int .i64 0]),
 (33,.slice 135 4 80 [.int .i64 0,.slice none 0 0,.slice none 0 0,.slice none 0 0]),
 (34,.struct [(0,32),(1,23),(2,23),(3,33)] [.slice none 0 0,.slice none 0 0,.slice none 0 0,.slice none 0 0]),
 (35,.struct [(0,32),(1,23),(2,23),(3,33)] [.slice none 0 0,.slice none 0 0,.slice none 0 0,.slice none 0 0]),
 (36,.struct [(0,9),(1,9),(2,3)] [.string ⟨#[]⟩,.string ⟨#[]⟩,.int .i64 0]),
 (37,.struct [(0,35),(4,36)] [.slice none 0 0,.slice none 0 0,.slice none 0 0,.slice none 0 0,.string ⟨#[]⟩,.string ⟨#[]⟩,.int .i64 0]),
 (38,.struct [(0,35),(4,36)] [.slice none 0 0,.slice none 0 0,.slice none 0 0,.slice none 0 0,.string ⟨#[]⟩,.string ⟨#[]⟩,.int .i64 0]),
 (45,.slice 9 1 16 [.string ⟨#[]⟩]),
 (62,.struct [(0,9),(1,9)] [.string ⟨#[]⟩,.string ⟨#[]⟩]),
 (63,.struct [(0,9),(1,9)] [.string ⟨#[]⟩,.string ⟨#[]⟩]),
 (69,.flat .other (.pointer none)),
 (79,.slice 63 2 32 [.string ⟨#[]⟩,.string ⟨#[]⟩]),
 (82,.struct [(0,3),(1,3)] [.int .i64 0,.int .i64 0]),
 (83,.struct [(0,3),(1,3)] [.int .i64 0,.int .i64 0]),
 (85,.struct [(0,3),(1,3)] [.int .i64 0,.int .i64 0]),
 (93,.slice 3 1 8 [.int .i64 0]),
 (97,.struct [(0,3),(1,3),(2,3),(3,3)] [.int .i64 0,.int .i64 0,.int .i64 0,.int .i64 0]),
 (98,.struct [(0,3),(1,3),(2,3),(3,3)] [.int .i64 0,.int .i64 0,.int .i64 0,.int .i64 0]),
 (116,.slice 5 1 1 [.int .u8 0]),
 (124,.slice 260 3 24 [.int .i64 0,.int .i64 0,.int .i64 0]),
 (125,.slice 262 2 16 [.int .i64 0,.int .i64 0]),
 (126,.struct [(0,124),(1,125)] [.slice none 0 0,.slice none 0 0]),
 (127,.struct [(0,124),(1,125)] [.slice none 0 0,.slice none 0 0]),
 (128,.struct [(0,3),(1,93),(2,127)] [.int .i64 0,.slice none 0 0,.slice none 0 0,.slice none 0 0]),
 (129,.struct [(0,3),(1,93),(2,127)] [.int .i64 0,.slice none 0 0,.slice none 0 0,.slice none 0 0]),
 (130,.slice 169 3 24 [.int .i64 0,.int .i64 0,.int .i64 0]),
 (131,.slice 182 2 16 [.int .i64 0,.int .i64 0]),
 (132,.struct [(0,130),(1,131)] [.slice none 0 0,.slice none 0 0]),
 (133,.struct [(0,130),(1,131)] [.slice none 0 0,.slice none 0 0]),
 (134,.struct [(0,3),(1,93),(2,133)] [.int .i64 0,.slice none 0 0,.slice none 0 0,.slice none 0 0]),
 (135,.struct [(0,3),(1,93),(2,133)] [.int .i64 0,.slice none 0 0,.slice none 0 0,.slice none 0 0]),
 (157,.slice 93 1 24 [.slice none 0 0]),
 (158,.struct [(0,23),(1,23),(2,23),(3,93),(4,157)] [.slice none 0 0,.slice none 0 0,.slice none 0 0,.slice none 0 0,.slice none 0 0]),
 (159,.struct [(0,23),(1,23),(2,23),(3,93),(4,157)] [.slice none 0 0,.slice none 0 0,.slice none 0 0,.slice none 0 0,.slice none 0 0]),
 (168,.struct [(0,3),(1,3),(2,3)] [.int .i64 0,.int .i64 0,.int .i64 0]),
 (169,.struct [(0,3),(1,3),(2,3)] [.int .i64 0,.int .i64 0,.int .i64 0]),
 (181,.struct [(0,3),(1,3)] [.int .i64 0,.int .i64 0]),
 (182,.struct [(0,3),(1,3)] [.int .i64 0,.int .i64 0]),
 (218,.flat (.int .u64) (.int .u64 0)),
 (222,.flat (.int .i64) (.int .i64 0)),
 (225,.flat .other (.pointer none)),
 (228,.flat .other (.pointer none)),
 (229,.struct [(0,228),(1,116)] [.pointer none,.slice none 0 0]),
 (230,.struct [(0,228),(1,116)] [.pointer none,.slice none 0 0]),
 (237,.flat .other (.pointer none)),
 (238,.flat .other (.pointer none)),
 (246,.flat (.int .u64) (.int .u64 0)),
 (260,.struct [(0,3),(1,3),(2,3)] [.int .i64 0,.int .i64 0,.int .i64 0]),
 (262,.struct [(0,3),(1,3)] [.int .i64 0,.int .i64 0]),
 (264,.flat (.int .i64) (.int .i64 0)),
 (272,.flat (.int .u32) (.int .u32 0)),
 (278,.struct [(0,9),(1,9),(2,147)] [.string ⟨#[]⟩,.string ⟨#[]⟩,.nilIface]),
 (279,.struct [(0,9),(1,9),(2,147)] [.string ⟨#[]⟩,.string ⟨#[]⟩,.nilIface]),
 (281,.flat .other (.pointer none)),
 (298,.struct [(0,5),(1,5)] [.int .u8 0,.int .u8 0]),
 (299,.struct [(0,5),(1,5)] [.int .u8 0,.int .u8 0]),
 (303,.flat (.int .u64) (.int .u64 0)),
 (307,.flat .other (.pointer none)),
 (310,.flat .other (.pointer none)),
 (311,.struct [(0,9)] [.string ⟨#[]⟩]),
 (312,.struct [(0,9)] [.string ⟨#[]⟩]),
 (320,.flat .other (.pointer none)),
 (329,.struct [(0,17),(1,17),(2,17),(3,9)] [.pointer none,.pointer none,.pointer none,.string ⟨#[]⟩]),
 (330,.struct [(0,17),(1,17),(2,17),(3,9)] [.pointer none,.pointer none,.pointer none,.string ⟨#[]⟩]),
 (335,.flat (.int .u8) (.int .u8 0)),
 (336,.flat (.int .u8) (.int .u8 0)),
 (338,.flat (.int .i32) (.int .i32 0)),
 (339,.flat (.int .i32) (.int .i32 0))]
theorem G:Go.Rf.Good Tryz.prog tb:=Go.Rf.Good.of Y
open Go.Lib in
instance:Env Tryz.prog:=⟨λw=>TabIs Tryz.prog w "internal/strconv.uint64pow10" .u64 pow10Tab/\(∃ev:Value,w.cell? ⟨1,0,none⟩=some ev/\(ev=.nilIface∨∃te pe,ev=.iface te pe))/\∃m:Int,w.cell? ⟨0,0,none⟩=some (.int .i64 m),
 λh hb=>⟨Rf.b6t h.1 hb,(let ⟨ev,h1,h2⟩:=h.2.1;⟨ev,Rf.a9d h1 hb,h2⟩),let ⟨m,hm⟩:=h.2.2;⟨m,Rf.a9d hm hb⟩⟩⟩
theorem mixed:Tryz.prog.follows .mixedOrders=true:=by kernel_rfl
end Go.Proofs.YtpfhomblkgmkkaaGreatDoor
namespace Go.Proofs
open Go.Shelf
def Tryz.lays156_ren:Go.Shelf.Ren:=⟨fun | 156=>170 | 165=>217 | 166=>218 | 169=>219 | 240=>270 | 241=>271 | 276=>305 | 277=>306 | n=>n,fun | 31=>45 | 9=>9 | 3=>3 | 4=>4 | 0=>0 | 20=>20 | 72=>230 | 76=>148 | 70=>228 | 37=>116 | 75=>147 | 127=>281 | 164=>313 | 5=>5 | 80=>232 | n=>n,fun | n=>n⟩
theorem Tryz.lays156:Go.Proofs.Lays.n156 Tryz.prog Tryz.lays156_ren:={
 mixed:=by kernel_rfl
 f156:=Tryz.func170.trans (congrArg some (by kernel_rfl))
 f165:=Tryz.func217.trans (congrArg some (by kernel_rfl))
 f166:=Tryz.func218.trans (congrArg some (by kernel_rfl))
 f169:=Tryz.func219.trans (congrArg some (by kernel_rfl))
 f240:=Tryz.func270.trans (congrArg some (by kernel_rfl))
 f241:=Tryz.func271.trans (congrArg some (by kernel_rfl))
 f276:=Tryz.func305.trans (congrArg some (by kernel_rfl))
 f277:=Tryz.func306.trans (congrArg some (by kernel_rfl))
 t0:=Tryz.underlying0
 a0:=Tryz.isAgg0
 z0:=Tryz.sizeOf0
 v0:=Tryz.zeroValue0
 t3:=Tryz.underlying3
 a3:=Tryz.isAgg3
 z3:=Tryz.sizeOf3
 v3:=Tryz.zeroValue3
 t4:=Tryz.underlying4
 a4:=Tryz.isAgg4
 z4:=Tryz.sizeOf4
 v4:=Tryz.zeroValue4
 t9:=Tryz.underlying9
 a9:=Tryz.isAgg9
 z9:=Tryz.sizeOf9
 v9:=Tryz.zeroValue9
 t20:=Tryz.underlying20
 a20:=Tryz.isAgg20
 z20:=Tryz.sizeOf20
 v20:=Tryz.zeroValue20
 t31:=Tryz.underlying45
 a31:=Tryz.isAgg45
 z31:=Tryz.sizeOf45
 v31:=Tryz.zeroValue45
 t37:=Tryz.underlying116
 a37:=Tryz.isAgg116
 z37:=Tryz.sizeOf116
 v37:=Tryz.zeroValue116
 t70:=Tryz.underlying228
 a70:=Tryz.isAgg228
 z70:=Tryz.sizeOf228
 v70:=Tryz.zeroValue228
 t72:=Tryz.underlying230
 a72:=Tryz.isAgg230
 z72:=Tryz.sizeOf230
 v72:=Tryz.zeroValue230
 t75:=Tryz.underlying147
 a75:=Tryz.isAgg147
 z75:=Tryz.sizeOf147
 v75:=Tryz.zeroValue147
 t76:=Tryz.underlying148
 a76:=Tryz.isAgg148
 z76:=Tryz.sizeOf148
 v76:=Tryz.zeroValue148
 t127:=Tryz.underlying281
 a127:=Tryz.isAgg281
 z127:=Tryz.sizeOf281
 v127:=Tryz.zeroValue281
 t164:=Tryz.underlying313
 a164:=Tryz.isAgg313
 z164:=Tryz.sizeOf313
 v164:=Tryz.zeroValue313 }
theorem Tryz.Builder_Extra_156:Builder.Extra Tryz.prog Tryz.lays156_ren:={
 sizeBuilder:=by kernel_rfl
 liesBuilder:=by kernel_rfl
 t5:=Tryz.underlying5
 a5:=Tryz.isAgg5
 z5:=Tryz.sizeOf5
 v5:=Tryz.zeroValue5
 infoByte:=by kernel_rfl
 cellsByte:=by kernel_rfl
 sizeByte:=by kernel_rfl
 neB5:=by decide }
open Go.RowKit in
theorem Tryz.strings_Join_none (a:Option Addr) (c:Nat) (sep:ByteArray) (w:World) :
 Calls Tryz.prog 170 #[.slice a 0 c,.string sep] w λe w'=>e=.returned (.string ⟨#[]⟩)/\w'=w:=Any.strings_Join_none Tryz.lays156 Tryz.Builder_Extra_156 a c sep w
open Go.RowKit in
theorem Tryz.strings_Join (bk o c:Nat) (xs:List ByteArray) (sep:ByteArray) (w:World) (hcells:∀(j:Nat) x,xs[j]?=some x→w.cell? ⟨bk,o+j,none⟩=some (.string x)) (hbk:bk < w.heap.size) (hN:xs.length<=140737488355328) (hcap:xs.length<=c) (hlen:(Lib.join (xs.map (·.data.toList)) sep.data.toList).length<=140737488355328) :
 Calls Tryz.prog 170 #[.slice (some ⟨bk,o,none⟩) xs.length c,.string sep] w λe w'=>e=.returned (.string ⟨(Lib.join (xs.map (·.data.toList)) sep.data.toList).toArray⟩)/\Below w.heap.size w w':=Any.strings_Join Tryz.lays156 Tryz.Builder_Extra_156 bk o c xs sep w hcells hbk hN hcap hlen
def Tryz.laysM171_ren:Go.Shelf.Ren:=⟨fun | 171=>75 | 243=>121 | 246=>179 | 283=>229 | 284=>230 | 285=>231 | 286=>232 | 129=>262 | 317=>286 | 318=>287 | 319=>288 | 320=>289 | 337=>313 | 338=>314 | n=>n,fun | 3=>3 | 9=>9 | 2=>2 | 4=>4 | 171=>245 | 0=>0 | 53=>246 | 37=>116 | 5=>5 | 173=>249 | 212=>293 | 51=>272 | 20=>20 | 213=>294 | 46=>218 | 232=>325 | 233=>326 | n=>n,fun | 17=>3 | 18=>6 | 19=>7 | n=>n⟩
theorem Tryz.laysM171:Go.Proofs.LaysM.n171 Tryz.prog Tryz.laysM171_ren:={
 mixed:=by kernel_rfl
 f129:=Tryz.func262.trans (congrArg some (by kernel_rfl))
 f171:=Tryz.func75.trans (congrArg some (by kernel_rfl))
 f243:=Tryz.func121.trans (congrArg some (by kernel_rfl))
 f246:=Tryz.func179.trans (congrArg some (by kernel_rfl))
 f283:=Tryz.func229.trans (congrArg some (by kernel_rfl))
 f284:=Tryz.func230.trans (congrArg some (by kernel_rfl))
 f285:=Tryz.func231.trans (congrArg some (by kernel_rfl))
 f286:=Tryz.func232.trans (congrArg some (by kernel_rfl))
 f317:=Tryz.func286.trans (congrArg some (by kernel_rfl))
 f318:=Tryz.func287.trans (congrArg some (by kernel_rfl))
 f319:=Tryz.func288.trans (congrArg some (by kernel_rfl))
 f320:=Tryz.func289.trans (congrArg some (by kernel_rfl))
 f337:=Tryz.func313.trans (congrArg some (by kernel_rfl))
 f338:=Tryz.func314.trans (congrArg some (by kernel_rfl))
 t0:=Tryz.underlying0
 a0:=Tryz.isAgg0
 z0:=Tryz.sizeOf0
 v0:=Tryz.zeroValue0
 t2:=Tryz.underlying2
 a2:=Tryz.isAgg2
 z2:=Tryz.sizeOf2
 v2:=Tryz.zeroValue2
 t3:=Tryz.underlying3
 a3:=Tryz.isAgg3
 z3:=Tryz.sizeOf3
 v3:=Tryz.zeroValue3
 t4:=Tryz.underlying4
 a4:=Tryz.isAgg4
 z4:=Tryz.sizeOf4
 v4:=Tryz.zeroValue4
 t5:=Tryz.underlying5
 a5:=Tryz.isAgg5
 z5:=Tryz.sizeOf5
 v5:=Tryz.zeroValue5
 t9:=Tryz.underlying9
 a9:=Tryz.isAgg9
 z9:=Tryz.sizeOf9
 v9:=Tryz.zeroValue9
 t20:=Tryz.underlying20
 a20:=Tryz.isAgg20
 z20:=Tryz.sizeOf20
 v20:=Tryz.zeroValue20
 t37:=Tryz.underlying116
 a37:=Tryz.isAgg116
 z37:=Tryz.sizeOf116
 v37:=Tryz.zeroValue116
 t46:=Tryz.underlying218
 a46:=Tryz.isAgg218
 z46:=Tryz.sizeOf218
 v46:=Tryz.zeroValue218
 t51:=Tryz.underlying272
 a51:=Tryz.isAgg272
 z51:=Tryz.sizeOf272
 v51:=Tryz.zeroValue272
 t53:=Tryz.underlying246
 a53:=Tryz.isAgg246
 z53:=Tryz.sizeOf246
 v53:=Tryz.zeroValue246
 t171:=Tryz.underlying245
 a171:=Tryz.isAgg245
 z171:=Tryz.sizeOf245
 v171:=Tryz.zeroValue245
 t173:=Tryz.underlying249
 a173:=Tryz.isAgg249
 z173:=Tryz.sizeOf249
 v173:=Tryz.zeroValue249
 t212:=Tryz.underlying293
 a212:=Tryz.isAgg293
 z212:=Tryz.sizeOf293
 v212:=Tryz.zeroValue293
 t213:=Tryz.underlying294
 a213:=Tryz.isAgg294
 z213:=Tryz.sizeOf294
 t232:=Tryz.underlying325
 a232:=Tryz.isAgg325
 z232:=Tryz.sizeOf325
 v232:=Tryz.zeroValue325
 t233:=Tryz.underlying326
 a233:=Tryz.isAgg326
 z233:=Tryz.sizeOf326
 v233:=Tryz.zeroValue326
 g17:=by kernel_rfl
 g18:=by kernel_rfl
 g19:=by kernel_rfl
 i0:=by kernel_rfl
 i2:=by kernel_rfl
 i3:=by kernel_rfl
 i4:=by kernel_rfl
 i5:=by kernel_rfl
 i9:=by kernel_rfl
 i20:=by kernel_rfl
 i37:=by kernel_rfl
 i46:=by kernel_rfl
 i51:=by kernel_rfl
 i53:=by kernel_rfl
 i171:=by kernel_rfl
 i173:=by kernel_rfl
 i212:=by kernel_rfl
 i232:=by kernel_rfl
 i233:=by kernel_rfl
 m17:=by kernel_rfl
 m18:=by kernel_rfl
 m19:=by kernel_rfl }
open Go.RowKit Go.Sort Go.Lib in
theorem Tryz.strconv_Itoa (n:Int) (h0:-9223372036854775808<=n) (h1:n<=9223372036854775807) (w:World) (htab:Lib.TabIs Tryz.prog w "internal/strconv.uint64pow10" .u64 Lib.pow10Tab) :
 Calls Tryz.prog 75 #[.int .i64 n] w λe w'=>e=.returned (.string ⟨(Lib.itoa n).toArray⟩)/\∃k os,w'=grow (w.drewN k) os:=Any.strconv_Itoa Tryz.laysM171 n h0 h1 w htab
def Tryz.lays144_ren:Go.Shelf.Ren:=⟨fun | 144=>69 | 143=>108 | 219=>167 | 217=>208 | 225=>209 | 224=>210 | 267=>211 | 266=>265 | 314=>266 | n=>n,fun | 9=>9 | 4=>4 | 3=>3 | 5=>5 | 46=>218 | 146=>274 | 51=>272 | n=>n,fun | 1=>0 | n=>n⟩
theorem Tryz.lays144:Go.Proofs.Lays.n144 Tryz.prog Tryz.lays144_ren:={
 mixed:=by kernel_rfl
 f143:=Tryz.func108.trans (congrArg some (by kernel_rfl))
 f144:=Tryz.func69.trans (congrArg some (by kernel_rfl))
 f217:=Tryz.func208.trans (congrArg some (by kernel_rfl))
 f219:=Tryz.func167.trans (congrArg some (by kernel_rfl))
 f224:=Tryz.func210.trans (congrArg some (by kernel_rfl))
 f225:=Tryz.func209.trans (congrArg some (by kernel_rfl))
 f266:=Tryz.func265.trans (congrArg some (by kernel_rfl))
 f267:=Tryz.func211.trans (congrArg some (by kernel_rfl))
 f314:=Tryz.func266.trans (congrArg some (by kernel_rfl))
 t3:=Tryz.underlying3
 a3:=Tryz.isAgg3
 z3:=Tryz.sizeOf3
 v3:=Tryz.zeroValue3
 t4:=Tryz.underlying4
 a4:=Tryz.isAgg4
 z4:=Tryz.sizeOf4
 v4:=Tryz.zeroValue4
 t5:=Tryz.underlying5
 a5:=Tryz.isAgg5
 z5:=Tryz.sizeOf5
 v5:=Tryz.zeroValue5
 t9:=Tryz.underlying9
 a9:=Tryz.isAgg9
 z9:=Tryz.sizeOf9
 v9:=Tryz.zeroValue9
 t46:=Tryz.underlying218
 a46:=Tryz.isAgg218
 z46:=Tryz.sizeOf218
 v46:=Tryz.zeroValue218
 t51:=Tryz.underlying272
 a51:=Tryz.isAgg272
 z51:=Tryz.sizeOf272
 v51:=Tryz.zeroValue272
 t146:=Tryz.underlying274
 a146:=Tryz.isAgg274
 z146:=Tryz.sizeOf274
 v146:=Tryz.zeroValue274
 g1:=by kernel_rfl }
open Go.RowKit Go.Lib in
theorem Tryz.strings_Contains_one (s:ByteArray) (c:UInt8) (w:World) :
 Calls Tryz.prog 69 #[.string s,.string ⟨#[c]⟩] w λe w'=>e=.returned (.bool (decide (0<=Lib.indexByte s.data.toList c)))/\w'=w:=Any.strings_Contains_one Tryz.lays144 s c w
def Tryz.lays145_ren:Go.Shelf.Ren:=⟨fun | 145=>186 | 220=>236 | 219=>167 | 217=>208 | 225=>209 | 224=>210 | 267=>211 | 266=>265 | 314=>266 | n=>n,fun | 9=>9 | 4=>4 | 59=>204 | 3=>3 | 5=>5 | 46=>218 | 146=>274 | 51=>272 | n=>n,fun | 1=>0 | n=>n⟩
theorem Tryz.lays145:Go.Proofs.Lays.n145 Tryz.prog Tryz.lays145_ren:={
 mixed:=by kernel_rfl
 f145:=Tryz.func186.trans (congrArg some (by kernel_rfl))
 f217:=Tryz.func208.trans (congrArg some (by kernel_rfl))
 f219:=Tryz.func167.trans (congrArg some (by kernel_rfl))
 f220:=Tryz.func236.trans (congrArg some (by kernel_rfl))
 f224:=Tryz.func210.trans (congrArg some (by kernel_rfl))
 f225:=Tryz.func209.trans (congrArg some (by kernel_rfl))
 f266:=Tryz.func265.trans (congrArg some (by kernel_rfl))
 f267:=Tryz.func211.trans (congrArg some (by kernel_rfl))
 f314:=Tryz.func266.trans (congrArg some (by kernel_rfl))
 t3:=Tryz.underlying3
 a3:=Tryz.isAgg3
 z3:=Tryz.sizeOf3
 v3:=Tryz.zeroValue3
 t4:=Tryz.underlying4
 a4:=Tryz.isAgg4
 z4:=Tryz.sizeOf4
 v4:=Tryz.zeroValue4
 t5:=Tryz.underlying5
 a5:=Tryz.isAgg5
 z5:=Tryz.sizeOf5
 v5:=Tryz.zeroValue5
 t9:=Tryz.underlying9
 a9:=Tryz.isAgg9
 z9:=Tryz.sizeOf9
 v9:=Tryz.zeroValue9
 t46:=Tryz.underlying218
 a46:=Tryz.isAgg218
 z46:=Tryz.sizeOf218
 v46:=Tryz.zeroValue218
 t51:=Tryz.underlying272
 a51:=Tryz.isAgg272
 z51:=Tryz.sizeOf272
 v51:=Tryz.zeroValue272
 t59:=Tryz.underlying204
 a59:=Tryz.isAgg204
 z59:=Tryz.sizeOf204
 v59:=Tryz.zeroValue204
 t146:=Tryz.underlying274
 a146:=Tryz.isAgg274
 z146:=Tryz.sizeOf274
 v146:=Tryz.zeroValue274
 g1:=by kernel_rfl }
open Go.RowKit Go.Lib in
theorem Tryz.strings_Cut (s sep:ByteArray) (m:Int) (w:World) (hs:s.size < 4294967281) (hm:w.cell? ⟨0,0,none⟩=some (.int .i64 m)) :
 Calls Tryz.prog 186 #[.string s,.string sep] w λe w'=>e=.returned (.tuple #[.string ⟨(Lib.cut s.data.toList sep.data.toList).1.toArray⟩,.string ⟨(Lib.cut s.data.toList sep.data.toList).2.1.toArray⟩,.bool (Lib.cut s.data.toList sep.data.toList).2.2])/\∃n,w'=w.drewN n:=Any.strings_Cut Tryz.lays145 s sep m w hs hm
def Tryz.laysM145_ren:Go.Shelf.Ren:=⟨fun | 145=>186 | 220=>236 | 219=>167 | 217=>208 | 225=>209 | 224=>210 | 267=>211 | 266=>265 | 314=>266 | n=>n,fun | 9=>9 | 4=>4 | 59=>204 | 3=>3 | 5=>5 | 46=>218 | 146=>274 | 51=>272 | n=>n,fun | 1=>0 | n=>n⟩
theorem Tryz.laysM145:Go.Proofs.LaysM.n145 Tryz.prog Tryz.laysM145_ren:={
 mixed:=by kernel_rfl
 f145:=Tryz.func186.trans (congrArg some (by kernel_rfl))
 f217:=Tryz.func208.trans (congrArg some (by kernel_rfl))
 f219:=Tryz.func167.trans (congrArg some (by kernel_rfl))
 f220:=Tryz.func236.trans (congrArg some (by kernel_rfl))
 f224:=Tryz.func210.trans (congrArg some (by kernel_rfl))
 f225:=Tryz.func209.trans (congrArg some (by kernel_rfl))
 f266:=Tryz.func265.trans (congrArg some (by kernel_rfl))
 f267:=Tryz.func211.trans (congrArg some (by kernel_rfl))
 f314:=Tryz.func266.trans (congrArg some (by kernel_rfl))
 t3:=Tryz.underlying3
 a3:=Tryz.isAgg3
 z3:=Tryz.sizeOf3
 v3:=Tryz.zeroValue3
 t4:=Tryz.underlying4
 a4:=Tryz.isAgg4
 z4:=Tryz.sizeOf4
 v4:=Tryz.zeroValue4
 t5:=Tryz.underlying5
 a5:=Tryz.isAgg5
 z5:=Tryz.sizeOf5
 v5:=Tryz.zeroValue5
 t9:=Tryz.underlying9
 a9:=Tryz.isAgg9
 z9:=Tryz.sizeOf9
 v9:=Tryz.zeroValue9
 t46:=Tryz.underlying218
 a46:=Tryz.isAgg218
 z46:=Tryz.sizeOf218
 v46:=Tryz.zeroValue218
 t51:=Tryz.underlying272
 a51:=Tryz.isAgg272
 z51:=Tryz.sizeOf272
 v51:=Tryz.zeroValue272
 t59:=Tryz.underlying204
 a59:=Tryz.isAgg204
 z59:=Tryz.sizeOf204
 v59:=Tryz.zeroValue204
 t146:=Tryz.underlying274
 a146:=Tryz.isAgg274
 z146:=Tryz.sizeOf274
 v146:=Tryz.zeroValue274
 g1:=by kernel_rfl
 i3:=by kernel_rfl
 i4:=by kernel_rfl
 i5:=by kernel_rfl
 i9:=by kernel_rfl
 i46:=by kernel_rfl
 i51:=by kernel_rfl
 i59:=by kernel_rfl
 i146:=by kernel_rfl
 m1:=by kernel_rfl
 s1_3:=λw h=>Go.Proofs.cell_of_shapedOpen_int (zero:=#[.int .i64 0]) (t:=3) h (of_decide_eq_true (by kernel_rfl)) (by kernel_rfl) rfl (by kernel_rfl) (by kernel_rfl) Tryz.underlying3 }
def Tryz.lays189_ren:Go.Shelf.Ren:=⟨fun | 189=>158 | 125=>204 | 257=>203 | 128=>261 | 129=>262 | 294=>252 | 295=>253 | 296=>254 | 297=>255 | 298=>256 | 299=>257 | 216=>258 | 300=>259 | 301=>260 | 328=>298 | 329=>299 | 330=>300 | 331=>301 | 332=>302 | 215=>280 | 343=>318 | n=>n,fun | 28=>93 | 3=>3 | 46=>218 | 0=>0 | 51=>272 | 53=>246 | 4=>4 | 183=>265 | 182=>264 | 131=>52 | 5=>5 | 9=>9 | 218=>303 | 222=>307 | 228=>320 | 229=>321 | n=>n,fun | n=>n⟩
theorem Tryz.lays189:Go.Proofs.Lays.n189 Tryz.prog Tryz.lays189_ren:={
 mixed:=by kernel_rfl
 f125:=Tryz.func204.trans (congrArg some (by kernel_rfl))
 f128:=Tryz.func261.trans (congrArg some (by kernel_rfl))
 f129:=Tryz.func262.trans (congrArg some (by kernel_rfl))
 f189:=Tryz.func158.trans (congrArg some (by kernel_rfl))
 f215:=Tryz.func280.trans (congrArg some (by kernel_rfl))
 f216:=Tryz.func258.trans (congrArg some (by kernel_rfl))
 f257:=Tryz.func203.trans (congrArg some (by kernel_rfl))
 f294:=Tryz.func252.trans (congrArg some (by kernel_rfl))
 f295:=Tryz.func253.trans (congrArg some (by kernel_rfl))
 f296:=Tryz.func254.trans (congrArg some (by kernel_rfl))
 f297:=Tryz.func255.trans (congrArg some (by kernel_rfl))
 f298:=Tryz.func256.trans (congrArg some (by kernel_rfl))
 f299:=Tryz.func257.trans (congrArg some (by kernel_rfl))
 f300:=Tryz.func259.trans (congrArg some (by kernel_rfl))
 f301:=Tryz.func260.trans (congrArg some (by kernel_rfl))
 f328:=Tryz.func298.trans (congrArg some (by kernel_rfl))
 f329:=Tryz.func299.trans (congrArg some (by kernel_rfl))
 f330:=Tryz.func300.trans (congrArg some (by kernel_rfl))
 f331:=Tryz.func301.trans (congrArg some (by kernel_rfl))
 f332:=Tryz.func302.trans (congrArg some (by kernel_rfl))
 f343:=Tryz.func318.trans (congrArg some (by kernel_rfl))
 t0:=Tryz.underlying0
 a0:=Tryz.isAgg0
 z0:=Tryz.sizeOf0
 v0:=Tryz.zeroValue0
 t3:=Tryz.underlying3
 a3:=Tryz.isAgg3
 z3:=Tryz.sizeOf3
 v3:=Tryz.zeroValue3
 t4:=Tryz.underlying4
 a4:=Tryz.isAgg4
 z4:=Tryz.sizeOf4
 v4:=Tryz.zeroValue4
 t5:=Tryz.underlying5
 a5:=Tryz.isAgg5
 z5:=Tryz.sizeOf5
 v5:=Tryz.zeroValue5
 t9:=Tryz.underlying9
 a9:=Tryz.isAgg9
 z9:=Tryz.sizeOf9
 v9:=Tryz.zeroValue9
 t28:=Tryz.underlying93
 a28:=Tryz.isAgg93
 z28:=Tryz.sizeOf93
 v28:=Tryz.zeroValue93
 t46:=Tryz.underlying218
 a46:=Tryz.isAgg218
 z46:=Tryz.sizeOf218
 v46:=Tryz.zeroValue218
 t51:=Tryz.underlying272
 a51:=Tryz.isAgg272
 z51:=Tryz.sizeOf272
 v51:=Tryz.zeroValue272
 t53:=Tryz.underlying246
 a53:=Tryz.isAgg246
 z53:=Tryz.sizeOf246
 v53:=Tryz.zeroValue246
 t131:=Tryz.underlying52
 a131:=Tryz.isAgg52
 z131:=Tryz.sizeOf52
 v131:=Tryz.zeroValue52
 t182:=Tryz.underlying264
 a182:=Tryz.isAgg264
 z182:=Tryz.sizeOf264
 v182:=Tryz.zeroValue264
 t183:=Tryz.underlying265
 a183:=Tryz.isAgg265
 z183:=Tryz.sizeOf265
 v183:=Tryz.zeroValue265
 t218:=Tryz.underlying303
 a218:=Tryz.isAgg303
 z218:=Tryz.sizeOf303
 v218:=Tryz.zeroValue303
 t222:=Tryz.underlying307
 a222:=Tryz.isAgg307
 z222:=Tryz.sizeOf307
 v222:=Tryz.zeroValue307
 t228:=Tryz.underlying320
 a228:=Tryz.isAgg320
 z228:=Tryz.sizeOf320
 v228:=Tryz.zeroValue320
 t229:=Tryz.underlying321
 a229:=Tryz.isAgg321
 z229:=Tryz.sizeOf321
 v229:=Tryz.zeroValue321 }
open Go.Sort Go.RowKit in
theorem Tryz.slices_Sort_int (blk off cap:Nat) (zs:List Int) (w:World) (hH:Holds (Value.int .i64) w blk off zs.toArray) (hblk:blk < w.heap.size) (hsz:zs.length < 4611686018427387904) :
 Calls Tryz.prog 158 #[.slice (some ⟨blk,off,none⟩) zs.length cap] w λe w' =>
  e=.returned (.tuple #[])/\∃n os,w'=grow (putRow (Value.int .i64) (Sort.ahead w n) blk off (zs.mergeSort λx y=>decide (x<=y)).toArray) os:=Any.slices_Sort_int Tryz.lays189 blk off cap zs w hH hblk hsz
def Tryz.lays146_ren:Go.Shelf.Ren:=⟨fun | 146=>42 | 221=>85 | 268=>130 | 138=>131 | 143=>108 | 195=>183 | 197=>184 | 218=>185 | 219=>167 | 260=>235 | 217=>208 | 225=>209 | 224=>210 | 267=>211 | 266=>265 | 314=>266 | n=>n,fun | 9=>9 | 31=>45 | 3=>3 | 4=>4 | 0=>0 | 105=>201 | 21=>21 | 5=>5 | 46=>218 | 119=>297 | 139=>300 | 138=>299 | 146=>274 | 51=>272 | n=>n,fun | 1=>0 | 3=>4 | 4=>5 | n=>n⟩
theorem Tryz.lays146:Go.Proofs.Lays.n146 Tryz.prog Tryz.lays146_ren:={
 mixed:=by kernel_rfl
 f138:=Tryz.func131.trans (congrArg some (by kernel_rfl))
 f143:=Tryz.func108.trans (congrArg some (by kernel_rfl))
 f146:=Tryz.func42.trans (congrArg some (by kernel_rfl))
 f195:=Tryz.func183.trans (congrArg some (by kernel_rfl))
 f197:=Tryz.func184.trans (congrArg some (by kernel_rfl))
 f217:=Tryz.func208.trans (congrArg some (by kernel_rfl))
 f218:=Tryz.func185.trans (congrArg some (by kernel_rfl))
 f219:=Tryz.func167.trans (congrArg some (by kernel_rfl))
 f221:=Tryz.func85.trans (congrArg some (by kernel_rfl))
 f224:=Tryz.func210.trans (congrArg some (by kernel_rfl))
 f225:=Tryz.func209.trans (congrArg some (by kernel_rfl))
 f260:=Tryz.func235.trans (congrArg some (by kernel_rfl))
 f266:=Tryz.func265.trans (congrArg some (by kernel_rfl))
 f267:=Tryz.func211.trans (congrArg some (by kernel_rfl))
 f268:=Tryz.func130.trans (congrArg some (by kernel_rfl))
 f314:=Tryz.func266.trans (congrArg some (by kernel_rfl))
 t0:=Tryz.underlying0
 a0:=Tryz.isAgg0
 z0:=Tryz.sizeOf0
 v0:=Tryz.zeroValue0
 t3:=Tryz.underlying3
 a3:=Tryz.isAgg3
 z3:=Tryz.sizeOf3
 v3:=Tryz.zeroValue3
 t4:=Tryz.underlying4
 a4:=Tryz.isAgg4
 z4:=Tryz.sizeOf4
 v4:=Tryz.zeroValue4
 t5:=Tryz.underlying5
 a5:=Tryz.isAgg5
 z5:=Tryz.sizeOf5
 v5:=Tryz.zeroValue5
 t9:=Tryz.underlying9
 a9:=Tryz.isAgg9
 z9:=Tryz.sizeOf9
 v9:=Tryz.zeroValue9
 t21:=Tryz.underlying21
 a21:=Tryz.isAgg21
 z21:=Tryz.sizeOf21
 v21:=Tryz.zeroValue21
 t31:=Tryz.underlying45
 a31:=Tryz.isAgg45
 z31:=Tryz.sizeOf45
 v31:=Tryz.zeroValue45
 t46:=Tryz.underlying218
 a46:=Tryz.isAgg218
 z46:=Tryz.sizeOf218
 v46:=Tryz.zeroValue218
 t51:=Tryz.underlying272
 a51:=Tryz.isAgg272
 z51:=Tryz.sizeOf272
 v51:=Tryz.zeroValue272
 t105:=Tryz.underlying201
 a105:=Tryz.isAgg201
 z105:=Tryz.sizeOf201
 v105:=Tryz.zeroValue201
 t119:=Tryz.underlying297
 a119:=Tryz.isAgg297
 z119:=Tryz.sizeOf297
 t138:=Tryz.underlying299
 a138:=Tryz.isAgg299
 z138:=Tryz.sizeOf299
 v138:=Tryz.zeroValue299
 t139:=Tryz.underlying300
 a139:=Tryz.isAgg300
 z139:=Tryz.sizeOf300
 v139:=Tryz.zeroValue300
 t146:=Tryz.underlying274
 a146:=Tryz.isAgg274
 z146:=Tryz.sizeOf274
 v146:=Tryz.zeroValue274
 g1:=by kernel_rfl
 g3:=by kernel_rfl
 g4:=by kernel_rfl }
open Go.RowKit Go.Lib in
theorem Tryz.strings_Split (s sep:ByteArray) (m:Int) (w:World) (hs:s.size < 4294967281) (hm:w.cell? ⟨0,0,none⟩=some (.int .i64 m)) (h1:1<=sep.size) :
 Calls Tryz.prog 42 #[.string s,.string sep] w λe w' =>
  e=.returned (.slice (some ⟨w.heap.size,0,none⟩) (Lib.countB s sep+1) (Lib.countB s sep+1))/\w'=w.alloc (.cells ((Lib.splitB sep 0 (Lib.countB s sep) s).map Value.string).toArray 9):=Any.strings_Split Tryz.lays146 (by kernel_rfl) s sep m w hs hm h1
open Go.RowKit Go.Sort in
theorem Tryz.slices_Sort_int_none (p:Option Addr) (cap:Nat) (w:World) :
 Calls Tryz.prog 158 #[.slice p 0 cap] w λe w'=>e=.returned (.tuple #[])/\w'=w:=Any.slices_Sort_int_none Tryz.lays189 p cap w
def Tryz.laysC172_ren:Go.Shelf.Ren:=⟨fun | 172=>109 | 244=>168 | 245=>169 | 247=>212 | 279=>213 | 280=>214 | 281=>215 | 282=>216 | 287=>267 | 316=>268 | 171=>75 | 205=>269 | 321=>303 | 322=>304 | 243=>121 | 246=>179 | 283=>229 | 284=>230 | 285=>231 | 286=>232 | 129=>262 | 317=>286 | 318=>287 | 319=>288 | 320=>289 | 337=>313 | 338=>314 | n=>n,fun | 9=>9 | 3=>3 | 75=>147 | 76=>148 | 4=>4 | 5=>5 | 167=>222 | 37=>116 | 0=>0 | 85=>223 | 2=>2 | 168=>225 | 53=>246 | 175=>276 | 46=>218 | 210=>279 | 127=>281 | 145=>312 | 143=>310 | 21=>21 | 171=>245 | 173=>249 | 212=>293 | 51=>272 | 20=>20 | 213=>294 | 232=>325 | 233=>326 | 80=>232 | n=>n,fun | 15=>1 | 16=>2 | 17=>3 | 18=>6 | 19=>7 | n=>n⟩
theorem Tryz.laysC172:Go.Proofs.LaysC.n172 Tryz.prog Tryz.laysC172_ren:={
 mixed:=by kernel_rfl
 f129:=Tryz.func262.trans (congrArg some (by kernel_rfl))
 f171:=Tryz.func75.trans (congrArg some (by kernel_rfl))
 f172:=Tryz.func109.trans (congrArg some (by kernel_rfl))
 f205:=Tryz.func269.trans (congrArg some (by kernel_rfl))
 f243:=Tryz.func121.trans (congrArg some (by kernel_rfl))
 f244:=Tryz.func168.trans (congrArg some (by kernel_rfl))
 f245:=Tryz.func169.trans (congrArg some (by kernel_rfl))
 f246:=Tryz.func179.trans (congrArg some (by kernel_rfl))
 f247:=Tryz.func212.trans (congrArg some (by kernel_rfl))
 f279:=Tryz.func213.trans (congrArg some (by kernel_rfl))
 f280:=Tryz.func214.trans (congrArg some (by kernel_rfl))
 f281:=Tryz.func215.trans (congrArg some (by kernel_rfl))
 f282:=Tryz.func216.trans (congrArg some (by kernel_rfl))
 f283:=Tryz.func229.trans (congrArg some (by kernel_rfl))
 f284:=Tryz.func230.trans (congrArg some (by kernel_rfl))
 f285:=Tryz.func231.trans (congrArg some (by kernel_rfl))
 f286:=Tryz.func232.trans (congrArg some (by kernel_rfl))
 f287:=Tryz.func267.trans (congrArg some (by kernel_rfl))
 f316:=Tryz.func268.trans (congrArg some (by kernel_rfl))
 f317:=Tryz.func286.trans (congrArg some (by kernel_rfl))
 f318:=Tryz.func287.trans (congrArg some (by kernel_rfl))
 f319:=Tryz.func288.trans (congrArg some (by kernel_rfl))
 f320:=Tryz.func289.trans (congrArg some (by kernel_rfl))
 f321:=Tryz.func303.trans (congrArg some (by kernel_rfl))
 f322:=Tryz.func304.trans (congrArg some (by kernel_rfl))
 f337:=Tryz.func313.trans (congrArg some (by kernel_rfl))
 f338:=Tryz.func314.trans (congrArg some (by kernel_rfl))
 t0:=Tryz.underlying0
 a0:=Tryz.isAgg0
 z0:=Tryz.sizeOf0
 v0:=Tryz.zeroValue0
 t2:=Tryz.underlying2
 a2:=Tryz.isAgg2
 z2:=Tryz.sizeOf2
 v2:=Tryz.zeroValue2
 t3:=Tryz.underlying3
 a3:=Tryz.isAgg3
 z3:=Tryz.sizeOf3
 v3:=Tryz.zeroValue3
 t4:=Tryz.underlying4
 a4:=Tryz.isAgg4
 z4:=Tryz.sizeOf4
 v4:=Tryz.zeroValue4
 t5:=Tryz.underlying5
 a5:=Tryz.isAgg5
 z5:=Tryz.sizeOf5
 v5:=Tryz.zeroValue5
 t9:=Tryz.underlying9
 a9:=Tryz.isAgg9
 z9:=Tryz.sizeOf9
 v9:=Tryz.zeroValue9
 t20:=Tryz.underlying20
 a20:=Tryz.isAgg20
 z20:=Tryz.sizeOf20
 v20:=Tryz.zeroValue20
 t21:=Tryz.underlying21
 a21:=Tryz.isAgg21
 z21:=Tryz.sizeOf21
 v21:=Tryz.zeroValue21
 t37:=Tryz.underlying116
 a37:=Tryz.isAgg116
 z37:=Tryz.sizeOf116
 v37:=Tryz.zeroValue116
 t46:=Tryz.underlying218
 a46:=Tryz.isAgg218
 z46:=Tryz.sizeOf218
 v46:=Tryz.zeroValue218
 t51:=Tryz.underlying272
 a51:=Tryz.isAgg272
 z51:=Tryz.sizeOf272
 v51:=Tryz.zeroValue272
 t53:=Tryz.underlying246
 a53:=Tryz.isAgg246
 z53:=Tryz.sizeOf246
 v53:=Tryz.zeroValue246
 t75:=Tryz.underlying147
 a75:=Tryz.isAgg147
 z75:=Tryz.sizeOf147
 v75:=Tryz.zeroValue147
 t76:=Tryz.underlying148
 a76:=Tryz.isAgg148
 z76:=Tryz.sizeOf148
 v76:=Tryz.zeroValue148
 t85:=Tryz.underlying223
 a85:=Tryz.isAgg223
 z85:=Tryz.sizeOf223
 v85:=Tryz.zeroValue223
 t127:=Tryz.underlying281
 a127:=Tryz.isAgg281
 z127:=Tryz.sizeOf281
 v127:=Tryz.zeroValue281
 t143:=Tryz.underlying310
 a143:=Tryz.isAgg310
 z143:=Tryz.sizeOf310
 v143:=Tryz.zeroValue310
 t145:=Tryz.underlying312
 a145:=Tryz.isAgg312
 z145:=Tryz.sizeOf312
 v145:=Tryz.zeroValue312
 t167:=Tryz.underlying222
 a167:=Tryz.isAgg222
 z167:=Tryz.sizeOf222
 v167:=Tryz.zeroValue222
 t168:=Tryz.underlying225
 a168:=Tryz.isAgg225
 z168:=Tryz.sizeOf225
 v168:=Tryz.zeroValue225
 t171:=Tryz.underlying245
 a171:=Tryz.isAgg245
 z171:=Tryz.sizeOf245
 v171:=Tryz.zeroValue245
 t173:=Tryz.underlying249
 a173:=Tryz.isAgg249
 z173:=Tryz.sizeOf249
 v173:=Tryz.zeroValue249
 t175:=Tryz.underlying276
 a175:=Tryz.isAgg276
 z175:=Tryz.sizeOf276
 v175:=Tryz.zeroValue276
 t210:=Tryz.underlying279
 a210:=Tryz.isAgg279
 z210:=Tryz.sizeOf279
 v210:=Tryz.zeroValue279
 t212:=Tryz.underlying293
 a212:=Tryz.isAgg293
 z212:=Tryz.sizeOf293
 v212:=Tryz.zeroValue293
 t213:=Tryz.underlying294
 a213:=Tryz.isAgg294
 z213:=Tryz.sizeOf294
 t232:=Tryz.underlying325
 a232:=Tryz.isAgg325
 z232:=Tryz.sizeOf325
 v232:=Tryz.zeroValue325
 t233:=Tryz.underlying326
 a233:=Tryz.isAgg326
 z233:=Tryz.sizeOf326
 v233:=Tryz.zeroValue326
 g15:=by kernel_rfl
 g16:=by kernel_rfl
 g17:=by kernel_rfl
 g18:=by kernel_rfl
 g19:=by kernel_rfl
 t80:=Tryz.underlying232
 a80:=Tryz.isAgg232
 z80:=Tryz.sizeOf232
 v80:=Tryz.zeroValue232
 i0:=by kernel_rfl
 i2:=by kernel_rfl
 i3:=by kernel_rfl
 i4:=by kernel_rfl
 i5:=by kernel_rfl
 i9:=by kernel_rfl
 i20:=by kernel_rfl
 i21:=by kernel_rfl
 i37:=by kernel_rfl
 i46:=by kernel_rfl
 i51:=by kernel_rfl
 i53:=by kernel_rfl
 i75:=by kernel_rfl
 i76:=by kernel_rfl
 i80:=by kernel_rfl
 i85:=by kernel_rfl
 i127:=by kernel_rfl
 i143:=by kernel_rfl
 i145:=by kernel_rfl
 i167:=by kernel_rfl
 i168:=by kernel_rfl
 i171:=by kernel_rfl
 i173:=by kernel_rfl
 i175:=by kernel_rfl
 i210:=by kernel_rfl
 i212:=by kernel_rfl
 i232:=by kernel_rfl
 i233:=by kernel_rfl
 m15:=by kernel_rfl
 m16:=by kernel_rfl
 m17:=by kernel_rfl
 m18:=by kernel_rfl
 m19:=by kernel_rfl
 c0:=by kernel_rfl
 c2:=by kernel_rfl
 c3:=by kernel_rfl
 c4:=by kernel_rfl
 c5:=by kernel_rfl
 c9:=by kernel_rfl
 c20:=by kernel_rfl
 c21:=by kernel_rfl
 c37:=by kernel_rfl
 c46:=by kernel_rfl
 c51:=by kernel_rfl
 c53:=by kernel_rfl
 c75:=by kernel_rfl
 c76:=by kernel_rfl
 c80:=by kernel_rfl
 c85:=by kernel_rfl
 c127:=by kernel_rfl
 c143:=by kernel_rfl
 c145:=by kernel_rfl
 c167:=by kernel_rfl
 c168:=by kernel_rfl
 c171:=by kernel_rfl
 c173:=by kernel_rfl
 c175:=by kernel_rfl
 c210:=by kernel_rfl
 c212:=by kernel_rfl
 c213:=by kernel_rfl
 c232:=by kernel_rfl
 c233:=by kernel_rfl }
end Go.Proofs
namespace Go.Proofs.YtpfhomblkgmkkaaGreatDoor
open Go Go.Rf Go.Proofs Go.RowKit
theorem a0F (s:ByteArray) (c:UInt8):Ctr Tryz.prog 69 [.v (.string s),.v (.string ⟨#[c]⟩)] (.one (.v (.bool (l8 s c.toNat)))) :=
 Ctr.lib (xs:=[.string s,.string ⟨#[c]⟩]) ⟨_,Tryz.func69,by kernel_rfl,Z⟩ (λw he=>(Tryz.strings_Contains_one s c w).mono λe w' ⟨h,hw⟩=>⟨by rw [h,a2e],hw▸Below.refl _ _⟩)
theorem x9 (n:Int) (h0:-9223372036854775808<=n) (h1:n<=9223372036854775807):Ctr Tryz.prog 75 [.v (.int .i64 n)] (.one (.v (.string (s1 n)))) :=
 Ctr.lib (xs:=[.int .i64 n]) ⟨_,Tryz.func75,by kernel_rfl,Z⟩ (λw he=>(Tryz.strconv_Itoa n h0 h1 w he.1).mono λe w' ⟨h,k,os,hw⟩=>⟨h,hw▸b4f w k os⟩)
theorem b7f (W:World) (hsh:W.ShapedOpen Tryz.prog):∃m:Int,W.cell? ⟨0,0,none⟩=some (.int .i64 m):=Tryz.laysM145.s1_3 W hsh
theorem V4 (s:ByteArray) (c:UInt8) (b:Int) (hb:b=(c.toNat:Int)) (hs:s.size<=1048576):Ctr Tryz.prog 186 [.v (.string s),.v (.string ⟨#[c]⟩)] (.many [.v (.string (l1 s b)),.v (.string (r6 s b)),.v (.bool (l8 s b))]):=by
 subst hb
 obtain ⟨h1,h2,h3⟩:=c0c (s:=s) (c:=c)
 refine ⟨⟨_,Tryz.func186,by kernel_rfl,Z⟩,λw vs he hv=>?_⟩
 rw [RelVs.map_v_eq (w0:=w) [.string s,.string ⟨#[c]⟩] hv]
 obtain ⟨m,hm⟩:=he.2.2
 refine (Tryz.strings_Cut s ⟨#[c]⟩ m w J hm).mono λe w' ⟨g1,n,g2⟩=>?_
 rw [h1,h2,h3] at g1
 refine ⟨_,g1,⟨_,Z,?_⟩,g2▸⟨Z,Z,Z,Nat.le_refl _,λi hi=>Z⟩⟩
 exact ⟨_,_,Z,Z,⟨_,_,Z,Z,⟨_,_,Z,Z,Z,λ_ h=>h.elim⟩,λ_ h=>h.elim⟩,λ_ h=>h.elim⟩
theorem S6 (l:List Int) (hl:l.length<=1048576):CtrM Tryz.prog 158 [.own 0] [.row 3 1 (l.map Go.Rf.n8)] (.many []) [some (.row 3 1 ((srtI l).map Go.Rf.n8))] :=
 CtrM.sort ⟨_,Tryz.func158,by kernel_rfl,Z⟩ hl (λblk off cap w hH hb hs=>Tryz.slices_Sort_int blk off cap l w hH hb hs) (λp cap w=>Tryz.slices_Sort_int_none p cap w)
theorem a3x (ws:List ByteArray) (hl:ws.length<=1048576) (hs:(jnA ws).size<=140737488355328):Ctr Tryz.prog 170 [.lst 1 (ws.map U0),.v (.string ⟨#[32]⟩)] (.one (.v (.string (jnA ws)))) :=
 Ctr.join ⟨_,Tryz.func170,by kernel_rfl,Z⟩ hl hs (λbk o c w h hb hn hc hj=>Tryz.strings_Join bk o c ws spB w h hb hn hc hj) (λa c w=>Tryz.strings_Join_none a c spB w)
theorem a9W (s:ByteArray) (hs:s.size<=18):CtrX (α:=Value) Tryz.prog 109 [.v (.string s)] [] (λy=>c1P y/\nnB y=(Lib.atoi s.data.toList).isNone) (λy=>.many [.v (.int .i64 ((Lib.atoi s.data.toList).getD 0)),.v y]) (λ_=>[]) :=
 CtrX.lib (xs:=[.string s]) ⟨_,Tryz.func109,by kernel_rfl,Z⟩ (λw he=>by
  cases ha:Lib.atoi s.data.toList with
  | some n=>exact (Any.strconv_Atoi { Tryz.laysC172 with } s n hs ha w).mono λe w' ⟨h,t,hw⟩=>⟨.nilIface,⟨.inl Z,Z⟩,h,hw▸Lib.bytesWorld_below _ _ _⟩
  | none =>
   obtain ⟨ev,h1,h2⟩:=he.2.1
   exact (Any.strconv_Atoi_err Tryz.laysC172 s hs ha ev w h1 h2).mono λe w' ⟨N,h,_,_,hb⟩=>⟨_,⟨.inr ⟨_,_,Z⟩,Z⟩,h,hb⟩)
theorem b4Y:∀{l:List ByteArray},(l.map U0).flatten=l.map Value.string
 | []=>rfl
 | x :: r=>by simp [U0,b4Y (l:=r)]
theorem a2E (s:ByteArray) (c:UInt8) (hs:s.size<=1048576):Ctr Tryz.prog 42 [.v (.string s),.v (.string ⟨#[c]⟩)] (.one (.fr 9 1 ((e7 s c.toNat).map U0))) :=
 ⟨⟨_,Tryz.func42,by kernel_rfl,Z⟩,λw vs he hv=>by
  rw [RelVs.map_v_eq (w0:=w) [.string s,.string ⟨#[c]⟩] hv]
  obtain ⟨m,hm⟩:=he.2.2
  refine (Tryz.strings_Split s ⟨#[c]⟩ m w J hm (Nat.le_refl 1)).mono ?_
  rintro e w' ⟨rfl,rfl⟩
  have hsp:=b6B (c:=c) s.size s (Nat.le_refl _)
  have hlen:=Lib.splitB_all ⟨#[c]⟩ (Nat.le_refl 1) 0 (Lib.countB s ⟨#[c]⟩) s Z
  rw [hsp] at hlen ⊢
  have hl:=G6 (s:=s) (b:=c.toNat)
  refine ⟨_,Z,?_,(Below.refl w.heap.size w).alloc (Nat.le_refl _) _⟩
  rw [← hlen]
  simp only [ResRel,RCRel]
  refine ⟨⟨by simp [b4Y],.inr ⟨w.heap.size,(e7 s c.toNat).length,_,by simp,Nat.le_refl _,heap_alloc_new w _,by simp,by unfold maxLen;omega,by simp,by simp only [Nat.mul_one,b4Y,List.toList_toArray];exact List.take_of_length_le (by simp)⟩⟩,λx hx=>?_⟩
  obtain ⟨y,_,rfl⟩:=List.mem_map.1 hx
  exact ⟨Z,λu hu=>by rw [List.mem_singleton.1 hu];rfl⟩⟩
theorem b7g (s:ByteArray) (hs:s.size<=1048576):Ctr Tryz.prog 42 [.v (.string s),.v (.string ⟨#[32]⟩)] (.one (.fr 9 1 ((e7 s 32).map U0))):=a2E s 32 hs
theorem b7h (s:ByteArray) (hs:s.size<=1048576):Ctr Tryz.prog 42 [.v (.string s),.v (.string ⟨#[10]⟩)] (.one (.fr 9 1 ((e7 s 10).map U0))):=a2E s 10 hs
end Go.Proofs.YtpfhomblkgmkkaaGreatDoor
set_option maxRecDepth 20000
namespace Go.Proofs.YtpfhomblkgmkkaaGreatDoor
open Go Go.Rf
theorem C5 (n l h:Int):Ctr Tryz.prog 67 [.v (.int .i64 n),.v (.int .i64 l),.v (.int .i64 h)] (.one (.v (.bool (m3 n l h)))):=by
 refine Ctr.of (n:=15) G Tryz.func67 Z a8 Z Z Z (λw0=>?_)
 refine zcd (λh1=>?_) (λh1=>?_)
 ·exact b52
 exact b52
theorem Y0 (n l h:Int):Ctr Tryz.prog 95 [.v (.int .i64 n),.v (.int .i64 l),.v (.int .i64 h)] (.one (.v (.bool (m3 n l h)))):=by
 refine Ctr.of (n:=15) G Tryz.func95 Z a8 Z Z Z (λw0=>?_)
 refine zcd (λh1=>?_) (λh1=>?_)
 ·exact b52
 exact b52
theorem a4x (n:Int):Ctr Tryz.prog 155 [.v (.int .i64 n)] (.one (.v (.bool (m3 n 0 16)))):=by
 refine Ctr.of (n:=5) G Tryz.func155 Z a8 Z Z Z (λw0=>?_)
 exact b58
theorem a0f (n:Int):Ctr Tryz.prog 175 [.v (.int .i64 n)] (.one (.v (.bool (m3 n 0 7)))):=by
 refine Ctr.of (n:=5) G Tryz.func175 Z a8 Z Z Z (λw0=>?_)
 exact b58
theorem a0g (n:Int):Ctr Tryz.prog 194 [.v (.int .i64 n)] (.one (.v (.bool (m3 n 0 7)))):=by
 refine Ctr.of (n:=5) G Tryz.func194 Z a8 Z Z Z (λw0=>?_)
 refine b2H ?_
 refine zf1 ?_
 exact c52
theorem R3 (n:Int):Ctr Tryz.prog 154 [.v (.int .i64 n)] (.one (.v (.bool (m3 n 0 15)))):=by
 refine Ctr.of (n:=5) G Tryz.func154 Z a8 Z Z Z (λw0=>?_)
 exact b58
theorem V5 (n:Int):Ctr Tryz.prog 138 [.v (.int .i64 n)] (.one (.v (.bool (m3 n 0 15)))):=by
 refine Ctr.of (n:=5) G Tryz.func138 Z a8 Z Z Z (λw0=>?_)
 refine b2H ?_
 refine zf1 ?_
 exact c52
theorem a8d (xs:List Route) (l:Int) (h0:xs.length<=9223372036854775807) (hl:0<=l/\l<=1048576):Ctr Tryz.prog 18 [.lst 2 (xs.map l7),.v (.int .i64 l)] (.one (.v (.int .i64 (szL xs.length l)))):=by
 refine Ctr.of (n:=12) G Tryz.func18 Z a8 Z Z Z (λw0=>?_)
 exact b9F
theorem a3y (xs:List Bool) (l:Int) (h0:xs.length<=9223372036854775807) (hl:0<=l/\l<=1048576):Ctr Tryz.prog 51 [.lst 1 (xs.map j6),.v (.int .i64 l)] (.one (.v (.int .i64 (szL xs.length l)))):=by
 refine Ctr.of (n:=12) G Tryz.func51 Z a8 Z Z Z (λw0=>?_)
 exact b9F
theorem b0w (xs:List Int) (l:Int) (h0:xs.length<=9223372036854775807) (hl:0<=l/\l<=1048576):Ctr Tryz.prog 134 [.lst 1 (xs.map Rf.n8),.v (.int .i64 l)] (.one (.v (.int .i64 (szL xs.length l)))):=by
 refine Ctr.of (n:=12) G Tryz.func134 Z a8 Z Z Z (λw0=>?_)
 exact b9F
theorem a9X (x:Route):Ctr Tryz.prog 47 [.v (a9w x)] (.one (.v (a9w x))):=by
 refine Ctr.of (n:=11) G Tryz.func47 Z a8 Z Z Z (λw0=>?_)
 exact c1B
theorem a8e (xs:List Route) (hn:xs.length<=1048576):Ctr Tryz.prog 21 [.lst 2 (xs.map l7)] (.one (.fr 83 2 (xs.map l7))):=by
 refine Ctr.of (n:=23) G Tryz.func21 Z a8 Z Z Z (λw0=>?_)
 refine b9w ?_
 refine d9 [0,3] [] (λ(i:Nat)=>[(4,.v (.int .i64 (i:Int)))]) (λ(i:Nat)=>[(0,some (.row 83 2 (a2L l7 (l7 ⟨0,0⟩) xs i)))]) (λ(i:Nat)=>i<=xs.length) (λ(i:Nat)=>xs.length - i) 0 Z Z ?_ ?_ ?_ ?_
 ·exact C7
 ·exact u3
 ·exact b1D
 intro i hinv
 refine vm4 ?_
 refine zcd (λh1=>?_) (λh1=>?_)
 ·refine zcl (a9X _) ?_
  exact c1w
 refine zfo ?_
 all_goals exact b9q
theorem a3z (xs:List Bool) (hn:xs.length<=1048576):Ctr Tryz.prog 62 [.lst 1 (xs.map j6)] (.one (.fr 4 1 (xs.map j6))):=by
 refine Ctr.of (n:=22) G Tryz.func62 Z a8 Z Z Z (λw0=>?_)
 refine b9w ?_
 refine d9 [0,3] [] (λ(i:Nat)=>[(4,.v (.int .i64 (i:Int)))]) (λ(i:Nat)=>[(0,some (.row 4 1 (a2L j6 (j6 false) xs i)))]) (λ(i:Nat)=>i<=xs.length) (λ(i:Nat)=>xs.length - i) 0 Z Z ?_ ?_ ?_ ?_
 ·exact C7
 ·exact u3
 ·exact b1D
 exact c3H
theorem b0x (xs:List Int) (hn:xs.length<=1048576):Ctr Tryz.prog 150 [.lst 1 (xs.map Rf.n8)] (.one (.fr 3 1 (xs.map Rf.n8))):=by
 refine Ctr.of (n:=22) G Tryz.func150 Z a8 Z Z Z (λw0=>?_)
 refine b9w ?_
 refine d9 [0,3] [] (λ(i:Nat)=>[(4,.v (.int .i64 (i:Int)))]) (λ(i:Nat)=>[(0,some (.row 3 1 (a2L Rf.n8 (Rf.n8 0) xs i)))]) (λ(i:Nat)=>i<=xs.length) (λ(i:Nat)=>xs.length - i) 0 Z Z ?_ ?_ ?_ ?_
 ·exact C7
 ·exact u3
 ·exact b1D
 exact c3H
theorem a43:a0a Tryz.prog 169 [.int .i64,.int .i64,.int .i64]=true:=by kernel_rfl
theorem a2F (x:Int):Ctr Tryz.prog 280 [.v (.int .i64 x)] (.one (.v (.bool (false)))):=by
 refine Ctr.of (n:=6) G Tryz.func280 Z a8 Z Z Z (λw0=>?_)
 refine zf1 ?_
 all_goals (simp)
theorem a04 (x y:Int):Ctr Tryz.prog 223 [.v (.int .i64 x),.v (.int .i64 y)] (.one (.v (.int .i64 (a4R x y)))):=by
 refine Ctr.of (n:=20) G Tryz.func223 Z a8 Z Z Z (λw0=>?_)
 refine zcl (a2F _) ?_
 refine zcl (a2F _) ?_
 refine zwf ?_
 refine zwf ?_
 refine zcd (λh1=>?_) (λh1=>?_)
 ·exact c58
 refine zcd (λh2=>?_) (λh2=>?_)
 ·exact c58
 exact c58
theorem b2K (l:List Int) (hn:l.length<=1048576):Ctr Tryz.prog 222 [.lst 1 (l.map Rf.n8)] (.one (.v (.int .i64 (orI l)))):=by
 refine Ctr.of (n:=18) G Tryz.func222 Z a8 Z Z Z (λw0=>?_)
 refine zgo ?_
 refine d9 [3,6,7] [] (λ(i:Nat)=>[(8,.v (.int .i64 (i:Int)))]) (λ(i:Nat)=>[]) (λ(i:Nat)=>i<=l.length/\∀j,j < i→l.getD j default=0) (λ(i:Nat)=>l.length - i) 0 Z Z ?_ ?_ ?_ ?_
 ·exact D9
 ·exact u3
 ·exact trivial
 intro i hinv
 refine vm4 ?_
 refine zcd (λh1=>?_) (λh1=>?_)
 ·refine zcd (λh2=>?_) (λh2=>?_)
  ·refine zf1 ?_
   all_goals exact c2A
  exact b30
 refine zf1 ?_
 all_goals exact c2A
theorem w6 (a b:Wtr):Ctr Tryz.prog 174 [.v (a0U a),.v (a0U b)] (.one (.v (.int .i64 (urg a b)))):=by
 refine Ctr.of (n:=17) G Tryz.func174 Z a8 Z Z Z (λw0=>?_)
 refine a2u ?_
 refine zgn ?_
 refine p6 (j7 13 [0,1] mixed a8 Z Z (λr0=>?_) (λ_ h=>h))
 refine a0C ?_
 refine zsa 5 ?_
 refine zsa 6 ?_
 refine zsa 7 ?_
 refine zsa 8 ?_
 refine b7 (rs:=[4]) a8 Z (AllB.cons ?_ AllB.nil)
 refine f8 [0,1] Z Z (b5 Z Z (f9 Z (ArgsOK.of Z) (a04 _ _) Z) (b6 ⟨Z,?_⟩))
 refine b7 (rs:=[9]) a8 Z (AllB.cons ?_ AllB.nil)
 refine f8 [0,1] Z Z (b5 Z Z (f9 Z (ArgsOK.of Z) (a04 _ _) Z) (b6 ⟨Z,?_⟩))
 refine b7 (rs:=[10]) a8 Z (AllB.cons ?_ AllB.nil)
 refine f8 [0,1] Z Z (s4 G 3 Z Z Z Z Z Z Z Z (b6 ⟨Z,?_⟩))
 refine b7 (rs:=[11]) a8 Z (AllB.cons ?_ AllB.nil)
 refine f8 [0,1] Z Z (b5 Z Z (f9 Z (ArgsOK.of Z) (b2K [a4R a.p b.p,a4R a.q b.q] (by simp)) Z) (b6 ⟨Z,?_⟩))
 refine zsa 12 ?_
 refine H4 ?_
 refine zf1 ?_
 all_goals (rw [c0z])
theorem z7 (x:Slot):Ctr Tryz.prog 163 [.v (a2D x)] (.one (.v (a0U (wOf x)))):=by
 refine Ctr.of (n:=8) G Tryz.func163 Z a8 Z Z Z (λw0=>?_)
 refine N0 ?_
 refine zgo ?_
 refine e6 (C9 Z (a08 Z ?_))
 all_goals (rfl)
theorem J6 (a b c d:Int):Ctr Tryz.prog 237 [.v (.int .i64 a),.v (.int .i64 b),.v (.int .i64 c),.v (.int .i64 d)] (.one (.v (.bool (lessW ⟨b,a⟩ ⟨d,c⟩)))):=by
 refine Ctr.of (n:=22) G Tryz.func237 Z a8 Z Z Z (λw0=>?_)
 refine zcd (λh1=>?_) (λh1=>?_)
 ·exact b9O
 refine zcd (λh2=>?_) (λh2=>?_)
 ·exact b9O
 exact b9O
theorem a6s (x:Slot) (irq:Int):Ctr Tryz.prog 264 [.v (a2D x),.ept [.int .i64 irq]] (.one (.v (.bool (fdP irq x)))):=by
 refine Ctr.of (n:=13) G Tryz.func264 Z a8 Z Z Z (λw0=>?_)
 refine vm3 ?_
 refine zcd (λh1=>?_) (λh1=>?_)
 ·exact c3s
 exact c3s
theorem H5 (xs:List Slot) (f:Nat) (c:List Value) (p:Slot→Bool) (hl:xs.length<=1048576) (hf:∀i,i < xs.length→Ctr Tryz.prog f [.v (a2D (xs.getD i default)),.ept c] (.one (.v (.bool (p (xs.getD i default)))))):Ctr Tryz.prog 263 [.lst 3 (xs.map e9),.fnc f [.ept c]] (.one (.v (.int .i64 (G3 (λi=>p (xs.getD i default)) xs.length)))):=by
 exact c3R
theorem F3 (xs:List Slot) (f:Nat)  (p:Slot→Bool) (hl:xs.length<=1048576) (hf:∀i,i < xs.length→Ctr Tryz.prog f [.v (a2D (xs.getD i default))] (.one (.v (.bool (p (xs.getD i default)))))):Ctr Tryz.prog 263 [.lst 3 (xs.map e9),.fnc f []] (.one (.v (.int .i64 (G3 (λi=>p (xs.getD i default)) xs.length)))):=by
 exact c3R
theorem B8 (sl:List Slot) (irq:Int) (hl:sl.length<=1048576):Ctr Tryz.prog 206 [.lst 3 (sl.map e9),.v (.int .i64 irq)] (.one (.v (.int .i64 (r9 sl irq)))):=by
 refine Ctr.of (n:=8) G Tryz.func206 Z a8 Z Z Z (λw0=>?_)
 refine vm3 ?_
 refine n9 ?_
 refine b5 Z Z (a89 Z Z) ?_
 refine zcl (H5 sl 264 [.int .i64 irq] (λx=>fdP irq x) hl (λk hk=>a6s _ _)) ?_
 exact a9U
theorem E7 (sl:List Slot) (irq:Int) (hl:sl.length<=1048576):Ctr Tryz.prog 192 [.lst 3 (sl.map e9),.v (.int .i64 irq)] (.one (.v (.int .i64 (r9 sl irq)))):=by
 refine Ctr.of (n:=28) G Tryz.func192 Z a8 Z Z Z (λw0=>?_)
 refine zgo ?_
 refine d9 [0,1] [] (λ(i:Nat)=>[(5,.v (.int .i64 (i:Int)))]) (λ(i:Nat)=>[]) (λ(i:Nat)=>i<=sl.length/\∀j,j < i→fdP irq (sl.getD j default)=false) (λ(i:Nat)=>sl.length - i) 0 Z Z ?_ ?_ ?_ ?_
 ·exact D9
 ·exact u3
 ·exact trivial
 intro i hinv
 refine vm4 ?_
 refine zcd (λh1=>?_) (λh1=>?_)
 ·refine zcd (λh2=>?_) (λh2=>?_)
  ·refine zcd (λh3=>?_) (λh3=>?_)
   ·refine zf1 ?_
    all_goals exact c2B
   exact c59
  refine zwf ?_
  exact c59
 refine zf1 ?_
 all_goals exact c2B
theorem a4a (x:Slot):Ctr Tryz.prog 297 [.v (a2D x)] (.one (.v (.bool (emP x)))):=by
 refine Ctr.of (n:=6) G Tryz.func297 Z a8 Z Z Z (λw0=>?_)
 exact c3T
theorem a05 (sl:List Slot)  (hl:sl.length<=1048576):Ctr Tryz.prog 251 [.lst 3 (sl.map e9)] (.one (.v (.int .i64 (freS sl)))):=by
 refine Ctr.of (n:=5) G Tryz.func251 Z a8 Z Z Z (λw0=>?_)
 refine n9 ?_
 refine b5 Z Z (f9 Z (ArgsOK.fn2 (ArgsOK.of Z)) (F3 sl 297 (λx=>emP x) hl (λk hk=>a4a _)) Z) ?_
 exact a9U
theorem a4y (sl:List Slot)  (hl:sl.length<=1048576):Ctr Tryz.prog 239 [.lst 3 (sl.map e9)] (.one (.v (.int .i64 (freS sl)))):=by
 refine Ctr.of (n:=17) G Tryz.func239 Z a8 Z Z Z (λw0=>?_)
 refine zgo ?_
 refine d9 [0] [] (λ(i:Nat)=>[(3,.v (.int .i64 (i:Int)))]) (λ(i:Nat)=>[]) (λ(i:Nat)=>i<=sl.length/\∀j,j < i→emP (sl.getD j default)=false) (λ(i:Nat)=>sl.length - i) 0 Z Z ?_ ?_ ?_ ?_
 ·exact D9
 ·exact u3
 ·exact trivial
 intro i hinv
 refine vm4 ?_
 refine zcd (λh1=>?_) (λh1=>?_)
 ·refine zcd (λh2=>?_) (λh2=>?_)
  ·refine zf1 ?_
   all_goals exact c2C
  exact c59
 refine zf1 ?_
 all_goals exact c2C
theorem a8f (sl:List Slot)  (hl:sl.length<=1048576):Ctr Tryz.prog 248 [.lst 3 (sl.map e9)] (.one (.v (.bool (a4Q sl)))):=by
 refine Ctr.of (n:=47) G Tryz.func248 Z a8 Z Z Z (λw0=>?_)
 refine zcd (λh1=>?_) (λh1=>?_)
 ·exact b7a
 refine zgo ?_
 refine d9 [0,8,9] [] (λ(i:Nat)=>[(10,.v (.int .i64 (i:Int)))]) (λ(i:Nat)=>[]) (λ(i:Nat)=>i<=sl.length/\∀j,j < i→D8 sl j=true) (λ(i:Nat)=>sl.length - i) 0 Z Z ?_ ?_ ?_ ?_
 ·exact D9
 ·exact u3
 ·exact trivial
 intro i hinv
 refine vm4 ?_
 refine zcd (λh2=>?_) (λh2=>?_)
 ·refine a6q ?_
  refine zcd (λh3=>?_) (λh3=>?_)
  ·refine n9 ?_
   refine b5 Z Z (c1R [.int .i64,.int .i64,.int .i64] Z Z Z Z Z Z Z (.inl Z) (.inl Z) a43 ⟨_,_,Z,⟨_,Z⟩,_,_,Z,⟨_,Z⟩,_,_,Z,⟨_,Z⟩,Z⟩ ⟨_,_,Z,⟨_,Z⟩,_,_,Z,⟨_,Z⟩,_,_,Z,⟨_,Z⟩,Z⟩) ?_
   refine zcd (λh4=>?_) (λh4=>?_)
   ·exact b7a
   refine zgo ?_
   refine ⟨(i+1),?_,?_,⟨⟨_,Z,by rfl⟩,Z,trivial⟩,trivial,Z,Z,Z⟩
   ·exact c3a
   omega
  refine zgd ?_
  refine zcl (C5 _ _ _) ?_
  refine zcd (λh5=>?_) (λh5=>?_)
  ·refine zwt ?_
   exact b7a
  refine zcl (a0f _) ?_
  refine zcd (λh6=>?_) (λh6=>?_)
  ·refine zwt ?_
   exact b7a
  refine zcl (R3 _) ?_
  refine zcd (λh7=>?_) (λh7=>?_)
  ·refine zwt ?_
   exact b7a
  refine zgo ?_
  refine c5K ?_
  refine zgo ?_
  refine b0v ?_
  refine r5 Z Z (f9 Z (ArgsOK.of (congrArg some (congrArg (λz=>[AV.lst 3 z,.v (.int .i64 (sl.getD i default).q)]) (a1s (xs:=sl) (i:=i))))) (Ctr.eq (B8 (sl.take i) _ B1) (congrArg (λz=>Res.one (.v (.int .i64 z))) (b7Y J))) Z) ?_
  refine zcd (λh8=>?_) (λh8=>?_)
  ·exact b7a
  refine zgo ?_
  refine ⟨(i+1),?_,?_,⟨⟨_,Z,by rfl⟩,Z,trivial⟩,trivial,Z,Z,Z⟩
  ·exact c3a
  omega
 refine zf1 ?_
 all_goals exact c2j
theorem a4z (sl:List Slot)  (hl:sl.length<=1048576):Ctr Tryz.prog 238 [.lst 3 (sl.map e9)] (.one (.v (.bool (a4Q sl)))):=by
 refine Ctr.of (n:=60) G Tryz.func238 Z a8 Z Z Z (λw0=>?_)
 refine zgo ?_
 refine d9 [0] [] (λ(i:Nat)=>[(3,.v (.int .i64 (i:Int)))]) (λ(i:Nat)=>[]) (λ(i:Nat)=>i<=sl.length/\∀j,j < i→D8 sl j=true) (λ(i:Nat)=>sl.length - i) 0 Z Z ?_ ?_ ?_ ?_
 ·exact D9
 ·exact u3
 ·exact trivial
 intro i hinv
 refine vm4 ?_
 refine zcd (λh1=>?_) (λh1=>?_)
 ·refine a6q ?_
  refine b2H ?_
  refine zcd (λh2=>?_) (λh2=>?_)
  ·refine zwt ?_
   exact b69
  refine zcl (a0g _) ?_
  refine zcd (λh3=>?_) (λh3=>?_)
  ·refine zwt ?_
   exact b69
  refine zcl (V5 _) ?_
  refine zcd (λh4=>?_) (λh4=>?_)
  ·exact b69
  refine zcd (λh5=>?_) (λh5=>?_)
  ·refine zcd (λh6=>?_) (λh6=>?_)
   ·refine zwt ?_
    exact b69
   refine zcd (λh7=>?_) (λh7=>?_)
   ·refine zwt ?_
    exact b69
   exact c3J
  exact c3J
 refine zf1 ?_
 all_goals exact c2i
end Go.Proofs.YtpfhomblkgmkkaaGreatDoor
