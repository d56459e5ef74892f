/- Texts merged into one: Tab, W1, D1, D2, Shelf, S, W2, W3. -/
import Derived.Test.YtcnodpipinlpcaaGreatMac
import Derived.Test.YtcnodpipinlpcaaGreatProg
import Derived.KernelRfl
import Derived.Shelf.Sort.Plain
import Derived.Shelf.Slices.In.SortNone
set_option maxHeartbeats 4000000
set_option linter.unusedSimpArgs false
set_option linter.unusedVariables false
namespace Go.Proofs.YtcnodpipinlpcaaGreat
open Go Go.Rf
def tb:List (Nat×TyI):=[
 (2,.flat (.int .i64) (.int .i64 0)),
 (3,.flat (.int .i64) (.int .i64 0)),
 (4,.flat .bool (.bool false)),
 (5,.flat (.int .u8) (.int .u8 0)),
 (6,.flat (.int .u8) (.int .u8 0)),
 (7,.struct [(0,2),(1,3),(2,4),(3,6)] [.int .i64 0,.int .i64 0,.bool false,.int .u8 0]),
 (8,.struct [(0,2),(1,3),(2,4),(3,6)] [.int .i64 0,.int .i64 0,.bool false,.int .u8 0]),
 (9,.flat .str (.string ⟨#[]⟩)),
 (10,.flat .str (.string ⟨#[]⟩)),
 (11,.flat .str (.string ⟨#[]⟩)),
 (12,.flat (.int .u64) (.int .u64 0)),
 (13,.struct [(0,9),(1,12)] [.string ⟨#[]⟩,.int .u64 0]),
 (14,.struct [(0,9),(1,12)] [.string ⟨#[]⟩,.int .u64 0]),
 (15,.flat .other (.pointer none)),
 (16,.flat .other (.pointer none)),
 (17,.flat .other (.pointer none)),
 (18,.struct [(0,17)] [.pointer none]),
 (19,.struct [(0,17)] [.pointer none]),
 (21,.flat (.int .i32) (.int .i32 0)),
 (22,.slice 5 1 1 [.int .u8 0]),
 (24,.slice 118 2 16 [.int .i64 0,.int .i64 0]),
 (25,.slice 4 1 1 [.bool false]),
 (26,.slice 3 1 8 [.int .i64 0]),
 (27,.slice 26 1 24 [.slice none 0 0]),
 (28,.struct [(0,25),(1,25),(2,25),(3,26),(4,27)] [.slice none 0 0,.slice none 0 0,.slice none 0 0,.slice none 0 0,.slice none 0 0]),
 (29,.struct [(0,25),(1,25),(2,25),(3,26),(4,27)] [.slice none 0 0,.slice none 0 0,.slice none 0 0,.slice none 0 0,.slice none 0 0]),
 (30,.slice 40 4 32 [.int .i64 0,.int .i64 0,.int .i64 0,.int .i64 0]),
 (39,.struct [(0,3),(1,3),(2,3),(3,3)] [.int .i64 0,.int .i64 0,.int .i64 0,.int .i64 0]),
 (40,.struct [(0,3),(1,3),(2,3),(3,3)] [.int .i64 0,.int .i64 0,.int .i64 0,.int .i64 0]),
 (47,.slice 120 2 16 [.int .i64 0,.int .i64 0]),
 (48,.struct [(0,25),(1,25),(2,25),(3,26),(4,27)] [.slice none 0 0,.slice none 0 0,.slice none 0 0,.slice none 0 0,.slice none 0 0]),
 (51,.slice 113 4 80 [.int .i64 0,.slice none 0 0,.slice none 0 0,.slice none 0 0]),
 (52,.struct [(0,24),(1,25),(2,25),(3,51)] [.slice none 0 0,.slice none 0 0,.slice none 0 0,.slice none 0 0]),
 (53,.struct [(0,24),(1,25),(2,25),(3,51)] [.slice none 0 0,.slice none 0 0,.slice none 0 0,.slice none 0 0]),
 (64,.slice 170 4 80 [.int .i64 0,.slice none 0 0,.slice none 0 0,.slice none 0 0]),
 (65,.struct [(0,47),(1,25),(2,25),(3,64)] [.slice none 0 0,.slice none 0 0,.slice none 0 0,.slice none 0 0]),
 (66,.struct [(0,47),(1,25),(2,25),(3,64)] [.slice none 0 0,.slice none 0 0,.slice none 0 0,.slice none 0 0]),
 (72,.slice 136 4 32 [.int .i64 0,.int .i64 0,.int .i64 0,.int .i64 0]),
 (87,.flat .other (.pointer none)),
 (88,.flat (.int .u64) (.int .u64 0)),
 (89,.struct [(0,22),(1,3),(2,88)] [.slice none 0 0,.int .i64 0,.int .u64 0]),
 (90,.struct [(0,22),(1,3),(2,88)] [.slice none 0 0,.int .i64 0,.int .u64 0]),
 (108,.slice 154 3 24 [.int .i64 0,.int .i64 0,.int .i64 0]),
 (109,.slice 183 2 16 [.int .i64 0,.int .i64 0]),
 (110,.struct [(0,108),(1,109)] [.slice none 0 0,.slice none 0 0]),
 (111,.struct [(0,108),(1,109)] [.slice none 0 0,.slice none 0 0]),
 (112,.struct [(0,3),(1,26),(2,111)] [.int .i64 0,.slice none 0 0,.slice none 0 0,.slice none 0 0]),
 (113,.struct [(0,3),(1,26),(2,111)] [.int .i64 0,.slice none 0 0,.slice none 0 0,.slice none 0 0]),
 (117,.struct [(0,3),(1,3)] [.int .i64 0,.int .i64 0]),
 (118,.struct [(0,3),(1,3)] [.int .i64 0,.int .i64 0]),
 (120,.struct [(0,3),(1,3)] [.int .i64 0,.int .i64 0]),
 (136,.struct [(0,3),(1,3),(2,3),(3,3)] [.int .i64 0,.int .i64 0,.int .i64 0,.int .i64 0]),
 (153,.struct [(0,3),(1,3),(2,3)] [.int .i64 0,.int .i64 0,.int .i64 0]),
 (154,.struct [(0,3),(1,3),(2,3)] [.int .i64 0,.int .i64 0,.int .i64 0]),
 (165,.slice 246 3 24 [.int .i64 0,.int .i64 0,.int .i64 0]),
 (166,.slice 248 2 16 [.int .i64 0,.int .i64 0]),
 (167,.struct [(0,165),(1,166)] [.slice none 0 0,.slice none 0 0]),
 (168,.struct [(0,165),(1,166)] [.slice none 0 0,.slice none 0 0]),
 (169,.struct [(0,3),(1,26),(2,168)] [.int .i64 0,.slice none 0 0,.slice none 0 0,.slice none 0 0]),
 (170,.struct [(0,3),(1,26),(2,168)] [.int .i64 0,.slice none 0 0,.slice none 0 0,.slice none 0 0]),
 (182,.struct [(0,3),(1,3)] [.int .i64 0,.int .i64 0]),
 (183,.struct [(0,3),(1,3)] [.int .i64 0,.int .i64 0]),
 (188,.flat (.int .u64) (.int .u64 0)),
 (204,.flat .other (.pointer none)),
 (205,.flat .other (.pointer none)),
 (231,.flat (.int .i64) (.int .i64 0)),
 (239,.flat (.int .u32) (.int .u32 0)),
 (246,.struct [(0,3),(1,3),(2,3)] [.int .i64 0,.int .i64 0,.int .i64 0]),
 (248,.struct [(0,3),(1,3)] [.int .i64 0,.int .i64 0]),
 (254,.flat (.int .u64) (.int .u64 0)),
 (258,.flat .other (.pointer none)),
 (262,.flat .other (.pointer none)),
 (268,.struct [(0,17),(1,17),(2,17),(3,9)] [.pointer none,.pointer none,.pointer none,.string ⟨#[]⟩]),
 (269,.struct [(0,17),(1,17),(2,17),(3,9)] [.pointer none,.pointer none,.pointer none,.string ⟨#[]⟩]),
 (273,.flat (.int .u8) (.int .u8 0)),
 (274,.flat (.int .u8) (.int .u8 0)),
 (276,.flat .other (.pointer none)),
 (277,.flat (.int .i32) (.int .i32 0)),
 (278,.flat (.int .i32) (.int .i32 0))]
theorem G:Go.Rf.Good Tryz.prog tb:=Go.Rf.Good.of (by kernel_rfl)
instance:Env Tryz.prog:=⟨fun _=>True,fun _ _=>trivial⟩
theorem m5:Tryz.prog.follows .mixedOrders=true:=by kernel_rfl
end Go.Proofs.YtcnodpipinlpcaaGreat
set_option maxRecDepth 20000
namespace Go.Proofs.YtcnodpipinlpcaaGreat
open Go Go.Rf
theorem B8 (n l h:Int):Ctr Tryz.prog 65 [.v (.int .i64 n),.v (.int .i64 l),.v (.int .i64 h)] (.one (.v (.bool (u4 n l h)))):=by
 refine Ctr.of (n:=15) G Tryz.func65 rfl b5 rfl rfl rfl (fun w0=>?_)
 refine zcd (fun h1=>?_) (fun h1=>?_)
 ·refine zf1 ?_
  all_goals exact b17
 refine zf1 ?_
 all_goals exact b17
theorem E9 (n l h:Int):Ctr Tryz.prog 67 [.v (.int .i64 n),.v (.int .i64 l),.v (.int .i64 h)] (.one (.v (.bool (u4 n l h)))):=by
 refine Ctr.of (n:=15) G Tryz.func67 rfl b5 rfl rfl rfl (fun w0=>?_)
 refine zcd (fun h1=>?_) (fun h1=>?_)
 ·refine zf1 ?_
  all_goals exact b17
 refine zf1 ?_
 all_goals exact b17
theorem a11 (n:Int):Ctr Tryz.prog 114 [.v (.int .i64 n)] (.one (.v (.bool (u4 n 0 16)))):=by
 refine Ctr.of (n:=5) G Tryz.func114 rfl b5 rfl rfl rfl (fun w0=>?_)
 refine zcl (B8 _ _ _) ?_
 refine zf1 ?_
 all_goals exact b1l
theorem a0R (n:Int):Ctr Tryz.prog 115 [.v (.int .i64 n)] (.one (.v (.bool (u4 n 0 7)))):=by
 refine Ctr.of (n:=5) G Tryz.func115 rfl b5 rfl rfl rfl (fun w0=>?_)
 refine zcl (B8 _ _ _) ?_
 refine zf1 ?_
 all_goals exact b1l
theorem F9 (n:Int):Ctr Tryz.prog 179 [.v (.int .i64 n)] (.one (.v (.bool (u4 n 0 7)))):=by
 refine Ctr.of (n:=5) G Tryz.func179 rfl b5 rfl rfl rfl (fun w0=>?_)
 refine a7O ?_
 refine zf1 ?_
 all_goals exact b1l
theorem a3j (n:Int):Ctr Tryz.prog 166 [.v (.int .i64 n)] (.one (.v (.bool (u4 n 0 15)))):=by
 refine Ctr.of (n:=5) G Tryz.func166 rfl b5 rfl rfl rfl (fun w0=>?_)
 refine zcl (B8 _ _ _) ?_
 refine zf1 ?_
 all_goals exact b1l
theorem Q4 (n:Int):Ctr Tryz.prog 178 [.v (.int .i64 n)] (.one (.v (.bool (u4 n 0 15)))):=by
 refine Ctr.of (n:=5) G Tryz.func178 rfl b5 rfl rfl rfl (fun w0=>?_)
 refine a7O ?_
 refine zf1 ?_
 all_goals exact b1l
end Go.Proofs.YtcnodpipinlpcaaGreat
set_option maxRecDepth 20000
namespace Go.Proofs.YtcnodpipinlpcaaGreat
open Go Go.Rf
theorem Y6 (x:Cur) (h0:0≤x.a∧x.a≤4611686018427387904) (hc:L2 x.c):CtrM Tryz.prog 124 [.ptr 0 0] [.box [.lst 1 (x.c.map C5),.v (.int .i64 x.a),.v (.int .u64 x.s)]] (.one (.v (.int .i64 (nxV x)))) [some (.box [.lst 1 ((nxC x).c.map C5),.v (.int .i64 (nxC x).a),.v (.int .u64 (nxC x).s)])]:=by
 have hcl:=hc.1
 have hcb:=b0d hc
 refine CtrM.of (n:=62) (k:=1) G Tryz.func124 rfl (by kernel_rfl) rfl rfl rfl rfl rfl rfl rfl (fun w0 _ hpin=>?_)
 refine b4 (fun K1 hK1=>?_)
 refine a6 ?_
 refine a1 rfl ?_
 refine a3 rfl rfl (a7 rfl rfl) ?_
 refine a4 ?_
 refine hK1 _ ?_
 clear hK1 K1
 refine b34 (id:=0) rfl (fun y=>?_)
 refine b4 (fun K2 hK2=>?_)
 refine a6 ?_
 refine a1 rfl ?_
 refine a3 rfl rfl (a7 rfl rfl) ?_
 refine a4 ?_
 refine hK2 _ ?_
 clear hK2 K2
 refine b4 (fun K3 hK3=>?_)
 refine b4 (fun K4 hK4=>?_)
 refine L1 m5 (by kernel_rfl) ?_
 refine d6 rfl ?_
 refine j5 rfl rfl (a8 rfl rfl) ?_
 refine d6 rfl ?_
 refine j5 rfl rfl (v4 rfl rfl) ?_
 refine d6 rfl ?_
 refine j5 rfl rfl (b7 G rfl rfl rfl rfl) ?_
 refine d6 rfl ?_
 refine j5 rfl rfl (c4 G rfl rfl rfl rfl rfl rfl rfl) ?_
 refine d6 rfl ?_
 refine j5 rfl rfl (a8 rfl rfl) ?_
 refine d6 rfl ?_
 refine j5 rfl rfl (v4 rfl rfl) ?_
 refine d6 rfl ?_
 refine j5 rfl rfl (b7 G rfl rfl rfl rfl) ?_
 refine d6 rfl ?_
 refine j5 rfl rfl (c4 G rfl rfl rfl rfl rfl rfl rfl) ?_
 refine d6 rfl ?_
 first | refine j5 rfl rfl (r4 G rfl rfl rfl rfl (List.length_map _)) ?_ | refine j5 rfl rfl (t6 G rfl rfl rfl rfl) ?_
 refine d6 rfl ?_
 refine j5 rfl rfl (f9 rfl rfl rfl rfl) ?_
 refine H1 ?_
 refine hK4 _ ?_
 clear hK4 K4
 refine d1 rfl (fun h1=>?_) (fun h1=>?_)
 ·try rw [h1]
  try simp only [rfb] at h1
  refine L1 m5 (by kernel_rfl) ?_
  refine d6 rfl ?_
  refine j5 rfl rfl (a8 rfl rfl) ?_
  refine d6 rfl ?_
  refine j5 rfl rfl (v4 rfl rfl) ?_
  refine d6 rfl ?_
  refine j5 rfl rfl (b7 G rfl rfl rfl rfl) ?_
  refine d6 rfl ?_
  refine j5 rfl rfl (c4 G rfl rfl rfl rfl rfl rfl rfl) ?_
  refine d6 rfl ?_
  refine j5 rfl rfl (a8 rfl rfl) ?_
  refine d6 rfl ?_
  refine j5 rfl rfl (v4 rfl rfl) ?_
  refine d6 rfl ?_
  refine j5 rfl rfl (b7 G rfl rfl rfl rfl) ?_
  refine d6 rfl ?_
  refine j5 rfl rfl (c4 G rfl rfl rfl rfl rfl rfl rfl) ?_
  refine d6 rfl ?_
  refine j5 rfl rfl (X8 G rfl rfl rfl rfl (by omega) (t8 (by omega) (by omega))) ?_
  refine d6 rfl ?_
  refine j5 rfl rfl (p9 G rfl rfl rfl rfl rfl) ?_
  refine d6 rfl ?_
  first | refine j5 rfl rfl (a9G G rfl rfl rfl rfl (by omega) (by omega)) ?_ | refine j5 rfl rfl (a3s G rfl rfl rfl rfl) ?_
  refine d6 rfl ?_
  refine j5 rfl rfl (a7 rfl rfl) ?_
  refine H1 ?_
  refine hK3 _ ?_
  clear hK3 K3
  try rw [show IntKind.i64.wrap (x.c.getD x.a.toNat default)=nxB x from by rw [b2l (by assumption)] at hcb ⊢;exact H9 (by omega) (by omega)]
  refine b4 (fun K5 hK5=>?_)
  refine a6 ?_
  refine a1 rfl ?_
  refine a3 rfl rfl (a8 rfl rfl) ?_
  refine a1 rfl ?_
  refine a3 rfl rfl (v4 rfl rfl) ?_
  refine a1 rfl ?_
  refine a3 rfl rfl (b7 G rfl rfl rfl rfl) ?_
  refine a1 rfl ?_
  refine a3 rfl rfl (c4 G rfl rfl rfl rfl rfl rfl rfl) ?_
  refine a1 rfl ?_
  first | refine a3 rfl rfl (i8 rfl rfl rfl rfl (by omega) (by omega)) ?_ | refine a3 rfl rfl (k4 rfl rfl rfl rfl) ?_
  refine a1 rfl ?_
  refine a3 rfl rfl (v4 rfl rfl) ?_
  refine a1 rfl ?_
  refine a3 rfl rfl (b7 G rfl rfl rfl rfl) ?_
  refine a1 rfl ?_
  refine c5 G rfl rfl rfl rfl rfl rfl rfl rfl rfl rfl rfl ?_
  refine a4 ?_
  refine hK5 _ ?_
  clear hK5 K5
  refine b4 (fun K6 hK6=>?_)
  refine a6 ?_
  refine a1 rfl ?_
  refine a3 rfl rfl (a8 rfl rfl) ?_
  refine a1 rfl ?_
  refine a3 rfl rfl (a8 rfl rfl) ?_
  refine a1 rfl ?_
  refine a3 rfl rfl (v4 rfl rfl) ?_
  refine a1 rfl ?_
  refine a3 rfl rfl (b7 G rfl rfl rfl rfl) ?_
  refine a1 rfl ?_
  refine a3 rfl rfl (c4 G rfl rfl rfl rfl rfl rfl rfl) ?_
  refine a1 rfl ?_
  first | refine a3 rfl rfl (i8 rfl rfl rfl rfl (by omega) (by omega)) ?_ | refine a3 rfl rfl (k4 rfl rfl rfl rfl) ?_
  refine a1 rfl ?_
  refine a3 rfl rfl (a8 rfl rfl) ?_
  refine a1 rfl ?_
  refine a3 rfl rfl (a3s G rfl rfl rfl rfl) ?_
  refine a1 rfl ?_
  first | refine a3 rfl rfl (i8 rfl rfl rfl rfl (by omega) (by omega)) ?_ | refine a3 rfl rfl (k4 rfl rfl rfl rfl) ?_
  refine a1 rfl ?_
  first | refine a3 rfl rfl (i8 rfl rfl rfl rfl (by omega) (by omega)) ?_ | refine a3 rfl rfl (k4 rfl rfl rfl rfl) ?_
  refine a1 rfl ?_
  refine a3 rfl rfl (v4 rfl rfl) ?_
  refine a1 rfl ?_
  refine a3 rfl rfl (b7 G rfl rfl rfl rfl) ?_
  refine a1 rfl ?_
  refine c5 G rfl rfl rfl rfl rfl rfl rfl rfl rfl rfl rfl ?_
  refine a4 ?_
  refine hK6 _ ?_
  clear hK6 K6
  refine b4 (fun K7 hK7=>?_)
  refine b4 (fun K8 hK8=>?_)
  refine L1 m5 (by kernel_rfl) ?_
  refine d6 rfl ?_
  refine j5 rfl rfl (a8 rfl rfl) ?_
  refine d6 rfl ?_
  refine j5 rfl rfl (v4 rfl rfl) ?_
  refine d6 rfl ?_
  refine j5 rfl rfl (b7 G rfl rfl rfl rfl) ?_
  refine d6 rfl ?_
  refine j5 rfl rfl (c4 G rfl rfl rfl rfl rfl rfl rfl) ?_
  refine d6 rfl ?_
  refine j5 rfl rfl (a8 rfl rfl) ?_
  refine d6 rfl ?_
  refine j5 rfl rfl (v4 rfl rfl) ?_
  refine d6 rfl ?_
  refine j5 rfl rfl (b7 G rfl rfl rfl rfl) ?_
  refine d6 rfl ?_
  refine j5 rfl rfl (c4 G rfl rfl rfl rfl rfl rfl rfl) ?_
  refine d6 rfl ?_
  first | refine j5 rfl rfl (r4 G rfl rfl rfl rfl (List.length_map _)) ?_ | refine j5 rfl rfl (t6 G rfl rfl rfl rfl) ?_
  refine d6 rfl ?_
  refine j5 rfl rfl (f9 rfl rfl rfl rfl) ?_
  refine H1 ?_
  refine hK8 _ ?_
  clear hK8 K8
  refine d1 rfl (fun h2=>?_) (fun h2=>?_)
  ·try rw [h2]
   try simp only [rfb] at h2
   refine b4 (fun K9 hK9=>?_)
   refine a6 ?_
   refine a1 rfl ?_
   refine a3 rfl rfl (a8 rfl rfl) ?_
   refine a1 rfl ?_
   refine a3 rfl rfl (a7 rfl rfl) ?_
   refine a4 ?_
   refine hK9 _ ?_
   clear hK9 K9
   refine a0E (id:=0) rfl ?_
   refine c8 (n7 rfl (g9 ?_) rfl (AftOK.stays rfl ?_ rfl AftOK.nil))
   all_goals clear hK7 K7
   all_goals (first | (rw [a8I (by omega)];done) | (exfalso;omega) | (simp only [nxC,nxS];done) | (simp only [nxC,nxS,a37 (show ¬ x.a < (x.c.length:Int) by omega)];done) | (rw [a38 (by omega)];exact congrArg (Value.int .i64) (H9 (Int.le_trans (by decide) E3.1) (Int.le_trans E3.2 (by decide)))) | (rw [a38 (by omega)];simp only [nxT,nxS,a37 (show ¬ x.a < (x.c.length:Int) by omega)];exact congrArg (Value.int .i64) (H9 (Int.le_trans (by decide) E3.1) (Int.le_trans E3.2 (by decide)))))
  ·try rw [h2]
   try simp only [rfb] at h2
   refine e9 ?_
   refine hK7 _ ?_
   clear hK7 K7
   refine b4 (fun K10 hK10=>?_)
   refine a6 ?_
   refine a1 rfl ?_
   refine a3 rfl rfl (a8 rfl rfl) ?_
   refine a1 rfl ?_
   refine a3 rfl rfl (v4 rfl rfl) ?_
   refine a1 rfl ?_
   refine a3 rfl rfl (b7 G rfl rfl rfl rfl) ?_
   refine a1 rfl ?_
   refine a3 rfl rfl (c4 G rfl rfl rfl rfl rfl rfl rfl) ?_
   refine a1 rfl ?_
   refine a3 rfl rfl (b2j rfl rfl rfl (by decide)) ?_
   refine a1 rfl ?_
   refine a3 rfl rfl (b2k rfl rfl rfl) ?_
   refine a1 rfl ?_
   refine a3 rfl rfl (a3s G rfl rfl rfl rfl) ?_
   refine a1 rfl ?_
   refine a3 rfl rfl (a7 rfl rfl) ?_
   refine a4 ?_
   refine hK10 _ ?_
   clear hK10 K10
   refine a0E (id:=0) rfl ?_
   refine c8 (n7 rfl (g9 ?_) rfl (AftOK.stays rfl ?_ rfl AftOK.nil))
   all_goals (first | (rw [a8I (by omega)];done) | (exfalso;omega) | (simp only [nxC,nxS];done) | (simp only [nxC,nxS,a37 (show ¬ x.a < (x.c.length:Int) by omega)];done) | (rw [a38 (by omega)];exact congrArg (Value.int .i64) (H9 (Int.le_trans (by decide) E3.1) (Int.le_trans E3.2 (by decide)))) | (rw [a38 (by omega)];simp only [nxT,nxS,a37 (show ¬ x.a < (x.c.length:Int) by omega)];exact congrArg (Value.int .i64) (H9 (Int.le_trans (by decide) E3.1) (Int.le_trans E3.2 (by decide)))))
 ·try rw [h1]
  try simp only [rfb] at h1
  refine e9 ?_
  refine hK3 _ ?_
  clear hK3 K3
  try rw [show IntKind.i64.wrap (x.c.getD x.a.toNat default)=nxB x from by rw [b2l (by assumption)] at hcb ⊢;exact H9 (by omega) (by omega)]
  refine b4 (fun K11 hK11=>?_)
  refine a6 ?_
  refine a1 rfl ?_
  refine a3 rfl rfl (a8 rfl rfl) ?_
  refine a1 rfl ?_
  refine a3 rfl rfl (v4 rfl rfl) ?_
  refine a1 rfl ?_
  refine a3 rfl rfl (b7 G rfl rfl rfl rfl) ?_
  refine a1 rfl ?_
  refine a3 rfl rfl (c4 G rfl rfl rfl rfl rfl rfl rfl) ?_
  refine a1 rfl ?_
  first | refine a3 rfl rfl (i8 rfl rfl rfl rfl (by omega) (by omega)) ?_ | refine a3 rfl rfl (k4 rfl rfl rfl rfl) ?_
  refine a1 rfl ?_
  refine a3 rfl rfl (v4 rfl rfl) ?_
  refine a1 rfl ?_
  refine a3 rfl rfl (b7 G rfl rfl rfl rfl) ?_
  refine a1 rfl ?_
  refine c5 G rfl rfl rfl rfl rfl rfl rfl rfl rfl rfl rfl ?_
  refine a4 ?_
  refine hK11 _ ?_
  clear hK11 K11
  refine b4 (fun K12 hK12=>?_)
  refine a6 ?_
  refine a1 rfl ?_
  refine a3 rfl rfl (a8 rfl rfl) ?_
  refine a1 rfl ?_
  refine a3 rfl rfl (a8 rfl rfl) ?_
  refine a1 rfl ?_
  refine a3 rfl rfl (v4 rfl rfl) ?_
  refine a1 rfl ?_
  refine a3 rfl rfl (b7 G rfl rfl rfl rfl) ?_
  refine a1 rfl ?_
  refine a3 rfl rfl (c4 G rfl rfl rfl rfl rfl rfl rfl) ?_
  refine a1 rfl ?_
  first | refine a3 rfl rfl (i8 rfl rfl rfl rfl (by omega) (by omega)) ?_ | refine a3 rfl rfl (k4 rfl rfl rfl rfl) ?_
  refine a1 rfl ?_
  refine a3 rfl rfl (a8 rfl rfl) ?_
  refine a1 rfl ?_
  refine a3 rfl rfl (a3s G rfl rfl rfl rfl) ?_
  refine a1 rfl ?_
  first | refine a3 rfl rfl (i8 rfl rfl rfl rfl (by omega) (by omega)) ?_ | refine a3 rfl rfl (k4 rfl rfl rfl rfl) ?_
  refine a1 rfl ?_
  first | refine a3 rfl rfl (i8 rfl rfl rfl rfl (by omega) (by omega)) ?_ | refine a3 rfl rfl (k4 rfl rfl rfl rfl) ?_
  refine a1 rfl ?_
  refine a3 rfl rfl (v4 rfl rfl) ?_
  refine a1 rfl ?_
  refine a3 rfl rfl (b7 G rfl rfl rfl rfl) ?_
  refine a1 rfl ?_
  refine c5 G rfl rfl rfl rfl rfl rfl rfl rfl rfl rfl rfl ?_
  refine a4 ?_
  refine hK12 _ ?_
  clear hK12 K12
  refine b4 (fun K13 hK13=>?_)
  refine b4 (fun K14 hK14=>?_)
  refine L1 m5 (by kernel_rfl) ?_
  refine d6 rfl ?_
  refine j5 rfl rfl (a8 rfl rfl) ?_
  refine d6 rfl ?_
  refine j5 rfl rfl (v4 rfl rfl) ?_
  refine d6 rfl ?_
  refine j5 rfl rfl (b7 G rfl rfl rfl rfl) ?_
  refine d6 rfl ?_
  refine j5 rfl rfl (c4 G rfl rfl rfl rfl rfl rfl rfl) ?_
  refine d6 rfl ?_
  refine j5 rfl rfl (a8 rfl rfl) ?_
  refine d6 rfl ?_
  refine j5 rfl rfl (v4 rfl rfl) ?_
  refine d6 rfl ?_
  refine j5 rfl rfl (b7 G rfl rfl rfl rfl) ?_
  refine d6 rfl ?_
  refine j5 rfl rfl (c4 G rfl rfl rfl rfl rfl rfl rfl) ?_
  refine d6 rfl ?_
  first | refine j5 rfl rfl (r4 G rfl rfl rfl rfl (List.length_map _)) ?_ | refine j5 rfl rfl (t6 G rfl rfl rfl rfl) ?_
  refine d6 rfl ?_
  refine j5 rfl rfl (f9 rfl rfl rfl rfl) ?_
  refine H1 ?_
  refine hK14 _ ?_
  clear hK14 K14
  refine d1 rfl (fun h3=>?_) (fun h3=>?_)
  ·try rw [h3]
   try simp only [rfb] at h3
   refine b4 (fun K15 hK15=>?_)
   refine a6 ?_
   refine a1 rfl ?_
   refine a3 rfl rfl (a8 rfl rfl) ?_
   refine a1 rfl ?_
   refine a3 rfl rfl (a7 rfl rfl) ?_
   refine a4 ?_
   refine hK15 _ ?_
   clear hK15 K15
   refine a0E (id:=0) rfl ?_
   refine c8 (n7 rfl (g9 ?_) rfl (AftOK.stays rfl ?_ rfl AftOK.nil))
   all_goals clear hK13 K13
   all_goals (first | (rw [a8I (by omega)];done) | (exfalso;omega) | (simp only [nxC,nxS];done) | (simp only [nxC,nxS,a37 (show ¬ x.a < (x.c.length:Int) by omega)];done) | (rw [a38 (by omega)];exact congrArg (Value.int .i64) (H9 (Int.le_trans (by decide) E3.1) (Int.le_trans E3.2 (by decide)))) | (rw [a38 (by omega)];simp only [nxT,nxS,a37 (show ¬ x.a < (x.c.length:Int) by omega)];exact congrArg (Value.int .i64) (H9 (Int.le_trans (by decide) E3.1) (Int.le_trans E3.2 (by decide)))))
  ·try rw [h3]
   try simp only [rfb] at h3
   refine e9 ?_
   refine hK13 _ ?_
   clear hK13 K13
   refine b4 (fun K16 hK16=>?_)
   refine a6 ?_
   refine a1 rfl ?_
   refine a3 rfl rfl (a8 rfl rfl) ?_
   refine a1 rfl ?_
   refine a3 rfl rfl (v4 rfl rfl) ?_
   refine a1 rfl ?_
   refine a3 rfl rfl (b7 G rfl rfl rfl rfl) ?_
   refine a1 rfl ?_
   refine a3 rfl rfl (c4 G rfl rfl rfl rfl rfl rfl rfl) ?_
   refine a1 rfl ?_
   refine a3 rfl rfl (b2j rfl rfl rfl (by decide)) ?_
   refine a1 rfl ?_
   refine a3 rfl rfl (b2k rfl rfl rfl) ?_
   refine a1 rfl ?_
   refine a3 rfl rfl (a3s G rfl rfl rfl rfl) ?_
   refine a1 rfl ?_
   refine a3 rfl rfl (a7 rfl rfl) ?_
   refine a4 ?_
   refine hK16 _ ?_
   clear hK16 K16
   refine a0E (id:=0) rfl ?_
   refine c8 (n7 rfl (g9 ?_) rfl (AftOK.stays rfl ?_ rfl AftOK.nil))
   all_goals (first | (rw [a8I (by omega)];done) | (exfalso;omega) | (simp only [nxC,nxS];done) | (simp only [nxC,nxS,a37 (show ¬ x.a < (x.c.length:Int) by omega)];done) | (rw [a38 (by omega)];exact congrArg (Value.int .i64) (H9 (Int.le_trans (by decide) E3.1) (Int.le_trans E3.2 (by decide)))) | (rw [a38 (by omega)];simp only [nxT,nxS,a37 (show ¬ x.a < (x.c.length:Int) by omega)];exact congrArg (Value.int .i64) (H9 (Int.le_trans (by decide) E3.1) (Int.le_trans E3.2 (by decide)))))
theorem O3 (x:Cur) (n:Int) (h0:0≤x.a∧x.a≤4611686018427387000) (hc:L2 x.c):CtrM Tryz.prog 51 [.ptr 0 0,.v (.int .i64 n)] [.box [.lst 1 (x.c.map C5),.v (.int .i64 x.a),.v (.int .u64 x.s)]] (.one (.v (.int .i64 (pkV x n)))) [some (.box [.lst 1 ((pkC x n).c.map C5),.v (.int .i64 (pkC x n).a),.v (.int .u64 (pkC x n).s)])]:=by
 have hv1:=a6s hc
 have hv2:=a6s (x:=nxC x) hc
 have ha1:(nxC x).a=x.a+1:=rfl
 refine CtrM.of (n:=20) (k:=1) G Tryz.func51 rfl (by kernel_rfl) rfl rfl rfl rfl rfl rfl rfl (fun w0 _ hpin=>?_)
 refine b4 (fun K1 hK1=>?_)
 refine a6 ?_
 refine a1 rfl ?_
 refine a3 rfl rfl (a7 rfl rfl) ?_
 refine a4 ?_
 refine hK1 _ ?_
 clear hK1 K1
 refine b4 (fun K2 hK2=>?_)
 refine b4 (fun K3 hK3=>?_)
 refine a6 ?_
 refine a1 rfl ?_
 refine a3 rfl rfl (a8 rfl rfl) ?_
 refine a1 rfl ?_
 refine a3 rfl rfl (f9 rfl rfl rfl rfl) ?_
 refine a4 ?_
 refine hK3 _ ?_
 clear hK3 K3
 refine d1 rfl (fun h1=>?_) (fun h1=>?_)
 ·try rw [h1]
  try simp only [rfb] at h1
  have hO:=b35 (x:=x) h1
  refine b4 (fun K4 hK4=>?_)
  refine a6 ?_
  refine a1 rfl ?_
  refine a3 rfl rfl (a7 rfl rfl) ?_
  refine a4 ?_
  refine hK4 _ ?_
  clear hK4 K4
  refine c8 (n7 rfl (g9 ?_) rfl (AftOK.stays rfl ?_ rfl AftOK.nil))
  all_goals clear hK2 K2
  all_goals (first | (rw [hO.1];done) | (rw [hO.2];done) | (rw [hO.1];rfl) | (rw [hO.2];rfl))
 ·try rw [h1]
  try simp only [rfb] at h1
  refine e9 ?_
  refine hK2 _ ?_
  clear hK2 K2
  refine b4 (fun K5 hK5=>?_)
  refine a6 ?_
  refine a1 rfl ?_
  refine a3 rfl rfl (a8 rfl rfl) ?_
  refine a1 rfl ?_
  refine a0d 1 [0] rfl rfl rfl (Y6 x (by omega) hc) rfl (RowsIn.cons rfl RowsIn.nil) rfl rfl rfl ?_
  refine a1 rfl ?_
  refine a3 rfl rfl (a7 rfl rfl) ?_
  refine a4 ?_
  refine hK5 _ ?_
  clear hK5 K5
  refine b4 (fun K6 hK6=>?_)
  refine b4 (fun K7 hK7=>?_)
  refine a6 ?_
  refine a1 rfl ?_
  refine a3 rfl rfl (a8 rfl rfl) ?_
  refine a1 rfl ?_
  refine a3 rfl rfl (f9 rfl rfl rfl rfl) ?_
  refine a4 ?_
  refine hK7 _ ?_
  clear hK7 K7
  refine d1 rfl (fun h2=>?_) (fun h2=>?_)
  ·try rw [h2]
   try simp only [rfb] at h2
   have hO:=b37 (x:=x) (n:=n) (by omega) (by omega)
   refine a6 ?_
   refine a1 rfl ?_
   refine a3 rfl rfl (a8 rfl rfl) ?_
   refine a1 rfl ?_
   first | refine a3 rfl rfl (i8 rfl rfl rfl rfl (by omega) (by omega)) ?_ | refine a3 rfl rfl (k4 rfl rfl rfl rfl) ?_
   refine a1 rfl ?_
   refine a3 rfl rfl (a8 rfl rfl) ?_
   refine a1 rfl ?_
   refine a0d 1 [0] rfl rfl rfl (Y6 (nxC x) (by omega) hc) rfl (RowsIn.cons rfl RowsIn.nil) rfl rfl rfl ?_
   refine a1 rfl ?_
   first | refine a3 rfl rfl (i8 rfl rfl rfl rfl (by omega) (by omega)) ?_ | refine a3 rfl rfl (k4 rfl rfl rfl rfl) ?_
   refine a1 rfl ?_
   refine a3 rfl rfl (a7 rfl rfl) ?_
   refine a4 ?_
   refine hK6 _ ?_
   clear hK6 K6
   refine b4 (fun K8 hK8=>?_)
   refine a6 ?_
   refine a1 rfl ?_
   refine a3 rfl rfl (a8 rfl rfl) ?_
   refine a1 rfl ?_
   refine a3 rfl rfl (a8 rfl rfl) ?_
   refine a1 rfl ?_
   first | refine a3 rfl rfl (a5O rfl rfl rfl (by omega) (by omega)) ?_ | refine a3 rfl rfl (a95 rfl rfl rfl (by omega)) ?_
   refine a1 rfl ?_
   refine a3 rfl rfl (a7 rfl rfl) ?_
   refine a4 ?_
   refine hK8 _ ?_
   clear hK8 K8
   refine c8 (n7 rfl (g9 ?_) rfl (AftOK.stays rfl ?_ rfl AftOK.nil))
   all_goals (first | (rw [hO.1];done) | (rw [hO.2];done) | (rw [hO.1];rfl) | (rw [hO.2];rfl))
  ·try rw [h2]
   try simp only [rfb] at h2
   have hO:=b36 (x:=x) (n:=n) (by omega) (by omega)
   refine e9 ?_
   refine hK6 _ ?_
   clear hK6 K6
   refine b4 (fun K9 hK9=>?_)
   refine a6 ?_
   refine a1 rfl ?_
   refine a3 rfl rfl (a8 rfl rfl) ?_
   refine a1 rfl ?_
   refine a3 rfl rfl (a8 rfl rfl) ?_
   refine a1 rfl ?_
   first | refine a3 rfl rfl (a5O rfl rfl rfl (by omega) (by omega)) ?_ | refine a3 rfl rfl (a95 rfl rfl rfl (by omega)) ?_
   refine a1 rfl ?_
   refine a3 rfl rfl (a7 rfl rfl) ?_
   refine a4 ?_
   refine hK9 _ ?_
   clear hK9 K9
   refine c8 (n7 rfl (g9 ?_) rfl (AftOK.stays rfl ?_ rfl AftOK.nil))
   all_goals (first | (rw [hO.1];done) | (rw [hO.2];done) | (rw [hO.1];rfl) | (rw [hO.2];rfl))
theorem a3P (x:Cur) (n:Int) (h0:0≤x.a∧x.a≤4611686018427387000) (hc:L2 x.c):CtrM Tryz.prog 126 [.ptr 0 0,.v (.int .i64 n)] [.box [.lst 1 (x.c.map C5),.v (.int .i64 x.a),.v (.int .u64 x.s)]] (.one (.v (.bool (pkV x n==0)))) [some (.box [.lst 1 ((pkC x n).c.map C5),.v (.int .i64 (pkC x n).a),.v (.int .u64 (pkC x n).s)])]:=by
 refine CtrM.of (n:=9) (k:=1) G Tryz.func126 rfl (by kernel_rfl) rfl rfl rfl rfl rfl rfl rfl (fun w0 _ hpin=>?_)
 refine b4 (fun K1 hK1=>?_)
 refine a6 ?_
 refine a1 rfl ?_
 refine a3 rfl rfl (a7 rfl rfl) ?_
 refine a4 ?_
 refine hK1 _ ?_
 clear hK1 K1
 refine b4 (fun K2 hK2=>?_)
 refine a6 ?_
 refine a1 rfl ?_
 refine a3 rfl rfl (a8 rfl rfl) ?_
 refine a1 rfl ?_
 refine a3 rfl rfl (a8 rfl rfl) ?_
 refine a1 rfl ?_
 refine a0d 1 [0] rfl rfl rfl (O3 x n (by omega) hc) rfl (RowsIn.cons rfl RowsIn.nil) rfl rfl rfl ?_
 refine a1 rfl ?_
 refine a3 rfl rfl (f9 rfl rfl rfl rfl) ?_
 refine a1 rfl ?_
 refine a3 rfl rfl (a7 rfl rfl) ?_
 refine a4 ?_
 refine hK2 _ ?_
 clear hK2 K2
 refine c8 (n7 rfl (g9 ?_) rfl (AftOK.stays rfl ?_ rfl AftOK.nil))
 all_goals (first | rfl | (simp;done))
theorem a2q (x:Cur) (l:List Int) (hn:1≤l.length∧l.length≤1048576) (h0:0≤x.a∧x.a≤4611686018427387000) (hc:L2 x.c):CtrM Tryz.prog 123 [.ptr 0 0,.own 1] [.box [.lst 1 (x.c.map C5),.v (.int .i64 x.a),.v (.int .u64 x.s)],.row 3 1 (l.map Rf.r5)] (.one (.v (.int .i64 (l.getD (pkV x l.length).toNat default)))) [some (.box [.lst 1 ((pkC x l.length).c.map C5),.v (.int .i64 (pkC x l.length).a),.v (.int .u64 (pkC x l.length).s)]),some (.row 3 1 (l.map Rf.r5))]:=by
 have hp:=b0e (x:=x) (n:=l.length) hc
 refine CtrM.of (n:=12) (k:=2) G Tryz.func123 rfl (by kernel_rfl) rfl rfl rfl rfl rfl rfl rfl (fun w0 _ hpin=>?_)
 refine b4 (fun K1 hK1=>?_)
 refine a6 ?_
 refine a1 rfl ?_
 refine a3 rfl rfl (a7 rfl rfl) ?_
 refine a4 ?_
 refine hK1 _ ?_
 clear hK1 K1
 refine b4 (fun K2 hK2=>?_)
 refine a6 ?_
 refine a1 rfl ?_
 refine a3 rfl rfl (a8 rfl rfl) ?_
 refine a1 rfl ?_
 refine a3 rfl rfl (a8 rfl rfl) ?_
 refine a1 rfl ?_
 refine a3 rfl rfl (a8 rfl rfl) ?_
 refine a1 rfl ?_
 first | refine a3 rfl rfl (r4 G rfl rfl rfl rfl (List.length_map _)) ?_ | refine a3 rfl rfl (t6 G rfl rfl rfl rfl) ?_
 refine a1 rfl ?_
 refine a0d 2 [0] rfl rfl rfl (O3 x l.length (by omega) hc) rfl (RowsIn.cons rfl RowsIn.nil) rfl rfl rfl ?_
 refine a1 rfl ?_
 refine a3 rfl rfl (k8 G rfl rfl rfl rfl rfl (by omega) (by rw [List.length_map];omega)) ?_
 refine a1 rfl ?_
 refine a3 rfl rfl (u3 G rfl rfl rfl rfl rfl (t8 (by omega) (by omega)) rfl) ?_
 refine a1 rfl ?_
 refine a3 rfl rfl (a7 rfl rfl) ?_
 refine a4 ?_
 refine hK2 _ ?_
 clear hK2 K2
 refine c8 (n7 rfl (g9 ?_) rfl (AftOK.stays rfl ?_ rfl (AftOK.stays rfl ?_ rfl AftOK.nil)))
 all_goals (first | rfl | (simp;done))
end Go.Proofs.YtcnodpipinlpcaaGreat
set_option maxRecDepth 20000
namespace Go.Proofs.YtcnodpipinlpcaaGreat
open Go Go.Rf
theorem n8 {x:Cur} {n:Int} (h:okC n x) (hn:n≤1000000000000) (k:Int):CtrX (α:=Int×Cur) Tryz.prog 51 [.ptr 0 0,.v (.int .i64 k)] [.box [.lst 1 (x.c.map C5),.v (.int .i64 x.a),.v (.int .u64 x.s)]] (fun y=>(0≤y.1∧(y.1 < k∨(k≤1∧y.1=0)))∧okC (n+2) y.2) (fun y=>.one (.v (.int .i64 y.1))) (fun y=>[some (.box [.lst 1 (y.2.c.map C5),.v (.int .i64 y.2.a),.v (.int .u64 y.2.s)])]) :=
 CtrX.ofM (pkV x k,pkC x k) (O3 x k (h.big hn) h.1) ⟨b0e h.1,h.pk _⟩ rfl rfl
theorem a5v {x:Cur} {n:Int} (h:okC n x) (hn:n≤1000000000000) (k:Int):CtrX (α:=Bool×Cur) Tryz.prog 126 [.ptr 0 0,.v (.int .i64 k)] [.box [.lst 1 (x.c.map C5),.v (.int .i64 x.a),.v (.int .u64 x.s)]] (fun y=>(True)∧okC (n+2) y.2) (fun y=>.one (.v (.bool y.1))) (fun y=>[some (.box [.lst 1 (y.2.c.map C5),.v (.int .i64 y.2.a),.v (.int .u64 y.2.s)])]) :=
 CtrX.ofM (pkV x k==0,pkC x k) (a3P x k (h.big hn) h.1) ⟨trivial,h.pk _⟩ rfl rfl
theorem y8 {x:Cur} {n:Int} (h:okC n x) (hn:n≤1000000000000) (l:List Int) (lo hi:Int) (hl:1≤l.length∧l.length≤1048576) (hb:∀ z∈l,lo≤z∧z≤hi):CtrX (α:=Int×Cur) Tryz.prog 123 [.ptr 0 0,.own 1] [.box [.lst 1 (x.c.map C5),.v (.int .i64 x.a),.v (.int .u64 x.s)],.row 3 1 (l.map Rf.r5)] (fun y=>(lo≤y.1∧y.1≤hi)∧okC (n+2) y.2) (fun y=>.one (.v (.int .i64 y.1))) (fun y=>[some (.box [.lst 1 (y.2.c.map C5),.v (.int .i64 y.2.a),.v (.int .u64 y.2.s)]),some (.row 3 1 (l.map Rf.r5))]) :=
 CtrX.ofM (l.getD (pkV x l.length).toNat default,pkC x l.length) (a2q x l hl (h.big hn) h.1) ⟨b1t hb (by have:=b0e (n:=l.length) h.1;omega),h.pk _⟩ rfl rfl
end Go.Proofs.YtcnodpipinlpcaaGreat
namespace Go.Proofs
open Go.Shelf
end Go.Proofs
namespace Go.Proofs.YtcnodpipinlpcaaGreat
open Go Go.Rf
end Go.Proofs.YtcnodpipinlpcaaGreat
set_option maxRecDepth 20000
namespace Go.Proofs.YtcnodpipinlpcaaGreat
open Go Go.Rf
theorem a2r (x:Route) (c:Int) (hc:1≤c∧c≤2):Ctr Tryz.prog 165 [.v (b0m x),.ept [.int .i64 c]] (.one (.v (.bool (!a45 c x)))):=by
 refine Ctr.of (n:=16) G Tryz.func165 rfl b5 rfl rfl rfl (fun w0=>?_)
 refine zgo ?_
 refine vm6 ?_
 refine zcl (a3j _) ?_
 refine zcd (fun h1=>?_) (fun h1=>?_)
 ·refine zf1 ?_
  all_goals (first | rfl | (simp_all [a45];done))
 refine zcl (B8 _ _ _) ?_
 refine zf1 ?_
 all_goals (first | rfl | (simp_all [a45];done))
theorem G7 (xs:List Route) (f:Nat) (c:List Value) (p:Route→Bool) (hl:xs.length≤1048576) (hf:∀ i,i < xs.length→Ctr Tryz.prog f [.v (b0m (xs.getD i default)),.ept c] (.one (.v (.bool (p (xs.getD i default)))))):Ctr Tryz.prog 205 [.lst 2 (xs.map u7),.fnc f [.ept c]] (.one (.v (.int .i64 (S4 (fun i=>p (xs.getD i default)) xs.length)))):=by
 refine Ctr.of (n:=19) G Tryz.func205 rfl b5 rfl rfl rfl (fun w0=>?_)
 refine zgo ?_
 refine m4 [0,1,7] [] (fun (i:Nat)=>[(8,.v (.int .i64 (i:Int)))]) (fun (i:Nat)=>[]) (fun (i:Nat)=>i≤xs.length∧∀ j,j < i→p (xs.getD j default)=false) (fun (i:Nat)=>xs.length - i) 0 rfl rfl ?_ ?_ ?_ ?_
 ·exact ⟨Nat.zero_le _,fun j hj=>by omega⟩
 ·exact ⟨⟨_,rfl,by (first | rfl | (simp;done) | (simp;omega))⟩,rfl,trivial⟩
 ·exact trivial
 intro i hinv
 simp only [List.cons_append,List.nil_append]
 refine zcd (fun h1=>?_) (fun h1=>?_)
 ·refine F6 ?_
  refine a3 rfl rfl (a8E rfl rfl (ArgsOK.of rfl) rfl (hf _ (by omega)) rfl) ?_
  refine zcd (fun h2=>?_) (fun h2=>?_)
  ·refine zf1 ?_
   all_goals exact b4J
  refine zgo ?_
  refine ⟨(i+1),?_,?_,⟨⟨_,rfl,by rfl⟩,rfl,trivial⟩,trivial,rfl,rfl,rfl⟩
  ·exact ⟨by omega,p7 hinv.2 d8⟩
  omega
 refine zf1 ?_
 all_goals exact b4J
theorem F7 (xs:List Route) (f:Nat) (c:List Value) (p:Route→Bool) (hl:xs.length≤1048576) (hf:∀ i,i < xs.length→Ctr Tryz.prog f [.v (b0m (xs.getD i default)),.ept c] (.one (.v (.bool (p (xs.getD i default)))))):Ctr Tryz.prog 164 [.lst 2 (xs.map u7),.fnc f [.ept c]] (.one (.v (.bool (a0F xs.length (fun i=>p (xs.getD i default)))))):=by
 refine Ctr.of (n:=9) G Tryz.func164 rfl b5 rfl rfl rfl (fun w0=>?_)
 refine zcl (G7 xs f c p hl hf) ?_
 refine zf1 ?_
 all_goals (rw [a2J])
theorem a3Q (rs:List Route) (c:Int) (hn:rs.length≤9223372036854775807):Ctr Tryz.prog 113 [.lst 2 (rs.map u7),.v (.int .i64 c)] (.one (.v (.bool (okRts rs c)))):=by
 refine Ctr.of (n:=18) G Tryz.func113 rfl b5 rfl rfl rfl (fun w0=>?_)
 refine zgo ?_
 refine vm6 ?_
 refine zcl (B8 _ _ _) ?_
 refine zcd (fun h1=>?_) (fun h1=>?_)
 ·refine zcd (fun h2=>?_) (fun h2=>?_)
  ·refine zgo ?_
   refine c6 rfl rfl rfl (a3 rfl rfl (a97 rfl rfl) ?_)
   refine zcl (F7 rs 165 [.int .i64 c] (fun x=>!a45 c x) (by omega) (fun k hk=>a2r _ _ (p6.mp d8))) ?_
   refine zf1 ?_
   all_goals exact b3V
  refine zf1 ?_
  all_goals exact b3V
 refine zf1 ?_
 all_goals exact b3V
theorem a0o (rs:List Route) (c:Int) (hn:rs.length≤1048576) (hc:0≤c∧c≤1048576):Ctr Tryz.prog 130 [.lst 2 (rs.map u7),.v (.int .i64 c)] (.one (.v (.bool (okRts rs c)))):=by
 refine Ctr.of (n:=37) G Tryz.func130 rfl b5 rfl rfl rfl (fun w0=>?_)
 refine zgo ?_
 refine m4 [0,1] [] (fun (i:Nat)=>[(5,.v (.int .i64 (i:Int)))]) (fun (i:Nat)=>[]) (fun (i:Nat)=>i≤rs.length∧∀ j,j < i→a45 c (rs.getD j default)=true) (fun (i:Nat)=>rs.length - i) 0 rfl rfl ?_ ?_ ?_ ?_
 ·exact ⟨Nat.zero_le _,fun j hj=>by omega⟩
 ·exact ⟨⟨_,rfl,by (first | rfl | (simp;done) | (simp;omega))⟩,rfl,trivial⟩
 ·exact trivial
 intro i hinv
 simp only [List.cons_append,List.nil_append]
 refine zcd (fun h1=>?_) (fun h1=>?_)
 ·refine zcl (Q4 _) ?_
  refine zcd (fun h2=>?_) (fun h2=>?_)
  ·refine zwt ?_
   refine zf1 ?_
   all_goals exact b18
  refine a7O ?_
  refine zcd (fun h3=>?_) (fun h3=>?_)
  ·refine zf1 ?_
   all_goals exact b18
  refine zgo ?_
  refine ⟨(i+1),?_,?_,⟨⟨_,rfl,by rfl⟩,rfl,trivial⟩,trivial,rfl,rfl,rfl⟩
  ·exact ⟨by omega,p7 hinv.2 (by simp_all [a45])⟩
  omega
 refine a7O ?_
 refine zcd (fun h4=>?_) (fun h4=>?_)
 ·refine zf1 ?_
  all_goals exact b18
 refine zf1 ?_
 all_goals exact b18
end Go.Proofs.YtcnodpipinlpcaaGreat
set_option maxRecDepth 20000
namespace Go.Proofs.YtcnodpipinlpcaaGreat
open Go Go.Rf
theorem a4k (rs:List Route) (l:List Int) (k:Nat) (h8:rs.length=8) (hn:l.length≤9223372036854775807):Ctr Tryz.prog 131 [.lst 2 (rs.map u7),.lst 1 (l.map Rf.r5),.v (.int .i64 (k:Int))] (.one (.v (.bool (stG rs l k)))):=by
 refine Ctr.of (n:=57) G Tryz.func131 rfl (by kernel_rfl) rfl rfl rfl (fun w0=>?_)
 refine b4 (fun K1 hK1=>?_)
 refine a6 ?_
 refine a1 rfl ?_
 refine a3 rfl rfl (a7 rfl rfl) ?_
 refine a4 ?_
 refine hK1 _ ?_
 clear hK1 K1
 refine b4 (fun K2 hK2=>?_)
 refine b4 (fun K3 hK3=>?_)
 refine a6 ?_
 refine a1 rfl ?_
 refine a3 rfl rfl (a7 rfl rfl) ?_
 refine a4 ?_
 refine hK3 _ ?_
 clear hK3 K3
 refine l8 ?_
 refine m4 [0,1,2] [] (fun (i:Nat)=>[(7,.v (.int .i64 (i:Int)))]) (fun (i:Nat)=>[]) (fun (i:Nat)=>i≤l.length∧∀ j,j < i→elS rs l k j=true) (fun (i:Nat)=>l.length - i) 0 rfl rfl ?_ ?_ ?_ ?_
 ·exact ⟨Nat.zero_le _,fun j hj=>by omega⟩
 ·exact ⟨⟨_,rfl,by (first | rfl | (simp;done) | (simp;omega))⟩,rfl,trivial⟩
 ·exact trivial
 ·intro i hinv
  have ht:((i:Int) - 1).toNat=i - 1:=(by omega)
  have hprev:0 < i→0≤l.getD ((i:Int) - 1).toNat default∧l.getD ((i:Int) - 1).toNat default≤7:=fun h0=>(by rw [ht];exact (I1.mp (hinv.2 (i - 1) (by omega))).1)
  simp only [List.cons_append,List.nil_append]
  refine b4 (fun K4 hK4=>?_)
  refine b4 (fun K5 hK5=>?_)
  refine a6 ?_
  refine a1 rfl ?_
  refine a3 rfl rfl (a8 rfl rfl) ?_
  refine a1 rfl ?_
  refine a3 rfl rfl (a8 rfl rfl) ?_
  refine a1 rfl ?_
  first | refine a3 rfl rfl (r4 G rfl rfl rfl rfl (List.length_map _)) ?_ | refine a3 rfl rfl (t6 G rfl rfl rfl rfl) ?_
  refine a1 rfl ?_
  refine a3 rfl rfl (f9 rfl rfl rfl rfl) ?_
  refine a4 ?_
  refine hK5 _ ?_
  clear hK5 K5
  refine d1 rfl (fun h1=>?_) (fun h1=>?_)
  ·try rw [h1]
   try simp only [rfb] at h1
   refine e9 ?_
   refine hK4 _ ?_
   clear hK4 K4
   refine b4 (fun K6 hK6=>?_)
   refine l8 ?_
   refine b4 (fun K7 hK7=>?_)
   refine b4 (fun K8 hK8=>?_)
   refine a6 ?_
   refine a1 rfl ?_
   refine a3 rfl rfl (a8 rfl rfl) ?_
   refine a1 rfl ?_
   refine a3 rfl rfl (a8 rfl rfl) ?_
   refine a1 rfl ?_
   first | refine a3 rfl rfl (f6 G rfl rfl rfl rfl (by omega) (C4 (by omega))) ?_ | refine a3 rfl rfl (f6 G rfl rfl rfl rfl (by omega) (t8 (by omega) (by omega))) ?_
   refine a1 rfl ?_
   refine a3 rfl rfl (p9 G rfl rfl rfl rfl rfl) ?_
   refine a1 rfl ?_
   refine a3 rfl rfl (k5 rfl (ArgsOK.of rfl) (F9 _) rfl) ?_
   refine a1 rfl (a3 rfl rfl (C2 rfl rfl) (a1 rfl (a3 rfl rfl (a8 rfl rfl) (o8 rfl rfl rfl (fun h2=>?_) (fun h2=>?_)))))
   ·try rw [h2]
    try simp only [rfb] at h2
    have hq:=I2 h2
    refine b6 rfl rfl rfl rfl rfl rfl ?_
    refine b6 rfl rfl rfl rfl rfl rfl ?_
    refine b6 rfl rfl rfl rfl rfl rfl ?_
    refine b6 rfl rfl rfl rfl rfl rfl ?_
    refine b6 rfl rfl rfl rfl rfl rfl ?_
    refine b6 rfl rfl rfl rfl rfl rfl ?_
    refine b6 rfl rfl rfl rfl rfl rfl ?_
    refine b6 rfl rfl rfl rfl rfl rfl ?_
    refine b6 rfl rfl rfl rfl rfl rfl ?_
    refine b6 rfl rfl rfl rfl rfl rfl ?_
    refine a1 rfl ?_
    refine a3 rfl rfl (i5 rfl rfl rfl) ?_
    refine a4 ?_
    refine hK8 _ ?_
    clear hK8 K8
    refine r7 rfl ?_
    refine b4 (fun K9 hK9=>?_)
    refine a6 ?_
    refine a1 rfl ?_
    refine a3 rfl rfl (a7 rfl rfl) ?_
    refine a4 ?_
    refine hK9 _ ?_
    clear hK9 K9
    refine c8 ?_
    refine j4 rfl ?_
    refine g9 ?_
    all_goals clear hK7 K7 hK6 K6 hK2 K2
    all_goals (first | (have e:I0 l.length (elS rs l k)=false:=L9 (i:=i) (S0 (by simp only [tgI,prI];rw [← ht];omega)) (by omega);simp only [stG,e,Bool.false_and];done) | (have e:I0 l.length (elS rs l k)=true:=P6 hinv.2 (by omega);simp only [stG,e,Bool.true_and,le4];done))
   ·try rw [h2]
    try simp only [rfb] at h2
    have hq:=p6.mp h2
    refine c6 rfl rfl rfl ?_
    refine a3 rfl rfl (a8 rfl rfl) ?_
    refine c6 rfl rfl rfl ?_
    refine a3 rfl rfl (a8 rfl rfl) ?_
    refine c6 rfl rfl rfl ?_
    refine a3 rfl rfl (a8 rfl rfl) ?_
    refine c6 rfl rfl rfl ?_
    first | refine a3 rfl rfl (f6 G rfl rfl rfl rfl (by omega) (C4 (by omega))) ?_ | refine a3 rfl rfl (f6 G rfl rfl rfl rfl (by omega) (t8 (by omega) (by omega))) ?_
    refine c6 rfl rfl rfl ?_
    refine a3 rfl rfl (p9 G rfl rfl rfl rfl rfl) ?_
    refine c6 rfl rfl rfl ?_
    first | refine a3 rfl rfl (f6 G rfl rfl rfl rfl (by omega) (C4 (by omega))) ?_ | refine a3 rfl rfl (f6 G rfl rfl rfl rfl (by omega) (t8 (by omega) (by omega))) ?_
    refine c6 rfl rfl rfl ?_
    refine a3 rfl rfl (B5 G rfl rfl rfl rfl) ?_
    refine c6 rfl rfl rfl ?_
    refine a3 rfl rfl (p9 G rfl rfl rfl rfl rfl) ?_
    refine c6 rfl rfl rfl ?_
    refine a3 rfl rfl (a8 rfl rfl) ?_
    refine c6 rfl rfl rfl ?_
    refine a3 rfl rfl (f9 rfl rfl rfl rfl) ?_
    refine a1 rfl ?_
    refine a3 rfl rfl (i7 rfl rfl rfl) ?_
    refine a4 ?_
    refine hK8 _ ?_
    clear hK8 K8
    refine d1 rfl (fun h3=>?_) (fun h3=>?_)
    ·try rw [h3]
     try simp only [rfb] at h3
     refine b4 (fun K10 hK10=>?_)
     refine a6 ?_
     refine a1 rfl ?_
     refine a3 rfl rfl (a7 rfl rfl) ?_
     refine a4 ?_
     refine hK10 _ ?_
     clear hK10 K10
     refine c8 ?_
     refine j4 rfl ?_
     refine g9 ?_
     all_goals clear hK7 K7 hK6 K6 hK2 K2
     all_goals (first | (have e:I0 l.length (elS rs l k)=false:=L9 (i:=i) (S0 (by simp only [tgI,prI];rw [← ht];omega)) (by omega);simp only [stG,e,Bool.false_and];done) | (have e:I0 l.length (elS rs l k)=true:=P6 hinv.2 (by omega);simp only [stG,e,Bool.true_and,le4];done))
    ·try rw [h3]
     try simp only [rfb] at h3
     refine e9 ?_
     refine hK7 _ ?_
     clear hK7 K7
     refine b4 (fun K11 hK11=>?_)
     refine L1 m5 (by kernel_rfl) (d6 rfl (j5 rfl rfl (a8 rfl rfl) (d6 rfl (j5 rfl rfl (f9 rfl rfl rfl rfl) (d6 rfl (j5 rfl rfl (a8 rfl rfl) (L0 rfl rfl rfl (fun h4=>?_) (fun h4=>?_))))))))
     ·try rw [h4]
      try simp only [rfb] at h4
      refine p8 rfl rfl rfl ?_
      refine j5 rfl rfl (a8 rfl rfl) ?_
      refine p8 rfl rfl rfl ?_
      refine j5 rfl rfl (a8 rfl rfl) ?_
      refine p8 rfl rfl rfl ?_
      refine j5 rfl rfl (a8 rfl rfl) ?_
      refine p8 rfl rfl rfl ?_
      first | refine j5 rfl rfl (i8 rfl rfl rfl rfl (by omega) (by omega)) ?_ | refine j5 rfl rfl (k4 rfl rfl rfl rfl) ?_
      refine p8 rfl rfl rfl ?_
      first | refine j5 rfl rfl (f6 G rfl rfl rfl rfl (by omega) (C4 (by omega))) ?_ | refine j5 rfl rfl (f6 G rfl rfl rfl rfl (by omega) (t8 (by omega) (by omega))) ?_
      refine p8 rfl rfl rfl ?_
      refine j5 rfl rfl (p9 G rfl rfl rfl rfl rfl) ?_
      refine p8 rfl rfl rfl ?_
      first | refine j5 rfl rfl (f6 G rfl rfl rfl rfl (by omega) (C4 (by omega))) ?_ | refine j5 rfl rfl (f6 G rfl rfl rfl rfl (by omega) (t8 (by omega) (by omega))) ?_
      refine p8 rfl rfl rfl ?_
      refine j5 rfl rfl (B5 G rfl rfl rfl rfl) ?_
      refine p8 rfl rfl rfl ?_
      refine j5 rfl rfl (p9 G rfl rfl rfl rfl rfl) ?_
      refine p8 rfl rfl rfl ?_
      refine j5 rfl rfl (a8 rfl rfl) ?_
      refine p8 rfl rfl rfl ?_
      refine j5 rfl rfl (a8 rfl rfl) ?_
      refine p8 rfl rfl rfl ?_
      refine j5 rfl rfl (a8 rfl rfl) ?_
      refine p8 rfl rfl rfl ?_
      first | refine j5 rfl rfl (f6 G rfl rfl rfl rfl (by omega) (C4 (by omega))) ?_ | refine j5 rfl rfl (f6 G rfl rfl rfl rfl (by omega) (t8 (by omega) (by omega))) ?_
      refine p8 rfl rfl rfl ?_
      refine j5 rfl rfl (p9 G rfl rfl rfl rfl rfl) ?_
      refine p8 rfl rfl rfl ?_
      first | refine j5 rfl rfl (f6 G rfl rfl rfl rfl (by omega) (C4 (by omega))) ?_ | refine j5 rfl rfl (f6 G rfl rfl rfl rfl (by omega) (t8 (by omega) (by omega))) ?_
      refine p8 rfl rfl rfl ?_
      refine j5 rfl rfl (B5 G rfl rfl rfl rfl) ?_
      refine p8 rfl rfl rfl ?_
      refine j5 rfl rfl (p9 G rfl rfl rfl rfl rfl) ?_
      refine p8 rfl rfl rfl ?_
      refine j5 rfl rfl (f9 rfl rfl rfl rfl) ?_
      refine d6 rfl ?_
      refine j5 rfl rfl (i5 rfl rfl rfl) ?_
      refine H1 ?_
      refine hK11 _ ?_
      clear hK11 K11
      refine d1 rfl (fun h5=>?_) (fun h5=>?_)
      ·try rw [h5]
       try simp only [rfb] at h5
       refine b4 (fun K12 hK12=>?_)
       refine a6 ?_
       refine a1 rfl ?_
       refine a3 rfl rfl (a7 rfl rfl) ?_
       refine a4 ?_
       refine hK12 _ ?_
       clear hK12 K12
       refine c8 ?_
       refine j4 rfl ?_
       refine g9 ?_
       all_goals clear hK6 K6 hK2 K2
       all_goals (first | (have e:I0 l.length (elS rs l k)=false:=L9 (i:=i) (S0 (by simp only [tgI,prI];rw [← ht];omega)) (by omega);simp only [stG,e,Bool.false_and];done) | (have e:I0 l.length (elS rs l k)=true:=P6 hinv.2 (by omega);simp only [stG,e,Bool.true_and,le4];done))
      ·try rw [h5]
       try simp only [rfb] at h5
       refine e9 ?_
       refine hK6 _ ?_
       clear hK6 K6
       refine a6 ?_
       refine a1 rfl ?_
       refine a3 rfl rfl (a8 rfl rfl) ?_
       refine a1 rfl ?_
       first | refine a3 rfl rfl (i8 rfl rfl rfl rfl (by omega) (by omega)) ?_ | refine a3 rfl rfl (k4 rfl rfl rfl rfl) ?_
       refine a1 rfl ?_
       refine a3 rfl rfl (a7 rfl rfl) ?_
       refine a4 ⟨(i+1),?_,?_,⟨⟨_,rfl,by rfl⟩,rfl,trivial⟩,trivial,rfl,rfl,rfl⟩
       ·exact ⟨by omega,p7 hinv.2 (I1.mpr ⟨by omega,by first | assumption | (simp only [tgI];omega),by first | exact .inl (by omega) | exact .inr (by simp only [prI];rw [← ht];omega)⟩)⟩
       ·omega
     ·try rw [h4]
      try simp only [rfb] at h4
      refine l5 rfl rfl rfl rfl rfl rfl ?_
      refine l5 rfl rfl rfl rfl rfl rfl ?_
      refine l5 rfl rfl rfl rfl rfl rfl ?_
      refine l5 rfl rfl rfl rfl rfl rfl ?_
      refine l5 rfl rfl rfl rfl rfl rfl ?_
      refine l5 rfl rfl rfl rfl rfl rfl ?_
      refine l5 rfl rfl rfl rfl rfl rfl ?_
      refine l5 rfl rfl rfl rfl rfl rfl ?_
      refine l5 rfl rfl rfl rfl rfl rfl ?_
      refine l5 rfl rfl rfl rfl rfl rfl ?_
      refine l5 rfl rfl rfl rfl rfl rfl ?_
      refine l5 rfl rfl rfl rfl rfl rfl ?_
      refine l5 rfl rfl rfl rfl rfl rfl ?_
      refine l5 rfl rfl rfl rfl rfl rfl ?_
      refine l5 rfl rfl rfl rfl rfl rfl ?_
      refine l5 rfl rfl rfl rfl rfl rfl ?_
      refine l5 rfl rfl rfl rfl rfl rfl ?_
      refine l5 rfl rfl rfl rfl rfl rfl ?_
      refine d6 rfl ?_
      refine j5 rfl rfl (i7 rfl rfl rfl) ?_
      refine H1 ?_
      refine hK11 _ ?_
      clear hK11 K11
      refine B1 rfl ?_
      refine e9 ?_
      refine hK6 _ ?_
      clear hK6 K6
      refine a6 ?_
      refine a1 rfl ?_
      refine a3 rfl rfl (a8 rfl rfl) ?_
      refine a1 rfl ?_
      first | refine a3 rfl rfl (i8 rfl rfl rfl rfl (by omega) (by omega)) ?_ | refine a3 rfl rfl (k4 rfl rfl rfl rfl) ?_
      refine a1 rfl ?_
      refine a3 rfl rfl (a7 rfl rfl) ?_
      refine a4 ⟨(i+1),?_,?_,⟨⟨_,rfl,by rfl⟩,rfl,trivial⟩,trivial,rfl,rfl,rfl⟩
      ·exact ⟨by omega,p7 hinv.2 (I1.mpr ⟨by omega,by first | assumption | (simp only [tgI];omega),by first | exact .inl (by omega) | exact .inr (by simp only [prI];rw [← ht];omega)⟩)⟩
      ·omega
  ·try rw [h1]
   try simp only [rfb] at h1
   refine B0 ?_
   refine hK2 _ ?_
   clear hK4 K4 hK2 K2
   refine b4 (fun K13 hK13=>?_)
   refine a6 ?_
   refine a1 rfl ?_
   refine a3 rfl rfl (a8 rfl rfl) ?_
   refine a1 rfl ?_
   first | refine a3 rfl rfl (r4 G rfl rfl rfl rfl (List.length_map _)) ?_ | refine a3 rfl rfl (t6 G rfl rfl rfl rfl) ?_
   refine a1 rfl ?_
   refine a3 rfl rfl (f9 rfl rfl rfl rfl) ?_
   refine a1 rfl ?_
   refine a3 rfl rfl (a7 rfl rfl) ?_
   refine a4 ?_
   refine hK13 _ ?_
   clear hK13 K13
   refine c8 ?_
   refine j4 rfl ?_
   refine g9 ?_
   all_goals (first | (have e:I0 l.length (elS rs l k)=false:=L9 (i:=i) (S0 (by simp only [tgI,prI];rw [← ht];omega)) (by omega);simp only [stG,e,Bool.false_and];done) | (have e:I0 l.length (elS rs l k)=true:=P6 hinv.2 (by omega);simp only [stG,e,Bool.true_and,le4];done))
theorem V8 (rs:List Route) (a:Abs) (hs:SmallA a) (hn:rs.length≤1048576):Ctr Tryz.prog 58 [.lst 2 (rs.map u7),.agg [.lst 1 (a.en.map l0),.lst 1 (a.ra.map l0),.lst 1 (a.po.map l0),.lst 1 (a.ma.map Rf.r5),.nst none 1 (a.st.map s1)]] (.one (.v (.bool (v8 rs a)))):=by
 refine Ctr.of (n:=85) G Tryz.func58 rfl (by kernel_rfl) rfl rfl rfl (fun w0=>?_)
 refine r8 1 rfl (fun _=>rfl) (fun u1=>?_)
 refine b4 (fun K1 hK1=>?_)
 refine a6 ?_
 refine a1 rfl ?_
 refine y4 1 rfl rfl rfl rfl rfl rfl rfl ?_
 refine a1 rfl ?_
 refine a3 rfl rfl (a7 rfl rfl) ?_
 refine a4 ?_
 refine hK1 _ ?_
 clear hK1 K1
 refine b4 (fun K2 hK2=>?_)
 refine a6 ?_
 refine a1 rfl ?_
 refine a3 rfl rfl (b7 G rfl rfl rfl rfl) ?_
 refine a1 rfl ?_
 refine a3 rfl rfl (E0 (c4 G rfl rfl rfl rfl rfl rfl rfl)) ?_
 refine a1 rfl ?_
 first | refine a3 rfl rfl (r4 G rfl rfl rfl rfl (List.length_map _)) ?_ | refine a3 rfl rfl (t6 G rfl rfl rfl rfl) ?_
 refine a1 rfl ?_
 refine a3 rfl rfl (a7 rfl rfl) ?_
 refine a4 ?_
 refine hK2 _ ?_
 clear hK2 K2
 refine b4 (fun K3 hK3=>?_)
 refine b4 (fun K4 hK4=>?_)
 refine a6 ?_
 refine a1 rfl ?_
 refine a3 rfl rfl (a8 rfl rfl) ?_
 refine a1 rfl ?_
 refine a3 rfl rfl (a8 rfl rfl) ?_
 refine a1 rfl ?_
 refine a3 rfl rfl (k5 rfl (ArgsOK.of rfl) (a0o rs _ hn (by have:=hs.ma;omega)) rfl) ?_
 refine a1 rfl (a3 rfl rfl (C2 rfl rfl) (a1 rfl (a3 rfl rfl (a8 rfl rfl) (o8 rfl rfl rfl (fun h1=>?_) (fun h1=>?_)))))
 ·try rw [h1]
  try simp only [rfb] at h1
  refine b6 rfl rfl rfl rfl rfl rfl ?_
  refine b6 rfl rfl rfl rfl rfl rfl ?_
  refine b6 rfl rfl rfl rfl rfl rfl ?_
  refine b6 rfl rfl rfl rfl rfl rfl ?_
  refine b6 rfl rfl rfl rfl rfl rfl ?_
  refine a1 rfl ?_
  refine a3 rfl rfl (i5 rfl rfl rfl) ?_
  refine a1 rfl ?_
  refine a3 rfl rfl (a8 rfl rfl) ?_
  refine b6 rfl rfl rfl rfl rfl rfl ?_
  refine b6 rfl rfl rfl rfl rfl rfl ?_
  refine b6 rfl rfl rfl rfl rfl rfl ?_
  refine b6 rfl rfl rfl rfl rfl rfl ?_
  refine a1 rfl ?_
  refine a3 rfl rfl (i5 rfl rfl rfl) ?_
  refine a1 rfl ?_
  refine a3 rfl rfl (a8 rfl rfl) ?_
  refine b6 rfl rfl rfl rfl rfl rfl ?_
  refine b6 rfl rfl rfl rfl rfl rfl ?_
  refine b6 rfl rfl rfl rfl rfl rfl ?_
  refine b6 rfl rfl rfl rfl rfl rfl ?_
  refine a1 rfl ?_
  refine a3 rfl rfl (i5 rfl rfl rfl) ?_
  refine a1 rfl ?_
  refine a3 rfl rfl (a8 rfl rfl) ?_
  refine b6 rfl rfl rfl rfl rfl rfl ?_
  refine b6 rfl rfl rfl rfl rfl rfl ?_
  refine b6 rfl rfl rfl rfl rfl rfl ?_
  refine b6 rfl rfl rfl rfl rfl rfl ?_
  refine a1 rfl ?_
  refine a3 rfl rfl (i5 rfl rfl rfl) ?_
  refine a4 ?_
  refine hK4 _ ?_
  clear hK4 K4
  refine r7 rfl ?_
  refine b4 (fun K5 hK5=>?_)
  refine a6 ?_
  refine a1 rfl ?_
  refine a3 rfl rfl (a7 rfl rfl) ?_
  refine a4 ?_
  refine hK5 _ ?_
  clear hK5 K5
  refine c8 ?_
  refine j4 rfl ?_
  refine g9 ?_
  all_goals clear hK3 K3
  all_goals (first | (exact congrArg Value.bool (A6 (by assumption)).symm) | (rw [A7 (by omega)];done) | (exact congrArg Value.bool (j6 (k:=k) (A4 (by assumption)) (by omega)).symm) | (exact congrArg Value.bool (j6 (k:=k) (S6 (by assumption)) (by omega)).symm) | (exact congrArg Value.bool (j6 (k:=k) (A5 (i:=i) (J3.mpr (by assumption)) (by omega)) (by omega)).symm) | (exact congrArg Value.bool (z9 h1 (s9.mpr hl) (fun j hj=>hk.2 j (by omega))).symm))
 ·try rw [h1]
  try simp only [rfb] at h1
  refine c6 rfl rfl rfl ?_
  refine a3 rfl rfl (b7 G rfl rfl rfl rfl) ?_
  refine c6 rfl rfl rfl ?_
  refine a3 rfl rfl (a1e (c4 G rfl rfl rfl rfl rfl rfl rfl)) ?_
  refine c6 rfl rfl rfl ?_
  first | refine a3 rfl rfl (r4 G rfl rfl rfl rfl (List.length_map _)) ?_ | refine a3 rfl rfl (t6 G rfl rfl rfl rfl) ?_
  refine c6 rfl rfl rfl (a3 rfl rfl (a8 rfl rfl) (c6 rfl rfl rfl (a3 rfl rfl (f9 rfl rfl rfl rfl) (a1 rfl (a3 rfl rfl (i7 rfl rfl rfl) (a1 rfl (a3 rfl rfl (a8 rfl rfl) (o8 rfl rfl rfl (fun h2=>?_) (fun h2=>?_)))))))))
  ·try rw [h2]
   try simp only [rfb] at h2
   refine b6 rfl rfl rfl rfl rfl rfl ?_
   refine b6 rfl rfl rfl rfl rfl rfl ?_
   refine b6 rfl rfl rfl rfl rfl rfl ?_
   refine b6 rfl rfl rfl rfl rfl rfl ?_
   refine a1 rfl ?_
   refine a3 rfl rfl (i5 rfl rfl rfl) ?_
   refine a1 rfl ?_
   refine a3 rfl rfl (a8 rfl rfl) ?_
   refine b6 rfl rfl rfl rfl rfl rfl ?_
   refine b6 rfl rfl rfl rfl rfl rfl ?_
   refine b6 rfl rfl rfl rfl rfl rfl ?_
   refine b6 rfl rfl rfl rfl rfl rfl ?_
   refine a1 rfl ?_
   refine a3 rfl rfl (i5 rfl rfl rfl) ?_
   refine a1 rfl ?_
   refine a3 rfl rfl (a8 rfl rfl) ?_
   refine b6 rfl rfl rfl rfl rfl rfl ?_
   refine b6 rfl rfl rfl rfl rfl rfl ?_
   refine b6 rfl rfl rfl rfl rfl rfl ?_
   refine b6 rfl rfl rfl rfl rfl rfl ?_
   refine a1 rfl ?_
   refine a3 rfl rfl (i5 rfl rfl rfl) ?_
   refine a4 ?_
   refine hK4 _ ?_
   clear hK4 K4
   refine r7 rfl ?_
   refine b4 (fun K6 hK6=>?_)
   refine a6 ?_
   refine a1 rfl ?_
   refine a3 rfl rfl (a7 rfl rfl) ?_
   refine a4 ?_
   refine hK6 _ ?_
   clear hK6 K6
   refine c8 ?_
   refine j4 rfl ?_
   refine g9 ?_
   all_goals clear hK3 K3
   all_goals (first | (exact congrArg Value.bool (A6 (by assumption)).symm) | (rw [A7 (by omega)];done) | (exact congrArg Value.bool (j6 (k:=k) (A4 (by assumption)) (by omega)).symm) | (exact congrArg Value.bool (j6 (k:=k) (S6 (by assumption)) (by omega)).symm) | (exact congrArg Value.bool (j6 (k:=k) (A5 (i:=i) (J3.mpr (by assumption)) (by omega)) (by omega)).symm) | (exact congrArg Value.bool (z9 h1 (s9.mpr hl) (fun j hj=>hk.2 j (by omega))).symm))
  ·try rw [h2]
   try simp only [rfb] at h2
   refine c6 rfl rfl rfl ?_
   refine a3 rfl rfl (b7 G rfl rfl rfl rfl) ?_
   refine c6 rfl rfl rfl ?_
   refine a3 rfl rfl (E0 (c4 G rfl rfl rfl rfl rfl rfl rfl)) ?_
   refine c6 rfl rfl rfl ?_
   first | refine a3 rfl rfl (r4 G rfl rfl rfl rfl (List.length_map _)) ?_ | refine a3 rfl rfl (t6 G rfl rfl rfl rfl) ?_
   refine c6 rfl rfl rfl (a3 rfl rfl (f9 rfl rfl rfl rfl) (a1 rfl (a3 rfl rfl (i7 rfl rfl rfl) (a1 rfl (a3 rfl rfl (a8 rfl rfl) (o8 rfl rfl rfl (fun h3=>?_) (fun h3=>?_)))))))
   ·try rw [h3]
    try simp only [rfb] at h3
    refine b6 rfl rfl rfl rfl rfl rfl ?_
    refine b6 rfl rfl rfl rfl rfl rfl ?_
    refine b6 rfl rfl rfl rfl rfl rfl ?_
    refine b6 rfl rfl rfl rfl rfl rfl ?_
    refine a1 rfl ?_
    refine a3 rfl rfl (i5 rfl rfl rfl) ?_
    refine a1 rfl ?_
    refine a3 rfl rfl (a8 rfl rfl) ?_
    refine b6 rfl rfl rfl rfl rfl rfl ?_
    refine b6 rfl rfl rfl rfl rfl rfl ?_
    refine b6 rfl rfl rfl rfl rfl rfl ?_
    refine b6 rfl rfl rfl rfl rfl rfl ?_
    refine a1 rfl ?_
    refine a3 rfl rfl (i5 rfl rfl rfl) ?_
    refine a4 ?_
    refine hK4 _ ?_
    clear hK4 K4
    refine r7 rfl ?_
    refine b4 (fun K7 hK7=>?_)
    refine a6 ?_
    refine a1 rfl ?_
    refine a3 rfl rfl (a7 rfl rfl) ?_
    refine a4 ?_
    refine hK7 _ ?_
    clear hK7 K7
    refine c8 ?_
    refine j4 rfl ?_
    refine g9 ?_
    all_goals clear hK3 K3
    all_goals (first | (exact congrArg Value.bool (A6 (by assumption)).symm) | (rw [A7 (by omega)];done) | (exact congrArg Value.bool (j6 (k:=k) (A4 (by assumption)) (by omega)).symm) | (exact congrArg Value.bool (j6 (k:=k) (S6 (by assumption)) (by omega)).symm) | (exact congrArg Value.bool (j6 (k:=k) (A5 (i:=i) (J3.mpr (by assumption)) (by omega)) (by omega)).symm) | (exact congrArg Value.bool (z9 h1 (s9.mpr hl) (fun j hj=>hk.2 j (by omega))).symm))
   ·try rw [h3]
    try simp only [rfb] at h3
    refine c6 rfl rfl rfl ?_
    refine a3 rfl rfl (b7 G rfl rfl rfl rfl) ?_
    refine c6 rfl rfl rfl ?_
    refine a3 rfl rfl (E0 (c4 G rfl rfl rfl rfl rfl rfl rfl)) ?_
    refine c6 rfl rfl rfl ?_
    first | refine a3 rfl rfl (r4 G rfl rfl rfl rfl (List.length_map _)) ?_ | refine a3 rfl rfl (t6 G rfl rfl rfl rfl) ?_
    refine c6 rfl rfl rfl (a3 rfl rfl (f9 rfl rfl rfl rfl) (a1 rfl (a3 rfl rfl (i7 rfl rfl rfl) (a1 rfl (a3 rfl rfl (a8 rfl rfl) (o8 rfl rfl rfl (fun h4=>?_) (fun h4=>?_)))))))
    ·try rw [h4]
     try simp only [rfb] at h4
     refine b6 rfl rfl rfl rfl rfl rfl ?_
     refine b6 rfl rfl rfl rfl rfl rfl ?_
     refine b6 rfl rfl rfl rfl rfl rfl ?_
     refine b6 rfl rfl rfl rfl rfl rfl ?_
     refine a1 rfl ?_
     refine a3 rfl rfl (i5 rfl rfl rfl) ?_
     refine a4 ?_
     refine hK4 _ ?_
     clear hK4 K4
     refine r7 rfl ?_
     refine b4 (fun K8 hK8=>?_)
     refine a6 ?_
     refine a1 rfl ?_
     refine a3 rfl rfl (a7 rfl rfl) ?_
     refine a4 ?_
     refine hK8 _ ?_
     clear hK8 K8
     refine c8 ?_
     refine j4 rfl ?_
     refine g9 ?_
     all_goals clear hK3 K3
     all_goals (first | (exact congrArg Value.bool (A6 (by assumption)).symm) | (rw [A7 (by omega)];done) | (exact congrArg Value.bool (j6 (k:=k) (A4 (by assumption)) (by omega)).symm) | (exact congrArg Value.bool (j6 (k:=k) (S6 (by assumption)) (by omega)).symm) | (exact congrArg Value.bool (j6 (k:=k) (A5 (i:=i) (J3.mpr (by assumption)) (by omega)) (by omega)).symm) | (exact congrArg Value.bool (z9 h1 (s9.mpr hl) (fun j hj=>hk.2 j (by omega))).symm))
    ·try rw [h4]
     try simp only [rfb] at h4
     refine c6 rfl rfl rfl ?_
     refine a3 rfl rfl (b7 G rfl rfl rfl rfl) ?_
     refine c6 rfl rfl rfl ?_
     refine a3 rfl rfl (E0 (c4 G rfl rfl rfl rfl rfl rfl rfl)) ?_
     refine c6 rfl rfl rfl ?_
     first | refine a3 rfl rfl (r4 G rfl rfl rfl rfl (List.length_map _)) ?_ | refine a3 rfl rfl (t6 G rfl rfl rfl rfl) ?_
     refine c6 rfl rfl rfl ?_
     refine a3 rfl rfl (f9 rfl rfl rfl rfl) ?_
     refine a1 rfl ?_
     refine a3 rfl rfl (i7 rfl rfl rfl) ?_
     refine a4 ?_
     refine hK4 _ ?_
     clear hK4 K4
     refine d1 rfl (fun h5=>?_) (fun h5=>?_)
     ·try rw [h5]
      try simp only [rfb] at h5
      refine b4 (fun K9 hK9=>?_)
      refine a6 ?_
      refine a1 rfl ?_
      refine a3 rfl rfl (a7 rfl rfl) ?_
      refine a4 ?_
      refine hK9 _ ?_
      clear hK9 K9
      refine c8 ?_
      refine j4 rfl ?_
      refine g9 ?_
      all_goals clear hK3 K3
      all_goals (first | (exact congrArg Value.bool (A6 (by assumption)).symm) | (rw [A7 (by omega)];done) | (exact congrArg Value.bool (j6 (k:=k) (A4 (by assumption)) (by omega)).symm) | (exact congrArg Value.bool (j6 (k:=k) (S6 (by assumption)) (by omega)).symm) | (exact congrArg Value.bool (j6 (k:=k) (A5 (i:=i) (J3.mpr (by assumption)) (by omega)) (by omega)).symm) | (exact congrArg Value.bool (z9 h1 (s9.mpr hl) (fun j hj=>hk.2 j (by omega))).symm))
     ·try rw [h5]
      try simp only [rfb] at h5
      have hrt:=z4.mp h1
      have hr8:=hrt.2.1
      have hl:a.st.length=a.ma.length∧a.en.length=8∧a.ra.length=8∧a.po.length=8:=⟨by omega,by omega,by omega,by omega⟩
      refine e9 ?_
      refine hK3 _ ?_
      clear hK3 K3
      refine b4 (fun K10 hK10=>?_)
      refine b4 (fun K11 hK11=>?_)
      refine a6 ?_
      refine a1 rfl ?_
      refine a3 rfl rfl (a7 rfl rfl) ?_
      refine a4 ?_
      refine hK11 _ ?_
      clear hK11 K11
      refine l8 ?_
      refine m4 [0,3,5] [0] (fun (k:Nat)=>[(6,.v (.int .i64 (k:Int)))]) (fun (k:Nat)=>[]) (fun (k:Nat)=>k≤a.ma.length∧∀ j,j < k→V4 rs a j=true) (fun (k:Nat)=>a.ma.length - k) 0 rfl rfl ?_ ?_ ?_ ?_
      ·exact ⟨Nat.zero_le _,fun j hj=>by omega⟩
      ·exact ⟨⟨_,rfl,by (first | rfl | (simp;done) | (simp;omega))⟩,rfl,trivial⟩
      ·exact trivial
      ·intro k hk
       simp only [List.cons_append,List.nil_append]
       refine b4 (fun K12 hK12=>?_)
       refine b4 (fun K13 hK13=>?_)
       refine a6 ?_
       refine a1 rfl ?_
       refine a3 rfl rfl (a8 rfl rfl) ?_
       refine a1 rfl ?_
       refine a3 rfl rfl (a8 rfl rfl) ?_
       refine a1 rfl ?_
       refine a3 rfl rfl (f9 rfl rfl rfl rfl) ?_
       refine a4 ?_
       refine hK13 _ ?_
       clear hK13 K13
       refine d1 rfl (fun h6=>?_) (fun h6=>?_)
       ·try rw [h6]
        try simp only [rfb] at h6
        refine e9 ?_
        refine hK12 _ ?_
        clear hK12 K12
        refine b4 (fun K14 hK14=>?_)
        refine l8 ?_
        refine b4 (fun K15 hK15=>?_)
        refine b4 (fun K16 hK16=>?_)
        refine a6 ?_
        refine a1 rfl ?_
        refine a3 rfl rfl (b7 G rfl rfl rfl rfl) ?_
        refine a1 rfl ?_
        refine a3 rfl rfl (E0 (c4 G rfl rfl rfl rfl rfl rfl rfl)) ?_
        refine a1 rfl ?_
        refine a3 rfl rfl (a8 rfl rfl) ?_
        refine a1 rfl ?_
        first | refine a3 rfl rfl (f6 G rfl rfl rfl rfl (by omega) (C4 (by omega))) ?_ | refine a3 rfl rfl (f6 G rfl rfl rfl rfl (by omega) (t8 (by omega) (by omega))) ?_
        refine a1 rfl ?_
        refine a3 rfl rfl (p9 G rfl rfl rfl rfl rfl) ?_
        refine a1 rfl ?_
        refine a3 rfl rfl (k5 rfl (ArgsOK.of rfl) (E9 _ _ _) rfl) ?_
        refine a1 rfl (a3 rfl rfl (C2 rfl rfl) (a1 rfl (a3 rfl rfl (a8 rfl rfl) (o8 rfl rfl rfl (fun h7=>?_) (fun h7=>?_)))))
        ·try rw [h7]
         try simp only [rfb] at h7
         refine b6 rfl rfl rfl rfl rfl rfl ?_
         refine b6 rfl rfl rfl rfl rfl rfl ?_
         refine b6 rfl rfl rfl rfl rfl rfl ?_
         refine b6 rfl rfl rfl rfl rfl rfl ?_
         refine b6 rfl rfl rfl rfl rfl rfl ?_
         refine b6 rfl rfl rfl rfl rfl rfl ?_
         refine b6 rfl rfl rfl rfl rfl rfl ?_
         refine b6 rfl rfl rfl rfl rfl rfl ?_
         refine b6 rfl rfl rfl rfl rfl rfl ?_
         refine a1 rfl ?_
         refine a3 rfl rfl (i5 rfl rfl rfl) ?_
         refine a4 ?_
         refine hK16 _ ?_
         clear hK16 K16
         refine r7 rfl ?_
         refine b4 (fun K17 hK17=>?_)
         refine a6 ?_
         refine a1 rfl ?_
         refine a3 rfl rfl (a7 rfl rfl) ?_
         refine a4 ?_
         refine hK17 _ ?_
         clear hK17 K17
         refine c8 ?_
         refine j4 rfl ?_
         refine g9 ?_
         all_goals clear hK15 K15 hK14 K14 hK10 K10
         all_goals (first | (exact congrArg Value.bool (A6 (by assumption)).symm) | (rw [A7 (by omega)];done) | (exact congrArg Value.bool (j6 (k:=k) (A4 (by assumption)) (by omega)).symm) | (exact congrArg Value.bool (j6 (k:=k) (S6 (by assumption)) (by omega)).symm) | (exact congrArg Value.bool (j6 (k:=k) (A5 (i:=i) (J3.mpr (by assumption)) (by omega)) (by omega)).symm) | (exact congrArg Value.bool (z9 h1 (s9.mpr hl) (fun j hj=>hk.2 j (by omega))).symm))
        ·try rw [h7]
         try simp only [rfb] at h7
         refine c6 rfl rfl rfl ?_
         refine a3 rfl rfl (a8 rfl rfl) ?_
         refine c6 rfl rfl rfl ?_
         refine a3 rfl rfl (b7 G rfl rfl rfl rfl) ?_
         refine c6 rfl rfl rfl ?_
         refine a3 rfl rfl (a1e (c4 G rfl rfl rfl rfl rfl rfl rfl)) ?_
         refine c6 rfl rfl rfl ?_
         refine a3 rfl rfl (a8 rfl rfl) ?_
         refine c6 rfl rfl rfl ?_
         first | refine a3 rfl rfl (w6 G rfl rfl rfl rfl (by omega) (C4 (by omega)) rfl) ?_ | refine a3 rfl rfl (w6 G rfl rfl rfl rfl (by omega) (t8 (by omega) (by omega)) rfl) ?_
         refine c6 rfl rfl rfl ?_
         refine a3 rfl rfl (z6 G rfl rfl rfl rfl) ?_
         refine c6 rfl rfl rfl ?_
         refine a3 rfl rfl (a8 rfl rfl) ?_
         refine c6 rfl rfl rfl ?_
         refine a3 rfl rfl (k5 rfl (ArgsOK.of rfl) (a4k rs _ k hr8 (Nat.le_trans (hs.all k (by omega)) (by decide))) rfl) ?_
         refine c6 rfl rfl rfl ?_
         refine a3 rfl rfl (C2 rfl rfl) ?_
         refine a1 rfl ?_
         refine a3 rfl rfl (i7 rfl rfl rfl) ?_
         refine a4 ?_
         refine hK16 _ ?_
         clear hK16 K16
         refine d1 rfl (fun h8=>?_) (fun h8=>?_)
         ·try rw [h8]
          try simp only [rfb] at h8
          refine b4 (fun K18 hK18=>?_)
          refine a6 ?_
          refine a1 rfl ?_
          refine a3 rfl rfl (a7 rfl rfl) ?_
          refine a4 ?_
          refine hK18 _ ?_
          clear hK18 K18
          refine c8 ?_
          refine j4 rfl ?_
          refine g9 ?_
          all_goals clear hK15 K15 hK14 K14 hK10 K10
          all_goals (first | (exact congrArg Value.bool (A6 (by assumption)).symm) | (rw [A7 (by omega)];done) | (exact congrArg Value.bool (j6 (k:=k) (A4 (by assumption)) (by omega)).symm) | (exact congrArg Value.bool (j6 (k:=k) (S6 (by assumption)) (by omega)).symm) | (exact congrArg Value.bool (j6 (k:=k) (A5 (i:=i) (J3.mpr (by assumption)) (by omega)) (by omega)).symm) | (exact congrArg Value.bool (z9 h1 (s9.mpr hl) (fun j hj=>hk.2 j (by omega))).symm))
         ·try rw [h8]
          try simp only [rfb] at h8
          refine e9 ?_
          refine hK15 _ ?_
          clear hK15 K15
          refine b4 (fun K19 hK19=>?_)
          refine a6 ?_
          refine a1 rfl ?_
          refine a3 rfl rfl (a7 rfl rfl) ?_
          refine a4 ?_
          refine hK19 _ ?_
          clear hK19 K19
          refine l8 ?_
          refine m4 [0,3,5,6] [0] (fun (i:Nat)=>[(7,.v (.int .i64 (i:Int)))]) (fun (i:Nat)=>[]) (fun (i:Nat)=>i≤(a.st.getD k default).length∧∀ j,j < i→elP a.po (a.st.getD k default) j=true) (fun (i:Nat)=>(a.st.getD k default).length - i) 0 rfl rfl ?_ ?_ ?_ ?_
          ·exact ⟨Nat.zero_le _,fun j hj=>(by omega)⟩
          ·exact ⟨⟨_,rfl,by (first | rfl | (simp;done) | (simp;omega))⟩,rfl,trivial⟩
          ·exact trivial
          ·intro i hinv
           have hlk:=hs.all k (by omega)
           simp only [List.cons_append,List.nil_append]
           refine b4 (fun K20 hK20=>?_)
           refine b4 (fun K21 hK21=>?_)
           refine a6 ?_
           refine a1 rfl ?_
           refine a3 rfl rfl (a8 rfl rfl) ?_
           refine a1 rfl ?_
           refine a3 rfl rfl (b7 G rfl rfl rfl rfl) ?_
           refine a1 rfl ?_
           refine a3 rfl rfl (a1e (c4 G rfl rfl rfl rfl rfl rfl rfl)) ?_
           refine a1 rfl ?_
           refine a3 rfl rfl (a8 rfl rfl) ?_
           refine a1 rfl ?_
           first | refine a3 rfl rfl (w6 G rfl rfl rfl rfl (by omega) (C4 (by omega)) rfl) ?_ | refine a3 rfl rfl (w6 G rfl rfl rfl rfl (by omega) (t8 (by omega) (by omega)) rfl) ?_
           refine a1 rfl ?_
           refine a3 rfl rfl (z6 G rfl rfl rfl rfl) ?_
           refine a1 rfl ?_
           first | refine a3 rfl rfl (r4 G rfl rfl rfl rfl (List.length_map _)) ?_ | refine a3 rfl rfl (t6 G rfl rfl rfl rfl) ?_
           refine a1 rfl ?_
           refine a3 rfl rfl (f9 rfl rfl rfl rfl) ?_
           refine a4 ?_
           refine hK21 _ ?_
           clear hK21 K21
           refine d1 rfl (fun h9=>?_) (fun h9=>?_)
           ·try rw [h9]
            try simp only [rfb] at h9
            have hel:=(I1.mp ((a7h h8).1 i (by omega))).1
            refine e9 ?_
            refine hK20 _ ?_
            clear hK20 K20
            refine b4 (fun K22 hK22=>?_)
            refine l8 ?_
            refine b4 (fun K23 hK23=>?_)
            refine L1 m5 (by kernel_rfl) ?_
            refine d6 rfl ?_
            refine j5 rfl rfl (b7 G rfl rfl rfl rfl) ?_
            refine d6 rfl ?_
            refine j5 rfl rfl (E0 (c4 G rfl rfl rfl rfl rfl rfl rfl)) ?_
            refine d6 rfl ?_
            refine j5 rfl rfl (b7 G rfl rfl rfl rfl) ?_
            refine d6 rfl ?_
            refine j5 rfl rfl (a1e (c4 G rfl rfl rfl rfl rfl rfl rfl)) ?_
            refine d6 rfl ?_
            refine j5 rfl rfl (a8 rfl rfl) ?_
            refine d6 rfl ?_
            first | refine j5 rfl rfl (w6 G rfl rfl rfl rfl (by omega) (C4 (by omega)) rfl) ?_ | refine j5 rfl rfl (w6 G rfl rfl rfl rfl (by omega) (t8 (by omega) (by omega)) rfl) ?_
            refine d6 rfl ?_
            refine j5 rfl rfl (z6 G rfl rfl rfl rfl) ?_
            refine d6 rfl ?_
            refine j5 rfl rfl (a8 rfl rfl) ?_
            refine d6 rfl ?_
            first | refine j5 rfl rfl (f6 G rfl rfl rfl rfl (by omega) (C4 (by omega))) ?_ | refine j5 rfl rfl (f6 G rfl rfl rfl rfl (by omega) (t8 (by omega) (by omega))) ?_
            refine d6 rfl ?_
            refine j5 rfl rfl (p9 G rfl rfl rfl rfl rfl) ?_
            refine d6 rfl ?_
            first | refine j5 rfl rfl (f6 G rfl rfl rfl rfl (by omega) (C4 (by omega))) ?_ | refine j5 rfl rfl (f6 G rfl rfl rfl rfl (by omega) (t8 (by omega) (by omega))) ?_
            refine d6 rfl ?_
            refine j5 rfl rfl (p9 G rfl rfl rfl rfl rfl) ?_
            refine H1 ?_
            refine hK23 _ ?_
            clear hK23 K23
            refine d1 rfl (fun h10=>?_) (fun h10=>?_)
            ·try rw [h10]
             try simp only [rfb] at h10
             refine b4 (fun K24 hK24=>?_)
             refine a6 ?_
             refine a1 rfl ?_
             refine a3 rfl rfl (a7 rfl rfl) ?_
             refine a4 ?_
             refine hK24 _ ?_
             clear hK24 K24
             refine c8 ?_
             refine j4 rfl ?_
             refine g9 ?_
             all_goals clear hK22 K22 hK14 K14 hK10 K10
             all_goals (first | (exact congrArg Value.bool (A6 (by assumption)).symm) | (rw [A7 (by omega)];done) | (exact congrArg Value.bool (j6 (k:=k) (A4 (by assumption)) (by omega)).symm) | (exact congrArg Value.bool (j6 (k:=k) (S6 (by assumption)) (by omega)).symm) | (exact congrArg Value.bool (j6 (k:=k) (A5 (i:=i) (J3.mpr (by assumption)) (by omega)) (by omega)).symm) | (exact congrArg Value.bool (z9 h1 (s9.mpr hl) (fun j hj=>hk.2 j (by omega))).symm))
            ·try rw [h10]
             try simp only [rfb] at h10
             refine e9 ?_
             refine hK22 _ ?_
             clear hK22 K22
             refine a6 ?_
             refine a1 rfl ?_
             refine a3 rfl rfl (a8 rfl rfl) ?_
             refine a1 rfl ?_
             first | refine a3 rfl rfl (i8 rfl rfl rfl rfl (by omega) (by omega)) ?_ | refine a3 rfl rfl (k4 rfl rfl rfl rfl) ?_
             refine a1 rfl ?_
             refine a3 rfl rfl (a7 rfl rfl) ?_
             refine a4 ⟨(i+1),?_,?_,⟨⟨_,rfl,by rfl⟩,rfl,trivial⟩,trivial,rfl,rfl,rfl⟩
             ·exact ⟨by omega,p7 hinv.2 (a7g.mpr (by assumption))⟩
             ·omega
           ·try rw [h9]
            try simp only [rfb] at h9
            refine B0 ?_
            refine hK14 _ ?_
            clear hK20 K20 hK14 K14
            refine a6 ?_
            refine a1 rfl ?_
            refine a3 rfl rfl (a8 rfl rfl) ?_
            refine a1 rfl ?_
            first | refine a3 rfl rfl (i8 rfl rfl rfl rfl (by omega) (by omega)) ?_ | refine a3 rfl rfl (k4 rfl rfl rfl rfl) ?_
            refine a1 rfl ?_
            refine a3 rfl rfl (a7 rfl rfl) ?_
            refine a4 ⟨(k+1),?_,?_,⟨⟨_,rfl,by rfl⟩,rfl,trivial⟩,trivial,rfl,rfl,rfl⟩
            ·exact ⟨by omega,p7 hk.2 (b1y h7 h8 (fun j hj=>hinv.2 j (by omega)))⟩
            ·omega
       ·try rw [h6]
        try simp only [rfb] at h6
        refine B0 ?_
        refine hK10 _ ?_
        clear hK12 K12 hK10 K10
        refine b4 (fun K25 hK25=>?_)
        refine a6 ?_
        refine a1 rfl ?_
        refine a3 rfl rfl (a7 rfl rfl) ?_
        refine a4 ?_
        refine hK25 _ ?_
        clear hK25 K25
        refine c8 ?_
        refine j4 rfl ?_
        refine g9 ?_
        all_goals (first | (exact congrArg Value.bool (A6 (by assumption)).symm) | (rw [A7 (by omega)];done) | (exact congrArg Value.bool (j6 (k:=k) (A4 (by assumption)) (by omega)).symm) | (exact congrArg Value.bool (j6 (k:=k) (S6 (by assumption)) (by omega)).symm) | (exact congrArg Value.bool (j6 (k:=k) (A5 (i:=i) (J3.mpr (by assumption)) (by omega)) (by omega)).symm) | (exact congrArg Value.bool (z9 h1 (s9.mpr hl) (fun j hj=>hk.2 j (by omega))).symm))
theorem O4 (rs:List Route) (a:Abs) (hs:SmallA a) (hn:rs.length≤1048576):Ctr Tryz.prog 45 [.lst 2 (rs.map u7),.agg [.lst 1 (a.en.map l0),.lst 1 (a.ra.map l0),.lst 1 (a.po.map l0),.lst 1 (a.ma.map Rf.r5),.nst none 1 (a.st.map s1)]] (.one (.v (.bool (v8 rs a)))):=by
 refine Ctr.of (n:=111) G Tryz.func45 rfl (by kernel_rfl) rfl rfl rfl (fun w0=>?_)
 refine r8 1 rfl (fun _=>rfl) (fun u1=>?_)
 refine b4 (fun K1 hK1=>?_)
 refine a6 ?_
 refine a1 rfl ?_
 refine y4 1 rfl rfl rfl rfl rfl rfl rfl ?_
 refine a1 rfl ?_
 refine a3 rfl rfl (a7 rfl rfl) ?_
 refine a4 ?_
 refine hK1 _ ?_
 clear hK1 K1
 refine b4 (fun K2 hK2=>?_)
 refine b4 (fun K3 hK3=>?_)
 refine a6 ?_
 refine a1 rfl ?_
 refine a3 rfl rfl (a8 rfl rfl) ?_
 refine a1 rfl ?_
 refine a3 rfl rfl (b7 G rfl rfl rfl rfl) ?_
 refine a1 rfl ?_
 refine a3 rfl rfl (E0 (c4 G rfl rfl rfl rfl rfl rfl rfl)) ?_
 refine a1 rfl ?_
 first | refine a3 rfl rfl (r4 G rfl rfl rfl rfl (List.length_map _)) ?_ | refine a3 rfl rfl (t6 G rfl rfl rfl rfl) ?_
 refine a1 rfl ?_
 refine a3 rfl rfl (k5 rfl (ArgsOK.of rfl) (a3Q _ _ (by first | assumption | omega)) rfl) ?_
 refine a1 rfl (a3 rfl rfl (C2 rfl rfl) (a1 rfl (a3 rfl rfl (a8 rfl rfl) (o8 rfl rfl rfl (fun h1=>?_) (fun h1=>?_)))))
 ·try rw [h1]
  try simp only [rfb] at h1
  refine b6 rfl rfl rfl rfl rfl rfl ?_
  refine b6 rfl rfl rfl rfl rfl rfl ?_
  refine b6 rfl rfl rfl rfl rfl rfl ?_
  refine b6 rfl rfl rfl rfl rfl rfl ?_
  refine b6 rfl rfl rfl rfl rfl rfl ?_
  refine b6 rfl rfl rfl rfl rfl rfl ?_
  refine b6 rfl rfl rfl rfl rfl rfl ?_
  refine a1 rfl ?_
  refine a3 rfl rfl (i5 rfl rfl rfl) ?_
  refine a1 rfl ?_
  refine a3 rfl rfl (a8 rfl rfl) ?_
  refine b6 rfl rfl rfl rfl rfl rfl ?_
  refine b6 rfl rfl rfl rfl rfl rfl ?_
  refine b6 rfl rfl rfl rfl rfl rfl ?_
  refine b6 rfl rfl rfl rfl rfl rfl ?_
  refine a1 rfl ?_
  refine a3 rfl rfl (i5 rfl rfl rfl) ?_
  refine a1 rfl ?_
  refine a3 rfl rfl (a8 rfl rfl) ?_
  refine b6 rfl rfl rfl rfl rfl rfl ?_
  refine b6 rfl rfl rfl rfl rfl rfl ?_
  refine b6 rfl rfl rfl rfl rfl rfl ?_
  refine b6 rfl rfl rfl rfl rfl rfl ?_
  refine a1 rfl ?_
  refine a3 rfl rfl (i5 rfl rfl rfl) ?_
  refine a1 rfl ?_
  refine a3 rfl rfl (a8 rfl rfl) ?_
  refine b6 rfl rfl rfl rfl rfl rfl ?_
  refine b6 rfl rfl rfl rfl rfl rfl ?_
  refine b6 rfl rfl rfl rfl rfl rfl ?_
  refine b6 rfl rfl rfl rfl rfl rfl ?_
  refine a1 rfl ?_
  refine a3 rfl rfl (i5 rfl rfl rfl) ?_
  refine a4 ?_
  refine hK3 _ ?_
  clear hK3 K3
  refine r7 rfl ?_
  refine b4 (fun K4 hK4=>?_)
  refine a6 ?_
  refine a1 rfl ?_
  refine a3 rfl rfl (a7 rfl rfl) ?_
  refine a4 ?_
  refine hK4 _ ?_
  clear hK4 K4
  refine c8 ?_
  refine j4 rfl ?_
  refine g9 ?_
  all_goals clear hK2 K2
  all_goals (first | (exact congrArg Value.bool (A6 (by assumption)).symm) | (rw [A7 (by omega)];done) | (exact congrArg Value.bool (j6 (k:=k) (A4 (by assumption)) (by omega)).symm) | (exact congrArg Value.bool (j6 (k:=k) (G0 (by omega)) (by omega)).symm) | (exact congrArg Value.bool (j6 (k:=k) (A5 (i:=i) (J3.mpr (by assumption)) (by omega)) (by omega)).symm) | (exact congrArg Value.bool (z9 h1 (s9.mpr hl) (fun j hj=>hk.2 j (by omega))).symm) | (exact congrArg Value.bool (j6 (k:=k) (L4 (i:=i) (S0 (by simp only [tgI,prI];rw [← ht];omega)) (by omega)) (by omega)).symm))
 ·try rw [h1]
  try simp only [rfb] at h1
  refine c6 rfl rfl rfl ?_
  refine a3 rfl rfl (b7 G rfl rfl rfl rfl) ?_
  refine c6 rfl rfl rfl ?_
  refine a3 rfl rfl (a1e (c4 G rfl rfl rfl rfl rfl rfl rfl)) ?_
  refine c6 rfl rfl rfl ?_
  first | refine a3 rfl rfl (r4 G rfl rfl rfl rfl (List.length_map _)) ?_ | refine a3 rfl rfl (t6 G rfl rfl rfl rfl) ?_
  refine c6 rfl rfl rfl ?_
  refine a3 rfl rfl (b7 G rfl rfl rfl rfl) ?_
  refine c6 rfl rfl rfl ?_
  refine a3 rfl rfl (E0 (c4 G rfl rfl rfl rfl rfl rfl rfl)) ?_
  refine c6 rfl rfl rfl ?_
  first | refine a3 rfl rfl (r4 G rfl rfl rfl rfl (List.length_map _)) ?_ | refine a3 rfl rfl (t6 G rfl rfl rfl rfl) ?_
  refine c6 rfl rfl rfl (a3 rfl rfl (f9 rfl rfl rfl rfl) (a1 rfl (a3 rfl rfl (i7 rfl rfl rfl) (a1 rfl (a3 rfl rfl (a8 rfl rfl) (o8 rfl rfl rfl (fun h2=>?_) (fun h2=>?_)))))))
  ·try rw [h2]
   try simp only [rfb] at h2
   refine b6 rfl rfl rfl rfl rfl rfl ?_
   refine b6 rfl rfl rfl rfl rfl rfl ?_
   refine b6 rfl rfl rfl rfl rfl rfl ?_
   refine b6 rfl rfl rfl rfl rfl rfl ?_
   refine a1 rfl ?_
   refine a3 rfl rfl (i5 rfl rfl rfl) ?_
   refine a1 rfl ?_
   refine a3 rfl rfl (a8 rfl rfl) ?_
   refine b6 rfl rfl rfl rfl rfl rfl ?_
   refine b6 rfl rfl rfl rfl rfl rfl ?_
   refine b6 rfl rfl rfl rfl rfl rfl ?_
   refine b6 rfl rfl rfl rfl rfl rfl ?_
   refine a1 rfl ?_
   refine a3 rfl rfl (i5 rfl rfl rfl) ?_
   refine a1 rfl ?_
   refine a3 rfl rfl (a8 rfl rfl) ?_
   refine b6 rfl rfl rfl rfl rfl rfl ?_
   refine b6 rfl rfl rfl rfl rfl rfl ?_
   refine b6 rfl rfl rfl rfl rfl rfl ?_
   refine b6 rfl rfl rfl rfl rfl rfl ?_
   refine a1 rfl ?_
   refine a3 rfl rfl (i5 rfl rfl rfl) ?_
   refine a4 ?_
   refine hK3 _ ?_
   clear hK3 K3
   refine r7 rfl ?_
   refine b4 (fun K5 hK5=>?_)
   refine a6 ?_
   refine a1 rfl ?_
   refine a3 rfl rfl (a7 rfl rfl) ?_
   refine a4 ?_
   refine hK5 _ ?_
   clear hK5 K5
   refine c8 ?_
   refine j4 rfl ?_
   refine g9 ?_
   all_goals clear hK2 K2
   all_goals (first | (exact congrArg Value.bool (A6 (by assumption)).symm) | (rw [A7 (by omega)];done) | (exact congrArg Value.bool (j6 (k:=k) (A4 (by assumption)) (by omega)).symm) | (exact congrArg Value.bool (j6 (k:=k) (G0 (by omega)) (by omega)).symm) | (exact congrArg Value.bool (j6 (k:=k) (A5 (i:=i) (J3.mpr (by assumption)) (by omega)) (by omega)).symm) | (exact congrArg Value.bool (z9 h1 (s9.mpr hl) (fun j hj=>hk.2 j (by omega))).symm) | (exact congrArg Value.bool (j6 (k:=k) (L4 (i:=i) (S0 (by simp only [tgI,prI];rw [← ht];omega)) (by omega)) (by omega)).symm))
  ·try rw [h2]
   try simp only [rfb] at h2
   refine c6 rfl rfl rfl ?_
   refine a3 rfl rfl (b7 G rfl rfl rfl rfl) ?_
   refine c6 rfl rfl rfl ?_
   refine a3 rfl rfl (E0 (c4 G rfl rfl rfl rfl rfl rfl rfl)) ?_
   refine c6 rfl rfl rfl ?_
   first | refine a3 rfl rfl (r4 G rfl rfl rfl rfl (List.length_map _)) ?_ | refine a3 rfl rfl (t6 G rfl rfl rfl rfl) ?_
   refine c6 rfl rfl rfl (a3 rfl rfl (f9 rfl rfl rfl rfl) (a1 rfl (a3 rfl rfl (i7 rfl rfl rfl) (a1 rfl (a3 rfl rfl (a8 rfl rfl) (o8 rfl rfl rfl (fun h3=>?_) (fun h3=>?_)))))))
   ·try rw [h3]
    try simp only [rfb] at h3
    refine b6 rfl rfl rfl rfl rfl rfl ?_
    refine b6 rfl rfl rfl rfl rfl rfl ?_
    refine b6 rfl rfl rfl rfl rfl rfl ?_
    refine b6 rfl rfl rfl rfl rfl rfl ?_
    refine a1 rfl ?_
    refine a3 rfl rfl (i5 rfl rfl rfl) ?_
    refine a1 rfl ?_
    refine a3 rfl rfl (a8 rfl rfl) ?_
    refine b6 rfl rfl rfl rfl rfl rfl ?_
    refine b6 rfl rfl rfl rfl rfl rfl ?_
    refine b6 rfl rfl rfl rfl rfl rfl ?_
    refine b6 rfl rfl rfl rfl rfl rfl ?_
    refine a1 rfl ?_
    refine a3 rfl rfl (i5 rfl rfl rfl) ?_
    refine a4 ?_
    refine hK3 _ ?_
    clear hK3 K3
    refine r7 rfl ?_
    refine b4 (fun K6 hK6=>?_)
    refine a6 ?_
    refine a1 rfl ?_
    refine a3 rfl rfl (a7 rfl rfl) ?_
    refine a4 ?_
    refine hK6 _ ?_
    clear hK6 K6
    refine c8 ?_
    refine j4 rfl ?_
    refine g9 ?_
    all_goals clear hK2 K2
    all_goals (first | (exact congrArg Value.bool (A6 (by assumption)).symm) | (rw [A7 (by omega)];done) | (exact congrArg Value.bool (j6 (k:=k) (A4 (by assumption)) (by omega)).symm) | (exact congrArg Value.bool (j6 (k:=k) (G0 (by omega)) (by omega)).symm) | (exact congrArg Value.bool (j6 (k:=k) (A5 (i:=i) (J3.mpr (by assumption)) (by omega)) (by omega)).symm) | (exact congrArg Value.bool (z9 h1 (s9.mpr hl) (fun j hj=>hk.2 j (by omega))).symm) | (exact congrArg Value.bool (j6 (k:=k) (L4 (i:=i) (S0 (by simp only [tgI,prI];rw [← ht];omega)) (by omega)) (by omega)).symm))
   ·try rw [h3]
    try simp only [rfb] at h3
    refine c6 rfl rfl rfl ?_
    refine a3 rfl rfl (b7 G rfl rfl rfl rfl) ?_
    refine c6 rfl rfl rfl ?_
    refine a3 rfl rfl (E0 (c4 G rfl rfl rfl rfl rfl rfl rfl)) ?_
    refine c6 rfl rfl rfl ?_
    first | refine a3 rfl rfl (r4 G rfl rfl rfl rfl (List.length_map _)) ?_ | refine a3 rfl rfl (t6 G rfl rfl rfl rfl) ?_
    refine c6 rfl rfl rfl (a3 rfl rfl (f9 rfl rfl rfl rfl) (a1 rfl (a3 rfl rfl (i7 rfl rfl rfl) (a1 rfl (a3 rfl rfl (a8 rfl rfl) (o8 rfl rfl rfl (fun h4=>?_) (fun h4=>?_)))))))
    ·try rw [h4]
     try simp only [rfb] at h4
     refine b6 rfl rfl rfl rfl rfl rfl ?_
     refine b6 rfl rfl rfl rfl rfl rfl ?_
     refine b6 rfl rfl rfl rfl rfl rfl ?_
     refine b6 rfl rfl rfl rfl rfl rfl ?_
     refine a1 rfl ?_
     refine a3 rfl rfl (i5 rfl rfl rfl) ?_
     refine a4 ?_
     refine hK3 _ ?_
     clear hK3 K3
     refine r7 rfl ?_
     refine b4 (fun K7 hK7=>?_)
     refine a6 ?_
     refine a1 rfl ?_
     refine a3 rfl rfl (a7 rfl rfl) ?_
     refine a4 ?_
     refine hK7 _ ?_
     clear hK7 K7
     refine c8 ?_
     refine j4 rfl ?_
     refine g9 ?_
     all_goals clear hK2 K2
     all_goals (first | (exact congrArg Value.bool (A6 (by assumption)).symm) | (rw [A7 (by omega)];done) | (exact congrArg Value.bool (j6 (k:=k) (A4 (by assumption)) (by omega)).symm) | (exact congrArg Value.bool (j6 (k:=k) (G0 (by omega)) (by omega)).symm) | (exact congrArg Value.bool (j6 (k:=k) (A5 (i:=i) (J3.mpr (by assumption)) (by omega)) (by omega)).symm) | (exact congrArg Value.bool (z9 h1 (s9.mpr hl) (fun j hj=>hk.2 j (by omega))).symm) | (exact congrArg Value.bool (j6 (k:=k) (L4 (i:=i) (S0 (by simp only [tgI,prI];rw [← ht];omega)) (by omega)) (by omega)).symm))
    ·try rw [h4]
     try simp only [rfb] at h4
     refine c6 rfl rfl rfl ?_
     refine a3 rfl rfl (b7 G rfl rfl rfl rfl) ?_
     refine c6 rfl rfl rfl ?_
     refine a3 rfl rfl (E0 (c4 G rfl rfl rfl rfl rfl rfl rfl)) ?_
     refine c6 rfl rfl rfl ?_
     first | refine a3 rfl rfl (r4 G rfl rfl rfl rfl (List.length_map _)) ?_ | refine a3 rfl rfl (t6 G rfl rfl rfl rfl) ?_
     refine c6 rfl rfl rfl ?_
     refine a3 rfl rfl (f9 rfl rfl rfl rfl) ?_
     refine a1 rfl ?_
     refine a3 rfl rfl (i7 rfl rfl rfl) ?_
     refine a4 ?_
     refine hK3 _ ?_
     clear hK3 K3
     refine d1 rfl (fun h5=>?_) (fun h5=>?_)
     ·try rw [h5]
      try simp only [rfb] at h5
      refine b4 (fun K8 hK8=>?_)
      refine a6 ?_
      refine a1 rfl ?_
      refine a3 rfl rfl (a7 rfl rfl) ?_
      refine a4 ?_
      refine hK8 _ ?_
      clear hK8 K8
      refine c8 ?_
      refine j4 rfl ?_
      refine g9 ?_
      all_goals clear hK2 K2
      all_goals (first | (exact congrArg Value.bool (A6 (by assumption)).symm) | (rw [A7 (by omega)];done) | (exact congrArg Value.bool (j6 (k:=k) (A4 (by assumption)) (by omega)).symm) | (exact congrArg Value.bool (j6 (k:=k) (G0 (by omega)) (by omega)).symm) | (exact congrArg Value.bool (j6 (k:=k) (A5 (i:=i) (J3.mpr (by assumption)) (by omega)) (by omega)).symm) | (exact congrArg Value.bool (z9 h1 (s9.mpr hl) (fun j hj=>hk.2 j (by omega))).symm) | (exact congrArg Value.bool (j6 (k:=k) (L4 (i:=i) (S0 (by simp only [tgI,prI];rw [← ht];omega)) (by omega)) (by omega)).symm))
     ·try rw [h5]
      try simp only [rfb] at h5
      have hrt:=z4.mp h1
      have hr8:=hrt.2.1
      have hl:a.st.length=a.ma.length∧a.en.length=8∧a.ra.length=8∧a.po.length=8:=⟨by omega,by omega,by omega,by omega⟩
      refine e9 ?_
      refine hK2 _ ?_
      clear hK2 K2
      refine b4 (fun K9 hK9=>?_)
      refine b4 (fun K10 hK10=>?_)
      refine a6 ?_
      refine a1 rfl ?_
      refine a3 rfl rfl (b7 G rfl rfl rfl rfl) ?_
      refine a1 rfl ?_
      refine a3 rfl rfl (a1e (c4 G rfl rfl rfl rfl rfl rfl rfl)) ?_
      refine a1 rfl ?_
      first | refine a3 rfl rfl (r4 G rfl rfl rfl rfl (List.length_map _)) ?_ | refine a3 rfl rfl (t6 G rfl rfl rfl rfl) ?_
      refine a1 rfl ?_
      refine a3 rfl rfl (a8 rfl rfl) ?_
      refine a4 ?_
      refine hK10 _ ?_
      clear hK10 K10
      refine l8 ?_
      refine m4 [0,3,43,44] [0] (fun (k:Nat)=>[(45,.v (.int .i64 (k:Int)))]) (fun (k:Nat)=>[]) (fun (k:Nat)=>k≤a.st.length∧∀ j,j < k→V4 rs a j=true) (fun (k:Nat)=>a.st.length - k) 0 rfl rfl ?_ ?_ ?_ ?_
      ·exact ⟨Nat.zero_le _,fun j hj=>by omega⟩
      ·exact ⟨⟨_,rfl,by (first | rfl | (simp;done) | (simp;omega))⟩,rfl,trivial⟩
      ·exact trivial
      ·intro k hk
       simp only [List.cons_append,List.nil_append]
       refine b4 (fun K11 hK11=>?_)
       refine a6 ?_
       refine a1 rfl ?_
       refine a3 rfl rfl (f9 rfl rfl rfl rfl) ?_
       refine a4 ?_
       refine hK11 _ ?_
       clear hK11 K11
       refine b4 (fun K12 hK12=>?_)
       refine d1 rfl (fun h6=>?_) (fun h6=>?_)
       ·try rw [h6]
        try simp only [rfb] at h6
        refine e9 ?_
        refine hK12 _ ?_
        clear hK12 K12
        refine b4 (fun K13 hK13=>?_)
        refine l8 ?_
        refine b4 (fun K14 hK14=>?_)
        refine a6 ?_
        refine a1 rfl ?_
        refine a3 rfl rfl (a8 rfl rfl) ?_
        refine a1 rfl ?_
        first | refine a3 rfl rfl (w6 G rfl rfl rfl rfl (by omega) (C4 (by omega)) rfl) ?_ | refine a3 rfl rfl (w6 G rfl rfl rfl rfl (by omega) (t8 (by omega) (by omega)) rfl) ?_
        refine a1 rfl ?_
        refine a3 rfl rfl (z6 G rfl rfl rfl rfl) ?_
        refine a1 rfl ?_
        refine a3 rfl rfl (a7 rfl rfl) ?_
        refine a1 rfl ?_
        refine a3 rfl rfl (a7 rfl rfl) ?_
        refine a4 ?_
        refine hK14 _ ?_
        clear hK14 K14
        refine b4 (fun K15 hK15=>?_)
        refine b4 (fun K16 hK16=>?_)
        refine a6 ?_
        refine a1 rfl ?_
        refine a3 rfl rfl (b7 G rfl rfl rfl rfl) ?_
        refine a1 rfl ?_
        refine a3 rfl rfl (E0 (c4 G rfl rfl rfl rfl rfl rfl rfl)) ?_
        refine a1 rfl ?_
        refine a3 rfl rfl (a8 rfl rfl) ?_
        refine a1 rfl ?_
        first | refine a3 rfl rfl (f6 G rfl rfl rfl rfl (by omega) (C4 (by omega))) ?_ | refine a3 rfl rfl (f6 G rfl rfl rfl rfl (by omega) (t8 (by omega) (by omega))) ?_
        refine a1 rfl ?_
        refine a3 rfl rfl (p9 G rfl rfl rfl rfl rfl) ?_
        refine a1 rfl ?_
        refine a3 rfl rfl (k5 rfl (ArgsOK.of rfl) (a11 _) rfl) ?_
        refine a1 rfl (a3 rfl rfl (C2 rfl rfl) (a1 rfl (a3 rfl rfl (a8 rfl rfl) (o8 rfl rfl rfl (fun h7=>?_) (fun h7=>?_)))))
        ·try rw [h7]
         try simp only [rfb] at h7
         refine b6 rfl rfl rfl rfl rfl rfl ?_
         refine b6 rfl rfl rfl rfl rfl rfl ?_
         refine b6 rfl rfl rfl rfl rfl rfl ?_
         refine a1 rfl ?_
         refine a3 rfl rfl (i5 rfl rfl rfl) ?_
         refine a4 ?_
         refine hK16 _ ?_
         clear hK16 K16
         refine r7 rfl ?_
         refine b4 (fun K17 hK17=>?_)
         refine a6 ?_
         refine a1 rfl ?_
         refine a3 rfl rfl (a7 rfl rfl) ?_
         refine a4 ?_
         refine hK17 _ ?_
         clear hK17 K17
         refine c8 ?_
         refine j4 rfl ?_
         refine g9 ?_
         all_goals clear hK15 K15 hK13 K13 hK9 K9
         all_goals (first | (exact congrArg Value.bool (A6 (by assumption)).symm) | (rw [A7 (by omega)];done) | (exact congrArg Value.bool (j6 (k:=k) (A4 (by assumption)) (by omega)).symm) | (exact congrArg Value.bool (j6 (k:=k) (G0 (by omega)) (by omega)).symm) | (exact congrArg Value.bool (j6 (k:=k) (A5 (i:=i) (J3.mpr (by assumption)) (by omega)) (by omega)).symm) | (exact congrArg Value.bool (z9 h1 (s9.mpr hl) (fun j hj=>hk.2 j (by omega))).symm) | (exact congrArg Value.bool (j6 (k:=k) (L4 (i:=i) (S0 (by simp only [tgI,prI];rw [← ht];omega)) (by omega)) (by omega)).symm))
        ·try rw [h7]
         try simp only [rfb] at h7
         refine c6 rfl rfl rfl ?_
         refine a3 rfl rfl (a8 rfl rfl) ?_
         refine c6 rfl rfl rfl ?_
         first | refine a3 rfl rfl (r4 G rfl rfl rfl rfl (List.length_map _)) ?_ | refine a3 rfl rfl (t6 G rfl rfl rfl rfl) ?_
         refine c6 rfl rfl rfl ?_
         refine a3 rfl rfl (f9 rfl rfl rfl rfl) ?_
         refine a1 rfl ?_
         refine a3 rfl rfl (i7 rfl rfl rfl) ?_
         refine a4 ?_
         refine hK16 _ ?_
         clear hK16 K16
         refine d1 rfl (fun h8=>?_) (fun h8=>?_)
         ·try rw [h8]
          try simp only [rfb] at h8
          refine b4 (fun K18 hK18=>?_)
          refine a6 ?_
          refine a1 rfl ?_
          refine a3 rfl rfl (a7 rfl rfl) ?_
          refine a4 ?_
          refine hK18 _ ?_
          clear hK18 K18
          refine c8 ?_
          refine j4 rfl ?_
          refine g9 ?_
          all_goals clear hK15 K15 hK13 K13 hK9 K9
          all_goals (first | (exact congrArg Value.bool (A6 (by assumption)).symm) | (rw [A7 (by omega)];done) | (exact congrArg Value.bool (j6 (k:=k) (A4 (by assumption)) (by omega)).symm) | (exact congrArg Value.bool (j6 (k:=k) (G0 (by omega)) (by omega)).symm) | (exact congrArg Value.bool (j6 (k:=k) (A5 (i:=i) (J3.mpr (by assumption)) (by omega)) (by omega)).symm) | (exact congrArg Value.bool (z9 h1 (s9.mpr hl) (fun j hj=>hk.2 j (by omega))).symm) | (exact congrArg Value.bool (j6 (k:=k) (L4 (i:=i) (S0 (by simp only [tgI,prI];rw [← ht];omega)) (by omega)) (by omega)).symm))
         ·try rw [h8]
          try simp only [rfb] at h8
          refine e9 ?_
          refine hK15 _ ?_
          clear hK15 K15
          refine b4 (fun K19 hK19=>?_)
          refine a6 ?_
          refine a1 rfl ?_
          refine a3 rfl rfl (a8 rfl rfl) ?_
          refine a1 rfl ?_
          first | refine a3 rfl rfl (r4 G rfl rfl rfl rfl (List.length_map _)) ?_ | refine a3 rfl rfl (t6 G rfl rfl rfl rfl) ?_
          refine a1 rfl ?_
          refine a3 rfl rfl (a8 rfl rfl) ?_
          refine a4 ?_
          refine hK19 _ ?_
          clear hK19 K19
          refine l8 ?_
          refine m4 [0,3,5,6,43,44,45,62,63] [0] (fun (i:Nat)=>[(64,.v (.int .i64 (i:Int)))]) (fun (i:Nat)=>[]) (fun (i:Nat)=>i≤(a.st.getD k default).length∧(∀ j,j < i→elS rs (a.st.getD k default) k j=true)∧∀ j,j < i→elP a.po (a.st.getD k default) j=true) (fun (i:Nat)=>(a.st.getD k default).length - i) 0 rfl rfl ?_ ?_ ?_ ?_
          ·exact ⟨Nat.zero_le _,fun j hj=>(by omega),fun j hj=>(by omega)⟩
          ·exact ⟨⟨_,rfl,by (first | rfl | (simp;done) | (simp;omega))⟩,rfl,trivial⟩
          ·exact trivial
          ·intro i hinv
           have hlk:=hs.all k (by omega)
           have ht:((i:Int) - 1).toNat=i - 1:=(by omega)
           have hprev:0 < i→0≤(a.st.getD k default).getD ((i:Int) - 1).toNat default∧(a.st.getD k default).getD ((i:Int) - 1).toNat default≤7:=fun h0=>(by rw [ht];exact (I1.mp (hinv.2.1 (i - 1) (by omega))).1)
           simp only [List.cons_append,List.nil_append]
           refine b4 (fun K20 hK20=>?_)
           refine a6 ?_
           refine a1 rfl ?_
           refine a3 rfl rfl (f9 rfl rfl rfl rfl) ?_
           refine a4 ?_
           refine hK20 _ ?_
           clear hK20 K20
           refine b4 (fun K21 hK21=>?_)
           refine d1 rfl (fun h9=>?_) (fun h9=>?_)
           ·try rw [h9]
            try simp only [rfb] at h9
            refine e9 ?_
            refine hK21 _ ?_
            clear hK21 K21
            refine b4 (fun K22 hK22=>?_)
            refine l8 ?_
            refine b4 (fun K23 hK23=>?_)
            refine a6 ?_
            refine a1 rfl ?_
            refine a3 rfl rfl (a8 rfl rfl) ?_
            refine a1 rfl ?_
            first | refine a3 rfl rfl (f6 G rfl rfl rfl rfl (by omega) (C4 (by omega))) ?_ | refine a3 rfl rfl (f6 G rfl rfl rfl rfl (by omega) (t8 (by omega) (by omega))) ?_
            refine a1 rfl ?_
            refine a3 rfl rfl (p9 G rfl rfl rfl rfl rfl) ?_
            refine a1 rfl ?_
            refine a3 rfl rfl (a7 rfl rfl) ?_
            refine a1 rfl ?_
            refine a3 rfl rfl (a7 rfl rfl) ?_
            refine a4 ?_
            refine hK23 _ ?_
            clear hK23 K23
            refine b4 (fun K24 hK24=>?_)
            refine L1 m5 (by kernel_rfl) ?_
            refine d6 rfl ?_
            refine j5 rfl rfl (a8 rfl rfl) ?_
            refine d6 rfl ?_
            refine j5 rfl rfl (k5 rfl (ArgsOK.of rfl) (a0R _) rfl) ?_
            refine d6 rfl (j5 rfl rfl (C2 rfl rfl) (d6 rfl (j5 rfl rfl (a8 rfl rfl) (L0 rfl rfl rfl (fun h10=>?_) (fun h10=>?_)))))
            ·try rw [h10]
             try simp only [rfb] at h10
             have hq:=I2 h10
             refine l5 rfl rfl rfl rfl rfl rfl ?_
             refine l5 rfl rfl rfl rfl rfl rfl ?_
             refine l5 rfl rfl rfl rfl rfl rfl ?_
             refine l5 rfl rfl rfl rfl rfl rfl ?_
             refine l5 rfl rfl rfl rfl rfl rfl ?_
             refine l5 rfl rfl rfl rfl rfl rfl ?_
             refine l5 rfl rfl rfl rfl rfl rfl ?_
             refine d6 rfl ?_
             refine j5 rfl rfl (i5 rfl rfl rfl) ?_
             refine d6 rfl ?_
             refine j5 rfl rfl (a8 rfl rfl) ?_
             refine l5 rfl rfl rfl rfl rfl rfl ?_
             refine l5 rfl rfl rfl rfl rfl rfl ?_
             refine l5 rfl rfl rfl rfl rfl rfl ?_
             refine l5 rfl rfl rfl rfl rfl rfl ?_
             refine l5 rfl rfl rfl rfl rfl rfl ?_
             refine d6 rfl ?_
             refine j5 rfl rfl (i5 rfl rfl rfl) ?_
             refine d6 rfl ?_
             refine j5 rfl rfl (a8 rfl rfl) ?_
             refine l5 rfl rfl rfl rfl rfl rfl ?_
             refine l5 rfl rfl rfl rfl rfl rfl ?_
             refine l5 rfl rfl rfl rfl rfl rfl ?_
             refine k7 rfl rfl rfl rfl rfl ?_
             refine k7 rfl rfl rfl rfl rfl ?_
             refine k7 rfl rfl rfl rfl rfl ?_
             refine k7 rfl rfl rfl rfl rfl ?_
             refine k7 rfl rfl rfl rfl rfl ?_
             refine k7 rfl rfl rfl rfl rfl ?_
             refine k7 rfl rfl rfl rfl rfl ?_
             refine k7 rfl rfl rfl rfl rfl ?_
             refine k7 rfl rfl rfl rfl rfl ?_
             refine k7 rfl rfl rfl rfl rfl ?_
             refine k7 rfl rfl rfl rfl rfl ?_
             refine k7 rfl rfl rfl rfl rfl ?_
             refine k7 rfl rfl rfl rfl rfl ?_
             refine k7 rfl rfl rfl rfl rfl ?_
             refine k7 rfl rfl rfl rfl rfl ?_
             refine l5 rfl rfl rfl rfl rfl rfl ?_
             refine d6 rfl ?_
             refine j5 rfl rfl (i5 rfl rfl rfl) ?_
             refine H1 ?_
             refine hK24 _ ?_
             clear hK24 K24
             refine r7 rfl ?_
             refine b4 (fun K25 hK25=>?_)
             refine a6 ?_
             refine a1 rfl ?_
             refine a3 rfl rfl (a7 rfl rfl) ?_
             refine a4 ?_
             refine hK25 _ ?_
             clear hK25 K25
             refine c8 ?_
             refine j4 rfl ?_
             refine g9 ?_
             all_goals clear hK22 K22 hK13 K13 hK9 K9
             all_goals (first | (exact congrArg Value.bool (A6 (by assumption)).symm) | (rw [A7 (by omega)];done) | (exact congrArg Value.bool (j6 (k:=k) (A4 (by assumption)) (by omega)).symm) | (exact congrArg Value.bool (j6 (k:=k) (G0 (by omega)) (by omega)).symm) | (exact congrArg Value.bool (j6 (k:=k) (A5 (i:=i) (J3.mpr (by assumption)) (by omega)) (by omega)).symm) | (exact congrArg Value.bool (z9 h1 (s9.mpr hl) (fun j hj=>hk.2 j (by omega))).symm) | (exact congrArg Value.bool (j6 (k:=k) (L4 (i:=i) (S0 (by simp only [tgI,prI];rw [← ht];omega)) (by omega)) (by omega)).symm))
            ·try rw [h10]
             try simp only [rfb] at h10
             have hq:=p6.mp h10
             refine p8 rfl rfl rfl ?_
             refine j5 rfl rfl (a8 rfl rfl) ?_
             refine p8 rfl rfl rfl ?_
             refine j5 rfl rfl (a8 rfl rfl) ?_
             refine p8 rfl rfl rfl ?_
             first | refine j5 rfl rfl (f6 G rfl rfl rfl rfl (by omega) (C4 (by omega))) ?_ | refine j5 rfl rfl (f6 G rfl rfl rfl rfl (by omega) (t8 (by omega) (by omega))) ?_
             refine p8 rfl rfl rfl (j5 rfl rfl (B5 G rfl rfl rfl rfl) (p8 rfl rfl rfl (j5 rfl rfl (p9 G rfl rfl rfl rfl rfl) (p8 rfl rfl rfl (j5 rfl rfl (a8 rfl rfl) (p8 rfl rfl rfl (j5 rfl rfl (f9 rfl rfl rfl rfl) (d6 rfl (j5 rfl rfl (i7 rfl rfl rfl) (d6 rfl (j5 rfl rfl (a8 rfl rfl) (L0 rfl rfl rfl (fun h11=>?_) (fun h11=>?_)))))))))))))
             ·try rw [h11]
              try simp only [rfb] at h11
              refine l5 rfl rfl rfl rfl rfl rfl ?_
              refine l5 rfl rfl rfl rfl rfl rfl ?_
              refine l5 rfl rfl rfl rfl rfl rfl ?_
              refine l5 rfl rfl rfl rfl rfl rfl ?_
              refine l5 rfl rfl rfl rfl rfl rfl ?_
              refine d6 rfl ?_
              refine j5 rfl rfl (i5 rfl rfl rfl) ?_
              refine d6 rfl ?_
              refine j5 rfl rfl (a8 rfl rfl) ?_
              refine l5 rfl rfl rfl rfl rfl rfl ?_
              refine l5 rfl rfl rfl rfl rfl rfl ?_
              refine l5 rfl rfl rfl rfl rfl rfl ?_
              refine k7 rfl rfl rfl rfl rfl ?_
              refine k7 rfl rfl rfl rfl rfl ?_
              refine k7 rfl rfl rfl rfl rfl ?_
              refine k7 rfl rfl rfl rfl rfl ?_
              refine k7 rfl rfl rfl rfl rfl ?_
              refine k7 rfl rfl rfl rfl rfl ?_
              refine k7 rfl rfl rfl rfl rfl ?_
              refine k7 rfl rfl rfl rfl rfl ?_
              refine k7 rfl rfl rfl rfl rfl ?_
              refine k7 rfl rfl rfl rfl rfl ?_
              refine k7 rfl rfl rfl rfl rfl ?_
              refine k7 rfl rfl rfl rfl rfl ?_
              refine k7 rfl rfl rfl rfl rfl ?_
              refine k7 rfl rfl rfl rfl rfl ?_
              refine k7 rfl rfl rfl rfl rfl ?_
              refine l5 rfl rfl rfl rfl rfl rfl ?_
              refine d6 rfl ?_
              refine j5 rfl rfl (i5 rfl rfl rfl) ?_
              refine H1 ?_
              refine hK24 _ ?_
              clear hK24 K24
              refine r7 rfl ?_
              refine b4 (fun K26 hK26=>?_)
              refine a6 ?_
              refine a1 rfl ?_
              refine a3 rfl rfl (a7 rfl rfl) ?_
              refine a4 ?_
              refine hK26 _ ?_
              clear hK26 K26
              refine c8 ?_
              refine j4 rfl ?_
              refine g9 ?_
              all_goals clear hK22 K22 hK13 K13 hK9 K9
              all_goals (first | (exact congrArg Value.bool (A6 (by assumption)).symm) | (rw [A7 (by omega)];done) | (exact congrArg Value.bool (j6 (k:=k) (A4 (by assumption)) (by omega)).symm) | (exact congrArg Value.bool (j6 (k:=k) (G0 (by omega)) (by omega)).symm) | (exact congrArg Value.bool (j6 (k:=k) (A5 (i:=i) (J3.mpr (by assumption)) (by omega)) (by omega)).symm) | (exact congrArg Value.bool (z9 h1 (s9.mpr hl) (fun j hj=>hk.2 j (by omega))).symm) | (exact congrArg Value.bool (j6 (k:=k) (L4 (i:=i) (S0 (by simp only [tgI,prI];rw [← ht];omega)) (by omega)) (by omega)).symm))
             ·try rw [h11]
              try simp only [rfb] at h11
              refine p8 rfl rfl rfl ?_
              refine j5 rfl rfl (b7 G rfl rfl rfl rfl) ?_
              refine p8 rfl rfl rfl ?_
              refine j5 rfl rfl (E0 (c4 G rfl rfl rfl rfl rfl rfl rfl)) ?_
              refine p8 rfl rfl rfl ?_
              refine j5 rfl rfl (a8 rfl rfl) ?_
              refine p8 rfl rfl rfl ?_
              first | refine j5 rfl rfl (f6 G rfl rfl rfl rfl (by omega) (C4 (by omega))) ?_ | refine j5 rfl rfl (f6 G rfl rfl rfl rfl (by omega) (t8 (by omega) (by omega))) ?_
              refine p8 rfl rfl rfl (j5 rfl rfl (p9 G rfl rfl rfl rfl rfl) (d6 rfl (j5 rfl rfl (i7 rfl rfl rfl) (d6 rfl (j5 rfl rfl (a8 rfl rfl) (L0 rfl rfl rfl (fun h12=>?_) (fun h12=>?_)))))))
              ·try rw [h12]
               try simp only [rfb] at h12
               refine l5 rfl rfl rfl rfl rfl rfl ?_
               refine l5 rfl rfl rfl rfl rfl rfl ?_
               refine l5 rfl rfl rfl rfl rfl rfl ?_
               refine k7 rfl rfl rfl rfl rfl ?_
               refine k7 rfl rfl rfl rfl rfl ?_
               refine k7 rfl rfl rfl rfl rfl ?_
               refine k7 rfl rfl rfl rfl rfl ?_
               refine k7 rfl rfl rfl rfl rfl ?_
               refine k7 rfl rfl rfl rfl rfl ?_
               refine k7 rfl rfl rfl rfl rfl ?_
               refine k7 rfl rfl rfl rfl rfl ?_
               refine k7 rfl rfl rfl rfl rfl ?_
               refine k7 rfl rfl rfl rfl rfl ?_
               refine k7 rfl rfl rfl rfl rfl ?_
               refine k7 rfl rfl rfl rfl rfl ?_
               refine k7 rfl rfl rfl rfl rfl ?_
               refine k7 rfl rfl rfl rfl rfl ?_
               refine k7 rfl rfl rfl rfl rfl ?_
               refine l5 rfl rfl rfl rfl rfl rfl ?_
               refine d6 rfl ?_
               refine j5 rfl rfl (i5 rfl rfl rfl) ?_
               refine H1 ?_
               refine hK24 _ ?_
               clear hK24 K24
               refine r7 rfl ?_
               refine b4 (fun K27 hK27=>?_)
               refine a6 ?_
               refine a1 rfl ?_
               refine a3 rfl rfl (a7 rfl rfl) ?_
               refine a4 ?_
               refine hK27 _ ?_
               clear hK27 K27
               refine c8 ?_
               refine j4 rfl ?_
               refine g9 ?_
               all_goals clear hK22 K22 hK13 K13 hK9 K9
               all_goals (first | (exact congrArg Value.bool (A6 (by assumption)).symm) | (rw [A7 (by omega)];done) | (exact congrArg Value.bool (j6 (k:=k) (A4 (by assumption)) (by omega)).symm) | (exact congrArg Value.bool (j6 (k:=k) (G0 (by omega)) (by omega)).symm) | (exact congrArg Value.bool (j6 (k:=k) (A5 (i:=i) (J3.mpr (by assumption)) (by omega)) (by omega)).symm) | (exact congrArg Value.bool (z9 h1 (s9.mpr hl) (fun j hj=>hk.2 j (by omega))).symm) | (exact congrArg Value.bool (j6 (k:=k) (L4 (i:=i) (S0 (by simp only [tgI,prI];rw [← ht];omega)) (by omega)) (by omega)).symm))
              ·try rw [h12]
               try simp only [rfb] at h12
               refine p8 rfl rfl rfl (j5 rfl rfl (a8 rfl rfl) (p8 rfl rfl rfl (j5 rfl rfl (f9 rfl rfl rfl rfl) (p8 rfl rfl rfl (j5 rfl rfl (a8 rfl rfl) (L0 rfl rfl rfl (fun h13=>?_) (fun h13=>?_)))))))
               ·try rw [h13]
                try simp only [rfb] at h13
                refine p8 rfl rfl rfl ?_
                refine j5 rfl rfl (a8 rfl rfl) ?_
                refine p8 rfl rfl rfl ?_
                refine j5 rfl rfl (a8 rfl rfl) ?_
                refine p8 rfl rfl rfl ?_
                refine j5 rfl rfl (a8 rfl rfl) ?_
                refine p8 rfl rfl rfl ?_
                first | refine j5 rfl rfl (i8 rfl rfl rfl rfl (by omega) (by omega)) ?_ | refine j5 rfl rfl (k4 rfl rfl rfl rfl) ?_
                refine p8 rfl rfl rfl ?_
                first | refine j5 rfl rfl (f6 G rfl rfl rfl rfl (by omega) (C4 (by omega))) ?_ | refine j5 rfl rfl (f6 G rfl rfl rfl rfl (by omega) (t8 (by omega) (by omega))) ?_
                refine p8 rfl rfl rfl ?_
                refine j5 rfl rfl (p9 G rfl rfl rfl rfl rfl) ?_
                refine p8 rfl rfl rfl ?_
                first | refine j5 rfl rfl (f6 G rfl rfl rfl rfl (by omega) (C4 (by omega))) ?_ | refine j5 rfl rfl (f6 G rfl rfl rfl rfl (by omega) (t8 (by omega) (by omega))) ?_
                refine p8 rfl rfl rfl ?_
                refine j5 rfl rfl (B5 G rfl rfl rfl rfl) ?_
                refine p8 rfl rfl rfl ?_
                refine j5 rfl rfl (p9 G rfl rfl rfl rfl rfl) ?_
                refine p8 rfl rfl rfl ?_
                refine j5 rfl rfl (a8 rfl rfl) ?_
                refine p8 rfl rfl rfl ?_
                refine j5 rfl rfl (a8 rfl rfl) ?_
                refine p8 rfl rfl rfl ?_
                first | refine j5 rfl rfl (f6 G rfl rfl rfl rfl (by omega) (C4 (by omega))) ?_ | refine j5 rfl rfl (f6 G rfl rfl rfl rfl (by omega) (t8 (by omega) (by omega))) ?_
                refine p8 rfl rfl rfl ?_
                refine j5 rfl rfl (B5 G rfl rfl rfl rfl) ?_
                refine p8 rfl rfl rfl ?_
                refine j5 rfl rfl (p9 G rfl rfl rfl rfl rfl) ?_
                refine p8 rfl rfl rfl ?_
                refine j5 rfl rfl (f9 rfl rfl rfl rfl) ?_
                refine p8 rfl rfl rfl ?_
                refine j5 rfl rfl (i5 rfl rfl rfl) ?_
                refine d6 rfl ?_
                refine j5 rfl rfl (i7 rfl rfl rfl) ?_
                refine H1 ?_
                refine hK24 _ ?_
                clear hK24 K24
                refine d1 rfl (fun h14=>?_) (fun h14=>?_)
                ·try rw [h14]
                 try simp only [rfb] at h14
                 refine b4 (fun K28 hK28=>?_)
                 refine a6 ?_
                 refine a1 rfl ?_
                 refine a3 rfl rfl (a7 rfl rfl) ?_
                 refine a4 ?_
                 refine hK28 _ ?_
                 clear hK28 K28
                 refine c8 ?_
                 refine j4 rfl ?_
                 refine g9 ?_
                 all_goals clear hK22 K22 hK13 K13 hK9 K9
                 all_goals (first | (exact congrArg Value.bool (A6 (by assumption)).symm) | (rw [A7 (by omega)];done) | (exact congrArg Value.bool (j6 (k:=k) (A4 (by assumption)) (by omega)).symm) | (exact congrArg Value.bool (j6 (k:=k) (G0 (by omega)) (by omega)).symm) | (exact congrArg Value.bool (j6 (k:=k) (A5 (i:=i) (J3.mpr (by assumption)) (by omega)) (by omega)).symm) | (exact congrArg Value.bool (z9 h1 (s9.mpr hl) (fun j hj=>hk.2 j (by omega))).symm) | (exact congrArg Value.bool (j6 (k:=k) (L4 (i:=i) (S0 (by simp only [tgI,prI];rw [← ht];omega)) (by omega)) (by omega)).symm))
                ·try rw [h14]
                 try simp only [rfb] at h14
                 refine e9 ?_
                 refine hK22 _ ?_
                 clear hK22 K22
                 refine a6 ?_
                 refine a1 rfl ?_
                 first | refine a3 rfl rfl (i8 rfl rfl rfl rfl (by omega) (by omega)) ?_ | refine a3 rfl rfl (k4 rfl rfl rfl rfl) ?_
                 refine a1 rfl ?_
                 refine a3 rfl rfl (a8 rfl rfl) ?_
                 refine a4 ⟨(i+1),?_,?_,⟨⟨_,rfl,by rfl⟩,rfl,trivial⟩,trivial,rfl,rfl,rfl⟩
                 ·exact ⟨by omega,p7 hinv.2.1 (I1.mpr ⟨by omega,by first | assumption | (simp only [tgI];omega),by first | exact .inl (by omega) | exact .inr (by simp only [prI];rw [← ht];omega)⟩),p7 hinv.2.2 (a7g.mpr (by assumption))⟩
                 ·omega
               ·try rw [h13]
                try simp only [rfb] at h13
                refine l5 rfl rfl rfl rfl rfl rfl ?_
                refine l5 rfl rfl rfl rfl rfl rfl ?_
                refine l5 rfl rfl rfl rfl rfl rfl ?_
                refine l5 rfl rfl rfl rfl rfl rfl ?_
                refine l5 rfl rfl rfl rfl rfl rfl ?_
                refine l5 rfl rfl rfl rfl rfl rfl ?_
                refine l5 rfl rfl rfl rfl rfl rfl ?_
                refine l5 rfl rfl rfl rfl rfl rfl ?_
                refine l5 rfl rfl rfl rfl rfl rfl ?_
                refine l5 rfl rfl rfl rfl rfl rfl ?_
                refine l5 rfl rfl rfl rfl rfl rfl ?_
                refine l5 rfl rfl rfl rfl rfl rfl ?_
                refine l5 rfl rfl rfl rfl rfl rfl ?_
                refine l5 rfl rfl rfl rfl rfl rfl ?_
                refine l5 rfl rfl rfl rfl rfl rfl ?_
                refine p8 rfl rfl rfl ?_
                refine j5 rfl rfl (i7 rfl rfl rfl) ?_
                refine d6 rfl ?_
                refine j5 rfl rfl (i7 rfl rfl rfl) ?_
                refine H1 ?_
                refine hK24 _ ?_
                clear hK24 K24
                refine B1 rfl ?_
                refine e9 ?_
                refine hK22 _ ?_
                clear hK22 K22
                refine a6 ?_
                refine a1 rfl ?_
                first | refine a3 rfl rfl (i8 rfl rfl rfl rfl (by omega) (by omega)) ?_ | refine a3 rfl rfl (k4 rfl rfl rfl rfl) ?_
                refine a1 rfl ?_
                refine a3 rfl rfl (a8 rfl rfl) ?_
                refine a4 ⟨(i+1),?_,?_,⟨⟨_,rfl,by rfl⟩,rfl,trivial⟩,trivial,rfl,rfl,rfl⟩
                ·exact ⟨by omega,p7 hinv.2.1 (I1.mpr ⟨by omega,by first | assumption | (simp only [tgI];omega),by first | exact .inl (by omega) | exact .inr (by simp only [prI];rw [← ht];omega)⟩),p7 hinv.2.2 (a7g.mpr (by assumption))⟩
                ·omega
           ·try rw [h9]
            try simp only [rfb] at h9
            refine B0 ?_
            refine hK13 _ ?_
            clear hK21 K21 hK13 K13
            refine a6 ?_
            refine a1 rfl ?_
            first | refine a3 rfl rfl (i8 rfl rfl rfl rfl (by omega) (by omega)) ?_ | refine a3 rfl rfl (k4 rfl rfl rfl rfl) ?_
            refine a1 rfl ?_
            refine a3 rfl rfl (a8 rfl rfl) ?_
            refine a4 ⟨(k+1),?_,?_,⟨⟨_,rfl,by rfl⟩,rfl,trivial⟩,trivial,rfl,rfl,rfl⟩
            ·exact ⟨by omega,p7 hk.2 (b0n h7 (by omega) (fun j hj=>hinv.2.1 j (by omega)) (fun j hj=>hinv.2.2 j (by omega)))⟩
            ·omega
       ·try rw [h6]
        try simp only [rfb] at h6
        refine B0 ?_
        refine hK9 _ ?_
        clear hK12 K12 hK9 K9
        refine b4 (fun K29 hK29=>?_)
        refine a6 ?_
        refine a1 rfl ?_
        refine a3 rfl rfl (a7 rfl rfl) ?_
        refine a4 ?_
        refine hK29 _ ?_
        clear hK29 K29
        refine c8 ?_
        refine j4 rfl ?_
        refine g9 ?_
        all_goals (first | (exact congrArg Value.bool (A6 (by assumption)).symm) | (rw [A7 (by omega)];done) | (exact congrArg Value.bool (j6 (k:=k) (A4 (by assumption)) (by omega)).symm) | (exact congrArg Value.bool (j6 (k:=k) (G0 (by omega)) (by omega)).symm) | (exact congrArg Value.bool (j6 (k:=k) (A5 (i:=i) (J3.mpr (by assumption)) (by omega)) (by omega)).symm) | (exact congrArg Value.bool (z9 h1 (s9.mpr hl) (fun j hj=>hk.2 j (by omega))).symm) | (exact congrArg Value.bool (j6 (k:=k) (L4 (i:=i) (S0 (by simp only [tgI,prI];rw [← ht];omega)) (by omega)) (by omega)).symm))
end Go.Proofs.YtcnodpipinlpcaaGreat
