/- Texts merged into one: Tab, W1, D1, D2, Shelf, S, W2, W3. -/
import Derived.Test.YtcnodpipinlpcaaGreatWs
import Derived.Test.YtcnodpipinlpcaaGreatProg
import Derived.KernelRfl
import Derived.Shelf.Sort.Plain
import Derived.Shelf.Slices.In.SortNone
set_option maxHeartbeats 4000000
set_option linter.unusedSimpArgs false
set_option linter.unusedVariables false
set_option maxRecDepth 20000
namespace Go.Proofs.YtcnodpipinlpcaaGreat
open Go Go.Rf
def tb:List (Nat×TyI):=[
 (2,.flat (.int .i64) (.int .i64 0)),
 (3,.flat (.int .i64) (.int .i64 0)),
 (4,.flat .bool (.bool false)),
 (5,.flat (.int .u8) (.int .u8 0)),
 (6,.flat (.int .u8) (.int .u8 0)),
 (7,.struct [(0,2),(1,3),(2,4),(3,6)] [.int .i64 0,.int .i64 0,.bool false,.int .u8 0]),
 (8,.struct [(0,2),(1,3),(2,4),(3,6)] [.int .i64 0,.int .i64 0,.bool false,.int .u8 0]),
 (9,.flat .str (.string ⟨#[]⟩)),
 (10,.flat .str (.string ⟨#[]⟩)),
 (11,.flat .str (.string ⟨#[]⟩)),
 (12,.flat (.int .u64) (.int .u64 0)),
 (13,.struct [(0,9),(1,12)] [.string ⟨#[]⟩,.int .u64 0]),
 (14,.struct [(0,9),(1,12)] [.string ⟨#[]⟩,.int .u64 0]),
 (15,.flat .other (.pointer none)),
 (16,.flat .other (.pointer none)),
 (17,.flat .other (.pointer none)),
 (18,.struct [(0,17)] [.pointer none]),
 (19,.struct [(0,17)] [.pointer none]),
 (21,.flat (.int .i32) (.int .i32 0)),
 (22,.slice 5 1 1 [.int .u8 0]),
 (24,.slice 118 2 16 [.int .i64 0,.int .i64 0]),
 (25,.slice 4 1 1 [.bool false]),
 (26,.slice 3 1 8 [.int .i64 0]),
 (27,.slice 26 1 24 [.slice none 0 0]),
 (28,.struct [(0,25),(1,25),(2,25),(3,26),(4,27)] [.slice none 0 0,.slice none 0 0,.slice none 0 0,.slice none 0 0,.slice none 0 0]),
 (29,.struct [(0,25),(1,25),(2,25),(3,26),(4,27)] [.slice none 0 0,.slice none 0 0,.slice none 0 0,.slice none 0 0,.slice none 0 0]),
 (30,.slice 40 4 32 [.int .i64 0,.int .i64 0,.int .i64 0,.int .i64 0]),
 (39,.struct [(0,3),(1,3),(2,3),(3,3)] [.int .i64 0,.int .i64 0,.int .i64 0,.int .i64 0]),
 (40,.struct [(0,3),(1,3),(2,3),(3,3)] [.int .i64 0,.int .i64 0,.int .i64 0,.int .i64 0]),
 (47,.slice 120 2 16 [.int .i64 0,.int .i64 0]),
 (48,.struct [(0,25),(1,25),(2,25),(3,26),(4,27)] [.slice none 0 0,.slice none 0 0,.slice none 0 0,.slice none 0 0,.slice none 0 0]),
 (51,.slice 113 4 80 [.int .i64 0,.slice none 0 0,.slice none 0 0,.slice none 0 0]),
 (52,.struct [(0,24),(1,25),(2,25),(3,51)] [.slice none 0 0,.slice none 0 0,.slice none 0 0,.slice none 0 0]),
 (53,.struct [(0,24),(1,25),(2,25),(3,51)] [.slice none 0 0,.slice none 0 0,.slice none 0 0,.slice none 0 0]),
 (64,.slice 170 4 80 [.int .i64 0,.slice none 0 0,.slice none 0 0,.slice none 0 0]),
 (65,.struct [(0,47),(1,25),(2,25),(3,64)] [.slice none 0 0,.slice none 0 0,.slice none 0 0,.slice none 0 0]),
 (66,.struct [(0,47),(1,25),(2,25),(3,64)] [.slice none 0 0,.slice none 0 0,.slice none 0 0,.slice none 0 0]),
 (72,.slice 136 4 32 [.int .i64 0,.int .i64 0,.int .i64 0,.int .i64 0]),
 (87,.flat .other (.pointer none)),
 (88,.flat (.int .u64) (.int .u64 0)),
 (89,.struct [(0,22),(1,3),(2,88)] [.slice none 0 0,.int .i64 0,.int .u64 0]),
 (90,.struct [(0,22),(1,3),(2,88)] [.slice none 0 0,.int .i64 0,.int .u64 0]),
 (108,.slice 154 3 24 [.int .i64 0,.int .i64 0,.int .i64 0]),
 (109,.slice 183 2 16 [.int .i64 0,.int .i64 0]),
 (110,.struct [(0,108),(1,109)] [.slice none 0 0,.slice none 0 0]),
 (111,.struct [(0,108),(1,109)] [.slice none 0 0,.slice none 0 0]),
 (112,.struct [(0,3),(1,26),(2,111)] [.int .i64 0,.slice none 0 0,.slice none 0 0,.slice none 0 0]),
 (113,.struct [(0,3),(1,26),(2,111)] [.int .i64 0,.slice none 0 0,.slice none 0 0,.slice none 0 0]),
 (117,.struct [(0,3),(1,3)] [.int .i64 0,.int .i64 0]),
 (118,.struct [(0,3),(1,3)] [.int .i64 0,.int .i64 0]),
 (120,.struct [(0,3),(1,3)] [.int .i64 0,.int .i64 0]),
 (136,.struct [(0,3),(1,3),(2,3),(3,3)] [.int .i64 0,.int .i64 0,.int .i64 0,.int .i64 0]),
 (153,.struct [(0,3),(1,3),(2,3)] [.int .i64 0,.int .i64 0,.int .i64 0]),
 (154,.struct [(0,3),(1,3),(2,3)] [.int .i64 0,.int .i64 0,.int .i64 0]),
 (165,.slice 246 3 24 [.int .i64 0,.int .i64 0,.int .i64 0]),
 (166,.slice 248 2 16 [.int .i64 0,.int .i64 0]),
 (167,.struct [(0,165),(1,166)] [.slice none 0 0,.slice none 0 0]),
 (168,.struct [(0,165),(1,166)] [.slice none 0 0,.slice none 0 0]),
 (169,.struct [(0,3),(1,26),(2,168)] [.int .i64 0,.slice none 0 0,.slice none 0 0,.slice none 0 0]),
 (170,.struct [(0,3),(1,26),(2,168)] [.int .i64 0,.slice none 0 0,.slice none 0 0,.slice none 0 0]),
 (182,.struct [(0,3),(1,3)] [.int .i64 0,.int .i64 0]),
 (183,.struct [(0,3),(1,3)] [.int .i64 0,.int .i64 0]),
 (188,.flat (.int .u64) (.int .u64 0)),
 (204,.flat .other (.pointer none)),
 (205,.flat .other (.pointer none)),
 (231,.flat (.int .i64) (.int .i64 0)),
 (239,.flat (.int .u32) (.int .u32 0)),
 (246,.struct [(0,3),(1,3),(2,3)] [.int .i64 0,.int .i64 0,.int .i64 0]),
 (248,.struct [(0,3),(1,3)] [.int .i64 0,.int .i64 0]),
 (254,.flat (.int .u64) (.int .u64 0)),
 (258,.flat .other (.pointer none)),
 (262,.flat .other (.pointer none)),
 (268,.struct [(0,17),(1,17),(2,17),(3,9)] [.pointer none,.pointer none,.pointer none,.string ⟨#[]⟩]),
 (269,.struct [(0,17),(1,17),(2,17),(3,9)] [.pointer none,.pointer none,.pointer none,.string ⟨#[]⟩]),
 (273,.flat (.int .u8) (.int .u8 0)),
 (274,.flat (.int .u8) (.int .u8 0)),
 (276,.flat .other (.pointer none)),
 (277,.flat (.int .i32) (.int .i32 0)),
 (278,.flat (.int .i32) (.int .i32 0))]
theorem G:Go.Rf.Good Tryz.prog tb:=Go.Rf.Good.of X
instance:Env Tryz.prog:=⟨λ_=>True,λ_ _=>trivial⟩
theorem mixed:Tryz.prog.follows .mixedOrders=true:=by kernel_rfl
theorem O5 (n l h:Int):Ctr Tryz.prog 65 [.v (.int .i64 n),.v (.int .i64 l),.v (.int .i64 h)] (.one (.v (.bool (s1 n l h)))):=by
 refine Ctr.of (n:=15) G Tryz.func65 Z a6 Z Z Z (λw0=>?_)
 refine zcd (λh1=>?_) (λh1=>?_)
 ·exact b3w
 exact b3w
theorem a3d (n l h:Int):Ctr Tryz.prog 67 [.v (.int .i64 n),.v (.int .i64 l),.v (.int .i64 h)] (.one (.v (.bool (s1 n l h)))):=by
 refine Ctr.of (n:=15) G Tryz.func67 Z a6 Z Z Z (λw0=>?_)
 refine zcd (λh1=>?_) (λh1=>?_)
 ·exact b3w
 exact b3w
theorem a1k (n:Int):Ctr Tryz.prog 114 [.v (.int .i64 n)] (.one (.v (.bool (s1 n 0 16)))):=by
 refine Ctr.of (n:=5) G Tryz.func114 Z a6 Z Z Z (λw0=>?_)
 exact b3A
theorem N5 (n:Int):Ctr Tryz.prog 115 [.v (.int .i64 n)] (.one (.v (.bool (s1 n 0 7)))):=by
 refine Ctr.of (n:=5) G Tryz.func115 Z a6 Z Z Z (λw0=>?_)
 exact b3A
theorem R8 (n:Int):Ctr Tryz.prog 179 [.v (.int .i64 n)] (.one (.v (.bool (s1 n 0 7)))):=by
 refine Ctr.of (n:=5) G Tryz.func179 Z a6 Z Z Z (λw0=>?_)
 refine a6D ?_
 exact c2l
theorem R9 (n:Int):Ctr Tryz.prog 166 [.v (.int .i64 n)] (.one (.v (.bool (s1 n 0 15)))):=by
 refine Ctr.of (n:=5) G Tryz.func166 Z a6 Z Z Z (λw0=>?_)
 exact b3A
theorem U9 (n:Int):Ctr Tryz.prog 178 [.v (.int .i64 n)] (.one (.v (.bool (s1 n 0 15)))):=by
 refine Ctr.of (n:=5) G Tryz.func178 Z a6 Z Z Z (λw0=>?_)
 refine a6D ?_
 exact c2l
theorem a00 (x:Cur) (h0:0<=x.a/\x.a<=4611686018427387904) (hc:H5 x.c):CtrM Tryz.prog 124 [.ptr 0 0] [.box [.lst 1 (x.c.map B9),.v (.int .i64 x.a),.v (.int .u64 x.s)]] (.one (.v (.int .i64 (nxV x)))) [some (.box [.lst 1 ((nxC x).c.map B9),.v (.int .i64 (nxC x).a),.v (.int .u64 (nxC x).s)])]:=by
 have hcl:=hc.1
 have hcb:=b4A hc
 refine CtrM.of (n:=62) (k:=1) G Tryz.func124 Z X Z Z Z Z Z Z Z (λw0 _ hpin=>?_)
 refine n9 (λK1 hK1=>?_)
 refine e9 (b5 Z (b7 Z Z (o8 Z Z) (a8 (hK1 _ ?_))))
 clear hK1 K1
 refine c2t (id:=0) Z (λy=>?_)
 refine n9 (λK2 hK2=>?_)
 refine e9 (b5 Z (b7 Z Z (o8 Z Z) (a8 (hK2 _ ?_))))
 clear hK2 K2
 refine n9 (λK3 hK3=>?_)
 refine n9 (λK4 hK4=>?_)
 refine a1Y mixed X (j7 Z (r9 Z Z (d3 Z Z) (j7 Z (r9 Z Z (s3 Z Z) (j7 Z (r9 Z Z (m4 G Z Z Z Z) (j7 Z (r9 Z Z (o9 G Z Z Z Z Z Z Z) (j7 Z (r9 Z Z (d3 Z Z) (j7 Z (r9 Z Z (s3 Z Z) (j7 Z (r9 Z Z (m4 G Z Z Z Z) (j7 Z (r9 Z Z (o9 G Z Z Z Z Z Z Z) (j7 Z ?_)))))))))))))))))
 first | refine r9 Z Z (a4e G Z Z Z Z (List.length_map _)) ?_ | refine r9 Z Z (a7l G Z Z Z Z) ?_
 refine j7 Z (r9 Z Z (a2p Z Z Z Z) (a5L (hK4 _ ?_)))
 clear hK4 K4
 refine o7 Z (λh1=>?_) (λh1=>?_)
 ·try rw [h1]
  try simp only [rfb] at h1
  refine a1Y mixed X (j7 Z (r9 Z Z (d3 Z Z) (j7 Z (r9 Z Z (s3 Z Z) (j7 Z (r9 Z Z (m4 G Z Z Z Z) (j7 Z (r9 Z Z (o9 G Z Z Z Z Z Z Z) (j7 Z (r9 Z Z (d3 Z Z) (j7 Z (r9 Z Z (s3 Z Z) (j7 Z (r9 Z Z (m4 G Z Z Z Z) (j7 Z (r9 Z Z (o9 G Z Z Z Z Z Z Z) (j7 Z (r9 Z Z (a0N G Z Z Z Z J (C7 J J)) (j7 Z (r9 Z Z (a7k G Z Z Z Z Z) (j7 Z ?_)))))))))))))))))))))
  first | refine r9 Z Z (b3Y G Z Z Z Z J J) ?_ | refine r9 Z Z (a2M G Z Z Z Z) ?_
  refine j7 Z (r9 Z Z (o8 Z Z) (a5L (hK3 _ ?_)))
  clear hK3 K3
  try rw [show IntKind.i64.wrap (x.c.getD x.a.toNat default)=nxB x from by rw [b8a (by assumption)] at hcb ⊢;exact U8 J J]
  refine n9 (λK5 hK5=>?_)
  refine e9 (b5 Z (b7 Z Z (d3 Z Z) (b5 Z (b7 Z Z (s3 Z Z) (b5 Z (b7 Z Z (m4 G Z Z Z Z) (b5 Z (b7 Z Z (o9 G Z Z Z Z Z Z Z) (b5 Z ?_)))))))))
  first | refine b7 Z Z (C3 Z Z Z Z J J) ?_ | refine b7 Z Z (J0 Z Z Z Z) ?_
  refine b5 Z (b7 Z Z (s3 Z Z) (b5 Z (b7 Z Z (m4 G Z Z Z Z) (b5 Z (l5 G Z Z Z Z Z Z Z Z Z Z Z (a8 (hK5 _ ?_)))))))
  clear hK5 K5
  refine n9 (λK6 hK6=>?_)
  refine e9 (b5 Z (b7 Z Z (d3 Z Z) (b5 Z (b7 Z Z (d3 Z Z) (b5 Z (b7 Z Z (s3 Z Z) (b5 Z (b7 Z Z (m4 G Z Z Z Z) (b5 Z (b7 Z Z (o9 G Z Z Z Z Z Z Z) (b5 Z ?_)))))))))))
  first | refine b7 Z Z (C3 Z Z Z Z J J) ?_ | refine b7 Z Z (J0 Z Z Z Z) ?_
  refine b5 Z (b7 Z Z (d3 Z Z) (b5 Z (b7 Z Z (a2M G Z Z Z Z) (b5 Z ?_))))
  first | refine b7 Z Z (C3 Z Z Z Z J J) ?_ | refine b7 Z Z (J0 Z Z Z Z) ?_
  refine b5 Z ?_
  first | refine b7 Z Z (C3 Z Z Z Z J J) ?_ | refine b7 Z Z (J0 Z Z Z Z) ?_
  refine b5 Z (b7 Z Z (s3 Z Z) (b5 Z (b7 Z Z (m4 G Z Z Z Z) (b5 Z (l5 G Z Z Z Z Z Z Z Z Z Z Z (a8 (hK6 _ ?_)))))))
  clear hK6 K6
  refine n9 (λK7 hK7=>?_)
  refine n9 (λK8 hK8=>?_)
  refine a1Y mixed X (j7 Z (r9 Z Z (d3 Z Z) (j7 Z (r9 Z Z (s3 Z Z) (j7 Z (r9 Z Z (m4 G Z Z Z Z) (j7 Z (r9 Z Z (o9 G Z Z Z Z Z Z Z) (j7 Z (r9 Z Z (d3 Z Z) (j7 Z (r9 Z Z (s3 Z Z) (j7 Z (r9 Z Z (m4 G Z Z Z Z) (j7 Z (r9 Z Z (o9 G Z Z Z Z Z Z Z) (j7 Z ?_)))))))))))))))))
  first | refine r9 Z Z (a4e G Z Z Z Z (List.length_map _)) ?_ | refine r9 Z Z (a7l G Z Z Z Z) ?_
  refine j7 Z (r9 Z Z (a2p Z Z Z Z) (a5L (hK8 _ ?_)))
  clear hK8 K8
  refine o7 Z (λh2=>?_) (λh2=>?_)
  ·try rw [h2]
   try simp only [rfb] at h2
   refine n9 (λK9 hK9=>?_)
   refine e9 (b5 Z (b7 Z Z (d3 Z Z) (b5 Z (b7 Z Z (o8 Z Z) (a8 (hK9 _ ?_))))))
   clear hK9 K9
   refine a3s (id:=0) Z ?_
   refine g8 (u6 Z (p5 ?_) Z (AftOK.stays Z ?_ Z AftOK.nil))
   all_goals clear hK7 K7
   all_goals (first | (rw [b4z J];done) | (exfalso;omega) | (simp only [nxC,nxS];done) | (simp only [nxC,nxS,a8I (show ¬ x.a < (x.c.length:Int) by omega)];done) | (rw [a8J J];exact congrArg (Value.int .i64) (U8 (Int.le_trans (by decide) M6.1) (Int.le_trans M6.2 (by decide)))) | (rw [a8J J];simp only [nxT,nxS,a8I (show ¬ x.a < (x.c.length:Int) by omega)];exact congrArg (Value.int .i64) (U8 (Int.le_trans (by decide) M6.1) (Int.le_trans M6.2 (by decide)))))
  ·try rw [h2]
   try simp only [rfb] at h2
   refine F9 (hK7 _ ?_)
   clear hK7 K7
   refine n9 (λK10 hK10=>?_)
   refine e9 (b5 Z (b7 Z Z (d3 Z Z) (b5 Z (b7 Z Z (s3 Z Z) (b5 Z (b7 Z Z (m4 G Z Z Z Z) (b5 Z (b7 Z Z (o9 G Z Z Z Z Z Z Z) (b5 Z (b7 Z Z (b78 Z Z Z (by decide)) (b5 Z (b7 Z Z (b79 Z Z Z) (b5 Z (b7 Z Z (a2M G Z Z Z Z) (b5 Z (b7 Z Z (o8 Z Z) (a8 (hK10 _ ?_))))))))))))))))))
   clear hK10 K10
   exact c32
 ·try rw [h1]
  try simp only [rfb] at h1
  refine F9 (hK3 _ ?_)
  clear hK3 K3
  try rw [show IntKind.i64.wrap (x.c.getD x.a.toNat default)=nxB x from by rw [b8a (by assumption)] at hcb ⊢;exact U8 J J]
  refine n9 (λK11 hK11=>?_)
  refine e9 (b5 Z (b7 Z Z (d3 Z Z) (b5 Z (b7 Z Z (s3 Z Z) (b5 Z (b7 Z Z (m4 G Z Z Z Z) (b5 Z (b7 Z Z (o9 G Z Z Z Z Z Z Z) (b5 Z ?_)))))))))
  first | refine b7 Z Z (C3 Z Z Z Z J J) ?_ | refine b7 Z Z (J0 Z Z Z Z) ?_
  refine b5 Z (b7 Z Z (s3 Z Z) (b5 Z (b7 Z Z (m4 G Z Z Z Z) (b5 Z (l5 G Z Z Z Z Z Z Z Z Z Z Z (a8 (hK11 _ ?_)))))))
  clear hK11 K11
  refine n9 (λK12 hK12=>?_)
  refine e9 (b5 Z (b7 Z Z (d3 Z Z) (b5 Z (b7 Z Z (d3 Z Z) (b5 Z (b7 Z Z (s3 Z Z) (b5 Z (b7 Z Z (m4 G Z Z Z Z) (b5 Z (b7 Z Z (o9 G Z Z Z Z Z Z Z) (b5 Z ?_)))))))))))
  first | refine b7 Z Z (C3 Z Z Z Z J J) ?_ | refine b7 Z Z (J0 Z Z Z Z) ?_
  refine b5 Z (b7 Z Z (d3 Z Z) (b5 Z (b7 Z Z (a2M G Z Z Z Z) (b5 Z ?_))))
  first | refine b7 Z Z (C3 Z Z Z Z J J) ?_ | refine b7 Z Z (J0 Z Z Z Z) ?_
  refine b5 Z ?_
  first | refine b7 Z Z (C3 Z Z Z Z J J) ?_ | refine b7 Z Z (J0 Z Z Z Z) ?_
  refine b5 Z (b7 Z Z (s3 Z Z) (b5 Z (b7 Z Z (m4 G Z Z Z Z) (b5 Z (l5 G Z Z Z Z Z Z Z Z Z Z Z (a8 (hK12 _ ?_)))))))
  clear hK12 K12
  refine n9 (λK13 hK13=>?_)
  refine n9 (λK14 hK14=>?_)
  refine a1Y mixed X (j7 Z (r9 Z Z (d3 Z Z) (j7 Z (r9 Z Z (s3 Z Z) (j7 Z (r9 Z Z (m4 G Z Z Z Z) (j7 Z (r9 Z Z (o9 G Z Z Z Z Z Z Z) (j7 Z (r9 Z Z (d3 Z Z) (j7 Z (r9 Z Z (s3 Z Z) (j7 Z (r9 Z Z (m4 G Z Z Z Z) (j7 Z (r9 Z Z (o9 G Z Z Z Z Z Z Z) (j7 Z ?_)))))))))))))))))
  first | refine r9 Z Z (a4e G Z Z Z Z (List.length_map _)) ?_ | refine r9 Z Z (a7l G Z Z Z Z) ?_
  refine j7 Z (r9 Z Z (a2p Z Z Z Z) (a5L (hK14 _ ?_)))
  clear hK14 K14
  refine o7 Z (λh3=>?_) (λh3=>?_)
  ·try rw [h3]
   try simp only [rfb] at h3
   refine n9 (λK15 hK15=>?_)
   refine e9 (b5 Z (b7 Z Z (d3 Z Z) (b5 Z (b7 Z Z (o8 Z Z) (a8 (hK15 _ ?_))))))
   clear hK15 K15
   refine a3s (id:=0) Z ?_
   refine g8 (u6 Z (p5 ?_) Z (AftOK.stays Z ?_ Z AftOK.nil))
   all_goals clear hK13 K13
   all_goals (first | (rw [b4z J];done) | (exfalso;omega) | (simp only [nxC,nxS];done) | (simp only [nxC,nxS,a8I (show ¬ x.a < (x.c.length:Int) by omega)];done) | (rw [a8J J];exact congrArg (Value.int .i64) (U8 (Int.le_trans (by decide) M6.1) (Int.le_trans M6.2 (by decide)))) | (rw [a8J J];simp only [nxT,nxS,a8I (show ¬ x.a < (x.c.length:Int) by omega)];exact congrArg (Value.int .i64) (U8 (Int.le_trans (by decide) M6.1) (Int.le_trans M6.2 (by decide)))))
  ·try rw [h3]
   try simp only [rfb] at h3
   refine F9 (hK13 _ ?_)
   clear hK13 K13
   refine n9 (λK16 hK16=>?_)
   refine e9 (b5 Z (b7 Z Z (d3 Z Z) (b5 Z (b7 Z Z (s3 Z Z) (b5 Z (b7 Z Z (m4 G Z Z Z Z) (b5 Z (b7 Z Z (o9 G Z Z Z Z Z Z Z) (b5 Z (b7 Z Z (b78 Z Z Z (by decide)) (b5 Z (b7 Z Z (b79 Z Z Z) (b5 Z (b7 Z Z (a2M G Z Z Z Z) (b5 Z (b7 Z Z (o8 Z Z) (a8 (hK16 _ ?_))))))))))))))))))
   clear hK16 K16
   exact c32
theorem S0 (x:Cur) (n:Int) (h0:0<=x.a/\x.a<=4611686018427387000) (hc:H5 x.c):CtrM Tryz.prog 51 [.ptr 0 0,.v (.int .i64 n)] [.box [.lst 1 (x.c.map B9),.v (.int .i64 x.a),.v (.int .u64 x.s)]] (.one (.v (.int .i64 (pkV x n)))) [some (.box [.lst 1 ((pkC x n).c.map B9),.v (.int .i64 (pkC x n).a),.v (.int .u64 (pkC x n).s)])]:=by
 have hv1:=a9n hc
 have hv2:=a9n (x:=nxC x) hc
 have ha1:(nxC x).a=x.a+1:=rfl
 refine CtrM.of (n:=20) (k:=1) G Tryz.func51 Z a6 Z Z Z Z Z Z Z (λw0 _ hpin=>?_)
 refine zcd (λh1=>?_) (λh1=>?_)
 ·have hO:=c2u (x:=x) h1
  exact b9r
 refine m3 ?_
 refine H9 1 [0] Z Z Z (a00 x J hc) Z (RowsIn.cons Z RowsIn.nil) Z Z Z ?_
 refine zcd (λh2=>?_) (λh2=>?_)
 ·have hO:=c2w (x:=x) (n:=n) J J
  refine m3 ?_
  refine H9 1 [0] Z Z Z (a00 (nxC x) J hc) Z (RowsIn.cons Z RowsIn.nil) Z Z Z ?_
  exact c0n
 have hO:=c2v (x:=x) (n:=n) J J
 exact c0n
theorem a59 (x:Cur) (n:Int) (h0:0<=x.a/\x.a<=4611686018427387000) (hc:H5 x.c):CtrM Tryz.prog 126 [.ptr 0 0,.v (.int .i64 n)] [.box [.lst 1 (x.c.map B9),.v (.int .i64 x.a),.v (.int .u64 x.s)]] (.one (.v (.bool (pkV x n==0)))) [some (.box [.lst 1 ((pkC x n).c.map B9),.v (.int .i64 (pkC x n).a),.v (.int .u64 (pkC x n).s)])]:=by
 refine CtrM.of (n:=9) (k:=1) G Tryz.func126 Z a6 Z Z Z Z Z Z Z (λw0 _ hpin=>?_)
 refine m3 ?_
 refine H9 1 [0] Z Z Z (S0 x n J hc) Z (RowsIn.cons Z RowsIn.nil) Z Z Z ?_
 refine zgo ?_
 refine g8 (u6 Z (p5 ?_) Z (AftOK.stays Z ?_ Z AftOK.nil))
 all_goals (first | rfl | (simp;done))
theorem a4w (x:Cur) (l:List Int) (hn:1<=l.length/\l.length<=1048576) (h0:0<=x.a/\x.a<=4611686018427387000) (hc:H5 x.c):CtrM Tryz.prog 123 [.ptr 0 0,.own 1] [.box [.lst 1 (x.c.map B9),.v (.int .i64 x.a),.v (.int .u64 x.s)],.row 3 1 (l.map Rf.l8)] (.one (.v (.int .i64 (l.getD (pkV x l.length).toNat default)))) [some (.box [.lst 1 ((pkC x l.length).c.map B9),.v (.int .i64 (pkC x l.length).a),.v (.int .u64 (pkC x l.length).s)]),some (.row 3 1 (l.map Rf.l8))]:=by
 have hp:=b4B (x:=x) (n:=l.length) hc
 refine CtrM.of (n:=12) (k:=2) G Tryz.func123 Z a6 Z Z Z Z Z Z Z (λw0 _ hpin=>?_)
 refine m3 ?_
 refine H9 2 [0] Z Z Z (S0 x l.length J hc) Z (RowsIn.cons Z RowsIn.nil) Z Z Z ?_
 refine vm4 ?_
 refine b7Q ?_
 refine vm4 ?_
 refine b7 Z Z (s0 G Z Z Z Z Z (C7 J J) Z) ?_
 refine zgo ?_
 refine g8 (u6 Z (p5 ?_) Z (AftOK.stays Z ?_ Z (AftOK.stays Z ?_ Z AftOK.nil)))
 all_goals (first | rfl | (simp;done))
theorem p6 {x:Cur} {n:Int} (h:okC n x) (hn:n<=1000000000000) (k:Int):CtrX (α:=Int×Cur) Tryz.prog 51 [.ptr 0 0,.v (.int .i64 k)] [.box [.lst 1 (x.c.map B9),.v (.int .i64 x.a),.v (.int .u64 x.s)]] (λy=>(0<=y.1/\(y.1 < k∨(k<=1/\y.1=0)))/\okC (n+2) y.2) (λy=>.one (.v (.int .i64 y.1))) (λy=>[some (.box [.lst 1 (y.2.c.map B9),.v (.int .i64 y.2.a),.v (.int .u64 y.2.s)])]) :=
 CtrX.ofM (pkV x k,pkC x k) (S0 x k (h.big hn) h.1) ⟨b4B h.1,h.pk _⟩ Z Z
theorem a73 {x:Cur} {n:Int} (h:okC n x) (hn:n<=1000000000000) (k:Int):CtrX (α:=Bool×Cur) Tryz.prog 126 [.ptr 0 0,.v (.int .i64 k)] [.box [.lst 1 (x.c.map B9),.v (.int .i64 x.a),.v (.int .u64 x.s)]] (λy=>(True)/\okC (n+2) y.2) (λy=>.one (.v (.bool y.1))) (λy=>[some (.box [.lst 1 (y.2.c.map B9),.v (.int .i64 y.2.a),.v (.int .u64 y.2.s)])]) :=
 CtrX.ofM (pkV x k==0,pkC x k) (a59 x k (h.big hn) h.1) ⟨trivial,h.pk _⟩ Z Z
theorem F0 {x:Cur} {n:Int} (h:okC n x) (hn:n<=1000000000000) (l:List Int) (lo hi:Int) (hl:1<=l.length/\l.length<=1048576) (hb:∀z∈l,lo<=z/\z<=hi):CtrX (α:=Int×Cur) Tryz.prog 123 [.ptr 0 0,.own 1] [.box [.lst 1 (x.c.map B9),.v (.int .i64 x.a),.v (.int .u64 x.s)],.row 3 1 (l.map Rf.l8)] (λy=>(lo<=y.1/\y.1<=hi)/\okC (n+2) y.2) (λy=>.one (.v (.int .i64 y.1))) (λy=>[some (.box [.lst 1 (y.2.c.map B9),.v (.int .i64 y.2.a),.v (.int .u64 y.2.s)]),some (.row 3 1 (l.map Rf.l8))]) :=
 CtrX.ofM (l.getD (pkV x l.length).toNat default,pkC x l.length) (a4w x l hl (h.big hn) h.1) ⟨b6V hb (by have:=b4B (n:=l.length) h.1;omega),h.pk _⟩ Z Z
end Go.Proofs.YtcnodpipinlpcaaGreat
namespace Go.Proofs
open Go.Shelf
def Tryz.lays189_ren:Go.Shelf.Ren:=⟨fun | 189=>169 | 125=>211 | 257=>210 | 128=>251 | 129=>252 | 294=>242 | 295=>243 | 296=>244 | 297=>245 | 298=>246 | 299=>247 | 216=>248 | 300=>249 | 301=>250 | 328=>273 | 329=>274 | 330=>275 | 331=>276 | 332=>277 | 215=>272 | 343=>282 | n=>n,fun | 28=>26 | 3=>3 | 46=>188 | 0=>0 | 51=>239 | 53=>88 | 4=>4 | 183=>232 | 182=>231 | 131=>45 | 5=>5 | 9=>9 | 218=>254 | 222=>258 | 228=>262 | 229=>263 | n=>n,fun | n=>n⟩
theorem Tryz.lays189:Go.Proofs.Lays.n189 Tryz.prog Tryz.lays189_ren:={
 mixed:=by kernel_rfl
 f125:=Tryz.func211.trans (congrArg some (by kernel_rfl))
 f128:=Tryz.func251.trans (congrArg some (by kernel_rfl))
 f129:=Tryz.func252.trans (congrArg some (by kernel_rfl))
 f189:=Tryz.func169.trans (congrArg some (by kernel_rfl))
 f215:=Tryz.func272.trans (congrArg some (by kernel_rfl))
 f216:=Tryz.func248.trans (congrArg some (by kernel_rfl))
 f257:=Tryz.func210.trans (congrArg some (by kernel_rfl))
 f294:=Tryz.func242.trans (congrArg some (by kernel_rfl))
 f295:=Tryz.func243.trans (congrArg some (by kernel_rfl))
 f296:=Tryz.func244.trans (congrArg some (by kernel_rfl))
 f297:=Tryz.func245.trans (congrArg some (by kernel_rfl))
 f298:=Tryz.func246.trans (congrArg some (by kernel_rfl))
 f299:=Tryz.func247.trans (congrArg some (by kernel_rfl))
 f300:=Tryz.func249.trans (congrArg some (by kernel_rfl))
 f301:=Tryz.func250.trans (congrArg some (by kernel_rfl))
 f328:=Tryz.func273.trans (congrArg some (by kernel_rfl))
 f329:=Tryz.func274.trans (congrArg some (by kernel_rfl))
 f330:=Tryz.func275.trans (congrArg some (by kernel_rfl))
 f331:=Tryz.func276.trans (congrArg some (by kernel_rfl))
 f332:=Tryz.func277.trans (congrArg some (by kernel_rfl))
 f343:=Tryz.func282.trans (congrArg some (by kernel_rfl))
 t0:=Tryz.underlying0
 a0:=Tryz.isAgg0
 z0:=Tryz.sizeOf0
 v0:=Tryz.zeroValue0
 t3:=Tryz.underlying3
 a3:=Tryz.isAgg3
 z3:=Tryz.sizeOf3
 v3:=Tryz.zeroValue3
 t4:=Tryz.underlying4
 a4:=Tryz.isAgg4
 z4:=Tryz.sizeOf4
 v4:=Tryz.zeroValue4
 t5:=Tryz.underlying5
 a5:=Tryz.isAgg5
 z5:=Tryz.sizeOf5
 v5:=Tryz.zeroValue5
 t9:=Tryz.underlying9
 a9:=Tryz.isAgg9
 z9:=Tryz.sizeOf9
 v9:=Tryz.zeroValue9
 t28:=Tryz.underlying26
 a28:=Tryz.isAgg26
 z28:=Tryz.sizeOf26
 v28:=Tryz.zeroValue26
 t46:=Tryz.underlying188
 a46:=Tryz.isAgg188
 z46:=Tryz.sizeOf188
 v46:=Tryz.zeroValue188
 t51:=Tryz.underlying239
 a51:=Tryz.isAgg239
 z51:=Tryz.sizeOf239
 v51:=Tryz.zeroValue239
 t53:=Tryz.underlying88
 a53:=Tryz.isAgg88
 z53:=Tryz.sizeOf88
 v53:=Tryz.zeroValue88
 t131:=Tryz.underlying45
 a131:=Tryz.isAgg45
 z131:=Tryz.sizeOf45
 v131:=Tryz.zeroValue45
 t182:=Tryz.underlying231
 a182:=Tryz.isAgg231
 z182:=Tryz.sizeOf231
 v182:=Tryz.zeroValue231
 t183:=Tryz.underlying232
 a183:=Tryz.isAgg232
 z183:=Tryz.sizeOf232
 v183:=Tryz.zeroValue232
 t218:=Tryz.underlying254
 a218:=Tryz.isAgg254
 z218:=Tryz.sizeOf254
 v218:=Tryz.zeroValue254
 t222:=Tryz.underlying258
 a222:=Tryz.isAgg258
 z222:=Tryz.sizeOf258
 v222:=Tryz.zeroValue258
 t228:=Tryz.underlying262
 a228:=Tryz.isAgg262
 z228:=Tryz.sizeOf262
 v228:=Tryz.zeroValue262
 t229:=Tryz.underlying263
 a229:=Tryz.isAgg263
 z229:=Tryz.sizeOf263
 v229:=Tryz.zeroValue263 }
open Go.Sort Go.RowKit in
theorem Tryz.slices_Sort_int (blk off cap:Nat) (zs:List Int) (w:World) (hH:Holds (Value.int .i64) w blk off zs.toArray) (hblk:blk < w.heap.size) (hsz:zs.length < 4611686018427387904) :
 Calls Tryz.prog 169 #[.slice (some ⟨blk,off,none⟩) zs.length cap] w λe w' =>
  e=.returned (.tuple #[])/\∃n os,w'=grow (putRow (Value.int .i64) (Sort.ahead w n) blk off (zs.mergeSort λx y=>decide (x<=y)).toArray) os:=Any.slices_Sort_int Tryz.lays189 blk off cap zs w hH hblk hsz
open Go.RowKit Go.Sort in
theorem Tryz.slices_Sort_int_none (p:Option Addr) (cap:Nat) (w:World) :
 Calls Tryz.prog 169 #[.slice p 0 cap] w λe w'=>e=.returned (.tuple #[])/\w'=w:=Any.slices_Sort_int_none Tryz.lays189 p cap w
end Go.Proofs
namespace Go.Proofs.YtcnodpipinlpcaaGreat
open Go Go.Rf
theorem T7 (l:List Int) (hl:l.length<=1048576):CtrM Tryz.prog 169 [.own 0] [.row 3 1 (l.map Go.Rf.l8)] (.many []) [some (.row 3 1 ((srtI l).map Go.Rf.l8))] :=
 CtrM.sort ⟨_,Tryz.func169,by kernel_rfl,Z⟩ hl (λblk off cap w hH hb hs=>Tryz.slices_Sort_int blk off cap l w hH hb hs) (λp cap w=>Tryz.slices_Sort_int_none p cap w)
theorem a4x (x:Route) (c:Int) (hc:1<=c/\c<=2):Ctr Tryz.prog 165 [.v (b4J x),.ept [.int .i64 c]] (.one (.v (.bool (!a7E c x)))):=by
 refine Ctr.of (n:=16) G Tryz.func165 Z a6 Z Z Z (λw0=>?_)
 refine w8 ?_
 refine zcl (R9 _) ?_
 refine zcd (λh1=>?_) (λh1=>?_)
 ·refine zf1 ?_
  all_goals (first | rfl | (simp_all [a7E];done))
 refine zcl (O5 _ _ _) ?_
 refine zf1 ?_
 all_goals (first | rfl | (simp_all [a7E];done))
theorem J4 (xs:List Route) (f:Nat) (c:List Value) (p:Route→Bool) (hl:xs.length<=1048576) (hf:∀i,i < xs.length→Ctr Tryz.prog f [.v (b4J (xs.getD i default)),.ept c] (.one (.v (.bool (p (xs.getD i default)))))):Ctr Tryz.prog 205 [.lst 2 (xs.map n6),.fnc f [.ept c]] (.one (.v (.int .i64 (I0 (λi=>p (xs.getD i default)) xs.length)))):=by
 refine Ctr.of (n:=19) G Tryz.func205 Z a6 Z Z Z (λw0=>?_)
 exact ws9
theorem H1 (xs:List Route) (f:Nat) (c:List Value) (p:Route→Bool) (hl:xs.length<=1048576) (hf:∀i,i < xs.length→Ctr Tryz.prog f [.v (b4J (xs.getD i default)),.ept c] (.one (.v (.bool (p (xs.getD i default)))))):Ctr Tryz.prog 164 [.lst 2 (xs.map n6),.fnc f [.ept c]] (.one (.v (.bool (a0D xs.length (λi=>p (xs.getD i default)))))):=by
 refine Ctr.of (n:=9) G Tryz.func164 Z a6 Z Z Z (λw0=>?_)
 refine zcl (J4 xs f c p hl hf) ?_
 exact b3y
theorem U6 (rs:List Route) (c:Int) (hn:rs.length<=9223372036854775807):Ctr Tryz.prog 113 [.lst 2 (rs.map n6),.v (.int .i64 c)] (.one (.v (.bool (okRts rs c)))):=by
 refine Ctr.of (n:=18) G Tryz.func113 Z a6 Z Z Z (λw0=>?_)
 refine w8 ?_
 refine zcl (O5 _ _ _) ?_
 refine zcd (λh1=>?_) (λh1=>?_)
 ·refine zcd (λh2=>?_) (λh2=>?_)
  ·refine zgo ?_
   refine S9 ?_
   refine a7Z ?_
   refine zcl (H1 rs 165 [.int .i64 c] (λx=>!a7E c x) J (λk hk=>a4x _ _ (s7.mp b9))) ?_
   exact c2g
  exact c2g
 exact c2g
theorem a1N (rs:List Route) (c:Int) (hn:rs.length<=1048576) (hc:0<=c/\c<=1048576):Ctr Tryz.prog 130 [.lst 2 (rs.map n6),.v (.int .i64 c)] (.one (.v (.bool (okRts rs c)))):=by
 refine Ctr.of (n:=37) G Tryz.func130 Z a6 Z Z Z (λw0=>?_)
 refine zgo ?_
 refine f6 [0,1] [] (λ(i:Nat)=>[(5,.v (.int .i64 (i:Int)))]) (λ(i:Nat)=>[]) (λ(i:Nat)=>i<=rs.length/\∀j,j < i→a7E c (rs.getD j default)=true) (λ(i:Nat)=>rs.length - i) 0 Z Z ?_ ?_ ?_ ?_
 ·exact P3
 ·exact u3
 ·exact trivial
 intro i hinv
 refine vm2 ?_
 refine zcd (λh1=>?_) (λh1=>?_)
 ·refine zcl (U9 _) ?_
  refine zcd (λh2=>?_) (λh2=>?_)
  ·refine zwt ?_
   exact c2f
  refine a6D ?_
  refine zcd (λh3=>?_) (λh3=>?_)
  ·exact c2f
  refine zgo ?_
  refine ⟨(i+1),?_,?_,⟨⟨_,Z,by rfl⟩,Z,trivial⟩,trivial,Z,Z,Z⟩
  ·exact ⟨by omega,r5 hinv.2 (by simp_all [a7E])⟩
  omega
 refine a6D ?_
 refine zcd (λh4=>?_) (λh4=>?_)
 ·exact c2f
 refine zf1 ?_
 all_goals exact b8P
theorem a6P (rs:List Route) (l:List Int) (k:Nat) (h8:rs.length=8) (hn:l.length<=9223372036854775807):Ctr Tryz.prog 131 [.lst 2 (rs.map n6),.lst 1 (l.map Rf.l8),.v (.int .i64 (k:Int))] (.one (.v (.bool (stG rs l k)))):=by
 refine Ctr.of (n:=57) G Tryz.func131 Z a6 Z Z Z (λw0=>?_)
 refine zgo ?_
 refine f6 [0,1,2] [] (λ(i:Nat)=>[(7,.v (.int .i64 (i:Int)))]) (λ(i:Nat)=>[]) (λ(i:Nat)=>i<=l.length/\∀j,j < i→elS rs l k j=true) (λ(i:Nat)=>l.length - i) 0 Z Z ?_ ?_ ?_ ?_
 ·exact P3
 ·exact u3
 ·exact trivial
 intro i hinv
 have ht:((i:Int) - 1).toNat=i - 1:=J
 have hprev:0 < i→0<=l.getD ((i:Int) - 1).toNat default/\l.getD ((i:Int) - 1).toNat default<=7:=λh0=>(by rw [ht];exact (R2.mp (hinv.2 (i - 1) J)).1)
 refine vm2 ?_
 refine zcd (λh1=>?_) (λh1=>?_)
 ·refine zcl (R8 _) ?_
  refine zcd (λh2=>?_) (λh2=>?_)
  ·have hq:=N0 h2
   refine zwt ?_
   exact c2h
  have hq:=s7.mp h2
  refine zcd (λh3=>?_) (λh3=>?_)
  ·exact c2h
  refine zgd ?_
  refine zcd (λh4=>?_) (λh4=>?_)
  ·refine zcd (λh5=>?_) (λh5=>?_)
   ·exact c2h
   exact b9t
  refine zwf ?_
  exact b9t
 refine zf1 ?_
 all_goals exact b8Q
theorem a74 (rs:List Route) (a:Abs) (hs:SmallA a) (hn:rs.length<=1048576):Ctr Tryz.prog 58 [.lst 2 (rs.map n6),.agg [.lst 1 (a.en.map e7),.lst 1 (a.ra.map e7),.lst 1 (a.po.map e7),.lst 1 (a.ma.map Rf.l8),.nst none 1 (a.st.map p8)]] (.one (.v (.bool (absOK rs a)))):=by
 refine Ctr.of (n:=85) G Tryz.func58 Z a6 Z Z Z (λw0=>?_)
 refine j8 1 Z (λ_=>Z) (λu1=>?_)
 refine I2 ?_
 refine vm1 ?_
 refine zgn ?_
 refine E9 ?_
 refine I2 ?_
 refine G9 ?_
 refine vm4 ?_
 refine b7 Z Z (l9 Z (ArgsOK.of Z) (a1N rs _ hn (by have:=hs.ma;omega)) Z) ?_
 refine G9 ?_
 refine B3 Z Z Z (λh1=>?_) (λh1=>?_)
 ·try rw [h1]
  try simp only [rfb] at h1
  exact b1p
 try rw [h1]
 try simp only [rfb] at h1
 iterate 7 refine zst ?_
 refine B3 Z Z Z (λh2=>?_) (λh2=>?_)
 ·try rw [h2]
  try simp only [rfb] at h2
  exact b1p
 try rw [h2]
 try simp only [rfb] at h2
 refine a57 ?_
 refine B3 Z Z Z (λh3=>?_) (λh3=>?_)
 ·try rw [h3]
  try simp only [rfb] at h3
  exact b1p
 try rw [h3]
 try simp only [rfb] at h3
 refine a57 ?_
 refine B3 Z Z Z (λh4=>?_) (λh4=>?_)
 ·try rw [h4]
  try simp only [rfb] at h4
  exact b1p
 try rw [h4]
 try simp only [rfb] at h4
 refine zgn ?_
 refine o7 Z (λh5=>?_) (λh5=>?_)
 ·try rw [h5]
  try simp only [rfb] at h5
  exact b7W
 try rw [h5]
 try simp only [rfb] at h5
 have hrt:=s8.mp h1
 have hr8:=hrt.2.1
 have hl:a.st.length=a.ma.length/\a.en.length=8/\a.ra.length=8/\a.po.length=8:=⟨by omega,by omega,by omega,by omega⟩
 refine zgn ?_
 refine zgn ?_
 refine r7 (f6 [0,3,5] [0] (λ(k:Nat)=>[(6,.v (.int .i64 (k:Int)))]) (λ(k:Nat)=>[]) (λ(k:Nat)=>k<=a.ma.length/\∀j,j < k→a0E rs a j=true) (λ(k:Nat)=>a.ma.length - k) 0 Z Z ?_ ?_ ?_ ?_)
 ·exact P3
 ·exact u3
 ·exact trivial
 intro k hk
 refine vm2 ?_
 refine zgn ?_
 refine o7 Z (λh6=>?_) (λh6=>?_)
 ·try rw [h6]
  try simp only [rfb] at h6
  refine E9 ?_
  refine r7 (p7 ?_)
  refine I2 ?_
  refine a6O ?_
  refine vm4 ?_
  refine b6v ?_
  refine G9 ?_
  refine B3 Z Z Z (λh7=>?_) (λh7=>?_)
  ·try rw [h7]
   try simp only [rfb] at h7
   exact b1p
  try rw [h7]
  try simp only [rfb] at h7
  refine a6O ?_
  refine S9 ?_
  refine a4t ?_
  refine zst ?_
  refine S9 ?_
  refine b7 Z Z (l9 Z (ArgsOK.of Z) (a6P rs _ k hr8 (Nat.le_trans (hs.all k J) (by decide))) Z) ?_
  refine zgn ?_
  refine o7 Z (λh8=>?_) (λh8=>?_)
  ·try rw [h8]
   try simp only [rfb] at h8
   exact b7W
  try rw [h8]
  try simp only [rfb] at h8
  refine zgn ?_
  refine zgn ?_
  refine r7 (f6 [0,3,5,6] [0] (λ(i:Nat)=>[(7,.v (.int .i64 (i:Int)))]) (λ(i:Nat)=>[]) (λ(i:Nat)=>i<=(a.st.getD k default).length/\∀j,j < i→elP a.po (a.st.getD k default) j=true) (λ(i:Nat)=>(a.st.getD k default).length - i) 0 Z Z ?_ ?_ ?_ ?_)
  ·exact ⟨Nat.zero_le _,λj hj=>J⟩
  ·exact u3
  ·exact trivial
  intro i hinv
  have hlk:=hs.all k J
  refine vm2 ?_
  refine p7 ?_
  refine I2 ?_
  refine a6O ?_
  refine vm4 ?_
  refine a4t ?_
  refine zgn ?_
  refine o7 Z (λh9=>?_) (λh9=>?_)
  ·try rw [h9]
   try simp only [rfb] at h9
   have hel:=(R2.mp ((b0H h8).1 i J)).1
   refine b6q ?_
   refine a57 ?_
   refine j7 Z ?_
   refine a8n ?_
   refine zgn ?_
   refine o7 Z (λh10=>?_) (λh10=>?_)
   ·try rw [h10]
    try simp only [rfb] at h10
    exact b7W
   try rw [h10]
   try simp only [rfb] at h10
   refine b4d ?_
   refine ⟨(i+1),?_,?_,⟨⟨_,Z,by rfl⟩,Z,trivial⟩,trivial,Z,Z,Z⟩
   ·exact ⟨by omega,r5 hinv.2 (b2x.mpr b9)⟩
   omega
  try rw [h9]
  try simp only [rfb] at h9
  refine b4d ?_
  refine ⟨(k+1),?_,?_,⟨⟨_,Z,by rfl⟩,Z,trivial⟩,trivial,Z,Z,Z⟩
  ·exact ⟨by omega,r5 hk.2 (b64 h7 h8 (λj hj=>hinv.2 j J))⟩
  omega
 try rw [h6]
 try simp only [rfb] at h6
 refine zgn ?_
 refine a1M ?_
 all_goals exact b8F
theorem F1 (rs:List Route) (a:Abs) (hs:SmallA a) (hn:rs.length<=1048576):Ctr Tryz.prog 45 [.lst 2 (rs.map n6),.agg [.lst 1 (a.en.map e7),.lst 1 (a.ra.map e7),.lst 1 (a.po.map e7),.lst 1 (a.ma.map Rf.l8),.nst none 1 (a.st.map p8)]] (.one (.v (.bool (absOK rs a)))):=by
 refine Ctr.of (n:=111) G Tryz.func45 Z a6 Z Z Z (λw0=>?_)
 refine j8 1 Z (λ_=>Z) (λu1=>?_)
 refine I2 ?_
 refine vm1 ?_
 refine E9 ?_
 refine b4f ?_
 refine b7 Z Z (l9 Z (ArgsOK.of Z) (U6 _ _ a9b) Z) ?_
 refine G9 ?_
 refine B3 Z Z Z (λh1=>?_) (λh1=>?_)
 ·try rw [h1]
  try simp only [rfb] at h1
  exact a6H
 try rw [h1]
 try simp only [rfb] at h1
 iterate 9 refine zst ?_
 refine B3 Z Z Z (λh2=>?_) (λh2=>?_)
 ·try rw [h2]
  try simp only [rfb] at h2
  exact a6H
 try rw [h2]
 try simp only [rfb] at h2
 refine a57 ?_
 refine B3 Z Z Z (λh3=>?_) (λh3=>?_)
 ·try rw [h3]
  try simp only [rfb] at h3
  exact a6H
 try rw [h3]
 try simp only [rfb] at h3
 refine a57 ?_
 refine B3 Z Z Z (λh4=>?_) (λh4=>?_)
 ·try rw [h4]
  try simp only [rfb] at h4
  exact a6H
 try rw [h4]
 try simp only [rfb] at h4
 refine zgn ?_
 refine o7 Z (λh5=>?_) (λh5=>?_)
 ·try rw [h5]
  try simp only [rfb] at h5
  exact ws8
 try rw [h5]
 try simp only [rfb] at h5
 have hrt:=s8.mp h1
 have hr8:=hrt.2.1
 have hl:a.st.length=a.ma.length/\a.en.length=8/\a.ra.length=8/\a.po.length=8:=⟨by omega,by omega,by omega,by omega⟩
 refine zgn ?_
 refine zgn ?_
 refine r7 (f6 [0,3,43,44] [0] (λ(k:Nat)=>[(45,.v (.int .i64 (k:Int)))]) (λ(k:Nat)=>[]) (λ(k:Nat)=>k<=a.st.length/\∀j,j < k→a0E rs a j=true) (λ(k:Nat)=>a.st.length - k) 0 Z Z ?_ ?_ ?_ ?_)
 ·exact P3
 ·exact u3
 ·exact trivial
 intro k hk
 refine vm2 ?_
 refine zgn ?_
 refine p7 (o7 Z (λh6=>?_) (λh6=>?_))
 ·try rw [h6]
  try simp only [rfb] at h6
  refine E9 ?_
  refine r7 ?_
  refine I2 ?_
  refine G9 ?_
  refine vm4 ?_
  refine a4t ?_
  refine E9 ?_
  refine I2 ?_
  refine a6O ?_
  refine vm4 ?_
  refine b7 Z Z (l9 Z (ArgsOK.of Z) (a1k _) Z) ?_
  refine G9 ?_
  refine B3 Z Z Z (λh7=>?_) (λh7=>?_)
  ·try rw [h7]
   try simp only [rfb] at h7
   exact a6H
  try rw [h7]
  try simp only [rfb] at h7
  refine zgn ?_
  refine o7 Z (λh8=>?_) (λh8=>?_)
  ·try rw [h8]
   try simp only [rfb] at h8
   exact ws8
  try rw [h8]
  try simp only [rfb] at h8
  refine zgn ?_
  refine zgn ?_
  refine r7 (f6 [0,3,5,6,43,44,45,62,63] [0] (λ(i:Nat)=>[(64,.v (.int .i64 (i:Int)))]) (λ(i:Nat)=>[]) (λ(i:Nat)=>i<=(a.st.getD k default).length/\(∀j,j < i→elS rs (a.st.getD k default) k j=true)/\∀j,j < i→elP a.po (a.st.getD k default) j=true) (λ(i:Nat)=>(a.st.getD k default).length - i) 0 Z Z ?_ ?_ ?_ ?_)
  ·exact ⟨Nat.zero_le _,λj hj=>J,λj hj=>J⟩
  ·exact u3
  ·exact trivial
  intro i hinv
  have hlk:=hs.all k J
  have ht:((i:Int) - 1).toNat=i - 1:=J
  have hprev:0 < i→0<=(a.st.getD k default).getD ((i:Int) - 1).toNat default/\(a.st.getD k default).getD ((i:Int) - 1).toNat default<=7:=λh0=>(by rw [ht];exact (R2.mp (hinv.2.1 (i - 1) J)).1)
  refine vm2 ?_
  refine zgn ?_
  refine p7 (o7 Z (λh9=>?_) (λh9=>?_))
  ·try rw [h9]
   try simp only [rfb] at h9
   refine zgn ?_
   refine E9 ?_
   refine a9d ?_
   refine zst ?_
   refine j7 Z (r9 Z Z (l9 Z (ArgsOK.of Z) (N5 _) Z) ?_)
   refine G9 ?_
   refine Q6 Z Z Z (λh10=>?_) (λh10=>?_)
   ·try rw [h10]
    try simp only [rfb] at h10
    have hq:=N0 h10
    exact a6H
   try rw [h10]
   try simp only [rfb] at h10
   have hq:=s7.mp h10
   iterate 9 refine zst ?_
   refine Q6 Z Z Z (λh11=>?_) (λh11=>?_)
   ·try rw [h11]
    try simp only [rfb] at h11
    exact a6H
   try rw [h11]
   try simp only [rfb] at h11
   iterate 7 refine zst ?_
   refine Q6 Z Z Z (λh12=>?_) (λh12=>?_)
   ·try rw [h12]
    try simp only [rfb] at h12
    exact a6H
   try rw [h12]
   try simp only [rfb] at h12
   refine a6E ?_
   refine Q6 Z Z Z (λh13=>?_) (λh13=>?_)
   ·try rw [h13]
    try simp only [rfb] at h13
    refine a6E ?_
    refine a2j ?_
    refine b6p ?_
    refine zgn ?_
    refine o7 Z (λh14=>?_) (λh14=>?_)
    ·try rw [h14]
     try simp only [rfb] at h14
     exact ws8
    try rw [h14]
    try simp only [rfb] at h14
    exact c34
   try rw [h13]
   try simp only [rfb] at h13
   refine zgn ?_
   refine C2 Z ?_
   exact c34
  try rw [h9]
  try simp only [rfb] at h9
  refine zgn ?_
  refine e9 ?_
  refine vm4 ?_
  refine vm5 ?_
  refine zgn ?_
  refine ⟨(k+1),?_,?_,⟨⟨_,Z,by rfl⟩,Z,trivial⟩,trivial,Z,Z,Z⟩
  ·exact ⟨by omega,r5 hk.2 (b4L h7 J (λj hj=>hinv.2.1 j J) (λj hj=>hinv.2.2 j J))⟩
  omega
 try rw [h6]
 try simp only [rfb] at h6
 refine zgn ?_
 refine a1M ?_
 all_goals exact b8C
end Go.Proofs.YtcnodpipinlpcaaGreat
