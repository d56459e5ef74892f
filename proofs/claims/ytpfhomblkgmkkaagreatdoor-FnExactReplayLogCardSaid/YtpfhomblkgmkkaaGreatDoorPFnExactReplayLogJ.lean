/- Texts merged into one: R2, R3, E. -/
import Derived.Test.YtpfhomblkgmkkaaGreatDoorPFnExactReplayLogI
import Derived.Test.YtpfhomblkgmkkaaGreatDoorRows
import Derived.LaidLaws
import Derived.Lib.LaidIn
import Derived.Stop.LaidErr
import Derived.HandedShaped
set_option maxHeartbeats 4000000
set_option linter.unusedSimpArgs false
set_option linter.unusedVariables false
set_option maxRecDepth 20000
namespace Go.Proofs.YtpfhomblkgmkkaaGreatDoor
open Go Go.Rf
theorem a7f (rs:List Route) (c:Int) (l:Lg) (hn:rs.length≤1048576) (hx:l.d.size+l.p.size≤1048576):Ctr Tryz.prog 20 [.lst 2 (rs.map p8),.v (.int .i64 c),.v (a5m l)] (.many [.v (.int .i64 (a7L rs c l).1),.v (.bool (a7L rs c l).2)]):=by
 have hlr:=@b5b l
 have hs0:SmallM (u3 rs c).1:=a7x
 have hx0:lg0.d.size+lg0.p.size≤1048576:=by decide
 refine Ctr.of (n:=58) G Tryz.func20 rfl b3 rfl rfl rfl (fun w0=>?_)
 refine vm1 ?_
 refine vm5 ?_
 refine d7 5 rfl rfl rfl (ArgsOK.of rfl) (a6r rs c hn) rfl rfl ?_
 refine vm5 ?_
 refine b4g ?_
 refine zcd (fun h1=>?_) (fun h1=>?_)
 ·have hO:=b8w (l:=l) h1
  refine zwt ?_
  refine zgo ?_
  refine c6 (g8 rfl rfl rfl rfl (a7 (c1 ?_) (a7 (c1 ?_) b9)))
  all_goals exact a0O
 refine zcl (a0c l hx) ?_
 refine zcd (fun h2=>?_) (fun h2=>?_)
 ·have hO:=b8x (rs:=rs) (c:=c) h2
  refine zgo ?_
  refine c6 (g8 rfl rfl rfl rfl (a7 (c1 ?_) (a7 (c1 ?_) b9)))
  all_goals exact a0O
 refine vm5 ?_
 refine d7 7 rfl rfl rfl (ArgsOK.of rfl) (a6t l hx) rfl rfl ?_
 refine zgo ?_
 refine i7 [8,10] [6] (fun (i:Nat)=>[(13,.v (.int .i64 (i:Int)))]) (fun (i:Nat)=>[(1,some (.row 83 2 ((Z2 (u3 rs c).1 lg0 (csL l) i).1.rs.map p8))),(2,some (.row 4 1 ((Z2 (u3 rs c).1 lg0 (csL l) i).1.en.map r3))),(3,some (.row 4 1 ((Z2 (u3 rs c).1 lg0 (csL l) i).1.ra.map r3))),(4,some (.nest 135 4 ((Z2 (u3 rs c).1 lg0 (csL l) i).1.cp.map (s6 169 182)) [])),(5,some (.box [.own 1,.own 2,.own 3,.own 4,.v (.string (Z2 (u3 rs c).1 lg0 (csL l) i).2.d),.v (.string (Z2 (u3 rs c).1 lg0 (csL l) i).2.p),.v (.int .i64 (Z2 (u3 rs c).1 lg0 (csL l) i).2.n)]))]) (fun (i:Nat)=>i≤(lrT l).length∧∀ j,j < i→a9z (u3 rs c).1 l j=false) (fun (i:Nat)=>(lrT l).length - i) 0 rfl rfl ?_ ?_ ?_ ?_
 ·exact ⟨Nat.zero_le _,fun j hj=>by omega⟩
 ·exact ⟨⟨_,rfl,by rfl⟩,rfl,trivial⟩
 ·exact ⟨⟨_,rfl,by rfl⟩,rfl,rfl,⟨⟨_,rfl,by rfl⟩,rfl,rfl,⟨⟨_,rfl,by rfl⟩,rfl,rfl,⟨⟨_,rfl,by rfl⟩,rfl,rfl,⟨⟨_,rfl,by rfl⟩,rfl,rfl,trivial⟩⟩⟩⟩⟩
 intro i hinv
 obtain ⟨hS,hL⟩:=a8u (cs:=csL l) hs0 hx0 i
 have hcs:=@c0Q l i
 simp only [List.cons_append,List.nil_append]
 refine zcd (fun h3=>?_) (fun h3=>?_)
 ·refine zgn ?_
  refine u4 (w7 (u4 (l4 12 [1,2,3,4,6] mixed b3 rfl rfl (fun r0=>?_) (fun _ h=>h))))
  refine zsa 1 ?_
  refine zsa 2 ?_
  refine e9 3 rfl b3 b3 rfl rfl rfl rfl (b8 G rfl rfl rfl rfl rfl (by omega) a1z) (e9 4 rfl b3 b3 rfl rfl rfl rfl (a1p G rfl rfl rfl rfl) ?_)
  first | refine e9 5 rfl b3 b3 rfl rfl rfl rfl (j6 G rfl rfl rfl rfl rfl (a1P (by omega)) rfl) ?_ | refine e9 5 rfl b3 b3 rfl rfl rfl rfl (j6 G rfl rfl rfl rfl rfl (B4 (by omega) (by omega)) rfl) ?_
  refine b5 (rs:=[0]) b3 rfl (AllB.cons ?_ AllB.nil)
  refine i1 [1,2,3,4,6] rfl rfl ?_
  refine vm9 ?_
  refine b5 (rs:=[6]) b3 rfl (AllB.cons ?_ AllB.nil)
  refine i1 [1,2,3,4,6] rfl rfl (d7 11 rfl rfl rfl (ArgsOK.of rfl) (a2Y (Z2 (u3 rs c).1 lg0 (csL l) i).1 (Z2 (u3 rs c).1 lg0 (csL l) i).2 (csL l i) hS hL (by omega)) rfl rfl (b4 ⟨rfl,?_⟩))
  refine zsa 7 ?_
  refine zsa 8 ?_
  refine zsa 9 ?_
  refine b5 (rs:=[10]) b3 rfl (AllB.cons ?_ AllB.nil)
  refine i1 [1,2,3,4,6] rfl rfl ?_
  refine vm9 ?_
  refine zsa 11 ?_
  refine G3 ?_
  refine vm5 ?_
  refine b6 rfl rfl (b8 G rfl rfl rfl rfl rfl (by omega) a1z) ?_
  refine o9 ?_
  refine c0b ?_
  refine o9 ?_
  refine c2N ?_
  refine o9 ?_
  refine b6 rfl rfl (z7 rfl rfl rfl rfl) ?_
  refine zcd (fun h4=>?_) (fun h4=>?_)
  ·have hO:=c0O h1 h2 hinv.2 (by omega) (c0M h4)
   refine zgo ?_
   refine c6 (g8 rfl rfl rfl rfl (a7 (c1 ?_) (a7 (c1 ?_) b9)))
   all_goals exact a0O
  refine zgn ?_
  refine a94 ?_
  refine G8 (Gh.sub 7 1 np rfl rfl rfl) (G8 (Gh.sub 8 2 np rfl rfl rfl) (G8 (Gh.sub 9 3 np rfl rfl rfl) (G8 (Gh.sub 10 4 np rfl rfl rfl) (b4 ⟨(i+1),?_,?_,⟨⟨_,rfl,by rfl⟩,rfl,trivial⟩,⟨⟨_,rfl,by rfl⟩,rfl,rfl,⟨⟨_,rfl,by rfl⟩,rfl,rfl,⟨⟨_,rfl,by rfl⟩,rfl,rfl,⟨⟨_,rfl,by rfl⟩,rfl,rfl,⟨⟨_,rfl,by rfl⟩,rfl,rfl,trivial⟩⟩⟩⟩⟩,rfl,rfl,rfl⟩))))
  ·exact ⟨by omega,i8 hinv.2 (c0N h4)⟩
  omega
 have hO:=c0P h1 h2 hinv.2 (by omega)
 refine zgo ?_
 refine c6 (g8 rfl rfl rfl rfl (a7 (c1 ?_) (a7 (c1 ?_) b9)))
 all_goals exact a0O
end Go.Proofs.YtpfhomblkgmkkaaGreatDoor
set_option maxRecDepth 20000
namespace Go.Proofs.YtpfhomblkgmkkaaGreatDoor
open Go Go.Rf
theorem a2e (rs:List Route) (c:Int) (l:Lg) (h0:rs.length≤9223372036854775807) (hb:l.d.size≤9223372036854775807∧l.p.size≤9223372036854775807):Ctr Tryz.prog 5 [.lst 2 (rs.map p8),.v (.int .i64 c),.v (a5m l)] (.one (.v (.bool true))):=by
 refine Ctr.of (n:=55) G Tryz.func5 rfl b3 rfl rfl rfl (fun w0=>?_)
 refine vm1 ?_
 refine zcl (a7Q rs 1048576 h0 (by omega)) ?_
 refine zcd (fun h1=>?_) (fun h1=>?_)
 ·refine zf1 ?_
  all_goals exact b3q
 have hr0:=c1z (n:=rs.length) (l:=1048576) (by omega)
 have hn:rs.length≤1048576:=by omega
 refine zcl (b2d l (szL rs.length 1048576) hb (by omega)) ?_
 refine zcd (fun h2=>?_) (fun h2=>?_)
 ·refine zf1 ?_
  all_goals exact b3q
 have hx:l.d.size+l.p.size≤1048576:=by (generalize szL rs.length 1048576=z at hr0 h2;unfold b76 at h2;(repeat' split at h2)<;>omega)
 refine zgn ?_
 refine u4 (l4 11 [0] mixed b3 rfl rfl (fun r0=>?_) (fun _ h=>h))
 refine zsa 0 ?_
 refine zsa 2 ?_
 refine zsa 3 ?_
 refine b5 (rs:=[1]) b3 rfl (AllB.cons ?_ AllB.nil)
 refine i1 [0] rfl rfl (d7 2 rfl rfl rfl (ArgsOK.of rfl) (a0y rs hn) rfl rfl (b4 ⟨rfl,?_⟩))
 refine b5 (rs:=[4]) b3 rfl (AllB.cons ?_ AllB.nil)
 refine i1 [0] rfl rfl (b6 rfl rfl (f6 rfl (ArgsOK.of rfl) (a6o l) rfl) (b4 ⟨rfl,?_⟩))
 refine b5 (rs:=[5]) b3 rfl (AllB.cons ?_ AllB.nil)
 refine i1 [0] rfl rfl (b6 rfl rfl (f6 rfl (ArgsOK.of rfl) (a7f rs c l hn hx) rfl) (b4 ⟨rfl,?_⟩))
 refine zsa 6 ?_
 refine zsa 7 ?_
 refine zsa 8 ?_
 refine zsa 9 ?_
 refine zsa 10 ?_
 refine G3 ?_
 refine vm5 ?_
 refine d7 3 rfl rfl rfl (ArgsOK.of rfl) (a0y rs hn) rfl rfl ?_
 refine zcl (a6o l) ?_
 refine zcl (a7e rs c l hn hx) ?_
 refine zcd (fun h3=>?_) (fun h3=>?_)
 ·refine H3 ?_
  all_goals exact b3q
 refine zgo ?_
 refine a0P ?_
 refine b6 rfl rfl (c25 (G 4 _ rfl).1 rfl rfl rfl) ?_
 refine zcd (fun h4=>?_) (fun h4=>?_)
 ·refine zf1 ?_
  all_goals exact b3q
 refine vm5 ?_
 refine d7 4 rfl rfl rfl (ArgsOK.of rfl) (a0y rs hn) rfl rfl ?_
 refine zcl (Ctr.bool (a71 rs rs h0) (decide_eq_true rfl)) ?_
 refine zwf ?_
 refine zf1 ?_
 all_goals exact b3q
end Go.Proofs.YtpfhomblkgmkkaaGreatDoor
namespace Go.Proofs.YtpfhomblkgmkkaaGreatDoor
open Go Go.ChangeShapes Go.WideShapes Go.ChangeAt Go.RowKit Go.Rf
theorem a3E {H:Type} {enc:TypeId×Value→H} {a:Assume} {C:Checked} {os:Os} {f:FuncId} {fn:Func} {s:ChangeSpec} {conds:List PathCond} {apart fresh handsOn again:Bool} {X:World→Array Value→Prop}
 (hX:∀ (w w':World) (args:Array Value),w.heap=w'.heap→X w args→X w' args)
 (own:ownKnob C.prog.godebug=none) (started:os.Started) (noInit:C.prog.inits.idxOf? f=none) (hfn:C.prog.funcs[f]?=some fn)
 (witness:∃ (w:World) (tape:Tape) (i:Input),w.os=os∧(w.forCall tape i).Shaped C.prog∧i.vars=[]∧Input.okWide C.prog (w.forCall tape i) .any w.heap.size f i ∧
  ((s.pre enc C.prog fn conds apart (w.forCall tape i).memory i.args∧X (w.forCall tape i).memory i.args)∧sizedMet enc C.prog fn (OpenSpec.ofChange s) apart (w.forCall tape i).memory i.args)∧a.holds C.prog (lone (Frame.enter C.prog f i.args .normal) [] (w.forCall tape i)))
 (contract:∀ (W:World) (base:Nat) (args:Array Value) (ds gs:List (DataW H)) (before:List MemPlace),
  (∀ (j:Nat) t v,fn.params[j]?=some t→args[j]?=some v→Value.okWide C.prog W .any base t v) →
  DataW.Whole enc C.prog fn.params.toList s.vars apart W args.toList ds gs before →
  W.ShapedOpen C.prog→X W args →
  Calls C.prog f args W fun e W'=>∃ v,e=.returned v∧s.post enc C.prog fn apart fresh handsOn again W args v W') :
 ReturnsInHanded a C os f .any (fun w args=>(s.pre enc C.prog fn conds apart w args∧X w args)∧sizedMet enc C.prog fn (OpenSpec.ofChange s) apart w args) (s.post enc C.prog fn apart fresh handsOn again):=by
 refine returnsInHanded_of_calls own started noInit witness ?_
 intro w tape i _ hsh _ hok hpre hholds
 obtain ⟨_,_,_,fn',hfn',_,_,_,_,hval⟩:=hok
 have e:fn'=fn:=Option.some.inj (hfn'.symm.trans hfn)
 subst e
 obtain ⟨⟨⟨ds,gs,before,hw,hc⟩,hx⟩,hz⟩:=hpre
 have hw':=DataW.Whole.of_heap (w':=w.forCall tape i) (by rfl) hw
 refine (contract (w.forCall tape i) w.heap.size i.args ds gs before hval hw' hsh (hX _ _ _ (by rfl) hx)).mono fun e W' ⟨v,he,hp⟩=>?_
 subst he
 exact ChangeSpec.post_blind hp
theorem own:ownKnob Tryz.prog.godebug=Option.none:=by kernel_rfl
theorem b2g:laidOutB Tryz.prog=true:=by kernel_rfl
abbrev a6v:List (String×DataW Unit):=[("math/bits.deBruijn32tab",Rows.laid_math_bits_deBruijn32tab),("math/bits.deBruijn64tab",Rows.laid_math_bits_deBruijn64tab),("internal/strconv.uint64pow10",Rows.laid_internal_strconv_uint64pow10),("unicode/utf8.acceptRanges",Rows.laid_unicode_utf8_acceptRanges),("strconv.ErrRange",Rows.laid_strconv_ErrRange),("strconv.ErrSyntax",Rows.laid_strconv_ErrSyntax),("unicode/utf8.first",Rows.laid_unicode_utf8_first)]
abbrev c4u:ByteArray:={ data:=#[105,110,118,97,108,105,100,32,115,121,110,116,97,120] }
abbrev c4v:ByteArray:={ data:=#[118,97,108,117,101,32,111,117,116,32,111,102,32,114,97,110,103,101] }
noncomputable def low:Nat:=(World.holding Tryz.prog default ⟨#[],#[],[]⟩).heap.size
noncomputable def b08 (os:Os):World :=
 let w0:=World.holding Tryz.prog os ⟨#[.cells #[.string c4u] 312,.cells #[.string c4v] 312],#[],[]⟩
 let put (h:Array Obj) (g:Nat) (cs:Array Value):Array Obj:=h.modify g fun
  | .cells _ t frozen=>.cells cs t frozen
  | o=>o
 let h1:=put w0.heap 6 #[.int .u8 0,.int .u8 1,.int .u8 28,.int .u8 2,.int .u8 29,.int .u8 14,.int .u8 24,.int .u8 3,.int .u8 30,.int .u8 22,.int .u8 20,.int .u8 15,.int .u8 25,.int .u8 17,.int .u8 4,.int .u8 8,.int .u8 31,.int .u8 27,.int .u8 13,.int .u8 23,.int .u8 21,.int .u8 19,.int .u8 16,.int .u8 7,.int .u8 26,.int .u8 12,.int .u8 18,.int .u8 6,.int .u8 11,.int .u8 5,.int .u8 10,.int .u8 9]
 let h2:=put h1 7 #[.int .u8 0,.int .u8 1,.int .u8 56,.int .u8 2,.int .u8 57,.int .u8 49,.int .u8 28,.int .u8 3,.int .u8 61,.int .u8 58,.int .u8 42,.int .u8 50,.int .u8 38,.int .u8 29,.int .u8 17,.int .u8 4,.int .u8 62,.int .u8 47,.int .u8 59,.int .u8 36,.int .u8 45,.int .u8 43,.int .u8 51,.int .u8 22,.int .u8 53,.int .u8 39,.int .u8 33,.int .u8 30,.int .u8 24,.int .u8 18,.int .u8 12,.int .u8 5,.int .u8 63,.int .u8 55,.int .u8 48,.int .u8 27,.int .u8 60,.int .u8 41,.int .u8 37,.int .u8 16,.int .u8 46,.int .u8 35,.int .u8 44,.int .u8 21,.int .u8 52,.int .u8 32,.int .u8 23,.int .u8 11,.int .u8 54,.int .u8 26,.int .u8 40,.int .u8 15,.int .u8 34,.int .u8 20,.int .u8 31,.int .u8 10,.int .u8 25,.int .u8 14,.int .u8 19,.int .u8 9,.int .u8 13,.int .u8 8,.int .u8 7,.int .u8 6]
 let h3:=put h2 3 #[.int .u64 1,.int .u64 10,.int .u64 100,.int .u64 1000,.int .u64 10000,.int .u64 100000,.int .u64 1000000,.int .u64 10000000,.int .u64 100000000,.int .u64 1000000000,.int .u64 10000000000,.int .u64 100000000000,.int .u64 1000000000000,.int .u64 10000000000000,.int .u64 100000000000000,.int .u64 1000000000000000,.int .u64 10000000000000000,.int .u64 100000000000000000,.int .u64 1000000000000000000,.int .u64 10000000000000000000]
 let h4:=put h3 5 #[.int .u8 128,.int .u8 191,.int .u8 160,.int .u8 191,.int .u8 128,.int .u8 159,.int .u8 144,.int .u8 191,.int .u8 128,.int .u8 143,.int .u8 0,.int .u8 0,.int .u8 0,.int .u8 0,.int .u8 0,.int .u8 0,.int .u8 0,.int .u8 0,.int .u8 0,.int .u8 0,.int .u8 0,.int .u8 0,.int .u8 0,.int .u8 0,.int .u8 0,.int .u8 0,.int .u8 0,.int .u8 0,.int .u8 0,.int .u8 0,.int .u8 0,.int .u8 0]
 let h5:=put h4 2 #[.iface 310 (.pointer (some ⟨low+1,0,none⟩))]
 let h6:=put h5 1 #[.iface 310 (.pointer (some ⟨low,0,none⟩))]
 let h7:=put h6 4 (Go.Pinned.utf8FirstZ.map (fun (n:Nat)=>Value.int .u8 (n:Int))).toArray
 { w0 with heap:=h7 }
theorem b8U (os:Os) (args:Array Value):laidMet Tryz.prog a6v ((b08 os).forCall (fun _ _=>0) ⟨#[],args,[]⟩).memory :=
 (LaidIn.of_run [6,7,3,5,2,low+1,1,low,4] 8 (by kernel_rfl) (by kernel_rfl) (by kernel_rfl) (by kernel_rfl)).met
theorem gP:Tryz.prog.globalNamed "internal/strconv.uint64pow10" = some 3:=by kernel_rfl
theorem c2T:(Tryz.prog.globals[3]?).map (·.type)=some 293:=by kernel_rfl
theorem c2U:Tryz.prog.cellsOf 246=1:=by kernel_rfl
theorem c2V:Tryz.prog.cellsOf 293=20:=by kernel_rfl
theorem c4w:(Rows.laid_internal_strconv_uint64pow10:DataW Unit)=Lib.tabData .u64 Lib.pow10Tab:=by kernel_rfl
theorem c2W {W:World} (h:laidMet Tryz.prog a6v W):Lib.TabIs Tryz.prog W "internal/strconv.uint64pow10" .u64 Lib.pow10Tab:=by
 have h2:=h.tail.tail
 rw [c4w] at h2
 exact Lib.tabIs_of_head gP c2T Tryz.underlying293 Tryz.underlying246 c2U c2V h2
theorem gES:Tryz.prog.globalNamed "strconv.ErrSyntax" = some 1:=by kernel_rfl
theorem c0c:(Tryz.prog.globals[1]?).map (·.type)=some 147:=by kernel_rfl
theorem b8V:Tryz.prog.cellsOf 312=1:=by kernel_rfl
theorem c2X:Tryz.prog.cellsOf 9=1:=by kernel_rfl
theorem c4a : "*" ++ "errors.errorString" = "*errors.errorString" := by decide
theorem c2Y (u:TypeId) (h:Tryz.prog.typeName? 3 u=some "*errors.errorString"):u=310 :=
 typeName_ptr_named (nm := "errors.errorString") (by rw [c4a];kernel_rfl) (by kernel_rfl) (by decide) u (by rw [c4a];exact h)
theorem c2Z {W:World} (h:laidMet Tryz.prog a6v W):∃ ev:Value,W.cell? ⟨1,0,none⟩=some ev∧(ev=.nilIface∨∃ te pe,ev=.iface te pe):=by
 obtain ⟨a0,s0,hv0,-,-,-⟩:=laid_sentinel h.tail.tail.tail.tail.tail gES c0c Tryz.underlying147 c2Y Tryz.underlying310 Tryz.underlying312 rfl rfl Tryz.underlying9 b8V c2X
 exact ⟨_,by have h0:=World.var?_cell gES hv0 0;simpa using h0,.inr ⟨_,_,rfl⟩⟩
theorem c22 {W:World} (h:laidMet Tryz.prog a6v W) (hsh:W.ShapedOpen Tryz.prog):Env.E Tryz.prog W:=⟨c2W h,c2Z h,b6s W hsh⟩
end Go.Proofs.YtpfhomblkgmkkaaGreatDoor
