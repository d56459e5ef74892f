/- Texts merged into one: M3, M4, M5. -/
import Derived.Test.YtcnodpipinlpcaaGreatPFnAbstractStepsB
set_option maxHeartbeats 4000000
set_option linter.unusedSimpArgs false
set_option linter.unusedVariables false
set_option maxRecDepth 20000
namespace Go.Proofs.YtcnodpipinlpcaaGreat
open Go Go.Rf
theorem a3T (sl:List Slot) (wa:List Wtr) (hl:sl.length≤1048576) (hw:wa.length≤1048576):Ctr Tryz.prog 232 [.lst 3 (sl.map p4),.lst 2 (wa.map s6)] (.one (.v (.bool (a5e ⟨sl,wa⟩)))):=by
 refine Ctr.of (n:=81) G Tryz.func232 rfl b5 rfl rfl rfl (fun w0=>?_)
 refine zgo ?_
 refine m4 [0,1] [] (fun (i:Nat)=>[(5,.v (.int .i64 (i:Int)))]) (fun (i:Nat)=>[]) (fun (i:Nat)=>i≤wa.length∧∀ j,j < i→oneWa sl wa j=true) (fun (i:Nat)=>wa.length - i) 0 rfl rfl ?_ ?_ ?_ ?_
 ·exact ⟨Nat.zero_le _,fun j hj=>by omega⟩
 ·exact ⟨⟨_,rfl,by (first | rfl | (simp;done) | (simp;omega))⟩,rfl,trivial⟩
 ·exact trivial
 intro i hinv
 have ht:0 < i→((i:Int) - 1).toNat=i - 1:=fun _=>(by omega)
 simp only [List.cons_append,List.nil_append]
 refine zcd (fun h1=>?_) (fun h1=>?_)
 ·refine zcd (fun h2=>?_) (fun h2=>?_)
  ·refine a8y ?_
   refine zcl (F9 _) ?_
   refine zcd (fun h3=>?_) (fun h3=>?_)
   ·refine zwt ?_
    refine zf1 ?_
    all_goals exact a5J
   refine zcl (Q4 _) ?_
   refine zcd (fun h4=>?_) (fun h4=>?_)
   ·refine zwt ?_
    refine zf1 ?_
    all_goals exact a5J
   refine zcl (A9 sl _ hl) ?_
   refine zcd (fun h5=>?_) (fun h5=>?_)
   ·refine zf1 ?_
    all_goals exact a5J
   refine zgd ?_
   refine zcd (fun h6=>?_) (fun h6=>?_)
   ·refine zcl (K0 _ _ _ _) ?_
    refine zcd (fun h7=>?_) (fun h7=>?_)
    ·refine zf1 ?_
     all_goals exact a5J
    refine zgo ?_
    refine m4 [0,1,5,6] [0] (fun (k:Nat)=>[(7,.v (.int .i64 (k:Int)))]) (fun (k:Nat)=>[]) (fun (k:Nat)=>k≤i∧∀ j,j < k→(wa.getD j default).q≠(wa.getD i default).q) (fun (k:Nat)=>i - k) 0 rfl rfl ?_ ?_ ?_ ?_
    ·exact ⟨Nat.zero_le _,fun j hj=>by omega⟩
    ·exact ⟨⟨_,rfl,by (first | rfl | (simp;done) | (simp;omega))⟩,rfl,trivial⟩
    ·exact trivial
    intro k hk
    simp only [List.cons_append,List.nil_append]
    refine zcd (fun h8=>?_) (fun h8=>?_)
    ·refine zgd ?_
     refine zcd (fun h9=>?_) (fun h9=>?_)
     ·refine zf1 ?_
      all_goals exact a5J
     refine zgo ?_
     refine ⟨(k+1),?_,?_,⟨⟨_,rfl,by rfl⟩,rfl,trivial⟩,trivial,rfl,rfl,rfl⟩
     ·exact ⟨by omega,a4Y hk.2 d8⟩
     omega
    refine zgo ?_
    refine ⟨(i+1),?_,?_,⟨⟨_,rfl,by rfl⟩,rfl,trivial⟩,trivial,rfl,rfl,rfl⟩
    ·exact ⟨by omega,p7 hinv.2 (I3.mpr ⟨p6.mp d8,p6.mp d8,by omega,fun j hj=>hk.2 j (by omega),b2C⟩)⟩
    omega
   refine zwf ?_
   refine zgo ?_
   refine m4 [0,1,5,6] [0] (fun (k:Nat)=>[(7,.v (.int .i64 (k:Int)))]) (fun (k:Nat)=>[]) (fun (k:Nat)=>k≤i∧∀ j,j < k→(wa.getD j default).q≠(wa.getD i default).q) (fun (k:Nat)=>i - k) 0 rfl rfl ?_ ?_ ?_ ?_
   ·exact ⟨Nat.zero_le _,fun j hj=>by omega⟩
   ·exact ⟨⟨_,rfl,by (first | rfl | (simp;done) | (simp;omega))⟩,rfl,trivial⟩
   ·exact trivial
   intro k hk
   simp only [List.cons_append,List.nil_append]
   refine zcd (fun h10=>?_) (fun h10=>?_)
   ·refine zgd ?_
    refine zcd (fun h11=>?_) (fun h11=>?_)
    ·refine zf1 ?_
     all_goals exact a5J
    refine zgo ?_
    refine ⟨(k+1),?_,?_,⟨⟨_,rfl,by rfl⟩,rfl,trivial⟩,trivial,rfl,rfl,rfl⟩
    ·exact ⟨by omega,a4Y hk.2 d8⟩
    omega
   refine zgo ?_
   refine ⟨(i+1),?_,?_,⟨⟨_,rfl,by rfl⟩,rfl,trivial⟩,trivial,rfl,rfl,rfl⟩
   ·exact ⟨by omega,p7 hinv.2 (I3.mpr ⟨p6.mp d8,p6.mp d8,by omega,fun j hj=>hk.2 j (by omega),b2C⟩)⟩
   omega
  refine zcl (a12 sl hl) ?_
  refine zcd (fun h12=>?_) (fun h12=>?_)
  ·refine zf1 ?_
   all_goals exact a5J
  refine zf1 ?_
  all_goals exact a5J
 refine zwf ?_
 refine zcl (a12 sl hl) ?_
 refine zcd (fun h13=>?_) (fun h13=>?_)
 ·refine zf1 ?_
  all_goals exact a5J
 refine zf1 ?_
 all_goals exact a5J
theorem a0p (q:Que) (hl:q.sl.length≤1048576) (hw:q.wa.length≤1048576):Ctr Tryz.prog 219 [.agg [.lst 3 (q.sl.map p4),.lst 2 (q.wa.map s6)]] (.one (.v (.bool (setd q)))):=by
 have hbb:=@a1O q.sl false
 refine Ctr.of (n:=42) G Tryz.func219 rfl b5 rfl rfl rfl (fun w0=>?_)
 refine r8 0 rfl (fun _=>rfl) (fun u0=>?_)
 refine zgo ?_
 refine vm6 ?_
 refine zcd (fun h1=>?_) (fun h1=>?_)
 ·refine zf1 ?_
  all_goals exact b19
 refine zcl (Z6 q.sl hl) ?_
 refine zcd (fun h2=>?_) (fun h2=>?_)
 ·refine zf1 ?_
  all_goals exact b19
 refine zcl (a0Y q.sl hl) ?_
 refine zgd ?_
 refine zcd (fun h3=>?_) (fun h3=>?_)
 ·refine zf1 ?_
  all_goals exact b19
 refine zcl (K0 _ _ _ _) ?_
 refine zf1 ?_
 all_goals exact b19
theorem a5K (q:Que) (hl:q.sl.length≤1048576) (hw:q.wa.length≤1048576):Ctr Tryz.prog 197 [.agg [.lst 3 (q.sl.map p4),.lst 2 (q.wa.map s6)]] (.one (.v (.bool (a7s q)))):=by
 refine Ctr.of (n:=12) G Tryz.func197 rfl b5 rfl rfl rfl (fun w0=>?_)
 refine r8 0 rfl (fun _=>rfl) (fun u0=>?_)
 refine zgo ?_
 refine vm6 ?_
 refine zcl (a3T q.sl q.wa hl hw) ?_
 refine zcd (fun h1=>?_) (fun h1=>?_)
 ·refine zcl (a0p q hl hw) ?_
  refine zf1 ?_
  all_goals exact b4N
 refine zf1 ?_
 all_goals exact b4N
end Go.Proofs.YtcnodpipinlpcaaGreat
set_option maxRecDepth 20000
namespace Go.Proofs.YtcnodpipinlpcaaGreat
open Go Go.Rf
theorem Z4 (wa:List Wtr) (w:Wtr) (hw:wa.length≤100000):Ctr Tryz.prog 187 [.lst 2 (wa.map s6),.v (b4i w)] (.one (.fr 183 2 ((insW wa w).map s6))):=by
 refine Ctr.of (n:=41) G Tryz.func187 rfl b5 rfl rfl rfl (fun w0=>?_)
 refine zgo ?_
 refine vm6 ?_
 refine zgo ?_
 refine m4 [0,3] [0] (fun (i:Nat)=>[(5,.v (.int .i64 (i:Int)))]) (fun (i:Nat)=>[]) (fun (i:Nat)=>i≤wa.length∧∀ j,j < i→lessW (wa.getD j default) w=true) (fun (i:Nat)=>wa.length - i) 0 rfl rfl ?_ ?_ ?_ ?_
 ·exact ⟨Nat.zero_le _,fun j hj=>by omega⟩
 ·exact ⟨⟨_,rfl,by (first | rfl | (simp;done) | (simp;omega))⟩,rfl,trivial⟩
 ·exact trivial
 intro i hinv
 simp only [List.cons_append,List.nil_append]
 refine zgd ?_
 refine zcd (fun h1=>?_) (fun h1=>?_)
 ·refine zcl (K0 _ _ _ _) ?_
  refine zcd (fun h2=>?_) (fun h2=>?_)
  ·refine zgo ?_
   refine ⟨(i+1),?_,?_,⟨⟨_,rfl,by rfl⟩,rfl,trivial⟩,trivial,rfl,rfl,rfl⟩
   ·exact ⟨by omega,p7 hinv.2 (by first | assumption | exact a4z.mp d8)⟩
   omega
  refine zgo ?_
  apply F4 [4] [1] 3 13 [0] m5 b5 rfl rfl (fun _ h=>znk h)
  ·intro r0
   refine vm1 ?_
   refine z8 (N:=2) rfl (s2 (fuel:=5) [⟨0,29,1,false,.row 183 2 []⟩] (AllVOK.cons (VOK.lit G rfl rfl rfl rfl rfl) (AllVOK.nil)) (fun hok=>?_))
   refine n6 [(4,[0]),(6,[])] b5 b5 (fun e he=>hok e he) b5 (AllVS.cons ?_ (AllVS.cons ?_ AllVS.nil))
   ·refine vm8 ?_
    clear hok
    refine a9 (rs:=[6]) b5 rfl (AllB.cons ?_ AllB.nil)
    refine m3 [0] rfl rfl (k6 G 3 rfl rfl rfl rfl rfl rfl rfl rfl (a4 ⟨rfl,?_⟩))
    refine a9 (rs:=[7]) b5 rfl (AllB.cons ?_ AllB.nil)
    refine m3 [0] rfl rfl (f7 G E8 rfl rfl rfl rfl rfl rfl rfl rfl rfl R2 rfl rfl (a4 ⟨rfl,?_⟩))
    refine a9 (rs:=[11]) b5 rfl (AllB.cons ?_ AllB.nil)
    refine m3 [0] rfl rfl (f7 G E8 rfl rfl rfl rfl rfl rfl rfl rfl rfl R2 rfl rfl (a4 ⟨rfl,?_⟩))
    refine zsa 12 ?_
    exact l9 b5 (Meet.mk rfl rfl rfl rfl)
   refine VStep.mk0 [0] rfl rfl (fun b1 _ hbn=>k6 G 3 rfl rfl rfl rfl rfl rfl rfl rfl (a4 rfl)) b5 b5 b5 b5 (n6 [(4,[0])] b5 b5 (fun e he=>hok e he) b5 (AllVS.cons ?_ AllVS.nil))
   refine vm8 ?_
   clear hok
   refine a9 (rs:=[7]) b5 rfl (AllB.cons ?_ AllB.nil)
   refine m3 [0] rfl rfl (f7 G E8 rfl rfl rfl rfl rfl rfl rfl rfl rfl R2 rfl rfl (a4 ⟨rfl,?_⟩))
   refine a9 (rs:=[11]) b5 rfl (AllB.cons ?_ AllB.nil)
   refine m3 [0] rfl rfl (f7 G E8 rfl rfl rfl rfl rfl rfl rfl rfl rfl R2 rfl rfl (a4 ⟨rfl,?_⟩))
   refine zsa 12 ?_
   exact l9 b5 (Meet.mk rfl rfl rfl rfl)
  refine zfo ?_
  all_goals exact b4O
 refine zwf ?_
 refine zgo ?_
 apply F4 [4] [1] 3 13 [0] m5 b5 rfl rfl (fun _ h=>znk h)
 ·intro r0
  refine vm1 ?_
  refine z8 (N:=2) rfl (s2 (fuel:=5) [⟨0,29,1,false,.row 183 2 []⟩] (AllVOK.cons (VOK.lit G rfl rfl rfl rfl rfl) (AllVOK.nil)) (fun hok=>?_))
  refine n6 [(4,[0]),(6,[])] b5 b5 (fun e he=>hok e he) b5 (AllVS.cons ?_ (AllVS.cons ?_ AllVS.nil))
  ·refine vm8 ?_
   clear hok
   refine a9 (rs:=[6]) b5 rfl (AllB.cons ?_ AllB.nil)
   refine m3 [0] rfl rfl (k6 G 3 rfl rfl rfl rfl rfl rfl rfl rfl (a4 ⟨rfl,?_⟩))
   refine a9 (rs:=[7]) b5 rfl (AllB.cons ?_ AllB.nil)
   refine m3 [0] rfl rfl (f7 G E8 rfl rfl rfl rfl rfl rfl rfl rfl rfl R2 rfl rfl (a4 ⟨rfl,?_⟩))
   refine a9 (rs:=[11]) b5 rfl (AllB.cons ?_ AllB.nil)
   refine m3 [0] rfl rfl (f7 G E8 rfl rfl rfl rfl rfl rfl rfl rfl rfl R2 rfl rfl (a4 ⟨rfl,?_⟩))
   refine zsa 12 ?_
   exact l9 b5 (Meet.mk rfl rfl rfl rfl)
  refine VStep.mk0 [0] rfl rfl (fun b1 _ hbn=>k6 G 3 rfl rfl rfl rfl rfl rfl rfl rfl (a4 rfl)) b5 b5 b5 b5 (n6 [(4,[0])] b5 b5 (fun e he=>hok e he) b5 (AllVS.cons ?_ AllVS.nil))
  refine vm8 ?_
  clear hok
  refine a9 (rs:=[7]) b5 rfl (AllB.cons ?_ AllB.nil)
  refine m3 [0] rfl rfl (f7 G E8 rfl rfl rfl rfl rfl rfl rfl rfl rfl R2 rfl rfl (a4 ⟨rfl,?_⟩))
  refine a9 (rs:=[11]) b5 rfl (AllB.cons ?_ AllB.nil)
  refine m3 [0] rfl rfl (f7 G E8 rfl rfl rfl rfl rfl rfl rfl rfl rfl R2 rfl rfl (a4 ⟨rfl,?_⟩))
  refine zsa 12 ?_
  exact l9 b5 (Meet.mk rfl rfl rfl rfl)
 refine zfo ?_
 all_goals exact b4O
end Go.Proofs.YtcnodpipinlpcaaGreat
set_option maxRecDepth 20000
namespace Go.Proofs.YtcnodpipinlpcaaGreat
open Go Go.Rf
theorem a3k (q:Que) (hl:q.sl.length≤1048576) (hw:q.wa.length≤1048576):Ctr Tryz.prog 218 [.agg [.lst 3 (q.sl.map p4),.lst 2 (q.wa.map s6)]] (.shp true [some 2] [.fr 154 3 (q.sl.map p4),.fr 183 2 (q.wa.map s6)]):=by
 refine Ctr.of (n:=12) G Tryz.func218 rfl b5 rfl rfl rfl (fun w0=>?_)
 refine r8 0 rfl (fun _=>rfl) (fun u0=>?_)
 refine a2p ?_
 refine zgn ?_
 refine G3 (j9 10 [0] m5 b5 rfl rfl (fun r0=>?_) (fun _ h=>h))
 refine zsa 1 ?_
 refine zsa 2 ?_
 refine zsa 5 ?_
 refine zsa 6 ?_
 refine z8 (N:=4) rfl (s2 (fuel:=4) [⟨0,3,2,false,.row 154 3 []⟩,⟨4,7,3,false,.row 183 2 []⟩] (AllVOK.cons (VOK.lit G rfl rfl rfl rfl rfl) (AllVOK.cons (VOK.lit G rfl rfl rfl rfl rfl) (AllVOK.nil))) (fun hok=>?_))
 refine n6 [(3,[0])] b5 b5 (fun e he=>hok e he) b5 (AllVS.cons ?_ AllVS.nil)
 refine VStep.mk1 [0] 3 (.own 2) 2 (.row 154 3 []) [⟨4,7,3,false,.row 183 2 []⟩] rfl rfl rfl rfl rfl (fun b1 _ hbn=>f7 G a0Q rfl rfl rfl rfl rfl rfl rfl rfl rfl u5 rfl rfl (a4 rfl)) b5 b5 b5 b5 (n6 [(7,[4])] b5 b5 (fun e he=>hok e (vin (is:=[0]) rfl he)) b5 (AllVS.cons ?_ AllVS.nil))
 refine VStep.mk1 [0] 7 (.own 3) 3 (.row 183 2 []) [] rfl rfl rfl rfl rfl (fun b1 _ hbn=>f7 G a0Q rfl rfl rfl rfl rfl rfl rfl rfl rfl u5 rfl rfl (a4 rfl)) b5 b5 b5 b5 (F8 ?_)
 clear hok
 refine a9 (rs:=[8]) b5 rfl (AllB.cons ?_ AllB.nil)
 refine a6S ?_
 refine a9 (rs:=[9]) b5 rfl (AllB.cons ?_ AllB.nil)
 refine a6S ?_
 refine T5 ?_
 refine c8 (l6 rfl rfl rfl rfl (a5 (b8 rfl ?_) (a5 (b8 rfl ?_) d4)))
 all_goals (first | rfl | simp)
end Go.Proofs.YtcnodpipinlpcaaGreat
