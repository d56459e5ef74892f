/- Texts merged into one: M5, M9, M13, M14, W7. -/
import Derived.Test.YtpfhomblkgmkkaaGreatDoorPFnExactReplayLogB
set_option maxHeartbeats 4000000
set_option linter.unusedSimpArgs false
set_option linter.unusedVariables false
set_option maxRecDepth 20000
namespace Go.Proofs.YtpfhomblkgmkkaaGreatDoor
open Go Go.Rf
theorem V5 (q:Que) (hF:QF q):Ctr Tryz.prog 285 [.agg [.lst 3 (q.sl.map j8),.lst 2 (q.wa.map l1)]] (.shp true [some 2] [.fr 169 3 ((a13 q).sl.map j8),.fr 182 2 ((a13 q).wa.map l1) true]):=by
 have hq4:=hF.sl.len
 have hqw:=hF.wn
 refine Ctr.of (n:=47) G Tryz.func285 rfl b3 rfl rfl rfl (fun w0=>?_)
 refine o7 0 rfl (fun _=>rfl) (fun u0=>?_)
 refine T5 ?_
 refine vm5 ?_
 refine d7 4 rfl rfl rfl (ArgsOK.of rfl) (a7T q (by omega) (by omega)) rfl rfl ?_
 refine o9 ?_
 refine d8 G 5 rfl rfl rfl rfl rfl ?_
 refine zgo ?_
 refine i7 [2,3] [1,4] (fun (x:Que)=>[]) (fun (x:Que)=>[(2,some (.row 169 3 (x.sl.map j8))),(3,some (.row 182 2 (x.wa.map l1) true))]) (fun (x:Que)=>QF x∧a13 x=a13 q) (fun (x:Que)=>phi x) q rfl rfl ?_ ?_ ?_ ?_
 ·exact ⟨hF,rfl⟩
 ·exact trivial
 ·exact ⟨⟨_,rfl,by rfl⟩,rfl,rfl,⟨⟨_,rfl,by rfl⟩,rfl,rfl,trivial⟩⟩
 intro x hinv
 have hFx:=hinv.1
 have hl4:=hFx.sl.len
 have hwn:=hFx.wn
 have hf:=@b69 x.sl
 have hb:=@a1w x.sl false
 simp only [List.cons_append,List.nil_append]
 refine zcl (a19 x (by omega) (by omega) hFx.sl.difS) ?_
 refine zcd (fun h1=>?_) (fun h1=>?_)
 ·obtain ⟨hw0,hbb⟩:=b4J hFx h1
  have hnx:=b0E hFx h1
  obtain ⟨hF2,hphi⟩:=b0C hFx h1
  refine zgn ?_
  refine w7 (u4 (l4 10 [1,2,3,4] mixed b3 rfl rfl (fun r0=>?_) (fun _ h=>h)))
  refine zsa 0 ?_
  refine zsa 1 ?_
  first | refine e9 2 rfl b3 b3 rfl rfl rfl rfl (b8 G rfl rfl rfl rfl rfl (by omega) (by omega)) ?_ | refine e9 2 rfl b3 b3 rfl rfl rfl rfl (b8 G rfl rfl rfl rfl rfl (by omega) C3) ?_
  first | refine e9 3 rfl b3 b3 rfl rfl rfl rfl (d3 G rfl rfl rfl rfl (a1P (by omega)) rfl) ?_ | refine e9 3 rfl b3 b3 rfl rfl rfl rfl (d3 G rfl rfl rfl rfl (a0f (by omega) (by omega)) rfl) ?_ | refine e9 3 rfl b3 b3 rfl rfl rfl rfl (d3 G rfl rfl rfl rfl (B4 (by omega) (by omega)) rfl) ?_ | refine e9 3 rfl b3 b3 rfl rfl rfl rfl (d3 G rfl rfl rfl rfl (B4 (by omega) C3) rfl) ?_
  refine zsa 4 ?_
  refine zsa 5 ?_
  refine w3 (N:=6) rfl (p4 (fuel:=3) [⟨7,4,5,true,.box (avR [.int .i64 0,.int .i64 0] [])⟩] (AllVOK.cons (VOK.boxS G rfl rfl rfl rfl rfl) (AllVOK.nil)) (fun hok=>?_))
  refine j3 [(6,[])] b3 b3 (fun e he=>hok e he) b3 (AllVS.cons ?_ AllVS.nil)
  refine VStep.mk0 [1,2,3,4] rfl rfl (fun b1 _ hbn=>b6 rfl rfl (f6 rfl (ArgsOK.of rfl) (a1B x.sl (by omega)) rfl) (b4 rfl)) b3 b3 b3 b3 (j3 [(8,[7])] b3 b3 (fun e he=>hok e he) b3 (AllVS.cons ?_ AllVS.nil))
  refine VStep.mk1 [1,2,3,4] 4 (.ptr 5 0) 5 (.box (avR [.int .i64 0,.int .i64 0] [])) [] rfl rfl rfl rfl rfl (fun b1 _ hbn=>j7 G rfl rfl rfl rfl rfl rfl rfl rfl rfl rfl rfl (b4 rfl)) b3 b3 b3 b3 (B3 ?_)
  clear hok
  refine zsa 9 ?_
  refine G3 ?_
  refine vm5 ?_
  refine b9r G 7 rfl rfl rfl rfl rfl rfl rfl rfl u5 u5 ?_
  refine zcd (fun h2=>?_) (fun h2=>?_)
  ·refine zcl (R7 x.sl false (by omega) hFx.sl.difS) ?_
   refine zgo ?_
   apply x5 [2,3,4,5] [1,2,4,5,7] 8 11 [1,2,5,6] mixed b3 rfl rfl (fun _ h=>znk h)
   ·intro r0
    refine zsa 0 ?_
    refine zsa 2 ?_
    refine zsa 4 ?_
    refine b5 (rs:=[1,3]) b3 rfl (AllB.cons ?_ (AllB.cons ?_ AllB.nil))
    ·refine b6r ?_
     refine b5 (rs:=[3]) b3 rfl (AllB.cons ?_ AllB.nil)
     refine c3T ?_
     refine b5 (rs:=[7]) b3 rfl (AllB.cons ?_ AllB.nil)
     refine i1 [1,2,5,6] rfl rfl (b6 rfl rfl (f6 rfl (ArgsOK.of rfl) (y8 _) rfl) (b4 ⟨rfl,?_⟩))
     refine b5 (rs:=[8]) b3 rfl (AllB.cons ?_ AllB.nil)
     refine i1 [1,2,5,6] rfl rfl (d7 8 rfl rfl rfl (ArgsOK.of (by rw [b7p];rfl)) (J2 (x.wa.drop 1) _ b5y) rfl rfl (b4 ⟨rfl,?_⟩))
     refine zsa 9 ?_
     refine b5 (rs:=[10]) b3 rfl (AllB.cons ?_ AllB.nil)
     refine b6r ?_
     exact l6 b3 (Meet.mk rfl rfl rfl rfl)
    refine c3T ?_
    refine b5 (rs:=[1,7]) b3 rfl (AllB.cons ?_ (AllB.cons ?_ AllB.nil))
    ·refine b6r ?_
     refine b5 (rs:=[7]) b3 rfl (AllB.cons ?_ AllB.nil)
     refine i1 [1,2,5,6] rfl rfl (b6 rfl rfl (f6 rfl (ArgsOK.of rfl) (y8 _) rfl) (b4 ⟨rfl,?_⟩))
     refine b5 (rs:=[8]) b3 rfl (AllB.cons ?_ AllB.nil)
     refine i1 [1,2,5,6] rfl rfl (d7 8 rfl rfl rfl (ArgsOK.of (by rw [b7p];rfl)) (J2 (x.wa.drop 1) _ b5y) rfl rfl (b4 ⟨rfl,?_⟩))
     refine zsa 9 ?_
     refine b5 (rs:=[10]) b3 rfl (AllB.cons ?_ AllB.nil)
     refine b6r ?_
     exact l6 b3 (Meet.mk rfl rfl rfl rfl)
    refine i1 [1,2,5,6] rfl rfl (b6 rfl rfl (f6 rfl (ArgsOK.of rfl) (y8 _) rfl) (b4 ⟨rfl,?_⟩))
    refine b5 (rs:=[1]) b3 rfl (AllB.cons ?_ AllB.nil)
    refine b6r ?_
    refine b5 (rs:=[8]) b3 rfl (AllB.cons ?_ AllB.nil)
    refine i1 [1,2,5,6] rfl rfl (d7 8 rfl rfl rfl (ArgsOK.of (by rw [b7p];rfl)) (J2 (x.wa.drop 1) _ b5y) rfl rfl (b4 ⟨rfl,?_⟩))
    refine zsa 9 ?_
    refine b5 (rs:=[10]) b3 rfl (AllB.cons ?_ AllB.nil)
    refine b6r ?_
    exact l6 b3 (Meet.mk rfl rfl rfl rfl)
   refine H6 (Gh.tl (id:=7) rfl) ?_
   refine c3V ?_
   refine G8 (Gh.sub 7 3 np rfl rfl rfl) (b4 ⟨(stQ x),?_,?_,trivial,⟨⟨_,rfl,by (first | rfl | (rw [r6 (q:=x) (by omega)];exact congrArg (fun z=>Row.row _ _ z) (a12 (f:=j8) (x:=⟨1,_,_⟩))) | (rw [v7 (q:=x) (by omega)];exact congrArg (fun z=>Row.row _ _ z) (a12 (f:=j8) (x:=⟨1,_,_⟩))) | (rw [r6 (q:=x) (by omega)];exact congrArg (fun z=>Row.row _ _ z true) (List.map_drop).symm) | (rw [v7 (q:=x) (by omega)];done) | (rw [v7 (q:=x) (by omega)];rfl) | (rw [r6 (q:=x) (by omega)];done) | (rw [r6 (q:=x) (by omega)];rfl) | (rw [r6 (q:=x) (by omega)];exact congrArg (fun z=>Row.row _ _ z true) a0r)| (rw [v7 (q:=x) (by omega)];exact congrArg (fun z=>Row.row _ _ z true) a0r))⟩,rfl,rfl,⟨⟨_,rfl,by (first | rfl | (rw [r6 (q:=x) (by omega)];exact congrArg (fun z=>Row.row _ _ z) (a12 (f:=j8) (x:=⟨1,_,_⟩))) | (rw [v7 (q:=x) (by omega)];exact congrArg (fun z=>Row.row _ _ z) (a12 (f:=j8) (x:=⟨1,_,_⟩))) | (rw [r6 (q:=x) (by omega)];exact congrArg (fun z=>Row.row _ _ z true) (List.map_drop).symm) | (rw [v7 (q:=x) (by omega)];done) | (rw [v7 (q:=x) (by omega)];rfl) | (rw [r6 (q:=x) (by omega)];done) | (rw [r6 (q:=x) (by omega)];rfl) | (rw [r6 (q:=x) (by omega)];exact congrArg (fun z=>Row.row _ _ z true) a0r)| (rw [v7 (q:=x) (by omega)];exact congrArg (fun z=>Row.row _ _ z true) a0r))⟩,rfl,rfl,trivial⟩⟩,rfl,rfl,rfl⟩)
   ·exact ⟨hF2,hnx▸hinv.2⟩
   exact hphi
  refine zgn ?_
  refine H6 (Gh.tl (id:=6) rfl) ?_
  refine c3V ?_
  refine G8 (Gh.sub 6 3 np rfl rfl rfl) (b4 ⟨(stQ x),?_,?_,trivial,⟨⟨_,rfl,by (first | rfl | (rw [r6 (q:=x) (by omega)];exact congrArg (fun z=>Row.row _ _ z) (a12 (f:=j8) (x:=⟨1,_,_⟩))) | (rw [v7 (q:=x) (by omega)];exact congrArg (fun z=>Row.row _ _ z) (a12 (f:=j8) (x:=⟨1,_,_⟩))) | (rw [r6 (q:=x) (by omega)];exact congrArg (fun z=>Row.row _ _ z true) (List.map_drop).symm) | (rw [v7 (q:=x) (by omega)];done) | (rw [v7 (q:=x) (by omega)];rfl) | (rw [r6 (q:=x) (by omega)];done) | (rw [r6 (q:=x) (by omega)];rfl) | (rw [r6 (q:=x) (by omega)];exact congrArg (fun z=>Row.row _ _ z true) a0r)| (rw [v7 (q:=x) (by omega)];exact congrArg (fun z=>Row.row _ _ z true) a0r))⟩,rfl,rfl,⟨⟨_,rfl,by (first | rfl | (rw [r6 (q:=x) (by omega)];exact congrArg (fun z=>Row.row _ _ z) (a12 (f:=j8) (x:=⟨1,_,_⟩))) | (rw [v7 (q:=x) (by omega)];exact congrArg (fun z=>Row.row _ _ z) (a12 (f:=j8) (x:=⟨1,_,_⟩))) | (rw [r6 (q:=x) (by omega)];exact congrArg (fun z=>Row.row _ _ z true) (List.map_drop).symm) | (rw [v7 (q:=x) (by omega)];done) | (rw [v7 (q:=x) (by omega)];rfl) | (rw [r6 (q:=x) (by omega)];done) | (rw [r6 (q:=x) (by omega)];rfl) | (rw [r6 (q:=x) (by omega)];exact congrArg (fun z=>Row.row _ _ z true) a0r)| (rw [v7 (q:=x) (by omega)];exact congrArg (fun z=>Row.row _ _ z true) a0r))⟩,rfl,rfl,trivial⟩⟩,rfl,rfl,rfl⟩)
  ·exact ⟨hF2,hnx▸hinv.2⟩
  exact hphi
 have hd:=b0F h1
 refine zgo ?_
 refine c6 (d9 rfl rfl rfl rfl (a7 (b7 rfl ?_) (a7 (b7 rfl ?_) b9)))
 all_goals ((rw [← hinv.2,hd];done))
theorem a6h (q:Que) (hl:q.sl.length≤1048576) (hw:q.wa.length≤1048576):Ctr Tryz.prog 137 [.agg [.lst 3 (q.sl.map j8),.lst 2 (q.wa.map l1)]] (.shp true [some 2] [.fr 169 3 (q.sl.map j8),.fr 182 2 (q.wa.map l1)]):=by
 refine Ctr.of (n:=12) G Tryz.func137 rfl b3 rfl rfl rfl (fun w0=>?_)
 refine o7 0 rfl (fun _=>rfl) (fun u0=>?_)
 refine T5 ?_
 refine zgn ?_
 refine u4 (l4 10 [0] mixed b3 rfl rfl (fun r0=>?_) (fun _ h=>h))
 refine zsa 1 ?_
 refine zsa 2 ?_
 refine a1f ?_
 refine w3 (N:=4) rfl (p4 (fuel:=4) [⟨0,3,2,false,.row 169 3 []⟩,⟨4,7,3,false,.row 182 2 []⟩] (AllVOK.cons (VOK.lit G rfl rfl rfl rfl rfl) (AllVOK.cons (VOK.lit G rfl rfl rfl rfl rfl) (AllVOK.nil))) (fun hok=>?_))
 refine j3 [(3,[0])] b3 b3 (fun e he=>hok e he) b3 (AllVS.cons ?_ AllVS.nil)
 refine VStep.mk1 [0] 3 (.own 2) 2 (.row 169 3 []) [⟨4,7,3,false,.row 182 2 []⟩] rfl rfl rfl rfl rfl (fun b1 _ hbn=>g9 G N3 rfl rfl rfl rfl rfl rfl rfl rfl rfl C3 rfl rfl (b4 rfl)) b3 b3 b3 b3 (j3 [(7,[4])] b3 b3 (fun e he=>hok e (vin (is:=[0]) rfl he)) b3 (AllVS.cons ?_ AllVS.nil))
 refine c2H ?_
 clear hok
 refine b5 (rs:=[8]) b3 rfl (AllB.cons ?_ AllB.nil)
 refine a2U ?_
 refine b5 (rs:=[9]) b3 rfl (AllB.cons ?_ AllB.nil)
 refine a2U ?_
 refine G3 ?_
 refine c6 (d9 rfl rfl rfl rfl (a7 (b7 rfl ?_) (a7 (b7 rfl ?_) b9)))
 all_goals (first | rfl | simp)
end Go.Proofs.YtpfhomblkgmkkaaGreatDoor
set_option maxRecDepth 20000
namespace Go.Proofs.YtpfhomblkgmkkaaGreatDoor
open Go Go.Rf
theorem a3A (a b:Int):Ctr Tryz.prog 243 [.v (.int .i64 a),.v (.int .i64 b)] (.one (.v (.int .i64 (min a b)))):=by
 refine Ctr.of (n:=10) G Tryz.func243 rfl b3 rfl rfl rfl (fun w0=>?_)
 refine zcd (fun h1=>?_) (fun h1=>?_)
 ·refine zf1 ?_
  all_goals (simp_all;omega)
 refine zf1 ?_
 all_goals (simp_all;omega)
theorem a7U (sl:List Slot) (lim:Int) (hF:SlF sl):Ctr Tryz.prog 283 [.lst 3 (sl.map j8),.v (.int .i64 lim)] (.many [.fr 169 3 ((tkT sl lim).1.map j8),.v (.int .i64 (tkT sl lim).2.1),.v (.bool (tkT sl lim).2.2)]):=by
 have hl4:=hF.len
 have hb:=@a1w sl true
 have hf:=@a2z sl
 refine Ctr.of (n:=33) G Tryz.func283 rfl b3 rfl rfl rfl (fun w0=>?_)
 refine zcl (R7 sl true (by omega) hF.difS) ?_
 refine zcd (fun h1=>?_) (fun h1=>?_)
 ·refine zwt ?_
  refine zgo ?_
  refine c6 (g8 rfl rfl rfl rfl (a7 (r8 ?_) (a7 (c1 ?_) (a7 (c1 ?_) b9))))
  all_goals exact b8D
 refine zcd (fun h2=>?_) (fun h2=>?_)
 ·refine zgo ?_
  refine c6 (g8 rfl rfl rfl rfl (a7 (r8 ?_) (a7 (c1 ?_) (a7 (c1 ?_) b9))))
  all_goals exact b8D
 refine a3x ?_
 refine zgn ?_
 refine zgn ?_
 refine u4 (l4 9 [0] mixed b3 rfl rfl (fun r0=>?_) (fun _ h=>h))
 refine zsa 0 ?_
 refine zsa 1 ?_
 refine zsa 2 ?_
 refine zsa 4 ?_
 refine zsa 5 ?_
 refine b5 (rs:=[3]) b3 rfl (AllB.cons ?_ AllB.nil)
 refine i1 [0] rfl rfl (d7 2 rfl rfl rfl (ArgsOK.of rfl) (a2M sl _ ⟨_,_,_⟩ (by omega) (by omega)) rfl rfl (b4 ⟨rfl,?_⟩))
 refine zsa 6 ?_
 refine zsa 7 ?_
 refine zsa 8 ?_
 refine G3 ?_
 refine c6 (g8 rfl rfl rfl rfl (a7 (b7 rfl ?_) (a7 (c1 ?_) (a7 (c1 ?_) b9))))
 all_goals exact b8D
theorem a99 (sl:List Slot) (lim:Int) (hF:SlF sl) (hk:a2A sl lim=true):Ctr Tryz.prog 293 [.lst 3 (sl.map j8),.v (.int .i64 lim)] (.many [.fr 169 3 ((tkS sl).map j8),.v (.int .i64 (tkI sl))]):=by
 have hl4:=hF.len
 have hb:=@a1w sl true
 have hf:=@a2z sl
 have hkk:=a0l.mp hk
 refine Ctr.of (n:=33) G Tryz.func293 rfl b3 rfl rfl rfl (fun w0=>?_)
 refine zcl (a2O sl (by omega)) ?_
 refine zcd (fun h1=>?_) (fun h1=>?_)
 ·exfalso;omega
 refine zcd (fun h2=>?_) (fun h2=>?_)
 ·exfalso;omega
 refine a3x ?_
 refine zgn ?_
 refine zgn ?_
 refine u4 (l4 8 [0] mixed b3 rfl rfl (fun r0=>?_) (fun _ h=>h))
 refine zsa 0 ?_
 refine zsa 1 ?_
 refine zsa 2 ?_
 refine zsa 4 ?_
 refine zsa 5 ?_
 refine b5 (rs:=[3]) b3 rfl (AllB.cons ?_ AllB.nil)
 refine i1 [0] rfl rfl (d7 2 rfl rfl rfl (ArgsOK.of rfl) (P8 sl _ ⟨_,_,_⟩ (by omega) (by omega)) rfl rfl (b4 ⟨rfl,?_⟩))
 refine zsa 6 ?_
 refine zsa 7 ?_
 refine G3 ?_
 refine c6 (g8 rfl rfl rfl rfl (a7 (b7 rfl ?_) (a7 (c1 ?_) b9)))
 all_goals (rfl)
theorem b0a (sl:List Slot) (irq p:Int) (hF:SlF sl) (h0:0≤u7 sl irq):Ctr Tryz.prog 310 [.lst 3 (sl.map j8),.v (.int .i64 irq),.v (.int .i64 p)] (.many [.fr 169 3 ((ptS sl irq).map j8),.v (.bool true)]):=by
 have hl4:=hF.len
 have hf:=@a2z sl irq
 refine Ctr.of (n:=38) G Tryz.func310 rfl b3 rfl rfl rfl (fun w0=>?_)
 refine zcl (E7 sl irq (by omega)) ?_
 refine zcd (fun h1=>?_) (fun h1=>?_)
 ·refine a3x ?_
  refine zcd (fun h2=>?_) (fun h2=>?_)
  ·refine b98 ?_
   refine c6 (g8 rfl rfl rfl rfl (a7 (b7 rfl ?_) (a7 (c1 ?_) b9)))
   all_goals exact b5f
  refine b98 ?_
  refine c6 (g8 rfl rfl rfl rfl (a7 (b7 rfl ?_) (a7 (c1 ?_) b9)))
  all_goals exact b5f
 exfalso;omega
theorem b2a (sl:List Slot) (irq p:Int) (hF:SlF sl) (h0:0≤u7 sl irq):Ctr Tryz.prog 315 [.lst 3 (sl.map j8),.v (.int .i64 irq),.v (.int .i64 p)] (.many [.fr 169 3 ((ptS sl irq).map j8),.v (.bool true)]):=by
 have hl4:=hF.len
 have hf:=@a2z sl irq
 refine Ctr.of (n:=39) G Tryz.func315 rfl b3 rfl rfl rfl (fun w0=>?_)
 refine zcl (F6 sl irq (by omega)) ?_
 refine zcd (fun h1=>?_) (fun h1=>?_)
 ·refine a3x ?_
  refine zcd (fun h2=>?_) (fun h2=>?_)
  ·refine c2Q ?_
   refine c6 (g8 rfl rfl rfl rfl (a7 (b7 rfl ?_) (a7 (c1 ?_) b9)))
   all_goals exact b5f
  refine c2Q ?_
  refine c6 (g8 rfl rfl rfl rfl (a7 (b7 rfl ?_) (a7 (c1 ?_) b9)))
  all_goals exact b5f
 exfalso;omega
theorem V6 (q:Que) (hl:q.sl.length≤1048576) (hw:q.wa.length≤1048576):Ctr Tryz.prog 166 [.agg [.lst 3 (q.sl.map j8),.lst 2 (q.wa.map l1)]] (.shp true [some 2] [.fr 169 3 (q.sl.map j8),.fr 182 2 (q.wa.map l1)]):=by
 refine Ctr.of (n:=12) G Tryz.func166 rfl b3 rfl rfl rfl (fun w0=>?_)
 refine o7 0 rfl (fun _=>rfl) (fun u0=>?_)
 refine T5 ?_
 refine zgn ?_
 refine u4 (l4 10 [0] mixed b3 rfl rfl (fun r0=>?_) (fun _ h=>h))
 refine zsa 1 ?_
 refine zsa 2 ?_
 refine a1f ?_
 refine w3 (N:=4) rfl (p4 (fuel:=4) [⟨0,3,2,false,.row 169 3 []⟩,⟨4,7,3,false,.row 182 2 []⟩] (AllVOK.cons (VOK.lit G rfl rfl rfl rfl rfl) (AllVOK.cons (VOK.lit G rfl rfl rfl rfl rfl) (AllVOK.nil))) (fun hok=>?_))
 refine j3 [(3,[0])] b3 b3 (fun e he=>hok e he) b3 (AllVS.cons ?_ AllVS.nil)
 refine VStep.mk1 [0] 3 (.own 2) 2 (.row 169 3 []) [⟨4,7,3,false,.row 182 2 []⟩] rfl rfl rfl rfl rfl (fun b1 _ hbn=>g9 G N3 rfl rfl rfl rfl rfl rfl rfl rfl rfl C3 rfl rfl (b4 rfl)) b3 b3 b3 b3 (j3 [(7,[4])] b3 b3 (fun e he=>hok e (vin (is:=[0]) rfl he)) b3 (AllVS.cons ?_ AllVS.nil))
 refine c2H ?_
 clear hok
 refine b5 (rs:=[8]) b3 rfl (AllB.cons ?_ AllB.nil)
 refine a2U ?_
 refine b5 (rs:=[9]) b3 rfl (AllB.cons ?_ AllB.nil)
 refine a2U ?_
 refine G3 ?_
 refine c6 (d9 rfl rfl rfl rfl (a7 (b7 rfl ?_) (a7 (b7 rfl ?_) b9)))
 all_goals (first | rfl | simp)
theorem a7V (q:Que) (irq p:Int) (hF:QF q) (hi:0≤irq∧irq≤7) (hp:0≤p∧p≤15):Ctr Tryz.prog 282 [.agg [.lst 3 (q.sl.map j8),.lst 2 (q.wa.map l1)],.v (.int .i64 irq),.v (.int .i64 p)] (.shp true [some 2] [.fr 169 3 ((a3o q irq p).sl.map j8),.fr 182 2 ((a3o q irq p).wa.map l1) true]):=by
 have hl4:=hF.sl.len
 have hwn:=hF.wn
 have hQ:=(b3X (irq:=irq) (p:=p) hF hi hp).1
 refine Ctr.of (n:=40) G Tryz.func282 rfl b3 rfl rfl rfl (fun w0=>?_)
 refine o7 0 rfl (fun _=>rfl) (fun u0=>?_)
 refine T5 ?_
 refine vm5 ?_
 refine d7 4 rfl rfl rfl (ArgsOK.of rfl) (V6 q (by omega) (by omega)) rfl rfl ?_
 refine o9 ?_
 refine d8 G 5 rfl rfl rfl rfl rfl ?_
 refine zcl (E7 q.sl irq (by omega)) ?_
 refine zcd (fun h1=>?_) (fun h1=>?_)
 ·have ho:=b7z (p:=p) h1
  rw [ho] at hQ
  refine vm5 ?_
  refine d7 6 rfl rfl rfl (ArgsOK.of rfl) (b0a q.sl irq p hF.sl h1) rfl rfl ?_
  refine vm5 ?_
  refine d7 8 rfl rfl rfl (ArgsOK.of rfl) (V5 _ hQ) rfl rfl ?_
  refine zgo ?_
  refine c6 (d9 rfl rfl rfl rfl (a7 (b7 rfl ?_) (a7 (b7 rfl ?_) b9)))
  all_goals exact b01
 refine zcl (a1h q.wa irq (by omega)) ?_
 refine zcd (fun h2=>?_) (fun h2=>?_)
 ·have ho:=b7A (p:=p) h1 h2
  rw [ho] at hQ
  refine vm5 ?_
  refine d7 6 rfl rfl rfl (ArgsOK.of rfl) (J2 q.wa ⟨irq,p⟩ (by omega)) rfl rfl ?_
  refine vm5 ?_
  refine d7 8 rfl rfl rfl (ArgsOK.of rfl) (V5 _ hQ) rfl rfl ?_
  refine zgo ?_
  refine c6 (d9 rfl rfl rfl rfl (a7 (b7 rfl ?_) (a7 (b7 rfl ?_) b9)))
  all_goals exact b01
 have ho:=b7B (p:=p) h1 h2
 rw [ho] at hQ
 refine vm5 ?_
 refine d7 7 rfl rfl rfl (ArgsOK.of rfl) (V5 _ hQ) rfl rfl ?_
 refine zgo ?_
 refine c6 (d9 rfl rfl rfl rfl (a7 (b7 rfl ?_) (a7 (b7 rfl ?_) b9)))
 all_goals exact b01
theorem J3 (q:Que) (hF:QF q):Ctr Tryz.prog 295 [.agg [.lst 3 (q.sl.map j8),.lst 2 (q.wa.map l1)]] (.shp true [some 2] [.fr 169 3 ((a13 q).sl.map j8),.fr 182 2 ((a13 q).wa.map l1)]):=by
 have hq4:=hF.sl.len
 have hqw:=hF.wn
 refine Ctr.of (n:=56) G Tryz.func295 rfl b3 rfl rfl rfl (fun w0=>?_)
 refine o7 0 rfl (fun _=>rfl) (fun u0=>?_)
 refine T5 ?_
 refine vm5 ?_
 refine d7 4 rfl rfl rfl (ArgsOK.of rfl) (a6h q (by omega) (by omega)) rfl rfl ?_
 refine o9 ?_
 refine d8 G 5 rfl rfl rfl rfl rfl ?_
 refine zgo ?_
 refine i7 [2,3] [1,4] (fun (x:Que)=>[]) (fun (x:Que)=>[(2,some (.row 169 3 (x.sl.map j8))),(3,some (.row 182 2 (x.wa.map l1)))]) (fun (x:Que)=>QF x∧a13 x=a13 q) (fun (x:Que)=>phi x) q rfl rfl ?_ ?_ ?_ ?_
 ·exact ⟨hF,rfl⟩
 ·exact trivial
 ·exact ⟨⟨_,rfl,by rfl⟩,rfl,rfl,⟨⟨_,rfl,by rfl⟩,rfl,rfl,trivial⟩⟩
 intro x hinv
 have hFx:=hinv.1
 have hl4:=hFx.sl.len
 have hwn:=hFx.wn
 have hf:=@b69 x.sl
 have hb:=@a1w x.sl false
 simp only [List.cons_append,List.nil_append]
 refine zcl (a2a x (by omega) (by omega)) ?_
 refine zcd (fun h1=>?_) (fun h1=>?_)
 ·obtain ⟨hw0,hbb⟩:=b4J hFx h1
  have hnx:=b0E hFx h1
  obtain ⟨hF2,hphi⟩:=b0C hFx h1
  refine vm5 ?_
  first | refine b6 rfl rfl (b8 G rfl rfl rfl rfl rfl (by omega) (by omega)) ?_ | refine b6 rfl rfl (b8 G rfl rfl rfl rfl rfl (by omega) C3) ?_
  refine o9 ?_
  first | refine b6 rfl rfl (d3 G rfl rfl rfl rfl (a1P (by omega)) rfl) ?_ | refine b6 rfl rfl (d3 G rfl rfl rfl rfl (a0f (by omega) (by omega)) rfl) ?_ | refine b6 rfl rfl (d3 G rfl rfl rfl rfl (B4 (by omega) (by omega)) rfl) ?_ | refine b6 rfl rfl (d3 G rfl rfl rfl rfl (B4 (by omega) C3) rfl) ?_
  refine o9 ?_
  refine b4g ?_
  refine vm5 ?_
  refine s2 G 7 rfl rfl rfl rfl rfl rfl rfl rfl ?_
  refine vm5 ?_
  refine c2P ?_
  refine o9 ?_
  refine a8H G np rfl rfl rfl rfl rfl rfl rfl (ArgOK.sub rfl u5) rfl C3 rfl rfl ?_
  refine zgn ?_
  refine b9f (id:=6) ((x.wa.drop 1).map l1) rfl a0r ?_
  refine zcl (a4o x.sl (by omega)) ?_
  refine zcd (fun h2=>?_) (fun h2=>?_)
  ·refine zcl (a2P x.sl (by omega)) ?_
   refine zgn ?_
   refine l4 16 [1,2,3,4,5,6] mixed b3 rfl rfl (fun r0=>?_) (fun _ h=>h)
   refine a1e ?_
   first | refine e9 4 rfl b3 b3 rfl rfl rfl rfl (b8 G rfl rfl rfl rfl rfl (by omega) (by omega)) ?_ | refine e9 4 rfl b3 b3 rfl rfl rfl rfl (b8 G rfl rfl rfl rfl rfl (by omega) C3) ?_
   refine e9 5 rfl b3 b3 rfl rfl rfl rfl (a1p G rfl rfl rfl rfl) ?_
   first | refine e9 6 rfl b3 b3 rfl rfl rfl rfl (j6 G rfl rfl rfl rfl rfl (a1P (by omega)) rfl) ?_ | refine e9 6 rfl b3 b3 rfl rfl rfl rfl (j6 G rfl rfl rfl rfl rfl (a0f (by omega) (by omega)) rfl) ?_ | refine e9 6 rfl b3 b3 rfl rfl rfl rfl (j6 G rfl rfl rfl rfl rfl (B4 (by omega) (by omega)) rfl) ?_ | refine e9 6 rfl b3 b3 rfl rfl rfl rfl (j6 G rfl rfl rfl rfl rfl (B4 (by omega) C3) rfl) ?_
   refine zsa 7 ?_
   refine zsa 8 ?_
   refine zsa 9 ?_
   first | refine e9 10 rfl b3 b3 rfl rfl rfl rfl (b8 G rfl rfl rfl rfl rfl (by omega) (by omega)) ?_ | refine e9 10 rfl b3 b3 rfl rfl rfl rfl (b8 G rfl rfl rfl rfl rfl (by omega) C3) ?_
   refine e9 11 rfl b3 b3 rfl rfl rfl rfl (a1p G rfl rfl rfl rfl) ?_
   first | refine e9 12 rfl b3 b3 rfl rfl rfl rfl (j6 G rfl rfl rfl rfl rfl (a1P (by omega)) rfl) ?_ | refine e9 12 rfl b3 b3 rfl rfl rfl rfl (j6 G rfl rfl rfl rfl rfl (a0f (by omega) (by omega)) rfl) ?_ | refine e9 12 rfl b3 b3 rfl rfl rfl rfl (j6 G rfl rfl rfl rfl rfl (B4 (by omega) (by omega)) rfl) ?_ | refine e9 12 rfl b3 b3 rfl rfl rfl rfl (j6 G rfl rfl rfl rfl rfl (B4 (by omega) C3) rfl) ?_
   refine zsa 13 ?_
   refine b5 (rs:=[14]) b3 rfl (AllB.cons ?_ AllB.nil)
   refine i1 [1,2,3,4,5,6] rfl rfl (d7 8 rfl rfl rfl (ArgsOK.of rfl) (a0a (x.wa.drop 1) ⟨_,_⟩ b5y) rfl rfl (b4 ⟨rfl,?_⟩))
   refine zsa 15 ?_
   refine G3 ?_
   refine vm5 ?_
   refine d7 9 rfl rfl rfl (ArgsOK.of rfl) (P8 x.sl _ ⟨1,_,_⟩ (by omega) (by omega)) rfl rfl ?_
   iterate 3 refine zst ?_
   refine G8 (Gh.sub 8 2 np rfl rfl rfl) (G8 (Gh.sub 7 3 np rfl rfl rfl) (b4 ⟨(stQ x),?_,?_,trivial,⟨⟨_,rfl,by (first | rfl | (rw [r6 (q:=x) (by omega)];exact congrArg (fun z=>Row.row _ _ z) (a12 (f:=j8) (x:=⟨1,_,_⟩))) | (rw [v7 (q:=x) (by omega)];exact congrArg (fun z=>Row.row _ _ z) (a12 (f:=j8) (x:=⟨1,_,_⟩))) | (rw [r6 (q:=x) (by omega)];exact congrArg (fun z=>Row.row _ _ z) (List.map_drop).symm) | (rw [v7 (q:=x) (by omega)];done) | (rw [v7 (q:=x) (by omega)];rfl) | (rw [r6 (q:=x) (by omega)];done) | (rw [r6 (q:=x) (by omega)];rfl) | (rw [r6 (q:=x) (by omega)];exact congrArg (fun z=>Row.row _ _ z) a0r)| (rw [v7 (q:=x) (by omega)];exact congrArg (fun z=>Row.row _ _ z) a0r))⟩,rfl,rfl,⟨⟨_,rfl,by (first | rfl | (rw [r6 (q:=x) (by omega)];exact congrArg (fun z=>Row.row _ _ z) (a12 (f:=j8) (x:=⟨1,_,_⟩))) | (rw [v7 (q:=x) (by omega)];exact congrArg (fun z=>Row.row _ _ z) (a12 (f:=j8) (x:=⟨1,_,_⟩))) | (rw [r6 (q:=x) (by omega)];exact congrArg (fun z=>Row.row _ _ z) (List.map_drop).symm) | (rw [v7 (q:=x) (by omega)];done) | (rw [v7 (q:=x) (by omega)];rfl) | (rw [r6 (q:=x) (by omega)];done) | (rw [r6 (q:=x) (by omega)];rfl) | (rw [r6 (q:=x) (by omega)];exact congrArg (fun z=>Row.row _ _ z) a0r)| (rw [v7 (q:=x) (by omega)];exact congrArg (fun z=>Row.row _ _ z) a0r))⟩,rfl,rfl,trivial⟩⟩,rfl,rfl,rfl⟩))
   ·exact ⟨hF2,hnx▸hinv.2⟩
   exact hphi
  refine vm5 ?_
  refine d7 8 rfl rfl rfl (ArgsOK.of rfl) (P8 x.sl _ ⟨1,_,_⟩ (by omega) (by omega)) rfl rfl ?_
  iterate 3 refine zst ?_
  refine G8 (Gh.sub 7 2 np rfl rfl rfl) (G8 (Gh.sub 6 3 np rfl rfl rfl) (b4 ⟨(stQ x),?_,?_,trivial,⟨⟨_,rfl,by (first | rfl | (rw [r6 (q:=x) (by omega)];exact congrArg (fun z=>Row.row _ _ z) (a12 (f:=j8) (x:=⟨1,_,_⟩))) | (rw [v7 (q:=x) (by omega)];exact congrArg (fun z=>Row.row _ _ z) (a12 (f:=j8) (x:=⟨1,_,_⟩))) | (rw [r6 (q:=x) (by omega)];exact congrArg (fun z=>Row.row _ _ z) (List.map_drop).symm) | (rw [v7 (q:=x) (by omega)];done) | (rw [v7 (q:=x) (by omega)];rfl) | (rw [r6 (q:=x) (by omega)];done) | (rw [r6 (q:=x) (by omega)];rfl) | (rw [r6 (q:=x) (by omega)];exact congrArg (fun z=>Row.row _ _ z) a0r)| (rw [v7 (q:=x) (by omega)];exact congrArg (fun z=>Row.row _ _ z) a0r))⟩,rfl,rfl,⟨⟨_,rfl,by (first | rfl | (rw [r6 (q:=x) (by omega)];exact congrArg (fun z=>Row.row _ _ z) (a12 (f:=j8) (x:=⟨1,_,_⟩))) | (rw [v7 (q:=x) (by omega)];exact congrArg (fun z=>Row.row _ _ z) (a12 (f:=j8) (x:=⟨1,_,_⟩))) | (rw [r6 (q:=x) (by omega)];exact congrArg (fun z=>Row.row _ _ z) (List.map_drop).symm) | (rw [v7 (q:=x) (by omega)];done) | (rw [v7 (q:=x) (by omega)];rfl) | (rw [r6 (q:=x) (by omega)];done) | (rw [r6 (q:=x) (by omega)];rfl) | (rw [r6 (q:=x) (by omega)];exact congrArg (fun z=>Row.row _ _ z) a0r)| (rw [v7 (q:=x) (by omega)];exact congrArg (fun z=>Row.row _ _ z) a0r))⟩,rfl,rfl,trivial⟩⟩,rfl,rfl,rfl⟩))
  ·exact ⟨hF2,hnx▸hinv.2⟩
  exact hphi
 have hd:=b0F h1
 refine zgo ?_
 refine c6 (d9 rfl rfl rfl rfl (a7 (b7 rfl ?_) (a7 (b7 rfl ?_) b9)))
 all_goals ((rw [← hinv.2,hd];done))
theorem a9H (q:Que) (irq p:Int) (hF:QF q) (hi:0≤irq∧irq≤7) (hp:0≤p∧p≤15):Ctr Tryz.prog 292 [.agg [.lst 3 (q.sl.map j8),.lst 2 (q.wa.map l1)],.v (.int .i64 irq),.v (.int .i64 p)] (.shp true [some 2] [.fr 169 3 ((a3o q irq p).sl.map j8),.fr 182 2 ((a3o q irq p).wa.map l1)]):=by
 have hl4:=hF.sl.len
 have hwn:=hF.wn
 have hQ:=(b3X (irq:=irq) (p:=p) hF hi hp).1
 refine Ctr.of (n:=44) G Tryz.func292 rfl b3 rfl rfl rfl (fun w0=>?_)
 refine o7 0 rfl (fun _=>rfl) (fun u0=>?_)
 refine f9 (fun K1 hK1=>?_)
 refine b3r ?_
 refine o9 ?_
 refine a95 ?_
 refine b4 (hK1 _ ?_)
 clear hK1 K1
 refine f9 (fun K2 hK2=>?_)
 refine f9 (fun K3 hK3=>?_)
 refine b8P ?_
 refine b6 rfl rfl (f6 rfl (ArgsOK.of rfl) (F6 q.sl irq (by omega)) rfl) ?_
 refine o9 ?_
 refine b6 rfl rfl (I9 rfl rfl rfl rfl) (b4 (hK3 _ ?_))
 clear hK3 K3
 refine r7 rfl (fun h1=>?_) (fun h1=>?_)
 ·try rw [h1]
  try simp only [rfb] at h1
  have ho:=b7z (p:=p) h1
  rw [ho] at hQ
  refine f9 (fun K4 hK4=>?_)
  refine b8P ?_
  refine b6 rfl rfl (e6 rfl rfl) ?_
  refine o9 ?_
  refine d7 3 rfl rfl rfl (ArgsOK.of rfl) (b2a q.sl irq p hF.sl h1) rfl rfl ?_
  refine o9 ?_
  refine c2M ?_
  refine hK4 _ ?_
  clear hK4 K4
  refine f9 (fun K5 hK5=>?_)
  refine c2K ?_
  refine d7 5 rfl rfl rfl (ArgsOK.of rfl) (J3 _ hQ) rfl rfl ?_
  refine o9 ?_
  refine j7 G rfl rfl rfl rfl rfl rfl rfl rfl rfl rfl rfl (b4 (hK5 _ ?_))
  clear hK5 K5
  refine c6 (d9 rfl rfl rfl rfl (a7 (b7 rfl ?_) (a7 (b7 rfl ?_) b9)))
  all_goals clear hK2 K2
  all_goals exact b01
 ·try rw [h1]
  try simp only [rfb] at h1
  refine y9 (hK2 _ ?_)
  clear hK2 K2
  refine f9 (fun K6 hK6=>?_)
  refine f9 (fun K7 hK7=>?_)
  refine b8P ?_
  refine b6 rfl rfl (f6 rfl (ArgsOK.of rfl) (b19 q.wa irq (by omega)) rfl) ?_
  refine o9 ?_
  refine b6 rfl rfl (I9 rfl rfl rfl rfl) (b4 (hK7 _ ?_))
  clear hK7 K7
  refine r7 rfl (fun h2=>?_) (fun h2=>?_)
  ·try rw [h2]
   try simp only [rfb] at h2
   have ho:=b7B (p:=p) h1 h2
   rw [ho] at hQ
   refine f9 (fun K8 hK8=>?_)
   refine d4 ?_
   refine o9 ?_
   refine b6 rfl rfl (p5 G rfl rfl rfl rfl rfl rfl) ?_
   refine o9 ?_
   refine d7 4 rfl rfl rfl (ArgsOK.of rfl) (J3 _ hQ) rfl rfl ?_
   refine o9 ?_
   refine j7 G rfl rfl rfl rfl rfl rfl rfl rfl rfl rfl rfl (b4 (hK8 _ ?_))
   clear hK8 K8
   refine c6 (d9 rfl rfl rfl rfl (a7 (b7 rfl ?_) (a7 (b7 rfl ?_) b9)))
   all_goals clear hK6 K6
   all_goals exact b01
  ·try rw [h2]
   try simp only [rfb] at h2
   have ho:=b7A (p:=p) h1 h2
   rw [ho] at hQ
   refine y9 (hK6 _ ?_)
   clear hK6 K6
   refine f9 (fun K9 hK9=>?_)
   refine l4 11 [0] mixed b3 rfl rfl (fun r0=>?_) (fun _ h=>h)
   refine e9 0 rfl b3 b3 rfl rfl rfl rfl (l5 G rfl rfl rfl rfl) (e9 1 rfl b3 b3 rfl rfl rfl rfl (n9 G rfl rfl rfl rfl rfl rfl rfl) (e9 2 rfl b3 b3 rfl rfl rfl rfl (l5 G rfl rfl rfl rfl) (e9 3 rfl b3 b3 rfl rfl rfl rfl (a5w (n9 G rfl rfl rfl rfl rfl rfl rfl)) (e9 4 rfl b3 b3 rfl rfl rfl rfl (e6 rfl rfl) (e9 5 rfl b3 b3 rfl rfl rfl rfl (e6 rfl rfl) (e9 6 rfl b3 b3 rfl rfl rfl rfl (v8 G rfl rfl rfl rfl) ?_))))))
   refine b5 (rs:=[7]) b3 rfl (AllB.cons ?_ AllB.nil)
   refine c7 [0] rfl rfl (d7 3 rfl rfl rfl (ArgsOK.of rfl) (a0a q.wa ⟨irq,p⟩ (by omega)) rfl rfl (b4 ⟨rfl,?_⟩))
   refine b5 (rs:=[8]) b3 rfl (AllB.cons ?_ AllB.nil)
   refine c7 [0] rfl rfl (b6 rfl rfl (v8 G rfl rfl rfl rfl) (b4 ⟨rfl,?_⟩))
   refine b5 (rs:=[9]) b3 rfl (AllB.cons ?_ AllB.nil)
   refine c7 [0] rfl rfl (d7 5 rfl rfl rfl (ArgsOK.of rfl) (J3 _ hQ) rfl rfl (b4 ⟨rfl,?_⟩))
   refine b5 (rs:=[10]) b3 rfl (AllB.cons ?_ AllB.nil)
   refine c7 [0] rfl rfl (j7 G rfl rfl rfl rfl rfl rfl rfl rfl rfl rfl rfl (b4 ⟨rfl,?_⟩))
   refine l6 b3 (hK9 _ ?_)
   clear hK9 K9
   refine c6 (d9 rfl rfl rfl rfl (a7 (b7 rfl ?_) (a7 (b7 rfl ?_) b9)))
   all_goals exact b01
theorem a67 (q:Que) (lim:Int) (hF:QF q):Ctr Tryz.prog 226 [.agg [.lst 3 (q.sl.map j8),.lst 2 (q.wa.map l1)],.v (.int .i64 lim)] (.shp false [some 2,none,none] [.fr 169 3 ((b1H q lim).1.sl.map j8),.fr 182 2 ((b1H q lim).1.wa.map l1),.v (.int .i64 (b1H q lim).2.1),.v (.bool (b1H q lim).2.2)]):=by
 have hl4:=hF.sl.len
 have hwn:=hF.wn
 refine Ctr.of (n:=28) G Tryz.func226 rfl b3 rfl rfl rfl (fun w0=>?_)
 refine o7 0 rfl (fun _=>rfl) (fun u0=>?_)
 refine T5 ?_
 refine vm5 ?_
 refine d7 3 rfl rfl rfl (ArgsOK.of rfl) (a7U q.sl lim hF.sl) rfl rfl ?_
 refine zcd (fun h1=>?_) (fun h1=>?_)
 ·rw [c0s] at h1
  have ht:=b7C (q:=q) h1
  refine zgo ?_
  refine c6 (d9 rfl rfl rfl rfl (a7 (r8 ?_) (a7 (r8 ?_) (a7 (c1 ?_) (a7 (c1 ?_) b9)))))
  all_goals exact c0Y
 rw [c0s] at h1
 have ht:=b3Z (q:=q) h1
 have ht2:=b4E (sl:=q.sl) h1
 refine vm5 ?_
 refine d7 5 rfl rfl rfl (ArgsOK.of rfl) (V6 q (by omega) (by omega)) rfl rfl ?_
 refine o9 ?_
 refine b4g ?_
 refine zgo ?_
 refine c6 (d9 rfl rfl rfl rfl (a7 (b7 rfl ?_) (a7 (b7 rfl ?_) (a7 (c1 ?_) (a7 (c1 ?_) b9)))))
 all_goals exact c0Y
theorem b0b (q:Que) (lim:Int) (hF:QF q) (hk:a2A q.sl lim=true):Ctr Tryz.prog 242 [.agg [.lst 3 (q.sl.map j8),.lst 2 (q.wa.map l1)],.v (.int .i64 lim)] (.shp false [some 2,none] [.fr 169 3 ((b1C q).sl.map j8),.fr 182 2 ((b1C q).wa.map l1),.v (.int .i64 (tkI q.sl))]):=by
 have hl4:=hF.sl.len
 have hwn:=hF.wn
 have htl:(tkS q.sl).length=4:=by unfold tkS;rw [List.length_set];exact hl4
 refine Ctr.of (n:=24) G Tryz.func242 rfl b3 rfl rfl rfl (fun w0=>?_)
 refine o7 0 rfl (fun _=>rfl) (fun u0=>?_)
 refine T5 ?_
 refine vm5 ?_
 refine d7 3 rfl rfl rfl (ArgsOK.of rfl) (a99 q.sl lim hF.sl hk) rfl rfl ?_
 refine zgn ?_
 refine u4 (l4 11 [0,2] mixed b3 rfl rfl (fun r0=>?_) (fun _ h=>h))
 refine zsa 1 ?_
 refine zsa 4 ?_
 refine zsa 5 ?_
 refine zsa 8 ?_
 refine w3 (N:=5) rfl (p4 (fuel:=5) [⟨0,15,3,false,.row 169 3 []⟩,⟨3,18,4,false,.row 182 2 []⟩] (AllVOK.cons (VOK.lit G rfl rfl rfl rfl rfl) (AllVOK.cons (VOK.lit G rfl rfl rfl rfl rfl) (AllVOK.nil))) (fun hok=>?_))
 refine j3 [(2,[0])] b3 b3 (fun e he=>hok e he) b3 (AllVS.cons ?_ AllVS.nil)
 refine VStep.mk1 [0,2] 15 (.own 3) 3 (.row 169 3 []) [⟨3,18,4,false,.row 182 2 []⟩] rfl rfl rfl rfl rfl (fun b1 _ hbn=>g9 G N3 rfl rfl rfl rfl rfl rfl rfl rfl rfl C3 rfl rfl (b4 rfl)) b3 b3 b3 b3 (j3 [(6,[3])] b3 b3 (fun e he=>hok e (vin (is:=[0]) rfl he)) b3 (AllVS.cons ?_ AllVS.nil))
 refine VStep.mk1 [0,2] 18 (.own 4) 4 (.row 182 2 []) [] rfl rfl rfl rfl rfl (fun b1 _ hbn=>g9 G N3 rfl rfl rfl rfl rfl rfl rfl rfl rfl C3 rfl rfl (b4 rfl)) b3 b3 b3 b3 (B3 ?_)
 clear hok
 refine b5 (rs:=[7]) b3 rfl (AllB.cons ?_ AllB.nil)
 refine i1 [0,2] rfl rfl ?_
 refine vm9 ?_
 refine b5 (rs:=[9]) b3 rfl (AllB.cons ?_ AllB.nil)
 refine i1 [0,2] rfl rfl ?_
 refine vm9 ?_
 refine zsa 10 ?_
 refine G3 ?_
 refine c6 (d9 rfl rfl rfl rfl (a7 (b7 rfl ?_) (a7 (b7 rfl ?_) (a7 (c1 ?_) b9))))
 all_goals (first | rfl | simp | (simp [b1C];done))
theorem V7 (sl:List Slot) (irq:Int) (hl:sl.length≤1048576) (h0:0≤u7 sl irq):Ctr Tryz.prog 161 [.lst 3 (sl.map j8),.v (.int .i64 irq)] (.one (.v (.int .i64 (lvl sl irq)))):=by
 have hf:=@a2z sl irq
 refine Ctr.of (n:=12) G Tryz.func161 rfl b3 rfl rfl rfl (fun w0=>?_)
 refine zcl (E7 sl irq hl) ?_
 refine zf1 ?_
 all_goals (rfl)
theorem a0z (q:Que) (irq:Int) (hl:q.sl.length≤1048576) (h0:0≤u7 q.sl irq):Ctr Tryz.prog 142 [.agg [.lst 3 (q.sl.map j8),.lst 2 (q.wa.map l1)],.v (.int .i64 irq)] (.one (.v (.int .i64 (lvl q.sl irq)))):=by
 have hf:=@a2z q.sl irq
 refine Ctr.of (n:=14) G Tryz.func142 rfl b3 rfl rfl rfl (fun w0=>?_)
 refine o7 0 rfl (fun _=>rfl) (fun u0=>?_)
 refine vm1 ?_
 refine zgd ?_
 refine zcl (F6 q.sl irq hl) ?_
 refine zf1 ?_
 all_goals (rfl)
theorem a2F (x:Ifc) (hF:IfF x):Ctr Tryz.prog 227 [.agg [.v (.int .i64 x.ma),.lst 1 (x.st.map Rf.r9),.lst 3 (x.qu.sl.map j8),.lst 2 (x.qu.wa.map l1)]] (.one (.v (.int .i64 (a92 x)))):=by
 have hl4:=hF.qu.sl.len
 have hwn:=hF.qu.wn
 have hsn:=hF.sn
 refine Ctr.of (n:=19) G Tryz.func227 rfl b3 rfl rfl rfl (fun w0=>?_)
 refine o7 0 rfl (fun _=>rfl) (fun u0=>?_)
 refine u4 ?_
 refine b3r ?_
 refine zgn ?_
 refine zgn ?_
 refine r7 rfl (fun h1=>?_) (fun h1=>?_)
 ·try rw [h1]
  try simp only [rfb] at h1
  refine a0x ?_
  all_goals exact b5g
 try rw [h1]
 try simp only [rfb] at h1
 have htn:((x.st.length:Int) - 1).toNat=x.st.length - 1:=(by omega)
 have htp:=hF.top (show x.st.length - 1 < x.st.length by omega)
 refine zgn ?_
 refine b8T ?_
 iterate 8 refine zst ?_
 refine m4 rfl ?_
 refine b97 ?_
 refine m4 rfl (u9 rfl rfl (f6 rfl (ArgsOK.of rfl) (V7 x.qu.sl _ (by omega) (by first | assumption | (rw [htn];assumption))) rfl) ?_)
 refine a0x ?_
 all_goals exact b5g
theorem a1C (x:Ifc) (hF:IfF x):Ctr Tryz.prog 244 [.agg [.v (.int .i64 x.ma),.lst 1 (x.st.map Rf.r9),.lst 3 (x.qu.sl.map j8),.lst 2 (x.qu.wa.map l1)]] (.one (.v (.int .i64 (a92 x)))):=by
 have hl4:=hF.qu.sl.len
 have hwn:=hF.qu.wn
 have hsn:=hF.sn
 refine Ctr.of (n:=18) G Tryz.func244 rfl b3 rfl rfl rfl (fun w0=>?_)
 refine o7 0 rfl (fun _=>rfl) (fun u0=>?_)
 refine u4 ?_
 refine b3r ?_
 refine zgn ?_
 refine zgn ?_
 refine zgn ?_
 refine r7 rfl (fun h1=>?_) (fun h1=>?_)
 ·try rw [h1]
  try simp only [rfb] at h1
  have htn:((x.st.length:Int) - 1).toNat=x.st.length - 1:=(by omega)
  have htp:=hF.top (show x.st.length - 1 < x.st.length by omega)
  refine b8T ?_
  iterate 5 refine zst ?_
  refine m4 rfl ?_
  refine b97 ?_
  refine m4 rfl (u9 rfl rfl (f6 rfl (ArgsOK.of rfl) (a0z x.qu _ (by omega) (by first | assumption | (rw [htn];assumption))) rfl) ?_)
  refine a0x ?_
  all_goals exact b5g
 try rw [h1]
 try simp only [rfb] at h1
 refine zgn ?_
 refine a0x ?_
 all_goals exact b5g
theorem D3 (x:Ifc) (hn:x.st.length≤1048576) (hl:x.qu.sl.length≤1048576) (hw:x.qu.wa.length≤1048576):Ctr Tryz.prog 107 [.agg [.v (.int .i64 x.ma),.lst 1 (x.st.map Rf.r9),.lst 3 (x.qu.sl.map j8),.lst 2 (x.qu.wa.map l1)]] (.shp true [some 4] [.v (.int .i64 x.ma),.fr 3 1 (x.st.map Rf.r9),.fr 169 3 (x.qu.sl.map j8),.fr 182 2 (x.qu.wa.map l1)]):=by
 refine Ctr.of (n:=12) G Tryz.func107 rfl b3 rfl rfl rfl (fun w0=>?_)
 refine o7 0 rfl (fun _=>rfl) (fun u0=>?_)
 refine T5 ?_
 refine zgn ?_
 refine u4 (l4 10 [0] mixed b3 rfl rfl (fun r0=>?_) (fun _ h=>h))
 refine a1e ?_
 refine a1f ?_
 refine b5 (rs:=[4]) b3 rfl (AllB.cons ?_ AllB.nil)
 refine i1 [0] rfl rfl (d7 3 rfl rfl rfl (ArgsOK.of rfl) (C8 x.st hn) rfl rfl (b4 ⟨rfl,?_⟩))
 refine b5 (rs:=[7]) b3 rfl (AllB.cons ?_ AllB.nil)
 refine i1 [0] rfl rfl (d7 5 rfl rfl rfl (ArgsOK.of rfl) (V6 x.qu hl hw) rfl rfl (b4 ⟨rfl,?_⟩))
 refine b5 (rs:=[8]) b3 rfl (AllB.cons ?_ AllB.nil)
 refine a2U ?_
 refine b5 (rs:=[9]) b3 rfl (AllB.cons ?_ AllB.nil)
 refine a2U ?_
 refine G3 ?_
 refine c6 (d9 rfl rfl rfl rfl (a7 (c1 ?_) (a7 (b7 rfl ?_) (a7 (b7 rfl ?_) (a7 (b7 rfl ?_) b9)))))
 all_goals (rfl)
theorem a7W (x:Ifc) (irq p:Int) (hF:IfF x) (hi:0≤irq∧irq≤7) (hp:0≤p∧p≤15):Ctr Tryz.prog 225 [.agg [.v (.int .i64 x.ma),.lst 1 (x.st.map Rf.r9),.lst 3 (x.qu.sl.map j8),.lst 2 (x.qu.wa.map l1)],.v (.int .i64 irq),.v (.int .i64 p)] (.shp true [some 4] [.v (.int .i64 x.ma),.fr 3 1 (x.st.map Rf.r9),.fr 169 3 ((a3o x.qu irq p).sl.map j8),.fr 182 2 ((a3o x.qu irq p).wa.map l1) true]):=by
 have hl4:=hF.qu.sl.len
 have hwn:=hF.qu.wn
 have hsn:=hF.sn
 refine Ctr.of (n:=17) G Tryz.func225 rfl b3 rfl rfl rfl (fun w0=>?_)
 refine o7 0 rfl (fun _=>rfl) (fun u0=>?_)
 refine T5 ?_
 refine vm5 ?_
 refine d7 5 rfl rfl rfl (ArgsOK.of rfl) (D3 x (by omega) (by omega) (by omega)) rfl rfl ?_
 refine o9 ?_
 refine b4g ?_
 refine vm5 ?_
 refine d7 8 rfl rfl rfl (ArgsOK.of rfl) (a7V x.qu irq p hF.qu hi hp) rfl rfl ?_
 refine zgo ?_
 refine c6 (d9 rfl rfl rfl rfl (a7 (c1 ?_) (a7 (b7 rfl ?_) (a7 (b7 rfl ?_) (a7 (b7 rfl ?_) b9)))))
 all_goals (rfl)
theorem a7X (x:Ifc) (irq p:Int) (hF:IfF x) (hi:0≤irq∧irq≤7) (hp:0≤p∧p≤15):Ctr Tryz.prog 241 [.agg [.v (.int .i64 x.ma),.lst 1 (x.st.map Rf.r9),.lst 3 (x.qu.sl.map j8),.lst 2 (x.qu.wa.map l1)],.v (.int .i64 irq),.v (.int .i64 p)] (.shp true [some 4] [.v (.int .i64 x.ma),.fr 3 1 (x.st.map Rf.r9),.fr 169 3 ((a3o x.qu irq p).sl.map j8),.fr 182 2 ((a3o x.qu irq p).wa.map l1)]):=by
 have hl4:=hF.qu.sl.len
 have hwn:=hF.qu.wn
 have hsn:=hF.sn
 refine Ctr.of (n:=18) G Tryz.func241 rfl b3 rfl rfl rfl (fun w0=>?_)
 refine o7 0 rfl (fun _=>rfl) (fun u0=>?_)
 refine T5 ?_
 refine zgn ?_
 refine u4 (l4 12 [0] mixed b3 rfl rfl (fun r0=>?_) (fun _ h=>h))
 refine a1e ?_
 refine a1f ?_
 refine zsa 7 ?_
 refine zsa 8 ?_
 refine b5 (rs:=[4]) b3 rfl (AllB.cons ?_ AllB.nil)
 refine i1 [0] rfl rfl (d7 3 rfl rfl rfl (ArgsOK.of rfl) (H5 x.st (by omega)) rfl rfl (b4 ⟨rfl,?_⟩))
 refine b5 (rs:=[9]) b3 rfl (AllB.cons ?_ AllB.nil)
 refine i1 [0] rfl rfl (d7 5 rfl rfl rfl (ArgsOK.of rfl) (a9H x.qu irq p hF.qu hi hp) rfl rfl (b4 ⟨rfl,?_⟩))
 refine b5 (rs:=[10]) b3 rfl (AllB.cons ?_ AllB.nil)
 refine a2U ?_
 refine b5 (rs:=[11]) b3 rfl (AllB.cons ?_ AllB.nil)
 refine a2U ?_
 refine G3 ?_
 refine c6 (d9 rfl rfl rfl rfl (a7 (c1 ?_) (a7 (b7 rfl ?_) (a7 (b7 rfl ?_) (a7 (b7 rfl ?_) b9)))))
 all_goals (rfl)
theorem a9I (x:Ifc) (hF:IfF x):Ctr Tryz.prog 177 [.agg [.v (.int .i64 x.ma),.lst 1 (x.st.map Rf.r9),.lst 3 (x.qu.sl.map j8),.lst 2 (x.qu.wa.map l1)]] (.shp false [some 4,none,none] [.v (.int .i64 (U7 x).1.ma),.fr 3 1 ((U7 x).1.st.map Rf.r9),.fr 169 3 ((U7 x).1.qu.sl.map j8),.fr 182 2 ((U7 x).1.qu.wa.map l1),.v (.int .i64 (U7 x).2.1),.v (.bool (U7 x).2.2)]):=by
 have hl4:=hF.qu.sl.len
 have hwn:=hF.qu.wn
 have hsn:=hF.sn
 refine Ctr.of (n:=34) G Tryz.func177 rfl b3 rfl rfl rfl (fun w0=>?_)
 refine o7 0 rfl (fun _=>rfl) (fun u0=>?_)
 refine T5 ?_
 refine zgn ?_
 refine u4 (l4 16 [0,1] mixed b3 rfl rfl (fun r0=>?_) (fun _ h=>h))
 refine a1e ?_
 refine zsa 4 ?_
 refine w3 (N:=3) rfl (p4 (fuel:=10) [⟨12,5,2,true,.box (avR [.slice none 0 0,.slice none 0 0] [])⟩] (AllVOK.cons (VOK.boxS G rfl rfl rfl rfl rfl) (AllVOK.nil)) (fun hok=>?_))
 refine j3 [(5,[])] b3 b3 (fun e he=>hok e he) b3 (AllVS.cons ?_ AllVS.nil)
 refine VStep.mk0 [0,1] rfl rfl (fun b1 _ hbn=>b6 rfl rfl (f6 rfl (ArgsOK.of rfl) (a2F x hF) rfl) (b4 rfl)) b3 b3 b3 b3 (w6 6 rfl b3 rfl rfl rfl rfl (b6B rfl rfl rfl) b3 b3 b3 (j3 [(7,[])] b3 b3 (fun e he=>hok e he) b3 (AllVS.cons ?_ AllVS.nil)))
 refine VStep.mk0 [0,1] rfl rfl (fun b1 _ hbn=>d7 5 rfl rfl rfl (ArgsOK.of rfl) (a67 x.qu (b9E x) hF.qu) rfl rfl (b4 rfl)) b3 b3 b3 b3 (w6 8 rfl b3 rfl rfl rfl rfl (e6 rfl rfl) b3 b3 b3 (w6 9 rfl b3 rfl rfl rfl rfl (n8 rfl rfl rfl) b3 b3 b3 (w6 10 rfl b3 rfl rfl rfl rfl (n8 rfl rfl rfl) b3 b3 b3 (w6 11 rfl b3 rfl rfl rfl rfl (n8 rfl rfl rfl) b3 b3 b3 (j3 [(13,[12])] b3 b3 (fun e he=>hok e he) b3 (AllVS.cons ?_ AllVS.nil))))))
 refine c3Z ?_
 clear hok
 refine zsa 14 ?_
 refine zsa 15 ?_
 refine G3 ?_
 refine zcd (fun h1=>?_) (fun h1=>?_)
 ·rw [b7D] at h1
  have ht:=b4O (x:=x) h1
  refine zgo ?_
  refine c6 (d9 rfl rfl rfl rfl (a7 (c1 ?_) (a7 (r8 ?_) (a7 (r8 ?_) (a7 (r8 ?_) (a7 (c1 ?_) (a7 (c1 ?_) b9)))))))
  all_goals exact c0Z
 rw [b7D] at h1
 have ht:=b4N (x:=x) h1
 have ht2:=b3Z h1
 refine zgo ?_
 apply x5 [2,3,4] [1,3,4,5] 7 14 [0,2,3,4] mixed b3 rfl rfl (fun _ h=>znk h)
 ·intro r0
  refine a1e ?_
  refine zsa 5 ?_
  refine zsa 8 ?_
  refine zsa 10 ?_
  refine b5 (rs:=[4,6]) b3 rfl (AllB.cons ?_ (AllB.cons ?_ AllB.nil))
  ·refine i1 [0,2,3,4] rfl rfl (d7 6 rfl rfl rfl (ArgsOK.of rfl) (C8 x.st (by omega)) rfl rfl (b4 ⟨rfl,?_⟩))
   refine b5 (rs:=[6]) b3 rfl (AllB.cons ?_ AllB.nil)
   refine i1 [0,2,3,4] rfl rfl (s2 G 7 rfl rfl rfl rfl rfl rfl rfl rfl (b4 ⟨rfl,?_⟩))
   refine b5 (rs:=[7]) b3 rfl (AllB.cons ?_ AllB.nil)
   refine i1 [0,2,3,4] rfl rfl (g9 G A1 rfl rfl rfl rfl rfl rfl rfl rfl rfl F3 rfl rfl (b4 ⟨rfl,?_⟩))
   refine b5 (rs:=[9]) b3 rfl (AllB.cons ?_ AllB.nil)
   refine b3t ?_
   refine b5 (rs:=[11]) b3 rfl (AllB.cons ?_ AllB.nil)
   refine b3t ?_
   refine zsa 12 ?_
   refine zsa 13 ?_
   exact l6 b3 (Meet.mk rfl rfl rfl rfl)
  refine i1 [0,2,3,4] rfl rfl (s2 G 6 rfl rfl rfl rfl rfl rfl rfl rfl (b4 ⟨rfl,?_⟩))
  refine b5 (rs:=[4]) b3 rfl (AllB.cons ?_ AllB.nil)
  refine i1 [0,2,3,4] rfl rfl (d7 7 rfl rfl rfl (ArgsOK.of rfl) (C8 x.st (by omega)) rfl rfl (b4 ⟨rfl,?_⟩))
  refine b5 (rs:=[7]) b3 rfl (AllB.cons ?_ AllB.nil)
  refine i1 [0,2,3,4] rfl rfl (g9 G A1 rfl rfl rfl rfl rfl rfl rfl rfl rfl F3 rfl rfl (b4 ⟨rfl,?_⟩))
  refine b5 (rs:=[9]) b3 rfl (AllB.cons ?_ AllB.nil)
  refine b3t ?_
  refine b5 (rs:=[11]) b3 rfl (AllB.cons ?_ AllB.nil)
  refine b3t ?_
  refine zsa 12 ?_
  refine zsa 13 ?_
  refine a1Y (Gh.sub 6 5 A1 rfl rfl rfl) ?_
  exact l6 b3 (Meet.mk rfl rfl rfl rfl)
 refine c6 (d9 rfl rfl rfl rfl (a7 (c1 ?_) (a7 (b7 rfl ?_) (a7 (b7 rfl ?_) (a7 (b7 rfl ?_) (a7 (c1 ?_) (a7 (c1 ?_) b9)))))))
 all_goals exact c0Z
theorem a9J (x:Ifc) (hF:IfF x) (hk:okT x=true):Ctr Tryz.prog 196 [.agg [.v (.int .i64 x.ma),.lst 1 (x.st.map Rf.r9),.lst 3 (x.qu.sl.map j8),.lst 2 (x.qu.wa.map l1)]] (.shp false [some 4,none] [.v (.int .i64 (a4H x).ma),.fr 3 1 ((a4H x).st.map Rf.r9),.fr 169 3 ((a4H x).qu.sl.map j8),.fr 182 2 ((a4H x).qu.wa.map l1),.v (.int .i64 (tkI x.qu.sl))]):=by
 have hl4:=hF.qu.sl.len
 have hwn:=hF.qu.wn
 have hsn:=hF.sn
 have hkk:=a0l.mp hk
 have htb:=b7E hF.qu.sl hkk.1
 refine Ctr.of (n:=35) G Tryz.func196 rfl b3 rfl rfl rfl (fun w0=>?_)
 refine o7 0 rfl (fun _=>rfl) (fun u0=>?_)
 refine T5 ?_
 refine zgn ?_
 refine u4 (l4 14 [0,1] mixed b3 rfl rfl (fun r0=>?_) (fun _ h=>h))
 refine a1e ?_
 refine zsa 4 ?_
 refine w3 (N:=3) rfl (p4 (fuel:=8) [⟨11,4,2,true,.box (avR [.slice none 0 0,.slice none 0 0] [])⟩] (AllVOK.cons (VOK.boxS G rfl rfl rfl rfl rfl) (AllVOK.nil)) (fun hok=>?_))
 refine j3 [(5,[])] b3 b3 (fun e he=>hok e he) b3 (AllVS.cons ?_ AllVS.nil)
 refine VStep.mk0 [0,1] rfl rfl (fun b1 _ hbn=>b6 rfl rfl (f6 rfl (ArgsOK.of rfl) (a1C x hF) rfl) (b4 rfl)) b3 b3 b3 b3 (j3 [(6,[])] b3 b3 (fun e he=>hok e he) b3 (AllVS.cons ?_ AllVS.nil))
 refine VStep.mk0 [0,1] rfl rfl (fun b1 _ hbn=>b6 rfl rfl (f6 rfl (ArgsOK.of rfl) (a3A _ _) rfl) (b4 rfl)) b3 b3 b3 b3 (j3 [(7,[])] b3 b3 (fun e he=>hok e he) b3 (AllVS.cons ?_ AllVS.nil))
 refine VStep.mk0 [0,1] rfl rfl (fun b1 _ hbn=>d7 5 rfl rfl rfl (ArgsOK.of rfl) (b0b x.qu (b9E x) hF.qu hk) rfl rfl (b4 rfl)) b3 b3 b3 b3 (w6 8 rfl b3 rfl rfl rfl rfl (e6 rfl rfl) b3 b3 b3 (w6 9 rfl b3 rfl rfl rfl rfl (n8 rfl rfl rfl) b3 b3 b3 (w6 10 rfl b3 rfl rfl rfl rfl (n8 rfl rfl rfl) b3 b3 b3 (j3 [(12,[11])] b3 b3 (fun e he=>hok e he) b3 (AllVS.cons ?_ AllVS.nil)))))
 refine c30 ?_
 clear hok
 refine zsa 13 ?_
 refine G3 ?_
 refine u4 (l4 9 [0,1,2,3,4] mixed b3 rfl rfl (fun r0=>?_) (fun _ h=>h))
 refine a1e ?_
 refine zsa 5 ?_
 refine w3 (N:=6) rfl (p4 (fuel:=3) [⟨7,6,5,true,.box (avR [.int .i64 0,.slice none 0 0,.slice none 0 0,.slice none 0 0] [])⟩] (AllVOK.cons (VOK.boxS G rfl rfl rfl rfl rfl) (AllVOK.nil)) (fun hok=>?_))
 refine j3 [(4,[])] b3 b3 (fun e he=>hok e he) b3 (AllVS.cons ?_ AllVS.nil)
 refine VStep.mk0 [0,1,2,3,4] rfl rfl (fun b1 _ hbn=>d7 7 rfl rfl rfl (ArgsOK.of rfl) (H5 x.st (by omega)) rfl rfl (b4 rfl)) b3 b3 b3 b3 (j3 [(6,[])] b3 b3 (fun e he=>hok e he) b3 (AllVS.cons ?_ AllVS.nil))
 refine VStep.mk0 [0,1,2,3,4] rfl rfl (fun b1 _ hbn=>b6 rfl rfl (v8 G rfl rfl rfl rfl) (b4 rfl)) b3 b3 b3 b3 (j3 [(8,[7])] b3 b3 (fun e he=>hok e he) b3 (AllVS.cons ?_ AllVS.nil))
 refine c3X ?_
 clear hok
 refine G3 ?_
 refine zcd (fun h1=>?_) (fun h1=>?_)
 ·refine vm5 ?_
  refine s2 G 8 rfl rfl rfl rfl rfl rfl rfl rfl ?_
  refine o9 ?_
  refine v6 (Gh.forget (id:=5) (k:=1) rfl rfl)<|v6 (Gh.keep [0,1,2,3,4,5,6,7] rfl)<|g9 G np rfl rfl rfl rfl rfl rfl rfl rfl rfl F3 rfl rfl ?_
  refine zgo ?_
  refine c6 (d9 rfl rfl rfl rfl (a7 (c1 ?_) (a7 (b7 rfl ?_) (a7 (b7 rfl ?_) (a7 (b7 rfl ?_) (a7 (c1 ?_) b9))))))
  all_goals (first | rfl | (simp [a4H,Rf.r9];done))
 exfalso;omega
end Go.Proofs.YtpfhomblkgmkkaaGreatDoor
set_option maxRecDepth 20000
namespace Go.Proofs.YtpfhomblkgmkkaaGreatDoor
open Go Go.Rf
theorem R8 (q:Que) (hF:QF q):Ctr Tryz.prog 115 [.agg [.lst 3 (q.sl.map j8),.lst 2 (q.wa.map l1)]] (.one (.fr 3 1 ((D6 q).map Rf.r9))):=by
 have hl4:=hF.sl.len
 have hwn:=hF.wn8
 have cS:=I0 (pnL q 4) (b4P hF 4 (Nat.le_refl _)) (by have:=@b1I q 4;omega)
 rw [b30 hF] at cS
 refine Ctr.of (n:=50) G Tryz.func115 rfl b3 rfl rfl rfl (fun w0=>?_)
 refine o7 0 rfl (fun _=>rfl) (fun u0=>?_)
 refine vm1 ?_
 refine vm5 ?_
 refine b4f ?_
 refine vm5 ?_
 refine vm7 ?_
 refine o9 ?_
 refine b8S ?_
 refine zgo ?_
 refine i7 [4,15,16] [2] (fun (i:Nat)=>[(3,.own 1),(17,.v (.int .i64 (i:Int)))]) (fun (i:Nat)=>[(1,some (.row 182 2 ((pnL q i).map l1)))]) (fun (i:Nat)=>i≤4) (fun (i:Nat)=>4 - i) 0 rfl rfl ?_ ?_ ?_ ?_
 ·exact Nat.zero_le _
 ·exact ⟨⟨_,rfl,by rfl⟩,rfl,⟨⟨_,rfl,by rfl⟩,rfl,trivial⟩⟩
 ·exact ⟨⟨_,rfl,by rfl⟩,rfl,rfl,trivial⟩
 intro i hi
 have hpl:=@b1I q i
 simp only [List.cons_append,List.nil_append]
 refine zcd (fun h1=>?_) (fun h1=>?_)
 ·refine vm5 ?_
  refine d8 G 4 rfl rfl rfl rfl rfl ?_
  refine zcd (fun h2=>?_) (fun h2=>?_)
  ·refine zwt ?_
   refine zcl (y8 _) ?_
   refine o9 ?_
   refine s2 G 5 rfl rfl rfl rfl rfl rfl rfl rfl ?_
   refine o9 ?_
   refine vm7 ?_
   refine zgo ?_
   refine ⟨(i+1),?_,?_,⟨⟨_,rfl,by rfl⟩,rfl,⟨⟨_,rfl,by rfl⟩,rfl,trivial⟩⟩,⟨⟨_,rfl,by (first | (rw [a5R (by omega),List.map_append];rfl) | (rw [a5R (by omega)];done) | (rw [a5R (by omega)];rfl) | (rw [b7K (by omega)];done))⟩,rfl,rfl,trivial⟩,rfl,rfl,rfl⟩
   ·omega
   omega
  refine zcd (fun h3=>?_) (fun h3=>?_)
  ·refine zcl (y8 _) ?_
   refine o9 ?_
   refine s2 G 5 rfl rfl rfl rfl rfl rfl rfl rfl ?_
   refine o9 ?_
   refine vm7 ?_
   refine zgo ?_
   refine ⟨(i+1),?_,?_,⟨⟨_,rfl,by rfl⟩,rfl,⟨⟨_,rfl,by rfl⟩,rfl,trivial⟩⟩,⟨⟨_,rfl,by (first | (rw [a5R (by omega),List.map_append];rfl) | (rw [a5R (by omega)];done) | (rw [a5R (by omega)];rfl) | (rw [b7K (by omega)];done))⟩,rfl,rfl,trivial⟩,rfl,rfl,rfl⟩
   ·omega
   omega
  refine zgo ?_
  refine ⟨(i+1),?_,?_,⟨⟨_,rfl,by rfl⟩,rfl,⟨⟨_,rfl,by rfl⟩,rfl,trivial⟩⟩,⟨⟨_,rfl,by (first | (rw [a5R (by omega),List.map_append];rfl) | (rw [a5R (by omega)];done) | (rw [a5R (by omega)];rfl) | (rw [b7K (by omega)];done))⟩,rfl,rfl,trivial⟩,rfl,rfl,rfl⟩
  ·omega
  omega
 obtain rfl:i=4:=(by omega)
 refine vm5 ?_
 refine U2 3 [1] rfl rfl rfl cS rfl (RowsIn.cons rfl RowsIn.nil) rfl rfl rfl ?_
 refine zgo ?_
 refine i7 [37,38] [1] (fun (i:Nat)=>[(4,.own 2),(39,.v (.int .i64 (i:Int)))]) (fun (i:Nat)=>[(2,some (.row 3 1 (((D6 q).take i).map Rf.r9)))]) (fun (i:Nat)=>i≤(pnS q 4).length) (fun (i:Nat)=>(pnS q 4).length - i) 0 rfl rfl ?_ ?_ ?_ ?_
 ·exact Nat.zero_le _
 ·exact ⟨⟨_,rfl,by rfl⟩,rfl,⟨⟨_,rfl,by rfl⟩,rfl,trivial⟩⟩
 ·exact ⟨⟨_,rfl,by rfl⟩,rfl,rfl,trivial⟩
 intro i hi
 have hpl:=@a5T q 4
 simp only [List.cons_append,List.nil_append]
 refine zcd (fun h4=>?_) (fun h4=>?_)
 ·refine vm6 ?_
  refine b6 rfl rfl (d3 G rfl rfl rfl rfl (B4 (by omega) C3) rfl) ?_
  refine o9 ?_
  refine d8 G 4 rfl rfl rfl rfl rfl ?_
  refine vm5 ?_
  refine s2 G 5 rfl rfl rfl rfl rfl rfl rfl rfl ?_
  refine o9 ?_
  refine vm7 ?_
  refine zgo ?_
  refine ⟨(i+1),?_,?_,⟨⟨_,rfl,by rfl⟩,rfl,⟨⟨_,rfl,by rfl⟩,rfl,trivial⟩⟩,⟨⟨_,rfl,by (exact congrArg (fun z=>Row.row _ _ z) (b25 (by omega)))⟩,rfl,rfl,trivial⟩,rfl,rfl,rfl⟩
  ·omega
  omega
 refine zfo ?_
 all_goals (first | rfl | (rw [b4S (by omega)]))
theorem Z3 (q:Que) (hF:QF q):Ctr Tryz.prog 143 [.agg [.lst 3 (q.sl.map j8),.lst 2 (q.wa.map l1)]] (.one (.fr 3 1 ((D6 q).map Rf.r9))):=by
 have hl4:=hF.sl.len
 have hwn:=hF.wn8
 refine Ctr.of (n:=55) G Tryz.func143 rfl b3 rfl rfl rfl (fun w0=>?_)
 refine o7 0 rfl (fun _=>rfl) (fun u0=>?_)
 refine vm1 ?_
 refine vm5 ?_
 refine b4f ?_
 refine vm5 ?_
 refine vm7 ?_
 refine zgo ?_
 refine i7 [1] [0] (fun (i:Nat)=>[(3,.own 1),(4,.v (.int .i64 (i:Int)))]) (fun (i:Nat)=>[(1,some (.row 182 2 ((pnS q i).map l1)))]) (fun (i:Nat)=>i≤4) (fun (i:Nat)=>4 - i) 0 rfl rfl ?_ ?_ ?_ ?_
 ·exact Nat.zero_le _
 ·exact ⟨⟨_,rfl,by rfl⟩,rfl,⟨⟨_,rfl,by rfl⟩,rfl,trivial⟩⟩
 ·exact ⟨⟨_,rfl,by rfl⟩,rfl,rfl,trivial⟩
 intro i hi
 have hpl:=@a5T q i
 simp only [List.cons_append,List.nil_append]
 refine zcd (fun h1=>?_) (fun h1=>?_)
 ·refine vm5 ?_
  refine d8 G 3 rfl rfl rfl rfl rfl ?_
  refine zcd (fun h2=>?_) (fun h2=>?_)
  ·refine zwt ?_
   refine vm5 ?_
   refine d7 4 rfl rfl rfl (ArgsOK.of rfl) (a0a (pnS q i) ⟨_,_⟩ (by omega)) rfl rfl ?_
   refine zgn ?_
   refine a94 ?_
   refine G8 (Gh.sub 3 1 np rfl rfl rfl) (b4 ⟨(i+1),?_,?_,⟨⟨_,rfl,by rfl⟩,rfl,⟨⟨_,rfl,by rfl⟩,rfl,trivial⟩⟩,⟨⟨_,rfl,by (first | (rw [a5S (by omega),List.map_append];rfl) | (rw [a5S (by omega)];done) | (rw [a5S (by omega)];rfl) | (rw [b7L (by omega)];done))⟩,rfl,rfl,trivial⟩,rfl,rfl,rfl⟩)
   ·omega
   omega
  refine zcd (fun h3=>?_) (fun h3=>?_)
  ·refine vm5 ?_
   refine d7 4 rfl rfl rfl (ArgsOK.of rfl) (a0a (pnS q i) ⟨_,_⟩ (by omega)) rfl rfl ?_
   refine zgn ?_
   refine a94 ?_
   refine G8 (Gh.sub 3 1 np rfl rfl rfl) (b4 ⟨(i+1),?_,?_,⟨⟨_,rfl,by rfl⟩,rfl,⟨⟨_,rfl,by rfl⟩,rfl,trivial⟩⟩,⟨⟨_,rfl,by (first | (rw [a5S (by omega),List.map_append];rfl) | (rw [a5S (by omega)];done) | (rw [a5S (by omega)];rfl) | (rw [b7L (by omega)];done))⟩,rfl,rfl,trivial⟩,rfl,rfl,rfl⟩)
   ·omega
   omega
  refine zgo ?_
  refine ⟨(i+1),?_,?_,⟨⟨_,rfl,by rfl⟩,rfl,⟨⟨_,rfl,by rfl⟩,rfl,trivial⟩⟩,⟨⟨_,rfl,by (first | (rw [a5S (by omega),List.map_append];rfl) | (rw [a5S (by omega)];done) | (rw [a5S (by omega)];rfl) | (rw [b7L (by omega)];done))⟩,rfl,rfl,trivial⟩,rfl,rfl,rfl⟩
  ·omega
  omega
 obtain rfl:i=4:=(by omega)
 refine vm5 ?_
 refine b8S ?_
 refine zgo ?_
 refine i7 [3] [1] (fun (i:Nat)=>[(6,.own 2),(7,.v (.int .i64 (i:Int)))]) (fun (i:Nat)=>[(2,some (.row 3 1 (((D6 q).take i).map Rf.r9)))]) (fun (i:Nat)=>i≤(pnS q 4).length) (fun (i:Nat)=>(pnS q 4).length - i) 0 rfl rfl ?_ ?_ ?_ ?_
 ·exact Nat.zero_le _
 ·exact ⟨⟨_,rfl,by rfl⟩,rfl,⟨⟨_,rfl,by rfl⟩,rfl,trivial⟩⟩
 ·exact ⟨⟨_,rfl,by rfl⟩,rfl,rfl,trivial⟩
 intro i hi
 have hpl:=@a5T q 4
 simp only [List.cons_append,List.nil_append]
 refine zcd (fun h4=>?_) (fun h4=>?_)
 ·refine vm6 ?_
  refine c0b ?_
  refine o9 ?_
  refine c2R ?_
  refine o9 ?_
  refine s2 G 4 rfl rfl rfl rfl rfl rfl rfl rfl ?_
  refine o9 ?_
  refine vm7 ?_
  refine zgo ?_
  refine ⟨(i+1),?_,?_,⟨⟨_,rfl,by rfl⟩,rfl,⟨⟨_,rfl,by rfl⟩,rfl,trivial⟩⟩,⟨⟨_,rfl,by (exact congrArg (fun z=>Row.row _ _ z) (b25 (by omega)))⟩,rfl,rfl,trivial⟩,rfl,rfl,rfl⟩
  ·omega
  omega
 refine zfo ?_
 all_goals (first | rfl | (rw [b4S (by omega)]))
end Go.Proofs.YtpfhomblkgmkkaaGreatDoor
set_option maxRecDepth 20000
namespace Go.Proofs.YtpfhomblkgmkkaaGreatDoor
open Go Go.Rf
theorem a2G (l r:List Int) (hl:l.length≤1048576) (hr:r.length≤1048576):Ctr Tryz.prog 159 [.lst 1 (l.map Rf.r9),.lst 1 (r.map Rf.r9)] (.one (.v (.bool (decide (l=r))))):=by
 refine Ctr.of (n:=26) G Tryz.func159 rfl b3 rfl rfl rfl (fun w0=>?_)
 refine zcd (fun h1=>?_) (fun h1=>?_)
 ·refine zf1 ?_
  all_goals exact b8E
 refine zgo ?_
 refine i7 [0,1,12] [] (fun (i:Nat)=>[(13,.v (.int .i64 (i:Int)))]) (fun (i:Nat)=>[]) (fun (i:Nat)=>i≤l.length∧∀ j,j < i→l.getD j default=r.getD j default) (fun (i:Nat)=>l.length - i) 0 rfl rfl ?_ ?_ ?_ ?_
 ·exact ⟨Nat.zero_le _,fun j hj=>by omega⟩
 ·exact ⟨⟨_,rfl,by (first | rfl | (simp;done) | (simp;omega))⟩,rfl,trivial⟩
 ·exact trivial
 intro i hinv
 simp only [List.cons_append,List.nil_append]
 refine zcd (fun h2=>?_) (fun h2=>?_)
 ·refine zgd ?_
  refine zcd (fun h3=>?_) (fun h3=>?_)
  ·refine zf1 ?_
   all_goals exact b8E
  refine zgo ?_
  refine ⟨(i+1),?_,?_,⟨⟨_,rfl,by rfl⟩,rfl,trivial⟩,trivial,rfl,rfl,rfl⟩
  ·exact ⟨by omega,i8 hinv.2 c8⟩
  omega
 refine zf1 ?_
 all_goals exact b8E
theorem a2Q (x:Slot):Ctr Tryz.prog 205 [.v (a7w x)] (.one (.v (.bool (P6 x)))):=by
 refine Ctr.of (n:=11) G Tryz.func205 rfl b3 rfl rfl rfl (fun w0=>?_)
 refine vm1 ?_
 refine zcd (fun h1=>?_) (fun h1=>?_)
 ·refine zf1 ?_
  all_goals (first | rfl | (simp_all [P6];done) | (simp_all [P6];rfl))
 refine zf1 ?_
 all_goals (first | rfl | (simp_all [P6];done) | (simp_all [P6];rfl))
theorem a6i (sl:List Slot) (hF:SlF sl):Ctr Tryz.prog 160 [.lst 3 (sl.map j8)] (.one (.fr 3 1 ((srtI (actN sl 4)).map Rf.r9))):=by
 have hl4:=hF.len
 refine Ctr.of (n:=24) G Tryz.func160 rfl b3 rfl rfl rfl (fun w0=>?_)
 refine b14 ?_
 refine zgo ?_
 refine i7 [7,8] [] (fun (i:Nat)=>[(3,.own 0),(9,.v (.int .i64 (i:Int)))]) (fun (i:Nat)=>[(0,some (.row 3 1 ((actN sl i).map Rf.r9)))]) (fun (i:Nat)=>i≤4) (fun (i:Nat)=>4 - i) 0 rfl rfl ?_ ?_ ?_ ?_
 ·exact Nat.zero_le _
 ·exact ⟨⟨_,rfl,by rfl⟩,rfl,⟨⟨_,rfl,by rfl⟩,rfl,trivial⟩⟩
 ·exact ⟨⟨_,rfl,by rfl⟩,rfl,rfl,trivial⟩
 intro i hi
 have hpl:=@a0m sl i
 simp only [List.cons_append,List.nil_append]
 refine zcd (fun h1=>?_) (fun h1=>?_)
 ·refine vm5 ?_
  refine a95 ?_
  refine zcl (a2Q _) ?_
  refine zcd (fun h2=>?_) (fun h2=>?_)
  ·refine vm5 ?_
   refine b8S ?_
   refine o9 ?_
   refine vm7 ?_
   refine zgo ?_
   refine ⟨(i+1),?_,?_,⟨⟨_,rfl,by rfl⟩,rfl,⟨⟨_,rfl,by rfl⟩,rfl,trivial⟩⟩,⟨⟨_,rfl,by (first | (rw [b7M c8,List.map_append];rfl) | (rw [b7N c8];done))⟩,rfl,rfl,trivial⟩,rfl,rfl,rfl⟩
   ·omega
   omega
  refine zgo ?_
  refine ⟨(i+1),?_,?_,⟨⟨_,rfl,by rfl⟩,rfl,⟨⟨_,rfl,by rfl⟩,rfl,trivial⟩⟩,⟨⟨_,rfl,by (first | (rw [b7M c8,List.map_append];rfl) | (rw [b7N c8];done))⟩,rfl,rfl,trivial⟩,rfl,rfl,rfl⟩
  ·omega
  omega
 obtain rfl:i=4:=(by omega)
 refine vm5 ?_
 refine U2 1 [0] rfl rfl rfl (X8 (actN sl 4) (by have:=@a0m sl 4;omega)) rfl (RowsIn.cons rfl RowsIn.nil) rfl rfl rfl ?_
 refine zfo ?_
 all_goals (rfl)
theorem b16 (l:List Int) (n:Int) (hl:l.length≤1048576) (hne:∀ x∈l,x≠n):Ctr Tryz.prog 191 [.lst 1 (l.map Rf.r9),.v (.int .i64 n)] (.one (.fr 3 1 ((b1K l n).map Rf.r9))):=by
 refine Ctr.of (n:=45) G Tryz.func191 rfl b3 rfl rfl rfl (fun w0=>?_)
 refine zgo ?_
 refine i7 [0,1] [] (fun (k:Nat)=>[(5,.v (.int .i64 (k:Int)))]) (fun (k:Nat)=>[]) (fun (k:Nat)=>k≤l.length∧∀ j,j < k→l.getD j default < n) (fun (k:Nat)=>l.length - k) 0 rfl rfl ?_ ?_ ?_ ?_
 ·exact ⟨Nat.zero_le _,fun j hj=>by omega⟩
 ·exact ⟨⟨_,rfl,by (first | rfl | (simp;done) | (simp;omega))⟩,rfl,trivial⟩
 ·exact trivial
 intro k hk
 simp only [List.cons_append,List.nil_append]
 refine zcd (fun h1=>?_) (fun h1=>?_)
 ·refine zcd (fun h2=>?_) (fun h2=>?_)
  ·refine zgo ?_
   refine ⟨(k+1),?_,?_,⟨⟨_,rfl,by rfl⟩,rfl,trivial⟩,trivial,rfl,rfl,rfl⟩
   ·exact ⟨by omega,i8 hk.2 c8⟩
   omega
  refine zcd (fun h3=>?_) (fun h3=>?_)
  ·refine zcd (fun h4=>?_) (fun h4=>?_)
   ·first | (exfalso;omega) | exact absurd c8 (hne _ (n6.mpr ⟨k,by omega,rfl⟩))
   refine zgo ?_
   apply x5 [4] [0] 2 13 [] mixed b3 rfl rfl (fun _ h=>znk h)
   ·intro r0
    refine vm2 ?_
    refine w3 (N:=1) rfl (p4 (fuel:=5) [⟨0,33,0,false,.row 3 1 []⟩] (AllVOK.cons (VOK.lit G rfl rfl rfl rfl rfl) (AllVOK.nil)) (fun hok=>?_))
    refine j3 [(4,[0]),(6,[])] b3 b3 (fun e he=>hok e he) b3 (AllVS.cons ?_ (AllVS.cons ?_ AllVS.nil))
    ·refine vm3 ?_
     clear hok
     refine b5 (rs:=[6]) b3 rfl (AllB.cons ?_ AllB.nil)
     refine i1 [] rfl rfl (s2 G 2 rfl rfl rfl rfl rfl rfl rfl rfl (b4 ⟨rfl,?_⟩))
     refine b5 (rs:=[7]) b3 rfl (AllB.cons ?_ AllB.nil)
     refine i1 [] rfl rfl (g9 G A1 rfl rfl rfl rfl rfl rfl rfl rfl rfl H0 rfl rfl (b4 ⟨rfl,?_⟩))
     refine b5 (rs:=[11]) b3 rfl (AllB.cons ?_ AllB.nil)
     refine i1 [] rfl rfl (g9 G A1 rfl rfl rfl rfl rfl rfl rfl rfl rfl H0 rfl rfl (b4 ⟨rfl,?_⟩))
     refine zsa 12 ?_
     exact l6 b3 (Meet.mk rfl rfl rfl rfl)
    refine VStep.mk0 [] rfl rfl (fun b1 _ hbn=>s2 G 2 rfl rfl rfl rfl rfl rfl rfl rfl (b4 rfl)) b3 b3 b3 b3 (j3 [(4,[0])] b3 b3 (fun e he=>hok e he) b3 (AllVS.cons ?_ AllVS.nil))
    refine vm3 ?_
    clear hok
    refine b5 (rs:=[7]) b3 rfl (AllB.cons ?_ AllB.nil)
    refine i1 [] rfl rfl (g9 G A1 rfl rfl rfl rfl rfl rfl rfl rfl rfl H0 rfl rfl (b4 ⟨rfl,?_⟩))
    refine b5 (rs:=[11]) b3 rfl (AllB.cons ?_ AllB.nil)
    refine i1 [] rfl rfl (g9 G A1 rfl rfl rfl rfl rfl rfl rfl rfl rfl H0 rfl rfl (b4 ⟨rfl,?_⟩))
    refine zsa 12 ?_
    exact l6 b3 (Meet.mk rfl rfl rfl rfl)
   refine zfo ?_
   all_goals exact b5h
  refine zwf ?_
  refine zgo ?_
  apply x5 [4] [0] 2 13 [] mixed b3 rfl rfl (fun _ h=>znk h)
  ·intro r0
   refine vm2 ?_
   refine w3 (N:=1) rfl (p4 (fuel:=5) [⟨0,33,0,false,.row 3 1 []⟩] (AllVOK.cons (VOK.lit G rfl rfl rfl rfl rfl) (AllVOK.nil)) (fun hok=>?_))
   refine j3 [(4,[0]),(6,[])] b3 b3 (fun e he=>hok e he) b3 (AllVS.cons ?_ (AllVS.cons ?_ AllVS.nil))
   ·refine vm3 ?_
    clear hok
    refine b5 (rs:=[6]) b3 rfl (AllB.cons ?_ AllB.nil)
    refine i1 [] rfl rfl (s2 G 2 rfl rfl rfl rfl rfl rfl rfl rfl (b4 ⟨rfl,?_⟩))
    refine b5 (rs:=[7]) b3 rfl (AllB.cons ?_ AllB.nil)
    refine i1 [] rfl rfl (g9 G A1 rfl rfl rfl rfl rfl rfl rfl rfl rfl H0 rfl rfl (b4 ⟨rfl,?_⟩))
    refine b5 (rs:=[11]) b3 rfl (AllB.cons ?_ AllB.nil)
    refine i1 [] rfl rfl (g9 G A1 rfl rfl rfl rfl rfl rfl rfl rfl rfl H0 rfl rfl (b4 ⟨rfl,?_⟩))
    refine zsa 12 ?_
    exact l6 b3 (Meet.mk rfl rfl rfl rfl)
   refine VStep.mk0 [] rfl rfl (fun b1 _ hbn=>s2 G 2 rfl rfl rfl rfl rfl rfl rfl rfl (b4 rfl)) b3 b3 b3 b3 (j3 [(4,[0])] b3 b3 (fun e he=>hok e he) b3 (AllVS.cons ?_ AllVS.nil))
   refine vm3 ?_
   clear hok
   refine b5 (rs:=[7]) b3 rfl (AllB.cons ?_ AllB.nil)
   refine i1 [] rfl rfl (g9 G A1 rfl rfl rfl rfl rfl rfl rfl rfl rfl H0 rfl rfl (b4 ⟨rfl,?_⟩))
   refine b5 (rs:=[11]) b3 rfl (AllB.cons ?_ AllB.nil)
   refine i1 [] rfl rfl (g9 G A1 rfl rfl rfl rfl rfl rfl rfl rfl rfl H0 rfl rfl (b4 ⟨rfl,?_⟩))
   refine zsa 12 ?_
   exact l6 b3 (Meet.mk rfl rfl rfl rfl)
  refine zfo ?_
  all_goals exact b5h
 refine zwf ?_
 refine zcd (fun h5=>?_) (fun h5=>?_)
 ·refine zcd (fun h6=>?_) (fun h6=>?_)
  ·first | (exfalso;omega) | exact absurd c8 (hne _ (n6.mpr ⟨k,by omega,rfl⟩))
  refine zgo ?_
  apply x5 [4] [0] 2 13 [] mixed b3 rfl rfl (fun _ h=>znk h)
  ·intro r0
   refine vm2 ?_
   refine w3 (N:=1) rfl (p4 (fuel:=5) [⟨0,33,0,false,.row 3 1 []⟩] (AllVOK.cons (VOK.lit G rfl rfl rfl rfl rfl) (AllVOK.nil)) (fun hok=>?_))
   refine j3 [(4,[0]),(6,[])] b3 b3 (fun e he=>hok e he) b3 (AllVS.cons ?_ (AllVS.cons ?_ AllVS.nil))
   ·refine vm3 ?_
    clear hok
    refine b5 (rs:=[6]) b3 rfl (AllB.cons ?_ AllB.nil)
    refine i1 [] rfl rfl (s2 G 2 rfl rfl rfl rfl rfl rfl rfl rfl (b4 ⟨rfl,?_⟩))
    refine b5 (rs:=[7]) b3 rfl (AllB.cons ?_ AllB.nil)
    refine i1 [] rfl rfl (g9 G A1 rfl rfl rfl rfl rfl rfl rfl rfl rfl H0 rfl rfl (b4 ⟨rfl,?_⟩))
    refine b5 (rs:=[11]) b3 rfl (AllB.cons ?_ AllB.nil)
    refine i1 [] rfl rfl (g9 G A1 rfl rfl rfl rfl rfl rfl rfl rfl rfl H0 rfl rfl (b4 ⟨rfl,?_⟩))
    refine zsa 12 ?_
    exact l6 b3 (Meet.mk rfl rfl rfl rfl)
   refine VStep.mk0 [] rfl rfl (fun b1 _ hbn=>s2 G 2 rfl rfl rfl rfl rfl rfl rfl rfl (b4 rfl)) b3 b3 b3 b3 (j3 [(4,[0])] b3 b3 (fun e he=>hok e he) b3 (AllVS.cons ?_ AllVS.nil))
   refine vm3 ?_
   clear hok
   refine b5 (rs:=[7]) b3 rfl (AllB.cons ?_ AllB.nil)
   refine i1 [] rfl rfl (g9 G A1 rfl rfl rfl rfl rfl rfl rfl rfl rfl H0 rfl rfl (b4 ⟨rfl,?_⟩))
   refine b5 (rs:=[11]) b3 rfl (AllB.cons ?_ AllB.nil)
   refine i1 [] rfl rfl (g9 G A1 rfl rfl rfl rfl rfl rfl rfl rfl rfl H0 rfl rfl (b4 ⟨rfl,?_⟩))
   refine zsa 12 ?_
   exact l6 b3 (Meet.mk rfl rfl rfl rfl)
  refine zfo ?_
  all_goals exact b5h
 refine zwf ?_
 refine zgo ?_
 apply x5 [4] [0] 2 13 [] mixed b3 rfl rfl (fun _ h=>znk h)
 ·intro r0
  refine vm2 ?_
  refine w3 (N:=1) rfl (p4 (fuel:=5) [⟨0,33,0,false,.row 3 1 []⟩] (AllVOK.cons (VOK.lit G rfl rfl rfl rfl rfl) (AllVOK.nil)) (fun hok=>?_))
  refine j3 [(4,[0]),(6,[])] b3 b3 (fun e he=>hok e he) b3 (AllVS.cons ?_ (AllVS.cons ?_ AllVS.nil))
  ·refine vm3 ?_
   clear hok
   refine b5 (rs:=[6]) b3 rfl (AllB.cons ?_ AllB.nil)
   refine i1 [] rfl rfl (s2 G 2 rfl rfl rfl rfl rfl rfl rfl rfl (b4 ⟨rfl,?_⟩))
   refine b5 (rs:=[7]) b3 rfl (AllB.cons ?_ AllB.nil)
   refine i1 [] rfl rfl (g9 G A1 rfl rfl rfl rfl rfl rfl rfl rfl rfl H0 rfl rfl (b4 ⟨rfl,?_⟩))
   refine b5 (rs:=[11]) b3 rfl (AllB.cons ?_ AllB.nil)
   refine i1 [] rfl rfl (g9 G A1 rfl rfl rfl rfl rfl rfl rfl rfl rfl H0 rfl rfl (b4 ⟨rfl,?_⟩))
   refine zsa 12 ?_
   exact l6 b3 (Meet.mk rfl rfl rfl rfl)
  refine VStep.mk0 [] rfl rfl (fun b1 _ hbn=>s2 G 2 rfl rfl rfl rfl rfl rfl rfl rfl (b4 rfl)) b3 b3 b3 b3 (j3 [(4,[0])] b3 b3 (fun e he=>hok e he) b3 (AllVS.cons ?_ AllVS.nil))
  refine vm3 ?_
  clear hok
  refine b5 (rs:=[7]) b3 rfl (AllB.cons ?_ AllB.nil)
  refine i1 [] rfl rfl (g9 G A1 rfl rfl rfl rfl rfl rfl rfl rfl rfl H0 rfl rfl (b4 ⟨rfl,?_⟩))
  refine b5 (rs:=[11]) b3 rfl (AllB.cons ?_ AllB.nil)
  refine i1 [] rfl rfl (g9 G A1 rfl rfl rfl rfl rfl rfl rfl rfl rfl H0 rfl rfl (b4 ⟨rfl,?_⟩))
  refine zsa 12 ?_
  exact l6 b3 (Meet.mk rfl rfl rfl rfl)
 refine zfo ?_
 all_goals exact b5h
theorem a7Y (sl:List Slot) (hF:SlF sl):Ctr Tryz.prog 140 [.lst 3 (sl.map j8)] (.one (.fr 3 1 ((a6X sl 4).map Rf.r9))):=by
 have hl4:=hF.len
 refine Ctr.of (n:=34) G Tryz.func140 rfl b3 rfl rfl rfl (fun w0=>?_)
 refine b14 ?_
 refine zgo ?_
 refine i7 [0] [] (fun (i:Nat)=>[(3,.own 0),(4,.v (.int .i64 (i:Int)))]) (fun (i:Nat)=>[(0,some (.row 3 1 ((a6X sl i).map Rf.r9)))]) (fun (i:Nat)=>i≤4) (fun (i:Nat)=>4 - i) 0 rfl rfl ?_ ?_ ?_ ?_
 ·exact Nat.zero_le _
 ·exact ⟨⟨_,rfl,by rfl⟩,rfl,⟨⟨_,rfl,by rfl⟩,rfl,trivial⟩⟩
 ·exact ⟨⟨_,rfl,by rfl⟩,rfl,rfl,trivial⟩
 intro i hi
 simp only [List.cons_append,List.nil_append]
 refine zcd (fun h1=>?_) (fun h1=>?_)
 ·refine zcd (fun h2=>?_) (fun h2=>?_)
  ·refine zwt ?_
   refine c35 ?_
   refine G8 (Gh.sub 1 0 np rfl rfl rfl) (b4 ⟨(i+1),?_,?_,⟨⟨_,rfl,by rfl⟩,rfl,⟨⟨_,rfl,by rfl⟩,rfl,trivial⟩⟩,⟨⟨_,rfl,by (first | (rw [b31 (by omega)];done) | (rw [b32 (by omega)];done))⟩,rfl,rfl,trivial⟩,rfl,rfl,rfl⟩)
   ·omega
   omega
  refine zcd (fun h3=>?_) (fun h3=>?_)
  ·refine c35 ?_
   refine G8 (Gh.sub 1 0 np rfl rfl rfl) (b4 ⟨(i+1),?_,?_,⟨⟨_,rfl,by rfl⟩,rfl,⟨⟨_,rfl,by rfl⟩,rfl,trivial⟩⟩,⟨⟨_,rfl,by (first | (rw [b31 (by omega)];done) | (rw [b32 (by omega)];done))⟩,rfl,rfl,trivial⟩,rfl,rfl,rfl⟩)
   ·omega
   omega
  refine zgo ?_
  refine ⟨(i+1),?_,?_,⟨⟨_,rfl,by rfl⟩,rfl,⟨⟨_,rfl,by rfl⟩,rfl,trivial⟩⟩,⟨⟨_,rfl,by (first | (rw [b31 (by omega)];done) | (rw [b32 (by omega)];done))⟩,rfl,rfl,trivial⟩,rfl,rfl,rfl⟩
  ·omega
  omega
 obtain rfl:i=4:=(by omega)
 refine zfo ?_
 all_goals (rfl)
theorem a4R (x:Ifc) (hn:x.st.length≤1048576) (hl:x.qu.sl.length≤1048576) (hw:x.qu.wa.length≤1048576):Ctr Tryz.prog 105 [.agg [.v (.int .i64 x.ma),.lst 1 (x.st.map Rf.r9),.lst 3 (x.qu.sl.map j8),.lst 2 (x.qu.wa.map l1)]] (.one (.v (.bool (a3r x)))):=by
 refine Ctr.of (n:=54) G Tryz.func105 rfl b3 rfl rfl rfl (fun w0=>?_)
 refine o7 0 rfl (fun _=>rfl) (fun u0=>?_)
 refine u4 ?_
 refine b3r ?_
 refine zgn ?_
 refine u4 ?_
 refine a33 ?_
 refine a18 ?_
 refine o9 ?_
 refine b6 rfl rfl (f6 rfl (ArgsOK.of rfl) (a4n x.ma) rfl) ?_
 refine a18 ?_
 refine D4 rfl rfl rfl (fun h1=>?_) (fun h1=>?_)
 ·try rw [h1]
  try simp only [rfb] at h1
  refine zgn ?_
  refine J6 rfl ?_
  refine a0x ?_
  all_goals exact b3o
 try rw [h1]
 try simp only [rfb] at h1
 refine a18 ?_
 refine a0P ?_
 refine b6 rfl rfl (f6 rfl (ArgsOK.of rfl) (a9G x.qu hl hw) rfl) ?_
 refine zgn ?_
 refine r7 rfl (fun h2=>?_) (fun h2=>?_)
 ·try rw [h2]
  try simp only [rfb] at h2
  refine a0x ?_
  all_goals exact b3o
 try rw [h2]
 try simp only [rfb] at h2
 have hq:=a9k.mp h2
 have hSl:=hq.1.sl
 have hl4:=hSl.len
 refine zgn ?_
 refine a33 ?_
 refine a18 ?_
 refine o9 ?_
 refine d7 2 rfl rfl rfl (ArgsOK.of rfl) (C8 x.st hn) rfl rfl ?_
 refine zgn ?_
 refine a33 ?_
 refine zst ?_
 refine o9 ?_
 refine U2 2 [1] rfl rfl rfl (X8 x.st hn) rfl (RowsIn.cons rfl RowsIn.nil) rfl rfl rfl ?_
 refine zgn ?_
 refine u4 ?_
 refine a33 ?_
 iterate 4 refine zst ?_
 refine o9 ?_
 refine d7 3 rfl rfl rfl (ArgsOK.of rfl) (a6i x.qu.sl hSl) rfl rfl ?_
 refine o9 ?_
 refine b6 rfl rfl (f6 rfl (ArgsOK.of rfl) (a2G (srtI x.st) (srtI (actN x.qu.sl 4)) (by rw [U6];exact hn) (by rw [U6];have:=@a0m x.qu.sl 4;omega)) rfl) ?_
 refine zgn ?_
 refine r7 rfl (fun h3=>?_) (fun h3=>?_)
 ·try rw [h3]
  try simp only [rfb] at h3
  refine a0x ?_
  all_goals exact b3o
 try rw [h3]
 try simp only [rfb] at h3
 have hin:=fun j (hj:j < x.st.length)=>b33 (b34 h3 (n6.mpr ⟨j,hj,rfl⟩)) hl4
 refine zgn ?_
 refine zgn ?_
 refine w7 (i7 [1] [0] (fun (i:Nat)=>[(4,.v (.int .i64 (i:Int)))]) (fun (i:Nat)=>[]) (fun (i:Nat)=>1≤i∧∀ j,j < i→lvD x.qu.sl x.st j=true) (fun (i:Nat)=>x.st.length - i) 1 rfl rfl ?_ ?_ ?_ ?_)
 ·exact ⟨Nat.le_refl _,fun j hj=>by obtain rfl:j=0:=(by omega);exact c0v⟩
 ·exact ⟨⟨_,rfl,by (first | rfl | (simp;done) | (simp;omega))⟩,rfl,trivial⟩
 ·exact trivial
 intro i hinv
 have hti:0 < i→((i:Int) - 1).toNat=i - 1:=fun _=>(by omega)
 simp only [List.cons_append,List.nil_append]
 refine zgn ?_
 refine r7 rfl (fun h4=>?_) (fun h4=>?_)
 ·try rw [h4]
  try simp only [rfb] at h4
  have hi1:=hin i (by omega)
  have hi2:=hin (i - 1) (by omega)
  refine zgn ?_
  refine u4 (w7 ?_)
  refine b8T ?_
  iterate 8 refine zst ?_
  refine m4 rfl (u9 rfl rfl (f6 rfl (ArgsOK.of rfl) (V7 x.qu.sl _ hl hi1) rfl) ?_)
  iterate 6 refine zst ?_
  refine m4 rfl ?_
  refine b97 ?_
  refine m4 rfl (u9 rfl rfl (f6 rfl (ArgsOK.of rfl) (V7 x.qu.sl _ hl (by rw [hti (by omega)];exact hi2)) rfl) ?_)
  refine zgn ?_
  refine r7 rfl (fun h5=>?_) (fun h5=>?_)
  ·try rw [h5]
   try simp only [rfb] at h5
   refine a0x ?_
   all_goals exact b3o
  try rw [h5]
  try simp only [rfb] at h5
  refine zgn ?_
  refine d4 ?_
  refine zst ?_
  refine a9D ?_
  refine zgn ?_
  refine ⟨(i+1),?_,?_,⟨⟨_,rfl,by rfl⟩,rfl,trivial⟩,trivial,rfl,rfl,rfl⟩
  ·exact ⟨by omega,i8 hinv.2 (c0w b5c)⟩
  omega
 try rw [h4]
 try simp only [rfb] at h4
 refine zgn ?_
 refine a0x ?_
 all_goals exact b3o
end Go.Proofs.YtpfhomblkgmkkaaGreatDoor
set_option maxRecDepth 20000
namespace Go.Proofs.YtpfhomblkgmkkaaGreatDoor
open Go Go.Rf
theorem a2H (l:List Int) (v:Int) (hn:l.length≤1048576):Ctr Tryz.prog 281 [.lst 1 (l.map Rf.r9),.v (.int .i64 v)] (.one (.v (.int .i64 (G5 (fun j=>decide (v=l.getD j default)) l.length)))):=by
 refine Ctr.of (n:=19) G Tryz.func281 rfl b3 rfl rfl rfl (fun w0=>?_)
 refine zgo ?_
 refine i7 [0,1,7] [] (fun (i:Nat)=>[(8,.v (.int .i64 (i:Int)))]) (fun (i:Nat)=>[]) (fun (i:Nat)=>i≤l.length∧∀ j,j < i→decide (v=l.getD j default)=false) (fun (i:Nat)=>l.length - i) 0 rfl rfl ?_ ?_ ?_ ?_
 ·exact ⟨Nat.zero_le _,fun j hj=>by omega⟩
 ·exact ⟨⟨_,rfl,by (first | rfl | (simp;done) | (simp;omega))⟩,rfl,trivial⟩
 ·exact trivial
 intro i hinv
 simp only [List.cons_append,List.nil_append]
 refine zcd (fun h1=>?_) (fun h1=>?_)
 ·refine zcd (fun h2=>?_) (fun h2=>?_)
  ·refine zf1 ?_
   all_goals exact c00
  refine zgo ?_
  refine ⟨(i+1),?_,?_,⟨⟨_,rfl,by rfl⟩,rfl,trivial⟩,trivial,rfl,rfl,rfl⟩
  ·exact ⟨by omega,i8 hinv.2 b5s⟩
  omega
 refine zf1 ?_
 all_goals exact c00
theorem a1n (l:List Int) (v:Int) (hn:l.length≤1048576):Ctr Tryz.prog 224 [.lst 1 (l.map Rf.r9),.v (.int .i64 v)] (.one (.v (.bool (a9e l v)))):=by
 refine Ctr.of (n:=9) G Tryz.func224 rfl b3 rfl rfl rfl (fun w0=>?_)
 refine zcl (a2H _ _ V3) ?_
 refine zf1 ?_
 all_goals (simp only [a9e];rw [a3K])
theorem a2I (l:List Int) (v:Int) (hn:l.length≤1048576):Ctr Tryz.prog 141 [.lst 1 (l.map Rf.r9),.v (.int .i64 v)] (.one (.v (.bool (a9e l v)))):=by
 refine Ctr.of (n:=18) G Tryz.func141 rfl b3 rfl rfl rfl (fun w0=>?_)
 refine zgo ?_
 refine i7 [0,1] [] (fun (i:Nat)=>[(5,.v (.int .i64 (i:Int)))]) (fun (i:Nat)=>[]) (fun (i:Nat)=>i≤l.length∧∀ j,j < i→decide (v=l.getD j default)=false) (fun (i:Nat)=>l.length - i) 0 rfl rfl ?_ ?_ ?_ ?_
 ·exact ⟨Nat.zero_le _,fun j hj=>by omega⟩
 ·exact ⟨⟨_,rfl,by (first | rfl | (simp;done) | (simp;omega))⟩,rfl,trivial⟩
 ·exact trivial
 intro i hinv
 simp only [List.cons_append,List.nil_append]
 refine zcd (fun h1=>?_) (fun h1=>?_)
 ·refine zcd (fun h2=>?_) (fun h2=>?_)
  ·refine zf1 ?_
   all_goals exact c01
  refine zgo ?_
  refine ⟨(i+1),?_,?_,⟨⟨_,rfl,by rfl⟩,rfl,trivial⟩,trivial,rfl,rfl,rfl⟩
  ·exact ⟨by omega,i8 hinv.2 b5s⟩
  omega
 refine zf1 ?_
 all_goals exact c01
end Go.Proofs.YtpfhomblkgmkkaaGreatDoor
