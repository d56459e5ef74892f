/- Texts merged into one: M9, M14, M22, M23. -/
import Derived.Test.YtcnodpipinlpcaaGreatPFnAbstractStepsC
set_option maxHeartbeats 4000000
set_option linter.unusedSimpArgs false
set_option linter.unusedVariables false
set_option maxRecDepth 20000
namespace Go.Proofs.YtcnodpipinlpcaaGreat
open Go Go.Rf
theorem a1v (a b:Int):Ctr Tryz.prog 136 [.v (.int .i64 a),.v (.int .i64 b)] (.one (.v (.int .i64 (min a b)))):=by
 refine Ctr.of (n:=10) G Tryz.func136 rfl b5 rfl rfl rfl (fun w0=>?_)
 refine zcd (fun h1=>?_) (fun h1=>?_)
 ·refine zf1 ?_
  all_goals (simp_all;omega)
 refine zf1 ?_
 all_goals (simp_all;omega)
theorem a5L (sl:List Slot) (lim:Int) (hF:SlF sl) (hk:a01 sl lim=true):Ctr Tryz.prog 181 [.lst 3 (sl.map p4),.v (.int .i64 lim)] (.many [.fr 154 3 ((tkS sl).map p4),.v (.int .i64 (tkI sl))]):=by
 have hl4:=hF.len
 have hb:=@a1O sl true
 have hf:=@a2k sl
 have hkk:=H5.mp hk
 refine Ctr.of (n:=33) G Tryz.func181 rfl b5 rfl rfl rfl (fun w0=>?_)
 refine zcl (R6 sl (by omega)) ?_
 refine zcd (fun h1=>?_) (fun h1=>?_)
 ·exfalso;omega
 refine zcd (fun h2=>?_) (fun h2=>?_)
 ·exfalso;omega
 refine a8y ?_
 refine zgn ?_
 refine zgn ?_
 refine G3 (j9 8 [0] m5 b5 rfl rfl (fun r0=>?_) (fun _ h=>h))
 refine zsa 0 ?_
 refine zsa 1 ?_
 refine zsa 2 ?_
 refine zsa 4 ?_
 refine zsa 5 ?_
 refine a9 (rs:=[3]) b5 rfl (AllB.cons ?_ AllB.nil)
 refine m3 [0] rfl rfl (g8 2 rfl rfl rfl (ArgsOK.of rfl) (w5 sl _ ⟨_,_,_⟩ (by omega) (by omega)) rfl rfl (a4 ⟨rfl,?_⟩))
 refine zsa 6 ?_
 refine zsa 7 ?_
 refine T5 ?_
 refine c8 (v6 rfl rfl rfl rfl (a5 (b8 rfl ?_) (a5 (g9 ?_) d4)))
 all_goals (rfl)
theorem a6U (sl:List Slot) (irq p:Int) (hF:SlF sl) (h0:0≤o9 sl irq):Ctr Tryz.prog 184 [.lst 3 (sl.map p4),.v (.int .i64 irq),.v (.int .i64 p)] (.many [.fr 154 3 ((ptS sl irq).map p4),.v (.bool true)]):=by
 have hl4:=hF.len
 have hf:=@a2k sl irq
 refine Ctr.of (n:=39) G Tryz.func184 rfl b5 rfl rfl rfl (fun w0=>?_)
 refine zcl (A9 sl irq (by omega)) ?_
 refine zcd (fun h1=>?_) (fun h1=>?_)
 ·refine a8y ?_
  refine zcd (fun h2=>?_) (fun h2=>?_)
  ·refine b3Y ?_
   refine c8 (v6 rfl rfl rfl rfl (a5 (b8 rfl ?_) (a5 (g9 ?_) d4)))
   all_goals exact b4P
  refine b3Y ?_
  refine c8 (v6 rfl rfl rfl rfl (a5 (b8 rfl ?_) (a5 (g9 ?_) d4)))
  all_goals exact b4P
 exfalso;omega
theorem O2 (q:Que) (hF:QF q):Ctr Tryz.prog 185 [.agg [.lst 3 (q.sl.map p4),.lst 2 (q.wa.map s6)]] (.shp true [some 2] [.fr 154 3 ((a03 q).sl.map p4),.fr 183 2 ((a03 q).wa.map s6)]):=by
 have hq4:=hF.sl.len
 have hqw:=hF.wn
 refine Ctr.of (n:=56) G Tryz.func185 rfl b5 rfl rfl rfl (fun w0=>?_)
 refine r8 0 rfl (fun _=>rfl) (fun u0=>?_)
 refine a2p ?_
 refine F6 ?_
 refine g8 4 rfl rfl rfl (ArgsOK.of rfl) (a3k q (by omega) (by omega)) rfl rfl ?_
 refine y6 ?_
 refine d7 G 5 rfl rfl rfl rfl rfl ?_
 refine zgo ?_
 refine m4 [2,3] [1,4] (fun (x:Que)=>[]) (fun (x:Que)=>[(2,some (.row 154 3 (x.sl.map p4))),(3,some (.row 183 2 (x.wa.map s6)))]) (fun (x:Que)=>QF x∧a03 x=a03 q) (fun (x:Que)=>phi x) q rfl rfl ?_ ?_ ?_ ?_
 ·exact ⟨hF,rfl⟩
 ·exact trivial
 ·exact ⟨⟨_,rfl,by rfl⟩,rfl,rfl,⟨⟨_,rfl,by rfl⟩,rfl,rfl,trivial⟩⟩
 intro x hinv
 have hFx:=hinv.1
 have hl4:=hFx.sl.len
 have hwn:=hFx.wn
 have hf:=@b0t x.sl
 have hb:=@a1O x.sl false
 simp only [List.cons_append,List.nil_append]
 refine zcl (a0p x (by omega) (by omega)) ?_
 refine zcd (fun h1=>?_) (fun h1=>?_)
 ·obtain ⟨hw0,hbb⟩:=b1N hFx h1
  have hnx:=a9I hFx h1
  obtain ⟨hF2,hphi⟩:=a57 hFx h1
  refine F6 ?_
  first | refine a3 rfl rfl (k8 G rfl rfl rfl rfl rfl (by omega) (by omega)) ?_ | refine a3 rfl rfl (k8 G rfl rfl rfl rfl rfl (by omega) u5) ?_
  refine y6 ?_
  first | refine a3 rfl rfl (y7 G rfl rfl rfl rfl (C4 (by omega)) rfl) ?_ | refine a3 rfl rfl (y7 G rfl rfl rfl rfl (t8 (by omega) (by omega)) rfl) ?_ | refine a3 rfl rfl (y7 G rfl rfl rfl rfl (C3 (by omega) (by omega)) rfl) ?_ | refine a3 rfl rfl (y7 G rfl rfl rfl rfl (C3 (by omega) u5) rfl) ?_
  refine y6 ?_
  refine d7 G 6 rfl rfl rfl rfl rfl ?_
  refine F6 ?_
  refine k6 G 7 rfl rfl rfl rfl rfl rfl rfl rfl ?_
  refine F6 ?_
  refine a3 rfl rfl (a1H G rfl rfl rfl rfl rfl rfl (by omega) a9W a9W) ?_
  refine y6 ?_
  refine a4V G np rfl rfl rfl rfl rfl rfl rfl (ArgOK.sub rfl (by (try simp only [List.length_take,List.length_append,List.length_map,List.length_drop,List.length_cons,List.length_nil,List.length_replicate,Int.toNat_natCast]);omega)) rfl u5 rfl rfl ?_
  refine zgn ?_
  refine b1v (id:=6) ((x.wa.drop 1).map s6) rfl a3h ?_
  refine zcl (Z6 x.sl (by omega)) ?_
  refine zcd (fun h2=>?_) (fun h2=>?_)
  ·refine zcl (a0Y x.sl (by omega)) ?_
   refine zgn ?_
   refine j9 16 [1,2,3,4,5,6] m5 b5 rfl rfl (fun r0=>?_) (fun _ h=>h)
   refine a3O ?_
   first | refine b9 4 rfl b5 b5 rfl rfl rfl rfl (k8 G rfl rfl rfl rfl rfl (by omega) (by omega)) ?_ | refine b9 4 rfl b5 b5 rfl rfl rfl rfl (k8 G rfl rfl rfl rfl rfl (by omega) u5) ?_
   refine b9 5 rfl b5 b5 rfl rfl rfl rfl (Q7 G rfl rfl rfl rfl) ?_
   first | refine b9 6 rfl b5 b5 rfl rfl rfl rfl (u3 G rfl rfl rfl rfl rfl (C4 (by omega)) rfl) ?_ | refine b9 6 rfl b5 b5 rfl rfl rfl rfl (u3 G rfl rfl rfl rfl rfl (t8 (by omega) (by omega)) rfl) ?_ | refine b9 6 rfl b5 b5 rfl rfl rfl rfl (u3 G rfl rfl rfl rfl rfl (C3 (by omega) (by omega)) rfl) ?_ | refine b9 6 rfl b5 b5 rfl rfl rfl rfl (u3 G rfl rfl rfl rfl rfl (C3 (by omega) u5) rfl) ?_
   refine zsa 7 ?_
   refine zsa 8 ?_
   refine zsa 9 ?_
   first | refine b9 10 rfl b5 b5 rfl rfl rfl rfl (k8 G rfl rfl rfl rfl rfl (by omega) (by omega)) ?_ | refine b9 10 rfl b5 b5 rfl rfl rfl rfl (k8 G rfl rfl rfl rfl rfl (by omega) u5) ?_
   refine b9 11 rfl b5 b5 rfl rfl rfl rfl (Q7 G rfl rfl rfl rfl) ?_
   first | refine b9 12 rfl b5 b5 rfl rfl rfl rfl (u3 G rfl rfl rfl rfl rfl (C4 (by omega)) rfl) ?_ | refine b9 12 rfl b5 b5 rfl rfl rfl rfl (u3 G rfl rfl rfl rfl rfl (t8 (by omega) (by omega)) rfl) ?_ | refine b9 12 rfl b5 b5 rfl rfl rfl rfl (u3 G rfl rfl rfl rfl rfl (C3 (by omega) (by omega)) rfl) ?_ | refine b9 12 rfl b5 b5 rfl rfl rfl rfl (u3 G rfl rfl rfl rfl rfl (C3 (by omega) u5) rfl) ?_
   refine zsa 13 ?_
   refine a9 (rs:=[14]) b5 rfl (AllB.cons ?_ AllB.nil)
   refine m3 [1,2,3,4,5,6] rfl rfl (g8 8 rfl rfl rfl (ArgsOK.of rfl) (Z4 (x.wa.drop 1) ⟨_,_⟩ (by rw [List.length_drop];omega)) rfl rfl (a4 ⟨rfl,?_⟩))
   refine zsa 15 ?_
   refine T5 ?_
   refine F6 ?_
   refine g8 9 rfl rfl rfl (ArgsOK.of rfl) (w5 x.sl _ ⟨1,_,_⟩ (by omega) (by omega)) rfl rfl ?_
   refine a5t ?_
   refine m7 (Gh.sub 8 2 np rfl rfl rfl) (m7 (Gh.sub 7 3 np rfl rfl rfl) (a4 ⟨(stQ x),?_,?_,trivial,⟨⟨_,rfl,by (first | rfl | (rw [A8 (q:=x) (by omega)];exact congrArg (fun z=>Row.row _ _ z) (a5H (f:=p4) (x:=⟨1,_,_⟩))) | (rw [F2 (q:=x) (by omega)];exact congrArg (fun z=>Row.row _ _ z) (a5H (f:=p4) (x:=⟨1,_,_⟩))) | (rw [A8 (q:=x) (by omega)];exact congrArg (fun z=>Row.row _ _ z) (List.map_drop).symm) | (rw [F2 (q:=x) (by omega)];done) | (rw [F2 (q:=x) (by omega)];rfl) | (rw [A8 (q:=x) (by omega)];done) | (rw [A8 (q:=x) (by omega)];rfl) | (rw [A8 (q:=x) (by omega)];exact congrArg (fun z=>Row.row _ _ z) a3h)| (rw [F2 (q:=x) (by omega)];exact congrArg (fun z=>Row.row _ _ z) a3h))⟩,rfl,rfl,⟨⟨_,rfl,by (first | rfl | (rw [A8 (q:=x) (by omega)];exact congrArg (fun z=>Row.row _ _ z) (a5H (f:=p4) (x:=⟨1,_,_⟩))) | (rw [F2 (q:=x) (by omega)];exact congrArg (fun z=>Row.row _ _ z) (a5H (f:=p4) (x:=⟨1,_,_⟩))) | (rw [A8 (q:=x) (by omega)];exact congrArg (fun z=>Row.row _ _ z) (List.map_drop).symm) | (rw [F2 (q:=x) (by omega)];done) | (rw [F2 (q:=x) (by omega)];rfl) | (rw [A8 (q:=x) (by omega)];done) | (rw [A8 (q:=x) (by omega)];rfl) | (rw [A8 (q:=x) (by omega)];exact congrArg (fun z=>Row.row _ _ z) a3h)| (rw [F2 (q:=x) (by omega)];exact congrArg (fun z=>Row.row _ _ z) a3h))⟩,rfl,rfl,trivial⟩⟩,rfl,rfl,rfl⟩))
   ·exact ⟨hF2,hnx▸hinv.2⟩
   exact hphi
  refine F6 ?_
  refine g8 8 rfl rfl rfl (ArgsOK.of rfl) (w5 x.sl _ ⟨1,_,_⟩ (by omega) (by omega)) rfl rfl ?_
  refine a5t ?_
  refine m7 (Gh.sub 7 2 np rfl rfl rfl) (m7 (Gh.sub 6 3 np rfl rfl rfl) (a4 ⟨(stQ x),?_,?_,trivial,⟨⟨_,rfl,by (first | rfl | (rw [A8 (q:=x) (by omega)];exact congrArg (fun z=>Row.row _ _ z) (a5H (f:=p4) (x:=⟨1,_,_⟩))) | (rw [F2 (q:=x) (by omega)];exact congrArg (fun z=>Row.row _ _ z) (a5H (f:=p4) (x:=⟨1,_,_⟩))) | (rw [A8 (q:=x) (by omega)];exact congrArg (fun z=>Row.row _ _ z) (List.map_drop).symm) | (rw [F2 (q:=x) (by omega)];done) | (rw [F2 (q:=x) (by omega)];rfl) | (rw [A8 (q:=x) (by omega)];done) | (rw [A8 (q:=x) (by omega)];rfl) | (rw [A8 (q:=x) (by omega)];exact congrArg (fun z=>Row.row _ _ z) a3h)| (rw [F2 (q:=x) (by omega)];exact congrArg (fun z=>Row.row _ _ z) a3h))⟩,rfl,rfl,⟨⟨_,rfl,by (first | rfl | (rw [A8 (q:=x) (by omega)];exact congrArg (fun z=>Row.row _ _ z) (a5H (f:=p4) (x:=⟨1,_,_⟩))) | (rw [F2 (q:=x) (by omega)];exact congrArg (fun z=>Row.row _ _ z) (a5H (f:=p4) (x:=⟨1,_,_⟩))) | (rw [A8 (q:=x) (by omega)];exact congrArg (fun z=>Row.row _ _ z) (List.map_drop).symm) | (rw [F2 (q:=x) (by omega)];done) | (rw [F2 (q:=x) (by omega)];rfl) | (rw [A8 (q:=x) (by omega)];done) | (rw [A8 (q:=x) (by omega)];rfl) | (rw [A8 (q:=x) (by omega)];exact congrArg (fun z=>Row.row _ _ z) a3h)| (rw [F2 (q:=x) (by omega)];exact congrArg (fun z=>Row.row _ _ z) a3h))⟩,rfl,rfl,trivial⟩⟩,rfl,rfl,rfl⟩))
  ·exact ⟨hF2,hnx▸hinv.2⟩
  exact hphi
 have hd:=a9J h1
 refine zgo ?_
 refine c8 (l6 rfl rfl rfl rfl (a5 (b8 rfl ?_) (a5 (b8 rfl ?_) d4)))
 all_goals ((rw [← hinv.2,hd];done))
theorem O5 (q:Que) (irq p:Int) (hF:QF q) (hi:0≤irq∧irq≤7) (hp:0≤p∧p≤15):Ctr Tryz.prog 138 [.agg [.lst 3 (q.sl.map p4),.lst 2 (q.wa.map s6)],.v (.int .i64 irq),.v (.int .i64 p)] (.shp true [some 2] [.fr 154 3 ((a0J q irq p).sl.map p4),.fr 183 2 ((a0J q irq p).wa.map s6)]):=by
 have hl4:=hF.sl.len
 have hwn:=hF.wn
 have hQ:=(a8c (irq:=irq) (p:=p) hF hi hp).1
 refine Ctr.of (n:=44) G Tryz.func138 rfl b5 rfl rfl rfl (fun w0=>?_)
 refine r8 0 rfl (fun _=>rfl) (fun u0=>?_)
 refine b4 (fun K1 hK1=>?_)
 refine a6 ?_
 refine vm6 ?_
 refine vm9 ?_
 refine a4 (hK1 _ ?_)
 clear hK1 K1
 refine b4 (fun K2 hK2=>?_)
 refine b4 (fun K3 hK3=>?_)
 refine b2d ?_
 refine a3 rfl rfl (k5 rfl (ArgsOK.of rfl) (A9 q.sl irq (by omega)) rfl) ?_
 refine y6 ?_
 refine a3 rfl rfl (f9 rfl rfl rfl rfl) (a4 (hK3 _ ?_))
 clear hK3 K3
 refine d1 rfl (fun h1=>?_) (fun h1=>?_)
 ·try rw [h1]
  try simp only [rfb] at h1
  have ho:=b0J (p:=p) h1
  rw [ho] at hQ
  refine b4 (fun K4 hK4=>?_)
  refine b2d ?_
  refine a3 rfl rfl (a8 rfl rfl) ?_
  refine y6 ?_
  refine g8 3 rfl rfl rfl (ArgsOK.of rfl) (a6U q.sl irq p hF.sl h1) rfl rfl ?_
  refine b45 ?_
  refine hK4 _ ?_
  clear hK4 K4
  refine b4 (fun K5 hK5=>?_)
  refine a6 ?_
  refine y6 ?_
  refine a3 rfl rfl (a8 rfl rfl) ?_
  refine b4Z ?_
  refine a4 (hK5 _ ?_)
  clear hK5 K5
  refine c8 (l6 rfl rfl rfl rfl (a5 (b8 rfl ?_) (a5 (b8 rfl ?_) d4)))
  all_goals clear hK2 K2
  all_goals exact b3X
 ·try rw [h1]
  try simp only [rfb] at h1
  refine e9 (hK2 _ ?_)
  clear hK2 K2
  refine b4 (fun K6 hK6=>?_)
  refine b4 (fun K7 hK7=>?_)
  refine b2d ?_
  refine a3 rfl rfl (k5 rfl (ArgsOK.of rfl) (a6T q.wa irq (by omega)) rfl) ?_
  refine y6 ?_
  refine a3 rfl rfl (f9 rfl rfl rfl rfl) (a4 (hK7 _ ?_))
  clear hK7 K7
  refine d1 rfl (fun h2=>?_) (fun h2=>?_)
  ·try rw [h2]
   try simp only [rfb] at h2
   have ho:=b0L (p:=p) h1 h2
   rw [ho] at hQ
   refine b4 (fun K8 hK8=>?_)
   refine a6 ?_
   refine y6 ?_
   refine a3 rfl rfl (b3 G rfl rfl rfl rfl rfl rfl) ?_
   refine y6 ?_
   refine g8 4 rfl rfl rfl (ArgsOK.of rfl) (O2 _ hQ) rfl rfl ?_
   refine y6 ?_
   refine c5 G rfl rfl rfl rfl rfl rfl rfl rfl rfl rfl rfl (a4 (hK8 _ ?_))
   clear hK8 K8
   refine c8 (l6 rfl rfl rfl rfl (a5 (b8 rfl ?_) (a5 (b8 rfl ?_) d4)))
   all_goals clear hK6 K6
   all_goals exact b3X
  ·try rw [h2]
   try simp only [rfb] at h2
   have ho:=b0K (p:=p) h1 h2
   rw [ho] at hQ
   refine e9 (hK6 _ ?_)
   clear hK6 K6
   refine b4 (fun K9 hK9=>?_)
   refine j9 11 [0] m5 b5 rfl rfl (fun r0=>?_) (fun _ h=>h)
   refine b9 0 rfl b5 b5 rfl rfl rfl rfl (b7 G rfl rfl rfl rfl) (b9 1 rfl b5 b5 rfl rfl rfl rfl (c4 G rfl rfl rfl rfl rfl rfl rfl) (b9 2 rfl b5 b5 rfl rfl rfl rfl (b7 G rfl rfl rfl rfl) (b9 3 rfl b5 b5 rfl rfl rfl rfl (E0 (c4 G rfl rfl rfl rfl rfl rfl rfl)) (b9 4 rfl b5 b5 rfl rfl rfl rfl (a8 rfl rfl) (b9 5 rfl b5 b5 rfl rfl rfl rfl (a8 rfl rfl) (b9 6 rfl b5 b5 rfl rfl rfl rfl (g0 G rfl rfl rfl rfl) ?_))))))
   refine a9 (rs:=[7]) b5 rfl (AllB.cons ?_ AllB.nil)
   refine c7 [0] rfl rfl (g8 3 rfl rfl rfl (ArgsOK.of rfl) (Z4 q.wa ⟨irq,p⟩ (by omega)) rfl rfl (a4 ⟨rfl,?_⟩))
   refine a9 (rs:=[8]) b5 rfl (AllB.cons ?_ AllB.nil)
   refine c7 [0] rfl rfl (a3 rfl rfl (g0 G rfl rfl rfl rfl) (a4 ⟨rfl,?_⟩))
   refine a9 (rs:=[9]) b5 rfl (AllB.cons ?_ AllB.nil)
   refine c7 [0] rfl rfl (g8 5 rfl rfl rfl (ArgsOK.of rfl) (O2 _ hQ) rfl rfl (a4 ⟨rfl,?_⟩))
   refine a9 (rs:=[10]) b5 rfl (AllB.cons ?_ AllB.nil)
   refine c7 [0] rfl rfl (c5 G rfl rfl rfl rfl rfl rfl rfl rfl rfl rfl rfl (a4 ⟨rfl,?_⟩))
   refine l9 b5 (hK9 _ ?_)
   clear hK9 K9
   refine c8 (l6 rfl rfl rfl rfl (a5 (b8 rfl ?_) (a5 (b8 rfl ?_) d4)))
   all_goals exact b3X
theorem a13 (q:Que) (lim:Int) (hF:QF q) (hk:a01 q.sl lim=true):Ctr Tryz.prog 135 [.agg [.lst 3 (q.sl.map p4),.lst 2 (q.wa.map s6)],.v (.int .i64 lim)] (.shp false [some 2,none] [.fr 154 3 ((a2m q).sl.map p4),.fr 183 2 ((a2m q).wa.map s6),.v (.int .i64 (tkI q.sl))]):=by
 have hl4:=hF.sl.len
 have hwn:=hF.wn
 have htl:(tkS q.sl).length=4:=by unfold tkS;rw [List.length_set];exact hl4
 refine Ctr.of (n:=24) G Tryz.func135 rfl b5 rfl rfl rfl (fun w0=>?_)
 refine r8 0 rfl (fun _=>rfl) (fun u0=>?_)
 refine a2p ?_
 refine F6 ?_
 refine g8 3 rfl rfl rfl (ArgsOK.of rfl) (a5L q.sl lim hF.sl hk) rfl rfl ?_
 refine zgn ?_
 refine G3 (j9 11 [0,2] m5 b5 rfl rfl (fun r0=>?_) (fun _ h=>h))
 refine zsa 1 ?_
 refine zsa 4 ?_
 refine zsa 5 ?_
 refine zsa 8 ?_
 refine z8 (N:=5) rfl (s2 (fuel:=5) [⟨0,15,3,false,.row 154 3 []⟩,⟨3,18,4,false,.row 183 2 []⟩] (AllVOK.cons (VOK.lit G rfl rfl rfl rfl rfl) (AllVOK.cons (VOK.lit G rfl rfl rfl rfl rfl) (AllVOK.nil))) (fun hok=>?_))
 refine n6 [(2,[0])] b5 b5 (fun e he=>hok e he) b5 (AllVS.cons ?_ AllVS.nil)
 refine VStep.mk1 [0,2] 15 (.own 3) 3 (.row 154 3 []) [⟨3,18,4,false,.row 183 2 []⟩] rfl rfl rfl rfl rfl (fun b1 _ hbn=>f7 G a0Q rfl rfl rfl rfl rfl rfl rfl rfl rfl u5 rfl rfl (a4 rfl)) b5 b5 b5 b5 (n6 [(6,[3])] b5 b5 (fun e he=>hok e (vin (is:=[0]) rfl he)) b5 (AllVS.cons ?_ AllVS.nil))
 refine VStep.mk1 [0,2] 18 (.own 4) 4 (.row 183 2 []) [] rfl rfl rfl rfl rfl (fun b1 _ hbn=>f7 G a0Q rfl rfl rfl rfl rfl rfl rfl rfl rfl u5 rfl rfl (a4 rfl)) b5 b5 b5 b5 (F8 ?_)
 clear hok
 refine a9 (rs:=[7]) b5 rfl (AllB.cons ?_ AllB.nil)
 refine m3 [0,2] rfl rfl ?_
 refine a1U ?_
 refine a9 (rs:=[9]) b5 rfl (AllB.cons ?_ AllB.nil)
 refine m3 [0,2] rfl rfl ?_
 refine a1U ?_
 refine zsa 10 ?_
 refine T5 ?_
 refine c8 (l6 rfl rfl rfl rfl (a5 (b8 rfl ?_) (a5 (b8 rfl ?_) (a5 (g9 ?_) d4))))
 all_goals (first | rfl | simp | (simp [a2m];done))
theorem R7 (q:Que) (irq:Int) (hl:q.sl.length≤1048576) (h0:0≤o9 q.sl irq):Ctr Tryz.prog 182 [.agg [.lst 3 (q.sl.map p4),.lst 2 (q.wa.map s6)],.v (.int .i64 irq)] (.one (.v (.int .i64 (lvl q.sl irq)))):=by
 have hf:=@a2k q.sl irq
 refine Ctr.of (n:=14) G Tryz.func182 rfl b5 rfl rfl rfl (fun w0=>?_)
 refine r8 0 rfl (fun _=>rfl) (fun u0=>?_)
 refine zgo ?_
 refine vm6 ?_
 refine zgd ?_
 refine zcl (A9 q.sl irq hl) ?_
 refine zf1 ?_
 all_goals (rfl)
theorem Y7 (x:Ifc) (hF:IfF x):Ctr Tryz.prog 137 [.agg [.v (.int .i64 x.ma),.lst 1 (x.st.map Rf.r5),.lst 3 (x.qu.sl.map p4),.lst 2 (x.qu.wa.map s6)]] (.one (.v (.int .i64 (a22 x)))):=by
 have hl4:=hF.qu.sl.len
 have hwn:=hF.qu.wn
 have hsn:=hF.sn
 refine Ctr.of (n:=18) G Tryz.func137 rfl b5 rfl rfl rfl (fun w0=>?_)
 refine r8 0 rfl (fun _=>rfl) (fun u0=>?_)
 refine a3i ?_
 refine vm6 ?_
 refine zgn ?_
 refine zgn ?_
 refine zgn ?_
 refine d1 rfl (fun h1=>?_) (fun h1=>?_)
 ·try rw [h1]
  try simp only [rfb] at h1
  have htn:((x.st.length:Int) - 1).toNat=x.st.length - 1:=(by omega)
  have htp:=hF.top (show x.st.length - 1 < x.st.length by omega)
  refine b1n ?_
  iterate 5 refine zst ?_
  refine d6 rfl ?_
  refine b44 ?_
  refine d6 rfl (j5 rfl rfl (k5 rfl (ArgsOK.of rfl) (R7 x.qu _ (by omega) (by first | assumption | (rw [htn];assumption))) rfl) ?_)
  refine a4j ?_
  all_goals exact b4Q
 try rw [h1]
 try simp only [rfb] at h1
 refine zgn ?_
 refine a4j ?_
 all_goals exact b4Q
theorem L5 (x:Ifc) (irq p:Int) (hF:IfF x) (hi:0≤irq∧irq≤7) (hp:0≤p∧p≤15):Ctr Tryz.prog 74 [.agg [.v (.int .i64 x.ma),.lst 1 (x.st.map Rf.r5),.lst 3 (x.qu.sl.map p4),.lst 2 (x.qu.wa.map s6)],.v (.int .i64 irq),.v (.int .i64 p)] (.shp true [some 4] [.v (.int .i64 x.ma),.fr 3 1 (x.st.map Rf.r5),.fr 154 3 ((a0J x.qu irq p).sl.map p4),.fr 183 2 ((a0J x.qu irq p).wa.map s6)]):=by
 have hl4:=hF.qu.sl.len
 have hwn:=hF.qu.wn
 have hsn:=hF.sn
 refine Ctr.of (n:=18) G Tryz.func74 rfl b5 rfl rfl rfl (fun w0=>?_)
 refine r8 0 rfl (fun _=>rfl) (fun u0=>?_)
 refine a2p ?_
 refine zgn ?_
 refine G3 (j9 12 [0] m5 b5 rfl rfl (fun r0=>?_) (fun _ h=>h))
 refine a3O ?_
 refine zsa 5 ?_
 refine zsa 6 ?_
 refine zsa 7 ?_
 refine zsa 8 ?_
 refine a9 (rs:=[4]) b5 rfl (AllB.cons ?_ AllB.nil)
 refine m3 [0] rfl rfl (g8 3 rfl rfl rfl (ArgsOK.of rfl) (y9 x.st (by omega)) rfl rfl (a4 ⟨rfl,?_⟩))
 refine a9 (rs:=[9]) b5 rfl (AllB.cons ?_ AllB.nil)
 refine m3 [0] rfl rfl (g8 5 rfl rfl rfl (ArgsOK.of rfl) (O5 x.qu irq p hF.qu hi hp) rfl rfl (a4 ⟨rfl,?_⟩))
 refine a9 (rs:=[10]) b5 rfl (AllB.cons ?_ AllB.nil)
 refine a6S ?_
 refine a9 (rs:=[11]) b5 rfl (AllB.cons ?_ AllB.nil)
 refine a6S ?_
 refine T5 ?_
 refine c8 (l6 rfl rfl rfl rfl (a5 (g9 ?_) (a5 (b8 rfl ?_) (a5 (b8 rfl ?_) (a5 (b8 rfl ?_) d4)))))
 all_goals (rfl)
theorem a1w (x:Ifc) (hF:IfF x) (hk:okT x=true):Ctr Tryz.prog 73 [.agg [.v (.int .i64 x.ma),.lst 1 (x.st.map Rf.r5),.lst 3 (x.qu.sl.map p4),.lst 2 (x.qu.wa.map s6)]] (.shp false [some 4,none] [.v (.int .i64 (a1m x).ma),.fr 3 1 ((a1m x).st.map Rf.r5),.fr 154 3 ((a1m x).qu.sl.map p4),.fr 183 2 ((a1m x).qu.wa.map s6),.v (.int .i64 (tkI x.qu.sl))]):=by
 have hl4:=hF.qu.sl.len
 have hwn:=hF.qu.wn
 have hsn:=hF.sn
 have hkk:=H5.mp hk
 have htb:=a8i hF.qu.sl hkk.1
 refine Ctr.of (n:=35) G Tryz.func73 rfl b5 rfl rfl rfl (fun w0=>?_)
 refine r8 0 rfl (fun _=>rfl) (fun u0=>?_)
 refine a2p ?_
 refine zgn ?_
 refine G3 (j9 14 [0,1] m5 b5 rfl rfl (fun r0=>?_) (fun _ h=>h))
 refine a3O ?_
 refine zsa 4 ?_
 refine z8 (N:=3) rfl (s2 (fuel:=8) [⟨11,4,2,true,.box (avR [.slice none 0 0,.slice none 0 0] [])⟩] (AllVOK.cons (VOK.boxS G rfl rfl rfl rfl rfl) (AllVOK.nil)) (fun hok=>?_))
 refine n6 [(5,[])] b5 b5 (fun e he=>hok e he) b5 (AllVS.cons ?_ AllVS.nil)
 refine VStep.mk0 [0,1] rfl rfl (fun b1 _ hbn=>a3 rfl rfl (k5 rfl (ArgsOK.of rfl) (Y7 x hF) rfl) (a4 rfl)) b5 b5 b5 b5 (n6 [(6,[])] b5 b5 (fun e he=>hok e he) b5 (AllVS.cons ?_ AllVS.nil))
 refine VStep.mk0 [0,1] rfl rfl (fun b1 _ hbn=>a3 rfl rfl (k5 rfl (ArgsOK.of rfl) (a1v _ _) rfl) (a4 rfl)) b5 b5 b5 b5 (n6 [(7,[])] b5 b5 (fun e he=>hok e he) b5 (AllVS.cons ?_ AllVS.nil))
 refine VStep.mk0 [0,1] rfl rfl (fun b1 _ hbn=>g8 5 rfl rfl rfl (ArgsOK.of rfl) (a13 x.qu (b0M x) hF.qu hk) rfl rfl (a4 rfl)) b5 b5 b5 b5 (w9 8 rfl b5 rfl rfl rfl rfl (a8 rfl rfl) b5 b5 b5 (w9 9 rfl b5 rfl rfl rfl rfl (c9 rfl rfl rfl) b5 b5 b5 (w9 10 rfl b5 rfl rfl rfl rfl (c9 rfl rfl rfl) b5 b5 b5 (n6 [(12,[11])] b5 b5 (fun e he=>hok e he) b5 (AllVS.cons ?_ AllVS.nil)))))
 refine b40 ?_
 clear hok
 refine zsa 13 ?_
 refine T5 ?_
 refine G3 (j9 9 [0,1,2,3,4] m5 b5 rfl rfl (fun r0=>?_) (fun _ h=>h))
 refine a3O ?_
 refine zsa 5 ?_
 refine z8 (N:=6) rfl (s2 (fuel:=3) [⟨7,6,5,true,.box (avR [.int .i64 0,.slice none 0 0,.slice none 0 0,.slice none 0 0] [])⟩] (AllVOK.cons (VOK.boxS G rfl rfl rfl rfl rfl) (AllVOK.nil)) (fun hok=>?_))
 refine n6 [(4,[])] b5 b5 (fun e he=>hok e he) b5 (AllVS.cons ?_ AllVS.nil)
 refine VStep.mk0 [0,1,2,3,4] rfl rfl (fun b1 _ hbn=>g8 7 rfl rfl rfl (ArgsOK.of rfl) (y9 x.st (by omega)) rfl rfl (a4 rfl)) b5 b5 b5 b5 (n6 [(6,[])] b5 b5 (fun e he=>hok e he) b5 (AllVS.cons ?_ AllVS.nil))
 refine VStep.mk0 [0,1,2,3,4] rfl rfl (fun b1 _ hbn=>a3 rfl rfl (g0 G rfl rfl rfl rfl) (a4 rfl)) b5 b5 b5 b5 (n6 [(8,[7])] b5 b5 (fun e he=>hok e he) b5 (AllVS.cons ?_ AllVS.nil))
 refine b4Y ?_
 clear hok
 refine T5 ?_
 refine zcd (fun h1=>?_) (fun h1=>?_)
 ·refine F6 ?_
  refine k6 G 8 rfl rfl rfl rfl rfl rfl rfl rfl ?_
  refine y6 ?_
  refine s4 (Gh.forget (id:=5) (k:=1) rfl rfl)<|s4 (Gh.keep [0,1,2,3,4,5,6,7] rfl)<|f7 G np rfl rfl rfl rfl rfl rfl rfl rfl rfl Z3 rfl rfl ?_
  refine zgo ?_
  refine c8 (l6 rfl rfl rfl rfl (a5 (g9 ?_) (a5 (b8 rfl ?_) (a5 (b8 rfl ?_) (a5 (b8 rfl ?_) (a5 (g9 ?_) d4))))))
  all_goals (first | rfl | (simp [a1m,Rf.r5];done))
 exfalso;omega
end Go.Proofs.YtcnodpipinlpcaaGreat
set_option maxRecDepth 20000
namespace Go.Proofs.YtcnodpipinlpcaaGreat
open Go Go.Rf
theorem a6R (l:List Int) (n:Int) (hl:l.length≤1048576) (hne:∀ x∈l,x≠n):Ctr Tryz.prog 233 [.lst 1 (l.map Rf.r5),.v (.int .i64 n)] (.one (.fr 3 1 ((a6L l n).map Rf.r5))):=by
 refine Ctr.of (n:=45) G Tryz.func233 rfl b5 rfl rfl rfl (fun w0=>?_)
 refine zgo ?_
 refine m4 [0,1] [] (fun (k:Nat)=>[(5,.v (.int .i64 (k:Int)))]) (fun (k:Nat)=>[]) (fun (k:Nat)=>k≤l.length∧∀ j,j < k→l.getD j default < n) (fun (k:Nat)=>l.length - k) 0 rfl rfl ?_ ?_ ?_ ?_
 ·exact ⟨Nat.zero_le _,fun j hj=>by omega⟩
 ·exact ⟨⟨_,rfl,by (first | rfl | (simp;done) | (simp;omega))⟩,rfl,trivial⟩
 ·exact trivial
 intro k hk
 simp only [List.cons_append,List.nil_append]
 refine zcd (fun h1=>?_) (fun h1=>?_)
 ·refine zcd (fun h2=>?_) (fun h2=>?_)
  ·refine zgo ?_
   refine ⟨(k+1),?_,?_,⟨⟨_,rfl,by rfl⟩,rfl,trivial⟩,trivial,rfl,rfl,rfl⟩
   ·exact ⟨by omega,p7 hk.2 d8⟩
   omega
  refine zcd (fun h3=>?_) (fun h3=>?_)
  ·refine zcd (fun h4=>?_) (fun h4=>?_)
   ·first | (exfalso;omega) | exact absurd d8 (hne _ (e7.mpr ⟨k,by omega,rfl⟩))
   refine zgo ?_
   apply F4 [4] [0] 2 13 [] m5 b5 rfl rfl (fun _ h=>znk h)
   ·intro r0
    refine vm1 ?_
    refine z8 (N:=1) rfl (s2 (fuel:=5) [⟨0,33,0,false,.row 3 1 []⟩] (AllVOK.cons (VOK.lit G rfl rfl rfl rfl rfl) (AllVOK.nil)) (fun hok=>?_))
    refine n6 [(4,[0]),(6,[])] b5 b5 (fun e he=>hok e he) b5 (AllVS.cons ?_ (AllVS.cons ?_ AllVS.nil))
    ·refine vm2 ?_
     clear hok
     refine a9 (rs:=[6]) b5 rfl (AllB.cons ?_ AllB.nil)
     refine m3 [] rfl rfl (k6 G 2 rfl rfl rfl rfl rfl rfl rfl rfl (a4 ⟨rfl,?_⟩))
     refine a9 (rs:=[7]) b5 rfl (AllB.cons ?_ AllB.nil)
     refine m3 [] rfl rfl (f7 G E8 rfl rfl rfl rfl rfl rfl rfl rfl rfl R2 rfl rfl (a4 ⟨rfl,?_⟩))
     refine a9 (rs:=[11]) b5 rfl (AllB.cons ?_ AllB.nil)
     refine m3 [] rfl rfl (f7 G E8 rfl rfl rfl rfl rfl rfl rfl rfl rfl R2 rfl rfl (a4 ⟨rfl,?_⟩))
     refine zsa 12 ?_
     exact l9 b5 (Meet.mk rfl rfl rfl rfl)
    refine VStep.mk0 [] rfl rfl (fun b1 _ hbn=>k6 G 2 rfl rfl rfl rfl rfl rfl rfl rfl (a4 rfl)) b5 b5 b5 b5 (n6 [(4,[0])] b5 b5 (fun e he=>hok e he) b5 (AllVS.cons ?_ AllVS.nil))
    refine vm2 ?_
    clear hok
    refine a9 (rs:=[7]) b5 rfl (AllB.cons ?_ AllB.nil)
    refine m3 [] rfl rfl (f7 G E8 rfl rfl rfl rfl rfl rfl rfl rfl rfl R2 rfl rfl (a4 ⟨rfl,?_⟩))
    refine a9 (rs:=[11]) b5 rfl (AllB.cons ?_ AllB.nil)
    refine m3 [] rfl rfl (f7 G E8 rfl rfl rfl rfl rfl rfl rfl rfl rfl R2 rfl rfl (a4 ⟨rfl,?_⟩))
    refine zsa 12 ?_
    exact l9 b5 (Meet.mk rfl rfl rfl rfl)
   refine zfo ?_
   all_goals exact b2a
  refine zwf ?_
  refine zgo ?_
  apply F4 [4] [0] 2 13 [] m5 b5 rfl rfl (fun _ h=>znk h)
  ·intro r0
   refine vm1 ?_
   refine z8 (N:=1) rfl (s2 (fuel:=5) [⟨0,33,0,false,.row 3 1 []⟩] (AllVOK.cons (VOK.lit G rfl rfl rfl rfl rfl) (AllVOK.nil)) (fun hok=>?_))
   refine n6 [(4,[0]),(6,[])] b5 b5 (fun e he=>hok e he) b5 (AllVS.cons ?_ (AllVS.cons ?_ AllVS.nil))
   ·refine vm2 ?_
    clear hok
    refine a9 (rs:=[6]) b5 rfl (AllB.cons ?_ AllB.nil)
    refine m3 [] rfl rfl (k6 G 2 rfl rfl rfl rfl rfl rfl rfl rfl (a4 ⟨rfl,?_⟩))
    refine a9 (rs:=[7]) b5 rfl (AllB.cons ?_ AllB.nil)
    refine m3 [] rfl rfl (f7 G E8 rfl rfl rfl rfl rfl rfl rfl rfl rfl R2 rfl rfl (a4 ⟨rfl,?_⟩))
    refine a9 (rs:=[11]) b5 rfl (AllB.cons ?_ AllB.nil)
    refine m3 [] rfl rfl (f7 G E8 rfl rfl rfl rfl rfl rfl rfl rfl rfl R2 rfl rfl (a4 ⟨rfl,?_⟩))
    refine zsa 12 ?_
    exact l9 b5 (Meet.mk rfl rfl rfl rfl)
   refine VStep.mk0 [] rfl rfl (fun b1 _ hbn=>k6 G 2 rfl rfl rfl rfl rfl rfl rfl rfl (a4 rfl)) b5 b5 b5 b5 (n6 [(4,[0])] b5 b5 (fun e he=>hok e he) b5 (AllVS.cons ?_ AllVS.nil))
   refine vm2 ?_
   clear hok
   refine a9 (rs:=[7]) b5 rfl (AllB.cons ?_ AllB.nil)
   refine m3 [] rfl rfl (f7 G E8 rfl rfl rfl rfl rfl rfl rfl rfl rfl R2 rfl rfl (a4 ⟨rfl,?_⟩))
   refine a9 (rs:=[11]) b5 rfl (AllB.cons ?_ AllB.nil)
   refine m3 [] rfl rfl (f7 G E8 rfl rfl rfl rfl rfl rfl rfl rfl rfl R2 rfl rfl (a4 ⟨rfl,?_⟩))
   refine zsa 12 ?_
   exact l9 b5 (Meet.mk rfl rfl rfl rfl)
  refine zfo ?_
  all_goals exact b2a
 refine zwf ?_
 refine zcd (fun h5=>?_) (fun h5=>?_)
 ·refine zcd (fun h6=>?_) (fun h6=>?_)
  ·first | (exfalso;omega) | exact absurd d8 (hne _ (e7.mpr ⟨k,by omega,rfl⟩))
  refine zgo ?_
  apply F4 [4] [0] 2 13 [] m5 b5 rfl rfl (fun _ h=>znk h)
  ·intro r0
   refine vm1 ?_
   refine z8 (N:=1) rfl (s2 (fuel:=5) [⟨0,33,0,false,.row 3 1 []⟩] (AllVOK.cons (VOK.lit G rfl rfl rfl rfl rfl) (AllVOK.nil)) (fun hok=>?_))
   refine n6 [(4,[0]),(6,[])] b5 b5 (fun e he=>hok e he) b5 (AllVS.cons ?_ (AllVS.cons ?_ AllVS.nil))
   ·refine vm2 ?_
    clear hok
    refine a9 (rs:=[6]) b5 rfl (AllB.cons ?_ AllB.nil)
    refine m3 [] rfl rfl (k6 G 2 rfl rfl rfl rfl rfl rfl rfl rfl (a4 ⟨rfl,?_⟩))
    refine a9 (rs:=[7]) b5 rfl (AllB.cons ?_ AllB.nil)
    refine m3 [] rfl rfl (f7 G E8 rfl rfl rfl rfl rfl rfl rfl rfl rfl R2 rfl rfl (a4 ⟨rfl,?_⟩))
    refine a9 (rs:=[11]) b5 rfl (AllB.cons ?_ AllB.nil)
    refine m3 [] rfl rfl (f7 G E8 rfl rfl rfl rfl rfl rfl rfl rfl rfl R2 rfl rfl (a4 ⟨rfl,?_⟩))
    refine zsa 12 ?_
    exact l9 b5 (Meet.mk rfl rfl rfl rfl)
   refine VStep.mk0 [] rfl rfl (fun b1 _ hbn=>k6 G 2 rfl rfl rfl rfl rfl rfl rfl rfl (a4 rfl)) b5 b5 b5 b5 (n6 [(4,[0])] b5 b5 (fun e he=>hok e he) b5 (AllVS.cons ?_ AllVS.nil))
   refine vm2 ?_
   clear hok
   refine a9 (rs:=[7]) b5 rfl (AllB.cons ?_ AllB.nil)
   refine m3 [] rfl rfl (f7 G E8 rfl rfl rfl rfl rfl rfl rfl rfl rfl R2 rfl rfl (a4 ⟨rfl,?_⟩))
   refine a9 (rs:=[11]) b5 rfl (AllB.cons ?_ AllB.nil)
   refine m3 [] rfl rfl (f7 G E8 rfl rfl rfl rfl rfl rfl rfl rfl rfl R2 rfl rfl (a4 ⟨rfl,?_⟩))
   refine zsa 12 ?_
   exact l9 b5 (Meet.mk rfl rfl rfl rfl)
  refine zfo ?_
  all_goals exact b2a
 refine zwf ?_
 refine zgo ?_
 apply F4 [4] [0] 2 13 [] m5 b5 rfl rfl (fun _ h=>znk h)
 ·intro r0
  refine vm1 ?_
  refine z8 (N:=1) rfl (s2 (fuel:=5) [⟨0,33,0,false,.row 3 1 []⟩] (AllVOK.cons (VOK.lit G rfl rfl rfl rfl rfl) (AllVOK.nil)) (fun hok=>?_))
  refine n6 [(4,[0]),(6,[])] b5 b5 (fun e he=>hok e he) b5 (AllVS.cons ?_ (AllVS.cons ?_ AllVS.nil))
  ·refine vm2 ?_
   clear hok
   refine a9 (rs:=[6]) b5 rfl (AllB.cons ?_ AllB.nil)
   refine m3 [] rfl rfl (k6 G 2 rfl rfl rfl rfl rfl rfl rfl rfl (a4 ⟨rfl,?_⟩))
   refine a9 (rs:=[7]) b5 rfl (AllB.cons ?_ AllB.nil)
   refine m3 [] rfl rfl (f7 G E8 rfl rfl rfl rfl rfl rfl rfl rfl rfl R2 rfl rfl (a4 ⟨rfl,?_⟩))
   refine a9 (rs:=[11]) b5 rfl (AllB.cons ?_ AllB.nil)
   refine m3 [] rfl rfl (f7 G E8 rfl rfl rfl rfl rfl rfl rfl rfl rfl R2 rfl rfl (a4 ⟨rfl,?_⟩))
   refine zsa 12 ?_
   exact l9 b5 (Meet.mk rfl rfl rfl rfl)
  refine VStep.mk0 [] rfl rfl (fun b1 _ hbn=>k6 G 2 rfl rfl rfl rfl rfl rfl rfl rfl (a4 rfl)) b5 b5 b5 b5 (n6 [(4,[0])] b5 b5 (fun e he=>hok e he) b5 (AllVS.cons ?_ AllVS.nil))
  refine vm2 ?_
  clear hok
  refine a9 (rs:=[7]) b5 rfl (AllB.cons ?_ AllB.nil)
  refine m3 [] rfl rfl (f7 G E8 rfl rfl rfl rfl rfl rfl rfl rfl rfl R2 rfl rfl (a4 ⟨rfl,?_⟩))
  refine a9 (rs:=[11]) b5 rfl (AllB.cons ?_ AllB.nil)
  refine m3 [] rfl rfl (f7 G E8 rfl rfl rfl rfl rfl rfl rfl rfl rfl R2 rfl rfl (a4 ⟨rfl,?_⟩))
  refine zsa 12 ?_
  exact l9 b5 (Meet.mk rfl rfl rfl rfl)
 refine zfo ?_
 all_goals exact b2a
theorem a4l (sl:List Slot) (hF:SlF sl):Ctr Tryz.prog 198 [.lst 3 (sl.map p4)] (.one (.fr 3 1 ((a3I sl 4).map Rf.r5))):=by
 have hl4:=hF.len
 refine Ctr.of (n:=34) G Tryz.func198 rfl b5 rfl rfl rfl (fun w0=>?_)
 refine F6 ?_
 refine k6 G 1 rfl rfl rfl rfl rfl rfl rfl rfl ?_
 refine zgo ?_
 refine m4 [0] [] (fun (i:Nat)=>[(3,.own 0),(4,.v (.int .i64 (i:Int)))]) (fun (i:Nat)=>[(0,some (.row 3 1 ((a3I sl i).map Rf.r5)))]) (fun (i:Nat)=>i≤4) (fun (i:Nat)=>4 - i) 0 rfl rfl ?_ ?_ ?_ ?_
 ·exact Nat.zero_le _
 ·exact ⟨⟨_,rfl,by rfl⟩,rfl,⟨⟨_,rfl,by rfl⟩,rfl,trivial⟩⟩
 ·exact ⟨⟨_,rfl,by rfl⟩,rfl,rfl,trivial⟩
 intro i hi
 simp only [List.cons_append,List.nil_append]
 refine zcd (fun h1=>?_) (fun h1=>?_)
 ·refine zcd (fun h2=>?_) (fun h2=>?_)
  ·refine zwt ?_
   refine b41 ?_
   refine m7 (Gh.sub 1 0 np rfl rfl rfl) (a4 ⟨(i+1),?_,?_,⟨⟨_,rfl,by rfl⟩,rfl,⟨⟨_,rfl,by rfl⟩,rfl,trivial⟩⟩,⟨⟨_,rfl,by (first | (rw [a8j (by omega)];done) | (rw [a8k (by omega)];done))⟩,rfl,rfl,trivial⟩,rfl,rfl,rfl⟩)
   ·omega
   omega
  refine zcd (fun h3=>?_) (fun h3=>?_)
  ·refine b41 ?_
   refine m7 (Gh.sub 1 0 np rfl rfl rfl) (a4 ⟨(i+1),?_,?_,⟨⟨_,rfl,by rfl⟩,rfl,⟨⟨_,rfl,by rfl⟩,rfl,trivial⟩⟩,⟨⟨_,rfl,by (first | (rw [a8j (by omega)];done) | (rw [a8k (by omega)];done))⟩,rfl,rfl,trivial⟩,rfl,rfl,rfl⟩)
   ·omega
   omega
  refine zgo ?_
  refine ⟨(i+1),?_,?_,⟨⟨_,rfl,by rfl⟩,rfl,⟨⟨_,rfl,by rfl⟩,rfl,trivial⟩⟩,⟨⟨_,rfl,by (first | (rw [a8j (by omega)];done) | (rw [a8k (by omega)];done))⟩,rfl,rfl,trivial⟩,rfl,rfl,rfl⟩
  ·omega
  omega
 obtain rfl:i=4:=(by omega)
 refine zfo ?_
 all_goals (rfl)
end Go.Proofs.YtcnodpipinlpcaaGreat
set_option maxRecDepth 20000
namespace Go.Proofs.YtcnodpipinlpcaaGreat
open Go Go.Rf
theorem a6V (sl:List Slot) (irq:Int) (hF:SlF sl) (h0:0≤o9 sl irq) (ha:H6 (sl.getD (o9 sl irq).toNat default)=true):Ctr Tryz.prog 239 [.lst 3 (sl.map p4),.v (.int .i64 irq)] (.many [.fr 154 3 ((edS sl irq).map p4),.v (.bool true)]):=by
 have hl4:=hF.len
 have hf:=@a2k sl irq
 have haa:=r9.mp ha
 refine Ctr.of (n:=41) G Tryz.func239 rfl b5 rfl rfl rfl (fun w0=>?_)
 refine zcl (A9 sl irq (by omega)) ?_
 refine zcd (fun h1=>?_) (fun h1=>?_)
 ·first | (exfalso;omega) | (exfalso;simp_all;done)
 refine zcd (fun h2=>?_) (fun h2=>?_)
 ·first | (exfalso;omega) | (exfalso;simp_all;done)
 refine zcd (fun h3=>?_) (fun h3=>?_)
 ·refine F6 ?_
  refine g8 1 rfl rfl rfl (ArgsOK.of rfl) (w5 sl _ ⟨_,_,_⟩ (by omega) (by omega)) rfl rfl ?_
  refine zgo ?_
  refine c8 (v6 rfl rfl rfl rfl (a5 (b8 rfl ?_) (a5 (g9 ?_) d4)))
  all_goals exact b4R
 refine a8y ?_
 refine b3Y ?_
 refine c8 (v6 rfl rfl rfl rfl (a5 (b8 rfl ?_) (a5 (g9 ?_) d4)))
 all_goals exact b4R
theorem a0S (q:Que) (irq:Int) (hF:QF q) (h0:0≤o9 q.sl irq) (ha:H6 (q.sl.getD (o9 q.sl irq).toNat default)=true):Ctr Tryz.prog 203 [.agg [.lst 3 (q.sl.map p4),.lst 2 (q.wa.map s6)],.v (.int .i64 irq)] (.shp false [some 2,none] [.fr 154 3 ((a3G q irq).sl.map p4),.fr 183 2 ((a3G q irq).wa.map s6),.v (.bool true)]):=by
 have hl4:=hF.sl.len
 have hwn:=hF.wn
 have hQ:=a4D hF h0
 refine Ctr.of (n:=23) G Tryz.func203 rfl b5 rfl rfl rfl (fun w0=>?_)
 refine r8 0 rfl (fun _=>rfl) (fun u0=>?_)
 refine b4 (fun K1 hK1=>?_)
 refine a6 ?_
 refine vm6 ?_
 refine vm9 ?_
 refine b1m ?_
 refine a4 (hK1 _ ?_)
 clear hK1 K1
 refine b4 (fun K2 hK2=>?_)
 refine b2d ?_
 refine g8 3 rfl rfl rfl (ArgsOK.of rfl) (a6V q.sl irq hF.sl h0 ha) rfl rfl ?_
 refine b45 ?_
 refine hK2 _ ?_
 clear hK2 K2
 refine b4 (fun K3 hK3=>?_)
 refine b4 (fun K4 hK4=>?_)
 refine a6 ?_
 refine y6 ?_
 refine a3 rfl rfl (a8 rfl rfl) ?_
 refine y6 ?_
 refine a3 rfl rfl (C2 rfl rfl) (a4 (hK4 _ ?_))
 clear hK4 K4
 refine d1 rfl (fun h1=>?_) (fun h1=>?_)
 ·try rw [h1]
  try simp only [rfb] at h1
  refine b4 (fun K5 hK5=>?_)
  refine a6 ?_
  refine y6 ?_
  refine a3 rfl rfl (g0 G rfl rfl rfl rfl) ?_
  refine y6 ?_
  refine c5 G rfl rfl rfl rfl rfl rfl rfl rfl rfl rfl rfl ?_
  refine b1m ?_
  refine a4 (hK5 _ ?_)
  clear hK5 K5
  refine c8 (l6 rfl rfl rfl rfl (a5 (o7 ?_) (a5 (o7 ?_) (a5 (g9 ?_) d4))))
  all_goals clear hK3 K3
  all_goals (first | rfl | (exfalso;simp_all;done))
 ·try rw [h1]
  try simp only [rfb] at h1
  refine e9 (hK3 _ ?_)
  clear hK3 K3
  refine b4 (fun K6 hK6=>?_)
  refine a6 ?_
  refine y6 ?_
  refine a3 rfl rfl (a8 rfl rfl) ?_
  refine b4Z ?_
  refine b1m ?_
  refine a4 (hK6 _ ?_)
  clear hK6 K6
  refine c8 (l6 rfl rfl rfl rfl (a5 (b8 rfl ?_) (a5 (b8 rfl ?_) (a5 (g9 ?_) d4))))
  all_goals (first | rfl | (exfalso;simp_all;done))
theorem a4m (x:Ifc) (hG:IfG x) (hn:x.st.length≠0):Ctr Tryz.prog 156 [.agg [.v (.int .i64 x.ma),.lst 1 (x.st.map Rf.r5),.lst 3 (x.qu.sl.map p4),.lst 2 (x.qu.wa.map s6)]] (.shp false [some 4,none] [.v (.int .i64 x.ma),.fr 3 1 ((x.st.take (x.st.length - 1)).map Rf.r5),.fr 154 3 ((a3G x.qu (J5 x)).sl.map p4),.fr 183 2 ((a3G x.qu (J5 x)).wa.map s6),.v (.int .i64 (J5 x))]):=by
 have hl4:=hG.f.qu.sl.len
 have hwn:=hG.f.qu.wn
 have hsn:=hG.f.sn
 obtain ⟨hla,hlb⟩:=b03 hG hn
 have hls:=a6b hn
 have htn:((x.st.length:Int) - 1).toNat=x.st.length - 1:=(by omega)
 refine Ctr.of (n:=41) G Tryz.func156 rfl b5 rfl rfl rfl (fun w0=>?_)
 refine r8 0 rfl (fun _=>rfl) (fun u0=>?_)
 refine a2p ?_
 refine zcd (fun h1=>?_) (fun h1=>?_)
 ·exfalso;omega
 refine zgn ?_
 refine G3 (j9 15 [0,1] m5 b5 rfl rfl (fun r0=>?_) (fun _ h=>h))
 refine b42 ?_
 refine zsa 6 ?_
 refine zsa 7 ?_
 refine z8 (N:=3) rfl (s2 (fuel:=6) [⟨12,5,2,true,.box (avR [.slice none 0 0,.slice none 0 0] [])⟩] (AllVOK.cons (VOK.boxS G rfl rfl rfl rfl rfl) (AllVOK.nil)) (fun hok=>?_))
 refine n6 [(8,[])] b5 b5 (fun e he=>hok e he) b5 (AllVS.cons ?_ AllVS.nil)
 refine VStep.mk0 [0,1] rfl rfl (fun b1 _ hbn=>g8 5 rfl rfl rfl (ArgsOK.of rfl) (a0S x.qu _ hG.f.qu (by rw [hls];exact hla) (by rw [hls];exact hlb)) rfl rfl (a4 rfl)) b5 b5 b5 b5 (w9 9 rfl b5 rfl rfl rfl rfl (a8 rfl rfl) b5 b5 b5 (w9 10 rfl b5 rfl rfl rfl rfl (c9 rfl rfl rfl) b5 b5 b5 (w9 11 rfl b5 rfl rfl rfl rfl (c9 rfl rfl rfl) b5 b5 b5 (n6 [(13,[12])] b5 b5 (fun e he=>hok e he) b5 (AllVS.cons ?_ AllVS.nil)))))
 refine VStep.mk1 [0,1] 5 (.ptr 2 0) 2 (.box (avR [.slice none 0 0,.slice none 0 0] [])) [] rfl rfl rfl rfl rfl (fun b1 _ hbn=>c5 G rfl rfl rfl rfl rfl rfl rfl rfl rfl rfl rfl (a4 rfl)) b5 b5 b5 b5 (F8 ?_)
 clear hok
 refine zsa 14 ?_
 refine T5 ?_
 refine G3 (j9 18 [0,2,3,4] m5 b5 rfl rfl (fun r0=>?_) (fun _ h=>h))
 refine b42 ?_
 first | refine b9 6 rfl b5 b5 rfl rfl rfl rfl (N0 G rfl rfl rfl rfl rfl (by omega) (by omega) (by omega)) ?_ | refine b9 6 rfl b5 b5 rfl rfl rfl rfl (N0 G rfl rfl rfl rfl rfl (by omega) a7L a7L) ?_
 refine zsa 8 ?_
 refine zsa 10 ?_
 refine zsa 11 ?_
 refine zsa 12 ?_
 first | refine b9 13 rfl b5 b5 rfl rfl rfl rfl (i8 rfl rfl rfl rfl (by omega) (by omega)) ?_ | refine b9 13 rfl b5 b5 rfl rfl rfl rfl (k4 rfl rfl rfl rfl) ?_
 refine zsa 14 ?_
 refine zsa 15 ?_
 refine a9 (rs:=[7]) b5 rfl (AllB.cons ?_ AllB.nil)
 refine m3 [0,2,3,4] rfl rfl (g8 6 rfl rfl rfl (ArgsOK.of (congrArg some (congrArg (fun z=>[AV.lst 1 z]) a7C))) (y9 (x.st.take (x.st.length - 1)) (by rw [List.length_take];omega)) rfl rfl (a4 ⟨rfl,?_⟩))
 refine a9 (rs:=[9]) b5 rfl (AllB.cons ?_ AllB.nil)
 refine m3 [0,2,3,4] rfl rfl ?_
 refine a1U ?_
 refine a9 (rs:=[16]) b5 rfl (AllB.cons ?_ AllB.nil)
 refine m3 [0,2,3,4] rfl rfl ?_
 refine a1U ?_
 refine zsa 17 ?_
 refine T5 ?_
 refine c8 (l6 rfl rfl rfl rfl (a5 (g9 ?_) (a5 (b8 rfl ?_) (a5 (b8 rfl ?_) (a5 (b8 rfl ?_) (a5 (g9 ?_) d4))))))
 all_goals (first | rfl | (rw [hls];done))
end Go.Proofs.YtcnodpipinlpcaaGreat
set_option maxRecDepth 20000
namespace Go.Proofs.YtcnodpipinlpcaaGreat
open Go Go.Rf
theorem a14 (x:Ifc) (hn:x.st.length≤1048576) (hl:x.qu.sl.length≤1048576) (hw:x.qu.wa.length≤1048576):Ctr Tryz.prog 202 [.agg [.v (.int .i64 x.ma),.lst 1 (x.st.map Rf.r5),.lst 3 (x.qu.sl.map p4),.lst 2 (x.qu.wa.map s6)]] (.shp true [some 4] [.v (.int .i64 x.ma),.fr 3 1 (x.st.map Rf.r5),.fr 154 3 (x.qu.sl.map p4),.fr 183 2 (x.qu.wa.map s6)]):=by
 refine Ctr.of (n:=12) G Tryz.func202 rfl b5 rfl rfl rfl (fun w0=>?_)
 refine r8 0 rfl (fun _=>rfl) (fun u0=>?_)
 refine a2p ?_
 refine zgn ?_
 refine G3 (j9 10 [0] m5 b5 rfl rfl (fun r0=>?_) (fun _ h=>h))
 refine a3O ?_
 refine zsa 5 ?_
 refine zsa 6 ?_
 refine a9 (rs:=[4]) b5 rfl (AllB.cons ?_ AllB.nil)
 refine m3 [0] rfl rfl (g8 3 rfl rfl rfl (ArgsOK.of rfl) (y9 x.st hn) rfl rfl (a4 ⟨rfl,?_⟩))
 refine a9 (rs:=[7]) b5 rfl (AllB.cons ?_ AllB.nil)
 refine m3 [0] rfl rfl (g8 5 rfl rfl rfl (ArgsOK.of rfl) (a3k x.qu hl hw) rfl rfl (a4 ⟨rfl,?_⟩))
 refine a9 (rs:=[8]) b5 rfl (AllB.cons ?_ AllB.nil)
 refine a6S ?_
 refine a9 (rs:=[9]) b5 rfl (AllB.cons ?_ AllB.nil)
 refine a6S ?_
 refine T5 ?_
 refine c8 (l6 rfl rfl rfl rfl (a5 (g9 ?_) (a5 (b8 rfl ?_) (a5 (b8 rfl ?_) (a5 (b8 rfl ?_) d4)))))
 all_goals (rfl)
theorem a10 (m:Mach) (hM:MaG m):Ctr Tryz.prog 154 [.agg [.lst 2 (m.rs.map u7),.lst 1 (m.en.map l0),.lst 1 (m.ra.map l0),.nst none 4 (m.cp.map (H7 154 183))]] (.shp true [some 4] [.fr 118 2 (m.rs.map u7),.fr 4 1 (m.en.map l0),.fr 4 1 (m.ra.map l0),.ne 113 4 (m.cp.map (H7 154 183))]):=by
 have f1:=hM.n
 have f2:=hM.en
 have f3:=hM.ra
 have f4:=hM.rn
 refine Ctr.of (n:=38) G Tryz.func154 rfl b5 rfl rfl rfl (fun w0=>?_)
 refine r8 0 rfl (fun _=>rfl) (fun u0=>?_)
 refine a2p ?_
 refine zgn ?_
 refine G3 (j9 16 [0,1] m5 b5 rfl rfl (fun r0=>?_) (fun _ h=>h))
 refine zsa 1 ?_
 refine zsa 2 ?_
 refine zsa 5 ?_
 refine zsa 6 ?_
 refine zsa 9 ?_
 refine zsa 10 ?_
 refine z8 (N:=7) rfl (s2 (fuel:=5) [⟨0,5,2,false,.row 118 2 []⟩,⟨4,9,3,false,.row 4 1 []⟩,⟨8,13,4,false,.row 4 1 []⟩,⟨12,17,5,false,.row 113 4 []⟩,⟨14,3,6,true,.box (avR [.slice none 0 0,.slice none 0 0,.slice none 0 0,.slice none 0 0] [])⟩] (AllVOK.cons (VOK.lit G rfl rfl rfl rfl rfl) (AllVOK.cons (VOK.lit G rfl rfl rfl rfl rfl) (AllVOK.cons (VOK.lit G rfl rfl rfl rfl rfl) (AllVOK.cons (VOK.lit G rfl rfl rfl rfl rfl) (AllVOK.cons (VOK.boxS G rfl rfl rfl rfl rfl) (AllVOK.nil)))))) (fun hok=>?_))
 refine n6 [(3,[0])] b5 b5 (fun e he=>hok e he) b5 (AllVS.cons ?_ AllVS.nil)
 refine VStep.mk1 [0,1] 5 (.own 2) 2 (.row 118 2 []) [⟨4,9,3,false,.row 4 1 []⟩,⟨8,13,4,false,.row 4 1 []⟩,⟨12,17,5,false,.row 113 4 []⟩,⟨14,3,6,true,.box (avR [.slice none 0 0,.slice none 0 0,.slice none 0 0,.slice none 0 0] [])⟩] rfl rfl rfl rfl rfl (fun b1 _ hbn=>f7 G a0Q rfl rfl rfl rfl rfl rfl rfl rfl rfl Z3 rfl rfl (a4 rfl)) b5 b5 b5 b5 (n6 [(7,[4])] b5 b5 (fun e he=>hok e (vin (is:=[0]) rfl he)) b5 (AllVS.cons ?_ AllVS.nil))
 refine VStep.mk1 [0,1] 9 (.own 3) 3 (.row 4 1 []) [⟨8,13,4,false,.row 4 1 []⟩,⟨12,17,5,false,.row 113 4 []⟩,⟨14,3,6,true,.box (avR [.slice none 0 0,.slice none 0 0,.slice none 0 0,.slice none 0 0] [])⟩] rfl rfl rfl rfl rfl (fun b1 _ hbn=>f7 G a0Q rfl rfl rfl rfl rfl rfl rfl rfl rfl Z3 rfl rfl (a4 rfl)) b5 b5 b5 b5 (n6 [(11,[8])] b5 b5 (fun e he=>hok e (vin (is:=[0,4]) rfl he)) b5 (AllVS.cons ?_ AllVS.nil))
 refine VStep.mk1 [0,1] 13 (.own 4) 4 (.row 4 1 []) [⟨12,17,5,false,.row 113 4 []⟩,⟨14,3,6,true,.box (avR [.slice none 0 0,.slice none 0 0,.slice none 0 0,.slice none 0 0] [])⟩] rfl rfl rfl rfl rfl (fun b1 _ hbn=>f7 G a0Q rfl rfl rfl rfl rfl rfl rfl rfl rfl Z3 rfl rfl (a4 rfl)) b5 b5 b5 b5 (n6 [(13,[12])] b5 b5 (fun e he=>hok e (vin (is:=[0,4,8]) rfl he)) b5 (AllVS.cons ?_ AllVS.nil))
 refine VStep.mk1 [0,1] 17 (.own 5) 5 (.row 113 4 []) [⟨14,3,6,true,.box (avR [.slice none 0 0,.slice none 0 0,.slice none 0 0,.slice none 0 0] [])⟩] rfl rfl rfl rfl rfl (fun b1 _ hbn=>a3 rfl rfl (g0 G rfl rfl rfl rfl) (a4 rfl)) b5 b5 b5 b5 (n6 [(15,[14])] b5 b5 (fun e he=>hok e (vin (is:=[0,4,8,12]) rfl he)) b5 (AllVS.cons ?_ AllVS.nil))
 refine VStep.mk1 [0,1] 3 (.ptr 6 0) 6 (.box (avR [.slice none 0 0,.slice none 0 0,.slice none 0 0,.slice none 0 0] [])) [] rfl rfl rfl rfl rfl (fun b1 _ hbn=>c5 G rfl rfl rfl rfl rfl rfl rfl rfl rfl rfl rfl (a4 rfl)) b5 b5 b5 b5 (F8 ?_)
 clear hok
 refine b3Z ?_
 refine m4 [1,2,3] [0,1,2,3,4,6] (fun (k:Nat)=>[(4,.v (.int .i64 (k:Int)))]) (fun (k:Nat)=>[(5,some (.nest 113 4 ((m.cp.take k).map (H7 154 183)) []))]) (fun (k:Nat)=>k≤m.cp.length) (fun (k:Nat)=>m.cp.length - k) 0 rfl rfl ?_ ?_ ?_ ?_
 ·exact Nat.zero_le _
 ·exact ⟨⟨_,rfl,by rfl⟩,rfl,trivial⟩
 ·exact ⟨⟨_,rfl,by rfl⟩,rfl,rfl,trivial⟩
 intro k hk
 have hkl:((m.cp.take k).map (H7 154 183)).length=k:=(by rw [List.length_map,List.length_take];omega)
 simp only [List.cons_append,List.nil_append]
 refine zcd (fun h1=>?_) (fun h1=>?_)
 ·obtain ⟨g1,g2,g3⟩:=hM.lens (k:=k) (by omega)
  refine zgo ?_
  apply F4 [1,2,3,4] [0,1,2,3,4,6,11] 12 12 [0,1,2,3,4] m5 b5 rfl rfl (fun _ h=>znk h)
  ·intro r0
   refine zsa 0 ?_
   refine zsa 2 ?_
   refine zsa 3 ?_
   refine zsa 4 ?_
   refine zsa 5 ?_
   refine zsa 6 ?_
   refine a9 (rs:=[1,7]) b5 rfl (AllB.cons ?_ (AllB.cons ?_ AllB.nil))
   ·refine a90 ?_
    refine a9 (rs:=[7]) b5 rfl (AllB.cons ?_ AllB.nil)
    refine m3 [0,1,2,3,4] rfl rfl (g8 10 rfl rfl rfl (ArgsOK.of rfl) (a14 (m.cp.getD k default) (by omega) (by omega) (by omega)) rfl rfl (a4 ⟨rfl,?_⟩))
    refine a9 (rs:=[8]) b5 rfl (AllB.cons ?_ AllB.nil)
    refine m3 [0,1,2,3,4] rfl rfl (v3 G 11 rfl rfl rfl rfl rfl rfl rfl rfl (.v rfl (.own rfl (.own rfl (.own rfl .nil)))) rfl rfl rfl rfl (a4 ⟨rfl,?_⟩))
    refine a9 (rs:=[9]) b5 rfl (AllB.cons ?_ AllB.nil)
    refine c7 [0,1,2,3,4] rfl rfl (s4 (Gh.forget (id:=6) (k:=3) rfl rfl)<|s4 (Gh.keep [0,1,2,3,4,5,6,10] rfl)<|y5 (tx:=27) 12 rfl rfl rfl rfl rfl<|s5 G E8 rfl rfl rfl rfl rfl rfl rfl rfl rfl rfl Z3 rfl rfl (a4 ⟨rfl,?_⟩))
    refine zsa 10 ?_
    refine a9 (rs:=[11]) b5 rfl (AllB.cons ?_ AllB.nil)
    refine a90 ?_
    exact l9 b5 (Meet.mk rfl rfl rfl rfl)
   refine m3 [0,1,2,3,4] rfl rfl (g8 10 rfl rfl rfl (ArgsOK.of rfl) (a14 (m.cp.getD k default) (by omega) (by omega) (by omega)) rfl rfl (a4 ⟨rfl,?_⟩))
   refine a9 (rs:=[1,8]) b5 rfl (AllB.cons ?_ (AllB.cons ?_ AllB.nil))
   ·refine a90 ?_
    refine a9 (rs:=[8]) b5 rfl (AllB.cons ?_ AllB.nil)
    refine m3 [0,1,2,3,4] rfl rfl (v3 G 11 rfl rfl rfl rfl rfl rfl rfl rfl (.v rfl (.own rfl (.own rfl (.own rfl .nil)))) rfl rfl rfl rfl (a4 ⟨rfl,?_⟩))
    refine a9 (rs:=[9]) b5 rfl (AllB.cons ?_ AllB.nil)
    refine c7 [0,1,2,3,4] rfl rfl (s4 (Gh.forget (id:=6) (k:=3) rfl rfl)<|s4 (Gh.keep [0,1,2,3,4,5,6,10] rfl)<|y5 (tx:=27) 12 rfl rfl rfl rfl rfl<|s5 G E8 rfl rfl rfl rfl rfl rfl rfl rfl rfl rfl Z3 rfl rfl (a4 ⟨rfl,?_⟩))
    refine zsa 10 ?_
    refine a9 (rs:=[11]) b5 rfl (AllB.cons ?_ AllB.nil)
    refine a90 ?_
    exact l9 b5 (Meet.mk rfl rfl rfl rfl)
   refine m3 [0,1,2,3,4] rfl rfl (v3 G 11 rfl rfl rfl rfl rfl rfl rfl rfl (.v rfl (.own rfl (.own rfl (.own rfl .nil)))) rfl rfl rfl rfl (a4 ⟨rfl,?_⟩))
   refine a9 (rs:=[1]) b5 rfl (AllB.cons ?_ AllB.nil)
   refine a90 ?_
   refine a9 (rs:=[9]) b5 rfl (AllB.cons ?_ AllB.nil)
   refine c7 [0,1,2,3,4] rfl rfl (s4 (Gh.forget (id:=6) (k:=3) rfl rfl)<|s4 (Gh.keep [0,1,2,3,4,5,6,10] rfl)<|y5 (tx:=27) 12 rfl rfl rfl rfl rfl<|s5 G E8 rfl rfl rfl rfl rfl rfl rfl rfl rfl rfl Z3 rfl rfl (a4 ⟨rfl,?_⟩))
   refine zsa 10 ?_
   refine a9 (rs:=[11]) b5 rfl (AllB.cons ?_ AllB.nil)
   refine a90 ?_
   exact l9 b5 (Meet.mk rfl rfl rfl rfl)
  refine a6 ?_
  refine a5t ?_
  refine m7 (Gh.sub 11 5 np rfl rfl rfl) (a4 ⟨(k+1),?_,?_,⟨⟨_,rfl,by rfl⟩,rfl,trivial⟩,⟨⟨_,rfl,by (exact congrArg (fun z=>Row.nest _ _ z []) (a87 (by omega) rfl))⟩,rfl,rfl,trivial⟩,rfl,rfl,rfl⟩)
  ·omega
  omega
 obtain rfl:k=m.cp.length:=(by omega)
 refine zgo ?_
 refine c8 (l6 rfl rfl rfl rfl (a5 (b8 rfl ?_) (a5 (b8 rfl ?_) (a5 (b8 rfl ?_) (a5 (u2 rfl ?_) d4)))))
 all_goals (first | rfl | (rw [List.take_length];done) | (rw [List.take_length];rfl) | simp)
end Go.Proofs.YtcnodpipinlpcaaGreat
