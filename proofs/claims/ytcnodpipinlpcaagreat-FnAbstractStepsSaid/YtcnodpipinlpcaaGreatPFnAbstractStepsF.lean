/- Texts merged into one: D5, D6, M8, D7. -/
import Derived.Test.YtcnodpipinlpcaaGreatPFnAbstractStepsE
set_option maxHeartbeats 4000000
set_option linter.unusedSimpArgs false
set_option linter.unusedVariables false
set_option maxRecDepth 20000
namespace Go.Proofs.YtcnodpipinlpcaaGreat
open Go Go.Rf
theorem W0 {x:Cur} {n:Int} (h:okC n x) (hn:n≤890000000000):CtrX (α:=Que×Cur) Tryz.prog 214 [.ptr 0 0] [.box [.lst 1 (x.c.map C5),.v (.int .i64 x.a),.v (.int .u64 x.s)]] (fun y=>(y.1.sl.length≤5∧y.1.wa.length≤10)∧okC (n+300) y.2) (fun y=>.shp true [some 2] [.fr 154 3 (y.1.sl.map p4),.fr 183 2 (y.1.wa.map s6)]) (fun y=>[some (.box [.lst 1 (y.2.c.map C5),.v (.int .i64 y.2.a),.v (.int .u64 y.2.s)])]):=by
 refine CtrX.of (n:=82) (k:=1) G Tryz.func214 rfl (by kernel_rfl) rfl rfl rfl rfl (fun _=>rfl) rfl rfl (fun w0 _ hpin=>?_)
 refine b4 (fun K1 hK1=>?_)
 refine a6 ?_
 refine a1 rfl ?_
 refine d7 G 2 rfl rfl rfl rfl rfl ?_
 refine a4 ?_
 refine hK1 _ ?_
 clear hK1 K1
 refine b4 (fun K2 hK2=>?_)
 refine a6 ?_
 refine a1 rfl ?_
 refine a3 rfl rfl (g0 G rfl rfl rfl rfl) ?_
 refine a1 rfl ?_
 refine a3 rfl rfl (g0 G rfl rfl rfl rfl) ?_
 refine a1 rfl ?_
 refine a3 rfl rfl (g0 G rfl rfl rfl rfl) ?_
 refine a1 rfl ?_
 refine a3 rfl rfl (g0 G rfl rfl rfl rfl) ?_
 refine a1 rfl ?_
 refine k6 G 3 rfl rfl rfl rfl rfl rfl rfl rfl ?_
 refine a1 rfl ?_
 refine k6 G 4 rfl rfl rfl rfl rfl rfl rfl rfl ?_
 refine a1 rfl ?_
 refine a3 rfl rfl (g0 G rfl rfl rfl rfl) ?_
 refine a1 rfl ?_
 refine d7 G 5 rfl rfl rfl rfl rfl ?_
 refine a1 rfl ?_
 refine c5 G rfl rfl rfl rfl rfl rfl rfl rfl rfl rfl rfl ?_
 refine a4 ?_
 refine hK2 _ ?_
 clear hK2 K2
 refine b4 (fun K3 hK3=>?_)
 refine b4 (fun K4 hK4=>?_)
 refine a6 ?_
 refine a1 rfl ?_
 refine a3 rfl rfl (a8 rfl rfl) ?_
 refine a1 rfl ?_
 refine d3 5 [0] rfl rfl rfl (n8 h (by omega) (14)) rfl (RowsIn.cons rfl RowsIn.nil) rfl (fun _=>rfl) rfl (fun x1 ⟨hv1,hc1⟩=>?_)
 refine a1 rfl ?_
 refine a3 rfl rfl (a7 rfl rfl) ?_
 refine a4 ?_
 refine hK4 _ ?_
 clear hK4 K4
 refine l8 ?_
 refine m4 [0,2,3] [1] (fun (z:Nat×Cur×Que)=>[(4,.v (.int .i64 (x1.1 - z.1)))]) (fun (z:Nat×Cur×Que)=>[(0,some (.box [.lst 1 (z.2.1.c.map C5),.v (.int .i64 z.2.1.a),.v (.int .u64 z.2.1.s)])),(2,some (.row 154 3 (z.2.2.sl.map p4))),(3,some (.row 183 2 (z.2.2.wa.map s6))),(4,some (.box [.own 2,.own 3]))]) (fun (z:Nat×Cur×Que)=>(z.1:Int)≤x1.1∧(QF z.2.2)∧okC (n+2+6 * z.1) z.2.1) (fun (z:Nat×Cur×Que)=>x1.1.toNat - z.1) (0,x1.2,q0) rfl rfl ?_ ?_ ?_ ?_
 ·exact ⟨hv1.1,b4x,hc1.mono (by simp)⟩
 ·exact ⟨⟨_,rfl,by (first | rfl | simp)⟩,rfl,trivial⟩
 ·exact ⟨⟨_,rfl,by rfl⟩,rfl,rfl,⟨⟨_,rfl,by rfl⟩,rfl,rfl,⟨⟨_,rfl,by rfl⟩,rfl,rfl,⟨⟨_,rfl,by rfl⟩,rfl,rfl,trivial⟩⟩⟩⟩
 ·intro z hinv
  obtain ⟨hz1,hz2,hz⟩:=hinv
  have hql:=hz2.sl.len
  have hqw:=hz2.wn8
  simp only [List.cons_append,List.nil_append]
  refine b4 (fun K5 hK5=>?_)
  refine b4 (fun K6 hK6=>?_)
  refine a6 ?_
  refine a1 rfl ?_
  refine a3 rfl rfl (a8 rfl rfl) ?_
  refine a1 rfl ?_
  refine a3 rfl rfl (f9 rfl rfl rfl rfl) ?_
  refine a4 ?_
  refine hK6 _ ?_
  clear hK6 K6
  refine d1 rfl (fun h1=>?_) (fun h1=>?_)
  ·try rw [h1]
   try simp only [rfb] at h1
   refine e9 ?_
   refine hK5 _ ?_
   clear hK5 K5
   refine b4 (fun K7 hK7=>?_)
   refine l8 ?_
   refine b4 (fun K8 hK8=>?_)
   refine a6 ?_
   refine a1 rfl ?_
   refine a3 rfl rfl (a8 rfl rfl) ?_
   refine a1 rfl ?_
   refine d3 5 [0] rfl rfl rfl (n8 hz (by omega) (5)) rfl (RowsIn.cons rfl RowsIn.nil) rfl (fun _=>rfl) rfl (fun x2 ⟨hv2,hc2⟩=>?_)
   refine a4 ?_
   refine hK8 _ ?_
   clear hK8 K8
   refine l8 ?_
   refine b4 (fun K9 hK9=>?_)
   refine b4 (fun K10 hK10=>?_)
   refine a6 ?_
   refine a1 rfl ?_
   refine a3 rfl rfl (f9 rfl rfl rfl rfl) ?_
   refine a1 rfl ?_
   refine a3 rfl rfl (a7 rfl rfl) ?_
   refine a4 ?_
   refine hK10 _ ?_
   clear hK10 K10
   refine d1 rfl (fun h2=>?_) (fun h2=>?_)
   ·try rw [h2]
    try simp only [rfb] at h2
    refine e9 ?_
    refine hK9 _ ?_
    clear hK9 K9
    refine r7 rfl ?_
    refine J7 7 [1,2,3,4] [6] m5 (by kernel_rfl) rfl rfl (fun r0=>?_) (fun _ h=>h)
    refine t5 0 [5,6] rfl (by kernel_rfl) (by kernel_rfl) (by kernel_rfl) rfl rfl rfl rfl (b3 G rfl rfl rfl rfl rfl rfl) ?_
    refine t5 1 [2,4,5,6] rfl (by kernel_rfl) (by kernel_rfl) (by kernel_rfl) rfl rfl rfl rfl (a8 rfl rfl) ?_
    refine t5 3 [4,5,6] rfl (by kernel_rfl) (by kernel_rfl) (by kernel_rfl) rfl rfl rfl rfl (a8 rfl rfl) ?_
    refine s3 2 (by kernel_rfl) (A3 [1,2,3,4] rfl rfl (d3 5 [0] rfl rfl rfl (n8 hc2 (by omega) (8)) rfl (RowsIn.cons rfl RowsIn.nil) rfl (fun _=>rfl) rfl (fun x3 ⟨hv3,hc3⟩=>a4 ⟨rfl,?_⟩)))
    refine s3 4 (by kernel_rfl) (A3 [1,2,3,4] rfl rfl (d3 5 [0] rfl rfl rfl (n8 hc3 (by omega) (8)) rfl (RowsIn.cons rfl RowsIn.nil) rfl (fun _=>rfl) rfl (fun x4 ⟨hv4,hc4⟩=>a4 ⟨rfl,?_⟩)))
    refine s3 5 (by kernel_rfl) (A3 [1,2,3,4] rfl rfl (g8 7 rfl rfl rfl (ArgsOK.of rfl) (O5 z.2.2 _ _ hz2 (by omega) (by omega)) rfl rfl (a4 ⟨rfl,?_⟩)))
    refine s3 6 (by kernel_rfl) ?_
    refine G6 rfl rfl (by kernel_rfl) ?_
    refine c5 G rfl rfl rfl rfl rfl rfl rfl rfl rfl rfl rfl ?_
    refine a4 ?_
    refine Z1 (by kernel_rfl) ?_
    refine hK7 _ ?_
    clear hK7 K7
    refine a6 ?_
    refine a1 rfl ?_
    refine a3 rfl rfl (a8 rfl rfl) ?_
    refine a1 rfl ?_
    first | refine a3 rfl rfl (i8 rfl rfl rfl rfl (by omega) (by omega)) ?_ | refine a3 rfl rfl (k4 rfl rfl rfl rfl) ?_
    refine a1 rfl ?_
    refine a3 rfl rfl (a7 rfl rfl) ?_
    refine m7 (Gh.sub 5 2 (by rw [hpin];decide) rfl rfl rfl) ?_
    refine m7 (Gh.sub 6 3 (by rw [hpin];decide) rfl rfl rfl) ?_
    refine a4 ⟨(z.1+1,x4.2,a0J z.2.2 x3.1 x4.1),?_,?_,⟨⟨_,rfl,by (first | rfl | exact congrArg (fun v=>AV.v (.int .i64 v)) (by show x1.1 - (z.1:Int) - 1=x1.1 - ((z.1+1:Nat):Int);omega))⟩,rfl,trivial⟩,⟨⟨_,rfl,by rfl⟩,rfl,rfl,⟨⟨_,rfl,by rfl⟩,rfl,rfl,⟨⟨_,rfl,by rfl⟩,rfl,rfl,⟨⟨_,rfl,by rfl⟩,rfl,rfl,trivial⟩⟩⟩⟩,rfl,rfl,rfl⟩
    ·first | exact ⟨by show ((z.1+1:Nat):Int)≤x1.1;omega,(P8 hz2 (by omega) (by omega)).1,hc4.mono (by simp;omega)⟩ | exact ⟨by show ((z.1+1:Nat):Int)≤x1.1;omega,a1r hz2,hc4.mono (by simp;omega)⟩ | exact ⟨by show ((z.1+1:Nat):Int)≤x1.1;omega,a1s hz2 (by assumption),hc4.mono (by simp;omega)⟩ | exact ⟨by show ((z.1+1:Nat):Int)≤x1.1;omega,hz2,hc4.mono (by simp;omega)⟩
    ·(show x1.1.toNat - (z.1+1) < x1.1.toNat - z.1;omega)
   ·try rw [h2]
    try simp only [rfb] at h2
    refine b4 (fun K11 hK11=>?_)
    refine a6 ?_
    refine a1 rfl ?_
    refine a3 rfl rfl (f9 rfl rfl rfl rfl) ?_
    refine a1 rfl ?_
    refine a3 rfl rfl (a7 rfl rfl) ?_
    refine a4 ?_
    refine hK11 _ ?_
    clear hK11 K11
    refine d1 rfl (fun h3=>?_) (fun h3=>?_)
    ·try rw [h3]
     try simp only [rfb] at h3
     refine e9 ?_
     refine hK9 _ ?_
     clear hK9 K9
     refine r7 rfl ?_
     refine J7 7 [1,2,3,4] [6] m5 (by kernel_rfl) rfl rfl (fun r0=>?_) (fun _ h=>h)
     refine t5 0 [5,6] rfl (by kernel_rfl) (by kernel_rfl) (by kernel_rfl) rfl rfl rfl rfl (b3 G rfl rfl rfl rfl rfl rfl) ?_
     refine t5 1 [2,4,5,6] rfl (by kernel_rfl) (by kernel_rfl) (by kernel_rfl) rfl rfl rfl rfl (a8 rfl rfl) ?_
     refine t5 3 [4,5,6] rfl (by kernel_rfl) (by kernel_rfl) (by kernel_rfl) rfl rfl rfl rfl (a8 rfl rfl) ?_
     refine s3 2 (by kernel_rfl) (A3 [1,2,3,4] rfl rfl (d3 5 [0] rfl rfl rfl (n8 hc2 (by omega) (8)) rfl (RowsIn.cons rfl RowsIn.nil) rfl (fun _=>rfl) rfl (fun x5 ⟨hv5,hc5⟩=>a4 ⟨rfl,?_⟩)))
     refine s3 4 (by kernel_rfl) (A3 [1,2,3,4] rfl rfl (d3 5 [0] rfl rfl rfl (n8 hc5 (by omega) (8)) rfl (RowsIn.cons rfl RowsIn.nil) rfl (fun _=>rfl) rfl (fun x6 ⟨hv6,hc6⟩=>a4 ⟨rfl,?_⟩)))
     refine s3 5 (by kernel_rfl) (A3 [1,2,3,4] rfl rfl (g8 7 rfl rfl rfl (ArgsOK.of rfl) (O5 z.2.2 _ _ hz2 (by omega) (by omega)) rfl rfl (a4 ⟨rfl,?_⟩)))
     refine s3 6 (by kernel_rfl) ?_
     refine G6 rfl rfl (by kernel_rfl) ?_
     refine c5 G rfl rfl rfl rfl rfl rfl rfl rfl rfl rfl rfl ?_
     refine a4 ?_
     refine Z1 (by kernel_rfl) ?_
     refine hK7 _ ?_
     clear hK7 K7
     refine a6 ?_
     refine a1 rfl ?_
     refine a3 rfl rfl (a8 rfl rfl) ?_
     refine a1 rfl ?_
     first | refine a3 rfl rfl (i8 rfl rfl rfl rfl (by omega) (by omega)) ?_ | refine a3 rfl rfl (k4 rfl rfl rfl rfl) ?_
     refine a1 rfl ?_
     refine a3 rfl rfl (a7 rfl rfl) ?_
     refine m7 (Gh.sub 5 2 (by rw [hpin];decide) rfl rfl rfl) ?_
     refine m7 (Gh.sub 6 3 (by rw [hpin];decide) rfl rfl rfl) ?_
     refine a4 ⟨(z.1+1,x6.2,a0J z.2.2 x5.1 x6.1),?_,?_,⟨⟨_,rfl,by (first | rfl | exact congrArg (fun v=>AV.v (.int .i64 v)) (by show x1.1 - (z.1:Int) - 1=x1.1 - ((z.1+1:Nat):Int);omega))⟩,rfl,trivial⟩,⟨⟨_,rfl,by rfl⟩,rfl,rfl,⟨⟨_,rfl,by rfl⟩,rfl,rfl,⟨⟨_,rfl,by rfl⟩,rfl,rfl,⟨⟨_,rfl,by rfl⟩,rfl,rfl,trivial⟩⟩⟩⟩,rfl,rfl,rfl⟩
     ·first | exact ⟨by show ((z.1+1:Nat):Int)≤x1.1;omega,(P8 hz2 (by omega) (by omega)).1,hc6.mono (by simp;omega)⟩ | exact ⟨by show ((z.1+1:Nat):Int)≤x1.1;omega,a1r hz2,hc6.mono (by simp;omega)⟩ | exact ⟨by show ((z.1+1:Nat):Int)≤x1.1;omega,a1s hz2 (by assumption),hc6.mono (by simp;omega)⟩ | exact ⟨by show ((z.1+1:Nat):Int)≤x1.1;omega,hz2,hc6.mono (by simp;omega)⟩
     ·(show x1.1.toNat - (z.1+1) < x1.1.toNat - z.1;omega)
    ·try rw [h3]
     try simp only [rfb] at h3
     refine a6 ?_
     refine a1 rfl ?_
     refine a3 rfl rfl (f9 rfl rfl rfl rfl) ?_
     refine a1 rfl ?_
     refine a3 rfl rfl (a7 rfl rfl) ?_
     refine a4 ?_
     refine hK9 _ ?_
     clear hK9 K9
     refine d1 rfl (fun h4=>?_) (fun h4=>?_)
     ·try rw [h4]
      try simp only [rfb] at h4
      refine J7 7 [1,2,3,4] [6] m5 (by kernel_rfl) rfl rfl (fun r0=>?_) (fun _ h=>h)
      refine t5 0 [5,6] rfl (by kernel_rfl) (by kernel_rfl) (by kernel_rfl) rfl rfl rfl rfl (b3 G rfl rfl rfl rfl rfl rfl) ?_
      refine t5 1 [2,4,5,6] rfl (by kernel_rfl) (by kernel_rfl) (by kernel_rfl) rfl rfl rfl rfl (a8 rfl rfl) ?_
      refine t5 3 [4,5,6] rfl (by kernel_rfl) (by kernel_rfl) (by kernel_rfl) rfl rfl rfl rfl (a8 rfl rfl) ?_
      refine s3 2 (by kernel_rfl) (A3 [1,2,3,4] rfl rfl (d3 5 [0] rfl rfl rfl (n8 hc2 (by omega) (8)) rfl (RowsIn.cons rfl RowsIn.nil) rfl (fun _=>rfl) rfl (fun x7 ⟨hv7,hc7⟩=>a4 ⟨rfl,?_⟩)))
      refine s3 4 (by kernel_rfl) (A3 [1,2,3,4] rfl rfl (d3 5 [0] rfl rfl rfl (n8 hc7 (by omega) (8)) rfl (RowsIn.cons rfl RowsIn.nil) rfl (fun _=>rfl) rfl (fun x8 ⟨hv8,hc8⟩=>a4 ⟨rfl,?_⟩)))
      refine s3 5 (by kernel_rfl) (A3 [1,2,3,4] rfl rfl (g8 7 rfl rfl rfl (ArgsOK.of rfl) (O5 z.2.2 _ _ hz2 (by omega) (by omega)) rfl rfl (a4 ⟨rfl,?_⟩)))
      refine s3 6 (by kernel_rfl) ?_
      refine G6 rfl rfl (by kernel_rfl) ?_
      refine c5 G rfl rfl rfl rfl rfl rfl rfl rfl rfl rfl rfl ?_
      refine a4 ?_
      refine Z1 (by kernel_rfl) ?_
      refine hK7 _ ?_
      clear hK7 K7
      refine a6 ?_
      refine a1 rfl ?_
      refine a3 rfl rfl (a8 rfl rfl) ?_
      refine a1 rfl ?_
      first | refine a3 rfl rfl (i8 rfl rfl rfl rfl (by omega) (by omega)) ?_ | refine a3 rfl rfl (k4 rfl rfl rfl rfl) ?_
      refine a1 rfl ?_
      refine a3 rfl rfl (a7 rfl rfl) ?_
      refine m7 (Gh.sub 5 2 (by rw [hpin];decide) rfl rfl rfl) ?_
      refine m7 (Gh.sub 6 3 (by rw [hpin];decide) rfl rfl rfl) ?_
      refine a4 ⟨(z.1+1,x8.2,a0J z.2.2 x7.1 x8.1),?_,?_,⟨⟨_,rfl,by (first | rfl | exact congrArg (fun v=>AV.v (.int .i64 v)) (by show x1.1 - (z.1:Int) - 1=x1.1 - ((z.1+1:Nat):Int);omega))⟩,rfl,trivial⟩,⟨⟨_,rfl,by rfl⟩,rfl,rfl,⟨⟨_,rfl,by rfl⟩,rfl,rfl,⟨⟨_,rfl,by rfl⟩,rfl,rfl,⟨⟨_,rfl,by rfl⟩,rfl,rfl,trivial⟩⟩⟩⟩,rfl,rfl,rfl⟩
      ·first | exact ⟨by show ((z.1+1:Nat):Int)≤x1.1;omega,(P8 hz2 (by omega) (by omega)).1,hc8.mono (by simp;omega)⟩ | exact ⟨by show ((z.1+1:Nat):Int)≤x1.1;omega,a1r hz2,hc8.mono (by simp;omega)⟩ | exact ⟨by show ((z.1+1:Nat):Int)≤x1.1;omega,a1s hz2 (by assumption),hc8.mono (by simp;omega)⟩ | exact ⟨by show ((z.1+1:Nat):Int)≤x1.1;omega,hz2,hc8.mono (by simp;omega)⟩
      ·(show x1.1.toNat - (z.1+1) < x1.1.toNat - z.1;omega)
     ·try rw [h4]
      try simp only [rfb] at h4
      refine b4 (fun K12 hK12=>?_)
      refine a6 ?_
      refine a1 rfl ?_
      refine a3 rfl rfl (f9 rfl rfl rfl rfl) ?_
      refine a1 rfl ?_
      refine a3 rfl rfl (a7 rfl rfl) ?_
      refine a4 ?_
      refine hK12 _ ?_
      clear hK12 K12
      refine d1 rfl (fun h5=>?_) (fun h5=>?_)
      ·try rw [h5]
       try simp only [rfb] at h5
       refine a6 ?_
       refine a1 rfl ?_
       refine a3 rfl rfl (b3 G rfl rfl rfl rfl rfl rfl) ?_
       refine a1 rfl ?_
       refine g8 7 rfl rfl rfl (ArgsOK.of rfl) (a3n z.2.2 16 hz2) rfl rfl ?_
       refine a1 rfl ?_
       refine a3 rfl rfl (a8 rfl rfl) ?_
       refine a1 rfl ?_
       refine a3 rfl rfl (c9 rfl rfl rfl) ?_
       refine a1 rfl ?_
       refine a3 rfl rfl (c9 rfl rfl rfl) ?_
       refine a1 rfl ?_
       refine c5 G rfl rfl rfl rfl rfl rfl rfl rfl rfl rfl rfl ?_
       refine a4 ?_
       refine hK7 _ ?_
       clear hK7 K7
       refine a6 ?_
       refine a1 rfl ?_
       refine a3 rfl rfl (a8 rfl rfl) ?_
       refine a1 rfl ?_
       first | refine a3 rfl rfl (i8 rfl rfl rfl rfl (by omega) (by omega)) ?_ | refine a3 rfl rfl (k4 rfl rfl rfl rfl) ?_
       refine a1 rfl ?_
       refine a3 rfl rfl (a7 rfl rfl) ?_
       refine m7 (Gh.sub 5 2 (by rw [hpin];decide) rfl rfl rfl) ?_
       refine m7 (Gh.sub 6 3 (by rw [hpin];decide) rfl rfl rfl) ?_
       refine a4 ⟨(z.1+1,x2.2,(tkQ z.2.2 16).1),?_,?_,⟨⟨_,rfl,by (first | rfl | exact congrArg (fun v=>AV.v (.int .i64 v)) (by show x1.1 - (z.1:Int) - 1=x1.1 - ((z.1+1:Nat):Int);omega))⟩,rfl,trivial⟩,⟨⟨_,rfl,by rfl⟩,rfl,rfl,⟨⟨_,rfl,by rfl⟩,rfl,rfl,⟨⟨_,rfl,by rfl⟩,rfl,rfl,⟨⟨_,rfl,by rfl⟩,rfl,rfl,trivial⟩⟩⟩⟩,rfl,rfl,rfl⟩
       ·first | exact ⟨by show ((z.1+1:Nat):Int)≤x1.1;omega,(P8 hz2 (by omega) (by omega)).1,hc2.mono (by simp;omega)⟩ | exact ⟨by show ((z.1+1:Nat):Int)≤x1.1;omega,a1r hz2,hc2.mono (by simp;omega)⟩ | exact ⟨by show ((z.1+1:Nat):Int)≤x1.1;omega,a1s hz2 (by assumption),hc2.mono (by simp;omega)⟩ | exact ⟨by show ((z.1+1:Nat):Int)≤x1.1;omega,hz2,hc2.mono (by simp;omega)⟩
       ·(show x1.1.toNat - (z.1+1) < x1.1.toNat - z.1;omega)
      ·try rw [h5]
       try simp only [rfb] at h5
       refine b4 (fun K13 hK13=>?_)
       refine a6 ?_
       refine a1 rfl ?_
       refine a3 rfl rfl (f9 rfl rfl rfl rfl) ?_
       refine a1 rfl ?_
       refine a3 rfl rfl (a7 rfl rfl) ?_
       refine a4 ?_
       refine hK13 _ ?_
       clear hK13 K13
       refine d1 rfl (fun h6=>?_) (fun h6=>?_)
       ·try rw [h6]
        try simp only [rfb] at h6
        refine b4 (fun K14 hK14=>?_)
        refine j9 10 [1,2,3,4] m5 (by kernel_rfl) rfl rfl (fun r0=>?_) (fun _ h=>h)
        refine b9 0 rfl (by kernel_rfl) (by kernel_rfl) rfl rfl rfl rfl (b3 G rfl rfl rfl rfl rfl rfl) ?_
        refine b9 1 rfl (by kernel_rfl) (by kernel_rfl) rfl rfl rfl rfl (a8 rfl rfl) ?_
        refine a9 (rs:=[2,7]) (by kernel_rfl) rfl (AllB.cons ?_ (AllB.cons ?_ AllB.nil))
        ·refine c7 [1,2,3,4] rfl rfl (d3 5 [0] rfl rfl rfl (n8 hc2 (by omega) (8)) rfl (RowsIn.cons rfl RowsIn.nil) rfl (fun _=>rfl) rfl (fun x9 ⟨hv9,hc9⟩=>a4 ⟨rfl,?_⟩))
         refine a9 (rs:=[3,7]) (by kernel_rfl) rfl (AllB.cons ?_ (AllB.cons ?_ AllB.nil))
         ·refine c7 [1,2,3,4] rfl rfl (g8 7 rfl rfl rfl (ArgsOK.of rfl) (Q1 z.2.2 _ hz2) rfl rfl (a4 ⟨rfl,?_⟩))
          refine b9 4 rfl (by kernel_rfl) (by kernel_rfl) rfl rfl rfl rfl (a8 rfl rfl) ?_
          refine b9 5 rfl (by kernel_rfl) (by kernel_rfl) rfl rfl rfl rfl (c9 rfl rfl rfl) ?_
          refine b9 6 rfl (by kernel_rfl) (by kernel_rfl) rfl rfl rfl rfl (c9 rfl rfl rfl) ?_
          refine a9 (rs:=[7]) (by kernel_rfl) rfl (AllB.cons ?_ AllB.nil)
          refine c7 [1,2,3,4] rfl rfl (d7 G 8 rfl rfl rfl rfl rfl (a4 ⟨rfl,?_⟩))
          refine a9 (rs:=[8]) (by kernel_rfl) rfl (AllB.cons ?_ AllB.nil)
          refine c7 [1,2,3,4] rfl rfl (c5 G rfl rfl rfl rfl rfl rfl rfl rfl rfl rfl rfl (a4 ⟨rfl,?_⟩))
          refine b9 9 rfl (by kernel_rfl) (by kernel_rfl) rfl rfl rfl rfl (a7 rfl rfl) ?_
          refine l9 (by kernel_rfl) ?_
          refine hK14 _ ?_
          clear hK14 K14
          refine b4 (fun K15 hK15=>?_)
          refine a6 ?_
          refine a1 rfl ?_
          refine a3 rfl rfl (a8 rfl rfl) ?_
          refine a4 ?_
          refine hK15 _ ?_
          clear hK15 K15
          refine d1 rfl (fun h7=>?_) (fun h7=>?_)
          ·try rw [h7]
           try simp only [rfb] at h7
           refine a6 ?_
           refine a1 rfl ?_
           refine a3 rfl rfl (b3 G rfl rfl rfl rfl rfl rfl) ?_
           refine a1 rfl ?_
           refine c5 G rfl rfl rfl rfl rfl rfl rfl rfl rfl rfl rfl ?_
           refine a4 ?_
           refine hK7 _ ?_
           clear hK7 K7
           refine a6 ?_
           refine a1 rfl ?_
           refine a3 rfl rfl (a8 rfl rfl) ?_
           refine a1 rfl ?_
           first | refine a3 rfl rfl (i8 rfl rfl rfl rfl (by omega) (by omega)) ?_ | refine a3 rfl rfl (k4 rfl rfl rfl rfl) ?_
           refine a1 rfl ?_
           refine a3 rfl rfl (a7 rfl rfl) ?_
           refine m7 (Gh.sub 5 2 (by rw [hpin];decide) rfl rfl rfl) ?_
           refine m7 (Gh.sub 6 3 (by rw [hpin];decide) rfl rfl rfl) ?_
           refine a4 ⟨(z.1+1,x9.2,(enG z.2.2 x9.1).1),?_,?_,⟨⟨_,rfl,by (first | rfl | exact congrArg (fun v=>AV.v (.int .i64 v)) (by show x1.1 - (z.1:Int) - 1=x1.1 - ((z.1+1:Nat):Int);omega))⟩,rfl,trivial⟩,⟨⟨_,rfl,by rfl⟩,rfl,rfl,⟨⟨_,rfl,by rfl⟩,rfl,rfl,⟨⟨_,rfl,by rfl⟩,rfl,rfl,⟨⟨_,rfl,by rfl⟩,rfl,rfl,trivial⟩⟩⟩⟩,rfl,rfl,rfl⟩
           ·first | exact ⟨by show ((z.1+1:Nat):Int)≤x1.1;omega,(P8 hz2 (by omega) (by omega)).1,hc9.mono (by simp;omega)⟩ | exact ⟨by show ((z.1+1:Nat):Int)≤x1.1;omega,a1r hz2,hc9.mono (by simp;omega)⟩ | exact ⟨by show ((z.1+1:Nat):Int)≤x1.1;omega,a1s hz2 (by assumption),hc9.mono (by simp;omega)⟩ | exact ⟨by show ((z.1+1:Nat):Int)≤x1.1;omega,hz2,hc9.mono (by simp;omega)⟩
           ·(show x1.1.toNat - (z.1+1) < x1.1.toNat - z.1;omega)
          ·try rw [h7]
           try simp only [rfb] at h7
           refine e9 ?_
           refine hK7 _ ?_
           clear hK7 K7
           refine a6 ?_
           refine a1 rfl ?_
           refine a3 rfl rfl (a8 rfl rfl) ?_
           refine a1 rfl ?_
           first | refine a3 rfl rfl (i8 rfl rfl rfl rfl (by omega) (by omega)) ?_ | refine a3 rfl rfl (k4 rfl rfl rfl rfl) ?_
           refine a1 rfl ?_
           refine a3 rfl rfl (a7 rfl rfl) ?_
           refine a4 ⟨(z.1+1,x9.2,z.2.2),?_,?_,⟨⟨_,rfl,by (first | rfl | exact congrArg (fun v=>AV.v (.int .i64 v)) (by show x1.1 - (z.1:Int) - 1=x1.1 - ((z.1+1:Nat):Int);omega))⟩,rfl,trivial⟩,⟨⟨_,rfl,by rfl⟩,rfl,rfl,⟨⟨_,rfl,by rfl⟩,rfl,rfl,⟨⟨_,rfl,by rfl⟩,rfl,rfl,⟨⟨_,rfl,by rfl⟩,rfl,rfl,trivial⟩⟩⟩⟩,rfl,rfl,rfl⟩
           ·first | exact ⟨by show ((z.1+1:Nat):Int)≤x1.1;omega,(P8 hz2 (by omega) (by omega)).1,hc9.mono (by simp;omega)⟩ | exact ⟨by show ((z.1+1:Nat):Int)≤x1.1;omega,a1r hz2,hc9.mono (by simp;omega)⟩ | exact ⟨by show ((z.1+1:Nat):Int)≤x1.1;omega,a1s hz2 (by assumption),hc9.mono (by simp;omega)⟩ | exact ⟨by show ((z.1+1:Nat):Int)≤x1.1;omega,hz2,hc9.mono (by simp;omega)⟩
           ·(show x1.1.toNat - (z.1+1) < x1.1.toNat - z.1;omega)
         ·refine c7 [1,2,3,4] rfl rfl (d7 G 6 rfl rfl rfl rfl rfl (a4 ⟨rfl,?_⟩))
          refine a9 (rs:=[3]) (by kernel_rfl) rfl (AllB.cons ?_ AllB.nil)
          refine c7 [1,2,3,4] rfl rfl (g8 8 rfl rfl rfl (ArgsOK.of rfl) (Q1 z.2.2 _ hz2) rfl rfl (a4 ⟨rfl,?_⟩))
          refine b9 4 rfl (by kernel_rfl) (by kernel_rfl) rfl rfl rfl rfl (a8 rfl rfl) ?_
          refine b9 5 rfl (by kernel_rfl) (by kernel_rfl) rfl rfl rfl rfl (c9 rfl rfl rfl) ?_
          refine b9 6 rfl (by kernel_rfl) (by kernel_rfl) rfl rfl rfl rfl (c9 rfl rfl rfl) ?_
          refine a9 (rs:=[8]) (by kernel_rfl) rfl (AllB.cons ?_ AllB.nil)
          refine c7 [1,2,3,4] rfl rfl (c5 G rfl rfl rfl rfl rfl rfl rfl rfl rfl rfl rfl (a4 ⟨rfl,?_⟩))
          refine b9 9 rfl (by kernel_rfl) (by kernel_rfl) rfl rfl rfl rfl (a7 rfl rfl) ?_
          refine l9 (by kernel_rfl) ?_
          refine hK14 _ ?_
          clear hK14 K14
          refine b4 (fun K16 hK16=>?_)
          refine a6 ?_
          refine a1 rfl ?_
          refine a3 rfl rfl (a8 rfl rfl) ?_
          refine a4 ?_
          refine hK16 _ ?_
          clear hK16 K16
          refine d1 rfl (fun h8=>?_) (fun h8=>?_)
          ·try rw [h8]
           try simp only [rfb] at h8
           refine a6 ?_
           refine a1 rfl ?_
           refine a3 rfl rfl (b3 G rfl rfl rfl rfl rfl rfl) ?_
           refine a1 rfl ?_
           refine c5 G rfl rfl rfl rfl rfl rfl rfl rfl rfl rfl rfl ?_
           refine a4 ?_
           refine hK7 _ ?_
           clear hK7 K7
           refine a6 ?_
           refine a1 rfl ?_
           refine a3 rfl rfl (a8 rfl rfl) ?_
           refine a1 rfl ?_
           first | refine a3 rfl rfl (i8 rfl rfl rfl rfl (by omega) (by omega)) ?_ | refine a3 rfl rfl (k4 rfl rfl rfl rfl) ?_
           refine a1 rfl ?_
           refine a3 rfl rfl (a7 rfl rfl) ?_
           refine m7 (Gh.sub 6 2 (by rw [hpin];decide) rfl rfl rfl) ?_
           refine m7 (Gh.sub 7 3 (by rw [hpin];decide) rfl rfl rfl) ?_
           refine a4 ⟨(z.1+1,x9.2,(enG z.2.2 x9.1).1),?_,?_,⟨⟨_,rfl,by (first | rfl | exact congrArg (fun v=>AV.v (.int .i64 v)) (by show x1.1 - (z.1:Int) - 1=x1.1 - ((z.1+1:Nat):Int);omega))⟩,rfl,trivial⟩,⟨⟨_,rfl,by rfl⟩,rfl,rfl,⟨⟨_,rfl,by rfl⟩,rfl,rfl,⟨⟨_,rfl,by rfl⟩,rfl,rfl,⟨⟨_,rfl,by rfl⟩,rfl,rfl,trivial⟩⟩⟩⟩,rfl,rfl,rfl⟩
           ·first | exact ⟨by show ((z.1+1:Nat):Int)≤x1.1;omega,(P8 hz2 (by omega) (by omega)).1,hc9.mono (by simp;omega)⟩ | exact ⟨by show ((z.1+1:Nat):Int)≤x1.1;omega,a1r hz2,hc9.mono (by simp;omega)⟩ | exact ⟨by show ((z.1+1:Nat):Int)≤x1.1;omega,a1s hz2 (by assumption),hc9.mono (by simp;omega)⟩ | exact ⟨by show ((z.1+1:Nat):Int)≤x1.1;omega,hz2,hc9.mono (by simp;omega)⟩
           ·(show x1.1.toNat - (z.1+1) < x1.1.toNat - z.1;omega)
          ·try rw [h8]
           try simp only [rfb] at h8
           refine e9 ?_
           refine hK7 _ ?_
           clear hK7 K7
           refine a6 ?_
           refine a1 rfl ?_
           refine a3 rfl rfl (a8 rfl rfl) ?_
           refine a1 rfl ?_
           first | refine a3 rfl rfl (i8 rfl rfl rfl rfl (by omega) (by omega)) ?_ | refine a3 rfl rfl (k4 rfl rfl rfl rfl) ?_
           refine a1 rfl ?_
           refine a3 rfl rfl (a7 rfl rfl) ?_
           refine a4 ⟨(z.1+1,x9.2,z.2.2),?_,?_,⟨⟨_,rfl,by (first | rfl | exact congrArg (fun v=>AV.v (.int .i64 v)) (by show x1.1 - (z.1:Int) - 1=x1.1 - ((z.1+1:Nat):Int);omega))⟩,rfl,trivial⟩,⟨⟨_,rfl,by rfl⟩,rfl,rfl,⟨⟨_,rfl,by rfl⟩,rfl,rfl,⟨⟨_,rfl,by rfl⟩,rfl,rfl,⟨⟨_,rfl,by rfl⟩,rfl,rfl,trivial⟩⟩⟩⟩,rfl,rfl,rfl⟩
           ·first | exact ⟨by show ((z.1+1:Nat):Int)≤x1.1;omega,(P8 hz2 (by omega) (by omega)).1,hc9.mono (by simp;omega)⟩ | exact ⟨by show ((z.1+1:Nat):Int)≤x1.1;omega,a1r hz2,hc9.mono (by simp;omega)⟩ | exact ⟨by show ((z.1+1:Nat):Int)≤x1.1;omega,a1s hz2 (by assumption),hc9.mono (by simp;omega)⟩ | exact ⟨by show ((z.1+1:Nat):Int)≤x1.1;omega,hz2,hc9.mono (by simp;omega)⟩
           ·(show x1.1.toNat - (z.1+1) < x1.1.toNat - z.1;omega)
        ·refine c7 [1,2,3,4] rfl rfl (d7 G 6 rfl rfl rfl rfl rfl (a4 ⟨rfl,?_⟩))
         refine a9 (rs:=[2]) (by kernel_rfl) rfl (AllB.cons ?_ AllB.nil)
         refine c7 [1,2,3,4] rfl rfl (d3 6 [0] rfl rfl rfl (n8 hc2 (by omega) (8)) rfl (RowsIn.cons rfl RowsIn.nil) rfl (fun _=>rfl) rfl (fun x10 ⟨hv10,hc10⟩=>a4 ⟨rfl,?_⟩))
         refine a9 (rs:=[3]) (by kernel_rfl) rfl (AllB.cons ?_ AllB.nil)
         refine c7 [1,2,3,4] rfl rfl (g8 8 rfl rfl rfl (ArgsOK.of rfl) (Q1 z.2.2 _ hz2) rfl rfl (a4 ⟨rfl,?_⟩))
         refine b9 4 rfl (by kernel_rfl) (by kernel_rfl) rfl rfl rfl rfl (a8 rfl rfl) ?_
         refine b9 5 rfl (by kernel_rfl) (by kernel_rfl) rfl rfl rfl rfl (c9 rfl rfl rfl) ?_
         refine b9 6 rfl (by kernel_rfl) (by kernel_rfl) rfl rfl rfl rfl (c9 rfl rfl rfl) ?_
         refine a9 (rs:=[8]) (by kernel_rfl) rfl (AllB.cons ?_ AllB.nil)
         refine c7 [1,2,3,4] rfl rfl (c5 G rfl rfl rfl rfl rfl rfl rfl rfl rfl rfl rfl (a4 ⟨rfl,?_⟩))
         refine b9 9 rfl (by kernel_rfl) (by kernel_rfl) rfl rfl rfl rfl (a7 rfl rfl) ?_
         refine l9 (by kernel_rfl) ?_
         refine hK14 _ ?_
         clear hK14 K14
         refine b4 (fun K17 hK17=>?_)
         refine a6 ?_
         refine a1 rfl ?_
         refine a3 rfl rfl (a8 rfl rfl) ?_
         refine a4 ?_
         refine hK17 _ ?_
         clear hK17 K17
         refine d1 rfl (fun h9=>?_) (fun h9=>?_)
         ·try rw [h9]
          try simp only [rfb] at h9
          refine a6 ?_
          refine a1 rfl ?_
          refine a3 rfl rfl (b3 G rfl rfl rfl rfl rfl rfl) ?_
          refine a1 rfl ?_
          refine c5 G rfl rfl rfl rfl rfl rfl rfl rfl rfl rfl rfl ?_
          refine a4 ?_
          refine hK7 _ ?_
          clear hK7 K7
          refine a6 ?_
          refine a1 rfl ?_
          refine a3 rfl rfl (a8 rfl rfl) ?_
          refine a1 rfl ?_
          first | refine a3 rfl rfl (i8 rfl rfl rfl rfl (by omega) (by omega)) ?_ | refine a3 rfl rfl (k4 rfl rfl rfl rfl) ?_
          refine a1 rfl ?_
          refine a3 rfl rfl (a7 rfl rfl) ?_
          refine m7 (Gh.sub 6 2 (by rw [hpin];decide) rfl rfl rfl) ?_
          refine m7 (Gh.sub 7 3 (by rw [hpin];decide) rfl rfl rfl) ?_
          refine a4 ⟨(z.1+1,x10.2,(enG z.2.2 x10.1).1),?_,?_,⟨⟨_,rfl,by (first | rfl | exact congrArg (fun v=>AV.v (.int .i64 v)) (by show x1.1 - (z.1:Int) - 1=x1.1 - ((z.1+1:Nat):Int);omega))⟩,rfl,trivial⟩,⟨⟨_,rfl,by rfl⟩,rfl,rfl,⟨⟨_,rfl,by rfl⟩,rfl,rfl,⟨⟨_,rfl,by rfl⟩,rfl,rfl,⟨⟨_,rfl,by rfl⟩,rfl,rfl,trivial⟩⟩⟩⟩,rfl,rfl,rfl⟩
          ·first | exact ⟨by show ((z.1+1:Nat):Int)≤x1.1;omega,(P8 hz2 (by omega) (by omega)).1,hc10.mono (by simp;omega)⟩ | exact ⟨by show ((z.1+1:Nat):Int)≤x1.1;omega,a1r hz2,hc10.mono (by simp;omega)⟩ | exact ⟨by show ((z.1+1:Nat):Int)≤x1.1;omega,a1s hz2 (by assumption),hc10.mono (by simp;omega)⟩ | exact ⟨by show ((z.1+1:Nat):Int)≤x1.1;omega,hz2,hc10.mono (by simp;omega)⟩
          ·(show x1.1.toNat - (z.1+1) < x1.1.toNat - z.1;omega)
         ·try rw [h9]
          try simp only [rfb] at h9
          refine e9 ?_
          refine hK7 _ ?_
          clear hK7 K7
          refine a6 ?_
          refine a1 rfl ?_
          refine a3 rfl rfl (a8 rfl rfl) ?_
          refine a1 rfl ?_
          first | refine a3 rfl rfl (i8 rfl rfl rfl rfl (by omega) (by omega)) ?_ | refine a3 rfl rfl (k4 rfl rfl rfl rfl) ?_
          refine a1 rfl ?_
          refine a3 rfl rfl (a7 rfl rfl) ?_
          refine a4 ⟨(z.1+1,x10.2,z.2.2),?_,?_,⟨⟨_,rfl,by (first | rfl | exact congrArg (fun v=>AV.v (.int .i64 v)) (by show x1.1 - (z.1:Int) - 1=x1.1 - ((z.1+1:Nat):Int);omega))⟩,rfl,trivial⟩,⟨⟨_,rfl,by rfl⟩,rfl,rfl,⟨⟨_,rfl,by rfl⟩,rfl,rfl,⟨⟨_,rfl,by rfl⟩,rfl,rfl,⟨⟨_,rfl,by rfl⟩,rfl,rfl,trivial⟩⟩⟩⟩,rfl,rfl,rfl⟩
          ·first | exact ⟨by show ((z.1+1:Nat):Int)≤x1.1;omega,(P8 hz2 (by omega) (by omega)).1,hc10.mono (by simp;omega)⟩ | exact ⟨by show ((z.1+1:Nat):Int)≤x1.1;omega,a1r hz2,hc10.mono (by simp;omega)⟩ | exact ⟨by show ((z.1+1:Nat):Int)≤x1.1;omega,a1s hz2 (by assumption),hc10.mono (by simp;omega)⟩ | exact ⟨by show ((z.1+1:Nat):Int)≤x1.1;omega,hz2,hc10.mono (by simp;omega)⟩
          ·(show x1.1.toNat - (z.1+1) < x1.1.toNat - z.1;omega)
       ·try rw [h6]
        try simp only [rfb] at h6
        refine e9 ?_
        refine hK7 _ ?_
        clear hK7 K7
        refine a6 ?_
        refine a1 rfl ?_
        refine a3 rfl rfl (a8 rfl rfl) ?_
        refine a1 rfl ?_
        first | refine a3 rfl rfl (i8 rfl rfl rfl rfl (by omega) (by omega)) ?_ | refine a3 rfl rfl (k4 rfl rfl rfl rfl) ?_
        refine a1 rfl ?_
        refine a3 rfl rfl (a7 rfl rfl) ?_
        refine a4 ⟨(z.1+1,x2.2,z.2.2),?_,?_,⟨⟨_,rfl,by (first | rfl | exact congrArg (fun v=>AV.v (.int .i64 v)) (by show x1.1 - (z.1:Int) - 1=x1.1 - ((z.1+1:Nat):Int);omega))⟩,rfl,trivial⟩,⟨⟨_,rfl,by rfl⟩,rfl,rfl,⟨⟨_,rfl,by rfl⟩,rfl,rfl,⟨⟨_,rfl,by rfl⟩,rfl,rfl,⟨⟨_,rfl,by rfl⟩,rfl,rfl,trivial⟩⟩⟩⟩,rfl,rfl,rfl⟩
        ·first | exact ⟨by show ((z.1+1:Nat):Int)≤x1.1;omega,(P8 hz2 (by omega) (by omega)).1,hc2.mono (by simp;omega)⟩ | exact ⟨by show ((z.1+1:Nat):Int)≤x1.1;omega,a1r hz2,hc2.mono (by simp;omega)⟩ | exact ⟨by show ((z.1+1:Nat):Int)≤x1.1;omega,a1s hz2 (by assumption),hc2.mono (by simp;omega)⟩ | exact ⟨by show ((z.1+1:Nat):Int)≤x1.1;omega,hz2,hc2.mono (by simp;omega)⟩
        ·(show x1.1.toNat - (z.1+1) < x1.1.toNat - z.1;omega)
  ·try rw [h1]
   try simp only [rfb] at h1
   refine B0 ?_
   refine hK3 _ ?_
   clear hK5 K5 hK3 K3
   refine b4 (fun K18 hK18=>?_)
   refine b4 (fun K19 hK19=>?_)
   refine a6 ?_
   refine a1 rfl ?_
   refine a3 rfl rfl (a8 rfl rfl) ?_
   refine a1 rfl ?_
   refine d3 5 [0] rfl rfl rfl (n8 hz (by omega) (24)) rfl (RowsIn.cons rfl RowsIn.nil) rfl (fun _=>rfl) rfl (fun x11 ⟨hv11,hc11⟩=>?_)
   refine a4 ?_
   refine hK19 _ ?_
   clear hK19 K19
   refine l8 ?_
   refine b4 (fun K20 hK20=>?_)
   refine a6 ?_
   refine a1 rfl ?_
   refine a3 rfl rfl (f9 rfl rfl rfl rfl) ?_
   refine a1 rfl ?_
   refine a3 rfl rfl (a7 rfl rfl) ?_
   refine a4 ?_
   refine hK20 _ ?_
   clear hK20 K20
   refine d1 rfl (fun h10=>?_) (fun h10=>?_)
   ·try rw [h10]
    try simp only [rfb] at h10
    refine a6 ?_
    refine a1 rfl ?_
    refine a3 rfl rfl (a8 rfl rfl) ?_
    refine a1 rfl ?_
    refine d3 6 [0] rfl rfl rfl (a2t hc11 (by omega)) rfl (RowsIn.cons rfl RowsIn.nil) rfl (fun _=>rfl) rfl (fun x12 ⟨hv12,hc12⟩=>?_)
    refine a1 rfl ?_
    refine a3 rfl rfl (b7 G rfl rfl rfl rfl) ?_
    refine a1 rfl ?_
    refine c5 G rfl rfl rfl rfl rfl rfl rfl rfl rfl rfl rfl ?_
    refine a4 ?_
    refine hK18 _ ?_
    clear hK18 K18
    refine b4 (fun K21 hK21=>?_)
    refine a6 ?_
    refine a1 rfl ?_
    refine a3 rfl rfl (b3 G rfl rfl rfl rfl rfl rfl) ?_
    refine a1 rfl ?_
    refine c5 G rfl rfl rfl rfl rfl rfl rfl rfl rfl rfl rfl ?_
    refine a4 ?_
    refine hK21 _ ?_
    clear hK21 K21
    refine c8 (v7 ((⟨x12.1,z.2.2.wa⟩,x12.2)) (q9 rfl rfl rfl rfl (a5 (b8 rfl ?_) (a5 (b8 rfl ?_) d4)) rfl (AftOK.stays rfl ?_ rfl AftOK.nil)) (⟨?_,?_⟩))
    all_goals (first | rfl | exact hc12.mono (by omega) | (dsimp only;rw [List.map_set];rfl) | (rw [List.map_append];rfl) | (refine ⟨?_,?_⟩<;>(show List.length _≤_;(try simp only [List.length_set,List.length_append,List.length_cons,List.length_nil]);omega)))
   ·try rw [h10]
    try simp only [rfb] at h10
    refine b4 (fun K22 hK22=>?_)
    refine a6 ?_
    refine a1 rfl ?_
    refine a3 rfl rfl (f9 rfl rfl rfl rfl) ?_
    refine a1 rfl ?_
    refine a3 rfl rfl (a7 rfl rfl) ?_
    refine a4 ?_
    refine hK22 _ ?_
    clear hK22 K22
    refine d1 rfl (fun h11=>?_) (fun h11=>?_)
    ·try rw [h11]
     try simp only [rfb] at h11
     refine J7 11 [1,2,3,4] [8,10] m5 (by kernel_rfl) rfl rfl (fun r0=>?_) (fun _ h=>h)
     refine t5 0 [1,8,9,10] rfl (by kernel_rfl) (by kernel_rfl) (by kernel_rfl) rfl rfl rfl rfl (b7 G rfl rfl rfl rfl) ?_
     refine t5 1 [8,9,10] rfl (by kernel_rfl) (by kernel_rfl) (by kernel_rfl) rfl rfl rfl rfl (c4 G rfl rfl rfl rfl rfl rfl rfl) ?_
     refine t5 2 [3,5,6,7,8,9,10] rfl (by kernel_rfl) (by kernel_rfl) (by kernel_rfl) rfl rfl rfl rfl (a8 rfl rfl) ?_
     refine t5 4 [5,6,7,8,9,10] rfl (by kernel_rfl) (by kernel_rfl) (by kernel_rfl) rfl rfl rfl rfl (a8 rfl rfl) ?_
     refine s3 3 (by kernel_rfl) (A3 [1,2,3,4] rfl rfl (d3 5 [0] rfl rfl rfl (a3U hc11 (by omega)) rfl (RowsIn.cons rfl RowsIn.nil) rfl (fun _=>rfl) rfl (fun x13 ⟨hv13,hc13⟩=>a4 ⟨rfl,?_⟩)))
     refine s3 5 (by kernel_rfl) (A3 [1,2,3,4] rfl rfl (d3 5 [0] rfl rfl rfl (a3p hc13 (by omega)) rfl (RowsIn.cons rfl RowsIn.nil) rfl (fun _=>rfl) rfl (fun x14 ⟨hv14,hc14⟩=>a4 ⟨rfl,?_⟩)))
     refine t5 6 [7,8,9,10] rfl (by kernel_rfl) (by kernel_rfl) (by kernel_rfl) rfl rfl rfl rfl (g0 G rfl rfl rfl rfl) ?_
     refine s3 7 (by kernel_rfl) (A3 [1,2,3,4] rfl rfl (k6 G 6 rfl rfl rfl rfl rfl rfl rfl rfl (a4 ⟨rfl,?_⟩)))
     refine s3 8 (by kernel_rfl) (G6 rfl rfl (by kernel_rfl) (s4 (Gh.forget (id:=4) (k:=1) rfl rfl)<|s4 (Gh.keep [0,1,2,3,4,5] rfl)<|y5 (tx:=60) 7 rfl rfl rfl rfl rfl<|f7 G (by exact Nat.le_of_ble_eq_true rfl) rfl rfl rfl rfl rfl rfl rfl rfl rfl (by first | (simp only [List.length_map,List.length_cons,List.length_nil];omega) | (simp;omega)) rfl rfl (a4 ?_)))
     refine s3 9 (by kernel_rfl) ?_
     refine G6 rfl rfl (by kernel_rfl) ?_
     refine a3 rfl rfl (b7 G rfl rfl rfl rfl) ?_
     refine a4 ?_
     refine s3 10 (by kernel_rfl) ?_
     refine G6 rfl rfl (by kernel_rfl) ?_
     refine c5 G rfl rfl rfl rfl rfl rfl rfl rfl rfl rfl rfl ?_
     refine a4 ?_
     refine Z1 (by kernel_rfl) ?_
     refine hK18 _ ?_
     clear hK18 K18
     refine b4 (fun K23 hK23=>?_)
     refine a6 ?_
     refine a1 rfl ?_
     refine a3 rfl rfl (b3 G rfl rfl rfl rfl rfl rfl) ?_
     refine a1 rfl ?_
     refine c5 G rfl rfl rfl rfl rfl rfl rfl rfl rfl rfl rfl ?_
     refine a4 ?_
     refine hK23 _ ?_
     clear hK23 K23
     refine c8 (v7 ((⟨z.2.2.sl,z.2.2.wa++[⟨x13.1,x14.1⟩]⟩,x14.2)) (q9 rfl rfl rfl rfl (a5 (b8 rfl ?_) (a5 (b8 rfl ?_) d4)) rfl (AftOK.stays rfl ?_ rfl AftOK.nil)) (⟨?_,?_⟩))
     all_goals (first | rfl | exact hc14.mono (by omega) | (dsimp only;rw [List.map_set];rfl) | (rw [List.map_append];rfl) | (refine ⟨?_,?_⟩<;>(show List.length _≤_;(try simp only [List.length_set,List.length_append,List.length_cons,List.length_nil]);omega)))
    ·try rw [h11]
     try simp only [rfb] at h11
     refine b4 (fun K24 hK24=>?_)
     refine a6 ?_
     refine a1 rfl ?_
     refine a3 rfl rfl (f9 rfl rfl rfl rfl) ?_
     refine a1 rfl ?_
     refine a3 rfl rfl (a7 rfl rfl) ?_
     refine a4 ?_
     refine hK24 _ ?_
     clear hK24 K24
     refine d1 rfl (fun h12=>?_) (fun h12=>?_)
     ·try rw [h12]
      try simp only [rfb] at h12
      refine b4 (fun K25 hK25=>?_)
      refine a6 ?_
      refine a1 rfl ?_
      refine a3 rfl rfl (b7 G rfl rfl rfl rfl) ?_
      refine a1 rfl ?_
      refine a3 rfl rfl (c4 G rfl rfl rfl rfl rfl rfl rfl) ?_
      refine a1 rfl ?_
      first | refine a3 rfl rfl (r4 G rfl rfl rfl rfl (List.length_map _)) ?_ | refine a3 rfl rfl (t6 G rfl rfl rfl rfl) ?_
      refine a1 rfl ?_
      refine a3 rfl rfl (f9 rfl rfl rfl rfl) ?_
      refine a4 ?_
      refine hK25 _ ?_
      clear hK25 K25
      refine d1 rfl (fun h13=>?_) (fun h13=>?_)
      ·try rw [h13]
       try simp only [rfb] at h13
       refine j9 7 [1,3,4] m5 (by kernel_rfl) rfl rfl (fun r0=>?_) (fun _ h=>h)
       refine b9 0 rfl (by kernel_rfl) (by kernel_rfl) rfl rfl rfl rfl (b7 G rfl rfl rfl rfl) ?_
       refine b9 1 rfl (by kernel_rfl) (by kernel_rfl) rfl rfl rfl rfl (c4 G rfl rfl rfl rfl rfl rfl rfl) ?_
       refine b9 2 rfl (by kernel_rfl) (by kernel_rfl) rfl rfl rfl rfl (a8 rfl rfl) ?_
       refine b9 4 rfl (by kernel_rfl) (by kernel_rfl) rfl rfl rfl rfl (g0 G rfl rfl rfl rfl) ?_
       refine a9 (rs:=[3]) (by kernel_rfl) rfl (AllB.cons ?_ AllB.nil)
       refine c7 [1,3,4] rfl rfl (d3 5 [0] rfl rfl rfl (n8 hc11 (by omega) (4)) rfl (RowsIn.cons rfl RowsIn.nil) rfl (fun _=>rfl) rfl (fun x15 ⟨hv15,hc15⟩=>a4 ⟨rfl,?_⟩))
       refine a9 (rs:=[5]) (by kernel_rfl) rfl (AllB.cons ?_ AllB.nil)
       refine c7 [1,3,4] rfl rfl (a3 rfl rfl (k8 G rfl rfl rfl rfl rfl (by omega) (by rw [List.length_map];omega)) (a4 ⟨rfl,?_⟩))
       refine a9 (rs:=[6]) (by kernel_rfl) rfl (AllB.cons ?_ AllB.nil)
       refine c7 [1,3,4] rfl rfl (i6 G rfl rfl rfl rfl rfl (t8 (by omega) (by omega)) rfl rfl rfl rfl rfl (Nat.le_of_ble_eq_true rfl) rfl (a4 ⟨rfl,?_⟩))
       refine l9 (by kernel_rfl) ?_
       refine hK18 _ ?_
       clear hK18 K18
       refine b4 (fun K26 hK26=>?_)
       refine a6 ?_
       refine a1 rfl ?_
       refine a3 rfl rfl (b3 G rfl rfl rfl rfl rfl rfl) ?_
       refine a1 rfl ?_
       refine c5 G rfl rfl rfl rfl rfl rfl rfl rfl rfl rfl rfl ?_
       refine a4 ?_
       refine hK26 _ ?_
       clear hK26 K26
       refine c8 (v7 ((⟨z.2.2.sl.set x15.1.toNat zSl,z.2.2.wa⟩,x15.2)) (q9 rfl rfl rfl rfl (a5 (b8 rfl ?_) (a5 (b8 rfl ?_) d4)) rfl (AftOK.stays rfl ?_ rfl AftOK.nil)) (⟨?_,?_⟩))
       all_goals (first | rfl | exact hc15.mono (by omega) | (dsimp only;rw [List.map_set];rfl) | (rw [List.map_append];rfl) | (refine ⟨?_,?_⟩<;>(show List.length _≤_;(try simp only [List.length_set,List.length_append,List.length_cons,List.length_nil]);omega)))
      ·try rw [h13]
       try simp only [rfb] at h13
       refine e9 ?_
       refine hK18 _ ?_
       clear hK18 K18
       refine b4 (fun K27 hK27=>?_)
       refine a6 ?_
       refine a1 rfl ?_
       refine a3 rfl rfl (b3 G rfl rfl rfl rfl rfl rfl) ?_
       refine a1 rfl ?_
       refine c5 G rfl rfl rfl rfl rfl rfl rfl rfl rfl rfl rfl ?_
       refine a4 ?_
       refine hK27 _ ?_
       clear hK27 K27
       refine c8 (v7 ((z.2.2,x11.2)) (q9 rfl rfl rfl rfl (a5 (b8 rfl ?_) (a5 (b8 rfl ?_) d4)) rfl (AftOK.stays rfl ?_ rfl AftOK.nil)) (⟨?_,?_⟩))
       all_goals (first | rfl | exact hc11.mono (by omega) | (dsimp only;rw [List.map_set];rfl) | (rw [List.map_append];rfl) | (refine ⟨?_,?_⟩<;>(show List.length _≤_;(try simp only [List.length_set,List.length_append,List.length_cons,List.length_nil]);omega)))
     ·try rw [h12]
      try simp only [rfb] at h12
      refine e9 ?_
      refine hK18 _ ?_
      clear hK18 K18
      refine b4 (fun K28 hK28=>?_)
      refine a6 ?_
      refine a1 rfl ?_
      refine a3 rfl rfl (b3 G rfl rfl rfl rfl rfl rfl) ?_
      refine a1 rfl ?_
      refine c5 G rfl rfl rfl rfl rfl rfl rfl rfl rfl rfl rfl ?_
      refine a4 ?_
      refine hK28 _ ?_
      clear hK28 K28
      refine c8 (v7 ((z.2.2,x11.2)) (q9 rfl rfl rfl rfl (a5 (b8 rfl ?_) (a5 (b8 rfl ?_) d4)) rfl (AftOK.stays rfl ?_ rfl AftOK.nil)) (⟨?_,?_⟩))
      all_goals (first | rfl | exact hc11.mono (by omega) | (dsimp only;rw [List.map_set];rfl) | (rw [List.map_append];rfl) | (refine ⟨?_,?_⟩<;>(show List.length _≤_;(try simp only [List.length_set,List.length_append,List.length_cons,List.length_nil]);omega)))
theorem X0 {x:Cur} {n:Int} (h:okC n x) (hn:n≤880000000000):CtrX (α:=Ifc×Cur) Tryz.prog 176 [.ptr 0 0] [.box [.lst 1 (x.c.map C5),.v (.int .i64 x.a),.v (.int .u64 x.s)]] (fun y=>(DrI y.1)∧okC (n+500) y.2) (fun y=>.shp true [some 4] [.v (.int .i64 y.1.ma),.fr 3 1 (y.1.st.map Rf.r5),.fr 154 3 (y.1.qu.sl.map p4),.fr 183 2 (y.1.qu.wa.map s6)]) (fun y=>[some (.box [.lst 1 (y.2.c.map C5),.v (.int .i64 y.2.a),.v (.int .u64 y.2.s)])]):=by
 refine CtrX.of (n:=76) (k:=1) G Tryz.func176 rfl (by kernel_rfl) rfl rfl rfl rfl (fun _=>rfl) rfl rfl (fun w0 _ hpin=>?_)
 refine b4 (fun K1 hK1=>?_)
 refine a6 ?_
 refine a1 rfl ?_
 refine d7 G 2 rfl rfl rfl rfl rfl ?_
 refine a4 ?_
 refine hK1 _ ?_
 clear hK1 K1
 refine b4 (fun K2 hK2=>?_)
 refine a6 ?_
 refine a1 rfl ?_
 refine k6 G 3 rfl rfl rfl rfl rfl rfl rfl rfl ?_
 refine a1 rfl ?_
 refine a3 rfl rfl (g0 G rfl rfl rfl rfl) ?_
 refine a1 rfl ?_
 refine a3 rfl rfl (g0 G rfl rfl rfl rfl) ?_
 refine a1 rfl ?_
 refine a3 rfl rfl (g0 G rfl rfl rfl rfl) ?_
 refine a1 rfl ?_
 refine a3 rfl rfl (g0 G rfl rfl rfl rfl) ?_
 refine a1 rfl ?_
 refine k6 G 4 rfl rfl rfl rfl rfl rfl rfl rfl ?_
 refine a1 rfl ?_
 refine k6 G 5 rfl rfl rfl rfl rfl rfl rfl rfl ?_
 refine a1 rfl ?_
 refine a3 rfl rfl (g0 G rfl rfl rfl rfl) ?_
 refine a1 rfl ?_
 refine a3 rfl rfl (g0 G rfl rfl rfl rfl) ?_
 refine a1 rfl ?_
 refine d7 G 6 rfl rfl rfl rfl rfl ?_
 refine a1 rfl ?_
 refine c5 G rfl rfl rfl rfl rfl rfl rfl rfl rfl rfl rfl ?_
 refine a4 ?_
 refine hK2 _ ?_
 clear hK2 K2
 refine b4 (fun K3 hK3=>?_)
 refine b4 (fun K4 hK4=>?_)
 refine a6 ?_
 refine a1 rfl ?_
 refine a3 rfl rfl (a8 rfl rfl) ?_
 refine a1 rfl ?_
 refine d3 6 [0] rfl rfl rfl (n8 h (by omega) (14)) rfl (RowsIn.cons rfl RowsIn.nil) rfl (fun _=>rfl) rfl (fun x1 ⟨hv1,hc1⟩=>?_)
 refine a1 rfl ?_
 refine a3 rfl rfl (a7 rfl rfl) ?_
 refine a4 ?_
 refine hK4 _ ?_
 clear hK4 K4
 refine l8 ?_
 refine m4 [0,2,3] [1] (fun (z:Nat×Cur×Ifc)=>[(4,.v (.int .i64 (x1.1 - z.1)))]) (fun (z:Nat×Cur×Ifc)=>[(0,some (.box [.lst 1 (z.2.1.c.map C5),.v (.int .i64 z.2.1.a),.v (.int .u64 z.2.1.s)])),(2,some (.row 3 1 (z.2.2.st.map Rf.r5))),(3,some (.row 154 3 (z.2.2.qu.sl.map p4))),(4,some (.row 183 2 (z.2.2.qu.wa.map s6))),(5,some (.box [.v (.int .i64 z.2.2.ma),.own 2,.own 3,.own 4]))]) (fun (z:Nat×Cur×Ifc)=>(z.1:Int)≤x1.1∧(IfG z.2.2)∧okC (n+2+6 * z.1) z.2.1) (fun (z:Nat×Cur×Ifc)=>x1.1.toNat - z.1) (0,x1.2,a9L) rfl rfl ?_ ?_ ?_ ?_
 ·exact ⟨hv1.1,b08,hc1.mono (by simp)⟩
 ·exact ⟨⟨_,rfl,by (first | rfl | simp)⟩,rfl,trivial⟩
 ·exact ⟨⟨_,rfl,by rfl⟩,rfl,rfl,⟨⟨_,rfl,by rfl⟩,rfl,rfl,⟨⟨_,rfl,by rfl⟩,rfl,rfl,⟨⟨_,rfl,by rfl⟩,rfl,rfl,⟨⟨_,rfl,by rfl⟩,rfl,rfl,trivial⟩⟩⟩⟩⟩
 ·intro z hinv
  obtain ⟨hz1,hz2,hz⟩:=hinv
  have hql:=hz2.f.qu.sl.len
  have hqw:=hz2.f.qu.wn8
  have hqs:=hz2.f.sn
  simp only [List.cons_append,List.nil_append]
  refine b4 (fun K5 hK5=>?_)
  refine b4 (fun K6 hK6=>?_)
  refine a6 ?_
  refine a1 rfl ?_
  refine a3 rfl rfl (a8 rfl rfl) ?_
  refine a1 rfl ?_
  refine a3 rfl rfl (f9 rfl rfl rfl rfl) ?_
  refine a4 ?_
  refine hK6 _ ?_
  clear hK6 K6
  refine d1 rfl (fun h1=>?_) (fun h1=>?_)
  ·try rw [h1]
   try simp only [rfb] at h1
   refine e9 ?_
   refine hK5 _ ?_
   clear hK5 K5
   refine b4 (fun K7 hK7=>?_)
   refine l8 ?_
   refine b4 (fun K8 hK8=>?_)
   refine a6 ?_
   refine a1 rfl ?_
   refine a3 rfl rfl (a8 rfl rfl) ?_
   refine a1 rfl ?_
   refine d3 6 [0] rfl rfl rfl (n8 hz (by omega) (6)) rfl (RowsIn.cons rfl RowsIn.nil) rfl (fun _=>rfl) rfl (fun x2 ⟨hv2,hc2⟩=>?_)
   refine a4 ?_
   refine hK8 _ ?_
   clear hK8 K8
   refine l8 ?_
   refine b4 (fun K9 hK9=>?_)
   refine b4 (fun K10 hK10=>?_)
   refine a6 ?_
   refine a1 rfl ?_
   refine a3 rfl rfl (f9 rfl rfl rfl rfl) ?_
   refine a1 rfl ?_
   refine a3 rfl rfl (a7 rfl rfl) ?_
   refine a4 ?_
   refine hK10 _ ?_
   clear hK10 K10
   refine d1 rfl (fun h2=>?_) (fun h2=>?_)
   ·try rw [h2]
    try simp only [rfb] at h2
    refine e9 ?_
    refine hK9 _ ?_
    clear hK9 K9
    refine r7 rfl ?_
    refine J7 7 [1,2,3,4,5] [6] m5 (by kernel_rfl) rfl rfl (fun r0=>?_) (fun _ h=>h)
    refine t5 0 [5,6] rfl (by kernel_rfl) (by kernel_rfl) (by kernel_rfl) rfl rfl rfl rfl (b3 G rfl rfl rfl rfl rfl rfl) ?_
    refine t5 1 [2,4,5,6] rfl (by kernel_rfl) (by kernel_rfl) (by kernel_rfl) rfl rfl rfl rfl (a8 rfl rfl) ?_
    refine t5 3 [4,5,6] rfl (by kernel_rfl) (by kernel_rfl) (by kernel_rfl) rfl rfl rfl rfl (a8 rfl rfl) ?_
    refine s3 2 (by kernel_rfl) (A3 [1,2,3,4,5] rfl rfl (d3 6 [0] rfl rfl rfl (n8 hc2 (by omega) (8)) rfl (RowsIn.cons rfl RowsIn.nil) rfl (fun _=>rfl) rfl (fun x3 ⟨hv3,hc3⟩=>a4 ⟨rfl,?_⟩)))
    refine s3 4 (by kernel_rfl) (A3 [1,2,3,4,5] rfl rfl (d3 6 [0] rfl rfl rfl (n8 hc3 (by omega) (12)) rfl (RowsIn.cons rfl RowsIn.nil) rfl (fun _=>rfl) rfl (fun x4 ⟨hv4,hc4⟩=>a4 ⟨rfl,?_⟩)))
    refine s3 5 (by kernel_rfl) (A3 [1,2,3,4,5] rfl rfl (g8 9 rfl rfl rfl (ArgsOK.of rfl) (L5 z.2.2 _ _ hz2.f (by omega) (by omega)) rfl rfl (a4 ⟨rfl,?_⟩)))
    refine s3 6 (by kernel_rfl) ?_
    refine G6 rfl rfl (by kernel_rfl) ?_
    refine c5 G rfl rfl rfl rfl rfl rfl rfl rfl rfl rfl rfl ?_
    refine a4 ?_
    refine Z1 (by kernel_rfl) ?_
    refine hK7 _ ?_
    clear hK7 K7
    refine a6 ?_
    refine a1 rfl ?_
    refine a3 rfl rfl (a8 rfl rfl) ?_
    refine a1 rfl ?_
    first | refine a3 rfl rfl (i8 rfl rfl rfl rfl (by omega) (by omega)) ?_ | refine a3 rfl rfl (k4 rfl rfl rfl rfl) ?_
    refine a1 rfl ?_
    refine a3 rfl rfl (a7 rfl rfl) ?_
    refine m7 (Gh.sub 6 2 (by rw [hpin];decide) rfl rfl rfl) ?_
    refine m7 (Gh.sub 7 3 (by rw [hpin];decide) rfl rfl rfl) ?_
    refine m7 (Gh.sub 8 4 (by rw [hpin];decide) rfl rfl rfl) ?_
    refine a4 ⟨(z.1+1,x4.2,Z0 z.2.2 x3.1 x4.1),?_,?_,⟨⟨_,rfl,by (first | rfl | exact congrArg (fun v=>AV.v (.int .i64 v)) (by show x1.1 - (z.1:Int) - 1=x1.1 - ((z.1+1:Nat):Int);omega))⟩,rfl,trivial⟩,⟨⟨_,rfl,by rfl⟩,rfl,rfl,⟨⟨_,rfl,by rfl⟩,rfl,rfl,⟨⟨_,rfl,by rfl⟩,rfl,rfl,⟨⟨_,rfl,by rfl⟩,rfl,rfl,⟨⟨_,rfl,by rfl⟩,rfl,rfl,trivial⟩⟩⟩⟩⟩,rfl,rfl,rfl⟩
    ·first | exact ⟨by show ((z.1+1:Nat):Int)≤x1.1;omega,a7z hz2 (by omega) (by omega),hc4.mono (by simp;omega)⟩ | exact ⟨by show ((z.1+1:Nat):Int)≤x1.1;omega,a5p hz2,hc4.mono (by simp;omega)⟩ | exact ⟨by show ((z.1+1:Nat):Int)≤x1.1;omega,a5q hz2,hc4.mono (by simp;omega)⟩ | exact ⟨by show ((z.1+1:Nat):Int)≤x1.1;omega,hz2,hc4.mono (by simp;omega)⟩
    ·(show x1.1.toNat - (z.1+1) < x1.1.toNat - z.1;omega)
   ·try rw [h2]
    try simp only [rfb] at h2
    refine b4 (fun K11 hK11=>?_)
    refine a6 ?_
    refine a1 rfl ?_
    refine a3 rfl rfl (f9 rfl rfl rfl rfl) ?_
    refine a1 rfl ?_
    refine a3 rfl rfl (a7 rfl rfl) ?_
    refine a4 ?_
    refine hK11 _ ?_
    clear hK11 K11
    refine d1 rfl (fun h3=>?_) (fun h3=>?_)
    ·try rw [h3]
     try simp only [rfb] at h3
     refine e9 ?_
     refine hK9 _ ?_
     clear hK9 K9
     refine r7 rfl ?_
     refine J7 7 [1,2,3,4,5] [6] m5 (by kernel_rfl) rfl rfl (fun r0=>?_) (fun _ h=>h)
     refine t5 0 [5,6] rfl (by kernel_rfl) (by kernel_rfl) (by kernel_rfl) rfl rfl rfl rfl (b3 G rfl rfl rfl rfl rfl rfl) ?_
     refine t5 1 [2,4,5,6] rfl (by kernel_rfl) (by kernel_rfl) (by kernel_rfl) rfl rfl rfl rfl (a8 rfl rfl) ?_
     refine t5 3 [4,5,6] rfl (by kernel_rfl) (by kernel_rfl) (by kernel_rfl) rfl rfl rfl rfl (a8 rfl rfl) ?_
     refine s3 2 (by kernel_rfl) (A3 [1,2,3,4,5] rfl rfl (d3 6 [0] rfl rfl rfl (n8 hc2 (by omega) (8)) rfl (RowsIn.cons rfl RowsIn.nil) rfl (fun _=>rfl) rfl (fun x5 ⟨hv5,hc5⟩=>a4 ⟨rfl,?_⟩)))
     refine s3 4 (by kernel_rfl) (A3 [1,2,3,4,5] rfl rfl (d3 6 [0] rfl rfl rfl (n8 hc5 (by omega) (12)) rfl (RowsIn.cons rfl RowsIn.nil) rfl (fun _=>rfl) rfl (fun x6 ⟨hv6,hc6⟩=>a4 ⟨rfl,?_⟩)))
     refine s3 5 (by kernel_rfl) (A3 [1,2,3,4,5] rfl rfl (g8 9 rfl rfl rfl (ArgsOK.of rfl) (L5 z.2.2 _ _ hz2.f (by omega) (by omega)) rfl rfl (a4 ⟨rfl,?_⟩)))
     refine s3 6 (by kernel_rfl) ?_
     refine G6 rfl rfl (by kernel_rfl) ?_
     refine c5 G rfl rfl rfl rfl rfl rfl rfl rfl rfl rfl rfl ?_
     refine a4 ?_
     refine Z1 (by kernel_rfl) ?_
     refine hK7 _ ?_
     clear hK7 K7
     refine a6 ?_
     refine a1 rfl ?_
     refine a3 rfl rfl (a8 rfl rfl) ?_
     refine a1 rfl ?_
     first | refine a3 rfl rfl (i8 rfl rfl rfl rfl (by omega) (by omega)) ?_ | refine a3 rfl rfl (k4 rfl rfl rfl rfl) ?_
     refine a1 rfl ?_
     refine a3 rfl rfl (a7 rfl rfl) ?_
     refine m7 (Gh.sub 6 2 (by rw [hpin];decide) rfl rfl rfl) ?_
     refine m7 (Gh.sub 7 3 (by rw [hpin];decide) rfl rfl rfl) ?_
     refine m7 (Gh.sub 8 4 (by rw [hpin];decide) rfl rfl rfl) ?_
     refine a4 ⟨(z.1+1,x6.2,Z0 z.2.2 x5.1 x6.1),?_,?_,⟨⟨_,rfl,by (first | rfl | exact congrArg (fun v=>AV.v (.int .i64 v)) (by show x1.1 - (z.1:Int) - 1=x1.1 - ((z.1+1:Nat):Int);omega))⟩,rfl,trivial⟩,⟨⟨_,rfl,by rfl⟩,rfl,rfl,⟨⟨_,rfl,by rfl⟩,rfl,rfl,⟨⟨_,rfl,by rfl⟩,rfl,rfl,⟨⟨_,rfl,by rfl⟩,rfl,rfl,⟨⟨_,rfl,by rfl⟩,rfl,rfl,trivial⟩⟩⟩⟩⟩,rfl,rfl,rfl⟩
     ·first | exact ⟨by show ((z.1+1:Nat):Int)≤x1.1;omega,a7z hz2 (by omega) (by omega),hc6.mono (by simp;omega)⟩ | exact ⟨by show ((z.1+1:Nat):Int)≤x1.1;omega,a5p hz2,hc6.mono (by simp;omega)⟩ | exact ⟨by show ((z.1+1:Nat):Int)≤x1.1;omega,a5q hz2,hc6.mono (by simp;omega)⟩ | exact ⟨by show ((z.1+1:Nat):Int)≤x1.1;omega,hz2,hc6.mono (by simp;omega)⟩
     ·(show x1.1.toNat - (z.1+1) < x1.1.toNat - z.1;omega)
    ·try rw [h3]
     try simp only [rfb] at h3
     refine a6 ?_
     refine a1 rfl ?_
     refine a3 rfl rfl (f9 rfl rfl rfl rfl) ?_
     refine a1 rfl ?_
     refine a3 rfl rfl (a7 rfl rfl) ?_
     refine a4 ?_
     refine hK9 _ ?_
     clear hK9 K9
     refine d1 rfl (fun h4=>?_) (fun h4=>?_)
     ·try rw [h4]
      try simp only [rfb] at h4
      refine J7 7 [1,2,3,4,5] [6] m5 (by kernel_rfl) rfl rfl (fun r0=>?_) (fun _ h=>h)
      refine t5 0 [5,6] rfl (by kernel_rfl) (by kernel_rfl) (by kernel_rfl) rfl rfl rfl rfl (b3 G rfl rfl rfl rfl rfl rfl) ?_
      refine t5 1 [2,4,5,6] rfl (by kernel_rfl) (by kernel_rfl) (by kernel_rfl) rfl rfl rfl rfl (a8 rfl rfl) ?_
      refine t5 3 [4,5,6] rfl (by kernel_rfl) (by kernel_rfl) (by kernel_rfl) rfl rfl rfl rfl (a8 rfl rfl) ?_
      refine s3 2 (by kernel_rfl) (A3 [1,2,3,4,5] rfl rfl (d3 6 [0] rfl rfl rfl (n8 hc2 (by omega) (8)) rfl (RowsIn.cons rfl RowsIn.nil) rfl (fun _=>rfl) rfl (fun x7 ⟨hv7,hc7⟩=>a4 ⟨rfl,?_⟩)))
      refine s3 4 (by kernel_rfl) (A3 [1,2,3,4,5] rfl rfl (d3 6 [0] rfl rfl rfl (n8 hc7 (by omega) (12)) rfl (RowsIn.cons rfl RowsIn.nil) rfl (fun _=>rfl) rfl (fun x8 ⟨hv8,hc8⟩=>a4 ⟨rfl,?_⟩)))
      refine s3 5 (by kernel_rfl) (A3 [1,2,3,4,5] rfl rfl (g8 9 rfl rfl rfl (ArgsOK.of rfl) (L5 z.2.2 _ _ hz2.f (by omega) (by omega)) rfl rfl (a4 ⟨rfl,?_⟩)))
      refine s3 6 (by kernel_rfl) ?_
      refine G6 rfl rfl (by kernel_rfl) ?_
      refine c5 G rfl rfl rfl rfl rfl rfl rfl rfl rfl rfl rfl ?_
      refine a4 ?_
      refine Z1 (by kernel_rfl) ?_
      refine hK7 _ ?_
      clear hK7 K7
      refine a6 ?_
      refine a1 rfl ?_
      refine a3 rfl rfl (a8 rfl rfl) ?_
      refine a1 rfl ?_
      first | refine a3 rfl rfl (i8 rfl rfl rfl rfl (by omega) (by omega)) ?_ | refine a3 rfl rfl (k4 rfl rfl rfl rfl) ?_
      refine a1 rfl ?_
      refine a3 rfl rfl (a7 rfl rfl) ?_
      refine m7 (Gh.sub 6 2 (by rw [hpin];decide) rfl rfl rfl) ?_
      refine m7 (Gh.sub 7 3 (by rw [hpin];decide) rfl rfl rfl) ?_
      refine m7 (Gh.sub 8 4 (by rw [hpin];decide) rfl rfl rfl) ?_
      refine a4 ⟨(z.1+1,x8.2,Z0 z.2.2 x7.1 x8.1),?_,?_,⟨⟨_,rfl,by (first | rfl | exact congrArg (fun v=>AV.v (.int .i64 v)) (by show x1.1 - (z.1:Int) - 1=x1.1 - ((z.1+1:Nat):Int);omega))⟩,rfl,trivial⟩,⟨⟨_,rfl,by rfl⟩,rfl,rfl,⟨⟨_,rfl,by rfl⟩,rfl,rfl,⟨⟨_,rfl,by rfl⟩,rfl,rfl,⟨⟨_,rfl,by rfl⟩,rfl,rfl,⟨⟨_,rfl,by rfl⟩,rfl,rfl,trivial⟩⟩⟩⟩⟩,rfl,rfl,rfl⟩
      ·first | exact ⟨by show ((z.1+1:Nat):Int)≤x1.1;omega,a7z hz2 (by omega) (by omega),hc8.mono (by simp;omega)⟩ | exact ⟨by show ((z.1+1:Nat):Int)≤x1.1;omega,a5p hz2,hc8.mono (by simp;omega)⟩ | exact ⟨by show ((z.1+1:Nat):Int)≤x1.1;omega,a5q hz2,hc8.mono (by simp;omega)⟩ | exact ⟨by show ((z.1+1:Nat):Int)≤x1.1;omega,hz2,hc8.mono (by simp;omega)⟩
      ·(show x1.1.toNat - (z.1+1) < x1.1.toNat - z.1;omega)
     ·try rw [h4]
      try simp only [rfb] at h4
      refine b4 (fun K12 hK12=>?_)
      refine b4 (fun K13 hK13=>?_)
      refine a6 ?_
      refine a1 rfl ?_
      refine a3 rfl rfl (f9 rfl rfl rfl rfl) ?_
      refine a1 rfl ?_
      refine a3 rfl rfl (a7 rfl rfl) ?_
      refine a4 ?_
      refine hK13 _ ?_
      clear hK13 K13
      refine d1 rfl (fun h5=>?_) (fun h5=>?_)
      ·try rw [h5]
       try simp only [rfb] at h5
       refine e9 ?_
       refine hK12 _ ?_
       clear hK12 K12
       refine r7 rfl ?_
       refine a6 ?_
       refine a1 rfl ?_
       refine a3 rfl rfl (b3 G rfl rfl rfl rfl rfl rfl) ?_
       refine a1 rfl ?_
       refine g8 9 rfl rfl rfl (ArgsOK.of rfl) (V9 z.2.2 hz2.f) rfl rfl ?_
       refine a1 rfl ?_
       refine a3 rfl rfl (a8 rfl rfl) ?_
       refine a1 rfl ?_
       refine a3 rfl rfl (c9 rfl rfl rfl) ?_
       refine a1 rfl ?_
       refine a3 rfl rfl (c9 rfl rfl rfl) ?_
       refine a1 rfl ?_
       refine c5 G rfl rfl rfl rfl rfl rfl rfl rfl rfl rfl rfl ?_
       refine a4 ?_
       refine hK7 _ ?_
       clear hK7 K7
       refine a6 ?_
       refine a1 rfl ?_
       refine a3 rfl rfl (a8 rfl rfl) ?_
       refine a1 rfl ?_
       first | refine a3 rfl rfl (i8 rfl rfl rfl rfl (by omega) (by omega)) ?_ | refine a3 rfl rfl (k4 rfl rfl rfl rfl) ?_
       refine a1 rfl ?_
       refine a3 rfl rfl (a7 rfl rfl) ?_
       refine m7 (Gh.sub 6 2 (by rw [hpin];decide) rfl rfl rfl) ?_
       refine m7 (Gh.sub 7 3 (by rw [hpin];decide) rfl rfl rfl) ?_
       refine m7 (Gh.sub 8 4 (by rw [hpin];decide) rfl rfl rfl) ?_
       refine a4 ⟨(z.1+1,x2.2,(tkX z.2.2).1),?_,?_,⟨⟨_,rfl,by (first | rfl | exact congrArg (fun v=>AV.v (.int .i64 v)) (by show x1.1 - (z.1:Int) - 1=x1.1 - ((z.1+1:Nat):Int);omega))⟩,rfl,trivial⟩,⟨⟨_,rfl,by rfl⟩,rfl,rfl,⟨⟨_,rfl,by rfl⟩,rfl,rfl,⟨⟨_,rfl,by rfl⟩,rfl,rfl,⟨⟨_,rfl,by rfl⟩,rfl,rfl,⟨⟨_,rfl,by rfl⟩,rfl,rfl,trivial⟩⟩⟩⟩⟩,rfl,rfl,rfl⟩
       ·first | exact ⟨by show ((z.1+1:Nat):Int)≤x1.1;omega,a7z hz2 (by omega) (by omega),hc2.mono (by simp;omega)⟩ | exact ⟨by show ((z.1+1:Nat):Int)≤x1.1;omega,a5p hz2,hc2.mono (by simp;omega)⟩ | exact ⟨by show ((z.1+1:Nat):Int)≤x1.1;omega,a5q hz2,hc2.mono (by simp;omega)⟩ | exact ⟨by show ((z.1+1:Nat):Int)≤x1.1;omega,hz2,hc2.mono (by simp;omega)⟩
       ·(show x1.1.toNat - (z.1+1) < x1.1.toNat - z.1;omega)
      ·try rw [h5]
       try simp only [rfb] at h5
       refine a6 ?_
       refine a1 rfl ?_
       refine a3 rfl rfl (f9 rfl rfl rfl rfl) ?_
       refine a1 rfl ?_
       refine a3 rfl rfl (a7 rfl rfl) ?_
       refine a4 ?_
       refine hK12 _ ?_
       clear hK12 K12
       refine d1 rfl (fun h6=>?_) (fun h6=>?_)
       ·try rw [h6]
        try simp only [rfb] at h6
        refine a6 ?_
        refine a1 rfl ?_
        refine a3 rfl rfl (b3 G rfl rfl rfl rfl rfl rfl) ?_
        refine a1 rfl ?_
        refine g8 9 rfl rfl rfl (ArgsOK.of rfl) (V9 z.2.2 hz2.f) rfl rfl ?_
        refine a1 rfl ?_
        refine a3 rfl rfl (a8 rfl rfl) ?_
        refine a1 rfl ?_
        refine a3 rfl rfl (c9 rfl rfl rfl) ?_
        refine a1 rfl ?_
        refine a3 rfl rfl (c9 rfl rfl rfl) ?_
        refine a1 rfl ?_
        refine c5 G rfl rfl rfl rfl rfl rfl rfl rfl rfl rfl rfl ?_
        refine a4 ?_
        refine hK7 _ ?_
        clear hK7 K7
        refine a6 ?_
        refine a1 rfl ?_
        refine a3 rfl rfl (a8 rfl rfl) ?_
        refine a1 rfl ?_
        first | refine a3 rfl rfl (i8 rfl rfl rfl rfl (by omega) (by omega)) ?_ | refine a3 rfl rfl (k4 rfl rfl rfl rfl) ?_
        refine a1 rfl ?_
        refine a3 rfl rfl (a7 rfl rfl) ?_
        refine m7 (Gh.sub 6 2 (by rw [hpin];decide) rfl rfl rfl) ?_
        refine m7 (Gh.sub 7 3 (by rw [hpin];decide) rfl rfl rfl) ?_
        refine m7 (Gh.sub 8 4 (by rw [hpin];decide) rfl rfl rfl) ?_
        refine a4 ⟨(z.1+1,x2.2,(tkX z.2.2).1),?_,?_,⟨⟨_,rfl,by (first | rfl | exact congrArg (fun v=>AV.v (.int .i64 v)) (by show x1.1 - (z.1:Int) - 1=x1.1 - ((z.1+1:Nat):Int);omega))⟩,rfl,trivial⟩,⟨⟨_,rfl,by rfl⟩,rfl,rfl,⟨⟨_,rfl,by rfl⟩,rfl,rfl,⟨⟨_,rfl,by rfl⟩,rfl,rfl,⟨⟨_,rfl,by rfl⟩,rfl,rfl,⟨⟨_,rfl,by rfl⟩,rfl,rfl,trivial⟩⟩⟩⟩⟩,rfl,rfl,rfl⟩
        ·first | exact ⟨by show ((z.1+1:Nat):Int)≤x1.1;omega,a7z hz2 (by omega) (by omega),hc2.mono (by simp;omega)⟩ | exact ⟨by show ((z.1+1:Nat):Int)≤x1.1;omega,a5p hz2,hc2.mono (by simp;omega)⟩ | exact ⟨by show ((z.1+1:Nat):Int)≤x1.1;omega,a5q hz2,hc2.mono (by simp;omega)⟩ | exact ⟨by show ((z.1+1:Nat):Int)≤x1.1;omega,hz2,hc2.mono (by simp;omega)⟩
        ·(show x1.1.toNat - (z.1+1) < x1.1.toNat - z.1;omega)
       ·try rw [h6]
        try simp only [rfb] at h6
        refine b4 (fun K14 hK14=>?_)
        refine a6 ?_
        refine a1 rfl ?_
        refine a3 rfl rfl (f9 rfl rfl rfl rfl) ?_
        refine a1 rfl ?_
        refine a3 rfl rfl (a7 rfl rfl) ?_
        refine a4 ?_
        refine hK14 _ ?_
        clear hK14 K14
        refine d1 rfl (fun h7=>?_) (fun h7=>?_)
        ·try rw [h7]
         try simp only [rfb] at h7
         refine a6 ?_
         refine a1 rfl ?_
         refine a3 rfl rfl (b3 G rfl rfl rfl rfl rfl rfl) ?_
         refine a1 rfl ?_
         refine a0d 9 [2,3,4] rfl rfl rfl (a3o z.2.2 hz2) rfl (RowsIn.cons rfl (RowsIn.cons rfl (RowsIn.cons rfl RowsIn.nil))) rfl rfl rfl ?_
         refine a1 rfl ?_
         refine a3 rfl rfl (a8 rfl rfl) ?_
         refine a1 rfl ?_
         refine a3 rfl rfl (c9 rfl rfl rfl) ?_
         refine a1 rfl ?_
         refine a3 rfl rfl (c9 rfl rfl rfl) ?_
         refine a1 rfl ?_
         refine c5 G rfl rfl rfl rfl rfl rfl rfl rfl rfl rfl rfl ?_
         refine a4 ?_
         refine hK7 _ ?_
         clear hK7 K7
         refine a6 ?_
         refine a1 rfl ?_
         refine a3 rfl rfl (a8 rfl rfl) ?_
         refine a1 rfl ?_
         first | refine a3 rfl rfl (i8 rfl rfl rfl rfl (by omega) (by omega)) ?_ | refine a3 rfl rfl (k4 rfl rfl rfl rfl) ?_
         refine a1 rfl ?_
         refine a3 rfl rfl (a7 rfl rfl) ?_
         refine m7 (Gh.sub 6 2 (by rw [hpin];decide) rfl rfl rfl) ?_
         refine m7 (Gh.sub 7 3 (by rw [hpin];decide) rfl rfl rfl) ?_
         refine m7 (Gh.sub 8 4 (by rw [hpin];decide) rfl rfl rfl) ?_
         refine a4 ⟨(z.1+1,x2.2,(lvX z.2.2).1),?_,?_,⟨⟨_,rfl,by (first | rfl | exact congrArg (fun v=>AV.v (.int .i64 v)) (by show x1.1 - (z.1:Int) - 1=x1.1 - ((z.1+1:Nat):Int);omega))⟩,rfl,trivial⟩,⟨⟨_,rfl,by rfl⟩,rfl,rfl,⟨⟨_,rfl,by rfl⟩,rfl,rfl,⟨⟨_,rfl,by rfl⟩,rfl,rfl,⟨⟨_,rfl,by rfl⟩,rfl,rfl,⟨⟨_,rfl,by rfl⟩,rfl,rfl,trivial⟩⟩⟩⟩⟩,rfl,rfl,rfl⟩
         ·first | exact ⟨by show ((z.1+1:Nat):Int)≤x1.1;omega,a7z hz2 (by omega) (by omega),hc2.mono (by simp;omega)⟩ | exact ⟨by show ((z.1+1:Nat):Int)≤x1.1;omega,a5p hz2,hc2.mono (by simp;omega)⟩ | exact ⟨by show ((z.1+1:Nat):Int)≤x1.1;omega,a5q hz2,hc2.mono (by simp;omega)⟩ | exact ⟨by show ((z.1+1:Nat):Int)≤x1.1;omega,hz2,hc2.mono (by simp;omega)⟩
         ·(show x1.1.toNat - (z.1+1) < x1.1.toNat - z.1;omega)
        ·try rw [h7]
         try simp only [rfb] at h7
         refine e9 ?_
         refine hK7 _ ?_
         clear hK7 K7
         refine a6 ?_
         refine a1 rfl ?_
         refine a3 rfl rfl (a8 rfl rfl) ?_
         refine a1 rfl ?_
         first | refine a3 rfl rfl (i8 rfl rfl rfl rfl (by omega) (by omega)) ?_ | refine a3 rfl rfl (k4 rfl rfl rfl rfl) ?_
         refine a1 rfl ?_
         refine a3 rfl rfl (a7 rfl rfl) ?_
         refine a4 ⟨(z.1+1,x2.2,z.2.2),?_,?_,⟨⟨_,rfl,by (first | rfl | exact congrArg (fun v=>AV.v (.int .i64 v)) (by show x1.1 - (z.1:Int) - 1=x1.1 - ((z.1+1:Nat):Int);omega))⟩,rfl,trivial⟩,⟨⟨_,rfl,by rfl⟩,rfl,rfl,⟨⟨_,rfl,by rfl⟩,rfl,rfl,⟨⟨_,rfl,by rfl⟩,rfl,rfl,⟨⟨_,rfl,by rfl⟩,rfl,rfl,⟨⟨_,rfl,by rfl⟩,rfl,rfl,trivial⟩⟩⟩⟩⟩,rfl,rfl,rfl⟩
         ·first | exact ⟨by show ((z.1+1:Nat):Int)≤x1.1;omega,a7z hz2 (by omega) (by omega),hc2.mono (by simp;omega)⟩ | exact ⟨by show ((z.1+1:Nat):Int)≤x1.1;omega,a5p hz2,hc2.mono (by simp;omega)⟩ | exact ⟨by show ((z.1+1:Nat):Int)≤x1.1;omega,a5q hz2,hc2.mono (by simp;omega)⟩ | exact ⟨by show ((z.1+1:Nat):Int)≤x1.1;omega,hz2,hc2.mono (by simp;omega)⟩
         ·(show x1.1.toNat - (z.1+1) < x1.1.toNat - z.1;omega)
  ·try rw [h1]
   try simp only [rfb] at h1
   refine B0 ?_
   refine hK3 _ ?_
   clear hK5 K5 hK3 K3
   refine b4 (fun K15 hK15=>?_)
   refine b4 (fun K16 hK16=>?_)
   refine a6 ?_
   refine a1 rfl ?_
   refine a3 rfl rfl (a8 rfl rfl) ?_
   refine a1 rfl ?_
   refine d3 6 [0] rfl rfl rfl (a5v hz (by omega) (3)) rfl (RowsIn.cons rfl RowsIn.nil) rfl (fun _=>rfl) rfl (fun x9 ⟨hv9,hc9⟩=>?_)
   refine a4 ?_
   refine hK16 _ ?_
   clear hK16 K16
   refine d1 rfl (fun h8=>?_) (fun h8=>?_)
   ·try rw [h8]
    try simp only [rfb] at h8
    refine a6 ?_
    refine a1 rfl ?_
    refine a3 rfl rfl (a8 rfl rfl) ?_
    refine a1 rfl ?_
    refine k6 G 7 rfl rfl rfl rfl rfl rfl rfl rfl ?_
    refine a1 rfl ?_
    refine d3 7 [0,6] rfl rfl rfl (y8 hc9 (by omega) [0,4,8,15] (0) (15) (by decide) (by decide)) rfl (RowsIn.cons rfl (RowsIn.cons rfl RowsIn.nil)) rfl (fun _=>rfl) rfl (fun x10 ⟨hv10,hc10⟩=>?_)
    refine a1 rfl ?_
    refine a3 rfl rfl (b7 G rfl rfl rfl rfl) ?_
    refine a1 rfl ?_
    refine c5 G rfl rfl rfl rfl rfl rfl rfl rfl rfl rfl rfl ?_
    refine a4 ?_
    refine hK15 _ ?_
    clear hK15 K15
    refine b4 (fun K17 hK17=>?_)
    refine b4 (fun K18 hK18=>?_)
    refine a6 ?_
    refine a1 rfl ?_
    refine a3 rfl rfl (a8 rfl rfl) ?_
    refine a1 rfl ?_
    refine d3 7 [0] rfl rfl rfl (n8 hc10 (by omega) (24)) rfl (RowsIn.cons rfl RowsIn.nil) rfl (fun _=>rfl) rfl (fun x11 ⟨hv11,hc11⟩=>?_)
    refine a4 ?_
    refine hK18 _ ?_
    clear hK18 K18
    refine l8 ?_
    refine b4 (fun K19 hK19=>?_)
    refine a6 ?_
    refine a1 rfl ?_
    refine a3 rfl rfl (f9 rfl rfl rfl rfl) ?_
    refine a1 rfl ?_
    refine a3 rfl rfl (a7 rfl rfl) ?_
    refine a4 ?_
    refine hK19 _ ?_
    clear hK19 K19
    refine d1 rfl (fun h9=>?_) (fun h9=>?_)
    ·try rw [h9]
     try simp only [rfb] at h9
     refine a6 ?_
     refine a1 rfl ?_
     refine a3 rfl rfl (a8 rfl rfl) ?_
     refine a1 rfl ?_
     refine k6 G 8 rfl rfl rfl rfl rfl rfl rfl rfl ?_
     refine a1 rfl ?_
     refine d3 8 [0,7] rfl rfl rfl (y8 hc11 (by omega) [-1,17] (-1) (17) (by decide) (by decide)) rfl (RowsIn.cons rfl (RowsIn.cons rfl RowsIn.nil)) rfl (fun _=>rfl) rfl (fun x12 ⟨hv12,hc12⟩=>?_)
     refine a1 rfl ?_
     refine a3 rfl rfl (b7 G rfl rfl rfl rfl) ?_
     refine a1 rfl ?_
     refine c5 G rfl rfl rfl rfl rfl rfl rfl rfl rfl rfl rfl ?_
     refine a4 ?_
     refine hK17 _ ?_
     clear hK17 K17
     refine b4 (fun K20 hK20=>?_)
     refine a6 ?_
     refine a1 rfl ?_
     refine a3 rfl rfl (b3 G rfl rfl rfl rfl rfl rfl) ?_
     refine a1 rfl ?_
     refine c5 G rfl rfl rfl rfl rfl rfl rfl rfl rfl rfl rfl ?_
     refine a4 ?_
     refine hK20 _ ?_
     clear hK20 K20
     refine c8 (v7 ((⟨x12.1,z.2.2.st,z.2.2.qu⟩,x12.2)) (q9 rfl rfl rfl rfl (a5 (g9 ?_) (a5 (b8 rfl ?_) (a5 (b8 rfl ?_) (a5 (b8 rfl ?_) d4)))) rfl (AftOK.stays rfl ?_ rfl AftOK.nil)) (⟨?_,?_⟩))
     all_goals (first | rfl | exact hc12.mono (by omega) | (dsimp only;rw [List.map_set];rfl) | (rw [List.map_append];rfl) | (refine ⟨?_,?_,?_⟩<;>(show List.length _≤_;(try simp only [List.length_set,List.length_append,List.length_cons,List.length_nil]);omega)))
    ·try rw [h9]
     try simp only [rfb] at h9
     refine b4 (fun K21 hK21=>?_)
     refine a6 ?_
     refine a1 rfl ?_
     refine a3 rfl rfl (f9 rfl rfl rfl rfl) ?_
     refine a1 rfl ?_
     refine a3 rfl rfl (a7 rfl rfl) ?_
     refine a4 ?_
     refine hK21 _ ?_
     clear hK21 K21
     refine d1 rfl (fun h10=>?_) (fun h10=>?_)
     ·try rw [h10]
      try simp only [rfb] at h10
      refine J7 8 [1,2,3,4,5,6] [5,7] m5 (by kernel_rfl) rfl rfl (fun r0=>?_) (fun _ h=>h)
      refine t5 0 [1,5,6,7] rfl (by kernel_rfl) (by kernel_rfl) (by kernel_rfl) rfl rfl rfl rfl (b7 G rfl rfl rfl rfl) ?_
      refine t5 1 [5,6,7] rfl (by kernel_rfl) (by kernel_rfl) (by kernel_rfl) rfl rfl rfl rfl (c4 G rfl rfl rfl rfl rfl rfl rfl) ?_
      refine t5 2 [3,4,5,6,7] rfl (by kernel_rfl) (by kernel_rfl) (by kernel_rfl) rfl rfl rfl rfl (a8 rfl rfl) ?_
      refine s3 3 (by kernel_rfl) (A3 [1,2,3,4,5,6] rfl rfl (d3 7 [0] rfl rfl rfl (n8 hc11 (by omega) (8)) rfl (RowsIn.cons rfl RowsIn.nil) rfl (fun _=>rfl) rfl (fun x13 ⟨hv13,hc13⟩=>a4 ⟨rfl,?_⟩)))
      refine s3 4 (by kernel_rfl) (A3 [1,2,3,4,5,6] rfl rfl (k6 G 8 rfl rfl rfl rfl rfl rfl rfl rfl (a4 ⟨rfl,?_⟩)))
      refine s3 5 (by kernel_rfl) (G6 rfl rfl (by kernel_rfl) (s4 (Gh.forget (id:=5) (k:=1) rfl rfl)<|s4 (Gh.keep [0,1,2,3,4,5,6,7] rfl)<|y5 (tx:=64) 9 rfl rfl rfl rfl rfl<|f7 G (by exact Nat.le_of_ble_eq_true rfl) rfl rfl rfl rfl rfl rfl rfl rfl rfl (by first | (simp only [List.length_map,List.length_cons,List.length_nil];omega) | (simp;omega)) rfl rfl (a4 ?_)))
      refine s3 6 (by kernel_rfl) ?_
      refine G6 rfl rfl (by kernel_rfl) ?_
      refine a3 rfl rfl (b7 G rfl rfl rfl rfl) ?_
      refine a4 ?_
      refine s3 7 (by kernel_rfl) ?_
      refine G6 rfl rfl (by kernel_rfl) ?_
      refine c5 G rfl rfl rfl rfl rfl rfl rfl rfl rfl rfl rfl ?_
      refine a4 ?_
      refine Z1 (by kernel_rfl) ?_
      refine hK17 _ ?_
      clear hK17 K17
      refine b4 (fun K22 hK22=>?_)
      refine a6 ?_
      refine a1 rfl ?_
      refine a3 rfl rfl (b3 G rfl rfl rfl rfl rfl rfl) ?_
      refine a1 rfl ?_
      refine c5 G rfl rfl rfl rfl rfl rfl rfl rfl rfl rfl rfl ?_
      refine a4 ?_
      refine hK22 _ ?_
      clear hK22 K22
      refine c8 (v7 ((⟨x10.1,z.2.2.st++[x13.1],z.2.2.qu⟩,x13.2)) (q9 rfl rfl rfl rfl (a5 (g9 ?_) (a5 (b8 rfl ?_) (a5 (b8 rfl ?_) (a5 (b8 rfl ?_) d4)))) rfl (AftOK.stays rfl ?_ rfl AftOK.nil)) (⟨?_,?_⟩))
      all_goals (first | rfl | exact hc13.mono (by omega) | (dsimp only;rw [List.map_set];rfl) | (rw [List.map_append];rfl) | (refine ⟨?_,?_,?_⟩<;>(show List.length _≤_;(try simp only [List.length_set,List.length_append,List.length_cons,List.length_nil]);omega)))
     ·try rw [h10]
      try simp only [rfb] at h10
      refine b4 (fun K23 hK23=>?_)
      refine a6 ?_
      refine a1 rfl ?_
      refine a3 rfl rfl (f9 rfl rfl rfl rfl) ?_
      refine a1 rfl ?_
      refine a3 rfl rfl (a7 rfl rfl) ?_
      refine a4 ?_
      refine hK23 _ ?_
      clear hK23 K23
      refine d1 rfl (fun h11=>?_) (fun h11=>?_)
      ·try rw [h11]
       try simp only [rfb] at h11
       refine a6 ?_
       refine a1 rfl ?_
       refine a3 rfl rfl (a8 rfl rfl) ?_
       refine a1 rfl ?_
       refine d3 9 [0] rfl rfl rfl (W0 hc11 (by omega)) rfl (RowsIn.cons rfl RowsIn.nil) rfl (fun _=>rfl) rfl (fun x14 ⟨hv14,hc14⟩=>?_)
       refine a1 rfl ?_
       refine a3 rfl rfl (b7 G rfl rfl rfl rfl) ?_
       refine a1 rfl ?_
       refine c5 G rfl rfl rfl rfl rfl rfl rfl rfl rfl rfl rfl ?_
       refine a4 ?_
       refine hK17 _ ?_
       clear hK17 K17
       refine b4 (fun K24 hK24=>?_)
       refine a6 ?_
       refine a1 rfl ?_
       refine a3 rfl rfl (b3 G rfl rfl rfl rfl rfl rfl) ?_
       refine a1 rfl ?_
       refine c5 G rfl rfl rfl rfl rfl rfl rfl rfl rfl rfl rfl ?_
       refine a4 ?_
       refine hK24 _ ?_
       clear hK24 K24
       refine c8 (v7 ((⟨x10.1,z.2.2.st,x14.1⟩,x14.2)) (q9 rfl rfl rfl rfl (a5 (g9 ?_) (a5 (b8 rfl ?_) (a5 (b8 rfl ?_) (a5 (b8 rfl ?_) d4)))) rfl (AftOK.stays rfl ?_ rfl AftOK.nil)) (⟨?_,?_⟩))
       all_goals (first | rfl | exact hc14.mono (by omega) | (dsimp only;rw [List.map_set];rfl) | (rw [List.map_append];rfl) | (refine ⟨?_,?_,?_⟩<;>(show List.length _≤_;(try simp only [List.length_set,List.length_append,List.length_cons,List.length_nil]);omega)))
      ·try rw [h11]
       try simp only [rfb] at h11
       refine e9 ?_
       refine hK17 _ ?_
       clear hK17 K17
       refine b4 (fun K25 hK25=>?_)
       refine a6 ?_
       refine a1 rfl ?_
       refine a3 rfl rfl (b3 G rfl rfl rfl rfl rfl rfl) ?_
       refine a1 rfl ?_
       refine c5 G rfl rfl rfl rfl rfl rfl rfl rfl rfl rfl rfl ?_
       refine a4 ?_
       refine hK25 _ ?_
       clear hK25 K25
       refine c8 (v7 ((⟨x10.1,z.2.2.st,z.2.2.qu⟩,x11.2)) (q9 rfl rfl rfl rfl (a5 (g9 ?_) (a5 (b8 rfl ?_) (a5 (b8 rfl ?_) (a5 (b8 rfl ?_) d4)))) rfl (AftOK.stays rfl ?_ rfl AftOK.nil)) (⟨?_,?_⟩))
       all_goals (first | rfl | exact hc11.mono (by omega) | (dsimp only;rw [List.map_set];rfl) | (rw [List.map_append];rfl) | (refine ⟨?_,?_,?_⟩<;>(show List.length _≤_;(try simp only [List.length_set,List.length_append,List.length_cons,List.length_nil]);omega)))
   ·try rw [h8]
    try simp only [rfb] at h8
    refine e9 ?_
    refine hK15 _ ?_
    clear hK15 K15
    refine b4 (fun K26 hK26=>?_)
    refine b4 (fun K27 hK27=>?_)
    refine a6 ?_
    refine a1 rfl ?_
    refine a3 rfl rfl (a8 rfl rfl) ?_
    refine a1 rfl ?_
    refine d3 6 [0] rfl rfl rfl (n8 hc9 (by omega) (24)) rfl (RowsIn.cons rfl RowsIn.nil) rfl (fun _=>rfl) rfl (fun x15 ⟨hv15,hc15⟩=>?_)
    refine a4 ?_
    refine hK27 _ ?_
    clear hK27 K27
    refine l8 ?_
    refine b4 (fun K28 hK28=>?_)
    refine a6 ?_
    refine a1 rfl ?_
    refine a3 rfl rfl (f9 rfl rfl rfl rfl) ?_
    refine a1 rfl ?_
    refine a3 rfl rfl (a7 rfl rfl) ?_
    refine a4 ?_
    refine hK28 _ ?_
    clear hK28 K28
    refine d1 rfl (fun h12=>?_) (fun h12=>?_)
    ·try rw [h12]
     try simp only [rfb] at h12
     refine a6 ?_
     refine a1 rfl ?_
     refine a3 rfl rfl (a8 rfl rfl) ?_
     refine a1 rfl ?_
     refine k6 G 7 rfl rfl rfl rfl rfl rfl rfl rfl ?_
     refine a1 rfl ?_
     refine d3 7 [0,6] rfl rfl rfl (y8 hc15 (by omega) [-1,17] (-1) (17) (by decide) (by decide)) rfl (RowsIn.cons rfl (RowsIn.cons rfl RowsIn.nil)) rfl (fun _=>rfl) rfl (fun x16 ⟨hv16,hc16⟩=>?_)
     refine a1 rfl ?_
     refine a3 rfl rfl (b7 G rfl rfl rfl rfl) ?_
     refine a1 rfl ?_
     refine c5 G rfl rfl rfl rfl rfl rfl rfl rfl rfl rfl rfl ?_
     refine a4 ?_
     refine hK26 _ ?_
     clear hK26 K26
     refine b4 (fun K29 hK29=>?_)
     refine a6 ?_
     refine a1 rfl ?_
     refine a3 rfl rfl (b3 G rfl rfl rfl rfl rfl rfl) ?_
     refine a1 rfl ?_
     refine c5 G rfl rfl rfl rfl rfl rfl rfl rfl rfl rfl rfl ?_
     refine a4 ?_
     refine hK29 _ ?_
     clear hK29 K29
     refine c8 (v7 ((⟨x16.1,z.2.2.st,z.2.2.qu⟩,x16.2)) (q9 rfl rfl rfl rfl (a5 (g9 ?_) (a5 (b8 rfl ?_) (a5 (b8 rfl ?_) (a5 (b8 rfl ?_) d4)))) rfl (AftOK.stays rfl ?_ rfl AftOK.nil)) (⟨?_,?_⟩))
     all_goals (first | rfl | exact hc16.mono (by omega) | (dsimp only;rw [List.map_set];rfl) | (rw [List.map_append];rfl) | (refine ⟨?_,?_,?_⟩<;>(show List.length _≤_;(try simp only [List.length_set,List.length_append,List.length_cons,List.length_nil]);omega)))
    ·try rw [h12]
     try simp only [rfb] at h12
     refine b4 (fun K30 hK30=>?_)
     refine a6 ?_
     refine a1 rfl ?_
     refine a3 rfl rfl (f9 rfl rfl rfl rfl) ?_
     refine a1 rfl ?_
     refine a3 rfl rfl (a7 rfl rfl) ?_
     refine a4 ?_
     refine hK30 _ ?_
     clear hK30 K30
     refine d1 rfl (fun h13=>?_) (fun h13=>?_)
     ·try rw [h13]
      try simp only [rfb] at h13
      refine J7 8 [1,2,3,4,5] [5,7] m5 (by kernel_rfl) rfl rfl (fun r0=>?_) (fun _ h=>h)
      refine t5 0 [1,5,6,7] rfl (by kernel_rfl) (by kernel_rfl) (by kernel_rfl) rfl rfl rfl rfl (b7 G rfl rfl rfl rfl) ?_
      refine t5 1 [5,6,7] rfl (by kernel_rfl) (by kernel_rfl) (by kernel_rfl) rfl rfl rfl rfl (c4 G rfl rfl rfl rfl rfl rfl rfl) ?_
      refine t5 2 [3,4,5,6,7] rfl (by kernel_rfl) (by kernel_rfl) (by kernel_rfl) rfl rfl rfl rfl (a8 rfl rfl) ?_
      refine s3 3 (by kernel_rfl) (A3 [1,2,3,4,5] rfl rfl (d3 6 [0] rfl rfl rfl (n8 hc15 (by omega) (8)) rfl (RowsIn.cons rfl RowsIn.nil) rfl (fun _=>rfl) rfl (fun x17 ⟨hv17,hc17⟩=>a4 ⟨rfl,?_⟩)))
      refine s3 4 (by kernel_rfl) (A3 [1,2,3,4,5] rfl rfl (k6 G 7 rfl rfl rfl rfl rfl rfl rfl rfl (a4 ⟨rfl,?_⟩)))
      refine s3 5 (by kernel_rfl) (G6 rfl rfl (by kernel_rfl) (s4 (Gh.forget (id:=5) (k:=1) rfl rfl)<|s4 (Gh.keep [0,1,2,3,4,5,6] rfl)<|y5 (tx:=64) 8 rfl rfl rfl rfl rfl<|f7 G (by exact Nat.le_of_ble_eq_true rfl) rfl rfl rfl rfl rfl rfl rfl rfl rfl (by first | (simp only [List.length_map,List.length_cons,List.length_nil];omega) | (simp;omega)) rfl rfl (a4 ?_)))
      refine s3 6 (by kernel_rfl) ?_
      refine G6 rfl rfl (by kernel_rfl) ?_
      refine a3 rfl rfl (b7 G rfl rfl rfl rfl) ?_
      refine a4 ?_
      refine s3 7 (by kernel_rfl) ?_
      refine G6 rfl rfl (by kernel_rfl) ?_
      refine c5 G rfl rfl rfl rfl rfl rfl rfl rfl rfl rfl rfl ?_
      refine a4 ?_
      refine Z1 (by kernel_rfl) ?_
      refine hK26 _ ?_
      clear hK26 K26
      refine b4 (fun K31 hK31=>?_)
      refine a6 ?_
      refine a1 rfl ?_
      refine a3 rfl rfl (b3 G rfl rfl rfl rfl rfl rfl) ?_
      refine a1 rfl ?_
      refine c5 G rfl rfl rfl rfl rfl rfl rfl rfl rfl rfl rfl ?_
      refine a4 ?_
      refine hK31 _ ?_
      clear hK31 K31
      refine c8 (v7 ((⟨z.2.2.ma,z.2.2.st++[x17.1],z.2.2.qu⟩,x17.2)) (q9 rfl rfl rfl rfl (a5 (g9 ?_) (a5 (b8 rfl ?_) (a5 (b8 rfl ?_) (a5 (b8 rfl ?_) d4)))) rfl (AftOK.stays rfl ?_ rfl AftOK.nil)) (⟨?_,?_⟩))
      all_goals (first | rfl | exact hc17.mono (by omega) | (dsimp only;rw [List.map_set];rfl) | (rw [List.map_append];rfl) | (refine ⟨?_,?_,?_⟩<;>(show List.length _≤_;(try simp only [List.length_set,List.length_append,List.length_cons,List.length_nil]);omega)))
     ·try rw [h13]
      try simp only [rfb] at h13
      refine b4 (fun K32 hK32=>?_)
      refine a6 ?_
      refine a1 rfl ?_
      refine a3 rfl rfl (f9 rfl rfl rfl rfl) ?_
      refine a1 rfl ?_
      refine a3 rfl rfl (a7 rfl rfl) ?_
      refine a4 ?_
      refine hK32 _ ?_
      clear hK32 K32
      refine d1 rfl (fun h14=>?_) (fun h14=>?_)
      ·try rw [h14]
       try simp only [rfb] at h14
       refine a6 ?_
       refine a1 rfl ?_
       refine a3 rfl rfl (a8 rfl rfl) ?_
       refine a1 rfl ?_
       refine d3 8 [0] rfl rfl rfl (W0 hc15 (by omega)) rfl (RowsIn.cons rfl RowsIn.nil) rfl (fun _=>rfl) rfl (fun x18 ⟨hv18,hc18⟩=>?_)
       refine a1 rfl ?_
       refine a3 rfl rfl (b7 G rfl rfl rfl rfl) ?_
       refine a1 rfl ?_
       refine c5 G rfl rfl rfl rfl rfl rfl rfl rfl rfl rfl rfl ?_
       refine a4 ?_
       refine hK26 _ ?_
       clear hK26 K26
       refine b4 (fun K33 hK33=>?_)
       refine a6 ?_
       refine a1 rfl ?_
       refine a3 rfl rfl (b3 G rfl rfl rfl rfl rfl rfl) ?_
       refine a1 rfl ?_
       refine c5 G rfl rfl rfl rfl rfl rfl rfl rfl rfl rfl rfl ?_
       refine a4 ?_
       refine hK33 _ ?_
       clear hK33 K33
       refine c8 (v7 ((⟨z.2.2.ma,z.2.2.st,x18.1⟩,x18.2)) (q9 rfl rfl rfl rfl (a5 (g9 ?_) (a5 (b8 rfl ?_) (a5 (b8 rfl ?_) (a5 (b8 rfl ?_) d4)))) rfl (AftOK.stays rfl ?_ rfl AftOK.nil)) (⟨?_,?_⟩))
       all_goals (first | rfl | exact hc18.mono (by omega) | (dsimp only;rw [List.map_set];rfl) | (rw [List.map_append];rfl) | (refine ⟨?_,?_,?_⟩<;>(show List.length _≤_;(try simp only [List.length_set,List.length_append,List.length_cons,List.length_nil]);omega)))
      ·try rw [h14]
       try simp only [rfb] at h14
       refine e9 ?_
       refine hK26 _ ?_
       clear hK26 K26
       refine b4 (fun K34 hK34=>?_)
       refine a6 ?_
       refine a1 rfl ?_
       refine a3 rfl rfl (b3 G rfl rfl rfl rfl rfl rfl) ?_
       refine a1 rfl ?_
       refine c5 G rfl rfl rfl rfl rfl rfl rfl rfl rfl rfl rfl ?_
       refine a4 ?_
       refine hK34 _ ?_
       clear hK34 K34
       refine c8 (v7 ((⟨z.2.2.ma,z.2.2.st,z.2.2.qu⟩,x15.2)) (q9 rfl rfl rfl rfl (a5 (g9 ?_) (a5 (b8 rfl ?_) (a5 (b8 rfl ?_) (a5 (b8 rfl ?_) d4)))) rfl (AftOK.stays rfl ?_ rfl AftOK.nil)) (⟨?_,?_⟩))
       all_goals (first | rfl | exact hc15.mono (by omega) | (dsimp only;rw [List.map_set];rfl) | (rw [List.map_append];rfl) | (refine ⟨?_,?_,?_⟩<;>(show List.length _≤_;(try simp only [List.length_set,List.length_append,List.length_cons,List.length_nil]);omega)))
end Go.Proofs.YtcnodpipinlpcaaGreat
set_option maxRecDepth 20000
namespace Go.Proofs.YtcnodpipinlpcaaGreat
open Go Go.Rf
theorem a05 {x:Cur} {n:Int} (h:okC n x) (hn:n≤880000000000) (m:Mach) (hm:m.cp.length≤1048576):CtrX (α:=MStep×Cur) Tryz.prog 52 [.ptr 0 0,.agg [.own 1,.own 2,.own 3,.own 4]] [.box [.lst 1 (x.c.map C5),.v (.int .i64 x.a),.v (.int .u64 x.s)],.row 118 2 (m.rs.map u7),.row 4 1 (m.en.map l0),.row 4 1 (m.ra.map l0),.nest 113 4 (m.cp.map (H7 154 183)) []] (fun y=>True∧okC (n+20) y.2) (fun y=>.one (.v (a0g y.1))) (fun y=>[some (.box [.lst 1 (y.2.c.map C5),.v (.int .i64 y.2.a),.v (.int .u64 y.2.s)]),some (.row 118 2 (m.rs.map u7)),some (.row 4 1 (m.en.map l0)),some (.row 4 1 (m.ra.map l0)),some (.nest 113 4 (m.cp.map (H7 154 183)) [])]):=by
 refine CtrX.of (n:=66) (k:=5) G Tryz.func52 rfl (by kernel_rfl) rfl rfl rfl rfl (fun _=>rfl) rfl rfl (fun w0 _ hpin=>?_)
 refine b4 (fun K1 hK1=>?_)
 refine a6 ?_
 refine a1 rfl ?_
 refine y4 6 rfl rfl rfl rfl rfl rfl rfl ?_
 refine a1 rfl ?_
 refine d7 G 7 rfl rfl rfl rfl rfl ?_
 refine a4 ?_
 refine hK1 _ ?_
 clear hK1 K1
 refine b4 (fun K2 hK2=>?_)
 refine a6 ?_
 refine a1 rfl ?_
 refine a3 rfl rfl (a8 rfl rfl) ?_
 refine a1 rfl ?_
 refine a3 rfl rfl (b7 G rfl rfl rfl rfl) ?_
 refine a1 rfl ?_
 refine a3 rfl rfl (c4 G rfl rfl rfl rfl rfl rfl rfl) ?_
 refine a1 rfl ?_
 first | refine a3 rfl rfl (r4 G rfl rfl rfl rfl (List.length_map _)) ?_ | refine a3 rfl rfl (t6 G rfl rfl rfl rfl) ?_
 refine a1 rfl ?_
 refine a3 rfl rfl (k5 rfl (ArgsOK.of rfl) (a15 _ _) rfl) ?_
 refine a1 rfl ?_
 refine d3 7 [0] rfl rfl rfl (n8 h (by omega) _) rfl (RowsIn.cons rfl RowsIn.nil) rfl (fun _=>rfl) rfl (fun x1 ⟨hv1,hc1⟩=>?_)
 refine a1 rfl ?_
 refine a3 rfl rfl (a7 rfl rfl) ?_
 refine a4 ?_
 refine hK2 _ ?_
 clear hK2 K2
 refine b4 (fun K3 hK3=>?_)
 refine b4 (fun K4 hK4=>?_)
 refine a6 ?_
 refine a1 rfl ?_
 refine a3 rfl rfl (a8 rfl rfl) ?_
 refine a1 rfl ?_
 refine d3 7 [0] rfl rfl rfl (n8 hc1 (by omega) (12)) rfl (RowsIn.cons rfl RowsIn.nil) rfl (fun _=>rfl) rfl (fun x2 ⟨hv2,hc2⟩=>?_)
 refine a4 ?_
 refine hK4 _ ?_
 clear hK4 K4
 refine l8 ?_
 refine b4 (fun K5 hK5=>?_)
 refine b4 (fun K6 hK6=>?_)
 refine a6 ?_
 refine a1 rfl ?_
 refine a3 rfl rfl (f9 rfl rfl rfl rfl) ?_
 refine a1 rfl ?_
 refine a3 rfl rfl (a7 rfl rfl) ?_
 refine a4 ?_
 refine hK6 _ ?_
 clear hK6 K6
 refine d1 rfl (fun h1=>?_) (fun h1=>?_)
 ·try rw [h1]
  try simp only [rfb] at h1
  refine e9 ?_
  refine hK5 _ ?_
  clear hK5 K5
  refine r7 rfl ?_
  refine b4 (fun K7 hK7=>?_)
  refine a6 ?_
  refine a1 rfl ?_
  refine a3 rfl rfl (a8 rfl rfl) ?_
  refine a1 rfl ?_
  refine d3 7 [0] rfl rfl rfl (n8 hc2 (by omega) (8)) rfl (RowsIn.cons rfl RowsIn.nil) rfl (fun _=>rfl) rfl (fun x3 ⟨hv3,hc3⟩=>?_)
  refine a1 rfl ?_
  refine a3 rfl rfl (g0 G rfl rfl rfl rfl) ?_
  refine a1 rfl ?_
  refine c5 G rfl rfl rfl rfl rfl rfl rfl rfl rfl rfl rfl ?_
  refine a4 ?_
  refine hK7 _ ?_
  clear hK7 K7
  refine c8 (v7 ((⟨_,_,_,_⟩,⟨_,_,_⟩)) (n7 rfl (A0 rfl rfl) rfl (AftOK.stays rfl rfl rfl (AftOK.stays rfl rfl rfl (AftOK.stays rfl rfl rfl (AftOK.stays rfl rfl rfl (AftOK.stays rfl rfl rfl AftOK.nil)))))) (⟨?_,?_⟩))
  all_goals clear hK3 K3
  all_goals (try rcases x1 with ⟨_,_⟩)
  all_goals (try rcases x2 with ⟨_,_⟩)
  all_goals (try rcases x3 with ⟨_,_⟩)
  all_goals (try dsimp only at *)
  all_goals (first | trivial | exact hc3.mono (by omega) | omega)
 ·try rw [h1]
  try simp only [rfb] at h1
  refine b4 (fun K8 hK8=>?_)
  refine a6 ?_
  refine a1 rfl ?_
  refine a3 rfl rfl (f9 rfl rfl rfl rfl) ?_
  refine a1 rfl ?_
  refine a3 rfl rfl (a7 rfl rfl) ?_
  refine a4 ?_
  refine hK8 _ ?_
  clear hK8 K8
  refine d1 rfl (fun h2=>?_) (fun h2=>?_)
  ·try rw [h2]
   try simp only [rfb] at h2
   refine e9 ?_
   refine hK5 _ ?_
   clear hK5 K5
   refine r7 rfl ?_
   refine b4 (fun K9 hK9=>?_)
   refine a6 ?_
   refine a1 rfl ?_
   refine a3 rfl rfl (a8 rfl rfl) ?_
   refine a1 rfl ?_
   refine d3 7 [0] rfl rfl rfl (n8 hc2 (by omega) (8)) rfl (RowsIn.cons rfl RowsIn.nil) rfl (fun _=>rfl) rfl (fun x4 ⟨hv4,hc4⟩=>?_)
   refine a1 rfl ?_
   refine a3 rfl rfl (g0 G rfl rfl rfl rfl) ?_
   refine a1 rfl ?_
   refine c5 G rfl rfl rfl rfl rfl rfl rfl rfl rfl rfl rfl ?_
   refine a4 ?_
   refine hK9 _ ?_
   clear hK9 K9
   refine c8 (v7 ((⟨_,_,_,_⟩,⟨_,_,_⟩)) (n7 rfl (A0 rfl rfl) rfl (AftOK.stays rfl rfl rfl (AftOK.stays rfl rfl rfl (AftOK.stays rfl rfl rfl (AftOK.stays rfl rfl rfl (AftOK.stays rfl rfl rfl AftOK.nil)))))) (⟨?_,?_⟩))
   all_goals clear hK3 K3
   all_goals (try rcases x1 with ⟨_,_⟩)
   all_goals (try rcases x2 with ⟨_,_⟩)
   all_goals (try rcases x3 with ⟨_,_⟩)
   all_goals (try rcases x4 with ⟨_,_⟩)
   all_goals (try dsimp only at *)
   all_goals (first | trivial | exact hc4.mono (by omega) | omega)
  ·try rw [h2]
   try simp only [rfb] at h2
   refine a6 ?_
   refine a1 rfl ?_
   refine a3 rfl rfl (f9 rfl rfl rfl rfl) ?_
   refine a1 rfl ?_
   refine a3 rfl rfl (a7 rfl rfl) ?_
   refine a4 ?_
   refine hK5 _ ?_
   clear hK5 K5
   refine d1 rfl (fun h3=>?_) (fun h3=>?_)
   ·try rw [h3]
    try simp only [rfb] at h3
    refine b4 (fun K10 hK10=>?_)
    refine a6 ?_
    refine a1 rfl ?_
    refine a3 rfl rfl (a8 rfl rfl) ?_
    refine a1 rfl ?_
    refine d3 7 [0] rfl rfl rfl (n8 hc2 (by omega) (8)) rfl (RowsIn.cons rfl RowsIn.nil) rfl (fun _=>rfl) rfl (fun x5 ⟨hv5,hc5⟩=>?_)
    refine a1 rfl ?_
    refine a3 rfl rfl (g0 G rfl rfl rfl rfl) ?_
    refine a1 rfl ?_
    refine c5 G rfl rfl rfl rfl rfl rfl rfl rfl rfl rfl rfl ?_
    refine a4 ?_
    refine hK10 _ ?_
    clear hK10 K10
    refine c8 (v7 ((⟨_,_,_,_⟩,⟨_,_,_⟩)) (n7 rfl (A0 rfl rfl) rfl (AftOK.stays rfl rfl rfl (AftOK.stays rfl rfl rfl (AftOK.stays rfl rfl rfl (AftOK.stays rfl rfl rfl (AftOK.stays rfl rfl rfl AftOK.nil)))))) (⟨?_,?_⟩))
    all_goals clear hK3 K3
    all_goals (try rcases x1 with ⟨_,_⟩)
    all_goals (try rcases x2 with ⟨_,_⟩)
    all_goals (try rcases x3 with ⟨_,_⟩)
    all_goals (try rcases x4 with ⟨_,_⟩)
    all_goals (try rcases x5 with ⟨_,_⟩)
    all_goals (try dsimp only at *)
    all_goals (first | trivial | exact hc5.mono (by omega) | omega)
   ·try rw [h3]
    try simp only [rfb] at h3
    refine b4 (fun K11 hK11=>?_)
    refine b4 (fun K12 hK12=>?_)
    refine a6 ?_
    refine a1 rfl ?_
    refine a3 rfl rfl (f9 rfl rfl rfl rfl) ?_
    refine a1 rfl ?_
    refine a3 rfl rfl (a7 rfl rfl) ?_
    refine a4 ?_
    refine hK12 _ ?_
    clear hK12 K12
    refine d1 rfl (fun h4=>?_) (fun h4=>?_)
    ·try rw [h4]
     try simp only [rfb] at h4
     refine e9 ?_
     refine hK11 _ ?_
     clear hK11 K11
     refine r7 rfl ?_
     refine b4 (fun K13 hK13=>?_)
     refine a6 ?_
     refine a1 rfl ?_
     refine a3 rfl rfl (g0 G rfl rfl rfl rfl) ?_
     refine a1 rfl ?_
     refine c5 G rfl rfl rfl rfl rfl rfl rfl rfl rfl rfl rfl ?_
     refine a4 ?_
     refine hK13 _ ?_
     clear hK13 K13
     refine c8 (v7 ((⟨_,_,_,_⟩,⟨_,_,_⟩)) (n7 rfl (A0 rfl rfl) rfl (AftOK.stays rfl rfl rfl (AftOK.stays rfl rfl rfl (AftOK.stays rfl rfl rfl (AftOK.stays rfl rfl rfl (AftOK.stays rfl rfl rfl AftOK.nil)))))) (⟨?_,?_⟩))
     all_goals clear hK3 K3
     all_goals (try rcases x1 with ⟨_,_⟩)
     all_goals (try rcases x2 with ⟨_,_⟩)
     all_goals (try rcases x3 with ⟨_,_⟩)
     all_goals (try rcases x4 with ⟨_,_⟩)
     all_goals (try rcases x5 with ⟨_,_⟩)
     all_goals (try dsimp only at *)
     all_goals (first | trivial | exact hc2.mono (by omega) | omega)
    ·try rw [h4]
     try simp only [rfb] at h4
     refine a6 ?_
     refine a1 rfl ?_
     refine a3 rfl rfl (f9 rfl rfl rfl rfl) ?_
     refine a1 rfl ?_
     refine a3 rfl rfl (a7 rfl rfl) ?_
     refine a4 ?_
     refine hK11 _ ?_
     clear hK11 K11
     refine d1 rfl (fun h5=>?_) (fun h5=>?_)
     ·try rw [h5]
      try simp only [rfb] at h5
      refine b4 (fun K14 hK14=>?_)
      refine a6 ?_
      refine a1 rfl ?_
      refine a3 rfl rfl (g0 G rfl rfl rfl rfl) ?_
      refine a1 rfl ?_
      refine c5 G rfl rfl rfl rfl rfl rfl rfl rfl rfl rfl rfl ?_
      refine a4 ?_
      refine hK14 _ ?_
      clear hK14 K14
      refine c8 (v7 ((⟨_,_,_,_⟩,⟨_,_,_⟩)) (n7 rfl (A0 rfl rfl) rfl (AftOK.stays rfl rfl rfl (AftOK.stays rfl rfl rfl (AftOK.stays rfl rfl rfl (AftOK.stays rfl rfl rfl (AftOK.stays rfl rfl rfl AftOK.nil)))))) (⟨?_,?_⟩))
      all_goals clear hK3 K3
      all_goals (try rcases x1 with ⟨_,_⟩)
      all_goals (try rcases x2 with ⟨_,_⟩)
      all_goals (try rcases x3 with ⟨_,_⟩)
      all_goals (try rcases x4 with ⟨_,_⟩)
      all_goals (try rcases x5 with ⟨_,_⟩)
      all_goals (try dsimp only at *)
      all_goals (first | trivial | exact hc2.mono (by omega) | omega)
     ·try rw [h5]
      try simp only [rfb] at h5
      refine b4 (fun K15 hK15=>?_)
      refine b4 (fun K16 hK16=>?_)
      refine a6 ?_
      refine a1 rfl ?_
      refine a3 rfl rfl (f9 rfl rfl rfl rfl) ?_
      refine a1 rfl ?_
      refine a3 rfl rfl (a7 rfl rfl) ?_
      refine a4 ?_
      refine hK16 _ ?_
      clear hK16 K16
      refine d1 rfl (fun h6=>?_) (fun h6=>?_)
      ·try rw [h6]
       try simp only [rfb] at h6
       refine e9 ?_
       refine hK15 _ ?_
       clear hK15 K15
       refine r7 rfl ?_
       refine b4 (fun K17 hK17=>?_)
       refine a6 ?_
       refine a1 rfl ?_
       refine a3 rfl rfl (a8 rfl rfl) ?_
       refine a1 rfl ?_
       refine a3 rfl rfl (g0 G rfl rfl rfl rfl) ?_
       refine a1 rfl ?_
       refine c5 G rfl rfl rfl rfl rfl rfl rfl rfl rfl rfl rfl ?_
       refine a4 ?_
       refine hK17 _ ?_
       clear hK17 K17
       refine c8 (v7 ((⟨_,_,_,_⟩,⟨_,_,_⟩)) (n7 rfl (A0 rfl rfl) rfl (AftOK.stays rfl rfl rfl (AftOK.stays rfl rfl rfl (AftOK.stays rfl rfl rfl (AftOK.stays rfl rfl rfl (AftOK.stays rfl rfl rfl AftOK.nil)))))) (⟨?_,?_⟩))
       all_goals clear hK3 K3
       all_goals (try rcases x1 with ⟨_,_⟩)
       all_goals (try rcases x2 with ⟨_,_⟩)
       all_goals (try rcases x3 with ⟨_,_⟩)
       all_goals (try rcases x4 with ⟨_,_⟩)
       all_goals (try rcases x5 with ⟨_,_⟩)
       all_goals (try dsimp only at *)
       all_goals (first | trivial | exact hc2.mono (by omega) | omega)
      ·try rw [h6]
       try simp only [rfb] at h6
       refine b4 (fun K18 hK18=>?_)
       refine a6 ?_
       refine a1 rfl ?_
       refine a3 rfl rfl (f9 rfl rfl rfl rfl) ?_
       refine a1 rfl ?_
       refine a3 rfl rfl (a7 rfl rfl) ?_
       refine a4 ?_
       refine hK18 _ ?_
       clear hK18 K18
       refine d1 rfl (fun h7=>?_) (fun h7=>?_)
       ·try rw [h7]
        try simp only [rfb] at h7
        refine e9 ?_
        refine hK15 _ ?_
        clear hK15 K15
        refine r7 rfl ?_
        refine b4 (fun K19 hK19=>?_)
        refine a6 ?_
        refine a1 rfl ?_
        refine a3 rfl rfl (a8 rfl rfl) ?_
        refine a1 rfl ?_
        refine a3 rfl rfl (g0 G rfl rfl rfl rfl) ?_
        refine a1 rfl ?_
        refine c5 G rfl rfl rfl rfl rfl rfl rfl rfl rfl rfl rfl ?_
        refine a4 ?_
        refine hK19 _ ?_
        clear hK19 K19
        refine c8 (v7 ((⟨_,_,_,_⟩,⟨_,_,_⟩)) (n7 rfl (A0 rfl rfl) rfl (AftOK.stays rfl rfl rfl (AftOK.stays rfl rfl rfl (AftOK.stays rfl rfl rfl (AftOK.stays rfl rfl rfl (AftOK.stays rfl rfl rfl AftOK.nil)))))) (⟨?_,?_⟩))
        all_goals clear hK3 K3
        all_goals (try rcases x1 with ⟨_,_⟩)
        all_goals (try rcases x2 with ⟨_,_⟩)
        all_goals (try rcases x3 with ⟨_,_⟩)
        all_goals (try rcases x4 with ⟨_,_⟩)
        all_goals (try rcases x5 with ⟨_,_⟩)
        all_goals (try dsimp only at *)
        all_goals (first | trivial | exact hc2.mono (by omega) | omega)
       ·try rw [h7]
        try simp only [rfb] at h7
        refine a6 ?_
        refine a1 rfl ?_
        refine a3 rfl rfl (f9 rfl rfl rfl rfl) ?_
        refine a1 rfl ?_
        refine a3 rfl rfl (a7 rfl rfl) ?_
        refine a4 ?_
        refine hK15 _ ?_
        clear hK15 K15
        refine d1 rfl (fun h8=>?_) (fun h8=>?_)
        ·try rw [h8]
         try simp only [rfb] at h8
         refine b4 (fun K20 hK20=>?_)
         refine a6 ?_
         refine a1 rfl ?_
         refine a3 rfl rfl (a8 rfl rfl) ?_
         refine a1 rfl ?_
         refine a3 rfl rfl (g0 G rfl rfl rfl rfl) ?_
         refine a1 rfl ?_
         refine c5 G rfl rfl rfl rfl rfl rfl rfl rfl rfl rfl rfl ?_
         refine a4 ?_
         refine hK20 _ ?_
         clear hK20 K20
         refine c8 (v7 ((⟨_,_,_,_⟩,⟨_,_,_⟩)) (n7 rfl (A0 rfl rfl) rfl (AftOK.stays rfl rfl rfl (AftOK.stays rfl rfl rfl (AftOK.stays rfl rfl rfl (AftOK.stays rfl rfl rfl (AftOK.stays rfl rfl rfl AftOK.nil)))))) (⟨?_,?_⟩))
         all_goals clear hK3 K3
         all_goals (try rcases x1 with ⟨_,_⟩)
         all_goals (try rcases x2 with ⟨_,_⟩)
         all_goals (try rcases x3 with ⟨_,_⟩)
         all_goals (try rcases x4 with ⟨_,_⟩)
         all_goals (try rcases x5 with ⟨_,_⟩)
         all_goals (try dsimp only at *)
         all_goals (first | trivial | exact hc2.mono (by omega) | omega)
        ·try rw [h8]
         try simp only [rfb] at h8
         refine b4 (fun K21 hK21=>?_)
         refine a6 ?_
         refine a1 rfl ?_
         refine a3 rfl rfl (f9 rfl rfl rfl rfl) ?_
         refine a1 rfl ?_
         refine a3 rfl rfl (a7 rfl rfl) ?_
         refine a4 ?_
         refine hK21 _ ?_
         clear hK21 K21
         refine d1 rfl (fun h9=>?_) (fun h9=>?_)
         ·try rw [h9]
          try simp only [rfb] at h9
          refine b4 (fun K22 hK22=>?_)
          refine a6 ?_
          refine a1 rfl ?_
          refine a3 rfl rfl (a8 rfl rfl) ?_
          refine a1 rfl ?_
          refine a3 rfl rfl (g0 G rfl rfl rfl rfl) ?_
          refine a1 rfl ?_
          refine c5 G rfl rfl rfl rfl rfl rfl rfl rfl rfl rfl rfl ?_
          refine a4 ?_
          refine hK22 _ ?_
          clear hK22 K22
          refine c8 (v7 ((⟨_,_,_,_⟩,⟨_,_,_⟩)) (n7 rfl (A0 rfl rfl) rfl (AftOK.stays rfl rfl rfl (AftOK.stays rfl rfl rfl (AftOK.stays rfl rfl rfl (AftOK.stays rfl rfl rfl (AftOK.stays rfl rfl rfl AftOK.nil)))))) (⟨?_,?_⟩))
          all_goals clear hK3 K3
          all_goals (try rcases x1 with ⟨_,_⟩)
          all_goals (try rcases x2 with ⟨_,_⟩)
          all_goals (try rcases x3 with ⟨_,_⟩)
          all_goals (try rcases x4 with ⟨_,_⟩)
          all_goals (try rcases x5 with ⟨_,_⟩)
          all_goals (try dsimp only at *)
          all_goals (first | trivial | exact hc2.mono (by omega) | omega)
         ·try rw [h9]
          try simp only [rfb] at h9
          refine b4 (fun K23 hK23=>?_)
          refine a6 ?_
          refine a1 rfl ?_
          refine a3 rfl rfl (f9 rfl rfl rfl rfl) ?_
          refine a1 rfl ?_
          refine a3 rfl rfl (a7 rfl rfl) ?_
          refine a4 ?_
          refine hK23 _ ?_
          clear hK23 K23
          refine d1 rfl (fun h10=>?_) (fun h10=>?_)
          ·try rw [h10]
           try simp only [rfb] at h10
           refine b4 (fun K24 hK24=>?_)
           refine a6 ?_
           refine a1 rfl ?_
           refine a3 rfl rfl (a8 rfl rfl) ?_
           refine a1 rfl ?_
           refine a3 rfl rfl (a8 rfl rfl) ?_
           refine a1 rfl ?_
           refine k6 G 8 rfl rfl rfl rfl rfl rfl rfl rfl ?_
           refine a1 rfl ?_
           refine d3 8 [0,7] rfl rfl rfl (y8 hc2 (by omega) [16,16,8,4,0] (0) (16) (by decide) (by decide)) rfl (RowsIn.cons rfl (RowsIn.cons rfl RowsIn.nil)) rfl (fun _=>rfl) rfl (fun x6 ⟨hv6,hc6⟩=>?_)
           refine a1 rfl ?_
           refine a3 rfl rfl (g0 G rfl rfl rfl rfl) ?_
           refine a1 rfl ?_
           refine c5 G rfl rfl rfl rfl rfl rfl rfl rfl rfl rfl rfl ?_
           refine a4 ?_
           refine hK24 _ ?_
           clear hK24 K24
           refine c8 (v7 ((⟨_,_,_,_⟩,⟨_,_,_⟩)) (n7 rfl (A0 rfl rfl) rfl (AftOK.stays rfl rfl rfl (AftOK.stays rfl rfl rfl (AftOK.stays rfl rfl rfl (AftOK.stays rfl rfl rfl (AftOK.stays rfl rfl rfl AftOK.nil)))))) (⟨?_,?_⟩))
           all_goals clear hK3 K3
           all_goals (try rcases x1 with ⟨_,_⟩)
           all_goals (try rcases x2 with ⟨_,_⟩)
           all_goals (try rcases x3 with ⟨_,_⟩)
           all_goals (try rcases x4 with ⟨_,_⟩)
           all_goals (try rcases x5 with ⟨_,_⟩)
           all_goals (try rcases x6 with ⟨_,_⟩)
           all_goals (try dsimp only at *)
           all_goals (first | trivial | exact hc6.mono (by omega) | omega)
          ·try rw [h10]
           try simp only [rfb] at h10
           refine b4 (fun K25 hK25=>?_)
           refine a6 ?_
           refine a1 rfl ?_
           refine a3 rfl rfl (f9 rfl rfl rfl rfl) ?_
           refine a1 rfl ?_
           refine a3 rfl rfl (a7 rfl rfl) ?_
           refine a4 ?_
           refine hK25 _ ?_
           clear hK25 K25
           refine d1 rfl (fun h11=>?_) (fun h11=>?_)
           ·try rw [h11]
            try simp only [rfb] at h11
            refine b4 (fun K26 hK26=>?_)
            refine a6 ?_
            refine a1 rfl ?_
            refine a3 rfl rfl (a8 rfl rfl) ?_
            refine a1 rfl ?_
            refine d3 7 [0] rfl rfl rfl (n8 hc2 (by omega) (8)) rfl (RowsIn.cons rfl RowsIn.nil) rfl (fun _=>rfl) rfl (fun x7 ⟨hv7,hc7⟩=>?_)
            refine a1 rfl ?_
            refine a3 rfl rfl (a8 rfl rfl) ?_
            refine a1 rfl ?_
            refine k6 G 8 rfl rfl rfl rfl rfl rfl rfl rfl ?_
            refine a1 rfl ?_
            refine d3 8 [0,7] rfl rfl rfl (y8 hc7 (by omega) [1,1,0] (0) (1) (by decide) (by decide)) rfl (RowsIn.cons rfl (RowsIn.cons rfl RowsIn.nil)) rfl (fun _=>rfl) rfl (fun x8 ⟨hv8,hc8⟩=>?_)
            refine a1 rfl ?_
            refine a3 rfl rfl (g0 G rfl rfl rfl rfl) ?_
            refine a1 rfl ?_
            refine c5 G rfl rfl rfl rfl rfl rfl rfl rfl rfl rfl rfl ?_
            refine a4 ?_
            refine hK26 _ ?_
            clear hK26 K26
            refine c8 (v7 ((⟨_,_,_,_⟩,⟨_,_,_⟩)) (n7 rfl (A0 rfl rfl) rfl (AftOK.stays rfl rfl rfl (AftOK.stays rfl rfl rfl (AftOK.stays rfl rfl rfl (AftOK.stays rfl rfl rfl (AftOK.stays rfl rfl rfl AftOK.nil)))))) (⟨?_,?_⟩))
            all_goals clear hK3 K3
            all_goals (try rcases x1 with ⟨_,_⟩)
            all_goals (try rcases x2 with ⟨_,_⟩)
            all_goals (try rcases x3 with ⟨_,_⟩)
            all_goals (try rcases x4 with ⟨_,_⟩)
            all_goals (try rcases x5 with ⟨_,_⟩)
            all_goals (try rcases x6 with ⟨_,_⟩)
            all_goals (try rcases x7 with ⟨_,_⟩)
            all_goals (try rcases x8 with ⟨_,_⟩)
            all_goals (try dsimp only at *)
            all_goals (first | trivial | exact hc8.mono (by omega) | omega)
           ·try rw [h11]
            try simp only [rfb] at h11
            refine e9 ?_
            refine hK3 _ ?_
            clear hK3 K3
            refine b4 (fun K27 hK27=>?_)
            refine b4 (fun K28 hK28=>?_)
            refine a6 ?_
            refine a1 rfl ?_
            refine a3 rfl rfl (a8 rfl rfl) ?_
            refine a1 rfl ?_
            refine d3 7 [0] rfl rfl rfl (a5v hc2 (by omega) (4)) rfl (RowsIn.cons rfl RowsIn.nil) rfl (fun _=>rfl) rfl (fun x9 ⟨hv9,hc9⟩=>?_)
            refine a4 ?_
            refine hK28 _ ?_
            clear hK28 K28
            refine d1 rfl (fun h12=>?_) (fun h12=>?_)
            ·try rw [h12]
             try simp only [rfb] at h12
             refine b4 (fun K29 hK29=>?_)
             refine a6 ?_
             refine a1 rfl ?_
             refine a3 rfl rfl (a8 rfl rfl) ?_
             refine a1 rfl ?_
             refine k6 G 8 rfl rfl rfl rfl rfl rfl rfl rfl ?_
             refine a1 rfl ?_
             refine d3 8 [0,7] rfl rfl rfl (y8 hc9 (by omega) [0,7,1,5] (0) (7) (by decide) (by decide)) rfl (RowsIn.cons rfl (RowsIn.cons rfl RowsIn.nil)) rfl (fun _=>rfl) rfl (fun x10 ⟨hv10,hc10⟩=>?_)
             refine a1 rfl ?_
             refine a3 rfl rfl (a8 rfl rfl) ?_
             refine a1 rfl ?_
             refine k6 G 9 rfl rfl rfl rfl rfl rfl rfl rfl ?_
             refine a1 rfl ?_
             refine d3 9 [0,8] rfl rfl rfl (y8 hc10 (by omega) [0,8,-1] (-1) (8) (by decide) (by decide)) rfl (RowsIn.cons rfl (RowsIn.cons rfl RowsIn.nil)) rfl (fun _=>rfl) rfl (fun x11 ⟨hv11,hc11⟩=>?_)
             refine a1 rfl ?_
             refine a3 rfl rfl (a8 rfl rfl) ?_
             refine a1 rfl ?_
             refine k6 G 10 rfl rfl rfl rfl rfl rfl rfl rfl ?_
             refine a1 rfl ?_
             refine d3 10 [0,9] rfl rfl rfl (y8 hc11 (by omega) [0,2] (0) (2) (by decide) (by decide)) rfl (RowsIn.cons rfl (RowsIn.cons rfl RowsIn.nil)) rfl (fun _=>rfl) rfl (fun x12 ⟨hv12,hc12⟩=>?_)
             refine a1 rfl ?_
             refine a3 rfl rfl (a8 rfl rfl) ?_
             refine a1 rfl ?_
             refine k6 G 11 rfl rfl rfl rfl rfl rfl rfl rfl ?_
             refine a1 rfl ?_
             refine d3 11 [0,10] rfl rfl rfl (y8 hc12 (by omega) [0,17] (0) (17) (by decide) (by decide)) rfl (RowsIn.cons rfl (RowsIn.cons rfl RowsIn.nil)) rfl (fun _=>rfl) rfl (fun x13 ⟨hv13,hc13⟩=>?_)
             refine a1 rfl ?_
             refine a3 rfl rfl (g0 G rfl rfl rfl rfl) ?_
             refine a1 rfl ?_
             refine c5 G rfl rfl rfl rfl rfl rfl rfl rfl rfl rfl rfl ?_
             refine a4 ?_
             refine hK29 _ ?_
             clear hK29 K29
             refine c8 (v7 ((⟨_,_,_,_⟩,⟨_,_,_⟩)) (n7 rfl (A0 rfl rfl) rfl (AftOK.stays rfl rfl rfl (AftOK.stays rfl rfl rfl (AftOK.stays rfl rfl rfl (AftOK.stays rfl rfl rfl (AftOK.stays rfl rfl rfl AftOK.nil)))))) (⟨?_,?_⟩))
             all_goals clear hK27 K27
             all_goals (try rcases x1 with ⟨_,_⟩)
             all_goals (try rcases x2 with ⟨_,_⟩)
             all_goals (try rcases x3 with ⟨_,_⟩)
             all_goals (try rcases x4 with ⟨_,_⟩)
             all_goals (try rcases x5 with ⟨_,_⟩)
             all_goals (try rcases x6 with ⟨_,_⟩)
             all_goals (try rcases x7 with ⟨_,_⟩)
             all_goals (try rcases x8 with ⟨_,_⟩)
             all_goals (try rcases x9 with ⟨_,_⟩)
             all_goals (try rcases x10 with ⟨_,_⟩)
             all_goals (try rcases x11 with ⟨_,_⟩)
             all_goals (try rcases x12 with ⟨_,_⟩)
             all_goals (try rcases x13 with ⟨_,_⟩)
             all_goals (try dsimp only at *)
             all_goals (first | trivial | exact hc13.mono (by omega) | omega)
            ·try rw [h12]
             try simp only [rfb] at h12
             refine e9 ?_
             refine hK27 _ ?_
             clear hK27 K27
             refine b4 (fun K30 hK30=>?_)
             refine a6 ?_
             refine a1 rfl ?_
             refine a3 rfl rfl (g0 G rfl rfl rfl rfl) ?_
             refine a1 rfl ?_
             refine c5 G rfl rfl rfl rfl rfl rfl rfl rfl rfl rfl rfl ?_
             refine a4 ?_
             refine hK30 _ ?_
             clear hK30 K30
             refine c8 (v7 ((⟨_,_,_,_⟩,⟨_,_,_⟩)) (n7 rfl (A0 rfl rfl) rfl (AftOK.stays rfl rfl rfl (AftOK.stays rfl rfl rfl (AftOK.stays rfl rfl rfl (AftOK.stays rfl rfl rfl (AftOK.stays rfl rfl rfl AftOK.nil)))))) (⟨?_,?_⟩))
             all_goals (try rcases x1 with ⟨_,_⟩)
             all_goals (try rcases x2 with ⟨_,_⟩)
             all_goals (try rcases x3 with ⟨_,_⟩)
             all_goals (try rcases x4 with ⟨_,_⟩)
             all_goals (try rcases x5 with ⟨_,_⟩)
             all_goals (try rcases x6 with ⟨_,_⟩)
             all_goals (try rcases x7 with ⟨_,_⟩)
             all_goals (try rcases x8 with ⟨_,_⟩)
             all_goals (try rcases x9 with ⟨_,_⟩)
             all_goals (try rcases x10 with ⟨_,_⟩)
             all_goals (try rcases x11 with ⟨_,_⟩)
             all_goals (try rcases x12 with ⟨_,_⟩)
             all_goals (try rcases x13 with ⟨_,_⟩)
             all_goals (try dsimp only at *)
             all_goals (first | trivial | exact hc9.mono (by omega) | omega)
theorem N5 {x:Cur} {n:Int} (h:okC n x) (hn:n≤880000000000) (yss:List (List CI)) (hm:yss.length≤1048576):CtrX (α:=MStep×Cur) Tryz.prog 52 [.ptr 0 0,.agg [.v (.slice none 0 0),.v (.slice none 0 0),.v (.slice none 0 0),.own 1]] [.box [.lst 1 (x.c.map C5),.v (.int .i64 x.a),.v (.int .u64 x.s)],.nest 113 4 yss []] (fun y=>True∧okC (n+20) y.2) (fun y=>.one (.v (a0g y.1))) (fun y=>[some (.box [.lst 1 (y.2.c.map C5),.v (.int .i64 y.2.a),.v (.int .u64 y.2.s)]),some (.nest 113 4 yss [])]):=by
 refine CtrX.of (n:=66) (k:=2) G Tryz.func52 rfl (by kernel_rfl) rfl rfl rfl rfl (fun _=>rfl) rfl rfl (fun w0 _ hpin=>?_)
 refine b4 (fun K1 hK1=>?_)
 refine a6 ?_
 refine a1 rfl ?_
 refine y4 3 rfl rfl rfl rfl rfl rfl rfl ?_
 refine a1 rfl ?_
 refine d7 G 4 rfl rfl rfl rfl rfl ?_
 refine a4 ?_
 refine hK1 _ ?_
 clear hK1 K1
 refine b4 (fun K2 hK2=>?_)
 refine a6 ?_
 refine a1 rfl ?_
 refine a3 rfl rfl (a8 rfl rfl) ?_
 refine a1 rfl ?_
 refine a3 rfl rfl (b7 G rfl rfl rfl rfl) ?_
 refine a1 rfl ?_
 refine a3 rfl rfl (c4 G rfl rfl rfl rfl rfl rfl rfl) ?_
 refine a1 rfl ?_
 first | refine a3 rfl rfl (r4 G rfl rfl rfl rfl (List.length_map _)) ?_ | refine a3 rfl rfl (t6 G rfl rfl rfl rfl) ?_
 refine a1 rfl ?_
 refine a3 rfl rfl (k5 rfl (ArgsOK.of rfl) (a15 _ _) rfl) ?_
 refine a1 rfl ?_
 refine d3 4 [0] rfl rfl rfl (n8 h (by omega) _) rfl (RowsIn.cons rfl RowsIn.nil) rfl (fun _=>rfl) rfl (fun x1 ⟨hv1,hc1⟩=>?_)
 refine a1 rfl ?_
 refine a3 rfl rfl (a7 rfl rfl) ?_
 refine a4 ?_
 refine hK2 _ ?_
 clear hK2 K2
 refine b4 (fun K3 hK3=>?_)
 refine b4 (fun K4 hK4=>?_)
 refine a6 ?_
 refine a1 rfl ?_
 refine a3 rfl rfl (a8 rfl rfl) ?_
 refine a1 rfl ?_
 refine d3 4 [0] rfl rfl rfl (n8 hc1 (by omega) (12)) rfl (RowsIn.cons rfl RowsIn.nil) rfl (fun _=>rfl) rfl (fun x2 ⟨hv2,hc2⟩=>?_)
 refine a4 ?_
 refine hK4 _ ?_
 clear hK4 K4
 refine l8 ?_
 refine b4 (fun K5 hK5=>?_)
 refine b4 (fun K6 hK6=>?_)
 refine a6 ?_
 refine a1 rfl ?_
 refine a3 rfl rfl (f9 rfl rfl rfl rfl) ?_
 refine a1 rfl ?_
 refine a3 rfl rfl (a7 rfl rfl) ?_
 refine a4 ?_
 refine hK6 _ ?_
 clear hK6 K6
 refine d1 rfl (fun h1=>?_) (fun h1=>?_)
 ·try rw [h1]
  try simp only [rfb] at h1
  refine e9 ?_
  refine hK5 _ ?_
  clear hK5 K5
  refine r7 rfl ?_
  refine b4 (fun K7 hK7=>?_)
  refine a6 ?_
  refine a1 rfl ?_
  refine a3 rfl rfl (a8 rfl rfl) ?_
  refine a1 rfl ?_
  refine d3 4 [0] rfl rfl rfl (n8 hc2 (by omega) (8)) rfl (RowsIn.cons rfl RowsIn.nil) rfl (fun _=>rfl) rfl (fun x3 ⟨hv3,hc3⟩=>?_)
  refine a1 rfl ?_
  refine a3 rfl rfl (g0 G rfl rfl rfl rfl) ?_
  refine a1 rfl ?_
  refine c5 G rfl rfl rfl rfl rfl rfl rfl rfl rfl rfl rfl ?_
  refine a4 ?_
  refine hK7 _ ?_
  clear hK7 K7
  refine c8 (v7 ((⟨_,_,_,_⟩,⟨_,_,_⟩)) (n7 rfl (A0 rfl rfl) rfl (AftOK.stays rfl rfl rfl (AftOK.stays rfl rfl rfl AftOK.nil))) (⟨?_,?_⟩))
  all_goals clear hK3 K3
  all_goals (try rcases x1 with ⟨_,_⟩)
  all_goals (try rcases x2 with ⟨_,_⟩)
  all_goals (try rcases x3 with ⟨_,_⟩)
  all_goals (try dsimp only at *)
  all_goals (first | trivial | exact hc3.mono (by omega) | omega)
 ·try rw [h1]
  try simp only [rfb] at h1
  refine b4 (fun K8 hK8=>?_)
  refine a6 ?_
  refine a1 rfl ?_
  refine a3 rfl rfl (f9 rfl rfl rfl rfl) ?_
  refine a1 rfl ?_
  refine a3 rfl rfl (a7 rfl rfl) ?_
  refine a4 ?_
  refine hK8 _ ?_
  clear hK8 K8
  refine d1 rfl (fun h2=>?_) (fun h2=>?_)
  ·try rw [h2]
   try simp only [rfb] at h2
   refine e9 ?_
   refine hK5 _ ?_
   clear hK5 K5
   refine r7 rfl ?_
   refine b4 (fun K9 hK9=>?_)
   refine a6 ?_
   refine a1 rfl ?_
   refine a3 rfl rfl (a8 rfl rfl) ?_
   refine a1 rfl ?_
   refine d3 4 [0] rfl rfl rfl (n8 hc2 (by omega) (8)) rfl (RowsIn.cons rfl RowsIn.nil) rfl (fun _=>rfl) rfl (fun x4 ⟨hv4,hc4⟩=>?_)
   refine a1 rfl ?_
   refine a3 rfl rfl (g0 G rfl rfl rfl rfl) ?_
   refine a1 rfl ?_
   refine c5 G rfl rfl rfl rfl rfl rfl rfl rfl rfl rfl rfl ?_
   refine a4 ?_
   refine hK9 _ ?_
   clear hK9 K9
   refine c8 (v7 ((⟨_,_,_,_⟩,⟨_,_,_⟩)) (n7 rfl (A0 rfl rfl) rfl (AftOK.stays rfl rfl rfl (AftOK.stays rfl rfl rfl AftOK.nil))) (⟨?_,?_⟩))
   all_goals clear hK3 K3
   all_goals (try rcases x1 with ⟨_,_⟩)
   all_goals (try rcases x2 with ⟨_,_⟩)
   all_goals (try rcases x3 with ⟨_,_⟩)
   all_goals (try rcases x4 with ⟨_,_⟩)
   all_goals (try dsimp only at *)
   all_goals (first | trivial | exact hc4.mono (by omega) | omega)
  ·try rw [h2]
   try simp only [rfb] at h2
   refine a6 ?_
   refine a1 rfl ?_
   refine a3 rfl rfl (f9 rfl rfl rfl rfl) ?_
   refine a1 rfl ?_
   refine a3 rfl rfl (a7 rfl rfl) ?_
   refine a4 ?_
   refine hK5 _ ?_
   clear hK5 K5
   refine d1 rfl (fun h3=>?_) (fun h3=>?_)
   ·try rw [h3]
    try simp only [rfb] at h3
    refine b4 (fun K10 hK10=>?_)
    refine a6 ?_
    refine a1 rfl ?_
    refine a3 rfl rfl (a8 rfl rfl) ?_
    refine a1 rfl ?_
    refine d3 4 [0] rfl rfl rfl (n8 hc2 (by omega) (8)) rfl (RowsIn.cons rfl RowsIn.nil) rfl (fun _=>rfl) rfl (fun x5 ⟨hv5,hc5⟩=>?_)
    refine a1 rfl ?_
    refine a3 rfl rfl (g0 G rfl rfl rfl rfl) ?_
    refine a1 rfl ?_
    refine c5 G rfl rfl rfl rfl rfl rfl rfl rfl rfl rfl rfl ?_
    refine a4 ?_
    refine hK10 _ ?_
    clear hK10 K10
    refine c8 (v7 ((⟨_,_,_,_⟩,⟨_,_,_⟩)) (n7 rfl (A0 rfl rfl) rfl (AftOK.stays rfl rfl rfl (AftOK.stays rfl rfl rfl AftOK.nil))) (⟨?_,?_⟩))
    all_goals clear hK3 K3
    all_goals (try rcases x1 with ⟨_,_⟩)
    all_goals (try rcases x2 with ⟨_,_⟩)
    all_goals (try rcases x3 with ⟨_,_⟩)
    all_goals (try rcases x4 with ⟨_,_⟩)
    all_goals (try rcases x5 with ⟨_,_⟩)
    all_goals (try dsimp only at *)
    all_goals (first | trivial | exact hc5.mono (by omega) | omega)
   ·try rw [h3]
    try simp only [rfb] at h3
    refine b4 (fun K11 hK11=>?_)
    refine b4 (fun K12 hK12=>?_)
    refine a6 ?_
    refine a1 rfl ?_
    refine a3 rfl rfl (f9 rfl rfl rfl rfl) ?_
    refine a1 rfl ?_
    refine a3 rfl rfl (a7 rfl rfl) ?_
    refine a4 ?_
    refine hK12 _ ?_
    clear hK12 K12
    refine d1 rfl (fun h4=>?_) (fun h4=>?_)
    ·try rw [h4]
     try simp only [rfb] at h4
     refine e9 ?_
     refine hK11 _ ?_
     clear hK11 K11
     refine r7 rfl ?_
     refine b4 (fun K13 hK13=>?_)
     refine a6 ?_
     refine a1 rfl ?_
     refine a3 rfl rfl (g0 G rfl rfl rfl rfl) ?_
     refine a1 rfl ?_
     refine c5 G rfl rfl rfl rfl rfl rfl rfl rfl rfl rfl rfl ?_
     refine a4 ?_
     refine hK13 _ ?_
     clear hK13 K13
     refine c8 (v7 ((⟨_,_,_,_⟩,⟨_,_,_⟩)) (n7 rfl (A0 rfl rfl) rfl (AftOK.stays rfl rfl rfl (AftOK.stays rfl rfl rfl AftOK.nil))) (⟨?_,?_⟩))
     all_goals clear hK3 K3
     all_goals (try rcases x1 with ⟨_,_⟩)
     all_goals (try rcases x2 with ⟨_,_⟩)
     all_goals (try rcases x3 with ⟨_,_⟩)
     all_goals (try rcases x4 with ⟨_,_⟩)
     all_goals (try rcases x5 with ⟨_,_⟩)
     all_goals (try dsimp only at *)
     all_goals (first | trivial | exact hc2.mono (by omega) | omega)
    ·try rw [h4]
     try simp only [rfb] at h4
     refine a6 ?_
     refine a1 rfl ?_
     refine a3 rfl rfl (f9 rfl rfl rfl rfl) ?_
     refine a1 rfl ?_
     refine a3 rfl rfl (a7 rfl rfl) ?_
     refine a4 ?_
     refine hK11 _ ?_
     clear hK11 K11
     refine d1 rfl (fun h5=>?_) (fun h5=>?_)
     ·try rw [h5]
      try simp only [rfb] at h5
      refine b4 (fun K14 hK14=>?_)
      refine a6 ?_
      refine a1 rfl ?_
      refine a3 rfl rfl (g0 G rfl rfl rfl rfl) ?_
      refine a1 rfl ?_
      refine c5 G rfl rfl rfl rfl rfl rfl rfl rfl rfl rfl rfl ?_
      refine a4 ?_
      refine hK14 _ ?_
      clear hK14 K14
      refine c8 (v7 ((⟨_,_,_,_⟩,⟨_,_,_⟩)) (n7 rfl (A0 rfl rfl) rfl (AftOK.stays rfl rfl rfl (AftOK.stays rfl rfl rfl AftOK.nil))) (⟨?_,?_⟩))
      all_goals clear hK3 K3
      all_goals (try rcases x1 with ⟨_,_⟩)
      all_goals (try rcases x2 with ⟨_,_⟩)
      all_goals (try rcases x3 with ⟨_,_⟩)
      all_goals (try rcases x4 with ⟨_,_⟩)
      all_goals (try rcases x5 with ⟨_,_⟩)
      all_goals (try dsimp only at *)
      all_goals (first | trivial | exact hc2.mono (by omega) | omega)
     ·try rw [h5]
      try simp only [rfb] at h5
      refine b4 (fun K15 hK15=>?_)
      refine b4 (fun K16 hK16=>?_)
      refine a6 ?_
      refine a1 rfl ?_
      refine a3 rfl rfl (f9 rfl rfl rfl rfl) ?_
      refine a1 rfl ?_
      refine a3 rfl rfl (a7 rfl rfl) ?_
      refine a4 ?_
      refine hK16 _ ?_
      clear hK16 K16
      refine d1 rfl (fun h6=>?_) (fun h6=>?_)
      ·try rw [h6]
       try simp only [rfb] at h6
       refine e9 ?_
       refine hK15 _ ?_
       clear hK15 K15
       refine r7 rfl ?_
       refine b4 (fun K17 hK17=>?_)
       refine a6 ?_
       refine a1 rfl ?_
       refine a3 rfl rfl (a8 rfl rfl) ?_
       refine a1 rfl ?_
       refine a3 rfl rfl (g0 G rfl rfl rfl rfl) ?_
       refine a1 rfl ?_
       refine c5 G rfl rfl rfl rfl rfl rfl rfl rfl rfl rfl rfl ?_
       refine a4 ?_
       refine hK17 _ ?_
       clear hK17 K17
       refine c8 (v7 ((⟨_,_,_,_⟩,⟨_,_,_⟩)) (n7 rfl (A0 rfl rfl) rfl (AftOK.stays rfl rfl rfl (AftOK.stays rfl rfl rfl AftOK.nil))) (⟨?_,?_⟩))
       all_goals clear hK3 K3
       all_goals (try rcases x1 with ⟨_,_⟩)
       all_goals (try rcases x2 with ⟨_,_⟩)
       all_goals (try rcases x3 with ⟨_,_⟩)
       all_goals (try rcases x4 with ⟨_,_⟩)
       all_goals (try rcases x5 with ⟨_,_⟩)
       all_goals (try dsimp only at *)
       all_goals (first | trivial | exact hc2.mono (by omega) | omega)
      ·try rw [h6]
       try simp only [rfb] at h6
       refine b4 (fun K18 hK18=>?_)
       refine a6 ?_
       refine a1 rfl ?_
       refine a3 rfl rfl (f9 rfl rfl rfl rfl) ?_
       refine a1 rfl ?_
       refine a3 rfl rfl (a7 rfl rfl) ?_
       refine a4 ?_
       refine hK18 _ ?_
       clear hK18 K18
       refine d1 rfl (fun h7=>?_) (fun h7=>?_)
       ·try rw [h7]
        try simp only [rfb] at h7
        refine e9 ?_
        refine hK15 _ ?_
        clear hK15 K15
        refine r7 rfl ?_
        refine b4 (fun K19 hK19=>?_)
        refine a6 ?_
        refine a1 rfl ?_
        refine a3 rfl rfl (a8 rfl rfl) ?_
        refine a1 rfl ?_
        refine a3 rfl rfl (g0 G rfl rfl rfl rfl) ?_
        refine a1 rfl ?_
        refine c5 G rfl rfl rfl rfl rfl rfl rfl rfl rfl rfl rfl ?_
        refine a4 ?_
        refine hK19 _ ?_
        clear hK19 K19
        refine c8 (v7 ((⟨_,_,_,_⟩,⟨_,_,_⟩)) (n7 rfl (A0 rfl rfl) rfl (AftOK.stays rfl rfl rfl (AftOK.stays rfl rfl rfl AftOK.nil))) (⟨?_,?_⟩))
        all_goals clear hK3 K3
        all_goals (try rcases x1 with ⟨_,_⟩)
        all_goals (try rcases x2 with ⟨_,_⟩)
        all_goals (try rcases x3 with ⟨_,_⟩)
        all_goals (try rcases x4 with ⟨_,_⟩)
        all_goals (try rcases x5 with ⟨_,_⟩)
        all_goals (try dsimp only at *)
        all_goals (first | trivial | exact hc2.mono (by omega) | omega)
       ·try rw [h7]
        try simp only [rfb] at h7
        refine a6 ?_
        refine a1 rfl ?_
        refine a3 rfl rfl (f9 rfl rfl rfl rfl) ?_
        refine a1 rfl ?_
        refine a3 rfl rfl (a7 rfl rfl) ?_
        refine a4 ?_
        refine hK15 _ ?_
        clear hK15 K15
        refine d1 rfl (fun h8=>?_) (fun h8=>?_)
        ·try rw [h8]
         try simp only [rfb] at h8
         refine b4 (fun K20 hK20=>?_)
         refine a6 ?_
         refine a1 rfl ?_
         refine a3 rfl rfl (a8 rfl rfl) ?_
         refine a1 rfl ?_
         refine a3 rfl rfl (g0 G rfl rfl rfl rfl) ?_
         refine a1 rfl ?_
         refine c5 G rfl rfl rfl rfl rfl rfl rfl rfl rfl rfl rfl ?_
         refine a4 ?_
         refine hK20 _ ?_
         clear hK20 K20
         refine c8 (v7 ((⟨_,_,_,_⟩,⟨_,_,_⟩)) (n7 rfl (A0 rfl rfl) rfl (AftOK.stays rfl rfl rfl (AftOK.stays rfl rfl rfl AftOK.nil))) (⟨?_,?_⟩))
         all_goals clear hK3 K3
         all_goals (try rcases x1 with ⟨_,_⟩)
         all_goals (try rcases x2 with ⟨_,_⟩)
         all_goals (try rcases x3 with ⟨_,_⟩)
         all_goals (try rcases x4 with ⟨_,_⟩)
         all_goals (try rcases x5 with ⟨_,_⟩)
         all_goals (try dsimp only at *)
         all_goals (first | trivial | exact hc2.mono (by omega) | omega)
        ·try rw [h8]
         try simp only [rfb] at h8
         refine b4 (fun K21 hK21=>?_)
         refine a6 ?_
         refine a1 rfl ?_
         refine a3 rfl rfl (f9 rfl rfl rfl rfl) ?_
         refine a1 rfl ?_
         refine a3 rfl rfl (a7 rfl rfl) ?_
         refine a4 ?_
         refine hK21 _ ?_
         clear hK21 K21
         refine d1 rfl (fun h9=>?_) (fun h9=>?_)
         ·try rw [h9]
          try simp only [rfb] at h9
          refine b4 (fun K22 hK22=>?_)
          refine a6 ?_
          refine a1 rfl ?_
          refine a3 rfl rfl (a8 rfl rfl) ?_
          refine a1 rfl ?_
          refine a3 rfl rfl (g0 G rfl rfl rfl rfl) ?_
          refine a1 rfl ?_
          refine c5 G rfl rfl rfl rfl rfl rfl rfl rfl rfl rfl rfl ?_
          refine a4 ?_
          refine hK22 _ ?_
          clear hK22 K22
          refine c8 (v7 ((⟨_,_,_,_⟩,⟨_,_,_⟩)) (n7 rfl (A0 rfl rfl) rfl (AftOK.stays rfl rfl rfl (AftOK.stays rfl rfl rfl AftOK.nil))) (⟨?_,?_⟩))
          all_goals clear hK3 K3
          all_goals (try rcases x1 with ⟨_,_⟩)
          all_goals (try rcases x2 with ⟨_,_⟩)
          all_goals (try rcases x3 with ⟨_,_⟩)
          all_goals (try rcases x4 with ⟨_,_⟩)
          all_goals (try rcases x5 with ⟨_,_⟩)
          all_goals (try dsimp only at *)
          all_goals (first | trivial | exact hc2.mono (by omega) | omega)
         ·try rw [h9]
          try simp only [rfb] at h9
          refine b4 (fun K23 hK23=>?_)
          refine a6 ?_
          refine a1 rfl ?_
          refine a3 rfl rfl (f9 rfl rfl rfl rfl) ?_
          refine a1 rfl ?_
          refine a3 rfl rfl (a7 rfl rfl) ?_
          refine a4 ?_
          refine hK23 _ ?_
          clear hK23 K23
          refine d1 rfl (fun h10=>?_) (fun h10=>?_)
          ·try rw [h10]
           try simp only [rfb] at h10
           refine b4 (fun K24 hK24=>?_)
           refine a6 ?_
           refine a1 rfl ?_
           refine a3 rfl rfl (a8 rfl rfl) ?_
           refine a1 rfl ?_
           refine a3 rfl rfl (a8 rfl rfl) ?_
           refine a1 rfl ?_
           refine k6 G 5 rfl rfl rfl rfl rfl rfl rfl rfl ?_
           refine a1 rfl ?_
           refine d3 5 [0,4] rfl rfl rfl (y8 hc2 (by omega) [16,16,8,4,0] (0) (16) (by decide) (by decide)) rfl (RowsIn.cons rfl (RowsIn.cons rfl RowsIn.nil)) rfl (fun _=>rfl) rfl (fun x6 ⟨hv6,hc6⟩=>?_)
           refine a1 rfl ?_
           refine a3 rfl rfl (g0 G rfl rfl rfl rfl) ?_
           refine a1 rfl ?_
           refine c5 G rfl rfl rfl rfl rfl rfl rfl rfl rfl rfl rfl ?_
           refine a4 ?_
           refine hK24 _ ?_
           clear hK24 K24
           refine c8 (v7 ((⟨_,_,_,_⟩,⟨_,_,_⟩)) (n7 rfl (A0 rfl rfl) rfl (AftOK.stays rfl rfl rfl (AftOK.stays rfl rfl rfl AftOK.nil))) (⟨?_,?_⟩))
           all_goals clear hK3 K3
           all_goals (try rcases x1 with ⟨_,_⟩)
           all_goals (try rcases x2 with ⟨_,_⟩)
           all_goals (try rcases x3 with ⟨_,_⟩)
           all_goals (try rcases x4 with ⟨_,_⟩)
           all_goals (try rcases x5 with ⟨_,_⟩)
           all_goals (try rcases x6 with ⟨_,_⟩)
           all_goals (try dsimp only at *)
           all_goals (first | trivial | exact hc6.mono (by omega) | omega)
          ·try rw [h10]
           try simp only [rfb] at h10
           refine b4 (fun K25 hK25=>?_)
           refine a6 ?_
           refine a1 rfl ?_
           refine a3 rfl rfl (f9 rfl rfl rfl rfl) ?_
           refine a1 rfl ?_
           refine a3 rfl rfl (a7 rfl rfl) ?_
           refine a4 ?_
           refine hK25 _ ?_
           clear hK25 K25
           refine d1 rfl (fun h11=>?_) (fun h11=>?_)
           ·try rw [h11]
            try simp only [rfb] at h11
            refine b4 (fun K26 hK26=>?_)
            refine a6 ?_
            refine a1 rfl ?_
            refine a3 rfl rfl (a8 rfl rfl) ?_
            refine a1 rfl ?_
            refine d3 4 [0] rfl rfl rfl (n8 hc2 (by omega) (8)) rfl (RowsIn.cons rfl RowsIn.nil) rfl (fun _=>rfl) rfl (fun x7 ⟨hv7,hc7⟩=>?_)
            refine a1 rfl ?_
            refine a3 rfl rfl (a8 rfl rfl) ?_
            refine a1 rfl ?_
            refine k6 G 5 rfl rfl rfl rfl rfl rfl rfl rfl ?_
            refine a1 rfl ?_
            refine d3 5 [0,4] rfl rfl rfl (y8 hc7 (by omega) [1,1,0] (0) (1) (by decide) (by decide)) rfl (RowsIn.cons rfl (RowsIn.cons rfl RowsIn.nil)) rfl (fun _=>rfl) rfl (fun x8 ⟨hv8,hc8⟩=>?_)
            refine a1 rfl ?_
            refine a3 rfl rfl (g0 G rfl rfl rfl rfl) ?_
            refine a1 rfl ?_
            refine c5 G rfl rfl rfl rfl rfl rfl rfl rfl rfl rfl rfl ?_
            refine a4 ?_
            refine hK26 _ ?_
            clear hK26 K26
            refine c8 (v7 ((⟨_,_,_,_⟩,⟨_,_,_⟩)) (n7 rfl (A0 rfl rfl) rfl (AftOK.stays rfl rfl rfl (AftOK.stays rfl rfl rfl AftOK.nil))) (⟨?_,?_⟩))
            all_goals clear hK3 K3
            all_goals (try rcases x1 with ⟨_,_⟩)
            all_goals (try rcases x2 with ⟨_,_⟩)
            all_goals (try rcases x3 with ⟨_,_⟩)
            all_goals (try rcases x4 with ⟨_,_⟩)
            all_goals (try rcases x5 with ⟨_,_⟩)
            all_goals (try rcases x6 with ⟨_,_⟩)
            all_goals (try rcases x7 with ⟨_,_⟩)
            all_goals (try rcases x8 with ⟨_,_⟩)
            all_goals (try dsimp only at *)
            all_goals (first | trivial | exact hc8.mono (by omega) | omega)
           ·try rw [h11]
            try simp only [rfb] at h11
            refine e9 ?_
            refine hK3 _ ?_
            clear hK3 K3
            refine b4 (fun K27 hK27=>?_)
            refine b4 (fun K28 hK28=>?_)
            refine a6 ?_
            refine a1 rfl ?_
            refine a3 rfl rfl (a8 rfl rfl) ?_
            refine a1 rfl ?_
            refine d3 4 [0] rfl rfl rfl (a5v hc2 (by omega) (4)) rfl (RowsIn.cons rfl RowsIn.nil) rfl (fun _=>rfl) rfl (fun x9 ⟨hv9,hc9⟩=>?_)
            refine a4 ?_
            refine hK28 _ ?_
            clear hK28 K28
            refine d1 rfl (fun h12=>?_) (fun h12=>?_)
            ·try rw [h12]
             try simp only [rfb] at h12
             refine b4 (fun K29 hK29=>?_)
             refine a6 ?_
             refine a1 rfl ?_
             refine a3 rfl rfl (a8 rfl rfl) ?_
             refine a1 rfl ?_
             refine k6 G 5 rfl rfl rfl rfl rfl rfl rfl rfl ?_
             refine a1 rfl ?_
             refine d3 5 [0,4] rfl rfl rfl (y8 hc9 (by omega) [0,7,1,5] (0) (7) (by decide) (by decide)) rfl (RowsIn.cons rfl (RowsIn.cons rfl RowsIn.nil)) rfl (fun _=>rfl) rfl (fun x10 ⟨hv10,hc10⟩=>?_)
             refine a1 rfl ?_
             refine a3 rfl rfl (a8 rfl rfl) ?_
             refine a1 rfl ?_
             refine k6 G 6 rfl rfl rfl rfl rfl rfl rfl rfl ?_
             refine a1 rfl ?_
             refine d3 6 [0,5] rfl rfl rfl (y8 hc10 (by omega) [0,8,-1] (-1) (8) (by decide) (by decide)) rfl (RowsIn.cons rfl (RowsIn.cons rfl RowsIn.nil)) rfl (fun _=>rfl) rfl (fun x11 ⟨hv11,hc11⟩=>?_)
             refine a1 rfl ?_
             refine a3 rfl rfl (a8 rfl rfl) ?_
             refine a1 rfl ?_
             refine k6 G 7 rfl rfl rfl rfl rfl rfl rfl rfl ?_
             refine a1 rfl ?_
             refine d3 7 [0,6] rfl rfl rfl (y8 hc11 (by omega) [0,2] (0) (2) (by decide) (by decide)) rfl (RowsIn.cons rfl (RowsIn.cons rfl RowsIn.nil)) rfl (fun _=>rfl) rfl (fun x12 ⟨hv12,hc12⟩=>?_)
             refine a1 rfl ?_
             refine a3 rfl rfl (a8 rfl rfl) ?_
             refine a1 rfl ?_
             refine k6 G 8 rfl rfl rfl rfl rfl rfl rfl rfl ?_
             refine a1 rfl ?_
             refine d3 8 [0,7] rfl rfl rfl (y8 hc12 (by omega) [0,17] (0) (17) (by decide) (by decide)) rfl (RowsIn.cons rfl (RowsIn.cons rfl RowsIn.nil)) rfl (fun _=>rfl) rfl (fun x13 ⟨hv13,hc13⟩=>?_)
             refine a1 rfl ?_
             refine a3 rfl rfl (g0 G rfl rfl rfl rfl) ?_
             refine a1 rfl ?_
             refine c5 G rfl rfl rfl rfl rfl rfl rfl rfl rfl rfl rfl ?_
             refine a4 ?_
             refine hK29 _ ?_
             clear hK29 K29
             refine c8 (v7 ((⟨_,_,_,_⟩,⟨_,_,_⟩)) (n7 rfl (A0 rfl rfl) rfl (AftOK.stays rfl rfl rfl (AftOK.stays rfl rfl rfl AftOK.nil))) (⟨?_,?_⟩))
             all_goals clear hK27 K27
             all_goals (try rcases x1 with ⟨_,_⟩)
             all_goals (try rcases x2 with ⟨_,_⟩)
             all_goals (try rcases x3 with ⟨_,_⟩)
             all_goals (try rcases x4 with ⟨_,_⟩)
             all_goals (try rcases x5 with ⟨_,_⟩)
             all_goals (try rcases x6 with ⟨_,_⟩)
             all_goals (try rcases x7 with ⟨_,_⟩)
             all_goals (try rcases x8 with ⟨_,_⟩)
             all_goals (try rcases x9 with ⟨_,_⟩)
             all_goals (try rcases x10 with ⟨_,_⟩)
             all_goals (try rcases x11 with ⟨_,_⟩)
             all_goals (try rcases x12 with ⟨_,_⟩)
             all_goals (try rcases x13 with ⟨_,_⟩)
             all_goals (try dsimp only at *)
             all_goals (first | trivial | exact hc13.mono (by omega) | omega)
            ·try rw [h12]
             try simp only [rfb] at h12
             refine e9 ?_
             refine hK27 _ ?_
             clear hK27 K27
             refine b4 (fun K30 hK30=>?_)
             refine a6 ?_
             refine a1 rfl ?_
             refine a3 rfl rfl (g0 G rfl rfl rfl rfl) ?_
             refine a1 rfl ?_
             refine c5 G rfl rfl rfl rfl rfl rfl rfl rfl rfl rfl rfl ?_
             refine a4 ?_
             refine hK30 _ ?_
             clear hK30 K30
             refine c8 (v7 ((⟨_,_,_,_⟩,⟨_,_,_⟩)) (n7 rfl (A0 rfl rfl) rfl (AftOK.stays rfl rfl rfl (AftOK.stays rfl rfl rfl AftOK.nil))) (⟨?_,?_⟩))
             all_goals (try rcases x1 with ⟨_,_⟩)
             all_goals (try rcases x2 with ⟨_,_⟩)
             all_goals (try rcases x3 with ⟨_,_⟩)
             all_goals (try rcases x4 with ⟨_,_⟩)
             all_goals (try rcases x5 with ⟨_,_⟩)
             all_goals (try rcases x6 with ⟨_,_⟩)
             all_goals (try rcases x7 with ⟨_,_⟩)
             all_goals (try rcases x8 with ⟨_,_⟩)
             all_goals (try rcases x9 with ⟨_,_⟩)
             all_goals (try rcases x10 with ⟨_,_⟩)
             all_goals (try rcases x11 with ⟨_,_⟩)
             all_goals (try rcases x12 with ⟨_,_⟩)
             all_goals (try rcases x13 with ⟨_,_⟩)
             all_goals (try dsimp only at *)
             all_goals (first | trivial | exact hc9.mono (by omega) | omega)
end Go.Proofs.YtcnodpipinlpcaaGreat
set_option maxRecDepth 20000
namespace Go.Proofs.YtcnodpipinlpcaaGreat
open Go Go.Rf
theorem a1A (rs:List Route) (c:Int) (hn:rs.length≤1048576) (hc:u4 c 1 2=false):Ctr Tryz.prog 130 [.lst 2 (rs.map u7),.v (.int .i64 c)] (.one (.v (.bool (false)))):=by
 refine Ctr.of (n:=37) G Tryz.func130 rfl b5 rfl rfl rfl (fun w0=>?_)
 refine zgn ?_
 refine zgn ?_
 refine l8 (m4 [0,1] [] (fun (i:Nat)=>[(5,.v (.int .i64 (i:Int)))]) (fun (i:Nat)=>[]) (fun (i:Nat)=>i≤rs.length) (fun (i:Nat)=>rs.length - i) 0 rfl rfl ?_ ?_ ?_ ?_)
 ·exact Nat.zero_le _
 ·exact ⟨⟨_,rfl,by (first | rfl | (simp;done) | (simp;omega))⟩,rfl,trivial⟩
 ·exact trivial
 intro i hinv
 simp only [List.cons_append,List.nil_append]
 refine zgn ?_
 refine d1 rfl (fun h1=>?_) (fun h1=>?_)
 ·try rw [h1]
  try simp only [rfb] at h1
  refine zgn ?_
  refine G3 (l8 ?_)
  refine a3i ?_
  iterate 5 refine zst ?_
  refine y6 ?_
  refine a3 rfl rfl (k5 rfl (ArgsOK.of rfl) (Q4 _) rfl) ?_
  iterate 2 refine zst ?_
  refine o8 rfl rfl rfl (fun h2=>?_) (fun h2=>?_)
  ·try rw [h2]
   try simp only [rfb] at h2
   refine zgn ?_
   refine r7 rfl ?_
   refine a4j ?_
   all_goals (first | rfl | (simp_all;done))
  try rw [h2]
  try simp only [rfb] at h2
  iterate 6 refine zst ?_
  refine c6 rfl rfl rfl ?_
  first | refine a3 rfl rfl (i8 rfl rfl rfl rfl (by omega) (by omega)) ?_ | refine a3 rfl rfl (k4 rfl rfl rfl rfl) ?_
  refine c6 rfl rfl rfl (a3 rfl rfl (k5 rfl (ArgsOK.of rfl) (E9 _ _ _) rfl) ?_)
  refine zgn ?_
  refine d1 rfl (fun h3=>?_) (fun h3=>?_)
  ·try rw [h3]
   try simp only [rfb] at h3
   refine a4j ?_
   all_goals (first | rfl | (simp_all;done))
  try rw [h3]
  try simp only [rfb] at h3
  refine a8A ?_
  refine ⟨(i+1),?_,?_,⟨⟨_,rfl,by rfl⟩,rfl,trivial⟩,trivial,rfl,rfl,rfl⟩
  ·omega
  omega
 try rw [h1]
 try simp only [rfb] at h1
 refine zgn ?_
 refine a3i ?_
 refine zst ?_
 refine y6 ?_
 refine a3 rfl rfl (k5 rfl (ArgsOK.of rfl) (E9 _ _ _) rfl) ?_
 refine zst ?_
 refine o8 rfl rfl rfl (fun h4=>?_) (fun h4=>?_)
 ·try rw [h4]
  try simp only [rfb] at h4
  refine a4j ?_
  all_goals (first | rfl | (simp_all;done))
 try rw [h4]
 try simp only [rfb] at h4
 refine a4j ?_
 all_goals (first | rfl | (simp_all;done))
theorem R3 (rs:List Route) (c:Int) (hn:rs.length≤1048576):Ctr Tryz.prog 130 [.lst 2 (rs.map u7),.v (.int .i64 c)] (.one (.v (.bool (okRts rs c)))):=by
 cases h:u4 c 1 2
 ·have e:okRts rs c=false:=by simp only [okRts,h,Bool.false_and]
  rw [e];exact a1A rs c hn h
 exact a0o rs c hn (by have:=p6.mp h;omega)
theorem a3q (rs:List Route) (c:Int) (hn:rs.length≤1048576):Ctr Tryz.prog 72 [.lst 2 (rs.map u7),.v (.int .i64 c)] (.shp false [some 4,none] [.fr 118 2 ((a21 rs c).1.rs.map u7),.fr 4 1 ((a21 rs c).1.en.map l0),.fr 4 1 ((a21 rs c).1.ra.map l0),.ne 113 4 ((a21 rs c).1.cp.map (H7 154 183)),.v (.bool (a21 rs c).2)]):=by
 refine Ctr.of (n:=40) G Tryz.func72 rfl (by kernel_rfl) rfl rfl rfl (fun w0=>?_)
 refine b4 (fun K1 hK1=>?_)
 refine a6 ?_
 refine a1 rfl ?_
 refine d7 G 1 rfl rfl rfl rfl rfl ?_
 refine a1 rfl ?_
 refine a3 rfl rfl (a7 rfl rfl) ?_
 refine a4 ?_
 refine hK1 _ ?_
 clear hK1 K1
 refine b4 (fun K2 hK2=>?_)
 refine b4 (fun K3 hK3=>?_)
 refine a6 ?_
 refine a1 rfl ?_
 refine a3 rfl rfl (a8 rfl rfl) ?_
 refine a1 rfl ?_
 refine a3 rfl rfl (a8 rfl rfl) ?_
 refine a1 rfl ?_
 refine a3 rfl rfl (k5 rfl (ArgsOK.of rfl) (R3 rs c hn) rfl) ?_
 refine a1 rfl ?_
 refine a3 rfl rfl (C2 rfl rfl) ?_
 refine a4 ?_
 refine hK3 _ ?_
 clear hK3 K3
 refine d1 rfl (fun h1=>?_) (fun h1=>?_)
 ·try rw [h1]
  try simp only [rfb] at h1
  have hM:=b1O (rs:=rs) h1
  refine b4 (fun K4 hK4=>?_)
  refine a6 ?_
  refine a1 rfl ?_
  refine a3 rfl rfl (g0 G rfl rfl rfl rfl) ?_
  refine a1 rfl ?_
  refine c5 G rfl rfl rfl rfl rfl rfl rfl rfl rfl rfl rfl ?_
  refine a1 rfl ?_
  refine a3 rfl rfl (a7 rfl rfl) ?_
  refine a4 ?_
  refine hK4 _ ?_
  clear hK4 K4
  refine c8 (l6 rfl rfl rfl rfl (a5 (o7 ?_) (a5 (o7 ?_) (a5 (o7 ?_) (a5 (H0 ?_) (a5 (g9 ?_) d4))))))
  all_goals clear hK2 K2
  all_goals (first | (rw [hM];done) | (rw [hM];rfl) | (rw [hM];simp [a5I];done) | (rw [hM];simp [noM];done) | (rw [hM];have e:k=n:=(by omega);subst e;first | done | rfl | (simp [a5I];done)))
 ·try rw [h1]
  try simp only [rfb] at h1
  have hM:=a82 (rs:=rs) h1
  have hr:=z4.mp h1
  obtain ⟨n,rfl⟩:∃ n:Nat,c=n:=⟨c.toNat,by omega⟩
  refine e9 ?_
  refine hK2 _ ?_
  clear hK2 K2
  refine b4 (fun K5 hK5=>?_)
  refine j9 9 [0] m5 (by kernel_rfl) rfl rfl (fun r0=>?_) (fun _ h=>h)
  refine b9 1 rfl (by kernel_rfl) (by kernel_rfl) rfl rfl rfl rfl (a8 rfl rfl) ?_
  refine z8 (N:=6) rfl (s2 (fuel:=3) [⟨0,13,1,false,.row 118 2 []⟩,⟨3,16,2,false,.row 4 1 (List.replicate 8 [.bool false])⟩,⟨4,17,3,false,.row 4 1 (List.replicate 8 [.bool false])⟩,⟨5,18,4,false,.row 113 4 []⟩,⟨7,6,5,true,.box (avR [.slice none 0 0,.slice none 0 0,.slice none 0 0,.slice none 0 0] [])⟩] (AllVOK.cons (VOK.lit G rfl rfl rfl rfl rfl) (AllVOK.cons (VOK.make (n:=8) G rfl rfl rfl rfl rfl (by decide) (by decide)) (AllVOK.cons (VOK.make (n:=8) G rfl rfl rfl rfl rfl (by decide) (by decide)) (AllVOK.cons (VOK.lit G rfl rfl rfl rfl rfl) (AllVOK.cons (VOK.boxS G rfl rfl rfl rfl rfl) (AllVOK.nil)))))) (fun hok=>?_))
  refine n6 [(2,[0])] (by kernel_rfl) (by kernel_rfl) (fun e he=>hok e he) (by kernel_rfl) (AllVS.cons ?_ AllVS.nil)
  refine VStep.mk1 [0] 13 (.own 1) 1 (.row 118 2 []) [⟨3,16,2,false,.row 4 1 (List.replicate 8 [.bool false])⟩,⟨4,17,3,false,.row 4 1 (List.replicate 8 [.bool false])⟩,⟨5,18,4,false,.row 113 4 []⟩,⟨7,6,5,true,.box (avR [.slice none 0 0,.slice none 0 0,.slice none 0 0,.slice none 0 0] [])⟩] rfl rfl rfl rfl rfl (fun b1 _ hbn=>f7 G (by rw [hbn];exact Nat.le_of_ble_eq_true rfl) rfl rfl rfl rfl rfl rfl rfl rfl rfl (by first | (simp;omega) | (simp only [List.length_map,List.length_cons,List.length_nil,List.length_replicate];omega)) rfl rfl (a4 rfl)) (by kernel_rfl) (by kernel_rfl) (by kernel_rfl) (by kernel_rfl) ?_
  refine n6 [(6,[3,4,5])] (by kernel_rfl) (by kernel_rfl) (fun e he=>hok e (vin (is:=[0]) rfl he)) (by kernel_rfl) (AllVS.cons ?_ AllVS.nil)
  refine VStep.mk3 [0] 16 (.own 2) 2 (.row 4 1 (List.replicate 8 [.bool false])) 17 (.own 3) 3 (.row 4 1 (List.replicate 8 [.bool false])) 18 (.own 4) 4 (.row 113 4 []) [⟨7,6,5,true,.box (avR [.slice none 0 0,.slice none 0 0,.slice none 0 0,.slice none 0 0] [])⟩] rfl rfl rfl rfl rfl (fun b1 _ hbn=>a3 rfl rfl (g0 G rfl rfl rfl rfl) (a4 rfl)) (by kernel_rfl) (by kernel_rfl) (by kernel_rfl) (by kernel_rfl) ?_
  refine n6 [(8,[7])] (by kernel_rfl) (by kernel_rfl) (fun e he=>hok e (vin (is:=[0,3,4,5]) rfl he)) (by kernel_rfl) (AllVS.cons ?_ AllVS.nil)
  refine VStep.mk1 [0] 6 (.ptr 5 0) 5 (.box (avR [.slice none 0 0,.slice none 0 0,.slice none 0 0,.slice none 0 0] [])) [] rfl rfl rfl rfl rfl (fun b1 _ hbn=>c5 G rfl rfl rfl rfl rfl rfl rfl rfl rfl rfl rfl (a4 rfl)) (by kernel_rfl) (by kernel_rfl) (by kernel_rfl) (by kernel_rfl) ?_
  refine F8 ?_
  clear hok
  refine a5Z (Gh.nest (id:=4) (yss:=[]) rfl rfl (by intro _ _ _ h;simp at h)) ?_
  refine l9 (by kernel_rfl) ?_
  refine hK5 _ ?_
  clear hK5 K5
  refine b4 (fun K6 hK6=>?_)
  refine b4 (fun K7 hK7=>?_)
  refine a6 ?_
  refine a1 rfl ?_
  refine a3 rfl rfl (a7 rfl rfl) ?_
  refine a4 ?_
  refine hK7 _ ?_
  clear hK7 K7
  refine l8 ?_
  refine m4 [1,4,6] [0,1,2,3,5] (fun (k:Nat)=>[(7,.v (.int .i64 (k:Int)))]) (fun (k:Nat)=>[(4,some (.nest 113 4 ((List.replicate k a9L).map (H7 154 183)) []))]) (fun (k:Nat)=>k≤n) (fun (k:Nat)=>n - k) 0 rfl rfl ?_ ?_ ?_ ?_
  ·exact Nat.zero_le _
  ·exact ⟨⟨_,rfl,by (first | rfl | (simp;done) | (simp;omega))⟩,rfl,trivial⟩
  ·exact ⟨⟨_,rfl,by rfl⟩,rfl,rfl,trivial⟩
  ·intro k hinv
   simp only [List.cons_append,List.nil_append]
   refine b4 (fun K8 hK8=>?_)
   refine b4 (fun K9 hK9=>?_)
   refine a6 ?_
   refine a1 rfl ?_
   refine a3 rfl rfl (a8 rfl rfl) ?_
   refine a1 rfl ?_
   refine a3 rfl rfl (a8 rfl rfl) ?_
   refine a1 rfl ?_
   refine a3 rfl rfl (f9 rfl rfl rfl rfl) ?_
   refine a4 ?_
   refine hK9 _ ?_
   clear hK9 K9
   refine d1 rfl (fun h2=>?_) (fun h2=>?_)
   ·try rw [h2]
    try simp only [rfb] at h2
    refine e9 ?_
    refine hK8 _ ?_
    clear hK8 K8
    refine b4 (fun K10 hK10=>?_)
    refine l8 ?_
    refine a6 ?_
    refine a1 rfl ?_
    refine a3 rfl rfl (b7 G rfl rfl rfl rfl) ?_
    refine a1 rfl ?_
    refine a3 rfl rfl (c4 G rfl rfl rfl rfl rfl rfl rfl) ?_
    refine a1 rfl ?_
    refine k6 G 7 rfl rfl rfl rfl rfl rfl rfl rfl ?_
    refine a1 rfl ?_
    refine a3 rfl rfl (g0 G rfl rfl rfl rfl) ?_
    refine a1 rfl ?_
    refine a3 rfl rfl (g0 G rfl rfl rfl rfl) ?_
    refine a1 rfl ?_
    refine a3 rfl rfl (g0 G rfl rfl rfl rfl) ?_
    refine a1 rfl ?_
    refine a3 rfl rfl (g0 G rfl rfl rfl rfl) ?_
    refine a1 rfl ?_
    refine k6 G 8 rfl rfl rfl rfl rfl rfl rfl rfl ?_
    refine a1 rfl ?_
    refine k6 G 9 rfl rfl rfl rfl rfl rfl rfl rfl ?_
    refine a1 rfl ?_
    refine a3 rfl rfl (g0 G rfl rfl rfl rfl) ?_
    refine a1 rfl ?_
    refine a3 rfl rfl (g0 G rfl rfl rfl rfl) ?_
    refine a1 rfl ?_
    refine v3 G 10 rfl rfl rfl rfl rfl rfl rfl rfl (.v rfl (.own rfl (.own rfl (.own rfl .nil)))) rfl rfl rfl rfl ?_
    refine a1 rfl ?_
    refine s4 (Gh.forget (id:=5) (k:=3) rfl rfl)<|s4 (Gh.keep [0,1,2,3,4,5,9] rfl)<|s5 G np rfl rfl rfl rfl rfl rfl rfl rfl rfl rfl (by first | (simp;omega) | (simp only [List.length_map,List.length_cons,List.length_nil,List.length_replicate];omega)) rfl rfl ?_
    refine a1 rfl ?_
    refine a3 rfl rfl (b7 G rfl rfl rfl rfl) ?_
    refine a1 rfl ?_
    refine c5 G rfl rfl rfl rfl rfl rfl rfl rfl rfl rfl rfl ?_
    refine a4 ?_
    refine hK10 _ ?_
    clear hK10 K10
    refine a6 ?_
    refine a1 rfl ?_
    refine a3 rfl rfl (a8 rfl rfl) ?_
    refine a1 rfl ?_
    first | refine a3 rfl rfl (i8 rfl rfl rfl rfl (by omega) (by omega)) ?_ | refine a3 rfl rfl (k4 rfl rfl rfl rfl) ?_
    refine a1 rfl ?_
    refine a3 rfl rfl (a7 rfl rfl) ?_
    refine a4 ⟨(k+1),?_,?_,⟨⟨_,rfl,by rfl⟩,rfl,trivial⟩,⟨⟨_,rfl,by exact congrArg (fun z=>Row.nest _ _ z []) (b0N rfl)⟩,rfl,rfl,trivial⟩,rfl,rfl,rfl⟩
    ·omega
    ·omega
   ·try rw [h2]
    try simp only [rfb] at h2
    refine B0 ?_
    refine hK6 _ ?_
    clear hK8 K8 hK6 K6
    refine b4 (fun K11 hK11=>?_)
    refine a6 ?_
    refine a1 rfl ?_
    refine a3 rfl rfl (b3 G rfl rfl rfl rfl rfl rfl) ?_
    refine a1 rfl ?_
    refine c5 G rfl rfl rfl rfl rfl rfl rfl rfl rfl rfl rfl ?_
    refine a1 rfl ?_
    refine a3 rfl rfl (a7 rfl rfl) ?_
    refine a4 ?_
    refine hK11 _ ?_
    clear hK11 K11
    refine c8 (l6 rfl rfl rfl rfl (a5 (b8 rfl ?_) (a5 (b8 rfl ?_) (a5 (b8 rfl ?_) (a5 (u2 rfl ?_) (a5 (g9 ?_) d4))))))
    all_goals (first | (rw [hM];done) | (rw [hM];rfl) | (rw [hM];simp [a5I];done) | (rw [hM];simp [noM];done) | (rw [hM];have e:k=n:=(by omega);subst e;first | done | rfl | (simp [a5I];done)))
end Go.Proofs.YtcnodpipinlpcaaGreat
set_option maxRecDepth 20000
namespace Go.Proofs.YtcnodpipinlpcaaGreat
open Go Go.Rf
theorem a3V (m:Mach) (s:MStep) (hn:m.cp.length≤1048576):Ctr Tryz.prog 134 [.agg [.lst 2 (m.rs.map u7),.lst 1 (m.en.map l0),.lst 1 (m.ra.map l0),.nst none 4 (m.cp.map (H7 154 183))],.v (a0g s)] (.one (.v (.bool (f8 m.cp.length s)))):=by
 refine Ctr.of (n:=90) G Tryz.func134 rfl (by kernel_rfl) rfl rfl rfl (fun w0=>?_)
 refine r8 0 rfl (fun _=>rfl) (fun u0=>?_)
 refine b4 (fun K1 hK1=>?_)
 refine a6 ?_
 refine a1 rfl ?_
 refine y4 1 rfl rfl rfl rfl rfl rfl rfl ?_
 refine a1 rfl ?_
 refine y4 2 rfl rfl rfl rfl rfl rfl rfl ?_
 refine a1 rfl ?_
 refine a3 rfl rfl (a7 rfl rfl) ?_
 refine a4 ?_
 refine hK1 _ ?_
 clear hK1 K1
 refine b4 (fun K2 hK2=>?_)
 refine a6 ?_
 refine a1 rfl ?_
 refine a3 rfl rfl (b7 G rfl rfl rfl rfl) ?_
 refine a1 rfl ?_
 refine a3 rfl rfl (c4 G rfl rfl rfl rfl rfl rfl rfl) ?_
 refine a1 rfl ?_
 refine a3 rfl rfl (b7 G rfl rfl rfl rfl) ?_
 refine a1 rfl ?_
 refine a3 rfl rfl (a1e (c4 G rfl rfl rfl rfl rfl rfl rfl)) ?_
 refine a1 rfl ?_
 first | refine a3 rfl rfl (r4 G rfl rfl rfl rfl (List.length_map _)) ?_ | refine a3 rfl rfl (t6 G rfl rfl rfl rfl) ?_
 refine a1 rfl ?_
 first | refine a3 rfl rfl (i8 rfl rfl rfl rfl (by omega) (by omega)) ?_ | refine a3 rfl rfl (k4 rfl rfl rfl rfl) ?_
 refine a1 rfl ?_
 refine a3 rfl rfl (k5 rfl (ArgsOK.of rfl) (E9 _ _ _) rfl) ?_
 refine a1 rfl ?_
 refine a3 rfl rfl (a7 rfl rfl) ?_
 refine a4 ?_
 refine hK2 _ ?_
 clear hK2 K2
 refine b4 (fun K3 hK3=>?_)
 refine b4 (fun K4 hK4=>?_)
 refine a6 ?_
 refine a1 rfl ?_
 refine a3 rfl rfl (b7 G rfl rfl rfl rfl) ?_
 refine a1 rfl ?_
 refine a3 rfl rfl (c4 G rfl rfl rfl rfl rfl rfl rfl) ?_
 refine a4 ?_
 refine hK4 _ ?_
 clear hK4 K4
 refine l8 ?_
 refine b4 (fun K5 hK5=>?_)
 refine a6 ?_
 refine a1 rfl ?_
 refine a3 rfl rfl (f9 rfl rfl rfl rfl) ?_
 refine a1 rfl ?_
 refine a3 rfl rfl (a7 rfl rfl) ?_
 refine a4 ?_
 refine hK5 _ ?_
 clear hK5 K5
 refine d1 rfl (fun h1=>?_) (fun h1=>?_)
 ·try rw [h1]
  try simp only [rfb] at h1
  refine b4 (fun K6 hK6=>?_)
  refine a6 ?_
  refine a1 rfl ?_
  refine a3 rfl rfl (b7 G rfl rfl rfl rfl) ?_
  refine a1 rfl ?_
  refine a3 rfl rfl (c4 G rfl rfl rfl rfl rfl rfl rfl) ?_
  refine a1 rfl ?_
  refine a3 rfl rfl (k5 rfl (ArgsOK.of rfl) (F9 _) rfl) ?_
  refine a1 rfl (a3 rfl rfl (a8 rfl rfl) (o8 rfl rfl rfl (fun h2=>?_) (fun h2=>?_)))
  ·try rw [h2]
   try simp only [rfb] at h2
   refine c6 rfl rfl rfl (a3 rfl rfl (b7 G rfl rfl rfl rfl) (c6 rfl rfl rfl (a3 rfl rfl (c4 G rfl rfl rfl rfl rfl rfl rfl) (c6 rfl rfl rfl (a3 rfl rfl (f9 rfl rfl rfl rfl) (a1 rfl (a3 rfl rfl (i5 rfl rfl rfl) (a1 rfl (a3 rfl rfl (a8 rfl rfl) (o8 rfl rfl rfl (fun h3=>?_) (fun h3=>?_)))))))))))
   ·try rw [h3]
    try simp only [rfb] at h3
    refine c6 rfl rfl rfl ?_
    refine a3 rfl rfl (b7 G rfl rfl rfl rfl) ?_
    refine c6 rfl rfl rfl ?_
    refine a3 rfl rfl (c4 G rfl rfl rfl rfl rfl rfl rfl) ?_
    refine c6 rfl rfl rfl ?_
    refine a3 rfl rfl (f9 rfl rfl rfl rfl) ?_
    refine a1 rfl ?_
    refine a3 rfl rfl (i5 rfl rfl rfl) ?_
    refine a1 rfl ?_
    refine a3 rfl rfl (a7 rfl rfl) ?_
    refine a4 ?_
    refine hK6 _ ?_
    clear hK6 K6
    refine c8 ?_
    refine j4 rfl ?_
    refine g9 ?_
    all_goals clear hK3 K3
    all_goals (first | rfl | (simp [f8, *];done) | (simp [f8, *];rfl) | (simp [f8, *,m6,r6];done))
   ·try rw [h3]
    try simp only [rfb] at h3
    refine b6 rfl rfl rfl rfl rfl rfl ?_
    refine b6 rfl rfl rfl rfl rfl rfl ?_
    refine b6 rfl rfl rfl rfl rfl rfl ?_
    refine a1 rfl ?_
    refine a3 rfl rfl (i7 rfl rfl rfl) ?_
    refine a1 rfl ?_
    refine a3 rfl rfl (a7 rfl rfl) ?_
    refine a4 ?_
    refine hK6 _ ?_
    clear hK6 K6
    refine c8 ?_
    refine j4 rfl ?_
    refine g9 ?_
    all_goals clear hK3 K3
    all_goals (first | rfl | (simp [f8, *];done) | (simp [f8, *];rfl) | (simp [f8, *,m6,r6];done))
  ·try rw [h2]
   try simp only [rfb] at h2
   refine b6 rfl rfl rfl rfl rfl rfl ?_
   refine b6 rfl rfl rfl rfl rfl rfl ?_
   refine b6 rfl rfl rfl rfl rfl rfl ?_
   refine a1 rfl ?_
   refine a3 rfl rfl (i7 rfl rfl rfl) ?_
   refine a1 rfl ?_
   refine a3 rfl rfl (a8 rfl rfl) ?_
   refine b6 rfl rfl rfl rfl rfl rfl ?_
   refine b6 rfl rfl rfl rfl rfl rfl ?_
   refine b6 rfl rfl rfl rfl rfl rfl ?_
   refine a1 rfl ?_
   refine a3 rfl rfl (i7 rfl rfl rfl) ?_
   refine a1 rfl ?_
   refine a3 rfl rfl (a7 rfl rfl) ?_
   refine a4 ?_
   refine hK6 _ ?_
   clear hK6 K6
   refine c8 ?_
   refine j4 rfl ?_
   refine g9 ?_
   all_goals clear hK3 K3
   all_goals (first | rfl | (simp [f8, *];done) | (simp [f8, *];rfl) | (simp [f8, *,m6,r6];done))
 ·try rw [h1]
  try simp only [rfb] at h1
  refine b4 (fun K7 hK7=>?_)
  refine a6 ?_
  refine a1 rfl ?_
  refine a3 rfl rfl (f9 rfl rfl rfl rfl) ?_
  refine a1 rfl ?_
  refine a3 rfl rfl (a7 rfl rfl) ?_
  refine a4 ?_
  refine hK7 _ ?_
  clear hK7 K7
  refine d1 rfl (fun h4=>?_) (fun h4=>?_)
  ·try rw [h4]
   try simp only [rfb] at h4
   refine b4 (fun K8 hK8=>?_)
   refine a6 (a1 rfl (a3 rfl rfl (b7 G rfl rfl rfl rfl) (a1 rfl (a3 rfl rfl (c4 G rfl rfl rfl rfl rfl rfl rfl) (a1 rfl (a3 rfl rfl (f9 rfl rfl rfl rfl) (a1 rfl (a3 rfl rfl (a8 rfl rfl) (o8 rfl rfl rfl (fun h5=>?_) (fun h5=>?_))))))))))
   ·try rw [h5]
    try simp only [rfb] at h5
    refine c6 rfl rfl rfl (a3 rfl rfl (b7 G rfl rfl rfl rfl) (c6 rfl rfl rfl (a3 rfl rfl (c4 G rfl rfl rfl rfl rfl rfl rfl) (c6 rfl rfl rfl (a3 rfl rfl (f9 rfl rfl rfl rfl) (a1 rfl (a3 rfl rfl (i5 rfl rfl rfl) (a1 rfl (a3 rfl rfl (a8 rfl rfl) (o8 rfl rfl rfl (fun h6=>?_) (fun h6=>?_)))))))))))
    ·try rw [h6]
     try simp only [rfb] at h6
     refine c6 rfl rfl rfl ?_
     refine a3 rfl rfl (b7 G rfl rfl rfl rfl) ?_
     refine c6 rfl rfl rfl ?_
     refine a3 rfl rfl (c4 G rfl rfl rfl rfl rfl rfl rfl) ?_
     refine c6 rfl rfl rfl ?_
     refine a3 rfl rfl (f9 rfl rfl rfl rfl) ?_
     refine a1 rfl ?_
     refine a3 rfl rfl (i5 rfl rfl rfl) ?_
     refine a1 rfl ?_
     refine a3 rfl rfl (a7 rfl rfl) ?_
     refine a4 ?_
     refine hK8 _ ?_
     clear hK8 K8
     refine c8 ?_
     refine j4 rfl ?_
     refine g9 ?_
     all_goals clear hK3 K3
     all_goals (first | rfl | (simp [f8, *];done) | (simp [f8, *];rfl) | (simp [f8, *,m6,r6];done))
    ·try rw [h6]
     try simp only [rfb] at h6
     refine b6 rfl rfl rfl rfl rfl rfl ?_
     refine b6 rfl rfl rfl rfl rfl rfl ?_
     refine b6 rfl rfl rfl rfl rfl rfl ?_
     refine a1 rfl ?_
     refine a3 rfl rfl (i7 rfl rfl rfl) ?_
     refine a1 rfl ?_
     refine a3 rfl rfl (a7 rfl rfl) ?_
     refine a4 ?_
     refine hK8 _ ?_
     clear hK8 K8
     refine c8 ?_
     refine j4 rfl ?_
     refine g9 ?_
     all_goals clear hK3 K3
     all_goals (first | rfl | (simp [f8, *];done) | (simp [f8, *];rfl) | (simp [f8, *,m6,r6];done))
   ·try rw [h5]
    try simp only [rfb] at h5
    refine b6 rfl rfl rfl rfl rfl rfl ?_
    refine b6 rfl rfl rfl rfl rfl rfl ?_
    refine b6 rfl rfl rfl rfl rfl rfl ?_
    refine a1 rfl ?_
    refine a3 rfl rfl (i7 rfl rfl rfl) ?_
    refine a1 rfl ?_
    refine a3 rfl rfl (a8 rfl rfl) ?_
    refine b6 rfl rfl rfl rfl rfl rfl ?_
    refine b6 rfl rfl rfl rfl rfl rfl ?_
    refine b6 rfl rfl rfl rfl rfl rfl ?_
    refine a1 rfl ?_
    refine a3 rfl rfl (i7 rfl rfl rfl) ?_
    refine a1 rfl ?_
    refine a3 rfl rfl (a7 rfl rfl) ?_
    refine a4 ?_
    refine hK8 _ ?_
    clear hK8 K8
    refine c8 ?_
    refine j4 rfl ?_
    refine g9 ?_
    all_goals clear hK3 K3
    all_goals (first | rfl | (simp [f8, *];done) | (simp [f8, *];rfl) | (simp [f8, *,m6,r6];done))
  ·try rw [h4]
   try simp only [rfb] at h4
   refine b4 (fun K9 hK9=>?_)
   refine b4 (fun K10 hK10=>?_)
   refine a6 ?_
   refine a1 rfl ?_
   refine a3 rfl rfl (f9 rfl rfl rfl rfl) ?_
   refine a1 rfl ?_
   refine a3 rfl rfl (a7 rfl rfl) ?_
   refine a4 ?_
   refine hK10 _ ?_
   clear hK10 K10
   refine d1 rfl (fun h7=>?_) (fun h7=>?_)
   ·try rw [h7]
    try simp only [rfb] at h7
    refine e9 ?_
    refine hK9 _ ?_
    clear hK9 K9
    refine r7 rfl ?_
    refine b4 (fun K11 hK11=>?_)
    refine a6 (a1 rfl (a3 rfl rfl (b7 G rfl rfl rfl rfl) (a1 rfl (a3 rfl rfl (c4 G rfl rfl rfl rfl rfl rfl rfl) (a1 rfl (a3 rfl rfl (f9 rfl rfl rfl rfl) (a1 rfl (a3 rfl rfl (a8 rfl rfl) (o8 rfl rfl rfl (fun h8=>?_) (fun h8=>?_))))))))))
    ·try rw [h8]
     try simp only [rfb] at h8
     refine c6 rfl rfl rfl (a3 rfl rfl (a8 rfl rfl) (a1 rfl (a3 rfl rfl (i5 rfl rfl rfl) (a1 rfl (a3 rfl rfl (a8 rfl rfl) (o8 rfl rfl rfl (fun h9=>?_) (fun h9=>?_)))))))
     ·try rw [h9]
      try simp only [rfb] at h9
      refine c6 rfl rfl rfl ?_
      refine a3 rfl rfl (b7 G rfl rfl rfl rfl) ?_
      refine c6 rfl rfl rfl ?_
      refine a3 rfl rfl (c4 G rfl rfl rfl rfl rfl rfl rfl) ?_
      refine c6 rfl rfl rfl ?_
      refine a3 rfl rfl (f9 rfl rfl rfl rfl) ?_
      refine a1 rfl ?_
      refine a3 rfl rfl (i5 rfl rfl rfl) ?_
      refine a1 rfl ?_
      refine a3 rfl rfl (a7 rfl rfl) ?_
      refine a4 ?_
      refine hK11 _ ?_
      clear hK11 K11
      refine c8 ?_
      refine j4 rfl ?_
      refine g9 ?_
      all_goals clear hK3 K3
      all_goals (first | rfl | (simp [f8, *];done) | (simp [f8, *];rfl) | (simp [f8, *,m6,r6];done))
     ·try rw [h9]
      try simp only [rfb] at h9
      refine b6 rfl rfl rfl rfl rfl rfl ?_
      refine b6 rfl rfl rfl rfl rfl rfl ?_
      refine b6 rfl rfl rfl rfl rfl rfl ?_
      refine a1 rfl ?_
      refine a3 rfl rfl (i7 rfl rfl rfl) ?_
      refine a1 rfl ?_
      refine a3 rfl rfl (a7 rfl rfl) ?_
      refine a4 ?_
      refine hK11 _ ?_
      clear hK11 K11
      refine c8 ?_
      refine j4 rfl ?_
      refine g9 ?_
      all_goals clear hK3 K3
      all_goals (first | rfl | (simp [f8, *];done) | (simp [f8, *];rfl) | (simp [f8, *,m6,r6];done))
    ·try rw [h8]
     try simp only [rfb] at h8
     refine b6 rfl rfl rfl rfl rfl rfl ?_
     refine a1 rfl ?_
     refine a3 rfl rfl (i7 rfl rfl rfl) ?_
     refine a1 rfl ?_
     refine a3 rfl rfl (a8 rfl rfl) ?_
     refine b6 rfl rfl rfl rfl rfl rfl ?_
     refine b6 rfl rfl rfl rfl rfl rfl ?_
     refine b6 rfl rfl rfl rfl rfl rfl ?_
     refine a1 rfl ?_
     refine a3 rfl rfl (i7 rfl rfl rfl) ?_
     refine a1 rfl ?_
     refine a3 rfl rfl (a7 rfl rfl) ?_
     refine a4 ?_
     refine hK11 _ ?_
     clear hK11 K11
     refine c8 ?_
     refine j4 rfl ?_
     refine g9 ?_
     all_goals clear hK3 K3
     all_goals (first | rfl | (simp [f8, *];done) | (simp [f8, *];rfl) | (simp [f8, *,m6,r6];done))
   ·try rw [h7]
    try simp only [rfb] at h7
    refine a6 ?_
    refine a1 rfl ?_
    refine a3 rfl rfl (f9 rfl rfl rfl rfl) ?_
    refine a1 rfl ?_
    refine a3 rfl rfl (a7 rfl rfl) ?_
    refine a4 ?_
    refine hK9 _ ?_
    clear hK9 K9
    refine d1 rfl (fun h10=>?_) (fun h10=>?_)
    ·try rw [h10]
     try simp only [rfb] at h10
     refine b4 (fun K12 hK12=>?_)
     refine a6 (a1 rfl (a3 rfl rfl (b7 G rfl rfl rfl rfl) (a1 rfl (a3 rfl rfl (c4 G rfl rfl rfl rfl rfl rfl rfl) (a1 rfl (a3 rfl rfl (f9 rfl rfl rfl rfl) (a1 rfl (a3 rfl rfl (a8 rfl rfl) (o8 rfl rfl rfl (fun h11=>?_) (fun h11=>?_))))))))))
     ·try rw [h11]
      try simp only [rfb] at h11
      refine c6 rfl rfl rfl (a3 rfl rfl (a8 rfl rfl) (a1 rfl (a3 rfl rfl (i5 rfl rfl rfl) (a1 rfl (a3 rfl rfl (a8 rfl rfl) (o8 rfl rfl rfl (fun h12=>?_) (fun h12=>?_)))))))
      ·try rw [h12]
       try simp only [rfb] at h12
       refine c6 rfl rfl rfl ?_
       refine a3 rfl rfl (b7 G rfl rfl rfl rfl) ?_
       refine c6 rfl rfl rfl ?_
       refine a3 rfl rfl (c4 G rfl rfl rfl rfl rfl rfl rfl) ?_
       refine c6 rfl rfl rfl ?_
       refine a3 rfl rfl (f9 rfl rfl rfl rfl) ?_
       refine a1 rfl ?_
       refine a3 rfl rfl (i5 rfl rfl rfl) ?_
       refine a1 rfl ?_
       refine a3 rfl rfl (a7 rfl rfl) ?_
       refine a4 ?_
       refine hK12 _ ?_
       clear hK12 K12
       refine c8 ?_
       refine j4 rfl ?_
       refine g9 ?_
       all_goals clear hK3 K3
       all_goals (first | rfl | (simp [f8, *];done) | (simp [f8, *];rfl) | (simp [f8, *,m6,r6];done))
      ·try rw [h12]
       try simp only [rfb] at h12
       refine b6 rfl rfl rfl rfl rfl rfl ?_
       refine b6 rfl rfl rfl rfl rfl rfl ?_
       refine b6 rfl rfl rfl rfl rfl rfl ?_
       refine a1 rfl ?_
       refine a3 rfl rfl (i7 rfl rfl rfl) ?_
       refine a1 rfl ?_
       refine a3 rfl rfl (a7 rfl rfl) ?_
       refine a4 ?_
       refine hK12 _ ?_
       clear hK12 K12
       refine c8 ?_
       refine j4 rfl ?_
       refine g9 ?_
       all_goals clear hK3 K3
       all_goals (first | rfl | (simp [f8, *];done) | (simp [f8, *];rfl) | (simp [f8, *,m6,r6];done))
     ·try rw [h11]
      try simp only [rfb] at h11
      refine b6 rfl rfl rfl rfl rfl rfl ?_
      refine a1 rfl ?_
      refine a3 rfl rfl (i7 rfl rfl rfl) ?_
      refine a1 rfl ?_
      refine a3 rfl rfl (a8 rfl rfl) ?_
      refine b6 rfl rfl rfl rfl rfl rfl ?_
      refine b6 rfl rfl rfl rfl rfl rfl ?_
      refine b6 rfl rfl rfl rfl rfl rfl ?_
      refine a1 rfl ?_
      refine a3 rfl rfl (i7 rfl rfl rfl) ?_
      refine a1 rfl ?_
      refine a3 rfl rfl (a7 rfl rfl) ?_
      refine a4 ?_
      refine hK12 _ ?_
      clear hK12 K12
      refine c8 ?_
      refine j4 rfl ?_
      refine g9 ?_
      all_goals clear hK3 K3
      all_goals (first | rfl | (simp [f8, *];done) | (simp [f8, *];rfl) | (simp [f8, *,m6,r6];done))
    ·try rw [h10]
     try simp only [rfb] at h10
     refine b4 (fun K13 hK13=>?_)
     refine a6 ?_
     refine a1 rfl ?_
     refine a3 rfl rfl (f9 rfl rfl rfl rfl) ?_
     refine a1 rfl ?_
     refine a3 rfl rfl (a7 rfl rfl) ?_
     refine a4 ?_
     refine hK13 _ ?_
     clear hK13 K13
     refine d1 rfl (fun h13=>?_) (fun h13=>?_)
     ·try rw [h13]
      try simp only [rfb] at h13
      refine b4 (fun K14 hK14=>?_)
      refine a6 (a1 rfl (a3 rfl rfl (b7 G rfl rfl rfl rfl) (a1 rfl (a3 rfl rfl (c4 G rfl rfl rfl rfl rfl rfl rfl) (a1 rfl (a3 rfl rfl (f9 rfl rfl rfl rfl) (a1 rfl (a3 rfl rfl (a8 rfl rfl) (o8 rfl rfl rfl (fun h14=>?_) (fun h14=>?_))))))))))
      ·try rw [h14]
       try simp only [rfb] at h14
       refine c6 rfl rfl rfl (a3 rfl rfl (a8 rfl rfl) (a1 rfl (a3 rfl rfl (i5 rfl rfl rfl) (a1 rfl (a3 rfl rfl (a8 rfl rfl) (o8 rfl rfl rfl (fun h15=>?_) (fun h15=>?_)))))))
       ·try rw [h15]
        try simp only [rfb] at h15
        refine c6 rfl rfl rfl ?_
        refine a3 rfl rfl (b7 G rfl rfl rfl rfl) ?_
        refine c6 rfl rfl rfl ?_
        refine a3 rfl rfl (c4 G rfl rfl rfl rfl rfl rfl rfl) ?_
        refine c6 rfl rfl rfl ?_
        refine a3 rfl rfl (k5 rfl (ArgsOK.of rfl) (E9 _ _ _) rfl) ?_
        refine a1 rfl ?_
        refine a3 rfl rfl (i5 rfl rfl rfl) ?_
        refine a1 rfl ?_
        refine a3 rfl rfl (a7 rfl rfl) ?_
        refine a4 ?_
        refine hK14 _ ?_
        clear hK14 K14
        refine c8 ?_
        refine j4 rfl ?_
        refine g9 ?_
        all_goals clear hK3 K3
        all_goals (first | rfl | (simp [f8, *];done) | (simp [f8, *];rfl) | (simp [f8, *,m6,r6];done))
       ·try rw [h15]
        try simp only [rfb] at h15
        refine b6 rfl rfl rfl rfl rfl rfl ?_
        refine b6 rfl rfl rfl rfl rfl rfl ?_
        refine b6 rfl rfl rfl rfl rfl rfl ?_
        refine a1 rfl ?_
        refine a3 rfl rfl (i7 rfl rfl rfl) ?_
        refine a1 rfl ?_
        refine a3 rfl rfl (a7 rfl rfl) ?_
        refine a4 ?_
        refine hK14 _ ?_
        clear hK14 K14
        refine c8 ?_
        refine j4 rfl ?_
        refine g9 ?_
        all_goals clear hK3 K3
        all_goals (first | rfl | (simp [f8, *];done) | (simp [f8, *];rfl) | (simp [f8, *,m6,r6];done))
      ·try rw [h14]
       try simp only [rfb] at h14
       refine b6 rfl rfl rfl rfl rfl rfl ?_
       refine a1 rfl ?_
       refine a3 rfl rfl (i7 rfl rfl rfl) ?_
       refine a1 rfl ?_
       refine a3 rfl rfl (a8 rfl rfl) ?_
       refine b6 rfl rfl rfl rfl rfl rfl ?_
       refine b6 rfl rfl rfl rfl rfl rfl ?_
       refine b6 rfl rfl rfl rfl rfl rfl ?_
       refine a1 rfl ?_
       refine a3 rfl rfl (i7 rfl rfl rfl) ?_
       refine a1 rfl ?_
       refine a3 rfl rfl (a7 rfl rfl) ?_
       refine a4 ?_
       refine hK14 _ ?_
       clear hK14 K14
       refine c8 ?_
       refine j4 rfl ?_
       refine g9 ?_
       all_goals clear hK3 K3
       all_goals (first | rfl | (simp [f8, *];done) | (simp [f8, *];rfl) | (simp [f8, *,m6,r6];done))
     ·try rw [h13]
      try simp only [rfb] at h13
      refine e9 ?_
      refine hK3 _ ?_
      clear hK3 K3
      refine b4 (fun K15 hK15=>?_)
      refine a6 (a1 rfl (a3 rfl rfl (b7 G rfl rfl rfl rfl) (a1 rfl (a3 rfl rfl (c4 G rfl rfl rfl rfl rfl rfl rfl) (a1 rfl (a3 rfl rfl (f9 rfl rfl rfl rfl) (a1 rfl (a3 rfl rfl (a8 rfl rfl) (o8 rfl rfl rfl (fun h16=>?_) (fun h16=>?_))))))))))
      ·try rw [h16]
       try simp only [rfb] at h16
       refine c6 rfl rfl rfl ?_
       refine a3 rfl rfl (b7 G rfl rfl rfl rfl) ?_
       refine c6 rfl rfl rfl ?_
       refine a3 rfl rfl (c4 G rfl rfl rfl rfl rfl rfl rfl) ?_
       refine c6 rfl rfl rfl ?_
       refine a3 rfl rfl (k5 rfl (ArgsOK.of rfl) (F9 _) rfl) ?_
       refine a1 rfl (a3 rfl rfl (i5 rfl rfl rfl) (a1 rfl (a3 rfl rfl (a8 rfl rfl) (o8 rfl rfl rfl (fun h17=>?_) (fun h17=>?_)))))
       ·try rw [h17]
        try simp only [rfb] at h17
        refine c6 rfl rfl rfl (a3 rfl rfl (b7 G rfl rfl rfl rfl) (c6 rfl rfl rfl (a3 rfl rfl (c4 G rfl rfl rfl rfl rfl rfl rfl) (c6 rfl rfl rfl (a3 rfl rfl (f9 rfl rfl rfl rfl) (a1 rfl (a3 rfl rfl (i5 rfl rfl rfl) (a1 rfl (a3 rfl rfl (a8 rfl rfl) (o8 rfl rfl rfl (fun h18=>?_) (fun h18=>?_)))))))))))
        ·try rw [h18]
         try simp only [rfb] at h18
         refine c6 rfl rfl rfl ?_
         refine a3 rfl rfl (b7 G rfl rfl rfl rfl) ?_
         refine c6 rfl rfl rfl ?_
         refine a3 rfl rfl (c4 G rfl rfl rfl rfl rfl rfl rfl) ?_
         refine c6 rfl rfl rfl ?_
         refine a3 rfl rfl (k5 rfl (ArgsOK.of rfl) (E9 _ _ _) rfl) ?_
         refine a1 rfl ?_
         refine a3 rfl rfl (i5 rfl rfl rfl) ?_
         refine a1 rfl ?_
         refine a3 rfl rfl (a7 rfl rfl) ?_
         refine a4 ?_
         refine hK15 _ ?_
         clear hK15 K15
         refine c8 ?_
         refine j4 rfl ?_
         refine g9 ?_
         all_goals (first | rfl | (simp [f8, *];done) | (simp [f8, *];rfl) | (simp [f8, *,m6,r6];done))
        ·try rw [h18]
         try simp only [rfb] at h18
         refine b6 rfl rfl rfl rfl rfl rfl ?_
         refine b6 rfl rfl rfl rfl rfl rfl ?_
         refine b6 rfl rfl rfl rfl rfl rfl ?_
         refine a1 rfl ?_
         refine a3 rfl rfl (i7 rfl rfl rfl) ?_
         refine a1 rfl ?_
         refine a3 rfl rfl (a7 rfl rfl) ?_
         refine a4 ?_
         refine hK15 _ ?_
         clear hK15 K15
         refine c8 ?_
         refine j4 rfl ?_
         refine g9 ?_
         all_goals (first | rfl | (simp [f8, *];done) | (simp [f8, *];rfl) | (simp [f8, *,m6,r6];done))
       ·try rw [h17]
        try simp only [rfb] at h17
        refine b6 rfl rfl rfl rfl rfl rfl ?_
        refine b6 rfl rfl rfl rfl rfl rfl ?_
        refine b6 rfl rfl rfl rfl rfl rfl ?_
        refine a1 rfl ?_
        refine a3 rfl rfl (i7 rfl rfl rfl) ?_
        refine a1 rfl ?_
        refine a3 rfl rfl (a8 rfl rfl) ?_
        refine b6 rfl rfl rfl rfl rfl rfl ?_
        refine b6 rfl rfl rfl rfl rfl rfl ?_
        refine b6 rfl rfl rfl rfl rfl rfl ?_
        refine a1 rfl ?_
        refine a3 rfl rfl (i7 rfl rfl rfl) ?_
        refine a1 rfl ?_
        refine a3 rfl rfl (a7 rfl rfl) ?_
        refine a4 ?_
        refine hK15 _ ?_
        clear hK15 K15
        refine c8 ?_
        refine j4 rfl ?_
        refine g9 ?_
        all_goals (first | rfl | (simp [f8, *];done) | (simp [f8, *];rfl) | (simp [f8, *,m6,r6];done))
      ·try rw [h16]
       try simp only [rfb] at h16
       refine b6 rfl rfl rfl rfl rfl rfl ?_
       refine b6 rfl rfl rfl rfl rfl rfl ?_
       refine b6 rfl rfl rfl rfl rfl rfl ?_
       refine a1 rfl ?_
       refine a3 rfl rfl (i7 rfl rfl rfl) ?_
       refine a1 rfl ?_
       refine a3 rfl rfl (a8 rfl rfl) ?_
       refine b6 rfl rfl rfl rfl rfl rfl ?_
       refine b6 rfl rfl rfl rfl rfl rfl ?_
       refine b6 rfl rfl rfl rfl rfl rfl ?_
       refine a1 rfl ?_
       refine a3 rfl rfl (i7 rfl rfl rfl) ?_
       refine a1 rfl ?_
       refine a3 rfl rfl (a8 rfl rfl) ?_
       refine b6 rfl rfl rfl rfl rfl rfl ?_
       refine b6 rfl rfl rfl rfl rfl rfl ?_
       refine b6 rfl rfl rfl rfl rfl rfl ?_
       refine a1 rfl ?_
       refine a3 rfl rfl (i7 rfl rfl rfl) ?_
       refine a1 rfl ?_
       refine a3 rfl rfl (a7 rfl rfl) ?_
       refine a4 ?_
       refine hK15 _ ?_
       clear hK15 K15
       refine c8 ?_
       refine j4 rfl ?_
       refine g9 ?_
       all_goals (first | rfl | (simp [f8, *];done) | (simp [f8, *];rfl) | (simp [f8, *,m6,r6];done))
theorem a1B {x:Cur} {n:Int} (h:okC n x) (hn:n≤870000000000):CtrX (α:=Mach×Cur) Tryz.prog 122 [.ptr 0 0] [.box [.lst 1 (x.c.map C5),.v (.int .i64 x.a),.v (.int .u64 x.s)]] (fun y=>(DrM y.1)∧okC (n+2000) y.2) (fun y=>.shp true [some 4] [.fr 118 2 (y.1.rs.map u7),.fr 4 1 (y.1.en.map l0),.fr 4 1 (y.1.ra.map l0),.ne 113 4 (y.1.cp.map (H7 154 183))]) (fun y=>[some (.box [.lst 1 (y.2.c.map C5),.v (.int .i64 y.2.a),.v (.int .u64 y.2.s)])]):=by
 refine CtrX.of (n:=114) (k:=1) G Tryz.func122 rfl (by kernel_rfl) rfl rfl rfl rfl (fun _=>rfl) rfl rfl (fun w0 _ hpin=>?_)
 refine b4 (fun K1 hK1=>?_)
 refine a6 ?_
 refine a1 rfl ?_
 refine d7 G 2 rfl rfl rfl rfl rfl ?_
 refine a4 ?_
 refine hK1 _ ?_
 clear hK1 K1
 refine b4 (fun K2 hK2=>?_)
 refine a6 ?_
 refine a1 rfl ?_
 refine a3 rfl rfl (a8 rfl rfl) ?_
 refine a1 rfl ?_
 refine d3 2 [0] rfl rfl rfl (n8 h (by omega) (2)) rfl (RowsIn.cons rfl RowsIn.nil) rfl (fun _=>rfl) rfl (fun x1 ⟨hv1,hc1⟩=>?_)
 refine a1 rfl ?_
 first | refine a3 rfl rfl (i8 rfl rfl rfl rfl (by omega) (by omega)) ?_ | refine a3 rfl rfl (k4 rfl rfl rfl rfl) ?_
 refine a1 rfl ?_
 refine a3 rfl rfl (a7 rfl rfl) ?_
 refine a4 ?_
 refine hK2 _ ?_
 clear hK2 K2
 refine b4 (fun K3 hK3=>?_)
 refine a6 ?_
 refine a1 rfl ?_
 refine k6 G 3 rfl rfl rfl rfl rfl rfl rfl rfl ?_
 refine a1 rfl ?_
 refine a3 rfl rfl (a7 rfl rfl) ?_
 refine a4 ?_
 refine hK3 _ ?_
 clear hK3 K3
 refine b4 (fun K4 hK4=>?_)
 refine b4 (fun K5 hK5=>?_)
 refine a6 ?_
 refine a1 rfl ?_
 refine a3 rfl rfl (a7 rfl rfl) ?_
 refine a4 ?_
 refine hK5 _ ?_
 clear hK5 K5
 refine l8 ?_
 refine m4 [0,2,3] [1] (fun (z:Nat×Cur×List Route)=>[(4,.own 2),(5,.v (.int .i64 (z.1:Int)))]) (fun (z:Nat×Cur×List Route)=>[(0,some (.box [.lst 1 (z.2.1.c.map C5),.v (.int .i64 z.2.1.a),.v (.int .u64 z.2.1.s)])),(2,some (.row 118 2 (z.2.2.map u7)))]) (fun (z:Nat×Cur×List Route)=>z.1≤8∧z.2.2.length=z.1∧a9c (1+x1.1) z.2.2∧okC (n+2+4 * z.1) z.2.1) (fun (z:Nat×Cur×List Route)=>8 - z.1) (0,x1.2,[]) rfl rfl ?_ ?_ ?_ ?_
 ·exact ⟨Nat.zero_le _,rfl,(fun r hr=>by cases hr),hc1.mono (by simp)⟩
 ·exact ⟨⟨_,rfl,by (first | rfl | simp)⟩,rfl,⟨⟨_,rfl,by (first | rfl | simp)⟩,rfl,trivial⟩⟩
 ·exact ⟨⟨_,rfl,by rfl⟩,rfl,rfl,⟨⟨_,rfl,by rfl⟩,rfl,rfl,trivial⟩⟩
 ·intro z hinv
  obtain ⟨hz1,hz2,hz3,hz⟩:=hinv
  simp only [List.cons_append,List.nil_append]
  refine b4 (fun K6 hK6=>?_)
  refine b4 (fun K7 hK7=>?_)
  refine a6 ?_
  refine a1 rfl ?_
  refine a3 rfl rfl (a8 rfl rfl) ?_
  refine a1 rfl ?_
  refine a3 rfl rfl (f9 rfl rfl rfl rfl) ?_
  refine a4 ?_
  refine hK7 _ ?_
  clear hK7 K7
  refine d1 rfl (fun h1=>?_) (fun h1=>?_)
  ·try rw [h1]
   try simp only [rfb] at h1
   refine e9 ?_
   refine hK6 _ ?_
   clear hK6 K6
   refine b4 (fun K8 hK8=>?_)
   refine l8 ?_
   refine a6 ?_
   refine a1 rfl ?_
   refine a3 rfl rfl (a8 rfl rfl) ?_
   refine a1 rfl ?_
   refine a3 rfl rfl (a8 rfl rfl) ?_
   refine a1 rfl ?_
   refine d3 3 [0] rfl rfl rfl (n8 hz (by omega) (10)) rfl (RowsIn.cons rfl RowsIn.nil) rfl (fun _=>rfl) rfl (fun x2 ⟨hv2,hc2⟩=>?_)
   refine a1 rfl ?_
   refine a3 rfl rfl (a8 rfl rfl) ?_
   refine a1 rfl ?_
   refine a3 rfl rfl (a8 rfl rfl) ?_
   refine a1 rfl ?_
   refine d3 3 [0] rfl rfl rfl (n8 hc2 (by omega) (1+x1.1)) rfl (RowsIn.cons rfl RowsIn.nil) rfl (fun _=>rfl) rfl (fun x3 ⟨hv3,hc3⟩=>?_)
   refine a1 rfl ?_
   refine a3 rfl rfl (g0 G rfl rfl rfl rfl) ?_
   refine a1 rfl ?_
   refine k6 G 4 rfl rfl rfl rfl rfl rfl rfl rfl ?_
   refine a1 rfl ?_
   refine f7 G (by rw [hpin];decide) rfl rfl rfl rfl rfl rfl rfl rfl rfl (by first | (simp only [List.length_map,List.length_cons,List.length_nil];omega) | (simp;omega)) rfl rfl ?_
   refine a1 rfl ?_
   refine a3 rfl rfl (a7 rfl rfl) ?_
   refine a4 ?_
   refine hK8 _ ?_
   clear hK8 K8
   refine a6 ?_
   refine a1 rfl ?_
   refine a3 rfl rfl (a8 rfl rfl) ?_
   refine a1 rfl ?_
   first | refine a3 rfl rfl (i8 rfl rfl rfl rfl (by omega) (by omega)) ?_ | refine a3 rfl rfl (k4 rfl rfl rfl rfl) ?_
   refine a1 rfl ?_
   refine a3 rfl rfl (a7 rfl rfl) ?_
   refine a4 ⟨(z.1+1,x3.2,z.2.2++[⟨x2.1,x3.1⟩]),?_,?_,⟨⟨_,rfl,by (first | rfl | (congr 2;simp;omega))⟩,rfl,⟨⟨_,rfl,by (first | rfl | (congr 2;simp;omega))⟩,rfl,trivial⟩⟩,⟨⟨_,rfl,by (first | rfl | (exact congrArg (Row.row _ _) (by rw [List.map_append];rfl)))⟩,rfl,rfl,⟨⟨_,rfl,by (first | rfl | (exact congrArg (Row.row _ _) (by rw [List.map_append];rfl)))⟩,rfl,rfl,trivial⟩⟩,rfl,rfl,rfl⟩
   ·exact ⟨by show z.1+1≤8;omega,by show (z.2.2++[_]).length=z.1+1;simp;omega,b09 hz3 ⟨by dsimp only;omega,by dsimp only;omega⟩,hc3.mono (by simp;omega)⟩
   ·(show 8 - (z.1+1) < 8 - z.1;omega)
  ·try rw [h1]
   try simp only [rfb] at h1
   have hok:okRts z.2.2 (1+x1.1)=true:=b3z hz3 (by omega) (by omega)
   have cN:=a3q z.2.2 (1+x1.1) (by omega)
   rw [a82 hok] at cN
   dsimp only at cN
   have hM0:MaG (a5I z.2.2 (1+x1.1).toNat):=b3A (by rw [Int.toNat_of_nonneg (by omega)];exact hok)
   generalize a5I z.2.2 (1+x1.1).toNat=m0 at cN hM0
   have h0e:=hM0.en
   have h0a:=hM0.ra
   refine B0 ?_
   refine hK4 _ ?_
   clear hK6 K6 hK4 K4
   refine b4 (fun K9 hK9=>?_)
   refine a6 ?_
   refine a1 rfl ?_
   refine a3 rfl rfl (a8 rfl rfl) ?_
   refine a1 rfl ?_
   refine a3 rfl rfl (a8 rfl rfl) ?_
   refine a1 rfl ?_
   refine g8 7 rfl rfl rfl (ArgsOK.of rfl) cN rfl rfl ?_
   refine a1 rfl ?_
   refine a3 rfl rfl (a8 rfl rfl) ?_
   refine a1 rfl ?_
   refine a3 rfl rfl (c9 rfl rfl rfl) ?_
   refine a1 rfl ?_
   refine a3 rfl rfl (c9 rfl rfl rfl) ?_
   refine a1 rfl ?_
   refine d7 G 8 rfl rfl rfl rfl rfl ?_
   refine a1 rfl ?_
   refine c5 G rfl rfl rfl rfl rfl rfl rfl rfl rfl rfl rfl ?_
   refine a1 rfl ?_
   refine a3 rfl rfl (a7 rfl rfl) ?_
   refine a4 ?_
   refine hK9 _ ?_
   clear hK9 K9
   refine b4 (fun K10 hK10=>?_)
   refine b4 (fun K11 hK11=>?_)
   refine a6 ?_
   refine a1 rfl ?_
   refine a3 rfl rfl (a7 rfl rfl) ?_
   refine a4 ?_
   refine hK11 _ ?_
   clear hK11 K11
   refine l8 ?_
   refine m4 [0,2,6] [1] (fun (u:Nat×Cur×List Bool×List Bool)=>[(8,.v (.int .i64 (u.1:Int)))]) (fun (u:Nat×Cur×List Bool×List Bool)=>[(0,some (.box [.lst 1 (u.2.1.c.map C5),.v (.int .i64 u.2.1.a),.v (.int .u64 u.2.1.s)])),(3,some (.row 118 2 (m0.rs.map u7))),(4,some (.row 4 1 (u.2.2.1.map l0))),(5,some (.row 4 1 (u.2.2.2.map l0))),(6,some (.nest 113 4 (m0.cp.map (H7 154 183)) [])),(7,some (.box [.own 3,.own 4,.own 5,.own 6]))]) (fun (u:Nat×Cur×List Bool×List Bool)=>u.1≤8∧u.2.2.1.length=8∧u.2.2.2.length=8∧okC (n+40+4 * u.1) u.2.1) (fun (u:Nat×Cur×List Bool×List Bool)=>8 - u.1) (0,z.2.1,m0.en,m0.ra) rfl rfl ?_ ?_ ?_ ?_
   ·exact ⟨Nat.zero_le _,hM0.en,hM0.ra,hz.mono (by simp;omega)⟩
   ·exact ⟨⟨_,rfl,by (first | rfl | simp)⟩,rfl,trivial⟩
   ·exact ⟨⟨_,rfl,by rfl⟩,rfl,rfl,⟨⟨_,rfl,by rfl⟩,rfl,rfl,⟨⟨_,rfl,by rfl⟩,rfl,rfl,⟨⟨_,rfl,by rfl⟩,rfl,rfl,⟨⟨_,rfl,by rfl⟩,rfl,rfl,⟨⟨_,rfl,by rfl⟩,rfl,rfl,trivial⟩⟩⟩⟩⟩⟩
   ·intro u hinv
    obtain ⟨hu1,hu2,hu3,hu⟩:=hinv
    simp only [List.cons_append,List.nil_append]
    refine b4 (fun K12 hK12=>?_)
    refine b4 (fun K13 hK13=>?_)
    refine a6 ?_
    refine a1 rfl ?_
    refine a3 rfl rfl (a8 rfl rfl) ?_
    refine a1 rfl ?_
    refine a3 rfl rfl (f9 rfl rfl rfl rfl) ?_
    refine a4 ?_
    refine hK13 _ ?_
    clear hK13 K13
    refine d1 rfl (fun h2=>?_) (fun h2=>?_)
    ·try rw [h2]
     try simp only [rfb] at h2
     refine e9 ?_
     refine hK12 _ ?_
     clear hK12 K12
     refine b4 (fun K14 hK14=>?_)
     refine l8 ?_
     refine b4 (fun K15 hK15=>?_)
     refine j9 8 [1,3,5,6,7] m5 (by kernel_rfl) rfl rfl (fun r0=>?_) (fun _ h=>h)
     refine b9 0 rfl (by kernel_rfl) (by kernel_rfl) rfl rfl rfl rfl (b7 G rfl rfl rfl rfl) ?_
     refine b9 1 rfl (by kernel_rfl) (by kernel_rfl) rfl rfl rfl rfl (c4 G rfl rfl rfl rfl rfl rfl rfl) ?_
     refine b9 2 rfl (by kernel_rfl) (by kernel_rfl) rfl rfl rfl rfl (a8 rfl rfl) ?_
     refine b9 3 rfl (by kernel_rfl) (by kernel_rfl) rfl rfl rfl rfl (a8 rfl rfl) ?_
     refine a9 (rs:=[4]) (by kernel_rfl) rfl (AllB.cons ?_ AllB.nil)
     refine c7 [1,3,5,6,7] rfl rfl (d3 8 [0] rfl rfl rfl (a5v hu (by omega) (4)) rfl (RowsIn.cons rfl RowsIn.nil) rfl (fun _=>rfl) rfl (fun x4 ⟨hv4,hc4⟩=>a4 ⟨rfl,?_⟩))
     refine b9 5 rfl (by kernel_rfl) (by kernel_rfl) rfl rfl rfl rfl (C2 rfl rfl) ?_
     refine a9 (rs:=[6]) (by kernel_rfl) rfl (AllB.cons ?_ AllB.nil)
     refine c7 [1,3,5,6,7] rfl rfl (a3 rfl rfl (k8 G rfl rfl rfl rfl rfl (by omega) (by rw [List.length_map];omega)) (a4 ⟨rfl,?_⟩))
     refine a9 (rs:=[7]) (by kernel_rfl) rfl (AllB.cons ?_ AllB.nil)
     first | refine c7 [1,3,5,6,7] rfl rfl (i6 G rfl rfl rfl rfl rfl (t8 (by omega) (by omega)) rfl rfl rfl rfl rfl (Nat.le_of_ble_eq_true rfl) rfl (a4 ⟨rfl,?_⟩)) | refine c7 [1,3,5,6,7] rfl rfl (i6 G rfl rfl rfl rfl rfl (C3 (by omega) (by omega)) rfl rfl rfl rfl rfl (Nat.le_of_ble_eq_true rfl) rfl (a4 ⟨rfl,?_⟩))
     refine l9 (by kernel_rfl) ?_
     refine hK15 _ ?_
     clear hK15 K15
     refine j9 7 [1,3,4,6,7] m5 (by kernel_rfl) rfl rfl (fun r0=>?_) (fun _ h=>h)
     refine b9 0 rfl (by kernel_rfl) (by kernel_rfl) rfl rfl rfl rfl (b7 G rfl rfl rfl rfl) ?_
     refine b9 1 rfl (by kernel_rfl) (by kernel_rfl) rfl rfl rfl rfl (c4 G rfl rfl rfl rfl rfl rfl rfl) ?_
     refine b9 2 rfl (by kernel_rfl) (by kernel_rfl) rfl rfl rfl rfl (a8 rfl rfl) ?_
     refine b9 3 rfl (by kernel_rfl) (by kernel_rfl) rfl rfl rfl rfl (a8 rfl rfl) ?_
     refine a9 (rs:=[4]) (by kernel_rfl) rfl (AllB.cons ?_ AllB.nil)
     refine c7 [1,3,4,6,7] rfl rfl (d3 8 [0] rfl rfl rfl (a5v hc4 (by omega) (2)) rfl (RowsIn.cons rfl RowsIn.nil) rfl (fun _=>rfl) rfl (fun x5 ⟨hv5,hc5⟩=>a4 ⟨rfl,?_⟩))
     refine a9 (rs:=[5]) (by kernel_rfl) rfl (AllB.cons ?_ AllB.nil)
     refine c7 [1,3,4,6,7] rfl rfl (a3 rfl rfl (k8 G rfl rfl rfl rfl rfl (by omega) (by rw [List.length_map];omega)) (a4 ⟨rfl,?_⟩))
     refine a9 (rs:=[6]) (by kernel_rfl) rfl (AllB.cons ?_ AllB.nil)
     first | refine c7 [1,3,4,6,7] rfl rfl (i6 G rfl rfl rfl rfl rfl (t8 (by omega) (by omega)) rfl rfl rfl rfl rfl (Nat.le_of_ble_eq_true rfl) rfl (a4 ⟨rfl,?_⟩)) | refine c7 [1,3,4,6,7] rfl rfl (i6 G rfl rfl rfl rfl rfl (C3 (by omega) (by omega)) rfl rfl rfl rfl rfl (Nat.le_of_ble_eq_true rfl) rfl (a4 ⟨rfl,?_⟩))
     refine l9 (by kernel_rfl) ?_
     refine hK14 _ ?_
     clear hK14 K14
     refine a6 ?_
     refine a1 rfl ?_
     refine a3 rfl rfl (a8 rfl rfl) ?_
     refine a1 rfl ?_
     first | refine a3 rfl rfl (i8 rfl rfl rfl rfl (by omega) (by omega)) ?_ | refine a3 rfl rfl (k4 rfl rfl rfl rfl) ?_
     refine a1 rfl ?_
     refine a3 rfl rfl (a7 rfl rfl) ?_
     refine a4 ⟨(u.1+1,x5.2,u.2.2.1.set u.1 (!x4.1),u.2.2.2.set u.1 x5.1),?_,?_,⟨⟨_,rfl,by (first | rfl | (congr 2;simp;omega))⟩,rfl,trivial⟩,⟨⟨_,rfl,by (first | rfl | (exact congrArg (Row.row _ _) (by rw [List.map_set];rfl)))⟩,rfl,rfl,⟨⟨_,rfl,by (first | rfl | (exact congrArg (Row.row _ _) (by rw [List.map_set];rfl)))⟩,rfl,rfl,⟨⟨_,rfl,by (first | rfl | (exact congrArg (Row.row _ _) (by rw [List.map_set];rfl)))⟩,rfl,rfl,⟨⟨_,rfl,by (first | rfl | (exact congrArg (Row.row _ _) (by rw [List.map_set];rfl)))⟩,rfl,rfl,⟨⟨_,rfl,by (first | rfl | (exact congrArg (Row.row _ _) (by rw [List.map_set];rfl)))⟩,rfl,rfl,⟨⟨_,rfl,by (first | rfl | (exact congrArg (Row.row _ _) (by rw [List.map_set];rfl)))⟩,rfl,rfl,trivial⟩⟩⟩⟩⟩⟩,rfl,rfl,rfl⟩
     ·exact ⟨by show u.1+1≤8;omega,by show (u.2.2.1.set _ _).length=8;rw [List.length_set];exact hu2,by show (u.2.2.2.set _ _).length=8;rw [List.length_set];exact hu3,hc5.mono (by simp;omega)⟩
     ·(show 8 - (u.1+1) < 8 - u.1;omega)
    ·try rw [h2]
     try simp only [rfb] at h2
     refine B0 ?_
     refine hK10 _ ?_
     clear hK12 K12 hK10 K10
     refine b4 (fun K16 hK16=>?_)
     refine b4 (fun K17 hK17=>?_)
     refine a6 ?_
     refine a1 rfl ?_
     refine a3 rfl rfl (a8 rfl rfl) ?_
     refine a1 rfl ?_
     refine d3 8 [0] rfl rfl rfl (n8 hu (by omega) (14)) rfl (RowsIn.cons rfl RowsIn.nil) rfl (fun _=>rfl) rfl (fun x6 ⟨hv6,hc6⟩=>?_)
     refine a1 rfl ?_
     refine a3 rfl rfl (a7 rfl rfl) ?_
     refine a4 ?_
     refine hK17 _ ?_
     clear hK17 K17
     refine l8 ?_
     refine m4 [0,2,6] [1] (fun (v:Nat×Cur×Mach)=>[(9,.v (.int .i64 (x6.1 - v.1)))]) (fun (v:Nat×Cur×Mach)=>[(0,some (.box [.lst 1 (v.2.1.c.map C5),.v (.int .i64 v.2.1.a),.v (.int .u64 v.2.1.s)])),(3,some (.row 118 2 (v.2.2.rs.map u7))),(4,some (.row 4 1 (v.2.2.en.map l0))),(5,some (.row 4 1 (v.2.2.ra.map l0))),(6,some (.nest 113 4 (v.2.2.cp.map (H7 154 183)) [])),(7,some (.box [.own 3,.own 4,.own 5,.own 6]))]) (fun (v:Nat×Cur×Mach)=>(v.1:Int)≤x6.1∧MaG v.2.2∧okC (n+100+20 * v.1) v.2.1) (fun (v:Nat×Cur×Mach)=>x6.1.toNat - v.1) (0,x6.2,⟨m0.rs,u.2.2.1,u.2.2.2,m0.cp⟩) rfl rfl ?_ ?_ ?_ ?_
     ·exact ⟨hv6.1,hM0.lines hu2 hu3,hc6.mono (by simp;omega)⟩
     ·exact ⟨⟨_,rfl,by (first | rfl | simp)⟩,rfl,trivial⟩
     ·exact ⟨⟨_,rfl,by rfl⟩,rfl,rfl,⟨⟨_,rfl,by rfl⟩,rfl,rfl,⟨⟨_,rfl,by rfl⟩,rfl,rfl,⟨⟨_,rfl,by rfl⟩,rfl,rfl,⟨⟨_,rfl,by rfl⟩,rfl,rfl,⟨⟨_,rfl,by rfl⟩,rfl,rfl,trivial⟩⟩⟩⟩⟩⟩
     ·intro v hinv
      obtain ⟨hv1,hV,hv⟩:=hinv
      have hVn:=hV.n
      have hVr:=hV.rn
      have hVa:=hV.ra
      have hVs:=hV.small
      simp only [List.cons_append,List.nil_append]
      refine b4 (fun K18 hK18=>?_)
      refine b4 (fun K19 hK19=>?_)
      refine a6 ?_
      refine a1 rfl ?_
      refine a3 rfl rfl (a8 rfl rfl) ?_
      refine a1 rfl ?_
      refine a3 rfl rfl (f9 rfl rfl rfl rfl) ?_
      refine a4 ?_
      refine hK19 _ ?_
      clear hK19 K19
      refine d1 rfl (fun h3=>?_) (fun h3=>?_)
      ·try rw [h3]
       try simp only [rfb] at h3
       refine e9 ?_
       refine hK18 _ ?_
       clear hK18 K18
       refine b4 (fun K20 hK20=>?_)
       refine l8 ?_
       refine b4 (fun K21 hK21=>?_)
       refine a6 ?_
       refine a1 rfl ?_
       refine a3 rfl rfl (a8 rfl rfl) ?_
       refine a1 rfl ?_
       refine a3 rfl rfl (b3 G rfl rfl rfl rfl rfl rfl) ?_
       refine a1 rfl ?_
       refine d3 8 [0,3,4,5,6] rfl rfl rfl (a05 hv (by omega) v.2.2 (by omega)) rfl (RowsIn.cons rfl (RowsIn.cons rfl (RowsIn.cons rfl (RowsIn.cons rfl (RowsIn.cons rfl RowsIn.nil))))) rfl (fun _=>rfl) rfl (fun x7 ⟨hv7,hc7⟩=>?_)
       refine a1 rfl ?_
       refine d7 G 9 rfl rfl rfl rfl rfl ?_
       refine a1 rfl ?_
       refine c5 G rfl rfl rfl rfl rfl rfl rfl rfl rfl rfl rfl ?_
       refine a4 ?_
       refine hK21 _ ?_
       clear hK21 K21
       refine b4 (fun K22 hK22=>?_)
       refine a6 ?_
       refine a1 rfl ?_
       refine a3 rfl rfl (b3 G rfl rfl rfl rfl rfl rfl) ?_
       refine a1 rfl ?_
       refine a3 rfl rfl (b3 G rfl rfl rfl rfl rfl rfl) ?_
       refine a1 rfl ?_
       refine a3 rfl rfl (k5 rfl (ArgsOK.of rfl) (a3V v.2.2 x7.1 (by omega)) rfl) ?_
       refine a4 ?_
       refine hK22 _ ?_
       clear hK22 K22
       refine d1 rfl (fun h4=>?_) (fun h4=>?_)
       ·try rw [h4]
        try simp only [rfb] at h4
        have hst:=h4
        refine b4 (fun K23 hK23=>?_)
        by_cases hno:a7A v.2.2 x7.1
        ·refine a6 ?_
         refine a1 rfl ?_
         refine a3 rfl rfl (b3 G rfl rfl rfl rfl rfl rfl) ?_
         refine a1 rfl ?_
         refine a3 rfl rfl (b3 G rfl rfl rfl rfl rfl rfl) ?_
         refine a1 rfl ?_
         refine g8 13 rfl rfl rfl (ArgsOK.of rfl) (a3m v.2.2 x7.1.k x7.1.q x7.1.c x7.1.v hV hst hno) rfl rfl ?_
         refine a1 rfl ?_
         refine a3 rfl rfl (a8 rfl rfl) ?_
         refine a1 rfl ?_
         refine a3 rfl rfl (c9 rfl rfl rfl) ?_
         refine a1 rfl ?_
         refine a3 rfl rfl (c9 rfl rfl rfl) ?_
         refine a1 rfl ?_
         refine a3 rfl rfl (c9 rfl rfl rfl) ?_
         refine a1 rfl ?_
         refine d7 G 14 rfl rfl rfl rfl rfl ?_
         refine a1 rfl ?_
         refine c5 G rfl rfl rfl rfl rfl rfl rfl rfl rfl rfl rfl ?_
         refine a1 rfl ?_
         refine a3 rfl rfl (a7 rfl rfl) ?_
         refine a1 rfl ?_
         refine a3 rfl rfl (a7 rfl rfl) ?_
         refine a4 ?_
         refine hK23 _ ?_
         clear hK23 K23
         refine b4 (fun K24 hK24=>?_)
         refine a6 ?_
         refine a1 rfl ?_
         refine a3 rfl rfl (a8 rfl rfl) ?_
         refine a4 ?_
         refine hK24 _ ?_
         clear hK24 K24
         refine B1 rfl ?_
         refine e9 ?_
         refine hK20 _ ?_
         clear hK20 K20
         refine a6 ?_
         refine a1 rfl ?_
         refine a3 rfl rfl (a8 rfl rfl) ?_
         refine a1 rfl ?_
         first | refine a3 rfl rfl (i8 rfl rfl rfl rfl (by omega) (by omega)) ?_ | refine a3 rfl rfl (k4 rfl rfl rfl rfl) ?_
         refine a1 rfl ?_
         refine a3 rfl rfl (a7 rfl rfl) ?_
         refine a4 ⟨(v.1+1,x7.2,v.2.2),?_,?_,⟨⟨_,rfl,by (first | rfl | exact congrArg (fun v=>AV.v (.int .i64 v)) (by show x6.1 - (v.1:Int) - 1=x6.1 - ((v.1+1:Nat):Int);omega))⟩,rfl,trivial⟩,⟨⟨_,rfl,by rfl⟩,rfl,rfl,⟨⟨_,rfl,by rfl⟩,rfl,rfl,⟨⟨_,rfl,by rfl⟩,rfl,rfl,⟨⟨_,rfl,by rfl⟩,rfl,rfl,⟨⟨_,rfl,by rfl⟩,rfl,rfl,⟨⟨_,rfl,by rfl⟩,rfl,rfl,trivial⟩⟩⟩⟩⟩⟩,rfl,rfl,rfl⟩
         ·first | exact ⟨by show ((v.1+1:Nat):Int)≤x6.1;omega,hV,hc7.mono (by simp;omega)⟩ | exact ⟨by show ((v.1+1:Nat):Int)≤x6.1;omega,(a7B hV hst (by assumption)).1,hc7.mono (by simp;omega)⟩
         ·(show x6.1.toNat - (v.1+1) < x6.1.toNat - v.1;omega)
        ·refine a6 ?_
         refine a1 rfl ?_
         refine a3 rfl rfl (b3 G rfl rfl rfl rfl rfl rfl) ?_
         refine a1 rfl ?_
         refine a3 rfl rfl (b3 G rfl rfl rfl rfl rfl rfl) ?_
         refine a1 rfl ?_
         refine g8 13 rfl rfl rfl (ArgsOK.of rfl) (a5z v.2.2 x7.1.k x7.1.q x7.1.c x7.1.v hV hst hno) rfl rfl ?_
         refine a1 rfl ?_
         refine a3 rfl rfl (a8 rfl rfl) ?_
         refine a1 rfl ?_
         refine a3 rfl rfl (c9 rfl rfl rfl) ?_
         refine a1 rfl ?_
         refine a3 rfl rfl (c9 rfl rfl rfl) ?_
         refine a1 rfl ?_
         refine a3 rfl rfl (c9 rfl rfl rfl) ?_
         refine a1 rfl ?_
         refine d7 G 14 rfl rfl rfl rfl rfl ?_
         refine a1 rfl ?_
         refine c5 G rfl rfl rfl rfl rfl rfl rfl rfl rfl rfl rfl ?_
         refine a1 rfl ?_
         refine a3 rfl rfl (a7 rfl rfl) ?_
         refine a1 rfl ?_
         refine a3 rfl rfl (a7 rfl rfl) ?_
         refine a4 ?_
         refine hK23 _ ?_
         clear hK23 K23
         refine b4 (fun K25 hK25=>?_)
         refine a6 ?_
         refine a1 rfl ?_
         refine a3 rfl rfl (a8 rfl rfl) ?_
         refine a4 ?_
         refine hK25 _ ?_
         clear hK25 K25
         refine d1 rfl (fun h5=>?_) (fun h5=>?_)
         ·try rw [h5]
          try simp only [rfb] at h5
          refine a6 ?_
          refine a1 rfl ?_
          refine a3 rfl rfl (b3 G rfl rfl rfl rfl rfl rfl) ?_
          refine a1 rfl ?_
          refine c5 G rfl rfl rfl rfl rfl rfl rfl rfl rfl rfl rfl ?_
          refine a4 ?_
          refine hK20 _ ?_
          clear hK20 K20
          refine a6 ?_
          refine a1 rfl ?_
          refine a3 rfl rfl (a8 rfl rfl) ?_
          refine a1 rfl ?_
          first | refine a3 rfl rfl (i8 rfl rfl rfl rfl (by omega) (by omega)) ?_ | refine a3 rfl rfl (k4 rfl rfl rfl rfl) ?_
          refine a1 rfl ?_
          refine a3 rfl rfl (a7 rfl rfl) ?_
          refine m7 (Gh.sub 9 3 (by rw [hpin];decide) rfl rfl rfl) ?_
          refine m7 (Gh.sub 10 4 (by rw [hpin];decide) rfl rfl rfl) ?_
          refine m7 (Gh.sub 11 5 (by rw [hpin];decide) rfl rfl rfl) ?_
          refine m7 (Gh.sub 12 6 (by rw [hpin];decide) rfl rfl rfl) ?_
          refine a4 ⟨(v.1+1,x7.2,(stM v.2.2 x7.1).1),?_,?_,⟨⟨_,rfl,by (first | rfl | exact congrArg (fun v=>AV.v (.int .i64 v)) (by show x6.1 - (v.1:Int) - 1=x6.1 - ((v.1+1:Nat):Int);omega))⟩,rfl,trivial⟩,⟨⟨_,rfl,by rfl⟩,rfl,rfl,⟨⟨_,rfl,by rfl⟩,rfl,rfl,⟨⟨_,rfl,by rfl⟩,rfl,rfl,⟨⟨_,rfl,by rfl⟩,rfl,rfl,⟨⟨_,rfl,by rfl⟩,rfl,rfl,⟨⟨_,rfl,by rfl⟩,rfl,rfl,trivial⟩⟩⟩⟩⟩⟩,rfl,rfl,rfl⟩
          ·first | exact ⟨by show ((v.1+1:Nat):Int)≤x6.1;omega,hV,hc7.mono (by simp;omega)⟩ | exact ⟨by show ((v.1+1:Nat):Int)≤x6.1;omega,(a7B hV hst (by assumption)).1,hc7.mono (by simp;omega)⟩
          ·(show x6.1.toNat - (v.1+1) < x6.1.toNat - v.1;omega)
         ·try rw [h5]
          try simp only [rfb] at h5
          refine e9 ?_
          refine hK20 _ ?_
          clear hK20 K20
          refine a6 ?_
          refine a1 rfl ?_
          refine a3 rfl rfl (a8 rfl rfl) ?_
          refine a1 rfl ?_
          first | refine a3 rfl rfl (i8 rfl rfl rfl rfl (by omega) (by omega)) ?_ | refine a3 rfl rfl (k4 rfl rfl rfl rfl) ?_
          refine a1 rfl ?_
          refine a3 rfl rfl (a7 rfl rfl) ?_
          refine a4 ⟨(v.1+1,x7.2,v.2.2),?_,?_,⟨⟨_,rfl,by (first | rfl | exact congrArg (fun v=>AV.v (.int .i64 v)) (by show x6.1 - (v.1:Int) - 1=x6.1 - ((v.1+1:Nat):Int);omega))⟩,rfl,trivial⟩,⟨⟨_,rfl,by rfl⟩,rfl,rfl,⟨⟨_,rfl,by rfl⟩,rfl,rfl,⟨⟨_,rfl,by rfl⟩,rfl,rfl,⟨⟨_,rfl,by rfl⟩,rfl,rfl,⟨⟨_,rfl,by rfl⟩,rfl,rfl,⟨⟨_,rfl,by rfl⟩,rfl,rfl,trivial⟩⟩⟩⟩⟩⟩,rfl,rfl,rfl⟩
          ·first | exact ⟨by show ((v.1+1:Nat):Int)≤x6.1;omega,hV,hc7.mono (by simp;omega)⟩ | exact ⟨by show ((v.1+1:Nat):Int)≤x6.1;omega,(a7B hV hst (by assumption)).1,hc7.mono (by simp;omega)⟩
          ·(show x6.1.toNat - (v.1+1) < x6.1.toNat - v.1;omega)
       ·try rw [h4]
        try simp only [rfb] at h4
        refine e9 ?_
        refine hK20 _ ?_
        clear hK20 K20
        refine a6 ?_
        refine a1 rfl ?_
        refine a3 rfl rfl (a8 rfl rfl) ?_
        refine a1 rfl ?_
        first | refine a3 rfl rfl (i8 rfl rfl rfl rfl (by omega) (by omega)) ?_ | refine a3 rfl rfl (k4 rfl rfl rfl rfl) ?_
        refine a1 rfl ?_
        refine a3 rfl rfl (a7 rfl rfl) ?_
        refine a4 ⟨(v.1+1,x7.2,v.2.2),?_,?_,⟨⟨_,rfl,by (first | rfl | exact congrArg (fun v=>AV.v (.int .i64 v)) (by show x6.1 - (v.1:Int) - 1=x6.1 - ((v.1+1:Nat):Int);omega))⟩,rfl,trivial⟩,⟨⟨_,rfl,by rfl⟩,rfl,rfl,⟨⟨_,rfl,by rfl⟩,rfl,rfl,⟨⟨_,rfl,by rfl⟩,rfl,rfl,⟨⟨_,rfl,by rfl⟩,rfl,rfl,⟨⟨_,rfl,by rfl⟩,rfl,rfl,⟨⟨_,rfl,by rfl⟩,rfl,rfl,trivial⟩⟩⟩⟩⟩⟩,rfl,rfl,rfl⟩
        ·first | exact ⟨by show ((v.1+1:Nat):Int)≤x6.1;omega,hV,hc7.mono (by simp;omega)⟩ | exact ⟨by show ((v.1+1:Nat):Int)≤x6.1;omega,(a7B hV hst (by assumption)).1,hc7.mono (by simp;omega)⟩
        ·(show x6.1.toNat - (v.1+1) < x6.1.toNat - v.1;omega)
      ·try rw [h3]
       try simp only [rfb] at h3
       refine B0 ?_
       refine hK16 _ ?_
       clear hK18 K18 hK16 K16
       refine b4 (fun K26 hK26=>?_)
       refine b4 (fun K27 hK27=>?_)
       refine a6 ?_
       refine a1 rfl ?_
       refine a3 rfl rfl (a8 rfl rfl) ?_
       refine a1 rfl ?_
       refine d3 8 [0] rfl rfl rfl (n8 hv (by omega) (24)) rfl (RowsIn.cons rfl RowsIn.nil) rfl (fun _=>rfl) rfl (fun x8 ⟨hv8,hc8⟩=>?_)
       refine a4 ?_
       refine hK27 _ ?_
       clear hK27 K27
       refine l8 ?_
       refine b4 (fun K28 hK28=>?_)
       refine a6 ?_
       refine a1 rfl ?_
       refine a3 rfl rfl (f9 rfl rfl rfl rfl) ?_
       refine a1 rfl ?_
       refine a3 rfl rfl (a7 rfl rfl) ?_
       refine a4 ?_
       refine hK28 _ ?_
       clear hK28 K28
       refine d1 rfl (fun h6=>?_) (fun h6=>?_)
       ·try rw [h6]
        try simp only [rfb] at h6
        refine j9 12 [1,4,5,6,7] m5 (by kernel_rfl) rfl rfl (fun r0=>?_) (fun _ h=>h)
        refine b9 0 rfl (by kernel_rfl) (by kernel_rfl) rfl rfl rfl rfl (b7 G rfl rfl rfl rfl) ?_
        refine b9 1 rfl (by kernel_rfl) (by kernel_rfl) rfl rfl rfl rfl (c4 G rfl rfl rfl rfl rfl rfl rfl) ?_
        refine b9 2 rfl (by kernel_rfl) (by kernel_rfl) rfl rfl rfl rfl (a8 rfl rfl) ?_
        refine b9 4 rfl (by kernel_rfl) (by kernel_rfl) rfl rfl rfl rfl (a8 rfl rfl) ?_
        refine b9 7 rfl (by kernel_rfl) (by kernel_rfl) rfl rfl rfl rfl (a8 rfl rfl) ?_
        refine a9 (rs:=[3,5]) (by kernel_rfl) rfl (AllB.cons ?_ (AllB.cons ?_ AllB.nil))
        ·refine c7 [1,4,5,6,7] rfl rfl (d3 8 [0] rfl rfl rfl (n8 hc8 (by omega) (8)) rfl (RowsIn.cons rfl RowsIn.nil) rfl (fun _=>rfl) rfl (fun x9 ⟨hv9,hc9⟩=>a4 ⟨rfl,?_⟩))
         refine a9 (rs:=[5]) (by kernel_rfl) rfl (AllB.cons ?_ AllB.nil)
         refine c7 [1,4,5,6,7] rfl rfl (k6 G 9 rfl rfl rfl rfl rfl rfl rfl rfl (a4 ⟨rfl,?_⟩))
         refine a9 (rs:=[6]) (by kernel_rfl) rfl (AllB.cons ?_ AllB.nil)
         refine c7 [1,4,5,6,7] rfl rfl (d3 9 [0,8] rfl rfl rfl (y8 hc9 (by omega) [3,16] (3) (16) (by decide) (by decide)) rfl (RowsIn.cons rfl (RowsIn.cons rfl RowsIn.nil)) rfl (fun _=>rfl) rfl (fun x10 ⟨hv10,hc10⟩=>a4 ⟨rfl,?_⟩))
         refine a9 (rs:=[8]) (by kernel_rfl) rfl (AllB.cons ?_ AllB.nil)
         refine c7 [1,4,5,6,7] rfl rfl (d3 9 [0] rfl rfl rfl (n8 hc10 (by omega) (3)) rfl (RowsIn.cons rfl RowsIn.nil) rfl (fun _=>rfl) rfl (fun x11 ⟨hv11,hc11⟩=>a4 ⟨rfl,?_⟩))
         refine b9 9 rfl (by kernel_rfl) (by kernel_rfl) rfl rfl rfl rfl (g0 G rfl rfl rfl rfl) ?_
         refine a9 (rs:=[10]) (by kernel_rfl) rfl (AllB.cons ?_ AllB.nil)
         refine c7 [1,4,5,6,7] rfl rfl (a3 rfl rfl (k8 G rfl rfl rfl rfl rfl (by omega) (by rw [List.length_map];omega)) (a4 ⟨rfl,?_⟩))
         refine a9 (rs:=[11]) (by kernel_rfl) rfl (AllB.cons ?_ AllB.nil)
         first | refine c7 [1,4,5,6,7] rfl rfl (i6 G rfl rfl rfl rfl rfl (t8 (by omega) (by omega)) rfl rfl rfl rfl rfl (Nat.le_of_ble_eq_true rfl) rfl (a4 ⟨rfl,?_⟩)) | refine c7 [1,4,5,6,7] rfl rfl (i6 G rfl rfl rfl rfl rfl (C3 (by omega) (by omega)) rfl rfl rfl rfl rfl (Nat.le_of_ble_eq_true rfl) rfl (a4 ⟨rfl,?_⟩))
         refine l9 (by kernel_rfl) ?_
         refine hK26 _ ?_
         clear hK26 K26
         refine b4 (fun K29 hK29=>?_)
         refine a6 ?_
         refine a1 rfl ?_
         refine a3 rfl rfl (b3 G rfl rfl rfl rfl rfl rfl) ?_
         refine a1 rfl ?_
         refine c5 G rfl rfl rfl rfl rfl rfl rfl rfl rfl rfl rfl ?_
         refine a4 ?_
         refine hK29 _ ?_
         clear hK29 K29
         refine c8 (v7 ((⟨v.2.2.rs.set x9.1.toNat ⟨x10.1,x11.1⟩,v.2.2.en,v.2.2.ra,v.2.2.cp⟩,x11.2)) (q9 rfl rfl rfl rfl (a5 (b8 rfl ?_) (a5 (b8 rfl ?_) (a5 (b8 rfl ?_) (a5 (u2 rfl ?_) d4)))) rfl (AftOK.stays rfl ?_ rfl AftOK.nil)) (⟨?_,?_⟩))
         all_goals (first | rfl | exact hc11.mono (by omega) | (dsimp only;rw [List.map_set];rfl) | (rw [List.map_append];rfl) | exact hV.dr | exact hV.dr.setR | exact hV.dr.addA hV.ra | exact hV.dr.setC (by assumption) | exact hV.dr.addC hV.n.2 (by assumption) | (exact congrArg (fun z=>Row.nest _ _ z []) (by rw [List.map_set];rfl)))
        ·refine c7 [1,4,5,6,7] rfl rfl (k6 G 9 rfl rfl rfl rfl rfl rfl rfl rfl (a4 ⟨rfl,?_⟩))
         refine a9 (rs:=[3]) (by kernel_rfl) rfl (AllB.cons ?_ AllB.nil)
         refine c7 [1,4,5,6,7] rfl rfl (d3 9 [0] rfl rfl rfl (n8 hc8 (by omega) (8)) rfl (RowsIn.cons rfl RowsIn.nil) rfl (fun _=>rfl) rfl (fun x12 ⟨hv12,hc12⟩=>a4 ⟨rfl,?_⟩))
         refine a9 (rs:=[6]) (by kernel_rfl) rfl (AllB.cons ?_ AllB.nil)
         refine c7 [1,4,5,6,7] rfl rfl (d3 9 [0,8] rfl rfl rfl (y8 hc12 (by omega) [3,16] (3) (16) (by decide) (by decide)) rfl (RowsIn.cons rfl (RowsIn.cons rfl RowsIn.nil)) rfl (fun _=>rfl) rfl (fun x13 ⟨hv13,hc13⟩=>a4 ⟨rfl,?_⟩))
         refine a9 (rs:=[8]) (by kernel_rfl) rfl (AllB.cons ?_ AllB.nil)
         refine c7 [1,4,5,6,7] rfl rfl (d3 9 [0] rfl rfl rfl (n8 hc13 (by omega) (3)) rfl (RowsIn.cons rfl RowsIn.nil) rfl (fun _=>rfl) rfl (fun x14 ⟨hv14,hc14⟩=>a4 ⟨rfl,?_⟩))
         refine b9 9 rfl (by kernel_rfl) (by kernel_rfl) rfl rfl rfl rfl (g0 G rfl rfl rfl rfl) ?_
         refine a9 (rs:=[10]) (by kernel_rfl) rfl (AllB.cons ?_ AllB.nil)
         refine c7 [1,4,5,6,7] rfl rfl (a3 rfl rfl (k8 G rfl rfl rfl rfl rfl (by omega) (by rw [List.length_map];omega)) (a4 ⟨rfl,?_⟩))
         refine a9 (rs:=[11]) (by kernel_rfl) rfl (AllB.cons ?_ AllB.nil)
         first | refine c7 [1,4,5,6,7] rfl rfl (i6 G rfl rfl rfl rfl rfl (t8 (by omega) (by omega)) rfl rfl rfl rfl rfl (Nat.le_of_ble_eq_true rfl) rfl (a4 ⟨rfl,?_⟩)) | refine c7 [1,4,5,6,7] rfl rfl (i6 G rfl rfl rfl rfl rfl (C3 (by omega) (by omega)) rfl rfl rfl rfl rfl (Nat.le_of_ble_eq_true rfl) rfl (a4 ⟨rfl,?_⟩))
         refine l9 (by kernel_rfl) ?_
         refine hK26 _ ?_
         clear hK26 K26
         refine b4 (fun K30 hK30=>?_)
         refine a6 ?_
         refine a1 rfl ?_
         refine a3 rfl rfl (b3 G rfl rfl rfl rfl rfl rfl) ?_
         refine a1 rfl ?_
         refine c5 G rfl rfl rfl rfl rfl rfl rfl rfl rfl rfl rfl ?_
         refine a4 ?_
         refine hK30 _ ?_
         clear hK30 K30
         refine c8 (v7 ((⟨v.2.2.rs.set x12.1.toNat ⟨x13.1,x14.1⟩,v.2.2.en,v.2.2.ra,v.2.2.cp⟩,x14.2)) (q9 rfl rfl rfl rfl (a5 (b8 rfl ?_) (a5 (b8 rfl ?_) (a5 (b8 rfl ?_) (a5 (u2 rfl ?_) d4)))) rfl (AftOK.stays rfl ?_ rfl AftOK.nil)) (⟨?_,?_⟩))
         all_goals (first | rfl | exact hc14.mono (by omega) | (dsimp only;rw [List.map_set];rfl) | (rw [List.map_append];rfl) | exact hV.dr | exact hV.dr.setR | exact hV.dr.addA hV.ra | exact hV.dr.setC (by assumption) | exact hV.dr.addC hV.n.2 (by assumption) | (exact congrArg (fun z=>Row.nest _ _ z []) (by rw [List.map_set];rfl)))
       ·try rw [h6]
        try simp only [rfb] at h6
        refine b4 (fun K31 hK31=>?_)
        refine a6 ?_
        refine a1 rfl ?_
        refine a3 rfl rfl (f9 rfl rfl rfl rfl) ?_
        refine a1 rfl ?_
        refine a3 rfl rfl (a7 rfl rfl) ?_
        refine a4 ?_
        refine hK31 _ ?_
        clear hK31 K31
        refine d1 rfl (fun h7=>?_) (fun h7=>?_)
        ·try rw [h7]
         try simp only [rfb] at h7
         refine a6 ?_
         refine a1 rfl ?_
         refine a3 rfl rfl (b7 G rfl rfl rfl rfl) ?_
         refine a1 rfl ?_
         refine a3 rfl rfl (c4 G rfl rfl rfl rfl rfl rfl rfl) ?_
         refine a1 rfl ?_
         refine k6 G 9 rfl rfl rfl rfl rfl rfl rfl rfl ?_
         refine a1 rfl ?_
         refine s4 (Gh.forget (id:=7) (k:=2) rfl rfl)<|s4 (Gh.keep [0,1,3,4,5,6,7,8] rfl)<|f7 G (by rw [hpin];decide) rfl rfl rfl rfl rfl rfl rfl rfl rfl (by first | (simp only [List.length_map,List.length_cons,List.length_nil];omega) | (simp;omega)) rfl rfl ?_
         refine a1 rfl ?_
         refine a3 rfl rfl (b7 G rfl rfl rfl rfl) ?_
         refine a1 rfl ?_
         refine c5 G rfl rfl rfl rfl rfl rfl rfl rfl rfl rfl rfl ?_
         refine a4 ?_
         refine hK26 _ ?_
         clear hK26 K26
         refine b4 (fun K32 hK32=>?_)
         refine a6 ?_
         refine a1 rfl ?_
         refine a3 rfl rfl (b3 G rfl rfl rfl rfl rfl rfl) ?_
         refine a1 rfl ?_
         refine c5 G rfl rfl rfl rfl rfl rfl rfl rfl rfl rfl rfl ?_
         refine a4 ?_
         refine hK32 _ ?_
         clear hK32 K32
         refine c8 (v7 ((⟨v.2.2.rs,v.2.2.en,v.2.2.ra++[false],v.2.2.cp⟩,x8.2)) (q9 rfl rfl rfl rfl (a5 (b8 rfl ?_) (a5 (b8 rfl ?_) (a5 (b8 rfl ?_) (a5 (u2 rfl ?_) d4)))) rfl (AftOK.stays rfl ?_ rfl AftOK.nil)) (⟨?_,?_⟩))
         all_goals (first | rfl | exact hc8.mono (by omega) | (dsimp only;rw [List.map_set];rfl) | (rw [List.map_append];rfl) | exact hV.dr | exact hV.dr.setR | exact hV.dr.addA hV.ra | exact hV.dr.setC (by assumption) | exact hV.dr.addC hV.n.2 (by assumption) | (exact congrArg (fun z=>Row.nest _ _ z []) (by rw [List.map_set];rfl)))
        ·try rw [h7]
         try simp only [rfb] at h7
         refine b4 (fun K33 hK33=>?_)
         refine a6 ?_
         refine a1 rfl ?_
         refine a3 rfl rfl (f9 rfl rfl rfl rfl) ?_
         refine a1 rfl ?_
         refine a3 rfl rfl (a7 rfl rfl) ?_
         refine a4 ?_
         refine hK33 _ ?_
         clear hK33 K33
         refine d1 rfl (fun h8=>?_) (fun h8=>?_)
         ·try rw [h8]
          try simp only [rfb] at h8
          refine j9 6 [1,3,4,5,7] m5 (by kernel_rfl) rfl rfl (fun r0=>?_) (fun _ h=>h)
          refine b9 0 rfl (by kernel_rfl) (by kernel_rfl) rfl rfl rfl rfl (b7 G rfl rfl rfl rfl) ?_
          refine b9 1 rfl (by kernel_rfl) (by kernel_rfl) rfl rfl rfl rfl (c4 G rfl rfl rfl rfl rfl rfl rfl) ?_
          refine b9 2 rfl (by kernel_rfl) (by kernel_rfl) rfl rfl rfl rfl (a8 rfl rfl) ?_
          refine a9 (rs:=[3]) (by kernel_rfl) rfl (AllB.cons ?_ AllB.nil)
          refine c7 [1,3,4,5,7] rfl rfl (d3 11 [0] rfl rfl rfl (X0 hc8 (by omega)) rfl (RowsIn.cons rfl RowsIn.nil) rfl (fun _=>rfl) rfl (fun x15 ⟨hv15,hc15⟩=>a4 ⟨rfl,?_⟩))
          refine a9 (rs:=[4]) (by kernel_rfl) rfl (AllB.cons ?_ AllB.nil)
          refine c7 [1,3,4,5,7] rfl rfl (a3 rfl rfl (d5 G rfl rfl rfl rfl rfl (by omega) (by rw [List.length_map];omega)) (a4 ⟨rfl,?_⟩))
          refine a9 (rs:=[5]) (by kernel_rfl) rfl (AllB.cons ?_ AllB.nil)
          first | refine c7 [1,3,4,5,7] rfl rfl (i9 G rfl rfl rfl rfl rfl (t8 (by omega) (by omega)) rfl rfl (.v rfl (.own rfl (.own rfl (.own rfl .nil)))) rfl rfl rfl (Nat.le_of_ble_eq_true rfl) (fun q h=>by cases h) rfl (a4 ⟨rfl,?_⟩)) | refine c7 [1,3,4,5,7] rfl rfl (i9 G rfl rfl rfl rfl rfl (B3 (by simp only [List.length_set,List.length_map];omega) rfl) rfl rfl (.v rfl (.own rfl (.own rfl (.own rfl .nil)))) rfl rfl rfl (Nat.le_of_ble_eq_true rfl) (fun q h=>by cases h) rfl (a4 ⟨rfl,?_⟩))
          refine l9 (by kernel_rfl) ?_
          refine hK26 _ ?_
          clear hK26 K26
          refine b4 (fun K34 hK34=>?_)
          refine a6 ?_
          refine a1 rfl ?_
          refine a3 rfl rfl (b3 G rfl rfl rfl rfl rfl rfl) ?_
          refine a1 rfl ?_
          refine c5 G rfl rfl rfl rfl rfl rfl rfl rfl rfl rfl rfl ?_
          refine a4 ?_
          refine hK34 _ ?_
          clear hK34 K34
          refine c8 (v7 ((⟨v.2.2.rs,v.2.2.en,v.2.2.ra,v.2.2.cp.set 0 x15.1⟩,x15.2)) (q9 rfl rfl rfl rfl (a5 (b8 rfl ?_) (a5 (b8 rfl ?_) (a5 (b8 rfl ?_) (a5 (u2 rfl ?_) d4)))) rfl (AftOK.stays rfl ?_ rfl AftOK.nil)) (⟨?_,?_⟩))
          all_goals (first | rfl | exact hc15.mono (by omega) | (dsimp only;rw [List.map_set];rfl) | (rw [List.map_append];rfl) | exact hV.dr | exact hV.dr.setR | exact hV.dr.addA hV.ra | exact hV.dr.setC (by assumption) | exact hV.dr.addC hV.n.2 (by assumption) | (exact congrArg (fun z=>Row.nest _ _ z []) (by rw [List.map_set];rfl)))
         ·try rw [h8]
          try simp only [rfb] at h8
          refine b4 (fun K35 hK35=>?_)
          refine a6 ?_
          refine a1 rfl ?_
          refine a3 rfl rfl (f9 rfl rfl rfl rfl) ?_
          refine a1 rfl ?_
          refine a3 rfl rfl (a7 rfl rfl) ?_
          refine a4 ?_
          refine hK35 _ ?_
          clear hK35 K35
          refine d1 rfl (fun h9=>?_) (fun h9=>?_)
          ·try rw [h9]
           try simp only [rfb] at h9
           refine J7 8 [1,3,4,5,6,7] [5,7] m5 (by kernel_rfl) rfl rfl (fun r0=>?_) (fun _ h=>h)
           refine t5 0 [1,5,6,7] rfl (by kernel_rfl) (by kernel_rfl) (by kernel_rfl) rfl rfl rfl rfl (b7 G rfl rfl rfl rfl) ?_
           refine t5 1 [5,6,7] rfl (by kernel_rfl) (by kernel_rfl) (by kernel_rfl) rfl rfl rfl rfl (c4 G rfl rfl rfl rfl rfl rfl rfl) ?_
           refine t5 2 [3,4,5,6,7] rfl (by kernel_rfl) (by kernel_rfl) (by kernel_rfl) rfl rfl rfl rfl (a8 rfl rfl) ?_
           refine s3 3 (by kernel_rfl) (A3 [1,3,4,5,6,7] rfl rfl (d3 11 [0] rfl rfl rfl (X0 hc8 (by omega)) rfl (RowsIn.cons rfl RowsIn.nil) rfl (fun _=>rfl) rfl (fun x16 ⟨hv16,hc16⟩=>a4 ⟨rfl,?_⟩)))
           refine s3 4 (by kernel_rfl) (A3 [1,3,4,5,6,7] rfl rfl (v3 G 12 rfl rfl rfl rfl rfl rfl rfl rfl (.v rfl (.own rfl (.own rfl (.own rfl .nil)))) rfl rfl rfl rfl (a4 ⟨rfl,?_⟩)))
           refine s3 5 (by kernel_rfl) (G6 rfl rfl (by kernel_rfl) (s4 (Gh.forget (id:=7) (k:=3) rfl rfl)<|s4 (Gh.keep [0,1,3,4,5,6,7,11] rfl)<|y5 (tx:=107) 13 rfl rfl rfl rfl rfl<|s5 G (by exact Nat.le_of_ble_eq_true rfl) rfl rfl rfl rfl rfl rfl rfl rfl rfl rfl (by first | (simp only [List.length_map,List.length_cons,List.length_nil];omega) | (simp;omega)) rfl rfl (a4 ?_)))
           refine s3 6 (by kernel_rfl) ?_
           refine G6 rfl rfl (by kernel_rfl) ?_
           refine a3 rfl rfl (b7 G rfl rfl rfl rfl) ?_
           refine a4 ?_
           refine s3 7 (by kernel_rfl) ?_
           refine G6 rfl rfl (by kernel_rfl) ?_
           refine c5 G rfl rfl rfl rfl rfl rfl rfl rfl rfl rfl rfl ?_
           refine a4 ?_
           refine Z1 (by kernel_rfl) ?_
           refine hK26 _ ?_
           clear hK26 K26
           refine b4 (fun K36 hK36=>?_)
           refine a6 ?_
           refine a1 rfl ?_
           refine a3 rfl rfl (b3 G rfl rfl rfl rfl rfl rfl) ?_
           refine a1 rfl ?_
           refine c5 G rfl rfl rfl rfl rfl rfl rfl rfl rfl rfl rfl ?_
           refine a4 ?_
           refine hK36 _ ?_
           clear hK36 K36
           refine c8 (v7 ((⟨v.2.2.rs,v.2.2.en,v.2.2.ra,v.2.2.cp++[x16.1]⟩,x16.2)) (q9 rfl rfl rfl rfl (a5 (b8 rfl ?_) (a5 (b8 rfl ?_) (a5 (b8 rfl ?_) (a5 (u2 rfl ?_) d4)))) rfl (AftOK.stays rfl ?_ rfl AftOK.nil)) (⟨?_,?_⟩))
           all_goals (first | rfl | exact hc16.mono (by omega) | (dsimp only;rw [List.map_set];rfl) | (rw [List.map_append];rfl) | exact hV.dr | exact hV.dr.setR | exact hV.dr.addA hV.ra | exact hV.dr.setC (by assumption) | exact hV.dr.addC hV.n.2 (by assumption) | (exact congrArg (fun z=>Row.nest _ _ z []) (by rw [List.map_set];rfl)))
          ·try rw [h9]
           try simp only [rfb] at h9
           refine e9 ?_
           refine hK26 _ ?_
           clear hK26 K26
           refine b4 (fun K37 hK37=>?_)
           refine a6 ?_
           refine a1 rfl ?_
           refine a3 rfl rfl (b3 G rfl rfl rfl rfl rfl rfl) ?_
           refine a1 rfl ?_
           refine c5 G rfl rfl rfl rfl rfl rfl rfl rfl rfl rfl rfl ?_
           refine a4 ?_
           refine hK37 _ ?_
           clear hK37 K37
           refine c8 (v7 ((v.2.2,x8.2)) (q9 rfl rfl rfl rfl (a5 (b8 rfl ?_) (a5 (b8 rfl ?_) (a5 (b8 rfl ?_) (a5 (u2 rfl ?_) d4)))) rfl (AftOK.stays rfl ?_ rfl AftOK.nil)) (⟨?_,?_⟩))
           all_goals (first | rfl | exact hc8.mono (by omega) | (dsimp only;rw [List.map_set];rfl) | (rw [List.map_append];rfl) | exact hV.dr | exact hV.dr.setR | exact hV.dr.addA hV.ra | exact hV.dr.setC (by assumption) | exact hV.dr.addC hV.n.2 (by assumption) | (exact congrArg (fun z=>Row.nest _ _ z []) (by rw [List.map_set];rfl)))
end Go.Proofs.YtcnodpipinlpcaaGreat
