/- Texts merged into one: D8, D9, W8, W9, W10. -/
import Derived.Test.YtcnodpipinlpcaaGreatPFnAbstractStepsG
set_option maxHeartbeats 4000000
set_option linter.unusedSimpArgs false
set_option linter.unusedVariables false
set_option maxRecDepth 20000
namespace Go.Proofs.YtcnodpipinlpcaaGreat
open Go Go.Rf
theorem G9 {x:Cur} {n:Int} (h:okC n x) (hn:n≤860000000000):CtrX (α:=(List Route×Abs)×Cur) Tryz.prog 50 [.ptr 0 0] [.box [.lst 1 (x.c.map C5),.v (.int .i64 x.a),.v (.int .u64 x.s)]] (fun y=>(y.1.1.length=8∧DrA y.1.2)∧okC (n+3000) y.2) (fun y=>.shp false [none,some 5] [.fr 118 2 (y.1.1.map u7),.fr 4 1 (y.1.2.en.map l0),.fr 4 1 (y.1.2.ra.map l0),.fr 4 1 (y.1.2.po.map l0),.fr 3 1 (y.1.2.ma.map Rf.r5),.ne 26 1 (y.1.2.st.map s1)]) (fun y=>[some (.box [.lst 1 (y.2.c.map C5),.v (.int .i64 y.2.a),.v (.int .u64 y.2.s)])]):=by
 refine CtrX.of (n:=50) (k:=1) G Tryz.func50 rfl (by kernel_rfl) rfl rfl rfl rfl (fun _=>rfl) rfl rfl (fun w0 _ hpin=>?_)
 refine b4 (fun K1 hK1=>?_)
 refine a6 ?_
 refine a1 rfl ?_
 refine a3 rfl rfl (a7 rfl rfl) ?_
 refine a1 rfl ?_
 refine d7 G 2 rfl rfl rfl rfl rfl ?_
 refine a4 ?_
 refine hK1 _ ?_
 clear hK1 K1
 refine b4 (fun K2 hK2=>?_)
 refine a6 ?_
 refine a1 rfl ?_
 refine a3 rfl rfl (a8 rfl rfl) ?_
 refine a1 rfl ?_
 refine d3 6 [0] rfl rfl rfl (a1B h (by omega)) rfl (RowsIn.cons rfl RowsIn.nil) rfl (fun _=>rfl) rfl (fun x1 ⟨hv1,hc1⟩=>?_)
 refine a1 rfl ?_
 refine d7 G 7 rfl rfl rfl rfl rfl ?_
 refine a1 rfl ?_
 refine c5 G rfl rfl rfl rfl rfl rfl rfl rfl rfl rfl rfl ?_
 refine a4 ?_
 refine hK2 _ ?_
 clear hK2 K2
 refine b4 (fun K3 hK3=>?_)
 refine a6 ?_
 refine a1 rfl ?_
 refine a3 rfl rfl (g0 G rfl rfl rfl rfl) ?_
 refine a1 rfl ?_
 refine d7 G 8 rfl rfl rfl rfl rfl ?_
 refine a1 rfl ?_
 refine c5 G rfl rfl rfl rfl rfl rfl rfl rfl rfl rfl rfl ?_
 refine a4 ?_
 refine hK3 _ ?_
 clear hK3 K3
 refine b4 (fun K4 hK4=>?_)
 refine b4 (fun K5 hK5=>?_)
 refine a6 ?_
 refine a1 rfl ?_
 refine a3 rfl rfl (b3 G rfl rfl rfl rfl rfl rfl) ?_
 refine a1 rfl ?_
 refine a3 rfl rfl (k5 rfl (ArgsOK.of rfl) (a5B x1.1 hv1.small) rfl) ?_
 refine a4 ?_
 refine hK5 _ ?_
 clear hK5 K5
 refine d1 rfl (fun h1=>?_) (fun h1=>?_)
 ·try rw [h1]
  try simp only [rfb] at h1
  have hM:=maF h1
  have hF:=b3q hM.g
  have hn1:(r3 x1.1).ma.length=x1.1.cp.length:=List.length_map _
  have hn2:=hM.n
  have hn3:=hF.st
  have hn4:=hF.po
  have hS:=hF.dr
  have hl0:=hS.len 0 (by omega)
  have hr8:=hv1.rs
  refine a6 ?_
  refine a1 rfl ?_
  refine a3 rfl rfl (b3 G rfl rfl rfl rfl rfl rfl) ?_
  refine a1 rfl ?_
  refine g8 13 rfl rfl rfl (ArgsOK.of rfl) (a6W x1.1 hM hv1.small) rfl rfl ?_
  refine a1 rfl ?_
  refine c5 G rfl rfl rfl rfl rfl rfl rfl rfl rfl rfl rfl ?_
  refine a4 ?_
  refine hK4 _ ?_
  clear hK4 K4
  refine b4 (fun K6 hK6=>?_)
  refine b4 (fun K7 hK7=>?_)
  refine a6 ?_
  refine a1 rfl ?_
  refine a3 rfl rfl (b7 G rfl rfl rfl rfl) ?_
  refine a1 rfl ?_
  refine a3 rfl rfl (c4 G rfl rfl rfl rfl rfl rfl rfl) ?_
  refine a1 rfl ?_
  first | refine a3 rfl rfl (r4 G rfl rfl rfl rfl (List.length_map _)) ?_ | refine a3 rfl rfl (t6 G rfl rfl rfl rfl) ?_
  refine a1 rfl ?_
  refine a3 rfl rfl (f9 rfl rfl rfl rfl) ?_
  refine a4 ?_
  refine hK7 _ ?_
  clear hK7 K7
  refine d1 rfl (fun h2=>?_) (fun h2=>?_)
  ·try rw [h2]
   try simp only [rfb] at h2
   refine b4 (fun K8 hK8=>?_)
   refine a6 ?_
   refine a1 rfl ?_
   refine a3 rfl rfl (a8 rfl rfl) ?_
   refine a1 rfl ?_
   refine d3 13 [0] rfl rfl rfl (n8 hc1 (by omega) (24)) rfl (RowsIn.cons rfl RowsIn.nil) rfl (fun _=>rfl) rfl (fun x2 ⟨hv2,hc2⟩=>?_)
   refine a4 ?_
   refine hK8 _ ?_
   clear hK8 K8
   refine l8 ?_
   refine b4 (fun K9 hK9=>?_)
   refine a6 ?_
   refine a1 rfl ?_
   refine a3 rfl rfl (f9 rfl rfl rfl rfl) ?_
   refine a1 rfl ?_
   refine a3 rfl rfl (a7 rfl rfl) ?_
   refine a4 ?_
   refine hK9 _ ?_
   clear hK9 K9
   refine d1 rfl (fun h3=>?_) (fun h3=>?_)
   ·try rw [h3]
    try simp only [rfb] at h3
    refine j9 7 [1,2,3,4,5,6,7,8,9,10,12] m5 (by kernel_rfl) rfl rfl (fun r0=>?_) (fun _ h=>h)
    refine b9 0 rfl (by kernel_rfl) (by kernel_rfl) rfl rfl rfl rfl (b7 G rfl rfl rfl rfl) ?_
    refine b9 1 rfl (by kernel_rfl) (by kernel_rfl) rfl rfl rfl rfl (c4 G rfl rfl rfl rfl rfl rfl rfl) ?_
    refine b9 2 rfl (by kernel_rfl) (by kernel_rfl) rfl rfl rfl rfl (a8 rfl rfl) ?_
    refine a9 (rs:=[3]) (by kernel_rfl) rfl (AllB.cons ?_ AllB.nil)
    refine c7 [1,2,3,4,5,6,7,8,9,10,12] rfl rfl (k6 G 14 rfl rfl rfl rfl rfl rfl rfl rfl (a4 ⟨rfl,?_⟩))
    refine a9 (rs:=[4]) (by kernel_rfl) rfl (AllB.cons ?_ AllB.nil)
    refine c7 [1,2,3,4,5,6,7,8,9,10,12] rfl rfl (d3 14 [0,13] rfl rfl rfl (y8 hc2 (by omega) [-1,16,17] (-1) (17) (by decide) (by decide)) rfl (RowsIn.cons rfl (RowsIn.cons rfl RowsIn.nil)) rfl (fun _=>rfl) rfl (fun x3 ⟨hv3,hc3⟩=>a4 ⟨rfl,?_⟩))
    refine a9 (rs:=[5]) (by kernel_rfl) rfl (AllB.cons ?_ AllB.nil)
    refine c7 [1,2,3,4,5,6,7,8,9,10,12] rfl rfl (a3 rfl rfl (k8 G rfl rfl rfl rfl rfl (by omega) (by rw [List.length_map];omega)) (a4 ⟨rfl,?_⟩))
    refine a9 (rs:=[6]) (by kernel_rfl) rfl (AllB.cons ?_ AllB.nil)
    first | refine c7 [1,2,3,4,5,6,7,8,9,10,12] rfl rfl (i6 G rfl rfl rfl rfl rfl (C3 (by omega) (by omega)) rfl rfl rfl rfl rfl (Nat.le_of_ble_eq_true rfl) rfl (a4 ⟨rfl,?_⟩)) | refine c7 [1,2,3,4,5,6,7,8,9,10,12] rfl rfl (i6 G rfl rfl rfl rfl rfl (t8 (by omega) (by omega)) rfl rfl rfl rfl rfl (Nat.le_of_ble_eq_true rfl) rfl (a4 ⟨rfl,?_⟩))
    refine l9 (by kernel_rfl) ?_
    refine hK6 _ ?_
    clear hK6 K6
    refine b4 (fun K10 hK10=>?_)
    refine j9 5 [0,2,3,4,5,6,7,8,9,10,11,12,13] m5 (by kernel_rfl) rfl rfl (fun r0=>?_) (fun _ h=>h)
    refine b9 0 rfl (by kernel_rfl) (by kernel_rfl) rfl rfl rfl rfl (b7 G rfl rfl rfl rfl) ?_
    refine b9 1 rfl (by kernel_rfl) (by kernel_rfl) rfl rfl rfl rfl (c4 G rfl rfl rfl rfl rfl rfl rfl) ?_
    refine b9 2 rfl (by kernel_rfl) (by kernel_rfl) rfl rfl rfl rfl (b3 G rfl rfl rfl rfl rfl rfl) ?_
    refine b9 3 rfl (by kernel_rfl) (by kernel_rfl) rfl rfl rfl rfl (a7 rfl rfl) ?_
    refine a9 (rs:=[4]) (by kernel_rfl) rfl (AllB.cons ?_ AllB.nil)
    refine c7 [0,2,3,4,5,6,7,8,9,10,11,12,13] rfl rfl (c5 G rfl rfl rfl rfl rfl rfl rfl rfl rfl rfl rfl (a4 ⟨rfl,?_⟩))
    refine l9 (by kernel_rfl) ?_
    refine hK10 _ ?_
    clear hK10 K10
    refine c8 (v7 (((x1.1.rs,⟨(r3 x1.1).en,(r3 x1.1).ra,(r3 x1.1).po,(r3 x1.1).ma.set 0 x3.1,(r3 x1.1).st⟩),x3.2)) (q9 rfl rfl rfl rfl (a5 (b8 rfl ?_) (a5 (b8 rfl ?_) (a5 (b8 rfl ?_) (a5 (b8 rfl ?_) (a5 (b8 rfl ?_) (a5 (u2 rfl ?_) d4)))))) rfl (AftOK.stays rfl ?_ rfl AftOK.nil)) (⟨?_,?_⟩))
    all_goals (first | rfl | exact hc3.mono (by omega) | (dsimp only;rw [List.map_set];rfl) | exact ⟨hr8,hS.setM⟩ | exact ⟨hr8,hS.setPo⟩ | exact ⟨hr8,hS⟩ | exact ⟨hr8,Z2⟩ | exact ⟨hr8,hF.addS (by omega)⟩ | exact List.map_set.symm | exact Y2 rfl (by rw [List.map_append];rfl))
   ·try rw [h3]
    try simp only [rfb] at h3
    refine b4 (fun K11 hK11=>?_)
    refine a6 ?_
    refine a1 rfl ?_
    refine a3 rfl rfl (f9 rfl rfl rfl rfl) ?_
    refine a1 rfl ?_
    refine a3 rfl rfl (a7 rfl rfl) ?_
    refine a4 ?_
    refine hK11 _ ?_
    clear hK11 K11
    refine d1 rfl (fun h4=>?_) (fun h4=>?_)
    ·try rw [h4]
     try simp only [rfb] at h4
     refine a2f (Gh.open (id:=12) (i:=0) (k:=0) 14 rfl rfl (a7k (by omega)) rfl rfl) ?_
     refine j9 12 [1,2,3,4,5,6,7,8,9,10,11] m5 (by kernel_rfl) rfl rfl (fun r0=>?_) (fun _ h=>h)
     refine b9 0 rfl (by kernel_rfl) (by kernel_rfl) rfl rfl rfl rfl (b7 G rfl rfl rfl rfl) ?_
     refine b9 1 rfl (by kernel_rfl) (by kernel_rfl) rfl rfl rfl rfl (c4 G rfl rfl rfl rfl rfl rfl rfl) ?_
     refine b9 2 rfl (by kernel_rfl) (by kernel_rfl) rfl rfl rfl rfl (b7 G rfl rfl rfl rfl) ?_
     refine b9 3 rfl (by kernel_rfl) (by kernel_rfl) rfl rfl rfl rfl (c4 G rfl rfl rfl rfl rfl rfl rfl) ?_
     refine b9 6 rfl (by kernel_rfl) (by kernel_rfl) rfl rfl rfl rfl (a8 rfl rfl) ?_
     refine a9 (rs:=[4,7]) (by kernel_rfl) rfl (AllB.cons ?_ (AllB.cons ?_ AllB.nil))
     ·first | refine c7 [1,2,3,4,5,6,7,8,9,10,11] rfl rfl (a3 rfl rfl (d5 G rfl rfl rfl rfl rfl (by omega) (by omega)) (a4 ⟨rfl,?_⟩)) | refine c7 [1,2,3,4,5,6,7,8,9,10,11] rfl rfl (a3 rfl rfl (d5 G rfl rfl rfl rfl rfl (by omega) (by simp;omega)) (a4 ⟨rfl,?_⟩))
      refine a9 (rs:=[5,7]) (by kernel_rfl) rfl (AllB.cons ?_ (AllB.cons ?_ AllB.nil))
      ·refine c7 [1,2,3,4,5,6,7,8,9,10,11] rfl rfl (a3 rfl rfl (w7 G rfl rfl rfl rfl rfl (s8.2 ⟨_,(B3 (by simp;omega) rfl),rfl⟩) (.own (by first | exact List.Mem.head _ | simp) .nil)) (a4 ⟨rfl,?_⟩))
       refine a9 (rs:=[7]) (by kernel_rfl) rfl (AllB.cons ?_ AllB.nil)
       refine c7 [1,2,3,4,5,6,7,8,9,10,11] rfl rfl (d3 14 [0] rfl rfl rfl (n8 hc2 (by omega) (9)) rfl (RowsIn.cons rfl RowsIn.nil) rfl (fun _=>rfl) rfl (fun x4 ⟨hv4,hc4⟩=>a4 ⟨rfl,?_⟩))
       refine a9 (rs:=[8]) (by kernel_rfl) rfl (AllB.cons ?_ AllB.nil)
       refine c7 [1,2,3,4,5,6,7,8,9,10,11] rfl rfl (k6 G 15 rfl rfl rfl rfl rfl rfl rfl rfl (a4 ⟨rfl,?_⟩))
       refine a9 (rs:=[9]) (by kernel_rfl) rfl (AllB.cons ?_ AllB.nil)
       refine c7 [1,2,3,4,5,6,7,8,9,10,11] rfl rfl (s4 (Gh.detach (id:=12) rfl)<|s4 (Gh.keep [0,1,2,3,4,5,6,7,8,9,10,11,12,13,14] rfl)<|y5 (tx:=34) 16 rfl rfl rfl rfl rfl<|f7 G (by exact Nat.le_of_ble_eq_true rfl) rfl rfl rfl rfl rfl rfl rfl rfl rfl (by first | (simp only [List.length_map,List.length_cons,List.length_nil];omega) | (simp;omega)) rfl rfl (a4 ⟨rfl,?_⟩))
       refine a9 (rs:=[10]) (by kernel_rfl) rfl (AllB.cons ?_ AllB.nil)
       first | refine c7 [1,2,3,4,5,6,7,8,9,10,11] rfl rfl (a3 rfl rfl (d5 G rfl rfl rfl rfl rfl (by omega) (by omega)) (a4 ⟨rfl,?_⟩)) | refine c7 [1,2,3,4,5,6,7,8,9,10,11] rfl rfl (a3 rfl rfl (d5 G rfl rfl rfl rfl rfl (by omega) (by simp;omega)) (a4 ⟨rfl,?_⟩))
       refine a9 (rs:=[11]) (by kernel_rfl) rfl (AllB.cons ?_ AllB.nil)
       first | refine c7 [1,2,3,4,5,6,7,8,9,10,11] rfl rfl (i9 G rfl rfl rfl rfl rfl (B3 (by simp;omega) rfl) rfl rfl (.own rfl .nil) rfl rfl rfl (Nat.le_of_ble_eq_true rfl) (fun q h=>by cases h) rfl (a4 ⟨rfl,?_⟩)) | refine c7 [1,2,3,4,5,6,7,8,9,10,11] rfl rfl (i9 G rfl rfl rfl rfl rfl (B3 (by simp;omega) (by simp)) rfl rfl (.own rfl .nil) rfl rfl rfl (Nat.le_of_ble_eq_true rfl) (fun q h=>by cases h) rfl (a4 ⟨rfl,?_⟩))
       refine l9 (by kernel_rfl) ?_
       refine hK6 _ ?_
       clear hK6 K6
       refine b4 (fun K12 hK12=>?_)
       refine j9 5 [0,2,3,4,5,6,7,8,9,10,11,12,14] m5 (by kernel_rfl) rfl rfl (fun r0=>?_) (fun _ h=>h)
       refine b9 0 rfl (by kernel_rfl) (by kernel_rfl) rfl rfl rfl rfl (b7 G rfl rfl rfl rfl) ?_
       refine b9 1 rfl (by kernel_rfl) (by kernel_rfl) rfl rfl rfl rfl (c4 G rfl rfl rfl rfl rfl rfl rfl) ?_
       refine b9 2 rfl (by kernel_rfl) (by kernel_rfl) rfl rfl rfl rfl (b3 G rfl rfl rfl rfl rfl rfl) ?_
       refine b9 3 rfl (by kernel_rfl) (by kernel_rfl) rfl rfl rfl rfl (a7 rfl rfl) ?_
       refine a9 (rs:=[4]) (by kernel_rfl) rfl (AllB.cons ?_ AllB.nil)
       refine c7 [0,2,3,4,5,6,7,8,9,10,11,12,14] rfl rfl (c5 G rfl rfl rfl rfl rfl rfl rfl rfl rfl rfl rfl (a4 ⟨rfl,?_⟩))
       refine l9 (by kernel_rfl) ?_
       refine hK12 _ ?_
       clear hK12 K12
       refine c8 (v7 (((x1.1.rs,⟨(r3 x1.1).en,(r3 x1.1).ra,(r3 x1.1).po,(r3 x1.1).ma,(r3 x1.1).st.set 0 ((r3 x1.1).st.getD 0 default++[x4.1])⟩),x4.2)) (q9 rfl rfl rfl rfl (a5 (b8 rfl ?_) (a5 (b8 rfl ?_) (a5 (b8 rfl ?_) (a5 (b8 rfl ?_) (a5 (b8 rfl ?_) (a5 (u2 rfl ?_) d4)))))) rfl (AftOK.stays rfl ?_ rfl AftOK.nil)) (⟨?_,?_⟩))
       all_goals (first | rfl | exact hc4.mono (by omega) | (dsimp only;rw [List.map_set];rfl) | exact ⟨hr8,hS.setM⟩ | exact ⟨hr8,hS.setPo⟩ | exact ⟨hr8,hS⟩ | exact ⟨hr8,Z2⟩ | exact ⟨hr8,hF.addS (by omega)⟩ | exact List.map_set.symm | exact Y2 rfl (by rw [List.map_append];rfl))
      ·refine c7 [1,2,3,4,5,6,7,8,9,10,11] rfl rfl (d3 14 [0] rfl rfl rfl (n8 hc2 (by omega) (9)) rfl (RowsIn.cons rfl RowsIn.nil) rfl (fun _=>rfl) rfl (fun x5 ⟨hv5,hc5⟩=>a4 ⟨rfl,?_⟩))
       refine a9 (rs:=[5,8]) (by kernel_rfl) rfl (AllB.cons ?_ (AllB.cons ?_ AllB.nil))
       ·refine c7 [1,2,3,4,5,6,7,8,9,10,11] rfl rfl (a3 rfl rfl (w7 G rfl rfl rfl rfl rfl (s8.2 ⟨_,(B3 (by simp;omega) rfl),rfl⟩) (.own (by first | exact List.Mem.head _ | simp) .nil)) (a4 ⟨rfl,?_⟩))
        refine a9 (rs:=[8]) (by kernel_rfl) rfl (AllB.cons ?_ AllB.nil)
        refine c7 [1,2,3,4,5,6,7,8,9,10,11] rfl rfl (k6 G 15 rfl rfl rfl rfl rfl rfl rfl rfl (a4 ⟨rfl,?_⟩))
        refine a9 (rs:=[9]) (by kernel_rfl) rfl (AllB.cons ?_ AllB.nil)
        refine c7 [1,2,3,4,5,6,7,8,9,10,11] rfl rfl (s4 (Gh.detach (id:=12) rfl)<|s4 (Gh.keep [0,1,2,3,4,5,6,7,8,9,10,11,12,13,14] rfl)<|y5 (tx:=34) 16 rfl rfl rfl rfl rfl<|f7 G (by exact Nat.le_of_ble_eq_true rfl) rfl rfl rfl rfl rfl rfl rfl rfl rfl (by first | (simp only [List.length_map,List.length_cons,List.length_nil];omega) | (simp;omega)) rfl rfl (a4 ⟨rfl,?_⟩))
        refine a9 (rs:=[10]) (by kernel_rfl) rfl (AllB.cons ?_ AllB.nil)
        first | refine c7 [1,2,3,4,5,6,7,8,9,10,11] rfl rfl (a3 rfl rfl (d5 G rfl rfl rfl rfl rfl (by omega) (by omega)) (a4 ⟨rfl,?_⟩)) | refine c7 [1,2,3,4,5,6,7,8,9,10,11] rfl rfl (a3 rfl rfl (d5 G rfl rfl rfl rfl rfl (by omega) (by simp;omega)) (a4 ⟨rfl,?_⟩))
        refine a9 (rs:=[11]) (by kernel_rfl) rfl (AllB.cons ?_ AllB.nil)
        first | refine c7 [1,2,3,4,5,6,7,8,9,10,11] rfl rfl (i9 G rfl rfl rfl rfl rfl (B3 (by simp;omega) rfl) rfl rfl (.own rfl .nil) rfl rfl rfl (Nat.le_of_ble_eq_true rfl) (fun q h=>by cases h) rfl (a4 ⟨rfl,?_⟩)) | refine c7 [1,2,3,4,5,6,7,8,9,10,11] rfl rfl (i9 G rfl rfl rfl rfl rfl (B3 (by simp;omega) (by simp)) rfl rfl (.own rfl .nil) rfl rfl rfl (Nat.le_of_ble_eq_true rfl) (fun q h=>by cases h) rfl (a4 ⟨rfl,?_⟩))
        refine l9 (by kernel_rfl) ?_
        refine hK6 _ ?_
        clear hK6 K6
        refine b4 (fun K13 hK13=>?_)
        refine j9 5 [0,2,3,4,5,6,7,8,9,10,11,12,14] m5 (by kernel_rfl) rfl rfl (fun r0=>?_) (fun _ h=>h)
        refine b9 0 rfl (by kernel_rfl) (by kernel_rfl) rfl rfl rfl rfl (b7 G rfl rfl rfl rfl) ?_
        refine b9 1 rfl (by kernel_rfl) (by kernel_rfl) rfl rfl rfl rfl (c4 G rfl rfl rfl rfl rfl rfl rfl) ?_
        refine b9 2 rfl (by kernel_rfl) (by kernel_rfl) rfl rfl rfl rfl (b3 G rfl rfl rfl rfl rfl rfl) ?_
        refine b9 3 rfl (by kernel_rfl) (by kernel_rfl) rfl rfl rfl rfl (a7 rfl rfl) ?_
        refine a9 (rs:=[4]) (by kernel_rfl) rfl (AllB.cons ?_ AllB.nil)
        refine c7 [0,2,3,4,5,6,7,8,9,10,11,12,14] rfl rfl (c5 G rfl rfl rfl rfl rfl rfl rfl rfl rfl rfl rfl (a4 ⟨rfl,?_⟩))
        refine l9 (by kernel_rfl) ?_
        refine hK13 _ ?_
        clear hK13 K13
        refine c8 (v7 (((x1.1.rs,⟨(r3 x1.1).en,(r3 x1.1).ra,(r3 x1.1).po,(r3 x1.1).ma,(r3 x1.1).st.set 0 ((r3 x1.1).st.getD 0 default++[x5.1])⟩),x5.2)) (q9 rfl rfl rfl rfl (a5 (b8 rfl ?_) (a5 (b8 rfl ?_) (a5 (b8 rfl ?_) (a5 (b8 rfl ?_) (a5 (b8 rfl ?_) (a5 (u2 rfl ?_) d4)))))) rfl (AftOK.stays rfl ?_ rfl AftOK.nil)) (⟨?_,?_⟩))
        all_goals (first | rfl | exact hc5.mono (by omega) | (dsimp only;rw [List.map_set];rfl) | exact ⟨hr8,hS.setM⟩ | exact ⟨hr8,hS.setPo⟩ | exact ⟨hr8,hS⟩ | exact ⟨hr8,Z2⟩ | exact ⟨hr8,hF.addS (by omega)⟩ | exact List.map_set.symm | exact Y2 rfl (by rw [List.map_append];rfl))
       ·refine c7 [1,2,3,4,5,6,7,8,9,10,11] rfl rfl (k6 G 15 rfl rfl rfl rfl rfl rfl rfl rfl (a4 ⟨rfl,?_⟩))
        refine a9 (rs:=[5]) (by kernel_rfl) rfl (AllB.cons ?_ AllB.nil)
        refine c7 [1,2,3,4,5,6,7,8,9,10,11] rfl rfl (a3 rfl rfl (w7 G rfl rfl rfl rfl rfl (s8.2 ⟨_,(B3 (by simp;omega) rfl),rfl⟩) (.own (by first | exact List.Mem.head _ | simp) .nil)) (a4 ⟨rfl,?_⟩))
        refine a9 (rs:=[9]) (by kernel_rfl) rfl (AllB.cons ?_ AllB.nil)
        refine c7 [1,2,3,4,5,6,7,8,9,10,11] rfl rfl (s4 (Gh.detach (id:=12) rfl)<|s4 (Gh.keep [0,1,2,3,4,5,6,7,8,9,10,11,12,13,14] rfl)<|y5 (tx:=34) 16 rfl rfl rfl rfl rfl<|f7 G (by exact Nat.le_of_ble_eq_true rfl) rfl rfl rfl rfl rfl rfl rfl rfl rfl (by first | (simp only [List.length_map,List.length_cons,List.length_nil];omega) | (simp;omega)) rfl rfl (a4 ⟨rfl,?_⟩))
        refine a9 (rs:=[10]) (by kernel_rfl) rfl (AllB.cons ?_ AllB.nil)
        first | refine c7 [1,2,3,4,5,6,7,8,9,10,11] rfl rfl (a3 rfl rfl (d5 G rfl rfl rfl rfl rfl (by omega) (by omega)) (a4 ⟨rfl,?_⟩)) | refine c7 [1,2,3,4,5,6,7,8,9,10,11] rfl rfl (a3 rfl rfl (d5 G rfl rfl rfl rfl rfl (by omega) (by simp;omega)) (a4 ⟨rfl,?_⟩))
        refine a9 (rs:=[11]) (by kernel_rfl) rfl (AllB.cons ?_ AllB.nil)
        first | refine c7 [1,2,3,4,5,6,7,8,9,10,11] rfl rfl (i9 G rfl rfl rfl rfl rfl (B3 (by simp;omega) rfl) rfl rfl (.own rfl .nil) rfl rfl rfl (Nat.le_of_ble_eq_true rfl) (fun q h=>by cases h) rfl (a4 ⟨rfl,?_⟩)) | refine c7 [1,2,3,4,5,6,7,8,9,10,11] rfl rfl (i9 G rfl rfl rfl rfl rfl (B3 (by simp;omega) (by simp)) rfl rfl (.own rfl .nil) rfl rfl rfl (Nat.le_of_ble_eq_true rfl) (fun q h=>by cases h) rfl (a4 ⟨rfl,?_⟩))
        refine l9 (by kernel_rfl) ?_
        refine hK6 _ ?_
        clear hK6 K6
        refine b4 (fun K14 hK14=>?_)
        refine j9 5 [0,2,3,4,5,6,7,8,9,10,11,12,14] m5 (by kernel_rfl) rfl rfl (fun r0=>?_) (fun _ h=>h)
        refine b9 0 rfl (by kernel_rfl) (by kernel_rfl) rfl rfl rfl rfl (b7 G rfl rfl rfl rfl) ?_
        refine b9 1 rfl (by kernel_rfl) (by kernel_rfl) rfl rfl rfl rfl (c4 G rfl rfl rfl rfl rfl rfl rfl) ?_
        refine b9 2 rfl (by kernel_rfl) (by kernel_rfl) rfl rfl rfl rfl (b3 G rfl rfl rfl rfl rfl rfl) ?_
        refine b9 3 rfl (by kernel_rfl) (by kernel_rfl) rfl rfl rfl rfl (a7 rfl rfl) ?_
        refine a9 (rs:=[4]) (by kernel_rfl) rfl (AllB.cons ?_ AllB.nil)
        refine c7 [0,2,3,4,5,6,7,8,9,10,11,12,14] rfl rfl (c5 G rfl rfl rfl rfl rfl rfl rfl rfl rfl rfl rfl (a4 ⟨rfl,?_⟩))
        refine l9 (by kernel_rfl) ?_
        refine hK14 _ ?_
        clear hK14 K14
        refine c8 (v7 (((x1.1.rs,⟨(r3 x1.1).en,(r3 x1.1).ra,(r3 x1.1).po,(r3 x1.1).ma,(r3 x1.1).st.set 0 ((r3 x1.1).st.getD 0 default++[x5.1])⟩),x5.2)) (q9 rfl rfl rfl rfl (a5 (b8 rfl ?_) (a5 (b8 rfl ?_) (a5 (b8 rfl ?_) (a5 (b8 rfl ?_) (a5 (b8 rfl ?_) (a5 (u2 rfl ?_) d4)))))) rfl (AftOK.stays rfl ?_ rfl AftOK.nil)) (⟨?_,?_⟩))
        all_goals (first | rfl | exact hc5.mono (by omega) | (dsimp only;rw [List.map_set];rfl) | exact ⟨hr8,hS.setM⟩ | exact ⟨hr8,hS.setPo⟩ | exact ⟨hr8,hS⟩ | exact ⟨hr8,Z2⟩ | exact ⟨hr8,hF.addS (by omega)⟩ | exact List.map_set.symm | exact Y2 rfl (by rw [List.map_append];rfl))
     ·refine c7 [1,2,3,4,5,6,7,8,9,10,11] rfl rfl (d3 14 [0] rfl rfl rfl (n8 hc2 (by omega) (9)) rfl (RowsIn.cons rfl RowsIn.nil) rfl (fun _=>rfl) rfl (fun x6 ⟨hv6,hc6⟩=>a4 ⟨rfl,?_⟩))
      refine a9 (rs:=[4,8]) (by kernel_rfl) rfl (AllB.cons ?_ (AllB.cons ?_ AllB.nil))
      ·first | refine c7 [1,2,3,4,5,6,7,8,9,10,11] rfl rfl (a3 rfl rfl (d5 G rfl rfl rfl rfl rfl (by omega) (by omega)) (a4 ⟨rfl,?_⟩)) | refine c7 [1,2,3,4,5,6,7,8,9,10,11] rfl rfl (a3 rfl rfl (d5 G rfl rfl rfl rfl rfl (by omega) (by simp;omega)) (a4 ⟨rfl,?_⟩))
       refine a9 (rs:=[5,8]) (by kernel_rfl) rfl (AllB.cons ?_ (AllB.cons ?_ AllB.nil))
       ·refine c7 [1,2,3,4,5,6,7,8,9,10,11] rfl rfl (a3 rfl rfl (w7 G rfl rfl rfl rfl rfl (s8.2 ⟨_,(B3 (by simp;omega) rfl),rfl⟩) (.own (by first | exact List.Mem.head _ | simp) .nil)) (a4 ⟨rfl,?_⟩))
        refine a9 (rs:=[8]) (by kernel_rfl) rfl (AllB.cons ?_ AllB.nil)
        refine c7 [1,2,3,4,5,6,7,8,9,10,11] rfl rfl (k6 G 15 rfl rfl rfl rfl rfl rfl rfl rfl (a4 ⟨rfl,?_⟩))
        refine a9 (rs:=[9]) (by kernel_rfl) rfl (AllB.cons ?_ AllB.nil)
        refine c7 [1,2,3,4,5,6,7,8,9,10,11] rfl rfl (s4 (Gh.detach (id:=12) rfl)<|s4 (Gh.keep [0,1,2,3,4,5,6,7,8,9,10,11,12,13,14] rfl)<|y5 (tx:=34) 16 rfl rfl rfl rfl rfl<|f7 G (by exact Nat.le_of_ble_eq_true rfl) rfl rfl rfl rfl rfl rfl rfl rfl rfl (by first | (simp only [List.length_map,List.length_cons,List.length_nil];omega) | (simp;omega)) rfl rfl (a4 ⟨rfl,?_⟩))
        refine a9 (rs:=[10]) (by kernel_rfl) rfl (AllB.cons ?_ AllB.nil)
        first | refine c7 [1,2,3,4,5,6,7,8,9,10,11] rfl rfl (a3 rfl rfl (d5 G rfl rfl rfl rfl rfl (by omega) (by omega)) (a4 ⟨rfl,?_⟩)) | refine c7 [1,2,3,4,5,6,7,8,9,10,11] rfl rfl (a3 rfl rfl (d5 G rfl rfl rfl rfl rfl (by omega) (by simp;omega)) (a4 ⟨rfl,?_⟩))
        refine a9 (rs:=[11]) (by kernel_rfl) rfl (AllB.cons ?_ AllB.nil)
        first | refine c7 [1,2,3,4,5,6,7,8,9,10,11] rfl rfl (i9 G rfl rfl rfl rfl rfl (B3 (by simp;omega) rfl) rfl rfl (.own rfl .nil) rfl rfl rfl (Nat.le_of_ble_eq_true rfl) (fun q h=>by cases h) rfl (a4 ⟨rfl,?_⟩)) | refine c7 [1,2,3,4,5,6,7,8,9,10,11] rfl rfl (i9 G rfl rfl rfl rfl rfl (B3 (by simp;omega) (by simp)) rfl rfl (.own rfl .nil) rfl rfl rfl (Nat.le_of_ble_eq_true rfl) (fun q h=>by cases h) rfl (a4 ⟨rfl,?_⟩))
        refine l9 (by kernel_rfl) ?_
        refine hK6 _ ?_
        clear hK6 K6
        refine b4 (fun K15 hK15=>?_)
        refine j9 5 [0,2,3,4,5,6,7,8,9,10,11,12,14] m5 (by kernel_rfl) rfl rfl (fun r0=>?_) (fun _ h=>h)
        refine b9 0 rfl (by kernel_rfl) (by kernel_rfl) rfl rfl rfl rfl (b7 G rfl rfl rfl rfl) ?_
        refine b9 1 rfl (by kernel_rfl) (by kernel_rfl) rfl rfl rfl rfl (c4 G rfl rfl rfl rfl rfl rfl rfl) ?_
        refine b9 2 rfl (by kernel_rfl) (by kernel_rfl) rfl rfl rfl rfl (b3 G rfl rfl rfl rfl rfl rfl) ?_
        refine b9 3 rfl (by kernel_rfl) (by kernel_rfl) rfl rfl rfl rfl (a7 rfl rfl) ?_
        refine a9 (rs:=[4]) (by kernel_rfl) rfl (AllB.cons ?_ AllB.nil)
        refine c7 [0,2,3,4,5,6,7,8,9,10,11,12,14] rfl rfl (c5 G rfl rfl rfl rfl rfl rfl rfl rfl rfl rfl rfl (a4 ⟨rfl,?_⟩))
        refine l9 (by kernel_rfl) ?_
        refine hK15 _ ?_
        clear hK15 K15
        refine c8 (v7 (((x1.1.rs,⟨(r3 x1.1).en,(r3 x1.1).ra,(r3 x1.1).po,(r3 x1.1).ma,(r3 x1.1).st.set 0 ((r3 x1.1).st.getD 0 default++[x6.1])⟩),x6.2)) (q9 rfl rfl rfl rfl (a5 (b8 rfl ?_) (a5 (b8 rfl ?_) (a5 (b8 rfl ?_) (a5 (b8 rfl ?_) (a5 (b8 rfl ?_) (a5 (u2 rfl ?_) d4)))))) rfl (AftOK.stays rfl ?_ rfl AftOK.nil)) (⟨?_,?_⟩))
        all_goals (first | rfl | exact hc6.mono (by omega) | (dsimp only;rw [List.map_set];rfl) | exact ⟨hr8,hS.setM⟩ | exact ⟨hr8,hS.setPo⟩ | exact ⟨hr8,hS⟩ | exact ⟨hr8,Z2⟩ | exact ⟨hr8,hF.addS (by omega)⟩ | exact List.map_set.symm | exact Y2 rfl (by rw [List.map_append];rfl))
       ·refine c7 [1,2,3,4,5,6,7,8,9,10,11] rfl rfl (k6 G 15 rfl rfl rfl rfl rfl rfl rfl rfl (a4 ⟨rfl,?_⟩))
        refine a9 (rs:=[5]) (by kernel_rfl) rfl (AllB.cons ?_ AllB.nil)
        refine c7 [1,2,3,4,5,6,7,8,9,10,11] rfl rfl (a3 rfl rfl (w7 G rfl rfl rfl rfl rfl (s8.2 ⟨_,(B3 (by simp;omega) rfl),rfl⟩) (.own (by first | exact List.Mem.head _ | simp) .nil)) (a4 ⟨rfl,?_⟩))
        refine a9 (rs:=[9]) (by kernel_rfl) rfl (AllB.cons ?_ AllB.nil)
        refine c7 [1,2,3,4,5,6,7,8,9,10,11] rfl rfl (s4 (Gh.detach (id:=12) rfl)<|s4 (Gh.keep [0,1,2,3,4,5,6,7,8,9,10,11,12,13,14] rfl)<|y5 (tx:=34) 16 rfl rfl rfl rfl rfl<|f7 G (by exact Nat.le_of_ble_eq_true rfl) rfl rfl rfl rfl rfl rfl rfl rfl rfl (by first | (simp only [List.length_map,List.length_cons,List.length_nil];omega) | (simp;omega)) rfl rfl (a4 ⟨rfl,?_⟩))
        refine a9 (rs:=[10]) (by kernel_rfl) rfl (AllB.cons ?_ AllB.nil)
        first | refine c7 [1,2,3,4,5,6,7,8,9,10,11] rfl rfl (a3 rfl rfl (d5 G rfl rfl rfl rfl rfl (by omega) (by omega)) (a4 ⟨rfl,?_⟩)) | refine c7 [1,2,3,4,5,6,7,8,9,10,11] rfl rfl (a3 rfl rfl (d5 G rfl rfl rfl rfl rfl (by omega) (by simp;omega)) (a4 ⟨rfl,?_⟩))
        refine a9 (rs:=[11]) (by kernel_rfl) rfl (AllB.cons ?_ AllB.nil)
        first | refine c7 [1,2,3,4,5,6,7,8,9,10,11] rfl rfl (i9 G rfl rfl rfl rfl rfl (B3 (by simp;omega) rfl) rfl rfl (.own rfl .nil) rfl rfl rfl (Nat.le_of_ble_eq_true rfl) (fun q h=>by cases h) rfl (a4 ⟨rfl,?_⟩)) | refine c7 [1,2,3,4,5,6,7,8,9,10,11] rfl rfl (i9 G rfl rfl rfl rfl rfl (B3 (by simp;omega) (by simp)) rfl rfl (.own rfl .nil) rfl rfl rfl (Nat.le_of_ble_eq_true rfl) (fun q h=>by cases h) rfl (a4 ⟨rfl,?_⟩))
        refine l9 (by kernel_rfl) ?_
        refine hK6 _ ?_
        clear hK6 K6
        refine b4 (fun K16 hK16=>?_)
        refine j9 5 [0,2,3,4,5,6,7,8,9,10,11,12,14] m5 (by kernel_rfl) rfl rfl (fun r0=>?_) (fun _ h=>h)
        refine b9 0 rfl (by kernel_rfl) (by kernel_rfl) rfl rfl rfl rfl (b7 G rfl rfl rfl rfl) ?_
        refine b9 1 rfl (by kernel_rfl) (by kernel_rfl) rfl rfl rfl rfl (c4 G rfl rfl rfl rfl rfl rfl rfl) ?_
        refine b9 2 rfl (by kernel_rfl) (by kernel_rfl) rfl rfl rfl rfl (b3 G rfl rfl rfl rfl rfl rfl) ?_
        refine b9 3 rfl (by kernel_rfl) (by kernel_rfl) rfl rfl rfl rfl (a7 rfl rfl) ?_
        refine a9 (rs:=[4]) (by kernel_rfl) rfl (AllB.cons ?_ AllB.nil)
        refine c7 [0,2,3,4,5,6,7,8,9,10,11,12,14] rfl rfl (c5 G rfl rfl rfl rfl rfl rfl rfl rfl rfl rfl rfl (a4 ⟨rfl,?_⟩))
        refine l9 (by kernel_rfl) ?_
        refine hK16 _ ?_
        clear hK16 K16
        refine c8 (v7 (((x1.1.rs,⟨(r3 x1.1).en,(r3 x1.1).ra,(r3 x1.1).po,(r3 x1.1).ma,(r3 x1.1).st.set 0 ((r3 x1.1).st.getD 0 default++[x6.1])⟩),x6.2)) (q9 rfl rfl rfl rfl (a5 (b8 rfl ?_) (a5 (b8 rfl ?_) (a5 (b8 rfl ?_) (a5 (b8 rfl ?_) (a5 (b8 rfl ?_) (a5 (u2 rfl ?_) d4)))))) rfl (AftOK.stays rfl ?_ rfl AftOK.nil)) (⟨?_,?_⟩))
        all_goals (first | rfl | exact hc6.mono (by omega) | (dsimp only;rw [List.map_set];rfl) | exact ⟨hr8,hS.setM⟩ | exact ⟨hr8,hS.setPo⟩ | exact ⟨hr8,hS⟩ | exact ⟨hr8,Z2⟩ | exact ⟨hr8,hF.addS (by omega)⟩ | exact List.map_set.symm | exact Y2 rfl (by rw [List.map_append];rfl))
      ·refine c7 [1,2,3,4,5,6,7,8,9,10,11] rfl rfl (k6 G 15 rfl rfl rfl rfl rfl rfl rfl rfl (a4 ⟨rfl,?_⟩))
       refine a9 (rs:=[4]) (by kernel_rfl) rfl (AllB.cons ?_ AllB.nil)
       first | refine c7 [1,2,3,4,5,6,7,8,9,10,11] rfl rfl (a3 rfl rfl (d5 G rfl rfl rfl rfl rfl (by omega) (by omega)) (a4 ⟨rfl,?_⟩)) | refine c7 [1,2,3,4,5,6,7,8,9,10,11] rfl rfl (a3 rfl rfl (d5 G rfl rfl rfl rfl rfl (by omega) (by simp;omega)) (a4 ⟨rfl,?_⟩))
       refine a9 (rs:=[5]) (by kernel_rfl) rfl (AllB.cons ?_ AllB.nil)
       refine c7 [1,2,3,4,5,6,7,8,9,10,11] rfl rfl (a3 rfl rfl (w7 G rfl rfl rfl rfl rfl (s8.2 ⟨_,(B3 (by simp;omega) rfl),rfl⟩) (.own (by first | exact List.Mem.head _ | simp) .nil)) (a4 ⟨rfl,?_⟩))
       refine a9 (rs:=[9]) (by kernel_rfl) rfl (AllB.cons ?_ AllB.nil)
       refine c7 [1,2,3,4,5,6,7,8,9,10,11] rfl rfl (s4 (Gh.detach (id:=12) rfl)<|s4 (Gh.keep [0,1,2,3,4,5,6,7,8,9,10,11,12,13,14] rfl)<|y5 (tx:=34) 16 rfl rfl rfl rfl rfl<|f7 G (by exact Nat.le_of_ble_eq_true rfl) rfl rfl rfl rfl rfl rfl rfl rfl rfl (by first | (simp only [List.length_map,List.length_cons,List.length_nil];omega) | (simp;omega)) rfl rfl (a4 ⟨rfl,?_⟩))
       refine a9 (rs:=[10]) (by kernel_rfl) rfl (AllB.cons ?_ AllB.nil)
       first | refine c7 [1,2,3,4,5,6,7,8,9,10,11] rfl rfl (a3 rfl rfl (d5 G rfl rfl rfl rfl rfl (by omega) (by omega)) (a4 ⟨rfl,?_⟩)) | refine c7 [1,2,3,4,5,6,7,8,9,10,11] rfl rfl (a3 rfl rfl (d5 G rfl rfl rfl rfl rfl (by omega) (by simp;omega)) (a4 ⟨rfl,?_⟩))
       refine a9 (rs:=[11]) (by kernel_rfl) rfl (AllB.cons ?_ AllB.nil)
       first | refine c7 [1,2,3,4,5,6,7,8,9,10,11] rfl rfl (i9 G rfl rfl rfl rfl rfl (B3 (by simp;omega) rfl) rfl rfl (.own rfl .nil) rfl rfl rfl (Nat.le_of_ble_eq_true rfl) (fun q h=>by cases h) rfl (a4 ⟨rfl,?_⟩)) | refine c7 [1,2,3,4,5,6,7,8,9,10,11] rfl rfl (i9 G rfl rfl rfl rfl rfl (B3 (by simp;omega) (by simp)) rfl rfl (.own rfl .nil) rfl rfl rfl (Nat.le_of_ble_eq_true rfl) (fun q h=>by cases h) rfl (a4 ⟨rfl,?_⟩))
       refine l9 (by kernel_rfl) ?_
       refine hK6 _ ?_
       clear hK6 K6
       refine b4 (fun K17 hK17=>?_)
       refine j9 5 [0,2,3,4,5,6,7,8,9,10,11,12,14] m5 (by kernel_rfl) rfl rfl (fun r0=>?_) (fun _ h=>h)
       refine b9 0 rfl (by kernel_rfl) (by kernel_rfl) rfl rfl rfl rfl (b7 G rfl rfl rfl rfl) ?_
       refine b9 1 rfl (by kernel_rfl) (by kernel_rfl) rfl rfl rfl rfl (c4 G rfl rfl rfl rfl rfl rfl rfl) ?_
       refine b9 2 rfl (by kernel_rfl) (by kernel_rfl) rfl rfl rfl rfl (b3 G rfl rfl rfl rfl rfl rfl) ?_
       refine b9 3 rfl (by kernel_rfl) (by kernel_rfl) rfl rfl rfl rfl (a7 rfl rfl) ?_
       refine a9 (rs:=[4]) (by kernel_rfl) rfl (AllB.cons ?_ AllB.nil)
       refine c7 [0,2,3,4,5,6,7,8,9,10,11,12,14] rfl rfl (c5 G rfl rfl rfl rfl rfl rfl rfl rfl rfl rfl rfl (a4 ⟨rfl,?_⟩))
       refine l9 (by kernel_rfl) ?_
       refine hK17 _ ?_
       clear hK17 K17
       refine c8 (v7 (((x1.1.rs,⟨(r3 x1.1).en,(r3 x1.1).ra,(r3 x1.1).po,(r3 x1.1).ma,(r3 x1.1).st.set 0 ((r3 x1.1).st.getD 0 default++[x6.1])⟩),x6.2)) (q9 rfl rfl rfl rfl (a5 (b8 rfl ?_) (a5 (b8 rfl ?_) (a5 (b8 rfl ?_) (a5 (b8 rfl ?_) (a5 (b8 rfl ?_) (a5 (u2 rfl ?_) d4)))))) rfl (AftOK.stays rfl ?_ rfl AftOK.nil)) (⟨?_,?_⟩))
       all_goals (first | rfl | exact hc6.mono (by omega) | (dsimp only;rw [List.map_set];rfl) | exact ⟨hr8,hS.setM⟩ | exact ⟨hr8,hS.setPo⟩ | exact ⟨hr8,hS⟩ | exact ⟨hr8,Z2⟩ | exact ⟨hr8,hF.addS (by omega)⟩ | exact List.map_set.symm | exact Y2 rfl (by rw [List.map_append];rfl))
    ·try rw [h4]
     try simp only [rfb] at h4
     refine b4 (fun K18 hK18=>?_)
     refine a6 ?_
     refine a1 rfl ?_
     refine a3 rfl rfl (f9 rfl rfl rfl rfl) ?_
     refine a1 rfl ?_
     refine a3 rfl rfl (a7 rfl rfl) ?_
     refine a4 ?_
     refine hK18 _ ?_
     clear hK18 K18
     refine d1 rfl (fun h5=>?_) (fun h5=>?_)
     ·try rw [h5]
      try simp only [rfb] at h5
      refine j9 6 [1,2,3,4,5,6,7,8,9,11,12] m5 (by kernel_rfl) rfl rfl (fun r0=>?_) (fun _ h=>h)
      refine b9 0 rfl (by kernel_rfl) (by kernel_rfl) rfl rfl rfl rfl (b7 G rfl rfl rfl rfl) ?_
      refine b9 1 rfl (by kernel_rfl) (by kernel_rfl) rfl rfl rfl rfl (c4 G rfl rfl rfl rfl rfl rfl rfl) ?_
      refine b9 2 rfl (by kernel_rfl) (by kernel_rfl) rfl rfl rfl rfl (a8 rfl rfl) ?_
      refine a9 (rs:=[3]) (by kernel_rfl) rfl (AllB.cons ?_ AllB.nil)
      refine c7 [1,2,3,4,5,6,7,8,9,11,12] rfl rfl (d3 13 [0] rfl rfl rfl (n8 hc2 (by omega) (8)) rfl (RowsIn.cons rfl RowsIn.nil) rfl (fun _=>rfl) rfl (fun x7 ⟨hv7,hc7⟩=>a4 ⟨rfl,?_⟩))
      refine a9 (rs:=[4]) (by kernel_rfl) rfl (AllB.cons ?_ AllB.nil)
      refine c7 [1,2,3,4,5,6,7,8,9,11,12] rfl rfl (a3 rfl rfl (k8 G rfl rfl rfl rfl rfl (by omega) (by rw [List.length_map];omega)) (a4 ⟨rfl,?_⟩))
      refine a9 (rs:=[5]) (by kernel_rfl) rfl (AllB.cons ?_ AllB.nil)
      first | refine c7 [1,2,3,4,5,6,7,8,9,11,12] rfl rfl (i6 G rfl rfl rfl rfl rfl (C3 (by omega) (by omega)) rfl rfl rfl rfl rfl (Nat.le_of_ble_eq_true rfl) rfl (a4 ⟨rfl,?_⟩)) | refine c7 [1,2,3,4,5,6,7,8,9,11,12] rfl rfl (i6 G rfl rfl rfl rfl rfl (t8 (by omega) (by omega)) rfl rfl rfl rfl rfl (Nat.le_of_ble_eq_true rfl) rfl (a4 ⟨rfl,?_⟩))
      refine l9 (by kernel_rfl) ?_
      refine hK6 _ ?_
      clear hK6 K6
      refine b4 (fun K19 hK19=>?_)
      refine j9 5 [0,2,3,4,5,6,7,8,9,10,11,12] m5 (by kernel_rfl) rfl rfl (fun r0=>?_) (fun _ h=>h)
      refine b9 0 rfl (by kernel_rfl) (by kernel_rfl) rfl rfl rfl rfl (b7 G rfl rfl rfl rfl) ?_
      refine b9 1 rfl (by kernel_rfl) (by kernel_rfl) rfl rfl rfl rfl (c4 G rfl rfl rfl rfl rfl rfl rfl) ?_
      refine b9 2 rfl (by kernel_rfl) (by kernel_rfl) rfl rfl rfl rfl (b3 G rfl rfl rfl rfl rfl rfl) ?_
      refine b9 3 rfl (by kernel_rfl) (by kernel_rfl) rfl rfl rfl rfl (a7 rfl rfl) ?_
      refine a9 (rs:=[4]) (by kernel_rfl) rfl (AllB.cons ?_ AllB.nil)
      refine c7 [0,2,3,4,5,6,7,8,9,10,11,12] rfl rfl (c5 G rfl rfl rfl rfl rfl rfl rfl rfl rfl rfl rfl (a4 ⟨rfl,?_⟩))
      refine l9 (by kernel_rfl) ?_
      refine hK19 _ ?_
      clear hK19 K19
      refine c8 (v7 (((x1.1.rs,⟨(r3 x1.1).en,(r3 x1.1).ra,(r3 x1.1).po.set x7.1.toNat true,(r3 x1.1).ma,(r3 x1.1).st⟩),x7.2)) (q9 rfl rfl rfl rfl (a5 (b8 rfl ?_) (a5 (b8 rfl ?_) (a5 (b8 rfl ?_) (a5 (b8 rfl ?_) (a5 (b8 rfl ?_) (a5 (u2 rfl ?_) d4)))))) rfl (AftOK.stays rfl ?_ rfl AftOK.nil)) (⟨?_,?_⟩))
      all_goals (first | rfl | exact hc7.mono (by omega) | (dsimp only;rw [List.map_set];rfl) | exact ⟨hr8,hS.setM⟩ | exact ⟨hr8,hS.setPo⟩ | exact ⟨hr8,hS⟩ | exact ⟨hr8,Z2⟩ | exact ⟨hr8,hF.addS (by omega)⟩ | exact List.map_set.symm | exact Y2 rfl (by rw [List.map_append];rfl))
     ·try rw [h5]
      try simp only [rfb] at h5
      refine e9 ?_
      refine hK6 _ ?_
      clear hK6 K6
      refine b4 (fun K20 hK20=>?_)
      refine j9 5 [0,2,3,4,5,6,7,8,9,10,11,12] m5 (by kernel_rfl) rfl rfl (fun r0=>?_) (fun _ h=>h)
      refine b9 0 rfl (by kernel_rfl) (by kernel_rfl) rfl rfl rfl rfl (b7 G rfl rfl rfl rfl) ?_
      refine b9 1 rfl (by kernel_rfl) (by kernel_rfl) rfl rfl rfl rfl (c4 G rfl rfl rfl rfl rfl rfl rfl) ?_
      refine b9 2 rfl (by kernel_rfl) (by kernel_rfl) rfl rfl rfl rfl (b3 G rfl rfl rfl rfl rfl rfl) ?_
      refine b9 3 rfl (by kernel_rfl) (by kernel_rfl) rfl rfl rfl rfl (a7 rfl rfl) ?_
      refine a9 (rs:=[4]) (by kernel_rfl) rfl (AllB.cons ?_ AllB.nil)
      refine c7 [0,2,3,4,5,6,7,8,9,10,11,12] rfl rfl (c5 G rfl rfl rfl rfl rfl rfl rfl rfl rfl rfl rfl (a4 ⟨rfl,?_⟩))
      refine l9 (by kernel_rfl) ?_
      refine hK20 _ ?_
      clear hK20 K20
      refine c8 (v7 (((x1.1.rs,r3 x1.1),x2.2)) (q9 rfl rfl rfl rfl (a5 (b8 rfl ?_) (a5 (b8 rfl ?_) (a5 (b8 rfl ?_) (a5 (b8 rfl ?_) (a5 (b8 rfl ?_) (a5 (u2 rfl ?_) d4)))))) rfl (AftOK.stays rfl ?_ rfl AftOK.nil)) (⟨?_,?_⟩))
      all_goals (first | rfl | exact hc2.mono (by omega) | (dsimp only;rw [List.map_set];rfl) | exact ⟨hr8,hS.setM⟩ | exact ⟨hr8,hS.setPo⟩ | exact ⟨hr8,hS⟩ | exact ⟨hr8,Z2⟩ | exact ⟨hr8,hF.addS (by omega)⟩ | exact List.map_set.symm | exact Y2 rfl (by rw [List.map_append];rfl))
  ·try rw [h2]
   try simp only [rfb] at h2
   exfalso;first | omega | (simp at h2;omega)
 ·try rw [h1]
  try simp only [rfb] at h1
  have hr8:=hv1.rs
  refine e9 ?_
  refine hK4 _ ?_
  clear hK4 K4
  refine b4 (fun K21 hK21=>?_)
  refine b4 (fun K22 hK22=>?_)
  refine a6 ?_
  refine a1 rfl ?_
  refine a3 rfl rfl (b7 G rfl rfl rfl rfl) ?_
  refine a1 rfl ?_
  refine a3 rfl rfl (c4 G rfl rfl rfl rfl rfl rfl rfl) ?_
  refine a1 rfl ?_
  refine a3 rfl rfl (t6 G rfl rfl rfl rfl) ?_
  refine a1 rfl ?_
  refine a3 rfl rfl (f9 rfl rfl rfl rfl) ?_
  refine a4 ?_
  refine hK22 _ ?_
  clear hK22 K22
  refine d1 rfl (fun h6=>?_) (fun h6=>?_)
  ·try rw [h6]
   try simp only [rfb] at h6
   first | (simp at h6;done) | (exact absurd h6 (by decide)) | (revert h6;decide)
  ·try rw [h6]
   try simp only [rfb] at h6
   refine e9 ?_
   refine hK21 _ ?_
   clear hK21 K21
   refine b4 (fun K23 hK23=>?_)
   refine j9 5 [0,2,3,4,5,6,7] m5 (by kernel_rfl) rfl rfl (fun r0=>?_) (fun _ h=>h)
   refine b9 0 rfl (by kernel_rfl) (by kernel_rfl) rfl rfl rfl rfl (b7 G rfl rfl rfl rfl) ?_
   refine b9 1 rfl (by kernel_rfl) (by kernel_rfl) rfl rfl rfl rfl (c4 G rfl rfl rfl rfl rfl rfl rfl) ?_
   refine b9 2 rfl (by kernel_rfl) (by kernel_rfl) rfl rfl rfl rfl (b3 G rfl rfl rfl rfl rfl rfl) ?_
   refine b9 3 rfl (by kernel_rfl) (by kernel_rfl) rfl rfl rfl rfl (a7 rfl rfl) ?_
   refine a9 (rs:=[4]) (by kernel_rfl) rfl (AllB.cons ?_ AllB.nil)
   refine c7 [0,2,3,4,5,6,7] rfl rfl (c5 G rfl rfl rfl rfl rfl rfl rfl rfl rfl rfl rfl (a4 ⟨rfl,?_⟩))
   refine l9 (by kernel_rfl) ?_
   refine hK23 _ ?_
   clear hK23 K23
   refine c8 (v7 (((x1.1.rs,noA),x1.2)) (q9 rfl rfl rfl rfl (a5 (b8 rfl ?_) (a5 (o7 ?_) (a5 (o7 ?_) (a5 (o7 ?_) (a5 (o7 ?_) (a5 (H0 ?_) d4)))))) rfl (AftOK.stays rfl ?_ rfl AftOK.nil)) (⟨?_,?_⟩))
   all_goals (first | rfl | exact hc1.mono (by omega) | (dsimp only;rw [List.map_set];rfl) | exact ⟨hr8,hS.setM⟩ | exact ⟨hr8,hS.setPo⟩ | exact ⟨hr8,hS⟩ | exact ⟨hr8,Z2⟩ | exact ⟨hr8,hF.addS (by omega)⟩ | exact List.map_set.symm | exact Y2 rfl (by rw [List.map_append];rfl))
end Go.Proofs.YtcnodpipinlpcaaGreat
set_option maxRecDepth 20000
namespace Go.Proofs.YtcnodpipinlpcaaGreat
open Go Go.Rf
theorem a0U (l:List Int) (hl:L2 l):CtrX (α:=(List Route×Abs)×List MStep) Tryz.prog 9 [.lst 1 (l.map C5)] [] (fun y=>(y.1.1.length=8∧DrA y.1.2∧y.2.length≤10)∧True) (fun y=>.shp false [none,some 5,none] [.fr 118 2 (y.1.1.map u7),.fr 4 1 (y.1.2.en.map l0),.fr 4 1 (y.1.2.ra.map l0),.fr 4 1 (y.1.2.po.map l0),.fr 3 1 (y.1.2.ma.map Rf.r5),.ne 26 1 (y.1.2.st.map s1),.fr 40 4 (y.2.map a4c)]) (fun y=>[]):=by
 have h:okC 0 (⟨l,0,0⟩:Cur):=⟨hl,Int.le_refl _,Int.le_refl _⟩
 refine CtrX.of (n:=38) (k:=0) G Tryz.func9 rfl (by kernel_rfl) rfl rfl rfl rfl (fun _=>rfl) rfl rfl (fun w0 _ hpin=>?_)
 refine b4 (fun K1 hK1=>?_)
 refine a6 ?_
 refine a1 rfl ?_
 refine a3 rfl rfl (a7 rfl rfl) ?_
 refine a1 rfl ?_
 refine d7 G 1 rfl rfl rfl rfl rfl ?_
 refine a1 rfl ?_
 refine a3 rfl rfl (a7 rfl rfl) ?_
 refine a4 ?_
 refine hK1 _ ?_
 clear hK1 K1
 refine a7Y (t:=0) rfl (fun y=>?_)
 refine b4 (fun K2 hK2=>?_)
 refine a6 ?_
 refine a1 rfl ?_
 refine a3 rfl rfl (a8 rfl rfl) ?_
 refine a1 rfl ?_
 refine a3 rfl rfl (g0 G rfl rfl rfl rfl) ?_
 refine a1 rfl ?_
 refine y4 2 rfl rfl rfl rfl rfl rfl rfl ?_
 refine a1 rfl ?_
 refine a3 rfl rfl (a7 rfl rfl) ?_
 refine a4 ?_
 refine hK2 _ ?_
 clear hK2 K2
 refine a0E (id:=1) rfl ?_
 refine b4 (fun K3 hK3=>?_)
 refine a6 ?_
 refine a1 rfl ?_
 refine a3 rfl rfl (a8 rfl rfl) ?_
 refine a1 rfl ?_
 refine d3 8 [1] rfl rfl rfl (G9 h (by omega)) rfl (RowsIn.cons rfl RowsIn.nil) rfl (fun _=>rfl) rfl (fun x1 ⟨hv1,hc1⟩=>?_)
 refine a1 rfl ?_
 refine a3 rfl rfl (a8 rfl rfl) ?_
 refine a1 rfl ?_
 refine a3 rfl rfl (c9 rfl rfl rfl) ?_
 refine a1 rfl ?_
 refine a3 rfl rfl (c9 rfl rfl rfl) ?_
 refine a1 rfl ?_
 refine d7 G 9 rfl rfl rfl rfl rfl ?_
 refine a1 rfl ?_
 refine a3 rfl rfl (a7 rfl rfl) ?_
 refine a1 rfl ?_
 refine c5 G rfl rfl rfl rfl rfl rfl rfl rfl rfl rfl rfl ?_
 refine a4 ?_
 refine hK3 _ ?_
 clear hK3 K3
 refine b4 (fun K4 hK4=>?_)
 refine a6 ?_
 refine a1 rfl ?_
 refine k6 G 10 rfl rfl rfl rfl rfl rfl rfl rfl ?_
 refine a1 rfl ?_
 refine a3 rfl rfl (a7 rfl rfl) ?_
 refine a4 ?_
 refine hK4 _ ?_
 clear hK4 K4
 refine b4 (fun K5 hK5=>?_)
 refine b4 (fun K6 hK6=>?_)
 refine a6 ?_
 refine a1 rfl ?_
 refine a3 rfl rfl (a8 rfl rfl) ?_
 refine a1 rfl ?_
 refine d3 10 [1] rfl rfl rfl (n8 hc1 (by omega) (10)) rfl (RowsIn.cons rfl RowsIn.nil) rfl (fun _=>rfl) rfl (fun x2 ⟨hv2,hc2⟩=>?_)
 refine a1 rfl ?_
 refine a3 rfl rfl (a7 rfl rfl) ?_
 refine a4 ?_
 refine hK6 _ ?_
 clear hK6 K6
 refine l8 ?_
 refine m4 [3,5,6,7] [0,2,3,4,5,6,7,8] (fun (z:Nat×Cur×List MStep)=>[(8,.own 9),(9,.v (.int .i64 (x2.1 - z.1)))]) (fun (z:Nat×Cur×List MStep)=>[(1,some (.box [.lst 1 (z.2.1.c.map C5),.v (.int .i64 z.2.1.a),.v (.int .u64 z.2.1.s)])),(9,some (.row 40 4 (z.2.2.map a4c)))]) (fun (z:Nat×Cur×List MStep)=>(z.1:Int)≤x2.1∧z.2.2.length=z.1∧okC (5000+20 * z.1) z.2.1) (fun (z:Nat×Cur×List MStep)=>x2.1.toNat - z.1) (0,x2.2,[]) rfl rfl ?_ ?_ ?_ ?_
 ·exact ⟨hv2.1,rfl,hc2.mono (by simp)⟩
 ·exact ⟨⟨_,rfl,by (first | rfl | simp)⟩,rfl,⟨⟨_,rfl,by (first | rfl | simp)⟩,rfl,trivial⟩⟩
 ·exact ⟨⟨_,rfl,by rfl⟩,rfl,rfl,⟨⟨_,rfl,by rfl⟩,rfl,rfl,trivial⟩⟩
 ·intro z hinv
  obtain ⟨hz1,hz2,hz⟩:=hinv
  have hm2:=hv1.2.ma
  simp only [List.cons_append,List.nil_append]
  refine b4 (fun K7 hK7=>?_)
  refine b4 (fun K8 hK8=>?_)
  refine a6 ?_
  refine a1 rfl ?_
  refine a3 rfl rfl (a8 rfl rfl) ?_
  refine a1 rfl ?_
  refine a3 rfl rfl (f9 rfl rfl rfl rfl) ?_
  refine a4 ?_
  refine hK8 _ ?_
  clear hK8 K8
  refine d1 rfl (fun h1=>?_) (fun h1=>?_)
  ·try rw [h1]
   try simp only [rfb] at h1
   refine e9 ?_
   refine hK7 _ ?_
   clear hK7 K7
   refine b4 (fun K9 hK9=>?_)
   refine l8 ?_
   refine a6 ?_
   refine a1 rfl ?_
   refine a3 rfl rfl (a8 rfl rfl) ?_
   refine a1 rfl ?_
   refine a3 rfl rfl (a8 rfl rfl) ?_
   refine a1 rfl ?_
   refine a3 rfl rfl (b7 G rfl rfl rfl rfl) ?_
   refine a1 rfl ?_
   refine a3 rfl rfl (c4 G rfl rfl rfl rfl rfl rfl rfl) ?_
   refine a1 rfl ?_
   first | refine a3 rfl rfl (r4 G rfl rfl rfl rfl (List.length_map _)) ?_ | refine a3 rfl rfl (t6 G rfl rfl rfl rfl) ?_
   refine a1 rfl ?_
   refine a4v (n:=x1.1.2.ma.length) G 11 rfl rfl rfl rfl rfl rfl rfl (by first | rfl | simp) (by first | rfl | simp) (by omega) (by omega)<|m7 (Gh.nest (id:=10) (yss:=List.replicate (x1.1.2.ma.length) [.v (.int .i64 0),.l 3 1 [],.l 154 3 [],.l 183 2 []]) rfl (by simp) (L3 (.v (.s (.s (.s .nil)))))) ?_
   refine a1 rfl ?_
   refine a3 rfl rfl (g0 G rfl rfl rfl rfl) ?_
   refine a1 rfl ?_
   refine d3 11 [1,10] rfl rfl rfl (N5 hz (by omega) _ (by rw [List.length_replicate];omega)) rfl (RowsIn.cons rfl (RowsIn.cons rfl RowsIn.nil)) rfl (fun _=>rfl) rfl (fun x3 ⟨hv3,hc3⟩=>?_)
   refine a1 rfl ?_
   refine k6 G 12 rfl rfl rfl rfl rfl rfl rfl rfl ?_
   refine a1 rfl ?_
   refine f7 G (by rw [hpin];decide) rfl rfl rfl rfl rfl rfl rfl rfl rfl (by first | (simp only [List.length_map,List.length_cons,List.length_nil];omega) | (simp;omega)) rfl rfl ?_
   refine a1 rfl ?_
   refine a3 rfl rfl (a7 rfl rfl) ?_
   refine a4 ?_
   refine hK9 _ ?_
   clear hK9 K9
   refine a6 ?_
   refine a1 rfl ?_
   refine a3 rfl rfl (a8 rfl rfl) ?_
   refine a1 rfl ?_
   first | refine a3 rfl rfl (i8 rfl rfl rfl rfl (by omega) (by omega)) ?_ | refine a3 rfl rfl (k4 rfl rfl rfl rfl) ?_
   refine a1 rfl ?_
   refine a3 rfl rfl (a7 rfl rfl) ?_
   refine a4 ⟨(z.1+1,x3.2,z.2.2++[x3.1]),?_,?_,⟨⟨_,rfl,by (first | rfl | exact congrArg (fun v=>AV.v (.int .i64 v)) (by show x2.1 - (z.1:Int) - 1=x2.1 - ((z.1+1:Nat):Int);omega))⟩,rfl,⟨⟨_,rfl,by (first | rfl | exact congrArg (fun v=>AV.v (.int .i64 v)) (by show x2.1 - (z.1:Int) - 1=x2.1 - ((z.1+1:Nat):Int);omega))⟩,rfl,trivial⟩⟩,⟨⟨_,rfl,by (first | rfl | exact congrArg (Row.row _ _) (by rw [List.map_append];rfl))⟩,rfl,rfl,⟨⟨_,rfl,by (first | rfl | exact congrArg (Row.row _ _) (by rw [List.map_append];rfl))⟩,rfl,rfl,trivial⟩⟩,rfl,rfl,rfl⟩
   ·exact ⟨by show ((z.1+1:Nat):Int)≤x2.1;omega,by show (z.2.2++[_]).length=z.1+1;simp;omega,hc3.mono (by simp;omega)⟩
   ·(show x2.1.toNat - (z.1+1) < x2.1.toNat - z.1;omega)
  ·try rw [h1]
   try simp only [rfb] at h1
   refine B0 ?_
   refine hK5 _ ?_
   clear hK7 K7 hK5 K5
   refine b4 (fun K10 hK10=>?_)
   refine j9 6 [1,2,3,4,5,6,7,8,9] m5 (by kernel_rfl) rfl rfl (fun r0=>?_) (fun _ h=>h)
   refine b9 0 rfl (by kernel_rfl) (by kernel_rfl) rfl rfl rfl rfl (a8 rfl rfl) ?_
   refine b9 1 rfl (by kernel_rfl) (by kernel_rfl) rfl rfl rfl rfl (b3 G rfl rfl rfl rfl rfl rfl) ?_
   refine b9 2 rfl (by kernel_rfl) (by kernel_rfl) rfl rfl rfl rfl (a8 rfl rfl) ?_
   refine b9 3 rfl (by kernel_rfl) (by kernel_rfl) rfl rfl rfl rfl (a7 rfl rfl) ?_
   refine a9 (rs:=[4]) (by kernel_rfl) rfl (AllB.cons ?_ AllB.nil)
   refine c7 [1,2,3,4,5,6,7,8,9] rfl rfl (c5 G rfl rfl rfl rfl rfl rfl rfl rfl rfl rfl rfl (a4 ⟨rfl,?_⟩))
   refine b9 5 rfl (by kernel_rfl) (by kernel_rfl) rfl rfl rfl rfl (a7 rfl rfl) ?_
   refine l9 (by kernel_rfl) ?_
   refine hK10 _ ?_
   clear hK10 K10
   refine c8 (v7 ((x1.1,z.2.2)) (q9 rfl rfl rfl rfl (a5 (b8 rfl ?_) (a5 (b8 rfl ?_) (a5 (b8 rfl ?_) (a5 (b8 rfl ?_) (a5 (b8 rfl ?_) (a5 (u2 rfl ?_) (a5 (b8 rfl ?_) d4))))))) rfl AftOK.nil) (⟨?_,?_⟩))
   all_goals (first | rfl | trivial | exact ⟨hv1.1,hv1.2,by show z.2.2.length≤10;omega⟩ | (rw [List.map_append];rfl))
theorem a0s (l:List Int) (hl:L2 l):CtrX (α:=(List Route×Abs)×MStep) Tryz.prog 15 [.lst 1 (l.map C5)] [] (fun y=>(y.1.1.length=8∧DrA y.1.2)∧True) (fun y=>.shp false [none,some 5,none] [.fr 118 2 (y.1.1.map u7),.fr 4 1 (y.1.2.en.map l0),.fr 4 1 (y.1.2.ra.map l0),.fr 4 1 (y.1.2.po.map l0),.fr 3 1 (y.1.2.ma.map Rf.r5),.ne 26 1 (y.1.2.st.map s1),.v (a0g y.2)]) (fun y=>[]):=by
 have h:okC 0 (⟨l,0,0⟩:Cur):=⟨hl,Int.le_refl _,Int.le_refl _⟩
 refine CtrX.of (n:=25) (k:=0) G Tryz.func15 rfl (by kernel_rfl) rfl rfl rfl rfl (fun _=>rfl) rfl rfl (fun w0 _ hpin=>?_)
 refine b4 (fun K1 hK1=>?_)
 refine a6 ?_
 refine a1 rfl ?_
 refine a3 rfl rfl (a7 rfl rfl) ?_
 refine a1 rfl ?_
 refine d7 G 1 rfl rfl rfl rfl rfl ?_
 refine a1 rfl ?_
 refine d7 G 2 rfl rfl rfl rfl rfl ?_
 refine a4 ?_
 refine hK1 _ ?_
 clear hK1 K1
 refine a7Y (t:=0) rfl (fun y=>?_)
 refine b4 (fun K2 hK2=>?_)
 refine a6 ?_
 refine a1 rfl ?_
 refine a3 rfl rfl (a8 rfl rfl) ?_
 refine a1 rfl ?_
 refine a3 rfl rfl (g0 G rfl rfl rfl rfl) ?_
 refine a1 rfl ?_
 refine y4 3 rfl rfl rfl rfl rfl rfl rfl ?_
 refine a1 rfl ?_
 refine a3 rfl rfl (a7 rfl rfl) ?_
 refine a4 ?_
 refine hK2 _ ?_
 clear hK2 K2
 refine a0E (id:=2) rfl ?_
 refine b4 (fun K3 hK3=>?_)
 refine a6 ?_
 refine a1 rfl ?_
 refine a3 rfl rfl (a8 rfl rfl) ?_
 refine a1 rfl ?_
 refine d3 9 [2] rfl rfl rfl (G9 h (by omega)) rfl (RowsIn.cons rfl RowsIn.nil) rfl (fun _=>rfl) rfl (fun x1 ⟨hv1,hc1⟩=>?_)
 refine a1 rfl ?_
 refine a3 rfl rfl (a8 rfl rfl) ?_
 refine a1 rfl ?_
 refine a3 rfl rfl (c9 rfl rfl rfl) ?_
 refine a1 rfl ?_
 refine a3 rfl rfl (c9 rfl rfl rfl) ?_
 refine a1 rfl ?_
 refine d7 G 10 rfl rfl rfl rfl rfl ?_
 refine a1 rfl ?_
 refine a3 rfl rfl (a7 rfl rfl) ?_
 refine a1 rfl ?_
 refine c5 G rfl rfl rfl rfl rfl rfl rfl rfl rfl rfl rfl ?_
 refine a4 ?_
 refine hK3 _ ?_
 clear hK3 K3
 have hm2:=hv1.2.ma
 refine b4 (fun K4 hK4=>?_)
 refine j9 12 [3,4,5,6,7,8,9] m5 (by kernel_rfl) rfl rfl (fun r0=>?_) (fun _ h=>h)
 refine b9 0 rfl (by kernel_rfl) (by kernel_rfl) rfl rfl rfl rfl (a8 rfl rfl) ?_
 refine b9 1 rfl (by kernel_rfl) (by kernel_rfl) rfl rfl rfl rfl (b3 G rfl rfl rfl rfl rfl rfl) ?_
 refine b9 2 rfl (by kernel_rfl) (by kernel_rfl) rfl rfl rfl rfl (a8 rfl rfl) ?_
 refine b9 3 rfl (by kernel_rfl) (by kernel_rfl) rfl rfl rfl rfl (b7 G rfl rfl rfl rfl) ?_
 refine b9 4 rfl (by kernel_rfl) (by kernel_rfl) rfl rfl rfl rfl (c4 G rfl rfl rfl rfl rfl rfl rfl) ?_
 first | refine b9 5 rfl (by kernel_rfl) (by kernel_rfl) rfl rfl rfl rfl (r4 G rfl rfl rfl rfl (List.length_map _)) ?_ | refine b9 5 rfl (by kernel_rfl) (by kernel_rfl) rfl rfl rfl rfl (t6 G rfl rfl rfl rfl) ?_
 refine a9 (rs:=[6]) (by kernel_rfl) rfl (AllB.cons ?_ AllB.nil)
 refine c7 [3,4,5,6,7,8,9] rfl rfl (a4v (n:=x1.1.2.ma.length) G 11 rfl rfl rfl rfl rfl rfl rfl (by first | rfl | simp) (by first | rfl | simp) (by omega) (by omega)<|m7 (Gh.nest (id:=10) (yss:=List.replicate (x1.1.2.ma.length) [.v (.int .i64 0),.l 3 1 [],.l 154 3 [],.l 183 2 []]) rfl (by simp) (L3 (.v (.s (.s (.s .nil)))))) (a4 ⟨rfl,?_⟩))
 refine a9 (rs:=[7]) (by kernel_rfl) rfl (AllB.cons ?_ AllB.nil)
 refine c7 [3,4,5,6,7,8,9] rfl rfl (a3 rfl rfl (g0 G rfl rfl rfl rfl) (a4 ⟨rfl,?_⟩))
 refine a9 (rs:=[8]) (by kernel_rfl) rfl (AllB.cons ?_ AllB.nil)
 refine c7 [3,4,5,6,7,8,9] rfl rfl (d3 11 [2,10] rfl rfl rfl (N5 hc1 (by omega) _ (by rw [List.length_replicate];omega)) rfl (RowsIn.cons rfl (RowsIn.cons rfl RowsIn.nil)) rfl (fun _=>rfl) rfl (fun x2 ⟨hv2,hc2⟩=>a4 ⟨rfl,?_⟩))
 refine b9 9 rfl (by kernel_rfl) (by kernel_rfl) rfl rfl rfl rfl (a7 rfl rfl) ?_
 refine a9 (rs:=[10]) (by kernel_rfl) rfl (AllB.cons ?_ AllB.nil)
 refine c7 [3,4,5,6,7,8,9] rfl rfl (c5 G rfl rfl rfl rfl rfl rfl rfl rfl rfl rfl rfl (a4 ⟨rfl,?_⟩))
 refine a9 (rs:=[11]) (by kernel_rfl) rfl (AllB.cons ?_ AllB.nil)
 refine c7 [3,4,5,6,7,8,9] rfl rfl (c5 G rfl rfl rfl rfl rfl rfl rfl rfl rfl rfl rfl (a4 ⟨rfl,?_⟩))
 refine l9 (by kernel_rfl) ?_
 refine hK4 _ ?_
 clear hK4 K4
 refine c8 (v7 ((x1.1,x2.1)) (q9 rfl rfl rfl rfl (a5 (b8 rfl ?_) (a5 (b8 rfl ?_) (a5 (b8 rfl ?_) (a5 (b8 rfl ?_) (a5 (b8 rfl ?_) (a5 (u2 rfl ?_) (a5 (A0 rfl ?_) d4))))))) rfl AftOK.nil) (⟨?_,?_⟩))
 all_goals (first | rfl | trivial | assumption)
theorem a1C (l:List Int) (hl:L2 l):CtrX (α:=(List Route×Abs)×Int) Tryz.prog 17 [.lst 1 (l.map C5)] [] (fun y=>(y.1.1.length=8∧DrA y.1.2)∧True) (fun y=>.shp false [none,some 5,none] [.fr 118 2 (y.1.1.map u7),.fr 4 1 (y.1.2.en.map l0),.fr 4 1 (y.1.2.ra.map l0),.fr 4 1 (y.1.2.po.map l0),.fr 3 1 (y.1.2.ma.map Rf.r5),.ne 26 1 (y.1.2.st.map s1),.v (.int .i64 y.2)]) (fun y=>[]):=by
 have h:okC 0 (⟨l,0,0⟩:Cur):=⟨hl,Int.le_refl _,Int.le_refl _⟩
 refine CtrX.of (n:=24) (k:=0) G Tryz.func17 rfl (by kernel_rfl) rfl rfl rfl rfl (fun _=>rfl) rfl rfl (fun w0 _ hpin=>?_)
 refine b4 (fun K1 hK1=>?_)
 refine a6 ?_
 refine a1 rfl ?_
 refine a3 rfl rfl (a7 rfl rfl) ?_
 refine a1 rfl ?_
 refine d7 G 1 rfl rfl rfl rfl rfl ?_
 refine a1 rfl ?_
 refine a3 rfl rfl (a7 rfl rfl) ?_
 refine a4 ?_
 refine hK1 _ ?_
 clear hK1 K1
 refine a7Y (t:=0) rfl (fun y=>?_)
 refine b4 (fun K2 hK2=>?_)
 refine a6 ?_
 refine a1 rfl ?_
 refine a3 rfl rfl (a8 rfl rfl) ?_
 refine a1 rfl ?_
 refine a3 rfl rfl (g0 G rfl rfl rfl rfl) ?_
 refine a1 rfl ?_
 refine y4 2 rfl rfl rfl rfl rfl rfl rfl ?_
 refine a1 rfl ?_
 refine a3 rfl rfl (a7 rfl rfl) ?_
 refine a4 ?_
 refine hK2 _ ?_
 clear hK2 K2
 refine a0E (id:=1) rfl ?_
 refine b4 (fun K3 hK3=>?_)
 refine a6 ?_
 refine a1 rfl ?_
 refine a3 rfl rfl (a8 rfl rfl) ?_
 refine a1 rfl ?_
 refine d3 8 [1] rfl rfl rfl (G9 h (by omega)) rfl (RowsIn.cons rfl RowsIn.nil) rfl (fun _=>rfl) rfl (fun x1 ⟨hv1,hc1⟩=>?_)
 refine a1 rfl ?_
 refine a3 rfl rfl (a8 rfl rfl) ?_
 refine a1 rfl ?_
 refine a3 rfl rfl (c9 rfl rfl rfl) ?_
 refine a1 rfl ?_
 refine a3 rfl rfl (c9 rfl rfl rfl) ?_
 refine a1 rfl ?_
 refine d7 G 9 rfl rfl rfl rfl rfl ?_
 refine a1 rfl ?_
 refine a3 rfl rfl (a7 rfl rfl) ?_
 refine a1 rfl ?_
 refine c5 G rfl rfl rfl rfl rfl rfl rfl rfl rfl rfl rfl ?_
 refine a4 ?_
 refine hK3 _ ?_
 clear hK3 K3
 refine b4 (fun K4 hK4=>?_)
 refine j9 11 [2,3,4,5,6,7,8] m5 (by kernel_rfl) rfl rfl (fun r0=>?_) (fun _ h=>h)
 refine b9 0 rfl (by kernel_rfl) (by kernel_rfl) rfl rfl rfl rfl (a8 rfl rfl) ?_
 refine b9 1 rfl (by kernel_rfl) (by kernel_rfl) rfl rfl rfl rfl (b3 G rfl rfl rfl rfl rfl rfl) ?_
 refine b9 2 rfl (by kernel_rfl) (by kernel_rfl) rfl rfl rfl rfl (a8 rfl rfl) ?_
 refine b9 4 rfl (by kernel_rfl) (by kernel_rfl) rfl rfl rfl rfl (a8 rfl rfl) ?_
 refine a9 (rs:=[3]) (by kernel_rfl) rfl (AllB.cons ?_ AllB.nil)
 refine c7 [2,3,4,5,6,7,8] rfl rfl (d3 9 [1] rfl rfl rfl (n8 hc1 (by omega) (3)) rfl (RowsIn.cons rfl RowsIn.nil) rfl (fun _=>rfl) rfl (fun x2 ⟨hv2,hc2⟩=>a4 ⟨rfl,?_⟩))
 refine a9 (rs:=[5]) (by kernel_rfl) rfl (AllB.cons ?_ AllB.nil)
 refine c7 [2,3,4,5,6,7,8] rfl rfl (d3 9 [1] rfl rfl rfl (n8 hc2 (by omega) (9)) rfl (RowsIn.cons rfl RowsIn.nil) rfl (fun _=>rfl) rfl (fun x3 ⟨hv3,hc3⟩=>a4 ⟨rfl,?_⟩))
 first | refine b9 6 rfl (by kernel_rfl) (by kernel_rfl) rfl rfl rfl rfl (a9m rfl rfl rfl (by omega) (by omega) (by omega)) ?_ | refine b9 6 rfl (by kernel_rfl) (by kernel_rfl) rfl rfl rfl rfl (b2h rfl rfl rfl (by omega)) ?_
 first | refine b9 7 rfl (by kernel_rfl) (by kernel_rfl) rfl rfl rfl rfl (i8 rfl rfl rfl rfl (by omega) (by omega)) ?_ | refine b9 7 rfl (by kernel_rfl) (by kernel_rfl) rfl rfl rfl rfl (k4 rfl rfl rfl rfl) ?_
 refine b9 8 rfl (by kernel_rfl) (by kernel_rfl) rfl rfl rfl rfl (a7 rfl rfl) ?_
 refine a9 (rs:=[9]) (by kernel_rfl) rfl (AllB.cons ?_ AllB.nil)
 refine c7 [2,3,4,5,6,7,8] rfl rfl (c5 G rfl rfl rfl rfl rfl rfl rfl rfl rfl rfl rfl (a4 ⟨rfl,?_⟩))
 refine b9 10 rfl (by kernel_rfl) (by kernel_rfl) rfl rfl rfl rfl (a7 rfl rfl) ?_
 refine l9 (by kernel_rfl) ?_
 refine hK4 _ ?_
 clear hK4 K4
 refine c8 (v7 ((x1.1,x2.1 - x3.1 / 8)) (q9 rfl rfl rfl rfl (a5 (b8 rfl ?_) (a5 (b8 rfl ?_) (a5 (b8 rfl ?_) (a5 (b8 rfl ?_) (a5 (b8 rfl ?_) (a5 (u2 rfl ?_) (a5 (g9 ?_) d4))))))) rfl AftOK.nil) (⟨?_,?_⟩))
 all_goals (first | rfl | trivial | assumption)
end Go.Proofs.YtcnodpipinlpcaaGreat
set_option maxRecDepth 20000
namespace Go.Proofs.YtcnodpipinlpcaaGreat
open Go Go.Rf
theorem a1D (rs:List Route) (a:Abs) (sk sq sc sv:Int) (hF:AbsF rs a) (hv:f8 a.ma.length ⟨sk,sq,sc,sv⟩=true):Ctr Tryz.prog 61 [.lst 2 (rs.map u7),.agg [.lst 1 (a.en.map l0),.lst 1 (a.ra.map l0),.lst 1 (a.po.map l0),.lst 1 (a.ma.map Rf.r5),.nst none 1 (a.st.map s1)],.v (.agg ⟨[.int .i64 sk,.int .i64 sq,.int .i64 sc,.int .i64 sv]⟩)] (.shp false [some 5,none,none] [.fr 4 1 ((t4 rs a ⟨sk,sq,sc,sv⟩).1.en.map l0),.fr 4 1 ((t4 rs a ⟨sk,sq,sc,sv⟩).1.ra.map l0),.fr 4 1 ((t4 rs a ⟨sk,sq,sc,sv⟩).1.po.map l0),.fr 3 1 ((t4 rs a ⟨sk,sq,sc,sv⟩).1.ma.map Rf.r5),.ne 26 1 ((t4 rs a ⟨sk,sq,sc,sv⟩).1.st.map s1),.v (.int .i64 (t4 rs a ⟨sk,sq,sc,sv⟩).2.1),.v (.bool (t4 rs a ⟨sk,sq,sc,sv⟩).2.2)]):=by
 have f0:=hF.n
 have f1:=hF.rn
 have f2:=hF.st
 have f3:=hF.en
 have f4:=hF.ra
 have f5:=hF.po
 have fm:=hF.rt
 have fs:=hF.small
 refine Ctr.of (n:=122) G Tryz.func61 rfl b5 rfl rfl rfl (fun w0=>?_)
 refine r8 1 rfl (fun _=>rfl) (fun u1=>?_)
 refine zgo ?_
 refine b2e ?_
 refine F6 ?_
 refine g8 8 rfl rfl rfl (ArgsOK.of rfl) (Z5 a fs) rfl rfl ?_
 refine y6 ?_
 refine d7 G 9 rfl rfl rfl rfl rfl ?_
 refine zcd (fun h1=>?_) (fun h1=>?_)
 ·have hq:=a75 hv (by omega)
  obtain ⟨q,rfl⟩:∃ q:Nat,sq=q:=⟨sq.toNat,by omega⟩
  have hM:=mk1 (rs:=rs) (a:=a) (sc:=sc) (sv:=sv) (q:=q) h1
  refine b2c ?_
  refine zgn ?_
  refine G3 (j9 11 [0,1,3,4,5,6,7,8] m5 b5 rfl rfl (fun r0=>?_) (fun _ h=>h))
  refine a91 ?_
  refine a9 (rs:=[8]) b5 rfl (AllB.cons ?_ AllB.nil)
  refine m3 [0,1,3,4,5,6,7,8] rfl rfl ?_
  refine a1U ?_
  refine zsa 9 ?_
  refine zsa 10 ?_
  refine T5 ?_
  refine c8 (l6 rfl rfl rfl rfl (a5 (b8 rfl ?_) (a5 (b8 rfl ?_) (a5 (b8 rfl ?_) (a5 (b8 rfl ?_) (a5 (u2 rfl ?_) (a5 (g9 ?_) (a5 (g9 ?_) d4))))))))
  all_goals exact a7J
 refine zcd (fun h2=>?_) (fun h2=>?_)
 ·have hM:=mk2 (rs:=rs) (a:=a) (sq:=sq) (sc:=sc) (sv:=sv) h2
  refine F6 ?_
  refine g8 14 rfl rfl rfl (ArgsOK.of rfl) (a5x rs a hF) rfl rfl ?_
  refine zgo ?_
  refine c8 (l6 rfl rfl rfl rfl (a5 (b8 rfl ?_) (a5 (b8 rfl ?_) (a5 (b8 rfl ?_) (a5 (b8 rfl ?_) (a5 (u2 rfl ?_) (a5 (g9 ?_) (a5 (g9 ?_) d4))))))))
  all_goals exact a7J
 refine zcd (fun h3=>?_) (fun h3=>?_)
 ·have hc:=a2i hv (by omega)
  obtain ⟨c,rfl⟩:∃ c:Nat,sc=c:=⟨sc.toNat,by omega⟩
  have fl:=hF.len c (by omega)
  have fe:=hF.el c (by omega)
  have ftn:0 < (a.st.getD c default).length→(((a.st.getD c default).length:Int) - 1).toNat=(a.st.getD c default).length - 1:=fun _=>(by omega)
  have hnx:=@a1h rs a c
  refine zcl (a1u rs a c hF (by omega)) ?_
  refine zcd (fun h4=>?_) (fun h4=>?_)
  ·have hM:=b2T (rs:=rs) (a:=a) (sq:=sq) (sv:=sv) h3 h4
   refine zgo ?_
   refine c8 (l6 rfl rfl rfl rfl (a5 (b8 rfl ?_) (a5 (b8 rfl ?_) (a5 (b8 rfl ?_) (a5 (b8 rfl ?_) (a5 (u2 rfl ?_) (a5 (g9 ?_) (a5 (g9 ?_) d4))))))))
   all_goals exact a7J
  have hM:=mk3 (rs:=rs) (a:=a) (sq:=sq) (sv:=sv) (c:=c) h3 (by omega)
  refine b2c ?_
  refine zgn ?_
  refine G3 (a2f (Gh.open (id:=7) (i:=c) (k:=0) 10 rfl rfl (a7k (by omega)) rfl rfl) ?_)
  apply F4 [6,9,10] [2,3,4,5,6,7,8] 12 15 [0,1,2,3,4,5,6,8] m5 b5 rfl rfl (fun _ h=>znk h)
  ·intro r0
   refine a91 ?_
   refine zsa 10 ?_
   refine a9 (rs:=[8,11]) b5 rfl (AllB.cons ?_ (AllB.cons ?_ AllB.nil))
   ·first | refine c7 [0,1,2,3,4,5,6,8] rfl rfl (a3 rfl rfl (d5 G rfl rfl rfl rfl rfl (by omega) (by omega)) (a4 ⟨rfl,?_⟩)) | refine c7 [0,1,2,3,4,5,6,8] rfl rfl (a3 rfl rfl (d5 G rfl rfl rfl rfl rfl (by omega) u5) (a4 ⟨rfl,?_⟩))
    refine a9 (rs:=[9,11]) b5 rfl (AllB.cons ?_ (AllB.cons ?_ AllB.nil))
    ·refine m3 [0,1,2,3,4,5,6,8] rfl rfl (a3 rfl rfl (w7 G rfl rfl rfl rfl rfl (s8.2 ⟨_,(B3 u5 rfl),rfl⟩) (.own a6f .nil)) (a4 ⟨rfl,?_⟩))
     refine a9 (rs:=[11]) b5 rfl (AllB.cons ?_ AllB.nil)
     refine m3 [0,1,2,3,4,5,6,8] rfl rfl (k6 G 11 rfl rfl rfl rfl rfl rfl rfl rfl (a4 ⟨rfl,?_⟩))
     refine a9 (rs:=[12]) b5 rfl (AllB.cons ?_ AllB.nil)
     refine c7 [0,1,2,3,4,5,6,8] rfl rfl (s4 (Gh.detach (id:=7) rfl)<|y5 (tx:=59) 12 rfl rfl rfl rfl rfl<|f7 G E8 rfl rfl rfl rfl rfl rfl rfl rfl rfl Z3 rfl rfl (a4 ⟨rfl,?_⟩))
     refine a9 (rs:=[13]) b5 rfl (AllB.cons ?_ AllB.nil)
     first | refine c7 [0,1,2,3,4,5,6,8] rfl rfl (a3 rfl rfl (d5 G rfl rfl rfl rfl rfl (by omega) (by omega)) (a4 ⟨rfl,?_⟩)) | refine c7 [0,1,2,3,4,5,6,8] rfl rfl (a3 rfl rfl (d5 G rfl rfl rfl rfl rfl (by omega) u5) (a4 ⟨rfl,?_⟩))
     refine a9 (rs:=[14]) b5 rfl (AllB.cons ?_ AllB.nil)
     first | refine c7 [0,1,2,3,4,5,6,8] rfl rfl (i9 G rfl rfl rfl rfl rfl (B3 u5 rfl) rfl rfl (.own rfl .nil) rfl rfl rfl (Nat.le_of_ble_eq_true rfl) (fun q h=>by cases h) rfl (a4 ⟨rfl,?_⟩)) | refine c7 [0,1,2,3,4,5,6,8] rfl rfl (i9 G rfl rfl rfl rfl rfl (B3 u5 (by simp)) rfl rfl (.own rfl .nil) rfl rfl rfl (Nat.le_of_ble_eq_true rfl) (fun q h=>by cases h) rfl (a4 ⟨rfl,?_⟩))
     exact l9 b5 (Meet.mk rfl rfl rfl rfl)
    refine m3 [0,1,2,3,4,5,6,8] rfl rfl (k6 G 11 rfl rfl rfl rfl rfl rfl rfl rfl (a4 ⟨rfl,?_⟩))
    refine a9 (rs:=[9]) b5 rfl (AllB.cons ?_ AllB.nil)
    refine m3 [0,1,2,3,4,5,6,8] rfl rfl (a3 rfl rfl (w7 G rfl rfl rfl rfl rfl (s8.2 ⟨_,(B3 u5 rfl),rfl⟩) (.own a6f .nil)) (a4 ⟨rfl,?_⟩))
    refine a9 (rs:=[12]) b5 rfl (AllB.cons ?_ AllB.nil)
    refine c7 [0,1,2,3,4,5,6,8] rfl rfl (s4 (Gh.detach (id:=7) rfl)<|y5 (tx:=59) 12 rfl rfl rfl rfl rfl<|f7 G E8 rfl rfl rfl rfl rfl rfl rfl rfl rfl Z3 rfl rfl (a4 ⟨rfl,?_⟩))
    refine a9 (rs:=[13]) b5 rfl (AllB.cons ?_ AllB.nil)
    first | refine c7 [0,1,2,3,4,5,6,8] rfl rfl (a3 rfl rfl (d5 G rfl rfl rfl rfl rfl (by omega) (by omega)) (a4 ⟨rfl,?_⟩)) | refine c7 [0,1,2,3,4,5,6,8] rfl rfl (a3 rfl rfl (d5 G rfl rfl rfl rfl rfl (by omega) u5) (a4 ⟨rfl,?_⟩))
    refine a9 (rs:=[14]) b5 rfl (AllB.cons ?_ AllB.nil)
    first | refine c7 [0,1,2,3,4,5,6,8] rfl rfl (i9 G rfl rfl rfl rfl rfl (B3 u5 rfl) rfl rfl (.own rfl .nil) rfl rfl rfl (Nat.le_of_ble_eq_true rfl) (fun q h=>by cases h) rfl (a4 ⟨rfl,?_⟩)) | refine c7 [0,1,2,3,4,5,6,8] rfl rfl (i9 G rfl rfl rfl rfl rfl (B3 u5 (by simp)) rfl rfl (.own rfl .nil) rfl rfl rfl (Nat.le_of_ble_eq_true rfl) (fun q h=>by cases h) rfl (a4 ⟨rfl,?_⟩))
    exact l9 b5 (Meet.mk rfl rfl rfl rfl)
   refine m3 [0,1,2,3,4,5,6,8] rfl rfl (k6 G 11 rfl rfl rfl rfl rfl rfl rfl rfl (a4 ⟨rfl,?_⟩))
   refine a9 (rs:=[8]) b5 rfl (AllB.cons ?_ AllB.nil)
   first | refine c7 [0,1,2,3,4,5,6,8] rfl rfl (a3 rfl rfl (d5 G rfl rfl rfl rfl rfl (by omega) (by omega)) (a4 ⟨rfl,?_⟩)) | refine c7 [0,1,2,3,4,5,6,8] rfl rfl (a3 rfl rfl (d5 G rfl rfl rfl rfl rfl (by omega) u5) (a4 ⟨rfl,?_⟩))
   refine a9 (rs:=[9]) b5 rfl (AllB.cons ?_ AllB.nil)
   refine m3 [0,1,2,3,4,5,6,8] rfl rfl (a3 rfl rfl (w7 G rfl rfl rfl rfl rfl (s8.2 ⟨_,(B3 u5 rfl),rfl⟩) (.own a6f .nil)) (a4 ⟨rfl,?_⟩))
   refine a9 (rs:=[12]) b5 rfl (AllB.cons ?_ AllB.nil)
   refine c7 [0,1,2,3,4,5,6,8] rfl rfl (s4 (Gh.detach (id:=7) rfl)<|y5 (tx:=59) 12 rfl rfl rfl rfl rfl<|f7 G E8 rfl rfl rfl rfl rfl rfl rfl rfl rfl Z3 rfl rfl (a4 ⟨rfl,?_⟩))
   refine a9 (rs:=[13]) b5 rfl (AllB.cons ?_ AllB.nil)
   first | refine c7 [0,1,2,3,4,5,6,8] rfl rfl (a3 rfl rfl (d5 G rfl rfl rfl rfl rfl (by omega) (by omega)) (a4 ⟨rfl,?_⟩)) | refine c7 [0,1,2,3,4,5,6,8] rfl rfl (a3 rfl rfl (d5 G rfl rfl rfl rfl rfl (by omega) u5) (a4 ⟨rfl,?_⟩))
   refine a9 (rs:=[14]) b5 rfl (AllB.cons ?_ AllB.nil)
   first | refine c7 [0,1,2,3,4,5,6,8] rfl rfl (i9 G rfl rfl rfl rfl rfl (B3 u5 rfl) rfl rfl (.own rfl .nil) rfl rfl rfl (Nat.le_of_ble_eq_true rfl) (fun q h=>by cases h) rfl (a4 ⟨rfl,?_⟩)) | refine c7 [0,1,2,3,4,5,6,8] rfl rfl (i9 G rfl rfl rfl rfl rfl (B3 u5 (by simp)) rfl rfl (.own rfl .nil) rfl rfl rfl (Nat.le_of_ble_eq_true rfl) (fun q h=>by cases h) rfl (a4 ⟨rfl,?_⟩))
   exact l9 b5 (Meet.mk rfl rfl rfl rfl)
  refine zgo ?_
  refine c8 (l6 rfl rfl rfl rfl (a5 (b8 rfl ?_) (a5 (b8 rfl ?_) (a5 (b8 rfl ?_) (a5 (b8 rfl ?_) (a5 (u2 rfl ?_) (a5 (g9 ?_) (a5 (g9 ?_) d4))))))))
  all_goals exact a7J
 refine zcd (fun h5=>?_) (fun h5=>?_)
 ·have hc:=a2i hv (by omega)
  obtain ⟨c,rfl⟩:∃ c:Nat,sc=c:=⟨sc.toNat,by omega⟩
  have fl:=hF.len c (by omega)
  have fe:=hF.el c (by omega)
  have ftn:0 < (a.st.getD c default).length→(((a.st.getD c default).length:Int) - 1).toNat=(a.st.getD c default).length - 1:=fun _=>(by omega)
  refine F6 ?_
  refine a8z ?_
  refine zcd (fun h6=>?_) (fun h6=>?_)
  ·have hM:=b4e (rs:=rs) (a:=a) (sq:=sq) (sv:=sv) (c:=c) h5 (by omega)
   refine zgo ?_
   refine c8 (l6 rfl rfl rfl rfl (a5 (b8 rfl ?_) (a5 (b8 rfl ?_) (a5 (b8 rfl ?_) (a5 (b8 rfl ?_) (a5 (u2 rfl ?_) (a5 (g9 ?_) (a5 (g9 ?_) d4))))))))
   all_goals exact a7J
  have hM:=mk4 (rs:=rs) (a:=a) (sq:=sq) (sv:=sv) (c:=c) h5 (by omega)
  refine zgn ?_
  refine G3 (j9 15 [0,1,2,3,4,5,6,8] m5 b5 rfl rfl (fun r0=>?_) (fun _ h=>h))
  refine a91 ?_
  refine zsa 10 ?_
  first | refine b9 11 rfl b5 b5 rfl rfl rfl rfl (i8 rfl rfl rfl rfl (by omega) (by omega)) ?_ | refine b9 11 rfl b5 b5 rfl rfl rfl rfl (k4 rfl rfl rfl rfl) ?_
  refine a9 (rs:=[8]) b5 rfl (AllB.cons ?_ AllB.nil)
  first | refine c7 [0,1,2,3,4,5,6,8] rfl rfl (a3 rfl rfl (d5 G rfl rfl rfl rfl rfl (by omega) (by omega)) (a4 ⟨rfl,?_⟩)) | refine c7 [0,1,2,3,4,5,6,8] rfl rfl (a3 rfl rfl (d5 G rfl rfl rfl rfl rfl (by omega) u5) (a4 ⟨rfl,?_⟩))
  refine a9 (rs:=[9]) b5 rfl (AllB.cons ?_ AllB.nil)
  refine m3 [0,1,2,3,4,5,6,8] rfl rfl (a8K G 10 rfl rfl rfl rfl rfl rfl rfl rfl (a7k (by omega)) rfl rfl (a4 ⟨rfl,?_⟩))
  refine a9 (rs:=[12]) b5 rfl (AllB.cons ?_ AllB.nil)
  refine m3 [0,1,2,3,4,5,6,8] rfl rfl (a3 rfl rfl (a1H G rfl rfl rfl rfl rfl rfl (by omega) a9W a9W) (a4 ⟨rfl,?_⟩))
  refine a9 (rs:=[13]) b5 rfl (AllB.cons ?_ AllB.nil)
  first | refine c7 [0,1,2,3,4,5,6,8] rfl rfl (a3 rfl rfl (d5 G rfl rfl rfl rfl rfl (by omega) (by omega)) (a4 ⟨rfl,?_⟩)) | refine c7 [0,1,2,3,4,5,6,8] rfl rfl (a3 rfl rfl (d5 G rfl rfl rfl rfl rfl (by omega) u5) (a4 ⟨rfl,?_⟩))
  refine a9 (rs:=[14]) b5 rfl (AllB.cons ?_ AllB.nil)
  first | refine c7 [0,1,2,3,4,5,6,8] rfl rfl (s4 (Gh.shrink (t:=90) 11 rfl rfl rfl)<|i9 G rfl rfl rfl rfl rfl (B3 u5 rfl) rfl rfl (.own rfl .nil) rfl rfl rfl (Nat.le_of_ble_eq_true rfl) (fun q h=>by cases h) rfl (a4 ⟨rfl,?_⟩)) | refine c7 [0,1,2,3,4,5,6,8] rfl rfl (s4 (Gh.shrink (t:=90) 11 rfl rfl rfl)<|i9 G rfl rfl rfl rfl rfl (B3 u5 (by simp)) rfl rfl (.own rfl .nil) rfl rfl rfl (Nat.le_of_ble_eq_true rfl) (fun q h=>by cases h) rfl (a4 ⟨rfl,?_⟩))
  refine T5 ?_
  refine G3 (j9 14 [0,1,3,4,5,6,7,8] m5 b5 rfl rfl (fun r0=>?_) (fun _ h=>h))
  refine a3O ?_
  refine zsa 4 ?_
  refine zsa 5 ?_
  refine b9 6 rfl b5 b5 rfl rfl rfl rfl (z6 G rfl rfl rfl rfl) ?_
  refine zsa 7 ?_
  first | refine b9 8 rfl b5 b5 rfl rfl rfl rfl (i8 rfl rfl rfl rfl (by omega) (by omega)) ?_ | refine b9 8 rfl b5 b5 rfl rfl rfl rfl (k4 rfl rfl rfl rfl) ?_
  refine zsa 9 ?_
  refine zsa 10 ?_
  refine a9 (rs:=[11]) b5 rfl (AllB.cons ?_ AllB.nil)
  refine m3 [0,1,3,4,5,6,7,8] rfl rfl ?_
  refine a1U ?_
  refine zsa 12 ?_
  refine zsa 13 ?_
  refine T5 ?_
  refine c8 (l6 rfl rfl rfl rfl (a5 (b8 rfl ?_) (a5 (b8 rfl ?_) (a5 (b8 rfl ?_) (a5 (b8 rfl ?_) (a5 (u2 rfl ?_) (a5 (g9 ?_) (a5 (g9 ?_) d4))))))))
  all_goals exact a7J
 refine zcd (fun h7=>?_) (fun h7=>?_)
 ·have hc:=a2i hv (by omega)
  obtain ⟨c,rfl⟩:∃ c:Nat,sc=c:=⟨sc.toNat,by omega⟩
  have fl:=hF.len c (by omega)
  have fe:=hF.el c (by omega)
  have ftn:0 < (a.st.getD c default).length→(((a.st.getD c default).length:Int) - 1).toNat=(a.st.getD c default).length - 1:=fun _=>(by omega)
  have hM:=mk5 (rs:=rs) (a:=a) (sq:=sq) (sv:=sv) (c:=c) h7
  refine b2c ?_
  refine zgo ?_
  refine c8 (l6 rfl rfl rfl rfl (a5 (b8 rfl ?_) (a5 (b8 rfl ?_) (a5 (b8 rfl ?_) (a5 (b8 rfl ?_) (a5 (u2 rfl ?_) (a5 (g9 ?_) (a5 (g9 ?_) d4))))))))
  all_goals exact a7J
 have hk:=b1C hv
 have hq:=a75 hv (by omega)
 obtain ⟨q,rfl⟩:∃ q:Nat,sq=q:=⟨sq.toNat,by omega⟩
 have hM:=mk6 (sk:=sk) (rs:=rs) (a:=a) (sc:=sc) (sv:=sv) (q:=q) (by omega)
 refine b2c ?_
 refine zgo ?_
 refine c8 (l6 rfl rfl rfl rfl (a5 (b8 rfl ?_) (a5 (b8 rfl ?_) (a5 (b8 rfl ?_) (a5 (b8 rfl ?_) (a5 (u2 rfl ?_) (a5 (g9 ?_) (a5 (g9 ?_) d4))))))))
 all_goals exact a7J
theorem S2 (rs:List Route) (a:Abs) (sk sq sc sv:Int) (hF:AbsF rs a) (hv:f8 a.ma.length ⟨sk,sq,sc,sv⟩=true) (ho:¬ noS rs a ⟨sk,sq,sc,sv⟩):Ctr Tryz.prog 57 [.lst 2 (rs.map u7),.agg [.lst 1 (a.en.map l0),.lst 1 (a.ra.map l0),.lst 1 (a.po.map l0),.lst 1 (a.ma.map Rf.r5),.nst none 1 (a.st.map s1)],.v (.agg ⟨[.int .i64 sk,.int .i64 sq,.int .i64 sc,.int .i64 sv]⟩)] (.shp false [some 5,none,none] [.fr 4 1 ((t4 rs a ⟨sk,sq,sc,sv⟩).1.en.map l0),.fr 4 1 ((t4 rs a ⟨sk,sq,sc,sv⟩).1.ra.map l0),.fr 4 1 ((t4 rs a ⟨sk,sq,sc,sv⟩).1.po.map l0),.fr 3 1 ((t4 rs a ⟨sk,sq,sc,sv⟩).1.ma.map Rf.r5),.ne 26 1 ((t4 rs a ⟨sk,sq,sc,sv⟩).1.st.map s1),.v (.int .i64 (t4 rs a ⟨sk,sq,sc,sv⟩).2.1),.v (.bool (t4 rs a ⟨sk,sq,sc,sv⟩).2.2)]):=by
 have f0:=hF.n
 have f1:=hF.rn
 have f2:=hF.st
 have f3:=hF.en
 have f4:=hF.ra
 have f5:=hF.po
 have fm:=hF.rt
 have fs:=hF.small
 refine Ctr.of (n:=159) G Tryz.func57 rfl b5 rfl rfl rfl (fun w0=>?_)
 refine r8 1 rfl (fun _=>rfl) (fun u1=>?_)
 refine a3i ?_
 refine b2e ?_
 refine zgn ?_
 refine a3i ?_
 refine zst ?_
 refine y6 ?_
 refine g8 8 rfl rfl rfl (ArgsOK.of rfl) (M6 a fs) rfl rfl ?_
 refine y6 ?_
 refine d7 G 9 rfl rfl rfl rfl rfl ?_
 refine zgn ?_
 refine zgn ?_
 refine zgn ?_
 refine d1 rfl (fun h1=>?_) (fun h1=>?_)
 ·try rw [h1]
  try simp only [rfb] at h1
  have hq:=a75 hv (by omega)
  obtain ⟨q,rfl⟩:∃ q:Nat,sq=q:=⟨sq.toNat,by omega⟩
  have hM:=mk1 (rs:=rs) (a:=a) (sc:=sc) (sv:=sv) (q:=q) h1
  refine zgn ?_
  refine a6 ?_
  iterate 4 refine zst ?_
  refine vm5 ?_
  refine zgn ?_
  refine c8 (l6 rfl rfl rfl rfl (a5 (b8 rfl ?_) (a5 (b8 rfl ?_) (a5 (b8 rfl ?_) (a5 (b8 rfl ?_) (a5 (u2 rfl ?_) (a5 (g9 ?_) (a5 (g9 ?_) d4))))))))
  all_goals exact a9U
 try rw [h1]
 try simp only [rfb] at h1
 refine zgn ?_
 refine d1 rfl (fun h2=>?_) (fun h2=>?_)
 ·try rw [h2]
  try simp only [rfb] at h2
  have hM:=mk2 (rs:=rs) (a:=a) (sq:=sq) (sc:=sc) (sv:=sv) h2
  refine zgn ?_
  refine l8 (m4 [0,4,6,9,10,11,36,37] [0,2,3,6,7,8] (fun (i:Nat)=>[(38,.v (.int .i64 (i:Int)))]) (fun (i:Nat)=>[(4,some (.row 4 1 ((a0i rs a i).map l0))),(5,some (.row 4 1 ((Y1 rs a i).map l0)))]) (fun (i:Nat)=>i≤8) (fun (i:Nat)=>8 - i) 0 rfl rfl ?_ ?_ ?_ ?_)
  ·exact Nat.zero_le _
  ·exact ⟨⟨_,rfl,by (first | rfl | (simp;done) | (simp;omega))⟩,rfl,trivial⟩
  ·exact ⟨⟨_,rfl,by rfl⟩,rfl,rfl,⟨⟨_,rfl,by rfl⟩,rfl,rfl,trivial⟩⟩
  intro i hinv
  have e1:=@U1 rs a i
  have e2:=@N2 rs a i
  have fq:=fun h=>hF.rt i h
  simp only [List.cons_append,List.nil_append]
  refine zgn ?_
  refine G3 (d1 rfl (fun h3=>?_) (fun h3=>?_))
  ·try rw [h3]
   try simp only [rfb] at h3
   refine zgn ?_
   refine zgn ?_
   refine b1n ?_
   iterate 2 refine zst ?_
   refine L0 rfl rfl rfl (fun h4=>?_) (fun h4=>?_)
   ·try rw [h4]
    try simp only [rfb] at h4
    iterate 7 refine zst ?_
    refine L0 rfl rfl rfl (fun h5=>?_) (fun h5=>?_)
    ·try rw [h5]
     try simp only [rfb] at h5
     iterate 8 refine zst ?_
     refine a5u ?_
     refine b2f ?_
     refine zst ?_
     refine a5u ?_
     refine j5 rfl rfl (k5 rfl (ArgsOK.of rfl) (X1 _ _ (Nat.le_trans (hF.len _ (by have:=hF.rt i (by omega);omega)) (by decide))) rfl) ?_
     refine zgn ?_
     refine d1 rfl (fun h6=>?_) (fun h6=>?_)
     ·try rw [h6]
      try simp only [rfb] at h6
      refine j9 10 [0,2,3,6,7,8] m5 b5 rfl rfl (fun r0=>?_) (fun _ h=>h)
      refine a3O ?_
      refine zsa 4 ?_
      refine zsa 5 ?_
      refine a9 (rs:=[6]) b5 rfl (AllB.cons ?_ AllB.nil)
      first | refine c7 [0,2,3,6,7,8] rfl rfl (a3 rfl rfl (k8 G rfl rfl rfl rfl rfl (by omega) u5) (a4 ⟨rfl,?_⟩)) | refine c7 [0,2,3,6,7,8] rfl rfl (a3 rfl rfl (k8 G rfl rfl rfl rfl rfl (by omega) (by omega)) (a4 ⟨rfl,?_⟩))
      refine a9 (rs:=[7]) b5 rfl (AllB.cons ?_ AllB.nil)
      first | refine c7 [0,2,3,6,7,8] rfl rfl (i6 G rfl rfl rfl rfl rfl (C3 (by omega) a7M) rfl rfl rfl rfl rfl (Nat.le_of_ble_eq_true rfl) rfl (a4 ⟨rfl,?_⟩)) | refine c7 [0,2,3,6,7,8] rfl rfl (i6 G rfl rfl rfl rfl rfl (C3 (by omega) a7N) rfl rfl rfl rfl rfl (Nat.le_of_ble_eq_true rfl) rfl (a4 ⟨rfl,?_⟩)) | refine c7 [0,2,3,6,7,8] rfl rfl (i6 G rfl rfl rfl rfl rfl (C3 (by omega) (by omega)) rfl rfl rfl rfl rfl (Nat.le_of_ble_eq_true rfl) rfl (a4 ⟨rfl,?_⟩)) | refine c7 [0,2,3,6,7,8] rfl rfl (i6 G rfl rfl rfl rfl rfl (C3 (by omega) u5) rfl rfl rfl rfl rfl (Nat.le_of_ble_eq_true rfl) rfl (a4 ⟨rfl,?_⟩))
      refine a9 (rs:=[8]) b5 rfl (AllB.cons ?_ AllB.nil)
      first | refine c7 [0,2,3,6,7,8] rfl rfl (a3 rfl rfl (k8 G rfl rfl rfl rfl rfl (by omega) u5) (a4 ⟨rfl,?_⟩)) | refine c7 [0,2,3,6,7,8] rfl rfl (a3 rfl rfl (k8 G rfl rfl rfl rfl rfl (by omega) (by omega)) (a4 ⟨rfl,?_⟩))
      refine a9 (rs:=[9]) b5 rfl (AllB.cons ?_ AllB.nil)
      first | refine c7 [0,2,3,6,7,8] rfl rfl (i6 G rfl rfl rfl rfl rfl (C3 (by omega) a7M) rfl rfl rfl rfl rfl (Nat.le_of_ble_eq_true rfl) rfl (a4 ⟨rfl,?_⟩)) | refine c7 [0,2,3,6,7,8] rfl rfl (i6 G rfl rfl rfl rfl rfl (C3 (by omega) a7N) rfl rfl rfl rfl rfl (Nat.le_of_ble_eq_true rfl) rfl (a4 ⟨rfl,?_⟩)) | refine c7 [0,2,3,6,7,8] rfl rfl (i6 G rfl rfl rfl rfl rfl (C3 (by omega) (by omega)) rfl rfl rfl rfl rfl (Nat.le_of_ble_eq_true rfl) rfl (a4 ⟨rfl,?_⟩)) | refine c7 [0,2,3,6,7,8] rfl rfl (i6 G rfl rfl rfl rfl rfl (C3 (by omega) u5) rfl rfl rfl rfl rfl (Nat.le_of_ble_eq_true rfl) rfl (a4 ⟨rfl,?_⟩))
      refine T5 ?_
      refine a6 ?_
      refine vm7 ?_
      refine ⟨(i+1),?_,?_,⟨⟨_,rfl,by rfl⟩,rfl,trivial⟩,⟨⟨_,rfl,by (first | rfl | (rw [E4 (B7 d8 d8 d8),List.map_set];rfl) | (rw [E6 (B7 d8 d8 d8),List.map_set];rfl) | (rw [E5 J8];done) | (rw [E7 J8];done))⟩,rfl,rfl,⟨⟨_,rfl,by (first | rfl | (rw [E4 (B7 d8 d8 d8),List.map_set];rfl) | (rw [E6 (B7 d8 d8 d8),List.map_set];rfl) | (rw [E5 J8];done) | (rw [E7 J8];done))⟩,rfl,rfl,trivial⟩⟩,rfl,rfl,rfl⟩
      ·omega
      omega
     try rw [h6]
     try simp only [rfb] at h6
     refine zgn ?_
     refine a6 ?_
     refine vm7 ?_
     refine ⟨(i+1),?_,?_,⟨⟨_,rfl,by rfl⟩,rfl,trivial⟩,⟨⟨_,rfl,by (first | rfl | (rw [E4 (B7 d8 d8 d8),List.map_set];rfl) | (rw [E6 (B7 d8 d8 d8),List.map_set];rfl) | (rw [E5 J8];done) | (rw [E7 J8];done))⟩,rfl,rfl,⟨⟨_,rfl,by (first | rfl | (rw [E4 (B7 d8 d8 d8),List.map_set];rfl) | (rw [E6 (B7 d8 d8 d8),List.map_set];rfl) | (rw [E5 J8];done) | (rw [E7 J8];done))⟩,rfl,rfl,trivial⟩⟩,rfl,rfl,rfl⟩
     ·omega
     omega
    try rw [h5]
    try simp only [rfb] at h5
    refine zgn ?_
    refine B1 rfl ?_
    refine zgn ?_
    refine a6 ?_
    refine vm7 ?_
    refine ⟨(i+1),?_,?_,⟨⟨_,rfl,by rfl⟩,rfl,trivial⟩,⟨⟨_,rfl,by (first | rfl | (rw [E4 (B7 d8 d8 d8),List.map_set];rfl) | (rw [E6 (B7 d8 d8 d8),List.map_set];rfl) | (rw [E5 J8];done) | (rw [E7 J8];done))⟩,rfl,rfl,⟨⟨_,rfl,by (first | rfl | (rw [E4 (B7 d8 d8 d8),List.map_set];rfl) | (rw [E6 (B7 d8 d8 d8),List.map_set];rfl) | (rw [E5 J8];done) | (rw [E7 J8];done))⟩,rfl,rfl,trivial⟩⟩,rfl,rfl,rfl⟩
    ·omega
    omega
   try rw [h4]
   try simp only [rfb] at h4
   refine zgn ?_
   refine B1 rfl ?_
   refine zgn ?_
   refine a6 ?_
   refine vm7 ?_
   refine ⟨(i+1),?_,?_,⟨⟨_,rfl,by rfl⟩,rfl,trivial⟩,⟨⟨_,rfl,by (first | rfl | (rw [E4 (B7 d8 d8 d8),List.map_set];rfl) | (rw [E6 (B7 d8 d8 d8),List.map_set];rfl) | (rw [E5 J8];done) | (rw [E7 J8];done))⟩,rfl,rfl,⟨⟨_,rfl,by (first | rfl | (rw [E4 (B7 d8 d8 d8),List.map_set];rfl) | (rw [E6 (B7 d8 d8 d8),List.map_set];rfl) | (rw [E5 J8];done) | (rw [E7 J8];done))⟩,rfl,rfl,trivial⟩⟩,rfl,rfl,rfl⟩
   ·omega
   omega
  try rw [h3]
  try simp only [rfb] at h3
  refine zgn ?_
  refine zgn ?_
  refine c8 (l6 rfl rfl rfl rfl (a5 (b8 rfl ?_) (a5 (b8 rfl ?_) (a5 (b8 rfl ?_) (a5 (b8 rfl ?_) (a5 (u2 rfl ?_) (a5 (g9 ?_) (a5 (g9 ?_) d4))))))))
  all_goals exact a9U
 try rw [h2]
 try simp only [rfb] at h2
 refine zgn ?_
 refine d1 rfl (fun h7=>?_) (fun h7=>?_)
 ·try rw [h7]
  try simp only [rfb] at h7
  have hc:=a2i hv (by omega)
  obtain ⟨c,rfl⟩:∃ c:Nat,sc=c:=⟨sc.toNat,by omega⟩
  have fl:=hF.len c (by omega)
  have fe:=hF.el c (by omega)
  have ftn:0 < (a.st.getD c default).length→(((a.st.getD c default).length:Int) - 1).toNat=(a.st.getD c default).length - 1:=fun _=>(by omega)
  have hnx:=@a1h rs a c
  refine a3i ?_
  iterate 4 refine zst ?_
  refine y6 ?_
  refine a3 rfl rfl (k5 rfl (ArgsOK.of rfl) (Q0 rs a c hF (by omega)) rfl) ?_
  refine zgn ?_
  refine zgn ?_
  refine d1 rfl (fun h8=>?_) (fun h8=>?_)
  ·try rw [h8]
   try simp only [rfb] at h8
   exact absurd (Or.inl ⟨h7,by show z7 rs a c < 0;omega⟩) ho
  try rw [h8]
  try simp only [rfb] at h8
  have hM:=mk3 (rs:=rs) (a:=a) (sq:=sq) (sv:=sv) (c:=c) h7 (by omega)
  refine zgn ?_
  refine a3i ?_
  refine a5t ?_
  refine vm5 ?_
  refine a2f (Gh.open (id:=7) (i:=c) (k:=0) 10 rfl rfl (a7k (by omega)) rfl rfl) ?_
  apply F4 [6,9,10,11] [2,3,4,5,6,7,8] 12 15 [0,1,2,3,4,5,6,8] m5 b5 rfl rfl (fun _ h=>znk h)
  ·intro r0
   refine a91 ?_
   refine zsa 10 ?_
   refine a9 (rs:=[8,11]) b5 rfl (AllB.cons ?_ (AllB.cons ?_ AllB.nil))
   ·first | refine c7 [0,1,2,3,4,5,6,8] rfl rfl (a3 rfl rfl (d5 G rfl rfl rfl rfl rfl (by omega) (by omega)) (a4 ⟨rfl,?_⟩)) | refine c7 [0,1,2,3,4,5,6,8] rfl rfl (a3 rfl rfl (d5 G rfl rfl rfl rfl rfl (by omega) u5) (a4 ⟨rfl,?_⟩))
    refine a9 (rs:=[9,11]) b5 rfl (AllB.cons ?_ (AllB.cons ?_ AllB.nil))
    ·refine m3 [0,1,2,3,4,5,6,8] rfl rfl (a3 rfl rfl (w7 G rfl rfl rfl rfl rfl (s8.2 ⟨_,(B3 u5 rfl),rfl⟩) (.own a6f .nil)) (a4 ⟨rfl,?_⟩))
     refine a9 (rs:=[11]) b5 rfl (AllB.cons ?_ AllB.nil)
     refine m3 [0,1,2,3,4,5,6,8] rfl rfl (k6 G 11 rfl rfl rfl rfl rfl rfl rfl rfl (a4 ⟨rfl,?_⟩))
     refine a9 (rs:=[12]) b5 rfl (AllB.cons ?_ AllB.nil)
     refine c7 [0,1,2,3,4,5,6,8] rfl rfl (s4 (Gh.detach (id:=7) rfl)<|y5 (tx:=97) 12 rfl rfl rfl rfl rfl<|f7 G E8 rfl rfl rfl rfl rfl rfl rfl rfl rfl Z3 rfl rfl (a4 ⟨rfl,?_⟩))
     refine a9 (rs:=[13]) b5 rfl (AllB.cons ?_ AllB.nil)
     first | refine c7 [0,1,2,3,4,5,6,8] rfl rfl (a3 rfl rfl (d5 G rfl rfl rfl rfl rfl (by omega) (by omega)) (a4 ⟨rfl,?_⟩)) | refine c7 [0,1,2,3,4,5,6,8] rfl rfl (a3 rfl rfl (d5 G rfl rfl rfl rfl rfl (by omega) u5) (a4 ⟨rfl,?_⟩))
     refine a9 (rs:=[14]) b5 rfl (AllB.cons ?_ AllB.nil)
     first | refine c7 [0,1,2,3,4,5,6,8] rfl rfl (i9 G rfl rfl rfl rfl rfl (B3 u5 rfl) rfl rfl (.own rfl .nil) rfl rfl rfl (Nat.le_of_ble_eq_true rfl) (fun q h=>by cases h) rfl (a4 ⟨rfl,?_⟩)) | refine c7 [0,1,2,3,4,5,6,8] rfl rfl (i9 G rfl rfl rfl rfl rfl (B3 u5 (by simp)) rfl rfl (.own rfl .nil) rfl rfl rfl (Nat.le_of_ble_eq_true rfl) (fun q h=>by cases h) rfl (a4 ⟨rfl,?_⟩))
     exact l9 b5 (Meet.mk rfl rfl rfl rfl)
    refine m3 [0,1,2,3,4,5,6,8] rfl rfl (k6 G 11 rfl rfl rfl rfl rfl rfl rfl rfl (a4 ⟨rfl,?_⟩))
    refine a9 (rs:=[9]) b5 rfl (AllB.cons ?_ AllB.nil)
    refine m3 [0,1,2,3,4,5,6,8] rfl rfl (a3 rfl rfl (w7 G rfl rfl rfl rfl rfl (s8.2 ⟨_,(B3 u5 rfl),rfl⟩) (.own a6f .nil)) (a4 ⟨rfl,?_⟩))
    refine a9 (rs:=[12]) b5 rfl (AllB.cons ?_ AllB.nil)
    refine c7 [0,1,2,3,4,5,6,8] rfl rfl (s4 (Gh.detach (id:=7) rfl)<|y5 (tx:=97) 12 rfl rfl rfl rfl rfl<|f7 G E8 rfl rfl rfl rfl rfl rfl rfl rfl rfl Z3 rfl rfl (a4 ⟨rfl,?_⟩))
    refine a9 (rs:=[13]) b5 rfl (AllB.cons ?_ AllB.nil)
    first | refine c7 [0,1,2,3,4,5,6,8] rfl rfl (a3 rfl rfl (d5 G rfl rfl rfl rfl rfl (by omega) (by omega)) (a4 ⟨rfl,?_⟩)) | refine c7 [0,1,2,3,4,5,6,8] rfl rfl (a3 rfl rfl (d5 G rfl rfl rfl rfl rfl (by omega) u5) (a4 ⟨rfl,?_⟩))
    refine a9 (rs:=[14]) b5 rfl (AllB.cons ?_ AllB.nil)
    first | refine c7 [0,1,2,3,4,5,6,8] rfl rfl (i9 G rfl rfl rfl rfl rfl (B3 u5 rfl) rfl rfl (.own rfl .nil) rfl rfl rfl (Nat.le_of_ble_eq_true rfl) (fun q h=>by cases h) rfl (a4 ⟨rfl,?_⟩)) | refine c7 [0,1,2,3,4,5,6,8] rfl rfl (i9 G rfl rfl rfl rfl rfl (B3 u5 (by simp)) rfl rfl (.own rfl .nil) rfl rfl rfl (Nat.le_of_ble_eq_true rfl) (fun q h=>by cases h) rfl (a4 ⟨rfl,?_⟩))
    exact l9 b5 (Meet.mk rfl rfl rfl rfl)
   refine m3 [0,1,2,3,4,5,6,8] rfl rfl (k6 G 11 rfl rfl rfl rfl rfl rfl rfl rfl (a4 ⟨rfl,?_⟩))
   refine a9 (rs:=[8]) b5 rfl (AllB.cons ?_ AllB.nil)
   first | refine c7 [0,1,2,3,4,5,6,8] rfl rfl (a3 rfl rfl (d5 G rfl rfl rfl rfl rfl (by omega) (by omega)) (a4 ⟨rfl,?_⟩)) | refine c7 [0,1,2,3,4,5,6,8] rfl rfl (a3 rfl rfl (d5 G rfl rfl rfl rfl rfl (by omega) u5) (a4 ⟨rfl,?_⟩))
   refine a9 (rs:=[9]) b5 rfl (AllB.cons ?_ AllB.nil)
   refine m3 [0,1,2,3,4,5,6,8] rfl rfl (a3 rfl rfl (w7 G rfl rfl rfl rfl rfl (s8.2 ⟨_,(B3 u5 rfl),rfl⟩) (.own a6f .nil)) (a4 ⟨rfl,?_⟩))
   refine a9 (rs:=[12]) b5 rfl (AllB.cons ?_ AllB.nil)
   refine c7 [0,1,2,3,4,5,6,8] rfl rfl (s4 (Gh.detach (id:=7) rfl)<|y5 (tx:=97) 12 rfl rfl rfl rfl rfl<|f7 G E8 rfl rfl rfl rfl rfl rfl rfl rfl rfl Z3 rfl rfl (a4 ⟨rfl,?_⟩))
   refine a9 (rs:=[13]) b5 rfl (AllB.cons ?_ AllB.nil)
   first | refine c7 [0,1,2,3,4,5,6,8] rfl rfl (a3 rfl rfl (d5 G rfl rfl rfl rfl rfl (by omega) (by omega)) (a4 ⟨rfl,?_⟩)) | refine c7 [0,1,2,3,4,5,6,8] rfl rfl (a3 rfl rfl (d5 G rfl rfl rfl rfl rfl (by omega) u5) (a4 ⟨rfl,?_⟩))
   refine a9 (rs:=[14]) b5 rfl (AllB.cons ?_ AllB.nil)
   first | refine c7 [0,1,2,3,4,5,6,8] rfl rfl (i9 G rfl rfl rfl rfl rfl (B3 u5 rfl) rfl rfl (.own rfl .nil) rfl rfl rfl (Nat.le_of_ble_eq_true rfl) (fun q h=>by cases h) rfl (a4 ⟨rfl,?_⟩)) | refine c7 [0,1,2,3,4,5,6,8] rfl rfl (i9 G rfl rfl rfl rfl rfl (B3 u5 (by simp)) rfl rfl (.own rfl .nil) rfl rfl rfl (Nat.le_of_ble_eq_true rfl) (fun q h=>by cases h) rfl (a4 ⟨rfl,?_⟩))
   exact l9 b5 (Meet.mk rfl rfl rfl rfl)
  refine zgn ?_
  refine c8 (l6 rfl rfl rfl rfl (a5 (b8 rfl ?_) (a5 (b8 rfl ?_) (a5 (b8 rfl ?_) (a5 (b8 rfl ?_) (a5 (u2 rfl ?_) (a5 (g9 ?_) (a5 (g9 ?_) d4))))))))
  all_goals exact a9U
 try rw [h7]
 try simp only [rfb] at h7
 refine zgn ?_
 refine d1 rfl (fun h9=>?_) (fun h9=>?_)
 ·try rw [h9]
  try simp only [rfb] at h9
  have hc:=a2i hv (by omega)
  obtain ⟨c,rfl⟩:∃ c:Nat,sc=c:=⟨sc.toNat,by omega⟩
  have fl:=hF.len c (by omega)
  have fe:=hF.el c (by omega)
  have ftn:0 < (a.st.getD c default).length→(((a.st.getD c default).length:Int) - 1).toNat=(a.st.getD c default).length - 1:=fun _=>(by omega)
  refine a3i ?_
  iterate 5 refine zst ?_
  refine y6 ?_
  refine a8z ?_
  refine zst ?_
  refine vm7 ?_
  refine zgn ?_
  refine d1 rfl (fun h10=>?_) (fun h10=>?_)
  ·try rw [h10]
   try simp only [rfb] at h10
   exact absurd (Or.inr ⟨h9,by show (a.st.getD c default).length=0;omega⟩) ho
  try rw [h10]
  try simp only [rfb] at h10
  have hM:=mk4 (rs:=rs) (a:=a) (sq:=sq) (sv:=sv) (c:=c) h9 (by omega)
  refine zgn ?_
  refine a3i ?_
  iterate 5 refine zst ?_
  refine y6 ?_
  refine a8z ?_
  refine zgn ?_
  refine j9 14 [0,1,2,3,4,5,6,8] m5 b5 rfl rfl (fun r0=>?_) (fun _ h=>h)
  refine a91 ?_
  refine zsa 10 ?_
  refine a9 (rs:=[8]) b5 rfl (AllB.cons ?_ AllB.nil)
  first | refine c7 [0,1,2,3,4,5,6,8] rfl rfl (a3 rfl rfl (d5 G rfl rfl rfl rfl rfl (by omega) (by omega)) (a4 ⟨rfl,?_⟩)) | refine c7 [0,1,2,3,4,5,6,8] rfl rfl (a3 rfl rfl (d5 G rfl rfl rfl rfl rfl (by omega) u5) (a4 ⟨rfl,?_⟩))
  refine a9 (rs:=[9]) b5 rfl (AllB.cons ?_ AllB.nil)
  refine m3 [0,1,2,3,4,5,6,8] rfl rfl (a8K G 10 rfl rfl rfl rfl rfl rfl rfl rfl (a7k (by omega)) rfl rfl (a4 ⟨rfl,?_⟩))
  refine a9 (rs:=[11]) b5 rfl (AllB.cons ?_ AllB.nil)
  refine m3 [0,1,2,3,4,5,6,8] rfl rfl (a3 rfl rfl (a1H G rfl rfl rfl rfl rfl rfl (by omega) a9W a9W) (a4 ⟨rfl,?_⟩))
  refine a9 (rs:=[12]) b5 rfl (AllB.cons ?_ AllB.nil)
  first | refine c7 [0,1,2,3,4,5,6,8] rfl rfl (a3 rfl rfl (d5 G rfl rfl rfl rfl rfl (by omega) (by omega)) (a4 ⟨rfl,?_⟩)) | refine c7 [0,1,2,3,4,5,6,8] rfl rfl (a3 rfl rfl (d5 G rfl rfl rfl rfl rfl (by omega) u5) (a4 ⟨rfl,?_⟩))
  refine a9 (rs:=[13]) b5 rfl (AllB.cons ?_ AllB.nil)
  first | refine c7 [0,1,2,3,4,5,6,8] rfl rfl (s4 (Gh.shrink (t:=135) 11 rfl rfl rfl)<|i9 G rfl rfl rfl rfl rfl (B3 u5 rfl) rfl rfl (.own rfl .nil) rfl rfl rfl (Nat.le_of_ble_eq_true rfl) (fun q h=>by cases h) rfl (a4 ⟨rfl,?_⟩)) | refine c7 [0,1,2,3,4,5,6,8] rfl rfl (s4 (Gh.shrink (t:=135) 11 rfl rfl rfl)<|i9 G rfl rfl rfl rfl rfl (B3 u5 (by simp)) rfl rfl (.own rfl .nil) rfl rfl rfl (Nat.le_of_ble_eq_true rfl) (fun q h=>by cases h) rfl (a4 ⟨rfl,?_⟩))
  refine T5 ?_
  refine zgn ?_
  refine c8 (l6 rfl rfl rfl rfl (a5 (b8 rfl ?_) (a5 (b8 rfl ?_) (a5 (b8 rfl ?_) (a5 (b8 rfl ?_) (a5 (u2 rfl ?_) (a5 (g9 ?_) (a5 (g9 ?_) d4))))))))
  all_goals exact a9U
 try rw [h9]
 try simp only [rfb] at h9
 refine zgn ?_
 refine d1 rfl (fun h11=>?_) (fun h11=>?_)
 ·try rw [h11]
  try simp only [rfb] at h11
  have hc:=a2i hv (by omega)
  obtain ⟨c,rfl⟩:∃ c:Nat,sc=c:=⟨sc.toNat,by omega⟩
  have fl:=hF.len c (by omega)
  have fe:=hF.el c (by omega)
  have ftn:0 < (a.st.getD c default).length→(((a.st.getD c default).length:Int) - 1).toNat=(a.st.getD c default).length - 1:=fun _=>(by omega)
  have hM:=mk5 (rs:=rs) (a:=a) (sq:=sq) (sv:=sv) (c:=c) h11
  refine a6 ?_
  iterate 6 refine zst ?_
  refine vm5 ?_
  refine zgn ?_
  refine c8 (l6 rfl rfl rfl rfl (a5 (b8 rfl ?_) (a5 (b8 rfl ?_) (a5 (b8 rfl ?_) (a5 (b8 rfl ?_) (a5 (u2 rfl ?_) (a5 (g9 ?_) (a5 (g9 ?_) d4))))))))
  all_goals exact a9U
 try rw [h11]
 try simp only [rfb] at h11
 refine zgn ?_
 refine d1 rfl (fun h12=>?_) (fun h12=>?_)
 ·try rw [h12]
  try simp only [rfb] at h12
  have hq:=a75 hv (by omega)
  obtain ⟨q,rfl⟩:∃ q:Nat,sq=q:=⟨sq.toNat,by omega⟩
  have hM:=mk6 (sk:=sk) (rs:=rs) (a:=a) (sc:=sc) (sv:=sv) (q:=q) h12
  refine a6 ?_
  iterate 7 refine zst ?_
  refine vm5 ?_
  refine zgn ?_
  refine c8 (l6 rfl rfl rfl rfl (a5 (b8 rfl ?_) (a5 (b8 rfl ?_) (a5 (b8 rfl ?_) (a5 (b8 rfl ?_) (a5 (u2 rfl ?_) (a5 (g9 ?_) (a5 (g9 ?_) d4))))))))
  all_goals exact a9U
 try rw [h12]
 try simp only [rfb] at h12
 exact absurd (b1C hv) (by omega)
end Go.Proofs.YtcnodpipinlpcaaGreat
set_option maxRecDepth 20000
namespace Go.Proofs.YtcnodpipinlpcaaGreat
open Go Go.Rf
theorem O6 (rs:List Route) (a:Abs) (sk sq sc sv:Int) (hF:AbsF rs a) (hv:f8 a.ma.length ⟨sk,sq,sc,sv⟩=true) (ho:noS rs a ⟨sk,sq,sc,sv⟩):CtrE (α:=Nat→Option Addr×Nat×Nat) Tryz.prog 57 [.lst 2 (rs.map u7),.agg [.lst 1 (a.en.map l0),.lst 1 (a.ra.map l0),.lst 1 (a.po.map l0),.lst 1 (a.ma.map Rf.r5),.nst none 1 (a.st.map s1)],.v (.agg ⟨[.int .i64 sk,.int .i64 sq,.int .i64 sc,.int .i64 sv]⟩)] (fun y=>(.shp false [some 5,none,none] [.v (.slice (y 0).1 (y 0).2.1 (y 0).2.2),.v (.slice (y 1).1 (y 1).2.1 (y 1).2.2),.v (.slice (y 2).1 (y 2).2.1 (y 2).2.2),.v (.slice (y 3).1 (y 3).2.1 (y 3).2.2),.v (.slice (y 4).1 (y 4).2.1 (y 4).2.2),.v (.int .i64 (-1)),.v (.bool false)])):=by
 have f0:=hF.n
 have f1:=hF.rn
 have f2:=hF.st
 have f3:=hF.en
 have f4:=hF.ra
 have f5:=hF.po
 have fm:=hF.rt
 have fs:=hF.small
 refine CtrE.of (n:=159) G Tryz.func57 rfl b5 rfl rfl rfl (fun w0=>?_)
 refine b2P 1 rfl rfl (fun _=>rfl) (fun u1=>?_)
 refine zgo ?_
 refine b2e ?_
 refine F6 ?_
 refine g8 8 rfl rfl rfl (ArgsOK.of rfl) (M6 a fs) rfl rfl ?_
 refine y6 ?_
 refine d7 G 9 rfl rfl rfl rfl rfl ?_
 refine zcd (fun h1=>?_) (fun h1=>?_)
 ·exact absurd (b0q ho) (by omega)
 refine zcd (fun h2=>?_) (fun h2=>?_)
 ·exact absurd (b0q ho) (by omega)
 refine zcd (fun h3=>?_) (fun h3=>?_)
 ·have hc:=a2i hv (by omega)
  obtain ⟨c,rfl⟩:∃ c:Nat,sc=c:=⟨sc.toNat,by omega⟩
  have fl:=hF.len c (by omega)
  have fe:=hF.el c (by omega)
  have ftn:0 < (a.st.getD c default).length→(((a.st.getD c default).length:Int) - 1).toNat=(a.st.getD c default).length - 1:=fun _=>(by omega)
  have hnx:=@a1h rs a c
  refine zcl (Q0 rs a c hF (by omega)) ?_
  refine zcd (fun h4=>?_) (fun h4=>?_)
  ·refine zgo ?_
   refine c8 (b2O (u1) (l6 rfl rfl rfl rfl (a5 (P7 ?_) (a5 (P7 ?_) (a5 (P7 ?_) (a5 (P7 ?_) (a5 (a8L ?_) (a5 (g9 ?_) (a5 (g9 ?_) d4)))))))))
   all_goals (rfl)
  exact absurd (b4f ho h3) (by omega)
 refine zcd (fun h5=>?_) (fun h5=>?_)
 ·have hc:=a2i hv (by omega)
  obtain ⟨c,rfl⟩:∃ c:Nat,sc=c:=⟨sc.toNat,by omega⟩
  have fl:=hF.len c (by omega)
  have fe:=hF.el c (by omega)
  have ftn:0 < (a.st.getD c default).length→(((a.st.getD c default).length:Int) - 1).toNat=(a.st.getD c default).length - 1:=fun _=>(by omega)
  refine F6 ?_
  refine a8z ?_
  refine zcd (fun h6=>?_) (fun h6=>?_)
  ·refine zgo ?_
   refine c8 (b2O (u1) (l6 rfl rfl rfl rfl (a5 (P7 ?_) (a5 (P7 ?_) (a5 (P7 ?_) (a5 (P7 ?_) (a5 (a8L ?_) (a5 (g9 ?_) (a5 (g9 ?_) d4)))))))))
   all_goals (rfl)
  exact absurd (b4g ho h5) (by omega)
 exact absurd (b0q ho) (by omega)
theorem I9 (rs:List Route) (a:Abs) (s:MStep) (hs:SmallA a) (hn:rs.length≤1048576):Ctr Tryz.prog 14 [.lst 2 (rs.map u7),.agg [.lst 1 (a.en.map l0),.lst 1 (a.ra.map l0),.lst 1 (a.po.map l0),.lst 1 (a.ma.map Rf.r5),.nst none 1 (a.st.map s1)],.v (a0g s)] (.shp false [some 5,none,none] [.fr 4 1 ((stepA rs a s).1.en.map l0),.fr 4 1 ((stepA rs a s).1.ra.map l0),.fr 4 1 ((stepA rs a s).1.po.map l0),.fr 3 1 ((stepA rs a s).1.ma.map Rf.r5),.ne 26 1 ((stepA rs a s).1.st.map s1),.v (.int .i64 (stepA rs a s).2.1),.v (.bool (stepA rs a s).2.2)]):=by
 refine Ctr.of (n:=36) G Tryz.func14 rfl (by kernel_rfl) rfl rfl rfl (fun w0=>?_)
 refine r8 1 rfl (fun _=>rfl) (fun u1=>?_)
 refine b4 (fun K1 hK1=>?_)
 refine a6 ?_
 refine a1 rfl ?_
 refine y4 1 rfl rfl rfl rfl rfl rfl rfl ?_
 refine a1 rfl ?_
 refine y4 2 rfl rfl rfl rfl rfl rfl rfl ?_
 refine a1 rfl ?_
 refine d7 G 3 rfl rfl rfl rfl rfl ?_
 refine a1 rfl ?_
 refine a3 rfl rfl (a7 rfl rfl) ?_
 refine a1 rfl ?_
 refine a3 rfl rfl (a7 rfl rfl) ?_
 refine a4 ?_
 refine hK1 _ ?_
 clear hK1 K1
 refine b4 (fun K2 hK2=>?_)
 refine b4 (fun K3 hK3=>?_)
 refine a6 ?_
 refine a1 rfl ?_
 refine a3 rfl rfl (a8 rfl rfl) ?_
 refine a1 rfl ?_
 refine a3 rfl rfl (b3 G rfl rfl rfl rfl rfl rfl) ?_
 refine a1 rfl ?_
 refine a3 rfl rfl (k5 rfl (ArgsOK.of rfl) (O4 _ _ (by assumption) (by first | assumption | omega)) rfl) ?_
 refine a1 rfl (a3 rfl rfl (C2 rfl rfl) (a1 rfl (a3 rfl rfl (a8 rfl rfl) (o8 rfl rfl rfl (fun h1=>?_) (fun h1=>?_)))))
 ·try rw [h1]
  try simp only [rfb] at h1
  have hS:=a7l (s:=s) h1
  refine b6 rfl rfl rfl rfl rfl rfl ?_
  refine b6 rfl rfl rfl rfl rfl rfl ?_
  refine b6 rfl rfl rfl rfl rfl rfl ?_
  refine b6 rfl rfl rfl rfl rfl rfl ?_
  refine a1 rfl ?_
  refine a3 rfl rfl (i5 rfl rfl rfl) ?_
  refine a4 ?_
  refine hK3 _ ?_
  clear hK3 K3
  refine r7 rfl ?_
  refine b4 (fun K4 hK4=>?_)
  refine a6 ?_
  refine a1 rfl ?_
  refine a3 rfl rfl (g0 G rfl rfl rfl rfl) ?_
  refine a1 rfl ?_
  refine c5 G rfl rfl rfl rfl rfl rfl rfl rfl rfl rfl rfl ?_
  refine a1 rfl ?_
  refine a3 rfl rfl (a7 rfl rfl) ?_
  refine a1 rfl ?_
  refine a3 rfl rfl (a7 rfl rfl) ?_
  refine a4 ?_
  refine hK4 _ ?_
  clear hK4 K4
  refine c8 (l6 rfl rfl rfl rfl (a5 (o7 ?_) (a5 (o7 ?_) (a5 (o7 ?_) (a5 (o7 ?_) (a5 (H0 ?_) (a5 (g9 ?_) (a5 (g9 ?_) d4))))))))
  all_goals clear hK2 K2
  all_goals (first | (rw [hS];done) | (rw [hS];rfl) | (rw [hS];exact congrArg Value.bool h3.symm))
 ·try rw [h1]
  try simp only [rfb] at h1
  refine c6 rfl rfl rfl ?_
  refine a3 rfl rfl (b3 G rfl rfl rfl rfl rfl rfl) ?_
  refine c6 rfl rfl rfl ?_
  refine a3 rfl rfl (b3 G rfl rfl rfl rfl rfl rfl) ?_
  refine c6 rfl rfl rfl ?_
  refine a3 rfl rfl (k5 rfl (ArgsOK.of rfl) (P0 _ _ (by assumption)) rfl) ?_
  refine c6 rfl rfl rfl ?_
  refine a3 rfl rfl (C2 rfl rfl) ?_
  refine a1 rfl ?_
  refine a3 rfl rfl (i7 rfl rfl rfl) ?_
  refine a4 ?_
  refine hK3 _ ?_
  clear hK3 K3
  refine d1 rfl (fun h2=>?_) (fun h2=>?_)
  ·try rw [h2]
   try simp only [rfb] at h2
   have hS:=a7m (rs:=rs) h2
   refine b4 (fun K5 hK5=>?_)
   refine a6 ?_
   refine a1 rfl ?_
   refine a3 rfl rfl (g0 G rfl rfl rfl rfl) ?_
   refine a1 rfl ?_
   refine c5 G rfl rfl rfl rfl rfl rfl rfl rfl rfl rfl rfl ?_
   refine a1 rfl ?_
   refine a3 rfl rfl (a7 rfl rfl) ?_
   refine a1 rfl ?_
   refine a3 rfl rfl (a7 rfl rfl) ?_
   refine a4 ?_
   refine hK5 _ ?_
   clear hK5 K5
   refine c8 (l6 rfl rfl rfl rfl (a5 (o7 ?_) (a5 (o7 ?_) (a5 (o7 ?_) (a5 (o7 ?_) (a5 (H0 ?_) (a5 (g9 ?_) (a5 (g9 ?_) d4))))))))
   all_goals clear hK2 K2
   all_goals (first | (rw [hS];done) | (rw [hS];rfl) | (rw [hS];exact congrArg Value.bool h3.symm))
  ·try rw [h2]
   try simp only [rfb] at h2
   have hF:=a3D h1
   refine e9 ?_
   refine hK2 _ ?_
   clear hK2 K2
   refine b4 (fun K6 hK6=>?_)
   by_cases hno:noS rs a s
   ·have hS:=a1i (rs:=rs) (a:=a) (s:=s) (by rw [m8 hno])
    refine a6 ?_
    refine a1 rfl ?_
    refine a3 rfl rfl (a8 rfl rfl) ?_
    refine a1 rfl ?_
    refine a3 rfl rfl (b3 G rfl rfl rfl rfl rfl rfl) ?_
    refine a1 rfl ?_
    refine a3 rfl rfl (b3 G rfl rfl rfl rfl rfl rfl) ?_
    refine a1 rfl ?_
    refine a46 3 rfl rfl rfl (ArgsOK.of rfl) (O6 rs a _ _ _ _ hF h2 hno) (fun _=>rfl) rfl (fun y1=>?_)
    refine a1 rfl ?_
    refine a3 rfl rfl (a8 rfl rfl) ?_
    refine a1 rfl ?_
    refine a3 rfl rfl (c9 rfl rfl rfl) ?_
    refine a1 rfl ?_
    refine a3 rfl rfl (c9 rfl rfl rfl) ?_
    refine a1 rfl ?_
    refine a3 rfl rfl (c9 rfl rfl rfl) ?_
    refine a1 rfl ?_
    refine d7 G 4 rfl rfl rfl rfl rfl ?_
    refine a1 rfl ?_
    refine c5 G rfl rfl rfl rfl rfl rfl rfl rfl rfl rfl rfl ?_
    refine a1 rfl ?_
    refine a3 rfl rfl (a7 rfl rfl) ?_
    refine a1 rfl ?_
    refine a3 rfl rfl (a7 rfl rfl) ?_
    refine a4 ?_
    refine hK6 _ ?_
    clear hK6 K6
    refine b4 (fun K7 hK7=>?_)
    refine b4 (fun K8 hK8=>?_)
    refine a6 ?_
    refine a1 rfl ?_
    refine a3 rfl rfl (a8 rfl rfl) ?_
    refine a1 rfl ?_
    refine a3 rfl rfl (a4t rfl rfl) ?_
    refine a4 ?_
    refine hK8 _ ?_
    clear hK8 K8
    refine r7 rfl ?_
    refine b4 (fun K9 hK9=>?_)
    refine a6 ?_
    refine a1 rfl ?_
    refine a3 rfl rfl (g0 G rfl rfl rfl rfl) ?_
    refine a1 rfl ?_
    refine c5 G rfl rfl rfl rfl rfl rfl rfl rfl rfl rfl rfl ?_
    refine a1 rfl ?_
    refine a3 rfl rfl (a7 rfl rfl) ?_
    refine a1 rfl ?_
    refine a3 rfl rfl (a7 rfl rfl) ?_
    refine a4 ?_
    refine hK9 _ ?_
    clear hK9 K9
    refine c8 (l6 rfl rfl rfl rfl (a5 (o7 ?_) (a5 (o7 ?_) (a5 (o7 ?_) (a5 (o7 ?_) (a5 (H0 ?_) (a5 (g9 ?_) (a5 (g9 ?_) d4))))))))
    all_goals clear hK7 K7
    all_goals (first | (rw [hS];done) | (rw [hS];rfl) | (rw [hS];exact congrArg Value.bool h3.symm))
   ·refine a6 ?_
    refine a1 rfl ?_
    refine a3 rfl rfl (a8 rfl rfl) ?_
    refine a1 rfl ?_
    refine a3 rfl rfl (b3 G rfl rfl rfl rfl rfl rfl) ?_
    refine a1 rfl ?_
    refine a3 rfl rfl (b3 G rfl rfl rfl rfl rfl rfl) ?_
    refine a1 rfl ?_
    refine g8 8 rfl rfl rfl (ArgsOK.of rfl) (S2 rs a _ _ _ _ hF h2 hno) rfl rfl ?_
    refine a1 rfl ?_
    refine a3 rfl rfl (a8 rfl rfl) ?_
    refine a1 rfl ?_
    refine a3 rfl rfl (c9 rfl rfl rfl) ?_
    refine a1 rfl ?_
    refine a3 rfl rfl (c9 rfl rfl rfl) ?_
    refine a1 rfl ?_
    refine a3 rfl rfl (c9 rfl rfl rfl) ?_
    refine a1 rfl ?_
    refine d7 G 9 rfl rfl rfl rfl rfl ?_
    refine a1 rfl ?_
    refine c5 G rfl rfl rfl rfl rfl rfl rfl rfl rfl rfl rfl ?_
    refine a1 rfl ?_
    refine a3 rfl rfl (a7 rfl rfl) ?_
    refine a1 rfl ?_
    refine a3 rfl rfl (a7 rfl rfl) ?_
    refine a4 ?_
    refine hK6 _ ?_
    clear hK6 K6
    refine b4 (fun K10 hK10=>?_)
    refine b4 (fun K11 hK11=>?_)
    refine a6 ?_
    refine a1 rfl ?_
    refine a3 rfl rfl (a8 rfl rfl) ?_
    refine a1 rfl ?_
    refine a3 rfl rfl (C2 rfl rfl) ?_
    refine a4 ?_
    refine hK11 _ ?_
    clear hK11 K11
    refine d1 rfl (fun h3=>?_) (fun h3=>?_)
    ·try rw [h3]
     try simp only [rfb] at h3
     have hS:=a1i (rs:=rs) (a:=a) (s:=s) h3
     refine b4 (fun K12 hK12=>?_)
     refine a6 ?_
     refine a1 rfl ?_
     refine a3 rfl rfl (g0 G rfl rfl rfl rfl) ?_
     refine a1 rfl ?_
     refine c5 G rfl rfl rfl rfl rfl rfl rfl rfl rfl rfl rfl ?_
     refine a1 rfl ?_
     refine a3 rfl rfl (a7 rfl rfl) ?_
     refine a1 rfl ?_
     refine a3 rfl rfl (a7 rfl rfl) ?_
     refine a4 ?_
     refine hK12 _ ?_
     clear hK12 K12
     refine c8 (l6 rfl rfl rfl rfl (a5 (o7 ?_) (a5 (o7 ?_) (a5 (o7 ?_) (a5 (o7 ?_) (a5 (H0 ?_) (a5 (g9 ?_) (a5 (g9 ?_) d4))))))))
     all_goals clear hK10 K10
     all_goals (first | (rw [hS];done) | (rw [hS];rfl) | (rw [hS];exact congrArg Value.bool h3.symm))
    ·try rw [h3]
     try simp only [rfb] at h3
     have hS:=a4y h1 h2 h3
     refine e9 ?_
     refine hK10 _ ?_
     clear hK10 K10
     refine b4 (fun K13 hK13=>?_)
     refine a6 ?_
     refine a1 rfl ?_
     refine a3 rfl rfl (b3 G rfl rfl rfl rfl rfl rfl) ?_
     refine a1 rfl ?_
     refine a3 rfl rfl (a8 rfl rfl) ?_
     refine a1 rfl ?_
     refine c5 G rfl rfl rfl rfl rfl rfl rfl rfl rfl rfl rfl ?_
     refine a1 rfl ?_
     refine a3 rfl rfl (a7 rfl rfl) ?_
     refine a1 rfl ?_
     refine a3 rfl rfl (a7 rfl rfl) ?_
     refine a4 ?_
     refine hK13 _ ?_
     clear hK13 K13
     refine c8 (l6 rfl rfl rfl rfl (a5 (b8 rfl ?_) (a5 (b8 rfl ?_) (a5 (b8 rfl ?_) (a5 (b8 rfl ?_) (a5 (u2 rfl ?_) (a5 (g9 ?_) (a5 (g9 ?_) d4))))))))
     all_goals (first | (rw [hS];done) | (rw [hS];rfl) | (rw [hS];exact congrArg Value.bool h3.symm))
theorem a1V (rs:List Route) (a:Abs) (s:MStep) (hs:SmallA a) (hn:rs.length≤1048576):Ctr Tryz.prog 16 [.lst 2 (rs.map u7),.agg [.lst 1 (a.en.map l0),.lst 1 (a.ra.map l0),.lst 1 (a.po.map l0),.lst 1 (a.ma.map Rf.r5),.nst none 1 (a.st.map s1)],.v (a0g s)] (.shp false [some 5,none,none] [.fr 4 1 ((stepA rs a s).1.en.map l0),.fr 4 1 ((stepA rs a s).1.ra.map l0),.fr 4 1 ((stepA rs a s).1.po.map l0),.fr 3 1 ((stepA rs a s).1.ma.map Rf.r5),.ne 26 1 ((stepA rs a s).1.st.map s1),.v (.int .i64 (stepA rs a s).2.1),.v (.bool (stepA rs a s).2.2)]):=by
 refine Ctr.of (n:=38) G Tryz.func16 rfl (by kernel_rfl) rfl rfl rfl (fun w0=>?_)
 refine r8 1 rfl (fun _=>rfl) (fun u1=>?_)
 refine b4 (fun K1 hK1=>?_)
 refine a6 ?_
 refine a1 rfl ?_
 refine y4 1 rfl rfl rfl rfl rfl rfl rfl ?_
 refine a1 rfl ?_
 refine y4 2 rfl rfl rfl rfl rfl rfl rfl ?_
 refine a1 rfl ?_
 refine d7 G 3 rfl rfl rfl rfl rfl ?_
 refine a1 rfl ?_
 refine a3 rfl rfl (a7 rfl rfl) ?_
 refine a1 rfl ?_
 refine a3 rfl rfl (a7 rfl rfl) ?_
 refine a4 ?_
 refine hK1 _ ?_
 clear hK1 K1
 refine b4 (fun K2 hK2=>?_)
 refine b4 (fun K3 hK3=>?_)
 refine a6 ?_
 refine a1 rfl ?_
 refine a3 rfl rfl (a8 rfl rfl) ?_
 refine a1 rfl ?_
 refine a3 rfl rfl (b3 G rfl rfl rfl rfl rfl rfl) ?_
 refine a1 rfl ?_
 refine a3 rfl rfl (k5 rfl (ArgsOK.of rfl) (V8 _ _ (by assumption) (by first | assumption | omega)) rfl) ?_
 refine a1 rfl (a3 rfl rfl (C2 rfl rfl) (a1 rfl (a3 rfl rfl (a8 rfl rfl) (o8 rfl rfl rfl (fun h1=>?_) (fun h1=>?_)))))
 ·try rw [h1]
  try simp only [rfb] at h1
  have hS:=a7l (s:=s) h1
  refine b6 rfl rfl rfl rfl rfl rfl ?_
  refine b6 rfl rfl rfl rfl rfl rfl ?_
  refine b6 rfl rfl rfl rfl rfl rfl ?_
  refine b6 rfl rfl rfl rfl rfl rfl ?_
  refine b6 rfl rfl rfl rfl rfl rfl ?_
  refine b6 rfl rfl rfl rfl rfl rfl ?_
  refine a1 rfl ?_
  refine a3 rfl rfl (i5 rfl rfl rfl) ?_
  refine a4 ?_
  refine hK3 _ ?_
  clear hK3 K3
  refine r7 rfl ?_
  refine b4 (fun K4 hK4=>?_)
  refine a6 ?_
  refine a1 rfl ?_
  refine a3 rfl rfl (g0 G rfl rfl rfl rfl) ?_
  refine a1 rfl ?_
  refine c5 G rfl rfl rfl rfl rfl rfl rfl rfl rfl rfl rfl ?_
  refine a1 rfl ?_
  refine a3 rfl rfl (a7 rfl rfl) ?_
  refine a1 rfl ?_
  refine a3 rfl rfl (a7 rfl rfl) ?_
  refine a4 ?_
  refine hK4 _ ?_
  clear hK4 K4
  refine c8 (l6 rfl rfl rfl rfl (a5 (o7 ?_) (a5 (o7 ?_) (a5 (o7 ?_) (a5 (o7 ?_) (a5 (H0 ?_) (a5 (g9 ?_) (a5 (g9 ?_) d4))))))))
  all_goals clear hK2 K2
  all_goals (first | (rw [hS];done) | (rw [hS];rfl) | (rw [hS];exact congrArg Value.bool h3.symm))
 ·try rw [h1]
  try simp only [rfb] at h1
  refine c6 rfl rfl rfl ?_
  refine a3 rfl rfl (b7 G rfl rfl rfl rfl) ?_
  refine c6 rfl rfl rfl ?_
  refine a3 rfl rfl (E0 (c4 G rfl rfl rfl rfl rfl rfl rfl)) ?_
  refine c6 rfl rfl rfl ?_
  first | refine a3 rfl rfl (r4 G rfl rfl rfl rfl (List.length_map _)) ?_ | refine a3 rfl rfl (t6 G rfl rfl rfl rfl) ?_
  refine c6 rfl rfl rfl ?_
  refine a3 rfl rfl (b3 G rfl rfl rfl rfl rfl rfl) ?_
  refine c6 rfl rfl rfl ?_
  refine a3 rfl rfl (k5 rfl (ArgsOK.of rfl) (a1x a.ma.length s hs.ma) rfl) ?_
  refine c6 rfl rfl rfl ?_
  refine a3 rfl rfl (C2 rfl rfl) ?_
  refine a1 rfl ?_
  refine a3 rfl rfl (i7 rfl rfl rfl) ?_
  refine a4 ?_
  refine hK3 _ ?_
  clear hK3 K3
  refine d1 rfl (fun h2=>?_) (fun h2=>?_)
  ·try rw [h2]
   try simp only [rfb] at h2
   have hS:=a7m (rs:=rs) h2
   refine b4 (fun K5 hK5=>?_)
   refine a6 ?_
   refine a1 rfl ?_
   refine a3 rfl rfl (g0 G rfl rfl rfl rfl) ?_
   refine a1 rfl ?_
   refine c5 G rfl rfl rfl rfl rfl rfl rfl rfl rfl rfl rfl ?_
   refine a1 rfl ?_
   refine a3 rfl rfl (a7 rfl rfl) ?_
   refine a1 rfl ?_
   refine a3 rfl rfl (a7 rfl rfl) ?_
   refine a4 ?_
   refine hK5 _ ?_
   clear hK5 K5
   refine c8 (l6 rfl rfl rfl rfl (a5 (o7 ?_) (a5 (o7 ?_) (a5 (o7 ?_) (a5 (o7 ?_) (a5 (H0 ?_) (a5 (g9 ?_) (a5 (g9 ?_) d4))))))))
   all_goals clear hK2 K2
   all_goals (first | (rw [hS];done) | (rw [hS];rfl) | (rw [hS];exact congrArg Value.bool h3.symm))
  ·try rw [h2]
   try simp only [rfb] at h2
   have hF:=a3D h1
   refine e9 ?_
   refine hK2 _ ?_
   clear hK2 K2
   refine b4 (fun K6 hK6=>?_)
   refine a6 ?_
   refine a1 rfl ?_
   refine a3 rfl rfl (a8 rfl rfl) ?_
   refine a1 rfl ?_
   refine a3 rfl rfl (b3 G rfl rfl rfl rfl rfl rfl) ?_
   refine a1 rfl ?_
   refine a3 rfl rfl (b3 G rfl rfl rfl rfl rfl rfl) ?_
   refine a1 rfl ?_
   refine g8 8 rfl rfl rfl (ArgsOK.of rfl) (a1D rs a _ _ _ _ hF h2) rfl rfl ?_
   refine a1 rfl ?_
   refine a3 rfl rfl (a8 rfl rfl) ?_
   refine a1 rfl ?_
   refine a3 rfl rfl (c9 rfl rfl rfl) ?_
   refine a1 rfl ?_
   refine a3 rfl rfl (c9 rfl rfl rfl) ?_
   refine a1 rfl ?_
   refine a3 rfl rfl (c9 rfl rfl rfl) ?_
   refine a1 rfl ?_
   refine d7 G 9 rfl rfl rfl rfl rfl ?_
   refine a1 rfl ?_
   refine c5 G rfl rfl rfl rfl rfl rfl rfl rfl rfl rfl rfl ?_
   refine a1 rfl ?_
   refine a3 rfl rfl (a7 rfl rfl) ?_
   refine a1 rfl ?_
   refine a3 rfl rfl (a7 rfl rfl) ?_
   refine a4 ?_
   refine hK6 _ ?_
   clear hK6 K6
   refine b4 (fun K7 hK7=>?_)
   refine b4 (fun K8 hK8=>?_)
   refine a6 ?_
   refine a1 rfl ?_
   refine a3 rfl rfl (a8 rfl rfl) ?_
   refine a1 rfl ?_
   refine a3 rfl rfl (C2 rfl rfl) ?_
   refine a4 ?_
   refine hK8 _ ?_
   clear hK8 K8
   refine d1 rfl (fun h3=>?_) (fun h3=>?_)
   ·try rw [h3]
    try simp only [rfb] at h3
    have hS:=a1i (rs:=rs) (a:=a) (s:=s) h3
    refine b4 (fun K9 hK9=>?_)
    refine a6 ?_
    refine a1 rfl ?_
    refine a3 rfl rfl (g0 G rfl rfl rfl rfl) ?_
    refine a1 rfl ?_
    refine c5 G rfl rfl rfl rfl rfl rfl rfl rfl rfl rfl rfl ?_
    refine a1 rfl ?_
    refine a3 rfl rfl (a7 rfl rfl) ?_
    refine a1 rfl ?_
    refine a3 rfl rfl (a7 rfl rfl) ?_
    refine a4 ?_
    refine hK9 _ ?_
    clear hK9 K9
    refine c8 (l6 rfl rfl rfl rfl (a5 (o7 ?_) (a5 (o7 ?_) (a5 (o7 ?_) (a5 (o7 ?_) (a5 (H0 ?_) (a5 (g9 ?_) (a5 (g9 ?_) d4))))))))
    all_goals clear hK7 K7
    all_goals (first | (rw [hS];done) | (rw [hS];rfl) | (rw [hS];exact congrArg Value.bool h3.symm))
   ·try rw [h3]
    try simp only [rfb] at h3
    have hS:=a4y h1 h2 h3
    refine e9 ?_
    refine hK7 _ ?_
    clear hK7 K7
    refine b4 (fun K10 hK10=>?_)
    refine a6 ?_
    refine a1 rfl ?_
    refine a3 rfl rfl (b3 G rfl rfl rfl rfl rfl rfl) ?_
    refine a1 rfl ?_
    refine a3 rfl rfl (a8 rfl rfl) ?_
    refine a1 rfl ?_
    refine c5 G rfl rfl rfl rfl rfl rfl rfl rfl rfl rfl rfl ?_
    refine a1 rfl ?_
    refine a3 rfl rfl (a7 rfl rfl) ?_
    refine a1 rfl ?_
    refine a3 rfl rfl (a7 rfl rfl) ?_
    refine a4 ?_
    refine hK10 _ ?_
    clear hK10 K10
    refine c8 (l6 rfl rfl rfl rfl (a5 (b8 rfl ?_) (a5 (b8 rfl ?_) (a5 (b8 rfl ?_) (a5 (b8 rfl ?_) (a5 (u2 rfl ?_) (a5 (g9 ?_) (a5 (g9 ?_) d4))))))))
    all_goals (first | (rw [hS];done) | (rw [hS];rfl) | (rw [hS];exact congrArg Value.bool h3.symm))
end Go.Proofs.YtcnodpipinlpcaaGreat
set_option maxRecDepth 20000
namespace Go.Proofs.YtcnodpipinlpcaaGreat
open Go Go.Rf
end Go.Proofs.YtcnodpipinlpcaaGreat
