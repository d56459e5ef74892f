/- Texts merged into one: M20, C1, Q2, M22, M25, M24. -/
import Derived.Test.YtpfhomblkgmkkaaGreatDoorPFnExactReplayLogF
set_option maxHeartbeats 4000000
set_option linter.unusedSimpArgs false
set_option linter.unusedVariables false
set_option maxRecDepth 20000
namespace Go.Proofs.YtpfhomblkgmkkaaGreatDoor
open Go Go.Rf
end Go.Proofs.YtpfhomblkgmkkaaGreatDoor
set_option maxRecDepth 20000
namespace Go.Proofs.YtpfhomblkgmkkaaGreatDoor
open Go Go.Rf
theorem a9R (m:Mach) (x:Lg) (hs:SmallM m) (hx:x.d.size+x.p.size≤1048576):Ctr Tryz.prog 27 [.agg [.lst 2 (m.rs.map p8),.lst 1 (m.en.map r3),.lst 1 (m.ra.map r3),.nst none 4 (m.cp.map (s6 169 182)),.v (.string x.d),.v (.string x.p),.v (.int .i64 x.n)]] (.one (.v (.bool (a6Z m x)))):=by
 refine Ctr.of (n:=11) G Tryz.func27 rfl b3 rfl rfl rfl (fun w0=>?_)
 refine o7 0 rfl (fun _=>rfl) (fun u0=>?_)
 refine vm1 ?_
 refine zcl (a3C m hs) ?_
 refine zcd (fun h1=>?_) (fun h1=>?_)
 ·refine zcl (a0c x hx) ?_
  refine zf1 ?_
  all_goals exact b5n
 refine zf1 ?_
 all_goals exact b5n
theorem a2W (m:Mach) (x:Lg) (hs:SmallM m) (hx:x.d.size+x.p.size≤1048576):Ctr Tryz.prog 32 [.agg [.lst 2 (m.rs.map p8),.lst 1 (m.en.map r3),.lst 1 (m.ra.map r3),.nst none 4 (m.cp.map (s6 169 182)),.v (.string x.d),.v (.string x.p),.v (.int .i64 x.n)]] (.one (.v (.bool (a6Z m x)))):=by
 refine Ctr.of (n:=11) G Tryz.func32 rfl b3 rfl rfl rfl (fun w0=>?_)
 refine o7 0 rfl (fun _=>rfl) (fun u0=>?_)
 refine vm1 ?_
 refine zcl (Z4 m hs) ?_
 refine zcd (fun h1=>?_) (fun h1=>?_)
 ·refine zcl (W0 x hx) ?_
  refine zf1 ?_
  all_goals exact b5n
 refine zf1 ?_
 all_goals exact b5n
end Go.Proofs.YtpfhomblkgmkkaaGreatDoor
set_option maxRecDepth 20000
namespace Go.Proofs.YtpfhomblkgmkkaaGreatDoor
open Go Go.Rf
theorem a8a (m:Mach) (hs:SmallM m):Ctr Tryz.prog 53 [.agg [.lst 2 (m.rs.map p8),.lst 1 (m.en.map r3),.lst 1 (m.ra.map r3),.nst none 4 (m.cp.map (s6 169 182))]] (.shp true [some 4] [.fr 83 2 (m.rs.map p8),.fr 4 1 (m.en.map r3),.fr 4 1 (m.ra.map r3),.ne 135 4 (m.cp.map (s6 169 182))]):=by
 have z0:=hs.rs
 have z1:=hs.en
 have z2:=hs.ra
 have z3:=hs.cp
 refine Ctr.of (n:=38) G Tryz.func53 rfl b3 rfl rfl rfl (fun w0=>?_)
 refine o7 0 rfl (fun _=>rfl) (fun u0=>?_)
 refine T5 ?_
 refine zgn ?_
 refine u4 (l4 16 [0,1] mixed b3 rfl rfl (fun r0=>?_) (fun _ h=>h))
 refine zsa 1 ?_
 refine zsa 2 ?_
 refine a1f ?_
 refine zsa 9 ?_
 refine zsa 10 ?_
 refine w3 (N:=7) rfl (p4 (fuel:=5) [⟨0,5,2,false,.row 83 2 []⟩,⟨4,9,3,false,.row 4 1 []⟩,⟨8,13,4,false,.row 4 1 []⟩,⟨12,17,5,false,.row 135 4 []⟩,⟨14,3,6,true,.box (avR [.slice none 0 0,.slice none 0 0,.slice none 0 0,.slice none 0 0] [])⟩] (AllVOK.cons (VOK.lit G rfl rfl rfl rfl rfl) (AllVOK.cons (VOK.lit G rfl rfl rfl rfl rfl) (AllVOK.cons (VOK.lit G rfl rfl rfl rfl rfl) (AllVOK.cons (VOK.lit G rfl rfl rfl rfl rfl) (AllVOK.cons (VOK.boxS G rfl rfl rfl rfl rfl) (AllVOK.nil)))))) (fun hok=>?_))
 refine j3 [(3,[0])] b3 b3 (fun e he=>hok e he) b3 (AllVS.cons ?_ AllVS.nil)
 refine VStep.mk1 [0,1] 5 (.own 2) 2 (.row 83 2 []) [⟨4,9,3,false,.row 4 1 []⟩,⟨8,13,4,false,.row 4 1 []⟩,⟨12,17,5,false,.row 135 4 []⟩,⟨14,3,6,true,.box (avR [.slice none 0 0,.slice none 0 0,.slice none 0 0,.slice none 0 0] [])⟩] rfl rfl rfl rfl rfl (fun b1 _ hbn=>g9 G N3 rfl rfl rfl rfl rfl rfl rfl rfl rfl F3 rfl rfl (b4 rfl)) b3 b3 b3 b3 (j3 [(7,[4])] b3 b3 (fun e he=>hok e (vin (is:=[0]) rfl he)) b3 (AllVS.cons ?_ AllVS.nil))
 refine VStep.mk1 [0,1] 9 (.own 3) 3 (.row 4 1 []) [⟨8,13,4,false,.row 4 1 []⟩,⟨12,17,5,false,.row 135 4 []⟩,⟨14,3,6,true,.box (avR [.slice none 0 0,.slice none 0 0,.slice none 0 0,.slice none 0 0] [])⟩] rfl rfl rfl rfl rfl (fun b1 _ hbn=>g9 G N3 rfl rfl rfl rfl rfl rfl rfl rfl rfl F3 rfl rfl (b4 rfl)) b3 b3 b3 b3 (j3 [(11,[8])] b3 b3 (fun e he=>hok e (vin (is:=[0,4]) rfl he)) b3 (AllVS.cons ?_ AllVS.nil))
 refine VStep.mk1 [0,1] 13 (.own 4) 4 (.row 4 1 []) [⟨12,17,5,false,.row 135 4 []⟩,⟨14,3,6,true,.box (avR [.slice none 0 0,.slice none 0 0,.slice none 0 0,.slice none 0 0] [])⟩] rfl rfl rfl rfl rfl (fun b1 _ hbn=>g9 G N3 rfl rfl rfl rfl rfl rfl rfl rfl rfl F3 rfl rfl (b4 rfl)) b3 b3 b3 b3 (j3 [(13,[12])] b3 b3 (fun e he=>hok e (vin (is:=[0,4,8]) rfl he)) b3 (AllVS.cons ?_ AllVS.nil))
 refine VStep.mk1 [0,1] 17 (.own 5) 5 (.row 135 4 []) [⟨14,3,6,true,.box (avR [.slice none 0 0,.slice none 0 0,.slice none 0 0,.slice none 0 0] [])⟩] rfl rfl rfl rfl rfl (fun b1 _ hbn=>b6 rfl rfl (v8 G rfl rfl rfl rfl) (b4 rfl)) b3 b3 b3 b3 (j3 [(15,[14])] b3 b3 (fun e he=>hok e (vin (is:=[0,4,8,12]) rfl he)) b3 (AllVS.cons ?_ AllVS.nil))
 refine c2G ?_
 clear hok
 refine c2S ?_
 refine i7 [1,2,3] [0,1,2,3,4,6] (fun (k:Nat)=>[(4,.v (.int .i64 (k:Int)))]) (fun (k:Nat)=>[(5,some (.nest 135 4 ((m.cp.take k).map (s6 169 182)) []))]) (fun (k:Nat)=>k≤m.cp.length) (fun (k:Nat)=>m.cp.length - k) 0 rfl rfl ?_ ?_ ?_ ?_
 ·exact Nat.zero_le _
 ·exact ⟨⟨_,rfl,by rfl⟩,rfl,trivial⟩
 ·exact ⟨⟨_,rfl,by rfl⟩,rfl,rfl,trivial⟩
 intro k hk
 have hkl:((m.cp.take k).map (s6 169 182)).length=k:=b8O
 simp only [List.cons_append,List.nil_append]
 refine zcd (fun h1=>?_) (fun h1=>?_)
 ·have g0:=hs.allI (i:=k) (by omega)
  unfold szI at g0
  refine zgo ?_
  apply x5 [1,2,3,4] [0,1,2,3,4,6,11] 12 12 [0,1,2,3,4] mixed b3 rfl rfl (fun _ h=>znk h)
  ·intro r0
   refine zsa 0 ?_
   refine zsa 2 ?_
   refine zsa 3 ?_
   refine zsa 4 ?_
   refine a1f ?_
   refine b5 (rs:=[1,7]) b3 rfl (AllB.cons ?_ (AllB.cons ?_ AllB.nil))
   ·refine a7O ?_
    refine b5 (rs:=[7]) b3 rfl (AllB.cons ?_ AllB.nil)
    refine i1 [0,1,2,3,4] rfl rfl (d7 10 rfl rfl rfl (ArgsOK.of rfl) (a0b (m.cp.getD k default) (by omega) (by omega) (by omega)) rfl rfl (b4 ⟨rfl,?_⟩))
    refine b5 (rs:=[8]) b3 rfl (AllB.cons ?_ AllB.nil)
    refine i1 [0,1,2,3,4] rfl rfl (r5 G 11 rfl rfl rfl rfl rfl rfl rfl rfl (.v rfl (.own rfl (.own rfl (.own rfl .nil)))) rfl rfl rfl rfl (b4 ⟨rfl,?_⟩))
    refine b5 (rs:=[9]) b3 rfl (AllB.cons ?_ AllB.nil)
    refine c7 [0,1,2,3,4] rfl rfl (v6 (Gh.forget (id:=6) (k:=3) rfl rfl)<|v6 (Gh.keep [0,1,2,3,4,5,6,10] rfl)<|C6 (tx:=27) 12 rfl rfl rfl rfl rfl<|m9 G A1 rfl rfl rfl rfl rfl rfl rfl rfl rfl rfl F3 rfl rfl (b4 ⟨rfl,?_⟩))
    refine zsa 10 ?_
    refine b5 (rs:=[11]) b3 rfl (AllB.cons ?_ AllB.nil)
    refine a7O ?_
    exact l6 b3 (Meet.mk rfl rfl rfl rfl)
   refine i1 [0,1,2,3,4] rfl rfl (d7 10 rfl rfl rfl (ArgsOK.of rfl) (a0b (m.cp.getD k default) (by omega) (by omega) (by omega)) rfl rfl (b4 ⟨rfl,?_⟩))
   refine b5 (rs:=[1,8]) b3 rfl (AllB.cons ?_ (AllB.cons ?_ AllB.nil))
   ·refine a7O ?_
    refine b5 (rs:=[8]) b3 rfl (AllB.cons ?_ AllB.nil)
    refine i1 [0,1,2,3,4] rfl rfl (r5 G 11 rfl rfl rfl rfl rfl rfl rfl rfl (.v rfl (.own rfl (.own rfl (.own rfl .nil)))) rfl rfl rfl rfl (b4 ⟨rfl,?_⟩))
    refine b5 (rs:=[9]) b3 rfl (AllB.cons ?_ AllB.nil)
    refine c7 [0,1,2,3,4] rfl rfl (v6 (Gh.forget (id:=6) (k:=3) rfl rfl)<|v6 (Gh.keep [0,1,2,3,4,5,6,10] rfl)<|C6 (tx:=27) 12 rfl rfl rfl rfl rfl<|m9 G A1 rfl rfl rfl rfl rfl rfl rfl rfl rfl rfl F3 rfl rfl (b4 ⟨rfl,?_⟩))
    refine zsa 10 ?_
    refine b5 (rs:=[11]) b3 rfl (AllB.cons ?_ AllB.nil)
    refine a7O ?_
    exact l6 b3 (Meet.mk rfl rfl rfl rfl)
   refine i1 [0,1,2,3,4] rfl rfl (r5 G 11 rfl rfl rfl rfl rfl rfl rfl rfl (.v rfl (.own rfl (.own rfl (.own rfl .nil)))) rfl rfl rfl rfl (b4 ⟨rfl,?_⟩))
   refine b5 (rs:=[1]) b3 rfl (AllB.cons ?_ AllB.nil)
   refine a7O ?_
   refine b5 (rs:=[9]) b3 rfl (AllB.cons ?_ AllB.nil)
   refine c7 [0,1,2,3,4] rfl rfl (v6 (Gh.forget (id:=6) (k:=3) rfl rfl)<|v6 (Gh.keep [0,1,2,3,4,5,6,10] rfl)<|C6 (tx:=27) 12 rfl rfl rfl rfl rfl<|m9 G A1 rfl rfl rfl rfl rfl rfl rfl rfl rfl rfl F3 rfl rfl (b4 ⟨rfl,?_⟩))
   refine zsa 10 ?_
   refine b5 (rs:=[11]) b3 rfl (AllB.cons ?_ AllB.nil)
   refine a7O ?_
   exact l6 b3 (Meet.mk rfl rfl rfl rfl)
  refine a94 ?_
  refine G8 (Gh.sub 11 5 np rfl rfl rfl) (b4 ⟨(k+1),?_,?_,⟨⟨_,rfl,by rfl⟩,rfl,trivial⟩,⟨⟨_,rfl,by (exact congrArg (fun z=>Row.nest _ _ z []) (a9m (by omega) rfl))⟩,rfl,rfl,trivial⟩,rfl,rfl,rfl⟩)
  ·omega
  omega
 obtain rfl:k=m.cp.length:=(by omega)
 refine zgo ?_
 refine c6 (d9 rfl rfl rfl rfl (a7 (b7 rfl ?_) (a7 (b7 rfl ?_) (a7 (b7 rfl ?_) (a7 (n7 rfl ?_) b9)))))
 all_goals exact b8J
theorem a4a (m:Mach) (hs:SmallM m):Ctr Tryz.prog 66 [.agg [.lst 2 (m.rs.map p8),.lst 1 (m.en.map r3),.lst 1 (m.ra.map r3),.nst none 4 (m.cp.map (s6 169 182))]] (.shp true [some 4] [.fr 83 2 (m.rs.map p8),.fr 4 1 (m.en.map r3),.fr 4 1 (m.ra.map r3),.ne 135 4 (m.cp.map (s6 169 182))]):=by
 have z0:=hs.rs
 have z1:=hs.en
 have z2:=hs.ra
 have z3:=hs.cp
 refine Ctr.of (n:=36) G Tryz.func66 rfl b3 rfl rfl rfl (fun w0=>?_)
 refine o7 0 rfl (fun _=>rfl) (fun u0=>?_)
 refine T5 ?_
 refine zgn ?_
 refine u4 (l4 16 [0,1] mixed b3 rfl rfl (fun r0=>?_) (fun _ h=>h))
 refine zsa 1 ?_
 refine zsa 2 ?_
 refine a1f ?_
 refine zsa 9 ?_
 refine zsa 10 ?_
 refine w3 (N:=7) rfl (p4 (fuel:=5) [⟨0,6,2,false,.row 83 2 []⟩,⟨4,10,3,false,.row 4 1 []⟩,⟨8,14,4,false,.row 4 1 []⟩,⟨12,18,5,false,.row 135 4 []⟩,⟨14,3,6,true,.box (avR [.slice none 0 0,.slice none 0 0,.slice none 0 0,.slice none 0 0] [])⟩] (AllVOK.cons (VOK.lit G rfl rfl rfl rfl rfl) (AllVOK.cons (VOK.lit G rfl rfl rfl rfl rfl) (AllVOK.cons (VOK.lit G rfl rfl rfl rfl rfl) (AllVOK.cons (VOK.lit G rfl rfl rfl rfl rfl) (AllVOK.cons (VOK.boxS G rfl rfl rfl rfl rfl) (AllVOK.nil)))))) (fun hok=>?_))
 refine j3 [(3,[0])] b3 b3 (fun e he=>hok e he) b3 (AllVS.cons ?_ AllVS.nil)
 refine VStep.mk1 [0,1] 6 (.own 2) 2 (.row 83 2 []) [⟨4,10,3,false,.row 4 1 []⟩,⟨8,14,4,false,.row 4 1 []⟩,⟨12,18,5,false,.row 135 4 []⟩,⟨14,3,6,true,.box (avR [.slice none 0 0,.slice none 0 0,.slice none 0 0,.slice none 0 0] [])⟩] rfl rfl rfl rfl rfl (fun b1 _ hbn=>g9 G N3 rfl rfl rfl rfl rfl rfl rfl rfl rfl F3 rfl rfl (b4 rfl)) b3 b3 b3 b3 (j3 [(7,[4])] b3 b3 (fun e he=>hok e (vin (is:=[0]) rfl he)) b3 (AllVS.cons ?_ AllVS.nil))
 refine VStep.mk1 [0,1] 10 (.own 3) 3 (.row 4 1 []) [⟨8,14,4,false,.row 4 1 []⟩,⟨12,18,5,false,.row 135 4 []⟩,⟨14,3,6,true,.box (avR [.slice none 0 0,.slice none 0 0,.slice none 0 0,.slice none 0 0] [])⟩] rfl rfl rfl rfl rfl (fun b1 _ hbn=>g9 G N3 rfl rfl rfl rfl rfl rfl rfl rfl rfl F3 rfl rfl (b4 rfl)) b3 b3 b3 b3 (j3 [(11,[8])] b3 b3 (fun e he=>hok e (vin (is:=[0,4]) rfl he)) b3 (AllVS.cons ?_ AllVS.nil))
 refine VStep.mk1 [0,1] 14 (.own 4) 4 (.row 4 1 []) [⟨12,18,5,false,.row 135 4 []⟩,⟨14,3,6,true,.box (avR [.slice none 0 0,.slice none 0 0,.slice none 0 0,.slice none 0 0] [])⟩] rfl rfl rfl rfl rfl (fun b1 _ hbn=>g9 G N3 rfl rfl rfl rfl rfl rfl rfl rfl rfl F3 rfl rfl (b4 rfl)) b3 b3 b3 b3 (j3 [(13,[12])] b3 b3 (fun e he=>hok e (vin (is:=[0,4,8]) rfl he)) b3 (AllVS.cons ?_ AllVS.nil))
 refine VStep.mk1 [0,1] 18 (.own 5) 5 (.row 135 4 []) [⟨14,3,6,true,.box (avR [.slice none 0 0,.slice none 0 0,.slice none 0 0,.slice none 0 0] [])⟩] rfl rfl rfl rfl rfl (fun b1 _ hbn=>b6 rfl rfl (v8 G rfl rfl rfl rfl) (b4 rfl)) b3 b3 b3 b3 (j3 [(15,[14])] b3 b3 (fun e he=>hok e (vin (is:=[0,4,8,12]) rfl he)) b3 (AllVS.cons ?_ AllVS.nil))
 refine c2G ?_
 clear hok
 refine c2S ?_
 refine i7 [2,3,21,22] [1,2,3,4,6] (fun (k:Nat)=>[(23,.v (.int .i64 (k:Int)))]) (fun (k:Nat)=>[(5,some (.nest 135 4 ((m.cp.take k).map (s6 169 182)) []))]) (fun (k:Nat)=>k≤m.cp.length) (fun (k:Nat)=>m.cp.length - k) 0 rfl rfl ?_ ?_ ?_ ?_
 ·exact Nat.zero_le _
 ·exact ⟨⟨_,rfl,by rfl⟩,rfl,trivial⟩
 ·exact ⟨⟨_,rfl,by rfl⟩,rfl,rfl,trivial⟩
 intro k hk
 have hkl:((m.cp.take k).map (s6 169 182)).length=k:=b8O
 simp only [List.cons_append,List.nil_append]
 refine zcd (fun h1=>?_) (fun h1=>?_)
 ·have g0:=hs.allI (i:=k) (by omega)
  unfold szI at g0
  refine vm5 ?_
  refine b3s ?_
  refine o9 ?_
  refine a55 26 rfl (fun _=>rfl) fun v26=>j7 G rfl rfl rfl rfl rfl rfl rfl rfl rfl rfl rfl ?_
  refine zgo ?_
  apply x5 [2,3,21,22,23] [1,2,3,4,6,12] 13 8 [1,2,3,4,7] mixed b3 rfl rfl (fun _ h=>znk h)
  ·intro r0
   refine zsa 0 ?_
   refine zsa 2 ?_
   refine b5 (rs:=[1,3]) b3 rfl (AllB.cons ?_ (AllB.cons ?_ AllB.nil))
   ·refine b6q ?_
    refine b5 (rs:=[3]) b3 rfl (AllB.cons ?_ AllB.nil)
    refine i1 [1,2,3,4,7] rfl rfl (d7 11 rfl rfl rfl (ArgsOK.of rfl) (D3 (m.cp.getD k default) (by omega) (by omega) (by omega)) rfl rfl (b4 ⟨rfl,?_⟩))
    refine b5 (rs:=[4]) b3 rfl (AllB.cons ?_ AllB.nil)
    refine i1 [1,2,3,4,7] rfl rfl (r5 G 12 rfl rfl rfl rfl rfl rfl rfl rfl (.v rfl (.own rfl (.own rfl (.own rfl .nil)))) rfl rfl rfl rfl (b4 ⟨rfl,?_⟩))
    refine b5 (rs:=[5]) b3 rfl (AllB.cons ?_ AllB.nil)
    refine c7 [1,2,3,4,7] rfl rfl (v6 (Gh.forget (id:=6) (k:=3) rfl rfl)<|v6 (Gh.keep [1,2,3,4,5,6,7,11] rfl)<|C6 (tx:=28) 13 rfl rfl rfl rfl rfl<|m9 G A1 rfl rfl rfl rfl rfl rfl rfl rfl rfl rfl F3 rfl rfl (b4 ⟨rfl,?_⟩))
    refine zsa 6 ?_
    refine b5 (rs:=[7]) b3 rfl (AllB.cons ?_ AllB.nil)
    refine b6q ?_
    exact l6 b3 (Meet.mk rfl rfl rfl rfl)
   refine i1 [1,2,3,4,7] rfl rfl (d7 11 rfl rfl rfl (ArgsOK.of rfl) (D3 (m.cp.getD k default) (by omega) (by omega) (by omega)) rfl rfl (b4 ⟨rfl,?_⟩))
   refine b5 (rs:=[1,4]) b3 rfl (AllB.cons ?_ (AllB.cons ?_ AllB.nil))
   ·refine b6q ?_
    refine b5 (rs:=[4]) b3 rfl (AllB.cons ?_ AllB.nil)
    refine i1 [1,2,3,4,7] rfl rfl (r5 G 12 rfl rfl rfl rfl rfl rfl rfl rfl (.v rfl (.own rfl (.own rfl (.own rfl .nil)))) rfl rfl rfl rfl (b4 ⟨rfl,?_⟩))
    refine b5 (rs:=[5]) b3 rfl (AllB.cons ?_ AllB.nil)
    refine c7 [1,2,3,4,7] rfl rfl (v6 (Gh.forget (id:=6) (k:=3) rfl rfl)<|v6 (Gh.keep [1,2,3,4,5,6,7,11] rfl)<|C6 (tx:=28) 13 rfl rfl rfl rfl rfl<|m9 G A1 rfl rfl rfl rfl rfl rfl rfl rfl rfl rfl F3 rfl rfl (b4 ⟨rfl,?_⟩))
    refine zsa 6 ?_
    refine b5 (rs:=[7]) b3 rfl (AllB.cons ?_ AllB.nil)
    refine b6q ?_
    exact l6 b3 (Meet.mk rfl rfl rfl rfl)
   refine i1 [1,2,3,4,7] rfl rfl (r5 G 12 rfl rfl rfl rfl rfl rfl rfl rfl (.v rfl (.own rfl (.own rfl (.own rfl .nil)))) rfl rfl rfl rfl (b4 ⟨rfl,?_⟩))
   refine b5 (rs:=[1]) b3 rfl (AllB.cons ?_ AllB.nil)
   refine b6q ?_
   refine b5 (rs:=[5]) b3 rfl (AllB.cons ?_ AllB.nil)
   refine c7 [1,2,3,4,7] rfl rfl (v6 (Gh.forget (id:=6) (k:=3) rfl rfl)<|v6 (Gh.keep [1,2,3,4,5,6,7,11] rfl)<|C6 (tx:=28) 13 rfl rfl rfl rfl rfl<|m9 G A1 rfl rfl rfl rfl rfl rfl rfl rfl rfl rfl F3 rfl rfl (b4 ⟨rfl,?_⟩))
   refine zsa 6 ?_
   refine b5 (rs:=[7]) b3 rfl (AllB.cons ?_ AllB.nil)
   refine b6q ?_
   exact l6 b3 (Meet.mk rfl rfl rfl rfl)
  refine d4 ?_
  refine a18 ?_
  refine G8 (Gh.sub 12 5 np rfl rfl rfl) (b4 ⟨(k+1),?_,?_,⟨⟨_,rfl,by rfl⟩,rfl,trivial⟩,⟨⟨_,rfl,by (exact congrArg (fun z=>Row.nest _ _ z []) (a9m (by omega) rfl))⟩,rfl,rfl,trivial⟩,rfl,rfl,rfl⟩)
  ·omega
  omega
 obtain rfl:k=m.cp.length:=(by omega)
 refine zgo ?_
 refine c6 (d9 rfl rfl rfl rfl (a7 (b7 rfl ?_) (a7 (b7 rfl ?_) (a7 (b7 rfl ?_) (a7 (n7 rfl ?_) b9)))))
 all_goals exact b8J
theorem o8 (m:Mach) (x:Lg) (hs:SmallM m) (hx:x.d.size+x.p.size≤1048576):Ctr Tryz.prog 26 [.agg [.lst 2 (m.rs.map p8),.lst 1 (m.en.map r3),.lst 1 (m.ra.map r3),.nst none 4 (m.cp.map (s6 169 182)),.v (.string x.d),.v (.string x.p),.v (.int .i64 x.n)]] (.shp true [some 7] [.fr 83 2 (m.rs.map p8),.fr 4 1 (m.en.map r3),.fr 4 1 (m.ra.map r3),.ne 135 4 (m.cp.map (s6 169 182)),.v (.string x.d),.v (.string x.p),.v (.int .i64 x.n)]):=by
 refine Ctr.of (n:=9) G Tryz.func26 rfl b3 rfl rfl rfl (fun w0=>?_)
 refine o7 0 rfl (fun _=>rfl) (fun u0=>?_)
 refine T5 ?_
 refine zgn ?_
 refine u4 (l4 7 [0] mixed b3 rfl rfl (fun r0=>?_) (fun _ h=>h))
 refine zsa 0 ?_
 refine zsa 1 ?_
 refine zsa 3 ?_
 refine zsa 4 ?_
 refine b5 (rs:=[2]) b3 rfl (AllB.cons ?_ AllB.nil)
 refine i1 [0] rfl rfl (d7 6 rfl rfl rfl (ArgsOK.of rfl) (a8a m hs) rfl rfl (b4 ⟨rfl,?_⟩))
 refine b5 (rs:=[5]) b3 rfl (AllB.cons ?_ AllB.nil)
 refine a2U ?_
 refine b5 (rs:=[6]) b3 rfl (AllB.cons ?_ AllB.nil)
 refine a2U ?_
 refine G3 ?_
 refine c6 (d9 rfl rfl rfl rfl (a7 (b7 rfl ?_) (a7 (b7 rfl ?_) (a7 (b7 rfl ?_) (a7 (n7 rfl ?_) (a7 (c1 ?_) (a7 (c1 ?_) (a7 (c1 ?_) b9))))))))
 all_goals (rfl)
theorem J4 (m:Mach) (x:Lg) (hs:SmallM m) (hx:x.d.size+x.p.size≤1048576):Ctr Tryz.prog 33 [.agg [.lst 2 (m.rs.map p8),.lst 1 (m.en.map r3),.lst 1 (m.ra.map r3),.nst none 4 (m.cp.map (s6 169 182)),.v (.string x.d),.v (.string x.p),.v (.int .i64 x.n)]] (.shp true [some 7] [.fr 83 2 (m.rs.map p8),.fr 4 1 (m.en.map r3),.fr 4 1 (m.ra.map r3),.ne 135 4 (m.cp.map (s6 169 182)),.v (.string x.d),.v (.string x.p),.v (.int .i64 x.n)]):=by
 refine Ctr.of (n:=9) G Tryz.func33 rfl b3 rfl rfl rfl (fun w0=>?_)
 refine o7 0 rfl (fun _=>rfl) (fun u0=>?_)
 refine T5 ?_
 refine zgn ?_
 refine u4 (l4 7 [0] mixed b3 rfl rfl (fun r0=>?_) (fun _ h=>h))
 refine zsa 0 ?_
 refine zsa 1 ?_
 refine zsa 3 ?_
 refine zsa 4 ?_
 refine b5 (rs:=[2]) b3 rfl (AllB.cons ?_ AllB.nil)
 refine i1 [0] rfl rfl (d7 6 rfl rfl rfl (ArgsOK.of rfl) (a4a m hs) rfl rfl (b4 ⟨rfl,?_⟩))
 refine b5 (rs:=[5]) b3 rfl (AllB.cons ?_ AllB.nil)
 refine a2U ?_
 refine b5 (rs:=[6]) b3 rfl (AllB.cons ?_ AllB.nil)
 refine a2U ?_
 refine G3 ?_
 refine c6 (d9 rfl rfl rfl rfl (a7 (b7 rfl ?_) (a7 (b7 rfl ?_) (a7 (b7 rfl ?_) (a7 (n7 rfl ?_) (a7 (c1 ?_) (a7 (c1 ?_) (a7 (c1 ?_) b9))))))))
 all_goals (rfl)
end Go.Proofs.YtpfhomblkgmkkaaGreatDoor
set_option maxRecDepth 20000
namespace Go.Proofs.YtpfhomblkgmkkaaGreatDoor
open Go Go.Rf
theorem a9S (sl:List Slot) (irq:Int) (hF:SlF sl) (h0:0≤u7 sl irq) (ha:P6 (sl.getD (u7 sl irq).toNat default)=true):Ctr Tryz.prog 284 [.lst 3 (sl.map j8),.v (.int .i64 irq)] (.many [.fr 169 3 ((edS sl irq).map j8),.v (.bool true)]):=by
 have hl4:=hF.len
 have hf:=@a2z sl irq
 have haa:=x7.mp ha
 refine Ctr.of (n:=39) G Tryz.func284 rfl b3 rfl rfl rfl (fun w0=>?_)
 refine zcl (E7 sl irq (by omega)) ?_
 refine zcd (fun h1=>?_) (fun h1=>?_)
 ·first | (exfalso;omega) | (exfalso;simp_all;done)
 refine zcl (a2Q _) ?_
 refine zcd (fun h2=>?_) (fun h2=>?_)
 ·first | (exfalso;omega) | (exfalso;simp_all;done)
 refine a3x ?_
 refine zcd (fun h3=>?_) (fun h3=>?_)
 ·refine b98 ?_
  refine c6 (g8 rfl rfl rfl rfl (a7 (b7 rfl ?_) (a7 (c1 ?_) b9)))
  all_goals exact b5o
 refine b98 ?_
 refine c6 (g8 rfl rfl rfl rfl (a7 (b7 rfl ?_) (a7 (c1 ?_) b9)))
 all_goals exact b5o
theorem b2e (sl:List Slot) (irq:Int) (hF:SlF sl) (h0:0≤u7 sl irq) (ha:P6 (sl.getD (u7 sl irq).toNat default)=true):Ctr Tryz.prog 294 [.lst 3 (sl.map j8),.v (.int .i64 irq)] (.many [.fr 169 3 ((edS sl irq).map j8),.v (.bool true)]):=by
 have hl4:=hF.len
 have hf:=@a2z sl irq
 have haa:=x7.mp ha
 refine Ctr.of (n:=41) G Tryz.func294 rfl b3 rfl rfl rfl (fun w0=>?_)
 refine zcl (F6 sl irq (by omega)) ?_
 refine zcd (fun h1=>?_) (fun h1=>?_)
 ·first | (exfalso;omega) | (exfalso;simp_all;done)
 refine zcd (fun h2=>?_) (fun h2=>?_)
 ·first | (exfalso;omega) | (exfalso;simp_all;done)
 refine zcd (fun h3=>?_) (fun h3=>?_)
 ·refine vm5 ?_
  refine d7 1 rfl rfl rfl (ArgsOK.of rfl) (P8 sl _ ⟨_,_,_⟩ (by omega) (by omega)) rfl rfl ?_
  refine zgo ?_
  refine c6 (g8 rfl rfl rfl rfl (a7 (b7 rfl ?_) (a7 (c1 ?_) b9)))
  all_goals exact b5o
 refine a3x ?_
 refine c2Q ?_
 refine c6 (g8 rfl rfl rfl rfl (a7 (b7 rfl ?_) (a7 (c1 ?_) b9)))
 all_goals exact b5o
theorem a8b (q:Que) (irq:Int) (hF:QF q) (h0:0≤u7 q.sl irq) (ha:P6 (q.sl.getD (u7 q.sl irq).toNat default)=true):Ctr Tryz.prog 228 [.agg [.lst 3 (q.sl.map j8),.lst 2 (q.wa.map l1)],.v (.int .i64 irq)] (.shp false [some 2,none] [.fr 169 3 ((a6V q irq).sl.map j8),.fr 182 2 ((a6V q irq).wa.map l1) true,.v (.bool true)]):=by
 have hl4:=hF.sl.len
 have hwn:=hF.wn
 have hQ:=a8n hF h0
 refine Ctr.of (n:=23) G Tryz.func228 rfl b3 rfl rfl rfl (fun w0=>?_)
 refine o7 0 rfl (fun _=>rfl) (fun u0=>?_)
 refine f9 (fun K1 hK1=>?_)
 refine b3r ?_
 refine o9 ?_
 refine a95 ?_
 refine o9 ?_
 refine b6 rfl rfl (d6 rfl rfl) (b4 (hK1 _ ?_))
 clear hK1 K1
 refine f9 (fun K2 hK2=>?_)
 refine b8P ?_
 refine d7 3 rfl rfl rfl (ArgsOK.of rfl) (a9S q.sl irq hF.sl h0 ha) rfl rfl ?_
 refine o9 ?_
 refine c2M ?_
 refine hK2 _ ?_
 clear hK2 K2
 refine f9 (fun K3 hK3=>?_)
 refine f9 (fun K4 hK4=>?_)
 refine d4 ?_
 refine o9 ?_
 refine b6 rfl rfl (e6 rfl rfl) ?_
 refine o9 ?_
 refine b6 rfl rfl (a2K rfl rfl) (b4 (hK4 _ ?_))
 clear hK4 K4
 refine r7 rfl (fun h1=>?_) (fun h1=>?_)
 ·try rw [h1]
  try simp only [rfb] at h1
  refine f9 (fun K5 hK5=>?_)
  refine d4 ?_
  refine o9 ?_
  refine b6 rfl rfl (v8 G rfl rfl rfl rfl) ?_
  refine b99 ?_
  refine hK5 _ ?_
  clear hK5 K5
  refine c6 (d9 rfl rfl rfl rfl (a7 (r8 ?_) (a7 (r8 ?_) (a7 (c1 ?_) b9))))
  all_goals clear hK3 K3
  all_goals exact b5p
 ·try rw [h1]
  try simp only [rfb] at h1
  refine y9 (hK3 _ ?_)
  clear hK3 K3
  refine f9 (fun K6 hK6=>?_)
  refine c2K ?_
  refine d7 5 rfl rfl rfl (ArgsOK.of rfl) (V5 _ hQ) rfl rfl ?_
  refine b99 ?_
  refine hK6 _ ?_
  clear hK6 K6
  refine c6 (d9 rfl rfl rfl rfl (a7 (b7 rfl ?_) (a7 (b7 rfl ?_) (a7 (c1 ?_) b9))))
  all_goals exact b5p
theorem b2f (q:Que) (irq:Int) (hF:QF q) (h0:0≤u7 q.sl irq) (ha:P6 (q.sl.getD (u7 q.sl irq).toNat default)=true):Ctr Tryz.prog 245 [.agg [.lst 3 (q.sl.map j8),.lst 2 (q.wa.map l1)],.v (.int .i64 irq)] (.shp false [some 2,none] [.fr 169 3 ((a6V q irq).sl.map j8),.fr 182 2 ((a6V q irq).wa.map l1),.v (.bool true)]):=by
 have hl4:=hF.sl.len
 have hwn:=hF.wn
 have hQ:=a8n hF h0
 refine Ctr.of (n:=23) G Tryz.func245 rfl b3 rfl rfl rfl (fun w0=>?_)
 refine o7 0 rfl (fun _=>rfl) (fun u0=>?_)
 refine f9 (fun K1 hK1=>?_)
 refine b3r ?_
 refine o9 ?_
 refine a95 ?_
 refine o9 ?_
 refine b6 rfl rfl (d6 rfl rfl) (b4 (hK1 _ ?_))
 clear hK1 K1
 refine f9 (fun K2 hK2=>?_)
 refine b8P ?_
 refine d7 3 rfl rfl rfl (ArgsOK.of rfl) (b2e q.sl irq hF.sl h0 ha) rfl rfl ?_
 refine o9 ?_
 refine c2M ?_
 refine hK2 _ ?_
 clear hK2 K2
 refine f9 (fun K3 hK3=>?_)
 refine f9 (fun K4 hK4=>?_)
 refine d4 ?_
 refine o9 ?_
 refine b6 rfl rfl (e6 rfl rfl) ?_
 refine o9 ?_
 refine b6 rfl rfl (a2K rfl rfl) (b4 (hK4 _ ?_))
 clear hK4 K4
 refine r7 rfl (fun h1=>?_) (fun h1=>?_)
 ·try rw [h1]
  try simp only [rfb] at h1
  refine f9 (fun K5 hK5=>?_)
  refine d4 ?_
  refine o9 ?_
  refine b6 rfl rfl (v8 G rfl rfl rfl rfl) ?_
  refine b99 ?_
  refine hK5 _ ?_
  clear hK5 K5
  refine c6 (d9 rfl rfl rfl rfl (a7 (r8 ?_) (a7 (r8 ?_) (a7 (c1 ?_) b9))))
  all_goals clear hK3 K3
  all_goals exact b5p
 ·try rw [h1]
  try simp only [rfb] at h1
  refine y9 (hK3 _ ?_)
  clear hK3 K3
  refine f9 (fun K6 hK6=>?_)
  refine c2K ?_
  refine d7 5 rfl rfl rfl (ArgsOK.of rfl) (J3 _ hQ) rfl rfl ?_
  refine b99 ?_
  refine hK6 _ ?_
  clear hK6 K6
  refine c6 (d9 rfl rfl rfl rfl (a7 (b7 rfl ?_) (a7 (b7 rfl ?_) (a7 (c1 ?_) b9))))
  all_goals exact b5p
theorem a8c (x:Ifc) (hG:IfG x) (hn:x.st.length≠0):Ctr Tryz.prog 178 [.agg [.v (.int .i64 x.ma),.lst 1 (x.st.map Rf.r9),.lst 3 (x.qu.sl.map j8),.lst 2 (x.qu.wa.map l1)]] (.shp false [some 4,none,none] [.v (.int .i64 x.ma),.fr 3 1 ((x.st.take (x.st.length - 1)).map Rf.r9),.fr 169 3 ((a6V x.qu (N1 x)).sl.map j8),.fr 182 2 ((a6V x.qu (N1 x)).wa.map l1) true,.v (.int .i64 (N1 x)),.v (.bool true)]):=by
 have hl4:=hG.f.qu.sl.len
 have hwn:=hG.f.qu.wn
 have hsn:=hG.f.sn
 obtain ⟨hla,hlb⟩:=c0G hG hn
 have hls:=b0Y hn
 have htn:((x.st.length:Int) - 1).toNat=x.st.length - 1:=(by omega)
 refine Ctr.of (n:=40) G Tryz.func178 rfl b3 rfl rfl rfl (fun w0=>?_)
 refine o7 0 rfl (fun _=>rfl) (fun u0=>?_)
 refine T5 ?_
 refine zcd (fun h1=>?_) (fun h1=>?_)
 ·exfalso;omega
 refine zgn ?_
 refine u4 (l4 14 [0,1] mixed b3 rfl rfl (fun r0=>?_) (fun _ h=>h))
 refine a1e ?_
 refine zsa 4 ?_
 refine a1f ?_
 refine w3 (N:=3) rfl (p4 (fuel:=6) [⟨11,6,2,true,.box (avR [.slice none 0 0,.slice none 0 0] [])⟩] (AllVOK.cons (VOK.boxS G rfl rfl rfl rfl rfl) (AllVOK.nil)) (fun hok=>?_))
 refine j3 [(7,[])] b3 b3 (fun e he=>hok e he) b3 (AllVS.cons ?_ AllVS.nil)
 refine VStep.mk0 [0,1] rfl rfl (fun b1 _ hbn=>d7 5 rfl rfl rfl (ArgsOK.of rfl) (a8b x.qu _ hG.f.qu (by rw [hls];exact hla) (by rw [hls];exact hlb)) rfl rfl (b4 rfl)) b3 b3 b3 b3 (w6 8 rfl b3 rfl rfl rfl rfl (e6 rfl rfl) b3 b3 b3 (w6 9 rfl b3 rfl rfl rfl rfl (n8 rfl rfl rfl) b3 b3 b3 (w6 10 rfl b3 rfl rfl rfl rfl (n8 rfl rfl rfl) b3 b3 b3 (j3 [(12,[11])] b3 b3 (fun e he=>hok e he) b3 (AllVS.cons ?_ AllVS.nil)))))
 refine VStep.mk1 [0,1] 6 (.ptr 2 0) 2 (.box (avR [.slice none 0 0,.slice none 0 0] [])) [] rfl rfl rfl rfl rfl (fun b1 _ hbn=>j7 G rfl rfl rfl rfl rfl rfl rfl rfl rfl rfl rfl (b4 rfl)) b3 b3 b3 b3 (B3 ?_)
 clear hok
 refine zsa 13 ?_
 refine G3 ?_
 refine u4 (l4 17 [0,2,3,4] mixed b3 rfl rfl (fun r0=>?_) (fun _ h=>h))
 refine a1e ?_
 refine zsa 4 ?_
 first | refine e9 5 rfl b3 b3 rfl rfl rfl rfl (I1 G rfl rfl rfl rfl rfl (by omega) (by omega) (by omega)) ?_ | refine e9 5 rfl b3 b3 rfl rfl rfl rfl (I1 G rfl rfl rfl rfl rfl (by omega) a4l a4l) ?_
 refine zsa 7 ?_
 refine zsa 9 ?_
 refine zsa 10 ?_
 refine zsa 11 ?_
 refine zsa 12 ?_
 refine zsa 13 ?_
 refine b5 (rs:=[6]) b3 rfl (AllB.cons ?_ AllB.nil)
 refine i1 [0,2,3,4] rfl rfl (d7 6 rfl rfl rfl (ArgsOK.of (congrArg some (congrArg (fun z=>[AV.lst 1 z]) b3h))) (C8 (x.st.take (x.st.length - 1)) (by rw [List.length_take];omega)) rfl rfl (b4 ⟨rfl,?_⟩))
 refine b5 (rs:=[8]) b3 rfl (AllB.cons ?_ AllB.nil)
 refine b3t ?_
 refine b5 (rs:=[14]) b3 rfl (AllB.cons ?_ AllB.nil)
 refine b3t ?_
 refine zsa 15 ?_
 refine zsa 16 ?_
 refine G3 ?_
 refine c6 (d9 rfl rfl rfl rfl (a7 (c1 ?_) (a7 (b7 rfl ?_) (a7 (b7 rfl ?_) (a7 (b7 rfl ?_) (a7 (c1 ?_) (a7 (c1 ?_) b9)))))))
 all_goals (first | rfl | (rw [hls];done))
theorem a8d (x:Ifc) (hG:IfG x) (hn:x.st.length≠0):Ctr Tryz.prog 197 [.agg [.v (.int .i64 x.ma),.lst 1 (x.st.map Rf.r9),.lst 3 (x.qu.sl.map j8),.lst 2 (x.qu.wa.map l1)]] (.shp false [some 4,none] [.v (.int .i64 x.ma),.fr 3 1 ((x.st.take (x.st.length - 1)).map Rf.r9),.fr 169 3 ((a6V x.qu (N1 x)).sl.map j8),.fr 182 2 ((a6V x.qu (N1 x)).wa.map l1),.v (.int .i64 (N1 x))]):=by
 have hl4:=hG.f.qu.sl.len
 have hwn:=hG.f.qu.wn
 have hsn:=hG.f.sn
 obtain ⟨hla,hlb⟩:=c0G hG hn
 have hls:=b0Y hn
 have htn:((x.st.length:Int) - 1).toNat=x.st.length - 1:=(by omega)
 refine Ctr.of (n:=41) G Tryz.func197 rfl b3 rfl rfl rfl (fun w0=>?_)
 refine o7 0 rfl (fun _=>rfl) (fun u0=>?_)
 refine T5 ?_
 refine zcd (fun h1=>?_) (fun h1=>?_)
 ·exfalso;omega
 refine zgn ?_
 refine u4 (l4 15 [0,1] mixed b3 rfl rfl (fun r0=>?_) (fun _ h=>h))
 refine c34 ?_
 refine zsa 6 ?_
 refine zsa 7 ?_
 refine w3 (N:=3) rfl (p4 (fuel:=6) [⟨12,5,2,true,.box (avR [.slice none 0 0,.slice none 0 0] [])⟩] (AllVOK.cons (VOK.boxS G rfl rfl rfl rfl rfl) (AllVOK.nil)) (fun hok=>?_))
 refine j3 [(8,[])] b3 b3 (fun e he=>hok e he) b3 (AllVS.cons ?_ AllVS.nil)
 refine VStep.mk0 [0,1] rfl rfl (fun b1 _ hbn=>d7 5 rfl rfl rfl (ArgsOK.of rfl) (b2f x.qu _ hG.f.qu (by rw [hls];exact hla) (by rw [hls];exact hlb)) rfl rfl (b4 rfl)) b3 b3 b3 b3 (w6 9 rfl b3 rfl rfl rfl rfl (e6 rfl rfl) b3 b3 b3 (w6 10 rfl b3 rfl rfl rfl rfl (n8 rfl rfl rfl) b3 b3 b3 (w6 11 rfl b3 rfl rfl rfl rfl (n8 rfl rfl rfl) b3 b3 b3 (j3 [(13,[12])] b3 b3 (fun e he=>hok e he) b3 (AllVS.cons ?_ AllVS.nil)))))
 refine c3Z ?_
 clear hok
 refine zsa 14 ?_
 refine G3 ?_
 refine u4 (l4 18 [0,2,3,4] mixed b3 rfl rfl (fun r0=>?_) (fun _ h=>h))
 refine c34 ?_
 first | refine e9 6 rfl b3 b3 rfl rfl rfl rfl (I1 G rfl rfl rfl rfl rfl (by omega) (by omega) (by omega)) ?_ | refine e9 6 rfl b3 b3 rfl rfl rfl rfl (I1 G rfl rfl rfl rfl rfl (by omega) a4l a4l) ?_
 refine zsa 8 ?_
 refine zsa 10 ?_
 refine zsa 11 ?_
 refine zsa 12 ?_
 first | refine e9 13 rfl b3 b3 rfl rfl rfl rfl (x8 rfl rfl rfl rfl (by omega) (by omega)) ?_ | refine e9 13 rfl b3 b3 rfl rfl rfl rfl (C5 rfl rfl rfl rfl) ?_
 refine zsa 14 ?_
 refine zsa 15 ?_
 refine b5 (rs:=[7]) b3 rfl (AllB.cons ?_ AllB.nil)
 refine i1 [0,2,3,4] rfl rfl (d7 6 rfl rfl rfl (ArgsOK.of (congrArg some (congrArg (fun z=>[AV.lst 1 z]) b3h))) (H5 (x.st.take (x.st.length - 1)) (by rw [List.length_take];omega)) rfl rfl (b4 ⟨rfl,?_⟩))
 refine b5 (rs:=[9]) b3 rfl (AllB.cons ?_ AllB.nil)
 refine b3t ?_
 refine b5 (rs:=[16]) b3 rfl (AllB.cons ?_ AllB.nil)
 refine b3t ?_
 refine zsa 17 ?_
 refine G3 ?_
 refine c6 (d9 rfl rfl rfl rfl (a7 (c1 ?_) (a7 (b7 rfl ?_) (a7 (b7 rfl ?_) (a7 (b7 rfl ?_) (a7 (c1 ?_) b9))))))
 all_goals (first | rfl | (rw [hls];done))
end Go.Proofs.YtpfhomblkgmkkaaGreatDoor
set_option maxRecDepth 20000
namespace Go.Proofs.YtpfhomblkgmkkaaGreatDoor
open Go Go.Rf
theorem a4U (x:Ifc) (hn:x.st.length=0):Ctr Tryz.prog 178 [.agg [.v (.int .i64 x.ma),.lst 1 (x.st.map Rf.r9),.lst 3 (x.qu.sl.map j8),.lst 2 (x.qu.wa.map l1)]] (.shp false [some 4,none,none] [.v (.int .i64 0),.fr 3 1 (([]:List Int).map Rf.r9),.fr 169 3 ((⟨[],[]⟩:Que).sl.map j8),.fr 182 2 ((⟨[],[]⟩:Que).wa.map l1) true,.v (.int .i64 0),.v (.bool false)]):=by
 refine Ctr.of (n:=40) G Tryz.func178 rfl b3 rfl rfl rfl (fun w0=>?_)
 refine o7 0 rfl (fun _=>rfl) (fun u0=>?_)
 refine T5 ?_
 refine zcd (fun h1=>?_) (fun h1=>?_)
 ·refine zgo ?_
  refine c6 (d9 rfl rfl rfl rfl (a7 (c1 ?_) (a7 (r8 ?_) (a7 (r8 ?_) (a7 (r8 ?_) (a7 (c1 ?_) (a7 (c1 ?_) b9)))))))
  all_goals (rfl)
 exfalso;omega
theorem a4b (x:Ifc) (hG:IfG x):Ctr Tryz.prog 178 [.agg [.v (.int .i64 x.ma),.lst 1 (x.st.map Rf.r9),.lst 3 (x.qu.sl.map j8),.lst 2 (x.qu.wa.map l1)]] (.shp false [some 4,none,none] [.v (.int .i64 (a0q x).1.ma),.fr 3 1 ((a0q x).1.st.map Rf.r9),.fr 169 3 ((a0q x).1.qu.sl.map j8),.fr 182 2 ((a0q x).1.qu.wa.map l1) true,.v (.int .i64 (a0q x).2.1),.v (.bool (a0q x).2.2)]):=by
 by_cases h:x.st.length=0
 ·rw [b43 h];exact a4U x h
 rw [b44 h];exact a8c x hG h
theorem a4V (m:Mach) (sk sq sc sv:Int) (hM:MaG m) (hv:M6 m.cp.length ⟨sk,sq,sc,sv⟩=true):Ctr Tryz.prog 120 [.agg [.lst 2 (m.rs.map p8),.lst 1 (m.en.map r3),.lst 1 (m.ra.map r3),.nst none 4 (m.cp.map (s6 169 182))],.v (.agg ⟨[.int .i64 sk,.int .i64 sq,.int .i64 sc,.int .i64 sv]⟩)] (.shp false [some 4,none,none] [.fr 83 2 ((stM m ⟨sk,sq,sc,sv⟩).1.rs.map p8),.fr 4 1 ((stM m ⟨sk,sq,sc,sv⟩).1.en.map r3),.fr 4 1 ((stM m ⟨sk,sq,sc,sv⟩).1.ra.map r3),.ne 135 4 ((stM m ⟨sk,sq,sc,sv⟩).1.cp.map (a1K 169 182)),.v (.int .i64 (stM m ⟨sk,sq,sc,sv⟩).2.1),.v (.bool (stM m ⟨sk,sq,sc,sv⟩).2.2)]):=by
 have f1:=hM.n
 have f2:=hM.en
 have f3:=hM.ra
 have f4:=hM.rn
 refine Ctr.of (n:=90) G Tryz.func120 rfl b3 rfl rfl rfl (fun w0=>?_)
 refine o7 0 rfl (fun _=>rfl) (fun u0=>?_)
 refine b4d ?_
 refine vm5 ?_
 refine d7 7 rfl rfl rfl (ArgsOK.of rfl) (a6m m hM) rfl rfl ?_
 refine o9 ?_
 refine b3s ?_
 refine zgn ?_
 refine u4 (u4 (H6 (Gh.nestF (id:=6) _ rfl flM) ?_))
 refine zcd (fun h1=>?_) (fun h1=>?_)
 ·have hq:=b9o hv (by omega)
  obtain ⟨q,rfl⟩:∃ q:Nat,sq=q:=⟨sq.toNat,by omega⟩
  have hS:=sm1 (m:=m) (sc:=sc) (sv:=sv) (q:=q) h1
  refine b95 ?_
  refine zgn ?_
  refine u4 ?_
  first | refine H6 (Gh.nestF (id:=6) _ rfl (X5 (x:=(U7 (m.cp.getD c default)).1) (.cons .s (.cons .s (.cons .s (.cons .t .nil)))))) ?_ | refine H6 (Gh.nestF (id:=6) _ rfl (X5 (x:=(a0q (m.cp.getD c default)).1) (.cons .s (.cons .s (.cons .s (.cons .t .nil)))))) ?_ | refine H6 (Gh.nestF (id:=6) _ rfl (X5 (x:=⟨sv,(m.cp.getD c default).st,(m.cp.getD c default).qu⟩) (.cons .s (.cons .s (.cons .s (.cons .s .nil)))))) ?_ | skip
  refine zgo ?_
  refine c6 (d9 rfl rfl rfl rfl (a7 (b7 rfl ?_) (a7 (b7 rfl ?_) (a7 (b7 rfl ?_) (a7 (n7 rfl ?_) (a7 (c1 ?_) (a7 (c1 ?_) b9)))))))
  all_goals exact b05
 refine zcd (fun h2=>?_) (fun h2=>?_)
 ·have hS:=sm2 (m:=m) (sq:=sq) (sc:=sc) (sv:=sv) h2
  refine vm5 ?_
  refine b9U (n:=63) rfl rfl rfl Tryz.func176 rfl b3 rfl rfl rfl rfl ?_
  apply Exists.intro
  apply Exists.intro
  apply And.intro
  ·intro b hen hpin
   refine vm5 ?_
   refine b6 rfl rfl (S0 rfl rfl) ?_
   refine zgo ?_
   refine i7 [0,8,9] [0,1,2,3,4,7] (fun (i:Nat)=>[(10,.v (.int .i64 (i:Int)))]) (fun (i:Nat)=>[(5,some (.row 4 1 ((a7J m i).map r3))),(6,some (.nest 135 4 ((a1I m i).map (a1K 169 182)) []))]) (fun (i:Nat)=>i≤8) (fun (i:Nat)=>8 - i) 0 rfl rfl ?_ ?_ ?_ ?_
   ·exact Nat.zero_le _
   ·exact ⟨⟨_,rfl,by rfl⟩,rfl,trivial⟩
   ·exact ⟨⟨_,rfl,by rfl⟩,rfl,rfl,⟨⟨_,rfl,by rfl⟩,rfl,rfl,trivial⟩⟩
   intro i hi
   have hrl:=@a57 m i
   have hcl:=@P7 m i
   have htg:=fun h=>hM.tg (i:=i) h
   simp only [List.cons_append,List.nil_append]
   refine zcd (fun h101=>?_) (fun h101=>?_)
   ·obtain ⟨hta,htb,htc⟩:=htg (by omega)
    obtain ⟨hst,hIG⟩:=a58 hM (i:=i) (k:=tgM m i) (by omega) htb
    have htd:tgM m i < m.cp.length:=htb
    refine vm6 ?_
    refine c36 ?_
    refine d8 G 9 rfl rfl rfl rfl rfl ?_
    refine zgd ?_
    refine zgo ?_
    refine m4 rfl (u9 rfl rfl (S0 rfl rfl) ?_)
    refine zgo ?_
    refine m4 rfl ?_
    first | refine u9 rfl rfl (s8 G rfl rfl rfl rfl rfl (by omega) a1z) ?_ | refine u9 rfl rfl (s8 G rfl rfl rfl rfl rfl (by omega) H8) ?_
    refine zgn ?_
    refine u4 (H6 (Gh.open (id:=6) (i:=(tgM m i)) (k:=1) 10 rfl rfl (c2e (by omega)) rfl rfl) ?_)
    refine vm5 ?_
    refine b6 rfl rfl (S0 rfl rfl) ?_
    refine vm6 ?_
    refine c2N ?_
    refine zcd (fun h102=>?_) (fun h102=>?_)
    ·refine zgo ?_
     refine a0P ?_
     refine b6 rfl rfl (S0 rfl rfl) ?_
     refine zgo ?_
     refine a0P ?_
     first | refine b6 rfl rfl (b8 G rfl rfl rfl rfl rfl (by omega) C3) ?_ | refine b6 rfl rfl (b8 G rfl rfl rfl rfl rfl (by omega) (by omega)) ?_
     refine a0P ?_
     refine c2N ?_
     refine zcd (fun h103=>?_) (fun h103=>?_)
     ·rw [a8s (Nat.le_refl _)] at h103
      refine zgo ?_
      refine a0P ?_
      refine b6 rfl rfl (a6z rfl rfl) ?_
      refine a0P ?_
      refine c0b ?_
      refine a0P ?_
      refine b6 rfl rfl (b2l G rfl rfl rfl rfl rfl (B8.2 ⟨_,(a2T H8 rfl),rfl⟩) (.own (by first | exact List.Mem.head _ | simp) .nil)) ?_
      refine zcl (a1n ((a1I m i).getD (tgM m i) default).st _ (by have:=hIG.f.sn;omega)) ?_
      refine zcd (fun h104=>?_) (fun h104=>?_)
      ·rw [hst] at h104
       have hcn:=b79 (m:=m) (i:=i) h102 h103 h104
       refine vm5 ?_
       refine b6 rfl rfl (S0 rfl rfl) ?_
       refine c31 ?_
       refine H6 (Gh.open (id:=6) (i:=(tgM m i)) (k:=2) 11 rfl rfl (a2T H8 rfl) rfl rfl) (H6 (Gh.open (id:=6) (i:=(tgM m i)) (k:=3) 12 rfl rfl (a2T H8 rfl) rfl rfl) (l4 10 [0,1,2,3,4,5,7,8,9,10,11] mixed b3 rfl rfl (fun r0=>?_) (fun _ h=>h)))
       refine zsa 0 ?_
       refine zsa 1 ?_
       refine zsa 4 ?_
       refine a1f ?_
       refine b5 (rs:=[2]) b3 rfl (AllB.cons ?_ AllB.nil)
       refine i1 [0,1,2,3,4,5,7,8,9,10,11] rfl rfl (b6 rfl rfl (a6z rfl rfl) (b4 ⟨rfl,?_⟩))
       refine b5 (rs:=[3]) b3 rfl (AllB.cons ?_ AllB.nil)
       refine i1 [0,1,2,3,4,5,7,8,9,10,11] rfl rfl (b6 rfl rfl (R0 G rfl rfl rfl rfl (a2T H8 rfl) rfl (.v (.own a6e (.own a6e (.own a6e .nil))))) (b4 ⟨rfl,?_⟩))
       refine b5 (rs:=[7]) b3 rfl (AllB.cons ?_ AllB.nil)
       refine i1 [0,1,2,3,4,5,7,8,9,10,11] rfl rfl (d7 15 rfl rfl rfl (ArgsOK.of rfl) (a7W ((a1I m i).getD (tgM m i) default) _ _ hIG.f (by omega) htc) rfl rfl (b4 ⟨rfl,?_⟩))
       refine a1Y (Gh.detach (id:=6) rfl) (a1Y (Gh.detach (id:=6) rfl) (a1Y (Gh.detach (id:=6) rfl) (b5 (rs:=[8]) b3 rfl (AllB.cons ?_ AllB.nil))))
       refine i1 [0,1,2,3,4,5,7,8,9,10,11] rfl rfl (b6 rfl rfl (a6z rfl rfl) (b4 ⟨rfl,?_⟩))
       refine b5 (rs:=[9]) b3 rfl (AllB.cons ?_ AllB.nil)
       refine i1 [0,1,2,3,4,5,7,8,9,10,11] rfl rfl (s1 G rfl rfl rfl rfl rfl (a2T H8 rfl) rfl rfl (.v rfl (.own rfl (.own rfl (.own rfl .nil)))) rfl rfl rfl (Nat.le_of_ble_eq_true rfl) (fun q h=>by cases h) rfl (b4 ⟨rfl,?_⟩))
       refine G3 ?_
       refine zgo ?_
       refine ⟨(i+1),?_,?_,⟨⟨_,rfl,by rfl⟩,rfl,trivial⟩,⟨⟨_,rfl,by (first | (rw [O5 hcn];done) | (rw [O7 hcn];exact congrArg (fun z=>Row.nest _ _ z []) (a0p (by omega) rfl)) | (rw [O4 hcn,List.map_set];rfl) | (rw [O6 hcn];exact congrArg (fun z=>Row.nest _ _ z []) a0E))⟩,rfl,rfl,⟨⟨_,rfl,by (first | (rw [O5 hcn];done) | (rw [O7 hcn];exact congrArg (fun z=>Row.nest _ _ z []) (a0p (by omega) rfl)) | (rw [O4 hcn,List.map_set];rfl) | (rw [O6 hcn];exact congrArg (fun z=>Row.nest _ _ z []) a0E))⟩,rfl,rfl,trivial⟩⟩,rfl,rfl,rfl⟩
       ·omega
       omega
      rw [hst] at h104
      have hcn:=b8c (m:=m) (i:=i) h104
      refine c2O ?_
      refine ⟨(i+1),?_,?_,⟨⟨_,rfl,by rfl⟩,rfl,trivial⟩,⟨⟨_,rfl,by (first | (rw [O5 hcn];done) | (rw [O7 hcn];exact congrArg (fun z=>Row.nest _ _ z []) (a0p (by omega) rfl)) | (rw [O4 hcn,List.map_set];rfl) | (rw [O6 hcn];exact congrArg (fun z=>Row.nest _ _ z []) a0E))⟩,rfl,rfl,⟨⟨_,rfl,by (first | (rw [O5 hcn];done) | (rw [O7 hcn];exact congrArg (fun z=>Row.nest _ _ z []) (a0p (by omega) rfl)) | (rw [O4 hcn,List.map_set];rfl) | (rw [O6 hcn];exact congrArg (fun z=>Row.nest _ _ z []) a0E))⟩,rfl,rfl,trivial⟩⟩,rfl,rfl,rfl⟩
      ·omega
      omega
     rw [a8s (Nat.le_refl _)] at h103
     have hcn:=b8b (m:=m) (i:=i) h103
     refine zwf ?_
     refine c2O ?_
     refine ⟨(i+1),?_,?_,⟨⟨_,rfl,by rfl⟩,rfl,trivial⟩,⟨⟨_,rfl,by (first | (rw [O5 hcn];done) | (rw [O7 hcn];exact congrArg (fun z=>Row.nest _ _ z []) (a0p (by omega) rfl)) | (rw [O4 hcn,List.map_set];rfl) | (rw [O6 hcn];exact congrArg (fun z=>Row.nest _ _ z []) a0E))⟩,rfl,rfl,⟨⟨_,rfl,by (first | (rw [O5 hcn];done) | (rw [O7 hcn];exact congrArg (fun z=>Row.nest _ _ z []) (a0p (by omega) rfl)) | (rw [O4 hcn,List.map_set];rfl) | (rw [O6 hcn];exact congrArg (fun z=>Row.nest _ _ z []) a0E))⟩,rfl,rfl,trivial⟩⟩,rfl,rfl,rfl⟩
     ·omega
     omega
    have hcn:=b8a (m:=m) (i:=i) h102
    refine zwf ?_
    refine c2O ?_
    refine ⟨(i+1),?_,?_,⟨⟨_,rfl,by rfl⟩,rfl,trivial⟩,⟨⟨_,rfl,by (first | (rw [O5 hcn];done) | (rw [O7 hcn];exact congrArg (fun z=>Row.nest _ _ z []) (a0p (by omega) rfl)) | (rw [O4 hcn,List.map_set];rfl) | (rw [O6 hcn];exact congrArg (fun z=>Row.nest _ _ z []) a0E))⟩,rfl,rfl,⟨⟨_,rfl,by (first | (rw [O5 hcn];done) | (rw [O7 hcn];exact congrArg (fun z=>Row.nest _ _ z []) (a0p (by omega) rfl)) | (rw [O4 hcn,List.map_set];rfl) | (rw [O6 hcn];exact congrArg (fun z=>Row.nest _ _ z []) a0E))⟩,rfl,rfl,trivial⟩⟩,rfl,rfl,rfl⟩
    ·omega
    omega
   obtain rfl:i=8:=(by omega)
   exact Y0 ⟨.inl rfl,rfl,rfl⟩
  refine ⟨rfl,?_⟩
  refine zgn ?_
  refine u4 ?_
  first | refine H6 (Gh.nestF (id:=6) _ rfl (X5 (x:=(U7 (m.cp.getD c default)).1) (.cons .s (.cons .s (.cons .s (.cons .t .nil)))))) ?_ | refine H6 (Gh.nestF (id:=6) _ rfl (X5 (x:=(a0q (m.cp.getD c default)).1) (.cons .s (.cons .s (.cons .s (.cons .t .nil)))))) ?_ | refine H6 (Gh.nestF (id:=6) _ rfl (X5 (x:=⟨sv,(m.cp.getD c default).st,(m.cp.getD c default).qu⟩) (.cons .s (.cons .s (.cons .s (.cons .s .nil)))))) ?_ | skip
  refine zgo ?_
  refine c6 (d9 rfl rfl rfl rfl (a7 (b7 rfl ?_) (a7 (b7 rfl ?_) (a7 (b7 rfl ?_) (a7 (n7 rfl ?_) (a7 (c1 ?_) (a7 (c1 ?_) b9)))))))
  all_goals exact b05
 refine zcd (fun h3=>?_) (fun h3=>?_)
 ·have hc:=b1w hv (by omega)
  obtain ⟨c,rfl⟩:∃ c:Nat,sc=c:=⟨sc.toNat,by omega⟩
  obtain ⟨g1,g2,g3⟩:=hM.lens (k:=c) (by omega)
  have hIG:=hM.ok c (by omega)
  have hS:=c4q (m:=m) (sq:=sq) (sv:=sv) (c:=c) h3
  refine l4 19 [0,1,2,3,4,5,7] mixed b3 rfl rfl (fun r0=>?_) (fun _ h=>h)
  refine a1e ?_
  refine zsa 4 ?_
  refine a1f ?_
  refine zsa 7 ?_
  refine zsa 8 ?_
  refine zsa 9 ?_
  refine b5 (rs:=[10]) b3 rfl (AllB.cons ?_ AllB.nil)
  refine i1 [0,1,2,3,4,5,7] rfl rfl (d7 11 rfl rfl rfl (ArgsOK.of rfl) (a9I (m.cp.getD c default) hIG.f) rfl rfl (b4 ⟨rfl,?_⟩))
  refine zsa 11 ?_
  refine zsa 12 ?_
  refine zsa 13 ?_
  refine zsa 14 ?_
  refine b5 (rs:=[15]) b3 rfl (AllB.cons ?_ AllB.nil)
  first | refine c7 [0,1,2,3,4,5,7] rfl rfl (b6 rfl rfl (s8 G rfl rfl rfl rfl rfl (by omega) a1z) (b4 ⟨rfl,?_⟩)) | refine c7 [0,1,2,3,4,5,7] rfl rfl (b6 rfl rfl (s8 G rfl rfl rfl rfl rfl (by omega) H8) (b4 ⟨rfl,?_⟩)) | refine c7 [0,1,2,3,4,5,7] rfl rfl (b6 rfl rfl (s8 G rfl rfl rfl rfl rfl (by omega) (by omega)) (b4 ⟨rfl,?_⟩))
  refine b5 (rs:=[16]) b3 rfl (AllB.cons ?_ AllB.nil)
  first | refine c7 [0,1,2,3,4,5,7] rfl rfl (s1 G rfl rfl rfl rfl rfl (B4 (by omega) (by omega)) rfl rfl (.v rfl (.own rfl (.own rfl (.own rfl .nil)))) rfl rfl rfl (Nat.le_of_ble_eq_true rfl) (fun q h=>by cases h) rfl (b4 ⟨rfl,?_⟩)) | refine c7 [0,1,2,3,4,5,7] rfl rfl (s1 G rfl rfl rfl rfl rfl (a0f (by omega) (by omega)) rfl rfl (.v rfl (.own rfl (.own rfl (.own rfl .nil)))) rfl rfl rfl (Nat.le_of_ble_eq_true rfl) (fun q h=>by cases h) rfl (b4 ⟨rfl,?_⟩)) | refine c7 [0,1,2,3,4,5,7] rfl rfl (s1 G rfl rfl rfl rfl rfl (a2T H8 rfl) rfl rfl (.v rfl (.own rfl (.own rfl (.own rfl .nil)))) rfl rfl rfl (Nat.le_of_ble_eq_true rfl) (fun q h=>by cases h) rfl (b4 ⟨rfl,?_⟩))
  refine zsa 17 ?_
  refine zsa 18 ?_
  refine G3 ?_
  refine u4 ?_
  first | refine H6 (Gh.nestF (id:=6) _ rfl (X5 (x:=(U7 (m.cp.getD c default)).1) (.cons .s (.cons .s (.cons .s (.cons .t .nil)))))) ?_ | refine H6 (Gh.nestF (id:=6) _ rfl (X5 (x:=(a0q (m.cp.getD c default)).1) (.cons .s (.cons .s (.cons .s (.cons .t .nil)))))) ?_ | refine H6 (Gh.nestF (id:=6) _ rfl (X5 (x:=⟨sv,(m.cp.getD c default).st,(m.cp.getD c default).qu⟩) (.cons .s (.cons .s (.cons .s (.cons .s .nil)))))) ?_ | skip
  refine zgo ?_
  refine c6 (d9 rfl rfl rfl rfl (a7 (b7 rfl ?_) (a7 (b7 rfl ?_) (a7 (b7 rfl ?_) (a7 (n7 rfl ?_) (a7 (c1 ?_) (a7 (c1 ?_) b9)))))))
  all_goals exact b05
 refine zcd (fun h4=>?_) (fun h4=>?_)
 ·have hc:=b1w hv (by omega)
  obtain ⟨c,rfl⟩:∃ c:Nat,sc=c:=⟨sc.toNat,by omega⟩
  obtain ⟨g1,g2,g3⟩:=hM.lens (k:=c) (by omega)
  have hIG:=hM.ok c (by omega)
  have hS:=c4r (m:=m) (sq:=sq) (sv:=sv) (c:=c) h4
  refine l4 19 [0,1,2,3,4,5,7] mixed b3 rfl rfl (fun r0=>?_) (fun _ h=>h)
  refine a1e ?_
  refine zsa 4 ?_
  refine a1f ?_
  refine zsa 7 ?_
  refine zsa 8 ?_
  refine zsa 9 ?_
  refine b5 (rs:=[10]) b3 rfl (AllB.cons ?_ AllB.nil)
  refine i1 [0,1,2,3,4,5,7] rfl rfl (d7 11 rfl rfl rfl (ArgsOK.of rfl) (a4b (m.cp.getD c default) hIG) rfl rfl (b4 ⟨rfl,?_⟩))
  refine zsa 11 ?_
  refine zsa 12 ?_
  refine zsa 13 ?_
  refine zsa 14 ?_
  refine b5 (rs:=[15]) b3 rfl (AllB.cons ?_ AllB.nil)
  first | refine c7 [0,1,2,3,4,5,7] rfl rfl (b6 rfl rfl (s8 G rfl rfl rfl rfl rfl (by omega) a1z) (b4 ⟨rfl,?_⟩)) | refine c7 [0,1,2,3,4,5,7] rfl rfl (b6 rfl rfl (s8 G rfl rfl rfl rfl rfl (by omega) H8) (b4 ⟨rfl,?_⟩)) | refine c7 [0,1,2,3,4,5,7] rfl rfl (b6 rfl rfl (s8 G rfl rfl rfl rfl rfl (by omega) (by omega)) (b4 ⟨rfl,?_⟩))
  refine b5 (rs:=[16]) b3 rfl (AllB.cons ?_ AllB.nil)
  first | refine c7 [0,1,2,3,4,5,7] rfl rfl (s1 G rfl rfl rfl rfl rfl (B4 (by omega) (by omega)) rfl rfl (.v rfl (.own rfl (.own rfl (.own rfl .nil)))) rfl rfl rfl (Nat.le_of_ble_eq_true rfl) (fun q h=>by cases h) rfl (b4 ⟨rfl,?_⟩)) | refine c7 [0,1,2,3,4,5,7] rfl rfl (s1 G rfl rfl rfl rfl rfl (a0f (by omega) (by omega)) rfl rfl (.v rfl (.own rfl (.own rfl (.own rfl .nil)))) rfl rfl rfl (Nat.le_of_ble_eq_true rfl) (fun q h=>by cases h) rfl (b4 ⟨rfl,?_⟩)) | refine c7 [0,1,2,3,4,5,7] rfl rfl (s1 G rfl rfl rfl rfl rfl (a2T H8 rfl) rfl rfl (.v rfl (.own rfl (.own rfl (.own rfl .nil)))) rfl rfl rfl (Nat.le_of_ble_eq_true rfl) (fun q h=>by cases h) rfl (b4 ⟨rfl,?_⟩))
  refine zsa 17 ?_
  refine zsa 18 ?_
  refine G3 ?_
  refine u4 ?_
  first | refine H6 (Gh.nestF (id:=6) _ rfl (X5 (x:=(U7 (m.cp.getD c default)).1) (.cons .s (.cons .s (.cons .s (.cons .t .nil)))))) ?_ | refine H6 (Gh.nestF (id:=6) _ rfl (X5 (x:=(a0q (m.cp.getD c default)).1) (.cons .s (.cons .s (.cons .s (.cons .t .nil)))))) ?_ | refine H6 (Gh.nestF (id:=6) _ rfl (X5 (x:=⟨sv,(m.cp.getD c default).st,(m.cp.getD c default).qu⟩) (.cons .s (.cons .s (.cons .s (.cons .s .nil)))))) ?_ | skip
  refine zgo ?_
  refine c6 (d9 rfl rfl rfl rfl (a7 (b7 rfl ?_) (a7 (b7 rfl ?_) (a7 (b7 rfl ?_) (a7 (n7 rfl ?_) (a7 (c1 ?_) (a7 (c1 ?_) b9)))))))
  all_goals exact b05
 refine zcd (fun h5=>?_) (fun h5=>?_)
 ·have hc:=b1w hv (by omega)
  obtain ⟨c,rfl⟩:∃ c:Nat,sc=c:=⟨sc.toNat,by omega⟩
  obtain ⟨g1,g2,g3⟩:=hM.lens (k:=c) (by omega)
  have hIG:=hM.ok c (by omega)
  have hS:=sm5 (m:=m) (sq:=sq) (sv:=sv) (c:=c) h5
  refine c2F ?_
  refine c0b ?_
  refine o9 ?_
  first | refine s1 G rfl rfl rfl rfl rfl (B4 (by omega) (by omega)) rfl rfl (.v rfl .nil) rfl rfl rfl (Nat.le_of_ble_eq_true rfl) (fun q h=>by cases h) rfl ?_ | refine s1 G rfl rfl rfl rfl rfl (a0f (by omega) (by omega)) rfl rfl (.v rfl .nil) rfl rfl rfl (Nat.le_of_ble_eq_true rfl) (fun q h=>by cases h) rfl ?_ | refine s1 G rfl rfl rfl rfl rfl (a2T H8 rfl) rfl rfl (.v rfl .nil) rfl rfl rfl (Nat.le_of_ble_eq_true rfl) (fun q h=>by cases h) rfl ?_
  refine zgn ?_
  refine u4 ?_
  first | refine H6 (Gh.nestF (id:=6) _ rfl (X5 (x:=(U7 (m.cp.getD c default)).1) (.cons .s (.cons .s (.cons .s (.cons .t .nil)))))) ?_ | refine H6 (Gh.nestF (id:=6) _ rfl (X5 (x:=(a0q (m.cp.getD c default)).1) (.cons .s (.cons .s (.cons .s (.cons .t .nil)))))) ?_ | refine H6 (Gh.nestF (id:=6) _ rfl (X5 (x:=⟨sv,(m.cp.getD c default).st,(m.cp.getD c default).qu⟩) (.cons .s (.cons .s (.cons .s (.cons .s .nil)))))) ?_ | skip
  refine zgo ?_
  refine c6 (d9 rfl rfl rfl rfl (a7 (b7 rfl ?_) (a7 (b7 rfl ?_) (a7 (b7 rfl ?_) (a7 (n7 rfl ?_) (a7 (c1 ?_) (a7 (c1 ?_) b9)))))))
  all_goals exact b05
 refine zcd (fun h6=>?_) (fun h6=>?_)
 ·have hq:=b9o hv (by omega)
  obtain ⟨q,rfl⟩:∃ q:Nat,sq=q:=⟨sq.toNat,by omega⟩
  have hS:=sm6 (m:=m) (sk:=sk) (sc:=sc) (sv:=sv) (q:=q) h6
  refine b95 ?_
  refine zgn ?_
  refine u4 ?_
  first | refine H6 (Gh.nestF (id:=6) _ rfl (X5 (x:=(U7 (m.cp.getD c default)).1) (.cons .s (.cons .s (.cons .s (.cons .t .nil)))))) ?_ | refine H6 (Gh.nestF (id:=6) _ rfl (X5 (x:=(a0q (m.cp.getD c default)).1) (.cons .s (.cons .s (.cons .s (.cons .t .nil)))))) ?_ | refine H6 (Gh.nestF (id:=6) _ rfl (X5 (x:=⟨sv,(m.cp.getD c default).st,(m.cp.getD c default).qu⟩) (.cons .s (.cons .s (.cons .s (.cons .s .nil)))))) ?_ | skip
  refine zgo ?_
  refine c6 (d9 rfl rfl rfl rfl (a7 (b7 rfl ?_) (a7 (b7 rfl ?_) (a7 (b7 rfl ?_) (a7 (n7 rfl ?_) (a7 (c1 ?_) (a7 (c1 ?_) b9)))))))
  all_goals exact b05
 exact absurd (c3o hv) (by omega)
end Go.Proofs.YtpfhomblkgmkkaaGreatDoor
set_option maxRecDepth 20000
namespace Go.Proofs.YtpfhomblkgmkkaaGreatDoor
open Go Go.Rf
theorem a9T (m:Mach) (hM:MaG m):Ctr Tryz.prog 195 [.agg [.lst 2 (m.rs.map p8),.lst 1 (m.en.map r3),.lst 1 (m.ra.map r3),.nst none 4 (m.cp.map (s6 169 182))]] (.shp true [some 4] [.fr 83 2 ((b37 m).rs.map p8),.fr 4 1 ((b37 m).en.map r3),.fr 4 1 ((b37 m).ra.map r3),.ne 135 4 ((b37 m).cp.map (s6 169 182))]):=by
 have f1:=hM.n
 have f2:=hM.en
 have f3:=hM.ra
 have f4:=hM.rn
 refine Ctr.of (n:=63) G Tryz.func195 rfl b3 rfl rfl rfl (fun w0=>?_)
 refine o7 0 rfl (fun _=>rfl) (fun u0=>?_)
 refine T5 ?_
 refine vm5 ?_
 refine d7 6 rfl rfl rfl (ArgsOK.of rfl) (a1L m hM) rfl rfl ?_
 refine o9 ?_
 refine d8 G 7 rfl rfl rfl rfl rfl ?_
 refine zgo ?_
 refine i7 [1,2,3] [0,1,2,3,6] (fun (i:Nat)=>[(4,.v (.int .i64 (i:Int)))]) (fun (i:Nat)=>[(4,some (.row 4 1 ((a7J m i).map r3))),(5,some (.nest 135 4 ((a1I m i).map (s6 169 182)) []))]) (fun (i:Nat)=>i≤8) (fun (i:Nat)=>8 - i) 0 rfl rfl ?_ ?_ ?_ ?_
 ·exact Nat.zero_le _
 ·exact ⟨⟨_,rfl,by rfl⟩,rfl,trivial⟩
 ·exact ⟨⟨_,rfl,by rfl⟩,rfl,rfl,⟨⟨_,rfl,by rfl⟩,rfl,rfl,trivial⟩⟩
 intro i hi
 have hrl:=@a57 m i
 have hcl:=@P7 m i
 have htg:=fun h=>hM.tg (i:=i) h
 simp only [List.cons_append,List.nil_append]
 refine zcd (fun h1=>?_) (fun h1=>?_)
 ·obtain ⟨hta,htb,htc⟩:=htg (by omega)
  obtain ⟨hst,hIG⟩:=a58 hM (i:=i) (k:=tgM m i) (by omega) htb
  have htd:tgM m i < m.cp.length:=htb
  refine zcd (fun h2=>?_) (fun h2=>?_)
  ·refine zcd (fun h3=>?_) (fun h3=>?_)
   ·refine zgo ?_
    refine a0P ?_
    refine b15 ?_
    refine a0P ?_
    refine b6o ?_
    refine zcl (a2I (m.cp.getD (tgM m i) default).st _ (by have:=(hM.ok _ htd).f.sn;omega)) ?_
    refine zcd (fun h4=>?_) (fun h4=>?_)
    ·have hcn:=b79 (m:=m) (i:=i) h2 h3 h4
     refine c31 ?_
     refine H6 (Gh.open (id:=5) (i:=(tgM m i)) (k:=1) 8 rfl rfl (c2e (by omega)) rfl rfl) (H6 (Gh.open (id:=5) (i:=(tgM m i)) (k:=2) 9 rfl rfl (a2T H8 rfl) rfl rfl) (H6 (Gh.open (id:=5) (i:=(tgM m i)) (k:=3) 10 rfl rfl (a2T H8 rfl) rfl rfl) (l4 18 [0,1,2,3,4,6,7,8,9] mixed b3 rfl rfl (fun r0=>?_) (fun _ h=>h))))
     refine a1e ?_
     refine zsa 4 ?_
     refine zsa 5 ?_
     refine zsa 8 ?_
     refine zsa 9 ?_
     refine zsa 10 ?_
     refine zsa 11 ?_
     refine zsa 12 ?_
     refine zsa 13 ?_
     refine zsa 14 ?_
     refine b5 (rs:=[6]) b3 rfl (AllB.cons ?_ AllB.nil)
     first | refine c7 [0,1,2,3,4,6,7,8,9] rfl rfl (b6 rfl rfl (s8 G rfl rfl rfl rfl rfl (by omega) a1z) (b4 ⟨rfl,?_⟩)) | refine c7 [0,1,2,3,4,6,7,8,9] rfl rfl (b6 rfl rfl (s8 G rfl rfl rfl rfl rfl (by omega) H8) (b4 ⟨rfl,?_⟩))
     refine b5 (rs:=[7]) b3 rfl (AllB.cons ?_ AllB.nil)
     refine i1 [0,1,2,3,4,6,7,8,9] rfl rfl (b6 rfl rfl (R0 G rfl rfl rfl rfl (a2T H8 rfl) rfl (.v (.own a6e (.own a6e (.own a6e .nil))))) (b4 ⟨rfl,?_⟩))
     refine b5 (rs:=[15]) b3 rfl (AllB.cons ?_ AllB.nil)
     refine i1 [0,1,2,3,4,6,7,8,9] rfl rfl (d7 13 rfl rfl rfl (ArgsOK.of rfl) (a7X ((a1I m i).getD (tgM m i) default) _ _ hIG.f (by omega) htc) rfl rfl (b4 ⟨rfl,?_⟩))
     refine a1Y (Gh.detach (id:=5) rfl) (a1Y (Gh.detach (id:=5) rfl) (a1Y (Gh.detach (id:=5) rfl) (b5 (rs:=[16]) b3 rfl (AllB.cons ?_ AllB.nil))))
     first | refine c7 [0,1,2,3,4,6,7,8,9] rfl rfl (b6 rfl rfl (s8 G rfl rfl rfl rfl rfl (by omega) a1z) (b4 ⟨rfl,?_⟩)) | refine c7 [0,1,2,3,4,6,7,8,9] rfl rfl (b6 rfl rfl (s8 G rfl rfl rfl rfl rfl (by omega) H8) (b4 ⟨rfl,?_⟩))
     refine b5 (rs:=[17]) b3 rfl (AllB.cons ?_ AllB.nil)
     refine i1 [0,1,2,3,4,6,7,8,9] rfl rfl (s1 G rfl rfl rfl rfl rfl (a2T H8 rfl) rfl rfl (.v rfl (.own rfl (.own rfl (.own rfl .nil)))) rfl rfl rfl (Nat.le_of_ble_eq_true rfl) (fun q h=>by cases h) rfl (b4 ⟨rfl,?_⟩))
     refine G3 ?_
     refine zgo ?_
     refine ⟨(i+1),?_,?_,⟨⟨_,rfl,by rfl⟩,rfl,trivial⟩,⟨⟨_,rfl,by (first | (rw [O5 hcn];done) | (rw [O7 hcn];done) | (rw [O4 hcn,List.map_set];rfl) | (rw [O6 hcn];exact congrArg (fun z=>Row.nest _ _ z []) a0E))⟩,rfl,rfl,⟨⟨_,rfl,by (first | (rw [O5 hcn];done) | (rw [O7 hcn];done) | (rw [O4 hcn,List.map_set];rfl) | (rw [O6 hcn];exact congrArg (fun z=>Row.nest _ _ z []) a0E))⟩,rfl,rfl,trivial⟩⟩,rfl,rfl,rfl⟩
     ·omega
     omega
    have hcn:=b8c (m:=m) (i:=i) h4
    refine zgo ?_
    refine ⟨(i+1),?_,?_,⟨⟨_,rfl,by rfl⟩,rfl,trivial⟩,⟨⟨_,rfl,by (first | (rw [O5 hcn];done) | (rw [O7 hcn];done) | (rw [O4 hcn,List.map_set];rfl) | (rw [O6 hcn];exact congrArg (fun z=>Row.nest _ _ z []) a0E))⟩,rfl,rfl,⟨⟨_,rfl,by (first | (rw [O5 hcn];done) | (rw [O7 hcn];done) | (rw [O4 hcn,List.map_set];rfl) | (rw [O6 hcn];exact congrArg (fun z=>Row.nest _ _ z []) a0E))⟩,rfl,rfl,trivial⟩⟩,rfl,rfl,rfl⟩
    ·omega
    omega
   have hcn:=b8b (m:=m) (i:=i) h3
   refine zwf ?_
   refine zgo ?_
   refine ⟨(i+1),?_,?_,⟨⟨_,rfl,by rfl⟩,rfl,trivial⟩,⟨⟨_,rfl,by (first | (rw [O5 hcn];done) | (rw [O7 hcn];done) | (rw [O4 hcn,List.map_set];rfl) | (rw [O6 hcn];exact congrArg (fun z=>Row.nest _ _ z []) a0E))⟩,rfl,rfl,⟨⟨_,rfl,by (first | (rw [O5 hcn];done) | (rw [O7 hcn];done) | (rw [O4 hcn,List.map_set];rfl) | (rw [O6 hcn];exact congrArg (fun z=>Row.nest _ _ z []) a0E))⟩,rfl,rfl,trivial⟩⟩,rfl,rfl,rfl⟩
   ·omega
   omega
  have hcn:=b8a (m:=m) (i:=i) h2
  refine zwf ?_
  refine zgo ?_
  refine ⟨(i+1),?_,?_,⟨⟨_,rfl,by rfl⟩,rfl,trivial⟩,⟨⟨_,rfl,by (first | (rw [O5 hcn];done) | (rw [O7 hcn];done) | (rw [O4 hcn,List.map_set];rfl) | (rw [O6 hcn];exact congrArg (fun z=>Row.nest _ _ z []) a0E))⟩,rfl,rfl,⟨⟨_,rfl,by (first | (rw [O5 hcn];done) | (rw [O7 hcn];done) | (rw [O4 hcn,List.map_set];rfl) | (rw [O6 hcn];exact congrArg (fun z=>Row.nest _ _ z []) a0E))⟩,rfl,rfl,trivial⟩⟩,rfl,rfl,rfl⟩
  ·omega
  omega
 obtain rfl:i=8:=(by omega)
 refine zgo ?_
 refine c6 (d9 rfl rfl rfl rfl (a7 (b7 rfl ?_) (a7 (b7 rfl ?_) (a7 (b7 rfl ?_) (a7 (n7 rfl ?_) b9)))))
 all_goals (rfl)
end Go.Proofs.YtpfhomblkgmkkaaGreatDoor
