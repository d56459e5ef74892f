/- Texts merged into one: W4, W5, M1, M2. -/
import Derived.Test.YtcnodpipinlpcaaGreatPFnExactAgreeOnA
set_option maxRecDepth 20000
set_option linter.unusedVariables false
set_option linter.unusedSimpArgs false
namespace Go.Proofs.YtcnodpipinlpcaaGreat
open Go Go.Rf
set_option maxHeartbeats 4000000 in
theorem c_impl_nextTaken (rs : List Route) (a : Abs) (c : Nat) (hF : AbsF rs a) (hc : c < a.ma.length) : Ctr Tryz.prog 66 [.lst 2 (rs.map encRo), .agg [.lst 1 (a.en.map encO), .lst 1 (a.ra.map encO), .lst 1 (a.po.map encO), .lst 1 (a.ma.map Rf.encI), .nst none 1 (a.st.map encSt)], .v (.int .i64 (c : Int))] (.one (.v (.int .i64 (nextT rs a c)))) := by
 have f0 := hF.n
 have f1 := hF.rn
 have f2 := hF.st
 have f3 := hF.en
 have f4 := hF.ra
 have f5 := hF.po
 have fl := hF.len c hc
 have fe := hF.el c hc
 have fm := hF.rt
 have ftn : (((a.st.getD c default).length : Int) - 1).toNat = (a.st.getD c default).length - 1 := (by omega)
 have ft : 0 < (a.st.getD c default).length → 0 ≤ (a.st.getD c default).getD (((a.st.getD c default).length : Int) - 1).toNat default ∧ (a.st.getD c default).getD (((a.st.getD c default).length : Int) - 1).toNat default ≤ 7 := fun h0 => (by rw [ftn]; exact fe _ (by omega))
 refine Ctr.of (n := 69) G Tryz.func66 rfl vm175 rfl rfl rfl (fun w0 => ?_)
 refine W_pinS 1 rfl (fun _ => rfl) (fun u1 => ?_)
 refine vm1 ?_
 refine zgd ?_
 refine zgo ?_
 refine QL_cons rfl (QX_q rfl rfl (q_load_eptN G rfl rfl rfl rfl) ?_)
 refine zcd (fun h1 => ?_) (fun h1 => ?_)
 ·refine zf1 ?_
  all_goals exact vm149
 refine zcd (fun h2 => ?_) (fun h2 => ?_)
 ·refine vm52 ?_
  refine WX_q rfl rfl (q_min' rfl rfl rfl) ?_
  refine zgo ?_
  refine W_loopK [2, 4, 40, 41] [0] (fun (i : Nat) => [(8, .v (.int .i64 (bestI rs a c (limT rs a c) i).2)), (9, .v (.int .i64 (bestI rs a c (limT rs a c) i).1)), (42, .v (.int .i64 (i : Int)))]) (fun (i : Nat) => []) (fun (i : Nat) => i ≤ rs.length) (fun (i : Nat) => rs.length - i) 0 rfl rfl ?_ ?_ ?_ ?_
  ·exact Nat.zero_le _
  ·exact ⟨⟨_, rfl, by first | rfl | (simp only [bestI]; rw [limT_1 (by omega)]; done) | (simp only [bestI]; rw [limT_0 (by omega)]; done)⟩, rfl, ⟨⟨_, rfl, by first | rfl | (simp only [bestI]; rw [limT_1 (by omega)]; done) | (simp only [bestI]; rw [limT_0 (by omega)]; done)⟩, rfl, ⟨⟨_, rfl, by first | rfl | (simp only [bestI]; rw [limT_1 (by omega)]; done) | (simp only [bestI]; rw [limT_0 (by omega)]; done)⟩, rfl, trivial⟩⟩⟩
  ·exact trivial
  intro i hinv
  simp only [List.cons_append, List.nil_append]
  refine zcd (fun h3 => ?_) (fun h3 => ?_)
  ·refine zgo ?_
   refine vm12 ?_
   refine zcd (fun h4 => ?_) (fun h4 => ?_)
   ·refine zcd (fun h5 => ?_) (fun h5 => ?_)
    ·refine zcd (fun h6 => ?_) (fun h6 => ?_)
     ·refine zgd ?_
      refine zgo ?_
      refine ⟨(i + 1), ?_, ?_, ⟨⟨_, rfl, by first | rfl | (rw [bestI_t vm177 vm177 vm177]; done) | (rw [bestI_f vm191]; done) | (rw [bestI_f vm190]; done)⟩, rfl, ⟨⟨_, rfl, by first | rfl | (rw [bestI_t vm177 vm177 vm177]; done) | (rw [bestI_f vm191]; done) | (rw [bestI_f vm190]; done)⟩, rfl, ⟨⟨_, rfl, by first | rfl | (rw [bestI_t vm177 vm177 vm177]; done) | (rw [bestI_f vm191]; done) | (rw [bestI_f vm190]; done)⟩, rfl, trivial⟩⟩⟩, trivial, rfl, rfl, rfl⟩
      ·omega
      omega
     refine zgo ?_
     refine ⟨(i + 1), ?_, ?_, ⟨⟨_, rfl, by first | rfl | (rw [bestI_t vm177 vm177 vm177]; done) | (rw [bestI_f vm191]; done) | (rw [bestI_f vm190]; done)⟩, rfl, ⟨⟨_, rfl, by first | rfl | (rw [bestI_t vm177 vm177 vm177]; done) | (rw [bestI_f vm191]; done) | (rw [bestI_f vm190]; done)⟩, rfl, ⟨⟨_, rfl, by first | rfl | (rw [bestI_t vm177 vm177 vm177]; done) | (rw [bestI_f vm191]; done) | (rw [bestI_f vm190]; done)⟩, rfl, trivial⟩⟩⟩, trivial, rfl, rfl, rfl⟩
     ·omega
     omega
    refine zwf ?_
    refine zgo ?_
    refine ⟨(i + 1), ?_, ?_, ⟨⟨_, rfl, by first | rfl | (rw [bestI_t vm177 vm177 vm177]; done) | (rw [bestI_f vm191]; done) | (rw [bestI_f vm190]; done)⟩, rfl, ⟨⟨_, rfl, by first | rfl | (rw [bestI_t vm177 vm177 vm177]; done) | (rw [bestI_f vm191]; done) | (rw [bestI_f vm190]; done)⟩, rfl, ⟨⟨_, rfl, by first | rfl | (rw [bestI_t vm177 vm177 vm177]; done) | (rw [bestI_f vm191]; done) | (rw [bestI_f vm190]; done)⟩, rfl, trivial⟩⟩⟩, trivial, rfl, rfl, rfl⟩
    ·omega
    omega
   refine zwf ?_
   refine zgo ?_
   refine ⟨(i + 1), ?_, ?_, ⟨⟨_, rfl, by first | rfl | (rw [bestI_t vm177 vm177 vm177]; done) | (rw [bestI_f vm191]; done) | (rw [bestI_f vm190]; done)⟩, rfl, ⟨⟨_, rfl, by first | rfl | (rw [bestI_t vm177 vm177 vm177]; done) | (rw [bestI_f vm191]; done) | (rw [bestI_f vm190]; done)⟩, rfl, ⟨⟨_, rfl, by first | rfl | (rw [bestI_t vm177 vm177 vm177]; done) | (rw [bestI_f vm191]; done) | (rw [bestI_f vm190]; done)⟩, rfl, trivial⟩⟩⟩, trivial, rfl, rfl, rfl⟩
   ·omega
   omega
  refine zf1 ?_
  all_goals exact vm149
 refine zgo ?_
 refine W_loopK [2, 4, 40, 41] [0] (fun (i : Nat) => [(8, .v (.int .i64 (bestI rs a c (limT rs a c) i).2)), (9, .v (.int .i64 (bestI rs a c (limT rs a c) i).1)), (42, .v (.int .i64 (i : Int)))]) (fun (i : Nat) => []) (fun (i : Nat) => i ≤ rs.length) (fun (i : Nat) => rs.length - i) 0 rfl rfl ?_ ?_ ?_ ?_
 ·exact Nat.zero_le _
 ·exact ⟨⟨_, rfl, by first | rfl | (simp only [bestI]; rw [limT_1 (by omega)]; done) | (simp only [bestI]; rw [limT_0 (by omega)]; done)⟩, rfl, ⟨⟨_, rfl, by first | rfl | (simp only [bestI]; rw [limT_1 (by omega)]; done) | (simp only [bestI]; rw [limT_0 (by omega)]; done)⟩, rfl, ⟨⟨_, rfl, by first | rfl | (simp only [bestI]; rw [limT_1 (by omega)]; done) | (simp only [bestI]; rw [limT_0 (by omega)]; done)⟩, rfl, trivial⟩⟩⟩
 ·exact trivial
 intro i hinv
 simp only [List.cons_append, List.nil_append]
 refine zcd (fun h7 => ?_) (fun h7 => ?_)
 ·refine zgo ?_
  refine vm12 ?_
  refine zcd (fun h8 => ?_) (fun h8 => ?_)
  ·refine zcd (fun h9 => ?_) (fun h9 => ?_)
   ·refine zcd (fun h10 => ?_) (fun h10 => ?_)
    ·refine zgd ?_
     refine zgo ?_
     refine ⟨(i + 1), ?_, ?_, ⟨⟨_, rfl, by first | rfl | (rw [bestI_t vm177 vm177 vm177]; done) | (rw [bestI_f vm191]; done) | (rw [bestI_f vm190]; done)⟩, rfl, ⟨⟨_, rfl, by first | rfl | (rw [bestI_t vm177 vm177 vm177]; done) | (rw [bestI_f vm191]; done) | (rw [bestI_f vm190]; done)⟩, rfl, ⟨⟨_, rfl, by first | rfl | (rw [bestI_t vm177 vm177 vm177]; done) | (rw [bestI_f vm191]; done) | (rw [bestI_f vm190]; done)⟩, rfl, trivial⟩⟩⟩, trivial, rfl, rfl, rfl⟩
     ·omega
     omega
    refine zgo ?_
    refine ⟨(i + 1), ?_, ?_, ⟨⟨_, rfl, by first | rfl | (rw [bestI_t vm177 vm177 vm177]; done) | (rw [bestI_f vm191]; done) | (rw [bestI_f vm190]; done)⟩, rfl, ⟨⟨_, rfl, by first | rfl | (rw [bestI_t vm177 vm177 vm177]; done) | (rw [bestI_f vm191]; done) | (rw [bestI_f vm190]; done)⟩, rfl, ⟨⟨_, rfl, by first | rfl | (rw [bestI_t vm177 vm177 vm177]; done) | (rw [bestI_f vm191]; done) | (rw [bestI_f vm190]; done)⟩, rfl, trivial⟩⟩⟩, trivial, rfl, rfl, rfl⟩
    ·omega
    omega
   refine zwf ?_
   refine zgo ?_
   refine ⟨(i + 1), ?_, ?_, ⟨⟨_, rfl, by first | rfl | (rw [bestI_t vm177 vm177 vm177]; done) | (rw [bestI_f vm191]; done) | (rw [bestI_f vm190]; done)⟩, rfl, ⟨⟨_, rfl, by first | rfl | (rw [bestI_t vm177 vm177 vm177]; done) | (rw [bestI_f vm191]; done) | (rw [bestI_f vm190]; done)⟩, rfl, ⟨⟨_, rfl, by first | rfl | (rw [bestI_t vm177 vm177 vm177]; done) | (rw [bestI_f vm191]; done) | (rw [bestI_f vm190]; done)⟩, rfl, trivial⟩⟩⟩, trivial, rfl, rfl, rfl⟩
   ·omega
   omega
  refine zwf ?_
  refine zgo ?_
  refine ⟨(i + 1), ?_, ?_, ⟨⟨_, rfl, by first | rfl | (rw [bestI_t vm177 vm177 vm177]; done) | (rw [bestI_f vm191]; done) | (rw [bestI_f vm190]; done)⟩, rfl, ⟨⟨_, rfl, by first | rfl | (rw [bestI_t vm177 vm177 vm177]; done) | (rw [bestI_f vm191]; done) | (rw [bestI_f vm190]; done)⟩, rfl, ⟨⟨_, rfl, by first | rfl | (rw [bestI_t vm177 vm177 vm177]; done) | (rw [bestI_f vm191]; done) | (rw [bestI_f vm190]; done)⟩, rfl, trivial⟩⟩⟩, trivial, rfl, rfl, rfl⟩
  ·omega
  omega
 refine zf1 ?_
 all_goals exact vm149
set_option maxHeartbeats 4000000 in
theorem c_spec_l25Next (rs : List Route) (a : Abs) (c : Nat) (hF : AbsF rs a) (hc : c < a.ma.length) : Ctr Tryz.prog 68 [.lst 2 (rs.map encRo), .agg [.lst 1 (a.en.map encO), .lst 1 (a.ra.map encO), .lst 1 (a.po.map encO), .lst 1 (a.ma.map Rf.encI), .nst none 1 (a.st.map encSt)], .v (.int .i64 (c : Int))] (.one (.v (.int .i64 (nextT rs a c)))) := by
 have f0 := hF.n
 have f1 := hF.rn
 have f2 := hF.st
 have f3 := hF.en
 have f4 := hF.ra
 have f5 := hF.po
 have fl := hF.len c hc
 have fe := hF.el c hc
 have fm := hF.rt
 have ftn : (((a.st.getD c default).length : Int) - 1).toNat = (a.st.getD c default).length - 1 := (by omega)
 have ft : 0 < (a.st.getD c default).length → 0 ≤ (a.st.getD c default).getD (((a.st.getD c default).length : Int) - 1).toNat default ∧ (a.st.getD c default).getD (((a.st.getD c default).length : Int) - 1).toNat default ≤ 7 := fun h0 => (by rw [ftn]; exact fe _ (by omega))
 refine Ctr.of (n := 97) G Tryz.func68 rfl vm175 rfl rfl rfl (fun w0 => ?_)
 refine W_pinS 1 rfl (fun _ => rfl) (fun u1 => ?_)
 refine vm1 ?_
 refine zgo ?_
 refine W_loopK [0, 2, 4] [0] (fun (i : Nat) => [(7, .v (.int .i64 (bestS rs a c i))), (8, .v (.int .i64 (i : Int)))]) (fun (i : Nat) => []) (fun (i : Nat) => i ≤ 8) (fun (i : Nat) => 8 - i) 0 rfl rfl ?_ ?_ ?_ ?_
 ·exact Nat.zero_le _
 ·exact ⟨⟨_, rfl, by (first | rfl | (simp; done) | (simp; omega))⟩, rfl, ⟨⟨_, rfl, by (first | rfl | (simp; done) | (simp; omega))⟩, rfl, trivial⟩⟩
 ·exact trivial
 intro i hinv
 have hbl := @bestS_lt rs a c i
 simp only [List.cons_append, List.nil_append]
 refine zcd (fun h1 => ?_) (fun h1 => ?_)
 ·refine zgd ?_
  refine zcd (fun h2 => ?_) (fun h2 => ?_)
  ·refine zcd (fun h3 => ?_) (fun h3 => ?_)
   ·refine zcd (fun h4 => ?_) (fun h4 => ?_)
    ·refine zwt ?_
     refine zgo ?_
     refine ⟨(i + 1), ?_, ?_, ⟨⟨_, rfl, by first | rfl | (rw [bestS_t vm177 vm177 (by omega)]; done) | (rw [bestS_f vm191]; done) | (rw [bestS_f vm190]; done)| (rw [bestS_f (fun _ _ => (by omega))]; done)⟩, rfl, ⟨⟨_, rfl, by first | rfl | (rw [bestS_t vm177 vm177 (by omega)]; done) | (rw [bestS_f vm191]; done) | (rw [bestS_f vm190]; done)| (rw [bestS_f (fun _ _ => (by omega))]; done)⟩, rfl, trivial⟩⟩, trivial, rfl, rfl, rfl⟩
     ·omega
     omega
    refine zcd (fun h5 => ?_) (fun h5 => ?_)
    ·refine zgo ?_
     refine ⟨(i + 1), ?_, ?_, ⟨⟨_, rfl, by first | rfl | (rw [bestS_t vm177 vm177 (by omega)]; done) | (rw [bestS_f vm191]; done) | (rw [bestS_f vm190]; done)| (rw [bestS_f (fun _ _ => (by omega))]; done)⟩, rfl, ⟨⟨_, rfl, by first | rfl | (rw [bestS_t vm177 vm177 (by omega)]; done) | (rw [bestS_f vm191]; done) | (rw [bestS_f vm190]; done)| (rw [bestS_f (fun _ _ => (by omega))]; done)⟩, rfl, trivial⟩⟩, trivial, rfl, rfl, rfl⟩
     ·omega
     omega
    refine zgo ?_
    refine ⟨(i + 1), ?_, ?_, ⟨⟨_, rfl, by first | rfl | (rw [bestS_t vm177 vm177 (by omega)]; done) | (rw [bestS_f vm191]; done) | (rw [bestS_f vm190]; done)| (rw [bestS_f (fun _ _ => (by omega))]; done)⟩, rfl, ⟨⟨_, rfl, by first | rfl | (rw [bestS_t vm177 vm177 (by omega)]; done) | (rw [bestS_f vm191]; done) | (rw [bestS_f vm190]; done)| (rw [bestS_f (fun _ _ => (by omega))]; done)⟩, rfl, trivial⟩⟩, trivial, rfl, rfl, rfl⟩
    ·omega
    omega
   refine zwf ?_
   refine zgo ?_
   refine ⟨(i + 1), ?_, ?_, ⟨⟨_, rfl, by first | rfl | (rw [bestS_t vm177 vm177 (by omega)]; done) | (rw [bestS_f vm191]; done) | (rw [bestS_f vm190]; done)| (rw [bestS_f (fun _ _ => (by omega))]; done)⟩, rfl, ⟨⟨_, rfl, by first | rfl | (rw [bestS_t vm177 vm177 (by omega)]; done) | (rw [bestS_f vm191]; done) | (rw [bestS_f vm190]; done)| (rw [bestS_f (fun _ _ => (by omega))]; done)⟩, rfl, trivial⟩⟩, trivial, rfl, rfl, rfl⟩
   ·omega
   omega
  refine zwf ?_
  refine zgo ?_
  refine ⟨(i + 1), ?_, ?_, ⟨⟨_, rfl, by first | rfl | (rw [bestS_t vm177 vm177 (by omega)]; done) | (rw [bestS_f vm191]; done) | (rw [bestS_f vm190]; done)| (rw [bestS_f (fun _ _ => (by omega))]; done)⟩, rfl, ⟨⟨_, rfl, by first | rfl | (rw [bestS_t vm177 vm177 (by omega)]; done) | (rw [bestS_f vm191]; done) | (rw [bestS_f vm190]; done)| (rw [bestS_f (fun _ _ => (by omega))]; done)⟩, rfl, trivial⟩⟩, trivial, rfl, rfl, rfl⟩
  ·omega
  omega
 refine vm52 ?_
 refine vm58 ?_
 refine zgd ?_
 refine zcd (fun h6 => ?_) (fun h6 => ?_)
 ·refine zwt ?_
  refine zf1 ?_
  all_goals exact vm122
 refine zcd (fun h7 => ?_) (fun h7 => ?_)
 ·refine zwt ?_
  refine zf1 ?_
  all_goals exact vm122
 refine zcd (fun h8 => ?_) (fun h8 => ?_)
 ·refine zwt ?_
  refine zf1 ?_
  all_goals exact vm122
 refine zcd (fun h9 => ?_) (fun h9 => ?_)
 ·refine zgo ?_
  refine vm73 ?_
  refine zcd (fun h10 => ?_) (fun h10 => ?_)
  ·refine zf1 ?_
   all_goals exact vm122
  refine zf1 ?_
  all_goals exact vm122
 refine zwf ?_
 refine zf1 ?_
 all_goals exact vm122
end Go.Proofs.YtcnodpipinlpcaaGreat
set_option maxRecDepth 20000
set_option linter.unusedVariables false
set_option linter.unusedSimpArgs false
namespace Go.Proofs.YtcnodpipinlpcaaGreat
open Go Go.Rf
set_option maxHeartbeats 4000000 in
theorem c_impl_copyInts (l : List Int) (hn : l.length ≤ 1048576) : Ctr Tryz.prog 128 [.lst 1 (l.map Rf.encI)] (.one (.fr 3 1 (l.map Rf.encI))) := by
 refine Ctr.of (n := 6) G Tryz.func128 rfl vm175 rfl rfl rfl (fun w0 => ?_)
 refine vm84 ?_
 refine vm52 ?_
 refine WX_append G np rfl rfl rfl rfl rfl rfl rfl rfl rfl vm187 rfl rfl ?_
 refine zfo ?_
 all_goals (first | rfl | simp)
set_option maxHeartbeats 4000000 in
theorem c_spec_l1Own (l : List Int) (hn : l.length ≤ 1048576) : Ctr Tryz.prog 132 [.lst 1 (l.map Rf.encI)] (.one (.fr 3 1 (l.map Rf.encI))) := by
 refine Ctr.of (n := 6) G Tryz.func132 rfl vm175 rfl rfl rfl (fun w0 => ?_)
 refine vm84 ?_
 refine vm52 ?_
 refine WX_append G np rfl rfl rfl rfl rfl rfl rfl rfl rfl vm187 rfl rfl ?_
 refine zfo ?_
 all_goals (first | rfl | simp)
set_option maxHeartbeats 2000000 in
set_option maxHeartbeats 4000000 in
theorem c_impl_newAbstract (a : Abs) (hs : SmallA a) : Ctr Tryz.prog 56 [.agg [.lst 1 (a.en.map encO), .lst 1 (a.ra.map encO), .lst 1 (a.po.map encO), .lst 1 (a.ma.map Rf.encI), .nst none 1 (a.st.map encSt)]] (.shp true [some 5] [.fr 4 1 (a.en.map encO), .fr 4 1 (a.ra.map encO), .fr 4 1 (a.po.map encO), .fr 3 1 (a.ma.map Rf.encI), .ne 26 1 (a.st.map encSt)]) := by
 have hz0 := hs.en
 have hz1 := hs.ra
 have hz2 := hs.po
 have hz3 := hs.ma
 have hz4 := hs.st
 refine Ctr.of (n := 39) G Tryz.func56 rfl vm175 rfl rfl rfl (fun w0 => ?_)
 refine W_pinS 0 rfl (fun _ => rfl) (fun u0 => ?_)
 refine vm91 ?_
 refine W_sq (W_drawsH 19 [0, 1] mixed vm175 rfl rfl (fun r0 => ?_) (fun _ h => h))
 refine vm77 ?_
 refine zsa 9 ?_
 refine zsa 10 ?_
 refine zsa 12 ?_
 refine zsa 13 ?_
 refine WA_more (N := 7) rfl (WAV_startH (fuel := 6) [⟨0, 6, 2, false, .row 4 1 []⟩, ⟨4, 10, 3, false, .row 4 1 []⟩, ⟨8, 14, 4, false, .row 4 1 []⟩, ⟨15, 21, 5, false, .row 26 1 []⟩, ⟨17, 3, 6, true, .box (avR [.slice none 0 0, .slice none 0 0, .slice none 0 0, .slice none 0 0, .slice none 0 0] [])⟩] (AllVOK.cons (VOK.lit G rfl rfl rfl rfl rfl) (AllVOK.cons (VOK.lit G rfl rfl rfl rfl rfl) (AllVOK.cons (VOK.lit G rfl rfl rfl rfl rfl) (AllVOK.cons (VOK.lit G rfl rfl rfl rfl rfl) (AllVOK.cons (VOK.boxS G rfl rfl rfl rfl rfl) (AllVOK.nil)))))) (fun hok => ?_))
 refine WAV_go [(3, [0])] vm175 vm175 (fun e he => hok e he) vm175 (AllVS.cons ?_ AllVS.nil)
 refine VStep.mk1 [0, 1] 6 (.own 2) 2 (.row 4 1 []) [⟨4, 10, 3, false, .row 4 1 []⟩, ⟨8, 14, 4, false, .row 4 1 []⟩, ⟨15, 21, 5, false, .row 26 1 []⟩, ⟨17, 3, 6, true, .box (avR [.slice none 0 0, .slice none 0 0, .slice none 0 0, .slice none 0 0, .slice none 0 0] [])⟩] rfl rfl rfl rfl rfl (fun b1 _ hbn => WX_append G vm185 rfl rfl rfl rfl rfl rfl rfl rfl rfl vm187 rfl rfl (WL_nil rfl)) vm175 vm175 vm175 vm175 (WAV_go [(7, [4])] vm175 vm175 (fun e he => hok e (vin (is := [0]) rfl he)) vm175 (AllVS.cons ?_ AllVS.nil))
 refine VStep.mk1 [0, 1] 10 (.own 3) 3 (.row 4 1 []) [⟨8, 14, 4, false, .row 4 1 []⟩, ⟨15, 21, 5, false, .row 26 1 []⟩, ⟨17, 3, 6, true, .box (avR [.slice none 0 0, .slice none 0 0, .slice none 0 0, .slice none 0 0, .slice none 0 0] [])⟩] rfl rfl rfl rfl rfl (fun b1 _ hbn => WX_append G vm185 rfl rfl rfl rfl rfl rfl rfl rfl rfl vm187 rfl rfl (WL_nil rfl)) vm175 vm175 vm175 vm175 (WAV_go [(11, [8])] vm175 vm175 (fun e he => hok e (vin (is := [0, 4]) rfl he)) vm175 (AllVS.cons ?_ AllVS.nil))
 refine VStep.mk1 [0, 1] 14 (.own 4) 4 (.row 4 1 []) [⟨15, 21, 5, false, .row 26 1 []⟩, ⟨17, 3, 6, true, .box (avR [.slice none 0 0, .slice none 0 0, .slice none 0 0, .slice none 0 0, .slice none 0 0] [])⟩] rfl rfl rfl rfl rfl (fun b1 _ hbn => WX_append G vm185 rfl rfl rfl rfl rfl rfl rfl rfl rfl vm187 rfl rfl (WL_nil rfl)) vm175 vm175 vm175 vm175 (WAV_go [(14, [])] vm175 vm175 (fun e he => hok e (vin (is := [0, 4, 8]) rfl he)) vm175 (AllVS.cons ?_ AllVS.nil))
 refine VStep.mk0 [0, 1] rfl rfl (fun b1 _ hbn => WX_call 8 rfl rfl rfl (ArgsOK.of rfl) (c_impl_copyInts _ hs.ma) rfl rfl (WL_nil rfl)) vm175 vm175 vm175 vm175 (WAV_go [(16, [15])] vm175 vm175 (fun e he => hok e (vin (is := [0, 4, 8]) rfl he)) vm175 (AllVS.cons ?_ AllVS.nil))
 refine VStep.mk1 [0, 1] 21 (.own 5) 5 (.row 26 1 []) [⟨17, 3, 6, true, .box (avR [.slice none 0 0, .slice none 0 0, .slice none 0 0, .slice none 0 0, .slice none 0 0] [])⟩] rfl rfl rfl rfl rfl (fun b1 _ hbn => WX_q rfl rfl (q_build G rfl rfl rfl rfl) (WL_nil rfl)) vm175 vm175 vm175 vm175 (WAV_go [(18, [17])] vm175 vm175 (fun e he => hok e (vin (is := [0, 4, 8, 15]) rfl he)) vm175 (AllVS.cons ?_ AllVS.nil))
 refine vm56 ?_
 clear hok
 refine vm70 ?_
 refine W_loopK [2, 3, 24, 25] [1, 2, 3, 4, 6, 7] (fun (k : Nat) => [(26, .v (.int .i64 (k : Int)))]) (fun (k : Nat) => [(5, some (.nest 26 1 ((a.st.take k).map encSt) []))]) (fun (k : Nat) => k ≤ a.st.length) (fun (k : Nat) => a.st.length - k) 0 rfl rfl ?_ ?_ ?_ ?_
 ·exact Nat.zero_le _
 ·exact ⟨⟨_, rfl, by (first | rfl | (simp; done) | (simp; omega))⟩, rfl, trivial⟩
 ·exact ⟨⟨_, rfl, by rfl⟩, rfl, rfl, trivial⟩
 intro k hinv
 simp only [List.cons_append, List.nil_append]
 refine zcd (fun h1 => ?_) (fun h1 => ?_)
 ·refine vm52 ?_
  refine vm58 ?_
  refine zgo ?_
  apply W_drawsJ [2, 3, 24, 25, 26] [1, 2, 3, 4, 6, 7, 10] 11 8 [1, 2, 3, 4, 7] mixed vm175 rfl rfl (fun _ h => znk h)
  ·intro r0
   refine zsa 0 ?_
   refine zsa 2 ?_
   refine WA_branch (rs := [1, 3]) vm175 rfl (AllB.cons ?_ (AllB.cons ?_ AllB.nil))
   ·refine vm54 ?_
    refine WA_branch (rs := [3]) vm175 rfl (AllB.cons ?_ AllB.nil)
    refine WB_rn [1, 2, 3, 4, 7] rfl rfl (WX_call 9 rfl rfl rfl (ArgsOK.of rfl) (c_impl_copyInts _ (hs.all k (by omega))) rfl rfl (WL_nil ⟨rfl, ?_⟩))
    refine WA_branch (rs := [4]) vm175 rfl (AllB.cons ?_ AllB.nil)
    refine WB_rn [1, 2, 3, 4, 7] rfl rfl (WX_lit_nest G 10 rfl rfl rfl rfl rfl rfl rfl rfl (.own rfl .nil) rfl rfl rfl rfl (WL_nil ⟨rfl, ?_⟩))
    refine WA_branch (rs := [5]) vm175 rfl (AllB.cons ?_ AllB.nil)
    refine WB_run [1, 2, 3, 4, 7] rfl rfl (WX_gh (Gh.forget (id := 6) (k := 4) rfl rfl) <| WX_ren (tx := 31) 11 rfl rfl rfl rfl rfl <| WX_append_nest G vm181 rfl rfl rfl rfl rfl rfl rfl rfl rfl rfl vm187 rfl rfl (WL_nil ⟨rfl, ?_⟩))
    refine zsa 6 ?_
    refine WA_branch (rs := [7]) vm175 rfl (AllB.cons ?_ AllB.nil)
    refine vm54 ?_
    exact WA_end vm175 (Meet.mk rfl rfl rfl rfl)
   refine WB_rn [1, 2, 3, 4, 7] rfl rfl (WX_call 9 rfl rfl rfl (ArgsOK.of rfl) (c_impl_copyInts _ (hs.all k (by omega))) rfl rfl (WL_nil ⟨rfl, ?_⟩))
   refine WA_branch (rs := [1, 4]) vm175 rfl (AllB.cons ?_ (AllB.cons ?_ AllB.nil))
   ·refine vm54 ?_
    refine WA_branch (rs := [4]) vm175 rfl (AllB.cons ?_ AllB.nil)
    refine WB_rn [1, 2, 3, 4, 7] rfl rfl (WX_lit_nest G 10 rfl rfl rfl rfl rfl rfl rfl rfl (.own rfl .nil) rfl rfl rfl rfl (WL_nil ⟨rfl, ?_⟩))
    refine WA_branch (rs := [5]) vm175 rfl (AllB.cons ?_ AllB.nil)
    refine WB_run [1, 2, 3, 4, 7] rfl rfl (WX_gh (Gh.forget (id := 6) (k := 4) rfl rfl) <| WX_ren (tx := 31) 11 rfl rfl rfl rfl rfl <| WX_append_nest G vm181 rfl rfl rfl rfl rfl rfl rfl rfl rfl rfl vm187 rfl rfl (WL_nil ⟨rfl, ?_⟩))
    refine zsa 6 ?_
    refine WA_branch (rs := [7]) vm175 rfl (AllB.cons ?_ AllB.nil)
    refine vm54 ?_
    exact WA_end vm175 (Meet.mk rfl rfl rfl rfl)
   refine WB_rn [1, 2, 3, 4, 7] rfl rfl (WX_lit_nest G 10 rfl rfl rfl rfl rfl rfl rfl rfl (.own rfl .nil) rfl rfl rfl rfl (WL_nil ⟨rfl, ?_⟩))
   refine WA_branch (rs := [1]) vm175 rfl (AllB.cons ?_ AllB.nil)
   refine vm54 ?_
   refine WA_branch (rs := [5]) vm175 rfl (AllB.cons ?_ AllB.nil)
   refine WB_run [1, 2, 3, 4, 7] rfl rfl (WX_gh (Gh.forget (id := 6) (k := 4) rfl rfl) <| WX_ren (tx := 31) 11 rfl rfl rfl rfl rfl <| WX_append_nest G vm181 rfl rfl rfl rfl rfl rfl rfl rfl rfl rfl vm187 rfl rfl (WL_nil ⟨rfl, ?_⟩))
   refine zsa 6 ?_
   refine WA_branch (rs := [7]) vm175 rfl (AllB.cons ?_ AllB.nil)
   refine vm54 ?_
   exact WA_end vm175 (Meet.mk rfl rfl rfl rfl)
  refine W_region ?_
  refine vm33 ?_
  refine WL_gh (Gh.sub 10 5 np rfl rfl rfl) (WL_nil ⟨(k + 1), ?_, ?_, ⟨⟨_, rfl, by rfl⟩, rfl, trivial⟩, ⟨⟨_, rfl, by (rw [takeN (by omega)]; done)⟩, rfl, rfl, trivial⟩, rfl, rfl, rfl⟩)
  ·omega
  omega
 refine zgo ?_
 refine W_ret (fin_shp rfl rfl rfl rfl (rcs_cons (rc_own rfl ?_) (rcs_cons (rc_own rfl ?_) (rcs_cons (rc_own rfl ?_) (rcs_cons (rc_own rfl ?_) (rcs_cons (rc_ne rfl ?_) rcs_nil))))))
 all_goals (first | rfl | (exact takeN_all (by omega)) | simp)
set_option maxHeartbeats 2000000 in
set_option maxHeartbeats 4000000 in
theorem c_spec_l25Own (a : Abs) (hs : SmallA a) : Ctr Tryz.prog 60 [.agg [.lst 1 (a.en.map encO), .lst 1 (a.ra.map encO), .lst 1 (a.po.map encO), .lst 1 (a.ma.map Rf.encI), .nst none 1 (a.st.map encSt)]] (.shp true [some 5] [.fr 4 1 (a.en.map encO), .fr 4 1 (a.ra.map encO), .fr 4 1 (a.po.map encO), .fr 3 1 (a.ma.map Rf.encI), .ne 26 1 (a.st.map encSt)]) := by
 have hz0 := hs.en
 have hz1 := hs.ra
 have hz2 := hs.po
 have hz3 := hs.ma
 have hz4 := hs.st
 refine Ctr.of (n := 41) G Tryz.func60 rfl vm175 rfl rfl rfl (fun w0 => ?_)
 refine W_pinS 0 rfl (fun _ => rfl) (fun u0 => ?_)
 refine vm91 ?_
 refine W_sq (W_drawsH 19 [0, 1] mixed vm175 rfl rfl (fun r0 => ?_) (fun _ h => h))
 refine vm77 ?_
 refine zsa 9 ?_
 refine zsa 10 ?_
 refine zsa 12 ?_
 refine zsa 13 ?_
 refine WA_more (N := 7) rfl (WAV_startH (fuel := 6) [⟨0, 5, 2, false, .row 4 1 []⟩, ⟨4, 9, 3, false, .row 4 1 []⟩, ⟨8, 13, 4, false, .row 4 1 []⟩, ⟨15, 20, 5, false, .row 26 1 []⟩, ⟨17, 3, 6, true, .box (avR [.slice none 0 0, .slice none 0 0, .slice none 0 0, .slice none 0 0, .slice none 0 0] [])⟩] (AllVOK.cons (VOK.lit G rfl rfl rfl rfl rfl) (AllVOK.cons (VOK.lit G rfl rfl rfl rfl rfl) (AllVOK.cons (VOK.lit G rfl rfl rfl rfl rfl) (AllVOK.cons (VOK.lit G rfl rfl rfl rfl rfl) (AllVOK.cons (VOK.boxS G rfl rfl rfl rfl rfl) (AllVOK.nil)))))) (fun hok => ?_))
 refine WAV_go [(3, [0])] vm175 vm175 (fun e he => hok e he) vm175 (AllVS.cons ?_ AllVS.nil)
 refine VStep.mk1 [0, 1] 5 (.own 2) 2 (.row 4 1 []) [⟨4, 9, 3, false, .row 4 1 []⟩, ⟨8, 13, 4, false, .row 4 1 []⟩, ⟨15, 20, 5, false, .row 26 1 []⟩, ⟨17, 3, 6, true, .box (avR [.slice none 0 0, .slice none 0 0, .slice none 0 0, .slice none 0 0, .slice none 0 0] [])⟩] rfl rfl rfl rfl rfl (fun b1 _ hbn => WX_append G vm185 rfl rfl rfl rfl rfl rfl rfl rfl rfl vm187 rfl rfl (WL_nil rfl)) vm175 vm175 vm175 vm175 (WAV_go [(7, [4])] vm175 vm175 (fun e he => hok e (vin (is := [0]) rfl he)) vm175 (AllVS.cons ?_ AllVS.nil))
 refine VStep.mk1 [0, 1] 9 (.own 3) 3 (.row 4 1 []) [⟨8, 13, 4, false, .row 4 1 []⟩, ⟨15, 20, 5, false, .row 26 1 []⟩, ⟨17, 3, 6, true, .box (avR [.slice none 0 0, .slice none 0 0, .slice none 0 0, .slice none 0 0, .slice none 0 0] [])⟩] rfl rfl rfl rfl rfl (fun b1 _ hbn => WX_append G vm185 rfl rfl rfl rfl rfl rfl rfl rfl rfl vm187 rfl rfl (WL_nil rfl)) vm175 vm175 vm175 vm175 (WAV_go [(11, [8])] vm175 vm175 (fun e he => hok e (vin (is := [0, 4]) rfl he)) vm175 (AllVS.cons ?_ AllVS.nil))
 refine VStep.mk1 [0, 1] 13 (.own 4) 4 (.row 4 1 []) [⟨15, 20, 5, false, .row 26 1 []⟩, ⟨17, 3, 6, true, .box (avR [.slice none 0 0, .slice none 0 0, .slice none 0 0, .slice none 0 0, .slice none 0 0] [])⟩] rfl rfl rfl rfl rfl (fun b1 _ hbn => WX_append G vm185 rfl rfl rfl rfl rfl rfl rfl rfl rfl vm187 rfl rfl (WL_nil rfl)) vm175 vm175 vm175 vm175 (WAV_go [(14, [])] vm175 vm175 (fun e he => hok e (vin (is := [0, 4, 8]) rfl he)) vm175 (AllVS.cons ?_ AllVS.nil))
 refine VStep.mk0 [0, 1] rfl rfl (fun b1 _ hbn => WX_call 8 rfl rfl rfl (ArgsOK.of rfl) (c_spec_l1Own _ hs.ma) rfl rfl (WL_nil rfl)) vm175 vm175 vm175 vm175 (WAV_go [(16, [15])] vm175 vm175 (fun e he => hok e (vin (is := [0, 4, 8]) rfl he)) vm175 (AllVS.cons ?_ AllVS.nil))
 refine VStep.mk1 [0, 1] 20 (.own 5) 5 (.row 26 1 []) [⟨17, 3, 6, true, .box (avR [.slice none 0 0, .slice none 0 0, .slice none 0 0, .slice none 0 0, .slice none 0 0] [])⟩] rfl rfl rfl rfl rfl (fun b1 _ hbn => WX_q rfl rfl (q_build G rfl rfl rfl rfl) (WL_nil rfl)) vm175 vm175 vm175 vm175 (WAV_go [(18, [17])] vm175 vm175 (fun e he => hok e (vin (is := [0, 4, 8, 15]) rfl he)) vm175 (AllVS.cons ?_ AllVS.nil))
 refine vm56 ?_
 clear hok
 refine vm70 ?_
 refine W_loopK [1, 2, 3] [0, 1, 2, 3, 4, 6, 7] (fun (k : Nat) => [(4, .v (.int .i64 (k : Int)))]) (fun (k : Nat) => [(5, some (.nest 26 1 ((a.st.take k).map encSt) []))]) (fun (k : Nat) => k ≤ a.st.length) (fun (k : Nat) => a.st.length - k) 0 rfl rfl ?_ ?_ ?_ ?_
 ·exact Nat.zero_le _
 ·exact ⟨⟨_, rfl, by (first | rfl | (simp; done) | (simp; omega))⟩, rfl, trivial⟩
 ·exact ⟨⟨_, rfl, by rfl⟩, rfl, rfl, trivial⟩
 intro k hinv
 simp only [List.cons_append, List.nil_append]
 refine zcd (fun h1 => ?_) (fun h1 => ?_)
 ·refine zgo ?_
  apply W_drawsJ [1, 2, 3, 4] [0, 1, 2, 3, 4, 6, 7, 10] 11 12 [0, 1, 2, 3, 4, 7] mixed vm175 rfl rfl (fun _ h => znk h)
  ·intro r0
   refine zsa 0 ?_
   refine zsa 2 ?_
   refine zsa 3 ?_
   refine vm61 ?_
   refine WA_take 6 rfl vm175 vm175 rfl rfl rfl rfl (q_load_eptN G rfl rfl rfl rfl) (WA_branch (rs := [1, 7]) vm175 rfl (AllB.cons ?_ (AllB.cons ?_ AllB.nil)))
   ·refine vm88 ?_
    refine WA_branch (rs := [7]) vm175 rfl (AllB.cons ?_ AllB.nil)
    refine WB_rn [0, 1, 2, 3, 4, 7] rfl rfl (WX_call 9 rfl rfl rfl (ArgsOK.of rfl) (c_spec_l1Own _ (hs.all k (by omega))) rfl rfl (WL_nil ⟨rfl, ?_⟩))
    refine WA_branch (rs := [8]) vm175 rfl (AllB.cons ?_ AllB.nil)
    refine WB_rn [0, 1, 2, 3, 4, 7] rfl rfl (WX_lit_nest G 10 rfl rfl rfl rfl rfl rfl rfl rfl (.own rfl .nil) rfl rfl rfl rfl (WL_nil ⟨rfl, ?_⟩))
    refine WA_branch (rs := [9]) vm175 rfl (AllB.cons ?_ AllB.nil)
    refine WB_run [0, 1, 2, 3, 4, 7] rfl rfl (WX_gh (Gh.forget (id := 6) (k := 4) rfl rfl) <| WX_ren (tx := 30) 11 rfl rfl rfl rfl rfl <| WX_append_nest G vm181 rfl rfl rfl rfl rfl rfl rfl rfl rfl rfl vm187 rfl rfl (WL_nil ⟨rfl, ?_⟩))
    refine zsa 10 ?_
    refine WA_branch (rs := [11]) vm175 rfl (AllB.cons ?_ AllB.nil)
    refine vm88 ?_
    exact WA_end vm175 (Meet.mk rfl rfl rfl rfl)
   refine WB_rn [0, 1, 2, 3, 4, 7] rfl rfl (WX_call 9 rfl rfl rfl (ArgsOK.of rfl) (c_spec_l1Own _ (hs.all k (by omega))) rfl rfl (WL_nil ⟨rfl, ?_⟩))
   refine WA_branch (rs := [1, 8]) vm175 rfl (AllB.cons ?_ (AllB.cons ?_ AllB.nil))
   ·refine vm88 ?_
    refine WA_branch (rs := [8]) vm175 rfl (AllB.cons ?_ AllB.nil)
    refine WB_rn [0, 1, 2, 3, 4, 7] rfl rfl (WX_lit_nest G 10 rfl rfl rfl rfl rfl rfl rfl rfl (.own rfl .nil) rfl rfl rfl rfl (WL_nil ⟨rfl, ?_⟩))
    refine WA_branch (rs := [9]) vm175 rfl (AllB.cons ?_ AllB.nil)
    refine WB_run [0, 1, 2, 3, 4, 7] rfl rfl (WX_gh (Gh.forget (id := 6) (k := 4) rfl rfl) <| WX_ren (tx := 30) 11 rfl rfl rfl rfl rfl <| WX_append_nest G vm181 rfl rfl rfl rfl rfl rfl rfl rfl rfl rfl vm187 rfl rfl (WL_nil ⟨rfl, ?_⟩))
    refine zsa 10 ?_
    refine WA_branch (rs := [11]) vm175 rfl (AllB.cons ?_ AllB.nil)
    refine vm88 ?_
    exact WA_end vm175 (Meet.mk rfl rfl rfl rfl)
   refine WB_rn [0, 1, 2, 3, 4, 7] rfl rfl (WX_lit_nest G 10 rfl rfl rfl rfl rfl rfl rfl rfl (.own rfl .nil) rfl rfl rfl rfl (WL_nil ⟨rfl, ?_⟩))
   refine WA_branch (rs := [1]) vm175 rfl (AllB.cons ?_ AllB.nil)
   refine vm88 ?_
   refine WA_branch (rs := [9]) vm175 rfl (AllB.cons ?_ AllB.nil)
   refine WB_run [0, 1, 2, 3, 4, 7] rfl rfl (WX_gh (Gh.forget (id := 6) (k := 4) rfl rfl) <| WX_ren (tx := 30) 11 rfl rfl rfl rfl rfl <| WX_append_nest G vm181 rfl rfl rfl rfl rfl rfl rfl rfl rfl rfl vm187 rfl rfl (WL_nil ⟨rfl, ?_⟩))
   refine zsa 10 ?_
   refine WA_branch (rs := [11]) vm175 rfl (AllB.cons ?_ AllB.nil)
   refine vm88 ?_
   exact WA_end vm175 (Meet.mk rfl rfl rfl rfl)
  refine vm41 ?_
  refine WL_gh (Gh.sub 10 5 np rfl rfl rfl) (WL_nil ⟨(k + 1), ?_, ?_, ⟨⟨_, rfl, by rfl⟩, rfl, trivial⟩, ⟨⟨_, rfl, by (rw [takeN (by omega)]; done)⟩, rfl, rfl, trivial⟩, rfl, rfl, rfl⟩)
  ·omega
  omega
 refine zgo ?_
 refine W_ret (fin_shp rfl rfl rfl rfl (rcs_cons (rc_own rfl ?_) (rcs_cons (rc_own rfl ?_) (rcs_cons (rc_own rfl ?_) (rcs_cons (rc_own rfl ?_) (rcs_cons (rc_ne rfl ?_) rcs_nil))))))
 all_goals (first | rfl | (exact takeN_all (by omega)) | simp)
end Go.Proofs.YtcnodpipinlpcaaGreat
set_option maxRecDepth 20000
set_option linter.unusedVariables false
set_option linter.unusedSimpArgs false
namespace Go.Proofs.YtcnodpipinlpcaaGreat
open Go Go.Rf
theorem eqT154_cmpisNaNint : eqTypeB Tryz.prog 154 [.int .i64, .int .i64, .int .i64] = true := by kernel_rfl
set_option maxHeartbeats 4000000 in
theorem c_cmp_isNaN_int (x : Int) : Ctr Tryz.prog 272 [.v (.int .i64 x)] (.one (.v (.bool (false)))) := by
 refine Ctr.of (n := 6) G Tryz.func272 rfl vm175 rfl rfl rfl (fun w0 => ?_)
 refine zf1 ?_
 all_goals (simp)
set_option maxHeartbeats 4000000 in
theorem c_cmp_Compare_int (x y : Int) : Ctr Tryz.prog 238 [.v (.int .i64 x), .v (.int .i64 y)] (.one (.v (.int .i64 (cmpN x y)))) := by
 refine Ctr.of (n := 20) G Tryz.func238 rfl vm175 rfl rfl rfl (fun w0 => ?_)
 refine zcl (c_cmp_isNaN_int _) ?_
 refine zcl (c_cmp_isNaN_int _) ?_
 refine zwf ?_
 refine zwf ?_
 refine zcd (fun h1 => ?_) (fun h1 => ?_)
 ·refine zf1 ?_
  all_goals exact vm150
 refine zcd (fun h2 => ?_) (fun h2 => ?_)
 ·refine zf1 ?_
  all_goals exact vm150
 refine zf1 ?_
 all_goals exact vm150
set_option maxHeartbeats 4000000 in
theorem c_cmp_Or_int (l : List Int) (hn : l.length ≤ 1048576) : Ctr Tryz.prog 237 [.lst 1 (l.map Rf.encI)] (.one (.v (.int .i64 (orI l)))) := by
 refine Ctr.of (n := 18) G Tryz.func237 rfl vm175 rfl rfl rfl (fun w0 => ?_)
 refine zgo ?_
 refine W_loopK [3, 6, 7] [] (fun (i : Nat) => [(8, .v (.int .i64 (i : Int)))]) (fun (i : Nat) => []) (fun (i : Nat) => i ≤ l.length ∧ ∀ j, j < i → l.getD j default = 0) (fun (i : Nat) => l.length - i) 0 rfl rfl ?_ ?_ ?_ ?_
 ·exact ⟨Nat.zero_le _, fun j hj => by omega⟩
 ·exact ⟨⟨_, rfl, by (first | rfl | (simp; done) | (simp; omega))⟩, rfl, trivial⟩
 ·exact trivial
 intro i hinv
 simp only [List.cons_append, List.nil_append]
 refine zcd (fun h1 => ?_) (fun h1 => ?_)
 ·refine zcd (fun h2 => ?_) (fun h2 => ?_)
  ·refine zf1 ?_
   all_goals exact vm163
  refine zgo ?_
  refine ⟨(i + 1), ?_, ?_, ⟨⟨_, rfl, by rfl⟩, rfl, trivial⟩, trivial, rfl, rfl, rfl⟩
  ·exact ⟨by omega, upto_succ hinv.2 vm177⟩
  omega
 refine zf1 ?_
 all_goals exact vm163
set_option maxHeartbeats 4000000 in
theorem c_impl_compareUrgency (a b : Wtr) : Ctr Tryz.prog 201 [.v (encWv a), .v (encWv b)] (.one (.v (.int .i64 (urg a b)))) := by
 refine Ctr.of (n := 17) G Tryz.func201 rfl vm175 rfl rfl rfl (fun w0 => ?_)
 refine vm26 ?_
 refine zgn ?_
 refine W_sq (W_drawsH 13 [0, 1] mixed vm175 rfl rfl (fun r0 => ?_) (fun _ h => h))
 refine vm23 ?_
 refine zsa 5 ?_
 refine zsa 6 ?_
 refine zsa 7 ?_
 refine zsa 8 ?_
 refine WA_branch (rs := [4]) vm175 rfl (AllB.cons ?_ AllB.nil)
 refine WB_rn [0, 1] rfl rfl (WX_q rfl rfl (q_call rfl (ArgsOK.of rfl) (c_cmp_Compare_int _ _) rfl) (WL_nil ⟨rfl, ?_⟩))
 refine WA_branch (rs := [9]) vm175 rfl (AllB.cons ?_ AllB.nil)
 refine WB_rn [0, 1] rfl rfl (WX_q rfl rfl (q_call rfl (ArgsOK.of rfl) (c_cmp_Compare_int _ _) rfl) (WL_nil ⟨rfl, ?_⟩))
 refine WA_branch (rs := [10]) vm175 rfl (AllB.cons ?_ AllB.nil)
 refine WB_rn [0, 1] rfl rfl (WX_lit G 3 rfl rfl rfl rfl rfl rfl rfl rfl (WL_nil ⟨rfl, ?_⟩))
 refine WA_branch (rs := [11]) vm175 rfl (AllB.cons ?_ AllB.nil)
 refine WB_rn [0, 1] rfl rfl (WX_q rfl rfl (q_call rfl (ArgsOK.of rfl) (c_cmp_Or_int [cmpN a.p b.p, cmpN a.q b.q] (by simp)) rfl) (WL_nil ⟨rfl, ?_⟩))
 refine zsa 12 ?_
 refine vm15 ?_
 refine zf1 ?_
 all_goals (rw [orI_urg])
set_option maxHeartbeats 4000000 in
theorem c_impl_waiterOf (x : Slot) : Ctr Tryz.prog 173 [.v (encSv x)] (.one (.v (encWv (wOf x)))) := by
 refine Ctr.of (n := 8) G Tryz.func173 rfl vm175 rfl rfl rfl (fun w0 => ?_)
 refine vm1 ?_
 refine vm12 ?_
 refine zgo ?_
 refine W_ret (fin_one rfl (rc_agg rfl ?_))
 all_goals (rfl)
set_option maxHeartbeats 4000000 in
theorem c_spec_l8Less (a b c d : Int) : Ctr Tryz.prog 220 [.v (.int .i64 a), .v (.int .i64 b), .v (.int .i64 c), .v (.int .i64 d)] (.one (.v (.bool (lessW ⟨b, a⟩ ⟨d, c⟩)))) := by
 refine Ctr.of (n := 22) G Tryz.func220 rfl vm175 rfl rfl rfl (fun w0 => ?_)
 refine zcd (fun h1 => ?_) (fun h1 => ?_)
 ·refine zf1 ?_
  all_goals (first | rfl | (simp_all [lessW]; done))
 refine zcd (fun h2 => ?_) (fun h2 => ?_)
 ·refine zf1 ?_
  all_goals (first | rfl | (simp_all [lessW]; done))
 refine zf1 ?_
 all_goals (first | rfl | (simp_all [lessW]; done))
set_option maxHeartbeats 4000000 in
theorem c_impl_findSlot_1 (x : Slot) (irq : Int) : Ctr Tryz.prog 224 [.v (encSv x), .ept [.int .i64 irq]] (.one (.v (.bool (fdP irq x)))) := by
 refine Ctr.of (n := 13) G Tryz.func224 rfl vm175 rfl rfl rfl (fun w0 => ?_)
 refine vm1 ?_
 refine zcd (fun h1 => ?_) (fun h1 => ?_)
 ·refine zf1 ?_
  all_goals (first | rfl | (simp_all [fdP]; done) | (simp_all [fdP]; rfl))
 refine zf1 ?_
 all_goals (first | rfl | (simp_all [fdP]; done) | (simp_all [fdP]; rfl))
set_option maxHeartbeats 4000000 in
theorem c_slices_IndexFunc_impl_Slot_impl_Slot (xs : List Slot) (f : Nat) (c : List Value) (p : Slot → Bool) (hl : xs.length ≤ 1048576) (hf : ∀ i, i < xs.length → Ctr Tryz.prog f [.v (encSv (xs.getD i default)), .ept c] (.one (.v (.bool (p (xs.getD i default)))))) : Ctr Tryz.prog 223 [.lst 3 (xs.map encSl), .fnc f [.ept c]] (.one (.v (.int .i64 (idxN (fun i => p (xs.getD i default)) xs.length)))) := by
 refine Ctr.of (n := 19) G Tryz.func223 rfl vm175 rfl rfl rfl (fun w0 => ?_)
 refine zgo ?_
 refine W_loopK [0, 1, 7] [] (fun (i : Nat) => [(8, .v (.int .i64 (i : Int)))]) (fun (i : Nat) => []) (fun (i : Nat) => i ≤ xs.length ∧ ∀ j, j < i → p (xs.getD j default) = false) (fun (i : Nat) => xs.length - i) 0 rfl rfl ?_ ?_ ?_ ?_
 ·exact ⟨Nat.zero_le _, fun j hj => by omega⟩
 ·exact ⟨⟨_, rfl, by (first | rfl | (simp; done) | (simp; omega))⟩, rfl, trivial⟩
 ·exact trivial
 intro i hinv
 simp only [List.cons_append, List.nil_append]
 refine zcd (fun h1 => ?_) (fun h1 => ?_)
 ·refine vm39 ?_
  refine zcd (fun h2 => ?_) (fun h2 => ?_)
  ·refine zf1 ?_
   all_goals exact vm109
  refine zgo ?_
  refine ⟨(i + 1), ?_, ?_, ⟨⟨_, rfl, by rfl⟩, rfl, trivial⟩, trivial, rfl, rfl, rfl⟩
  ·exact ⟨by omega, upto_succ hinv.2 vm177⟩
  omega
 refine zf1 ?_
 all_goals exact vm109
set_option maxHeartbeats 4000000 in
theorem c_slices_IndexFunc_impl_Slot_impl_Slot_n (xs : List Slot) (f : Nat)  (p : Slot → Bool) (hl : xs.length ≤ 1048576) (hf : ∀ i, i < xs.length → Ctr Tryz.prog f [.v (encSv (xs.getD i default))] (.one (.v (.bool (p (xs.getD i default)))))) : Ctr Tryz.prog 223 [.lst 3 (xs.map encSl), .fnc f []] (.one (.v (.int .i64 (idxN (fun i => p (xs.getD i default)) xs.length)))) := by
 refine Ctr.of (n := 19) G Tryz.func223 rfl vm175 rfl rfl rfl (fun w0 => ?_)
 refine zgo ?_
 refine W_loopK [0, 1, 7] [] (fun (i : Nat) => [(8, .v (.int .i64 (i : Int)))]) (fun (i : Nat) => []) (fun (i : Nat) => i ≤ xs.length ∧ ∀ j, j < i → p (xs.getD j default) = false) (fun (i : Nat) => xs.length - i) 0 rfl rfl ?_ ?_ ?_ ?_
 ·exact ⟨Nat.zero_le _, fun j hj => by omega⟩
 ·exact ⟨⟨_, rfl, by (first | rfl | (simp; done) | (simp; omega))⟩, rfl, trivial⟩
 ·exact trivial
 intro i hinv
 simp only [List.cons_append, List.nil_append]
 refine zcd (fun h1 => ?_) (fun h1 => ?_)
 ·refine vm39 ?_
  refine zcd (fun h2 => ?_) (fun h2 => ?_)
  ·refine zf1 ?_
   all_goals exact vm109
  refine zgo ?_
  refine ⟨(i + 1), ?_, ?_, ⟨⟨_, rfl, by rfl⟩, rfl, trivial⟩, trivial, rfl, rfl, rfl⟩
  ·exact ⟨by omega, upto_succ hinv.2 vm177⟩
  omega
 refine zf1 ?_
 all_goals exact vm109
set_option maxHeartbeats 4000000 in
theorem c_impl_findSlot (sl : List Slot) (irq : Int) (hl : sl.length ≤ 1048576) : Ctr Tryz.prog 190 [.lst 3 (sl.map encSl), .v (.int .i64 irq)] (.one (.v (.int .i64 (fndS sl irq)))) := by
 refine Ctr.of (n := 8) G Tryz.func190 rfl vm175 rfl rfl rfl (fun w0 => ?_)
 refine vm1 ?_
 refine vm52 ?_
 refine WX_q rfl rfl (q_func rfl rfl) ?_
 refine zcl (c_slices_IndexFunc_impl_Slot_impl_Slot sl 224 [.int .i64 irq] (fun x => fdP irq x) hl (fun k hk => c_impl_findSlot_1 _ _)) ?_
 refine zf1 ?_
 all_goals (rfl)
set_option maxHeartbeats 4000000 in
theorem c_spec_l8Find (sl : List Slot) (irq : Int) (hl : sl.length ≤ 1048576) : Ctr Tryz.prog 183 [.lst 3 (sl.map encSl), .v (.int .i64 irq)] (.one (.v (.int .i64 (fndS sl irq)))) := by
 refine Ctr.of (n := 28) G Tryz.func183 rfl vm175 rfl rfl rfl (fun w0 => ?_)
 refine zgo ?_
 refine W_loopK [0, 1] [] (fun (i : Nat) => [(5, .v (.int .i64 (i : Int)))]) (fun (i : Nat) => []) (fun (i : Nat) => i ≤ sl.length ∧ ∀ j, j < i → fdP irq (sl.getD j default) = false) (fun (i : Nat) => sl.length - i) 0 rfl rfl ?_ ?_ ?_ ?_
 ·exact ⟨Nat.zero_le _, fun j hj => by omega⟩
 ·exact ⟨⟨_, rfl, by (first | rfl | (simp; done) | (simp; omega))⟩, rfl, trivial⟩
 ·exact trivial
 intro i hinv
 simp only [List.cons_append, List.nil_append]
 refine zcd (fun h1 => ?_) (fun h1 => ?_)
 ·refine zcd (fun h2 => ?_) (fun h2 => ?_)
  ·refine zcd (fun h3 => ?_) (fun h3 => ?_)
   ·refine zf1 ?_
    all_goals exact vm164
   refine zgo ?_
   refine ⟨(i + 1), ?_, ?_, ⟨⟨_, rfl, by rfl⟩, rfl, trivial⟩, trivial, rfl, rfl, rfl⟩
   ·exact ⟨by omega, upto_succ hinv.2 (by simp_all [fdP, emP])⟩
   omega
  refine zwf ?_
  refine zgo ?_
  refine ⟨(i + 1), ?_, ?_, ⟨⟨_, rfl, by rfl⟩, rfl, trivial⟩, trivial, rfl, rfl, rfl⟩
  ·exact ⟨by omega, upto_succ hinv.2 (by simp_all [fdP, emP])⟩
  omega
 refine zf1 ?_
 all_goals exact vm164
set_option maxHeartbeats 4000000 in
theorem c_impl_firstEmpty_1 (x : Slot) : Ctr Tryz.prog 256 [.v (encSv x)] (.one (.v (.bool (emP x)))) := by
 refine Ctr.of (n := 6) G Tryz.func256 rfl vm175 rfl rfl rfl (fun w0 => ?_)
 refine vm1 ?_
 refine zf1 ?_
 all_goals (rfl)
set_option maxHeartbeats 4000000 in
theorem c_impl_firstEmpty (sl : List Slot)  (hl : sl.length ≤ 1048576) : Ctr Tryz.prog 225 [.lst 3 (sl.map encSl)] (.one (.v (.int .i64 (freS sl)))) := by
 refine Ctr.of (n := 5) G Tryz.func225 rfl vm175 rfl rfl rfl (fun w0 => ?_)
 refine vm52 ?_
 refine WX_q rfl rfl (q_call rfl (ArgsOK.fn2 (ArgsOK.of rfl)) (c_slices_IndexFunc_impl_Slot_impl_Slot_n sl 256 (fun x => emP x) hl (fun k hk => c_impl_firstEmpty_1 _)) rfl) ?_
 refine zf1 ?_
 all_goals (rfl)
set_option maxHeartbeats 4000000 in
theorem c_spec_l8Free (sl : List Slot)  (hl : sl.length ≤ 1048576) : Ctr Tryz.prog 217 [.lst 3 (sl.map encSl)] (.one (.v (.int .i64 (freS sl)))) := by
 refine Ctr.of (n := 17) G Tryz.func217 rfl vm175 rfl rfl rfl (fun w0 => ?_)
 refine zgo ?_
 refine W_loopK [0] [] (fun (i : Nat) => [(3, .v (.int .i64 (i : Int)))]) (fun (i : Nat) => []) (fun (i : Nat) => i ≤ sl.length ∧ ∀ j, j < i → emP (sl.getD j default) = false) (fun (i : Nat) => sl.length - i) 0 rfl rfl ?_ ?_ ?_ ?_
 ·exact ⟨Nat.zero_le _, fun j hj => by omega⟩
 ·exact ⟨⟨_, rfl, by (first | rfl | (simp; done) | (simp; omega))⟩, rfl, trivial⟩
 ·exact trivial
 intro i hinv
 simp only [List.cons_append, List.nil_append]
 refine zcd (fun h1 => ?_) (fun h1 => ?_)
 ·refine zcd (fun h2 => ?_) (fun h2 => ?_)
  ·refine zf1 ?_
   all_goals exact vm165
  refine zgo ?_
  refine ⟨(i + 1), ?_, ?_, ⟨⟨_, rfl, by rfl⟩, rfl, trivial⟩, trivial, rfl, rfl, rfl⟩
  ·exact ⟨by omega, upto_succ hinv.2 (by simp_all [fdP, emP])⟩
  omega
 refine zf1 ?_
 all_goals exact vm165
set_option maxHeartbeats 4000000 in
theorem c_impl_AreSlots (sl : List Slot)  (hl : sl.length ≤ 1048576) : Ctr Tryz.prog 241 [.lst 3 (sl.map encSl)] (.one (.v (.bool (okSl sl)))) := by
 refine Ctr.of (n := 47) G Tryz.func241 rfl vm175 rfl rfl rfl (fun w0 => ?_)
 refine zcd (fun h1 => ?_) (fun h1 => ?_)
 ·refine zf1 ?_
  all_goals exact vm118
 refine zgo ?_
 refine W_loopK [0, 8, 9] [] (fun (i : Nat) => [(10, .v (.int .i64 (i : Int)))]) (fun (i : Nat) => []) (fun (i : Nat) => i ≤ sl.length ∧ ∀ j, j < i → oneSl sl j = true) (fun (i : Nat) => sl.length - i) 0 rfl rfl ?_ ?_ ?_ ?_
 ·exact ⟨Nat.zero_le _, fun j hj => by omega⟩
 ·exact ⟨⟨_, rfl, by (first | rfl | (simp; done) | (simp; omega))⟩, rfl, trivial⟩
 ·exact trivial
 intro i hinv
 simp only [List.cons_append, List.nil_append]
 refine zcd (fun h2 => ?_) (fun h2 => ?_)
 ·refine vm37 ?_
  refine zcd (fun h3 => ?_) (fun h3 => ?_)
  ·refine vm52 ?_
   refine WX_q rfl rfl (q_nes [.int .i64, .int .i64, .int .i64] rfl rfl rfl rfl rfl rfl rfl (.inl rfl) (.inl rfl) eqT154_cmpisNaNint ⟨_, _, rfl, ⟨_, rfl⟩, _, _, rfl, ⟨_, rfl⟩, _, _, rfl, ⟨_, rfl⟩, rfl⟩ ⟨_, _, rfl, ⟨_, rfl⟩, _, _, rfl, ⟨_, rfl⟩, _, _, rfl, ⟨_, rfl⟩, rfl⟩) ?_
   refine zcd (fun h4 => ?_) (fun h4 => ?_)
   ·refine zf1 ?_
    all_goals exact vm118
   refine zgo ?_
   refine ⟨(i + 1), ?_, ?_, ⟨⟨_, rfl, by rfl⟩, rfl, trivial⟩, trivial, rfl, rfl, rfl⟩
   ·exact ⟨by omega, upto_succ hinv.2 vm205⟩
   omega
  refine zgd ?_
  refine vm97 ?_
  refine zcd (fun h5 => ?_) (fun h5 => ?_)
  ·refine zwt ?_
   refine zf1 ?_
   all_goals exact vm118
  refine zcl (c_impl_isIrq _) ?_
  refine zcd (fun h6 => ?_) (fun h6 => ?_)
  ·refine zwt ?_
   refine zf1 ?_
   all_goals exact vm118
  refine zcl (c_impl_isPriority _) ?_
  refine zcd (fun h7 => ?_) (fun h7 => ?_)
  ·refine zwt ?_
   refine zf1 ?_
   all_goals exact vm118
  refine zgo ?_
  refine vm34 ?_
  refine zgo ?_
  refine vm94 ?_
  refine QX_q rfl rfl (q_call rfl (ArgsOK.of (congrArg some (congrArg (fun z => [AV.lst 3 z, .v (.int .i64 (sl.getD i default).q)]) (cut_take (xs := sl) (i := i))))) (Ctr.eq (c_impl_findSlot (sl.take i) _ vm187) (congrArg (fun z => Res.one (.v (.int .i64 z))) (take_fnd (by omega)))) rfl) ?_
  refine zcd (fun h8 => ?_) (fun h8 => ?_)
  ·refine zf1 ?_
   all_goals exact vm118
  refine zgo ?_
  refine ⟨(i + 1), ?_, ?_, ⟨⟨_, rfl, by rfl⟩, rfl, trivial⟩, trivial, rfl, rfl, rfl⟩
  ·exact ⟨by omega, upto_succ hinv.2 vm205⟩
  omega
 refine zf1 ?_
 all_goals exact vm118
set_option maxHeartbeats 4000000 in
theorem c_spec_l8Good (sl : List Slot)  (hl : sl.length ≤ 1048576) : Ctr Tryz.prog 261 [.lst 3 (sl.map encSl)] (.one (.v (.bool (okSl sl)))) := by
 refine Ctr.of (n := 60) G Tryz.func261 rfl vm175 rfl rfl rfl (fun w0 => ?_)
 refine zgo ?_
 refine W_loopK [0] [] (fun (i : Nat) => [(3, .v (.int .i64 (i : Int)))]) (fun (i : Nat) => []) (fun (i : Nat) => i ≤ sl.length ∧ ∀ j, j < i → oneSl sl j = true) (fun (i : Nat) => sl.length - i) 0 rfl rfl ?_ ?_ ?_ ?_
 ·exact ⟨Nat.zero_le _, fun j hj => by omega⟩
 ·exact ⟨⟨_, rfl, by (first | rfl | (simp; done) | (simp; omega))⟩, rfl, trivial⟩
 ·exact trivial
 intro i hinv
 simp only [List.cons_append, List.nil_append]
 refine zcd (fun h1 => ?_) (fun h1 => ?_)
 ·refine vm37 ?_
  refine vm101 ?_
  refine zcd (fun h2 => ?_) (fun h2 => ?_)
  ·refine zwt ?_
   refine zf1 ?_
   all_goals exact vm114
  refine zcl (c_spec_l6Irq _) ?_
  refine zcd (fun h3 => ?_) (fun h3 => ?_)
  ·refine zwt ?_
   refine zf1 ?_
   all_goals exact vm114
  refine zcl (c_spec_l6Prio _) ?_
  refine zcd (fun h4 => ?_) (fun h4 => ?_)
  ·refine zf1 ?_
   all_goals exact vm114
  refine zcd (fun h5 => ?_) (fun h5 => ?_)
  ·refine zcd (fun h6 => ?_) (fun h6 => ?_)
   ·refine zwt ?_
    refine zf1 ?_
    all_goals exact vm114
   refine zcd (fun h7 => ?_) (fun h7 => ?_)
   ·refine zwt ?_
    refine zf1 ?_
    all_goals exact vm114
   refine zcd (fun h8 => ?_) (fun h8 => ?_)
   ·refine zcl (c_spec_l8Find sl _ hl) ?_
    refine zcd (fun h9 => ?_) (fun h9 => ?_)
    ·refine zf1 ?_
     all_goals exact vm114
    refine zgo ?_
    refine ⟨(i + 1), ?_, ?_, ⟨⟨_, rfl, by rfl⟩, rfl, trivial⟩, trivial, rfl, rfl, rfl⟩
    ·exact ⟨by omega, upto_succ hinv.2 (spec_ok (by omega) ⟨inside_t.mp vm177, inside_t.mp vm177, inside_t.mp vm177⟩ (by omega) (fun h => by omega))⟩
    omega
   refine zwf ?_
   refine zgo ?_
   refine ⟨(i + 1), ?_, ?_, ⟨⟨_, rfl, by rfl⟩, rfl, trivial⟩, trivial, rfl, rfl, rfl⟩
   ·exact ⟨by omega, upto_succ hinv.2 (spec_ok (by omega) ⟨inside_t.mp vm177, inside_t.mp vm177, inside_t.mp vm177⟩ (by omega) (fun h => by omega))⟩
   omega
  refine zcd (fun h10 => ?_) (fun h10 => ?_)
  ·refine zcl (c_spec_l8Find sl _ hl) ?_
   refine zcd (fun h11 => ?_) (fun h11 => ?_)
   ·refine zf1 ?_
    all_goals exact vm114
   refine zgo ?_
   refine ⟨(i + 1), ?_, ?_, ⟨⟨_, rfl, by rfl⟩, rfl, trivial⟩, trivial, rfl, rfl, rfl⟩
   ·exact ⟨by omega, upto_succ hinv.2 (spec_ok (by omega) ⟨inside_t.mp vm177, inside_t.mp vm177, inside_t.mp vm177⟩ (by omega) (fun h => by omega))⟩
   omega
  refine zwf ?_
  refine zgo ?_
  refine ⟨(i + 1), ?_, ?_, ⟨⟨_, rfl, by rfl⟩, rfl, trivial⟩, trivial, rfl, rfl, rfl⟩
  ·exact ⟨by omega, upto_succ hinv.2 (spec_ok (by omega) ⟨inside_t.mp vm177, inside_t.mp vm177, inside_t.mp vm177⟩ (by omega) (fun h => by omega))⟩
  omega
 refine zf1 ?_
 all_goals exact vm114
end Go.Proofs.YtcnodpipinlpcaaGreat
set_option maxRecDepth 20000
set_option linter.unusedVariables false
set_option linter.unusedSimpArgs false
namespace Go.Proofs.YtcnodpipinlpcaaGreat
open Go Go.Rf
set_option maxHeartbeats 4000000 in
theorem c_impl_withSlot (sl : List Slot) (i : Int) (x : Slot) (hl : sl.length ≤ 1048576) (hi : 0 ≤ i ∧ i < sl.length) : Ctr Tryz.prog 222 [.lst 3 (sl.map encSl), .v (.int .i64 i), .v (encSv x)] (.one (.fr 154 3 ((sl.set i.toNat x).map encSl))) := by
 refine Ctr.of (n := 16) G Tryz.func222 rfl vm175 rfl rfl rfl (fun w0 => ?_)
 refine vm1 ?_
 refine zgo ?_
 refine vm35 ?_
 refine zfo ?_
 all_goals (first | rfl | exact setG | (simp only [List.nil_append]; exact setG))
set_option maxHeartbeats 4000000 in
theorem c_spec_l8With (sl : List Slot) (i : Int) (x : Slot) (hl : sl.length ≤ 1048576) (hi : 0 ≤ i ∧ i < sl.length) : Ctr Tryz.prog 216 [.lst 3 (sl.map encSl), .v (.int .i64 i), .v (encSv x)] (.one (.fr 154 3 ((sl.set i.toNat x).map encSl))) := by
 refine Ctr.of (n := 16) G Tryz.func216 rfl vm175 rfl rfl rfl (fun w0 => ?_)
 refine vm1 ?_
 refine zgo ?_
 refine vm35 ?_
 refine zfo ?_
 all_goals (first | rfl | exact setG | (simp only [List.nil_append]; exact setG))
set_option maxHeartbeats 4000000 in
theorem c_impl_pendingSlot (sl : List Slot) (most : Bool) (hl : sl.length ≤ 1048576) (hd : difS sl) : Ctr Tryz.prog 221 [.lst 3 (sl.map encSl), .v (.bool most)] (.one (.v (.int .i64 (bstS sl most)))) := by
 refine Ctr.of (n := 38) G Tryz.func221 rfl vm175 rfl rfl rfl (fun w0 => ?_)
 refine zgo ?_
 refine W_loopK [0, 1, 8, 9] [] (fun (i : Nat) => [(5, .v (.int .i64 (bstN sl most i))), (10, .v (.int .i64 (i : Int)))]) (fun (i : Nat) => []) (fun (i : Nat) => i ≤ sl.length) (fun (i : Nat) => sl.length - i) 0 rfl rfl ?_ ?_ ?_ ?_
 ·exact Nat.zero_le _
 ·exact ⟨⟨_, rfl, by rfl⟩, rfl, ⟨⟨_, rfl, by rfl⟩, rfl, trivial⟩⟩
 ·exact trivial
 intro i hinv
 have hb := @bstN_bd sl most i
 simp only [List.cons_append, List.nil_append]
 refine zcd (fun h1 => ?_) (fun h1 => ?_)
 ·refine vm37 ?_
  refine zgd ?_
  refine zcd (fun h2 => ?_) (fun h2 => ?_)
  ·refine zcd (fun h3 => ?_) (fun h3 => ?_)
   ·refine zwt ?_
    refine zgo ?_
    refine ⟨(i + 1), ?_, ?_, ⟨⟨_, rfl, by (first | rfl | (rw [bstN_f (bstC_f1 vm177)]; done) | (rw [bstN_t (bstC_t1 vm177 vm177)]; done) | (rw [bstN_t ((bstC_2 hd (by omega) vm177 (by omega)).trans vm204)]; done) | (rw [bstN_f ((bstC_2 hd (by omega) vm177 (by omega)).trans vm204)]; done))⟩, rfl, ⟨⟨_, rfl, by (first | rfl | (rw [bstN_f (bstC_f1 vm177)]; done) | (rw [bstN_t (bstC_t1 vm177 vm177)]; done) | (rw [bstN_t ((bstC_2 hd (by omega) vm177 (by omega)).trans vm204)]; done) | (rw [bstN_f ((bstC_2 hd (by omega) vm177 (by omega)).trans vm204)]; done))⟩, rfl, trivial⟩⟩, trivial, rfl, rfl, rfl⟩
    ·omega
    omega
   refine zcl (c_impl_waiterOf _) ?_
   refine zcl (c_impl_waiterOf _) ?_
   refine zcl (c_impl_compareUrgency _ _) ?_
   refine zgo ?_
   refine vm94 ?_
   refine QX_q rfl rfl (q_beq (G 4 _ rfl).1 rfl rfl rfl) ?_
   refine zcd (fun h4 => ?_) (fun h4 => ?_)
   ·refine zgo ?_
    refine ⟨(i + 1), ?_, ?_, ⟨⟨_, rfl, by (first | rfl | (rw [bstN_f (bstC_f1 vm177)]; done) | (rw [bstN_t (bstC_t1 vm177 vm177)]; done) | (rw [bstN_t ((bstC_2 hd (by omega) vm177 (by omega)).trans vm204)]; done) | (rw [bstN_f ((bstC_2 hd (by omega) vm177 (by omega)).trans vm204)]; done))⟩, rfl, ⟨⟨_, rfl, by (first | rfl | (rw [bstN_f (bstC_f1 vm177)]; done) | (rw [bstN_t (bstC_t1 vm177 vm177)]; done) | (rw [bstN_t ((bstC_2 hd (by omega) vm177 (by omega)).trans vm204)]; done) | (rw [bstN_f ((bstC_2 hd (by omega) vm177 (by omega)).trans vm204)]; done))⟩, rfl, trivial⟩⟩, trivial, rfl, rfl, rfl⟩
    ·omega
    omega
   refine zgo ?_
   refine ⟨(i + 1), ?_, ?_, ⟨⟨_, rfl, by (first | rfl | (rw [bstN_f (bstC_f1 vm177)]; done) | (rw [bstN_t (bstC_t1 vm177 vm177)]; done) | (rw [bstN_t ((bstC_2 hd (by omega) vm177 (by omega)).trans vm204)]; done) | (rw [bstN_f ((bstC_2 hd (by omega) vm177 (by omega)).trans vm204)]; done))⟩, rfl, ⟨⟨_, rfl, by (first | rfl | (rw [bstN_f (bstC_f1 vm177)]; done) | (rw [bstN_t (bstC_t1 vm177 vm177)]; done) | (rw [bstN_t ((bstC_2 hd (by omega) vm177 (by omega)).trans vm204)]; done) | (rw [bstN_f ((bstC_2 hd (by omega) vm177 (by omega)).trans vm204)]; done))⟩, rfl, trivial⟩⟩, trivial, rfl, rfl, rfl⟩
   ·omega
   omega
  refine zwf ?_
  refine zgo ?_
  refine ⟨(i + 1), ?_, ?_, ⟨⟨_, rfl, by (first | rfl | (rw [bstN_f (bstC_f1 vm177)]; done) | (rw [bstN_t (bstC_t1 vm177 vm177)]; done) | (rw [bstN_t ((bstC_2 hd (by omega) vm177 (by omega)).trans vm204)]; done) | (rw [bstN_f ((bstC_2 hd (by omega) vm177 (by omega)).trans vm204)]; done))⟩, rfl, ⟨⟨_, rfl, by (first | rfl | (rw [bstN_f (bstC_f1 vm177)]; done) | (rw [bstN_t (bstC_t1 vm177 vm177)]; done) | (rw [bstN_t ((bstC_2 hd (by omega) vm177 (by omega)).trans vm204)]; done) | (rw [bstN_f ((bstC_2 hd (by omega) vm177 (by omega)).trans vm204)]; done))⟩, rfl, trivial⟩⟩, trivial, rfl, rfl, rfl⟩
  ·omega
  omega
 refine zf1 ?_
 all_goals ((rw [bstS_at (by omega)]))
set_option maxHeartbeats 4000000 in
theorem c_spec_l8Best_t (sl : List Slot) (hl : sl.length ≤ 1048576) : Ctr Tryz.prog 215 [.lst 3 (sl.map encSl), .v (.bool true)] (.one (.v (.int .i64 (bstS sl true)))) := by
 refine Ctr.of (n := 66) G Tryz.func215 rfl vm175 rfl rfl rfl (fun w0 => ?_)
 refine zgo ?_
 refine W_loopK [0, 1] [] (fun (i : Nat) => [(5, .v (.int .i64 (bstN sl true i))), (6, .v (.int .i64 (i : Int)))]) (fun (i : Nat) => []) (fun (i : Nat) => i ≤ sl.length) (fun (i : Nat) => sl.length - i) 0 rfl rfl ?_ ?_ ?_ ?_
 ·exact Nat.zero_le _
 ·exact ⟨⟨_, rfl, by rfl⟩, rfl, ⟨⟨_, rfl, by rfl⟩, rfl, trivial⟩⟩
 ·exact trivial
 intro i hinv
 have hb := @bstN_bd sl true i
 simp only [List.cons_append, List.nil_append]
 refine zcd (fun h1 => ?_) (fun h1 => ?_)
 ·refine vm37 ?_
  refine zcd (fun h2 => ?_) (fun h2 => ?_)
  ·refine zgo ?_
   refine ⟨(i + 1), ?_, ?_, ⟨⟨_, rfl, by (first | rfl | (rw [bstN_f (bstC_f1 vm177)]; done) | (rw [bstN_t (bstC_t1 (by omega) vm177)]; done) | (rw [bstN_t ((bstC_s (by omega) (by omega)).trans vm192)]; done) | (rw [bstN_f ((bstC_s (by omega) (by omega)).trans vm192)]; done))⟩, rfl, ⟨⟨_, rfl, by (first | rfl | (rw [bstN_f (bstC_f1 vm177)]; done) | (rw [bstN_t (bstC_t1 (by omega) vm177)]; done) | (rw [bstN_t ((bstC_s (by omega) (by omega)).trans vm192)]; done) | (rw [bstN_f ((bstC_s (by omega) (by omega)).trans vm192)]; done))⟩, rfl, trivial⟩⟩, trivial, rfl, rfl, rfl⟩
   ·omega
   omega
  refine zgd ?_
  refine zcd (fun h3 => ?_) (fun h3 => ?_)
  ·refine zwt ?_
   refine zgo ?_
   refine ⟨(i + 1), ?_, ?_, ⟨⟨_, rfl, by (first | rfl | (rw [bstN_f (bstC_f1 vm177)]; done) | (rw [bstN_t (bstC_t1 (by omega) vm177)]; done) | (rw [bstN_t ((bstC_s (by omega) (by omega)).trans vm192)]; done) | (rw [bstN_f ((bstC_s (by omega) (by omega)).trans vm192)]; done))⟩, rfl, ⟨⟨_, rfl, by (first | rfl | (rw [bstN_f (bstC_f1 vm177)]; done) | (rw [bstN_t (bstC_t1 (by omega) vm177)]; done) | (rw [bstN_t ((bstC_s (by omega) (by omega)).trans vm192)]; done) | (rw [bstN_f ((bstC_s (by omega) (by omega)).trans vm192)]; done))⟩, rfl, trivial⟩⟩, trivial, rfl, rfl, rfl⟩
   ·omega
   omega
  refine zcl (c_spec_l8Less _ _ _ _) ?_
  refine zcd (fun h4 => ?_) (fun h4 => ?_)
  ·refine zwt ?_
   refine zgo ?_
   refine ⟨(i + 1), ?_, ?_, ⟨⟨_, rfl, by (first | rfl | (rw [bstN_f (bstC_f1 vm177)]; done) | (rw [bstN_t (bstC_t1 (by omega) vm177)]; done) | (rw [bstN_t ((bstC_s (by omega) (by omega)).trans vm192)]; done) | (rw [bstN_f ((bstC_s (by omega) (by omega)).trans vm192)]; done))⟩, rfl, ⟨⟨_, rfl, by (first | rfl | (rw [bstN_f (bstC_f1 vm177)]; done) | (rw [bstN_t (bstC_t1 (by omega) vm177)]; done) | (rw [bstN_t ((bstC_s (by omega) (by omega)).trans vm192)]; done) | (rw [bstN_f ((bstC_s (by omega) (by omega)).trans vm192)]; done))⟩, rfl, trivial⟩⟩, trivial, rfl, rfl, rfl⟩
   ·omega
   omega
  refine zwf ?_
  refine zgo ?_
  refine ⟨(i + 1), ?_, ?_, ⟨⟨_, rfl, by (first | rfl | (rw [bstN_f (bstC_f1 vm177)]; done) | (rw [bstN_t (bstC_t1 (by omega) vm177)]; done) | (rw [bstN_t ((bstC_s (by omega) (by omega)).trans vm192)]; done) | (rw [bstN_f ((bstC_s (by omega) (by omega)).trans vm192)]; done))⟩, rfl, ⟨⟨_, rfl, by (first | rfl | (rw [bstN_f (bstC_f1 vm177)]; done) | (rw [bstN_t (bstC_t1 (by omega) vm177)]; done) | (rw [bstN_t ((bstC_s (by omega) (by omega)).trans vm192)]; done) | (rw [bstN_f ((bstC_s (by omega) (by omega)).trans vm192)]; done))⟩, rfl, trivial⟩⟩, trivial, rfl, rfl, rfl⟩
  ·omega
  omega
 refine zf1 ?_
 all_goals ((rw [bstS_at (by omega)]))
set_option maxHeartbeats 4000000 in
theorem c_spec_l8Best_f (sl : List Slot) (hl : sl.length ≤ 1048576) : Ctr Tryz.prog 215 [.lst 3 (sl.map encSl), .v (.bool false)] (.one (.v (.int .i64 (bstS sl false)))) := by
 refine Ctr.of (n := 66) G Tryz.func215 rfl vm175 rfl rfl rfl (fun w0 => ?_)
 refine zgo ?_
 refine W_loopK [0, 1] [] (fun (i : Nat) => [(5, .v (.int .i64 (bstN sl false i))), (6, .v (.int .i64 (i : Int)))]) (fun (i : Nat) => []) (fun (i : Nat) => i ≤ sl.length) (fun (i : Nat) => sl.length - i) 0 rfl rfl ?_ ?_ ?_ ?_
 ·exact Nat.zero_le _
 ·exact ⟨⟨_, rfl, by rfl⟩, rfl, ⟨⟨_, rfl, by rfl⟩, rfl, trivial⟩⟩
 ·exact trivial
 intro i hinv
 have hb := @bstN_bd sl false i
 simp only [List.cons_append, List.nil_append]
 refine zcd (fun h1 => ?_) (fun h1 => ?_)
 ·refine vm37 ?_
  refine zcd (fun h2 => ?_) (fun h2 => ?_)
  ·refine zgo ?_
   refine ⟨(i + 1), ?_, ?_, ⟨⟨_, rfl, by (first | rfl | (rw [bstN_f (bstC_f1 vm177)]; done) | (rw [bstN_t (bstC_t1 (by omega) vm177)]; done) | (rw [bstN_t ((bstC_s (by omega) (by omega)).trans vm192)]; done) | (rw [bstN_f ((bstC_s (by omega) (by omega)).trans vm192)]; done))⟩, rfl, ⟨⟨_, rfl, by (first | rfl | (rw [bstN_f (bstC_f1 vm177)]; done) | (rw [bstN_t (bstC_t1 (by omega) vm177)]; done) | (rw [bstN_t ((bstC_s (by omega) (by omega)).trans vm192)]; done) | (rw [bstN_f ((bstC_s (by omega) (by omega)).trans vm192)]; done))⟩, rfl, trivial⟩⟩, trivial, rfl, rfl, rfl⟩
   ·omega
   omega
  refine zgd ?_
  refine zcd (fun h3 => ?_) (fun h3 => ?_)
  ·refine zwt ?_
   refine zgo ?_
   refine ⟨(i + 1), ?_, ?_, ⟨⟨_, rfl, by (first | rfl | (rw [bstN_f (bstC_f1 vm177)]; done) | (rw [bstN_t (bstC_t1 (by omega) vm177)]; done) | (rw [bstN_t ((bstC_s (by omega) (by omega)).trans vm192)]; done) | (rw [bstN_f ((bstC_s (by omega) (by omega)).trans vm192)]; done))⟩, rfl, ⟨⟨_, rfl, by (first | rfl | (rw [bstN_f (bstC_f1 vm177)]; done) | (rw [bstN_t (bstC_t1 (by omega) vm177)]; done) | (rw [bstN_t ((bstC_s (by omega) (by omega)).trans vm192)]; done) | (rw [bstN_f ((bstC_s (by omega) (by omega)).trans vm192)]; done))⟩, rfl, trivial⟩⟩, trivial, rfl, rfl, rfl⟩
   ·omega
   omega
  refine zcl (c_spec_l8Less _ _ _ _) ?_
  refine zcd (fun h4 => ?_) (fun h4 => ?_)
  ·refine zgo ?_
   refine ⟨(i + 1), ?_, ?_, ⟨⟨_, rfl, by (first | rfl | (rw [bstN_f (bstC_f1 vm177)]; done) | (rw [bstN_t (bstC_t1 (by omega) vm177)]; done) | (rw [bstN_t ((bstC_s (by omega) (by omega)).trans vm192)]; done) | (rw [bstN_f ((bstC_s (by omega) (by omega)).trans vm192)]; done))⟩, rfl, ⟨⟨_, rfl, by (first | rfl | (rw [bstN_f (bstC_f1 vm177)]; done) | (rw [bstN_t (bstC_t1 (by omega) vm177)]; done) | (rw [bstN_t ((bstC_s (by omega) (by omega)).trans vm192)]; done) | (rw [bstN_f ((bstC_s (by omega) (by omega)).trans vm192)]; done))⟩, rfl, trivial⟩⟩, trivial, rfl, rfl, rfl⟩
   ·omega
   omega
  refine zgo ?_
  refine ⟨(i + 1), ?_, ?_, ⟨⟨_, rfl, by (first | rfl | (rw [bstN_f (bstC_f1 vm177)]; done) | (rw [bstN_t (bstC_t1 (by omega) vm177)]; done) | (rw [bstN_t ((bstC_s (by omega) (by omega)).trans vm192)]; done) | (rw [bstN_f ((bstC_s (by omega) (by omega)).trans vm192)]; done))⟩, rfl, ⟨⟨_, rfl, by (first | rfl | (rw [bstN_f (bstC_f1 vm177)]; done) | (rw [bstN_t (bstC_t1 (by omega) vm177)]; done) | (rw [bstN_t ((bstC_s (by omega) (by omega)).trans vm192)]; done) | (rw [bstN_f ((bstC_s (by omega) (by omega)).trans vm192)]; done))⟩, rfl, trivial⟩⟩, trivial, rfl, rfl, rfl⟩
  ·omega
  omega
 refine zf1 ?_
 all_goals ((rw [bstS_at (by omega)]))
set_option maxHeartbeats 4000000 in
theorem c_impl_waiterIndex_1 (x : Wtr) (irq : Int) : Ctr Tryz.prog 226 [.v (encWv x), .ept [.int .i64 irq]] (.one (.v (.bool (decide (x.q = irq))))) := by
 refine Ctr.of (n := 8) G Tryz.func226 rfl vm175 rfl rfl rfl (fun w0 => ?_)
 refine vm1 ?_
 refine zf1 ?_
 all_goals (rfl)
set_option maxHeartbeats 4000000 in
theorem c_slices_IndexFunc_impl_Waiter_impl_Waiter (xs : List Wtr) (f : Nat) (c : List Value) (p : Wtr → Bool) (hl : xs.length ≤ 1048576) (hf : ∀ i, i < xs.length → Ctr Tryz.prog f [.v (encWv (xs.getD i default)), .ept c] (.one (.v (.bool (p (xs.getD i default)))))) : Ctr Tryz.prog 213 [.lst 2 (xs.map encWa), .fnc f [.ept c]] (.one (.v (.int .i64 (idxN (fun i => p (xs.getD i default)) xs.length)))) := by
 refine Ctr.of (n := 19) G Tryz.func213 rfl vm175 rfl rfl rfl (fun w0 => ?_)
 refine zgo ?_
 refine W_loopK [0, 1, 7] [] (fun (i : Nat) => [(8, .v (.int .i64 (i : Int)))]) (fun (i : Nat) => []) (fun (i : Nat) => i ≤ xs.length ∧ ∀ j, j < i → p (xs.getD j default) = false) (fun (i : Nat) => xs.length - i) 0 rfl rfl ?_ ?_ ?_ ?_
 ·exact ⟨Nat.zero_le _, fun j hj => by omega⟩
 ·exact ⟨⟨_, rfl, by (first | rfl | (simp; done) | (simp; omega))⟩, rfl, trivial⟩
 ·exact trivial
 intro i hinv
 simp only [List.cons_append, List.nil_append]
 refine zcd (fun h1 => ?_) (fun h1 => ?_)
 ·refine vm39 ?_
  refine zcd (fun h2 => ?_) (fun h2 => ?_)
  ·refine zf1 ?_
   all_goals exact vm109
  refine zgo ?_
  refine ⟨(i + 1), ?_, ?_, ⟨⟨_, rfl, by rfl⟩, rfl, trivial⟩, trivial, rfl, rfl, rfl⟩
  ·exact ⟨by omega, upto_succ hinv.2 vm177⟩
  omega
 refine zf1 ?_
 all_goals exact vm109
set_option maxHeartbeats 4000000 in
theorem c_impl_waiterIndex (wa : List Wtr) (irq : Int) (hw : wa.length ≤ 1048576) : Ctr Tryz.prog 192 [.lst 2 (wa.map encWa), .v (.int .i64 irq)] (.one (.v (.int .i64 (inW wa irq)))) := by
 refine Ctr.of (n := 8) G Tryz.func192 rfl vm175 rfl rfl rfl (fun w0 => ?_)
 refine vm1 ?_
 refine vm52 ?_
 refine WX_q rfl rfl (q_func rfl rfl) ?_
 refine zcl (c_slices_IndexFunc_impl_Waiter_impl_Waiter wa 226 [.int .i64 irq] (fun x => decide (x.q = irq)) hw (fun k hk => c_impl_waiterIndex_1 _ _)) ?_
 refine zf1 ?_
 all_goals (rfl)
set_option maxHeartbeats 4000000 in
theorem c_spec_l9Has (wa : List Wtr) (irq : Int) (hw : wa.length ≤ 1048576) : Ctr Tryz.prog 186 [.lst 2 (wa.map encWa), .v (.int .i64 irq)] (.one (.v (.int .i64 (inW wa irq)))) := by
 refine Ctr.of (n := 20) G Tryz.func186 rfl vm175 rfl rfl rfl (fun w0 => ?_)
 refine zgo ?_
 refine W_loopK [0, 1] [] (fun (i : Nat) => [(5, .v (.int .i64 (i : Int)))]) (fun (i : Nat) => []) (fun (i : Nat) => i ≤ wa.length ∧ ∀ j, j < i → decide ((wa.getD j default).q = irq) = false) (fun (i : Nat) => wa.length - i) 0 rfl rfl ?_ ?_ ?_ ?_
 ·exact ⟨Nat.zero_le _, fun j hj => by omega⟩
 ·exact ⟨⟨_, rfl, by (first | rfl | (simp; done) | (simp; omega))⟩, rfl, trivial⟩
 ·exact trivial
 intro i hinv
 simp only [List.cons_append, List.nil_append]
 refine zcd (fun h1 => ?_) (fun h1 => ?_)
 ·refine zcd (fun h2 => ?_) (fun h2 => ?_)
  ·refine zf1 ?_
   all_goals exact vm166
  refine zgo ?_
  refine ⟨(i + 1), ?_, ?_, ⟨⟨_, rfl, by rfl⟩, rfl, trivial⟩, trivial, rfl, rfl, rfl⟩
  ·exact ⟨by omega, upto_succ hinv.2 (decide_eq_false vm177)⟩
  omega
 refine zf1 ?_
 all_goals exact vm166
end Go.Proofs.YtcnodpipinlpcaaGreat
