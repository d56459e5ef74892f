/- Texts merged into one: M20, M6, M30. -/
import Derived.Test.YtcnodpipinlpcaaGreatPFnExactAgreeOnH
set_option maxRecDepth 20000
set_option linter.unusedVariables false
set_option linter.unusedSimpArgs false
namespace Go.Proofs.YtcnodpipinlpcaaGreat
open Go Go.Rf
set_option maxHeartbeats 4000000 in
theorem c_laws_szSlotS (xs : List Slot) (l : Int) (h0 : xs.length ≤ 9223372036854775807) (hl : 0 ≤ l ∧ l ≤ 1048576) : Ctr Tryz.prog 230 [.lst 3 (xs.map encSl), .v (.int .i64 l)] (.one (.v (.int .i64 (szL xs.length l)))) := by
 refine Ctr.of (n := 12) G Tryz.func230 rfl vm175 rfl rfl rfl (fun w0 => ?_)
 refine zcd (fun h1 => ?_) (fun h1 => ?_)
 ·refine zf1 ?_
  all_goals exact vm108
 refine zf1 ?_
 all_goals exact vm108
set_option maxHeartbeats 4000000 in
theorem c_laws_szWaiterS (xs : List Wtr) (l : Int) (h0 : xs.length ≤ 9223372036854775807) (hl : 0 ≤ l ∧ l ≤ 1048576) : Ctr Tryz.prog 231 [.lst 2 (xs.map encWa), .v (.int .i64 l)] (.one (.v (.int .i64 (szL xs.length l)))) := by
 refine Ctr.of (n := 12) G Tryz.func231 rfl vm175 rfl rfl rfl (fun w0 => ?_)
 refine zcd (fun h1 => ?_) (fun h1 => ?_)
 ·refine zf1 ?_
  all_goals exact vm108
 refine zf1 ?_
 all_goals exact vm108
set_option maxHeartbeats 4000000 in
theorem c_laws_szQueue (q : Que) (l : Int) (h0 : q.sl.length ≤ 9223372036854775807) (hw : q.wa.length ≤ 9223372036854775807) (hl : 0 ≤ l ∧ l ≤ 1048576) : Ctr Tryz.prog 196 [.agg [.lst 3 (q.sl.map encSl), .lst 2 (q.wa.map encWa)], .v (.int .i64 l)] (.one (.v (.int .i64 (szQ q l)))) := by
 refine Ctr.of (n := 18) G Tryz.func196 rfl vm175 rfl rfl rfl (fun w0 => ?_)
 refine W_pinS 0 rfl (fun _ => rfl) (fun u0 => ?_)
 refine vm1 ?_
 refine zcl (c_laws_szSlotS q.sl l h0 hl) ?_
 refine zcd (fun h1 => ?_) (fun h1 => ?_)
 ·refine zf1 ?_
  all_goals exact vm155
 refine zcl (c_laws_szWaiterS q.wa _ hw (szL_in hl (by omega))) ?_
 refine zcd (fun h2 => ?_) (fun h2 => ?_)
 ·refine zf1 ?_
  all_goals exact vm155
 refine zf1 ?_
 all_goals exact vm155
set_option maxHeartbeats 4000000 in
theorem c_laws_szInterface (x : Ifc) (l : Int) (hb : BigI x) (hl : 0 ≤ l ∧ l ≤ 1048576) : Ctr Tryz.prog 148 [.agg [.v (.int .i64 x.ma), .lst 1 (x.st.map Rf.encI), .lst 3 (x.qu.sl.map encSl), .lst 2 (x.qu.wa.map encWa)], .v (.int .i64 l)] (.one (.v (.int .i64 (if l - szI x < 0 then -1 else l - szI x)))) := by
 refine Ctr.of (n := 18) G Tryz.func148 rfl vm175 rfl rfl rfl (fun w0 => ?_)
 refine W_pinS 0 rfl (fun _ => rfl) (fun u0 => ?_)
 refine vm1 ?_
 refine zcl (c_laws_szIntS x.st l hb.st hl) ?_
 refine zcd (fun h1 => ?_) (fun h1 => ?_)
 ·refine zf1 ?_
  all_goals exact vm156
 refine zcl (c_laws_szQueue x.qu _ hb.sl hb.wa (szL_in hl (by omega))) ?_
 refine zcd (fun h2 => ?_) (fun h2 => ?_)
 ·refine zf1 ?_
  all_goals exact vm156
 refine zf1 ?_
 all_goals exact vm156
set_option maxHeartbeats 4000000 in
theorem c_laws_szInterfaceS (xs : List Ifc) (l : Int) (h0 : xs.length ≤ 9223372036854775807) (hz : ∀ i, i < xs.length → BigI (xs.getD i default)) (hl : 0 ≤ l ∧ l ≤ 1048576) : Ctr Tryz.prog 95 [.nst none 4 (xs.map (encIf 154 183)), .v (.int .i64 l)] (.one (.v (.int .i64 (szFS xs l)))) := by
 refine Ctr.of (n := 27) G Tryz.func95 rfl vm175 rfl rfl rfl (fun w0 => ?_)
 refine vm100 ?_
 refine vm41 ?_
 refine vm6 ?_
 refine zgn ?_
 refine zgn ?_
 refine W_cond rfl (fun h1 => ?_) (fun h1 => ?_)
 ·try rw [h1]
  try simp only [rfb] at h1
  refine vm24 ?_
  all_goals exact vm157
 try rw [h1]
 try simp only [rfb] at h1
 refine zgn ?_
 refine zgn ?_
 refine W_block (W_loopK [0] [] (fun (i : Nat) => [(1, .v (.int .i64 (l - xs.length - sumI xs i))), (5, .v (.int .i64 (i : Int)))]) (fun (i : Nat) => []) (fun (i : Nat) => i ≤ xs.length ∧ 0 ≤ l - xs.length - sumI xs i) (fun (i : Nat) => xs.length - i) 0 rfl rfl ?_ ?_ ?_ ?_)
 ·(refine ⟨Nat.zero_le _, ?_⟩; simp only [sumI]; omega)
 ·exact ⟨⟨_, rfl, by (first | rfl | (simp only [sumI]; congr 2; omega))⟩, rfl, ⟨⟨_, rfl, by (first | rfl | (simp only [sumI]; congr 2; omega))⟩, rfl, trivial⟩⟩
 ·exact trivial
 intro i hinv
 have hln := @sumI_nn xs i
 simp only [List.cons_append, List.nil_append]
 refine zgn ?_
 refine W_cond rfl (fun h2 => ?_) (fun h2 => ?_)
 ·try rw [h2]
  try simp only [rfb] at h2
  refine vm100 ?_
  refine W_block ?_
  refine vm64 ?_
  refine vm102 ?_
  refine vm7 ?_
  refine WX_q rfl rfl (q_call rfl (ArgsOK.of rfl) (c_laws_szInterface _ _ (hz i (by omega)) (by omega)) rfl) ?_
  refine zgn ?_
  refine zgn ?_
  refine W_cond rfl (fun h3 => ?_) (fun h3 => ?_)
  ·try rw [h3]
   try simp only [rfb] at h3
   refine vm24 ?_
   all_goals exact vm157
  try rw [h3]
  try simp only [rfb] at h3
  refine vm81 ?_
  refine ⟨(i + 1), ?_, ?_, ⟨⟨_, rfl, by (first | rfl | (congr 2; rw [sumI_succ]; rw [if_neg (by split at h3 <;> omega)]; omega))⟩, rfl, ⟨⟨_, rfl, by (first | rfl | (congr 2; rw [sumI_succ]; rw [if_neg (by split at h3 <;> omega)]; omega))⟩, rfl, trivial⟩⟩, trivial, rfl, rfl, rfl⟩
  ·(refine ⟨by omega, ?_⟩; rw [sumI_succ]; split at h3 <;> omega)
  omega
 try rw [h2]
 try simp only [rfb] at h2
 refine zgn ?_
 refine vm24 ?_
 all_goals exact vm157
set_option maxHeartbeats 4000000 in
theorem c_laws_szMachine (m : Mach) (l : Int) (hb : BigM m) (hl : 0 ≤ l ∧ l ≤ 1048576) : Ctr Tryz.prog 33 [.agg [.lst 2 (m.rs.map encRo), .lst 1 (m.en.map encO), .lst 1 (m.ra.map encO), .nst none 4 (m.cp.map (encIf 154 183))], .v (.int .i64 l)] (.one (.v (.int .i64 (szMa m l)))) := by
 refine Ctr.of (n := 30) G Tryz.func33 rfl vm175 rfl rfl rfl (fun w0 => ?_)
 refine W_pinS 0 rfl (fun _ => rfl) (fun u0 => ?_)
 refine vm1 ?_
 refine zcl (c_laws_szRouteS m.rs l hb.rs hl) ?_
 refine zcd (fun h1 => ?_) (fun h1 => ?_)
 ·refine zf1 ?_
  all_goals exact vm133
 refine zcl (c_laws_szBoolS m.en _ hb.en (szL_in hl (by omega))) ?_
 refine zcd (fun h2 => ?_) (fun h2 => ?_)
 ·refine zf1 ?_
  all_goals exact vm133
 refine zcl (c_laws_szBoolS m.ra _ hb.ra (szL_in (szL_in hl (by omega)) (by omega))) ?_
 refine zcd (fun h3 => ?_) (fun h3 => ?_)
 ·refine zf1 ?_
  all_goals exact vm133
 refine zcl (c_laws_szInterfaceS m.cp _ hb.cp hb.all (szL_in (szL_in (szL_in hl (by omega)) (by omega)) (by omega))) ?_
 refine zcd (fun h4 => ?_) (fun h4 => ?_)
 ·refine zf1 ?_
  all_goals exact vm133
 refine zf1 ?_
 all_goals exact vm133
set_option maxHeartbeats 4000000 in
theorem c_laws_toSlot (x : Slot) : Ctr Tryz.prog 262 [.v (encSv x)] (.one (.v (encSv x))) := by
 refine Ctr.of (n := 14) G Tryz.func262 rfl vm175 rfl rfl rfl (fun w0 => ?_)
 refine vm85 ?_
 all_goals exact vm111
set_option maxHeartbeats 4000000 in
theorem c_laws_toSlotS (xs : List Slot) (hn : xs.length ≤ 1048576) : Ctr Tryz.prog 234 [.lst 3 (xs.map encSl)] (.one (.fr 154 3 (xs.map encSl))) := by
 refine Ctr.of (n := 23) G Tryz.func234 rfl vm175 rfl rfl rfl (fun w0 => ?_)
 refine vm28 ?_
 refine W_loopK [0, 3] [] (fun (i : Nat) => [(4, .v (.int .i64 (i : Int)))]) (fun (i : Nat) => [(0, some (.row 154 3 (fill encSl (encSl zSl) xs i)))]) (fun (i : Nat) => i ≤ xs.length) (fun (i : Nat) => xs.length - i) 0 rfl rfl ?_ ?_ ?_ ?_
 ·exact Nat.zero_le _
 ·exact ⟨⟨_, rfl, by (first | rfl | (simp; done) | (simp; omega))⟩, rfl, trivial⟩
 ·exact ⟨⟨_, rfl, by (rw [fill_zero]; rfl)⟩, rfl, rfl, trivial⟩
 intro i hinv
 simp only [List.cons_append, List.nil_append]
 refine zcd (fun h1 => ?_) (fun h1 => ?_)
 ·refine zcl (c_laws_toSlot _) ?_
  refine vm17 ?_
  refine ⟨(i + 1), ?_, ?_, ⟨⟨_, rfl, by rfl⟩, rfl, trivial⟩, ⟨⟨_, rfl, by (rw [← fill_set (by omega)]; rfl)⟩, rfl, rfl, trivial⟩, rfl, rfl, rfl⟩
  ·omega
  omega
 refine zfo ?_
 all_goals exact vm117
set_option maxHeartbeats 4000000 in
theorem c_laws_toWaiter (x : Wtr) : Ctr Tryz.prog 263 [.v (encWv x)] (.one (.v (encWv x))) := by
 refine Ctr.of (n := 11) G Tryz.func263 rfl vm175 rfl rfl rfl (fun w0 => ?_)
 refine vm85 ?_
 all_goals exact vm111
set_option maxHeartbeats 4000000 in
theorem c_laws_toWaiterS (xs : List Wtr) (hn : xs.length ≤ 1048576) : Ctr Tryz.prog 235 [.lst 2 (xs.map encWa)] (.one (.fr 183 2 (xs.map encWa))) := by
 refine Ctr.of (n := 23) G Tryz.func235 rfl vm175 rfl rfl rfl (fun w0 => ?_)
 refine vm28 ?_
 refine W_loopK [0, 3] [] (fun (i : Nat) => [(4, .v (.int .i64 (i : Int)))]) (fun (i : Nat) => [(0, some (.row 183 2 (fill encWa (encWa ⟨0, 0⟩) xs i)))]) (fun (i : Nat) => i ≤ xs.length) (fun (i : Nat) => xs.length - i) 0 rfl rfl ?_ ?_ ?_ ?_
 ·exact Nat.zero_le _
 ·exact ⟨⟨_, rfl, by (first | rfl | (simp; done) | (simp; omega))⟩, rfl, trivial⟩
 ·exact ⟨⟨_, rfl, by (rw [fill_zero]; rfl)⟩, rfl, rfl, trivial⟩
 intro i hinv
 simp only [List.cons_append, List.nil_append]
 refine zcd (fun h1 => ?_) (fun h1 => ?_)
 ·refine zcl (c_laws_toWaiter _) ?_
  refine vm17 ?_
  refine ⟨(i + 1), ?_, ?_, ⟨⟨_, rfl, by rfl⟩, rfl, trivial⟩, ⟨⟨_, rfl, by (rw [← fill_set (by omega)]; rfl)⟩, rfl, rfl, trivial⟩, rfl, rfl, rfl⟩
  ·omega
  omega
 refine zfo ?_
 all_goals exact vm117
set_option maxHeartbeats 4000000 in
theorem c_laws_toQueue (q : Que) (hl : q.sl.length ≤ 1048576) (hw : q.wa.length ≤ 1048576) : Ctr Tryz.prog 199 [.agg [.lst 3 (q.sl.map encSl), .lst 2 (q.wa.map encWa)]] (.shp true [some 2] [.fr 154 3 (q.sl.map encSl), .fr 183 2 (q.wa.map encWa)]) := by
 refine Ctr.of (n := 13) G Tryz.func199 rfl vm175 rfl rfl rfl (fun w0 => ?_)
 refine W_pinS 0 rfl (fun _ => rfl) (fun u0 => ?_)
 refine vm1 ?_
 refine vm12 ?_
 refine zgo ?_
 refine vm42 ?_
 refine vm52 ?_
 refine WX_call 4 rfl rfl rfl (ArgsOK.of rfl) (c_laws_toSlotS q.sl hl) rfl rfl ?_
 refine vm52 ?_
 refine WX_call 5 rfl rfl rfl (ArgsOK.of rfl) (c_laws_toWaiterS q.wa hw) rfl rfl ?_
 refine zgo ?_
 refine W_ret (fin_shp rfl rfl rfl rfl (rcs_cons (rc_own rfl ?_) (rcs_cons (rc_own rfl ?_) rcs_nil)))
 all_goals (rfl)
set_option maxHeartbeats 4000000 in
theorem c_laws_toInterface (x : Ifc) (hn : x.st.length ≤ 1048576) (hl : x.qu.sl.length ≤ 1048576) (hw : x.qu.wa.length ≤ 1048576) : Ctr Tryz.prog 152 [.agg [.v (.int .i64 x.ma), .lst 1 (x.st.map Rf.encI), .lst 3 (x.qu.sl.map encSl), .lst 2 (x.qu.wa.map encWa)]] (.shp true [some 4] [.v (.int .i64 x.ma), .fr 3 1 (x.st.map Rf.encI), .fr 154 3 (x.qu.sl.map encSl), .fr 183 2 (x.qu.wa.map encWa)]) := by
 refine Ctr.of (n := 16) G Tryz.func152 rfl vm175 rfl rfl rfl (fun w0 => ?_)
 refine W_pinS 0 rfl (fun _ => rfl) (fun u0 => ?_)
 refine vm1 ?_
 refine vm12 ?_
 refine zgo ?_
 refine vm42 ?_
 refine vm52 ?_
 refine WX_call 4 rfl rfl rfl (ArgsOK.of rfl) (c_laws_toIntS x.st hn) rfl rfl ?_
 refine vm52 ?_
 refine WX_call 6 rfl rfl rfl (ArgsOK.of rfl) (c_laws_toQueue x.qu hl hw) rfl rfl ?_
 refine zgo ?_
 refine W_ret (fin_shp rfl rfl rfl rfl (rcs_cons (rc_v ?_) (rcs_cons (rc_own rfl ?_) (rcs_cons (rc_own rfl ?_) (rcs_cons (rc_own rfl ?_) rcs_nil)))))
 all_goals (rfl)
set_option maxHeartbeats 1000000 in
set_option maxHeartbeats 4000000 in
theorem c_laws_toInterfaceS (xs : List Ifc) (hn : xs.length ≤ 1048576) (hz : sumI xs xs.length ≤ 1048576) : Ctr Tryz.prog 98 [.nst none 4 (xs.map (encIf 154 183))] (.one (.ne 113 4 (xs.map (encIf 154 183)))) := by
 refine Ctr.of (n := 23) G Tryz.func98 rfl vm175 rfl rfl rfl (fun w0 => ?_)
 refine zgn ?_
 refine vm103 ?_
 refine WX_make (n := xs.length) G 1 rfl rfl rfl rfl rfl rfl rfl vm212 vm212 (by omega) (by omega) <| WL_gh (Gh.nest (id := 0) (yss := List.replicate (xs.length) [.v (.int .i64 0), .l 3 1 [], .l 154 3 [], .l 183 2 []]) rfl (by simp) (replicate_plain (.v (.s (.s (.s .nil)))))) ?_
 refine zgo ?_
 refine W_loopK [0, 3] [] (fun (i : Nat) => [(4, .v (.int .i64 (i : Int)))]) (fun (i : Nat) => [(0, some (.nest 113 4 (fill (encIf 154 183) ((encIf 154 183) noI) xs i) []))]) (fun (i : Nat) => i ≤ xs.length) (fun (i : Nat) => xs.length - i) 0 rfl rfl ?_ ?_ ?_ ?_
 ·exact Nat.zero_le _
 ·exact ⟨⟨_, rfl, by (first | rfl | (simp; done) | (simp; omega))⟩, rfl, trivial⟩
 ·exact ⟨⟨_, rfl, by (rw [fill_zero]; rfl)⟩, rfl, rfl, trivial⟩
 intro i hinv
 simp only [List.cons_append, List.nil_append]
 refine zcd (fun h1 => ?_) (fun h1 => ?_)
 ·have hs1 := sumI_get (xs := xs) (i := i) (n := xs.length) (by omega)
  have hs2 : szI (xs.getD i default) = (xs.getD i default).st.length + (xs.getD i default).qu.sl.length + (xs.getD i default).qu.wa.length := rfl
  refine vm52 ?_
  refine WX_call 4 rfl rfl rfl (ArgsOK.of rfl) (c_laws_toInterface (xs.getD i default) (by omega) (by omega) (by omega)) rfl rfl ?_
  refine vm7 ?_
  refine WX_q rfl rfl (q_index_nest G rfl rfl rfl rfl rfl (by omega) (by rw [fill_len (by omega)]; omega)) ?_
  refine vm7 ?_
  refine WX_store_nest G rfl rfl rfl rfl rfl (fill_get (by omega)) rfl rfl (.v rfl (.own rfl (.own rfl (.own rfl .nil)))) rfl rfl rfl (Nat.le_of_ble_eq_true rfl) (fun q h => by cases h) (fill_set (by omega)) ?_
  refine zgo ?_
  refine ⟨(i + 1), ?_, ?_, ⟨⟨_, rfl, by rfl⟩, rfl, trivial⟩, ⟨⟨_, rfl, by rfl⟩, rfl, rfl, trivial⟩, rfl, rfl, rfl⟩
  ·omega
  omega
 refine zgo ?_
 refine W_ret (fin_one rfl (rc_ne rfl ?_))
 all_goals exact vm117
set_option maxHeartbeats 4000000 in
theorem c_laws_toMachine (m : Mach) (hs : SmallM m) : Ctr Tryz.prog 35 [.agg [.lst 2 (m.rs.map encRo), .lst 1 (m.en.map encO), .lst 1 (m.ra.map encO), .nst none 4 (m.cp.map (encIf 154 183))]] (.shp true [some 4] [.fr 118 2 (m.rs.map encRo), .fr 4 1 (m.en.map encO), .fr 4 1 (m.ra.map encO), .ne 113 4 (m.cp.map (encIf 154 183))]) := by
 refine Ctr.of (n := 21) G Tryz.func35 rfl vm175 rfl rfl rfl (fun w0 => ?_)
 refine W_pinS 0 rfl (fun _ => rfl) (fun u0 => ?_)
 refine vm1 ?_
 refine vm12 ?_
 refine zgo ?_
 refine vm42 ?_
 refine vm52 ?_
 refine WX_call 4 rfl rfl rfl (ArgsOK.of rfl) (c_laws_toRouteS m.rs hs.rs) rfl rfl ?_
 refine vm52 ?_
 refine WX_call 5 rfl rfl rfl (ArgsOK.of rfl) (c_laws_toBoolS m.en hs.en) rfl rfl ?_
 refine vm52 ?_
 refine WX_call 6 rfl rfl rfl (ArgsOK.of rfl) (c_laws_toBoolS m.ra hs.ra) rfl rfl ?_
 refine vm52 ?_
 refine WX_call 7 rfl rfl rfl (ArgsOK.of rfl) (c_laws_toInterfaceS m.cp hs.cp hs.sum) rfl rfl ?_
 refine zgo ?_
 refine W_ret (fin_shp rfl rfl rfl rfl (rcs_cons (rc_own rfl ?_) (rcs_cons (rc_own rfl ?_) (rcs_cons (rc_own rfl ?_) (rcs_cons (rc_ne rfl ?_) rcs_nil)))))
 all_goals (rfl)
end Go.Proofs.YtcnodpipinlpcaaGreat
set_option maxRecDepth 20000
set_option linter.unusedVariables false
set_option linter.unusedSimpArgs false
namespace Go.Proofs.YtcnodpipinlpcaaGreat
open Go Go.Rf
set_option maxHeartbeats 4000000 in
theorem c_laws_eqSlot (x y : Slot) : Ctr Tryz.prog 259 [.v (encSv x), .v (encSv y)] (.one (.v (.bool (eqSl x y)))) := by
 refine Ctr.of (n := 20) G Tryz.func259 rfl vm175 rfl rfl rfl (fun w0 => ?_)
 refine vm26 ?_
 refine zcd (fun h1 => ?_) (fun h1 => ?_)
 ·refine zf1 ?_
  all_goals exact vm143
 refine zcd (fun h2 => ?_) (fun h2 => ?_)
 ·refine zf1 ?_
  all_goals exact vm143
 refine zcd (fun h3 => ?_) (fun h3 => ?_)
 ·refine zf1 ?_
  all_goals exact vm143
 refine zf1 ?_
 all_goals exact vm143
set_option maxHeartbeats 4000000 in
theorem c_laws_eqSlotS (xs ys : List Slot) (hn : xs.length ≤ 9223372036854775807) : Ctr Tryz.prog 228 [.lst 3 (xs.map encSl), .lst 3 (ys.map encSl)] (.one (.v (.bool (decide (xs = ys))))) := by
 refine Ctr.of (n := 27) G Tryz.func228 rfl vm175 rfl rfl rfl (fun w0 => ?_)
 refine zcd (fun h1 => ?_) (fun h1 => ?_)
 ·refine zf1 ?_
  all_goals exact vm158
 refine zgo ?_
 refine W_loopK [0, 1] [] (fun (i : Nat) => [(5, .v (.int .i64 (i : Int)))]) (fun (i : Nat) => []) (fun (i : Nat) => i ≤ xs.length ∧ ∀ j, j < i → xs.getD j default = ys.getD j default) (fun (i : Nat) => xs.length - i) 0 rfl rfl ?_ ?_ ?_ ?_
 ·exact ⟨Nat.zero_le _, fun j hj => by omega⟩
 ·exact ⟨⟨_, rfl, by (first | rfl | (simp; done) | (simp; omega))⟩, rfl, trivial⟩
 ·exact trivial
 intro i hinv
 simp only [List.cons_append, List.nil_append]
 refine zcd (fun h2 => ?_) (fun h2 => ?_)
 ·refine zgd ?_
  refine zcl (c_laws_eqSlot _ _) ?_
  refine zcd (fun h3 => ?_) (fun h3 => ?_)
  ·refine zf1 ?_
   all_goals exact vm158
  refine zgo ?_
  refine ⟨(i + 1), ?_, ?_, ⟨⟨_, rfl, by rfl⟩, rfl, trivial⟩, trivial, rfl, rfl, rfl⟩
  ·exact ⟨by omega, upto_succ hinv.2 (by first | exact eqSl_iff.mp vm177 | exact eqSl_iff.mp vm204)⟩
  omega
 refine zf1 ?_
 all_goals exact vm158
set_option maxHeartbeats 4000000 in
theorem c_laws_eqWaiter (x y : Wtr) : Ctr Tryz.prog 260 [.v (encWv x), .v (encWv y)] (.one (.v (.bool (eqWa x y)))) := by
 refine Ctr.of (n := 15) G Tryz.func260 rfl vm175 rfl rfl rfl (fun w0 => ?_)
 refine vm26 ?_
 refine zcd (fun h1 => ?_) (fun h1 => ?_)
 ·refine zf1 ?_
  all_goals exact vm159
 refine zcd (fun h2 => ?_) (fun h2 => ?_)
 ·refine zf1 ?_
  all_goals exact vm159
 refine zf1 ?_
 all_goals exact vm159
set_option maxHeartbeats 4000000 in
theorem c_laws_eqWaiterS (xs ys : List Wtr) (hn : xs.length ≤ 9223372036854775807) : Ctr Tryz.prog 229 [.lst 2 (xs.map encWa), .lst 2 (ys.map encWa)] (.one (.v (.bool (decide (xs = ys))))) := by
 refine Ctr.of (n := 27) G Tryz.func229 rfl vm175 rfl rfl rfl (fun w0 => ?_)
 refine zcd (fun h1 => ?_) (fun h1 => ?_)
 ·refine zf1 ?_
  all_goals exact vm160
 refine zgo ?_
 refine W_loopK [0, 1] [] (fun (i : Nat) => [(5, .v (.int .i64 (i : Int)))]) (fun (i : Nat) => []) (fun (i : Nat) => i ≤ xs.length ∧ ∀ j, j < i → xs.getD j default = ys.getD j default) (fun (i : Nat) => xs.length - i) 0 rfl rfl ?_ ?_ ?_ ?_
 ·exact ⟨Nat.zero_le _, fun j hj => by omega⟩
 ·exact ⟨⟨_, rfl, by (first | rfl | (simp; done) | (simp; omega))⟩, rfl, trivial⟩
 ·exact trivial
 intro i hinv
 simp only [List.cons_append, List.nil_append]
 refine zcd (fun h2 => ?_) (fun h2 => ?_)
 ·refine zgd ?_
  refine zcl (c_laws_eqWaiter _ _) ?_
  refine zcd (fun h3 => ?_) (fun h3 => ?_)
  ·refine zf1 ?_
   all_goals exact vm160
  refine zgo ?_
  refine ⟨(i + 1), ?_, ?_, ⟨⟨_, rfl, by rfl⟩, rfl, trivial⟩, trivial, rfl, rfl, rfl⟩
  ·exact ⟨by omega, upto_succ hinv.2 (by first | exact eqWa_iff.mp vm177 | exact eqWa_iff.mp vm204)⟩
  omega
 refine zf1 ?_
 all_goals exact vm160
set_option maxHeartbeats 4000000 in
theorem c_laws_eqQueue (x y : Que) (hl : x.sl.length ≤ 9223372036854775807) (hw : x.wa.length ≤ 9223372036854775807) : Ctr Tryz.prog 195 [.agg [.lst 3 (x.sl.map encSl), .lst 2 (x.wa.map encWa)], .agg [.lst 3 (y.sl.map encSl), .lst 2 (y.wa.map encWa)]] (.one (.v (.bool (eqQu x y)))) := by
 refine Ctr.of (n := 17) G Tryz.func195 rfl vm175 rfl rfl rfl (fun w0 => ?_)
 refine W_pinS 0 rfl (fun _ => rfl) (fun u0 => ?_)
 refine W_pinS 1 rfl (fun _ => rfl) (fun u1 => ?_)
 refine vm26 ?_
 refine zcl (c_laws_eqSlotS x.sl y.sl hl) ?_
 refine zcd (fun h1 => ?_) (fun h1 => ?_)
 ·refine zf1 ?_
  all_goals (first | rfl | (simp_all [eqQu]; done))
 refine zcl (c_laws_eqWaiterS x.wa y.wa hw) ?_
 refine zcd (fun h2 => ?_) (fun h2 => ?_)
 ·refine zf1 ?_
  all_goals (first | rfl | (simp_all [eqQu]; done))
 refine zf1 ?_
 all_goals (first | rfl | (simp_all [eqQu]; done))
set_option maxHeartbeats 4000000 in
theorem c_laws_eqInterface (x y : Ifc) (hb : BigI x) : Ctr Tryz.prog 143 [.agg [.v (.int .i64 x.ma), .lst 1 (x.st.map Rf.encI), .lst 3 (x.qu.sl.map encSl), .lst 2 (x.qu.wa.map encWa)], .agg [.v (.int .i64 y.ma), .lst 1 (y.st.map Rf.encI), .lst 3 (y.qu.sl.map encSl), .lst 2 (y.qu.wa.map encWa)]] (.one (.v (.bool (eqIf x y)))) := by
 refine Ctr.of (n := 22) G Tryz.func143 rfl vm175 rfl rfl rfl (fun w0 => ?_)
 refine W_pinS 0 rfl (fun _ => rfl) (fun u0 => ?_)
 refine W_pinS 1 rfl (fun _ => rfl) (fun u1 => ?_)
 refine vm26 ?_
 refine zcd (fun h1 => ?_) (fun h1 => ?_)
 ·refine zf1 ?_
  all_goals exact vm144
 refine zcl (c_laws_eqIntS x.st y.st hb.st) ?_
 refine zcd (fun h2 => ?_) (fun h2 => ?_)
 ·refine zf1 ?_
  all_goals exact vm144
 refine zcl (c_laws_eqQueue x.qu y.qu hb.sl hb.wa) ?_
 refine zcd (fun h3 => ?_) (fun h3 => ?_)
 ·refine zf1 ?_
  all_goals exact vm144
 refine zf1 ?_
 all_goals exact vm144
set_option maxHeartbeats 4000000 in
theorem c_laws_eqInterfaceS (xs ys : List Ifc) (hn : xs.length ≤ 9223372036854775807) (hz : ∀ i, i < xs.length → BigI (xs.getD i default)) : Ctr Tryz.prog 84 [.nst none 4 (xs.map (encIf 154 183)), .nst none 4 (ys.map (encIf 154 183))] (.one (.v (.bool (decide (xs = ys))))) := by
 refine Ctr.of (n := 27) G Tryz.func84 rfl vm175 rfl rfl rfl (fun w0 => ?_)
 refine zcd (fun h1 => ?_) (fun h1 => ?_)
 ·refine zf1 ?_
  all_goals exact vm161
 refine zgo ?_
 refine W_loopK [0, 1] [] (fun (i : Nat) => [(5, .v (.int .i64 (i : Int)))]) (fun (i : Nat) => []) (fun (i : Nat) => i ≤ xs.length ∧ ∀ j, j < i → xs.getD j default = ys.getD j default) (fun (i : Nat) => xs.length - i) 0 rfl rfl ?_ ?_ ?_ ?_
 ·exact ⟨Nat.zero_le _, fun j hj => by omega⟩
 ·exact ⟨⟨_, rfl, by (first | rfl | (simp; done) | (simp; omega))⟩, rfl, trivial⟩
 ·exact trivial
 intro i hinv
 simp only [List.cons_append, List.nil_append]
 refine zcd (fun h2 => ?_) (fun h2 => ?_)
 ·refine zgd ?_
  refine zcl (c_laws_eqInterface (xs.getD i default) (ys.getD i default) (hz i (by omega))) ?_
  refine zcd (fun h3 => ?_) (fun h3 => ?_)
  ·refine zf1 ?_
   all_goals exact vm161
  refine zgo ?_
  refine ⟨(i + 1), ?_, ?_, ⟨⟨_, rfl, by rfl⟩, rfl, trivial⟩, trivial, rfl, rfl, rfl⟩
  ·exact ⟨by omega, upto_succ hinv.2 (by first | exact eqIf_iff.mp vm177 | (simp_all; done))⟩
  omega
 refine zf1 ?_
 all_goals exact vm161
set_option maxHeartbeats 4000000 in
theorem c_laws_eqMachine (x y : Mach) (hb : BigM x) : Ctr Tryz.prog 26 [.agg [.lst 2 (x.rs.map encRo), .lst 1 (x.en.map encO), .lst 1 (x.ra.map encO), .nst none 4 (x.cp.map (encIf 154 183))], .agg [.lst 2 (y.rs.map encRo), .lst 1 (y.en.map encO), .lst 1 (y.ra.map encO), .nst none 4 (y.cp.map (encIf 154 183))]] (.one (.v (.bool (eqMa x y)))) := by
 refine Ctr.of (n := 29) G Tryz.func26 rfl vm175 rfl rfl rfl (fun w0 => ?_)
 refine W_pinS 0 rfl (fun _ => rfl) (fun u0 => ?_)
 refine W_pinS 1 rfl (fun _ => rfl) (fun u1 => ?_)
 refine vm26 ?_
 refine zcl (c_laws_eqRouteS x.rs y.rs hb.rs) ?_
 refine zcd (fun h1 => ?_) (fun h1 => ?_)
 ·refine zf1 ?_
  all_goals exact vm134
 refine zcl (c_laws_eqBoolS x.en y.en hb.en) ?_
 refine zcd (fun h2 => ?_) (fun h2 => ?_)
 ·refine zf1 ?_
  all_goals exact vm134
 refine zcl (c_laws_eqBoolS x.ra y.ra hb.ra) ?_
 refine zcd (fun h3 => ?_) (fun h3 => ?_)
 ·refine zf1 ?_
  all_goals exact vm134
 refine zcl (c_laws_eqInterfaceS x.cp y.cp hb.cp hb.all) ?_
 refine zcd (fun h4 => ?_) (fun h4 => ?_)
 ·refine zf1 ?_
  all_goals exact vm134
 refine zf1 ?_
 all_goals exact vm134
end Go.Proofs.YtcnodpipinlpcaaGreat
set_option maxRecDepth 20000
set_option linter.unusedVariables false
set_option linter.unusedSimpArgs false
namespace Go.Proofs.YtcnodpipinlpcaaGreat
open Go Go.Rf
set_option maxHeartbeats 2000000 in
set_option maxHeartbeats 4000000 in
theorem c_laws_FnExactAgreeOn (m : Mach) (ss : List MStep) (h3 : ss.length ≤ 9223372036854775807) (hb : BigM m) : Ctr Tryz.prog 6 [.agg [.lst 2 (m.rs.map encRo), .lst 1 (m.en.map encO), .lst 1 (m.ra.map encO), .nst none 4 (m.cp.map (encIf 154 183))], .lst 4 (ss.map encMc)] (.one (.v (.bool true))) := by
 refine Ctr.of (n := 58) G Tryz.func6 rfl vm175 rfl rfl rfl (fun w0 => ?_)
 refine W_pinS 0 rfl (fun _ => rfl) (fun u0 => ?_)
 refine W_sq ?_
 refine vm38 ?_
 refine zgn ?_
 refine zgn ?_
 refine vm103 ?_
 refine WX_q rfl rfl (q_call rfl (ArgsOK.of rfl) (c_laws_szMachine m _ hb (by omega)) rfl) ?_
 refine zgn ?_
 refine zgn ?_
 refine W_cond rfl (fun h1 => ?_) (fun h1 => ?_)
 ·try rw [h1]
  try simp only [rfb] at h1
  refine vm24 ?_
  all_goals exact vm162
 try rw [h1]
 try simp only [rfb] at h1
 have hsz := szMa_le (m := m) (l := 1048576) (by omega) (by omega)
 have hs := szMa_small (m := m) (l := 1048576) (by omega) (by omega)
 refine zgn ?_
 refine vm103 ?_
 refine WX_q rfl rfl (q_call rfl (ArgsOK.of rfl) (c_laws_szMachStepS ss _ h3 hsz) rfl) ?_
 refine zgn ?_
 refine zgn ?_
 refine W_cond rfl (fun h2 => ?_) (fun h2 => ?_)
 ·try rw [h2]
  try simp only [rfb] at h2
  refine vm24 ?_
  all_goals exact vm162
 try rw [h2]
 try simp only [rfb] at h2
 have hl := szL_nle (n := ss.length) hsz (by omega)
 refine zgn ?_
 refine vm64 ?_
 refine zst ?_
 refine vm7 ?_
 refine WX_call 5 rfl rfl rfl (ArgsOK.of rfl) (c_laws_toMachine m hs) rfl rfl ?_
 refine zst ?_
 refine vm7 ?_
 refine WX_call 6 rfl rfl rfl (ArgsOK.of rfl) (c_laws_toMachStepS ss hl) rfl rfl ?_
 refine vm7 ?_
 refine WX_q rfl rfl (q_call rfl (ArgsOK.of rfl) (c_spec_AgreeOn m ss hs hl) rfl) ?_
 refine zgn ?_
 refine vm64 ?_
 refine zst ?_
 refine vm7 ?_
 refine WX_call 10 rfl rfl rfl (ArgsOK.of rfl) (c_laws_toMachine m hs) rfl rfl ?_
 refine vm7 ?_
 refine WX_alloc_s G 11 rfl rfl rfl rfl rfl ?_
 refine zgn ?_
 refine vm64 ?_
 refine zst ?_
 refine vm7 ?_
 refine WX_call 12 rfl rfl rfl (ArgsOK.of rfl) (c_laws_toMachStepS ss hl) rfl rfl ?_
 refine zgn ?_
 refine vm103 ?_
 refine WX_q rfl rfl (q_call rfl (ArgsOK.of rfl) (c_impl_AgreeOn m ss hs hl) rfl) ?_
 refine vm100 ?_
 refine vm103 ?_
 refine WX_q rfl rfl (q_eqv (v' := .bool false) (q_cmp rfl rfl rfl rfl) vm210) ?_
 iterate 3 refine zst ?_
 refine vm78 ?_
 refine WX_q rfl rfl (q_eqv (v' := .bool false) (q_bne (G 4 _ rfl).1 rfl rfl rfl) vm210) ?_
 refine zgn ?_
 refine W_false rfl ?_
 refine zgn ?_
 refine W_sq (W_sq (W_drawsH 5 [0, 1, 2, 3, 4, 5, 6, 7, 8, 9, 10, 11] mixed vm175 rfl rfl (fun r0 => ?_) (fun _ h => h)))
 refine zsa 0 ?_
 refine zsa 1 ?_
 refine WA_branch (rs := [2]) vm175 rfl (AllB.cons ?_ AllB.nil)
 refine WB_rn [0, 1, 2, 3, 4, 5, 6, 7, 8, 9, 10, 11] rfl rfl (WX_call 16 rfl rfl rfl (ArgsOK.of rfl) (c_laws_toMachine m hs) rfl rfl (WL_nil ⟨rfl, ?_⟩))
 refine WA_branch (rs := [3]) vm175 rfl (AllB.cons ?_ AllB.nil)
 refine WB_rn [0, 1, 2, 3, 4, 5, 6, 7, 8, 9, 10, 11] rfl rfl (WX_q rfl rfl (q_call rfl (ArgsOK.of rfl) (Ctr.bool (c_laws_eqMachine m m hb) (eqMa_iff.mpr rfl)) rfl) (WL_nil ⟨rfl, ?_⟩))
 refine zsa 4 ?_
 refine vm15 ?_
 refine W_false rfl ?_
 refine vm100 ?_
 refine vm103 ?_
 refine WX_call 17 rfl rfl rfl (ArgsOK.of rfl) (c_laws_toMachStepS ss hl) rfl rfl ?_
 refine vm7 ?_
 refine WX_q rfl rfl (q_call rfl (ArgsOK.of rfl) (Ctr.bool (c_laws_eqMachStepS ss ss (by omega)) (decide_eq_true rfl)) rfl) ?_
 refine zgn ?_
 refine W_false rfl ?_
 refine zgn ?_
 refine vm24 ?_
 all_goals exact vm162
end Go.Proofs.YtcnodpipinlpcaaGreat
