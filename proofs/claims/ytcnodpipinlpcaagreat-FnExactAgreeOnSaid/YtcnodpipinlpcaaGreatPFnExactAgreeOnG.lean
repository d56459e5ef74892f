/- Texts merged into one: W8, W9, W10, W12. -/
import Derived.Test.YtcnodpipinlpcaaGreatPFnExactAgreeOnF
set_option maxRecDepth 20000
set_option linter.unusedVariables false
set_option linter.unusedSimpArgs false
namespace Go.Proofs.YtcnodpipinlpcaaGreat
open Go Go.Rf
set_option maxHeartbeats 2000000 in
set_option maxHeartbeats 4000000 in
theorem c_spec_l25Make (rs : List Route) (a : Abs) (sk sq sc sv : Int) (hF : AbsF rs a) (hv : stepV a.ma.length ⟨sk, sq, sc, sv⟩ = true) : Ctr Tryz.prog 61 [.lst 2 (rs.map encRo), .agg [.lst 1 (a.en.map encO), .lst 1 (a.ra.map encO), .lst 1 (a.po.map encO), .lst 1 (a.ma.map Rf.encI), .nst none 1 (a.st.map encSt)], .v (.agg ⟨[.int .i64 sk, .int .i64 sq, .int .i64 sc, .int .i64 sv]⟩)] (.shp false [some 5, none, none] [.fr 4 1 ((makeA rs a ⟨sk, sq, sc, sv⟩).1.en.map encO), .fr 4 1 ((makeA rs a ⟨sk, sq, sc, sv⟩).1.ra.map encO), .fr 4 1 ((makeA rs a ⟨sk, sq, sc, sv⟩).1.po.map encO), .fr 3 1 ((makeA rs a ⟨sk, sq, sc, sv⟩).1.ma.map Rf.encI), .ne 26 1 ((makeA rs a ⟨sk, sq, sc, sv⟩).1.st.map encSt), .v (.int .i64 (makeA rs a ⟨sk, sq, sc, sv⟩).2.1), .v (.bool (makeA rs a ⟨sk, sq, sc, sv⟩).2.2)]) := by
 have f0 := hF.n
 have f1 := hF.rn
 have f2 := hF.st
 have f3 := hF.en
 have f4 := hF.ra
 have f5 := hF.po
 have fm := hF.rt
 have fs := hF.small
 refine Ctr.of (n := 122) G Tryz.func61 rfl vm175 rfl rfl rfl (fun w0 => ?_)
 refine W_pinS 1 rfl (fun _ => rfl) (fun u1 => ?_)
 refine vm26 ?_
 refine vm42 ?_
 refine vm52 ?_
 refine WX_call 8 rfl rfl rfl (ArgsOK.of rfl) (c_spec_l25Own a fs) rfl rfl ?_
 refine vm7 ?_
 refine vm96 ?_
 refine zcd (fun h1 => ?_) (fun h1 => ?_)
 ·have hq := sv_q hv (by omega)
  obtain ⟨q, rfl⟩ : ∃ q : Nat, sq = q := ⟨sq.toNat, by omega⟩
  have hM := mk1 (rs := rs) (a := a) (sc := sc) (sv := sv) (q := q) h1
  refine vm21 ?_
  refine zgn ?_
  refine W_sq (W_drawsH 11 [0, 1, 3, 4, 5, 6, 7, 8] mixed vm175 rfl rfl (fun r0 => ?_) (fun _ h => h))
  refine vm99 ?_
  refine zsa 7 ?_
  refine WA_branch (rs := [8]) vm175 rfl (AllB.cons ?_ AllB.nil)
  refine WB_rn [0, 1, 3, 4, 5, 6, 7, 8] rfl rfl ?_
  refine vm8 ?_
  refine zsa 9 ?_
  refine zsa 10 ?_
  refine vm15 ?_
  refine W_ret (fin_shp rfl rfl rfl rfl (rcs_cons (rc_own rfl ?_) (rcs_cons (rc_own rfl ?_) (rcs_cons (rc_own rfl ?_) (rcs_cons (rc_own rfl ?_) (rcs_cons (rc_ne rfl ?_) (rcs_cons (rc_v ?_) (rcs_cons (rc_v ?_) rcs_nil))))))))
  all_goals exact vm116
 refine zcd (fun h2 => ?_) (fun h2 => ?_)
 ·have hM := mk2 (rs := rs) (a := a) (sq := sq) (sc := sc) (sv := sv) h2
  refine vm52 ?_
  refine WX_call 14 rfl rfl rfl (ArgsOK.of rfl) (c_spec_l25Sync rs a hF) rfl rfl ?_
  refine zgo ?_
  refine W_ret (fin_shp rfl rfl rfl rfl (rcs_cons (rc_own rfl ?_) (rcs_cons (rc_own rfl ?_) (rcs_cons (rc_own rfl ?_) (rcs_cons (rc_own rfl ?_) (rcs_cons (rc_ne rfl ?_) (rcs_cons (rc_v ?_) (rcs_cons (rc_v ?_) rcs_nil))))))))
  all_goals exact vm116
 refine zcd (fun h3 => ?_) (fun h3 => ?_)
 ·have hc := sv_c hv (by omega)
  obtain ⟨c, rfl⟩ : ∃ c : Nat, sc = c := ⟨sc.toNat, by omega⟩
  have fl := hF.len c (by omega)
  have fe := hF.el c (by omega)
  have ftn : 0 < (a.st.getD c default).length → (((a.st.getD c default).length : Int) - 1).toNat = (a.st.getD c default).length - 1 := fun _ => (by omega)
  have hnx := @nextT_lt rs a c
  refine zcl (c_spec_l25Next rs a c hF (by omega)) ?_
  refine zcd (fun h4 => ?_) (fun h4 => ?_)
  ·have hM := mk3n (rs := rs) (a := a) (sq := sq) (sv := sv) h3 h4
   refine zgo ?_
   refine W_ret (fin_shp rfl rfl rfl rfl (rcs_cons (rc_own rfl ?_) (rcs_cons (rc_own rfl ?_) (rcs_cons (rc_own rfl ?_) (rcs_cons (rc_own rfl ?_) (rcs_cons (rc_ne rfl ?_) (rcs_cons (rc_v ?_) (rcs_cons (rc_v ?_) rcs_nil))))))))
   all_goals exact vm116
  have hM := mk3 (rs := rs) (a := a) (sq := sq) (sv := sv) (c := c) h3 (by omega)
  refine vm21 ?_
  refine vm100 ?_
  refine W_gh (Gh.open (id := 7) (i := c) (k := 0) 10 rfl rfl (openN (by omega)) rfl rfl) ?_
  apply W_drawsJ [6, 9, 10] [2, 3, 4, 5, 6, 7, 8] 12 15 [0, 1, 2, 3, 4, 5, 6, 8] mixed vm175 rfl rfl (fun _ h => znk h)
  ·intro r0
   refine vm99 ?_
   refine zsa 7 ?_
   refine zsa 10 ?_
   refine WA_branch (rs := [8, 11]) vm175 rfl (AllB.cons ?_ (AllB.cons ?_ AllB.nil))
   ·first | refine WB_run [0, 1, 2, 3, 4, 5, 6, 8] rfl rfl (WX_q rfl rfl (q_index_nest G rfl rfl rfl rfl rfl (by omega) (by omega)) (WL_nil ⟨rfl, ?_⟩)) | refine WB_run [0, 1, 2, 3, 4, 5, 6, 8] rfl rfl (WX_q rfl rfl (q_index_nest G rfl rfl rfl rfl rfl (by omega) vm187) (WL_nil ⟨rfl, ?_⟩))
    refine WA_branch (rs := [9, 11]) vm175 rfl (AllB.cons ?_ (AllB.cons ?_ AllB.nil))
    ·refine WB_rn [0, 1, 2, 3, 4, 5, 6, 8] rfl rfl (WX_q rfl rfl (q_load_nest G rfl rfl rfl rfl rfl (nget_some.2 ⟨_, (setX vm187 rfl), rfl⟩) (.own vm202 .nil)) (WL_nil ⟨rfl, ?_⟩))
     refine WA_branch (rs := [11]) vm175 rfl (AllB.cons ?_ AllB.nil)
     refine WB_rn [0, 1, 2, 3, 4, 5, 6, 8] rfl rfl (WX_lit G 11 rfl rfl rfl rfl rfl rfl rfl rfl (WL_nil ⟨rfl, ?_⟩))
     refine WA_branch (rs := [12]) vm175 rfl (AllB.cons ?_ AllB.nil)
     refine WB_run [0, 1, 2, 3, 4, 5, 6, 8] rfl rfl (WX_gh (Gh.detach (id := 7) rfl) <| WX_ren (tx := 59) 12 rfl rfl rfl rfl rfl <| WX_append G vm181 rfl rfl rfl rfl rfl rfl rfl rfl rfl vm179 rfl rfl (WL_nil ⟨rfl, ?_⟩))
     refine WA_branch (rs := [13]) vm175 rfl (AllB.cons ?_ AllB.nil)
     first | refine WB_run [0, 1, 2, 3, 4, 5, 6, 8] rfl rfl (WX_q rfl rfl (q_index_nest G rfl rfl rfl rfl rfl (by omega) (by omega)) (WL_nil ⟨rfl, ?_⟩)) | refine WB_run [0, 1, 2, 3, 4, 5, 6, 8] rfl rfl (WX_q rfl rfl (q_index_nest G rfl rfl rfl rfl rfl (by omega) vm187) (WL_nil ⟨rfl, ?_⟩))
     refine WA_branch (rs := [14]) vm175 rfl (AllB.cons ?_ AllB.nil)
     first | refine WB_run [0, 1, 2, 3, 4, 5, 6, 8] rfl rfl (WX_store_nest G rfl rfl rfl rfl rfl (setX vm187 rfl) rfl rfl (.own rfl .nil) rfl rfl rfl (Nat.le_of_ble_eq_true rfl) (fun q h => by cases h) rfl (WL_nil ⟨rfl, ?_⟩)) | refine WB_run [0, 1, 2, 3, 4, 5, 6, 8] rfl rfl (WX_store_nest G rfl rfl rfl rfl rfl (setX vm187 (by simp)) rfl rfl (.own rfl .nil) rfl rfl rfl (Nat.le_of_ble_eq_true rfl) (fun q h => by cases h) rfl (WL_nil ⟨rfl, ?_⟩))
     exact WA_end vm175 (Meet.mk rfl rfl rfl rfl)
    refine WB_rn [0, 1, 2, 3, 4, 5, 6, 8] rfl rfl (WX_lit G 11 rfl rfl rfl rfl rfl rfl rfl rfl (WL_nil ⟨rfl, ?_⟩))
    refine WA_branch (rs := [9]) vm175 rfl (AllB.cons ?_ AllB.nil)
    refine WB_rn [0, 1, 2, 3, 4, 5, 6, 8] rfl rfl (WX_q rfl rfl (q_load_nest G rfl rfl rfl rfl rfl (nget_some.2 ⟨_, (setX vm187 rfl), rfl⟩) (.own vm202 .nil)) (WL_nil ⟨rfl, ?_⟩))
    refine WA_branch (rs := [12]) vm175 rfl (AllB.cons ?_ AllB.nil)
    refine WB_run [0, 1, 2, 3, 4, 5, 6, 8] rfl rfl (WX_gh (Gh.detach (id := 7) rfl) <| WX_ren (tx := 59) 12 rfl rfl rfl rfl rfl <| WX_append G vm181 rfl rfl rfl rfl rfl rfl rfl rfl rfl vm179 rfl rfl (WL_nil ⟨rfl, ?_⟩))
    refine WA_branch (rs := [13]) vm175 rfl (AllB.cons ?_ AllB.nil)
    first | refine WB_run [0, 1, 2, 3, 4, 5, 6, 8] rfl rfl (WX_q rfl rfl (q_index_nest G rfl rfl rfl rfl rfl (by omega) (by omega)) (WL_nil ⟨rfl, ?_⟩)) | refine WB_run [0, 1, 2, 3, 4, 5, 6, 8] rfl rfl (WX_q rfl rfl (q_index_nest G rfl rfl rfl rfl rfl (by omega) vm187) (WL_nil ⟨rfl, ?_⟩))
    refine WA_branch (rs := [14]) vm175 rfl (AllB.cons ?_ AllB.nil)
    first | refine WB_run [0, 1, 2, 3, 4, 5, 6, 8] rfl rfl (WX_store_nest G rfl rfl rfl rfl rfl (setX vm187 rfl) rfl rfl (.own rfl .nil) rfl rfl rfl (Nat.le_of_ble_eq_true rfl) (fun q h => by cases h) rfl (WL_nil ⟨rfl, ?_⟩)) | refine WB_run [0, 1, 2, 3, 4, 5, 6, 8] rfl rfl (WX_store_nest G rfl rfl rfl rfl rfl (setX vm187 (by simp)) rfl rfl (.own rfl .nil) rfl rfl rfl (Nat.le_of_ble_eq_true rfl) (fun q h => by cases h) rfl (WL_nil ⟨rfl, ?_⟩))
    exact WA_end vm175 (Meet.mk rfl rfl rfl rfl)
   refine WB_rn [0, 1, 2, 3, 4, 5, 6, 8] rfl rfl (WX_lit G 11 rfl rfl rfl rfl rfl rfl rfl rfl (WL_nil ⟨rfl, ?_⟩))
   refine WA_branch (rs := [8]) vm175 rfl (AllB.cons ?_ AllB.nil)
   first | refine WB_run [0, 1, 2, 3, 4, 5, 6, 8] rfl rfl (WX_q rfl rfl (q_index_nest G rfl rfl rfl rfl rfl (by omega) (by omega)) (WL_nil ⟨rfl, ?_⟩)) | refine WB_run [0, 1, 2, 3, 4, 5, 6, 8] rfl rfl (WX_q rfl rfl (q_index_nest G rfl rfl rfl rfl rfl (by omega) vm187) (WL_nil ⟨rfl, ?_⟩))
   refine WA_branch (rs := [9]) vm175 rfl (AllB.cons ?_ AllB.nil)
   refine WB_rn [0, 1, 2, 3, 4, 5, 6, 8] rfl rfl (WX_q rfl rfl (q_load_nest G rfl rfl rfl rfl rfl (nget_some.2 ⟨_, (setX vm187 rfl), rfl⟩) (.own vm202 .nil)) (WL_nil ⟨rfl, ?_⟩))
   refine WA_branch (rs := [12]) vm175 rfl (AllB.cons ?_ AllB.nil)
   refine WB_run [0, 1, 2, 3, 4, 5, 6, 8] rfl rfl (WX_gh (Gh.detach (id := 7) rfl) <| WX_ren (tx := 59) 12 rfl rfl rfl rfl rfl <| WX_append G vm181 rfl rfl rfl rfl rfl rfl rfl rfl rfl vm179 rfl rfl (WL_nil ⟨rfl, ?_⟩))
   refine WA_branch (rs := [13]) vm175 rfl (AllB.cons ?_ AllB.nil)
   first | refine WB_run [0, 1, 2, 3, 4, 5, 6, 8] rfl rfl (WX_q rfl rfl (q_index_nest G rfl rfl rfl rfl rfl (by omega) (by omega)) (WL_nil ⟨rfl, ?_⟩)) | refine WB_run [0, 1, 2, 3, 4, 5, 6, 8] rfl rfl (WX_q rfl rfl (q_index_nest G rfl rfl rfl rfl rfl (by omega) vm187) (WL_nil ⟨rfl, ?_⟩))
   refine WA_branch (rs := [14]) vm175 rfl (AllB.cons ?_ AllB.nil)
   first | refine WB_run [0, 1, 2, 3, 4, 5, 6, 8] rfl rfl (WX_store_nest G rfl rfl rfl rfl rfl (setX vm187 rfl) rfl rfl (.own rfl .nil) rfl rfl rfl (Nat.le_of_ble_eq_true rfl) (fun q h => by cases h) rfl (WL_nil ⟨rfl, ?_⟩)) | refine WB_run [0, 1, 2, 3, 4, 5, 6, 8] rfl rfl (WX_store_nest G rfl rfl rfl rfl rfl (setX vm187 (by simp)) rfl rfl (.own rfl .nil) rfl rfl rfl (Nat.le_of_ble_eq_true rfl) (fun q h => by cases h) rfl (WL_nil ⟨rfl, ?_⟩))
   exact WA_end vm175 (Meet.mk rfl rfl rfl rfl)
  refine zgo ?_
  refine W_ret (fin_shp rfl rfl rfl rfl (rcs_cons (rc_own rfl ?_) (rcs_cons (rc_own rfl ?_) (rcs_cons (rc_own rfl ?_) (rcs_cons (rc_own rfl ?_) (rcs_cons (rc_ne rfl ?_) (rcs_cons (rc_v ?_) (rcs_cons (rc_v ?_) rcs_nil))))))))
  all_goals exact vm116
 refine zcd (fun h5 => ?_) (fun h5 => ?_)
 ·have hc := sv_c hv (by omega)
  obtain ⟨c, rfl⟩ : ∃ c : Nat, sc = c := ⟨sc.toNat, by omega⟩
  have fl := hF.len c (by omega)
  have fe := hF.el c (by omega)
  have ftn : 0 < (a.st.getD c default).length → (((a.st.getD c default).length : Int) - 1).toNat = (a.st.getD c default).length - 1 := fun _ => (by omega)
  refine vm52 ?_
  refine vm58 ?_
  refine zcd (fun h6 => ?_) (fun h6 => ?_)
  ·have hM := mk4n (rs := rs) (a := a) (sq := sq) (sv := sv) (c := c) h5 (by omega)
   refine zgo ?_
   refine W_ret (fin_shp rfl rfl rfl rfl (rcs_cons (rc_own rfl ?_) (rcs_cons (rc_own rfl ?_) (rcs_cons (rc_own rfl ?_) (rcs_cons (rc_own rfl ?_) (rcs_cons (rc_ne rfl ?_) (rcs_cons (rc_v ?_) (rcs_cons (rc_v ?_) rcs_nil))))))))
   all_goals exact vm116
  have hM := mk4 (rs := rs) (a := a) (sq := sq) (sv := sv) (c := c) h5 (by omega)
  refine zgn ?_
  refine W_sq (W_drawsH 15 [0, 1, 2, 3, 4, 5, 6, 8] mixed vm175 rfl rfl (fun r0 => ?_) (fun _ h => h))
  refine vm99 ?_
  refine zsa 7 ?_
  refine zsa 10 ?_
  first | refine WA_take 11 rfl vm175 vm175 rfl rfl rfl rfl (q_arith rfl rfl rfl rfl (by omega) (by omega)) ?_ | refine WA_take 11 rfl vm175 vm175 rfl rfl rfl rfl (q_wrap rfl rfl rfl rfl) ?_
  refine WA_branch (rs := [8]) vm175 rfl (AllB.cons ?_ AllB.nil)
  first | refine WB_run [0, 1, 2, 3, 4, 5, 6, 8] rfl rfl (WX_q rfl rfl (q_index_nest G rfl rfl rfl rfl rfl (by omega) (by omega)) (WL_nil ⟨rfl, ?_⟩)) | refine WB_run [0, 1, 2, 3, 4, 5, 6, 8] rfl rfl (WX_q rfl rfl (q_index_nest G rfl rfl rfl rfl rfl (by omega) vm187) (WL_nil ⟨rfl, ?_⟩))
  refine WA_branch (rs := [9]) vm175 rfl (AllB.cons ?_ AllB.nil)
  refine WB_rn [0, 1, 2, 3, 4, 5, 6, 8] rfl rfl (WX_take G 10 rfl rfl rfl rfl rfl rfl rfl rfl (openN (by omega)) rfl rfl (WL_nil ⟨rfl, ?_⟩))
  refine WA_branch (rs := [12]) vm175 rfl (AllB.cons ?_ AllB.nil)
  refine WB_rn [0, 1, 2, 3, 4, 5, 6, 8] rfl rfl (WX_q rfl rfl (q_cut_own G rfl rfl rfl rfl rfl rfl (by omega) vm200 vm200) (WL_nil ⟨rfl, ?_⟩))
  refine WA_branch (rs := [13]) vm175 rfl (AllB.cons ?_ AllB.nil)
  first | refine WB_run [0, 1, 2, 3, 4, 5, 6, 8] rfl rfl (WX_q rfl rfl (q_index_nest G rfl rfl rfl rfl rfl (by omega) (by omega)) (WL_nil ⟨rfl, ?_⟩)) | refine WB_run [0, 1, 2, 3, 4, 5, 6, 8] rfl rfl (WX_q rfl rfl (q_index_nest G rfl rfl rfl rfl rfl (by omega) vm187) (WL_nil ⟨rfl, ?_⟩))
  refine WA_branch (rs := [14]) vm175 rfl (AllB.cons ?_ AllB.nil)
  first | refine WB_run [0, 1, 2, 3, 4, 5, 6, 8] rfl rfl (WX_gh (Gh.shrink (t := 90) 11 rfl rfl rfl) <| WX_store_nest G rfl rfl rfl rfl rfl (setX vm187 rfl) rfl rfl (.own rfl .nil) rfl rfl rfl (Nat.le_of_ble_eq_true rfl) (fun q h => by cases h) rfl (WL_nil ⟨rfl, ?_⟩)) | refine WB_run [0, 1, 2, 3, 4, 5, 6, 8] rfl rfl (WX_gh (Gh.shrink (t := 90) 11 rfl rfl rfl) <| WX_store_nest G rfl rfl rfl rfl rfl (setX vm187 (by simp)) rfl rfl (.own rfl .nil) rfl rfl rfl (Nat.le_of_ble_eq_true rfl) (fun q h => by cases h) rfl (WL_nil ⟨rfl, ?_⟩))
  refine vm15 ?_
  refine W_sq (W_drawsH 14 [0, 1, 3, 4, 5, 6, 7, 8] mixed vm175 rfl rfl (fun r0 => ?_) (fun _ h => h))
  refine vm23 ?_
  refine vm61 ?_
  refine WA_take 6 rfl vm175 vm175 rfl rfl rfl rfl (q_load_eptN G rfl rfl rfl rfl) ?_
  refine zsa 7 ?_
  first | refine WA_take 8 rfl vm175 vm175 rfl rfl rfl rfl (q_arith rfl rfl rfl rfl (by omega) (by omega)) ?_ | refine WA_take 8 rfl vm175 vm175 rfl rfl rfl rfl (q_wrap rfl rfl rfl rfl) ?_
  refine zsa 9 ?_
  refine zsa 10 ?_
  refine WA_branch (rs := [11]) vm175 rfl (AllB.cons ?_ AllB.nil)
  refine WB_rn [0, 1, 3, 4, 5, 6, 7, 8] rfl rfl ?_
  refine vm8 ?_
  refine zsa 12 ?_
  refine zsa 13 ?_
  refine vm15 ?_
  refine W_ret (fin_shp rfl rfl rfl rfl (rcs_cons (rc_own rfl ?_) (rcs_cons (rc_own rfl ?_) (rcs_cons (rc_own rfl ?_) (rcs_cons (rc_own rfl ?_) (rcs_cons (rc_ne rfl ?_) (rcs_cons (rc_v ?_) (rcs_cons (rc_v ?_) rcs_nil))))))))
  all_goals exact vm116
 refine zcd (fun h7 => ?_) (fun h7 => ?_)
 ·have hc := sv_c hv (by omega)
  obtain ⟨c, rfl⟩ : ∃ c : Nat, sc = c := ⟨sc.toNat, by omega⟩
  have fl := hF.len c (by omega)
  have fe := hF.el c (by omega)
  have ftn : 0 < (a.st.getD c default).length → (((a.st.getD c default).length : Int) - 1).toNat = (a.st.getD c default).length - 1 := fun _ => (by omega)
  have hM := mk5 (rs := rs) (a := a) (sq := sq) (sv := sv) (c := c) h7
  refine vm21 ?_
  refine zgo ?_
  refine W_ret (fin_shp rfl rfl rfl rfl (rcs_cons (rc_own rfl ?_) (rcs_cons (rc_own rfl ?_) (rcs_cons (rc_own rfl ?_) (rcs_cons (rc_own rfl ?_) (rcs_cons (rc_ne rfl ?_) (rcs_cons (rc_v ?_) (rcs_cons (rc_v ?_) rcs_nil))))))))
  all_goals exact vm116
 have hk := sv_k hv
 have hq := sv_q hv (by omega)
 obtain ⟨q, rfl⟩ : ∃ q : Nat, sq = q := ⟨sq.toNat, by omega⟩
 have hM := mk6 (sk := sk) (rs := rs) (a := a) (sc := sc) (sv := sv) (q := q) (by omega)
 refine vm21 ?_
 refine zgo ?_
 refine W_ret (fin_shp rfl rfl rfl rfl (rcs_cons (rc_own rfl ?_) (rcs_cons (rc_own rfl ?_) (rcs_cons (rc_own rfl ?_) (rcs_cons (rc_own rfl ?_) (rcs_cons (rc_ne rfl ?_) (rcs_cons (rc_v ?_) (rcs_cons (rc_v ?_) rcs_nil))))))))
 all_goals exact vm116
set_option maxHeartbeats 2000000 in
set_option maxHeartbeats 4000000 in
theorem c_impl_stepAbstract (rs : List Route) (a : Abs) (sk sq sc sv : Int) (hF : AbsF rs a) (hv : stepV a.ma.length ⟨sk, sq, sc, sv⟩ = true) (ho : ¬ noS rs a ⟨sk, sq, sc, sv⟩) : Ctr Tryz.prog 57 [.lst 2 (rs.map encRo), .agg [.lst 1 (a.en.map encO), .lst 1 (a.ra.map encO), .lst 1 (a.po.map encO), .lst 1 (a.ma.map Rf.encI), .nst none 1 (a.st.map encSt)], .v (.agg ⟨[.int .i64 sk, .int .i64 sq, .int .i64 sc, .int .i64 sv]⟩)] (.shp false [some 5, none, none] [.fr 4 1 ((makeA rs a ⟨sk, sq, sc, sv⟩).1.en.map encO), .fr 4 1 ((makeA rs a ⟨sk, sq, sc, sv⟩).1.ra.map encO), .fr 4 1 ((makeA rs a ⟨sk, sq, sc, sv⟩).1.po.map encO), .fr 3 1 ((makeA rs a ⟨sk, sq, sc, sv⟩).1.ma.map Rf.encI), .ne 26 1 ((makeA rs a ⟨sk, sq, sc, sv⟩).1.st.map encSt), .v (.int .i64 (makeA rs a ⟨sk, sq, sc, sv⟩).2.1), .v (.bool (makeA rs a ⟨sk, sq, sc, sv⟩).2.2)]) := by
 have f0 := hF.n
 have f1 := hF.rn
 have f2 := hF.st
 have f3 := hF.en
 have f4 := hF.ra
 have f5 := hF.po
 have fm := hF.rt
 have fs := hF.small
 refine Ctr.of (n := 159) G Tryz.func57 rfl vm175 rfl rfl rfl (fun w0 => ?_)
 refine W_pinS 1 rfl (fun _ => rfl) (fun u1 => ?_)
 refine W_sq ?_
 refine vm38 ?_
 refine vm7 ?_
 refine WX_box 2 rfl rfl rfl rfl rfl rfl rfl ?_
 refine vm42 ?_
 refine zgn ?_
 refine vm64 ?_
 refine zst ?_
 refine vm7 ?_
 refine WX_call 8 rfl rfl rfl (ArgsOK.of rfl) (c_impl_newAbstract a fs) rfl rfl ?_
 refine vm7 ?_
 refine vm96 ?_
 refine zgn ?_
 refine zgn ?_
 refine zgn ?_
 refine W_cond rfl (fun h1 => ?_) (fun h1 => ?_)
 ·try rw [h1]
  try simp only [rfb] at h1
  have hq := sv_q hv (by omega)
  obtain ⟨q, rfl⟩ : ∃ q : Nat, sq = q := ⟨sq.toNat, by omega⟩
  have hM := mk1 (rs := rs) (a := a) (sc := sc) (sv := sv) (q := q) h1
  refine zgn ?_
  refine W_region ?_
  iterate 4 refine zst ?_
  refine vm10 ?_
  refine zgn ?_
  refine W_ret (fin_shp rfl rfl rfl rfl (rcs_cons (rc_own rfl ?_) (rcs_cons (rc_own rfl ?_) (rcs_cons (rc_own rfl ?_) (rcs_cons (rc_own rfl ?_) (rcs_cons (rc_ne rfl ?_) (rcs_cons (rc_v ?_) (rcs_cons (rc_v ?_) rcs_nil))))))))
  all_goals exact vm127
 try rw [h1]
 try simp only [rfb] at h1
 refine zgn ?_
 refine W_cond rfl (fun h2 => ?_) (fun h2 => ?_)
 ·try rw [h2]
  try simp only [rfb] at h2
  have hM := mk2 (rs := rs) (a := a) (sq := sq) (sc := sc) (sv := sv) h2
  refine zgn ?_
  refine W_block (W_loopK [0, 4, 6, 9, 10, 11, 36, 37] [0, 2, 3, 6, 7, 8] (fun (i : Nat) => [(38, .v (.int .i64 (i : Int)))]) (fun (i : Nat) => [(4, some (.row 4 1 ((syncR rs a i).map encO))), (5, some (.row 4 1 ((syncP rs a i).map encO)))]) (fun (i : Nat) => i ≤ 8) (fun (i : Nat) => 8 - i) 0 rfl rfl ?_ ?_ ?_ ?_)
  ·exact Nat.zero_le _
  ·exact ⟨⟨_, rfl, by (first | rfl | (simp; done) | (simp; omega))⟩, rfl, trivial⟩
  ·exact ⟨⟨_, rfl, by rfl⟩, rfl, rfl, ⟨⟨_, rfl, by rfl⟩, rfl, rfl, trivial⟩⟩
  intro i hinv
  have e1 := @syncR_len rs a i
  have e2 := @syncP_len rs a i
  have fq := fun h => hF.rt i h
  simp only [List.cons_append, List.nil_append]
  refine zgn ?_
  refine W_sq (W_cond rfl (fun h3 => ?_) (fun h3 => ?_))
  ·try rw [h3]
   try simp only [rfb] at h3
   refine zgn ?_
   refine zgn ?_
   refine vm80 ?_
   refine vm33 ?_
   refine QL_part rfl rfl rfl (fun h4 => ?_) (fun h4 => ?_)
   ·try rw [h4]
    try simp only [rfb] at h4
    iterate 7 refine zst ?_
    refine QL_part rfl rfl rfl (fun h5 => ?_) (fun h5 => ?_)
    ·try rw [h5]
     try simp only [rfb] at h5
     iterate 8 refine zst ?_
     refine vm73 ?_
     refine zst ?_
     refine vm94 ?_
     refine QX_q rfl rfl (q_call rfl (ArgsOK.of rfl) (c_slices_Contains_int_int _ _ (Nat.le_trans (hF.len _ (by have := hF.rt i (by omega); omega)) (by decide))) rfl) ?_
     refine zgn ?_
     refine W_cond rfl (fun h6 => ?_) (fun h6 => ?_)
     ·try rw [h6]
      try simp only [rfb] at h6
      refine W_drawsH 10 [0, 2, 3, 6, 7, 8] mixed vm175 rfl rfl (fun r0 => ?_) (fun _ h => h)
      refine vm23 ?_
      refine vm61 ?_
      refine WA_branch (rs := [6]) vm175 rfl (AllB.cons ?_ AllB.nil)
      first | refine WB_run [0, 2, 3, 6, 7, 8] rfl rfl (WX_q rfl rfl (q_index_own G rfl rfl rfl rfl rfl (by omega) vm187) (WL_nil ⟨rfl, ?_⟩)) | refine WB_run [0, 2, 3, 6, 7, 8] rfl rfl (WX_q rfl rfl (q_index_own G rfl rfl rfl rfl rfl (by omega) (by omega)) (WL_nil ⟨rfl, ?_⟩))
      refine WA_branch (rs := [7]) vm175 rfl (AllB.cons ?_ AllB.nil)
      first | refine WB_run [0, 2, 3, 6, 7, 8] rfl rfl (WX_store_row G rfl rfl rfl rfl rfl (getM (by omega) (by rw [syncR_len]; omega)) rfl rfl rfl rfl rfl (Nat.le_of_ble_eq_true rfl) rfl (WL_nil ⟨rfl, ?_⟩)) | refine WB_run [0, 2, 3, 6, 7, 8] rfl rfl (WX_store_row G rfl rfl rfl rfl rfl (getM (by omega) (by rw [syncP_len]; omega)) rfl rfl rfl rfl rfl (Nat.le_of_ble_eq_true rfl) rfl (WL_nil ⟨rfl, ?_⟩)) | refine WB_run [0, 2, 3, 6, 7, 8] rfl rfl (WX_store_row G rfl rfl rfl rfl rfl (getM (by omega) (by omega)) rfl rfl rfl rfl rfl (Nat.le_of_ble_eq_true rfl) rfl (WL_nil ⟨rfl, ?_⟩)) | refine WB_run [0, 2, 3, 6, 7, 8] rfl rfl (WX_store_row G rfl rfl rfl rfl rfl (getM (by omega) vm187) rfl rfl rfl rfl rfl (Nat.le_of_ble_eq_true rfl) rfl (WL_nil ⟨rfl, ?_⟩))
      refine WA_branch (rs := [8]) vm175 rfl (AllB.cons ?_ AllB.nil)
      first | refine WB_run [0, 2, 3, 6, 7, 8] rfl rfl (WX_q rfl rfl (q_index_own G rfl rfl rfl rfl rfl (by omega) vm187) (WL_nil ⟨rfl, ?_⟩)) | refine WB_run [0, 2, 3, 6, 7, 8] rfl rfl (WX_q rfl rfl (q_index_own G rfl rfl rfl rfl rfl (by omega) (by omega)) (WL_nil ⟨rfl, ?_⟩))
      refine WA_branch (rs := [9]) vm175 rfl (AllB.cons ?_ AllB.nil)
      first | refine WB_run [0, 2, 3, 6, 7, 8] rfl rfl (WX_store_row G rfl rfl rfl rfl rfl (getM (by omega) (by rw [syncR_len]; omega)) rfl rfl rfl rfl rfl (Nat.le_of_ble_eq_true rfl) rfl (WL_nil ⟨rfl, ?_⟩)) | refine WB_run [0, 2, 3, 6, 7, 8] rfl rfl (WX_store_row G rfl rfl rfl rfl rfl (getM (by omega) (by rw [syncP_len]; omega)) rfl rfl rfl rfl rfl (Nat.le_of_ble_eq_true rfl) rfl (WL_nil ⟨rfl, ?_⟩)) | refine WB_run [0, 2, 3, 6, 7, 8] rfl rfl (WX_store_row G rfl rfl rfl rfl rfl (getM (by omega) (by omega)) rfl rfl rfl rfl rfl (Nat.le_of_ble_eq_true rfl) rfl (WL_nil ⟨rfl, ?_⟩)) | refine WB_run [0, 2, 3, 6, 7, 8] rfl rfl (WX_store_row G rfl rfl rfl rfl rfl (getM (by omega) vm187) rfl rfl rfl rfl rfl (Nat.le_of_ble_eq_true rfl) rfl (WL_nil ⟨rfl, ?_⟩))
      refine vm15 ?_
      refine W_region ?_
      refine vm6 ?_
      refine zgn ?_
      refine ⟨(i + 1), ?_, ?_, ⟨⟨_, rfl, by rfl⟩, rfl, trivial⟩, ⟨⟨_, rfl, by (first | rfl | (rw [syncR_t (cnd_t vm177 vm177 vm177), List.map_set]; rfl) | (rw [syncP_t (cnd_t vm177 vm177 vm177), List.map_set]; rfl) | (rw [syncR_f vm180]; done) | (rw [syncP_f vm180]; done))⟩, rfl, rfl, ⟨⟨_, rfl, by (first | rfl | (rw [syncR_t (cnd_t vm177 vm177 vm177), List.map_set]; rfl) | (rw [syncP_t (cnd_t vm177 vm177 vm177), List.map_set]; rfl) | (rw [syncR_f vm180]; done) | (rw [syncP_f vm180]; done))⟩, rfl, rfl, trivial⟩⟩, rfl, rfl, rfl⟩
      ·omega
      omega
     try rw [h6]
     try simp only [rfb] at h6
     refine zgn ?_
     refine W_region ?_
     refine vm6 ?_
     refine zgn ?_
     refine ⟨(i + 1), ?_, ?_, ⟨⟨_, rfl, by rfl⟩, rfl, trivial⟩, ⟨⟨_, rfl, by (first | rfl | (rw [syncR_t (cnd_t vm177 vm177 vm177), List.map_set]; rfl) | (rw [syncP_t (cnd_t vm177 vm177 vm177), List.map_set]; rfl) | (rw [syncR_f vm180]; done) | (rw [syncP_f vm180]; done))⟩, rfl, rfl, ⟨⟨_, rfl, by (first | rfl | (rw [syncR_t (cnd_t vm177 vm177 vm177), List.map_set]; rfl) | (rw [syncP_t (cnd_t vm177 vm177 vm177), List.map_set]; rfl) | (rw [syncR_f vm180]; done) | (rw [syncP_f vm180]; done))⟩, rfl, rfl, trivial⟩⟩, rfl, rfl, rfl⟩
     ·omega
     omega
    try rw [h5]
    try simp only [rfb] at h5
    refine zgn ?_
    refine W_false rfl ?_
    refine zgn ?_
    refine W_region ?_
    refine vm6 ?_
    refine zgn ?_
    refine ⟨(i + 1), ?_, ?_, ⟨⟨_, rfl, by rfl⟩, rfl, trivial⟩, ⟨⟨_, rfl, by (first | rfl | (rw [syncR_t (cnd_t vm177 vm177 vm177), List.map_set]; rfl) | (rw [syncP_t (cnd_t vm177 vm177 vm177), List.map_set]; rfl) | (rw [syncR_f vm180]; done) | (rw [syncP_f vm180]; done))⟩, rfl, rfl, ⟨⟨_, rfl, by (first | rfl | (rw [syncR_t (cnd_t vm177 vm177 vm177), List.map_set]; rfl) | (rw [syncP_t (cnd_t vm177 vm177 vm177), List.map_set]; rfl) | (rw [syncR_f vm180]; done) | (rw [syncP_f vm180]; done))⟩, rfl, rfl, trivial⟩⟩, rfl, rfl, rfl⟩
    ·omega
    omega
   try rw [h4]
   try simp only [rfb] at h4
   refine zgn ?_
   refine W_false rfl ?_
   refine zgn ?_
   refine W_region ?_
   refine vm6 ?_
   refine zgn ?_
   refine ⟨(i + 1), ?_, ?_, ⟨⟨_, rfl, by rfl⟩, rfl, trivial⟩, ⟨⟨_, rfl, by (first | rfl | (rw [syncR_t (cnd_t vm177 vm177 vm177), List.map_set]; rfl) | (rw [syncP_t (cnd_t vm177 vm177 vm177), List.map_set]; rfl) | (rw [syncR_f vm180]; done) | (rw [syncP_f vm180]; done))⟩, rfl, rfl, ⟨⟨_, rfl, by (first | rfl | (rw [syncR_t (cnd_t vm177 vm177 vm177), List.map_set]; rfl) | (rw [syncP_t (cnd_t vm177 vm177 vm177), List.map_set]; rfl) | (rw [syncR_f vm180]; done) | (rw [syncP_f vm180]; done))⟩, rfl, rfl, trivial⟩⟩, rfl, rfl, rfl⟩
   ·omega
   omega
  try rw [h3]
  try simp only [rfb] at h3
  refine zgn ?_
  refine zgn ?_
  refine W_ret (fin_shp rfl rfl rfl rfl (rcs_cons (rc_own rfl ?_) (rcs_cons (rc_own rfl ?_) (rcs_cons (rc_own rfl ?_) (rcs_cons (rc_own rfl ?_) (rcs_cons (rc_ne rfl ?_) (rcs_cons (rc_v ?_) (rcs_cons (rc_v ?_) rcs_nil))))))))
  all_goals exact vm127
 try rw [h2]
 try simp only [rfb] at h2
 refine zgn ?_
 refine W_cond rfl (fun h7 => ?_) (fun h7 => ?_)
 ·try rw [h7]
  try simp only [rfb] at h7
  have hc := sv_c hv (by omega)
  obtain ⟨c, rfl⟩ : ∃ c : Nat, sc = c := ⟨sc.toNat, by omega⟩
  have fl := hF.len c (by omega)
  have fe := hF.el c (by omega)
  have ftn : 0 < (a.st.getD c default).length → (((a.st.getD c default).length : Int) - 1).toNat = (a.st.getD c default).length - 1 := fun _ => (by omega)
  have hnx := @nextT_lt rs a c
  refine vm64 ?_
  iterate 4 refine zst ?_
  refine vm7 ?_
  refine WX_q rfl rfl (q_call rfl (ArgsOK.of rfl) (c_impl_nextTaken rs a c hF (by omega)) rfl) ?_
  refine zgn ?_
  refine zgn ?_
  refine W_cond rfl (fun h8 => ?_) (fun h8 => ?_)
  ·try rw [h8]
   try simp only [rfb] at h8
   exact absurd (Or.inl ⟨h7, by show nextT rs a c < 0; omega⟩) ho
  try rw [h8]
  try simp only [rfb] at h8
  have hM := mk3 (rs := rs) (a := a) (sq := sq) (sv := sv) (c := c) h7 (by omega)
  refine vm100 ?_
  refine vm41 ?_
  refine vm10 ?_
  refine W_gh (Gh.open (id := 7) (i := c) (k := 0) 10 rfl rfl (openN (by omega)) rfl rfl) ?_
  apply W_drawsJ [6, 9, 10, 11] [2, 3, 4, 5, 6, 7, 8] 12 15 [0, 1, 2, 3, 4, 5, 6, 8] mixed vm175 rfl rfl (fun _ h => znk h)
  ·intro r0
   refine vm99 ?_
   refine zsa 7 ?_
   refine zsa 10 ?_
   refine WA_branch (rs := [8, 11]) vm175 rfl (AllB.cons ?_ (AllB.cons ?_ AllB.nil))
   ·first | refine WB_run [0, 1, 2, 3, 4, 5, 6, 8] rfl rfl (WX_q rfl rfl (q_index_nest G rfl rfl rfl rfl rfl (by omega) (by omega)) (WL_nil ⟨rfl, ?_⟩)) | refine WB_run [0, 1, 2, 3, 4, 5, 6, 8] rfl rfl (WX_q rfl rfl (q_index_nest G rfl rfl rfl rfl rfl (by omega) vm187) (WL_nil ⟨rfl, ?_⟩))
    refine WA_branch (rs := [9, 11]) vm175 rfl (AllB.cons ?_ (AllB.cons ?_ AllB.nil))
    ·refine WB_rn [0, 1, 2, 3, 4, 5, 6, 8] rfl rfl (WX_q rfl rfl (q_load_nest G rfl rfl rfl rfl rfl (nget_some.2 ⟨_, (setX vm187 rfl), rfl⟩) (.own vm202 .nil)) (WL_nil ⟨rfl, ?_⟩))
     refine WA_branch (rs := [11]) vm175 rfl (AllB.cons ?_ AllB.nil)
     refine WB_rn [0, 1, 2, 3, 4, 5, 6, 8] rfl rfl (WX_lit G 11 rfl rfl rfl rfl rfl rfl rfl rfl (WL_nil ⟨rfl, ?_⟩))
     refine WA_branch (rs := [12]) vm175 rfl (AllB.cons ?_ AllB.nil)
     refine WB_run [0, 1, 2, 3, 4, 5, 6, 8] rfl rfl (WX_gh (Gh.detach (id := 7) rfl) <| WX_ren (tx := 97) 12 rfl rfl rfl rfl rfl <| WX_append G vm181 rfl rfl rfl rfl rfl rfl rfl rfl rfl vm179 rfl rfl (WL_nil ⟨rfl, ?_⟩))
     refine WA_branch (rs := [13]) vm175 rfl (AllB.cons ?_ AllB.nil)
     first | refine WB_run [0, 1, 2, 3, 4, 5, 6, 8] rfl rfl (WX_q rfl rfl (q_index_nest G rfl rfl rfl rfl rfl (by omega) (by omega)) (WL_nil ⟨rfl, ?_⟩)) | refine WB_run [0, 1, 2, 3, 4, 5, 6, 8] rfl rfl (WX_q rfl rfl (q_index_nest G rfl rfl rfl rfl rfl (by omega) vm187) (WL_nil ⟨rfl, ?_⟩))
     refine WA_branch (rs := [14]) vm175 rfl (AllB.cons ?_ AllB.nil)
     first | refine WB_run [0, 1, 2, 3, 4, 5, 6, 8] rfl rfl (WX_store_nest G rfl rfl rfl rfl rfl (setX vm187 rfl) rfl rfl (.own rfl .nil) rfl rfl rfl (Nat.le_of_ble_eq_true rfl) (fun q h => by cases h) rfl (WL_nil ⟨rfl, ?_⟩)) | refine WB_run [0, 1, 2, 3, 4, 5, 6, 8] rfl rfl (WX_store_nest G rfl rfl rfl rfl rfl (setX vm187 (by simp)) rfl rfl (.own rfl .nil) rfl rfl rfl (Nat.le_of_ble_eq_true rfl) (fun q h => by cases h) rfl (WL_nil ⟨rfl, ?_⟩))
     exact WA_end vm175 (Meet.mk rfl rfl rfl rfl)
    refine WB_rn [0, 1, 2, 3, 4, 5, 6, 8] rfl rfl (WX_lit G 11 rfl rfl rfl rfl rfl rfl rfl rfl (WL_nil ⟨rfl, ?_⟩))
    refine WA_branch (rs := [9]) vm175 rfl (AllB.cons ?_ AllB.nil)
    refine WB_rn [0, 1, 2, 3, 4, 5, 6, 8] rfl rfl (WX_q rfl rfl (q_load_nest G rfl rfl rfl rfl rfl (nget_some.2 ⟨_, (setX vm187 rfl), rfl⟩) (.own vm202 .nil)) (WL_nil ⟨rfl, ?_⟩))
    refine WA_branch (rs := [12]) vm175 rfl (AllB.cons ?_ AllB.nil)
    refine WB_run [0, 1, 2, 3, 4, 5, 6, 8] rfl rfl (WX_gh (Gh.detach (id := 7) rfl) <| WX_ren (tx := 97) 12 rfl rfl rfl rfl rfl <| WX_append G vm181 rfl rfl rfl rfl rfl rfl rfl rfl rfl vm179 rfl rfl (WL_nil ⟨rfl, ?_⟩))
    refine WA_branch (rs := [13]) vm175 rfl (AllB.cons ?_ AllB.nil)
    first | refine WB_run [0, 1, 2, 3, 4, 5, 6, 8] rfl rfl (WX_q rfl rfl (q_index_nest G rfl rfl rfl rfl rfl (by omega) (by omega)) (WL_nil ⟨rfl, ?_⟩)) | refine WB_run [0, 1, 2, 3, 4, 5, 6, 8] rfl rfl (WX_q rfl rfl (q_index_nest G rfl rfl rfl rfl rfl (by omega) vm187) (WL_nil ⟨rfl, ?_⟩))
    refine WA_branch (rs := [14]) vm175 rfl (AllB.cons ?_ AllB.nil)
    first | refine WB_run [0, 1, 2, 3, 4, 5, 6, 8] rfl rfl (WX_store_nest G rfl rfl rfl rfl rfl (setX vm187 rfl) rfl rfl (.own rfl .nil) rfl rfl rfl (Nat.le_of_ble_eq_true rfl) (fun q h => by cases h) rfl (WL_nil ⟨rfl, ?_⟩)) | refine WB_run [0, 1, 2, 3, 4, 5, 6, 8] rfl rfl (WX_store_nest G rfl rfl rfl rfl rfl (setX vm187 (by simp)) rfl rfl (.own rfl .nil) rfl rfl rfl (Nat.le_of_ble_eq_true rfl) (fun q h => by cases h) rfl (WL_nil ⟨rfl, ?_⟩))
    exact WA_end vm175 (Meet.mk rfl rfl rfl rfl)
   refine WB_rn [0, 1, 2, 3, 4, 5, 6, 8] rfl rfl (WX_lit G 11 rfl rfl rfl rfl rfl rfl rfl rfl (WL_nil ⟨rfl, ?_⟩))
   refine WA_branch (rs := [8]) vm175 rfl (AllB.cons ?_ AllB.nil)
   first | refine WB_run [0, 1, 2, 3, 4, 5, 6, 8] rfl rfl (WX_q rfl rfl (q_index_nest G rfl rfl rfl rfl rfl (by omega) (by omega)) (WL_nil ⟨rfl, ?_⟩)) | refine WB_run [0, 1, 2, 3, 4, 5, 6, 8] rfl rfl (WX_q rfl rfl (q_index_nest G rfl rfl rfl rfl rfl (by omega) vm187) (WL_nil ⟨rfl, ?_⟩))
   refine WA_branch (rs := [9]) vm175 rfl (AllB.cons ?_ AllB.nil)
   refine WB_rn [0, 1, 2, 3, 4, 5, 6, 8] rfl rfl (WX_q rfl rfl (q_load_nest G rfl rfl rfl rfl rfl (nget_some.2 ⟨_, (setX vm187 rfl), rfl⟩) (.own vm202 .nil)) (WL_nil ⟨rfl, ?_⟩))
   refine WA_branch (rs := [12]) vm175 rfl (AllB.cons ?_ AllB.nil)
   refine WB_run [0, 1, 2, 3, 4, 5, 6, 8] rfl rfl (WX_gh (Gh.detach (id := 7) rfl) <| WX_ren (tx := 97) 12 rfl rfl rfl rfl rfl <| WX_append G vm181 rfl rfl rfl rfl rfl rfl rfl rfl rfl vm179 rfl rfl (WL_nil ⟨rfl, ?_⟩))
   refine WA_branch (rs := [13]) vm175 rfl (AllB.cons ?_ AllB.nil)
   first | refine WB_run [0, 1, 2, 3, 4, 5, 6, 8] rfl rfl (WX_q rfl rfl (q_index_nest G rfl rfl rfl rfl rfl (by omega) (by omega)) (WL_nil ⟨rfl, ?_⟩)) | refine WB_run [0, 1, 2, 3, 4, 5, 6, 8] rfl rfl (WX_q rfl rfl (q_index_nest G rfl rfl rfl rfl rfl (by omega) vm187) (WL_nil ⟨rfl, ?_⟩))
   refine WA_branch (rs := [14]) vm175 rfl (AllB.cons ?_ AllB.nil)
   first | refine WB_run [0, 1, 2, 3, 4, 5, 6, 8] rfl rfl (WX_store_nest G rfl rfl rfl rfl rfl (setX vm187 rfl) rfl rfl (.own rfl .nil) rfl rfl rfl (Nat.le_of_ble_eq_true rfl) (fun q h => by cases h) rfl (WL_nil ⟨rfl, ?_⟩)) | refine WB_run [0, 1, 2, 3, 4, 5, 6, 8] rfl rfl (WX_store_nest G rfl rfl rfl rfl rfl (setX vm187 (by simp)) rfl rfl (.own rfl .nil) rfl rfl rfl (Nat.le_of_ble_eq_true rfl) (fun q h => by cases h) rfl (WL_nil ⟨rfl, ?_⟩))
   exact WA_end vm175 (Meet.mk rfl rfl rfl rfl)
  refine zgn ?_
  refine W_ret (fin_shp rfl rfl rfl rfl (rcs_cons (rc_own rfl ?_) (rcs_cons (rc_own rfl ?_) (rcs_cons (rc_own rfl ?_) (rcs_cons (rc_own rfl ?_) (rcs_cons (rc_ne rfl ?_) (rcs_cons (rc_v ?_) (rcs_cons (rc_v ?_) rcs_nil))))))))
  all_goals exact vm127
 try rw [h7]
 try simp only [rfb] at h7
 refine zgn ?_
 refine W_cond rfl (fun h9 => ?_) (fun h9 => ?_)
 ·try rw [h9]
  try simp only [rfb] at h9
  have hc := sv_c hv (by omega)
  obtain ⟨c, rfl⟩ : ∃ c : Nat, sc = c := ⟨sc.toNat, by omega⟩
  have fl := hF.len c (by omega)
  have fe := hF.el c (by omega)
  have ftn : 0 < (a.st.getD c default).length → (((a.st.getD c default).length : Int) - 1).toNat = (a.st.getD c default).length - 1 := fun _ => (by omega)
  refine vm64 ?_
  refine vm102 ?_
  refine vm7 ?_
  refine vm58 ?_
  refine zst ?_
  refine vm6 ?_
  refine zgn ?_
  refine zgn ?_
  refine W_cond rfl (fun h10 => ?_) (fun h10 => ?_)
  ·try rw [h10]
   try simp only [rfb] at h10
   exact absurd (Or.inr ⟨h9, by show (a.st.getD c default).length = 0; omega⟩) ho
  try rw [h10]
  try simp only [rfb] at h10
  have hM := mk4 (rs := rs) (a := a) (sq := sq) (sv := sv) (c := c) h9 (by omega)
  refine zgn ?_
  refine vm64 ?_
  refine vm102 ?_
  refine vm7 ?_
  refine vm58 ?_
  refine zgn ?_
  refine W_drawsH 14 [0, 1, 2, 3, 4, 5, 6, 8] mixed vm175 rfl rfl (fun r0 => ?_) (fun _ h => h)
  refine vm99 ?_
  refine zsa 7 ?_
  refine zsa 10 ?_
  refine WA_branch (rs := [8]) vm175 rfl (AllB.cons ?_ AllB.nil)
  first | refine WB_run [0, 1, 2, 3, 4, 5, 6, 8] rfl rfl (WX_q rfl rfl (q_index_nest G rfl rfl rfl rfl rfl (by omega) (by omega)) (WL_nil ⟨rfl, ?_⟩)) | refine WB_run [0, 1, 2, 3, 4, 5, 6, 8] rfl rfl (WX_q rfl rfl (q_index_nest G rfl rfl rfl rfl rfl (by omega) vm187) (WL_nil ⟨rfl, ?_⟩))
  refine WA_branch (rs := [9]) vm175 rfl (AllB.cons ?_ AllB.nil)
  refine WB_rn [0, 1, 2, 3, 4, 5, 6, 8] rfl rfl (WX_take G 10 rfl rfl rfl rfl rfl rfl rfl rfl (openN (by omega)) rfl rfl (WL_nil ⟨rfl, ?_⟩))
  refine WA_branch (rs := [11]) vm175 rfl (AllB.cons ?_ AllB.nil)
  refine WB_rn [0, 1, 2, 3, 4, 5, 6, 8] rfl rfl (WX_q rfl rfl (q_cut_own G rfl rfl rfl rfl rfl rfl (by omega) vm200 vm200) (WL_nil ⟨rfl, ?_⟩))
  refine WA_branch (rs := [12]) vm175 rfl (AllB.cons ?_ AllB.nil)
  first | refine WB_run [0, 1, 2, 3, 4, 5, 6, 8] rfl rfl (WX_q rfl rfl (q_index_nest G rfl rfl rfl rfl rfl (by omega) (by omega)) (WL_nil ⟨rfl, ?_⟩)) | refine WB_run [0, 1, 2, 3, 4, 5, 6, 8] rfl rfl (WX_q rfl rfl (q_index_nest G rfl rfl rfl rfl rfl (by omega) vm187) (WL_nil ⟨rfl, ?_⟩))
  refine WA_branch (rs := [13]) vm175 rfl (AllB.cons ?_ AllB.nil)
  first | refine WB_run [0, 1, 2, 3, 4, 5, 6, 8] rfl rfl (WX_gh (Gh.shrink (t := 135) 11 rfl rfl rfl) <| WX_store_nest G rfl rfl rfl rfl rfl (setX vm187 rfl) rfl rfl (.own rfl .nil) rfl rfl rfl (Nat.le_of_ble_eq_true rfl) (fun q h => by cases h) rfl (WL_nil ⟨rfl, ?_⟩)) | refine WB_run [0, 1, 2, 3, 4, 5, 6, 8] rfl rfl (WX_gh (Gh.shrink (t := 135) 11 rfl rfl rfl) <| WX_store_nest G rfl rfl rfl rfl rfl (setX vm187 (by simp)) rfl rfl (.own rfl .nil) rfl rfl rfl (Nat.le_of_ble_eq_true rfl) (fun q h => by cases h) rfl (WL_nil ⟨rfl, ?_⟩))
  refine vm15 ?_
  refine zgn ?_
  refine W_ret (fin_shp rfl rfl rfl rfl (rcs_cons (rc_own rfl ?_) (rcs_cons (rc_own rfl ?_) (rcs_cons (rc_own rfl ?_) (rcs_cons (rc_own rfl ?_) (rcs_cons (rc_ne rfl ?_) (rcs_cons (rc_v ?_) (rcs_cons (rc_v ?_) rcs_nil))))))))
  all_goals exact vm127
 try rw [h9]
 try simp only [rfb] at h9
 refine zgn ?_
 refine W_cond rfl (fun h11 => ?_) (fun h11 => ?_)
 ·try rw [h11]
  try simp only [rfb] at h11
  have hc := sv_c hv (by omega)
  obtain ⟨c, rfl⟩ : ∃ c : Nat, sc = c := ⟨sc.toNat, by omega⟩
  have fl := hF.len c (by omega)
  have fe := hF.el c (by omega)
  have ftn : 0 < (a.st.getD c default).length → (((a.st.getD c default).length : Int) - 1).toNat = (a.st.getD c default).length - 1 := fun _ => (by omega)
  have hM := mk5 (rs := rs) (a := a) (sq := sq) (sv := sv) (c := c) h11
  refine W_region ?_
  iterate 6 refine zst ?_
  refine vm10 ?_
  refine zgn ?_
  refine W_ret (fin_shp rfl rfl rfl rfl (rcs_cons (rc_own rfl ?_) (rcs_cons (rc_own rfl ?_) (rcs_cons (rc_own rfl ?_) (rcs_cons (rc_own rfl ?_) (rcs_cons (rc_ne rfl ?_) (rcs_cons (rc_v ?_) (rcs_cons (rc_v ?_) rcs_nil))))))))
  all_goals exact vm127
 try rw [h11]
 try simp only [rfb] at h11
 refine zgn ?_
 refine W_cond rfl (fun h12 => ?_) (fun h12 => ?_)
 ·try rw [h12]
  try simp only [rfb] at h12
  have hq := sv_q hv (by omega)
  obtain ⟨q, rfl⟩ : ∃ q : Nat, sq = q := ⟨sq.toNat, by omega⟩
  have hM := mk6 (sk := sk) (rs := rs) (a := a) (sc := sc) (sv := sv) (q := q) h12
  refine W_region ?_
  iterate 7 refine zst ?_
  refine vm10 ?_
  refine zgn ?_
  refine W_ret (fin_shp rfl rfl rfl rfl (rcs_cons (rc_own rfl ?_) (rcs_cons (rc_own rfl ?_) (rcs_cons (rc_own rfl ?_) (rcs_cons (rc_own rfl ?_) (rcs_cons (rc_ne rfl ?_) (rcs_cons (rc_v ?_) (rcs_cons (rc_v ?_) rcs_nil))))))))
  all_goals exact vm127
 try rw [h12]
 try simp only [rfb] at h12
 exact absurd (sv_k hv) (by omega)
end Go.Proofs.YtcnodpipinlpcaaGreat
set_option maxRecDepth 20000
set_option linter.unusedVariables false
set_option linter.unusedSimpArgs false
namespace Go.Proofs.YtcnodpipinlpcaaGreat
open Go Go.Rf
set_option maxHeartbeats 2000000 in
set_option maxHeartbeats 4000000 in
theorem c_impl_stepAbstract_no (rs : List Route) (a : Abs) (sk sq sc sv : Int) (hF : AbsF rs a) (hv : stepV a.ma.length ⟨sk, sq, sc, sv⟩ = true) (ho : noS rs a ⟨sk, sq, sc, sv⟩) : CtrE (α := Nat → Option Addr × Nat × Nat) Tryz.prog 57 [.lst 2 (rs.map encRo), .agg [.lst 1 (a.en.map encO), .lst 1 (a.ra.map encO), .lst 1 (a.po.map encO), .lst 1 (a.ma.map Rf.encI), .nst none 1 (a.st.map encSt)], .v (.agg ⟨[.int .i64 sk, .int .i64 sq, .int .i64 sc, .int .i64 sv]⟩)] (fun y => (.shp false [some 5, none, none] [.v (.slice (y 0).1 (y 0).2.1 (y 0).2.2), .v (.slice (y 1).1 (y 1).2.1 (y 1).2.2), .v (.slice (y 2).1 (y 2).2.1 (y 2).2.2), .v (.slice (y 3).1 (y 3).2.1 (y 3).2.2), .v (.slice (y 4).1 (y 4).2.1 (y 4).2.2), .v (.int .i64 (-1)), .v (.bool false)])) := by
 have f0 := hF.n
 have f1 := hF.rn
 have f2 := hF.st
 have f3 := hF.en
 have f4 := hF.ra
 have f5 := hF.po
 have fm := hF.rt
 have fs := hF.small
 refine CtrE.of (n := 159) G Tryz.func57 rfl vm175 rfl rfl rfl (fun w0 => ?_)
 refine W_pinL 1 rfl rfl (fun _ => rfl) (fun u1 => ?_)
 refine vm26 ?_
 refine vm42 ?_
 refine vm52 ?_
 refine WX_call 8 rfl rfl rfl (ArgsOK.of rfl) (c_impl_newAbstract a fs) rfl rfl ?_
 refine vm7 ?_
 refine vm96 ?_
 refine zcd (fun h1 => ?_) (fun h1 => ?_)
 ·exact absurd (noS_k ho) (by omega)
 refine zcd (fun h2 => ?_) (fun h2 => ?_)
 ·exact absurd (noS_k ho) (by omega)
 refine zcd (fun h3 => ?_) (fun h3 => ?_)
 ·have hc := sv_c hv (by omega)
  obtain ⟨c, rfl⟩ : ∃ c : Nat, sc = c := ⟨sc.toNat, by omega⟩
  have fl := hF.len c (by omega)
  have fe := hF.el c (by omega)
  have ftn : 0 < (a.st.getD c default).length → (((a.st.getD c default).length : Int) - 1).toNat = (a.st.getD c default).length - 1 := fun _ => (by omega)
  have hnx := @nextT_lt rs a c
  refine zcl (c_impl_nextTaken rs a c hF (by omega)) ?_
  refine zcd (fun h4 => ?_) (fun h4 => ?_)
  ·refine zgo ?_
   refine W_ret (fine (u1) (fin_shp rfl rfl rfl rfl (rcs_cons (rc_pin ?_) (rcs_cons (rc_pin ?_) (rcs_cons (rc_pin ?_) (rcs_cons (rc_pin ?_) (rcs_cons (rc_pinn ?_) (rcs_cons (rc_v ?_) (rcs_cons (rc_v ?_) rcs_nil)))))))))
   all_goals (rfl)
  exact absurd (noS_3 ho h3) (by omega)
 refine zcd (fun h5 => ?_) (fun h5 => ?_)
 ·have hc := sv_c hv (by omega)
  obtain ⟨c, rfl⟩ : ∃ c : Nat, sc = c := ⟨sc.toNat, by omega⟩
  have fl := hF.len c (by omega)
  have fe := hF.el c (by omega)
  have ftn : 0 < (a.st.getD c default).length → (((a.st.getD c default).length : Int) - 1).toNat = (a.st.getD c default).length - 1 := fun _ => (by omega)
  refine vm52 ?_
  refine vm58 ?_
  refine zcd (fun h6 => ?_) (fun h6 => ?_)
  ·refine zgo ?_
   refine W_ret (fine (u1) (fin_shp rfl rfl rfl rfl (rcs_cons (rc_pin ?_) (rcs_cons (rc_pin ?_) (rcs_cons (rc_pin ?_) (rcs_cons (rc_pin ?_) (rcs_cons (rc_pinn ?_) (rcs_cons (rc_v ?_) (rcs_cons (rc_v ?_) rcs_nil)))))))))
   all_goals (rfl)
  exact absurd (noS_4 ho h5) (by omega)
 exact absurd (noS_k ho) (by omega)
end Go.Proofs.YtcnodpipinlpcaaGreat
set_option maxRecDepth 20000
set_option linter.unusedVariables false
set_option linter.unusedSimpArgs false
namespace Go.Proofs.YtcnodpipinlpcaaGreat
open Go Go.Rf
end Go.Proofs.YtcnodpipinlpcaaGreat
set_option maxRecDepth 20000
set_option linter.unusedVariables false
set_option linter.unusedSimpArgs false
namespace Go.Proofs.YtcnodpipinlpcaaGreat
open Go Go.Rf
set_option maxHeartbeats 4000000 in
theorem c_spec_l25Steps (n : Nat) (ss : List MStep) (hn : n ≤ 1048576) (hl : ss.length ≤ 9223372036854775807) : Ctr Tryz.prog 59 [.v (.int .i64 (n : Int)), .lst 4 (ss.map encMc)] (.one (.v (.bool (stepsV n ss)))) := by
 refine Ctr.of (n := 22) G Tryz.func59 rfl vm175 rfl rfl rfl (fun w0 => ?_)
 refine zgo ?_
 refine W_loopK [0, 1] [] (fun (i : Nat) => [(5, .v (.int .i64 (i : Int)))]) (fun (i : Nat) => []) (fun (i : Nat) => i ≤ ss.length ∧ ∀ j, j < i → stepV n (ss.getD j default) = true) (fun (i : Nat) => ss.length - i) 0 rfl rfl ?_ ?_ ?_ ?_
 ·exact ⟨Nat.zero_le _, fun j hj => by omega⟩
 ·exact ⟨⟨_, rfl, by (first | rfl | (simp; done) | (simp; omega))⟩, rfl, trivial⟩
 ·exact trivial
 intro i hinv
 simp only [List.cons_append, List.nil_append]
 refine zcd (fun h1 => ?_) (fun h1 => ?_)
 ·refine zcl (c_spec_l25Step _ _ (by first | assumption | omega)) ?_
  refine zcd (fun h2 => ?_) (fun h2 => ?_)
  ·refine zf1 ?_
   all_goals exact vm174
  refine zgo ?_
  refine ⟨(i + 1), ?_, ?_, ⟨⟨_, rfl, by rfl⟩, rfl, trivial⟩, trivial, rfl, rfl, rfl⟩
  ·exact ⟨by omega, upto_succ hinv.2 vm177⟩
  omega
 refine zf1 ?_
 all_goals exact vm174
end Go.Proofs.YtcnodpipinlpcaaGreat
