/- Texts merged into one: M9, M14, W6, W7. -/
import Derived.Test.YtcnodpipinlpcaaGreatPFnExactAgreeOnC
set_option maxRecDepth 20000
set_option linter.unusedVariables false
set_option linter.unusedSimpArgs false
namespace Go.Proofs.YtcnodpipinlpcaaGreat
open Go Go.Rf
set_option maxHeartbeats 4000000 in
theorem c_spec_l1Least (a b : Int) : Ctr Tryz.prog 136 [.v (.int .i64 a), .v (.int .i64 b)] (.one (.v (.int .i64 (min a b)))) := by
 refine Ctr.of (n := 10) G Tryz.func136 rfl vm175 rfl rfl rfl (fun w0 => ?_)
 refine zcd (fun h1 => ?_) (fun h1 => ?_)
 ·refine zf1 ?_
  all_goals (simp_all; omega)
 refine zf1 ?_
 all_goals (simp_all; omega)
set_option maxHeartbeats 4000000 in
theorem c_impl_takeSlot (sl : List Slot) (lim : Int) (hF : SlF sl) : Ctr Tryz.prog 188 [.lst 3 (sl.map encSl), .v (.int .i64 lim)] (.many [.fr 154 3 ((tkT sl lim).1.map encSl), .v (.int .i64 (tkT sl lim).2.1), .v (.bool (tkT sl lim).2.2)]) := by
 have hl4 := hF.len
 have hb := @bstS_bd sl true
 have hf := @fnd_bd sl
 refine Ctr.of (n := 33) G Tryz.func188 rfl vm175 rfl rfl rfl (fun w0 => ?_)
 refine zcl (c_impl_pendingSlot sl true (by omega) hF.difS) ?_
 refine zcd (fun h1 => ?_) (fun h1 => ?_)
 ·refine zwt ?_
  refine zgo ?_
  refine W_ret (fin_many rfl rfl rfl rfl (rcs_cons (rc_nil ?_) (rcs_cons (rc_v ?_) (rcs_cons (rc_v ?_) rcs_nil))))
  all_goals exact vm152
 refine zcd (fun h2 => ?_) (fun h2 => ?_)
 ·refine zgo ?_
  refine W_ret (fin_many rfl rfl rfl rfl (rcs_cons (rc_nil ?_) (rcs_cons (rc_v ?_) (rcs_cons (rc_v ?_) rcs_nil))))
  all_goals exact vm152
 refine vm37 ?_
 refine zgn ?_
 refine zgn ?_
 refine W_sq (W_drawsH 9 [0] mixed vm175 rfl rfl (fun r0 => ?_) (fun _ h => h))
 refine zsa 0 ?_
 refine zsa 1 ?_
 refine zsa 2 ?_
 refine vm61 ?_
 refine WA_branch (rs := [3]) vm175 rfl (AllB.cons ?_ AllB.nil)
 refine WB_rn [0] rfl rfl (WX_call 2 rfl rfl rfl (ArgsOK.of rfl) (c_impl_withSlot sl _ ⟨_, _, _⟩ (by omega) (by omega)) rfl rfl (WL_nil ⟨rfl, ?_⟩))
 refine zsa 6 ?_
 refine zsa 7 ?_
 refine zsa 8 ?_
 refine vm15 ?_
 refine W_ret (fin_many rfl rfl rfl rfl (rcs_cons (rc_own rfl ?_) (rcs_cons (rc_v ?_) (rcs_cons (rc_v ?_) rcs_nil))))
 all_goals exact vm152
set_option maxHeartbeats 4000000 in
theorem c_spec_l8Take (sl : List Slot) (lim : Int) (hF : SlF sl) (hk : tkOK sl lim = true) : Ctr Tryz.prog 181 [.lst 3 (sl.map encSl), .v (.int .i64 lim)] (.many [.fr 154 3 ((tkS sl).map encSl), .v (.int .i64 (tkI sl))]) := by
 have hl4 := hF.len
 have hb := @bstS_bd sl true
 have hf := @fnd_bd sl
 have hkk := tkOK_iff.mp hk
 refine Ctr.of (n := 33) G Tryz.func181 rfl vm175 rfl rfl rfl (fun w0 => ?_)
 refine zcl (c_spec_l8Best_t sl (by omega)) ?_
 refine zcd (fun h1 => ?_) (fun h1 => ?_)
 ·exfalso; omega
 refine zcd (fun h2 => ?_) (fun h2 => ?_)
 ·exfalso; omega
 refine vm37 ?_
 refine zgn ?_
 refine zgn ?_
 refine W_sq (W_drawsH 8 [0] mixed vm175 rfl rfl (fun r0 => ?_) (fun _ h => h))
 refine zsa 0 ?_
 refine zsa 1 ?_
 refine zsa 2 ?_
 refine vm61 ?_
 refine WA_branch (rs := [3]) vm175 rfl (AllB.cons ?_ AllB.nil)
 refine WB_rn [0] rfl rfl (WX_call 2 rfl rfl rfl (ArgsOK.of rfl) (c_spec_l8With sl _ ⟨_, _, _⟩ (by omega) (by omega)) rfl rfl (WL_nil ⟨rfl, ?_⟩))
 refine zsa 6 ?_
 refine zsa 7 ?_
 refine vm15 ?_
 refine W_ret (fin_many rfl rfl rfl rfl (rcs_cons (rc_own rfl ?_) (rcs_cons (rc_v ?_) rcs_nil)))
 all_goals (rfl)
set_option maxHeartbeats 4000000 in
theorem c_impl_putIrq (sl : List Slot) (irq p : Int) (hF : SlF sl) (h0 : 0 ≤ fndS sl irq) : Ctr Tryz.prog 191 [.lst 3 (sl.map encSl), .v (.int .i64 irq), .v (.int .i64 p)] (.many [.fr 154 3 ((ptS sl irq).map encSl), .v (.bool true)]) := by
 have hl4 := hF.len
 have hf := @fnd_bd sl irq
 refine Ctr.of (n := 38) G Tryz.func191 rfl vm175 rfl rfl rfl (fun w0 => ?_)
 refine zcl (c_impl_findSlot sl irq (by omega)) ?_
 refine zcd (fun h1 => ?_) (fun h1 => ?_)
 ·refine vm37 ?_
  refine zcd (fun h2 => ?_) (fun h2 => ?_)
  ·refine vm50 ?_
   refine W_ret (fin_many rfl rfl rfl rfl (rcs_cons (rc_own rfl ?_) (rcs_cons (rc_v ?_) rcs_nil)))
   all_goals exact vm138
  refine vm50 ?_
  refine W_ret (fin_many rfl rfl rfl rfl (rcs_cons (rc_own rfl ?_) (rcs_cons (rc_v ?_) rcs_nil)))
  all_goals exact vm138
 exfalso; omega
set_option maxHeartbeats 4000000 in
theorem c_spec_l8Put (sl : List Slot) (irq p : Int) (hF : SlF sl) (h0 : 0 ≤ fndS sl irq) : Ctr Tryz.prog 184 [.lst 3 (sl.map encSl), .v (.int .i64 irq), .v (.int .i64 p)] (.many [.fr 154 3 ((ptS sl irq).map encSl), .v (.bool true)]) := by
 have hl4 := hF.len
 have hf := @fnd_bd sl irq
 refine Ctr.of (n := 39) G Tryz.func184 rfl vm175 rfl rfl rfl (fun w0 => ?_)
 refine zcl (c_spec_l8Find sl irq (by omega)) ?_
 refine zcd (fun h1 => ?_) (fun h1 => ?_)
 ·refine vm37 ?_
  refine zcd (fun h2 => ?_) (fun h2 => ?_)
  ·refine vm75 ?_
   refine W_ret (fin_many rfl rfl rfl rfl (rcs_cons (rc_own rfl ?_) (rcs_cons (rc_v ?_) rcs_nil)))
   all_goals exact vm138
  refine vm75 ?_
  refine W_ret (fin_many rfl rfl rfl rfl (rcs_cons (rc_own rfl ?_) (rcs_cons (rc_v ?_) rcs_nil)))
  all_goals exact vm138
 exfalso; omega
set_option maxHeartbeats 4000000 in
theorem c_impl_newQueue_n (q : Que) (hl : q.sl.length ≤ 1048576) (hw : q.wa.length ≤ 1048576) : Ctr Tryz.prog 189 [.agg [.lst 3 (q.sl.map encSl), .lst 2 (q.wa.map encWa)]] (.shp true [some 2] [.fr 154 3 (q.sl.map encSl), .fr 183 2 (q.wa.map encWa)]) := by
 refine Ctr.of (n := 12) G Tryz.func189 rfl vm175 rfl rfl rfl (fun w0 => ?_)
 refine W_pinS 0 rfl (fun _ => rfl) (fun u0 => ?_)
 refine vm91 ?_
 refine W_sq (W_drawsH 10 [0] mixed vm175 rfl rfl (fun r0 => ?_) (fun _ h => h))
 refine vm77 ?_
 refine WA_more (N := 4) rfl (WAV_startH (fuel := 4) [⟨0, 3, 2, false, .row 154 3 []⟩, ⟨4, 7, 3, false, .row 183 2 []⟩] (AllVOK.cons (VOK.lit G rfl rfl rfl rfl rfl) (AllVOK.cons (VOK.lit G rfl rfl rfl rfl rfl) (AllVOK.nil))) (fun hok => ?_))
 refine WAV_go [(3, [0])] vm175 vm175 (fun e he => hok e he) vm175 (AllVS.cons ?_ AllVS.nil)
 refine VStep.mk1 [0] 3 (.own 2) 2 (.row 154 3 []) [⟨4, 7, 3, false, .row 183 2 []⟩] rfl rfl rfl rfl rfl (fun b1 _ hbn => WX_append G vm185 rfl rfl rfl rfl rfl rfl rfl rfl rfl vm187 rfl rfl (WL_nil rfl)) vm175 vm175 vm175 vm175 (WAV_go [(7, [4])] vm175 vm175 (fun e he => hok e (vin (is := [0]) rfl he)) vm175 (AllVS.cons ?_ AllVS.nil))
 refine vm32 ?_
 clear hok
 refine WA_branch (rs := [8]) vm175 rfl (AllB.cons ?_ AllB.nil)
 refine vm71 ?_
 refine WA_branch (rs := [9]) vm175 rfl (AllB.cons ?_ AllB.nil)
 refine vm71 ?_
 refine vm15 ?_
 refine W_ret (fin_shp rfl rfl rfl rfl (rcs_cons (rc_own rfl ?_) (rcs_cons (rc_own rfl ?_) rcs_nil)))
 all_goals (first | rfl | simp)
set_option maxHeartbeats 4000000 in
theorem c_impl_offerIrq (q : Que) (irq p : Int) (hF : QF q) (hi : 0 ≤ irq ∧ irq ≤ 7) (hp : 0 ≤ p ∧ p ≤ 15) : Ctr Tryz.prog 142 [.agg [.lst 3 (q.sl.map encSl), .lst 2 (q.wa.map encWa)], .v (.int .i64 irq), .v (.int .i64 p)] (.shp true [some 2] [.fr 154 3 ((offr q irq p).sl.map encSl), .fr 183 2 ((offr q irq p).wa.map encWa) true]) := by
 have hl4 := hF.sl.len
 have hwn := hF.wn
 have hQ := (offQ_F (irq := irq) (p := p) hF hi hp).1
 refine Ctr.of (n := 40) G Tryz.func142 rfl vm175 rfl rfl rfl (fun w0 => ?_)
 refine W_pinS 0 rfl (fun _ => rfl) (fun u0 => ?_)
 refine vm1 ?_
 refine vm12 ?_
 refine vm52 ?_
 refine WX_call 4 rfl rfl rfl (ArgsOK.of rfl) (c_impl_newQueue_n q (by omega) (by omega)) rfl rfl ?_
 refine vm7 ?_
 refine WX_alloc_s G 5 rfl rfl rfl rfl rfl ?_
 refine zcl (c_impl_findSlot q.sl irq (by omega)) ?_
 refine zcd (fun h1 => ?_) (fun h1 => ?_)
 ·have ho := offQ_a (p := p) h1
  rw [ho] at hQ
  refine vm52 ?_
  refine WX_call 6 rfl rfl rfl (ArgsOK.of rfl) (c_impl_putIrq q.sl irq p hF.sl h1) rfl rfl ?_
  refine vm52 ?_
  refine WX_call 8 rfl rfl rfl (ArgsOK.of rfl) (c_impl_settled _ hQ) rfl rfl ?_
  refine zgo ?_
  refine W_ret (fin_shp rfl rfl rfl rfl (rcs_cons (rc_own rfl ?_) (rcs_cons (rc_own rfl ?_) rcs_nil)))
  all_goals exact vm123
 refine zcl (c_impl_waiterIndex q.wa irq (by omega)) ?_
 refine zcd (fun h2 => ?_) (fun h2 => ?_)
 ·have ho := offQ_b (p := p) h1 h2
  rw [ho] at hQ
  refine vm52 ?_
  refine WX_call 6 rfl rfl rfl (ArgsOK.of rfl) (c_impl_withWaiter q.wa ⟨irq, p⟩ (by omega)) rfl rfl ?_
  refine vm52 ?_
  refine WX_call 8 rfl rfl rfl (ArgsOK.of rfl) (c_impl_settled _ hQ) rfl rfl ?_
  refine zgo ?_
  refine W_ret (fin_shp rfl rfl rfl rfl (rcs_cons (rc_own rfl ?_) (rcs_cons (rc_own rfl ?_) rcs_nil)))
  all_goals exact vm123
 have ho := offQ_c (p := p) h1 h2
 rw [ho] at hQ
 refine vm52 ?_
 refine WX_call 7 rfl rfl rfl (ArgsOK.of rfl) (c_impl_settled _ hQ) rfl rfl ?_
 refine zgo ?_
 refine W_ret (fin_shp rfl rfl rfl rfl (rcs_cons (rc_own rfl ?_) (rcs_cons (rc_own rfl ?_) rcs_nil)))
 all_goals exact vm123
set_option maxHeartbeats 1000000 in
set_option maxHeartbeats 4000000 in
theorem c_spec_l9Settle_n (q : Que) (hF : QF q) : Ctr Tryz.prog 185 [.agg [.lst 3 (q.sl.map encSl), .lst 2 (q.wa.map encWa)]] (.shp true [some 2] [.fr 154 3 ((setl q).sl.map encSl), .fr 183 2 ((setl q).wa.map encWa)]) := by
 have hq4 := hF.sl.len
 have hqw := hF.wn
 refine Ctr.of (n := 56) G Tryz.func185 rfl vm175 rfl rfl rfl (fun w0 => ?_)
 refine W_pinS 0 rfl (fun _ => rfl) (fun u0 => ?_)
 refine vm1 ?_
 refine vm12 ?_
 refine vm52 ?_
 refine WX_call 4 rfl rfl rfl (ArgsOK.of rfl) (c_spec_l9Own q (by omega) (by omega)) rfl rfl ?_
 refine vm7 ?_
 refine WX_alloc_s G 5 rfl rfl rfl rfl rfl ?_
 refine zgo ?_
 refine W_loopK [2, 3] [1, 4] (fun (x : Que) => []) (fun (x : Que) => [(2, some (.row 154 3 (x.sl.map encSl))), (3, some (.row 183 2 (x.wa.map encWa)))]) (fun (x : Que) => QF x ∧ setl x = setl q) (fun (x : Que) => phi x) q rfl rfl ?_ ?_ ?_ ?_
 ·exact ⟨hF, rfl⟩
 ·exact trivial
 ·exact ⟨⟨_, rfl, by rfl⟩, rfl, rfl, ⟨⟨_, rfl, by rfl⟩, rfl, rfl, trivial⟩⟩
 intro x hinv
 have hFx := hinv.1
 have hl4 := hFx.sl.len
 have hwn := hFx.wn
 have hf := @fre_bd x.sl
 have hb := @bstS_bd x.sl false
 simp only [List.cons_append, List.nil_append]
 refine zcl (c_spec_l9Settled x (by omega) (by omega)) ?_
 refine zcd (fun h1 => ?_) (fun h1 => ?_)
 ·obtain ⟨hw0, hbb⟩ := stQ_pos hFx h1
  have hnx := setl_step hFx h1
  obtain ⟨hF2, hphi⟩ := stQ_F hFx h1
  refine vm52 ?_
  first | refine WX_q rfl rfl (q_index_own G rfl rfl rfl rfl rfl (by omega) (by omega)) ?_ | refine WX_q rfl rfl (q_index_own G rfl rfl rfl rfl rfl (by omega) vm187) ?_
  refine vm7 ?_
  first | refine WX_q rfl rfl (q_load_rpt_struct G rfl rfl rfl rfl (getN (by omega)) rfl) ?_ | refine WX_q rfl rfl (q_load_rpt_struct G rfl rfl rfl rfl (getNI (by omega) (by omega)) rfl) ?_ | refine WX_q rfl rfl (q_load_rpt_struct G rfl rfl rfl rfl (getM (by omega) (by omega)) rfl) ?_ | refine WX_q rfl rfl (q_load_rpt_struct G rfl rfl rfl rfl (getM (by omega) vm187) rfl) ?_
  refine vm7 ?_
  refine WX_alloc_s G 6 rfl rfl rfl rfl rfl ?_
  refine vm52 ?_
  refine WX_lit G 7 rfl rfl rfl rfl rfl rfl rfl rfl ?_
  refine vm52 ?_
  refine vm55 ?_
  refine vm7 ?_
  refine WX_appendA G np rfl rfl rfl rfl rfl rfl rfl (ArgOK.sub rfl vm176) rfl vm187 rfl rfl ?_
  refine zgn ?_
  refine W_eqrow (id := 6) ((x.wa.drop 1).map encWa) rfl vm193 ?_
  refine zcl (c_spec_l8Free x.sl (by omega)) ?_
  refine zcd (fun h2 => ?_) (fun h2 => ?_)
  ·refine zcl (c_spec_l8Best_f x.sl (by omega)) ?_
   refine zgn ?_
   refine W_drawsH 16 [1, 2, 3, 4, 5, 6] mixed vm175 rfl rfl (fun r0 => ?_) (fun _ h => h)
   refine vm23 ?_
   first | refine WA_take 4 rfl vm175 vm175 rfl rfl rfl rfl (q_index_own G rfl rfl rfl rfl rfl (by omega) (by omega)) ?_ | refine WA_take 4 rfl vm175 vm175 rfl rfl rfl rfl (q_index_own G rfl rfl rfl rfl rfl (by omega) vm187) ?_
   refine WA_take 5 rfl vm175 vm175 rfl rfl rfl rfl (q_field_rpt G rfl rfl rfl rfl) ?_
   first | refine WA_take 6 rfl vm175 vm175 rfl rfl rfl rfl (q_load_rpt G rfl rfl rfl rfl rfl (getN (by omega)) rfl) ?_ | refine WA_take 6 rfl vm175 vm175 rfl rfl rfl rfl (q_load_rpt G rfl rfl rfl rfl rfl (getNI (by omega) (by omega)) rfl) ?_ | refine WA_take 6 rfl vm175 vm175 rfl rfl rfl rfl (q_load_rpt G rfl rfl rfl rfl rfl (getM (by omega) (by omega)) rfl) ?_ | refine WA_take 6 rfl vm175 vm175 rfl rfl rfl rfl (q_load_rpt G rfl rfl rfl rfl rfl (getM (by omega) vm187) rfl) ?_
   refine zsa 7 ?_
   refine zsa 8 ?_
   refine zsa 9 ?_
   first | refine WA_take 10 rfl vm175 vm175 rfl rfl rfl rfl (q_index_own G rfl rfl rfl rfl rfl (by omega) (by omega)) ?_ | refine WA_take 10 rfl vm175 vm175 rfl rfl rfl rfl (q_index_own G rfl rfl rfl rfl rfl (by omega) vm187) ?_
   refine WA_take 11 rfl vm175 vm175 rfl rfl rfl rfl (q_field_rpt G rfl rfl rfl rfl) ?_
   first | refine WA_take 12 rfl vm175 vm175 rfl rfl rfl rfl (q_load_rpt G rfl rfl rfl rfl rfl (getN (by omega)) rfl) ?_ | refine WA_take 12 rfl vm175 vm175 rfl rfl rfl rfl (q_load_rpt G rfl rfl rfl rfl rfl (getNI (by omega) (by omega)) rfl) ?_ | refine WA_take 12 rfl vm175 vm175 rfl rfl rfl rfl (q_load_rpt G rfl rfl rfl rfl rfl (getM (by omega) (by omega)) rfl) ?_ | refine WA_take 12 rfl vm175 vm175 rfl rfl rfl rfl (q_load_rpt G rfl rfl rfl rfl rfl (getM (by omega) vm187) rfl) ?_
   refine zsa 13 ?_
   refine WA_branch (rs := [14]) vm175 rfl (AllB.cons ?_ AllB.nil)
   refine WB_rn [1, 2, 3, 4, 5, 6] rfl rfl (WX_call 8 rfl rfl rfl (ArgsOK.of rfl) (c_spec_l9Wait (x.wa.drop 1) ⟨_, _⟩ vm213) rfl rfl (WL_nil ⟨rfl, ?_⟩))
   refine zsa 15 ?_
   refine vm15 ?_
   refine vm52 ?_
   refine WX_call 9 rfl rfl rfl (ArgsOK.of rfl) (c_spec_l8With x.sl _ ⟨1, _, _⟩ (by omega) (by omega)) rfl rfl ?_
   iterate 3 refine zst ?_
   refine WL_gh (Gh.sub 8 2 np rfl rfl rfl) (WL_gh (Gh.sub 7 3 np rfl rfl rfl) (WL_nil ⟨(stQ x), ?_, ?_, trivial, ⟨⟨_, rfl, by (first | rfl | (rw [stQ_fre (q := x) (by omega)]; exact congrArg (fun z => Row.row _ _ z) (setG (f := encSl) (x := ⟨1, _, _⟩))) | (rw [stQ_bst (q := x) (by omega)]; exact congrArg (fun z => Row.row _ _ z) (setG (f := encSl) (x := ⟨1, _, _⟩))) | (rw [stQ_fre (q := x) (by omega)]; exact congrArg (fun z => Row.row _ _ z) (List.map_drop).symm) | (rw [stQ_bst (q := x) (by omega)]; done) | (rw [stQ_bst (q := x) (by omega)]; rfl) | (rw [stQ_fre (q := x) (by omega)]; done) | (rw [stQ_fre (q := x) (by omega)]; rfl) | (rw [stQ_fre (q := x) (by omega)]; exact congrArg (fun z => Row.row _ _ z) vm193)| (rw [stQ_bst (q := x) (by omega)]; exact congrArg (fun z => Row.row _ _ z) vm193))⟩, rfl, rfl, ⟨⟨_, rfl, by (first | rfl | (rw [stQ_fre (q := x) (by omega)]; exact congrArg (fun z => Row.row _ _ z) (setG (f := encSl) (x := ⟨1, _, _⟩))) | (rw [stQ_bst (q := x) (by omega)]; exact congrArg (fun z => Row.row _ _ z) (setG (f := encSl) (x := ⟨1, _, _⟩))) | (rw [stQ_fre (q := x) (by omega)]; exact congrArg (fun z => Row.row _ _ z) (List.map_drop).symm) | (rw [stQ_bst (q := x) (by omega)]; done) | (rw [stQ_bst (q := x) (by omega)]; rfl) | (rw [stQ_fre (q := x) (by omega)]; done) | (rw [stQ_fre (q := x) (by omega)]; rfl) | (rw [stQ_fre (q := x) (by omega)]; exact congrArg (fun z => Row.row _ _ z) vm193)| (rw [stQ_bst (q := x) (by omega)]; exact congrArg (fun z => Row.row _ _ z) vm193))⟩, rfl, rfl, trivial⟩⟩, rfl, rfl, rfl⟩))
   ·exact ⟨hF2, hnx ▸ hinv.2⟩
   exact hphi
  refine vm52 ?_
  refine WX_call 8 rfl rfl rfl (ArgsOK.of rfl) (c_spec_l8With x.sl _ ⟨1, _, _⟩ (by omega) (by omega)) rfl rfl ?_
  iterate 3 refine zst ?_
  refine WL_gh (Gh.sub 7 2 np rfl rfl rfl) (WL_gh (Gh.sub 6 3 np rfl rfl rfl) (WL_nil ⟨(stQ x), ?_, ?_, trivial, ⟨⟨_, rfl, by (first | rfl | (rw [stQ_fre (q := x) (by omega)]; exact congrArg (fun z => Row.row _ _ z) (setG (f := encSl) (x := ⟨1, _, _⟩))) | (rw [stQ_bst (q := x) (by omega)]; exact congrArg (fun z => Row.row _ _ z) (setG (f := encSl) (x := ⟨1, _, _⟩))) | (rw [stQ_fre (q := x) (by omega)]; exact congrArg (fun z => Row.row _ _ z) (List.map_drop).symm) | (rw [stQ_bst (q := x) (by omega)]; done) | (rw [stQ_bst (q := x) (by omega)]; rfl) | (rw [stQ_fre (q := x) (by omega)]; done) | (rw [stQ_fre (q := x) (by omega)]; rfl) | (rw [stQ_fre (q := x) (by omega)]; exact congrArg (fun z => Row.row _ _ z) vm193)| (rw [stQ_bst (q := x) (by omega)]; exact congrArg (fun z => Row.row _ _ z) vm193))⟩, rfl, rfl, ⟨⟨_, rfl, by (first | rfl | (rw [stQ_fre (q := x) (by omega)]; exact congrArg (fun z => Row.row _ _ z) (setG (f := encSl) (x := ⟨1, _, _⟩))) | (rw [stQ_bst (q := x) (by omega)]; exact congrArg (fun z => Row.row _ _ z) (setG (f := encSl) (x := ⟨1, _, _⟩))) | (rw [stQ_fre (q := x) (by omega)]; exact congrArg (fun z => Row.row _ _ z) (List.map_drop).symm) | (rw [stQ_bst (q := x) (by omega)]; done) | (rw [stQ_bst (q := x) (by omega)]; rfl) | (rw [stQ_fre (q := x) (by omega)]; done) | (rw [stQ_fre (q := x) (by omega)]; rfl) | (rw [stQ_fre (q := x) (by omega)]; exact congrArg (fun z => Row.row _ _ z) vm193)| (rw [stQ_bst (q := x) (by omega)]; exact congrArg (fun z => Row.row _ _ z) vm193))⟩, rfl, rfl, trivial⟩⟩, rfl, rfl, rfl⟩))
  ·exact ⟨hF2, hnx ▸ hinv.2⟩
  exact hphi
 have hd := setl_done h1
 refine zgo ?_
 refine W_ret (fin_shp rfl rfl rfl rfl (rcs_cons (rc_own rfl ?_) (rcs_cons (rc_own rfl ?_) rcs_nil)))
 all_goals ((rw [← hinv.2, hd]; done))
theorem c_spec_l9Offer (q : Que) (irq p : Int) (hF : QF q) (hi : 0 ≤ irq ∧ irq ≤ 7) (hp : 0 ≤ p ∧ p ≤ 15) : Ctr Tryz.prog 138 [.agg [.lst 3 (q.sl.map encSl), .lst 2 (q.wa.map encWa)], .v (.int .i64 irq), .v (.int .i64 p)] (.shp true [some 2] [.fr 154 3 ((offr q irq p).sl.map encSl), .fr 183 2 ((offr q irq p).wa.map encWa)]) := by
 have hl4 := hF.sl.len
 have hwn := hF.wn
 have hQ := (offQ_F (irq := irq) (p := p) hF hi hp).1
 refine Ctr.of (n := 44) G Tryz.func138 rfl vm175 rfl rfl rfl (fun w0 => ?_)
 refine W_pinS 0 rfl (fun _ => rfl) (fun u0 => ?_)
 refine W_seq (fun K1 hK1 => ?_)
 refine vm38 ?_
 refine vm12 ?_
 refine WL_nil (hK1 _ ?_)
 clear hK1 K1
 refine W_seq (fun K2 hK2 => ?_)
 refine W_seq (fun K3 hK3 => ?_)
 refine vm29 ?_
 refine WX_q rfl rfl (q_call rfl (ArgsOK.of rfl) (c_spec_l8Find q.sl irq (by omega)) rfl) ?_
 refine vm7 ?_
 refine WX_q rfl rfl (q_cmp rfl rfl rfl rfl) (WL_nil (hK3 _ ?_))
 clear hK3 K3
 refine W_cond rfl (fun h1 => ?_) (fun h1 => ?_)
 ·try rw [h1]
  try simp only [rfb] at h1
  have ho := offQ_a (p := p) h1
  rw [ho] at hQ
  refine W_seq (fun K4 hK4 => ?_)
  refine vm29 ?_
  refine WX_q rfl rfl (q_move rfl rfl) ?_
  refine vm7 ?_
  refine WX_call 3 rfl rfl rfl (ArgsOK.of rfl) (c_spec_l8Put q.sl irq p hF.sl h1) rfl rfl ?_
  refine vm7 ?_
  refine vm45 ?_
  refine hK4 _ ?_
  clear hK4 K4
  refine W_seq (fun K5 hK5 => ?_)
  refine vm44 ?_
  refine WX_call 5 rfl rfl rfl (ArgsOK.of rfl) (c_spec_l9Settle_n _ hQ) rfl rfl ?_
  refine vm7 ?_
  refine WX_store G rfl rfl rfl rfl rfl rfl rfl rfl rfl rfl rfl (WL_nil (hK5 _ ?_))
  clear hK5 K5
  refine W_ret (fin_shp rfl rfl rfl rfl (rcs_cons (rc_own rfl ?_) (rcs_cons (rc_own rfl ?_) rcs_nil)))
  all_goals clear hK2 K2
  all_goals exact vm123
 ·try rw [h1]
  try simp only [rfb] at h1
  refine W_skip (hK2 _ ?_)
  clear hK2 K2
  refine W_seq (fun K6 hK6 => ?_)
  refine W_seq (fun K7 hK7 => ?_)
  refine vm29 ?_
  refine WX_q rfl rfl (q_call rfl (ArgsOK.of rfl) (c_spec_l9Has q.wa irq (by omega)) rfl) ?_
  refine vm7 ?_
  refine WX_q rfl rfl (q_cmp rfl rfl rfl rfl) (WL_nil (hK7 _ ?_))
  clear hK7 K7
  refine W_cond rfl (fun h2 => ?_) (fun h2 => ?_)
  ·try rw [h2]
   try simp only [rfb] at h2
   have ho := offQ_c (p := p) h1 h2
   rw [ho] at hQ
   refine W_seq (fun K8 hK8 => ?_)
   refine W_region ?_
   refine vm7 ?_
   refine WX_q rfl rfl (q_load_box_struct G rfl rfl rfl rfl rfl rfl) ?_
   refine vm7 ?_
   refine WX_call 4 rfl rfl rfl (ArgsOK.of rfl) (c_spec_l9Settle_n _ hQ) rfl rfl ?_
   refine vm7 ?_
   refine WX_store G rfl rfl rfl rfl rfl rfl rfl rfl rfl rfl rfl (WL_nil (hK8 _ ?_))
   clear hK8 K8
   refine W_ret (fin_shp rfl rfl rfl rfl (rcs_cons (rc_own rfl ?_) (rcs_cons (rc_own rfl ?_) rcs_nil)))
   all_goals clear hK6 K6
   all_goals exact vm123
  ·try rw [h2]
   try simp only [rfb] at h2
   have ho := offQ_b (p := p) h1 h2
   rw [ho] at hQ
   refine W_skip (hK6 _ ?_)
   clear hK6 K6
   refine W_seq (fun K9 hK9 => ?_)
   refine W_drawsH 11 [0] mixed vm175 rfl rfl (fun r0 => ?_) (fun _ h => h)
   refine WA_take 0 rfl vm175 vm175 rfl rfl rfl rfl (q_field_ptr G rfl rfl rfl rfl) (WA_take 1 rfl vm175 vm175 rfl rfl rfl rfl (q_load_box G rfl rfl rfl rfl rfl rfl rfl) (WA_take 2 rfl vm175 vm175 rfl rfl rfl rfl (q_field_ptr G rfl rfl rfl rfl) (WA_take 3 rfl vm175 vm175 rfl rfl rfl rfl (q_lst (q_load_box G rfl rfl rfl rfl rfl rfl rfl)) (WA_take 4 rfl vm175 vm175 rfl rfl rfl rfl (q_move rfl rfl) (WA_take 5 rfl vm175 vm175 rfl rfl rfl rfl (q_move rfl rfl) (WA_take 6 rfl vm175 vm175 rfl rfl rfl rfl (q_build G rfl rfl rfl rfl) ?_))))))
   refine WA_branch (rs := [7]) vm175 rfl (AllB.cons ?_ AllB.nil)
   refine WB_run [0] rfl rfl (WX_call 3 rfl rfl rfl (ArgsOK.of rfl) (c_spec_l9Wait q.wa ⟨irq, p⟩ (by omega)) rfl rfl (WL_nil ⟨rfl, ?_⟩))
   refine WA_branch (rs := [8]) vm175 rfl (AllB.cons ?_ AllB.nil)
   refine WB_run [0] rfl rfl (WX_q rfl rfl (q_build G rfl rfl rfl rfl) (WL_nil ⟨rfl, ?_⟩))
   refine WA_branch (rs := [9]) vm175 rfl (AllB.cons ?_ AllB.nil)
   refine WB_run [0] rfl rfl (WX_call 5 rfl rfl rfl (ArgsOK.of rfl) (c_spec_l9Settle_n _ hQ) rfl rfl (WL_nil ⟨rfl, ?_⟩))
   refine WA_branch (rs := [10]) vm175 rfl (AllB.cons ?_ AllB.nil)
   refine WB_run [0] rfl rfl (WX_store G rfl rfl rfl rfl rfl rfl rfl rfl rfl rfl rfl (WL_nil ⟨rfl, ?_⟩))
   refine WA_end vm175 (hK9 _ ?_)
   clear hK9 K9
   refine W_ret (fin_shp rfl rfl rfl rfl (rcs_cons (rc_own rfl ?_) (rcs_cons (rc_own rfl ?_) rcs_nil)))
   all_goals exact vm123
set_option maxHeartbeats 4000000 in
theorem c_impl_takeQueue (q : Que) (lim : Int) (hF : QF q) : Ctr Tryz.prog 139 [.agg [.lst 3 (q.sl.map encSl), .lst 2 (q.wa.map encWa)], .v (.int .i64 lim)] (.shp false [some 2, none, none] [.fr 154 3 ((takT q lim).1.sl.map encSl), .fr 183 2 ((takT q lim).1.wa.map encWa), .v (.int .i64 (takT q lim).2.1), .v (.bool (takT q lim).2.2)]) := by
 have hl4 := hF.sl.len
 have hwn := hF.wn
 refine Ctr.of (n := 28) G Tryz.func139 rfl vm175 rfl rfl rfl (fun w0 => ?_)
 refine W_pinS 0 rfl (fun _ => rfl) (fun u0 => ?_)
 refine vm1 ?_
 refine vm12 ?_
 refine vm52 ?_
 refine WX_call 3 rfl rfl rfl (ArgsOK.of rfl) (c_impl_takeSlot q.sl lim hF.sl) rfl rfl ?_
 refine zcd (fun h1 => ?_) (fun h1 => ?_)
 ·rw [tkT_2] at h1
  have ht := takT_f (q := q) h1
  refine zgo ?_
  refine W_ret (fin_shp rfl rfl rfl rfl (rcs_cons (rc_nil ?_) (rcs_cons (rc_nil ?_) (rcs_cons (rc_v ?_) (rcs_cons (rc_v ?_) rcs_nil)))))
  all_goals exact vm169
 rw [tkT_2] at h1
 have ht := takT_t (q := q) h1
 have ht2 := tkT_t (sl := q.sl) h1
 refine vm52 ?_
 refine WX_call 5 rfl rfl rfl (ArgsOK.of rfl) (c_impl_newQueue_n q (by omega) (by omega)) rfl rfl ?_
 refine vm7 ?_
 refine WX_alloc_s G 6 rfl rfl rfl rfl rfl ?_
 refine zgo ?_
 refine W_ret (fin_shp rfl rfl rfl rfl (rcs_cons (rc_own rfl ?_) (rcs_cons (rc_own rfl ?_) (rcs_cons (rc_v ?_) (rcs_cons (rc_v ?_) rcs_nil)))))
 all_goals exact vm169
set_option maxHeartbeats 4000000 in
theorem c_spec_l9Take (q : Que) (lim : Int) (hF : QF q) (hk : tkOK q.sl lim = true) : Ctr Tryz.prog 135 [.agg [.lst 3 (q.sl.map encSl), .lst 2 (q.wa.map encWa)], .v (.int .i64 lim)] (.shp false [some 2, none] [.fr 154 3 ((takQ q).sl.map encSl), .fr 183 2 ((takQ q).wa.map encWa), .v (.int .i64 (tkI q.sl))]) := by
 have hl4 := hF.sl.len
 have hwn := hF.wn
 have htl : (tkS q.sl).length = 4 := by unfold tkS; rw [List.length_set]; exact hl4
 refine Ctr.of (n := 24) G Tryz.func135 rfl vm175 rfl rfl rfl (fun w0 => ?_)
 refine W_pinS 0 rfl (fun _ => rfl) (fun u0 => ?_)
 refine vm1 ?_
 refine vm12 ?_
 refine vm52 ?_
 refine WX_call 3 rfl rfl rfl (ArgsOK.of rfl) (c_spec_l8Take q.sl lim hF.sl hk) rfl rfl ?_
 refine zgn ?_
 refine W_sq (W_drawsH 11 [0, 2] mixed vm175 rfl rfl (fun r0 => ?_) (fun _ h => h))
 refine zsa 1 ?_
 refine vm61 ?_
 refine zsa 8 ?_
 refine WA_more (N := 5) rfl (WAV_startH (fuel := 5) [⟨0, 15, 3, false, .row 154 3 []⟩, ⟨3, 18, 4, false, .row 183 2 []⟩] (AllVOK.cons (VOK.lit G rfl rfl rfl rfl rfl) (AllVOK.cons (VOK.lit G rfl rfl rfl rfl rfl) (AllVOK.nil))) (fun hok => ?_))
 refine WAV_go [(2, [0])] vm175 vm175 (fun e he => hok e he) vm175 (AllVS.cons ?_ AllVS.nil)
 refine VStep.mk1 [0, 2] 15 (.own 3) 3 (.row 154 3 []) [⟨3, 18, 4, false, .row 183 2 []⟩] rfl rfl rfl rfl rfl (fun b1 _ hbn => WX_append G vm185 rfl rfl rfl rfl rfl rfl rfl rfl rfl vm187 rfl rfl (WL_nil rfl)) vm175 vm175 vm175 vm175 (WAV_go [(6, [3])] vm175 vm175 (fun e he => hok e (vin (is := [0]) rfl he)) vm175 (AllVS.cons ?_ AllVS.nil))
 refine VStep.mk1 [0, 2] 18 (.own 4) 4 (.row 183 2 []) [] rfl rfl rfl rfl rfl (fun b1 _ hbn => WX_append G vm185 rfl rfl rfl rfl rfl rfl rfl rfl rfl vm187 rfl rfl (WL_nil rfl)) vm175 vm175 vm175 vm175 (WAV_nil ?_)
 clear hok
 refine WA_branch (rs := [7]) vm175 rfl (AllB.cons ?_ AllB.nil)
 refine WB_rn [0, 2] rfl rfl ?_
 refine vm8 ?_
 refine WA_branch (rs := [9]) vm175 rfl (AllB.cons ?_ AllB.nil)
 refine WB_rn [0, 2] rfl rfl ?_
 refine vm8 ?_
 refine zsa 10 ?_
 refine vm15 ?_
 refine W_ret (fin_shp rfl rfl rfl rfl (rcs_cons (rc_own rfl ?_) (rcs_cons (rc_own rfl ?_) (rcs_cons (rc_v ?_) rcs_nil))))
 all_goals (first | rfl | simp | (simp [takQ]; done))
set_option maxHeartbeats 4000000 in
theorem c_impl_priorityIn (sl : List Slot) (irq : Int) (hl : sl.length ≤ 1048576) (h0 : 0 ≤ fndS sl irq) : Ctr Tryz.prog 171 [.lst 3 (sl.map encSl), .v (.int .i64 irq)] (.one (.v (.int .i64 (lvl sl irq)))) := by
 have hf := @fnd_bd sl irq
 refine Ctr.of (n := 12) G Tryz.func171 rfl vm175 rfl rfl rfl (fun w0 => ?_)
 refine zcl (c_impl_findSlot sl irq hl) ?_
 refine zf1 ?_
 all_goals (rfl)
set_option maxHeartbeats 4000000 in
theorem c_spec_l10Level (q : Que) (irq : Int) (hl : q.sl.length ≤ 1048576) (h0 : 0 ≤ fndS q.sl irq) : Ctr Tryz.prog 182 [.agg [.lst 3 (q.sl.map encSl), .lst 2 (q.wa.map encWa)], .v (.int .i64 irq)] (.one (.v (.int .i64 (lvl q.sl irq)))) := by
 have hf := @fnd_bd q.sl irq
 refine Ctr.of (n := 14) G Tryz.func182 rfl vm175 rfl rfl rfl (fun w0 => ?_)
 refine W_pinS 0 rfl (fun _ => rfl) (fun u0 => ?_)
 refine vm1 ?_
 refine zgd ?_
 refine zcl (c_spec_l8Find q.sl irq hl) ?_
 refine zf1 ?_
 all_goals (rfl)
set_option maxHeartbeats 4000000 in
theorem c_impl_runningPriority (x : Ifc) (hF : IfF x) : Ctr Tryz.prog 140 [.agg [.v (.int .i64 x.ma), .lst 1 (x.st.map Rf.encI), .lst 3 (x.qu.sl.map encSl), .lst 2 (x.qu.wa.map encWa)]] (.one (.v (.int .i64 (runP x)))) := by
 have hl4 := hF.qu.sl.len
 have hwn := hF.qu.wn
 have hsn := hF.sn
 refine Ctr.of (n := 19) G Tryz.func140 rfl vm175 rfl rfl rfl (fun w0 => ?_)
 refine W_pinS 0 rfl (fun _ => rfl) (fun u0 => ?_)
 refine W_sq ?_
 refine vm38 ?_
 refine zgn ?_
 refine zgn ?_
 refine W_cond rfl (fun h1 => ?_) (fun h1 => ?_)
 ·try rw [h1]
  try simp only [rfb] at h1
  refine vm24 ?_
  all_goals exact vm139
 try rw [h1]
 try simp only [rfb] at h1
 have htn : ((x.st.length : Int) - 1).toNat = x.st.length - 1 := (by omega)
 have htp := hF.top (show x.st.length - 1 < x.st.length by omega)
 refine zgn ?_
 refine vm80 ?_
 iterate 8 refine zst ?_
 refine QL_cons rfl ?_
 refine vm46 ?_
 refine QL_cons rfl (QX_q rfl rfl (q_call rfl (ArgsOK.of rfl) (c_impl_priorityIn x.qu.sl _ (by omega) (by first | assumption | (rw [htn]; assumption))) rfl) ?_)
 refine vm24 ?_
 all_goals exact vm139
set_option maxHeartbeats 4000000 in
theorem c_spec_l10Running (x : Ifc) (hF : IfF x) : Ctr Tryz.prog 137 [.agg [.v (.int .i64 x.ma), .lst 1 (x.st.map Rf.encI), .lst 3 (x.qu.sl.map encSl), .lst 2 (x.qu.wa.map encWa)]] (.one (.v (.int .i64 (runP x)))) := by
 have hl4 := hF.qu.sl.len
 have hwn := hF.qu.wn
 have hsn := hF.sn
 refine Ctr.of (n := 18) G Tryz.func137 rfl vm175 rfl rfl rfl (fun w0 => ?_)
 refine W_pinS 0 rfl (fun _ => rfl) (fun u0 => ?_)
 refine W_sq ?_
 refine vm38 ?_
 refine zgn ?_
 refine zgn ?_
 refine zgn ?_
 refine W_cond rfl (fun h1 => ?_) (fun h1 => ?_)
 ·try rw [h1]
  try simp only [rfb] at h1
  have htn : ((x.st.length : Int) - 1).toNat = x.st.length - 1 := (by omega)
  have htp := hF.top (show x.st.length - 1 < x.st.length by omega)
  refine vm80 ?_
  refine vm102 ?_
  refine QL_cons rfl ?_
  refine vm46 ?_
  refine QL_cons rfl (QX_q rfl rfl (q_call rfl (ArgsOK.of rfl) (c_spec_l10Level x.qu _ (by omega) (by first | assumption | (rw [htn]; assumption))) rfl) ?_)
  refine vm24 ?_
  all_goals exact vm139
 try rw [h1]
 try simp only [rfb] at h1
 refine zgn ?_
 refine vm24 ?_
 all_goals exact vm139
set_option maxHeartbeats 4000000 in
theorem c_impl_newInterface (x : Ifc) (hn : x.st.length ≤ 1048576) (hl : x.qu.sl.length ≤ 1048576) (hw : x.qu.wa.length ≤ 1048576) : Ctr Tryz.prog 141 [.agg [.v (.int .i64 x.ma), .lst 1 (x.st.map Rf.encI), .lst 3 (x.qu.sl.map encSl), .lst 2 (x.qu.wa.map encWa)]] (.shp true [some 4] [.v (.int .i64 x.ma), .fr 3 1 (x.st.map Rf.encI), .fr 154 3 (x.qu.sl.map encSl), .fr 183 2 (x.qu.wa.map encWa)]) := by
 refine Ctr.of (n := 12) G Tryz.func141 rfl vm175 rfl rfl rfl (fun w0 => ?_)
 refine W_pinS 0 rfl (fun _ => rfl) (fun u0 => ?_)
 refine vm91 ?_
 refine W_sq (W_drawsH 10 [0] mixed vm175 rfl rfl (fun r0 => ?_) (fun _ h => h))
 refine vm23 ?_
 refine zsa 5 ?_
 refine zsa 6 ?_
 refine WA_branch (rs := [4]) vm175 rfl (AllB.cons ?_ AllB.nil)
 refine WB_rn [0] rfl rfl (WX_call 3 rfl rfl rfl (ArgsOK.of rfl) (c_impl_copyInts x.st hn) rfl rfl (WL_nil ⟨rfl, ?_⟩))
 refine WA_branch (rs := [7]) vm175 rfl (AllB.cons ?_ AllB.nil)
 refine WB_rn [0] rfl rfl (WX_call 5 rfl rfl rfl (ArgsOK.of rfl) (c_impl_newQueue_n x.qu hl hw) rfl rfl (WL_nil ⟨rfl, ?_⟩))
 refine WA_branch (rs := [8]) vm175 rfl (AllB.cons ?_ AllB.nil)
 refine vm71 ?_
 refine WA_branch (rs := [9]) vm175 rfl (AllB.cons ?_ AllB.nil)
 refine vm71 ?_
 refine vm15 ?_
 refine W_ret (fin_shp rfl rfl rfl rfl (rcs_cons (rc_v ?_) (rcs_cons (rc_own rfl ?_) (rcs_cons (rc_own rfl ?_) (rcs_cons (rc_own rfl ?_) rcs_nil)))))
 all_goals (rfl)
set_option maxHeartbeats 4000000 in
theorem c_impl_raiseIrq (x : Ifc) (irq p : Int) (hF : IfF x) (hi : 0 ≤ irq ∧ irq ≤ 7) (hp : 0 ≤ p ∧ p ≤ 15) : Ctr Tryz.prog 81 [.agg [.v (.int .i64 x.ma), .lst 1 (x.st.map Rf.encI), .lst 3 (x.qu.sl.map encSl), .lst 2 (x.qu.wa.map encWa)], .v (.int .i64 irq), .v (.int .i64 p)] (.shp true [some 4] [.v (.int .i64 x.ma), .fr 3 1 (x.st.map Rf.encI), .fr 154 3 ((offr x.qu irq p).sl.map encSl), .fr 183 2 ((offr x.qu irq p).wa.map encWa) true]) := by
 have hl4 := hF.qu.sl.len
 have hwn := hF.qu.wn
 have hsn := hF.sn
 refine Ctr.of (n := 17) G Tryz.func81 rfl vm175 rfl rfl rfl (fun w0 => ?_)
 refine W_pinS 0 rfl (fun _ => rfl) (fun u0 => ?_)
 refine vm1 ?_
 refine vm12 ?_
 refine vm52 ?_
 refine WX_call 5 rfl rfl rfl (ArgsOK.of rfl) (c_impl_newInterface x (by omega) (by omega) (by omega)) rfl rfl ?_
 refine vm7 ?_
 refine WX_alloc_s G 6 rfl rfl rfl rfl rfl ?_
 refine vm52 ?_
 refine WX_call 8 rfl rfl rfl (ArgsOK.of rfl) (c_impl_offerIrq x.qu irq p hF.qu hi hp) rfl rfl ?_
 refine zgo ?_
 refine W_ret (fin_shp rfl rfl rfl rfl (rcs_cons (rc_v ?_) (rcs_cons (rc_own rfl ?_) (rcs_cons (rc_own rfl ?_) (rcs_cons (rc_own rfl ?_) rcs_nil)))))
 all_goals (rfl)
set_option maxHeartbeats 4000000 in
theorem c_spec_l10Raise (x : Ifc) (irq p : Int) (hF : IfF x) (hi : 0 ≤ irq ∧ irq ≤ 7) (hp : 0 ≤ p ∧ p ≤ 15) : Ctr Tryz.prog 74 [.agg [.v (.int .i64 x.ma), .lst 1 (x.st.map Rf.encI), .lst 3 (x.qu.sl.map encSl), .lst 2 (x.qu.wa.map encWa)], .v (.int .i64 irq), .v (.int .i64 p)] (.shp true [some 4] [.v (.int .i64 x.ma), .fr 3 1 (x.st.map Rf.encI), .fr 154 3 ((offr x.qu irq p).sl.map encSl), .fr 183 2 ((offr x.qu irq p).wa.map encWa)]) := by
 have hl4 := hF.qu.sl.len
 have hwn := hF.qu.wn
 have hsn := hF.sn
 refine Ctr.of (n := 18) G Tryz.func74 rfl vm175 rfl rfl rfl (fun w0 => ?_)
 refine W_pinS 0 rfl (fun _ => rfl) (fun u0 => ?_)
 refine vm91 ?_
 refine W_sq (W_drawsH 12 [0] mixed vm175 rfl rfl (fun r0 => ?_) (fun _ h => h))
 refine vm23 ?_
 refine zsa 5 ?_
 refine zsa 6 ?_
 refine zsa 7 ?_
 refine zsa 8 ?_
 refine WA_branch (rs := [4]) vm175 rfl (AllB.cons ?_ AllB.nil)
 refine WB_rn [0] rfl rfl (WX_call 3 rfl rfl rfl (ArgsOK.of rfl) (c_spec_l1Own x.st (by omega)) rfl rfl (WL_nil ⟨rfl, ?_⟩))
 refine WA_branch (rs := [9]) vm175 rfl (AllB.cons ?_ AllB.nil)
 refine WB_rn [0] rfl rfl (WX_call 5 rfl rfl rfl (ArgsOK.of rfl) (c_spec_l9Offer x.qu irq p hF.qu hi hp) rfl rfl (WL_nil ⟨rfl, ?_⟩))
 refine WA_branch (rs := [10]) vm175 rfl (AllB.cons ?_ AllB.nil)
 refine vm71 ?_
 refine WA_branch (rs := [11]) vm175 rfl (AllB.cons ?_ AllB.nil)
 refine vm71 ?_
 refine vm15 ?_
 refine W_ret (fin_shp rfl rfl rfl rfl (rcs_cons (rc_v ?_) (rcs_cons (rc_own rfl ?_) (rcs_cons (rc_own rfl ?_) (rcs_cons (rc_own rfl ?_) rcs_nil)))))
 all_goals (rfl)
set_option maxHeartbeats 4000000 in
theorem c_impl_takeIrq (x : Ifc) (hF : IfF x) : Ctr Tryz.prog 80 [.agg [.v (.int .i64 x.ma), .lst 1 (x.st.map Rf.encI), .lst 3 (x.qu.sl.map encSl), .lst 2 (x.qu.wa.map encWa)]] (.shp false [some 4, none, none] [.v (.int .i64 (takIT x).1.ma), .fr 3 1 ((takIT x).1.st.map Rf.encI), .fr 154 3 ((takIT x).1.qu.sl.map encSl), .fr 183 2 ((takIT x).1.qu.wa.map encWa), .v (.int .i64 (takIT x).2.1), .v (.bool (takIT x).2.2)]) := by
 have hl4 := hF.qu.sl.len
 have hwn := hF.qu.wn
 have hsn := hF.sn
 refine Ctr.of (n := 34) G Tryz.func80 rfl vm175 rfl rfl rfl (fun w0 => ?_)
 refine W_pinS 0 rfl (fun _ => rfl) (fun u0 => ?_)
 refine vm91 ?_
 refine W_sq (W_drawsH 16 [0, 1] mixed vm175 rfl rfl (fun r0 => ?_) (fun _ h => h))
 refine vm23 ?_
 refine zsa 4 ?_
 refine WA_more (N := 3) rfl (WAV_startH (fuel := 10) [⟨12, 5, 2, true, .box (avR [.slice none 0 0, .slice none 0 0] [])⟩] (AllVOK.cons (VOK.boxS G rfl rfl rfl rfl rfl) (AllVOK.nil)) (fun hok => ?_))
 refine WAV_go [(5, [])] vm175 vm175 (fun e he => hok e he) vm175 (AllVS.cons ?_ AllVS.nil)
 refine VStep.mk0 [0, 1] rfl rfl (fun b1 _ hbn => WX_q rfl rfl (q_call rfl (ArgsOK.of rfl) (c_impl_runningPriority x hF) rfl) (WL_nil rfl)) vm175 vm175 vm175 vm175 (WAV_take 6 rfl vm175 rfl rfl rfl rfl (q_min' rfl rfl rfl) vm175 vm175 vm175 (WAV_go [(7, [])] vm175 vm175 (fun e he => hok e he) vm175 (AllVS.cons ?_ AllVS.nil)))
 refine VStep.mk0 [0, 1] rfl rfl (fun b1 _ hbn => WX_call 5 rfl rfl rfl (ArgsOK.of rfl) (c_impl_takeQueue x.qu (limI x) hF.qu) rfl rfl (WL_nil rfl)) vm175 vm175 vm175 vm175 (WAV_take 8 rfl vm175 rfl rfl rfl rfl (q_move rfl rfl) vm175 vm175 vm175 (WAV_take 9 rfl vm175 rfl rfl rfl rfl (q_extract rfl rfl rfl) vm175 vm175 vm175 (WAV_take 10 rfl vm175 rfl rfl rfl rfl (q_extract rfl rfl rfl) vm175 vm175 vm175 (WAV_take 11 rfl vm175 rfl rfl rfl rfl (q_extract rfl rfl rfl) vm175 vm175 vm175 (WAV_go [(13, [12])] vm175 vm175 (fun e he => hok e he) vm175 (AllVS.cons ?_ AllVS.nil))))))
 refine vm65 ?_
 clear hok
 refine zsa 14 ?_
 refine zsa 15 ?_
 refine vm15 ?_
 refine zcd (fun h1 => ?_) (fun h1 => ?_)
 ·rw [takT_2] at h1
  have ht := takIT_f (x := x) h1
  refine zgo ?_
  refine W_ret (fin_shp rfl rfl rfl rfl (rcs_cons (rc_v ?_) (rcs_cons (rc_nil ?_) (rcs_cons (rc_nil ?_) (rcs_cons (rc_nil ?_) (rcs_cons (rc_v ?_) (rcs_cons (rc_v ?_) rcs_nil)))))))
  all_goals exact vm170
 rw [takT_2] at h1
 have ht := takIT_t (x := x) h1
 have ht2 := takT_t h1
 refine zgo ?_
 apply W_drawsJ [2, 3, 4] [1, 3, 4, 5] 7 14 [0, 2, 3, 4] mixed vm175 rfl rfl (fun _ h => znk h)
 ·intro r0
  refine vm23 ?_
  refine zsa 5 ?_
  refine zsa 8 ?_
  refine zsa 10 ?_
  refine WA_branch (rs := [4, 6]) vm175 rfl (AllB.cons ?_ (AllB.cons ?_ AllB.nil))
  ·refine WB_rn [0, 2, 3, 4] rfl rfl (WX_call 6 rfl rfl rfl (ArgsOK.of rfl) (c_impl_copyInts x.st (by omega)) rfl rfl (WL_nil ⟨rfl, ?_⟩))
   refine WA_branch (rs := [6]) vm175 rfl (AllB.cons ?_ AllB.nil)
   refine WB_rn [0, 2, 3, 4] rfl rfl (WX_lit G 7 rfl rfl rfl rfl rfl rfl rfl rfl (WL_nil ⟨rfl, ?_⟩))
   refine WA_branch (rs := [7]) vm175 rfl (AllB.cons ?_ AllB.nil)
   refine WB_rn [0, 2, 3, 4] rfl rfl (WX_append G vm181 rfl rfl rfl rfl rfl rfl rfl rfl rfl vm179 rfl rfl (WL_nil ⟨rfl, ?_⟩))
   refine WA_branch (rs := [9]) vm175 rfl (AllB.cons ?_ AllB.nil)
   refine vm79 ?_
   refine WA_branch (rs := [11]) vm175 rfl (AllB.cons ?_ AllB.nil)
   refine vm79 ?_
   refine zsa 12 ?_
   refine zsa 13 ?_
   exact WA_end vm175 (Meet.mk rfl rfl rfl rfl)
  refine WB_rn [0, 2, 3, 4] rfl rfl (WX_lit G 6 rfl rfl rfl rfl rfl rfl rfl rfl (WL_nil ⟨rfl, ?_⟩))
  refine WA_branch (rs := [4]) vm175 rfl (AllB.cons ?_ AllB.nil)
  refine WB_rn [0, 2, 3, 4] rfl rfl (WX_call 7 rfl rfl rfl (ArgsOK.of rfl) (c_impl_copyInts x.st (by omega)) rfl rfl (WL_nil ⟨rfl, ?_⟩))
  refine WA_branch (rs := [7]) vm175 rfl (AllB.cons ?_ AllB.nil)
  refine WB_rn [0, 2, 3, 4] rfl rfl (WX_append G vm181 rfl rfl rfl rfl rfl rfl rfl rfl rfl vm179 rfl rfl (WL_nil ⟨rfl, ?_⟩))
  refine WA_branch (rs := [9]) vm175 rfl (AllB.cons ?_ AllB.nil)
  refine vm79 ?_
  refine WA_branch (rs := [11]) vm175 rfl (AllB.cons ?_ AllB.nil)
  refine vm79 ?_
  refine zsa 12 ?_
  refine zsa 13 ?_
  refine WA_gh (Gh.sub 6 5 vm181 rfl rfl rfl) ?_
  exact WA_end vm175 (Meet.mk rfl rfl rfl rfl)
 refine W_ret (fin_shp rfl rfl rfl rfl (rcs_cons (rc_v ?_) (rcs_cons (rc_own rfl ?_) (rcs_cons (rc_own rfl ?_) (rcs_cons (rc_own rfl ?_) (rcs_cons (rc_v ?_) (rcs_cons (rc_v ?_) rcs_nil)))))))
 all_goals exact vm170
set_option maxHeartbeats 4000000 in
theorem c_spec_l10Take (x : Ifc) (hF : IfF x) (hk : okT x = true) : Ctr Tryz.prog 73 [.agg [.v (.int .i64 x.ma), .lst 1 (x.st.map Rf.encI), .lst 3 (x.qu.sl.map encSl), .lst 2 (x.qu.wa.map encWa)]] (.shp false [some 4, none] [.v (.int .i64 (takI x).ma), .fr 3 1 ((takI x).st.map Rf.encI), .fr 154 3 ((takI x).qu.sl.map encSl), .fr 183 2 ((takI x).qu.wa.map encWa), .v (.int .i64 (tkI x.qu.sl))]) := by
 have hl4 := hF.qu.sl.len
 have hwn := hF.qu.wn
 have hsn := hF.sn
 have hkk := tkOK_iff.mp hk
 have htb := tkI_bd hF.qu.sl hkk.1
 refine Ctr.of (n := 35) G Tryz.func73 rfl vm175 rfl rfl rfl (fun w0 => ?_)
 refine W_pinS 0 rfl (fun _ => rfl) (fun u0 => ?_)
 refine vm91 ?_
 refine W_sq (W_drawsH 14 [0, 1] mixed vm175 rfl rfl (fun r0 => ?_) (fun _ h => h))
 refine vm23 ?_
 refine zsa 4 ?_
 refine WA_more (N := 3) rfl (WAV_startH (fuel := 8) [⟨11, 4, 2, true, .box (avR [.slice none 0 0, .slice none 0 0] [])⟩] (AllVOK.cons (VOK.boxS G rfl rfl rfl rfl rfl) (AllVOK.nil)) (fun hok => ?_))
 refine WAV_go [(5, [])] vm175 vm175 (fun e he => hok e he) vm175 (AllVS.cons ?_ AllVS.nil)
 refine VStep.mk0 [0, 1] rfl rfl (fun b1 _ hbn => WX_q rfl rfl (q_call rfl (ArgsOK.of rfl) (c_spec_l10Running x hF) rfl) (WL_nil rfl)) vm175 vm175 vm175 vm175 (WAV_go [(6, [])] vm175 vm175 (fun e he => hok e he) vm175 (AllVS.cons ?_ AllVS.nil))
 refine VStep.mk0 [0, 1] rfl rfl (fun b1 _ hbn => WX_q rfl rfl (q_call rfl (ArgsOK.of rfl) (c_spec_l1Least _ _) rfl) (WL_nil rfl)) vm175 vm175 vm175 vm175 (WAV_go [(7, [])] vm175 vm175 (fun e he => hok e he) vm175 (AllVS.cons ?_ AllVS.nil))
 refine VStep.mk0 [0, 1] rfl rfl (fun b1 _ hbn => WX_call 5 rfl rfl rfl (ArgsOK.of rfl) (c_spec_l9Take x.qu (limI x) hF.qu hk) rfl rfl (WL_nil rfl)) vm175 vm175 vm175 vm175 (WAV_take 8 rfl vm175 rfl rfl rfl rfl (q_move rfl rfl) vm175 vm175 vm175 (WAV_take 9 rfl vm175 rfl rfl rfl rfl (q_extract rfl rfl rfl) vm175 vm175 vm175 (WAV_take 10 rfl vm175 rfl rfl rfl rfl (q_extract rfl rfl rfl) vm175 vm175 vm175 (WAV_go [(12, [11])] vm175 vm175 (fun e he => hok e he) vm175 (AllVS.cons ?_ AllVS.nil)))))
 refine vm66 ?_
 clear hok
 refine zsa 13 ?_
 refine vm15 ?_
 refine W_sq (W_drawsH 9 [0, 1, 2, 3, 4] mixed vm175 rfl rfl (fun r0 => ?_) (fun _ h => h))
 refine vm23 ?_
 refine zsa 5 ?_
 refine WA_more (N := 6) rfl (WAV_startH (fuel := 3) [⟨7, 6, 5, true, .box (avR [.int .i64 0, .slice none 0 0, .slice none 0 0, .slice none 0 0] [])⟩] (AllVOK.cons (VOK.boxS G rfl rfl rfl rfl rfl) (AllVOK.nil)) (fun hok => ?_))
 refine WAV_go [(4, [])] vm175 vm175 (fun e he => hok e he) vm175 (AllVS.cons ?_ AllVS.nil)
 refine VStep.mk0 [0, 1, 2, 3, 4] rfl rfl (fun b1 _ hbn => WX_call 7 rfl rfl rfl (ArgsOK.of rfl) (c_spec_l1Own x.st (by omega)) rfl rfl (WL_nil rfl)) vm175 vm175 vm175 vm175 (WAV_go [(6, [])] vm175 vm175 (fun e he => hok e he) vm175 (AllVS.cons ?_ AllVS.nil))
 refine VStep.mk0 [0, 1, 2, 3, 4] rfl rfl (fun b1 _ hbn => WX_q rfl rfl (q_build G rfl rfl rfl rfl) (WL_nil rfl)) vm175 vm175 vm175 vm175 (WAV_go [(8, [7])] vm175 vm175 (fun e he => hok e he) vm175 (AllVS.cons ?_ AllVS.nil))
 refine vm62 ?_
 clear hok
 refine vm15 ?_
 refine zcd (fun h1 => ?_) (fun h1 => ?_)
 ·refine vm52 ?_
  refine WX_lit G 8 rfl rfl rfl rfl rfl rfl rfl rfl ?_
  refine vm7 ?_
  refine WX_gh (Gh.forget (id := 5) (k := 1) rfl rfl) <| WX_gh (Gh.keep [0, 1, 2, 3, 4, 5, 6, 7] rfl) <| WX_append G np rfl rfl rfl rfl rfl rfl rfl rfl rfl vm179 rfl rfl ?_
  refine zgo ?_
  refine W_ret (fin_shp rfl rfl rfl rfl (rcs_cons (rc_v ?_) (rcs_cons (rc_own rfl ?_) (rcs_cons (rc_own rfl ?_) (rcs_cons (rc_own rfl ?_) (rcs_cons (rc_v ?_) rcs_nil))))))
  all_goals (first | rfl | (simp [takI, Rf.encI]; done))
 exfalso; omega
end Go.Proofs.YtcnodpipinlpcaaGreat
set_option maxRecDepth 20000
set_option linter.unusedVariables false
set_option linter.unusedSimpArgs false
namespace Go.Proofs.YtcnodpipinlpcaaGreat
open Go Go.Rf
set_option maxHeartbeats 4000000 in
theorem c_slices_Equal_int_int (l r : List Int) (hl : l.length ≤ 1048576) (hr : r.length ≤ 1048576) : Ctr Tryz.prog 162 [.lst 1 (l.map Rf.encI), .lst 1 (r.map Rf.encI)] (.one (.v (.bool (decide (l = r))))) := by
 refine Ctr.of (n := 26) G Tryz.func162 rfl vm175 rfl rfl rfl (fun w0 => ?_)
 refine zcd (fun h1 => ?_) (fun h1 => ?_)
 ·refine zf1 ?_
  all_goals exact vm113
 refine zgo ?_
 refine W_loopK [0, 1, 12] [] (fun (i : Nat) => [(13, .v (.int .i64 (i : Int)))]) (fun (i : Nat) => []) (fun (i : Nat) => i ≤ l.length ∧ ∀ j, j < i → l.getD j default = r.getD j default) (fun (i : Nat) => l.length - i) 0 rfl rfl ?_ ?_ ?_ ?_
 ·exact ⟨Nat.zero_le _, fun j hj => by omega⟩
 ·exact ⟨⟨_, rfl, by (first | rfl | (simp; done) | (simp; omega))⟩, rfl, trivial⟩
 ·exact trivial
 intro i hinv
 simp only [List.cons_append, List.nil_append]
 refine zcd (fun h2 => ?_) (fun h2 => ?_)
 ·refine zgd ?_
  refine zcd (fun h3 => ?_) (fun h3 => ?_)
  ·refine zf1 ?_
   all_goals exact vm113
  refine zgo ?_
  refine ⟨(i + 1), ?_, ?_, ⟨⟨_, rfl, by rfl⟩, rfl, trivial⟩, trivial, rfl, rfl, rfl⟩
  ·exact ⟨by omega, upto_succ hinv.2 vm177⟩
  omega
 refine zf1 ?_
 all_goals exact vm113
set_option maxHeartbeats 4000000 in
theorem c_impl_isActive (x : Slot) : Ctr Tryz.prog 212 [.v (encSv x)] (.one (.v (.bool (actP x)))) := by
 refine Ctr.of (n := 11) G Tryz.func212 rfl vm175 rfl rfl rfl (fun w0 => ?_)
 refine vm1 ?_
 refine zcd (fun h1 => ?_) (fun h1 => ?_)
 ·refine zf1 ?_
  all_goals (first | rfl | (simp_all [actP]; done) | (simp_all [actP]; rfl))
 refine zf1 ?_
 all_goals (first | rfl | (simp_all [actP]; done) | (simp_all [actP]; rfl))
set_option maxHeartbeats 4000000 in
theorem c_impl_activeIrqs (sl : List Slot) (hF : SlF sl) : Ctr Tryz.prog 170 [.lst 3 (sl.map encSl)] (.one (.fr 3 1 ((srtI (actN sl 4)).map Rf.encI))) := by
 have hl4 := hF.len
 refine Ctr.of (n := 24) G Tryz.func170 rfl vm175 rfl rfl rfl (fun w0 => ?_)
 refine vm84 ?_
 refine zgo ?_
 refine W_loopK [7, 8] [] (fun (i : Nat) => [(3, .own 0), (9, .v (.int .i64 (i : Int)))]) (fun (i : Nat) => [(0, some (.row 3 1 ((actN sl i).map Rf.encI)))]) (fun (i : Nat) => i ≤ 4) (fun (i : Nat) => 4 - i) 0 rfl rfl ?_ ?_ ?_ ?_
 ·exact Nat.zero_le _
 ·exact ⟨⟨_, rfl, by rfl⟩, rfl, ⟨⟨_, rfl, by rfl⟩, rfl, trivial⟩⟩
 ·exact ⟨⟨_, rfl, by rfl⟩, rfl, rfl, trivial⟩
 intro i hi
 have hpl := @actN_len sl i
 simp only [List.cons_append, List.nil_append]
 refine zcd (fun h1 => ?_) (fun h1 => ?_)
 ·refine zgo ?_
  refine vm12 ?_
  refine zcl (c_impl_isActive _) ?_
  refine zcd (fun h2 => ?_) (fun h2 => ?_)
  ·refine vm52 ?_
   refine WX_lit G 3 rfl rfl rfl rfl rfl rfl rfl rfl ?_
   refine vm14 ?_
   refine zgo ?_
   refine ⟨(i + 1), ?_, ?_, ⟨⟨_, rfl, by rfl⟩, rfl, ⟨⟨_, rfl, by rfl⟩, rfl, trivial⟩⟩, ⟨⟨_, rfl, by (first | (rw [actN_t vm177, List.map_append]; rfl) | (rw [actN_f vm177]; done))⟩, rfl, rfl, trivial⟩, rfl, rfl, rfl⟩
   ·omega
   omega
  refine zgo ?_
  refine ⟨(i + 1), ?_, ?_, ⟨⟨_, rfl, by rfl⟩, rfl, ⟨⟨_, rfl, by rfl⟩, rfl, trivial⟩⟩, ⟨⟨_, rfl, by (first | (rw [actN_t vm177, List.map_append]; rfl) | (rw [actN_f vm177]; done))⟩, rfl, rfl, trivial⟩, rfl, rfl, rfl⟩
  ·omega
  omega
 obtain rfl : i = 4 := (by omega)
 refine vm52 ?_
 refine WX_callm 1 [0] rfl rfl rfl (c_slices_Sort_int_int (actN sl 4) (by have := @actN_len sl 4; omega)) rfl (RowsIn.cons rfl RowsIn.nil) rfl rfl rfl ?_
 refine zfo ?_
 all_goals (rfl)
set_option maxHeartbeats 4000000 in
theorem c_spec_l1Put (l : List Int) (n : Int) (hl : l.length ≤ 1048576) (hne : ∀ x ∈ l, x ≠ n) : Ctr Tryz.prog 233 [.lst 1 (l.map Rf.encI), .v (.int .i64 n)] (.one (.fr 3 1 ((putI l n).map Rf.encI))) := by
 refine Ctr.of (n := 45) G Tryz.func233 rfl vm175 rfl rfl rfl (fun w0 => ?_)
 refine zgo ?_
 refine W_loopK [0, 1] [] (fun (k : Nat) => [(5, .v (.int .i64 (k : Int)))]) (fun (k : Nat) => []) (fun (k : Nat) => k ≤ l.length ∧ ∀ j, j < k → l.getD j default < n) (fun (k : Nat) => l.length - k) 0 rfl rfl ?_ ?_ ?_ ?_
 ·exact ⟨Nat.zero_le _, fun j hj => by omega⟩
 ·exact ⟨⟨_, rfl, by (first | rfl | (simp; done) | (simp; omega))⟩, rfl, trivial⟩
 ·exact trivial
 intro k hk
 simp only [List.cons_append, List.nil_append]
 refine zcd (fun h1 => ?_) (fun h1 => ?_)
 ·refine zcd (fun h2 => ?_) (fun h2 => ?_)
  ·refine zgo ?_
   refine ⟨(k + 1), ?_, ?_, ⟨⟨_, rfl, by rfl⟩, rfl, trivial⟩, trivial, rfl, rfl, rfl⟩
   ·exact ⟨by omega, upto_succ hk.2 vm177⟩
   omega
  refine zcd (fun h3 => ?_) (fun h3 => ?_)
  ·refine zcd (fun h4 => ?_) (fun h4 => ?_)
   ·first | (exfalso; omega) | exact absurd vm177 (hne _ (mem_getD.mpr ⟨k, by omega, rfl⟩))
   refine zgo ?_
   apply W_drawsJ [4] [0] 2 13 [] mixed vm175 rfl rfl (fun _ h => znk h)
   ·intro r0
    refine vm3 ?_
    refine WA_more (N := 1) rfl (WAV_startH (fuel := 5) [⟨0, 33, 0, false, .row 3 1 []⟩] (AllVOK.cons (VOK.lit G rfl rfl rfl rfl rfl) (AllVOK.nil)) (fun hok => ?_))
    refine WAV_go [(4, [0]), (6, [])] vm175 vm175 (fun e he => hok e he) vm175 (AllVS.cons ?_ (AllVS.cons ?_ AllVS.nil))
    ·refine vm4 ?_
     clear hok
     refine WA_branch (rs := [6]) vm175 rfl (AllB.cons ?_ AllB.nil)
     refine WB_rn [] rfl rfl (WX_lit G 2 rfl rfl rfl rfl rfl rfl rfl rfl (WL_nil ⟨rfl, ?_⟩))
     refine WA_branch (rs := [7]) vm175 rfl (AllB.cons ?_ AllB.nil)
     refine WB_rn [] rfl rfl (WX_append G vm181 rfl rfl rfl rfl rfl rfl rfl rfl rfl vm178 rfl rfl (WL_nil ⟨rfl, ?_⟩))
     refine WA_branch (rs := [11]) vm175 rfl (AllB.cons ?_ AllB.nil)
     refine WB_rn [] rfl rfl (WX_append G vm181 rfl rfl rfl rfl rfl rfl rfl rfl rfl vm178 rfl rfl (WL_nil ⟨rfl, ?_⟩))
     refine zsa 12 ?_
     exact WA_end vm175 (Meet.mk rfl rfl rfl rfl)
    refine VStep.mk0 [] rfl rfl (fun b1 _ hbn => WX_lit G 2 rfl rfl rfl rfl rfl rfl rfl rfl (WL_nil rfl)) vm175 vm175 vm175 vm175 (WAV_go [(4, [0])] vm175 vm175 (fun e he => hok e he) vm175 (AllVS.cons ?_ AllVS.nil))
    refine vm4 ?_
    clear hok
    refine WA_branch (rs := [7]) vm175 rfl (AllB.cons ?_ AllB.nil)
    refine WB_rn [] rfl rfl (WX_append G vm181 rfl rfl rfl rfl rfl rfl rfl rfl rfl vm178 rfl rfl (WL_nil ⟨rfl, ?_⟩))
    refine WA_branch (rs := [11]) vm175 rfl (AllB.cons ?_ AllB.nil)
    refine WB_rn [] rfl rfl (WX_append G vm181 rfl rfl rfl rfl rfl rfl rfl rfl rfl vm178 rfl rfl (WL_nil ⟨rfl, ?_⟩))
    refine zsa 12 ?_
    exact WA_end vm175 (Meet.mk rfl rfl rfl rfl)
   refine zfo ?_
   all_goals exact vm140
  refine zwf ?_
  refine zgo ?_
  apply W_drawsJ [4] [0] 2 13 [] mixed vm175 rfl rfl (fun _ h => znk h)
  ·intro r0
   refine vm3 ?_
   refine WA_more (N := 1) rfl (WAV_startH (fuel := 5) [⟨0, 33, 0, false, .row 3 1 []⟩] (AllVOK.cons (VOK.lit G rfl rfl rfl rfl rfl) (AllVOK.nil)) (fun hok => ?_))
   refine WAV_go [(4, [0]), (6, [])] vm175 vm175 (fun e he => hok e he) vm175 (AllVS.cons ?_ (AllVS.cons ?_ AllVS.nil))
   ·refine vm4 ?_
    clear hok
    refine WA_branch (rs := [6]) vm175 rfl (AllB.cons ?_ AllB.nil)
    refine WB_rn [] rfl rfl (WX_lit G 2 rfl rfl rfl rfl rfl rfl rfl rfl (WL_nil ⟨rfl, ?_⟩))
    refine WA_branch (rs := [7]) vm175 rfl (AllB.cons ?_ AllB.nil)
    refine WB_rn [] rfl rfl (WX_append G vm181 rfl rfl rfl rfl rfl rfl rfl rfl rfl vm178 rfl rfl (WL_nil ⟨rfl, ?_⟩))
    refine WA_branch (rs := [11]) vm175 rfl (AllB.cons ?_ AllB.nil)
    refine WB_rn [] rfl rfl (WX_append G vm181 rfl rfl rfl rfl rfl rfl rfl rfl rfl vm178 rfl rfl (WL_nil ⟨rfl, ?_⟩))
    refine zsa 12 ?_
    exact WA_end vm175 (Meet.mk rfl rfl rfl rfl)
   refine VStep.mk0 [] rfl rfl (fun b1 _ hbn => WX_lit G 2 rfl rfl rfl rfl rfl rfl rfl rfl (WL_nil rfl)) vm175 vm175 vm175 vm175 (WAV_go [(4, [0])] vm175 vm175 (fun e he => hok e he) vm175 (AllVS.cons ?_ AllVS.nil))
   refine vm4 ?_
   clear hok
   refine WA_branch (rs := [7]) vm175 rfl (AllB.cons ?_ AllB.nil)
   refine WB_rn [] rfl rfl (WX_append G vm181 rfl rfl rfl rfl rfl rfl rfl rfl rfl vm178 rfl rfl (WL_nil ⟨rfl, ?_⟩))
   refine WA_branch (rs := [11]) vm175 rfl (AllB.cons ?_ AllB.nil)
   refine WB_rn [] rfl rfl (WX_append G vm181 rfl rfl rfl rfl rfl rfl rfl rfl rfl vm178 rfl rfl (WL_nil ⟨rfl, ?_⟩))
   refine zsa 12 ?_
   exact WA_end vm175 (Meet.mk rfl rfl rfl rfl)
  refine zfo ?_
  all_goals exact vm140
 refine zwf ?_
 refine zcd (fun h5 => ?_) (fun h5 => ?_)
 ·refine zcd (fun h6 => ?_) (fun h6 => ?_)
  ·first | (exfalso; omega) | exact absurd vm177 (hne _ (mem_getD.mpr ⟨k, by omega, rfl⟩))
  refine zgo ?_
  apply W_drawsJ [4] [0] 2 13 [] mixed vm175 rfl rfl (fun _ h => znk h)
  ·intro r0
   refine vm3 ?_
   refine WA_more (N := 1) rfl (WAV_startH (fuel := 5) [⟨0, 33, 0, false, .row 3 1 []⟩] (AllVOK.cons (VOK.lit G rfl rfl rfl rfl rfl) (AllVOK.nil)) (fun hok => ?_))
   refine WAV_go [(4, [0]), (6, [])] vm175 vm175 (fun e he => hok e he) vm175 (AllVS.cons ?_ (AllVS.cons ?_ AllVS.nil))
   ·refine vm4 ?_
    clear hok
    refine WA_branch (rs := [6]) vm175 rfl (AllB.cons ?_ AllB.nil)
    refine WB_rn [] rfl rfl (WX_lit G 2 rfl rfl rfl rfl rfl rfl rfl rfl (WL_nil ⟨rfl, ?_⟩))
    refine WA_branch (rs := [7]) vm175 rfl (AllB.cons ?_ AllB.nil)
    refine WB_rn [] rfl rfl (WX_append G vm181 rfl rfl rfl rfl rfl rfl rfl rfl rfl vm178 rfl rfl (WL_nil ⟨rfl, ?_⟩))
    refine WA_branch (rs := [11]) vm175 rfl (AllB.cons ?_ AllB.nil)
    refine WB_rn [] rfl rfl (WX_append G vm181 rfl rfl rfl rfl rfl rfl rfl rfl rfl vm178 rfl rfl (WL_nil ⟨rfl, ?_⟩))
    refine zsa 12 ?_
    exact WA_end vm175 (Meet.mk rfl rfl rfl rfl)
   refine VStep.mk0 [] rfl rfl (fun b1 _ hbn => WX_lit G 2 rfl rfl rfl rfl rfl rfl rfl rfl (WL_nil rfl)) vm175 vm175 vm175 vm175 (WAV_go [(4, [0])] vm175 vm175 (fun e he => hok e he) vm175 (AllVS.cons ?_ AllVS.nil))
   refine vm4 ?_
   clear hok
   refine WA_branch (rs := [7]) vm175 rfl (AllB.cons ?_ AllB.nil)
   refine WB_rn [] rfl rfl (WX_append G vm181 rfl rfl rfl rfl rfl rfl rfl rfl rfl vm178 rfl rfl (WL_nil ⟨rfl, ?_⟩))
   refine WA_branch (rs := [11]) vm175 rfl (AllB.cons ?_ AllB.nil)
   refine WB_rn [] rfl rfl (WX_append G vm181 rfl rfl rfl rfl rfl rfl rfl rfl rfl vm178 rfl rfl (WL_nil ⟨rfl, ?_⟩))
   refine zsa 12 ?_
   exact WA_end vm175 (Meet.mk rfl rfl rfl rfl)
  refine zfo ?_
  all_goals exact vm140
 refine zwf ?_
 refine zgo ?_
 apply W_drawsJ [4] [0] 2 13 [] mixed vm175 rfl rfl (fun _ h => znk h)
 ·intro r0
  refine vm3 ?_
  refine WA_more (N := 1) rfl (WAV_startH (fuel := 5) [⟨0, 33, 0, false, .row 3 1 []⟩] (AllVOK.cons (VOK.lit G rfl rfl rfl rfl rfl) (AllVOK.nil)) (fun hok => ?_))
  refine WAV_go [(4, [0]), (6, [])] vm175 vm175 (fun e he => hok e he) vm175 (AllVS.cons ?_ (AllVS.cons ?_ AllVS.nil))
  ·refine vm4 ?_
   clear hok
   refine WA_branch (rs := [6]) vm175 rfl (AllB.cons ?_ AllB.nil)
   refine WB_rn [] rfl rfl (WX_lit G 2 rfl rfl rfl rfl rfl rfl rfl rfl (WL_nil ⟨rfl, ?_⟩))
   refine WA_branch (rs := [7]) vm175 rfl (AllB.cons ?_ AllB.nil)
   refine WB_rn [] rfl rfl (WX_append G vm181 rfl rfl rfl rfl rfl rfl rfl rfl rfl vm178 rfl rfl (WL_nil ⟨rfl, ?_⟩))
   refine WA_branch (rs := [11]) vm175 rfl (AllB.cons ?_ AllB.nil)
   refine WB_rn [] rfl rfl (WX_append G vm181 rfl rfl rfl rfl rfl rfl rfl rfl rfl vm178 rfl rfl (WL_nil ⟨rfl, ?_⟩))
   refine zsa 12 ?_
   exact WA_end vm175 (Meet.mk rfl rfl rfl rfl)
  refine VStep.mk0 [] rfl rfl (fun b1 _ hbn => WX_lit G 2 rfl rfl rfl rfl rfl rfl rfl rfl (WL_nil rfl)) vm175 vm175 vm175 vm175 (WAV_go [(4, [0])] vm175 vm175 (fun e he => hok e he) vm175 (AllVS.cons ?_ AllVS.nil))
  refine vm4 ?_
  clear hok
  refine WA_branch (rs := [7]) vm175 rfl (AllB.cons ?_ AllB.nil)
  refine WB_rn [] rfl rfl (WX_append G vm181 rfl rfl rfl rfl rfl rfl rfl rfl rfl vm178 rfl rfl (WL_nil ⟨rfl, ?_⟩))
  refine WA_branch (rs := [11]) vm175 rfl (AllB.cons ?_ AllB.nil)
  refine WB_rn [] rfl rfl (WX_append G vm181 rfl rfl rfl rfl rfl rfl rfl rfl rfl vm178 rfl rfl (WL_nil ⟨rfl, ?_⟩))
  refine zsa 12 ?_
  exact WA_end vm175 (Meet.mk rfl rfl rfl rfl)
 refine zfo ?_
 all_goals exact vm140
set_option maxHeartbeats 4000000 in
theorem c_spec_l8Active (sl : List Slot) (hF : SlF sl) : Ctr Tryz.prog 198 [.lst 3 (sl.map encSl)] (.one (.fr 3 1 ((actS sl 4).map Rf.encI))) := by
 have hl4 := hF.len
 refine Ctr.of (n := 34) G Tryz.func198 rfl vm175 rfl rfl rfl (fun w0 => ?_)
 refine vm84 ?_
 refine zgo ?_
 refine W_loopK [0] [] (fun (i : Nat) => [(3, .own 0), (4, .v (.int .i64 (i : Int)))]) (fun (i : Nat) => [(0, some (.row 3 1 ((actS sl i).map Rf.encI)))]) (fun (i : Nat) => i ≤ 4) (fun (i : Nat) => 4 - i) 0 rfl rfl ?_ ?_ ?_ ?_
 ·exact Nat.zero_le _
 ·exact ⟨⟨_, rfl, by rfl⟩, rfl, ⟨⟨_, rfl, by rfl⟩, rfl, trivial⟩⟩
 ·exact ⟨⟨_, rfl, by rfl⟩, rfl, rfl, trivial⟩
 intro i hi
 simp only [List.cons_append, List.nil_append]
 refine zcd (fun h1 => ?_) (fun h1 => ?_)
 ·refine zcd (fun h2 => ?_) (fun h2 => ?_)
  ·refine zwt ?_
   refine vm76 ?_
   refine WL_gh (Gh.sub 1 0 np rfl rfl rfl) (WL_nil ⟨(i + 1), ?_, ?_, ⟨⟨_, rfl, by rfl⟩, rfl, ⟨⟨_, rfl, by rfl⟩, rfl, trivial⟩⟩, ⟨⟨_, rfl, by (first | (rw [actS_t (by omega)]; done) | (rw [actS_f (by omega)]; done))⟩, rfl, rfl, trivial⟩, rfl, rfl, rfl⟩)
   ·omega
   omega
  refine zcd (fun h3 => ?_) (fun h3 => ?_)
  ·refine vm76 ?_
   refine WL_gh (Gh.sub 1 0 np rfl rfl rfl) (WL_nil ⟨(i + 1), ?_, ?_, ⟨⟨_, rfl, by rfl⟩, rfl, ⟨⟨_, rfl, by rfl⟩, rfl, trivial⟩⟩, ⟨⟨_, rfl, by (first | (rw [actS_t (by omega)]; done) | (rw [actS_f (by omega)]; done))⟩, rfl, rfl, trivial⟩, rfl, rfl, rfl⟩)
   ·omega
   omega
  refine zgo ?_
  refine ⟨(i + 1), ?_, ?_, ⟨⟨_, rfl, by rfl⟩, rfl, ⟨⟨_, rfl, by rfl⟩, rfl, trivial⟩⟩, ⟨⟨_, rfl, by (first | (rw [actS_t (by omega)]; done) | (rw [actS_f (by omega)]; done))⟩, rfl, rfl, trivial⟩, rfl, rfl, rfl⟩
  ·omega
  omega
 obtain rfl : i = 4 := (by omega)
 refine zfo ?_
 all_goals (rfl)
set_option maxHeartbeats 4000000 in
theorem c_impl_IsInterface (x : Ifc) (hn : x.st.length ≤ 1048576) (hl : x.qu.sl.length ≤ 1048576) (hw : x.qu.wa.length ≤ 1048576) : Ctr Tryz.prog 120 [.agg [.v (.int .i64 x.ma), .lst 1 (x.st.map Rf.encI), .lst 3 (x.qu.sl.map encSl), .lst 2 (x.qu.wa.map encWa)]] (.one (.v (.bool (okIf x)))) := by
 refine Ctr.of (n := 54) G Tryz.func120 rfl vm175 rfl rfl rfl (fun w0 => ?_)
 refine W_pinS 0 rfl (fun _ => rfl) (fun u0 => ?_)
 refine W_sq ?_
 refine vm38 ?_
 refine vm100 ?_
 refine vm103 ?_
 refine WX_q rfl rfl (q_call rfl (ArgsOK.of rfl) (c_impl_isMask x.ma) rfl) ?_
 refine vm33 ?_
 refine WL_part rfl rfl rfl (fun h1 => ?_) (fun h1 => ?_)
 ·try rw [h1]
  try simp only [rfb] at h1
  refine zgn ?_
  refine W_true rfl ?_
  refine vm24 ?_
  all_goals exact vm130
 try rw [h1]
 try simp only [rfb] at h1
 refine vm33 ?_
 refine vm78 ?_
 refine WX_q rfl rfl (q_call rfl (ArgsOK.of rfl) (c_impl_IsQueue x.qu hl hw) rfl) ?_
 refine zgn ?_
 refine W_cond rfl (fun h2 => ?_) (fun h2 => ?_)
 ·try rw [h2]
  try simp only [rfb] at h2
  refine vm24 ?_
  all_goals exact vm130
 try rw [h2]
 try simp only [rfb] at h2
 have hq := okQu_iff.mp h2
 have hSl := hq.1.sl
 have hl4 := hSl.len
 refine zgn ?_
 refine vm103 ?_
 refine WX_call 2 rfl rfl rfl (ArgsOK.of rfl) (c_impl_copyInts x.st hn) rfl rfl ?_
 refine zgn ?_
 refine vm64 ?_
 refine zst ?_
 refine vm7 ?_
 refine WX_callm 2 [1] rfl rfl rfl (c_slices_Sort_int_int x.st hn) rfl (RowsIn.cons rfl RowsIn.nil) rfl rfl rfl ?_
 refine vm100 ?_
 refine vm64 ?_
 iterate 4 refine zst ?_
 refine vm7 ?_
 refine WX_call 3 rfl rfl rfl (ArgsOK.of rfl) (c_impl_activeIrqs x.qu.sl hSl) rfl rfl ?_
 refine vm7 ?_
 refine WX_q rfl rfl (q_call rfl (ArgsOK.of rfl) (c_slices_Equal_int_int (srtI x.st) (srtI (actN x.qu.sl 4)) (by rw [srtI_len]; exact hn) (by rw [srtI_len]; have := @actN_len x.qu.sl 4; omega)) rfl) ?_
 refine zgn ?_
 refine W_cond rfl (fun h3 => ?_) (fun h3 => ?_)
 ·try rw [h3]
  try simp only [rfb] at h3
  refine vm24 ?_
  all_goals exact vm130
 try rw [h3]
 try simp only [rfb] at h3
 have hin := fun j (hj : j < x.st.length) => act_in (srt_in h3 (mem_getD.mpr ⟨j, hj, rfl⟩)) hl4
 refine zgn ?_
 refine zgn ?_
 refine W_block (W_loopK [1] [0] (fun (i : Nat) => [(4, .v (.int .i64 (i : Int)))]) (fun (i : Nat) => []) (fun (i : Nat) => 1 ≤ i ∧ ∀ j, j < i → lvD x.qu.sl x.st j = true) (fun (i : Nat) => x.st.length - i) 1 rfl rfl ?_ ?_ ?_ ?_)
 ·exact ⟨Nat.le_refl _, fun j hj => by obtain rfl : j = 0 := (by omega); exact lvD_0⟩
 ·exact ⟨⟨_, rfl, by (first | rfl | (simp; done) | (simp; omega))⟩, rfl, trivial⟩
 ·exact trivial
 intro i hinv
 have hti : 0 < i → ((i : Int) - 1).toNat = i - 1 := fun _ => (by omega)
 simp only [List.cons_append, List.nil_append]
 refine zgn ?_
 refine W_cond rfl (fun h4 => ?_) (fun h4 => ?_)
 ·try rw [h4]
  try simp only [rfb] at h4
  have hi1 := hin i (by omega)
  have hi2 := hin (i - 1) (by omega)
  refine vm100 ?_
  refine W_block ?_
  refine vm80 ?_
  iterate 8 refine zst ?_
  refine QL_cons rfl (QX_q rfl rfl (q_call rfl (ArgsOK.of rfl) (c_impl_priorityIn x.qu.sl _ hl hi1) rfl) ?_)
  iterate 6 refine zst ?_
  refine QL_cons rfl ?_
  refine vm46 ?_
  refine QL_cons rfl (QX_q rfl rfl (q_call rfl (ArgsOK.of rfl) (c_impl_priorityIn x.qu.sl _ hl (by rw [hti (by omega)]; exact hi2)) rfl) ?_)
  refine zgn ?_
  refine W_cond rfl (fun h5 => ?_) (fun h5 => ?_)
  ·try rw [h5]
   try simp only [rfb] at h5
   refine vm24 ?_
   all_goals exact vm130
  try rw [h5]
  try simp only [rfb] at h5
  refine vm81 ?_
  refine ⟨(i + 1), ?_, ?_, ⟨⟨_, rfl, by rfl⟩, rfl, trivial⟩, trivial, rfl, rfl, rfl⟩
  ·exact ⟨by omega, upto_succ hinv.2 (lvD_t vm208)⟩
  omega
 try rw [h4]
 try simp only [rfb] at h4
 refine zgn ?_
 refine vm24 ?_
 all_goals exact vm130
end Go.Proofs.YtcnodpipinlpcaaGreat
set_option maxRecDepth 20000
set_option linter.unusedVariables false
set_option linter.unusedSimpArgs false
namespace Go.Proofs.YtcnodpipinlpcaaGreat
open Go Go.Rf
set_option maxHeartbeats 4000000 in
theorem c_spec_l21Step (yss : List (List CI)) (s : MStep) (hn : yss.length ≤ 1048576) : Ctr Tryz.prog 134 [.agg [.v (.slice none 0 0), .v (.slice none 0 0), .v (.slice none 0 0), .nst none 4 yss], .v (encMs s)] (.one (.v (.bool (stepV yss.length s)))) := by
 refine Ctr.of (n := 90) G Tryz.func134 rfl vm175 rfl rfl rfl (fun w0 => ?_)
 refine W_pinS 0 rfl (fun _ => rfl) (fun u0 => ?_)
 refine vm26 ?_
 refine vm101 ?_
 refine zcd (fun h1 => ?_) (fun h1 => ?_)
 ·refine zcl (c_spec_l6Irq _) ?_
  refine zcd (fun h2 => ?_) (fun h2 => ?_)
  ·refine zcd (fun h3 => ?_) (fun h3 => ?_)
   ·refine zf1 ?_
    all_goals exact vm106
   refine zf1 ?_
   all_goals exact vm106
  refine zf1 ?_
  all_goals exact vm106
 refine zcd (fun h4 => ?_) (fun h4 => ?_)
 ·refine zcd (fun h5 => ?_) (fun h5 => ?_)
  ·refine zcd (fun h6 => ?_) (fun h6 => ?_)
   ·refine zf1 ?_
    all_goals exact vm106
   refine zf1 ?_
   all_goals exact vm106
  refine zf1 ?_
  all_goals exact vm106
 refine zcd (fun h7 => ?_) (fun h7 => ?_)
 ·refine zwt ?_
  refine zcd (fun h8 => ?_) (fun h8 => ?_)
  ·refine zcd (fun h9 => ?_) (fun h9 => ?_)
   ·refine zf1 ?_
    all_goals exact vm106
   refine zf1 ?_
   all_goals exact vm106
  refine zf1 ?_
  all_goals exact vm106
 refine zcd (fun h10 => ?_) (fun h10 => ?_)
 ·refine zcd (fun h11 => ?_) (fun h11 => ?_)
  ·refine zcd (fun h12 => ?_) (fun h12 => ?_)
   ·refine zf1 ?_
    all_goals exact vm106
   refine zf1 ?_
   all_goals exact vm106
  refine zf1 ?_
  all_goals exact vm106
 refine zcd (fun h13 => ?_) (fun h13 => ?_)
 ·refine zcd (fun h14 => ?_) (fun h14 => ?_)
  ·refine zcd (fun h15 => ?_) (fun h15 => ?_)
   ·refine vm101 ?_
    refine zf1 ?_
    all_goals exact vm106
   refine zf1 ?_
   all_goals exact vm106
  refine zf1 ?_
  all_goals exact vm106
 refine zcd (fun h16 => ?_) (fun h16 => ?_)
 ·refine zcl (c_spec_l6Irq _) ?_
  refine zcd (fun h17 => ?_) (fun h17 => ?_)
  ·refine zcd (fun h18 => ?_) (fun h18 => ?_)
   ·refine vm101 ?_
    refine zf1 ?_
    all_goals exact vm106
   refine zf1 ?_
   all_goals exact vm106
  refine zf1 ?_
  all_goals exact vm106
 refine zf1 ?_
 all_goals exact vm106
set_option maxHeartbeats 4000000 in
theorem c_spec_l25Step (n : Nat) (s : MStep) (hn : n ≤ 1048576) : Ctr Tryz.prog 64 [.v (.int .i64 (n : Int)), .v (encMs s)] (.one (.v (.bool (stepV n s)))) := by
 refine Ctr.of (n := 10) G Tryz.func64 rfl vm175 rfl rfl rfl (fun w0 => ?_)
 refine vm1 ?_
 refine zgn ?_
 refine W_sq (W_drawsH 6 [0] mixed vm175 rfl rfl (fun r0 => ?_) (fun _ h => h))
 refine zsa 0 ?_
 refine zsa 3 ?_
 refine WA_branch (rs := [1]) vm175 rfl (AllB.cons ?_ AllB.nil)
 refine WB_run [0] rfl rfl (WX_make (n := n) G 2 rfl rfl rfl rfl rfl rfl rfl vm212 vm212 (by omega) (by omega) <| WL_gh (Gh.nest (id := 1) (yss := List.replicate (n) [.v (.int .i64 0), .l 3 1 [], .l 154 3 [], .l 183 2 []]) rfl (by simp) (replicate_plain (.v (.s (.s (.s .nil)))))) (WL_nil ⟨rfl, ?_⟩))
 refine WA_branch (rs := [2]) vm175 rfl (AllB.cons ?_ AllB.nil)
 refine vm71 ?_
 refine WA_branch (rs := [4]) vm175 rfl (AllB.cons ?_ AllB.nil)
 refine WB_rn [0] rfl rfl (WX_q rfl rfl (q_call rfl (ArgsOK.of rfl) (c_spec_l21Step _ _ (by first | assumption | (simp; omega))) rfl) (WL_nil ⟨rfl, ?_⟩))
 refine zsa 5 ?_
 refine vm15 ?_
 refine zf1 ?_
 all_goals (simp)
end Go.Proofs.YtcnodpipinlpcaaGreat
set_option maxRecDepth 20000
set_option linter.unusedVariables false
set_option linter.unusedSimpArgs false
namespace Go.Proofs.YtcnodpipinlpcaaGreat
open Go Go.Rf
set_option maxHeartbeats 4000000 in
theorem c_slices_Index_int_int (l : List Int) (v : Int) (hn : l.length ≤ 1048576) : Ctr Tryz.prog 177 [.lst 1 (l.map Rf.encI), .v (.int .i64 v)] (.one (.v (.int .i64 (idxN (fun j => decide (v = l.getD j default)) l.length)))) := by
 refine Ctr.of (n := 19) G Tryz.func177 rfl vm175 rfl rfl rfl (fun w0 => ?_)
 refine zgo ?_
 refine W_loopK [0, 1, 7] [] (fun (i : Nat) => [(8, .v (.int .i64 (i : Int)))]) (fun (i : Nat) => []) (fun (i : Nat) => i ≤ l.length ∧ ∀ j, j < i → decide (v = l.getD j default) = false) (fun (i : Nat) => l.length - i) 0 rfl rfl ?_ ?_ ?_ ?_
 ·exact ⟨Nat.zero_le _, fun j hj => by omega⟩
 ·exact ⟨⟨_, rfl, by (first | rfl | (simp; done) | (simp; omega))⟩, rfl, trivial⟩
 ·exact trivial
 intro i hinv
 simp only [List.cons_append, List.nil_append]
 refine zcd (fun h1 => ?_) (fun h1 => ?_)
 ·refine zcd (fun h2 => ?_) (fun h2 => ?_)
  ·refine zf1 ?_
   all_goals exact vm171
  refine zgo ?_
  refine ⟨(i + 1), ?_, ?_, ⟨⟨_, rfl, by rfl⟩, rfl, trivial⟩, trivial, rfl, rfl, rfl⟩
  ·exact ⟨by omega, upto_succ hinv.2 vm194⟩
  omega
 refine zf1 ?_
 all_goals exact vm171
set_option maxHeartbeats 4000000 in
theorem c_slices_Contains_int_int (l : List Int) (v : Int) (hn : l.length ≤ 1048576) : Ctr Tryz.prog 129 [.lst 1 (l.map Rf.encI), .v (.int .i64 v)] (.one (.v (.bool (hasI l v)))) := by
 refine Ctr.of (n := 9) G Tryz.func129 rfl vm175 rfl rfl rfl (fun w0 => ?_)
 refine zcl (c_slices_Index_int_int _ _ (by first | assumption | omega)) ?_
 refine zf1 ?_
 all_goals (simp only [hasI]; rw [idx_any])
set_option maxHeartbeats 4000000 in
theorem c_spec_l1Has (l : List Int) (v : Int) (hn : l.length ≤ 1048576) : Ctr Tryz.prog 180 [.lst 1 (l.map Rf.encI), .v (.int .i64 v)] (.one (.v (.bool (hasI l v)))) := by
 refine Ctr.of (n := 18) G Tryz.func180 rfl vm175 rfl rfl rfl (fun w0 => ?_)
 refine zgo ?_
 refine W_loopK [0, 1] [] (fun (i : Nat) => [(5, .v (.int .i64 (i : Int)))]) (fun (i : Nat) => []) (fun (i : Nat) => i ≤ l.length ∧ ∀ j, j < i → decide (v = l.getD j default) = false) (fun (i : Nat) => l.length - i) 0 rfl rfl ?_ ?_ ?_ ?_
 ·exact ⟨Nat.zero_le _, fun j hj => by omega⟩
 ·exact ⟨⟨_, rfl, by (first | rfl | (simp; done) | (simp; omega))⟩, rfl, trivial⟩
 ·exact trivial
 intro i hinv
 simp only [List.cons_append, List.nil_append]
 refine zcd (fun h1 => ?_) (fun h1 => ?_)
 ·refine zcd (fun h2 => ?_) (fun h2 => ?_)
  ·refine zf1 ?_
   all_goals exact vm172
  refine zgo ?_
  refine ⟨(i + 1), ?_, ?_, ⟨⟨_, rfl, by rfl⟩, rfl, trivial⟩, trivial, rfl, rfl, rfl⟩
  ·exact ⟨by omega, upto_succ hinv.2 vm194⟩
  omega
 refine zf1 ?_
 all_goals exact vm172
set_option maxHeartbeats 1000000 in
set_option maxHeartbeats 4000000 in
theorem c_spec_l25Sync (rs : List Route) (a : Abs) (hF : AbsF rs a) : Ctr Tryz.prog 133 [.lst 2 (rs.map encRo), .agg [.lst 1 (a.en.map encO), .lst 1 (a.ra.map encO), .lst 1 (a.po.map encO), .lst 1 (a.ma.map Rf.encI), .nst none 1 (a.st.map encSt)]] (.shp true [some 5] [.fr 4 1 ((syncA rs a).en.map encO), .fr 4 1 ((syncA rs a).ra.map encO), .fr 4 1 ((syncA rs a).po.map encO), .fr 3 1 ((syncA rs a).ma.map Rf.encI), .ne 26 1 ((syncA rs a).st.map encSt)]) := by
 have f0 := hF.n
 have f1 := hF.rn
 have f2 := hF.st
 have f3 := hF.en
 have f4 := hF.ra
 have f5 := hF.po
 have fm := hF.rt
 have fs := hF.small
 refine Ctr.of (n := 48) G Tryz.func133 rfl vm175 rfl rfl rfl (fun w0 => ?_)
 refine W_pinS 1 rfl (fun _ => rfl) (fun u1 => ?_)
 refine W_sq ?_
 refine vm38 ?_
 refine vm12 ?_
 refine zgn ?_
 refine vm64 ?_
 refine zst ?_
 refine vm7 ?_
 refine WX_call 7 rfl rfl rfl (ArgsOK.of rfl) (c_spec_l25Own a fs) rfl rfl ?_
 refine vm7 ?_
 refine WX_alloc_s G 8 rfl rfl rfl rfl rfl ?_
 refine zgn ?_
 refine zgn ?_
 refine W_block (W_loopK [0, 3, 4, 5] [0, 1, 2, 5, 6, 7] (fun (i : Nat) => [(6, .v (.int .i64 (i : Int)))]) (fun (i : Nat) => [(3, some (.row 4 1 ((syncR rs a i).map encO))), (4, some (.row 4 1 ((syncP rs a i).map encO)))]) (fun (i : Nat) => i ≤ 8) (fun (i : Nat) => 8 - i) 0 rfl rfl ?_ ?_ ?_ ?_)
 ·exact Nat.zero_le _
 ·exact ⟨⟨_, rfl, by (first | rfl | (simp; done) | (simp; omega))⟩, rfl, trivial⟩
 ·exact ⟨⟨_, rfl, by rfl⟩, rfl, rfl, ⟨⟨_, rfl, by rfl⟩, rfl, rfl, trivial⟩⟩
 intro i hinv
 have e1 := @syncR_len rs a i
 have e2 := @syncP_len rs a i
 have fq := fun h => hF.rt i h
 simp only [List.cons_append, List.nil_append]
 refine zgn ?_
 refine W_cond rfl (fun h1 => ?_) (fun h1 => ?_)
 ·try rw [h1]
  try simp only [rfb] at h1
  refine vm100 ?_
  refine W_block ?_
  refine vm80 ?_
  iterate 6 refine zst ?_
  refine QL_part rfl rfl rfl (fun h2 => ?_) (fun h2 => ?_)
  ·try rw [h2]
   try simp only [rfb] at h2
   iterate 7 refine zst ?_
   refine QL_part rfl rfl rfl (fun h3 => ?_) (fun h3 => ?_)
   ·try rw [h3]
    try simp only [rfb] at h3
    iterate 8 refine zst ?_
    refine vm73 ?_
    refine zst ?_
    refine vm94 ?_
    refine QX_q rfl rfl (q_call rfl (ArgsOK.of rfl) (c_spec_l1Has _ _ (Nat.le_trans (hF.len _ (by have := hF.rt i (by omega); omega)) (by decide))) rfl) ?_
    refine zgn ?_
    refine W_cond rfl (fun h4 => ?_) (fun h4 => ?_)
    ·try rw [h4]
     try simp only [rfb] at h4
     refine W_sq ?_
     refine vm60 ?_
     refine vm60 ?_
     refine W_region ?_
     refine zst ?_
     refine vm6 ?_
     refine zgn ?_
     refine ⟨(i + 1), ?_, ?_, ⟨⟨_, rfl, by rfl⟩, rfl, trivial⟩, ⟨⟨_, rfl, by (first | rfl | (rw [syncR_t (cnd_t vm177 vm177 vm177), List.map_set]; rfl) | (rw [syncP_t (cnd_t vm177 vm177 vm177), List.map_set]; rfl) | (rw [syncR_f vm180]; done) | (rw [syncP_f vm180]; done))⟩, rfl, rfl, ⟨⟨_, rfl, by (first | rfl | (rw [syncR_t (cnd_t vm177 vm177 vm177), List.map_set]; rfl) | (rw [syncP_t (cnd_t vm177 vm177 vm177), List.map_set]; rfl) | (rw [syncR_f vm180]; done) | (rw [syncP_f vm180]; done))⟩, rfl, rfl, trivial⟩⟩, rfl, rfl, rfl⟩
     ·omega
     omega
    try rw [h4]
    try simp only [rfb] at h4
    refine vm81 ?_
    refine ⟨(i + 1), ?_, ?_, ⟨⟨_, rfl, by rfl⟩, rfl, trivial⟩, ⟨⟨_, rfl, by (first | rfl | (rw [syncR_t (cnd_t vm177 vm177 vm177), List.map_set]; rfl) | (rw [syncP_t (cnd_t vm177 vm177 vm177), List.map_set]; rfl) | (rw [syncR_f vm180]; done) | (rw [syncP_f vm180]; done))⟩, rfl, rfl, ⟨⟨_, rfl, by (first | rfl | (rw [syncR_t (cnd_t vm177 vm177 vm177), List.map_set]; rfl) | (rw [syncP_t (cnd_t vm177 vm177 vm177), List.map_set]; rfl) | (rw [syncR_f vm180]; done) | (rw [syncP_f vm180]; done))⟩, rfl, rfl, trivial⟩⟩, rfl, rfl, rfl⟩
    ·omega
    omega
   try rw [h3]
   try simp only [rfb] at h3
   refine zgn ?_
   refine W_false rfl ?_
   refine vm81 ?_
   refine ⟨(i + 1), ?_, ?_, ⟨⟨_, rfl, by rfl⟩, rfl, trivial⟩, ⟨⟨_, rfl, by (first | rfl | (rw [syncR_t (cnd_t vm177 vm177 vm177), List.map_set]; rfl) | (rw [syncP_t (cnd_t vm177 vm177 vm177), List.map_set]; rfl) | (rw [syncR_f vm180]; done) | (rw [syncP_f vm180]; done))⟩, rfl, rfl, ⟨⟨_, rfl, by (first | rfl | (rw [syncR_t (cnd_t vm177 vm177 vm177), List.map_set]; rfl) | (rw [syncP_t (cnd_t vm177 vm177 vm177), List.map_set]; rfl) | (rw [syncR_f vm180]; done) | (rw [syncP_f vm180]; done))⟩, rfl, rfl, trivial⟩⟩, rfl, rfl, rfl⟩
   ·omega
   omega
  try rw [h2]
  try simp only [rfb] at h2
  refine zgn ?_
  refine W_false rfl ?_
  refine vm81 ?_
  refine ⟨(i + 1), ?_, ?_, ⟨⟨_, rfl, by rfl⟩, rfl, trivial⟩, ⟨⟨_, rfl, by (first | rfl | (rw [syncR_t (cnd_t vm177 vm177 vm177), List.map_set]; rfl) | (rw [syncP_t (cnd_t vm177 vm177 vm177), List.map_set]; rfl) | (rw [syncR_f vm180]; done) | (rw [syncP_f vm180]; done))⟩, rfl, rfl, ⟨⟨_, rfl, by (first | rfl | (rw [syncR_t (cnd_t vm177 vm177 vm177), List.map_set]; rfl) | (rw [syncP_t (cnd_t vm177 vm177 vm177), List.map_set]; rfl) | (rw [syncR_f vm180]; done) | (rw [syncP_f vm180]; done))⟩, rfl, rfl, trivial⟩⟩, rfl, rfl, rfl⟩
  ·omega
  omega
 try rw [h1]
 try simp only [rfb] at h1
 refine zgn ?_
 refine zgn ?_
 refine W_ret (fin_shp rfl rfl rfl rfl (rcs_cons (rc_own rfl ?_) (rcs_cons (rc_own rfl ?_) (rcs_cons (rc_own rfl ?_) (rcs_cons (rc_own rfl ?_) (rcs_cons (rc_ne rfl ?_) rcs_nil))))))
 all_goals (first | rfl | (have e8 : i = 8 := (by omega); subst e8; rfl))
end Go.Proofs.YtcnodpipinlpcaaGreat
