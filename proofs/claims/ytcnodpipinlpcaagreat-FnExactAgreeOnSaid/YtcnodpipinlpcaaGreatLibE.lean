/- Texts merged into one: RfSR. -/
import Derived.Test.YtcnodpipinlpcaaGreatLibD
import Derived.KernelRfl
set_option linter.unusedVariables false
set_option linter.unusedSectionVars false
namespace Go.Rf
open Go Go.RowKit
section
variable {P : Program} [Env P] {w0 : Base} {ops : Array Oper} {tb : List (Nat × TyI)} {o : Oper} {T : List (Nat × AV)} {m m0 : List (Nat × Option Row)} {nx nt d fuel : Nat} {Q : Exit → St → Prop} {S : St} {A K : St → Prop} {c : Code} {listed : Array Bool} {b : Base} {r : AV} {id : Nat}
theorem p_field_ptr {t : TypeId} {x : Operand} {k off ft id a0 : Nat} {fs : List (Nat × Nat)} {zs : List Value} (G : Good P tb) (ho : o.op = .fieldAddr t x k) (hx : ev T x = some (.ptr id a0)) (ht : look t tb = some (.struct fs zs)) (hk : nth fs k = some (off, ft)) : QStep P o T m nx nt (.ptr id (Nat.add a0 off)) := q_field_ptr G ho ht hk hx
theorem p_load_box {t : TypeId} {x : Operand} {i : TyI} {id off : Nat} {cs : List AV} (G : Good P tb) (ho : o.op = .load t x) (hx : ev T x = some (.ptr id off)) (hm : mem m id = some (.box cs)) (hr : nth cs off = some r) (ht : look t tb = some i) (hf : flatB i = true) (hd : detA r = true) : QStep P o T m nx nt r := q_load_box G ho ht hf hx hm hr hd
theorem p_lst {t : TypeId} {x : Operand} {i : TyI} {id off sz : Nat} {cs : List AV} {z : Value} {ys : List (List Value)} (G : Good P tb) (ho : o.op = .load t x) (hx : ev T x = some (.ptr id off)) (hm : mem m id = some (.box cs)) (hr : nth cs off = some (.pin z sz ys)) (ht : look t tb = some i) (hf : flatB i = true) : QStep P o T m nx nt (.lst sz ys) := q_lst (q_load_box G ho ht hf hx hm hr rfl)
theorem p_nst {t : TypeId} {x : Operand} {i : TyI} {id off sz : Nat} {cs : List AV} {z : Option Value} {yss : List (List CI)} (G : Good P tb) (ho : o.op = .load t x) (hx : ev T x = some (.ptr id off)) (hm : mem m id = some (.box cs)) (hr : nth cs off = some (.nst z sz yss)) (hd : detA (.nst z sz yss) = true) (ht : look t tb = some i) (hf : flatB i = true) : QStep P o T m nx nt (.nst none sz yss) := q_nst (q_load_box G ho ht hf hx hm hr hd)
theorem p_load_box_struct {t : TypeId} {x : Operand} {fs : List (Nat × Nat)} {zs : List Value} {id off : Nat} {cs rs : List AV} (G : Good P tb) (ho : o.op = .load t x) (hx : ev T x = some (.ptr id off)) (hm : mem m id = some (.box cs)) (ht : look t tb = some (.struct fs zs)) (hr : takeR zs.length (dropN off cs) [] = some rs) (hd : detAs rs = true) : QStep P o T m nx nt (.agg rs) := q_load_box_struct G ho ht hx hm hr hd
theorem p_load_ept {t : TypeId} {x : Operand} {i : TyI} {c : List Value} {u : Value} (G : Good P tb) (ho : o.op = .load t x) (hx : ev T x = some (.ept c)) (hr : nth c 0 = some u) (ht : look t tb = some i) (hf : flatB i = true) : QStep P o T m nx nt (.v u) := q_load_ept G ho ht hf hx hr
theorem p_load_ept_struct {t : TypeId} {x : Operand} {fs : List (Nat × Nat)} {zs : List Value} {c us : List Value} (G : Good P tb) (ho : o.op = .load t x) (hx : ev T x = some (.ept c)) (ht : look t tb = some (.struct fs zs)) (hr : takeR zs.length c [] = some us) : QStep P o T m nx nt (.agg (avR us [])) := q_load_ept_struct G ho ht hx hr
theorem p_len {x : Operand} {t e sz by_ n : Nat} {zs : List Value} {ax : AV} (G : Good P tb) (ho : o.op = .call { callee := .builtin .len, args := #[x], argTypes := #[t] }) (hx : ev T x = some ax) (hn : lenA m ax = some n) (ht : look t tb = some (.slice e sz by_ zs)) : QStep P o T m nx nt (.v (.int .i64 n)) := q_len G ho ht hx hn
theorem p_len' {x : Operand} {t e sz by_ n n' : Nat} {zs : List Value} {ax : AV} (G : Good P tb) (ho : o.op = .call { callee := .builtin .len, args := #[x], argTypes := #[t] }) (hx : ev T x = some ax) (hn : lenA m ax = some n) (he : n = n') (ht : look t tb = some (.slice e sz by_ zs)) : QStep P o T m nx nt (.v (.int .i64 n')) := q_len' G ho ht hx hn he
theorem p_index_lst {x y : Operand} {t e sz by_ : Nat} {zs : List Value} {ys : List (List Value)} {k : IntKind} {i : Int} {c : List Value} (G : Good P tb) (ho : o.op = .indexAddr t x y) (hx : ev T x = some (.lst sz ys)) (hy : ev T y = some (.v (.int k i))) (h0 : 0 ≤ i) (hc : ys[i.toNat]? = some c) (ht : look t tb = some (.slice e sz by_ zs)) : QStep P o T m nx nt (.ept c) := q_index_lst G ho ht hx hy h0 hc
def Ph (n : Nat) (p : Prop) : Prop := p
structure Hd (q : Prop) : Prop where o : q
structure Sg (P : Program) [Env P] (o : Oper) (T : List (Nat × AV)) (m : List (Nat × Option Row)) (nx nt : Nat) (K : AV → Prop) : Prop where o : ∃ r, QStep P o T m nx nt r ∧ K r
theorem Sg.of {K : AV → Prop} (h : QStep P o T m nx nt r) (k : K r) : Sg P o T m nx nt K := ⟨r, h, k⟩
theorem WX_s [EnvAt P w0] {l : List Oper} {Q : Exit → St → Prop} (hd : o.dst = some d) (hlt : Nat.blt d nt = true) (h : Sg P o T m nx nt (fun r => WL P w0 ops l ⟨(d, r) :: T, m, nx, nt⟩ Q)) : WX P w0 ops o l ⟨T, m, nx, nt⟩ Q := h.o.elim fun _ h => WX_q hd hlt h.1 h.2
theorem QX_s [EnvAt P w0] {l : List Oper} {K : List (Nat × AV) → Prop} (hd : o.dst = some d) (hlt : Nat.blt d nt = true) (h : Sg P o T m nx nt (fun r => QL P w0 ops l ((d, r) :: T) m nx nt K)) : QX P w0 ops o l T m nx nt K := h.o.elim fun _ h => QX_q hd hlt h.1 h.2
theorem WA_ts [EnvAt P b] {o1 : Option Nat} {o2 : Op} {o3 : TypeId} {o4 : String} {o5 : Array Edge} {o6 : Option (Nat × Bool)} {i : Nat} (hi : ops[i]? = some ⟨o1, o2, o3, o4, o5, o6⟩) (hg : o6 = none) (hd : o1 = some d) (hlt : Nat.blt d nt = true) (hf : Region.free .any ops listed i = true) (hr : (Region.ready .any ops listed).contains i = true) (hp : pureOp o2 = true) (h : Sg P ⟨o1, o2, o3, o4, o5, o6⟩ T m0 nx nt (fun r => WA P b ops m0 fuel (listed.setIfInBounds i true) ⟨(d, r) :: T, m, nx, nt⟩ A)) : Ph i (WA P b ops m0 (fuel + 1) listed ⟨T, m, nx, nt⟩ A) := h.o.elim fun _ h => WA_take i hi hf hr hp hg hd hlt h.1 h.2
theorem WA_rs [EnvAt P b] {o1 : Option Nat} {o2 : Op} {o3 : TypeId} {o4 : String} {o5 : Array Edge} {o6 : Option (Nat × Bool)} {i j gd : Nat} {want : Bool} (hi : ops[i]? = some ⟨o1, o2, o3, o4, o5, o6⟩) (hg : o6 = some (j, want)) (hj : (ops[j]?).bind (·.dst) = some gd) (hb : look gd T = some (.v (.bool want))) (hd : o1 = some d) (hlt : Nat.blt d nt = true) (hf : Region.free .any ops listed i = true) (hr : (Region.ready .any ops listed).contains i = true) (hp : pureOp o2 = true) (h : Sg P ⟨o1, o2, o3, o4, o5, o6⟩ T m0 nx nt (fun r => WA P b ops m0 fuel (listed.setIfInBounds i true) ⟨(d, r) :: T, m, nx, nt⟩ A)) : Ph i (WA P b ops m0 (fuel + 1) listed ⟨T, m, nx, nt⟩ A) := h.o.elim fun _ h => WA_take_run i hi hf hr hp hg hj hb hd hlt h.1 h.2
theorem WB_rn (ms : List Nat) {o1 : Option Nat} {o2 : Op} {o3 : TypeId} {o4 : String} {o5 : Array Edge} {o6 : Option (Nat × Bool)} {i : Nat} {S : St} (hi : ops[i]? = some ⟨o1, o2, o3, o4, o5, o6⟩) (hg : o6 = none) (h : WX P b ops ⟨o1, o2, o3, o4, o5, o6⟩ [] S (nq (fun S' => keepM b.n0 S'.m ms [] = some m0 ∧ WA P b ops m0 fuel (listed.setIfInBounds i true) S' A))) : WB P b ops m0 fuel listed i S A := WB_run ms hi hg h
theorem WA_ss {i j gd : Nat} {want bb : Bool} (hi : ops[i]? = some o) (hg : o.guard = some (j, want)) (hj : (ops[j]?).bind (·.dst) = some gd) (hb : look gd T = some (.v (.bool bb))) (hne : (bb == want) = false) (hf : Region.free .any ops listed i = true) (hr : (Region.ready .any ops listed).contains i = true) (hd : o.dst = some d) (hlt : Nat.blt d nt = true) (hk : WA P b ops m0 fuel (listed.setIfInBounds i true) ⟨(d, .v undef) :: T, m, nx, nt⟩ A) : Ph i (WA P b ops m0 (fuel + 1) listed ⟨T, m, nx, nt⟩ A) := WA_skip i hi hf hr hg hj hb hne hd hlt hk
theorem WA_su {i j gd : Nat} {want : Bool} (hi : ops[i]? = some o) (hg : o.guard = some (j, want)) (hj : (ops[j]?).bind (·.dst) = some gd) (hb : look gd T = some (.v undef)) (hf : Region.free .any ops listed i = true) (hr : (Region.ready .any ops listed).contains i = true) (hd : o.dst = some d) (hlt : Nat.blt d nt = true) (hk : WA P b ops m0 fuel (listed.setIfInBounds i true) ⟨(d, .v undef) :: T, m, nx, nt⟩ A) : Ph i (WA P b ops m0 (fuel + 1) listed ⟨T, m, nx, nt⟩ A) := WA_skip_u i hi hf hr hg hj hb hd hlt hk
theorem dg_move {x : Operand} {o1 : Option Nat} {o3 : TypeId} {o4 : String} {o5 : Array Edge} {o6 : Option (Nat × Bool)} {K : AV → Prop} (h : Sg P ⟨o1, .move x, o3, o4, o5, o6⟩ T m nx nt K) : Sg P ⟨o1, .move x, o3, o4, o5, o6⟩ T m nx nt K := h
theorem dg_assign {x : Operand} {o1 : Option Nat} {o3 : TypeId} {o4 : String} {o5 : Array Edge} {o6 : Option (Nat × Bool)} {K : AV → Prop} (h : Sg P ⟨o1, .assign x, o3, o4, o5, o6⟩ T m nx nt K) : Sg P ⟨o1, .assign x, o3, o4, o5, o6⟩ T m nx nt K := h
theorem dg_field {t : TypeId} {x : Operand} {k : Nat} {o1 : Option Nat} {o3 : TypeId} {o4 : String} {o5 : Array Edge} {o6 : Option (Nat × Bool)} {K : AV → Prop} (h : Sg P ⟨o1, .fieldAddr t x k, o3, o4, o5, o6⟩ T m nx nt K) : Sg P ⟨o1, .fieldAddr t x k, o3, o4, o5, o6⟩ T m nx nt K := h
theorem dg_load {t : TypeId} {x : Operand} {o1 : Option Nat} {o3 : TypeId} {o4 : String} {o5 : Array Edge} {o6 : Option (Nat × Bool)} {K : AV → Prop} (h : Sg P ⟨o1, .load t x, o3, o4, o5, o6⟩ T m nx nt K) : Sg P ⟨o1, .load t x, o3, o4, o5, o6⟩ T m nx nt K := h
theorem dg_bin {u : BinOp} {t t2 : TypeId} {x y : Operand} {o1 : Option Nat} {o3 : TypeId} {o4 : String} {o5 : Array Edge} {o6 : Option (Nat × Bool)} {K : AV → Prop} (h : Sg P ⟨o1, .binOp u t x y t2, o3, o4, o5, o6⟩ T m nx nt K) : Sg P ⟨o1, .binOp u t x y t2, o3, o4, o5, o6⟩ T m nx nt K := h
theorem dg_pick {c x y : Operand} {o1 : Option Nat} {o3 : TypeId} {o4 : String} {o5 : Array Edge} {o6 : Option (Nat × Bool)} {K : AV → Prop} (h : Sg P ⟨o1, .pick c x y, o3, o4, o5, o6⟩ T m nx nt K) : Sg P ⟨o1, .pick c x y, o3, o4, o5, o6⟩ T m nx nt K := h
theorem dg_extract {x : Operand} {k : Nat} {o1 : Option Nat} {o3 : TypeId} {o4 : String} {o5 : Array Edge} {o6 : Option (Nat × Bool)} {K : AV → Prop} (h : Sg P ⟨o1, .extract x k, o3, o4, o5, o6⟩ T m nx nt K) : Sg P ⟨o1, .extract x k, o3, o4, o5, o6⟩ T m nx nt K := h
theorem dg_not {t : TypeId} {x : Operand} {o1 : Option Nat} {o3 : TypeId} {o4 : String} {o5 : Array Edge} {o6 : Option (Nat × Bool)} {K : AV → Prop} (h : Sg P ⟨o1, .unOp .not t x, o3, o4, o5, o6⟩ T m nx nt K) : Sg P ⟨o1, .unOp .not t x, o3, o4, o5, o6⟩ T m nx nt K := h
theorem dg_build {t : TypeId} {l : Array (Nat × Operand)} {o1 : Option Nat} {o3 : TypeId} {o4 : String} {o5 : Array Edge} {o6 : Option (Nat × Bool)} {K : AV → Prop} (h : Sg P ⟨o1, .build t l, o3, o4, o5, o6⟩ T m nx nt K) : Sg P ⟨o1, .build t l, o3, o4, o5, o6⟩ T m nx nt K := h
theorem dg_index {t : TypeId} {x y : Operand} {o1 : Option Nat} {o3 : TypeId} {o4 : String} {o5 : Array Edge} {o6 : Option (Nat × Bool)} {K : AV → Prop} (h : Sg P ⟨o1, .indexAddr t x y, o3, o4, o5, o6⟩ T m nx nt K) : Sg P ⟨o1, .indexAddr t x y, o3, o4, o5, o6⟩ T m nx nt K := h
theorem dg_len {c : Call} {o1 : Option Nat} {o3 : TypeId} {o4 : String} {o5 : Array Edge} {o6 : Option (Nat × Bool)} {K : AV → Prop} (h : Sg P ⟨o1, .call c, o3, o4, o5, o6⟩ T m nx nt K) : Sg P ⟨o1, .call c, o3, o4, o5, o6⟩ T m nx nt K := h
theorem W_sq {x y : Code} {S : St} {Q : Exit → St → Prop} (h : W P w0 x S (sq (fun S => W P w0 y S Q) Q)) : W P w0 (.seq x y) S Q := W_seq fun K hK => W_mono h fun e S' q => by cases e <;> first | exact hK _ q | exact q
theorem aW {S : St} {Q : Exit → St → Prop} {c : Code} (h : W P w0 c S Q) : W P w0 c S Q := h
theorem aWL {S : St} {Q : Exit → St → Prop} {l : List Oper} (h : WL P w0 ops l S Q) : WL P w0 ops l S Q := h
theorem aWX {S : St} {Q : Exit → St → Prop} {l : List Oper} (h : WX P w0 ops o l S Q) : WX P w0 ops o l S Q := h
theorem aQX {K : List (Nat × AV) → Prop} {l : List Oper} (h : QX P w0 ops o l T m nx nt K) : QX P w0 ops o l T m nx nt K := h
theorem aQL {K : List (Nat × AV) → Prop} {l : List Oper} (h : QL P w0 ops l T m nx nt K) : QL P w0 ops l T m nx nt K := h
end
section
variable {K : St → Prop} {Q : Exit → St → Prop} {S : St} {i id : Nat}
theorem k_sq (h : K S) : sq K Q .normal S := h
theorem k_nq (h : K S) : nq K .normal S := h
theorem k_sx (h : Q (.exit i) S) : sq K Q (.exit i) S := h
theorem k_sr (h : Q .ret S) : sq K Q .ret S := h
theorem k_bq (h : Q .normal S) : bq id Q .normal S := h
theorem k_br (h : Q .ret S) : bq id Q .ret S := h
theorem k_bx (h : Q .normal S) : bq id Q (.exit id) S := by simp only [bq, Nat.beq_refl, cond_true]; exact h
theorem k_bX (h : Q (.exit i) S) (e : Nat.beq i id = false := by rfl) : bq id Q (.exit i) S := by simp only [bq, e, cond_false]; exact h
end
theorem zq {p q : Prop} (k : q) (h : Hd q → p := by
 intro kk
 first
  | (with_reducible refine dg_move ?_; first | refine Sg.of (q_move rfl rfl) ?_)
  | (with_reducible refine dg_assign ?_; first | refine Sg.of (q_assign rfl rfl) ?_)
  | (with_reducible refine dg_field ?_; first | refine Sg.of (p_field_ptr G rfl rfl rfl rfl) ?_ | refine Sg.of (q_field_ept G rfl rfl rfl rfl) ?_)
  | (with_reducible refine dg_load ?_; first | refine Sg.of (p_lst G rfl rfl rfl rfl rfl rfl) ?_ | refine Sg.of (p_nst G rfl rfl rfl rfl rfl rfl) ?_ | refine Sg.of (p_load_box G rfl rfl rfl rfl rfl rfl rfl) ?_ | refine Sg.of (p_load_box_struct G rfl rfl rfl rfl rfl rfl) ?_ | refine Sg.of (p_load_ept G rfl rfl rfl rfl rfl) ?_ | refine Sg.of (p_load_ept_struct G rfl rfl rfl rfl) ?_ | refine Sg.of (q_load_eptN_struct G rfl rfl rfl rfl) ?_)
  | (with_reducible refine dg_bin ?_; first | refine Sg.of (q_cmp rfl rfl rfl rfl) ?_ | refine Sg.of (q_arith rfl rfl rfl rfl (by omega) (by omega)) ?_)
  | (with_reducible refine dg_pick ?_; first | refine Sg.of (q_pick_f rfl rfl rfl) ?_ | refine Sg.of (q_pick_t rfl rfl rfl) ?_)
  | (with_reducible refine dg_extract ?_; first | refine Sg.of (q_extract rfl rfl rfl) ?_)
  | (with_reducible refine dg_not ?_; first | refine Sg.of (q_not_t rfl rfl) ?_ | refine Sg.of (q_not_f rfl rfl) ?_ | refine Sg.of (q_not rfl rfl) ?_)
  | (with_reducible refine dg_build ?_; first | refine Sg.of (q_build G rfl rfl rfl rfl) ?_)
  | (with_reducible refine dg_index ?_; first | refine Sg.of (p_index_lst G rfl rfl rfl (by omega) (getN (by omega)) rfl) ?_ | refine Sg.of (p_index_lst G rfl rfl rfl (by omega) (getNI (by omega) (by omega)) rfl) ?_ | refine Sg.of (p_index_lst G rfl rfl rfl (by omega) (getM (by omega) (by omega)) rfl) ?_ | refine Sg.of (q_index_nst G rfl rfl rfl rfl (by omega) (getN (by omega)) rfl) ?_ | refine Sg.of (q_index_nst G rfl rfl rfl rfl (by omega) (getNI (by omega) (by omega)) rfl) ?_ | refine Sg.of (q_index_nst G rfl rfl rfl rfl (by omega) (getM (by omega) (by omega)) rfl) ?_)
  | (with_reducible refine dg_len ?_; first | refine Sg.of (p_len' G rfl rfl rfl (List.length_map _) rfl) ?_ | refine Sg.of (p_len G rfl rfl rfl rfl) ?_)
 exact kk.o) : p := h ⟨k⟩
theorem zgo {p q : Prop} (k : q) (h : Hd q → p := by
 intro kk
 first | (with_reducible refine aWX ?_; first | (refine WX_s rfl rfl ?_; refine zq ?_) | refine WX_store G rfl rfl rfl rfl rfl rfl rfl rfl rfl rfl rfl ?_) | (with_reducible refine aQX ?_; first | (refine QX_s rfl rfl ?_; refine zq ?_)) | skip
 repeat (first
  | (with_reducible refine aW ?_; with_reducible first | refine W_sq ?_ | refine W_region ?_ | refine W_block ?_ | refine W_skip ?_ | refine W_exit ?_)
  | (with_reducible refine aWL ?_; first | (refine WL_cons rfl ?_; first | (refine WX_s rfl rfl ?_; refine zq ?_) | refine WX_store G rfl rfl rfl rfl rfl rfl rfl rfl rfl rfl rfl ?_) | (refine WL_run rfl rfl rfl ?_; first | (refine WX_s rfl rfl ?_; refine zq ?_) | refine WX_store G rfl rfl rfl rfl rfl rfl rfl rfl rfl rfl rfl ?_) | refine WL_skip rfl rfl rfl rfl rfl rfl ?_ | refine WL_skip_u rfl rfl rfl rfl rfl ?_ | with_reducible refine WL_nil ?_)
  | (with_reducible refine aQL ?_; first | (refine QL_cons rfl ?_; first | (refine QX_s rfl rfl ?_; refine zq ?_)) | (refine QL_run rfl rfl rfl ?_; first | (refine QX_s rfl rfl ?_; refine zq ?_)) | refine QL_skip rfl rfl rfl rfl rfl rfl ?_ | refine QL_skip_u rfl rfl rfl rfl rfl ?_ | with_reducible refine QL_nil ?_)
  | (with_reducible first | refine k_sq ?_ | refine k_nq ?_ | refine k_bq ?_ | refine k_sx ?_ | refine k_bx ?_ | refine k_sr ?_ | refine k_br ?_ | (refine k_bX ?_ ?_; rotate_left)))
 exact kk.o) : p := h ⟨k⟩
theorem zgn {p q : Prop} (k : q) (h : Hd q → p := by
 intro kk
 repeat (with_reducible first | refine W_sq ?_ | refine W_region ?_ | refine W_block ?_)
 first | (with_reducible refine aWX ?_; first | (refine WX_s rfl rfl ?_; refine zq ?_) | refine WX_store G rfl rfl rfl rfl rfl rfl rfl rfl rfl rfl rfl ?_) | (with_reducible refine aQX ?_; first | (refine QX_s rfl rfl ?_; refine zq ?_)) | skip
 repeat (first
  | (with_reducible refine aWL ?_; first | (refine WL_cons rfl ?_; first | (refine WX_s rfl rfl ?_; refine zq ?_) | refine WX_store G rfl rfl rfl rfl rfl rfl rfl rfl rfl rfl rfl ?_) | (refine WL_run rfl rfl rfl ?_; first | (refine WX_s rfl rfl ?_; refine zq ?_) | refine WX_store G rfl rfl rfl rfl rfl rfl rfl rfl rfl rfl rfl ?_) | refine WL_skip rfl rfl rfl rfl rfl rfl ?_ | refine WL_skip_u rfl rfl rfl rfl rfl ?_)
  | (with_reducible refine aQL ?_; first | (refine QL_cons rfl ?_; first | (refine QX_s rfl rfl ?_; refine zq ?_)) | (refine QL_run rfl rfl rfl ?_; first | (refine QX_s rfl rfl ?_; refine zq ?_)) | refine QL_skip rfl rfl rfl rfl rfl rfl ?_ | refine QL_skip_u rfl rfl rfl rfl rfl ?_))
 with_reducible first | refine WL_nil ?_ | refine QL_nil ?_ | refine W_skip ?_ | refine W_exit ?_
 repeat (with_reducible first | refine k_sq ?_ | refine k_nq ?_ | refine k_bq ?_ | refine k_sx ?_ | refine k_bx ?_ | refine k_sr ?_ | refine k_br ?_ | (refine k_bX ?_ ?_; rotate_left))
 exact kk.o) : p := h ⟨k⟩
theorem znk {p q : Prop} (k : q) (h : Hd q → p := by
 intro kk
 repeat (with_reducible first | refine k_sq ?_ | refine k_nq ?_ | refine k_bq ?_ | refine k_sx ?_ | refine k_bx ?_ | refine k_sr ?_ | refine k_br ?_ | (refine k_bX ?_ ?_; rotate_left))
 exact kk.o) : p := h ⟨k⟩
theorem zst {p q : Prop} (k : q) (h : Hd q → p := by
 intro kk
 first
  | (with_reducible refine aWX ?_; first | (refine WX_s rfl rfl ?_; refine zq ?_) | refine WX_store G rfl rfl rfl rfl rfl rfl rfl rfl rfl rfl rfl ?_)
  | (with_reducible refine aQX ?_; first | (refine QX_s rfl rfl ?_; refine zq ?_))
  | (with_reducible refine aWL ?_; first | (refine WL_cons rfl ?_; first | (refine WX_s rfl rfl ?_; refine zq ?_) | refine WX_store G rfl rfl rfl rfl rfl rfl rfl rfl rfl rfl rfl ?_) | (refine WL_run rfl rfl rfl ?_; first | (refine WX_s rfl rfl ?_; refine zq ?_) | refine WX_store G rfl rfl rfl rfl rfl rfl rfl rfl rfl rfl rfl ?_) | refine WL_skip rfl rfl rfl rfl rfl rfl ?_ | refine WL_skip_u rfl rfl rfl rfl rfl ?_)
  | (with_reducible refine aQL ?_; first | (refine QL_cons rfl ?_; first | (refine QX_s rfl rfl ?_; refine zq ?_)) | (refine QL_run rfl rfl rfl ?_; first | (refine QX_s rfl rfl ?_; refine zq ?_)) | refine QL_skip rfl rfl rfl rfl rfl rfl ?_ | refine QL_skip_u rfl rfl rfl rfl rfl ?_)
 exact kk.o) : p := h ⟨k⟩
theorem zgd {p q : Prop} (k : q) (h : Hd q → p := by
 intro kk
 refine zgo ?_
 refine W_draws mixed (by kernel_rfl) ?_
 exact kk.o) : p := h ⟨k⟩
theorem zcd {p a b : Prop} {q1 : a → Prop} {q2 : b → Prop} (k1 : ∀ h, q1 h) (k2 : ∀ h, q2 h) (h : Hd (∀ h, q1 h) → Hd (∀ h, q2 h) → p := by
 intro k1 k2
 refine zgo ?_
 first | refine W_cond rfl (fun hc => ?_) (fun hc => ?_) | refine WL_part rfl rfl rfl (fun hc => ?_) (fun hc => ?_) | refine QL_part rfl rfl rfl (fun hc => ?_) (fun hc => ?_)
 ·(try rw [hc]); (try simp only [rfb] at hc); exact k1.o hc
 ·(try rw [hc]); (try simp only [rfb] at hc); exact k2.o hc) : p := h ⟨k1⟩ ⟨k2⟩
theorem zwt {p q : Prop} (k : q) (h : Hd q → p := by
 intro kk
 refine zgo ?_
 refine W_true rfl ?_
 exact kk.o) : p := h ⟨k⟩
theorem zwf {p q : Prop} (k : q) (h : Hd q → p := by
 intro kk
 refine zgo ?_
 refine W_false rfl ?_
 exact kk.o) : p := h ⟨k⟩
theorem zf1 {p q : Prop} (k : q) (h : Hd q → p := by
 intro kk
 refine zgo ?_
 refine W_ret (fin_one rfl (rc_v ?_))
 exact kk.o) : p := h ⟨k⟩
theorem zfo {p q : Prop} (k : q) (h : Hd q → p := by
 intro kk
 refine zgo ?_
 refine W_ret (fin_one rfl (rc_own rfl ?_))
 exact kk.o) : p := h ⟨k⟩
theorem zcl {p q c : Prop} (x : c) (k : q) (h : c → Hd q → p := by
 intro x kk
 refine zgo ?_
 first | exact WL_cons rfl (WX_q rfl rfl (q_call rfl (ArgsOK.of rfl) x rfl) kk.o) | exact WL_run rfl rfl rfl (WX_q rfl rfl (q_call rfl (ArgsOK.of rfl) x rfl) kk.o) | exact QL_cons rfl (QX_q rfl rfl (q_call rfl (ArgsOK.of rfl) x rfl) kk.o) | exact QL_run rfl rfl rfl (QX_q rfl rfl (q_call rfl (ArgsOK.of rfl) x rfl) kk.o)) : p := h x ⟨k⟩
theorem zsa (n : Nat) {p q : Prop} (k : q) (h : Hd q → Ph n p := by
 intro kk
 first
 | (refine WA_ts rfl rfl rfl rfl (by kernel_rfl) (by kernel_rfl) rfl ?_; refine zq ?_)
 | (refine WA_rs rfl rfl rfl rfl rfl rfl (by kernel_rfl) (by kernel_rfl) rfl ?_; refine zq ?_)
 | refine WA_ss rfl rfl rfl rfl rfl (by kernel_rfl) (by kernel_rfl) rfl rfl ?_
 | refine WA_su rfl rfl rfl rfl (by kernel_rfl) (by kernel_rfl) rfl rfl ?_
 exact kk.o) : p := h ⟨k⟩
end Go.Rf
