/- Structs that are compared; what a draw needs of its cursor. -/
import Derived.Test.YtehijimgenicfaaRfXA
import Derived.Test.YtehijimgenicfaaRfS
import Derived.Laws.StructEq
set_option linter.unusedVariables false
set_option linter.unusedSectionVars false
set_option linter.unusedSimpArgs false
namespace Go.Rf
open Go Go.RowKit
inductive EF where
  | int (k : IntKind)
  | bool
  | str
def efOf (P : Program) (t : TypeId) : Option EF := match P.underlying t with
  | some (.int k) => some (.int k)
  | some .bool => some .bool
  | some .string => some .str
  | _ => none
def efB : EF → EF → Bool
  | .int k, .int k' => decide (k = k')
  | .bool, .bool => true
  | .str, .str => true
  | _, _ => false
theorem efB_eq {a b : EF} (h : efB a b = true) : a = b := by
  cases a <;> cases b <;> simp [efB] at h <;> first | rfl | (rw [h])
def efsB (P : Program) : List Field → Nat → List EF → Bool
  | [], _, [] => true
  | f :: fs, j, k :: ks => (f.name != "_") && (f.offset == j) && (match efOf P f.type with | some k' => efB k' k | none => false) && efsB P fs (j + 1) ks
  | _, _, _ => false
def eqTypeB (P : Program) (t : TypeId) (ks : List EF) : Bool :=
  (match P.underlying t with | some (.struct fs) => efsB P fs.toList 0 ks | _ => false) && !P.stoodInHeld t && !P.eqGuardType P.depth t
def fitV : EF → Value → Prop
  | .int k, v => ∃ a, v = .int k a
  | .bool, v => ∃ a, v = .bool a
  | .str, v => ∃ a, v = .string a
def fitVs : List EF → List Value → Prop
  | [], us => us = []
  | k :: ks, us => ∃ u r, us = u :: r ∧ fitV k u ∧ fitVs ks r
def eqCell : Value → Value → Bool
  | .int _ a, .int _ b => decide (a = b)
  | .bool a, .bool b => a == b
  | .string a, .string b => decide (a = b)
  | _, _ => false
def eqCells : List Value → List Value → Bool
  | [], [] => true
  | a :: r, b :: s => eqCell a b && eqCells r s
  | _, _ => false
theorem bytes_eq_list {a b : ByteArray} : (a.toList == b.toList) = decide (a = b) := by
  have e : (a.toList = b.toList) ↔ a = b := by
    rw [ByteArray.toList_eq, ByteArray.toList_eq]
    obtain ⟨⟨x⟩⟩ := a
    obtain ⟨⟨y⟩⟩ := b
    simp
  rw [Bool.eq_iff_iff, beq_iff_eq, decide_eq_true_eq]
  exact e
section
variable {P : Program} {w : World}
theorem run_eqFields {d : Nat} {xs ys : Array Value} : ∀ {fs : List Field} {j : Nat} {ks : List EF}, efsB P fs j ks = true → fitVs ks (xs.toList.drop j) → fitVs ks (ys.toList.drop j) →
    (Op.eqFields (d + 1) xs ys fs).run P w = .ok (eqCells (xs.toList.drop j) (ys.toList.drop j)) w
  | [], j, [], _, hx, hy => by
    simp only [fitVs] at hx hy
    rw [hx, hy]
    simp [Op.eqFields, eqCells]
  | [], _, _ :: _, h, _, _ => by simp [efsB] at h
  | _ :: _, _, [], h, _, _ => by simp [efsB] at h
  | f :: fs, j, k :: ks, h, hx, hy => by
    simp only [efsB, Bool.and_eq_true] at h
    obtain ⟨⟨⟨h1, h2⟩, h3⟩, h4⟩ := h
    simp only [fitVs] at hx hy
    obtain ⟨u, r, ex, hu, hr⟩ := hx
    obtain ⟨v, s, ey, hv, hs⟩ := hy
    have hj : f.offset = j := by simpa using h2
    have gx : xs[j]? = some u := by
      have := congrArg (fun l => l[0]?) ex
      simpa [List.getElem?_drop] using this
    have gy : ys[j]? = some v := by
      have := congrArg (fun l => l[0]?) ey
      simpa [List.getElem?_drop] using this
    have dx : xs.toList.drop (j + 1) = r := by rw [← List.drop_drop, ex]; rfl
    have dy : ys.toList.drop (j + 1) = s := by rw [← List.drop_drop, ey]; rfl
    have hn : f.name ≠ "_" := by simpa using h1
    have ih := run_eqFields (d := d) (xs := xs) (ys := ys) h4 (dx ▸ hr) (dy ▸ hs)
    rw [dx, dy] at ih
    have key : ∀ w, (part f.type xs f.offset).run P w = .ok u w ∧ (part f.type ys f.offset).run P w = .ok v w ∧ (Op.equalIn (d + 1) f.type u v).run P w = .ok (eqCell u v) w := by
      intro w
      cases he : efOf P f.type with
      | none => simp [he] at h3
      | some k' =>
        simp only [he] at h3
        obtain rfl := efB_eq h3
        unfold efOf at he
        split at he <;> cases he
        · next k ht =>
          obtain ⟨a, rfl⟩ := hu
          obtain ⟨b, rfl⟩ := hv
          refine ⟨by simp [part, isAgg, run_underlying ht, hj, gx], by simp [part, isAgg, run_underlying ht, hj, gy], ?_⟩
          rw [run_equalIn_int w d _ k k a b ht]
          rfl
        · next ht =>
          obtain ⟨a, rfl⟩ := hu
          obtain ⟨b, rfl⟩ := hv
          exact ⟨by simp [part, isAgg, run_underlying ht, hj, gx], by simp [part, isAgg, run_underlying ht, hj, gy], run_equalIn_bool' w d _ a b ht⟩
        · next ht =>
          obtain ⟨a, rfl⟩ := hu
          obtain ⟨b, rfl⟩ := hv
          refine ⟨by simp [part, isAgg, run_underlying ht, hj, gx], by simp [part, isAgg, run_underlying ht, hj, gy], ?_⟩
          rw [run_equalIn_string w d _ a b ht, bytes_eq_list]
          rfl
    rw [ex, ey]
    simp only [Op.eqFields, if_pos hn, Sem.run_bind, (key w).1, (key w).2.1, (key w).2.2, Result.andThen_ok, eqCells]
    cases hc : eqCell u v
    · simp
    · simpa using ih
theorem run_eqStruct {t : TypeId} {ks : List EF} {us vs : List Value} (h : eqTypeB P t ks = true) (hu : fitVs ks us) (hv : fitVs ks vs) : (Op.equalIn 10000 t (.agg ⟨us⟩) (.agg ⟨vs⟩)).run P w = .ok (eqCells us vs) w := by
  simp only [eqTypeB, Bool.and_eq_true, Bool.not_eq_true'] at h
  obtain ⟨⟨h1, h2⟩, _⟩ := h
  split at h1
  · next fs hfs =>
    have e : P.fieldsOf t = fs := by simp [Program.fieldsOf, hfs]
    rw [show (10000 : Nat) = 9999 + 1 from rfl, run_equalIn_agg w 9999 t _ _ (by rw [e]; exact hfs) h2, e]
    exact run_eqFields (d := 9998) (xs := ⟨us⟩) (ys := ⟨vs⟩) h1 hu hv
  · cases h1
end
section
variable {P : Program} [Env P] {w0 : Base} {ops : Array Oper} {tb : List (Nat × TyI)} {o : Oper} {rest : List Oper} {T : List (Nat × AV)} {m : List (Nat × Option Row)} {nx nt d : Nat} {Q : Exit → St → Prop}
theorem eval_agg {x : Operand} {ax : AV} {cs : List AV} {us : List Value} {w0 : World} {ρ : Nat → Value} {a : Act} (hT : RelT w0 ρ T nx nt a) (hx : ev T x = some ax) (hc : cellsOf ax = some cs) (hu : vaR cs [] = some us) (hax : ax = .agg cs ∨ ax = .v (.agg ⟨us⟩)) : a.eval x = .agg ⟨us⟩ := by
  obtain ⟨us', h1, h2⟩ := vaR_spec _ _ _ hu
  simp at h2
  subst h2
  have := hT.ev hx
  rcases hax with rfl | rfl
  · simp only [RelV] at this
    obtain ⟨ys, e, hr⟩ := this
    rw [h1] at hr
    rw [e, RelVs.map_v_eq _ hr]
  · simpa only [RelV] using this
theorem q_eqs {x y : Operand} {t t' : TypeId} {ax ay : AV} {cs ds : List AV} {us vs : List Value} (ks : List EF) (ho : o.op = .binOp .eql t x y t') (hx : ev T x = some ax) (hy : ev T y = some ay) (hc : cellsOf ax = some cs) (hd : cellsOf ay = some ds) (hu : vaR cs [] = some us) (hv : vaR ds [] = some vs)
    (hax : ax = .agg cs ∨ ax = .v (.agg ⟨us⟩)) (hay : ay = .agg ds ∨ ay = .v (.agg ⟨vs⟩)) (ht : eqTypeB P t ks = true) (fu : fitVs ks us) (fv : fitVs ks vs) : QStep P o T m nx nt (.v (.bool (eqCells us vs))) :=
  QStep.val fun w0 ρ a hT w' => by
    have ex := eval_agg hT hx hc hu hax
    have ey := eval_agg hT hy hd hv hay
    have hg : P.eqGuardType P.depth t = false := by simp only [eqTypeB, Bool.and_eq_true, Bool.not_eq_true'] at ht; exact ht.2
    simp [execOp, ho, ex, ey, run_eqGuard_agg w' .eql t x y _ _ hg, run_eql_struct, run_eqStruct ht fu fv]
theorem q_nes {x y : Operand} {t t' : TypeId} {ax ay : AV} {cs ds : List AV} {us vs : List Value} (ks : List EF) (ho : o.op = .binOp .neq t x y t') (hx : ev T x = some ax) (hy : ev T y = some ay) (hc : cellsOf ax = some cs) (hd : cellsOf ay = some ds) (hu : vaR cs [] = some us) (hv : vaR ds [] = some vs)
    (hax : ax = .agg cs ∨ ax = .v (.agg ⟨us⟩)) (hay : ay = .agg ds ∨ ay = .v (.agg ⟨vs⟩)) (ht : eqTypeB P t ks = true) (fu : fitVs ks us) (fv : fitVs ks vs) : QStep P o T m nx nt (.v (.bool (!eqCells us vs))) :=
  QStep.val fun w0 ρ a hT w' => by
    have ex := eval_agg hT hx hc hu hax
    have ey := eval_agg hT hy hd hv hay
    have hg : P.eqGuardType P.depth t = false := by simp only [eqTypeB, Bool.and_eq_true, Bool.not_eq_true'] at ht; exact ht.2
    simp [execOp, ho, ex, ey, run_eqGuard_agg w' .neq t x y _ _ hg, run_neq_struct, run_eqStruct ht fu fv]
end
/-! the cursor -/
def okC (n : Int) (x : Cur) : Prop := bytesOK x.c ∧ 0 ≤ x.a ∧ x.a ≤ n
theorem okC.mono {n n' : Int} {x : Cur} (h : okC n x) (hn : n ≤ n') : okC n' x := ⟨h.1, h.2.1, by have := h.2.2; omega⟩
theorem okC.pk {n : Int} {x : Cur} (h : okC n x) (k : Int) : okC (n + 2) (pkC x k) := by
  have := pk_c (x := x) (n := k)
  exact ⟨by rw [this.1]; exact h.1, by have := h.2.1; omega, by have := h.2.2; omega⟩
theorem okC.big {n : Int} {x : Cur} (h : okC n x) (hn : n ≤ 1000000000000) : 0 ≤ x.a ∧ x.a ≤ 4611686018427387000 := ⟨h.2.1, by have := h.2.2; omega⟩
theorem okC.big2 {n : Int} {x : Cur} (h : okC n x) (hn : n ≤ 1000000000000) : 0 ≤ x.a ∧ x.a ≤ 4611686018427380000 := ⟨h.2.1, by have := h.2.2; omega⟩
theorem getD_in {l : List Int} {lo hi : Int} (hl : ∀ z ∈ l, lo ≤ z ∧ z ≤ hi) {i : Nat} (h0 : i < l.length) : lo ≤ l.getD i default ∧ l.getD i default ≤ hi := by
  have h : l.getD i default = l[i] := by rw [List.getD_eq_getElem?_getD, List.getElem?_eq_getElem h0]; rfl
  rw [h]
  exact hl _ (List.getElem_mem h0)
end Go.Rf
namespace Go.Rf
open Go Go.RowKit
theorem getD_mem {α : Type} [Inhabited α] {l : List α} {i : Nat} (h0 : i < l.length) : l.getD i default ∈ l := by
  have h : l.getD i default = l[i] := by rw [List.getD_eq_getElem?_getD, List.getElem?_eq_getElem h0]; rfl
  rw [h]
  exact List.getElem_mem h0
end Go.Rf
namespace Go.Rf
theorem getNI2 {α : Type} [Inhabited α] {xs : List α} {f : α → List Value} {j : Int} (h0 : 0 ≤ j) (h : j.toNat < xs.length) : (xs.map f)[0 + j.toNat]? = some (f (xs.getD j.toNat default)) := by rw [Nat.zero_add]; simp [h]
end Go.Rf
namespace Go.Rf
open Go Go.RowKit
section
variable {P : Program} [Env P] {w0 : Base} {T : List (Nat × AV)} {m : List (Nat × Option Row)} {nx nt : Nat} {Q : Exit → St → Prop} {c : Code}
theorem W_more {N : Nat} (hn : nx ≤ N) (h : W P w0 c ⟨T, m, N, nt⟩ Q) : W P w0 c ⟨T, m, nx, nt⟩ Q := by
  intro ρ a w hT hC
  refine h ρ a w ⟨fun t x hx => (hT.tmps t x hx).mono hn (fun _ _ => rfl), hT.size, hT.defers⟩ ⟨fun id r hr => ?_, hC.apart, hC.below, ⟨Nat.le_trans hC.pin.1 hn, hC.pin.2⟩, hC.kept⟩
  obtain ⟨h1, h2⟩ := hC.rows id r hr
  exact ⟨Nat.lt_of_lt_of_le h1 hn, h2.mono hn (fun _ _ => rfl) h1⟩
/-- WAYS THAT MEET: of each, only some temps and rows are kept. -/
theorem W_join {x y : Code} {S : St} {T1 : List (Nat × AV)} {M1 : List (Nat × Option Row)} (N : Nat) (ks ms : List Nat) (h : W P w0 x S (sq (fun S' => keepO S'.nx S'.T ks [] = some T1 ∧ keepM S'.nx S'.m ms [] = some M1 ∧ Nat.ble S'.nx N = true ∧ S'.nt = nt) Q)) (h2 : W P w0 y ⟨T1, M1, N, nt⟩ Q) : W P w0 (.seq x y) S Q := by
  refine W_seq (fun K hK => W_mono h ?_)
  intro e S hq
  cases e
  case normal =>
    obtain ⟨h3, h4, h5, h6⟩ := hq
    refine hK S ?_
    subst h6
    exact W_weak (S' := ⟨T1, M1, S.nx, S.nt⟩) ⟨rfl, keepO_spec h3 trivial, keepM_spec h4 trivial⟩ rfl (W_more (Nat.le_of_ble_eq_true h5) h2)
  all_goals exact hq
theorem Ctr.eq {f : FuncId} {args : List AV} {res res' : Res} (h : Ctr P f args res) (e : res = res') : Ctr P f args res' := e ▸ h
end
end Go.Rf
namespace Go.Rf
open Go Go.RowKit
section
variable {P : Program} [Env P] {w0 : Base} {T : List (Nat × AV)} {m : List (Nat × Option Row)} {nx nt : Nat} {Q : Exit → St → Prop} {c : Code}
/-- .. and of what is kept, only 'inv' is told. -/
theorem W_joinX {α : Type} {x y : Code} {S : St} (T1 : α → List (Nat × AV)) (M1 : α → List (Nat × Option Row)) (inv : α → Prop) (N : Nat) (ks ms : List Nat) (h : W P w0 x S (sq (fun S' => ∃ a, inv a ∧ keepO S'.nx S'.T ks [] = some (T1 a) ∧ keepM S'.nx S'.m ms [] = some (M1 a) ∧ Nat.ble S'.nx N = true ∧ S'.nt = nt) Q)) (h2 : ∀ a, inv a → W P w0 y ⟨T1 a, M1 a, N, nt⟩ Q) : W P w0 (.seq x y) S Q := by
  refine W_seq (fun K hK => W_mono h ?_)
  intro e S hq
  cases e
  case normal =>
    obtain ⟨a, ha, h3, h4, h5, h6⟩ := hq
    refine hK S ?_
    subst h6
    exact W_weak (S' := ⟨T1 a, M1 a, S.nx, S.nt⟩) ⟨rfl, keepO_spec h3 trivial, keepM_spec h4 trivial⟩ rfl (W_more (Nat.le_of_ble_eq_true h5) (h2 a ha))
  all_goals exact hq
end
end Go.Rf
