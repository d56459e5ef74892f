/- Cuts, closures, fields of values; loops; the end of a function. -/
import Derived.Test.YtehijimgenicfaaRfF
import Derived.Deep.LoopGhost
set_option linter.unusedVariables false
set_option linter.unusedSectionVars false
set_option linter.unusedSimpArgs false
namespace Go.Rf
open Go Go.RowKit

section
variable {P : Program} [Env P] {w0 : Base} {ops : Array Oper} {tb : List (Nat × TyI)} {o : Oper} {rest : List Oper} {T : List (Nat × AV)} {m : List (Nat × Option Row)} {nx nt d : Nat} {r : AV} {Q : Exit → St → Prop}

/-- a bound of a cut -/
def bndA (T : List (Nat × AV)) (dflt : Int) : Option Operand → Option Int
  | none => some dflt
  | some x => match ev T x with
    | some (.v (.int _ i)) => some i
    | _ => none
theorem bndA_spec {w0 : World} {ρ : Nat → Value} {a : Act} (hT : RelT w0 ρ T nx nt a) {dflt i : Int} {x : Option Operand} (h : bndA T dflt x = some i) : (x.map a.eval = none ∧ i = dflt) ∨ ∃ k, x.map a.eval = some (.int k i) := by
  cases x with
  | none => simp [bndA] at h; exact .inl ⟨rfl, h.symm⟩
  | some x =>
    simp only [bndA] at h
    split at h
    · rename_i k i' he
      cases h
      have := hT.ev he
      simp only [RelV] at this
      exact .inr ⟨k, by simp [this]⟩
    · cases h

theorem q_cut_str {t : Nat} {z : Value} {s : ByteArray} {x : Operand} {lo hi : Option Operand} {l h : Int} (G : Good P tb) (ho : o.op = .slice t x lo hi none) (ht : look t tb = some (.flat .str z)) (hx : ev T x = some (.v (.string s))) (hl : bndA T 0 lo = some l) (hh : bndA T s.size hi = some h)
    (h0 : 0 ≤ l) (h1 : l ≤ h) (h2 : h ≤ s.size) : QStep P o T m nx nt (.v (.string (s.extract l.toNat h.toNat))) :=
  QStep.val fun w0 ρ a hT w' => by
    have hxe := hT.ev hx
    simp only [RelV] at hxe
    have hu : P.underlying t = some .string := (G t _ ht).1
    have eh : (h.toNat : Int) = h := Int.toNat_of_nonneg (by omega)
    have hh1 : 0 ≤ h := by omega
    have hl2 : l ≤ (s.size : Int) := by omega
    rcases bndA_spec hT hl with ⟨e1, rfl⟩ | ⟨k1, e1⟩ <;> rcases bndA_spec hT hh with ⟨e2, rfl⟩ | ⟨k2, e2⟩ <;>
      simp [execOp, ho, hxe, e1, e2, Instr.sliceAt, Instr.slice, run_underlying hu, Instr.sliceBounds, Instr.sliceBound, asIntOf, h0, h1, h2, hh1, hl2, eh]

theorem run_cut {w0 : World} {t e sz by_ : Nat} {zs : List Value} (G : TyOK P t (.slice e sz by_ zs)) {ρ : Nat → Value} {a : Act} (hT : RelT w0 ρ T nx nt a) {lo hi : Option Operand} {l h : Int} {A : Option Addr} {n cap : Nat} (hl : bndA T 0 lo = some l) (hh : bndA T n hi = some h)
    (h0 : 0 ≤ l) (h1 : l ≤ h) (h2 : h ≤ n) (hc : n ≤ cap) (w : World) :
    (Instr.sliceAt t (.slice A n cap) (lo.map a.eval) (hi.map a.eval) none).run P w = .ok (.slice (if cap = l.toNat then A else A.map (·.add (l.toNat * sz))) (h.toNat - l.toNat) (cap - l.toNat)) w := by
  obtain ⟨hu, _, i, z, hi', hs, _⟩ := G
  have eh : (h.toNat : Int) = h := Int.toNat_of_nonneg (by omega)
  have hh1 : 0 ≤ h := by omega
  have hl2 : l ≤ (n : Int) := by omega
  have hcap : h ≤ (cap : Int) := by omega
  have hcap2 : (n : Int) ≤ (cap : Int) := by omega
  rcases bndA_spec hT hl with ⟨e1, rfl⟩ | ⟨k1, e1⟩ <;> rcases bndA_spec hT hh with ⟨e2, rfl⟩ | ⟨k2, e2⟩ <;>
    simp [e1, e2, Instr.sliceAt, Instr.slice, run_underlying hu, Instr.sliceBounds, Instr.sliceBound, asIntOf, sizeOf, typeInfo, hi', hs, h0, h1, h2, hh1, hl2, eh, hcap, hcap2]

theorem q_cut_lst {t e sz by_ : Nat} {zs : List Value} {ys : List (List Value)} {x : Operand} {lo hi : Option Operand} {l h : Int} (G : Good P tb) (ho : o.op = .slice t x lo hi none) (ht : look t tb = some (.slice e sz by_ zs)) (hx : ev T x = some (.lst sz ys)) (hl : bndA T 0 lo = some l) (hh : bndA T ys.length hi = some h)
    (h0 : 0 ≤ l) (h1 : l ≤ h) (h2 : h ≤ ys.length) : QStep P o T m nx nt (.lst sz ((ys.drop l.toNat).take (h.toNat - l.toNat))) :=
  QStep.run fun w0 ρ a w hT hC => by
    have hxe := hT.ev hx
    simp only [RelV] at hxe
    obtain ⟨A, cap, he, hcap, hall, hA⟩ := hxe
    have hlen : ((ys.drop l.toNat).take (h.toNat - l.toNat)).length = h.toNat - l.toNat := by rw [List.length_take, List.length_drop]; omega
    refine ⟨.slice (if cap = l.toNat then A else A.map (·.add (l.toNat * sz))) (h.toNat - l.toNat) (cap - l.toNat), ?_, fun w' hC' => ?_⟩
    · simp only [RelV]
      refine ⟨_, _, by rw [hlen], by rw [hlen]; omega, fun c hc => hall c (List.mem_of_mem_drop (List.mem_of_mem_take hc)), fun hpos => ?_⟩
      rw [hlen] at hpos
      have hpos2 : 0 < ys.length := by omega
      obtain ⟨ad, rfl, hb, hcell⟩ := hA hpos2
      have hcl : cap ≠ l.toNat := by omega
      rw [if_neg hcl]
      refine ⟨_, rfl, by rw [add_block]; exact hb, fun i c hi j u hj => ?_⟩
      have hi2 : ys[l.toNat + i]? = some c := by
        rw [List.getElem?_take] at hi
        split at hi
        · rwa [List.getElem?_drop] at hi
        · cases hi
      have := hcell _ _ hi2 j u hj
      rw [add_add', ← this]
      congr 2
      rw [Nat.add_mul]
      omega
    · have := run_cut (G t _ ht) hT (A := A) hl hh h0 h1 h2 hcap w'
      simp only [execOp, ho, he, Option.map_none, this, Sem.run_bind, Result.andThen_ok, Sem.run_pure]

theorem q_cut_own {t e e' sz by_ id : Nat} {zs : List Value} {ys : List (List Value)} {x : Operand} {lo hi : Option Operand} {l h : Int} (G : Good P tb) (ho : o.op = .slice t x lo hi none) (ht : look t tb = some (.slice e sz by_ zs)) (hx : ev T x = some (.own id)) (hm : mem m id = some (.row e' sz ys))
    (hl : bndA T 0 lo = some l) (hh : bndA T ys.length hi = some h) (h0 : 0 ≤ l) (h1 : l ≤ h) (h2 : h ≤ ys.length) : QStep P o T m nx nt (.sub id sz l.toNat (h.toNat - l.toNat)) :=
  QStep.run fun w0 ρ a w hT hC => by
    have hxe := hT.ev hx
    simp only [RelV] at hxe
    obtain ⟨hrow, _⟩ := hC.row hm
    have hshape : ∃ A cap, ρ id = .slice A ys.length cap ∧ ys.length ≤ cap ∧ (0 < ys.length → ∃ g, A = some ⟨g, 0, none⟩) := by
      rcases hrow.2 with ⟨e1, e2⟩ | ⟨g, cap, cur, e1, _, _, e2, _⟩
      · exact ⟨none, 0, by rw [e1, e2], by omega, fun h => by omega⟩
      · exact ⟨_, cap, e1, e2, fun _ => ⟨g, rfl⟩⟩
    obtain ⟨A, cap, he, hcap, hA⟩ := hshape
    refine ⟨.slice (if cap = l.toNat then A else A.map (·.add (l.toNat * sz))) (h.toNat - l.toNat) (cap - l.toNat), ?_, fun w' hC' => ?_⟩
    · simp only [RelV]
      refine ⟨hxe.1, _, _, rfl, by omega, fun hpos => ?_, fun hl0 => ⟨ys.length, ?_, by omega⟩⟩
      have hpos2 : 0 < ys.length := by omega
      obtain ⟨g, rfl⟩ := hA hpos2
      have hcl : cap ≠ l.toNat := by omega
      rw [if_neg hcl]
      exact ⟨g, _, _, he, by simp [Addr.add_lit]⟩
      · rw [he, hl0]
        have e : A.map (fun a => a.add 0) = A := by cases A <;> simp [Addr.add_zero']
        simp [e]
    · have := run_cut (G t _ ht) hT (A := A) hl hh h0 h1 h2 hcap w'
      simp only [execOp, ho, hxe.2, he, Option.map_none, this, Sem.run_bind, Result.andThen_ok, Sem.run_pure]

theorem q_cut_nil {t e sz by_ : Nat} {zs : List Value} {x : Operand} {lo hi : Option Operand} {l h : Int} (G : Good P tb) (ho : o.op = .slice t x lo hi none) (ht : look t tb = some (.slice e sz by_ zs)) (hx : ev T x = some (.v (.slice none 0 0))) (hl : bndA T 0 lo = some l) (hh : bndA T 0 hi = some h)
    (h0 : 0 = l) (h1 : 0 = h) : QStep P o T m nx nt (.v (.slice none 0 0)) :=
  QStep.val fun w0 ρ a hT w' => by
    have hxe := hT.ev hx
    simp only [RelV] at hxe
    subst h0; subst h1
    have := run_cut (n := 0) (cap := 0) (G t _ ht) hT (A := none) hl hh (by omega) (by omega) (by omega) (by omega) w'
    simp only [execOp, ho, hxe, Option.map_none, this, Sem.run_bind, Result.andThen_ok, Sem.run_pure]
    simp

def evs (T : List (Nat × AV)) : List Operand → List AV → Option (List AV)
  | [], acc => revO acc []
  | x :: r, acc => match ev T x with
    | some a => evs T r (a :: acc)
    | none => none
theorem evs_spec {ρ : Nat → Value} {a : Act} (hT : RelT w0 ρ T nx nt a) : ∀ {xs : List Operand} {acc rs : List AV} {acc' : List Value}, evs T xs acc = some rs → RelVs w0 ρ nx acc.reverse acc' → RelVs w0 ρ nx rs (acc' ++ xs.map a.eval)
  | [], acc, rs, acc', h, ha => by simp [evs, revO_eq] at h; subst h; simpa using ha
  | x :: xs, acc, rs, acc', h, ha => by
    simp only [evs] at h
    cases h1 : ev T x with
    | none => simp [h1] at h
    | some av =>
      simp only [h1] at h
      have := evs_spec hT h (acc' := acc' ++ [a.eval x]) (by
        rw [List.reverse_cons]
        refine RelVs.append _ ha ?_
        simp only [RelVs]
        exact ⟨_, _, rfl, hT.ev h1, rfl⟩)
      simpa using this

theorem q_func {f : FuncId} {caps : Array Operand} {cs : List AV} (ho : o.op = .makeFunc (.func f) #[] caps) (hc : evs T caps.toList [] = some cs) : QStep P o T m nx nt (.fnc f cs) :=
  QStep.run fun w0 ρ a w hT hC => by
    have := evs_spec hT hc (acc' := []) (by simp [RelVs])
    refine ⟨.func (.func f) #[] (caps.map a.eval), ?_, fun w' _ => by simp [execOp, ho, Instr.makeFunc]⟩
    simp only [RelV]
    exact ⟨caps.toList.map a.eval, by rw [← Array.toList_map], by simpa using this⟩

/-- a field of a value -/
theorem q_field {t : TypeId} {x : Operand} {k off ft : Nat} {i : TyI} {ax : AV} {cs : List AV} {fs : List (Nat × Nat)} {zs : List Value} (G : Good P tb) (ho : o.op = .field t x k) (ht : look t tb = some (.struct fs zs)) (hk : nth fs k = some (off, ft)) (hft : look ft tb = some i) (hfl : flatB i = true) (hx : ev T x = some (.agg cs))
    (hr : nth cs off = some r) : QStep P o T m nx nt r :=
  QStep.run fun w0 ρ a w hT hC => by
    have h := hT.ev hx
    simp only [RelV] at h
    obtain ⟨ys, he, h1⟩ := h
    rw [nth_eq] at hr hk
    obtain ⟨u, hu, h2⟩ := RelVs.get _ h1 off r hr
    obtain ⟨fields, j, hut, _, _, _, _, _, hf⟩ := G t _ ht
    obtain ⟨f, j', hf1, rfl, rfl, _, _⟩ := hf k off ft hk
    refine ⟨u, h2, fun w' _ => ?_⟩
    simp [execOp, ho, he, Instr.field, run_underlying hut, hf1, asAgg, part, (G _ _ hft).run_isAgg w', hfl, hu]
theorem q_field_v {t : TypeId} {x : Operand} {k off ft : Nat} {i : TyI} {cs : List Value} {u : Value} {fs : List (Nat × Nat)} {zs : List Value} (G : Good P tb) (ho : o.op = .field t x k) (ht : look t tb = some (.struct fs zs)) (hk : nth fs k = some (off, ft)) (hft : look ft tb = some i) (hfl : flatB i = true) (hx : ev T x = some (.v (.agg ⟨cs⟩)))
    (hr : nth cs off = some u) : QStep P o T m nx nt (.v u) :=
  QStep.val fun w0 ρ a hT w' => by
    have h := hT.ev hx
    simp only [RelV] at h
    rw [nth_eq] at hr hk
    obtain ⟨fields, j, hut, _, _, _, _, _, hf⟩ := G t _ ht
    obtain ⟨f, j', hf1, rfl, rfl, _, _⟩ := hf k off ft hk
    simp [execOp, ho, h, Instr.field, run_underlying hut, hf1, asAgg, part, (G _ _ hft).run_isAgg w', hfl, hr]

/-! a state that knows less -/
mutual
def refsB (n : Nat) : AV → Bool
  | .own i => Nat.blt i n
  | .sub i _ _ _ => Nat.blt i n
  | .ptr i _ => Nat.blt i n
  | .rpt i _ _ _ => Nat.blt i n
  | .agg cs => refsBs n cs
  | .tup cs => refsBs n cs
  | .fnc _ cs => refsBs n cs
  | _ => true
def refsBs (n : Nat) : List AV → Bool
  | [] => true
  | c :: cs => refsB n c && refsBs n cs
end
mutual
theorem RelV.less {ρ : Nat → Value} {n : Nat} : ∀ (x : AV) {y : Value}, refsB n x = true → RelV w0 ρ nx x y → RelV w0 ρ n x y
  | .v _, _, _, h => h
  | .lst _ _, _, _, h => h
  | .pin _ _ _, _, _, h => h
  | .ept _, _, _, h => h
  | .own i, _, hm, h => by simp only [refsB] at hm; simp only [RelV] at h ⊢; exact ⟨Nat.le_of_ble_eq_true hm, h.2⟩
  | .sub i _ _ _, _, hm, h => by simp only [refsB] at hm; simp only [RelV] at h ⊢; exact ⟨Nat.le_of_ble_eq_true hm, h.2⟩
  | .ptr i _, _, hm, h => by simp only [refsB] at hm; simp only [RelV] at h ⊢; exact ⟨Nat.le_of_ble_eq_true hm, h.2⟩
  | .rpt i _ _ _, _, hm, h => by simp only [refsB] at hm; simp only [RelV] at h ⊢; exact ⟨Nat.le_of_ble_eq_true hm, h.2⟩
  | .agg cs, _, hm, h => by
    simp only [refsB] at hm
    simp only [RelV] at h ⊢
    obtain ⟨ys, e, h⟩ := h
    exact ⟨ys, e, RelVs.less cs hm h⟩
  | .tup cs, _, hm, h => by
    simp only [refsB] at hm
    simp only [RelV] at h ⊢
    obtain ⟨ys, e, h⟩ := h
    exact ⟨ys, e, RelVs.less cs hm h⟩
  | .fnc _ cs, _, hm, h => by
    simp only [refsB] at hm
    simp only [RelV] at h ⊢
    obtain ⟨ys, e, h⟩ := h
    exact ⟨ys, e, RelVs.less cs hm h⟩
theorem RelVs.less {ρ : Nat → Value} {n : Nat} : ∀ (x : List AV) {y : List Value}, refsBs n x = true → RelVs w0 ρ nx x y → RelVs w0 ρ n x y
  | [], _, _, h => h
  | c :: cs, _, hm, h => by
    simp only [refsBs, Bool.and_eq_true] at hm
    simp only [RelVs] at h ⊢
    obtain ⟨y, ys, e, h1, h2⟩ := h
    exact ⟨y, ys, e, RelV.less c hm.1 h1, RelVs.less cs hm.2 h2⟩
end
def rowRefs (n : Nat) : Row → Bool
  | .box cs => refsBs n cs
  | .row _ _ _ => true
  | .byt _ => true
  | .spare _ _ _ _ => true
def WeakT (T : List (Nat × AV)) (n : Nat) : List (Nat × AV) → Prop
  | [] => True
  | (t, x) :: r => (∃ x', look t T = some x' ∧ x' = x) ∧ refsB n x = true ∧ WeakT T n r
def WeakM (m : List (Nat × Option Row)) (n : Nat) : List (Nat × Option Row) → Prop
  | [] => True
  | (id, none) :: r => WeakM m n r
  | (id, some row) :: r => (∃ row', mem m id = some row' ∧ row' = row) ∧ Nat.blt id n = true ∧ rowRefs n row = true ∧ WeakM m n r
theorem WeakT.get {n : Nat} : ∀ {T' : List (Nat × AV)}, WeakT T n T' → ∀ t x, (t, x) ∈ T' → look t T = some x ∧ refsB n x = true
  | [], _, _, _, h => by simp at h
  | (t', x') :: r, hw, t, x, h => by
    obtain ⟨⟨y, h1, h2⟩, h3, h4⟩ := hw
    rcases List.mem_cons.1 h with he | h
    · cases he; subst h2; exact ⟨h1, h3⟩
    · exact WeakT.get h4 t x h
theorem WeakM.get {n : Nat} : ∀ {m' : List (Nat × Option Row)}, WeakM m n m' → ∀ id row, (id, some row) ∈ m' → mem m id = some row ∧ id < n ∧ rowRefs n row = true
  | [], _, _, _, h => by simp at h
  | (id', none) :: r, hw, id, row, h => by
    rcases List.mem_cons.1 h with he | h
    · cases he
    · exact WeakM.get (m' := r) hw id row h
  | (id', some row') :: r, hw, id, row, h => by
    obtain ⟨⟨y, h1, h2⟩, h3, h4, h5⟩ := hw
    rcases List.mem_cons.1 h with he | h
    · cases he; subst h2; exact ⟨h1, Nat.le_of_ble_eq_true h3, h4⟩
    · exact WeakM.get h5 id row h
/-- S' knows no more than S. -/
structure Weak (S S' : St) : Prop where
  nt : S'.nt = S.nt
  T : WeakT S.T S'.nx S'.T
  m : WeakM S.m S'.nx S'.m
theorem mem_in {id : Nat} {row : Row} (h : mem m id = some row) : (id, some row) ∈ m := by
  unfold mem at h
  cases hl : look id m with
  | none => simp [hl] at h
  | some o => cases o with
    | none => simp [hl] at h
    | some row' => simp [hl] at h; subst h; exact look_mem hl
theorem Weak.rel {S S' : St} (hw : Weak S S') (hn0 : w0.n0 ≤ S'.nx) {ρ : Nat → Value} {a : Act} {w : World} (hT : RelT w0 ρ S.T S.nx S.nt a) (hC : RelC w0 ρ S.m S.nx w) : RelT w0 ρ S'.T S'.nx S'.nt a ∧ RelC w0 ρ S'.m S'.nx w := by
  refine ⟨⟨fun t x hx => ?_, by rw [hw.nt]; exact hT.size, hT.defers⟩, ⟨fun id row hr => ?_, fun id id' r r' hr hr' hne => ?_, hC.below, ⟨hn0, hC.pin.2⟩, hC.kept.1, hC.kept.2.1, fun id r hr => hC.kept.2.2 id r (hw.m.get id r (mem_in hr)).1⟩⟩
  · obtain ⟨h1, h2⟩ := hw.T.get t x (look_mem hx)
    exact (hT.tmps t x h1).less x h2
  · obtain ⟨h1, h2, h3⟩ := hw.m.get id row (mem_in hr)
    obtain ⟨_, h4⟩ := hC.rows id row h1
    refine ⟨h2, ?_⟩
    cases row with
    | box cs =>
      obtain ⟨b, cur, ty, e1, e2, e3, e4, e5⟩ := h4
      exact ⟨b, cur, ty, e1, e2, e3, RelVs.less cs h3 e4, e5⟩
    | row e sz ys => exact h4
    | byt bs => exact h4
    | spare _ _ _ _ => exact h4
  · exact hC.apart id id' r r' (hw.m.get id r (mem_in hr)).1 (hw.m.get id' r' (mem_in hr')).1 hne

theorem W_weak {c : Code} {S S' : St} (hw : Weak S S') (hnx : S'.nx = S.nx) (h : W P w0 c S' Q) : W P w0 c S Q :=
  fun ρ a w hT hC => let ⟨h1, h2⟩ := hw.rel (hnx ▸ hC.pin.1) hT hC; h ρ a w h1 h2

/-- A LOOP: at the head of each round the state is 'st x' for some x; every round lowers the measure. -/
theorem W_loop {α : Type} (st : α → St) (inv : α → Prop) (μ : α → Nat) {c : Code} {S : St} (x0 : α) (h0 : inv x0) (hw : Weak S (st x0)) (hnx : ∀ x, (st x).nx = S.nx)
    (round : ∀ x, inv x → W P w0 c (st x) (sq (fun S' => ∃ x', inv x' ∧ Weak S' (st x') ∧ μ x' < μ x) Q)) : W P w0 (.loop c) S Q := by
  intro ρ a w hT hC
  have hp : ∀ x, w0.n0 ≤ (st x).nx := fun x => by rw [hnx x]; exact hC.pin.1
  obtain ⟨h1, h2⟩ := hw.rel (hp _) hT hC
  refine wp_loop_ghost (fun n a w => ∃ x, inv x ∧ μ x = n ∧ ∃ ρ, RelT w0 ρ (st x).T (st x).nx (st x).nt a ∧ RelC w0 ρ (st x).m (st x).nx w) (μ x0) ⟨x0, h0, rfl, ρ, h1, h2⟩ ?_
  rintro n a w ⟨x, hi, rfl, ρ, hT, hC⟩
  refine wp_mono (round x hi ρ a w hT hC) ?_
  rintro e a w ⟨ρ', S', hq, hT', hC'⟩
  cases e
  case normal =>
    obtain ⟨x', hi', hw', hlt⟩ := hq
    obtain ⟨g1, g2⟩ := hw'.rel (hp _) hT' hC'
    exact ⟨μ x', hlt, x', hi', rfl, ρ', g1, g2⟩
  all_goals exact ⟨ρ', S', hq, hT', hC'⟩

/-! the end of a function -/
def getR (tb : List (Nat × TyI)) (S : St) : ResultVar → Option AV
  | .tmp t => look t S.T
  | .cell p ty => match look p S.T with
    | some (.ptr id off) => match mem S.m id with
      | some (.box cs) => match look ty tb with
        | some (.struct _ zs) => match takeR zs.length (dropN off cs) [] with
          | some rs => some (.agg rs)
          | none => none
        | some _ => nth cs off
        | none => none
      | _ => none
    | _ => none
def getRs (tb : List (Nat × TyI)) (S : St) : List ResultVar → List AV → Option (List AV)
  | [], acc => revO acc []
  | x :: r, acc => match getR tb S x with
    | some a => getRs tb S r (a :: acc)
    | none => none
def toVal : AV → Option Value
  | .v x => some x
  | .agg cs => match vaR cs [] with
    | some xs => some (.agg ⟨xs⟩)
    | none => none
  | _ => none
def RCOK (m : List (Nat × Option Row)) : AV → RC → Prop
  | x, .v u => toVal x = some u
  | .own id, .fr e sz ys => mem m id = some (.row e sz ys)
  | .v x, .fr _ _ ys => x = .slice none 0 0 ∧ ys = []
  | _, _ => False
def RCOKs (m : List (Nat × Option Row)) : List AV → List RC → Prop
  | [], [] => True
  | x :: xs, r :: rs => RCOK m x r ∧ RCOKs m xs rs
  | _, _ => False
def ownIds : List AV → List Nat → List Nat
  | [], acc => acc
  | .own i :: r, acc => ownIds r (i :: acc)
  | _ :: r, acc => ownIds r acc
def loneB : List AV → Bool
  | [] => true
  | .v x :: r => (blk x).isNone && loneB r
  | _ :: r => loneB r
def nodupB : List Nat → Bool
  | [] => true
  | x :: r => !has x r && nodupB r
def ResOK (m : List (Nat × Option Row)) (avs : List AV) : Res → Prop
  | .one r => ∃ x, avs = [x] ∧ RCOK m x r
  | .many rs => RCOKs m avs rs ∧ Nat.beq avs.length 1 = false ∧ nodupB (ownIds avs []) = true ∧ loneB avs = true
def Fin (tb : List (Nat × TyI)) (rs : List ResultVar) (res : Res) : Exit → St → Prop
  | .ret, S => ∃ avs, getRs tb S rs [] = some avs ∧ ResOK S.m avs res
  | .normal, S => ∃ avs, getRs tb S rs [] = some avs ∧ ResOK S.m avs res
  | _, _ => False

def resSem (tmps : Array Value) : ResultVar → Sem Value
  | .tmp t => pure (tmps.getD t undef)
  | .cell a t => do loadVar t (← asAddr (tmps.getD a undef))

theorem getR_spec (G : Good P tb) {S : St} {ρ : Nat → Value} {a : Act} {w : World} (hT : RelT w0 ρ S.T S.nx S.nt a) (hC : RelC w0 ρ S.m S.nx w) {x : ResultVar} {r : AV} (h : getR tb S x = some r) : ∃ y, RelV w0 ρ S.nx r y ∧ (resSem a.tmps x).run P w = .ok y w := by
  cases x with
  | tmp t => exact ⟨_, hT.tmps t r h, rfl⟩
  | cell p ty =>
    simp only [getR] at h
    cases h1 : look p S.T with
    | none => simp [h1] at h
    | some av =>
      cases av <;> simp only [h1] at h <;> try cases h
      rename_i id off
      cases h2 : mem S.m id with
      | none => simp [h2] at h
      | some row =>
        cases row with
        | row _ _ _ => simp [h2] at h
        | byt _ => simp [h2] at h
        | spare _ _ _ _ => simp [h2] at h
        | box cs =>
          simp only [h2] at h
          cases h3 : look ty tb with
          | none => simp [h3] at h
          | some i =>
            have hp := hT.tmps p _ h1
            simp only [RelV] at hp
            obtain ⟨_, g, hg, he⟩ := hp
            obtain ⟨b, cur, ty', hρ, _, hb, hR, _⟩ := hC.box h2
            rw [hg] at hρ
            simp at hρ
            subst hρ
            have flat : ∀ (hf : flatB i = true) (hr : nth cs off = some r), ∃ y, RelV w0 ρ S.nx r y ∧ (resSem a.tmps (.cell p ty)).run P w = .ok y w := by
              intro hf hr
              rw [nth_eq] at hr
              obtain ⟨u, hu, h4⟩ := RelVs.get _ hR off r hr
              refine ⟨u, h4, ?_⟩
              have hc : w.cell? ⟨g, off, none⟩ = some u := by rw [heap_cell hb, hu]
              simp only [resSem, he, asAddr, Sem.run_bind, Sem.run_pure, Result.andThen_ok, loadVar, (G ty i h3).run_isAgg w, hf, Bool.not_true, Bool.false_eq_true, if_false, run_load, hc]
            cases i with
            | flat fk z => simp only [h3] at h; exact flat rfl h
            | slice e sz by_ zs => simp only [h3] at h; exact flat rfl h
            | struct fs zs =>
              simp only [h3] at h
              cases h4 : takeR zs.length (dropN off cs) [] with
              | none => simp [h4] at h
              | some rs =>
                simp only [h4, Option.some.injEq] at h
                subst h
                obtain ⟨hrs, hlen⟩ := takeR_spec _ _ _ _ h4
                rw [dropN_eq] at hrs hlen
                simp at hrs
                have hR2 : RelVs w0 ρ S.nx rs ((cur.toList.drop off).take zs.length) := by rw [hrs]; exact (RelVs.drop off _ hR).take _ _
                have hl := RelVs.length _ hR2
                have hl2 : rs.length = zs.length := by rw [hrs, List.length_take]; omega
                have := run_load_struct (G ty _ h3) (w := w) (p := ⟨g, off, none⟩) (us := (cur.toList.drop off).take zs.length) (by rw [hl, hl2]) (fun j u hj => by
                  rw [Addr.add_lit, heap_cell hb]
                  rw [List.getElem?_take] at hj
                  split at hj
                  · rw [List.getElem?_drop] at hj; exact hj
                  · cases hj)
                refine ⟨_, by simp only [RelV]; exact ⟨_, rfl, hR2⟩, ?_⟩
                simp only [Instr.loadAt, Instr.sureAddr, Sem.run_bind, Sem.run_pure, Result.andThen_ok] at this
                simp only [resSem, he, asAddr, Sem.run_bind, Sem.run_pure, Result.andThen_ok]
                exact this

theorem getRs_spec (G : Good P tb) {S : St} {ρ : Nat → Value} {a : Act} {w : World} (hT : RelT w0 ρ S.T S.nx S.nt a) (hC : RelC w0 ρ S.m S.nx w) : ∀ {xs : List ResultVar} {acc rs : List AV}, getRs tb S xs acc = some rs →
    ∃ ys avs, rs = acc.reverse ++ avs ∧ RelVs w0 ρ S.nx avs ys ∧ (xs.mapM (resSem a.tmps)).run P w = .ok ys w
  | [], acc, rs, h => by simp [getRs, revO_eq] at h; exact ⟨[], [], by simp [h], by simp [RelVs], rfl⟩
  | x :: xs, acc, rs, h => by
    simp only [getRs] at h
    cases h1 : getR tb S x with
    | none => simp [h1] at h
    | some av =>
      simp only [h1] at h
      obtain ⟨y, h2, h3⟩ := getR_spec G hT hC h1
      obtain ⟨ys, avs, e1, e2, e3⟩ := getRs_spec G hT hC h
      refine ⟨y :: ys, av :: avs, by simp [e1], by simp only [RelVs]; exact ⟨_, _, rfl, h2, e2⟩, ?_⟩
      simp [List.mapM_cons, h3, e3]

theorem toVal_spec {ρ : Nat → Value} {x : AV} {u y : Value} (h : toVal x = some u) (hy : RelV w0 ρ nx x y) : y = u := by
  cases x <;> simp only [toVal] at h <;> try cases h
  case v.refl => simpa only [RelV] using hy
  case agg cs =>
    cases hv : vaR cs [] with
    | none => simp [hv] at h
    | some xs =>
      simp [hv] at h
      obtain ⟨xs', h1, h2⟩ := vaR_spec _ _ _ hv
      simp at h2
      subst h2
      simp only [RelV] at hy
      obtain ⟨ys, rfl, h3⟩ := hy
      rw [h1] at h3
      rw [RelVs.map_v_eq _ h3, ← h]

theorem RCOK.rel {ρ : Nat → Value} {w : World} (hC : RelC w0 ρ m nx w) {x : AV} {c : RC} (h : RCOK m x c) {y : Value} (hy : RelV w0 ρ nx x y) : RCRel w0.w.heap.size w c y := by
  cases c with
  | v u =>
    have h' : toVal x = some u := by cases x <;> exact h
    simp only [RCRel]
    exact toVal_spec h' hy
  | fr e sz ys =>
    cases x <;> simp only [RCOK] at h
    case own id =>
      simp only [RelV] at hy
      rw [hy.2]
      exact hC.row h
    case v x =>
      obtain ⟨rfl, rfl⟩ := h
      simp only [RelV] at hy
      subst hy
      exact ⟨World.ownsRow_nil _ _ _ _, by simp⟩

theorem ownIds_eq : ∀ (l : List AV) (acc : List Nat), ∀ i, i ∈ ownIds l acc ↔ i ∈ acc ∨ .own i ∈ l
  | [], acc, i => by simp [ownIds]
  | x :: r, acc, i => by
    cases x <;> simp only [ownIds] <;> rw [ownIds_eq r] <;> simp
    rename_i j
    constructor
    · rintro ((h | h) | h)
      · exact .inr (.inl h)
      · exact .inl h
      · exact .inr (.inr h)
    · rintro (h | h | h)
      · exact .inl (.inr h)
      · exact .inl (.inl h)
      · exact .inr h
theorem nodup_tail : ∀ (l : List AV) (acc : List Nat), nodupB (ownIds l acc) = true → nodupB acc = true
  | [], acc, h => h
  | x :: r, acc, h => by
    cases x <;> simp only [ownIds] at h
    case own i =>
      have := nodup_tail r (i :: acc) h
      simp only [nodupB, Bool.and_eq_true] at this
      exact this.2
    all_goals exact nodup_tail r acc h
theorem nodup_notin : ∀ (l : List AV) (acc : List Nat), nodupB (ownIds l acc) = true → ∀ i ∈ acc, AV.own i ∉ l
  | [], _, _, _, _ => by simp
  | x :: r, acc, h, i, hi => by
    cases x <;> simp only [ownIds] at h
    case own j =>
      have h1 := nodup_tail r (j :: acc) h
      simp only [nodupB, Bool.and_eq_true, Bool.not_eq_true'] at h1
      have h2 := nodup_notin r (j :: acc) h i (by simp [hi])
      intro hm
      rcases List.mem_cons.1 hm with e | hm
      · cases e
        exact has_false h1.1 i hi rfl
      · exact h2 hm
    all_goals
      have h2 := nodup_notin r acc h i hi
      intro hm
      rcases List.mem_cons.1 hm with e | hm
      · cases e
      · exact h2 hm

theorem RCOKs.others {ρ : Nat → Value} {w : World} (hC : RelC w0 ρ m nx w) {id : Nat} {row : Row} (hm : mem m id = some row) {b : Nat} (hb : blk (ρ id) = some b) : ∀ {xs : List AV} {rs : List RC}, RCOKs m xs rs → loneB xs = true → AV.own id ∉ xs → ∀ {ys : List Value}, RelVs w0 ρ nx xs ys → ∀ y' ∈ ys, blk y' ≠ some b
  | [], [], _, _, _, _, hy => by simp only [RelVs] at hy; subst hy; simp
  | [], _ :: _, h, _, _, _, _ => h.elim
  | _ :: _, [], h, _, _, _, _ => h.elim
  | x :: xs, r :: rs, h, hl, hni, _, hy => by
    simp only [RelVs] at hy
    obtain ⟨y, ys, rfl, h1, h2⟩ := hy
    have hl2 : loneB xs = true := by
      cases x <;> simp only [loneB] at hl
      case v x => simp only [Bool.and_eq_true] at hl; exact hl.2
      all_goals exact hl
    have ih := RCOKs.others hC hm hb h.2 hl2 (fun hh => hni (List.mem_cons_of_mem _ hh)) h2
    intro y' hy'
    rcases List.mem_cons.1 hy' with rfl | hy'
    · have hx := h.1
      cases x
      case own i =>
        simp only [RelV] at h1
        have hne : i ≠ id := fun e => hni (by rw [e]; simp)
        cases r with
        | v u => simp [RCOK, toVal] at hx
        | fr e sz ys' =>
          simp only [RCOK] at hx
          rw [h1.2]
          intro hb'
          exact hC.apart i id _ _ hx hm hne b hb' hb
      case v x =>
        simp only [RelV] at h1
        subst h1
        simp only [loneB, Bool.and_eq_true, Option.isNone_iff_eq_none] at hl
        rw [hl.1]
        simp
      case agg cs =>
        simp only [RelV] at h1
        obtain ⟨_, rfl, _⟩ := h1
        simp [blk]
      all_goals (cases r <;> simp [RCOK, toVal] at hx)
    · exact ih y' hy'

theorem RCOKs.rel {ρ : Nat → Value} {w : World} (hC : RelC w0 ρ m nx w) : ∀ {xs : List AV} {rs : List RC} {acc : List Nat}, RCOKs m xs rs → loneB xs = true → nodupB (ownIds xs acc) = true → ∀ {ys : List Value}, RelVs w0 ρ nx xs ys → RCRels w0.w.heap.size w rs ys
  | [], [], _, _, _, _, _, hy => hy
  | [], _ :: _, _, h, _, _, _, _ => h.elim
  | _ :: _, [], _, h, _, _, _, _ => h.elim
  | x :: xs, r :: rs, acc, h, hl, hn, _, hy => by
    simp only [RelVs] at hy
    obtain ⟨y, ys, rfl, h1, h2⟩ := hy
    simp only [RCRels]
    have hl2 : loneB xs = true := by
      cases x <;> simp only [loneB] at hl
      case v x => simp only [Bool.and_eq_true] at hl; exact hl.2
      all_goals exact hl
    have hn' : ∃ acc', nodupB (ownIds xs acc') = true ∧ (∀ i, x = .own i → i ∈ acc') := by
      cases x <;> simp only [ownIds] at hn
      case own i => exact ⟨_, hn, fun j hj => by cases hj; simp⟩
      all_goals exact ⟨_, hn, fun j hj => by cases hj⟩
    obtain ⟨acc', hn1, hn2⟩ := hn'
    refine ⟨y, ys, rfl, h.1.rel hC h1, RCOKs.rel hC h.2 hl2 hn1 h2, ?_⟩
    cases r with
    | v u => trivial
    | fr e sz zs =>
      intro y' hy' b hb
      have hx := h.1
      cases x <;> simp only [RCOK] at hx
      case own id =>
        simp only [RelV] at h1
        rw [h1.2] at hb
        exact RCOKs.others hC hx hb h.2 hl2 (nodup_notin xs acc' hn1 id (hn2 id rfl)) h2 y' hy'
      case v x =>
        obtain ⟨rfl, _⟩ := hx
        simp only [RelV] at h1
        subst h1
        simp [blk] at hb

/-! the beginning -/
def argT : List AV → Nat → List (Nat × AV)
  | [], _ => []
  | a :: as, k => (k, a) :: argT as (Nat.succ k)
theorem argT_spec {w0 : World} {ρ : Nat → Value} : ∀ {as : List AV} {vs : List Value} {k : Nat}, RelVs w0 ρ nx as vs → ∀ t x, look t (argT as k) = some x → ∃ u, k ≤ t ∧ vs[t - k]? = some u ∧ RelV w0 ρ nx x u
  | [], _, _, _, _, _, h => by simp [argT, look] at h
  | a :: as, _, k, hr, t, x, h => by
    simp only [RelVs] at hr
    obtain ⟨y, ys, rfl, h1, h2⟩ := hr
    by_cases e : k = t
    · subst e
      simp only [argT] at h
      rw [look_cons_same] at h
      cases h
      exact ⟨y, Nat.le_refl _, by simp, h1⟩
    · simp only [argT] at h
      rw [look_cons_other e] at h
      obtain ⟨u, g1, g2, g3⟩ := argT_spec h2 t x h
      refine ⟨u, by omega, ?_, g3⟩
      rw [show t - k = (t - (k + 1)) + 1 by omega]
      simpa using g2

mutual
theorem RelV.outer {w : World} {ρ : Nat → Value} : ∀ (x : AV) {y : Value}, RelV w noRho 0 x y → RelV w ρ 0 x y
  | x, _, h => h.mono (Nat.le_refl _) (fun i hi => by omega)
end
theorem RelVs.outer {w : World} {ρ : Nat → Value} (x : List AV) {y : List Value} (h : RelVs w noRho 0 x y) : RelVs w ρ 0 x y := RelVs.mono (Nat.le_refl _) (fun i hi => by omega) x h

theorem results_run {fn : Func} {l : List ResultVar} (hl : fn.results = l.toArray) {tmps : Array Value} {ys : List Value} {w : World} (h : (l.mapM (resSem tmps)).run P w = .ok ys w) :
    (results fn tmps).run P w = .ok (if h : ys.toArray.size = 1 then ys.toArray[0] else .tuple ys.toArray) w := by
  have he : results fn tmps = (do let vs ← fn.results.mapM (resSem tmps); pure (if h : vs.size = 1 then vs[0] else .tuple vs)) := rfl
  rw [he, hl, List.mapM_toArray]
  simp only [Sem.run_bind, Sem.run_map, h, Result.andThen_ok, Sem.run_pure]

/-- FROM THE TRIPLE OF A BODY TO THE CONTRACT. -/
theorem Ctr.of (G : Good P tb) {f : FuncId} {fn : Func} {c : Code} {args : List AV} {res : Res} {l : List ResultVar} {n : Nat} (hf : P.funcs[f]? = some fn) (hb : fn.body = some c) (hname : (fn.name == "runtime.NumGoroutine") = false) (hl : fn.results = l.toArray) (hn : fn.ntmps = n)
    (hlen : Nat.ble args.length n = true) (h : ∀ w0 : Base, [NoPin w0] → [EnvAt P w0] → W P w0 c ⟨argT args 0, [], 0, n⟩ (Fin tb l res)) : Ctr P f args res := by
  refine ⟨⟨fn, hf, hname, by rw [hb]; rfl⟩, fun w vs henv hrel => ?_⟩
  have hlen' : args.length ≤ n := Nat.le_of_ble_eq_true hlen
  have hvl := RelVs.length _ hrel
  refine calls_of_wp hf hb ?_
  let b0 : Base := ⟨w, 0, noRho, w, fun _ => False, fun _ h => h.elim, Env.E P, fun w' hb => Env.mono henv hb⟩
  have hC : RelC b0 noRho [] 0 w := ⟨fun id r hr => by simp [mem, look] at hr, fun id id' r r' hr => by simp [mem, look] at hr, Below.refl _ _, ⟨Nat.le_refl _, fun i hi => by cases hi⟩, Nat.le_refl _, fun b h => h.elim, fun id r hr => by simp [mem, look] at hr⟩
  have hnp : NoPin b0 := ⟨rfl⟩
  have hen : EnvAt P b0 := ⟨rfl⟩
  have hT : RelT w noRho (argT args 0) 0 n { tmps := vs.toArray ++ Array.replicate (fn.ntmps - vs.toArray.size) undef, defers := [] } := by
    refine ⟨fun t x hx => ?_, by simp [hn]; omega, rfl⟩
    obtain ⟨u, _, h2, h3⟩ := argT_spec hrel t x hx
    have hlt : t < vs.length := by
      rcases Nat.lt_or_ge t vs.length with hlt | hge
      · exact hlt
      · rw [Nat.sub_zero, List.getElem?_eq_none hge] at h2; cases h2
    have : (vs.toArray ++ Array.replicate (fn.ntmps - vs.toArray.size) undef).getD t undef = u := by
      rw [Array.getD_eq_getD_getElem?, Array.getElem?_append_left (by simpa using hlt)]
      simp only [Nat.sub_zero] at h2
      simp [h2]
    rw [this]
    exact h3
  refine wp_mono (h b0 noRho _ w hT hC) ?_
  have fin : ∀ (ρ : Nat → Value) (S : St) (a : Act) (w' : World) (avs : List AV), getRs tb S l [] = some avs → ResOK S.m avs res → RelT w ρ S.T S.nx S.nt a → RelC b0 ρ S.m S.nx w' →
      a.defers = [] ∧ ∃ v, (results fn a.tmps).run P w' = .ok v w' ∧ ∃ u, Ending.returned v = .returned u ∧ ResRel w.heap.size w' res u ∧ Below w.heap.size w w' := by
    intro ρ S a w' avs h1 h2 hT' hC'
    obtain ⟨ys, avs', e1, e2, e3⟩ := getRs_spec G hT' hC' h1
    simp at e1
    subst e1
    refine ⟨hT'.defers, _, results_run hl e3, _, rfl, ?_, hC'.below⟩
    have hyl := RelVs.length _ e2
    cases res with
    | one r =>
      obtain ⟨x, rfl, hx⟩ := h2
      simp only [RelVs] at e2
      obtain ⟨y, _, rfl, g1, rfl⟩ := e2
      simpa [ResRel] using hx.rel hC' g1
    | many rs =>
      obtain ⟨h3, h4, h5, h6⟩ := h2
      have hne : ¬ ys.length = 1 := by rw [hyl]; exact beq_ne h4
      simp only [ResRel]
      exact ⟨ys, by simp [hne], RCOKs.rel hC' h3 h6 h5 e2⟩
  rintro e a w' ⟨ρ, S, hq, hT', hC'⟩
  cases e <;> simp only [Fin] at hq
  case normal => obtain ⟨avs, h1, h2⟩ := hq; exact fin ρ S a w' avs h1 h2 hT' hC'
  case ret => obtain ⟨avs, h1, h2⟩ := hq; exact fin ρ S a w' avs h1 h2 hT' hC'
end
end Go.Rf
