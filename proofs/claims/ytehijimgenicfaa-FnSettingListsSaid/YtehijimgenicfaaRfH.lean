/- Values that are built, ends of functions in one word, cuts of a walk, structs that are compared. -/
import Derived.Test.YtehijimgenicfaaRfG
set_option linter.unusedVariables false
set_option linter.unusedSectionVars false
set_option linter.unusedSimpArgs false
namespace Go.Rf
open Go Go.RowKit

section
variable {P : Program} [Env P] {w0 : Base} {ops : Array Oper} {tb : List (Nat × TyI)} {o : Oper} {rest : List Oper} {T : List (Nat × AV)} {m : List (Nat × Option Row)} {nx nt d : Nat} {r : AV} {Q : Exit → St → Prop}

/-! a struct that is built -/
def bldA (tb : List (Nat × TyI)) (m : List (Nat × Option Row)) (T : List (Nat × AV)) (fs : List (Nat × Nat)) : List (Nat × Operand) → List AV → Option (List AV)
  | [], cs => some cs
  | (k, x) :: r, cs => match nth fs k with
    | some (off, ft) => match look ft tb, ev T x with
      | some i, some av => match cellsOf av with
        | some vs => bif (Nat.beq vs.length (sizeI i) && Nat.ble (off + vs.length) cs.length) && oneAs m vs then (match setO cs off vs [] with | some cs' => bldA tb m T fs r cs' | none => none) else none
        | none => none
      | _, _ => none
    | none => none

theorem foldl_set (off : Nat) : ∀ (l : List Value) (j : Nat) (cs : Array Value), off + j + l.length ≤ cs.size → (l.zipIdx j).foldl (fun cs (p : Value × Nat) => cs.setIfInBounds (off + p.2) p.1) cs = (cs.toList.take (off + j) ++ l ++ cs.toList.drop (off + j + l.length)).toArray
  | [], j, cs, _ => by simp
  | x :: l, j, cs, h => by
    simp only [List.length_cons] at h
    simp only [List.zipIdx_cons, List.foldl_cons]
    rw [foldl_set off l (j + 1) _ (by simp; omega)]
    congr 1
    have h2 : off + j < cs.size := by omega
    rw [Array.toList_setIfInBounds]
    have e1 : (cs.toList.set (off + j) x).take (off + (j + 1)) = cs.toList.take (off + j) ++ [x] := by
      rw [show off + (j + 1) = off + j + 1 by omega, List.take_succ_eq_append_getElem (by simpa using h2)]
      have : (cs.toList.set (off + j) x).take (off + j) = cs.toList.take (off + j) := by
        rw [List.take_set]
        exact List.set_eq_of_length_le (by rw [List.length_take]; omega)
      simp [this]
    rw [e1, List.drop_set_of_lt (by omega)]
    simp
    congr 1
    omega

theorem bldA_spec (G : Good P tb) {ρ : Nat → Value} {a : Act} {w : World} (hT : RelT w0 ρ T nx nt a) (hC : RelC w0 ρ m nx w) {fields : Array Field} {fs : List (Nat × Nat)}
    (hf : ∀ (k off ft : Nat), fs[k]? = some (off, ft) → ∃ (f : Field) (j : TypeInfo), fields[k]? = some f ∧ f.offset = off ∧ f.type = ft ∧ P.info? ft = some j ∧ j.size ≠ 0) {places : Array (Nat × Nat)} (hp : ∀ (k : Nat) (f : Field) (j : TypeInfo), fields[k]? = some f → P.info? f.type = some j → places[k]? = some (f.offset, j.size)) :
    ∀ {ps : List (Nat × Operand)} {cs rs : List AV}, bldA tb m T fs ps cs = some rs → ∀ (cells : Array Value), RelVs w0 ρ nx cs cells.toList →
    ∃ out : Array Value, Instr.fill (places[·]?) cells (ps.map fun p => (p.1, a.eval p.2)) = some out ∧ RelVs w0 ρ nx rs out.toList
  | [], cs, rs, h, cells, hr => by simp [bldA] at h; subst h; exact ⟨cells, rfl, hr⟩
  | (k, x) :: ps, cs, rs, h, cells, hr => by
    simp only [bldA] at h
    cases h1 : nth fs k with
    | none => simp [h1] at h
    | some p =>
      obtain ⟨off, ft⟩ := p
      simp only [h1] at h
      cases h2 : look ft tb with
      | none => simp [h2] at h
      | some i =>
        cases h3 : ev T x with
        | none => simp [h2, h3] at h
        | some av =>
          simp only [h2, h3] at h
          cases h4 : cellsOf av with
          | none => simp [h4] at h
          | some vs =>
            simp only [h4] at h
            cases h5 : ((Nat.beq vs.length (sizeI i) && Nat.ble (off + vs.length) cs.length) && oneAs m vs) with
            | false => simp [h5] at h
            | true =>
              simp only [h5, cond_true, setO_eq] at h
              simp only [Bool.and_eq_true] at h5
              have hl : vs.length = sizeI i := Nat.eq_of_beq_eq_true h5.1.1
              have hfit : off + vs.length ≤ cs.length := Nat.le_of_ble_eq_true h5.1.2
              rw [nth_eq] at h1
              obtain ⟨f, j, g1, g2, g3, g4, g5⟩ := hf k off ft h1
              subst g2; subst g3
              have hplace := hp k f j g1 g4
              have hsz : j.size = sizeI i := by
                have := (G _ _ h2).run_sizeOf w
                simp [sizeOf, typeInfo, g4] at this
                exact this
              have hR := (cells_rel hC h4 h5.2 (hT.ev h3)).1
              have hvl := RelVs.length _ hR
              have hcl := RelVs.length _ hr
              simp at hvl hcl
              have hfold := foldl_set f.offset (a.eval x).cells.toList 0 cells (by simp; omega)
              have hfold2 : (a.eval x).cells.zipIdx.foldl (fun cs (p : Value × Nat) => cs.setIfInBounds (f.offset + p.2) p.1) cells = (cells.toList.take f.offset ++ (a.eval x).cells.toList ++ cells.toList.drop (f.offset + vs.length)).toArray := by
                rw [← Array.foldl_toList]
                have e : (a.eval x).cells.zipIdx.toList = (a.eval x).cells.toList.zipIdx 0 := by simp
                rw [e, hfold]
                simp [hvl]
              have hfold3 : (a.eval x).cells.zipIdx.foldl (fun cs (p : Value × Nat) => match p with | (c, j) => cs.setIfInBounds (f.offset + j) c) cells = (cells.toList.take f.offset ++ (a.eval x).cells.toList ++ cells.toList.drop (f.offset + vs.length)).toArray := hfold2
              obtain ⟨out, e1, e2⟩ := bldA_spec G hT hC hf hp h (cells.toList.take f.offset ++ (a.eval x).cells.toList ++ cells.toList.drop (f.offset + vs.length)).toArray (by
                rw [setN_eq _ _ _ _ hfit]
                simp only [List.reverse_nil, List.nil_append]
                exact RelVs.append _ (RelVs.append _ (RelVs.take _ _ hr) hR) (RelVs.drop _ _ hr))
              refine ⟨out, ?_, e2⟩
              simp only [List.map_cons, Instr.fill, hplace]
              rw [if_neg (by simp [hvl, hl, hsz]; omega), hfold3]
              exact e1

theorem run_places {fields : Array Field} {w : World} (hall : ∀ f ∈ fields.toList, ∃ j, P.info? f.type = some j) : ∃ places : Array (Nat × Nat), ((fields.mapM fun f => do pure (f.offset, ← sizeOf f.type) : Sem (Array (Nat × Nat)))).run P w = .ok places w ∧
    ∀ (k : Nat) (f : Field) (j : TypeInfo), fields[k]? = some f → P.info? f.type = some j → places[k]? = some (f.offset, j.size) := by
  obtain ⟨l⟩ := fields
  have key : ∀ (l : List Field), (∀ f ∈ l, ∃ j, P.info? f.type = some j) → ∃ ps : List (Nat × Nat), ((l.mapM fun f => do pure (f.offset, ← sizeOf f.type) : Sem (List (Nat × Nat)))).run P w = .ok ps w ∧ ∀ (k : Nat) (f : Field) (j : TypeInfo), l[k]? = some f → P.info? f.type = some j → ps[k]? = some (f.offset, j.size) := by
    intro l
    induction l with
    | nil => intro _; exact ⟨[], by simp, by simp⟩
    | cons f l ih =>
      intro h
      obtain ⟨j, hj⟩ := h f (by simp)
      obtain ⟨ps, h1, h2⟩ := ih (fun f hf => h f (by simp [hf]))
      refine ⟨(f.offset, j.size) :: ps, ?_, ?_⟩
      · simp [List.mapM_cons, sizeOf, typeInfo, hj] at h1 ⊢
        rw [h1]
        rfl
      · intro k f' j' hk hj'
        match k with
        | 0 => simp at hk; subst hk; rw [hj] at hj'; cases hj'; rfl
        | k + 1 => simp at hk; simpa using h2 k f' j' hk hj'
  obtain ⟨ps, h1, h2⟩ := key l hall
  refine ⟨ps.toArray, ?_, by simpa using h2⟩
  rw [List.mapM_toArray]
  simp only [Sem.run_map, h1, Result.andThen_ok]

theorem q_build {t : TypeId} {ps : Array (Nat × Operand)} {fs : List (Nat × Nat)} {zs : List Value} {rs : List AV} (G : Good P tb) (ho : o.op = .build t ps) (ht : look t tb = some (.struct fs zs)) (hb : bldA tb m T fs ps.toList (avR zs []) = some rs) (hd : detAs rs = true) : QStep P o T m nx nt (.agg rs) :=
  QStep.run fun w0 ρ a w hT hC => by
    obtain ⟨fields, i, hu, hi, hsz, hz, _, hlen, hf⟩ := G t _ ht
    have hall : ∀ f ∈ fields.toList, ∃ j, P.info? f.type = some j := by
      intro f hm
      obtain ⟨k, hk, rfl⟩ := List.getElem_of_mem hm
      have hk' : k < fs.length := by rw [hlen]; simpa using hk
      obtain ⟨f', j, g1, _, g3, g4, _⟩ := hf k fs[k].1 fs[k].2 (by rw [List.getElem?_eq_getElem hk'])
      have : fields[k]? = some (fields.toList[k]) := by simp at hk; simp [hk]
      rw [this] at g1
      cases g1
      exact ⟨j, by rw [g3]; exact g4⟩
    have key : ∀ w', RelC w0 ρ m nx w' → ∃ ys : List Value, RelVs w0 ρ nx rs ys ∧ (execOp a.eval o).run P w' = .ok (.value (.agg ys.toArray)) w' := by
      intro w' hC'
      obtain ⟨places, hp1, hp2⟩ := run_places (P := P) (w := w') hall
      obtain ⟨out, e1, e2⟩ := bldA_spec G hT hC' hf hp2 hb zs.toArray (by simpa [avR_eq] using RelVs.map_v zs)
      refine ⟨out.toList, e2, ?_⟩
      have hps : (ps.map fun (p : Nat × Operand) => (p.1, a.eval p.2)).toList = ps.toList.map fun p => (p.1, a.eval p.2) := by simp
      have hps' : (Array.map (fun x => match x with | (i, x) => (i, a.eval x)) ps).toList = ps.toList.map fun p => (p.1, a.eval p.2) := hps
      simp only [execOp, ho, Instr.build, Sem.run_bind, zeroValue, typeInfo, run_program, Result.andThen_ok, hi, Sem.run_pure, hz, run_underlying hu, hp1, Value.cells, hps', e1]
    obtain ⟨ys, h1, h2⟩ := key w hC
    refine ⟨.agg ys.toArray, by simp only [RelV]; exact ⟨ys, rfl, h1⟩, fun w' hC' => ?_⟩
    obtain ⟨ys', h1', h2'⟩ := key w' hC'
    rw [detAs_eq hd h1 h1'] at h2'
    exact h2'

/-! ends of functions -/
theorem fin_one {rs : List ResultVar} {S : St} {x : AV} {c : RC} (h : getRs tb S rs [] = some [x]) (hx : RCOK S.m x c) : Fin tb rs (.one c) .ret S := ⟨_, h, x, rfl, hx⟩
theorem fin_many {rs : List ResultVar} {S : St} {xs : List AV} {cs : List RC} (h : getRs tb S rs [] = some xs) (hl : Nat.beq xs.length 1 = false) (hn : nodupB (ownIds xs []) = true) (ho : loneB xs = true) (hx : RCOKs S.m xs cs) : Fin tb rs (.many cs) .ret S := ⟨_, h, hx, hl, hn, ho⟩
theorem rc_v {x u : Value} (h : x = u) : RCOK m (.v x) (.v u) := by subst h; rfl
theorem rc_agg {cs : List AV} {xs : List Value} {u : Value} (h : vaR cs [] = some xs) (hu : .agg ⟨xs⟩ = u) : RCOK m (.agg cs) (.v u) := by
  show toVal (.agg cs) = some u
  simp only [toVal, h]
  rw [hu]
theorem rc_own {id e sz : Nat} {ys ys' : List (List Value)} (h : mem m id = some (.row e sz ys')) (hy : ys' = ys) : RCOK m (.own id) (.fr e sz ys) := by subst hy; exact h
theorem rc_nil {e sz : Nat} {ys : List (List Value)} (h : [] = ys) : RCOK m (.v (.slice none 0 0)) (.fr e sz ys) := ⟨rfl, h.symm⟩
theorem rcs_nil : RCOKs m [] [] := trivial
theorem rcs_cons {x : AV} {xs : List AV} {r : RC} {rs : List RC} (h : RCOK m x r) (h' : RCOKs m xs rs) : RCOKs m (x :: xs) (r :: rs) := ⟨h, h'⟩

/-! a length in another spelling; an element of a list that is a map -/
theorem q_len' {x : Operand} {t e sz by_ n n' : Nat} {zs : List Value} {ax : AV} (G : Good P tb) (ho : o.op = .call { callee := .builtin .len, args := #[x], argTypes := #[t] }) (ht : look t tb = some (.slice e sz by_ zs)) (hx : ev T x = some ax) (hn : lenA m ax = some n) (he : n = n') :
    QStep P o T m nx nt (.v (.int .i64 n')) := he ▸ q_len G ho ht hx hn
theorem getM {α : Type} [Inhabited α] {l : List α} {f : α → List Value} {i : Int} (h0 : 0 ≤ i) (h1 : i < l.length) : (l.map f)[i.toNat]? = some (f (l.getD i.toNat default)) := by
  have : i.toNat < l.length := by omega
  simp [this]
theorem q_eqv {v v' : Value} (h : QStep P o T m nx nt (.v v)) (e : v = v') : QStep P o T m nx nt (.v v') := e ▸ h
theorem W_eq {S S' : St} {c : Code} (h : W P w0 c S' Q) (e : S = S') : W P w0 c S Q := e ▸ h

/-- WAYS THAT MEET AGAIN: the first part comes to a state of the form 'st x'. -/
theorem W_cut {α : Type} (st : α → St) (inv : α → Prop) {x y : Code} {S : St} (h : W P w0 x S (sq (fun S' => ∃ x', inv x' ∧ Weak S' (st x') ∧ (st x').nx = S'.nx) Q)) (h2 : ∀ x', inv x' → W P w0 y (st x') Q) : W P w0 (.seq x y) S Q := by
  refine W_seq (fun K hK => W_mono h ?_)
  intro e S hq
  cases e
  case normal =>
    obtain ⟨x', hi, hw, hn⟩ := hq
    exact hK S (W_weak hw hn (h2 x' hi))
  all_goals exact hq

/-! structs that are compared -/
theorem q_eq {x y : Operand} {t t' : TypeId} {ax ay : AV} {cs ds : List AV} {us vs : List Value} {b : Bool} (ho : o.op = .binOp .eql t x y t') (hx : ev T x = some ax) (hy : ev T y = some ay) (hc : cellsOf ax = some cs) (hd : cellsOf ay = some ds) (hu : vaR cs [] = some us) (hv : vaR ds [] = some vs)
    (hax : ax = .agg cs ∨ ax = .v (.agg ⟨us⟩)) (hay : ay = .agg ds ∨ ay = .v (.agg ⟨vs⟩)) (hrun : ∀ w, (binOp .eql t (.agg ⟨us⟩) (.agg ⟨vs⟩)).run P w = .ok (.bool b) w) (hg : ∀ w, (eqGuard .eql t x y (.agg ⟨us⟩) (.agg ⟨vs⟩)).run P w = .ok () w) : QStep P o T m nx nt (.v (.bool b)) :=
  QStep.val fun w0 ρ a hT w' => by
    obtain ⟨us', h1, h2⟩ := vaR_spec _ _ _ hu
    obtain ⟨vs', h3, h4⟩ := vaR_spec _ _ _ hv
    simp at h2 h4
    subst h2; subst h4
    have ex : a.eval x = .agg ⟨us⟩ := by
      have := hT.ev hx
      rcases hax with rfl | rfl
      · simp only [RelV] at this
        obtain ⟨ys, e, hr⟩ := this
        rw [h1] at hr
        rw [e, RelVs.map_v_eq _ hr]
      · simpa only [RelV] using this
    have ey : a.eval y = .agg ⟨vs⟩ := by
      have := hT.ev hy
      rcases hay with rfl | rfl
      · simp only [RelV] at this
        obtain ⟨ys, e, hr⟩ := this
        rw [h3] at hr
        rw [e, RelVs.map_v_eq _ hr]
      · simpa only [RelV] using this
    simp [execOp, ho, ex, ey, hrun w', hg w']
/-! a loop, of which only what it writes is told -/
def keepO (n : Nat) (T : List (Nat × AV)) : List Nat → List (Nat × AV) → Option (List (Nat × AV))
  | [], acc => some acc
  | t :: r, acc => match look t T with
    | some x => bif refsB n x then keepO n T r ((t, x) :: acc) else none
    | none => none
def keepM (n : Nat) (m : List (Nat × Option Row)) : List Nat → List (Nat × Option Row) → Option (List (Nat × Option Row))
  | [], acc => some acc
  | i :: r, acc => match mem m i with
    | some row => bif Nat.blt i n && rowRefs n row then keepM n m r ((i, some row) :: acc) else none
    | none => none
theorem keepO_spec {n : Nat} {T : List (Nat × AV)} : ∀ {ks : List Nat} {acc T0 : List (Nat × AV)}, keepO n T ks acc = some T0 → WeakT T n acc → WeakT T n T0
  | [], acc, T0, h, ha => by simp [keepO] at h; subst h; exact ha
  | t :: r, acc, T0, h, ha => by
    simp only [keepO] at h
    cases h1 : look t T with
    | none => simp [h1] at h
    | some x =>
      simp only [h1] at h
      cases h2 : refsB n x with
      | false => simp [h2] at h
      | true =>
        simp only [h2, cond_true] at h
        exact keepO_spec h ⟨⟨x, h1, rfl⟩, h2, ha⟩
theorem keepM_spec {n : Nat} {m : List (Nat × Option Row)} : ∀ {ks : List Nat} {acc M0 : List (Nat × Option Row)}, keepM n m ks acc = some M0 → WeakM m n acc → WeakM m n M0
  | [], acc, M0, h, ha => by simp [keepM] at h; subst h; exact ha
  | t :: r, acc, M0, h, ha => by
    simp only [keepM] at h
    cases h1 : mem m t with
    | none => simp [h1] at h
    | some x =>
      simp only [h1] at h
      cases h2 : (Nat.blt t n && rowRefs n x) with
      | false => simp [h2] at h
      | true =>
        simp only [h2, cond_true] at h
        simp only [Bool.and_eq_true] at h2
        exact keepM_spec h ⟨⟨x, h1, rfl⟩, h2.1, h2.2, ha⟩
theorem WeakT.append {n : Nat} {T : List (Nat × AV)} : ∀ {a b : List (Nat × AV)}, WeakT T n a → WeakT T n b → WeakT T n (a ++ b)
  | [], _, _, h => h
  | (t, x) :: r, _, h, h' => ⟨h.1, h.2.1, WeakT.append h.2.2 h'⟩
theorem WeakM.append {n : Nat} {m : List (Nat × Option Row)} : ∀ {a b : List (Nat × Option Row)}, WeakM m n a → WeakM m n b → WeakM m n (a ++ b)
  | [], _, _, h => h
  | (i, none) :: r, _, h, h' => WeakM.append (a := r) h h'
  | (i, some row) :: r, _, h, h' => ⟨h.1, h.2.1, h.2.2.1, WeakM.append h.2.2.2 h'⟩

theorem W_loopK {α : Type} {c : Code} (ks ms : List Nat) (mod : α → List (Nat × AV)) (mm : α → List (Nat × Option Row)) (inv : α → Prop) (μ : α → Nat) (x0 : α) {T0 : List (Nat × AV)} {M0 : List (Nat × Option Row)}
    (hT : keepO nx T ks [] = some T0) (hM : keepM nx m ms [] = some M0) (h0 : inv x0) (w1 : WeakT T nx (mod x0)) (w2 : WeakM m nx (mm x0))
    (round : ∀ x, inv x → W P w0 c ⟨mod x ++ T0, mm x ++ M0, nx, nt⟩ (sq (fun S' => ∃ x', inv x' ∧ μ x' < μ x ∧ WeakT S'.T nx (mod x') ∧ WeakM S'.m nx (mm x') ∧ keepO nx S'.T ks [] = some T0 ∧ keepM nx S'.m ms [] = some M0 ∧ S'.nt = nt) Q)) :
    W P w0 (.loop c) ⟨T, m, nx, nt⟩ Q := by
  refine W_loop (fun x => ⟨mod x ++ T0, mm x ++ M0, nx, nt⟩) inv μ x0 h0 ⟨rfl, w1.append (keepO_spec hT trivial), w2.append (keepM_spec hM trivial)⟩ (fun _ => rfl) (fun x hx => W_mono (round x hx) ?_)
  intro e S' hq
  cases e
  case normal =>
    obtain ⟨x', g1, g2, g3, g4, g5, g6, g7⟩ := hq
    exact ⟨x', g1, ⟨g7.symm, g3.append (keepO_spec g5 trivial), g4.append (keepM_spec g6 trivial)⟩, g2⟩
  all_goals exact hq
end
end Go.Rf
