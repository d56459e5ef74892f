/- Slices that are made and grown; cuts; closures; loops; the end of a function. -/
import Derived.Test.YtehijimgenicfaaRfE
set_option linter.unusedVariables false
set_option linter.unusedSectionVars false
set_option linter.unusedSimpArgs false
namespace Go.Rf
open Go Go.RowKit

section
variable {P : Program} [Env P] {w0 : Base} {ops : Array Oper} {tb : List (Nat × TyI)} {o : Oper} {rest : List Oper} {T : List (Nat × AV)} {m : List (Nat × Option Row)} {nx nt d : Nat} {r : AV} {Q : Exit → St → Prop}

def oneVs : List Value → Bool
  | [] => true
  | u :: us => u.oneCell' && oneVs us
theorem oneVs_spec : ∀ {us : List Value}, oneVs us = true → ∀ u ∈ us, u.oneCell' = true
  | [], _, u, hu => by simp at hu
  | x :: us, h, u, hu => by
    simp only [oneVs, Bool.and_eq_true] at h
    rcases List.mem_cons.1 hu with rfl | hu
    · exact h.1
    · exact oneVs_spec h.2 u hu

def evParts (T : List (Nat × AV)) (sz : Nat) : List (Nat × Operand) → Nat → List (List Value) → Option (List (List Value))
  | [], _, acc => revO acc []
  | (i, x) :: r, k, acc => bif Nat.beq i k then
      match ev T x with
      | some av => match cellsOf av with
        | some cs => match vaR cs [] with
          | some vs => bif Nat.beq vs.length sz && oneVs vs then evParts T sz r (Nat.succ k) (vs :: acc) else none
          | none => none
        | none => none
      | none => none
    else none
theorem evParts_spec {ρ : Nat → Value} {a : Act} {w : World} (hT : RelT w0 ρ T nx nt a) (hC : RelC w0 ρ m nx w) {sz : Nat} : ∀ {ps : List (Nat × Operand)} {k : Nat} {acc ys : List (List Value)}, evParts T sz ps k acc = some ys →
    ∃ (vals : List Value) (zs : List (List Value)), ys = acc.reverse ++ zs ∧ (ps.map fun p => (p.1, a.eval p.2)) = (vals.zipIdx k).map (fun p => (p.2, p.1)) ∧ vals.map (·.cells.toList) = zs ∧ vals.length = ps.length ∧ ∀ c ∈ zs, c.length = sz ∧ ∀ u ∈ c, u.oneCell' = true
  | [], k, acc, ys, h => by simp [evParts, revO_eq] at h; exact ⟨[], [], by simp [h], by simp, rfl, rfl, by simp⟩
  | (i, x) :: r, k, acc, ys, h => by
    simp only [evParts] at h
    cases hi : Nat.beq i k with
    | false => simp [hi] at h
    | true =>
      simp only [hi, cond_true] at h
      have hik : i = k := Nat.eq_of_beq_eq_true hi
      subst hik
      cases h1 : ev T x with
      | none => simp [h1] at h
      | some av =>
        simp only [h1] at h
        cases h2 : cellsOf av with
        | none => simp [h2] at h
        | some cs =>
          simp only [h2] at h
          cases h3 : vaR cs [] with
          | none => simp [h3] at h
          | some vs =>
            simp only [h3] at h
            cases h4 : (Nat.beq vs.length sz && oneVs vs) with
            | false => simp [h4] at h
            | true =>
              simp only [h4, cond_true] at h
              obtain ⟨vals, zs, e1, e2, e3, e4, e5⟩ := evParts_spec hT hC h
              obtain ⟨vs', hcs, hvs⟩ := vaR_spec _ _ _ h3
              simp at hvs
              subst hvs
              simp only [Bool.and_eq_true] at h4
              have hone := oneVs_spec h4.2
              have hcells : (a.eval x).cells.toList = vs := by
                rcases cellsOf_spec h2 (hT.ev h1) (fun _ _ => trivial) with hr | ⟨hr, l, hl⟩
                · rw [hcs] at hr; exact RelVs.map_v_eq _ hr
                · rw [hcs] at hr
                  cases vs with
                  | nil => simp at hr
                  | cons u us =>
                    simp at hr
                    obtain ⟨hr1, hr2⟩ := hr
                    have := hT.ev h1
                    rw [← hr1] at this
                    simp only [RelV] at this
                    have h5 := hone u (by simp)
                    rw [hl] at this
                    rw [← this] at h5
                    cases h5
              refine ⟨a.eval x :: vals, vs :: zs, by simp [e1], by simp [e2], by simp [hcells, e3], by simp [e4], ?_⟩
              intro c hc
              rcases List.mem_cons.1 hc with rfl | hc
              · exact ⟨Nat.eq_of_beq_eq_true h4.1, hone⟩
              · exact e5 c hc

theorem run_buildSlice {t e sz by_ : Nat} {zs : List Value} (G : TyOK P t (.slice e sz by_ zs)) (vals : List Value) (hall : ∀ v ∈ vals, v.cells.size = sz) (hbig : vals.length * sz ≤ 16777216) (w : World) :
    (Instr.buildSlice t vals.length ((vals.zipIdx 0).map fun p => (p.2, p.1)).toArray).run P w =
      .ok (.slice (some ⟨w.heap.size, 0, none⟩) vals.length vals.length) (w.alloc (.cells (vals.map (·.cells.toList)).flatten.toArray e)) := by
  obtain ⟨hu, _, i, z, hi, hs, _, hz, hzc, hzl, hpos, _⟩ := G
  have hsize : ∀ (z0 : Array Value), ((Array.range (vals.length * sz)).map (fun j => z0[j % z0.size]!)).size = vals.length * sz := by intro z0; simp
  have hfill := fun (z0 : Array Value) => fill_from (sz := sz) vals 0 ((Array.range (vals.length * sz)).map (fun j => z0[j % z0.size]!)) hall (by rw [hsize]; simp)
  have h24 : ¬ (2 ^ 24 < vals.length * sz) := by omega
  by_cases h0 : vals.length * sz = 0
  · simp [Instr.buildSlice, run_underlying hu, sizeOf, typeInfo, hi, hs, h24, h0, newRow]
    have := hfill #[]
    simp [h0] at this
    rw [this]
    simp
  · simp [Instr.buildSlice, run_underlying hu, sizeOf, typeInfo, zeroValue, hi, hs, h24, h0, hz, newRow]
    have := hfill z.cells
    simp at this
    rw [this]
    simp

theorem WX_lit {t e sz by_ n : Nat} {zs : List Value} {ps : Array (Nat × Operand)} {ys : List (List Value)} (G : Good P tb) (nx' : Nat) (hn' : Nat.beq nx' (Nat.succ nx) = true) (hd : o.dst = some d) (hlt : Nat.blt d nt = true) (ho : o.op = .buildSlice t n ps) (ht : look t tb = some (.slice e sz by_ zs))
    (hp : evParts T sz ps.toList 0 [] = some ys) (hn : Nat.beq ps.toList.length n = true) (hbig : Nat.ble (n * sz) 16777216 = true)
    (hk : WL P w0 ops rest ⟨(d, .own nx) :: T, (nx, some (.row e sz ys)) :: m, nx', nt⟩ Q) : WX P w0 ops o rest ⟨T, m, nx, nt⟩ Q := by
  have hn'' := Nat.eq_of_beq_eq_true hn'
  subst hn''
  intro ρ a w hT hC
  obtain ⟨vals, zs', e1, e2, e3, e4, e5⟩ := evParts_spec hT hC hp
  simp at e1
  subst e1
  have hn' : vals.length = n := by rw [e4]; exact Nat.eq_of_beq_eq_true hn
  have hall : ∀ v ∈ vals, v.cells.size = sz := by
    intro v hv
    have : v.cells.toList ∈ ys := by rw [← e3]; exact List.mem_map.2 ⟨v, hv, rfl⟩
    simpa using (e5 _ this).1
  have hrun := run_buildSlice (G t _ ht) vals hall (by rw [hn']; exact Nat.le_of_ble_eq_true hbig) w
  have hr : (execOp a.eval o).run P w = .ok (.value (.slice (some ⟨w.heap.size, 0, none⟩) n n)) (w.alloc (.cells ys.flatten.toArray e)) := by
    have hps : (ps.map fun (p : Nat × Operand) => (p.1, a.eval p.2)) = ((vals.zipIdx 0).map fun p => (p.2, p.1)).toArray := by
      rw [← e2, ← Array.toList_map]
    have hps' : (Array.map (fun x => match x with | (i, x) => (i, a.eval x)) ps) = ((vals.zipIdx 0).map fun p => (p.2, p.1)).toArray := hps
    rw [hn', e3] at hrun
    simp only [execOp, ho, hps', hrun, Sem.run_bind, Result.andThen_ok, Sem.run_pure]
  unfold Oper.wp
  rw [hr, Oper.upon_value, hd]
  have hkeep : ∀ i, i < nx → upd ρ nx (.slice (some ⟨w.heap.size, 0, none⟩) n n) i = ρ i := fun i hi => upd_other ρ _ (by omega)
  have hyl : ys.length = n := by rw [← e3, List.length_map, hn']
  refine hk (upd ρ nx (.slice (some ⟨w.heap.size, 0, none⟩) n n)) _ _ ((hT.add _).put hlt ?_) ((hC.alloc _).add ?_ ?_ (fun b hb => (by simp [blk] at hb; subst hb; exact hC.fresh (Nat.le_refl _))))
  · simp only [RelV]
    exact ⟨by omega, by rw [upd_same]⟩
  · refine ⟨?_, e5⟩
    rw [upd_same, hyl]
    have hbig' := Nat.le_of_ble_eq_true hbig
    obtain ⟨_, _, i, z, _, _, _, _, _, _, hpos, _⟩ := G t _ ht
    have hnle : n ≤ n * sz := Nat.le_mul_of_pos_right n hpos
    have := World.ownsRow_lit (base := w0.w.heap.size) (e := e) (size := sz) w ys.flatten.toArray n hC.below.size (by unfold maxLen; omega) (by simpa [hyl] using flatten_length (fun c hc => (e5 c hc).1))
    simpa using this
  · intro id row hm b hb
    have := hC.lt hm hb
    simp [blk]
    omega

theorem made_flat {zs : List Value} (hpos : 0 < zs.length) (n : Nat) : (madeCells zs.toArray (n * zs.length)).toList = (List.replicate n zs).flatten := by
  apply List.ext_getElem?
  intro j
  by_cases hj : j < n * zs.length
  · have hdiv : j / zs.length < n := Nat.div_lt_of_lt_mul (by rw [Nat.mul_comm]; exact hj)
    have hmod : j % zs.length < zs.length := Nat.mod_lt _ hpos
    have h1 := flatten_at (ys := List.replicate n zs) (sz := zs.length) (fun c hc => by rw [(List.mem_replicate.1 hc).2]) (i := j / zs.length) (c := zs) (by simp [hdiv]) hmod
    have h2 : j / zs.length * zs.length + j % zs.length = j := by rw [Nat.mul_comm]; exact Nat.div_add_mod j _
    rw [h2] at h1
    rw [h1]
    simp [madeCells, hj, hmod]
  · rw [List.getElem?_eq_none (by simp [madeCells]; omega), List.getElem?_eq_none (by rw [flatten_length (sz := zs.length) (fun c hc => by rw [(List.mem_replicate.1 hc).2])]; simp; omega)]

theorem WX_make {t e sz by_ n : Nat} {zs : List Value} {x y : Operand} {kl kc : IntKind} {i j : Int} (G : Good P tb) (nx' : Nat) (hn' : Nat.beq nx' (Nat.succ nx) = true) (hd : o.dst = some d) (hlt : Nat.blt d nt = true) (ho : o.op = .makeSlice t x y) (ht : look t tb = some (.slice e sz by_ zs))
    (hx : ev T x = some (.v (.int kl i))) (hy : ev T y = some (.v (.int kc j))) (hi : i = (n : Int)) (hj : j = (n : Int)) (hb : by_ * n ≤ 281474976710656) (hn : n ≤ 9223372036854775807)
    (hk : WL P w0 ops rest ⟨(d, .own nx) :: T, (nx, some (.row e sz (List.replicate n zs))) :: m, nx', nt⟩ Q) : WX P w0 ops o rest ⟨T, m, nx, nt⟩ Q := by
  have hn'' := Nat.eq_of_beq_eq_true hn'
  subst hn''
  subst hi; subst hj
  intro ρ a w hT hC
  have h1 := hT.ev hx
  have h2 := hT.ev hy
  simp only [RelV] at h1 h2
  obtain ⟨hu, _, i, z, hi, hs, hby, hz, hzc, hzl, hpos, hone⟩ := G t _ ht
  subst hby; subst hs
  obtain ⟨w', hr, hown, hgr⟩ := run_make_full (P := P) w w0.w.heap.size t e i z i.size hu hi hz rfl kl kc n hb (by unfold maxLen; exact hn) hC.below.size
  have hr2 : (execOp a.eval o).run P w = .ok (.value (.slice (some ⟨w.heap.size, 0, none⟩) n n)) w' := by
    simp only [execOp, ho, h1, h2, hr, Sem.run_bind, Result.andThen_ok, Sem.run_pure]
  unfold Oper.wp
  rw [hr2, Oper.upon_value, hd]
  have hb2 : Below w.heap.size w w' := (Below.refl _ _).grown hgr (Nat.le_refl _) (by simp)
  refine hk (upd ρ nx (.slice (some ⟨w.heap.size, 0, none⟩) n n)) _ _ ((hT.add _).put hlt ?_) ((hC.trans hb2).add ?_ ?_ (fun b hb => (by simp [blk] at hb; subst hb; exact hC.fresh (Nat.le_refl _))))
  · simp only [RelV]
    exact ⟨by omega, by rw [upd_same]⟩
  · refine ⟨?_, fun c hc => by rw [(List.mem_replicate.1 hc).2]; exact ⟨hzl, hone⟩⟩
    rw [upd_same, List.length_replicate]
    rw [hzc, ← hzl, made_flat (by omega)] at hown
    rw [hzl] at hown
    exact hown
  · intro id row hm b hb
    have := hC.lt hm hb
    simp [blk]
    omega

/-! append -/
mutual
def ment (id : Nat) : AV → Bool
  | .own i => Nat.beq i id
  | .sub i _ _ _ => Nat.beq i id
  | .ptr i _ => Nat.beq i id
  | .rpt i _ _ _ => Nat.beq i id
  | .agg cs => ments id cs
  | .tup cs => ments id cs
  | .fnc _ cs => ments id cs
  | _ => false
def ments (id : Nat) : List AV → Bool
  | [] => false
  | c :: cs => ment id c || ments id cs
end
theorem beq_ne {a b : Nat} (h : Nat.beq a b = false) : a ≠ b := by rintro rfl; rw [Nat.beq_refl] at h; cases h
mutual
theorem RelV.upd {ρ : Nat → Value} {id : Nat} {y' : Value} : ∀ (x : AV) {y : Value}, ment id x = false → RelV w0 ρ nx x y → RelV w0 (upd ρ id y') nx x y
  | .v _, _, _, h => h
  | .lst _ _, _, _, h => h
  | .pin _ _ _, _, _, h => h
  | .ept _, _, _, h => h
  | .own i, _, hm, h => by simp only [ment] at hm; simp only [RelV] at h ⊢; rw [upd_other _ _ (beq_ne hm)]; exact h
  | .sub i _ _ _, _, hm, h => by simp only [ment] at hm; simp only [RelV] at h ⊢; rw [upd_other _ _ (beq_ne hm)]; exact h
  | .ptr i _, _, hm, h => by simp only [ment] at hm; simp only [RelV] at h ⊢; rw [upd_other _ _ (beq_ne hm)]; exact h
  | .rpt i _ _ _, _, hm, h => by simp only [ment] at hm; simp only [RelV] at h ⊢; rw [upd_other _ _ (beq_ne hm)]; exact h
  | .agg cs, _, hm, h => by
    simp only [ment] at hm
    simp only [RelV] at h ⊢
    obtain ⟨ys, e, h⟩ := h
    exact ⟨ys, e, RelVs.upd cs hm h⟩
  | .tup cs, _, hm, h => by
    simp only [ment] at hm
    simp only [RelV] at h ⊢
    obtain ⟨ys, e, h⟩ := h
    exact ⟨ys, e, RelVs.upd cs hm h⟩
  | .fnc _ cs, _, hm, h => by
    simp only [ment] at hm
    simp only [RelV] at h ⊢
    obtain ⟨ys, e, h⟩ := h
    exact ⟨ys, e, RelVs.upd cs hm h⟩
theorem RelVs.upd {ρ : Nat → Value} {id : Nat} {y' : Value} : ∀ (x : List AV) {y : List Value}, ments id x = false → RelVs w0 ρ nx x y → RelVs w0 (upd ρ id y') nx x y
  | [], _, _, h => h
  | c :: cs, _, hm, h => by
    simp only [ments, Bool.or_eq_false_iff] at hm
    simp only [RelVs] at h ⊢
    obtain ⟨y, ys, e, h1, h2⟩ := h
    exact ⟨y, ys, e, RelV.upd c hm.1 h1, RelVs.upd cs hm.2 h2⟩
end
/-- no box speaks of row 'id' -/
def freeM (id : Nat) : List (Nat × Option Row) → Bool
  | [] => true
  | (_, some (.box cs)) :: r => !ments id cs && freeM id r
  | _ :: r => freeM id r
theorem freeM_spec {id : Nat} : ∀ {m : List (Nat × Option Row)}, freeM id m = true → ∀ {i : Nat} {cs : List AV}, mem m i = some (.box cs) → ments id cs = false
  | [], _, _, _, h => by simp [mem, look] at h
  | (j, row) :: r, h, i, cs, hm => by
    by_cases e : j = i
    · subst e
      rw [mem_cons_same] at hm
      subst hm
      simp only [freeM, Bool.and_eq_true, Bool.not_eq_true'] at h
      exact h.1
    · rw [mem_cons_other e] at hm
      refine freeM_spec (m := r) ?_ hm
      cases row with
      | none => simpa [freeM] using h
      | some row => cases row with
        | box cs' => simp only [freeM, Bool.and_eq_true] at h; exact h.2
        | row _ _ _ => simpa [freeM] using h
        | byt _ => simpa [freeM] using h
        | spare _ _ _ _ => simpa [freeM] using h

def has (k : Nat) : List Nat → Bool
  | [] => false
  | x :: r => Nat.beq x k || has k r
theorem has_false {k : Nat} : ∀ {l : List Nat}, has k l = false → ∀ x ∈ l, x ≠ k
  | [], _, x, hx => by simp at hx
  | y :: l, h, x, hx => by
    simp only [has, Bool.or_eq_false_iff] at h
    rcases List.mem_cons.1 hx with rfl | hx
    · exact beq_ne h.1
    · exact has_false h.2 x hx
/-- the frame without what speaks of row 'id', and without what is shadowed -/
def killT (id : Nat) : List (Nat × AV) → List Nat → List (Nat × AV) → List (Nat × AV)
  | [], _, acc => acc
  | (t, x) :: r, seen, acc => bif has t seen then killT id r seen acc else bif ment id x then killT id r (t :: seen) acc else killT id r (t :: seen) ((t, x) :: acc)
theorem killT_spec {id : Nat} : ∀ (l : List (Nat × AV)) (seen : List Nat) (acc : List (Nat × AV)) (t : Nat) (x : AV), look t (killT id l seen acc) = some x → (∀ p ∈ acc, p.1 ∈ seen) →
    (look t acc = some x) ∨ (t ∉ seen ∧ look t l = some x ∧ ment id x = false)
  | [], seen, acc, t, x, h, _ => .inl (by simpa [killT] using h)
  | (t', x') :: r, seen, acc, t, x, h, hs => by
    simp only [killT] at h
    cases h1 : has t' seen with
    | true =>
      simp only [h1, cond_true] at h
      rcases killT_spec r seen acc t x h hs with h2 | ⟨h2, h3, h4⟩
      · exact .inl h2
      · refine .inr ⟨h2, ?_, h4⟩
        have hne : t' ≠ t := fun e => by
          subst e
          exact h2 (has_mem h1)
        rw [look_cons_other hne]; exact h3
    | false =>
      simp only [h1, cond_false] at h
      have hns : t' ∉ seen := fun hm => has_false h1 t' hm rfl
      cases h2 : ment id x' with
      | true =>
        simp only [h2, cond_true] at h
        rcases killT_spec r (t' :: seen) acc t x h (fun p hp => List.mem_cons_of_mem _ (hs p hp)) with h3 | ⟨h3, h4, h5⟩
        · exact .inl h3
        · simp at h3
          refine .inr ⟨h3.2, ?_, h5⟩
          rw [look_cons_other (fun e => h3.1 e.symm)]; exact h4
      | false =>
        simp only [h2, cond_false] at h
        rcases killT_spec r (t' :: seen) ((t', x') :: acc) t x h (fun p hp => by
          rcases List.mem_cons.1 hp with rfl | hp
          · simp
          · exact List.mem_cons_of_mem _ (hs p hp)) with h3 | ⟨h3, h4, h5⟩
        · by_cases e : t' = t
          · subst e
            rw [look_cons_same] at h3
            cases h3
            exact .inr ⟨hns, look_cons_same _ _ _, h2⟩
          · rw [look_cons_other e] at h3
            exact .inl h3
        · simp at h3
          refine .inr ⟨h3.2, ?_, h5⟩
          rw [look_cons_other (fun e => h3.1 e.symm)]; exact h4
where
  has_mem {k : Nat} : ∀ {l : List Nat}, has k l = true → k ∈ l
    | [], h => by cases h
    | y :: l, h => by
      simp only [has, Bool.or_eq_true] at h
      rcases h with h | h
      · rw [Nat.eq_of_beq_eq_true h]; simp
      · exact List.mem_cons_of_mem _ (has_mem h)

def killO (id : Nat) : List (Nat × AV) → List Nat → List (Nat × AV) → Option (List (Nat × AV))
  | [], _, acc => some acc
  | (t, x) :: r, seen, acc => bif has t seen then killO id r seen acc else bif ment id x then killO id r (t :: seen) acc else killO id r (t :: seen) ((t, x) :: acc)
theorem killO_eq {id : Nat} : ∀ (l : List (Nat × AV)) (seen : List Nat) (acc : List (Nat × AV)), killO id l seen acc = some (killT id l seen acc)
  | [], _, _ => rfl
  | (t, x) :: r, seen, acc => by
    simp only [killO, killT]
    cases has t seen <;> cases ment id x <;> simp [killO_eq r]

theorem run_append_reads {t ty e sz by_ : Nat} {zs : List Value} (G : TyOK P t (.slice e sz by_ zs)) {w : World} {base : Nat} {v : Value} {n : Nat} {xs : List Value} (hown : w.ownsRow base e sz v n xs) {ys : List (List Value)} {y : Value} (hr : ReadsAt w sz ys y)
    (hbytes : (n + ys.length) * by_ ≤ 140737488355328) (hby : 0 < by_) (hbase : base ≤ w.heap.size) :
    ∃ v' w', (Builtin.append_ #[t, t] ty #[v, y]).run P w = .ok v' w' ∧ w'.ownsRow base e sz v' (n + ys.length) (xs ++ ys.flatten) ∧ w.grownBy w' v.ownBlock ∧ (v'.ownBlock = v.ownBlock ∨ v'.ownBlock = some w.heap.size) := by
  obtain ⟨hu, _, i, z, hi, hs, hb, hz, hzc, hzl, hpos, _⟩ := G
  obtain ⟨A, cap, rfl, hcap, hall, hA⟩ := hr
  have hmax : n + ys.length ≤ maxLen := by
    have : n + ys.length ≤ (n + ys.length) * by_ := Nat.le_mul_of_pos_right _ hby
    unfold maxLen
    omega
  have hzs : z.cells.size = sz := by rw [hzc]; simpa using hzl
  cases A with
  | none =>
    have h0 : ys.length = 0 := by
      rcases Nat.eq_zero_or_pos ys.length with h0 | h0
      · exact h0
      · obtain ⟨ad, h, _⟩ := hA h0; cases h
    have hy : ys = [] := List.eq_nil_of_length_eq_zero h0
    subst hy
    refine ⟨v, w, ?_, by simpa using hown, ⟨rfl, rfl, rfl, Nat.le_refl _, fun _ _ _ => rfl⟩, .inl rfl⟩
    rcases hown.2 with ⟨rfl, rfl⟩ | ⟨g, cap', cur, rfl, _, _, hnc, _⟩
    · simp [Builtin.append_, run_underlying hu, sizeOf, typeInfo, hi, Builtin.lenOf, Builtin.firstCells]
    · simp [Builtin.append_, run_underlying hu, sizeOf, typeInfo, hi, Builtin.lenOf, Builtin.firstCells, hnc, storeCells]
  | some ad =>
    obtain ⟨v', w', h1, h2, h3, _, h4⟩ := run_append_own_at (P := P) w base t ty e i z sz by_ hu hi hz hs hb hzs hpos v n xs hown ad ys.length cap ys.flatten (flatten_length (fun c hc => (hall c hc).1)) (fun j u hj => by
        have hjl : j < ys.flatten.length := by
          rcases Nat.lt_or_ge j ys.flatten.length with hlt | hge
          · exact hlt
          · rw [List.getElem?_eq_none hge] at hj; cases hj
        rw [flatten_length (fun c hc => (hall c hc).1)] at hjl
        have hdiv : j / sz < ys.length := Nat.div_lt_of_lt_mul (by rw [Nat.mul_comm]; exact hjl)
        obtain ⟨ad', e1, _, hcell⟩ := hA (Nat.lt_of_le_of_lt (Nat.zero_le _) hdiv)
        cases e1
        have hq : j / sz * sz + j % sz = j := by rw [Nat.mul_comm]; exact Nat.div_add_mod j _
        have := flatten_at (sz := sz) (fun c hc => (hall c hc).1) (List.getElem?_eq_getElem hdiv) (Nat.mod_lt j hpos)
        rw [hq, hj] at this
        have := hcell _ _ (List.getElem?_eq_getElem hdiv) _ _ this.symm
        rwa [hq] at this) (fun u hu => by
        obtain ⟨c, hc, huc⟩ := List.mem_flatten.1 hu
        exact (hall c hc).2 u huc) hmax hbytes hbase
    exact ⟨v', w', h1, h2, h3, h4⟩

theorem ownBlock_blk {w : World} {base e sz n : Nat} {v : Value} {xs : List Value} (h : w.ownsRow base e sz v n xs) : blk v = v.ownBlock := by
  rcases h.2 with ⟨rfl, _⟩ | ⟨g, cap, cur, rfl, _⟩ <;> rfl

theorem WX_append {t e sz by_ id : Nat} {zs : List Value} {x y : Operand} {ys us : List (List Value)} {ay : AV} {T' : List (Nat × AV)} (G : Good P tb) (hp : w0.n0 ≤ id) (hd : o.dst = some d) (hlt : Nat.blt d nt = true) (ho : o.op = .call { callee := .builtin .append, args := #[x, y], argTypes := #[t, t] })
    (ht : look t tb = some (.slice e sz by_ zs)) (hx : ev T x = some (.own id)) (hm : mem m id = some (.row e sz ys)) (hy : ev T y = some ay) (ha : toArg1 m ay = some (.lst sz us)) (hby : Nat.blt 0 by_ = true) (hbytes : (ys.length + us.length) * by_ ≤ 140737488355328)
    (hf : freeM id m = true) (hT' : killO id T [] [] = some T')
    (hk : WL P w0 ops rest ⟨(d, .own id) :: T', (id, some (.row e sz (ys ++ us))) :: m, nx, nt⟩ Q) : WX P w0 ops o rest ⟨T, m, nx, nt⟩ Q := by
  intro ρ a w hT hC
  have h1 := hT.ev hx
  simp only [RelV] at h1
  obtain ⟨hrow, hall⟩ := hC.row hm
  have hr := ArgOK.of1 (nx := nx) ha w0 ρ w _ hC (hT.ev hy)
  simp only [RelV] at hr
  have hus : ∀ c ∈ us, c.length = sz ∧ ∀ u ∈ c, u.oneCell' = true := by obtain ⟨_, _, _, _, hus, _⟩ := hr; exact hus
  obtain ⟨v', w', hrun, hown, hgr, hat⟩ := run_append_reads (ty := o.type) (G t _ ht) hrow hr hbytes (Nat.le_of_ble_eq_true hby) hC.below.size
  have hr2 : (execOp a.eval o).run P w = .ok (.value v') w' := by
    simp only [execOp, ho, resolve, invoke, builtin, Sem.run_bind, Sem.run_pure, Result.andThen_ok, List.map_toArray, List.map_cons, List.map_nil, h1.2, hrun]
  unfold Oper.wp
  rw [hr2, Oper.upon_value, hd]
  have hob := ownBlock_blk hrow
  have hob' := ownBlock_blk hown
  have hBg : ∀ k, (ρ id).ownBlock = some k → w0.w.heap.size ≤ k := fun k hk => ownsRow_blk hrow (by rw [hob]; exact hk)
  have hoth : ∀ i r, mem m i = some r → i ≠ id → RowRel w0 (upd ρ id v') nx w' i r := by
    intro i r hr hne
    obtain ⟨_, h2⟩ := hC.rows i r hr
    cases r with
    | box cs =>
      obtain ⟨b, cur, ty, h3, h4, h5, h6, h7⟩ := h2
      have hbne : some b ≠ (ρ id).ownBlock := fun hbg => by
        rw [← hob] at hbg
        exact hC.apart i id _ _ hr hm hne b (by rw [h3]; rfl) hbg.symm
      exact ⟨b, cur, ty, by rw [upd_other _ _ hne]; exact h3, h4, by rw [hgr.block b (Array.getElem?_eq_some_iff.1 h5).1 hbne]; exact h5, RelVs.upd _ (freeM_spec hf hr) h6, h7⟩
    | spare e' sz' ys' gs' =>
      obtain ⟨b, cur, h3, h4, h5, h6⟩ := h2
      have hbne : some b ≠ (ρ id).ownBlock := fun hbg => by
        rw [← hob] at hbg
        exact hC.apart i id _ _ hr hm hne b (by rw [h3]; rfl) hbg.symm
      exact ⟨b, cur, by rw [upd_other _ _ hne]; exact h3, h4, by rw [hgr.block b (Array.getElem?_eq_some_iff.1 h5).1 hbne]; exact h5, h6⟩
    | byt bs =>
      obtain ⟨b, cap, cur, e', fz, h3, h4, h5, h6⟩ := h2
      have hbne : some b ≠ (ρ id).ownBlock := fun hbg => by
        rw [← hob] at hbg
        exact hC.apart i id _ _ hr hm hne b (by rw [h3]; rfl) hbg.symm
      exact ⟨b, cap, cur, e', fz, by rw [upd_other _ _ hne]; exact h3, h4, by rw [hgr.block b (Array.getElem?_eq_some_iff.1 h5).1 hbne]; exact h5, h6⟩
    | row e' sz' ys' =>
      simp only [RowRel] at h2 ⊢
      rw [upd_other _ _ hne]
      refine ⟨⟨h2.1.1, ?_⟩, h2.2⟩
      rcases h2.1.2 with h3 | ⟨g', cap, cur, h3, h4, h5, h6⟩
      · exact .inl h3
      · have hbne : some g' ≠ (ρ id).ownBlock := fun hbg => by
          rw [← hob] at hbg
          exact hC.apart i id _ _ hr hm hne g' (by rw [h3]; rfl) hbg.symm
        exact .inr ⟨g', cap, cur, h3, h4, by rw [hgr.block g' (Array.getElem?_eq_some_iff.1 h5).1 hbne]; exact h5, h6⟩
  have hapn : ∀ i r, mem m i = some r → i ≠ id → ∀ b, blk (ρ i) = some b → blk v' ≠ some b := by
    intro i r hr hne b hb hv
    rw [hob'] at hv
    rcases hat with h | h
    · rw [h, ← hob] at hv
      exact hC.apart i id _ _ hr hm hne b hb hv
    · rw [h] at hv
      cases hv
      have := hC.lt hr hb
      omega
  refine hk (upd ρ id v') _ _ ?_ ?_
  · refine RelT.put ⟨fun t' x' hx' => ?_, hT.size, hT.defers⟩ hlt ?_
    · rw [killO_eq] at hT'
      cases hT'
      rcases killT_spec _ _ _ _ _ hx' (by simp) with h2 | ⟨_, h2, h3⟩
      · simp [look] at h2
      · exact RelV.upd _ h3 (hT.tmps t' x' h2)
    · simp only [RelV]
      exact ⟨h1.1, by rw [upd_same]⟩
  · refine ⟨fun i r hr => ?_, fun i i' r r' hr hr' hne b hb => ?_, hC.below.grown hgr hC.below.size hBg, ⟨hC.pin.1, fun i hi => (upd_other ρ v' (by omega)).trans (hC.pin.2 i hi)⟩, Nat.le_trans hC.kept.1 hgr.size, fun b hk => (hgr.block b (Nat.lt_of_lt_of_le (w0.kb b hk) hC.kept.1) (fun e => hC.kept.2.2 id _ hm b (by rw [hob]; exact e.symm) hk)).trans (hC.kept.2.1 b hk), fun i r hr b hb hk => ?_⟩
    · by_cases e' : id = i
      · subst e'
        rw [mem_cons_same] at hr
        cases hr
        refine ⟨h1.1, ?_, ?_⟩
        · rw [upd_same, List.length_append, List.flatten_append]; exact hown
        · intro c hc
          rcases List.mem_append.1 hc with hc | hc
          · exact hall c hc
          · exact hus c hc
      · rw [mem_cons_other e'] at hr
        exact ⟨(hC.rows i r hr).1, hoth i r hr (Ne.symm e')⟩
    · by_cases e1 : id = i
      · subst e1
        have e2 : id ≠ i' := hne
        rw [mem_cons_other e2] at hr'
        rw [upd_same] at hb
        rw [upd_other _ _ (Ne.symm e2)]
        intro hb'
        exact hapn i' r' hr' (Ne.symm e2) b hb' hb
      · rw [mem_cons_other e1] at hr
        rw [upd_other _ _ (Ne.symm e1)] at hb
        by_cases e2 : id = i'
        · subst e2
          rw [upd_same]
          exact hapn i r hr (Ne.symm e1) b hb
        · rw [mem_cons_other e2] at hr'
          rw [upd_other _ _ (Ne.symm e2)]
          exact hC.apart i i' r r' hr hr' hne b hb
    · by_cases e' : id = i
      · subst e'
        rw [upd_same, hob'] at hb
        rcases hat with h | h
        · rw [h, ← hob] at hb; exact hC.kept.2.2 id _ hm b hb hk
        · rw [h] at hb; cases hb; exact hC.fresh (Nat.le_refl _) hk
      · rw [mem_cons_other e'] at hr
        rw [upd_other _ _ (Ne.symm e')] at hb
        exact hC.kept.2.2 i r hr b hb hk

/-- .. onto nil -/
theorem WX_append_nil {t e sz by_ : Nat} {zs : List Value} {x y : Operand} {us : List (List Value)} {ay : AV} (G : Good P tb) (nx' : Nat) (hn' : Nat.beq nx' (Nat.succ nx) = true) (hd : o.dst = some d) (hlt : Nat.blt d nt = true) (ho : o.op = .call { callee := .builtin .append, args := #[x, y], argTypes := #[t, t] })
    (ht : look t tb = some (.slice e sz by_ zs)) (hx : ev T x = some (.v (.slice none 0 0))) (hy : ev T y = some ay) (ha : toArg1 m ay = some (.lst sz us)) (hby : Nat.blt 0 by_ = true) (hbytes : us.length * by_ ≤ 140737488355328)
    (hk : WL P w0 ops rest ⟨(d, .own nx) :: T, (nx, some (.row e sz us)) :: m, nx', nt⟩ Q) : WX P w0 ops o rest ⟨T, m, nx, nt⟩ Q := by
  have hn'' := Nat.eq_of_beq_eq_true hn'
  subst hn''
  intro ρ a w hT hC
  have h1 := hT.ev hx
  simp only [RelV] at h1
  have hr := ArgOK.of1 (nx := nx) ha w0 ρ w _ hC (hT.ev hy)
  simp only [RelV] at hr
  have hus : ∀ c ∈ us, c.length = sz ∧ ∀ u ∈ c, u.oneCell' = true := by obtain ⟨_, _, _, _, hus, _⟩ := hr; exact hus
  obtain ⟨v', w', hrun, hown, hgr, hat⟩ := run_append_reads (ty := o.type) (G t _ ht) (World.ownsRow_nil w w0.w.heap.size e sz) hr (by simpa using hbytes) (Nat.le_of_ble_eq_true hby) hC.below.size
  have hr2 : (execOp a.eval o).run P w = .ok (.value v') w' := by
    simp only [execOp, ho, resolve, invoke, builtin, Sem.run_bind, Sem.run_pure, Result.andThen_ok, List.map_toArray, List.map_cons, List.map_nil, h1, hrun]
  unfold Oper.wp
  rw [hr2, Oper.upon_value, hd]
  have hb2 : Below w.heap.size w w' := (Below.refl _ _).grown hgr (Nat.le_refl _) (by simp [Value.ownBlock])
  refine hk (upd ρ nx v') _ _ ((hT.add _).put hlt ?_) ((hC.trans hb2).add ?_ ?_ (fun b hb => (by
    rw [ownBlock_blk hown] at hb
    rcases hat with h | h <;> rw [h] at hb
    · simp [Value.ownBlock] at hb
    · cases hb; exact hC.fresh (Nat.le_refl _))))
  · simp only [RelV]
    exact ⟨by omega, by rw [upd_same]⟩
  · refine ⟨?_, hus⟩
    rw [upd_same]
    simpa using hown
  · intro id row hm b hb
    have := hC.lt hm hb
    rw [ownBlock_blk hown]
    rcases hat with h | h <;> rw [h]
    · simp [Value.ownBlock]
    · simp; omega
end
end Go.Rf
