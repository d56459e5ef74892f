/- Boxes, stores, slices that are made and grown; loops; the end of a function. -/
import Derived.Test.YtehijimgenicfaaRfD
set_option linter.unusedVariables false
set_option linter.unusedSectionVars false
set_option linter.unusedSimpArgs false
namespace Go.Rf
open Go Go.RowKit

section
variable {P : Program} [Env P] {w0 : Base} {ops : Array Oper} {tb : List (Nat × TyI)} {o : Oper} {rest : List Oper} {T : List (Nat × AV)} {m : List (Nat × Option Row)} {nx nt d : Nat} {r : AV} {Q : Exit → St → Prop}

/-! a value of one cell -/
def oneA (m : List (Nat × Option Row)) : AV → Bool
  | .v x => x.oneCell'
  | .lst _ _ => true
  | .pin _ _ _ => true
  | .own id => match mem m id with
    | some _ => true
    | none => false
  | .sub _ _ _ _ => true
  | .ptr _ _ => true
  | .rpt _ _ _ _ => true
  | .ept _ => true
  | .fnc _ _ => true
  | _ => false
theorem oneA_spec {ρ : Nat → Value} {w : World} (hC : RelC w0 ρ m nx w) {x : AV} (h : oneA m x = true) {y : Value} (hy : RelV w0 ρ nx x y) : y.oneCell' = true := by
  cases x <;> simp only [oneA] at h
  case v x => simp only [RelV] at hy; subst hy; exact h
  case lst => simp only [RelV] at hy; obtain ⟨_, _, rfl, _⟩ := hy; rfl
  case pin => simp only [RelV] at hy; obtain ⟨_, _, _, rfl, _⟩ := hy; rfl
  case own id =>
    simp only [RelV] at hy
    cases hm : mem m id with
    | none => simp [hm] at h
    | some row =>
      obtain ⟨_, h2⟩ := hC.rows id row hm
      rw [hy.2]
      cases row with
      | box cs => obtain ⟨b, cur, ty, h3, _⟩ := h2; rw [h3]; rfl
      | byt bs => obtain ⟨g, cap, cur, e, fz, h3, _⟩ := h2; rw [h3]; rfl
      | spare _ _ _ _ => obtain ⟨g, cur, h3, _⟩ := h2; rw [h3]; rfl
      | row e sz ys =>
        rcases h2.1.2 with ⟨h3, _⟩ | ⟨g, cap, cur, h3, _⟩ <;> rw [h3] <;> rfl
  case sub => simp only [RelV] at hy; obtain ⟨_, _, _, rfl, _⟩ := hy; rfl
  case ptr => simp only [RelV] at hy; obtain ⟨_, _, _, rfl⟩ := hy; rfl
  case rpt => simp only [RelV] at hy; obtain ⟨_, _, _, _, _, rfl⟩ := hy; rfl
  case ept => simp only [RelV] at hy; obtain ⟨_, rfl, _⟩ := hy; rfl
  case fnc => simp only [RelV] at hy; obtain ⟨_, rfl, _⟩ := hy; rfl
  all_goals cases h
def oneAs (m : List (Nat × Option Row)) : List AV → Bool
  | [] => true
  | c :: cs => oneA m c && oneAs m cs
theorem oneAs_spec {ρ : Nat → Value} {w : World} (hC : RelC w0 ρ m nx w) : ∀ {x : List AV}, oneAs m x = true → ∀ {y : List Value}, RelVs w0 ρ nx x y → ∀ u ∈ y, u.oneCell' = true
  | [], _, _, hy, u, hu => by simp only [RelVs] at hy; subst hy; simp at hu
  | c :: cs, h, _, hy, u, hu => by
    simp only [RelVs] at hy
    simp only [oneAs, Bool.and_eq_true] at h
    obtain ⟨y, ys, rfl, h1, h2⟩ := hy
    rcases List.mem_cons.1 hu with rfl | hu
    · exact oneA_spec hC h.1 h1
    · exact oneAs_spec hC h.2 h2 u hu

theorem cellsOf_spec {ρ : Nat → Value} {x : AV} {cs : List AV} (h : cellsOf x = some cs) {y : Value} (hy : RelV w0 ρ nx x y) (h1 : ∀ u, y.cells.toList = [u] → True) : RelVs w0 ρ nx cs y.cells.toList ∨ (cs = [x] ∧ ∃ l, y = .agg l) := by
  cases x <;> simp only [cellsOf] at h
  case agg cs' =>
    cases h
    simp only [RelV] at hy
    obtain ⟨ys, rfl, h2⟩ := hy
    exact .inl (by simpa [Value.cells] using h2)
  case v x =>
    simp only [RelV] at hy
    subst hy
    cases y <;> simp only [cellsOf] at h <;> try cases h
    case agg l => rw [avO_eq, rev_eq] at h; simp at h; subst h; exact .inl (by simpa [Value.cells] using RelVs.map_v l.toList)
    all_goals exact .inl (by simp only [Value.cells, RelVs]; exact ⟨_, _, rfl, by simp only [RelV], rfl⟩)
  case tup => cases h
  all_goals
    cases h
    cases y
    case agg l => exact .inr ⟨rfl, l, rfl⟩
    all_goals exact .inl (by simp only [Value.cells, RelVs]; exact ⟨_, _, rfl, hy, rfl⟩)

/-- the cells, each of one cell -/
theorem cells_rel {ρ : Nat → Value} {w : World} (hC : RelC w0 ρ m nx w) {x : AV} {cs : List AV} (h : cellsOf x = some cs) (ho : oneAs m cs = true) {y : Value} (hy : RelV w0 ρ nx x y) : RelVs w0 ρ nx cs y.cells.toList ∧ ∀ u ∈ y.cells.toList, u.oneCell' = true := by
  rcases cellsOf_spec h hy (fun _ _ => trivial) with h2 | ⟨rfl, l, rfl⟩
  · exact ⟨h2, oneAs_spec hC ho h2⟩
  · simp only [oneAs, Bool.and_eq_true] at ho
    have := oneA_spec hC ho.1 hy
    simp [Value.oneCell'] at this

theorem RelC.alloc {ρ : Nat → Value} {w : World} (hC : RelC w0 ρ m nx w) (ob : Obj) : RelC w0 ρ m nx (w.alloc ob) := hC.trans ((Below.refl _ _).alloc (Nat.le_refl _) ob)

theorem WX_box_core {t : TypeId} {cs : List AV} (nx' : Nat) (hn' : Nat.beq nx' (Nat.succ nx) = true) (hd : o.dst = some d) (hlt : Nat.blt d nt = true)
    (hrun : ∀ ρ a w, RelT w0 ρ T nx nt a → RelC w0 ρ m nx w → ∃ l : List Value, RelVs w0 ρ nx cs l ∧ (∀ u ∈ l, u.oneCell' = true) ∧ (execOp a.eval o).run P w = .ok (.value (.pointer (some ⟨w.heap.size, 0, none⟩))) (w.alloc (.cells l.toArray t)))
    (hk : WL P w0 ops rest ⟨(d, .ptr nx 0) :: T, (nx, some (.box cs)) :: m, nx', nt⟩ Q) : WX P w0 ops o rest ⟨T, m, nx, nt⟩ Q := by
  intro ρ a w hT hC
  have hn'' := Nat.eq_of_beq_eq_true hn'
  subst hn''
  obtain ⟨l, hl, h1, hr⟩ := hrun ρ a w hT hC
  unfold Oper.wp
  rw [hr, Oper.upon_value, hd]
  have hkeep : ∀ i, i < nx → upd ρ nx (.pointer (some ⟨w.heap.size, 0, none⟩)) i = ρ i := fun i hi => upd_other ρ _ (by omega)
  refine hk (upd ρ nx (.pointer (some ⟨w.heap.size, 0, none⟩))) _ _ ((hT.add _).put hlt ?_) ((hC.alloc _).add ?_ ?_ (fun b hb => (by simp [blk] at hb; subst hb; exact hC.fresh (Nat.le_refl _))))
  · simp only [RelV]
    exact ⟨by omega, _, upd_same _ _ _, rfl⟩
  · refine ⟨w.heap.size, l.toArray, t, upd_same _ _ _, hC.below.size, ?_, ?_, by simpa using h1⟩
    · exact Go.heap_alloc_new w _
    · simpa using RelVs.mono (by omega) hkeep _ hl
  · intro id row hm b hb
    have := hC.lt hm hb
    simp [blk]
    omega

theorem WX_box {t : TypeId} {x : Operand} {ax : AV} {cs : List AV} (nx' : Nat) (hn' : Nat.beq nx' (Nat.succ nx) = true) (hd : o.dst = some d) (hlt : Nat.blt d nt = true) (ho : o.op = .box t x) (hx : ev T x = some ax) (hc : cellsOf ax = some cs) (h1 : oneAs m cs = true)
    (hk : WL P w0 ops rest ⟨(d, .ptr nx 0) :: T, (nx, some (.box cs)) :: m, nx', nt⟩ Q) : WX P w0 ops o rest ⟨T, m, nx, nt⟩ Q := by
  refine WX_box_core (t := t) nx' hn' hd hlt (fun ρ a w hT hC => ?_) hk
  obtain ⟨h2, h3⟩ := cells_rel hC hc h1 (hT.ev hx)
  refine ⟨_, h2, h3, ?_⟩
  simp [execOp, ho, Instr.box, newVar, newRow]

theorem WX_alloc_s {t : TypeId} {fs : List (Nat × Nat)} {zs : List Value} (G : Good P tb) (nx' : Nat) (hn' : Nat.beq nx' (Nat.succ nx) = true) (hd : o.dst = some d) (hlt : Nat.blt d nt = true) (ho : o.op = .alloc t) (ht : look t tb = some (.struct fs zs))
    (hk : WL P w0 ops rest ⟨(d, .ptr nx 0) :: T, (nx, some (.box (avR zs []))) :: m, nx', nt⟩ Q) : WX P w0 ops o rest ⟨T, m, nx, nt⟩ Q := by
  refine WX_box_core (t := t) nx' hn' hd hlt (fun ρ a w hT hC => ?_) hk
  obtain ⟨fields, i, _, hi, _, hz, h1, _⟩ := G t _ ht
  refine ⟨zs, by rw [avR_eq]; exact RelVs.map_v zs, h1, ?_⟩
  simp [execOp, ho, Instr.alloc, zeroValue, typeInfo, hi, hz, newVar, newRow, Value.cells]
theorem cells_one {z : Value} (h : z.oneCell' = true) : z.cells = #[z] := by cases z <;> first | rfl | cases h
theorem WX_alloc_f {t : TypeId} {fk : FK} {z : Value} (G : Good P tb) (nx' : Nat) (hn' : Nat.beq nx' (Nat.succ nx) = true) (hd : o.dst = some d) (hlt : Nat.blt d nt = true) (ho : o.op = .alloc t) (ht : look t tb = some (.flat fk z))
    (hk : WL P w0 ops rest ⟨(d, .ptr nx 0) :: T, (nx, some (.box [.v z])) :: m, nx', nt⟩ Q) : WX P w0 ops o rest ⟨T, m, nx, nt⟩ Q := by
  refine WX_box_core (t := t) nx' hn' hd hlt (fun ρ a w hT hC => ?_) hk
  obtain ⟨_, _, i, hi, hz, _, h1⟩ := G t _ ht
  refine ⟨[z], by simp only [RelVs, RelV]; exact ⟨_, _, rfl, rfl, rfl⟩, by simpa using h1, ?_⟩
  simp [execOp, ho, Instr.alloc, zeroValue, typeInfo, hi, hz, newVar, newRow, cells_one h1]
theorem WX_alloc_sl {t e sz by_ : Nat} {zs : List Value} (G : Good P tb) (nx' : Nat) (hn' : Nat.beq nx' (Nat.succ nx) = true) (hd : o.dst = some d) (hlt : Nat.blt d nt = true) (ho : o.op = .alloc t) (ht : look t tb = some (.slice e sz by_ zs))
    (hk : WL P w0 ops rest ⟨(d, .ptr nx 0) :: T, (nx, some (.box [.v (.slice none 0 0)])) :: m, nx', nt⟩ Q) : WX P w0 ops o rest ⟨T, m, nx, nt⟩ Q := by
  refine WX_box_core (t := t) nx' hn' hd hlt (fun ρ a w hT hC => ?_) hk
  obtain ⟨_, ⟨i, hi, hz, _⟩, _⟩ := G t _ ht
  refine ⟨[.slice none 0 0], by simp only [RelVs, RelV]; exact ⟨_, _, rfl, rfl, rfl⟩, by simp [Value.oneCell'], ?_⟩
  simp [execOp, ho, Instr.alloc, zeroValue, typeInfo, hi, hz, newVar, newRow, Value.cells]

/-! a row that is written -/
/-- only the block of row 'id' has been written; the row reads anew -/
theorem RelC.change {ρ : Nat → Value} {w w' : World} (hC : RelC w0 ρ m nx w) {id : Nat} {row row' : Row} (hm : mem m id = some row) {g : Nat} (hg : blk (ρ id) = some g) (hgr : w.grownBy w' (some g)) (hB : w0.w.heap.size ≤ g)
    (hrow' : RowRel w0 ρ nx w' id row') : RelC w0 ρ ((id, some row') :: m) nx w' := by
  refine ⟨fun i r hr => ?_, fun i i' r r' hr hr' hne b hb => ?_, hC.below.grown hgr hC.below.size (fun k hk => by cases hk; exact hB), hC.pin, Nat.le_trans hC.kept.1 hgr.size, fun b hk => (hgr.block b (Nat.lt_of_lt_of_le (w0.kb b hk) hC.kept.1) (fun e => (by cases e; exact hC.kept.2.2 id row hm _ hg hk))).trans (hC.kept.2.1 b hk), fun i r hr b hb => ?_⟩
  · by_cases e : id = i
    · subst e
      rw [mem_cons_same] at hr
      cases hr
      exact ⟨(hC.rows id _ hm).1, hrow'⟩
    · rw [mem_cons_other e] at hr
      obtain ⟨h1, h2⟩ := hC.rows i r hr
      refine ⟨h1, ?_⟩
      cases r with
      | box cs =>
        obtain ⟨b, cur, ty, h3, h4, h5, h6⟩ := h2
        have hne : b ≠ g := fun hbg => by
          subst hbg
          exact hC.apart i id _ _ hr hm (Ne.symm e) b (by rw [h3]; rfl) hg
        exact ⟨b, cur, ty, h3, h4, by rw [hgr.block b (Array.getElem?_eq_some_iff.1 h5).1 (by simpa using hne)]; exact h5, h6⟩
      | spare e' sz ys gs =>
        obtain ⟨b, cur, h3, h4, h5, h6⟩ := h2
        have hne : b ≠ g := fun hbg => by
          subst hbg
          exact hC.apart i id _ _ hr hm (Ne.symm e) b (by rw [h3]; rfl) hg
        exact ⟨b, cur, h3, h4, by rw [hgr.block b (Array.getElem?_eq_some_iff.1 h5).1 (by simpa using hne)]; exact h5, h6⟩
      | byt bs =>
        obtain ⟨b, cap, cur, e', fz, h3, h4, h5, h6⟩ := h2
        have hne : b ≠ g := fun hbg => by
          subst hbg
          exact hC.apart i id _ _ hr hm (Ne.symm e) b (by rw [h3]; rfl) hg
        exact ⟨b, cap, cur, e', fz, h3, h4, by rw [hgr.block b (Array.getElem?_eq_some_iff.1 h5).1 (by simpa using hne)]; exact h5, h6⟩
      | row e' sz ys =>
        refine ⟨⟨h2.1.1, ?_⟩, h2.2⟩
        rcases h2.1.2 with h3 | ⟨g', cap, cur, h3, h4, h5, h6⟩
        · exact .inl h3
        · have hne : g' ≠ g := fun hbg => by
            subst hbg
            exact hC.apart i id _ _ hr hm (Ne.symm e) g' (by rw [h3]; rfl) hg
          exact .inr ⟨g', cap, cur, h3, h4, by rw [hgr.block g' (Array.getElem?_eq_some_iff.1 h5).1 (by simpa using hne)]; exact h5, h6⟩
  · have hold : ∀ i r, mem ((id, some row') :: m) i = some r → ∃ r', mem m i = some r' := fun i r hr => by
      by_cases e : id = i
      · subst e; exact ⟨_, hm⟩
      · rw [mem_cons_other e] at hr; exact ⟨_, hr⟩
    obtain ⟨r1, h1⟩ := hold i r hr
    obtain ⟨r2, h2⟩ := hold i' r' hr'
    exact hC.apart i i' r1 r2 h1 h2 hne b hb
  · by_cases e : id = i
    · subst e; exact hC.kept.2.2 _ row hm b hb
    · rw [mem_cons_other e] at hr; exact hC.kept.2.2 i r hr b hb

theorem grownBy_setRow (w : World) (g : Nat) (cs : Array Value) : w.grownBy (w.setRow g cs) (some g) :=
  ⟨rfl, rfl, rfl, by simp [World.setRow], fun k _ hk => setRow_other w g k cs (fun e => hk (by rw [e]))⟩

/-- cells laid over others, from 'off' on -/
def setN {α : Type} : List α → Nat → List α → List α → List α
  | [], _, _, acc => rev acc []
  | x :: r, 0, [], acc => setN r 0 [] (x :: acc)
  | _ :: r, 0, y :: ys, acc => setN r 0 ys (y :: acc)
  | x :: r, n + 1, ys, acc => setN r n ys (x :: acc)
theorem setN_eq {α : Type} : ∀ (l : List α) (off : Nat) (ys acc : List α), off + ys.length ≤ l.length → setN l off ys acc = acc.reverse ++ (l.take off ++ ys ++ l.drop (off + ys.length))
  | [], off, ys, acc, h => by
    have h1 : off = 0 := by simp at h; omega
    have h2 : ys = [] := by cases ys with | nil => rfl | cons _ _ => simp at h
    subst h1; subst h2
    simp [setN, rev_eq]
  | x :: r, 0, [], acc, h => by simp [setN, setN_eq r 0 [] (x :: acc) (by simp)]
  | _ :: r, 0, y :: ys, acc, h => by
    have := setN_eq r 0 ys (y :: acc) (by simp at h ⊢; omega)
    simp [setN, this]
  | x :: r, n + 1, ys, acc, h => by
    have := setN_eq r n ys (x :: acc) (by simp at h ⊢; omega)
    simp only [setN, this]
    have e : n + 1 + ys.length = (n + ys.length) + 1 := by omega
    simp [e]

def setO {α : Type} : List α → Nat → List α → List α → Option (List α)
  | [], _, _, acc => revO acc []
  | x :: r, 0, [], acc => setO r 0 [] (x :: acc)
  | _ :: r, 0, y :: ys, acc => setO r 0 ys (y :: acc)
  | x :: r, n + 1, ys, acc => setO r n ys (x :: acc)
theorem setO_eq {α : Type} : ∀ (l : List α) (off : Nat) (ys acc : List α), setO l off ys acc = some (setN l off ys acc)
  | [], _, _, acc => by simp [setO, setN, revO_eq, rev_eq]
  | x :: r, 0, [], acc => by simp [setO, setN, setO_eq r]
  | _ :: r, 0, y :: ys, acc => by simp [setO, setN, setO_eq r]
  | x :: r, n + 1, ys, acc => by simp [setO, setN, setO_eq r]

theorem run_store_at {t : TypeId} {i : TyI} (G : TyOK P t i) {w : World} {g off : Nat} {cur : Array Value} {ty : TypeId} (hg : w.heap[g]? = some (.cells cur ty (0, 0))) {v : Value} (hl : v.cells.size = sizeI i) (h1 : ∀ u ∈ v.cells.toList, u.oneCell' = true) (hfit : off + v.cells.size ≤ cur.size) :
    (Instr.storeAt t (.pointer (some ⟨g, off, none⟩)) v).run P w = .ok () (w.setRow g (cur.toList.take off ++ v.cells.toList ++ cur.toList.drop (off + v.cells.size)).toArray) := by
  have := run_storeCells_at (P := P) g off ty v.cells.toList 0 cur w hg (by simpa using hfit) h1
  simp [Instr.storeAt, Instr.sureAddr, storeVar, G.run_sizeOf w, hl] at this ⊢
  rw [this]

theorem WX_store {t : TypeId} {i : TyI} {x y : Operand} {id off : Nat} {cs vs cs' : List AV} {ay : AV} (G : Good P tb) (hd : o.dst = none) (ho : o.op = .store t x y) (ht : look t tb = some i) (hx : ev T x = some (.ptr id off)) (hm : mem m id = some (.box cs))
    (hy : ev T y = some ay) (hv : cellsOf ay = some vs) (h1 : oneAs m vs = true) (hl : Nat.beq vs.length (sizeI i) = true) (hfit : Nat.ble (off + vs.length) cs.length = true) (hs : setO cs off vs [] = some cs')
    (hk : WL P w0 ops rest ⟨T, (id, some (.box cs')) :: m, nx, nt⟩ Q) : WX P w0 ops o rest ⟨T, m, nx, nt⟩ Q := by
  intro ρ a w hT hC
  have hax := hT.ev hx
  simp only [RelV] at hax
  obtain ⟨hn, g, hg, he⟩ := hax
  obtain ⟨b, cur, ty, hρ, hB, hb, hR, hone⟩ := hC.box hm
  have hgb : g = b := by rw [hg] at hρ; simpa using hρ
  subst hgb
  obtain ⟨h2, h3⟩ := cells_rel hC hv h1 (hT.ev hy)
  have hlen := RelVs.length _ h2
  have hlen2 := RelVs.length _ hR
  simp at hlen hlen2
  have hl' : vs.length = sizeI i := Nat.eq_of_beq_eq_true hl
  have hfit' : off + vs.length ≤ cs.length := Nat.le_of_ble_eq_true hfit
  have hrun := run_store_at (P := P) (G t i ht) hb (off := off) (v := a.eval y) (by omega) h3 (by omega)
  unfold Oper.wp
  have hr : (execOp a.eval o).run P w = .ok .skip (w.setRow g (cur.toList.take off ++ (a.eval y).cells.toList ++ cur.toList.drop (off + (a.eval y).cells.size)).toArray) := by
    simp only [execOp, ho, he, Sem.run_bind, hrun, Result.andThen_ok, Sem.run_pure]
  rw [hr, Oper.upon_skip, hd]
  refine hk ρ _ _ hT.put_none (hC.change hm (by rw [hg]; rfl) (grownBy_setRow w g _) hB ?_)
  refine ⟨g, _, ty, hg, hB, setRow_heap w g cur _ ty _ hb, ?_, ?_⟩
  · rw [setO_eq] at hs
    cases hs
    rw [setN_eq _ _ _ _ hfit']
    simp only [List.reverse_nil, List.nil_append]
    have hsz : (a.eval y).cells.size = vs.length := by omega
    rw [hsz]
    exact RelVs.append _ (RelVs.append _ (RelVs.take off _ hR) h2) (RelVs.drop _ _ hR)
  · intro u hu
    simp only [List.mem_append] at hu
    rcases hu with (hu | hu) | hu
    · exact hone u (List.mem_of_mem_take hu)
    · exact h3 u hu
    · exact hone u (List.mem_of_mem_drop hu)

/-- a store into an element of a row of the call's own -/
theorem flatten_set {sz : Nat} : ∀ {ys : List (List Value)}, (∀ c ∈ ys, c.length = sz) → ∀ {i : Nat} {c c' : List Value} {k : Nat} {vs : List Value}, ys[i]? = some c → k + vs.length ≤ sz → c' = c.take k ++ vs ++ c.drop (k + vs.length) →
    (ys.set i c').flatten = ys.flatten.take (i * sz + k) ++ vs ++ ys.flatten.drop (i * sz + k + vs.length)
  | [], _, i, c, _, _, _, h, _, _ => by simp at h
  | y :: ys, hall, i, c, c', k, vs, hi, hk, hc => by
    have hy : y.length = sz := hall y (by simp)
    match i with
    | 0 =>
      simp at hi
      subst hi
      simp only [List.set_cons_zero, List.flatten_cons, Nat.zero_mul, Nat.zero_add]
      rw [List.take_append_of_le_length (by omega), List.drop_append_of_le_length (by omega), hc]
      simp
    | i + 1 =>
      simp at hi
      have ih := flatten_set (fun c hc => hall c (by simp [hc])) hi hk hc
      simp only [List.set_cons_succ, List.flatten_cons]
      rw [ih]
      have e1 : (i + 1) * sz + k = y.length + (i * sz + k) := by rw [hy, Nat.add_mul]; omega
      rw [e1, List.take_length_add_append, Nat.add_assoc y.length, List.drop_length_add_append]
      simp

theorem WX_store_row {t : TypeId} {i : TyI} {x y : Operand} {id sz j k e : Nat} {ys : List (List Value)} {c vs c' : List Value} {ay : AV} {cs : List AV} (G : Good P tb) (hd : o.dst = none) (ho : o.op = .store t x y) (ht : look t tb = some i) (hx : ev T x = some (.rpt id sz j k)) (hm : mem m id = some (.row e sz ys))
    (hc : ys[j]? = some c) (hy : ev T y = some ay) (hv : cellsOf ay = some cs) (hv2 : vaR cs [] = some vs) (h1 : oneAs m cs = true) (hl : Nat.beq vs.length (sizeI i) = true) (hfit : k + vs.length ≤ c.length) (hs : setO c k vs [] = some c')
    (hk : WL P w0 ops rest ⟨T, (id, some (.row e sz (ys.set j c'))) :: m, nx, nt⟩ Q) : WX P w0 ops o rest ⟨T, m, nx, nt⟩ Q := by
  intro ρ a w hT hC
  have hax := hT.ev hx
  simp only [RelV] at hax
  obtain ⟨hn, g, l, cp, hg, he⟩ := hax
  obtain ⟨hrow, hall⟩ := hC.row hm
  obtain ⟨vs', hcs, hvs⟩ := vaR_spec _ _ _ hv2
  simp at hvs
  subst hvs
  obtain ⟨h2, h3⟩ := cells_rel hC hv h1 (hT.ev hy)
  rw [hcs] at h2
  have hcells := RelVs.map_v_eq _ h2
  have hl' : vs.length = sizeI i := Nat.eq_of_beq_eq_true hl
  have hsz : (a.eval y).cells.size = vs.length := by rw [← hcells]; simp
  rcases hrow.2 with ⟨hnil, _⟩ | ⟨g', cap, cur, hsl, hB, hb, hcap, hcapm, hcur, htake⟩
  · rw [hg] at hnil; cases hnil
  · have hgg : g = g' ∧ l = ys.length ∧ cp = cap := by rw [hg] at hsl; simpa using hsl
    obtain ⟨rfl, rfl, rfl⟩ := hgg
    have hjl : j < ys.length := by
      rcases Nat.lt_or_ge j ys.length with hlt | hge
      · exact hlt
      · rw [List.getElem?_eq_none hge] at hc; cases hc
    have hcl : c.length = sz := (hall c (List.mem_of_getElem? hc)).1
    have hbd : j * sz + k + vs.length ≤ ys.length * sz := by
      have : (j + 1) * sz ≤ ys.length * sz := Nat.mul_le_mul_right _ hjl
      rw [Nat.add_mul] at this
      omega
    have hbd2 : ys.length * sz ≤ cur.size := by rw [hcur]; exact Nat.mul_le_mul_right _ hcap
    have hrun := run_store_at (P := P) (G t i ht) hb (off := j * sz + k) (v := a.eval y) (by omega) h3 (by omega)
    unfold Oper.wp
    have hr : (execOp a.eval o).run P w = .ok .skip (w.setRow g (cur.toList.take (j * sz + k) ++ (a.eval y).cells.toList ++ cur.toList.drop (j * sz + k + (a.eval y).cells.size)).toArray) := by
      simp only [execOp, ho, he, Sem.run_bind, hrun, Result.andThen_ok, Sem.run_pure]
    rw [hr, Oper.upon_skip, hd]
    have hc' : c' = c.take k ++ vs ++ c.drop (k + vs.length) := by rw [setO_eq] at hs; cases hs; rw [setN_eq _ _ _ _ hfit]; simp
    have hlen' : ∀ c'' ∈ ys.set j c', c''.length = sz ∧ ∀ u ∈ c'', u.oneCell' = true := by
      intro c'' hmem
      rcases List.mem_or_eq_of_mem_set hmem with hmem | rfl
      · exact hall c'' hmem
      · refine ⟨by rw [hc']; simp; omega, fun u hu => ?_⟩
        rw [hc'] at hu
        simp only [List.mem_append] at hu
        have hcone := (hall c (List.mem_of_getElem? hc)).2
        rcases hu with (hu | hu) | hu
        · exact hcone u (List.mem_of_mem_take hu)
        · rw [← hcells] at hu; exact h3 u hu
        · exact hcone u (List.mem_of_mem_drop hu)
    refine hk ρ _ _ hT.put_none (hC.change hm (by rw [hg]; rfl) (grownBy_setRow w g _) hB ⟨⟨?_, .inr ⟨g, cp, _, by rw [hg]; simp, hB, setRow_heap w g cur _ e _ hb, by simpa using hcap, hcapm, ?_, ?_⟩⟩, hlen'⟩)
    · rw [flatten_length (fun c hc => (hlen' c hc).1)]
    · simp [hsz]; omega
    · rw [flatten_set (fun c hc => (hall c hc).1) hc (by omega) hc', hcells, hsz, ← htake]
      simp only [List.length_set]
      have hlt1 : (List.take (j * sz + k) cur.toList).length = j * sz + k := by rw [List.length_take]; simp; omega
      simp only [List.take_append, List.take_take, List.drop_take, List.length_append, hlt1]
      rw [Nat.min_eq_left (by omega : j * sz + k ≤ ys.length * sz), Nat.min_eq_right (by omega : j * sz + k ≤ ys.length * sz)]
      rw [List.take_of_length_le (l := vs) (by omega)]

def setL : List Value → Nat → List Value → List Value
  | l, _, [] => l
  | l, off, x :: r => setL (l.set off x) (off + 1) r
theorem setL_length : ∀ (l : List Value) (off : Nat) (r : List Value), (setL l off r).length = l.length
  | l, _, [] => rfl
  | l, off, x :: r => by simp [setL, setL_length]
theorem setL_eq : ∀ (l : List Value) (off : Nat) (r : List Value), off + r.length ≤ l.length → setL l off r = l.take off ++ r ++ l.drop (off + r.length)
  | l, off, [], _ => by simp [setL]
  | l, off, x :: r, h => by
    have ih := setL_eq (l.set off x) (off + 1) r (by simp at h ⊢; omega)
    rw [setL, ih]
    have h2 : off < l.length := by simp at h; omega
    have e1 : (l.set off x).take (off + 1) = l.take off ++ [x] := by
      rw [List.take_succ_eq_append_getElem (by simpa using h2)]
      have : (l.set off x).take off = l.take off := by
        rw [List.take_set]
        exact List.set_eq_of_length_le (by rw [List.length_take]; omega)
      simp [this]
    have e2 : (l.set off x).drop (off + 1 + r.length) = l.drop (off + (x :: r).length) := by
      rw [List.drop_set_of_lt (by omega)]
      congr 1
      simp; omega
    rw [e1, e2]
    simp

/-! a slice literal -/
theorem fill_from {sz : Nat} : ∀ (vs : List Value) (k : Nat) (cells : Array Value), (∀ v ∈ vs, v.cells.size = sz) → (k + vs.length) * sz = cells.size →
    Instr.fill (fun i => some (i * sz, sz)) cells ((vs.zipIdx k).map fun p => (p.2, p.1)) = some (cells.toList.take (k * sz) ++ (vs.map (·.cells.toList)).flatten).toArray
  | [], k, cells, _, hl => by
    have : cells.toList.take (k * sz) = cells.toList := List.take_of_length_le (by simp at hl ⊢; omega)
    simp [Instr.fill, this]
  | v :: vs, k, cells, hall, hl => by
    have hv : v.cells.size = sz := hall v (by simp)
    have hfold : ∀ (l : List Value) (j : Nat) (cs : Array Value), (l.zipIdx j).foldl (fun cs (p : Value × Nat) => cs.setIfInBounds (k * sz + p.2) p.1) cs = (setL cs.toList (k * sz + j) l).toArray := by
      intro l
      induction l with
      | nil => intro j cs; simp [setL]
      | cons x l ih =>
        intro j cs
        simp only [List.zipIdx_cons, List.foldl_cons, ih]
        simp [setL, Nat.add_assoc]
    have hsz2 : k * sz + sz ≤ cells.size := by
      rw [← hl]
      simp only [List.length_cons, Nat.add_mul]
      omega
    simp only [List.zipIdx_cons, List.map_cons, Instr.fill]
    rw [if_neg (by simp [hv]; omega)]
    have e1 : v.cells.zipIdx.foldl (fun cs (x : Value × Nat) => cs.setIfInBounds (k * sz + x.2) x.1) cells = (setL cells.toList (k * sz) v.cells.toList).toArray := by
      have := hfold v.cells.toList 0 cells
      rw [← Array.foldl_toList]
      simpa using this
    have e2 : (v.cells.zipIdx.foldl (fun cs (x : Value × Nat) => match x with | (c, j) => cs.setIfInBounds (k * sz + j) c) cells) = (setL cells.toList (k * sz) v.cells.toList).toArray := e1
    rw [e2]
    have ih := fill_from vs (k + 1) (setL cells.toList (k * sz) v.cells.toList).toArray (fun v hv => hall v (by simp [hv])) (by
      simp only [List.length_cons] at hl
      simp [setL_length]
      rw [← hl]; congr 1; omega)
    rw [ih]
    have e3 := setL_eq cells.toList (k * sz) v.cells.toList (by simp; omega)
    simp only [e3]
    congr 1
    congr 1
    have hl1 : (List.take (k * sz) cells.toList ++ v.cells.toList).length = (k + 1) * sz := by
      simp [Nat.add_mul]; omega
    rw [List.take_append_of_le_length (by omega), List.take_of_length_le (by omega)]
    simp
end
end Go.Rf
