/- More operations that only read: memory, strings, calls of functions that answer a plain value. -/
import Derived.Test.YtehijimgenicfaaRfB
set_option linter.unusedVariables false
set_option linter.unusedSectionVars false
set_option linter.unusedSimpArgs false
namespace Go.Rf
open Go Go.RowKit

section
variable {w0 : Base} {ρ : Nat → Value} {m : List (Nat × Option Row)} {nx : Nat}

theorem add_block (a : Addr) (n : Nat) : (a.add n).block = a.block := by unfold Addr.add; split <;> rfl
theorem add_add' (a : Addr) (i j : Nat) : (a.add i).add j = a.add (i + j) := by
  unfold Addr.add
  by_cases hi : i = 0 <;> by_cases hj : j = 0 <;> simp [hi, hj, Nat.add_assoc]

theorem RelC.old {w : World} (h : RelC w0 ρ m nx w) {p : Addr} (hp : p.block < w0.w.heap.size) : w.cell? p = w0.w.cell? p := h.below.cell hp

/-- A box, opened. -/
theorem RelC.box {w : World} (h : RelC w0 ρ m nx w) {id : Nat} {cs : List AV} (hm : mem m id = some (.box cs)) : ∃ b cur ty, ρ id = .pointer (some ⟨b, 0, none⟩) ∧ w0.w.heap.size ≤ b ∧ w.heap[b]? = some (.cells cur ty (0, 0)) ∧ RelVs w0 ρ nx cs cur.toList ∧ ∀ u ∈ cur.toList, u.oneCell' = true :=
  (h.rows id _ hm).2
theorem RelC.row {w : World} (h : RelC w0 ρ m nx w) {id e sz : Nat} {ys : List (List Value)} (hm : mem m id = some (.row e sz ys)) : w.ownsRow w0.w.heap.size e sz (ρ id) ys.length ys.flatten ∧ ∀ c ∈ ys, c.length = sz ∧ ∀ u ∈ c, u.oneCell' = true :=
  (h.rows id _ hm).2

/-- A place in a list of lists. -/
theorem flatten_at {ys : List (List Value)} {sz : Nat} : (∀ c ∈ ys, c.length = sz) → ∀ {i : Nat} {c : List Value}, ys[i]? = some c → ∀ {j : Nat}, j < sz → ys.flatten[i * sz + j]? = c[j]? := by
  induction ys with
  | nil => intro _ i c h; simp at h
  | cons y ys ih =>
    intro hall i c hi j hj
    have hy : y.length = sz := hall y (by simp)
    match i with
    | 0 =>
      simp at hi
      subst hi
      simp only [List.flatten_cons, Nat.zero_mul, Nat.zero_add]
      rw [List.getElem?_append_left (by omega)]
    | i + 1 =>
      simp at hi
      have := ih (fun c hc => hall c (by simp [hc])) hi hj
      rw [← this, List.flatten_cons, List.getElem?_append_right (by rw [hy, Nat.add_mul]; omega)]
      congr 1
      rw [hy, Nat.add_mul]
      omega
theorem flatten_length {ys : List (List Value)} {sz : Nat} (h : ∀ c ∈ ys, c.length = sz) : ys.flatten.length = ys.length * sz := by
  induction ys with
  | nil => simp
  | cons y ys ih => simp [ih (fun c hc => h c (by simp [hc])), h y (by simp), Nat.add_mul, Nat.add_comm]

theorem RelC.rowCell {w : World} (h : RelC w0 ρ m nx w) {id e sz : Nat} {ys : List (List Value)} (hm : mem m id = some (.row e sz ys)) {g l c : Nat} (hρ : ρ id = .slice (some ⟨g, 0, none⟩) l c)
    {i : Nat} {cs : List Value} (hi : ys[i]? = some cs) {j : Nat} {u : Value} (hj : cs[j]? = some u) : w.cell? ⟨g, i * sz + j, none⟩ = some u := by
  obtain ⟨h1, h2⟩ := h.row hm
  rw [hρ] at h1
  have hlen : cs.length = sz := (h2 cs (List.mem_of_getElem? hi)).1
  have hjl : j < sz := by
    rcases Nat.lt_or_ge j cs.length with hlt | hge
    · omega
    · rw [List.getElem?_eq_none hge] at hj; cases hj
  have hil : i < ys.length := by
    rcases Nat.lt_or_ge i ys.length with hlt | hge
    · exact hlt
    · rw [List.getElem?_eq_none hge] at hi; cases hi
  have hf := flatten_at (sz := sz) (fun c hc => (h2 c hc).1) hi hjl
  have := h1.cells (g := g) rfl (i * sz + j) u (by rw [hf, hj])
  simpa [Addr.add_lit] using this
end

section
variable {P : Program} [Env P] {tb : List (Nat × TyI)} {o : Oper} {T : List (Nat × AV)} {m : List (Nat × Option Row)} {nx nt : Nat} {r : AV}

/-- the type is of one cell -/
def flatB : TyI → Bool
  | .struct _ _ => false
  | _ => true
theorem TyOK.run_isAgg {t : TypeId} {i : TyI} (h : TyOK P t i) (w : World) : (isAgg t).run P w = .ok (!flatB i) w := by
  unfold isAgg
  cases i with
  | flat fk z =>
    obtain ⟨_, ⟨d, hd, h1, h2⟩, _⟩ := h
    simp only [Sem.run_bind, run_underlying hd, Result.andThen_ok, flatB]
    cases d <;> simp_all
  | slice e sz by_ zs =>
    simp only [Sem.run_bind, run_underlying h.1, Result.andThen_ok, flatB]
    simp
  | struct fs zs =>
    obtain ⟨fields, i, hu, _⟩ := h
    simp only [Sem.run_bind, run_underlying hu, Result.andThen_ok, flatB]
    simp
def sizeI : TyI → Nat
  | .struct _ zs => zs.length
  | _ => 1
theorem TyOK.run_sizeOf {t : TypeId} {i : TyI} (h : TyOK P t i) (w : World) : (sizeOf t).run P w = .ok (sizeI i) w := by
  cases i with
  | flat fk z => obtain ⟨_, _, i, hi, _, h1, _⟩ := h; simp [sizeOf, typeInfo, hi, h1, sizeI]
  | slice e sz by_ zs => obtain ⟨_, ⟨i, hi, _, h1⟩, _⟩ := h; simp [sizeOf, typeInfo, hi, h1, sizeI]
  | struct fs zs => obtain ⟨fields, i, hu, hi, h1, _⟩ := h; simp [sizeOf, typeInfo, hi, h1, sizeI]

/-- load of one cell, of whatever memory -/
theorem run_load_flat {t : TypeId} {i : TyI} (G : TyOK P t i) (hf : flatB i = true) {w : World} {p : Addr} {u : Value} (h : w.cell? p = some u) : (Instr.loadAt t (.pointer (some p))).run P w = .ok u w := by
  simp [Instr.loadAt, Instr.sureAddr, loadVar, G.run_isAgg w, hf, h]
theorem run_load_struct {t : TypeId} {fs : List (Nat × Nat)} {zs : List Value} (G : TyOK P t (.struct fs zs)) {w : World} {p : Addr} {us : List Value} (hl : us.length = zs.length) (h : ∀ j u, us[j]? = some u → w.cell? (p.add j) = some u) :
    (Instr.loadAt t (.pointer (some p))).run P w = .ok (.agg us.toArray) w := by
  have h1 := run_loadCells_list (P := P) w p us h
  rw [hl] at h1
  simp [Instr.loadAt, Instr.sureAddr, loadVar, G.run_isAgg w, flatB, G.run_sizeOf w, sizeI, h1]

theorem heap_cell {w : World} {b : Nat} {cur : Array Value} {ty : TypeId} {fr : Nat × Nat} (h : w.heap[b]? = some (.cells cur ty fr)) (i : Nat) : w.cell? ⟨b, i, none⟩ = cur.toList[i]? := by
  simp [World.cell?, h]

theorem det_v {w0 : World} {ρ : Nat → Value} {nx : Nat} {x : Value} {y : Value} (h : RelV w0 ρ nx (.v x) y) : y = x := by simpa only [RelV] using h

/-- what a cell of a box must be known to be so that its value is one in every world -/
def detA : AV → Bool
  | .v _ => true
  | .own _ => true
  | .ptr _ _ => true
  | .rpt _ _ _ _ => true
  | .pin _ _ _ => true
  | _ => false
theorem detA_eq {w0 : World} {ρ : Nat → Value} {nx : Nat} {c : AV} (hd : detA c = true) {y y' : Value} (h : RelV w0 ρ nx c y) (h' : RelV w0 ρ nx c y') : y' = y := by
  cases c <;> simp [detA] at hd <;> simp only [RelV] at h h'
  case v => rw [h, h']
  case own => rw [h.2, h'.2]
  case pin => rw [h.1, h'.1]
  case ptr =>
    obtain ⟨_, g, h1, rfl⟩ := h
    obtain ⟨_, g', h1', rfl⟩ := h'
    rw [h1] at h1'
    simp at h1'
    rw [h1']
  case rpt =>
    obtain ⟨_, g, l, c, h1, rfl⟩ := h
    obtain ⟨_, g', l', c', h1', rfl⟩ := h'
    rw [h1] at h1'
    simp at h1'
    rw [h1'.1]
def detAs : List AV → Bool
  | [] => true
  | c :: cs => detA c && detAs cs
theorem detAs_eq {w0 : World} {ρ : Nat → Value} {nx : Nat} : ∀ {cs : List AV}, detAs cs = true → ∀ {y y' : List Value}, RelVs w0 ρ nx cs y → RelVs w0 ρ nx cs y' → y' = y
  | [], _, _, _, h, h' => by simp only [RelVs] at h h'; rw [h, h']
  | c :: cs, hd, _, _, h, h' => by
    simp only [RelVs] at h h'
    simp only [detAs, Bool.and_eq_true] at hd
    obtain ⟨y, ys, rfl, h1, h2⟩ := h
    obtain ⟨y', ys', rfl, h1', h2'⟩ := h'
    rw [detA_eq hd.1 h1 h1', detAs_eq hd.2 h2 h2']

theorem q_load_box {t : TypeId} {x : Operand} {i : TyI} {id off : Nat} {cs : List AV} (G : Good P tb) (ho : o.op = .load t x) (ht : look t tb = some i) (hf : flatB i = true) (hx : ev T x = some (.ptr id off)) (hm : mem m id = some (.box cs))
    (hr : nth cs off = some r) (hd : detA r = true) : QStep P o T m nx nt r :=
  QStep.run fun w0 ρ a w hT hC => by
    have h := hT.ev hx
    simp only [RelV] at h
    obtain ⟨_, g, hg, he⟩ := h
    rw [nth_eq] at hr
    obtain ⟨b, cur, ty, hρ, _, hb, hR, _⟩ := hC.box hm
    rw [hg] at hρ
    simp at hρ
    subst hρ
    obtain ⟨u, hu, h1⟩ := RelVs.get _ hR off r hr
    refine ⟨u, h1, fun w' hC' => ?_⟩
    obtain ⟨b', cur', ty', hρ', _, hb', hR', _⟩ := hC'.box hm
    rw [hg] at hρ'
    simp at hρ'
    subst hρ'
    obtain ⟨u', hu', h1'⟩ := RelVs.get _ hR' off r hr
    have := detA_eq hd h1 h1'
    subst this
    have hc : w'.cell? ⟨g, off, none⟩ = some u' := by rw [heap_cell hb', hu']
    simp [execOp, ho, he, run_load_flat (G t i ht) hf hc]

theorem q_load_box_struct {t : TypeId} {x : Operand} {fs : List (Nat × Nat)} {zs : List Value} {id off : Nat} {cs rs : List AV} (G : Good P tb) (ho : o.op = .load t x) (ht : look t tb = some (.struct fs zs)) (hx : ev T x = some (.ptr id off)) (hm : mem m id = some (.box cs))
    (hr : takeR zs.length (dropN off cs) [] = some rs) (hd : detAs rs = true) : QStep P o T m nx nt (.agg rs) :=
  QStep.run fun w0 ρ a w hT hC => by
    have h := hT.ev hx
    simp only [RelV] at h
    obtain ⟨_, g, hg, he⟩ := h
    obtain ⟨hrs, hlen⟩ := takeR_spec _ _ _ _ hr
    rw [dropN_eq] at hrs hlen
    simp at hrs
    have key : ∀ w', RelC w0 ρ m nx w' → ∃ ys : List Value, RelVs w0 ρ nx rs ys ∧ (execOp a.eval o).run P w' = .ok (.value (.agg ys.toArray)) w' := by
      intro w' hC'
      obtain ⟨b, cur, ty, hρ, _, hb, hR, _⟩ := hC'.box hm
      rw [hg] at hρ
      simp at hρ
      subst hρ
      have hR2 : RelVs w0 ρ nx rs ((cur.toList.drop off).take zs.length) := by rw [hrs]; exact (RelVs.drop off _ hR).take _ _
      refine ⟨_, hR2, ?_⟩
      have hl := RelVs.length _ hR2
      have hl2 : rs.length = zs.length := by rw [hrs, List.length_take]; omega
      have := run_load_struct (G t _ ht) (w := w') (p := ⟨g, off, none⟩) (us := (cur.toList.drop off).take zs.length) (by rw [hl, hl2]) (fun j u hj => by
        rw [Addr.add_lit, heap_cell hb]
        rw [List.getElem?_take] at hj
        split at hj
        · rw [List.getElem?_drop] at hj; exact hj
        · cases hj)
      simp [execOp, ho, he, this]
    obtain ⟨ys, h1, h2⟩ := key w hC
    refine ⟨.agg ys.toArray, by simp only [RelV]; exact ⟨ys, rfl, h1⟩, fun w' hC' => ?_⟩
    obtain ⟨ys', h1', h2'⟩ := key w' hC'
    rw [detAs_eq hd h1 h1'] at h2'
    exact h2'

theorem q_load_ept {t : TypeId} {x : Operand} {i : TyI} {c : List Value} {u : Value} (G : Good P tb) (ho : o.op = .load t x) (ht : look t tb = some i) (hf : flatB i = true) (hx : ev T x = some (.ept c)) (hr : nth c 0 = some u) : QStep P o T m nx nt (.v u) :=
  QStep.run fun w0 ρ a w hT hC => by
    have h := hT.ev hx
    simp only [RelV] at h
    obtain ⟨ad, he, hb, _, hc⟩ := h
    rw [nth_eq] at hr
    refine ⟨u, by simp only [RelV], fun w' hC' => ?_⟩
    have h0 := hc 0 u hr
    rw [Addr.add_zero'] at h0
    simp [execOp, ho, he, run_load_flat (G t i ht) hf ((hC'.old hb).trans h0)]

theorem q_load_ept_struct {t : TypeId} {x : Operand} {fs : List (Nat × Nat)} {zs : List Value} {c us : List Value} (G : Good P tb) (ho : o.op = .load t x) (ht : look t tb = some (.struct fs zs)) (hx : ev T x = some (.ept c)) (hr : takeR zs.length c [] = some us) :
    QStep P o T m nx nt (.agg (avR us [])) :=
  QStep.run fun w0 ρ a w hT hC => by
    have h := hT.ev hx
    simp only [RelV] at h
    obtain ⟨ad, he, hb, _, hc⟩ := h
    obtain ⟨hus, hlen⟩ := takeR_spec _ _ _ _ hr
    simp at hus
    refine ⟨.agg us.toArray, by simp only [RelV]; exact ⟨us, rfl, by rw [avR_eq]; exact RelVs.map_v us⟩, fun w' hC' => ?_⟩
    have := run_load_struct (G t _ ht) (w := w') (p := ad) (us := us) (by rw [hus, List.length_take]; omega) (fun j u hj => by
      rw [hC'.old (by rw [add_block]; exact hb)]
      refine hc j u ?_
      rw [hus, List.getElem?_take] at hj
      split at hj
      · exact hj
      · cases hj)
    simp [execOp, ho, he, this]

theorem q_load_rpt {t : TypeId} {x : Operand} {i : TyI} {id sz k j e : Nat} {ys : List (List Value)} {c : List Value} {u : Value} (G : Good P tb) (ho : o.op = .load t x) (ht : look t tb = some i) (hf : flatB i = true) (hx : ev T x = some (.rpt id sz j k)) (hm : mem m id = some (.row e sz ys))
    (hc : ys[j]? = some c) (hr : nth c k = some u) : QStep P o T m nx nt (.v u) :=
  QStep.run fun w0 ρ a w hT hC => by
    have h := hT.ev hx
    simp only [RelV] at h
    obtain ⟨_, g, l, cp, hg, he⟩ := h
    rw [nth_eq] at hr
    refine ⟨u, by simp only [RelV], fun w' hC' => ?_⟩
    simp [execOp, ho, he, run_load_flat (G t i ht) hf (hC'.rowCell hm hg hc hr)]

theorem q_load_rpt_struct {t : TypeId} {x : Operand} {fs : List (Nat × Nat)} {zs : List Value} {id sz k j e : Nat} {ys : List (List Value)} {c us : List Value} (G : Good P tb) (ho : o.op = .load t x) (ht : look t tb = some (.struct fs zs)) (hx : ev T x = some (.rpt id sz j k)) (hm : mem m id = some (.row e sz ys))
    (hc : ys[j]? = some c) (hr : takeR zs.length (dropN k c) [] = some us) : QStep P o T m nx nt (.agg (avR us [])) :=
  QStep.run fun w0 ρ a w hT hC => by
    have h := hT.ev hx
    simp only [RelV] at h
    obtain ⟨_, g, l, cp, hg, he⟩ := h
    obtain ⟨hus, hlen⟩ := takeR_spec _ _ _ _ hr
    rw [dropN_eq] at hus hlen
    simp at hus
    refine ⟨.agg us.toArray, by simp only [RelV]; exact ⟨us, rfl, by rw [avR_eq]; exact RelVs.map_v us⟩, fun w' hC' => ?_⟩
    have := run_load_struct (G t _ ht) (w := w') (p := ⟨g, j * sz + k, none⟩) (us := us) (by rw [hus, List.length_take]; omega) (fun q u hj => by
      rw [Addr.add_lit, Nat.add_assoc]
      refine hC'.rowCell hm hg hc ?_
      rw [hus, List.getElem?_take] at hj
      split at hj
      · rw [List.getElem?_drop] at hj; exact hj
      · cases hj)
    simp [execOp, ho, he, this]

theorem run_fieldAt {t : TypeId} {fs : List (Nat × Nat)} {zs : List Value} (G : TyOK P t (.struct fs zs)) {k off ft : Nat} (hk : nth fs k = some (off, ft)) (p : Addr) (w : World) :
    (Instr.fieldAt t (.pointer (some p)) k).run P w = .ok (.pointer (some (p.add off))) w := by
  obtain ⟨fields, i, hu, _, _, _, _, _, hf⟩ := G
  rw [nth_eq] at hk
  obtain ⟨f, j, h1, rfl, rfl, hj, hne⟩ := hf k off ft hk
  simp [Instr.fieldAt, run_underlying hu, h1, Instr.sureAddr, fieldPlace, sizeOf, typeInfo, hj, hne]

theorem q_field_ptr {t : TypeId} {x : Operand} {k off ft id a0 : Nat} {fs : List (Nat × Nat)} {zs : List Value} (G : Good P tb) (ho : o.op = .fieldAddr t x k) (ht : look t tb = some (.struct fs zs)) (hk : nth fs k = some (off, ft)) (hx : ev T x = some (.ptr id a0)) :
    QStep P o T m nx nt (.ptr id (Nat.add a0 off)) :=
  QStep.run fun w0 ρ a w hT hC => by
    have h := hT.ev hx
    simp only [RelV] at h
    obtain ⟨hn, g, hg, he⟩ := h
    refine ⟨.pointer (some ⟨g, a0 + off, none⟩), by simp only [RelV]; exact ⟨hn, g, hg, rfl⟩, fun w' hC' => ?_⟩
    simp only [execOp, ho, he, Sem.run_bind, run_fieldAt (G t _ ht) hk, Addr.add_lit, Result.andThen_ok, Sem.run_pure]
theorem q_field_rpt {t : TypeId} {x : Operand} {k off ft id sz i a0 : Nat} {fs : List (Nat × Nat)} {zs : List Value} (G : Good P tb) (ho : o.op = .fieldAddr t x k) (ht : look t tb = some (.struct fs zs)) (hk : nth fs k = some (off, ft)) (hx : ev T x = some (.rpt id sz i a0)) :
    QStep P o T m nx nt (.rpt id sz i (Nat.add a0 off)) :=
  QStep.run fun w0 ρ a w hT hC => by
    have h := hT.ev hx
    simp only [RelV] at h
    obtain ⟨hn, g, l, c, hg, he⟩ := h
    refine ⟨.pointer (some ⟨g, i * sz + a0 + off, none⟩), by simp only [RelV]; exact ⟨hn, g, l, c, hg, by rw [Nat.add_assoc]; rfl⟩, fun w' hC' => ?_⟩
    simp only [execOp, ho, he, Sem.run_bind, run_fieldAt (G t _ ht) hk, Addr.add_lit, Result.andThen_ok, Sem.run_pure]
theorem q_field_ept {t : TypeId} {x : Operand} {k off ft : Nat} {c : List Value} {fs : List (Nat × Nat)} {zs : List Value} (G : Good P tb) (ho : o.op = .fieldAddr t x k) (ht : look t tb = some (.struct fs zs)) (hk : nth fs k = some (off, ft)) (hx : ev T x = some (.ept c)) :
    QStep P o T m nx nt (.ept (dropN off c)) :=
  QStep.run fun w0 ρ a w hT hC => by
    have h := hT.ev hx
    simp only [RelV] at h
    obtain ⟨ad, he, hb, h1, hc⟩ := h
    refine ⟨.pointer (some (ad.add off)), by
      simp only [RelV]
      refine ⟨_, rfl, by rw [add_block]; exact hb, fun u hu => h1 u (by rw [dropN_eq] at hu; exact List.mem_of_mem_drop hu), fun j u hj => ?_⟩
      rw [dropN_eq, List.getElem?_drop] at hj
      rw [add_add']
      exact hc _ _ hj, fun w' hC' => ?_⟩
    simp only [execOp, ho, he, Sem.run_bind, run_fieldAt (G t _ ht) hk, Result.andThen_ok, Sem.run_pure]

theorem q_nil_ptr {x : Operand} {id off : Nat} (ho : o.op = .nilCheck x) (hx : ev T x = some (.ptr id off)) : QStep P o T m nx nt (.ptr id off) :=
  QStep.run fun w0 ρ a w hT hC => by
    have h0 := hT.ev hx
    have h := h0
    simp only [RelV] at h
    obtain ⟨hn, g, hg, he⟩ := h
    exact ⟨_, h0, fun w' _ => by simp [execOp, ho, he]⟩
theorem q_nil_rpt {x : Operand} {id sz i off : Nat} (ho : o.op = .nilCheck x) (hx : ev T x = some (.rpt id sz i off)) : QStep P o T m nx nt (.rpt id sz i off) :=
  QStep.run fun w0 ρ a w hT hC => by
    have h0 := hT.ev hx
    have h := h0
    simp only [RelV] at h
    obtain ⟨hn, g, l, c, hg, he⟩ := h
    exact ⟨_, h0, fun w' _ => by simp [execOp, ho, he]⟩
theorem q_nil_ept {x : Operand} {c : List Value} (ho : o.op = .nilCheck x) (hx : ev T x = some (.ept c)) : QStep P o T m nx nt (.ept c) :=
  QStep.run fun w0 ρ a w hT hC => by
    have h0 := hT.ev hx
    have h := h0
    simp only [RelV] at h
    obtain ⟨ad, he, _⟩ := h
    exact ⟨_, h0, fun w' _ => by simp [execOp, ho, he]⟩

/-! slices -/
def nilLen : Value → Option Nat
  | .slice none 0 0 => some 0
  | _ => none
theorem nilLen_spec {x : Value} {n : Nat} (h : nilLen x = some n) : x = .slice none 0 0 ∧ n = 0 := by
  cases x <;> simp only [nilLen] at h <;> try cases h
  rename_i a l c
  cases a <;> cases l <;> cases c <;> simp [nilLen] at h ⊢
  exact h.symm
/-- the length of whatever is a slice -/
def lenA (m : List (Nat × Option Row)) : AV → Option Nat
  | .lst _ ys => some ys.length
  | .pin _ _ ys => some ys.length
  | .own id => match mem m id with
    | some (.row _ _ ys) => some ys.length
    | _ => none
  | .sub _ _ _ n => some n
  | .v x => nilLen x
  | _ => none
theorem lenA_spec {w0 : Base} {ρ : Nat → Value} {w : World} (hC : RelC w0 ρ m nx w) {x : AV} {n : Nat} (h : lenA m x = some n) {y : Value} (hy : RelV w0 ρ nx x y) : ∃ A c, y = .slice A n c := by
  cases x <;> simp only [lenA] at h
  case lst sz ys =>
    cases h
    simp only [RelV] at hy
    obtain ⟨A, cap, rfl, _⟩ := hy
    exact ⟨A, cap, rfl⟩
  case pin z sz ys =>
    cases h
    simp only [RelV] at hy
    obtain ⟨_, A, cap, rfl, _⟩ := hy
    exact ⟨A, cap, rfl⟩
  case own id =>
    simp only [RelV] at hy
    cases hm : mem m id with
    | none => simp [hm] at h
    | some r =>
      cases r with
      | box cs => simp [hm] at h
      | byt bs => simp [hm] at h
      | spare _ _ _ _ => simp [hm] at h
      | row e sz ys =>
        simp [hm] at h
        subst h
        obtain ⟨h1, _⟩ := hC.row hm
        rw [hy.2]
        rcases h1.2 with ⟨h2, h3⟩ | ⟨g, cap, cur, h2, _⟩
        · rw [h2, h3]; exact ⟨_, _, rfl⟩
        · rw [h2]; exact ⟨_, _, rfl⟩
  case sub id sz i n' =>
    cases h
    simp only [RelV] at hy
    obtain ⟨_, A, cap, rfl, _⟩ := hy
    exact ⟨A, cap, rfl⟩
  case v x =>
    simp only [RelV] at hy
    obtain ⟨rfl, rfl⟩ := nilLen_spec h
    exact ⟨_, _, hy⟩
  all_goals cases h

theorem q_len {x : Operand} {t e sz by_ n : Nat} {zs : List Value} {ax : AV} (G : Good P tb) (ho : o.op = .call { callee := .builtin .len, args := #[x], argTypes := #[t] }) (ht : look t tb = some (.slice e sz by_ zs)) (hx : ev T x = some ax) (hn : lenA m ax = some n) :
    QStep P o T m nx nt (.v (.int .i64 n)) :=
  QStep.run fun w0 ρ a w hT hC => by
    obtain ⟨A, c, he⟩ := lenA_spec hC hn (hT.ev hx)
    refine ⟨.int .i64 n, by simp only [RelV], fun w' hC' => ?_⟩
    simp [execOp, ho, resolve, invoke, builtin, he, Builtin.len_, run_underlying (G t _ ht).1, goInt]
theorem q_len_str {x : Operand} {t : Nat} {z : Value} {s : ByteArray} (G : Good P tb) (ho : o.op = .call { callee := .builtin .len, args := #[x], argTypes := #[t] }) (ht : look t tb = some (.flat .str z)) (hx : ev T x = some (.v (.string s))) :
    QStep P o T m nx nt (.v (.int .i64 s.size)) :=
  QStep.run fun w0 ρ a w hT hC => by
    have h := hT.ev hx
    simp only [RelV] at h
    have hu : P.underlying t = some .string := (G t _ ht).1
    refine ⟨.int .i64 s.size, by simp only [RelV], fun w' hC' => ?_⟩
    simp [execOp, ho, resolve, invoke, builtin, h, Builtin.len_, run_underlying hu, goInt]

theorem run_indexAt_in {t e sz by_ : Nat} {zs : List Value} (G : TyOK P t (.slice e sz by_ zs)) {a : Addr} {len cap : Nat} {k : IntKind} {i : Int} (h0 : 0 ≤ i) (h1 : i < len) (w : World) :
    (Instr.indexAt t (.slice (some a) len cap) (.int k i)).run P w = .ok (.pointer (some (a.add (i.toNat * sz)))) w := by
  obtain ⟨hu, _, j, z, hj, hs, _⟩ := G
  simp [Instr.indexAt, run_underlying hu, asIntOf, h0, h1, sizeOf, typeInfo, hj, hs]

theorem q_index_lst {x y : Operand} {t e sz by_ : Nat} {zs : List Value} {ys : List (List Value)} {k : IntKind} {i : Int} {c : List Value} (G : Good P tb) (ho : o.op = .indexAddr t x y) (ht : look t tb = some (.slice e sz by_ zs)) (hx : ev T x = some (.lst sz ys)) (hy : ev T y = some (.v (.int k i)))
    (h0 : 0 ≤ i) (hc : ys[i.toNat]? = some c) : QStep P o T m nx nt (.ept c) :=
  QStep.run fun w0 ρ a w hT hC => by
    have h := hT.ev hx
    have h2 := hT.ev hy
    simp only [RelV] at h h2
    obtain ⟨A, cap, he, _, hall, hA⟩ := h
    have hlt : i.toNat < ys.length := by
      rcases Nat.lt_or_ge i.toNat ys.length with hlt | hge
      · exact hlt
      · rw [List.getElem?_eq_none hge] at hc; cases hc
    obtain ⟨ad, rfl, hb, hcell⟩ := hA (by omega)
    refine ⟨.pointer (some (ad.add (i.toNat * sz))), by
      simp only [RelV]
      refine ⟨_, rfl, by rw [add_block]; exact hb, (hall c (List.mem_of_getElem? hc)).2, fun j u hj => ?_⟩
      rw [add_add']
      exact hcell _ _ hc j u hj, fun w' hC' => ?_⟩
    simp only [execOp, ho, he, h2, Sem.run_bind, run_indexAt_in (G t _ ht) (a := ad) (len := ys.length) (cap := cap) (k := k) (i := i) h0 (by omega), Result.andThen_ok, Sem.run_pure]

theorem ownsRow_slice {w : World} {base e sz n : Nat} {v : Value} {xs : List Value} (h : w.ownsRow base e sz v n xs) (hn : 0 < n) : ∃ g cap, v = .slice (some ⟨g, 0, none⟩) n cap ∧ base ≤ g ∧ g < w.heap.size ∧ n ≤ cap := by
  rcases h.2 with ⟨_, h2⟩ | ⟨g, cap, cur, h2, h3, h4, h5, _⟩
  · omega
  · exact ⟨g, cap, h2, h3, (Array.getElem?_eq_some_iff.1 h4).1, h5⟩

theorem q_index_own {x y : Operand} {t e e' sz by_ id : Nat} {zs : List Value} {ys : List (List Value)} {k : IntKind} {i : Int} (G : Good P tb) (ho : o.op = .indexAddr t x y) (ht : look t tb = some (.slice e sz by_ zs)) (hx : ev T x = some (.own id)) (hm : mem m id = some (.row e' sz ys)) (hy : ev T y = some (.v (.int k i)))
    (h0 : 0 ≤ i) (h1 : i < ys.length) : QStep P o T m nx nt (.rpt id sz i.toNat 0) :=
  QStep.run fun w0 ρ a w hT hC => by
    have h := hT.ev hx
    have h2 := hT.ev hy
    simp only [RelV] at h h2
    obtain ⟨hrow, _⟩ := hC.row hm
    obtain ⟨g, cap, hg, _, _, hc⟩ := ownsRow_slice hrow (by omega)
    refine ⟨.pointer (some ⟨g, i.toNat * sz, none⟩), by simp only [RelV]; exact ⟨h.1, g, _, _, hg, by simp⟩, fun w' hC' => ?_⟩
    have := run_indexAt_in (G t _ ht) (a := ⟨g, 0, none⟩) (len := ys.length) (cap := cap) (k := k) (i := i) h0 h1 w'
    simp [execOp, ho, h.2, hg, h2, this, Addr.add_lit]

theorem q_index_sub {x y : Operand} {t e e' sz by_ id j n : Nat} {zs : List Value} {ys : List (List Value)} {k : IntKind} {i : Int} (G : Good P tb) (ho : o.op = .indexAddr t x y) (ht : look t tb = some (.slice e sz by_ zs)) (hx : ev T x = some (.sub id sz j n)) (hm : mem m id = some (.row e' sz ys)) (hy : ev T y = some (.v (.int k i)))
    (h0 : 0 ≤ i) (h1 : i < n) : QStep P o T m nx nt (.rpt id sz (j + i.toNat) 0) :=
  QStep.run fun w0 ρ a w hT hC => by
    have h := hT.ev hx
    have h2 := hT.ev hy
    simp only [RelV] at h h2
    obtain ⟨hn, A, cap, he, _, hA⟩ := h
    obtain ⟨g, l, c, hg, rfl⟩ := hA.1 (by omega)
    refine ⟨.pointer (some ⟨g, (j + i.toNat) * sz, none⟩), by simp only [RelV]; exact ⟨hn, g, _, _, hg, by simp⟩, fun w' hC' => ?_⟩
    have := run_indexAt_in (G t _ ht) (a := ⟨g, j * sz, none⟩) (len := n) (cap := cap) (k := k) (i := i) h0 h1 w'
    simp [execOp, ho, he, h2, this, Addr.add_lit, Nat.add_mul]

/-! strings -/
theorem q_index_str {x y : Operand} {t : Nat} {z : Value} {s : ByteArray} {k : IntKind} {i : Int} (G : Good P tb) (ho : o.op = .index t x y) (ht : look t tb = some (.flat .str z)) (hx : ev T x = some (.v (.string s))) (hy : ev T y = some (.v (.int k i)))
    (h0 : 0 ≤ i) (h1 : i < s.size) : QStep P o T m nx nt (.v (.int .u8 (s.data.toList.getD i.toNat 0).toNat)) :=
  QStep.run fun w0 ρ a w hT hC => by
    have h := hT.ev hx
    have h2 := hT.ev hy
    simp only [RelV] at h h2
    have hu : P.underlying t = some .string := (G t _ ht).1
    refine ⟨.int .u8 (s.data.toList.getD i.toNat 0).toNat, by simp only [RelV], fun w' hC' => ?_⟩
    have hr := run_index_string (P := P) w' t s k i hu
    rw [dif_pos ⟨h0, h1⟩] at hr
    have hb : s[i.toNat]'(by omega) = s.data.toList.getD i.toNat 0 := by
      have : i.toNat < s.data.toList.length := by simp; have : s.data.size = s.size := rfl; omega
      rw [List.getD_eq_getElem?_getD, List.getElem?_eq_getElem this]
      rfl
    rw [hb] at hr
    simp [execOp, ho, h, h2, hr]

def cmpS : BinOp → List UInt8 → List UInt8 → Option Bool
  | .eql, a, b => some (a == b)
  | .neq, a, b => some (!(a == b))
  | .lss, a, b => some (Op.bytesLess a b)
  | _, _, _ => none
theorem q_cmp_str {op : BinOp} {x y : Operand} {t t' : TypeId} {a b : ByteArray} {c : Bool} (ho : o.op = .binOp op t x y t') (hx : ev T x = some (.v (.string a))) (hy : ev T y = some (.v (.string b))) (hc : cmpS op a.toList b.toList = some c) :
    QStep P o T m nx nt (.v (.bool c)) :=
  QStep.val fun w0 ρ ac hT w' => by
    have h1 := hT.ev hx
    have h2 := hT.ev hy
    simp only [RelV] at h1 h2
    cases op <;> simp only [cmpS, Option.some.injEq, reduceCtorEq] at hc <;> subst hc <;> simp [execOp, ho, h1, h2, eqGuard, binOp, Op.stringOp]
theorem q_cat {x y : Operand} {t t' : TypeId} {a b : ByteArray} (ho : o.op = .binOp .add t x y t') (hx : ev T x = some (.v (.string a))) (hy : ev T y = some (.v (.string b))) (hs : a.size + b.size ≤ 9223372036854775807) :
    QStep P o T m nx nt (.v (.string (a ++ b))) :=
  QStep.val fun w0 ρ ac hT w' => by
    have h1 := hT.ev hx
    have h2 := hT.ev hy
    simp only [RelV] at h1 h2
    have : ¬ (IntKind.i64.max < ((a.size + b.size : Nat) : Int)) := by rw [IntKind.max_i64]; omega
    simp only [execOp, ho, h1, h2, eqGuard, binOp, Op.stringOp]
    simp only [gt_iff_lt, this]
    simp
theorem q_conv {src dst : TypeId} {x : Operand} {k k' : IntKind} {n : Int} {z z' : Value} {fk : FK} (G : Good P tb) (ho : o.op = .convert src dst x) (hs : look src tb = some (.flat fk z')) (ht : look dst tb = some (.flat (.int k) z)) (hx : ev T x = some (.v (.int k' n))) :
    QStep P o T m nx nt (.v (.int k (k.wrap n))) :=
  QStep.val fun w0 ρ ac hT w' => by
    have h1 := hT.ev hx
    simp only [RelV] at h1
    have hu : P.underlying dst = some (.int k) := (G dst _ ht).1
    obtain ⟨_, ⟨d, hd, _⟩, _⟩ := G src _ hs
    simp [execOp, ho, h1, convert, run_underlying hu, run_underlying hd, Conv.intToInt]
theorem q_min {x y : Operand} {ts : Array TypeId} {k : IntKind} {a b : Int} (ho : o.op = .call { callee := .builtin .min, args := #[x, y], argTypes := ts }) (hx : ev T x = some (.v (.int k a))) (hy : ev T y = some (.v (.int k b))) :
    QStep P o T m nx nt (.v (.int k (if b < a then b else a))) :=
  QStep.val fun w0 ρ ac hT w' => by
    have h1 := hT.ev hx
    have h2 := hT.ev hy
    simp only [RelV] at h1 h2
    simp [execOp, ho, resolve, invoke, builtin, h1, h2, run_min_int2]
theorem q_max {x y : Operand} {ts : Array TypeId} {k : IntKind} {a b : Int} (ho : o.op = .call { callee := .builtin .max, args := #[x, y], argTypes := ts }) (hx : ev T x = some (.v (.int k a))) (hy : ev T y = some (.v (.int k b))) :
    QStep P o T m nx nt (.v (.int k (if b > a then b else a))) :=
  QStep.val fun w0 ρ ac hT w' => by
    have h1 := hT.ev hx
    have h2 := hT.ev hy
    simp only [RelV] at h1 h2
    simp [execOp, ho, resolve, invoke, builtin, h1, h2, run_max_int2]
theorem q_neg {x : Operand} {t : TypeId} {a : Int} (ho : o.op = .unOp .neg t x) (hx : ev T x = some (.v (.int .i64 a))) (h1 : -9223372036854775807 ≤ a) (h2 : a ≤ 9223372036854775807) : QStep P o T m nx nt (.v (.int .i64 (-a))) :=
  QStep.val fun w0 ρ ac hT w' => by
    have h := hT.ev hx
    simp only [RelV] at h
    have := wrap_in (n := -a) (by omega) (by omega)
    simp [execOp, ho, h, Op.unary, Op.intArith, this]
end
end Go.Rf
