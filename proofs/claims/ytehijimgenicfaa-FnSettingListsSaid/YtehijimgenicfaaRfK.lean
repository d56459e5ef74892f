/- Functions that work on rows of their caller: they are walked over those rows alone; all else that the caller has is kept. -/
import Derived.Test.YtehijimgenicfaaRfI
set_option linter.unusedVariables false
set_option linter.unusedSectionVars false
set_option linter.unusedSimpArgs false
namespace Go.Rf
open Go Go.RowKit

def evL (T : List (Nat × AV)) : List Operand → List AV → Option (List AV)
  | [], acc => revO acc []
  | x :: xs, acc => match ev T x with
    | some av => evL T xs (av :: acc)
    | none => none

mutual
def renA (ids : List Nat) : AV → AV
  | .own i => .own (ids.getD i 0)
  | .sub i sz a n => .sub (ids.getD i 0) sz a n
  | .ptr i o => .ptr (ids.getD i 0) o
  | .rpt i sz a k => .rpt (ids.getD i 0) sz a k
  | .agg cs => .agg (renAs ids cs)
  | .tup cs => .tup (renAs ids cs)
  | .fnc f cs => .fnc f (renAs ids cs)
  | .v x => .v x
  | .lst sz ys => .lst sz ys
  | .pin z sz ys => .pin z sz ys
  | .ept cs => .ept cs
def renAs (ids : List Nat) : List AV → List AV
  | [] => []
  | c :: cs => renA ids c :: renAs ids cs
end

mutual
theorem RelV.ren {w0 : World} {ρ : Nat → Value} {nx k : Nat} {ids : List Nat} : ∀ (x : AV) {y : Value}, refsB k x = true → RelV w0 ρ nx (renA ids x) y → RelV w0 (fun j => ρ (ids.getD j 0)) k x y
  | .v _, _, _, h => by simpa only [renA, RelV] using h
  | .lst _ _, _, _, h => by simpa only [renA, RelV] using h
  | .pin _ _ _, _, _, h => by simpa only [renA, RelV] using h
  | .ept _, _, _, h => by simpa only [renA, RelV] using h
  | .own i, _, hm, h => by simp only [refsB] at hm; simp only [renA, RelV] at h ⊢; exact ⟨Nat.le_of_ble_eq_true hm, h.2⟩
  | .sub i _ _ _, _, hm, h => by simp only [refsB] at hm; simp only [renA, RelV] at h ⊢; exact ⟨Nat.le_of_ble_eq_true hm, h.2⟩
  | .ptr i _, _, hm, h => by simp only [refsB] at hm; simp only [renA, RelV] at h ⊢; exact ⟨Nat.le_of_ble_eq_true hm, h.2⟩
  | .rpt i _ _ _, _, hm, h => by simp only [refsB] at hm; simp only [renA, RelV] at h ⊢; exact ⟨Nat.le_of_ble_eq_true hm, h.2⟩
  | .agg cs, _, hm, h => by
    simp only [refsB] at hm
    simp only [renA, RelV] at h ⊢
    obtain ⟨ys, e, h⟩ := h
    exact ⟨ys, e, RelVs.ren cs hm h⟩
  | .tup cs, _, hm, h => by
    simp only [refsB] at hm
    simp only [renA, RelV] at h ⊢
    obtain ⟨ys, e, h⟩ := h
    exact ⟨ys, e, RelVs.ren cs hm h⟩
  | .fnc _ cs, _, hm, h => by
    simp only [refsB] at hm
    simp only [renA, RelV] at h ⊢
    obtain ⟨ys, e, h⟩ := h
    exact ⟨ys, e, RelVs.ren cs hm h⟩
theorem RelVs.ren {w0 : World} {ρ : Nat → Value} {nx k : Nat} {ids : List Nat} : ∀ (x : List AV) {y : List Value}, refsBs k x = true → RelVs w0 ρ nx (renAs ids x) y → RelVs w0 (fun j => ρ (ids.getD j 0)) k x y
  | [], _, _, h => by simpa only [renAs, RelVs] using h
  | c :: cs, _, hm, h => by
    simp only [refsBs, Bool.and_eq_true] at hm
    simp only [renAs, RelVs] at h ⊢
    obtain ⟨y, ys, e, h1, h2⟩ := h
    exact ⟨y, ys, e, RelV.ren c hm.1 h1, RelVs.ren cs hm.2 h2⟩
end
/-- a relation without rows holds whatever the rows -/
theorem RelVs.norefs {w0 : Base} {ρ ρ' : Nat → Value} {nx nx' : Nat} {cs : List AV} (h0 : refsBs 0 cs = true) {y : List Value} (h : RelVs w0 ρ nx cs y) : RelVs w0 ρ' nx' cs y :=
  RelVs.mono (Nat.zero_le _) (fun i hi => by omega) cs (RelVs.less cs h0 h)

def rowM : List Row → Nat → List (Nat × Option Row)
  | [], _ => []
  | r :: rs, k => (k, some r) :: rowM rs (Nat.succ k)
theorem rowM_mem : ∀ {rs : List Row} {k j : Nat} {row : Row}, mem (rowM rs k) j = some row → k ≤ j ∧ rs[j - k]? = some row
  | [], k, j, row, h => by simp [rowM, mem, look] at h
  | r :: rs, k, j, row, h => by
    simp only [rowM] at h
    by_cases e : k = j
    · subst e; rw [mem_cons_same] at h; cases h; simp
    · rw [mem_cons_other e] at h
      obtain ⟨h1, h2⟩ := rowM_mem h
      refine ⟨by omega, ?_⟩
      rw [show j - k = (j - (k + 1)) + 1 by omega]
      simpa using h2
inductive RowsIn (m : List (Nat × Option Row)) : List Nat → List Row → Prop
  | nil : RowsIn m [] []
  | cons {id : Nat} {ids : List Nat} {r : Row} {rs : List Row} (h : mem m id = some r) (h' : RowsIn m ids rs) : RowsIn m (id :: ids) (r :: rs)
theorem RowsIn.len {m : List (Nat × Option Row)} : ∀ {ids : List Nat} {rs : List Row}, RowsIn m ids rs → ids.length = rs.length
  | _, _, .nil => rfl
  | _, _, .cons _ h => by simp [h.len]
theorem RowsIn.get {m : List (Nat × Option Row)} : ∀ {ids : List Nat} {rs : List Row}, RowsIn m ids rs → ∀ {j : Nat} {r : Row}, rs[j]? = some r → ∃ id, ids[j]? = some id ∧ mem m id = some r
  | _, _, .nil, _, _, h => by simp at h
  | _, _, .cons h h', j, r, hj => by
    match j with
    | 0 => simp at hj; subst hj; exact ⟨_, rfl, h⟩
    | j + 1 => simpa using h'.get (by simpa using hj)
def freeRows : List Row → Bool
  | [] => true
  | r :: rs => rowRefs 0 r && freeRows rs
theorem freeRows_get : ∀ {rs : List Row}, freeRows rs = true → ∀ {j : Nat} {r : Row}, rs[j]? = some r → rowRefs 0 r = true
  | [], _, _, _, h => by simp at h
  | r :: rs, h, j, r', hj => by
    simp only [freeRows, Bool.and_eq_true] at h
    match j with
    | 0 => simp at hj; subst hj; exact h.1
    | j + 1 => exact freeRows_get h.2 (by simpa using hj)
def aft : List Nat → List (Option Row) → List (Nat × Option Row) → List (Nat × Option Row)
  | id :: ids, r :: rs, m => (id, r) :: aft ids rs m
  | _, _, m => m
theorem mem_aft {m : List (Nat × Option Row)} : ∀ {ids : List Nat} {rs : List (Option Row)}, ids.length = rs.length → ∀ {id : Nat} {r : Row}, mem (aft ids rs m) id = some r → (∃ j : Nat, ids[j]? = some id ∧ rs[j]? = some (some r)) ∨ (id ∉ ids ∧ mem m id = some r)
  | [], [], _, id, r, h => .inr ⟨by simp, h⟩
  | [], _ :: _, hl, _, _, _ => by simp at hl
  | _ :: _, [], hl, _, _, _ => by simp at hl
  | i :: ids, q :: rs, hl, id, r, h => by
    simp only [aft] at h
    by_cases e : i = id
    · subst e; rw [mem_cons_same] at h; subst h; exact .inl ⟨0, rfl, rfl⟩
    · rw [mem_cons_other e] at h
      rcases mem_aft (by simpa using hl) h with ⟨j, h1, h2⟩ | ⟨h1, h2⟩
      · exact .inl ⟨j + 1, by simpa using h1, by simpa using h2⟩
      · exact .inr ⟨by simp [h1, Ne.symm e], h2⟩

/-- THE CONTRACT of a function that works on rows of its caller: rows 0, 1, .. of its own are what the caller hands over; behind it they read as told ('none': the row is gone, a result may stand in its place). -/
structure CtrM (P : Program) [Env P] (f : FuncId) (args : List AV) (rows : List Row) (res : Res) (after : List (Option Row)) : Prop where
  callable : Callable P f
  calls : ∀ (w0 : Base) [EnvAt P w0] ρ m nx (ids : List Nat) w vs, RowsIn m ids rows → nodupB ids = true → RelC w0 ρ m nx w → RelVs w0.w ρ nx (renAs ids args) vs →
    Calls P f vs.toArray w (fun en w' => ∃ v ρ', en = .returned v ∧ (∀ i, i < nx → ρ' i = ρ i) ∧ nx ≤ (instR res nx (aft ids after m)).2.2 ∧ RelV w0.w ρ' (instR res nx (aft ids after m)).2.2 (instR res nx (aft ids after m)).1 v ∧
      RelC w0 ρ' (instR res nx (aft ids after m)).2.1 (instR res nx (aft ids after m)).2.2 w')

def survB : List (Option Row) → Nat → Bool
  | [], _ => false
  | some _ :: _, 0 => true
  | none :: _, 0 => false
  | _ :: rs, n + 1 => survB rs n
theorem survB_get : ∀ {rs : List (Option Row)} {j : Nat} {r : Row}, rs[j]? = some (some r) → survB rs j = true
  | [], _, _, h => by simp at h
  | q :: rs, 0, r, h => by simp at h; subst h; rfl
  | q :: rs, j + 1, r, h => by cases q <;> exact survB_get (rs := rs) (by simpa using h)
def deadA (after : List (Option Row)) : List AV → Bool
  | [] => true
  | .own i :: r => !survB after i && deadA after r
  | _ :: r => deadA after r
theorem deadA_get {after : List (Option Row)} : ∀ {l : List AV}, deadA after l = true → ∀ {i : Nat}, .own i ∈ l → survB after i = false
  | [], _, _, h => by simp at h
  | x :: l, hd, i, h => by
    rcases List.mem_cons.1 h with e | h
    · subst e; simp only [deadA, Bool.and_eq_true, Bool.not_eq_true'] at hd; exact hd.1
    · have h2 : deadA after l = true := by
        cases x <;> simp only [deadA] at hd
        case own j => simp only [Bool.and_eq_true] at hd; exact hd.2
        all_goals exact hd
      exact deadA_get h2 h
inductive AftOK (m : List (Nat × Option Row)) : Nat → List (Option Row) → Prop
  | nil {k : Nat} : AftOK m k []
  | gone {k : Nat} {rs : List (Option Row)} (h : AftOK m (Nat.succ k) rs) : AftOK m k (none :: rs)
  | stays {k : Nat} {r r' : Row} {rs : List (Option Row)} (h1 : mem m k = some r') (e : r' = r) (h2 : rowRefs 0 r = true) (h : AftOK m (Nat.succ k) rs) : AftOK m k (some r :: rs)
theorem AftOK.get {m : List (Nat × Option Row)} : ∀ {k : Nat} {rs : List (Option Row)}, AftOK m k rs → ∀ {j : Nat} {r : Row}, rs[j]? = some (some r) → mem m (k + j) = some r ∧ rowRefs 0 r = true
  | _, _, .nil, _, _, h => by simp at h
  | k, _, .gone h, j, r, hj => by
    match j with
    | 0 => simp at hj
    | j + 1 => have := h.get (j := j) (by simpa using hj); rwa [show k.succ + j = k + (j + 1) by omega] at this
  | k, _, .stays h1 e h2 h, j, r, hj => by
    match j with
    | 0 => simp at hj; subst hj; subst e; exact ⟨h1, h2⟩
    | j + 1 => have := h.get (j := j) (by simpa using hj); rwa [show k.succ + j = k + (j + 1) by omega] at this

def FinM (tb : List (Nat × TyI)) (rs : List ResultVar) (res : Res) (after : List (Option Row)) : Exit → St → Prop
  | .ret, S => ∃ avs, getRs tb S rs [] = some avs ∧ ResOK S.m avs res ∧ AftOK S.m 0 after ∧ deadA after avs = true
  | .normal, S => ∃ avs, getRs tb S rs [] = some avs ∧ ResOK S.m avs res ∧ AftOK S.m 0 after ∧ deadA after avs = true
  | _, _ => False
section
variable {P : Program} [Env P] {w0 : Base} {ops : Array Oper} {tb : List (Nat × TyI)} {o : Oper} {rest : List Oper} {T : List (Nat × AV)} {m m' : List (Nat × Option Row)} {nx nt d : Nat} {r : AV} {Q : Exit → St → Prop} {after : List (Option Row)}
theorem finm_one {rs : List ResultVar} {S : St} {x : AV} {c : RC} (h : getRs tb S rs [] = some [x]) (hx : RCOK S.m x c) (hd : deadA after [x] = true) (ha : AftOK S.m 0 after) : FinM tb rs (.one c) after .ret S := ⟨_, h, ⟨x, rfl, hx⟩, ha, hd⟩
theorem finm_many {rs : List ResultVar} {S : St} {xs : List AV} {cs : List RC} (h : getRs tb S rs [] = some xs) (hl : Nat.beq xs.length 1 = false) (hn : nodupB (ownIds xs []) = true) (ho : loneB xs = true) (hx : RCOKs S.m xs cs) (hd : deadA after xs = true) (ha : AftOK S.m 0 after) : FinM tb rs (.many cs) after .ret S := ⟨_, h, ⟨hx, hl, hn, ho⟩, ha, hd⟩
theorem finm_n {rs : List ResultVar} {res : Res} {S : St} (h : FinM tb rs res after .ret S) : FinM tb rs res after .normal S := h

theorem RCOKs.own {xs : List AV} {rs : List RC} (h : RCOKs m xs rs) : ∀ {i : Nat}, .own i ∈ xs → ∃ row, mem m i = some row := by
  induction xs generalizing rs with
  | nil => intro i hi; cases hi
  | cons x xs ih =>
    cases rs with
    | nil => exact h.elim
    | cons r rs =>
      intro i hi
      rcases List.mem_cons.1 hi with rfl | hi
      · have := h.1
        cases r with
        | v u => simp [RCOK, toVal] at this
        | fr e sz ys => exact ⟨_, this⟩
      · exact ih h.2 hi

/-- the blocks of the results -/
theorem RCOKs.blks {ρ : Nat → Value} {xs : List AV} {rs : List RC} (h : RCOKs m xs rs) (hl : loneB xs = true) : ∀ {ys : List Value}, RelVs w0 ρ nx xs ys → ∀ y ∈ ys, ∀ b, blk y = some b → ∃ i, .own i ∈ xs ∧ y = ρ i := by
  induction xs generalizing rs with
  | nil => intro ys hy y hm; simp only [RelVs] at hy; subst hy; cases hm
  | cons x xs ih =>
    cases rs with
    | nil => exact h.elim
    | cons r rs =>
      intro ys hy y hm b hb
      simp only [RelVs] at hy
      obtain ⟨y0, ys0, rfl, h1, h2⟩ := hy
      have hl2 : loneB xs = true := by
        cases x <;> simp only [loneB] at hl
        case v x => simp only [Bool.and_eq_true] at hl; exact hl.2
        all_goals exact hl
      rcases List.mem_cons.1 hm with rfl | hm
      · have hx := h.1
        cases x
        case own i => simp only [RelV] at h1; exact ⟨i, by simp, h1.2⟩
        case v x =>
          simp only [RelV] at h1
          subst h1
          simp only [loneB, Bool.and_eq_true, Option.isNone_iff_eq_none] at hl
          rw [hl.1] at hb; cases hb
        case agg cs => simp only [RelV] at h1; obtain ⟨_, rfl, _⟩ := h1; simp [blk] at hb
        all_goals (cases r <;> simp [RCOK, toVal] at hx)
      · obtain ⟨i, h3, h4⟩ := ih h.2 hl2 h2 y hm b hb
        exact ⟨i, by simp [h3], h4⟩

theorem has_of_mem {k : Nat} : ∀ {l : List Nat}, k ∈ l → has k l = true
  | [], h => by cases h
  | x :: r, h => by
    rcases List.mem_cons.1 h with rfl | h
    · simp [has, Nat.beq_refl]
    · simp [has, has_of_mem h]
theorem nodupB_get : ∀ {ids : List Nat}, nodupB ids = true → ∀ {j j' id : Nat}, ids[j]? = some id → ids[j']? = some id → j = j'
  | [], _, _, _, _, h, _ => by simp at h
  | x :: r, hn, j, j', id, h, h' => by
    simp only [nodupB, Bool.and_eq_true, Bool.not_eq_true'] at hn
    match j, j' with
    | 0, 0 => rfl
    | 0, j' + 1 =>
      simp at h h'; subst h
      have := has_of_mem (List.mem_of_getElem? h')
      rw [hn.1] at this; cases this
    | j + 1, 0 =>
      simp at h h'; subst h'
      have := has_of_mem (List.mem_of_getElem? h)
      rw [hn.1] at this; cases this
    | j + 1, j' + 1 =>
      have := nodupB_get hn.2 (j := j) (j' := j') (id := id) (by simpa using h) (by simpa using h')
      rw [this]
theorem getD_of_get {ids : List Nat} {j id : Nat} (h : ids[j]? = some id) : ids.getD j 0 = id := by
  rw [List.getD_eq_getElem?_getD, h]; rfl

/-- the block that a row stands in -/
theorem RowRel.keepBlk {ρ ρ' : Nat → Value} {nx nx' : Nat} {w w' : World} {id : Nat} {row : Row} (h : RowRel w0.w ρ nx w id row) (hn : nx ≤ nx') (hr : ∀ i, i < nx → ρ' i = ρ i) (hid : id < nx) (hb : ∀ b, blk (ρ id) = some b → b < w.heap.size → w'.heap[b]? = w.heap[b]?) : RowRel w0.w ρ' nx' w' id row := by
  have h2 : RowRel w0.w ρ nx w' id row := by
    cases row with
    | box cs =>
      obtain ⟨b, cur, ty, h3, h4, h5, h6⟩ := h
      exact ⟨b, cur, ty, h3, h4, by rw [hb b (by rw [h3]; rfl) (Array.getElem?_eq_some_iff.1 h5).1]; exact h5, h6⟩
    | spare e sz ys gs =>
      obtain ⟨g, cur, h3, h4, h5, h6⟩ := h
      exact ⟨g, cur, h3, h4, by rw [hb g (by rw [h3]; rfl) (Array.getElem?_eq_some_iff.1 h5).1]; exact h5, h6⟩
    | byt bs =>
      obtain ⟨g, cap, cur, e, fz, h3, h4, h5, h6⟩ := h
      exact ⟨g, cap, cur, e, fz, h3, h4, by rw [hb g (by rw [h3]; rfl) (Array.getElem?_eq_some_iff.1 h5).1]; exact h5, h6⟩
    | row e sz ys =>
      refine ⟨⟨h.1.1, ?_⟩, h.2⟩
      rcases h.1.2 with h3 | ⟨g, cap, cur, h3, h4, h5, h6⟩
      · exact .inl h3
      · exact .inr ⟨g, cap, cur, h3, h4, by rw [hb g (by rw [h3]; rfl) (Array.getElem?_eq_some_iff.1 h5).1]; exact h5, h6⟩
  exact h2.mono hn hr hid
/-- a row without references, under another number -/
theorem RowRel.move {ρ ρ' : Nat → Value} {nx nx' : Nat} {w : World} {id id' : Nat} {row : Row} (h : RowRel w0.w ρ nx w id row) (hf : rowRefs 0 row = true) (he : ρ' id' = ρ id) : RowRel w0.w ρ' nx' w id' row := by
  cases row with
  | box cs =>
    obtain ⟨b, cur, ty, h3, h4, h5, h6, h7⟩ := h
    exact ⟨b, cur, ty, by rw [he]; exact h3, h4, h5, RelVs.norefs hf h6, h7⟩
  | row e sz ys =>
    simp only [RowRel] at h ⊢
    rw [he]
    exact h
  | byt bs =>
    simp only [RowRel] at h ⊢
    rw [he]
    exact h
  | spare e sz ys gs =>
    simp only [RowRel] at h ⊢
    rw [he]
    exact h

/-- the caller's rows, behind the call -/
theorem callM_rows {ρ ρ' : Nat → Value} {rows : List Row} {ids : List Nat} {nx2 : Nat} {m2 : List (Nat × Option Row)} {w w' : World} {b : Base} (hC : RelC w0 ρ m nx w) (hin : RowsIn m ids rows) (hnd : nodupB ids = true) (hl : rows.length = after.length)
    (hbw : b.w = w0.w) (hws : b.ws = w) (hkeep : ∀ c, b.keep c ↔ c < w.heap.size ∧ ∀ (j : Nat) id, ids[j]? = some id → blk (ρ id) ≠ some c) (hr0 : ∀ (j : Nat) id, ids[j]? = some id → ρ' j = ρ id)
    (hC' : RelC b ρ' m2 nx2 w') (ha : AftOK m2 0 after) : RelC w0 ρ (aft ids after m) nx w' := by
  have hlen : ids.length = after.length := hin.len.trans hl
  have hkp : ∀ c, w0.keep c → b.keep c := fun c hc => (hkeep c).2 ⟨Nat.lt_of_lt_of_le (w0.kb c hc) hC.kept.1, fun j id hj hb => by
    obtain ⟨r, hr⟩ : ∃ r, rows[j]? = some r := by
      have : j < rows.length := by rw [← hin.len]; exact (List.getElem?_eq_some_iff.1 hj).1
      exact ⟨_, List.getElem?_eq_getElem this⟩
    obtain ⟨id', h1, h2⟩ := hin.get hr
    rw [hj] at h1; cases h1
    exact hC.kept.2.2 id r h2 c hb hc⟩
  have was : ∀ id r, mem (aft ids after m) id = some r → ∃ r', mem m id = some r' := fun id r hr => by
    rcases mem_aft hlen hr with ⟨j, h1, h2⟩ | ⟨_, h2⟩
    · have : j < rows.length := by rw [← hin.len]; exact (List.getElem?_eq_some_iff.1 h1).1
      obtain ⟨id', h3, h4⟩ := hin.get (List.getElem?_eq_getElem this)
      rw [h1] at h3; cases h3
      exact ⟨_, h4⟩
    · exact ⟨_, h2⟩
  have hsz : w.heap.size ≤ w'.heap.size := by have := hC'.kept.1; rwa [hws] at this
  refine ⟨fun id r hr => ?_, fun i i' r r' hr hr' hne c hc => ?_, by have := hC'.below; rwa [hbw] at this, hC.pin, Nat.le_trans hC.kept.1 hsz, fun c hc => ?_, fun id r hr c hc => ?_⟩
  · rcases mem_aft hlen hr with ⟨j, h1, h2⟩ | ⟨h1, h2⟩
    · obtain ⟨r', h3⟩ := was id r hr
      refine ⟨(hC.rows id r' h3).1, ?_⟩
      obtain ⟨h4, h5⟩ := ha.get h2
      have h6 := (hC'.rows _ _ h4).2
      rw [hbw] at h6
      exact h6.move h5 (by rw [Nat.zero_add]; exact (hr0 j id h1).symm)
    · obtain ⟨g1, g2⟩ := hC.rows id r h2
      refine ⟨g1, g2.keepBlk (Nat.le_refl _) (fun _ _ => rfl) g1 fun c hc hlt => ?_⟩
      have := hC'.kept.2.1 c ((hkeep c).2 ⟨hlt, fun j id' hj hb => ?_⟩)
      · rwa [hws] at this
      · have : j < rows.length := by rw [← hin.len]; exact (List.getElem?_eq_some_iff.1 hj).1
        obtain ⟨id'', h3, h4⟩ := hin.get (List.getElem?_eq_getElem this)
        rw [hj] at h3; cases h3
        exact hC.apart id' id _ _ h4 h2 (fun e => h1 (e ▸ List.mem_of_getElem? hj)) c hb hc
  · obtain ⟨r1, h1⟩ := was i r hr
    obtain ⟨r2, h2⟩ := was i' r' hr'
    exact hC.apart i i' r1 r2 h1 h2 hne c hc
  · have := hC'.kept.2.1 c (hkp c hc)
    rw [hws] at this
    exact this.trans (hC.kept.2.1 c hc)
  · obtain ⟨r', h1⟩ := was id r hr
    exact hC.kept.2.2 id r' h1 c hc

/-- FROM THE TRIPLE OF A BODY TO THE CONTRACT. -/
theorem CtrM.of (G : Good P tb) {f : FuncId} {fn : Func} {c : Code} {args : List AV} {rows : List Row} {res : Res} {l : List ResultVar} {n k : Nat} (hf : P.funcs[f]? = some fn) (hb : fn.body = some c) (hname : (fn.name == "runtime.NumGoroutine") = false) (hl : fn.results = l.toArray) (hn : fn.ntmps = n)
    (hlen : Nat.ble args.length n = true) (hk : rows.length = k) (haf : rows.length = after.length) (hrefs : refsBs k args = true) (hfr : freeRows rows = true)
    (h : ∀ b : Base, [EnvAt P b] → b.n0 = k → W P b c ⟨argT args 0, rowM rows 0, k, n⟩ (FinM tb l res after)) : CtrM P f args rows res after := by
  refine ⟨⟨fn, hf, hname, by rw [hb]; rfl⟩, fun w0 hw0 ρ m nx ids w vs hin hnd hC hrel => ?_⟩
  have hidl : ids.length = k := hin.len.trans hk
  let ρc : Nat → Value := fun j => ρ (ids.getD j 0)
  have hrel' : RelVs w0.w ρc k args vs := RelVs.ren args hrefs hrel
  have hlen' : args.length ≤ n := Nat.le_of_ble_eq_true hlen
  have hvl := RelVs.length _ hrel'
  refine calls_of_wp hf hb ?_
  let b : Base := ⟨w0.w, k, ρc, w, fun c => c < w.heap.size ∧ ∀ (j : Nat) id, ids[j]? = some id → blk (ρ id) ≠ some c, fun c hc => hc.1, w0.E, w0.hE⟩
  have hen : EnvAt P b := ⟨hw0.e⟩
  have hrow : ∀ j row, mem (rowM rows 0) j = some row → ∃ id, ids[j]? = some id ∧ mem m id = some row ∧ ρc j = ρ id ∧ rows[j]? = some row := fun j row hm => by
    obtain ⟨_, h2⟩ := rowM_mem hm
    rw [Nat.sub_zero] at h2
    obtain ⟨id, h3, h4⟩ := hin.get h2
    exact ⟨id, h3, h4, by show ρ (ids.getD j 0) = _; rw [getD_of_get h3], h2⟩
  have hCb : RelC b ρc (rowM rows 0) k w := by
    refine ⟨fun j row hm => ?_, fun j j' row row' hm hm' hne c hc => ?_, hC.below, ⟨Nat.le_refl _, fun _ _ => rfl⟩, Nat.le_refl _, fun _ _ => rfl, fun j row hm c hc hkc => ?_⟩
    · obtain ⟨id, h1, h2, h3, h4⟩ := hrow j row hm
      refine ⟨by rw [← hk]; exact (List.getElem?_eq_some_iff.1 h4).1, ?_⟩
      exact RowRel.move (w0 := w0) (hC.rows id row h2).2 (freeRows_get hfr h4) h3
    · obtain ⟨id, h1, h2, h3, _⟩ := hrow j row hm
      obtain ⟨id', h1', h2', h3', _⟩ := hrow j' row' hm'
      rw [h3] at hc
      rw [h3']
      exact hC.apart id id' _ _ h2 h2' (fun e => hne (nodupB_get hnd h1 (e ▸ h1'))) c hc
    · obtain ⟨id, h1, h2, h3, _⟩ := hrow j row hm
      rw [h3] at hc
      exact hkc.2 j id h1 hc
  have hT : RelT b ρc (argT args 0) k n { tmps := vs.toArray ++ Array.replicate (fn.ntmps - vs.toArray.size) undef, defers := [] } := by
    refine ⟨fun t x hx => ?_, by simp [hn]; omega, rfl⟩
    obtain ⟨u, _, h2, h3⟩ := argT_spec hrel' t x hx
    have hlt : t < vs.length := by
      rcases Nat.lt_or_ge t vs.length with hlt | hge
      · exact hlt
      · rw [Nat.sub_zero, List.getElem?_eq_none hge] at h2; cases h2
    have : (vs.toArray ++ Array.replicate (fn.ntmps - vs.toArray.size) undef).getD t undef = u := by
      rw [Array.getD_eq_getD_getElem?, Array.getElem?_append_left (by simpa using hlt)]
      simp only [Nat.sub_zero] at h2
      simp [h2]
    rw [this]
    exact h3
  refine wp_mono (h b rfl ρc _ w hT hCb) ?_
  have fin : ∀ (ρ' : Nat → Value) (S : St) (a : Act) (w' : World), (∃ avs, getRs tb S l [] = some avs ∧ ResOK S.m avs res ∧ AftOK S.m 0 after ∧ deadA after avs = true) → RelT b ρ' S.T S.nx S.nt a → RelC b ρ' S.m S.nx w' →
      a.defers = [] ∧ ∃ v, (results fn a.tmps).run P w' = .ok v w' ∧ ∃ u ρ', Ending.returned v = .returned u ∧ (∀ i, i < nx → ρ' i = ρ i) ∧ nx ≤ (instR res nx (aft ids after m)).2.2 ∧ RelV w0.w ρ' (instR res nx (aft ids after m)).2.2 (instR res nx (aft ids after m)).1 u ∧
      RelC w0 ρ' (instR res nx (aft ids after m)).2.1 (instR res nx (aft ids after m)).2.2 w' := by
    intro ρ' S a w' ⟨avs, h1, h2, h3, h4⟩ hT' hC'
    obtain ⟨ys, avs', e1, e2, e3⟩ := getRs_spec G hT' hC' h1
    simp at e1
    subst e1
    have hpin : ∀ j id, ids[j]? = some id → ρ' j = ρ id := fun j id hj => by
      have hj' : j < k := by rw [← hidl]; exact (List.getElem?_eq_some_iff.1 hj).1
      rw [hC'.pin.2 j hj']
      show ρ (ids.getD j 0) = _
      rw [getD_of_get hj]
    have hA : RelC w0 ρ (aft ids after m) nx w' := callM_rows (b := b) hC hin hnd haf rfl rfl (fun c => Iff.rfl) hpin hC' h3
    -- a result's block: none of the caller's
    have hres : ∀ i, .own i ∈ avs → (∃ row, mem S.m i = some row) → ∀ c, blk (ρ' i) = some c → (∀ id r, mem (aft ids after m) id = some r → blk (ρ id) ≠ some c) ∧ ¬ w0.keep c := by
      intro i hi ⟨row, hm⟩ c hc
      have hlen2 : ids.length = after.length := hin.len.trans haf
      have hnk := hC'.kept.2.2 i row hm c hc
      refine ⟨fun id r hr hb => ?_, fun hk0 => ?_⟩
      · rcases mem_aft hlen2 hr with ⟨j, g1, g2⟩ | ⟨g1, g2⟩
        · have hne : i ≠ j := fun e => by
            have := deadA_get h4 hi
            rw [e, survB_get g2] at this
            cases this
          obtain ⟨g3, _⟩ := h3.get g2
          rw [Nat.zero_add] at g3
          rw [← hpin j id g1] at hb
          exact hC'.apart i j _ _ hm g3 hne c hc hb
        · refine hnk ⟨hC.lt g2 hb, fun j id' hj hb' => ?_⟩
          have : j < rows.length := by rw [← hin.len]; exact (List.getElem?_eq_some_iff.1 hj).1
          obtain ⟨id'', h5, h6⟩ := hin.get (List.getElem?_eq_getElem this)
          rw [hj] at h5; cases h5
          exact hC.apart id' id _ _ h6 g2 (fun e => g1 (e ▸ List.mem_of_getElem? hj)) c hb' hb
      · refine hnk ⟨Nat.lt_of_lt_of_le (w0.kb c hk0) hC.kept.1, fun j id' hj hb' => ?_⟩
        have : j < rows.length := by rw [← hin.len]; exact (List.getElem?_eq_some_iff.1 hj).1
        obtain ⟨id'', h5, h6⟩ := hin.get (List.getElem?_eq_getElem this)
        rw [hj] at h5; cases h5
        exact hC.kept.2.2 id' _ h6 c hb' hk0
    have hyl := RelVs.length _ e2
    cases res with
    | one r =>
      obtain ⟨x, rfl, hx⟩ := h2
      simp only [RelVs] at e2
      obtain ⟨y, _, rfl, g1, rfl⟩ := e2
      refine ⟨hT'.defers, _, results_run hl e3, y, ?_⟩
      have hy := hx.rel hC' g1
      cases r with
      | v u =>
        refine ⟨ρ, by simp, fun _ _ => rfl, Nat.le_refl _, ?_, hA⟩
        simpa [instR, RelV, RCRel] using hy
      | fr e sz zs =>
        simp only [RCRel] at hy
        have hblk : ∀ c, blk y = some c → (∀ id r, mem (aft ids after m) id = some r → blk (ρ id) ≠ some c) ∧ ¬ w0.keep c := by
          intro c hc
          cases x <;> simp only [RCOK] at hx
          case own i => simp only [RelV] at g1; rw [g1.2] at hc; exact hres i (by simp) ⟨_, hx⟩ c hc
          case v x => obtain ⟨rfl, _⟩ := hx; simp only [RelV] at g1; subst g1; simp [blk] at hc
        refine ⟨upd ρ nx y, by simp, fun i hi => upd_other ρ y (by omega), Nat.le_succ _, ?_, ?_⟩
        · simp only [instR, RelV]; exact ⟨by omega, by rw [upd_same]⟩
        · refine hA.add ?_ ?_ (fun c hc => (hblk c hc).2)
          · simp only [RowRel]; rw [upd_same]; exact hy
          · intro id r hm c hc hy'
            exact (hblk c hy').1 id r hm hc
    | many rs =>
      obtain ⟨h5, h6, h7, h8⟩ := h2
      have hne : ¬ ys.length = 1 := by rw [hyl]; exact beq_ne h6
      refine ⟨hT'.defers, _, results_run hl e3, .tuple ys.toArray, ?_⟩
      have hR := RCOKs.rel hC' h5 h8 h7 e2
      have hb : ∀ y ∈ ys, ∀ c, blk y = some c → (∀ id r, mem (aft ids after m) id = some r → blk (ρ id) ≠ some c) ∧ ¬ w0.keep c := fun y hy c hc => by
        obtain ⟨i, h9, h10⟩ := RCOKs.blks h5 h8 e2 y hy c hc
        rw [h10] at hc
        exact hres i h9 (h5.own h9) c hc
      obtain ⟨ρ2, q1, q2, q3, q4⟩ := inst_spec (B := w0.w.heap.size) rs ys ρ nx (aft ids after m) [] [] hA (Nat.le_refl _) hR (fun y hy id r hm c _ hc hy' => (hb y hy c hy').1 id r hm hc) (fun y hy c _ hc => (hb y hy c hc).2) (by simp [RelVs])
      refine ⟨ρ2, by simp [hne], q1, by simpa [instR] using q2, ?_, by simpa [instR] using q4⟩
      simp only [instR, RelV]
      exact ⟨ys, rfl, by simpa using q3⟩
  rintro e a w' ⟨ρ', S, hq, hT', hC'⟩
  cases e <;> simp only [FinM] at hq
  case normal => exact fin ρ' S a w' hq hT' hC'
  case ret => exact fin ρ' S a w' hq hT' hC'

theorem evL_rel {ρ : Nat → Value} {a : Act} (hT : RelT w0 ρ T nx nt a) : ∀ {xs : List Operand} {acc as : List AV}, evL T xs acc = some as → ∃ bs, as = acc.reverse ++ bs ∧ RelVs w0 ρ nx bs (xs.map a.eval)
  | [], acc, as, h => by simp [evL, revO_eq] at h; exact ⟨[], by simp [h], by simp [RelVs]⟩
  | x :: xs, acc, as, h => by
    simp only [evL] at h
    cases hx : ev T x with
    | none => simp [hx] at h
    | some av =>
      simp only [hx] at h
      obtain ⟨bs, h1, h2⟩ := evL_rel hT h
      refine ⟨av :: bs, by simpa using h1, ?_⟩
      simp only [List.map_cons, RelVs]
      exact ⟨_, _, rfl, hT.ev hx, h2⟩

theorem WX_callm [EnvAt P w0] {f : FuncId} {as : Array Operand} {ts : Array TypeId} {args : List AV} {rows : List Row} {res : Res} {n1 : Nat} (nx' : Nat) (ids : List Nat) (hd : o.dst = some d) (hlt : Nat.blt d nt = true) (ho : o.op = .call { callee := .value (.func f), args := as, argTypes := ts }) (hc : CtrM P f args rows res after)
    (ha : evL T as.toList [] = some (renAs ids args)) (hr : RowsIn m ids rows) (hnd : nodupB ids = true) (hi : instO res nx (aft ids after m) = some (r, m', n1)) (hn' : Nat.beq nx' n1 = true) (hk : WL P w0 ops rest ⟨(d, r) :: T, m', nx', nt⟩ Q) : WX P w0 ops o rest ⟨T, m, nx, nt⟩ Q := by
  have hn'' := Nat.eq_of_beq_eq_true hn'
  subst hn''
  rw [instO_eq] at hi
  have hi := Option.some.inj hi
  intro ρ a w hT hC
  obtain ⟨bs, h1, h2⟩ := evL_rel hT ha
  simp at h1
  subst h1
  have hcalls := hc.calls w0 ρ m nx ids w _ hr hnd hC h2
  have hrun : (execOp a.eval o).run P w = .ok (.enter f (as.toList.map a.eval).toArray) w := by
    simp [execOp, ho, resolve, Deferred.ofValue, invoke, Act.eval, run_call hc.callable, ← Array.toList_map]
  unfold Oper.wp
  rw [hrun, Oper.upon_enter]
  refine hcalls.mono fun ex w' ⟨v, ρ', he, q1, q2, q3, q4⟩ => ?_
  subst he
  rw [hi] at q2 q3 q4
  refine hk ρ' _ w' ?_ q4
  rw [hd]
  have hT' : RelT w0 ρ' T nx' nt a := ⟨fun t x hx => (hT.tmps t x hx).mono q2 q1, hT.size, hT.defers⟩
  exact hT'.put hlt q3
theorem WX_callm0 [EnvAt P w0] {f : FuncId} {as : Array Operand} {ts : Array TypeId} {args : List AV} {rows : List Row} {res : Res} {n1 : Nat} (nx' : Nat) (ids : List Nat) (hd : o.dst = none) (ho : o.op = .call { callee := .value (.func f), args := as, argTypes := ts }) (hc : CtrM P f args rows res after)
    (ha : evL T as.toList [] = some (renAs ids args)) (hr : RowsIn m ids rows) (hnd : nodupB ids = true) (hi : instO res nx (aft ids after m) = some (r, m', n1)) (hn' : Nat.beq nx' n1 = true) (hk : WL P w0 ops rest ⟨T, m', nx', nt⟩ Q) : WX P w0 ops o rest ⟨T, m, nx, nt⟩ Q := by
  have hn'' := Nat.eq_of_beq_eq_true hn'
  subst hn''
  rw [instO_eq] at hi
  have hi := Option.some.inj hi
  intro ρ a w hT hC
  obtain ⟨bs, h1, h2⟩ := evL_rel hT ha
  simp at h1
  subst h1
  have hcalls := hc.calls w0 ρ m nx ids w _ hr hnd hC h2
  have hrun : (execOp a.eval o).run P w = .ok (.enter f (as.toList.map a.eval).toArray) w := by
    simp [execOp, ho, resolve, Deferred.ofValue, invoke, Act.eval, run_call hc.callable, ← Array.toList_map]
  unfold Oper.wp
  rw [hrun, Oper.upon_enter]
  refine hcalls.mono fun ex w' ⟨v, ρ', he, q1, q2, q3, q4⟩ => ?_
  subst he
  rw [hi] at q2 q3 q4
  refine hk ρ' _ w' ?_ q4
  rw [hd]
  exact ⟨fun t x hx => (hT.tmps t x hx).mono q2 q1, hT.size, hT.defers⟩

/-- a row whose end is cut off, under a new number -/
theorem W_shrink {c : Code} {t id e sz n : Nat} {ys : List (List Value)} (nx' : Nat) (hn' : Nat.beq nx' (Nat.succ nx) = true) (ht : look t T = some (.sub id sz 0 n)) (hm : mem m id = some (.row e sz ys)) (hk : W P w0 c ⟨(t, .own nx) :: T, (nx, some (.row e sz (ys.take n))) :: (id, none) :: m, nx', nt⟩ Q) : W P w0 c ⟨T, m, nx, nt⟩ Q := by
  have hn'' := Nat.eq_of_beq_eq_true hn'
  subst hn''
  intro ρ a w hT hC
  have h1 := hT.tmps t _ ht
  simp only [RelV] at h1
  obtain ⟨hid, A, cap, he, hcap, _, h0⟩ := h1
  obtain ⟨l, hl, hnl⟩ := h0 trivial
  obtain ⟨hrow, hall⟩ := hC.row hm
  have hC2 : RelC w0 ρ ((id, none) :: m) nx w := by
    have hsub : ∀ i r, mem ((id, none) :: m) i = some r → mem m i = some r ∧ i ≠ id := fun i r hr => by
      by_cases e : id = i
      · subst e; rw [mem_cons_same] at hr; cases hr
      · rw [mem_cons_other e] at hr; exact ⟨hr, Ne.symm e⟩
    exact ⟨fun i r hr => hC.rows i r (hsub i r hr).1, fun i i' r r' hr hr' => hC.apart i i' r r' (hsub i r hr).1 (hsub i' r' hr').1, hC.below, hC.pin, hC.kept.1, hC.kept.2.1, fun i r hr => hC.kept.2.2 i r (hsub i r hr).1⟩
  have hbk : ∀ b, blk (a.tmps.getD t undef) = some b → blk (ρ id) = some b := by
    intro b hb
    rw [he] at hb
    rw [hl]
    cases A <;> first | exact hb | (simp [blk] at hb; done)
  have hllen : l = ys.length := by
    rcases hrow.2 with ⟨h2, h3⟩ | ⟨g, cp, cur, h2, _⟩
    · rw [hl] at h2; cases h2; exact h3.symm
    · rw [hl] at h2; cases h2; rfl
  have hown : w.ownsRow w0.w.heap.size e sz (a.tmps.getD t undef) (ys.take n).length (ys.take n).flatten := by
    have hnys : n ≤ ys.length := by
      rcases hrow.2 with ⟨h2, h3⟩ | ⟨g, cp, cur, h2, _⟩
      · rw [hl] at h2; cases h2; omega
      · rw [hl] at h2; cases h2; omega
    have hft : (ys.take n).flatten = ys.flatten.take (n * sz) := by
      have h5 : ys.flatten = (ys.take n).flatten ++ (ys.drop n).flatten := by rw [← List.flatten_append, List.take_append_drop]
      have h6 := flatten_length (ys := ys.take n) (sz := sz) (fun c hc => (hall c (List.mem_of_mem_take hc)).1)
      have hlt : (ys.take n).length = n := by rw [List.length_take]; omega
      rw [hlt] at h6
      have h7 : List.take (n * sz) ((ys.take n).flatten ++ (ys.drop n).flatten) = (ys.take n).flatten := by
        rw [List.take_append_of_le_length (by omega)]
        exact List.take_of_length_le (by omega)
      rw [h5, h7]
    have hlt : (ys.take n).length = n := by rw [List.length_take]; omega
    rw [hlt]
    refine ⟨by rw [flatten_length (sz := sz) (fun c hc => (hall c (List.mem_of_mem_take hc)).1), hlt], ?_⟩
    rcases hrow.2 with ⟨h2, h3⟩ | ⟨g, cp, cur, h2, h3, h4, h5, h6, h7, h8⟩
    · refine .inl ⟨?_, by omega⟩
      rw [hl] at h2
      rw [he]
      cases h2
      have : n = 0 := by omega
      rw [this]
    · refine .inr ⟨g, cp, cur, ?_, h3, h4, by omega, h6, h7, ?_⟩
      · rw [hl] at h2; rw [he]; cases h2; rfl
      · rw [hft, ← h8, List.take_take, Nat.min_eq_left (Nat.mul_le_mul_right _ (by omega))]
  refine hk (upd ρ nx (a.tmps.getD t undef)) a w ⟨fun t' x hx => ?_, hT.size, hT.defers⟩ (hC2.add ?_ ?_ ?_)
  · by_cases e : t = t'
    · subst e
      rw [look_cons_same] at hx
      cases hx
      simp only [RelV]
      exact ⟨by omega, (upd_same _ _ _).symm⟩
    · rw [look_cons_other e] at hx
      exact (hT.tmps t' x hx).mono (Nat.le_succ _) (fun i hi => upd_other ρ _ (Nat.ne_of_lt hi))
  · refine ⟨?_, fun c hc => hall c (List.mem_of_mem_take hc)⟩
    rw [upd_same]
    exact hown
  · intro i r hr b hb hy
    by_cases e : id = i
    · subst e; rw [mem_cons_same] at hr; cases hr
    · rw [mem_cons_other e] at hr
      exact hC.apart i id _ _ hr hm (Ne.symm e) b hb (hbk b hy)
  · intro b hb
    exact hC.kept.2.2 id _ hm b (hbk b hb)

theorem flatten_take {sz n : Nat} {ys : List (List Value)} (hall : ∀ c ∈ ys, c.length = sz) (hn : n ≤ ys.length) : (ys.take n).flatten = ys.flatten.take (n * sz) := by
  have h5 : ys.flatten = (ys.take n).flatten ++ (ys.drop n).flatten := by rw [← List.flatten_append, List.take_append_drop]
  have h6 := flatten_length (ys := ys.take n) (sz := sz) (fun c hc => hall c (List.mem_of_mem_take hc))
  rw [List.length_take, Nat.min_eq_left hn] at h6
  have h7 : List.take (n * sz) ((ys.take n).flatten ++ (ys.drop n).flatten) = (ys.take n).flatten := by
    rw [List.take_append_of_le_length (by omega)]
    exact List.take_of_length_le (by omega)
  rw [h5, h7]
theorem flatten_drop {sz n : Nat} {ys : List (List Value)} (hall : ∀ c ∈ ys, c.length = sz) (hn : n ≤ ys.length) : (ys.drop n).flatten = ys.flatten.drop (n * sz) := by
  have h5 : ys.flatten = (ys.take n).flatten ++ (ys.drop n).flatten := by rw [← List.flatten_append, List.take_append_drop]
  have h6 := flatten_length (ys := ys.take n) (sz := sz) (fun c hc => hall c (List.mem_of_mem_take hc))
  rw [List.length_take, Nat.min_eq_left hn] at h6
  have h7 : List.drop (n * sz) ((ys.take n).flatten ++ (ys.drop n).flatten) = (ys.drop n).flatten := by
    rw [List.drop_append_of_le_length (by omega), List.drop_of_length_le (by omega), List.nil_append]
  rw [h5, h7]
theorem zero_flat {zs : List Value} (hpos : 0 < zs.length) (n : Nat) : (Builtin.zeroCells zs.toArray n).toList = (List.replicate n zs).flatten := by
  apply List.ext_getElem?
  intro j
  by_cases hj : j < n * zs.length
  · have hdiv : j / zs.length < n := Nat.div_lt_of_lt_mul (by rw [Nat.mul_comm]; exact hj)
    have hmod : j % zs.length < zs.length := Nat.mod_lt _ hpos
    have h1 := flatten_at (ys := List.replicate n zs) (sz := zs.length) (fun c hc => by rw [(List.mem_replicate.1 hc).2]) (i := j / zs.length) (c := zs) (by simp [hdiv]) hmod
    have h2 : j / zs.length * zs.length + j % zs.length = j := by rw [Nat.mul_comm]; exact Nat.div_add_mod j _
    rw [h2] at h1
    rw [h1]
    simp [Builtin.zeroCells, hj, hmod]
  · rw [List.getElem?_eq_none (by simp [Builtin.zeroCells]; omega), List.getElem?_eq_none (by rw [flatten_length (sz := zs.length) (fun c hc => by rw [(List.mem_replicate.1 hc).2])]; simp; omega)]
theorem RelC.again {ρ : Nat → Value} {w : World} {id : Nat} {row : Row} (hC : RelC w0 ρ m nx w) (hm : mem m id = some row) : RelC w0 ρ ((id, some row) :: m) nx w := by
  have hs : ∀ i, mem ((id, some row) :: m) i = mem m i := fun i => by
    by_cases e : id = i
    · subst e; rw [mem_cons_same, hm]
    · rw [mem_cons_other e]
  exact ⟨fun i r hr => hC.rows i r (by rw [← hs]; exact hr), fun i i' r r' hr hr' => hC.apart i i' r r' (by rw [← hs]; exact hr) (by rw [← hs]; exact hr'), hC.below, hC.pin, hC.kept.1, hC.kept.2.1, fun i r hr => hC.kept.2.2 i r (by rw [← hs]; exact hr)⟩
/-- a row that is written from element i on -/
theorem WX_splice {id e sz i : Nat} {ys vs : List (List Value)} (hd : o.dst = none) (hm : mem m id = some (.row e sz ys)) (hle : i + vs.length ≤ ys.length) (hvs : ∀ c ∈ vs, c.length = sz ∧ ∀ u ∈ c, u.oneCell' = true)
    (hrun : ∀ ρ a w, RelT w0 ρ T nx nt a → RelC w0 ρ m nx w → (vs = [] → ∃ y, (execOp a.eval o).run P w = .ok (.value y) w ∨ (execOp a.eval o).run P w = .ok .skip w) ∧
      (vs ≠ [] → ∀ g l c cur, ρ id = .slice (some ⟨g, 0, none⟩) l c → w.heap[g]? = some (.cells cur e (0, 0)) → i * sz + vs.flatten.length ≤ cur.size → ∃ y, (execOp a.eval o).run P w = .ok (.value y) (w.setRow g (cur.toList.take (i * sz) ++ vs.flatten ++ cur.toList.drop (i * sz + vs.flatten.length)).toArray)))
    (hk : WL P w0 ops rest ⟨T, (id, some (.row e sz (ys.take i ++ vs ++ ys.drop (i + vs.length)))) :: m, nx, nt⟩ Q) : WX P w0 ops o rest ⟨T, m, nx, nt⟩ Q := by
  intro ρ a w hT hC
  obtain ⟨h1, h2⟩ := hrun ρ a w hT hC
  obtain ⟨hrow, hall⟩ := hC.row hm
  unfold Oper.wp
  by_cases hv : vs = []
  · subst hv
    obtain ⟨y, h1⟩ := h1 rfl
    have e : ys.take i ++ [] ++ ys.drop (i + ([] : List (List Value)).length) = ys := by simp
    rw [e] at hk
    rcases h1 with h1 | h1 <;> rw [h1] <;> simp only [Oper.upon, hd] <;> exact hk ρ _ _ hT.put_none (hC.again hm)
  · have hpos : 0 < vs.length := by cases vs with | nil => exact absurd rfl hv | cons _ _ => simp
    have hfl := flatten_length (ys := vs) (sz := sz) (fun c hc => (hvs c hc).1)
    rcases hrow.2 with ⟨_, hz⟩ | ⟨g, cap, cur, hsl, hB, hb, hcap, hcapm, hcur, htake⟩
    · omega
    · have hbd : (i + vs.length) * sz ≤ ys.length * sz := Nat.mul_le_mul_right _ hle
      have hbd2 : ys.length * sz ≤ cur.size := by rw [hcur]; exact Nat.mul_le_mul_right _ hcap
      rw [Nat.add_mul] at hbd
      obtain ⟨y, h3⟩ := h2 hv g _ _ cur hsl hb (by rw [hfl]; omega)
      rw [h3, Oper.upon_value, hd]
      have hall' : ∀ c ∈ ys.take i ++ vs ++ ys.drop (i + vs.length), c.length = sz ∧ ∀ u ∈ c, u.oneCell' = true := by
        intro c hc
        simp only [List.mem_append] at hc
        rcases hc with (hc | hc) | hc
        · exact hall c (List.mem_of_mem_take hc)
        · exact hvs c hc
        · exact hall c (List.mem_of_mem_drop hc)
      have hlen : (ys.take i ++ vs ++ ys.drop (i + vs.length)).length = ys.length := by simp; omega
      refine hk ρ _ _ hT.put_none (hC.change hm (by rw [hsl]; rfl) (grownBy_setRow w g _) hB ⟨⟨?_, .inr ⟨g, cap, _, by rw [hlen]; exact hsl, hB, setRow_heap w g cur _ e _ hb, by omega, hcapm, ?_, ?_⟩⟩, hall'⟩)
      · rw [flatten_length (fun c hc => (hall' c hc).1)]
      · simp [hfl]; omega
      · rw [hlen]
        simp only [List.flatten_append]
        rw [flatten_take (fun c hc => (hall c hc).1) (by omega), flatten_drop (fun c hc => (hall c hc).1) hle, ← htake, hfl]
        have hlt1 : (List.take (i * sz) cur.toList).length = i * sz := by rw [List.length_take]; simp; omega
        simp only [List.take_append, List.take_take, List.drop_take, List.length_append, hlt1, hfl]
        rw [Nat.min_eq_left (by omega : i * sz ≤ ys.length * sz), Nat.min_eq_right (by omega : i * sz ≤ ys.length * sz)]
        rw [List.take_of_length_le (l := vs.flatten) (by omega), Nat.add_mul]
theorem WX_clear {t e sz by_ id i n : Nat} {zs : List Value} {x : Operand} {ys : List (List Value)} (G : Good P tb) (hd : o.dst = none) (ho : o.op = .call { callee := .builtin .clear, args := #[x], argTypes := #[t] }) (ht : look t tb = some (.slice e sz by_ zs)) (hx : ev T x = some (.sub id sz i n)) (hm : mem m id = some (.row e sz ys)) (hle : i + n ≤ ys.length)
    (hk : WL P w0 ops rest ⟨T, (id, some (.row e sz (ys.take i ++ List.replicate n zs ++ ys.drop (i + n)))) :: m, nx, nt⟩ Q) : WX P w0 ops o rest ⟨T, m, nx, nt⟩ Q := by
  obtain ⟨hu, _, j, z, hj, hs, _, hz, hzc, hzl, hpos, hone⟩ := G t _ ht
  refine WX_splice (i := i) (vs := List.replicate n zs) hd hm (by simpa using hle) (fun c hc => by rw [(List.mem_replicate.1 hc).2]; exact ⟨hzl, hone⟩) (fun ρ a w hT hC => ?_) (by simpa using hk)
  have h1 := hT.ev hx
  simp only [RelV] at h1
  obtain ⟨_, A, cap, he, hcap, hA, _⟩ := h1
  refine ⟨fun hv => ?_, fun hv g l c cur hg hb hfit => ?_⟩
  · have hn : n = 0 := by simpa using hv
    subst hn
    refine ⟨.tuple #[], .inl ?_⟩
    simp only [execOp, ho, resolve, invoke, builtin, Sem.run_bind, Sem.run_pure, Result.andThen_ok, List.map_toArray, List.map_cons, List.map_nil, he]
    cases A <;> simp [Builtin.clear_, run_underlying hu]
  · have hn : 0 < n := by
      rcases Nat.eq_zero_or_pos n with h | h
      · subst h; simp at hv
      · exact h
    obtain ⟨g', l', c', hg', rfl⟩ := hA hn
    rw [hg] at hg'
    cases hg'
    refine ⟨.tuple #[], ?_⟩
    have hzf : (Builtin.zeroCells z.cells n).toList = (List.replicate n zs).flatten := by
      rw [hzc]; exact zero_flat (by omega) n
    have hst := run_storeCells_at P g (i * sz) e (List.replicate n zs).flatten 0 cur w hb (by simpa using hfit) (fun v hv => by
      obtain ⟨c, hc, hvc⟩ := List.mem_flatten.1 hv
      rw [(List.mem_replicate.1 hc).2] at hvc
      exact hone v hvc)
    simp only [Nat.add_zero] at hst
    obtain ⟨k, rfl⟩ : ∃ k, n = k + 1 := ⟨n - 1, by omega⟩
    simp only [execOp, ho, resolve, invoke, builtin, Sem.run_bind, Sem.run_pure, Result.andThen_ok, List.map_toArray, List.map_cons, List.map_nil, he]
    simp [Builtin.clear_, run_underlying hu, zeroValue, typeInfo, hj, hz, hzf, hst]
end
end Go.Rf
