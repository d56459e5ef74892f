/- Contracts that do not tell all: behind the call there is some 'x' with 'R x', and all stands as that 'x' says. -/
import Derived.Test.YtehijimgenicfaaRf0
set_option linter.unusedVariables false
set_option linter.unusedSectionVars false
set_option linter.unusedSimpArgs false
namespace Go.Rf
open Go Go.RowKit
structure CtrX (P : Program) [Env P] {α : Type} (f : FuncId) (args : List AV) (rows : List Row) (R : α → Prop) (res : α → Res) (after : α → List (Option Row)) : Prop where
  callable : Callable P f
  calls : ∀ (w0 : Base) [EnvAt P w0] ρ m nx (ids : List Nat) w vs, RowsIn m ids rows → nodupB ids = true → RelC w0 ρ m nx w → RelVs w0.w ρ nx (renAs ids args) vs →
    Calls P f vs.toArray w (fun en w' => ∃ x, R x ∧ ∃ v ρ', en = .returned v ∧ (∀ i, i < nx → ρ' i = ρ i) ∧ nx ≤ (instR (res x) nx (aft ids (after x) m)).2.2 ∧ RelV w0.w ρ' (instR (res x) nx (aft ids (after x) m)).2.2 (instR (res x) nx (aft ids (after x) m)).1 v ∧
      RelC w0 ρ' (instR (res x) nx (aft ids (after x) m)).2.1 (instR (res x) nx (aft ids (after x) m)).2.2 w')
theorem CtrX.ofM {P : Program} [Env P] {α : Type} {f : FuncId} {args : List AV} {rows : List Row} {R : α → Prop} {res : α → Res} {after : α → List (Option Row)} {r : Res} {a : List (Option Row)} (x : α) (h : CtrM P f args rows r a) (hx : R x) (hr : res x = r) (ha : after x = a) : CtrX P f args rows R res after := by
  subst hr
  subst ha
  exact ⟨h.callable, fun w0 hw ρ m nx ids w vs h1 h2 h3 h4 => (h.calls w0 ρ m nx ids w vs h1 h2 h3 h4).mono fun en w' h => ⟨x, hx, h⟩⟩
theorem CtrX.weak {P : Program} [Env P] {α : Type} {f : FuncId} {args : List AV} {rows : List Row} {R R' : α → Prop} {res : α → Res} {after : α → List (Option Row)} (h : CtrX P f args rows R res after) (hR : ∀ x, R x → R' x) : CtrX P f args rows R' res after :=
  ⟨h.callable, fun w0 hw ρ m nx ids w vs h1 h2 h3 h4 => (h.calls w0 ρ m nx ids w vs h1 h2 h3 h4).mono fun en w' ⟨x, hx, h⟩ => ⟨x, hR x hx, h⟩⟩
def FinX {α : Type} (tb : List (Nat × TyI)) (rs : List ResultVar) (R : α → Prop) (res : α → Res) (after : α → List (Option Row)) (e : Exit) (S : St) : Prop := ∃ x, R x ∧ FinM tb rs (res x) (after x) e S
theorem finx {α : Type} {tb : List (Nat × TyI)} {rs : List ResultVar} {R : α → Prop} {res : α → Res} {after : α → List (Option Row)} {e : Exit} {S : St} (x : α) (h : FinM tb rs (res x) (after x) e S) (hx : R x) : FinX tb rs R res after e S := ⟨x, hx, h⟩
section
variable {P : Program} [Env P] {w0 : Base} {ops : Array Oper} {tb : List (Nat × TyI)} {o : Oper} {rest : List Oper} {T : List (Nat × AV)} {m : List (Nat × Option Row)} {nx nt d : Nat} {Q : Exit → St → Prop}
theorem CtrX.of {α : Type} {R : α → Prop} {res : α → Res} {after : α → List (Option Row)} (G : Good P tb) {f : FuncId} {fn : Func} {c : Code} {args : List AV} {rows : List Row} {l : List ResultVar} {n k : Nat} (hf : P.funcs[f]? = some fn) (hb : fn.body = some c) (hname : (fn.name == "runtime.NumGoroutine") = false) (hl : fn.results = l.toArray) (hn : fn.ntmps = n)
    (hlen : Nat.ble args.length n = true) (hk : rows.length = k) (haf : ∀ x, rows.length = (after x).length) (hrefs : refsBs k args = true) (hfr : freeRows rows = true)
    (h : ∀ b : Base, [EnvAt P b] → b.n0 = k → W P b c ⟨argT args 0, rowM rows 0, k, n⟩ (FinX tb l R res after)) : CtrX P f args rows R res after := by
  refine ⟨⟨fn, hf, hname, by rw [hb]; rfl⟩, fun w0 hw0 ρ m nx ids w vs hin hnd hC hrel => ?_⟩
  have hidl : ids.length = k := hin.len.trans hk
  let ρc : Nat → Value := fun j => ρ (ids.getD j 0)
  have hrel' : RelVs w0.w ρc k args vs := RelVs.ren args hrefs hrel
  have hlen' : args.length ≤ n := Nat.le_of_ble_eq_true hlen
  have hvl := RelVs.length _ hrel'
  refine calls_of_wp hf hb ?_
  let b : Base := ⟨w0.w, k, ρc, w, fun c => c < w.heap.size ∧ ∀ (j : Nat) id, ids[j]? = some id → blk (ρ id) ≠ some c, fun c hc => hc.1, w0.E, w0.hE⟩
  have hen : EnvAt P b := ⟨hw0.e⟩
  have hrow : ∀ j row, mem (rowM rows 0) j = some row → ∃ id, ids[j]? = some id ∧ mem m id = some row ∧ ρc j = ρ id ∧ rows[j]? = some row := fun j row hm => by
    obtain ⟨_, h2⟩ := rowM_mem hm
    rw [Nat.sub_zero] at h2
    obtain ⟨id, h3, h4⟩ := hin.get h2
    exact ⟨id, h3, h4, by show ρ (ids.getD j 0) = _; rw [getD_of_get h3], h2⟩
  have hCb : RelC b ρc (rowM rows 0) k w := by
    refine ⟨fun j row hm => ?_, fun j j' row row' hm hm' hne c hc => ?_, hC.below, ⟨Nat.le_refl _, fun _ _ => rfl⟩, Nat.le_refl _, fun _ _ => rfl, fun j row hm c hc hkc => ?_⟩
    · obtain ⟨id, h1, h2, h3, h4⟩ := hrow j row hm
      refine ⟨by rw [← hk]; exact (List.getElem?_eq_some_iff.1 h4).1, ?_⟩
      exact RowRel.move (w0 := w0) (hC.rows id row h2).2 (freeRows_get hfr h4) h3
    · obtain ⟨id, h1, h2, h3, _⟩ := hrow j row hm
      obtain ⟨id', h1', h2', h3', _⟩ := hrow j' row' hm'
      rw [h3] at hc
      rw [h3']
      exact hC.apart id id' _ _ h2 h2' (fun e => hne (nodupB_get hnd h1 (e ▸ h1'))) c hc
    · obtain ⟨id, h1, h2, h3, _⟩ := hrow j row hm
      rw [h3] at hc
      exact hkc.2 j id h1 hc
  have hT : RelT b ρc (argT args 0) k n { tmps := vs.toArray ++ Array.replicate (fn.ntmps - vs.toArray.size) undef, defers := [] } := by
    refine ⟨fun t x hx => ?_, by simp [hn]; omega, rfl⟩
    obtain ⟨u, _, h2, h3⟩ := argT_spec hrel' t x hx
    have hlt : t < vs.length := by
      rcases Nat.lt_or_ge t vs.length with hlt | hge
      · exact hlt
      · rw [Nat.sub_zero, List.getElem?_eq_none hge] at h2; cases h2
    have : (vs.toArray ++ Array.replicate (fn.ntmps - vs.toArray.size) undef).getD t undef = u := by
      rw [Array.getD_eq_getD_getElem?, Array.getElem?_append_left (by simpa using hlt)]
      simp only [Nat.sub_zero] at h2
      simp [h2]
    rw [this]
    exact h3
  refine wp_mono (h b rfl ρc _ w hT hCb) ?_
  have fin : ∀ (x : α) (ρ' : Nat → Value) (S : St) (a : Act) (w' : World), (∃ avs, getRs tb S l [] = some avs ∧ ResOK S.m avs (res x) ∧ AftOK S.m 0 (after x) ∧ deadA (after x) avs = true) → RelT b ρ' S.T S.nx S.nt a → RelC b ρ' S.m S.nx w' →
      a.defers = [] ∧ ∃ v, (results fn a.tmps).run P w' = .ok v w' ∧ ∃ u ρ', Ending.returned v = .returned u ∧ (∀ i, i < nx → ρ' i = ρ i) ∧ nx ≤ (instR (res x) nx (aft ids (after x) m)).2.2 ∧ RelV w0.w ρ' (instR (res x) nx (aft ids (after x) m)).2.2 (instR (res x) nx (aft ids (after x) m)).1 u ∧
      RelC w0 ρ' (instR (res x) nx (aft ids (after x) m)).2.1 (instR (res x) nx (aft ids (after x) m)).2.2 w' := by
    intro x ρ' S a w' ⟨avs, h1, h2, h3, h4⟩ hT' hC'
    generalize hres0 : res x = rs0 at *
    generalize haft0 : after x = as0 at *
    have haf : rows.length = as0.length := haft0 ▸ haf x
    obtain ⟨ys, avs', e1, e2, e3⟩ := getRs_spec G hT' hC' h1
    simp at e1
    subst e1
    have hpin : ∀ j id, ids[j]? = some id → ρ' j = ρ id := fun j id hj => by
      have hj' : j < k := by rw [← hidl]; exact (List.getElem?_eq_some_iff.1 hj).1
      rw [hC'.pin.2 j hj']
      show ρ (ids.getD j 0) = _
      rw [getD_of_get hj]
    have hA : RelC w0 ρ (aft ids as0 m) nx w' := callM_rows (b := b) hC hin hnd haf rfl rfl (fun c => Iff.rfl) hpin hC' h3
    -- a result's block: none of the caller's
    have hres : ∀ i, .own i ∈ avs → (∃ row, mem S.m i = some row) → ∀ c, blk (ρ' i) = some c → (∀ id r, mem (aft ids as0 m) id = some r → blk (ρ id) ≠ some c) ∧ ¬ w0.keep c := by
      intro i hi ⟨row, hm⟩ c hc
      have hlen2 : ids.length = as0.length := hin.len.trans haf
      have hnk := hC'.kept.2.2 i row hm c hc
      refine ⟨fun id r hr hb => ?_, fun hk0 => ?_⟩
      · rcases mem_aft hlen2 hr with ⟨j, g1, g2⟩ | ⟨g1, g2⟩
        · have hne : i ≠ j := fun e => by
            have := deadA_get h4 hi
            rw [e, survB_get g2] at this
            cases this
          obtain ⟨g3, _⟩ := h3.get g2
          rw [Nat.zero_add] at g3
          rw [← hpin j id g1] at hb
          exact hC'.apart i j _ _ hm g3 hne c hc hb
        · refine hnk ⟨hC.lt g2 hb, fun j id' hj hb' => ?_⟩
          have : j < rows.length := by rw [← hin.len]; exact (List.getElem?_eq_some_iff.1 hj).1
          obtain ⟨id'', h5, h6⟩ := hin.get (List.getElem?_eq_getElem this)
          rw [hj] at h5; cases h5
          exact hC.apart id' id _ _ h6 g2 (fun e => g1 (e ▸ List.mem_of_getElem? hj)) c hb' hb
      · refine hnk ⟨Nat.lt_of_lt_of_le (w0.kb c hk0) hC.kept.1, fun j id' hj hb' => ?_⟩
        have : j < rows.length := by rw [← hin.len]; exact (List.getElem?_eq_some_iff.1 hj).1
        obtain ⟨id'', h5, h6⟩ := hin.get (List.getElem?_eq_getElem this)
        rw [hj] at h5; cases h5
        exact hC.kept.2.2 id' _ h6 c hb' hk0
    have hyl := RelVs.length _ e2
    cases rs0 with
    | one r =>
      obtain ⟨x, rfl, hx⟩ := h2
      simp only [RelVs] at e2
      obtain ⟨y, _, rfl, g1, rfl⟩ := e2
      refine ⟨hT'.defers, _, results_run hl e3, y, ?_⟩
      have hy := hx.rel hC' g1
      cases r with
      | v u =>
        refine ⟨ρ, by simp, fun _ _ => rfl, Nat.le_refl _, ?_, hA⟩
        simpa [instR, RelV, RCRel] using hy
      | fr e sz zs =>
        simp only [RCRel] at hy
        have hblk : ∀ c, blk y = some c → (∀ id r, mem (aft ids as0 m) id = some r → blk (ρ id) ≠ some c) ∧ ¬ w0.keep c := by
          intro c hc
          cases x <;> simp only [RCOK] at hx
          case own i => simp only [RelV] at g1; rw [g1.2] at hc; exact hres i (by simp) ⟨_, hx⟩ c hc
          case v x => obtain ⟨rfl, _⟩ := hx; simp only [RelV] at g1; subst g1; simp [blk] at hc
        refine ⟨upd ρ nx y, by simp, fun i hi => upd_other ρ y (by omega), Nat.le_succ _, ?_, ?_⟩
        · simp only [instR, RelV]; exact ⟨by omega, by rw [upd_same]⟩
        · refine hA.add ?_ ?_ (fun c hc => (hblk c hc).2)
          · simp only [RowRel]; rw [upd_same]; exact hy
          · intro id r hm c hc hy'
            exact (hblk c hy').1 id r hm hc
    | many rs =>
      obtain ⟨h5, h6, h7, h8⟩ := h2
      have hne : ¬ ys.length = 1 := by rw [hyl]; exact beq_ne h6
      refine ⟨hT'.defers, _, results_run hl e3, .tuple ys.toArray, ?_⟩
      have hR := RCOKs.rel hC' h5 h8 h7 e2
      have hb : ∀ y ∈ ys, ∀ c, blk y = some c → (∀ id r, mem (aft ids as0 m) id = some r → blk (ρ id) ≠ some c) ∧ ¬ w0.keep c := fun y hy c hc => by
        obtain ⟨i, h9, h10⟩ := RCOKs.blks h5 h8 e2 y hy c hc
        rw [h10] at hc
        exact hres i h9 (h5.own h9) c hc
      obtain ⟨ρ2, q1, q2, q3, q4⟩ := inst_spec (B := w0.w.heap.size) rs ys ρ nx (aft ids as0 m) [] [] hA (Nat.le_refl _) hR (fun y hy id r hm c _ hc hy' => (hb y hy c hy').1 id r hm hc) (fun y hy c _ hc => (hb y hy c hc).2) (by simp [RelVs])
      refine ⟨ρ2, by simp [hne], q1, by simpa [instR] using q2, ?_, by simpa [instR] using q4⟩
      simp only [instR, RelV]
      exact ⟨ys, rfl, by simpa using q3⟩
  rintro e a w' ⟨ρ', S, ⟨x, hx, hq⟩, hT', hC'⟩
  cases e <;> simp only [FinM] at hq
  case normal => obtain ⟨g1, v, g2, g3⟩ := fin x ρ' S a w' hq hT' hC'; exact ⟨g1, v, g2, x, hx, g3⟩
  case ret => obtain ⟨g1, v, g2, g3⟩ := fin x ρ' S a w' hq hT' hC'; exact ⟨g1, v, g2, x, hx, g3⟩

theorem WX_callx [EnvAt P w0] {α : Type} {R : α → Prop} {res : α → Res} {after : α → List (Option Row)} {f : FuncId} {as : Array Operand} {ts : Array TypeId} {args : List AV} {rows : List Row} {n1 : Nat} (nx' : Nat) (ids : List Nat) (hd : o.dst = some d) (hlt : Nat.blt d nt = true) (ho : o.op = .call { callee := .value (.func f), args := as, argTypes := ts }) (hc : CtrX P f args rows R res after)
    (ha : evL T as.toList [] = some (renAs ids args)) (hr : RowsIn m ids rows) (hnd : nodupB ids = true) {r : α → AV} {m' : α → List (Nat × Option Row)} (hi : ∀ x, instO (res x) nx (aft ids (after x) m) = some (r x, m' x, n1)) (hn' : Nat.beq nx' n1 = true) (hk : ∀ x, R x → WL P w0 ops rest ⟨(d, r x) :: T, m' x, nx', nt⟩ Q) : WX P w0 ops o rest ⟨T, m, nx, nt⟩ Q := by
  have hn'' := Nat.eq_of_beq_eq_true hn'
  subst hn''
  intro ρ a w hT hC
  obtain ⟨bs, h1, h2⟩ := evL_rel hT ha
  simp at h1
  subst h1
  have hcalls := hc.calls w0 ρ m nx ids w _ hr hnd hC h2
  have hrun : (execOp a.eval o).run P w = .ok (.enter f (as.toList.map a.eval).toArray) w := by
    simp [execOp, ho, resolve, Deferred.ofValue, invoke, Act.eval, run_call hc.callable, ← Array.toList_map]
  unfold Oper.wp
  rw [hrun, Oper.upon_enter]
  refine hcalls.mono fun ex w' ⟨x, hx, v, ρ', he, q1, q2, q3, q4⟩ => ?_
  subst he
  have hi := hi x
  rw [instO_eq] at hi
  have hi := Option.some.inj hi
  rw [hi] at q2 q3 q4
  refine hk x hx ρ' _ w' ?_ q4
  rw [hd]
  have hT' : RelT w0 ρ' T nx' nt a := ⟨fun t x hx => (hT.tmps t x hx).mono q2 q1, hT.size, hT.defers⟩
  exact hT'.put hlt q3
end
end Go.Rf
