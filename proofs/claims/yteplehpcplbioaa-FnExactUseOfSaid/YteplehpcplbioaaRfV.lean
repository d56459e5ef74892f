/- Functions that write the caller's row in place. -/
import Derived.Test.YteplehpcplbioaaRfU
set_option linter.unusedVariables false
set_option linter.unusedSimpArgs false
namespace Go.Rf
open Go Go.RowKit
section
variable {P : Program} {w0 : Base} {ops : Array Oper} {tb : List (Nat × TyI)} {o : Oper} {rest : List Oper} {T : List (Nat × AV)} {m m' : List (Nat × Option Row)} {nx nt d : Nat} {r : AV} {Q : Exit → St → Prop}

def SameM (M M' : List (Nat × Option Row)) : Prop := ∀ i, mem M i = mem M' i
theorem SameM.refl : SameM m m := fun _ => rfl
theorem SameM.trans {a b c : List (Nat × Option Row)} (h : SameM a b) (k : SameM b c) : SameM a c := fun i => (h i).trans (k i)
theorem SameM.shadow {id : Nat} {a b : Option Row} : SameM ((id, a) :: (id, b) :: m) ((id, a) :: m) := fun i => by
  by_cases e : id = i
  · subst e; rw [mem_cons_same, mem_cons_same]
  · rw [mem_cons_other e, mem_cons_other e, mem_cons_other e]
theorem SameM.self {id : Nat} {row : Row} (h : mem m id = some row) : SameM m ((id, some row) :: m) := fun i => by
  by_cases e : id = i
  · subst e; rw [mem_cons_same, h]
  · rw [mem_cons_other e]
theorem RelC.same {ρ : Nat → Value} {w : World} (h : SameM m m') (hC : RelC w0 ρ m nx w) : RelC w0 ρ m' nx w :=
  ⟨fun id r hr => hC.rows id r (by rw [h id]; exact hr), fun id id' r r' hr hr' => hC.apart id id' r r' (by rw [h id]; exact hr) (by rw [h id']; exact hr'), hC.below, hC.pin⟩
theorem WL_same {l : List Oper} (h : SameM m m') (hk : WL P w0 ops l ⟨T, m', nx, nt⟩ Q) : WL P w0 ops l ⟨T, m, nx, nt⟩ Q :=
  fun ρ a w hT hC => hk ρ a w hT (hC.same h)

theorem WX_store_io {t : TypeId} {i : TyI} {x y : Operand} {id sz j k e : Nat} {ys : List (List Value)} {c vs c' : List Value} {ay : AV} {cs : List AV} (G : Good P tb) (hd : o.dst = none) (ho : o.op = .store t x y) (ht : look t tb = some i) (hx : ev T x = some (.rpt id sz j k))
    (hc : ys[j]? = some c) (hy : ev T y = some ay) (hv : cellsOf ay = some cs) (hv2 : vaR cs [] = some vs) (h1 : oneAs ((id, some (.row e sz ys)) :: m) cs = true) (hl : Nat.beq vs.length (sizeI i) = true) (hfit : k + vs.length ≤ c.length) (hs : setO c k vs [] = some c')
    (hk : WL P w0 ops rest ⟨T, (id, some (.row e sz (ys.set j c'))) :: m, nx, nt⟩ Q) : WX P w0 ops o rest ⟨T, (id, some (.row e sz ys)) :: m, nx, nt⟩ Q :=
  WX_store_row G hd ho ht hx (mem_cons_same _ _ _) hc hy hv hv2 h1 hl hfit hs (WL_same SameM.shadow hk)
theorem lenA_io {id e sz : Nat} {ys : List (List Value)} : lenA ((id, some (.row e sz ys)) :: m) (.own id) = some ys.length := by
  simp only [lenA, mem_cons_same]

structure CtrIO (P : Program) (f : FuncId) (args : Nat → List AV) (e sz : Nat) (ys ys' : List (List Value)) (res : Value) : Prop where
  callable : Callable P f
  calls : ∀ (w0 : Base) ρ m nx id w vs, mem m id = some (.row e sz ys) → RelC w0 ρ m nx w → RelVs w0.w ρ nx (args id) vs → Calls P f vs.toArray w (fun en w' => en = .returned res ∧ RelC w0 ρ ((id, some (.row e sz ys')) :: m) nx w')

def FinIO (l : List ResultVar) (id e sz nx : Nat) (m : List (Nat × Option Row)) (ys' : List (List Value)) (res : Value) : Exit → St → Prop
  | .ret, S => SameM S.m ((id, some (.row e sz ys')) :: m) ∧ S.nx = nx ∧ ∃ t, l = [.tmp t] ∧ look t S.T = some (.v res)
  | _, _ => False

theorem CtrIO.of (G : Good P tb) {f : FuncId} {fn : Func} {c : Code} {args : Nat → List AV} {e sz : Nat} {ys ys' : List (List Value)} {res : Value} {l : List ResultVar} {n k : Nat} (hf : P.funcs[f]? = some fn) (hb : fn.body = some c) (hname : (fn.name == "runtime.NumGoroutine") = false) (hl : fn.results = l.toArray) (hn : fn.ntmps = n)
    (hk : ∀ id, (args id).length = k) (hlen : Nat.ble k n = true) (h : ∀ (w0 : Base) m nx id, Nat.blt id nx = true → W P w0 c ⟨argT (args id) 0, (id, some (.row e sz ys)) :: m, nx, n⟩ (FinIO l id e sz nx m ys' res)) : CtrIO P f args e sz ys ys' res := by
  refine ⟨⟨fn, hf, hname, by rw [hb]; rfl⟩, fun w0 ρ m nx id w vs hm hC0 hrel => ?_⟩
  have hlen' : (args id).length ≤ n := by rw [hk]; exact Nat.le_of_ble_eq_true hlen
  have hvl := RelVs.length _ hrel
  refine calls_of_wp hf hb ?_
  have hC : RelC ⟨w0.w, nx, ρ⟩ ρ ((id, some (.row e sz ys)) :: m) nx w := RelC.same (SameM.self hm) ⟨hC0.rows, hC0.apart, hC0.below, Nat.le_refl _, fun _ _ => rfl⟩
  have hT : RelT w0.w ρ (argT (args id) 0) nx n { tmps := vs.toArray ++ Array.replicate (fn.ntmps - vs.toArray.size) undef, defers := [] } := by
    refine ⟨fun t x hx => ?_, by simp [hn]; omega, rfl⟩
    obtain ⟨u, _, h2, h3⟩ := argT_spec hrel t x hx
    have hlt : t < vs.length := by
      rcases Nat.lt_or_ge t vs.length with hlt | hge
      · exact hlt
      · rw [Nat.sub_zero, List.getElem?_eq_none hge] at h2; cases h2
    have : (vs.toArray ++ Array.replicate (fn.ntmps - vs.toArray.size) undef).getD t undef = u := by
      rw [Array.getD_eq_getD_getElem?, Array.getElem?_append_left (by simpa using hlt)]
      simp only [Nat.sub_zero] at h2
      simp [h2]
    rw [this]
    exact h3
  have hid : Nat.blt id nx = true := by
    have := (hC0.rows id _ hm).1
    simpa [Nat.blt_eq] using this
  refine wp_mono (h ⟨w0.w, nx, ρ⟩ m nx id hid ρ _ w hT hC) ?_
  rintro ex a w' ⟨ρ', S, hq, hT', hC'⟩
  cases ex <;> simp only [FinIO] at hq
  obtain ⟨hs, hnx, t, ht, hr⟩ := hq
  rw [hnx] at hC' hT'
  have hC1 := hC'.same hs
  have hpin : ∀ i, i < nx → ρ' i = ρ i := hC1.pin.2
  have hv := hT'.tmps t _ hr
  simp only [RelV] at hv
  refine ⟨hT'.defers, res, ?_, rfl, ⟨fun i row hr => ?_, fun i i' row row' hr hr' hne b hbb => ?_, hC1.below, hC0.pin⟩⟩
  · refine results_run (ys := [res]) (hl.trans (by rw [ht])) ?_ |>.trans (by simp)
    simp [resSem, hv]
  · obtain ⟨g1, g2⟩ := hC1.rows i row hr
    exact ⟨g1, g2.mono (Nat.le_refl _) (fun j hj => (hpin j hj).symm) g1⟩
  · have g1 := (hC1.rows i row hr).1
    have g2 := (hC1.rows i' row' hr').1
    rw [← hpin i g1] at hbb
    rw [← hpin i' g2]
    exact hC1.apart i i' row row' hr hr' hne b hbb
/-- A LOOP OVER THE ROW: the row at the head of each round is 'row x'. -/
theorem W_loopIO {α : Type} {c : Code} (mod : α → List (Nat × AV)) (row : α → List (List Value)) (inv : α → Prop) (μ : α → Nat) (x0 : α) {id e sz : Nat} {ys0 : List (List Value)}
    (h0 : inv x0) (w1 : WeakT T nx (mod x0)) (hr0 : ys0 = row x0)
    (round : ∀ x, inv x → W P w0 c ⟨mod x, (id, some (.row e sz (row x))) :: m, nx, nt⟩ (sq (fun S' => ∃ x', inv x' ∧ μ x' < μ x ∧ WeakT S'.T nx (mod x') ∧ (∃ zs, SameM S'.m ((id, some (.row e sz zs)) :: m) ∧ zs = row x') ∧ S'.nx = nx ∧ S'.nt = nt) Q)) :
    W P w0 (.loop c) ⟨T, (id, some (.row e sz ys0)) :: m, nx, nt⟩ Q := by
  subst hr0
  have rel : ∀ {T T' : List (Nat × AV)} {ρ : Nat → Value} {a : Act}, WeakT T nx T' → RelT w0 ρ T nx nt a → RelT w0 ρ T' nx nt a := by
    intro T T' ρ a hw hT
    refine ⟨fun t x hx => ?_, hT.size, hT.defers⟩
    obtain ⟨h1, h2⟩ := hw.get t x (look_mem hx)
    exact (hT.tmps t x h1).less x h2
  intro ρ a w hT hC
  refine wp_loop_ghost (fun n a w => ∃ x, inv x ∧ μ x = n ∧ ∃ ρ, RelT w0 ρ (mod x) nx nt a ∧ RelC w0 ρ ((id, some (.row e sz (row x))) :: m) nx w) (μ x0) ⟨x0, h0, rfl, ρ, rel w1 hT, hC⟩ ?_
  rintro n a w ⟨x, hi, rfl, ρ, hT, hC⟩
  refine wp_mono (round x hi ρ a w hT hC) ?_
  rintro ex a w ⟨ρ', S', hq, hT', hC'⟩
  cases ex
  case normal =>
    obtain ⟨x', hi', hlt, g1, ⟨zs, g2, rfl⟩, g3, g4⟩ := hq
    rw [g3, g4] at hT'
    rw [g3] at hC'
    exact ⟨μ x', hlt, x', hi', rfl, ρ', rel g1 hT', hC'.same g2⟩
  all_goals exact ⟨ρ', S', hq, hT', hC'⟩

def evL (T : List (Nat × AV)) : List Operand → List AV → Option (List AV)
  | [], acc => revO acc []
  | x :: xs, acc => match ev T x with
    | some av => evL T xs (av :: acc)
    | none => none
theorem evL_rel {ρ : Nat → Value} {a : Act} (hT : RelT w0 ρ T nx nt a) : ∀ {xs : List Operand} {acc as : List AV}, evL T xs acc = some as → ∃ bs, as = acc.reverse ++ bs ∧ RelVs w0 ρ nx bs (xs.map a.eval)
  | [], acc, as, h => by simp [evL, revO_eq] at h; exact ⟨[], by simp [h], by simp [RelVs]⟩
  | x :: xs, acc, as, h => by
    simp only [evL] at h
    cases hx : ev T x with
    | none => simp [hx] at h
    | some av =>
      simp only [hx] at h
      obtain ⟨bs, h1, h2⟩ := evL_rel hT h
      refine ⟨av :: bs, by simpa using h1, ?_⟩
      simp only [List.map_cons, RelVs]
      exact ⟨_, _, rfl, hT.ev hx, h2⟩

theorem WX_callio {f : FuncId} {as : Array Operand} {ts : Array TypeId} {args : Nat → List AV} {id e sz : Nat} {ys ys' : List (List Value)} {res : Value} (hd : o.dst = some d) (hlt : Nat.blt d nt = true) (ho : o.op = .call { callee := .value (.func f), args := as, argTypes := ts })
    (ha : evL T as.toList [] = some (args id)) (hm : mem m id = some (.row e sz ys)) (hc : CtrIO P f args e sz ys ys' res)
    (hk : WL P w0 ops rest ⟨(d, .v res) :: T, (id, some (.row e sz ys')) :: m, nx, nt⟩ Q) : WX P w0 ops o rest ⟨T, m, nx, nt⟩ Q := by
  intro ρ a w hT hC
  obtain ⟨bs, h1, h2⟩ := evL_rel hT ha
  simp at h1
  subst h1
  have hcalls := hc.calls w0 ρ m nx id w _ hm hC h2
  have hrun : (execOp a.eval o).run P w = .ok (.enter f (as.toList.map a.eval).toArray) w := by
    simp [execOp, ho, resolve, Deferred.ofValue, invoke, Act.eval, run_call hc.callable, ← Array.toList_map]
  unfold Oper.wp
  rw [hrun, Oper.upon_enter]
  refine hcalls.mono fun ex w' ⟨he, hC'⟩ => ?_
  subst he
  refine hk ρ _ w' ?_ hC'
  rw [hd]
  exact hT.put hlt (by simp only [RelV])
end
end Go.Rf
