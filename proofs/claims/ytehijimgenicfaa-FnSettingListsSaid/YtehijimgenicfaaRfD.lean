/- Contracts, calls, and the operations that make or write the call's own memory. -/
import Derived.Test.YtehijimgenicfaaRfC
set_option linter.unusedVariables false
set_option linter.unusedSectionVars false
set_option linter.unusedSimpArgs false
namespace Go.Rf
open Go Go.RowKit

/-! results -/
inductive RC where
  | v (x : Value)
  /-- a slice in new memory -/
  | fr (e sz : Nat) (ys : List (List Value))
inductive Res where
  | one (r : RC)
  | many (rs : List RC)

def RCRel (B : Nat) (w : World) : RC → Value → Prop
  | .v x, y => y = x
  | .fr e sz ys, y => w.ownsRow B e sz y ys.length ys.flatten ∧ ∀ c ∈ ys, c.length = sz ∧ ∀ u ∈ c, u.oneCell' = true
def RCRels (B : Nat) (w : World) : List RC → List Value → Prop
  | [], ys => ys = []
  | r :: rs, ys => ∃ y ys', ys = y :: ys' ∧ RCRel B w r y ∧ RCRels B w rs ys' ∧
      (match r with | .fr _ _ _ => ∀ y' ∈ ys', ∀ b, blk y = some b → blk y' ≠ some b | _ => True)
def ResRel (B : Nat) (w : World) : Res → Value → Prop
  | .one r, y => RCRel B w r y
  | .many rs, y => ∃ ys : List Value, y = .tuple ys.toArray ∧ RCRels B w rs ys

def noRho : Nat → Value := fun _ => undef

/-- A function of the program with a body. -/
def Callable (P : Program) (f : FuncId) : Prop := ∃ fn, P.funcs[f]? = some fn ∧ (fn.name == "runtime.NumGoroutine") = false ∧ fn.body.isNone = false

/-- THE CONTRACT: at arguments that read so, the function answers so; what was there stays as it was. -/
structure Ctr (P : Program) [Env P] (f : FuncId) (args : List AV) (res : Res) : Prop where
  callable : Callable P f
  calls : ∀ w vs, Env.E P w → RelVs w noRho 0 args vs → Calls P f vs.toArray w fun e w' => ∃ v, e = .returned v ∧ ResRel w.heap.size w' res v ∧ Below w.heap.size w w'

theorem run_call {P : Program} {f : FuncId} (h : Callable P f) (args : Array Value) (w : World) : (callFunc f args).run P w = .ok (.enter f args) w := by
  obtain ⟨fn, h1, h2, h3⟩ := h
  have h2' : ¬ fn.name = "runtime.NumGoroutine" := by simpa using h2
  have h3' : ¬ fn.body = none := by intro h; rw [h] at h3; cases h3
  simp [callFunc, h1, h2', h3']

/-! arguments, from the caller's side -/
def toArg1 (m : List (Nat × Option Row)) : AV → Option AV
  | .v x => some (.v x)
  | .lst sz ys => some (.lst sz ys)
  | .pin _ sz ys => some (.lst sz ys)
  | .ept c => some (.ept c)
  | .agg cs => match vaR cs [] with
    | some xs => some (.v (.agg ⟨xs⟩))
    | none => none
  | .own id => match mem m id with
    | some (.row _ sz ys) => some (.lst sz ys)
    | _ => none
  | .ptr id off => match mem m id with
    | some (.box cs) => match vaR (dropN off cs) [] with
      | some xs => some (.ept xs)
      | none => none
    | _ => none
  | _ => none
def toArgs1 (m : List (Nat × Option Row)) : List AV → List AV → Option (List AV)
  | [], acc => revO acc []
  | x :: r, acc => match toArg1 m x with
    | some y => toArgs1 m r (y :: acc)
    | none => none
def toArg (m : List (Nat × Option Row)) : AV → Option AV
  | .fnc f caps => match toArgs1 m caps [] with
    | some cs => some (.fnc f cs)
    | none => none
  | x => toArg1 m x

/-- 'av' serves as the argument 'arg'. -/
def ArgOK (m : List (Nat × Option Row)) (nx : Nat) (av arg : AV) : Prop :=
  ∀ (w0 : Base) ρ w y, RelC w0 ρ m nx w → RelV w0 ρ nx av y → RelV w noRho 0 arg y

theorem ReadsAt.later {w0 w : World} (hb : Below w0.heap.size w0 w) {sz : Nat} {ys : List (List Value)} {y : Value} (h : ReadsAt w0 sz ys y) : ReadsAt w sz ys y := by
  obtain ⟨A, cap, he, hc, hall, hA⟩ := h
  refine ⟨A, cap, he, hc, hall, fun h0 => ?_⟩
  obtain ⟨ad, h1, h2, h3⟩ := hA h0
  exact ⟨ad, h1, Nat.lt_of_lt_of_le h2 hb.size, fun i c hi j u hj => (hb.cell (by rw [add_block]; exact h2)).trans (h3 i c hi j u hj)⟩
theorem PointsAt.later {w0 w : World} (hb : Below w0.heap.size w0 w) {cs : List Value} {y : Value} (h : PointsAt w0 cs y) : PointsAt w cs y := by
  obtain ⟨ad, h1, h2, h3, h4⟩ := h
  exact ⟨ad, h1, Nat.lt_of_lt_of_le h2 hb.size, h3, fun j u hj => (hb.cell (by rw [add_block]; exact h2)).trans (h4 j u hj)⟩

theorem owns_reads {w : World} {base e sz : Nat} {v : Value} {ys : List (List Value)} (h : w.ownsRow base e sz v ys.length ys.flatten) (hall : ∀ c ∈ ys, c.length = sz ∧ ∀ u ∈ c, u.oneCell' = true) : ReadsAt w sz ys v := by
  rcases h.2 with ⟨h1, h2⟩ | ⟨g, cap, cur, h1, h2, h3, h4, _⟩
  · exact ⟨none, 0, by rw [h1, h2], by omega, hall, fun h0 => by omega⟩
  · refine ⟨_, cap, h1, h4, hall, fun h0 => ⟨_, rfl, (Array.getElem?_eq_some_iff.1 h3).1, fun i c hi j u hj => ?_⟩⟩
    have hl := (hall c (List.mem_of_getElem? hi)).1
    have hjl : j < sz := by
      rcases Nat.lt_or_ge j c.length with hlt | hge
      · omega
      · rw [List.getElem?_eq_none hge] at hj; cases hj
    exact h.cells (g := g) (by rw [h1]; rfl) _ u (by rw [flatten_at (sz := sz) (fun c hc => (hall c hc).1) hi hjl, hj])

theorem ArgOK.of1 {m : List (Nat × Option Row)} {nx : Nat} {av arg : AV} (h : toArg1 m av = some arg) : ArgOK m nx av arg := by
  intro w0 ρ w y hC hy
  cases av <;> simp only [toArg1] at h
  case v x => cases h; simpa only [RelV] using hy
  case lst sz ys => cases h; simp only [RelV] at hy ⊢; exact hy.later hC.below
  case pin z sz ys => cases h; simp only [RelV] at hy ⊢; exact hy.2.later hC.below
  case ept c => cases h; simp only [RelV] at hy ⊢; exact hy.later hC.below
  case agg cs =>
    cases hv : vaR cs [] with
    | none => simp [hv] at h
    | some xs =>
      simp [hv] at h
      subst h
      obtain ⟨xs', h1, h2⟩ := vaR_spec _ _ _ hv
      simp at h2
      subst h2
      simp only [RelV] at hy ⊢
      obtain ⟨ys, rfl, h3⟩ := hy
      rw [h1] at h3
      rw [RelVs.map_v_eq _ h3]
  case own id =>
    cases hm : mem m id with
    | none => simp [hm] at h
    | some r =>
      cases r with
      | box cs => simp [hm] at h
      | byt bs => simp [hm] at h
      | spare _ _ _ _ => simp [hm] at h
      | row e sz ys =>
        simp [hm] at h
        subst h
        simp only [RelV] at hy ⊢
        obtain ⟨h1, h2⟩ := hC.row hm
        rw [hy.2]
        exact owns_reads h1 h2
  case ptr id off =>
    cases hm : mem m id with
    | none => simp [hm] at h
    | some r =>
      cases r with
      | row e sz ys => simp [hm] at h
      | byt bs => simp [hm] at h
      | spare _ _ _ _ => simp [hm] at h
      | box cs =>
        simp only [hm] at h
        cases hv : vaR (dropN off cs) [] with
        | none => simp [hv] at h
        | some xs =>
          simp [hv] at h
          subst h
          obtain ⟨xs', h1, h2⟩ := vaR_spec _ _ _ hv
          simp at h2
          subst h2
          simp only [RelV] at hy ⊢
          obtain ⟨hn, g, hg, rfl⟩ := hy
          obtain ⟨b, cur, ty, hρ, hB, hb, hR, h1c⟩ := hC.box hm
          rw [hg] at hρ
          simp at hρ
          subst hρ
          have hR2 := RelVs.drop off _ hR
          rw [← dropN_eq, h1] at hR2
          have he := RelVs.map_v_eq _ hR2
          refine ⟨_, rfl, (Array.getElem?_eq_some_iff.1 hb).1, fun u hu => h1c u ?_, fun j u hj => ?_⟩
          · rw [← he] at hu; exact List.mem_of_mem_drop hu
          · rw [Addr.add_lit, heap_cell hb, ← hj, ← he, List.getElem?_drop]
  all_goals cases h

theorem RelVs.rev_args {m : List (Nat × Option Row)} {nx : Nat} {w0 : Base} {w : World} {ρ : Nat → Value} (hC : RelC w0 ρ m nx w) : ∀ (x acc r : List AV) {y acc' : List Value}, toArgs1 m x acc = some r → RelVs w0 ρ nx x y → RelVs w noRho 0 acc.reverse acc' → RelVs w noRho 0 r (acc' ++ y)
  | [], acc, r, _, _, h, hx, ha => by
    simp [toArgs1, revO_eq] at h
    simp only [RelVs] at hx
    subst h; subst hx
    simpa using ha
  | c :: cs, acc, r, _, acc', h, hx, ha => by
    simp only [RelVs] at hx
    obtain ⟨y, ys, rfl, h1, h2⟩ := hx
    simp only [toArgs1] at h
    cases ht : toArg1 m c with
    | none => simp [ht] at h
    | some c' =>
      simp only [ht] at h
      have h3 := ArgOK.of1 (nx := nx) ht w0 ρ w y hC h1
      have := RelVs.rev_args hC cs (c' :: acc) r h h2 (acc' := acc' ++ [y]) (by
        rw [List.reverse_cons]
        refine RelVs.append _ ha ?_
        simp only [RelVs]
        exact ⟨_, _, rfl, h3, rfl⟩)
      simpa using this

theorem ArgOK.of {m : List (Nat × Option Row)} {nx : Nat} {av arg : AV} (h : toArg m av = some arg) : ArgOK m nx av arg := by
  cases av
  case fnc f caps =>
    simp only [toArg] at h
    cases hc : toArgs1 m caps [] with
    | none => simp [hc] at h
    | some cs =>
      simp [hc] at h
      subst h
      intro w0 ρ w y hC hy
      simp only [RelV] at hy ⊢
      obtain ⟨ys, rfl, h1⟩ := hy
      exact ⟨ys, rfl, by simpa using RelVs.rev_args hC caps [] cs hc h1 (acc' := []) (by simp [RelVs])⟩
  all_goals exact ArgOK.of1 h

theorem ArgOK.sub {m : List (Nat × Option Row)} {nx id sz i n e : Nat} {ys : List (List Value)} (hm : mem m id = some (.row e sz ys)) (hle : i + n ≤ ys.length) : ArgOK m nx (.sub id sz i n) (.lst sz ((ys.drop i).take n)) := by
  intro w0 ρ w y hC hy
  simp only [RelV] at hy ⊢
  obtain ⟨hn, A, cap, rfl, hcap, hA⟩ := hy
  obtain ⟨h1, h2⟩ := hC.row hm
  have hl : ((ys.drop i).take n).length = n := by rw [List.length_take, List.length_drop]; omega
  refine ⟨A, cap, by rw [hl], by omega, fun c hc => h2 c (List.mem_of_mem_drop (List.mem_of_mem_take hc)), fun h0 => ?_⟩
  rw [hl] at h0
  obtain ⟨g, l, c, hg, rfl⟩ := hA.1 h0
  have hblk := h1.lt g (by rw [hg]; rfl)
  refine ⟨_, rfl, hblk.2, fun k cs hk j u hj => ?_⟩
  have hk2 : ys[i + k]? = some cs := by
    rw [List.getElem?_take] at hk
    split at hk
    · rwa [List.getElem?_drop] at hk
    · cases hk
  have := hC.rowCell hm hg hk2 hj
  rw [Addr.add_lit, ← this]
  congr 2
  rw [Nat.add_mul]
  omega

/-- The operands serve as the arguments. -/
def ArgsOK (T : List (Nat × AV)) (m : List (Nat × Option Row)) (nx : Nat) : List Operand → List AV → Prop
  | [], as => as = []
  | x :: xs, as => ∃ av a as', as = a :: as' ∧ ev T x = some av ∧ ArgOK m nx av a ∧ ArgsOK T m nx xs as'
theorem ArgsOK.rel {w0 : Base} {ρ : Nat → Value} {T : List (Nat × AV)} {m : List (Nat × Option Row)} {nx nt : Nat} {a : Act} {w : World} (hT : RelT w0 ρ T nx nt a) (hC : RelC w0 ρ m nx w) :
    ∀ {xs : List Operand} {as : List AV}, ArgsOK T m nx xs as → RelVs w noRho 0 as (xs.map a.eval)
  | [], _, h => by simp only [ArgsOK] at h; subst h; simp [RelVs]
  | x :: xs, _, h => by
    simp only [ArgsOK] at h
    obtain ⟨av, a', as', rfl, h1, h2, h3⟩ := h
    simp only [List.map_cons, RelVs]
    exact ⟨_, _, rfl, h2 w0 ρ w _ hC (hT.ev h1), ArgsOK.rel hT hC h3⟩

def evArgs (T : List (Nat × AV)) (m : List (Nat × Option Row)) : List Operand → List AV → Option (List AV)
  | [], acc => revO acc []
  | x :: xs, acc => match ev T x with
    | some av => match toArg m av with
      | some a => evArgs T m xs (a :: acc)
      | none => none
    | none => none
theorem evArgs_spec {T : List (Nat × AV)} {m : List (Nat × Option Row)} {nx : Nat} : ∀ {xs : List Operand} {acc r : List AV}, evArgs T m xs acc = some r → ∃ as, r = acc.reverse ++ as ∧ ArgsOK T m nx xs as
  | [], acc, r, h => by simp [evArgs, revO_eq] at h; exact ⟨[], by simp [h], rfl⟩
  | x :: xs, acc, r, h => by
    simp only [evArgs] at h
    cases h1 : ev T x with
    | none => simp [h1] at h
    | some av =>
      simp only [h1] at h
      cases h2 : toArg m av with
      | none => simp [h2] at h
      | some a =>
        simp only [h2] at h
        obtain ⟨as, h3, h4⟩ := evArgs_spec (nx := nx) h
        exact ⟨a :: as, by simp [h3], av, a, as, rfl, h1, ArgOK.of h2, h4⟩
theorem ArgsOK.of {T : List (Nat × AV)} {m : List (Nat × Option Row)} {nx : Nat} {xs : List Operand} {r : List AV} (h : evArgs T m xs [] = some r) : ArgsOK T m nx xs r := by
  obtain ⟨as, h1, h2⟩ := evArgs_spec (nx := nx) h
  simp at h1
  rw [h1]
  exact h2

section
variable {P : Program} [Env P] {w0 : Base} {ops : Array Oper} {tb : List (Nat × TyI)} {o : Oper} {rest : List Oper} {T : List (Nat × AV)} {m : List (Nat × Option Row)} {nx nt d : Nat} {r : AV} {Q : Exit → St → Prop}

theorem RelC.trans {w w' : World} {ρ : Nat → Value} (hC : RelC w0 ρ m nx w) (hb : Below w.heap.size w w') : RelC w0 ρ m nx w' := by
  have hsz : w0.w.heap.size ≤ w.heap.size := hC.below.size
  refine ⟨fun id r hr => ?_, hC.apart, hC.below.trans (hb.mono hsz), hC.pin, Nat.le_trans hC.kept.1 hb.size, fun b hk => (hb.block b (Nat.lt_of_lt_of_le (w0.kb b hk) hC.kept.1)).trans (hC.kept.2.1 b hk), hC.kept.2.2⟩
  obtain ⟨h1, h2⟩ := hC.rows id r hr
  refine ⟨h1, ?_⟩
  cases r with
  | box cs =>
    obtain ⟨b, cur, ty, h3, h4, h5, h6⟩ := h2
    exact ⟨b, cur, ty, h3, h4, by rw [hb.block b (Array.getElem?_eq_some_iff.1 h5).1]; exact h5, h6⟩
  | spare e sz ys gs =>
    obtain ⟨g, cur, h3, h4, h5, h6⟩ := h2
    exact ⟨g, cur, h3, h4, by rw [hb.block g (Array.getElem?_eq_some_iff.1 h5).1]; exact h5, h6⟩
  | byt bs =>
    obtain ⟨g, cap, cur, e, fz, h3, h4, h5, h6⟩ := h2
    exact ⟨g, cap, cur, e, fz, h3, h4, by rw [hb.block g (Array.getElem?_eq_some_iff.1 h5).1]; exact h5, h6⟩
  | row e sz ys =>
    refine ⟨⟨h2.1.1, ?_⟩, h2.2⟩
    rcases h2.1.2 with h3 | ⟨g, cap, cur, h3, h4, h5, h6⟩
    · exact .inl h3
    · exact .inr ⟨g, cap, cur, h3, h4, by rw [hb.block g (Array.getElem?_eq_some_iff.1 h5).1]; exact h5, h6⟩

/-- a result that is a plain value -/
def plainE : List AV → List AV → List Value → Option (AV × Value)
  | [], as, vs => some (.tup as, .tuple ⟨rev vs []⟩)
  | x :: r, as, vs => plainE r (x :: as) vs
theorem plainE_eq : ∀ (l as : List AV) (vs : List Value), plainE l as vs = some (.tup (l.reverse ++ as), .tuple ⟨rev vs []⟩)
  | [], _, _ => rfl
  | x :: r, as, vs => by simp [plainE, plainE_eq r]
def plainRs : List RC → List AV → List Value → Option (AV × Value)
  | [], as, vs => plainE as [] vs
  | .v x :: r, as, vs => plainRs r (.v x :: as) (x :: vs)
  | .fr _ _ _ :: _, _, _ => none
def plainR : Res → Option (AV × Value)
  | .one (.v x) => some (.v x, x)
  | .one (.fr _ _ _) => none
  | .many rs => plainRs rs [] []
theorem plainRs_spec : ∀ {rs : List RC} {as : List AV} {vs : List Value} {r : AV} {y : Value}, plainRs rs as vs = some (r, y) → ∃ xs : List Value, rs = xs.map .v ∧ r = .tup (as.reverse ++ xs.map .v) ∧ y = .tuple (vs.reverse ++ xs).toArray
  | [], as, vs, r, y, h => by simp [plainRs, plainE_eq, rev_eq] at h; exact ⟨[], rfl, by simp [h.1], by simp [← h.2]⟩
  | .v x :: rs, as, vs, r, y, h => by
    obtain ⟨xs, h1, h2, h3⟩ := plainRs_spec (rs := rs) h
    exact ⟨x :: xs, by simp [h1], by simp [h2], by simp [h3]⟩
  | .fr _ _ _ :: _, _, _, _, _, h => by simp [plainRs] at h
theorem RCRels.plain {B : Nat} {w : World} : ∀ {xs ys : List Value}, RCRels B w (xs.map .v) ys → ys = xs
  | [], _, h => by simpa [RCRels] using h
  | x :: xs, _, h => by
    simp only [List.map_cons, RCRels] at h
    obtain ⟨y, ys, rfl, h1, h2, _⟩ := h
    simp only [RCRel] at h1
    rw [h1, RCRels.plain h2]
theorem plainR_spec {ρ : Nat → Value} {res : Res} {r : AV} {y : Value} (h : plainR res = some (r, y)) : RelV w0 ρ nx r y ∧ ∀ B w v, ResRel B w res v → v = y := by
  cases res with
  | one c =>
    cases c with
    | v x => simp [plainR] at h; obtain ⟨rfl, rfl⟩ := h; exact ⟨by simp [RelV], fun B w v h => by simpa [ResRel, RCRel] using h⟩
    | fr _ _ _ => simp [plainR] at h
  | many rs =>
    simp only [plainR] at h
    obtain ⟨xs, rfl, rfl, rfl⟩ := plainRs_spec h
    refine ⟨by simp only [RelV]; exact ⟨xs, by simp, by simpa using RelVs.map_v xs⟩, fun B w v h => ?_⟩
    simp only [ResRel] at h
    obtain ⟨ys, rfl, h1⟩ := h
    rw [RCRels.plain h1]
    simp

theorem q_call {f : FuncId} {as : Array Operand} {ts : Array TypeId} {args : List AV} {res : Res} {y : Value} (ho : o.op = .call { callee := .value (.func f), args := as, argTypes := ts }) (ha : ArgsOK T m nx as.toList args) (hc : Ctr P f args res) (hp : plainR res = some (r, y)) :
    QStep P o T m nx nt r := by
  intro w0 _ ρ a w hT hC
  obtain ⟨h1, h2⟩ := plainR_spec (w0 := w0) (ρ := ρ) (nx := nx) hp
  refine ⟨y, h1, fun w' hC' => ?_⟩
  have hrel := ha.rel hT hC'
  have hcalls := hc.calls w' _ (hC'.env P) hrel
  have hrun : (execOp a.eval o).run P w' = .ok (.enter f (as.toList.map a.eval).toArray) w' := by
    simp [execOp, ho, resolve, Deferred.ofValue, invoke, Act.eval, run_call hc.callable, ← Array.toList_map]
  unfold Oper.quietAt
  rw [hrun]
  exact ⟨rfl, hcalls.mono fun e w'' ⟨v, he, hr, hb⟩ => ⟨by rw [he, h2 _ _ _ hr], hC'.trans hb⟩⟩

theorem q_callc {t : Nat} {f : FuncId} {as : Array Operand} {ts : Array TypeId} {caps args cargs : List AV} {res : Res} {y : Value} (ho : o.op = .call { callee := .value (.tmp t), args := as, argTypes := ts }) (hf : look t T = some (.fnc f caps)) (ha : ArgsOK T m nx as.toList args)
    (hcap : toArgs1 m caps [] = some cargs) (hc : Ctr P f (args ++ cargs) res) (hp : plainR res = some (r, y)) :
    QStep P o T m nx nt r := by
  intro w0 _ ρ a w hT hC
  obtain ⟨h1, h2⟩ := plainR_spec (w0 := w0) (ρ := ρ) (nx := nx) hp
  refine ⟨y, h1, fun w' hC' => ?_⟩
  have hrel := ha.rel hT hC'
  have hfn := hT.tmps t _ hf
  simp only [RelV] at hfn
  obtain ⟨cs, hfe, hcs⟩ := hfn
  have hcs2 : RelVs w' noRho 0 cargs cs := by simpa using RelVs.rev_args hC' caps [] cargs hcap hcs (acc' := []) (by simp [RelVs])
  have hcalls := hc.calls w' _ (hC'.env P) (RelVs.append _ hrel hcs2)
  have hrun : (execOp a.eval o).run P w' = .ok (.enter f (as.toList.map a.eval ++ cs).toArray) w' := by
    simp [execOp, ho, resolve, Deferred.ofValue, invoke, Act.eval, hfe, run_call hc.callable, ← Array.toList_map]
  unfold Oper.quietAt
  rw [hrun]
  exact ⟨rfl, hcalls.mono fun e w'' ⟨v, he, hr, hb⟩ => ⟨by rw [he, h2 _ _ _ hr], hC'.trans hb⟩⟩

/-! new rows -/
def upd (ρ : Nat → Value) (id : Nat) (y : Value) : Nat → Value := fun i => if i = id then y else ρ i
theorem upd_same (ρ : Nat → Value) (id : Nat) (y : Value) : upd ρ id y id = y := by simp [upd]
theorem upd_other (ρ : Nat → Value) {id i : Nat} (y : Value) (h : i ≠ id) : upd ρ id y i = ρ i := by simp [upd, h]
theorem mem_cons_same (id : Nat) (r : Option Row) (m : List (Nat × Option Row)) : mem ((id, r) :: m) id = r := by
  unfold mem
  rw [look_cons_same]
  cases r <;> rfl
theorem mem_cons_other {id i : Nat} (h : id ≠ i) (r : Option Row) (m : List (Nat × Option Row)) : mem ((id, r) :: m) i = mem m i := by
  unfold mem
  rw [look_cons_other h]

theorem RowRel.mono {ρ ρ' : Nat → Value} {nx nx' : Nat} {w : World} {id : Nat} {row : Row} (hn : nx ≤ nx') (hr : ∀ i, i < nx → ρ' i = ρ i) (hid : id < nx) (h : RowRel w0 ρ nx w id row) : RowRel w0 ρ' nx' w id row := by
  cases row with
  | box cs =>
    obtain ⟨b, cur, ty, h1, h2, h3, h4, h5⟩ := h
    exact ⟨b, cur, ty, by rw [hr id hid]; exact h1, h2, h3, RelVs.mono hn hr _ h4, h5⟩
  | row e sz ys =>
    simp only [RowRel] at h ⊢
    rw [hr id hid]
    exact h
  | byt bs =>
    simp only [RowRel] at h ⊢
    rw [hr id hid]
    exact h
  | spare e sz ys gs =>
    simp only [RowRel] at h ⊢
    rw [hr id hid]
    exact h

theorem RelC.lt {w : World} {ρ : Nat → Value} (hC : RelC w0 ρ m nx w) {id : Nat} {row : Row} (hm : mem m id = some row) {b : Nat} (hb : blk (ρ id) = some b) : b < w.heap.size := by
  obtain ⟨_, h⟩ := hC.rows id row hm
  cases row with
  | box cs =>
    obtain ⟨b', cur, ty, h1, h2, h3, _⟩ := h
    rw [h1] at hb
    simp [blk] at hb
    subst hb
    exact (Array.getElem?_eq_some_iff.1 h3).1
  | spare e sz ys gs =>
    obtain ⟨g, cur, h1, h2, h3, _⟩ := h
    rw [h1] at hb
    simp [blk] at hb
    subst hb
    exact (Array.getElem?_eq_some_iff.1 h3).1
  | byt bs =>
    obtain ⟨g, cap, cur, e, fz, h1, h2, h3, _⟩ := h
    rw [h1] at hb
    simp [blk] at hb
    subst hb
    exact (Array.getElem?_eq_some_iff.1 h3).1
  | row e sz ys =>
    rcases h.1.2 with ⟨h1, _⟩ | ⟨g, cap, cur, h1, h2, h3, _⟩
    · rw [h1] at hb; simp [blk] at hb
    · rw [h1] at hb
      simp [blk] at hb
      subst hb
      exact (Array.getElem?_eq_some_iff.1 h3).1

/-- a new row beside the others -/
theorem RelC.add {w : World} {ρ : Nat → Value} (hC : RelC w0 ρ m nx w) {row : Row} {y : Value} (hrow : RowRel w0 (upd ρ nx y) (nx + 1) w nx row)
    (hap : ∀ id r, mem m id = some r → ∀ b, blk (ρ id) = some b → blk y ≠ some b) (hk : ∀ b, blk y = some b → ¬ w0.keep b) : RelC w0 (upd ρ nx y) ((nx, some row) :: m) (nx + 1) w := by
  have hkeep : ∀ i, i < nx → upd ρ nx y i = ρ i := fun i hi => upd_other ρ y (by omega)
  refine ⟨fun id r hr => ?_, fun id id' r r' hr hr' hne b hb => ?_, hC.below, ⟨by have := hC.pin.1; omega, fun i hi => (upd_other ρ y (by have := hC.pin.1; omega)).trans (hC.pin.2 i hi)⟩, hC.kept.1, hC.kept.2.1, fun id r hr b hb => ?_⟩
  · by_cases e : nx = id
    · subst e
      rw [mem_cons_same] at hr
      cases hr
      exact ⟨by omega, hrow⟩
    · rw [mem_cons_other e] at hr
      obtain ⟨h1, h2⟩ := hC.rows id r hr
      exact ⟨by omega, h2.mono (by omega) hkeep h1⟩
  · by_cases e : nx = id
    · subst e
      have e' : nx ≠ id' := hne
      rw [mem_cons_other e'] at hr'
      rw [upd_same] at hb
      rw [upd_other _ _ (Ne.symm e')]
      intro hb'
      exact hap id' r' hr' b hb' hb
    · rw [mem_cons_other e] at hr
      rw [upd_other _ _ (Ne.symm e)] at hb
      by_cases e' : nx = id'
      · subst e'
        rw [upd_same]
        exact hap id r hr b hb
      · rw [mem_cons_other e'] at hr'
        rw [upd_other _ _ (Ne.symm e')]
        exact hC.apart id id' r r' hr hr' hne b hb
  · by_cases e : nx = id
    · subst e
      rw [upd_same] at hb
      exact hk b hb
    · rw [mem_cons_other e] at hr
      rw [upd_other _ _ (Ne.symm e)] at hb
      exact hC.kept.2.2 id r hr b hb

theorem RelT.add {ρ : Nat → Value} {a : Act} (hT : RelT w0 ρ T nx nt a) (y : Value) : RelT w0 (upd ρ nx y) T (nx + 1) nt a :=
  ⟨fun t x hx => (hT.tmps t x hx).mono (by omega) (fun i hi => upd_other ρ y (by omega)), hT.size, hT.defers⟩

theorem ownsRow_base {w : World} {B B' e sz n : Nat} {v : Value} {xs : List Value} (h : w.ownsRow B e sz v n xs) (hB : B' ≤ B) : w.ownsRow B' e sz v n xs := by
  refine ⟨h.1, ?_⟩
  rcases h.2 with h1 | ⟨g, cap, cur, h1, h2, h3⟩
  · exact .inl h1
  · exact .inr ⟨g, cap, cur, h1, by omega, h3⟩
theorem ownsRow_blk {w : World} {B e sz n : Nat} {v : Value} {xs : List Value} (h : w.ownsRow B e sz v n xs) {b : Nat} (hb : blk v = some b) : B ≤ b := by
  rcases h.2 with ⟨h1, _⟩ | ⟨g, cap, cur, h1, h2, h3⟩
  · rw [h1] at hb; simp [blk] at hb
  · rw [h1] at hb
    simp [blk] at hb
    omega

/-- the caller's side of a result: its value, the rows that come with it -/
def inst : List RC → Nat → List (Nat × Option Row) → List AV → List AV × List (Nat × Option Row) × Nat
  | [], nx, m, acc => (rev acc [], m, nx)
  | .v x :: r, nx, m, acc => inst r nx m (.v x :: acc)
  | .fr e sz ys :: r, nx, m, acc => inst r (Nat.succ nx) ((nx, some (.row e sz ys)) :: m) (.own nx :: acc)

theorem inst_spec {w : World} {B : Nat} : ∀ (rs : List RC) (ys : List Value) (ρ : Nat → Value) (nx : Nat) (m : List (Nat × Option Row)) (acc : List AV) (acc' : List Value), RelC w0 ρ m nx w → w0.w.heap.size ≤ B → RCRels B w rs ys →
    (∀ y ∈ ys, ∀ id r, mem m id = some r → ∀ b, B ≤ b → blk (ρ id) = some b → blk y ≠ some b) → (∀ y ∈ ys, ∀ b, B ≤ b → blk y = some b → ¬ w0.keep b) → RelVs w0 ρ nx acc.reverse acc' →
    ∃ ρ', (∀ i, i < nx → ρ' i = ρ i) ∧ nx ≤ (inst rs nx m acc).2.2 ∧ RelVs w0 ρ' (inst rs nx m acc).2.2 (inst rs nx m acc).1 (acc' ++ ys) ∧ RelC w0 ρ' (inst rs nx m acc).2.1 (inst rs nx m acc).2.2 w
  | [], ys, ρ, nx, m, acc, acc', hC, hB, hr, _, _, ha => by
    simp only [RCRels] at hr
    subst hr
    exact ⟨ρ, fun _ _ => rfl, Nat.le_refl _, by simpa [inst, rev_eq] using ha, hC⟩
  | .v x :: rs, _, ρ, nx, m, acc, acc', hC, hB, hr, hap, hb, ha => by
    simp only [RCRels, RCRel] at hr
    obtain ⟨y, ys, rfl, rfl, hr, _⟩ := hr
    have := inst_spec rs ys ρ nx m (.v y :: acc) (acc' ++ [y]) hC hB hr (fun y' hy' => hap y' (by simp [hy'])) (fun y' hy' => hb y' (by simp [hy'])) (by
      rw [List.reverse_cons]
      refine RelVs.append _ ha ?_
      simp only [RelVs, RelV]
      exact ⟨_, _, rfl, rfl, rfl⟩)
    simpa [inst] using this
  | .fr e sz zs :: rs, _, ρ, nx, m, acc, acc', hC, hB, hr, hap, hb, ha => by
    simp only [RCRels, RCRel] at hr
    obtain ⟨y, ys, rfl, ⟨h1, h2⟩, hr, hd⟩ := hr
    have hkeep : ∀ i, i < nx → upd ρ nx y i = ρ i := fun i hi => upd_other ρ y (by omega)
    have hC' : RelC w0 (upd ρ nx y) ((nx, some (.row e sz zs)) :: m) (nx + 1) w := by
      refine hC.add ?_ ?_ (fun b hbb => hb y (by simp) b (ownsRow_blk h1 hbb) hbb)
      · simp only [RowRel]
        rw [upd_same]
        exact ⟨ownsRow_base h1 hB, h2⟩
      · intro id r hr b hbb hby
        have hBb := ownsRow_blk h1 hby
        exact hap y (by simp) id r hr b hBb hbb hby
    have := inst_spec rs ys (upd ρ nx y) (nx + 1) ((nx, some (.row e sz zs)) :: m) (.own nx :: acc) (acc' ++ [y]) hC' hB hr (by
        intro y' hy' id r hr b hBb hbb
        by_cases e' : nx = id
        · subst e'
          rw [upd_same] at hbb
          exact hd y' hy' b hbb
        · rw [mem_cons_other e'] at hr
          rw [upd_other _ _ (Ne.symm e')] at hbb
          exact hap y' (by simp [hy']) id r hr b hBb hbb) (fun y' hy' => hb y' (by simp [hy'])) (by
        rw [List.reverse_cons]
        refine RelVs.append _ (RelVs.mono (by omega) hkeep _ ha) ?_
        simp only [RelVs, RelV]
        exact ⟨_, _, rfl, ⟨by omega, by rw [upd_same]⟩, rfl⟩)
    obtain ⟨ρ', g1, g2, g3, g4⟩ := this
    refine ⟨ρ', fun i hi => ?_, ?_, ?_, ?_⟩
    · rw [g1 i (by omega)]; exact hkeep i hi
    · simp only [inst]; exact Nat.le_trans (by omega) g2
    · simpa [inst] using g3
    · simpa [inst] using g4

def instR : Res → Nat → List (Nat × Option Row) → AV × List (Nat × Option Row) × Nat
  | .one (.v x), nx, m => (.v x, m, nx)
  | .one (.fr e sz ys), nx, m => (.own nx, (nx, some (.row e sz ys)) :: m, Nat.succ nx)
  | .many rs, nx, m => match inst rs nx m [] with
    | (as, m', nx') => (.tup as, m', nx')

theorem instR_spec {w : World} {B : Nat} {ρ : Nat → Value} {res : Res} {y : Value} (hC : RelC w0 ρ m nx w) (hB : w0.w.heap.size ≤ B ∧ w0.ws.heap.size ≤ B) (hr : ResRel B w res y) (hlt : ∀ id r, mem m id = some r → ∀ b, blk (ρ id) = some b → b < B) :
    ∃ ρ', (∀ i, i < nx → ρ' i = ρ i) ∧ nx ≤ (instR res nx m).2.2 ∧ RelV w0 ρ' (instR res nx m).2.2 (instR res nx m).1 y ∧ RelC w0 ρ' (instR res nx m).2.1 (instR res nx m).2.2 w := by
  cases res with
  | one c =>
    cases c with
    | v x =>
      simp only [ResRel, RCRel] at hr
      subst hr
      exact ⟨ρ, fun _ _ => rfl, Nat.le_refl _, by simp [instR, RelV], hC⟩
    | fr e sz ys =>
      simp only [ResRel, RCRel] at hr
      refine ⟨upd ρ nx y, fun i hi => upd_other ρ y (by omega), by simp [instR], ?_, ?_⟩
      · simp only [instR, RelV]
        exact ⟨by omega, by rw [upd_same]⟩
      · refine hC.add ?_ ?_ (fun b hb hk => (by have := ownsRow_blk hr.1 hb; have := w0.kb b hk; have := hB.2; omega))
        · simp only [RowRel]
          rw [upd_same]
          exact ⟨ownsRow_base hr.1 hB.1, hr.2⟩
        · intro id r hm b hb hby
          have := ownsRow_blk hr.1 hby
          have := hlt id r hm b hb
          omega
  | many rs =>
    simp only [ResRel] at hr
    obtain ⟨ys, rfl, hr⟩ := hr
    obtain ⟨ρ', g1, g2, g3, g4⟩ := inst_spec rs ys ρ nx m [] [] hC hB.1 hr (fun y _ id r hm b hBb hb => by have := hlt id r hm b hb; omega) (fun y _ b hBb _ hk => by have := w0.kb b hk; have := hB.2; omega) (by simp [RelVs])
    refine ⟨ρ', g1, ?_, ?_, ?_⟩
    · simpa [instR] using g2
    · simp only [instR, RelV]
      exact ⟨ys, rfl, by simpa using g3⟩
    · simpa [instR] using g4

def instE : List AV → List AV → List (Nat × Option Row) → Nat → Option (AV × List (Nat × Option Row) × Nat)
  | [], as, m, nx => some (.tup as, m, nx)
  | x :: r, as, m, nx => instE r (x :: as) m nx
theorem instE_eq : ∀ (l as : List AV) (m : List (Nat × Option Row)) (nx : Nat), instE l as m nx = some (.tup (l.reverse ++ as), m, nx)
  | [], _, _, _ => rfl
  | x :: r, as, m, nx => by simp [instE, instE_eq r]
def instL : List RC → Nat → List (Nat × Option Row) → List AV → Option (AV × List (Nat × Option Row) × Nat)
  | [], nx, m, acc => instE acc [] m nx
  | .v x :: r, nx, m, acc => instL r nx m (.v x :: acc)
  | .fr e sz ys :: r, nx, m, acc => instL r (Nat.succ nx) ((nx, some (.row e sz ys)) :: m) (.own nx :: acc)
theorem instL_eq : ∀ (rs : List RC) (nx : Nat) (m : List (Nat × Option Row)) (acc : List AV), instL rs nx m acc = some (.tup (inst rs nx m acc).1, (inst rs nx m acc).2.1, (inst rs nx m acc).2.2)
  | [], nx, m, acc => by simp [instL, inst, instE_eq, rev_eq]
  | .v x :: r, nx, m, acc => by simp [instL, inst, instL_eq r]
  | .fr e sz ys :: r, nx, m, acc => by simp [instL, inst, instL_eq r]
def instO : Res → Nat → List (Nat × Option Row) → Option (AV × List (Nat × Option Row) × Nat)
  | .one (.v x), nx, m => some (.v x, m, nx)
  | .one (.fr e sz ys), nx, m => some (.own nx, (nx, some (.row e sz ys)) :: m, Nat.succ nx)
  | .many rs, nx, m => instL rs nx m []
theorem instO_eq (res : Res) (nx : Nat) (m : List (Nat × Option Row)) : instO res nx m = some (instR res nx m) := by
  cases res with
  | one c => cases c <;> rfl
  | many rs => simp [instO, instR, instL_eq]

theorem WX_call [EnvAt P w0] {f : FuncId} {as : Array Operand} {ts : Array TypeId} {args : List AV} {res : Res} {m' : List (Nat × Option Row)} {n1 : Nat} (nx' : Nat) (hd : o.dst = some d) (hlt : Nat.blt d nt = true) (ho : o.op = .call { callee := .value (.func f), args := as, argTypes := ts }) (ha : ArgsOK T m nx as.toList args) (hc : Ctr P f args res)
    (hi : instO res nx m = some (r, m', n1)) (hn' : Nat.beq nx' n1 = true) (hk : WL P w0 ops rest ⟨(d, r) :: T, m', nx', nt⟩ Q) : WX P w0 ops o rest ⟨T, m, nx, nt⟩ Q := by
  have hn'' := Nat.eq_of_beq_eq_true hn'
  subst hn''
  rw [instO_eq] at hi
  have hi := Option.some.inj hi
  intro ρ a w hT hC
  have hrel := ha.rel hT hC
  have hcalls := hc.calls w _ (hC.env P) hrel
  have hrun : (execOp a.eval o).run P w = .ok (.enter f (as.toList.map a.eval).toArray) w := by
    simp [execOp, ho, resolve, Deferred.ofValue, invoke, Act.eval, run_call hc.callable, ← Array.toList_map]
  unfold Oper.wp
  rw [hrun, Oper.upon_enter]
  refine hcalls.mono fun e w' ⟨v, he, hr, hb⟩ => ?_
  subst he
  have hC' := hC.trans hb
  obtain ⟨ρ', g1, g2, g3, g4⟩ := instR_spec (m := m) (nx := nx) hC' ⟨hC.below.size, hC.kept.1⟩ hr (fun id r hm b hb => hC.lt hm hb)
  rw [hi] at g2 g3 g4
  refine hk ρ' _ w' ?_ g4
  rw [hd]
  have hT' : RelT w0 ρ' T nx' nt a := ⟨fun t x hx => (hT.tmps t x hx).mono g2 g1, hT.size, hT.defers⟩
  exact hT'.put hlt g3
end
end Go.Rf
