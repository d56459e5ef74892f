/- The operations that only read, one law each. -/
import Derived.Test.YtehijimgenicfaaRfA
set_option linter.unusedVariables false
set_option linter.unusedSectionVars false
set_option linter.unusedSimpArgs false
namespace Go.Rf
open Go Go.RowKit

inductive FK where
  | bool | str | int (k : IntKind) | other
inductive TyI where
  | flat (fk : FK) (zero : Value)
  | slice (e sz bytes : Nat) (zs : List Value)
  | struct (fs : List (Nat × Nat)) (zs : List Value)

def FKOK (P : Program) (t : TypeId) : FK → Prop
  | .bool => P.underlying t = some .bool
  | .str => P.underlying t = some .string
  | .int k => P.underlying t = some (.int k)
  | .other => True

def TyOK (P : Program) (t : TypeId) : TyI → Prop
  | .flat fk z => FKOK P t fk ∧ (∃ d, P.underlying t = some d ∧ (∀ fs, d ≠ .struct fs) ∧ ∀ n e, d ≠ .array n e) ∧ ∃ i, P.info? t = some i ∧ i.zero = some z ∧ i.size = 1 ∧ z.oneCell' = true
  | .slice e sz by_ zs => P.underlying t = some (.slice e) ∧ (∃ i, P.info? t = some i ∧ i.zero = some (.slice none 0 0) ∧ i.size = 1) ∧
      ∃ i z, P.info? e = some i ∧ i.size = sz ∧ i.bytes = by_ ∧ i.zero = some z ∧ z.cells = zs.toArray ∧ zs.length = sz ∧ 0 < sz ∧ ∀ u ∈ zs, u.oneCell' = true
  | .struct fs zs => ∃ fields i, P.underlying t = some (.struct fields) ∧ P.info? t = some i ∧ i.size = zs.length ∧ i.zero = some (.agg zs.toArray) ∧ (∀ u ∈ zs, u.oneCell' = true) ∧ fs.length = fields.size ∧
      ∀ (k off ft : Nat), fs[k]? = some (off, ft) → ∃ (f : Field) (j : TypeInfo), fields[k]? = some f ∧ f.offset = off ∧ f.type = ft ∧ P.info? ft = some j ∧ j.size ≠ 0

def Good (P : Program) (tb : List (Nat × TyI)) : Prop := ∀ t i, look t tb = some i → TyOK P t i

/-! a table held against the program by evaluation -/
def veq : Value → Value → Bool
  | .bool a, .bool b => a == b
  | .int k a, .int k' b => decide (k = k') && decide (a = b)
  | .string a, .string b => a.data.toList == b.data.toList
  | .pointer none, .pointer none => true
  | .slice none a b, .slice none c d => a == c && b == d
  | .nilFunc, .nilFunc => true
  | .map none, .map none => true
  | .nilIface, .nilIface => true
  | _, _ => false
theorem veq_eq {a b : Value} (h : veq a b = true) : a = b := by
  cases a <;> cases b <;> simp [veq] at h
  case bool.bool => rw [h]
  case int.int => rw [h.1, h.2]
  case string.string x y =>
    obtain ⟨x⟩ := x
    obtain ⟨y⟩ := y
    simp at h
    rw [h]
  case pointer.pointer x y => cases x <;> cases y <;> simp [veq] at h <;> rfl
  case slice.slice x _ _ y _ _ => cases x <;> cases y <;> simp [veq] at h; rw [h.1, h.2]
  case map.map x y => cases x <;> cases y <;> simp [veq] at h <;> rfl
  all_goals rfl
theorem veq_one {a b : Value} (h : veq a b = true) : a.oneCell' = true := by
  cases a <;> first | rfl | (cases b <;> simp [veq] at h)

def veqs : List Value → List Value → Bool
  | [], [] => true
  | a :: as, b :: bs => veq a b && veqs as bs
  | _, _ => false
theorem veqs_eq : ∀ {a b : List Value}, veqs a b = true → a = b
  | [], [], _ => rfl
  | [], _ :: _, h => by simp [veqs] at h
  | _ :: _, [], h => by simp [veqs] at h
  | a :: as, b :: bs, h => by
    simp only [veqs, Bool.and_eq_true] at h
    rw [veq_eq h.1, veqs_eq h.2]
theorem veqs_one : ∀ {a b : List Value}, veqs a b = true → ∀ u ∈ a, u.oneCell' = true
  | [], [], _, u, hu => by simp at hu
  | [], _ :: _, h, _, _ => by simp [veqs] at h
  | _ :: _, [], h, _, _ => by simp [veqs] at h
  | a :: as, b :: bs, h, u, hu => by
    simp only [veqs, Bool.and_eq_true] at h
    rcases List.mem_cons.1 hu with rfl | hu
    · exact veq_one h.1
    · exact veqs_one h.2 u hu

def fieldsB (P : Program) (fields : Array Field) : Nat → List (Nat × Nat) → Bool
  | _, [] => true
  | k, (off, ft) :: r => (match fields[k]? with
    | some f => f.offset == off && f.type == ft && (match P.info? ft with | some j => j.size != 0 | none => false)
    | none => false) && fieldsB P fields (k + 1) r
theorem fieldsB_spec {P : Program} {fields : Array Field} : ∀ {fs : List (Nat × Nat)} {n : Nat}, fieldsB P fields n fs = true → ∀ (k off ft : Nat), fs[k]? = some (off, ft) →
    ∃ (f : Field) (j : TypeInfo), fields[n + k]? = some f ∧ f.offset = off ∧ f.type = ft ∧ P.info? ft = some j ∧ j.size ≠ 0
  | [], _, _, k, _, _, h => by simp at h
  | (o, t) :: r, n, h, k, off, ft, hk => by
    simp only [fieldsB, Bool.and_eq_true] at h
    match k with
    | 0 =>
      simp at hk
      obtain ⟨rfl, rfl⟩ := hk
      have h1 := h.1
      cases hf : fields[n]? with
      | none => simp [hf] at h1
      | some f =>
        simp only [hf, Bool.and_eq_true, beq_iff_eq] at h1
        obtain ⟨⟨h1, h2⟩, h3⟩ := h1
        cases hj : P.info? t with
        | none => simp [hj] at h3
        | some j => simp only [hj, bne_iff_ne] at h3; exact ⟨f, j, by simp [hf], h1, h2, rfl, h3⟩
    | k + 1 =>
      have := fieldsB_spec h.2 k off ft (by simpa using hk)
      rwa [show n + 1 + k = n + (k + 1) by omega] at this

def fkB (P : Program) (t : TypeId) : FK → Bool
  | .bool => match P.underlying t with | some .bool => true | _ => false
  | .str => match P.underlying t with | some .string => true | _ => false
  | .int k => match P.underlying t with | some (.int k') => decide (k' = k) | _ => false
  | .other => true
theorem fkB_spec {P : Program} {t : TypeId} {fk : FK} (h : fkB P t fk = true) : FKOK P t fk := by
  cases fk <;> simp only [fkB, FKOK] at h ⊢
  all_goals
    cases hu : P.underlying t with
    | none => simp [hu] at h
    | some d => cases d <;> simp [hu] at h ⊢ <;> exact h
def tyB (P : Program) (t : TypeId) : TyI → Bool
  | .flat fk z => fkB P t fk && (match P.underlying t with | some (.struct _) | some (.array _ _) | none => false | some _ => true) && (match P.info? t with | some i => i.size == 1 && (match i.zero with | some z' => veq z' z | none => false) | none => false)
  | .slice e sz by_ zs => (match P.underlying t with | some (.slice e') => e' == e | _ => false) && (match P.info? t with | some i => i.size == 1 && (match i.zero with | some z' => veq z' (.slice none 0 0) | none => false) | none => false) &&
      (match P.info? e with | some i => i.size == sz && i.bytes == by_ && (match i.zero with | some z => veqs z.cells.toList zs | none => false) | none => false) && zs.length == sz && Nat.blt 0 sz
  | .struct fs zs => match P.underlying t, P.info? t with
    | some (.struct fields), some i => i.size == zs.length && (match i.zero with | some (.agg cs) => veqs cs.toList zs | _ => false) && Nat.beq fs.length fields.size && fieldsB P fields 0 fs
    | _, _ => false
theorem tyB_spec {P : Program} {t : TypeId} {i : TyI} (h : tyB P t i = true) : TyOK P t i := by
  cases i with
  | flat fk z =>
    simp only [tyB, Bool.and_eq_true] at h
    obtain ⟨⟨h0, h1⟩, h2⟩ := h
    refine ⟨fkB_spec h0, ?_, ?_⟩
    · cases hu : P.underlying t with
      | none => simp [hu] at h1
      | some d => refine ⟨d, rfl, ?_, ?_⟩ <;> (intros; rintro rfl; simp [hu] at h1)
    · cases hi : P.info? t with
      | none => simp [hi] at h2
      | some i =>
        simp only [hi, Bool.and_eq_true, beq_iff_eq] at h2
        cases hz : i.zero with
        | none => simp [hz] at h2
        | some z' =>
          simp only [hz] at h2
          have := veq_eq h2.2
          subst this
          exact ⟨i, rfl, hz, h2.1, veq_one h2.2⟩
  | slice e sz by_ zs =>
    simp only [tyB, Bool.and_eq_true, beq_iff_eq] at h
    obtain ⟨⟨⟨⟨h1, h2⟩, h3⟩, h4⟩, h5⟩ := h
    refine ⟨?_, ?_, ?_⟩
    · cases hu : P.underlying t with
      | none => simp [hu] at h1
      | some d =>
        cases d <;> simp [hu] at h1
        rw [h1]
    · cases hi : P.info? t with
      | none => simp [hi] at h2
      | some i =>
        simp only [hi, Bool.and_eq_true, beq_iff_eq] at h2
        cases hz : i.zero with
        | none => simp [hz] at h2
        | some z' =>
          simp only [hz] at h2
          exact ⟨i, rfl, by rw [hz, veq_eq h2.2], h2.1⟩
    · cases hi : P.info? e with
      | none => simp [hi] at h3
      | some i =>
        simp only [hi, Bool.and_eq_true, beq_iff_eq] at h3
        cases hz : i.zero with
        | none => simp [hz] at h3
        | some z =>
          simp only [hz] at h3
          have he := veqs_eq h3.2
          exact ⟨i, z, rfl, h3.1.1, h3.1.2, hz, by rw [← he], h4, Nat.le_of_ble_eq_true h5, by rw [← he]; exact veqs_one h3.2⟩
  | struct fs zs =>
    simp only [tyB] at h
    cases hu : P.underlying t with
    | none => simp [hu] at h
    | some d =>
      cases hi : P.info? t with
      | none => simp [hu, hi] at h
      | some i =>
        simp only [hu, hi] at h
        cases d <;> simp at h
        rename_i fields
        obtain ⟨⟨⟨h1, h2⟩, h4⟩, h3⟩ := h
        cases hz : i.zero with
        | none => simp [hz] at h2
        | some z =>
          simp only [hz] at h2
          cases z <;> simp at h2
          rename_i cs
          have he := veqs_eq h2
          refine ⟨fields, i, hu, hi, h1, by rw [hz, ← he], by rw [← he]; exact veqs_one h2, h4, fun k off ft hk => ?_⟩
          have := fieldsB_spec h3 k off ft hk
          rwa [Nat.zero_add] at this

def tabB (P : Program) : List (Nat × TyI) → Bool
  | [] => true
  | (t, i) :: r => tyB P t i && tabB P r
theorem look_mem {α : Type} {k : Nat} {x : α} : ∀ {l : List (Nat × α)}, look k l = some x → (k, x) ∈ l
  | [], h => by simp [look] at h
  | (i, y) :: r, h => by
    by_cases e : i = k
    · subst e
      rw [look_cons_same] at h
      cases h
      simp
    · rw [look_cons_other e] at h
      exact List.mem_cons_of_mem _ (look_mem h)
theorem tabB_spec {P : Program} : ∀ {tb : List (Nat × TyI)}, tabB P tb = true → ∀ t i, (t, i) ∈ tb → TyOK P t i
  | [], _, _, _, h => by simp at h
  | (t', i') :: r, h, t, i, hm => by
    simp only [tabB, Bool.and_eq_true] at h
    rcases List.mem_cons.1 hm with he | hm
    · cases he; exact tyB_spec h.1
    · exact tabB_spec h.2 t i hm
theorem Good.of {P : Program} {tb : List (Nat × TyI)} (h : tabB P tb = true) : Good P tb := fun t i hl => tabB_spec h t i (look_mem hl)

/-! lists, written so that they evaluate to constructors -/
def nth {α : Type} : List α → Nat → Option α
  | [], _ => none
  | x :: _, 0 => some x
  | _ :: r, k + 1 => nth r k
theorem nth_eq {α : Type} : ∀ (l : List α) (k : Nat), nth l k = l[k]?
  | [], _ => by simp [nth]
  | _ :: _, 0 => by simp [nth]
  | _ :: r, k + 1 => by simp [nth, nth_eq r k]
def rev {α : Type} : List α → List α → List α
  | [], acc => acc
  | x :: r, acc => rev r (x :: acc)
theorem rev_eq {α : Type} : ∀ (l acc : List α), rev l acc = l.reverse ++ acc
  | [], _ => rfl
  | x :: r, acc => by simp [rev, rev_eq r]
def revO {α : Type} : List α → List α → Option (List α)
  | [], acc => some acc
  | x :: r, acc => revO r (x :: acc)
theorem revO_eq {α : Type} : ∀ (l acc : List α), revO l acc = some (l.reverse ++ acc)
  | [], _ => rfl
  | x :: r, acc => by simp [revO, revO_eq r]
/-- the first n, reversed onto acc; none if there are fewer -/
def takeR {α : Type} : Nat → List α → List α → Option (List α)
  | 0, _, acc => revO acc []
  | _ + 1, [], _ => none
  | n + 1, x :: r, acc => takeR n r (x :: acc)
theorem takeR_spec {α : Type} : ∀ (n : Nat) (l acc r : List α), takeR n l acc = some r → r = acc.reverse ++ l.take n ∧ n ≤ l.length
  | 0, _, acc, r, h => by simp [takeR, revO_eq] at h; simp [h]
  | _ + 1, [], _, _, h => by simp [takeR] at h
  | n + 1, x :: l, acc, r, h => by
    have := takeR_spec n l (x :: acc) r h
    simp [this]
def dropN {α : Type} : Nat → List α → List α
  | 0, l => l
  | _ + 1, [] => []
  | n + 1, _ :: r => dropN n r
theorem dropN_eq {α : Type} : ∀ (n : Nat) (l : List α), dropN n l = l.drop n
  | 0, _ => rfl
  | _ + 1, [] => rfl
  | n + 1, _ :: r => by simp [dropN, dropN_eq n r]
def avO : List Value → List AV → Option (List AV)
  | [], acc => some acc
  | x :: r, acc => avO r (.v x :: acc)
theorem avO_eq : ∀ (l : List Value) (acc : List AV), avO l acc = some ((l.map .v).reverse ++ acc)
  | [], _ => rfl
  | x :: r, acc => by simp [avO, avO_eq r]
def avR : List Value → List AV → List AV
  | [], acc => rev acc []
  | x :: r, acc => avR r (.v x :: acc)
theorem avR_eq : ∀ (l : List Value) (acc : List AV), avR l acc = acc.reverse ++ l.map .v
  | [], acc => by simp [avR, rev_eq]
  | x :: r, acc => by simp [avR, avR_eq r]
def vaR : List AV → List Value → Option (List Value)
  | [], acc => revO acc []
  | .v x :: r, acc => vaR r (x :: acc)
  | _ :: _, _ => none
theorem vaR_spec : ∀ (l : List AV) (acc r : List Value), vaR l acc = some r → ∃ xs, l = xs.map .v ∧ r = acc.reverse ++ xs
  | [], acc, r, h => by simp [vaR, revO_eq] at h; exact ⟨[], rfl, by simp [h]⟩
  | .v x :: l, acc, r, h => by
    obtain ⟨xs, h1, h2⟩ := vaR_spec l (x :: acc) r h
    exact ⟨x :: xs, by simp [h1], by simp [h2]⟩
  | .lst _ _ :: _, _, _, h => by simp [vaR] at h
  | .pin _ _ _ :: _, _, _, h => by simp [vaR] at h
  | .own _ :: _, _, _, h => by simp [vaR] at h
  | .sub _ _ _ _ :: _, _, _, h => by simp [vaR] at h
  | .ptr _ _ :: _, _, _, h => by simp [vaR] at h
  | .rpt _ _ _ _ :: _, _, _, h => by simp [vaR] at h
  | .ept _ :: _, _, _, h => by simp [vaR] at h
  | .agg _ :: _, _, _, h => by simp [vaR] at h
  | .tup _ :: _, _, _, h => by simp [vaR] at h
  | .fnc _ _ :: _, _, _, h => by simp [vaR] at h

/-- the cells of a value -/
def cellsOf : AV → Option (List AV)
  | .agg cs => some cs
  | .v (.agg ⟨l⟩) => avO (rev l []) []
  | .v (.tuple _) => none
  | .tup _ => none
  | x => some [x]

section
variable {P : Program} [Env P] {tb : List (Nat × TyI)} {o : Oper} {T : List (Nat × AV)} {m : List (Nat × Option Row)} {nx nt : Nat} {r : AV}

theorem QStep.run (h : ∀ (w0 : Base) ρ a w, RelT w0 ρ T nx nt a → RelC w0 ρ m nx w → ∃ y, RelV w0 ρ nx r y ∧ ∀ w', RelC w0 ρ m nx w' → (execOp a.eval o).run P w' = .ok (.value y) w') : QStep P o T m nx nt r := by
  intro w0 _ ρ a w hT hC
  obtain ⟨y, hy, hr⟩ := h w0 ρ a w hT hC
  refine ⟨y, hy, fun w' hC' => ?_⟩
  unfold Oper.quietAt
  rw [hr w' hC']
  exact ⟨rfl, rfl⟩

theorem QStep.val {x : Value} (h : ∀ w0 ρ a, RelT w0 ρ T nx nt a → ∀ w', (execOp a.eval o).run P w' = .ok (.value x) w') : QStep P o T m nx nt (.v x) :=
  QStep.run fun w0 ρ a w hT hC => ⟨x, by simp only [RelV], fun w' _ => h w0 ρ a hT w'⟩

theorem q_move {x : Operand} (ho : o.op = .move x) (hx : ev T x = some r) : QStep P o T m nx nt r :=
  QStep.run fun w0 ρ a w hT hC => ⟨a.eval x, hT.ev hx, fun w' _ => by simp [execOp, ho]⟩
theorem q_assign {x : Operand} (ho : o.op = .assign x) (hx : ev T x = some r) : QStep P o T m nx nt r :=
  QStep.run fun w0 ρ a w hT hC => ⟨a.eval x, hT.ev hx, fun w' _ => by simp [execOp, ho]⟩
theorem q_pick_t {c x y : Operand} (ho : o.op = .pick c x y) (hc : ev T c = some (.v (.bool true))) (hx : ev T x = some r) : QStep P o T m nx nt r :=
  QStep.run fun w0 ρ a w hT hC => ⟨a.eval x, hT.ev hx, fun w' _ => by
    have h := hT.ev hc
    simp only [RelV] at h
    simp [execOp, ho, h, asBool]⟩
theorem q_pick_f {c x y : Operand} (ho : o.op = .pick c x y) (hc : ev T c = some (.v (.bool false))) (hx : ev T y = some r) : QStep P o T m nx nt r :=
  QStep.run fun w0 ρ a w hT hC => ⟨a.eval y, hT.ev hx, fun w' _ => by
    have h := hT.ev hc
    simp only [RelV] at h
    simp [execOp, ho, h, asBool]⟩
theorem q_pick_v {c x y : Operand} {b : Bool} {u v : Value} (ho : o.op = .pick c x y) (hc : ev T c = some (.v (.bool b))) (hx : ev T x = some (.v u)) (hy : ev T y = some (.v v)) : QStep P o T m nx nt (.v (bif b then u else v)) := by
  cases b
  · exact q_pick_f ho hc hy
  · exact q_pick_t ho hc hx

theorem q_extract {x : Operand} {k : Nat} {vs : List AV} (ho : o.op = .extract x k) (hx : ev T x = some (.tup vs)) (hk : nth vs k = some r) : QStep P o T m nx nt r :=
  QStep.run fun w0 ρ a w hT hC => by
    have h := hT.ev hx
    simp only [RelV] at h
    obtain ⟨ys, he, hr⟩ := h
    rw [nth_eq] at hk
    obtain ⟨u, hu, h1⟩ := RelVs.get vs hr k r hk
    refine ⟨u, h1, fun w' _ => ?_⟩
    simp [execOp, ho, he, Instr.extract, hu]

theorem q_not {x : Operand} {t : TypeId} {b : Bool} (ho : o.op = .unOp .not t x) (hx : ev T x = some (.v (.bool b))) : QStep P o T m nx nt (.v (.bool !b)) :=
  QStep.val fun w0 ρ a hT w' => by
    have h := hT.ev hx
    simp only [RelV] at h
    simp [execOp, ho, h, Op.unary]
theorem q_not_t {x : Operand} {t : TypeId} (ho : o.op = .unOp .not t x) (hx : ev T x = some (.v (.bool true))) : QStep P o T m nx nt (.v (.bool false)) := q_not ho hx
theorem q_not_f {x : Operand} {t : TypeId} (ho : o.op = .unOp .not t x) (hx : ev T x = some (.v (.bool false))) : QStep P o T m nx nt (.v (.bool true)) := q_not ho hx

def cmpI : BinOp → Int → Int → Option Bool
  | .eql, a, b => some (a == b)
  | .neq, a, b => some (a != b)
  | .lss, a, b => some (decide (a < b))
  | .leq, a, b => some (decide (a ≤ b))
  | .gtr, a, b => some (decide (a > b))
  | .geq, a, b => some (decide (a ≥ b))
  | _, _, _ => none
theorem q_cmp {op : BinOp} {x y : Operand} {t t' : TypeId} {k : IntKind} {a b : Int} {c : Bool} (ho : o.op = .binOp op t x y t') (hx : ev T x = some (.v (.int k a))) (hy : ev T y = some (.v (.int k b))) (hc : cmpI op a b = some c) :
    QStep P o T m nx nt (.v (.bool c)) :=
  QStep.val fun w0 ρ ac hT w' => by
    have h1 := hT.ev hx
    have h2 := hT.ev hy
    simp only [RelV] at h1 h2
    cases op <;> simp [cmpI] at hc <;> subst hc <;> simp [execOp, ho, h1, h2, eqGuard_at_int, binOp_eql, binOp_neq, binOp_lss, binOp_leq, binOp_gtr, binOp_geq]

def arI : BinOp → Int → Int → Option Int
  | .add, a, b => some (a + b)
  | .sub, a, b => some (a - b)
  | .mul, a, b => some (a * b)
  | _, _, _ => none
theorem q_wrap {op : BinOp} {x y : Operand} {t t' : TypeId} {k : IntKind} {a b c : Int} (ho : o.op = .binOp op t x y t') (hx : ev T x = some (.v (.int k a))) (hy : ev T y = some (.v (.int k b))) (hc : arI op a b = some c) :
    QStep P o T m nx nt (.v (.int k (k.wrap c))) :=
  QStep.val fun w0 ρ ac hT w' => by
    have h1 := hT.ev hx
    have h2 := hT.ev hy
    simp only [RelV] at h1 h2
    cases op <;> simp [arI] at hc <;> subst hc <;> simp [execOp, ho, h1, h2, eqGuard, binOp, Op.intArith]
theorem wrap_in {n : Int} (h1 : -9223372036854775808 ≤ n) (h2 : n ≤ 9223372036854775807) : IntKind.i64.wrap n = n := by
  rw [IntKind.wrap_i64]; omega
theorem q_arith {op : BinOp} {x y : Operand} {t t' : TypeId} {a b c : Int} (ho : o.op = .binOp op t x y t') (hx : ev T x = some (.v (.int .i64 a))) (hy : ev T y = some (.v (.int .i64 b))) (hc : arI op a b = some c)
    (h1 : -9223372036854775808 ≤ c) (h2 : c ≤ 9223372036854775807) : QStep P o T m nx nt (.v (.int .i64 c)) := by
  have := q_wrap (P := P) (m := m) (nx := nx) (nt := nt) ho hx hy hc
  rwa [wrap_in h1 h2] at this

theorem q_quo {x y : Operand} {t t' : TypeId} {k : IntKind} {a b : Int} (ho : o.op = .binOp .quo t x y t') (hx : ev T x = some (.v (.int k a))) (hy : ev T y = some (.v (.int k b))) (hb : b ≠ 0) :
    QStep P o T m nx nt (.v (.int k (k.wrap (a.tdiv b)))) :=
  QStep.val fun w0 ρ ac hT w' => by
    have h1 := hT.ev hx
    have h2 := hT.ev hy
    simp only [RelV] at h1 h2
    simp [execOp, ho, h1, h2, eqGuard, binOp, Op.intDiv, hb]
theorem q_rem {x y : Operand} {t t' : TypeId} {k : IntKind} {a b : Int} (ho : o.op = .binOp .rem t x y t') (hx : ev T x = some (.v (.int k a))) (hy : ev T y = some (.v (.int k b))) (hb : b ≠ 0) :
    QStep P o T m nx nt (.v (.int k (a.tmod b))) :=
  QStep.val fun w0 ρ ac hT w' => by
    have h1 := hT.ev hx
    have h2 := hT.ev hy
    simp only [RelV] at h1 h2
    simp [execOp, ho, h1, h2, eqGuard, binOp, Op.intDiv, hb]
theorem q_quo_pos {x y : Operand} {t t' : TypeId} {a b : Int} (ho : o.op = .binOp .quo t x y t') (hx : ev T x = some (.v (.int .i64 a))) (hy : ev T y = some (.v (.int .i64 b))) (ha : 0 ≤ a) (ha2 : a ≤ 9223372036854775807) (hb : 0 < b) :
    QStep P o T m nx nt (.v (.int .i64 (a / b))) := by
  have := q_quo (P := P) (m := m) (nx := nx) (nt := nt) ho hx hy (by omega)
  rw [Int.tdiv_eq_ediv_of_nonneg ha] at this
  have h1 : 0 ≤ a / b := Int.ediv_nonneg ha (by omega)
  have h2 : a / b ≤ a := Int.ediv_le_self _ ha
  rwa [wrap_in (by omega) (by omega)] at this
theorem q_rem_pos {x y : Operand} {t t' : TypeId} {a b : Int} (ho : o.op = .binOp .rem t x y t') (hx : ev T x = some (.v (.int .i64 a))) (hy : ev T y = some (.v (.int .i64 b))) (ha : 0 ≤ a) (hb : 0 < b) :
    QStep P o T m nx nt (.v (.int .i64 (a % b))) := by
  have := q_rem (P := P) (m := m) (nx := nx) (nt := nt) ho hx hy (by omega)
  rwa [Int.tmod_eq_emod_of_nonneg ha] at this

theorem q_beq {x y : Operand} {t t' : TypeId} {a b : Bool} (ht : P.underlying t = some .bool) (ho : o.op = .binOp .eql t x y t') (hx : ev T x = some (.v (.bool a))) (hy : ev T y = some (.v (.bool b))) :
    QStep P o T m nx nt (.v (.bool (a == b))) :=
  QStep.val fun w0 ρ ac hT w' => by
    have h1 := hT.ev hx
    have h2 := hT.ev hy
    simp only [RelV] at h1 h2
    simp [execOp, ho, h1, h2, eqGuard_at_bool, run_eql_bool w' t a b ht, run_neq_bool w' t a b ht]
theorem q_bne {x y : Operand} {t t' : TypeId} {a b : Bool} (ht : P.underlying t = some .bool) (ho : o.op = .binOp .neq t x y t') (hx : ev T x = some (.v (.bool a))) (hy : ev T y = some (.v (.bool b))) :
    QStep P o T m nx nt (.v (.bool (!(a == b)))) :=
  QStep.val fun w0 ρ ac hT w' => by
    have h1 := hT.ev hx
    have h2 := hT.ev hy
    simp only [RelV] at h1 h2
    simp [execOp, ho, h1, h2, eqGuard_at_bool, run_eql_bool w' t a b ht, run_neq_bool w' t a b ht]
end
end Go.Rf
