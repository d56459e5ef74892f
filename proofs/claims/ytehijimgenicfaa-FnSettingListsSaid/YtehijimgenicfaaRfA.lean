/- A logic of triples over the model's code: the words (abstract values, rows, states) and how a state reads a frame and a world. No program in sight. -/
import Derived.WalkKit
import Derived.Deep.QuietTactic
import Derived.BigQuiet
import Derived.Maps.AppendAt
import Derived.Laws.CopyOwn
import Derived.Lib.Hide
import Derived.WalkLawsBesides
set_option linter.unusedVariables false
set_option linter.unusedSectionVars false
set_option linter.unusedSimpArgs false
namespace Go.Rf
open Go Go.RowKit

/-- What a temporary is known to hold. -/
inductive AV where
  /-- this very value -/
  | v (x : Value)
  /-- a slice that came in: its elements, 'sz' cells each -/
  | lst (sz : Nat) (ys : List (List Value))
  /-- the whole slice that stands in row 'id' of the call's own memory -/
  | own (id : Nat)
  /-- elements i .. i + n of row 'id' (of 'sz' cells each), to be read alone -/
  | sub (id sz i n : Nat)
  /-- a pointer to cell 'off' of box 'id' -/
  | ptr (id off : Nat)
  /-- a pointer to cell 'k' of element 'i' of row 'id' -/
  | rpt (id sz i k : Nat)
  /-- a pointer to cells that came in -/
  | ept (cs : List Value)
  | agg (cs : List AV)
  | tup (vs : List AV)
  /-- a closure, with what it has captured -/
  | fnc (f : FuncId) (caps : List AV)
  /-- a slice that came in, this very value -/
  | pin (y : Value) (sz : Nat) (ys : List (List Value))

/-- A block of the call's own. -/
inductive Row where
  | box (cs : List AV)
  | row (e sz : Nat) (ys : List (List Value))
  /-- the bytes of a text, in new memory -/
  | byt (bs : List Int)
  /-- a row whose spare cells are known too -/
  | spare (e sz : Nat) (ys gs : List (List Value))

structure St where
  T : List (Nat × AV)
  m : List (Nat × Option Row)
  nx : Nat
  nt : Nat

def look {α : Type} (k : Nat) : List (Nat × α) → Option α
  | [] => none
  | (i, x) :: r => bif Nat.beq i k then some x else look k r

def mem (m : List (Nat × Option Row)) (id : Nat) : Option Row :=
  match look id m with
  | some (some r) => some r
  | _ => none

def blk : Value → Option Nat
  | .pointer (some a) => some a.block
  | .slice (some a) _ _ => some a.block
  | _ => none

/-- y is a slice whose elements read as 'ys' in w0. -/
def ReadsAt (w0 : World) (sz : Nat) (ys : List (List Value)) (y : Value) : Prop :=
  ∃ A cap, y = .slice A ys.length cap ∧ ys.length ≤ cap ∧ (∀ c ∈ ys, c.length = sz ∧ ∀ u ∈ c, u.oneCell' = true) ∧
    (0 < ys.length → ∃ ad, A = some ad ∧ ad.block < w0.heap.size ∧ ∀ i c, ys[i]? = some c → ∀ j u, c[j]? = some u → w0.cell? (ad.add (i * sz + j)) = some u)

def PointsAt (w0 : World) (cs : List Value) (y : Value) : Prop :=
  ∃ ad, y = .pointer (some ad) ∧ ad.block < w0.heap.size ∧ (∀ u ∈ cs, u.oneCell' = true) ∧ ∀ j u, cs[j]? = some u → w0.cell? (ad.add j) = some u

mutual
def RelV (w0 : World) (ρ : Nat → Value) (nx : Nat) : AV → Value → Prop
  | .v x, y => y = x
  | .lst sz ys, y => ReadsAt w0 sz ys y
  | .pin z sz ys, y => y = z ∧ ReadsAt w0 sz ys y
  | .own id, y => id < nx ∧ y = ρ id
  | .sub id sz i n, y => id < nx ∧ ∃ A cap, y = .slice A n cap ∧ n ≤ cap ∧ (0 < n → ∃ g l c, ρ id = .slice (some ⟨g, 0, none⟩) l c ∧ A = some ⟨g, i * sz, none⟩) ∧ (i = 0 → ∃ l, ρ id = .slice A l cap ∧ n ≤ l)
  | .ptr id off, y => id < nx ∧ ∃ g, ρ id = .pointer (some ⟨g, 0, none⟩) ∧ y = .pointer (some ⟨g, off, none⟩)
  | .rpt id sz i k, y => id < nx ∧ ∃ g l c, ρ id = .slice (some ⟨g, 0, none⟩) l c ∧ y = .pointer (some ⟨g, i * sz + k, none⟩)
  | .ept cs, y => PointsAt w0 cs y
  | .agg cs, y => ∃ ys : List Value, y = .agg ys.toArray ∧ RelVs w0 ρ nx cs ys
  | .tup cs, y => ∃ ys : List Value, y = .tuple ys.toArray ∧ RelVs w0 ρ nx cs ys
  | .fnc f caps, y => ∃ ys : List Value, y = .func (.func f) #[] ys.toArray ∧ RelVs w0 ρ nx caps ys
def RelVs (w0 : World) (ρ : Nat → Value) (nx : Nat) : List AV → List Value → Prop
  | [], ys => ys = []
  | c :: cs, ys => ∃ y ys', ys = y :: ys' ∧ RelV w0 ρ nx c y ∧ RelVs w0 ρ nx cs ys'
end

section
variable {w0 : World} {ρ ρ' : Nat → Value} {nx nx' : Nat}

mutual
theorem RelV.mono (hn : nx ≤ nx') (hr : ∀ i, i < nx → ρ' i = ρ i) : ∀ (x : AV) {y : Value}, RelV w0 ρ nx x y → RelV w0 ρ' nx' x y
  | .v _, _, h => h
  | .lst _ _, _, h => h
  | .pin _ _ _, _, h => h
  | .ept _, _, h => h
  | .own id, _, h => by
    simp only [RelV] at h ⊢
    exact ⟨by omega, by rw [hr _ h.1]; exact h.2⟩
  | .sub id _ _ _, _, h => by
    simp only [RelV] at h ⊢
    exact ⟨by omega, by rw [hr _ h.1]; exact h.2⟩
  | .ptr id _, _, h => by
    simp only [RelV] at h ⊢
    exact ⟨by omega, by rw [hr _ h.1]; exact h.2⟩
  | .rpt id _ _ _, _, h => by
    simp only [RelV] at h ⊢
    exact ⟨by omega, by rw [hr _ h.1]; exact h.2⟩
  | .agg cs, _, h => by
    simp only [RelV] at h ⊢
    obtain ⟨ys, e, h⟩ := h
    exact ⟨ys, e, RelVs.mono hn hr cs h⟩
  | .tup cs, _, h => by
    simp only [RelV] at h ⊢
    obtain ⟨ys, e, h⟩ := h
    exact ⟨ys, e, RelVs.mono hn hr cs h⟩
  | .fnc f cs, _, h => by
    simp only [RelV] at h ⊢
    obtain ⟨ys, e, h⟩ := h
    exact ⟨ys, e, RelVs.mono hn hr cs h⟩
theorem RelVs.mono (hn : nx ≤ nx') (hr : ∀ i, i < nx → ρ' i = ρ i) : ∀ (x : List AV) {y : List Value}, RelVs w0 ρ nx x y → RelVs w0 ρ' nx' x y
  | [], _, h => h
  | c :: cs, _, h => by
    simp only [RelVs] at h ⊢
    obtain ⟨y, ys, e, h1, h2⟩ := h
    exact ⟨y, ys, e, RelV.mono hn hr c h1, RelVs.mono hn hr cs h2⟩
end

theorem RelVs.length : ∀ (x : List AV) {y : List Value}, RelVs w0 ρ nx x y → y.length = x.length
  | [], _, h => by simp only [RelVs] at h; subst h; rfl
  | c :: cs, _, h => by
    simp only [RelVs] at h
    obtain ⟨y, ys, rfl, h1, h2⟩ := h
    simp [RelVs.length cs h2]

theorem RelVs.get : ∀ (x : List AV) {y : List Value}, RelVs w0 ρ nx x y → ∀ (i : Nat) (a : AV), x[i]? = some a → ∃ u, y[i]? = some u ∧ RelV w0 ρ nx a u
  | [], _, _, _, _, h => by simp at h
  | c :: cs, _, h, i, a, hi => by
    simp only [RelVs] at h
    obtain ⟨y, ys, rfl, h1, h2⟩ := h
    match i with
    | 0 => simp at hi; subst hi; exact ⟨y, by simp, h1⟩
    | i + 1 =>
      simp at hi
      obtain ⟨u, hu, hr⟩ := RelVs.get cs h2 i a hi
      exact ⟨u, by simpa using hu, hr⟩

theorem RelVs.set : ∀ (x : List AV) {y : List Value}, RelVs w0 ρ nx x y → ∀ (i : Nat) (a : AV) (u : Value), RelV w0 ρ nx a u → RelVs w0 ρ nx (x.set i a) (y.set i u)
  | [], _, h, _, _, _, _ => by simp only [RelVs] at h; subst h; simp [RelVs]
  | c :: cs, _, h, i, a, u, hu => by
    simp only [RelVs] at h
    obtain ⟨y, ys, rfl, h1, h2⟩ := h
    match i with
    | 0 => simp only [List.set_cons_zero, RelVs]; exact ⟨_, _, rfl, hu, h2⟩
    | i + 1 => simp only [List.set_cons_succ, RelVs]; exact ⟨_, _, rfl, h1, RelVs.set cs h2 i a u hu⟩

theorem RelVs.drop : ∀ (k : Nat) (x : List AV) {y : List Value}, RelVs w0 ρ nx x y → RelVs w0 ρ nx (x.drop k) (y.drop k)
  | 0, _, _, h => h
  | k + 1, [], _, h => by simp only [RelVs] at h; subst h; simp [RelVs]
  | k + 1, c :: cs, _, h => by
    simp only [RelVs] at h
    obtain ⟨y, ys, rfl, h1, h2⟩ := h
    simpa using RelVs.drop k cs h2

theorem RelVs.take : ∀ (k : Nat) (x : List AV) {y : List Value}, RelVs w0 ρ nx x y → RelVs w0 ρ nx (x.take k) (y.take k)
  | 0, _, _, _ => by simp [RelVs]
  | k + 1, [], _, h => by simp only [RelVs] at h; subst h; simp [RelVs]
  | k + 1, c :: cs, _, h => by
    simp only [RelVs] at h
    obtain ⟨y, ys, rfl, h1, h2⟩ := h
    simp only [List.take_succ_cons, RelVs]
    exact ⟨_, _, rfl, h1, RelVs.take k cs h2⟩

theorem RelVs.append : ∀ (x : List AV) {y : List Value} {x' : List AV} {y' : List Value}, RelVs w0 ρ nx x y → RelVs w0 ρ nx x' y' → RelVs w0 ρ nx (x ++ x') (y ++ y')
  | [], _, _, _, h, h' => by simp only [RelVs] at h; subst h; simpa using h'
  | c :: cs, _, _, _, h, h' => by
    simp only [RelVs] at h
    obtain ⟨y, ys, rfl, h1, h2⟩ := h
    simp only [List.cons_append, RelVs]
    exact ⟨_, _, rfl, h1, RelVs.append cs h2 h'⟩

theorem RelVs.map_v : ∀ (xs : List Value), RelVs w0 ρ nx (xs.map .v) xs
  | [] => by simp [RelVs]
  | x :: xs => by
    simp only [List.map_cons, RelVs]
    exact ⟨_, _, rfl, by simp [RelV], RelVs.map_v xs⟩
theorem RelVs.map_v_eq : ∀ (xs : List Value) {ys : List Value}, RelVs w0 ρ nx (xs.map .v) ys → ys = xs
  | [], _, h => by simpa [RelVs] using h
  | x :: xs, _, h => by
    simp only [List.map_cons, RelVs] at h
    obtain ⟨y, ys, rfl, h1, h2⟩ := h
    simp only [RelV] at h1
    rw [h1, RelVs.map_v_eq xs h2]
end

/-- A row reads a block. -/
def RowRel (w0 : World) (ρ : Nat → Value) (nx : Nat) (w : World) (id : Nat) : Row → Prop
  | .box cs => ∃ b cur ty, ρ id = .pointer (some ⟨b, 0, none⟩) ∧ w0.heap.size ≤ b ∧ w.heap[b]? = some (.cells cur ty (0, 0)) ∧ RelVs w0 ρ nx cs cur.toList ∧ ∀ u ∈ cur.toList, u.oneCell' = true
  | .row e sz ys => w.ownsRow w0.heap.size e sz (ρ id) ys.length ys.flatten ∧ ∀ c ∈ ys, c.length = sz ∧ ∀ u ∈ c, u.oneCell' = true
  | .byt bs => ∃ g cap cur e fz, ρ id = .slice (some ⟨g, 0, none⟩) bs.length cap ∧ w0.heap.size ≤ g ∧ w.heap[g]? = some (.cells cur e fz) ∧ bs.length ≤ cap ∧ bs.length ≤ fz.1 ∧ cur.toList.take bs.length = bs.map (Value.int .u8)
  | .spare e sz ys gs => ∃ g cur, ρ id = .slice (some ⟨g, 0, none⟩) ys.length (ys.length + gs.length) ∧ w0.heap.size ≤ g ∧ w.heap[g]? = some (.cells cur e (0, 0)) ∧ cur.toList = (ys ++ gs).flatten ∧ ys.length + gs.length ≤ maxLen ∧ ∀ c ∈ ys ++ gs, c.length = sz

/-- The frame. -/
structure RelT (w0 : World) (ρ : Nat → Value) (T : List (Nat × AV)) (nx nt : Nat) (a : Act) : Prop where
  tmps : ∀ t x, look t T = some x → RelV w0 ρ nx x (a.tmps.getD t undef)
  size : a.tmps.size = nt
  defers : a.defers = []

/-- What the call found: the world; the rows that are pinned (rows of the caller that the call writes in place); the blocks of the caller that it must leave as they stand in 'ws'. -/
structure Base where
  w : World
  n0 : Nat
  r0 : Nat → Value
  ws : World
  keep : Nat → Prop
  kb : ∀ b, keep b → b < ws.heap.size
  E : World → Prop
  hE : ∀ w', Below w.heap.size w w' → E w'
instance : Coe Base World := ⟨Base.w⟩
/-- what all functions of the program may rely on (package-level variables that hold what they were laid with) -/
class Env (P : Program) where
  E : World → Prop
  mono : ∀ {w w' : World}, E w → Below w.heap.size w w' → E w'
class EnvAt (P : Program) [Env P] (w0 : Base) : Prop where
  e : w0.E = Env.E P
instance envAt_of {P : Program} [Env P] {w0 : Base} [h : EnvAt P w0] {n : Nat} {r0 : Nat → Value} {ws : World} {keep : Nat → Prop} {kb : ∀ b, keep b → b < ws.heap.size} : EnvAt P ⟨w0.w, n, r0, ws, keep, kb, w0.E, w0.hE⟩ := ⟨h.e⟩
class NoPin (b : Base) : Prop where
  no : b.n0 = 0
theorem np {b : Base} [h : NoPin b] {id : Nat} : b.n0 ≤ id := by rw [h.no]; exact Nat.zero_le _

/-- The world. -/
structure RelC (w0 : Base) (ρ : Nat → Value) (m : List (Nat × Option Row)) (nx : Nat) (w : World) : Prop where
  rows : ∀ id r, mem m id = some r → id < nx ∧ RowRel w0.w ρ nx w id r
  apart : ∀ id id' r r', mem m id = some r → mem m id' = some r' → id ≠ id' → ∀ b, blk (ρ id) = some b → blk (ρ id') ≠ some b
  below : Below w0.w.heap.size w0.w w
  pin : w0.n0 ≤ nx ∧ ∀ i, i < w0.n0 → ρ i = w0.r0 i
  kept : w0.ws.heap.size ≤ w.heap.size ∧ (∀ b, w0.keep b → w.heap[b]? = w0.ws.heap[b]?) ∧ ∀ id r, mem m id = some r → ∀ b, blk (ρ id) = some b → ¬ w0.keep b

theorem RelC.fresh {w0 : Base} {ρ : Nat → Value} {m : List (Nat × Option Row)} {nx : Nat} {w : World} (h : RelC w0 ρ m nx w) {b : Nat} (hb : w.heap.size ≤ b) : ¬ w0.keep b := fun hk => by
  have := w0.kb b hk
  have := h.kept.1
  omega

theorem RelC.env (P : Program) [Env P] {w0 : Base} [EnvAt P w0] {ρ : Nat → Value} {m : List (Nat × Option Row)} {nx : Nat} {w : World} (h : RelC w0 ρ m nx w) : Env.E P w := by
  rw [← EnvAt.e (P := P) (w0 := w0)]
  exact w0.hE w h.below

def Post (w0 : Base) (Q : Exit → St → Prop) (e : Exit) (a : Act) (w : World) : Prop :=
  ∃ ρ S, Q e S ∧ RelT w0.w ρ S.T S.nx S.nt a ∧ RelC w0 ρ S.m S.nx w

/-- THE TRIPLE: from state S the code comes to Q. -/
def W (P : Program) (w0 : Base) (c : Code) (S : St) (Q : Exit → St → Prop) : Prop :=
  ∀ ρ a w, RelT w0.w ρ S.T S.nx S.nt a → RelC w0 ρ S.m S.nx w → c.wp P (Post w0 Q) a w

def WL (P : Program) (w0 : Base) (ops : Array Oper) (l : List Oper) (S : St) (Q : Exit → St → Prop) : Prop :=
  ∀ ρ a w, RelT w0.w ρ S.T S.nx S.nt a → RelC w0 ρ S.m S.nx w → wpList P ops (Post w0 Q) l a w

/-- .. the first operation, its guard having said yes. -/
def WX (P : Program) (w0 : Base) (ops : Array Oper) (o : Oper) (l : List Oper) (S : St) (Q : Exit → St → Prop) : Prop :=
  ∀ ρ a w, RelT w0.w ρ S.T S.nx S.nt a → RelC w0 ρ S.m S.nx w → o.wp P a w (wpList P ops (Post w0 Q) l) (Post w0 Q)

/-- In a region that draws its order: operations that leave the call's own memory alone. -/
def QPost (w0 : Base) (ρ : Nat → Value) (m : List (Nat × Option Row)) (nx nt : Nat) (K : List (Nat × AV) → Prop) (a : Act) : Prop :=
  ∃ T, K T ∧ RelT w0 ρ T nx nt a

def QL (P : Program) (w0 : Base) (ops : Array Oper) (l : List Oper) (T : List (Nat × AV)) (m : List (Nat × Option Row)) (nx nt : Nat) (K : List (Nat × AV) → Prop) : Prop :=
  ∀ ρ a w, RelT w0.w ρ T nx nt a → RelC w0 ρ m nx w → wpQuiet P ops (RelC w0 ρ m nx) (QPost w0 ρ m nx nt K) l a

def QX (P : Program) (w0 : Base) (ops : Array Oper) (o : Oper) (l : List Oper) (T : List (Nat × AV)) (m : List (Nat × Option Row)) (nx nt : Nat) (K : List (Nat × AV) → Prop) : Prop :=
  ∀ ρ a w, RelT w0.w ρ T nx nt a → RelC w0 ρ m nx w → o.quiet P a (RelC w0 ρ m nx) (wpQuiet P ops (RelC w0 ρ m nx) (QPost w0 ρ m nx nt K) l)

def ev (T : List (Nat × AV)) : Operand → Option AV
  | .tmp t => look t T
  | .const v => some (.v v)
  | .func f => some (.v (.func (.func f) #[] #[]))
  | .global _ => none

theorem RelT.ev {w0 : World} {ρ : Nat → Value} {T : List (Nat × AV)} {nx nt : Nat} {a : Act} (h : RelT w0 ρ T nx nt a) {x : Operand} {r : AV} (hx : ev T x = some r) : RelV w0 ρ nx r (a.eval x) := by
  cases x with
  | tmp t => exact h.tmps t r hx
  | const v => simp [Rf.ev] at hx; subst hx; simp [RelV, Act.eval]
  | func f => simp [Rf.ev] at hx; subst hx; simp [RelV, Act.eval]
  | global g => simp [Rf.ev] at hx

/-- An operation that only reads yields 'r', whatever the order. -/
def QStep (P : Program) [Env P] (o : Oper) (T : List (Nat × AV)) (m : List (Nat × Option Row)) (nx nt : Nat) (r : AV) : Prop :=
  ∀ (w0 : Base) [EnvAt P w0] ρ a w, RelT w0.w ρ T nx nt a → RelC w0 ρ m nx w → ∃ y, RelV w0 ρ nx r y ∧ ∀ w', RelC w0 ρ m nx w' → o.quietAt P a (RelC w0 ρ m nx) w' y

theorem look_cons_same {α : Type} (k : Nat) (x : α) (l : List (Nat × α)) : look k ((k, x) :: l) = some x := by
  have : Nat.beq k k = true := Nat.beq_refl k
  simp [look, this]
theorem look_cons_other {α : Type} {k i : Nat} (h : i ≠ k) (x : α) (l : List (Nat × α)) : look k ((i, x) :: l) = look k l := by
  have : Nat.beq i k = false := by
    cases hb : Nat.beq i k with
    | false => rfl
    | true => exact absurd (Nat.eq_of_beq_eq_true hb) h
  simp [look, this]

theorem RelT.put {w0 : World} {ρ : Nat → Value} {T : List (Nat × AV)} {nx nt d : Nat} {a : Act} {r : AV} {y : Value} (h : RelT w0 ρ T nx nt a) (hd : Nat.blt d nt = true) (hr : RelV w0 ρ nx r y) :
    RelT w0 ρ ((d, r) :: T) nx nt (a.put (some d) y) := by
  have hd' : d < a.tmps.size := by rw [h.size]; exact Nat.le_of_ble_eq_true hd
  refine ⟨fun t x hx => ?_, by simp [Act.put, h.size], by simp [Act.put, h.defers]⟩
  by_cases e : d = t
  · subst e
    rw [look_cons_same] at hx
    cases hx
    simpa [Act.put, hd'] using hr
  · rw [look_cons_other e] at hx
    have := h.tmps t x hx
    simpa [Act.put, Array.getD_eq_getD_getElem?, Array.getElem?_setIfInBounds_ne e] using this

theorem RelT.put_none {w0 : World} {ρ : Nat → Value} {T : List (Nat × AV)} {nx nt : Nat} {a : Act} {y : Value} (h : RelT w0 ρ T nx nt a) : RelT w0 ρ T nx nt (a.put none y) := h

section rules
variable {P : Program} {w0 : Base} {ops : Array Oper} {o : Oper} {rest : List Oper} {T : List (Nat × AV)} {m : List (Nat × Option Row)} {nx nt d : Nat} {r : AV} {Q : Exit → St → Prop} {K : List (Nat × AV) → Prop}

/-- The step of an operation that only reads, in a plain region .. -/
theorem WX_q [Env P] [EnvAt P w0] (hd : o.dst = some d) (hlt : Nat.blt d nt = true) (h : QStep P o T m nx nt r) (hk : WL P w0 ops rest ⟨(d, r) :: T, m, nx, nt⟩ Q) : WX P w0 ops o rest ⟨T, m, nx, nt⟩ Q := by
  intro ρ a w hT hC
  obtain ⟨y, hy, hq⟩ := h w0 ρ a w hT hC
  have h1 := hq w hC
  unfold Oper.quietAt at h1
  unfold Oper.wp
  have key : ∀ w', RelC w0 ρ m nx w' → wpList P ops (Post w0 Q) rest (a.put o.dst y) w' := fun w' hC' => hk ρ _ w' (by rw [hd]; exact hT.put hlt hy) hC'
  generalize (execOp a.eval o).run P w = res at *
  cases res with
  | ok n w' =>
    cases n <;> simp only [Oper.quietUpon] at h1 <;> simp only [Oper.upon]
    case value u => obtain ⟨e1, e2⟩ := h1; rw [e1, e2]; exact key _ hC
    case skip => obtain ⟨e1, e2⟩ := h1; rw [e1, ← e2]; exact key _ hC
    case enter f args =>
      obtain ⟨e1, hc⟩ := h1
      rw [e1]
      exact hc.mono fun e w'' ⟨he, hw''⟩ => by subst he; exact key _ hw''
  | halt x w' => simp only [Oper.quietUpon] at h1

/-- .. and in a region that draws. -/
theorem QX_q [Env P] [EnvAt P w0] (hd : o.dst = some d) (hlt : Nat.blt d nt = true) (h : QStep P o T m nx nt r) (hk : QL P w0 ops rest ((d, r) :: T) m nx nt K) : QX P w0 ops o rest T m nx nt K := by
  intro ρ a w hT hC
  obtain ⟨y, hy, hq⟩ := h w0 ρ a w hT hC
  exact ⟨y, hq, hk ρ _ w (by rw [hd]; exact hT.put hlt hy) hC⟩

theorem WL_nil {S : St} (h : Q .normal S) : WL P w0 ops [] S Q := fun ρ a w hT hC => wpList_nil ⟨ρ, S, h, hT, hC⟩
theorem QL_nil (h : K T) : QL P w0 ops [] T m nx nt K := fun ρ a w hT hC => wpQuiet_nil ⟨T, h, hT⟩

theorem WL_cons {S : St} (hg : o.guard = none) (h : WX P w0 ops o rest S Q) : WL P w0 ops (o :: rest) S Q := by
  intro ρ a w hT hC
  unfold wpList
  rw [if_pos (by simp [Region.wanted, hg])]
  exact .inl (h ρ a w hT hC)
theorem QL_cons (hg : o.guard = none) (h : QX P w0 ops o rest T m nx nt K) : QL P w0 ops (o :: rest) T m nx nt K := by
  intro ρ a w hT hC
  unfold wpQuiet
  rw [if_pos (by simp [Region.wanted, hg])]
  exact h ρ a w hT hC

theorem wanted_of {j gd : Nat} {want b : Bool} {ρ : Nat → Value} {a : Act} (hT : RelT w0 ρ T nx nt a) (hg : o.guard = some (j, want)) (hj : (ops[j]?).bind (·.dst) = some gd) (hb : look gd T = some (.v (.bool b))) :
    Region.wanted o (yielded ops a.tmps) = (b == want) := by
  have h1 := hT.tmps gd _ hb
  simp only [RelV] at h1
  have h2 : a.tmps[gd]? = some (.bool b) := by
    rcases Nat.lt_or_ge gd a.tmps.size with hlt | hge
    · simp [hlt] at h1 ⊢; exact h1
    · simp [Array.getElem?_eq_none hge, undef] at h1
  simp [Region.wanted, hg, yielded, hj, h2]

theorem WL_run {S : St} {j gd : Nat} {want : Bool} (hg : o.guard = some (j, want)) (hj : (ops[j]?).bind (·.dst) = some gd) (hb : look gd S.T = some (.v (.bool want)))
    (h : WX P w0 ops o rest S Q) : WL P w0 ops (o :: rest) S Q := by
  intro ρ a w hT hC
  unfold wpList
  rw [if_pos (by rw [wanted_of hT hg hj hb]; simp)]
  exact .inl (h ρ a w hT hC)
theorem QL_run {j gd : Nat} {want : Bool} (hg : o.guard = some (j, want)) (hj : (ops[j]?).bind (·.dst) = some gd) (hb : look gd T = some (.v (.bool want)))
    (h : QX P w0 ops o rest T m nx nt K) : QL P w0 ops (o :: rest) T m nx nt K := by
  intro ρ a w hT hC
  unfold wpQuiet
  rw [if_pos (by rw [wanted_of hT hg hj hb]; simp)]
  exact h ρ a w hT hC

theorem WL_skip {j gd : Nat} {want b : Bool} (hg : o.guard = some (j, want)) (hj : (ops[j]?).bind (·.dst) = some gd) (hb : look gd T = some (.v (.bool b))) (hne : (b == want) = false)
    (hd : o.dst = some d) (hlt : Nat.blt d nt = true) (h : WL P w0 ops rest ⟨(d, .v undef) :: T, m, nx, nt⟩ Q) : WL P w0 ops (o :: rest) ⟨T, m, nx, nt⟩ Q := by
  intro ρ a w hT hC
  unfold wpList
  rw [if_neg (by rw [wanted_of hT hg hj hb, hne]; simp), hd]
  exact h ρ _ w (hT.put hlt (by simp [RelV])) hC
theorem QL_skip {j gd : Nat} {want b : Bool} (hg : o.guard = some (j, want)) (hj : (ops[j]?).bind (·.dst) = some gd) (hb : look gd T = some (.v (.bool b))) (hne : (b == want) = false)
    (hd : o.dst = some d) (hlt : Nat.blt d nt = true) (h : QL P w0 ops rest ((d, .v undef) :: T) m nx nt K) : QL P w0 ops (o :: rest) T m nx nt K := by
  intro ρ a w hT hC
  unfold wpQuiet
  rw [if_neg (by rw [wanted_of hT hg hj hb, hne]; simp), hd]
  exact h ρ _ w (hT.put hlt (by simp [RelV])) hC

theorem wanted_undef {j gd : Nat} {want : Bool} {ρ : Nat → Value} {a : Act} (hT : RelT w0 ρ T nx nt a) (hg : o.guard = some (j, want)) (hj : (ops[j]?).bind (·.dst) = some gd) (hb : look gd T = some (.v undef)) :
    Region.wanted o (yielded ops a.tmps) = false := by
  have h1 := hT.tmps gd _ hb
  simp only [RelV] at h1
  have h2 : a.tmps[gd]? = some undef ∨ a.tmps[gd]? = none := by
    rcases Nat.lt_or_ge gd a.tmps.size with hlt | hge
    · simp [hlt] at h1 ⊢; exact h1
    · exact .inr (Array.getElem?_eq_none hge)
  rcases h2 with h2 | h2 <;> simp [Region.wanted, hg, yielded, hj, h2, undef]

theorem WL_skip_u {j gd : Nat} {want : Bool} (hg : o.guard = some (j, want)) (hj : (ops[j]?).bind (·.dst) = some gd) (hb : look gd T = some (.v undef))
    (hd : o.dst = some d) (hlt : Nat.blt d nt = true) (h : WL P w0 ops rest ⟨(d, .v undef) :: T, m, nx, nt⟩ Q) : WL P w0 ops (o :: rest) ⟨T, m, nx, nt⟩ Q := by
  intro ρ a w hT hC
  unfold wpList
  rw [if_neg (by rw [wanted_undef hT hg hj hb]; simp), hd]
  exact h ρ _ w (hT.put hlt (by simp [RelV])) hC
theorem QL_skip_u {j gd : Nat} {want : Bool} (hg : o.guard = some (j, want)) (hj : (ops[j]?).bind (·.dst) = some gd) (hb : look gd T = some (.v undef))
    (hd : o.dst = some d) (hlt : Nat.blt d nt = true) (h : QL P w0 ops rest ((d, .v undef) :: T) m nx nt K) : QL P w0 ops (o :: rest) T m nx nt K := by
  intro ρ a w hT hC
  unfold wpQuiet
  rw [if_neg (by rw [wanted_undef hT hg hj hb]; simp), hd]
  exact h ρ _ w (hT.put hlt (by simp [RelV])) hC

/-- A guard that is not decided: both ways. -/
theorem WL_part {j gd : Nat} {want b : Bool} (hg : o.guard = some (j, want)) (hj : (ops[j]?).bind (·.dst) = some gd) (hb : look gd T = some (.v (.bool b)))
    (h1 : b = true → WL P w0 ops (o :: rest) ⟨T, m, nx, nt⟩ Q) (h2 : b = false → WL P w0 ops (o :: rest) ⟨T, m, nx, nt⟩ Q) : WL P w0 ops (o :: rest) ⟨T, m, nx, nt⟩ Q := by
  cases b
  · exact h2 rfl
  · exact h1 rfl
theorem QL_part {j gd : Nat} {want b : Bool} (hg : o.guard = some (j, want)) (hj : (ops[j]?).bind (·.dst) = some gd) (hb : look gd T = some (.v (.bool b)))
    (h1 : b = true → QL P w0 ops (o :: rest) T m nx nt K) (h2 : b = false → QL P w0 ops (o :: rest) T m nx nt K) : QL P w0 ops (o :: rest) T m nx nt K := by
  cases b
  · exact h2 rfl
  · exact h1 rfl

/-! The code's forms. -/
def sq (K : St → Prop) (Q : Exit → St → Prop) : Exit → St → Prop
  | .normal, S => K S
  | e, S => Q e S
def bq (id : Nat) (Q : Exit → St → Prop) : Exit → St → Prop
  | .exit i, S => bif Nat.beq i id then Q .normal S else Q (.exit i) S
  | e, S => Q e S

theorem W_mono {c : Code} {S : St} {Q' : Exit → St → Prop} (h : W P w0 c S Q') (hq : ∀ e S, Q' e S → Q e S) : W P w0 c S Q :=
  fun ρ a w hT hC => wp_mono (h ρ a w hT hC) fun e a w ⟨ρ, S, q, h1, h2⟩ => ⟨ρ, S, hq _ _ q, h1, h2⟩

theorem W_seq {x y : Code} {S : St} (h : ∀ K : St → Prop, (∀ S, W P w0 y S Q → K S) → W P w0 x S (sq K Q)) : W P w0 (.seq x y) S Q := by
  intro ρ a w hT hC
  refine wp_seq (wp_mono (h (fun S => W P w0 y S Q) (fun _ h => h) ρ a w hT hC) ?_)
  rintro e a w ⟨ρ, S, q, h1, h2⟩
  cases e
  case normal => exact q ρ a w h1 h2
  all_goals exact ⟨ρ, S, q, h1, h2⟩

theorem W_skip {S : St} (h : Q .normal S) : W P w0 .skip S Q := fun ρ a w hT hC => wp_skip ⟨ρ, S, h, hT, hC⟩
theorem W_ret {S : St} (h : Q .ret S) : W P w0 .ret S Q := fun ρ a w hT hC => wp_ret ⟨ρ, S, h, hT, hC⟩
theorem W_exit {S : St} {id : Nat} (h : Q (.exit id) S) : W P w0 (.exit id) S Q := fun ρ a w hT hC => wp_exit ⟨ρ, S, h, hT, hC⟩
theorem W_block {S : St} {id : Nat} {c : Code} (h : W P w0 c S (bq id Q)) : W P w0 (.block id c) S Q := by
  intro ρ a w hT hC
  refine wp_block (wp_mono (h ρ a w hT hC) ?_)
  rintro e a w ⟨ρ, S, q, h1, h2⟩
  cases e
  case exit i =>
    simp only [bq] at q
    by_cases hi : i = id
    · subst hi
      rw [Nat.beq_refl] at q
      simp only [Exit.inBlock, if_true]
      exact ⟨ρ, S, q, h1, h2⟩
    · have hb : Nat.beq i id = false := by
        cases hb : Nat.beq i id with
        | false => rfl
        | true => exact absurd (Nat.eq_of_beq_eq_true hb) hi
      rw [hb] at q
      simp only [Exit.inBlock, hi, if_false]
      exact ⟨ρ, S, q, h1, h2⟩
  all_goals exact ⟨ρ, S, q, h1, h2⟩

theorem W_cond {S : St} {c : Operand} {x y : Code} {b : Bool} (hc : ev S.T c = some (.v (.bool b))) (h1 : b = true → W P w0 x S Q) (h2 : b = false → W P w0 y S Q) : W P w0 (.cond c x y) S Q := by
  intro ρ a w hT hC
  have he := hT.ev hc
  simp only [RelV] at he
  refine wp_cond_split he (fun h => h1 h ρ a w hT hC) (fun h => h2 h ρ a w hT hC)
theorem W_true {S : St} {c : Operand} {x y : Code} (hc : ev S.T c = some (.v (.bool true))) (h1 : W P w0 x S Q) : W P w0 (.cond c x y) S Q := W_cond hc (fun _ => h1) (fun h => by cases h)
theorem W_false {S : St} {c : Operand} {x y : Code} (hc : ev S.T c = some (.v (.bool false))) (h1 : W P w0 y S Q) : W P w0 (.cond c x y) S Q := W_cond hc (fun h => by cases h) (fun _ => h1)

theorem W_region {S : St} {id : Nat} {l : List Oper} (h : WL P w0 l.toArray l S Q) : W P w0 (.region id l.toArray false) S Q :=
  fun ρ a w hT hC => wp_region_lit (h ρ a w hT hC)

theorem RelC.drew {ρ : Nat → Value} {w : World} (h : RelC w0 ρ m nx w) : RelC w0 ρ m nx w.drew := by
  refine ⟨fun id r hr => ?_, h.apart, h.below.drew, h.pin, h.kept⟩
  obtain ⟨h1, h2⟩ := h.rows id r hr
  refine ⟨h1, ?_⟩
  cases r with
  | box cs => exact h2
  | row e sz ys => exact h2
  | byt bs => exact h2
  | spare _ _ _ _ => exact h2

theorem W_draws {id : Nat} {l : List Oper} (hm : P.follows .mixedOrders = true) (hB : Region.lexB .any l.toArray = true)
    (h : QL P w0 l.toArray l T m nx nt (fun T' => Q .normal ⟨T', m, nx, nt⟩)) : W P w0 (.region id l.toArray true) ⟨T, m, nx, nt⟩ Q := by
  intro ρ a w hT hC
  refine wp_region_quiet (C := RelC w0 ρ m nx) hm hB hC.drew ?_
  have := h ρ a w hT hC
  refine wpQuiet_mono ?_ _ _ this
  rintro a' ⟨T', hK, hT'⟩ w' hC'
  exact ⟨ρ, ⟨T', m, nx, nt⟩, hK, hT', hC'⟩
where
  wpQuiet_mono {C : World → Prop} {ops : Array Oper} {K K' : Act → Prop} (h : ∀ a, K a → K' a) : ∀ (l : List Oper) (a : Act), wpQuiet P ops C K l a → wpQuiet P ops C K' l a
    | [], a, hh => h a hh
    | o :: l, a, hh => by
      unfold wpQuiet at hh ⊢
      split
      · rename_i hw
        rw [if_pos hw] at hh
        exact Oper.quiet_mono (wpQuiet_mono h l) hh
      · rename_i hw
        rw [if_neg hw] at hh
        exact wpQuiet_mono h l _ hh
end rules
end Go.Rf
