/- Texts merged into one: RfNQ, RfNR, RfNS, RfNT, RfMA, RfNV, RfMB, RfMC, RfMD, RfNU, RfME, RfMF, RfMG, RfMH, RfMI, RfMJ, RfNX, RfNP, RfMK, RfMQ, Rf5, RfNY, RfNW, RfNI. -/
import Derived.Test.YtieidkjfeboepaaGreatDoorLibC
import Derived.Lib.Join
/- The abstract machine: the next that is taken, and the steps. -/
set_option linter.unusedVariables false
set_option linter.unusedSectionVars false
set_option linter.unusedSimpArgs false
namespace Go.Rf
open Go
/-- with a limit: the best, and the limit that is left -/
def bestI (rs : List Route) (a : Abs) (c : Nat) (L : Int) : Nat → Int × Int
  | 0 => (-1, L)
  | i + 1 => if (a.po.getD i default = true ∧ (rs.getD i default).t = c) ∧ (rs.getD i default).p < (bestI rs a c L i).2 then (i, (rs.getD i default).p) else bestI rs a c L i
/-- the priority of the top of a stack -/
def topP (rs : List Route) (l : List Int) : Int := (rs.getD (l.getD (l.length - 1) default).toNat default).p
def limT (rs : List Route) (a : Abs) (c : Nat) : Int := if (a.st.getD c default).length = 0 then a.ma.getD c default else min (a.ma.getD c default) (topP rs (a.st.getD c default))
def nextT (rs : List Route) (a : Abs) (c : Nat) : Int := if (a.st.getD c default).length = 4 then -1 else (bestI rs a c (limT rs a c) 8).1
end Go.Rf
namespace Go.Rf
end Go.Rf
namespace Go.Rf
end Go.Rf
namespace Go.Rf
end Go.Rf

/- The abstract machine: its steps. -/
set_option linter.unusedVariables false
set_option linter.unusedSectionVars false
set_option linter.unusedSimpArgs false
namespace Go.Rf
open Go
def hasI (l : List Int) (v : Int) : Bool := anyN l.length (fun j => decide (v = l.getD j default))
/-- line i is raised, enabled, and on no stack of its processor -/
def cndS (rs : List Route) (a : Abs) (i : Nat) : Bool := a.en.getD i default && (a.ra.getD i default && !hasI (a.st.getD (rs.getD i default).t.toNat default) i)
def syncR (rs : List Route) (a : Abs) : Nat → List Bool
  | 0 => a.ra
  | i + 1 => if cndS rs a i then (syncR rs a i).set i false else syncR rs a i
def syncP (rs : List Route) (a : Abs) : Nat → List Bool
  | 0 => a.po
  | i + 1 => if cndS rs a i then (syncP rs a i).set i true else syncP rs a i
def syncA (rs : List Route) (a : Abs) : Abs := ⟨a.en, syncR rs a 8, syncP rs a 8, a.ma, a.st⟩
/-- a valid step: what is left, what is taken, and whether it is possible -/
def makeA (rs : List Route) (a : Abs) (s : MStep) : Abs × Int × Bool :=
  if s.k = 1 then ({a with ra := a.ra.set s.q.toNat true}, -1, !(a.ra.getD s.q.toNat default))
  else if s.k = 2 then (syncA rs a, -1, true)
  else if s.k = 3 then
    if nextT rs a s.c.toNat < 0 then (a, -1, false)
    else ({a with po := a.po.set (nextT rs a s.c.toNat).toNat false, st := a.st.set s.c.toNat (a.st.getD s.c.toNat default ++ [nextT rs a s.c.toNat])}, nextT rs a s.c.toNat, true)
  else if s.k = 4 then
    if (a.st.getD s.c.toNat default).length = 0 then (a, -1, false)
    else ({a with st := a.st.set s.c.toNat ((a.st.getD s.c.toNat default).take ((a.st.getD s.c.toNat default).length - 1))}, (a.st.getD s.c.toNat default).getD ((a.st.getD s.c.toNat default).length - 1) default, true)
  else if s.k = 5 then ({a with ma := a.ma.set s.c.toNat s.v}, -1, true)
  else ({a with en := a.en.set s.q.toNat (decide (s.v = 1))}, -1, true)
end Go.Rf
namespace Go.Rf
end Go.Rf
namespace Go.Rf
end Go.Rf
namespace Go.Rf
end Go.Rf

/- The abstract machine: rows of stacks that are written. -/
set_option linter.unusedVariables false
set_option linter.unusedSectionVars false
set_option linter.unusedSimpArgs false
namespace Go.Rf
open Go
end Go.Rf
namespace Go.Rf
section
variable {rs : List Route} {a : Abs} {sk sq sc sv : Int} {q c : Nat}
theorem mk1 (h : sk = 1) : makeA rs a ⟨sk, (q : Int), sc, sv⟩ = ({a with ra := a.ra.set q true}, -1, !(a.ra.getD q default)) := by subst h; rfl
end
end Go.Rf
namespace Go.Rf
end Go.Rf
namespace Go.Rf
section
variable {rs : List Route} {a : Abs} {s : MStep}
end
end Go.Rf

/- The abstract machine, written over. -/
set_option linter.unusedVariables false
set_option linter.unusedSectionVars false
set_option linter.unusedSimpArgs false
namespace Go.Rf
open Go
section
variable {k : Int} {xss : List (List Int)}
end
end Go.Rf
namespace Go.Rf
end Go.Rf
namespace Go.Rf
end Go.Rf

/- The machine: slots, queues, interfaces, machines, as plain data. -/
set_option linter.unusedVariables false
set_option linter.unusedSectionVars false
set_option linter.unusedSimpArgs false
namespace Go.Rf
open Go
structure Slot where
  s : Int
  q : Int
  p : Int
  deriving Inhabited, DecidableEq
def encSl (x : Slot) : List Value := [.int .i64 x.s, .int .i64 x.q, .int .i64 x.p]
def encSv (x : Slot) : Value := .agg ⟨encSl x⟩
structure Wtr where
  q : Int
  p : Int
  deriving Inhabited, DecidableEq
def encWa (x : Wtr) : List Value := [.int .i64 x.q, .int .i64 x.p]
def encWv (x : Wtr) : Value := .agg ⟨encWa x⟩
structure Que where
  sl : List Slot
  wa : List Wtr
  deriving Inhabited, DecidableEq
structure Ifc where
  ma : Int
  st : List Int
  qu : Que
  deriving Inhabited, DecidableEq
structure Mach where
  rs : List Route
  en : List Bool
  ra : List Bool
  cp : List Ifc
  deriving Inhabited, DecidableEq
def zSl : Slot := ⟨0, 0, 0⟩
def wOf (x : Slot) : Wtr := ⟨x.q, x.p⟩
def eqSl (x y : Slot) : Bool := x.s == y.s && (x.q == y.q && x.p == y.p)
theorem eqSl_iff {x y : Slot} : eqSl x y = true ↔ x = y := by cases x; cases y; simp [eqSl]
def eqWa (x y : Wtr) : Bool := x.q == y.q && x.p == y.p
theorem eqWa_iff {x y : Wtr} : eqWa x y = true ↔ x = y := by cases x; cases y; simp [eqWa]
/-! slots -/
def fdP (irq : Int) (x : Slot) : Bool := !(decide (x.s = 0)) && decide (x.q = irq)
def fndS (sl : List Slot) (irq : Int) : Int := idxN (fun i => fdP irq (sl.getD i default)) sl.length
def emP (x : Slot) : Bool := decide (x.s = 0)
def freS (sl : List Slot) : Int := idxN (fun i => emP (sl.getD i default)) sl.length
def okS1 (x : Slot) : Bool := inside x.s 1 3 && (inside x.q 0 7 && inside x.p 0 15)
def oneSl (sl : List Slot) (i : Nat) : Bool := if (sl.getD i default).s = 0 then decide (sl.getD i default = zSl) else okS1 (sl.getD i default) && !(anyN i (fun j => fdP (sl.getD i default).q (sl.getD j default)))
def okSl (sl : List Slot) : Bool := decide (sl.length = 4) && allN sl.length (oneSl sl)
def cmpN (x y : Int) : Int := if x < y then -1 else if y < x then 1 else 0
def urg (a b : Wtr) : Int := if cmpN a.p b.p = 0 then cmpN a.q b.q else cmpN a.p b.p
/-- a is more urgent than b -/
def lessW (a b : Wtr) : Bool := decide (a.p < b.p) || (decide (a.p = b.p) && decide (a.q < b.q))
theorem lessW_iff {a b : Wtr} : lessW a b = true ↔ a.p < b.p ∨ (a.p = b.p ∧ a.q < b.q) := by simp [lessW]
theorem lessW_nf {a b : Wtr} : lessW a b = false ↔ ¬ (a.p < b.p ∨ (a.p = b.p ∧ a.q < b.q)) := by rw [← Bool.not_eq_true, lessW_iff]
theorem urg_neg {a b : Wtr} : urg a b < 0 ↔ lessW a b = true := by
  rw [lessW_iff]; unfold urg cmpN
  by_cases h1 : a.p < b.p
  · simp [h1]
  · by_cases h2 : b.p < a.p
    · simp [h1, h2]; omega
    · have : a.p = b.p := by omega
      simp [this]
      by_cases h3 : a.q < b.q
      · simp [h3]
      · simp [h3]
        split <;> omega
theorem urg_pos {a b : Wtr} : 0 < urg a b ↔ lessW b a = true := by
  rw [lessW_iff]; unfold urg cmpN
  by_cases h1 : a.p < b.p
  · simp [h1]; omega
  · by_cases h2 : b.p < a.p
    · simp [h1, h2]
    · have : a.p = b.p := by omega
      simp [this]
      by_cases h3 : a.q < b.q
      · simp [h3]; omega
      · simp [h3]
        split
        · simp; omega
        · simp; omega
theorem lessW_asym {a b : Wtr} (h : lessW a b = true) : lessW b a = false := by rw [lessW_iff] at h; rw [lessW_nf]; omega
theorem lessW_trans {a b c : Wtr} (h : lessW a b = true) (h' : lessW b c = true) : lessW a c = true := by rw [lessW_iff] at *; omega
theorem lessW_tot {a b : Wtr} (h : a.q ≠ b.q) : lessW a b = !(lessW b a) := by
  cases h1 : lessW b a
  · rw [lessW_nf] at h1; show _ = true; rw [lessW_iff]; omega
  · exact lessW_asym h1
/-- the pending slot that is the most, or the least, urgent one -/
def bstC (sl : List Slot) (most : Bool) (b : Int) (i : Nat) : Bool := decide ((sl.getD i default).s = 1) && (decide (b < 0) || (if most then lessW (wOf (sl.getD i default)) (wOf (sl.getD b.toNat default)) else lessW (wOf (sl.getD b.toNat default)) (wOf (sl.getD i default))))
def bstN (sl : List Slot) (most : Bool) : Nat → Int
  | 0 => -1
  | i + 1 => if bstC sl most (bstN sl most i) i then (i : Int) else bstN sl most i
theorem bstN_succ {sl : List Slot} {most : Bool} {i : Nat} : bstN sl most (i + 1) = if bstC sl most (bstN sl most i) i then (i : Int) else bstN sl most i := rfl
theorem bstN_t {sl : List Slot} {most : Bool} {i : Nat} (h : bstC sl most (bstN sl most i) i = true) : bstN sl most (i + 1) = (i : Int) := by rw [bstN_succ, if_pos h]
theorem bstN_f {sl : List Slot} {most : Bool} {i : Nat} (h : bstC sl most (bstN sl most i) i = false) : bstN sl most (i + 1) = bstN sl most i := by rw [bstN_succ, if_neg (by rw [h]; decide)]
theorem bstN_bd {sl : List Slot} {most : Bool} : ∀ i, -1 ≤ bstN sl most i ∧ bstN sl most i < i
  | 0 => by simp [bstN]
  | i + 1 => by
    have := @bstN_bd sl most i
    rw [bstN_succ]
    split <;> omega
theorem bstN_one {sl : List Slot} {most : Bool} : ∀ i, 0 ≤ bstN sl most i → (sl.getD (bstN sl most i).toNat default).s = 1
  | 0 => by simp [bstN]
  | i + 1 => by
    have ih := @bstN_one sl most i
    rw [bstN_succ]
    split
    · next h =>
      intro _
      simp only [bstC, Bool.and_eq_true, decide_eq_true_eq] at h
      simpa using h.1
    · exact ih
theorem bstN_neg {sl : List Slot} {most : Bool} : ∀ i, bstN sl most i < 0 ↔ ∀ j, j < i → (sl.getD j default).s ≠ 1
  | 0 => by simp [bstN]
  | i + 1 => by
    have ih := @bstN_neg sl most i
    rw [bstN_succ]
    constructor
    · intro h j hj
      split at h
      · omega
      · next hc =>
        have h' := ih.mp h
        by_cases e : j = i
        · subst e
          intro hs
          apply hc
          simp only [bstC, Bool.and_eq_true, decide_eq_true_eq, Bool.or_eq_true]
          exact ⟨hs, .inl h⟩
        · exact h' j (by omega)
    · intro h
      rw [if_neg]
      · exact ih.mpr fun j hj => h j (by omega)
      · simp only [bstC, Bool.and_eq_true, decide_eq_true_eq]
        exact fun g => h i (by omega) g.1
def bstS (sl : List Slot) (most : Bool) : Int := bstN sl most sl.length
/-- no two pending slots hold the same interrupt -/
def difS (sl : List Slot) : Prop := ∀ i j, i < j → j < sl.length → (sl.getD i default).s = 1 → (sl.getD j default).s = 1 → (sl.getD i default).q ≠ (sl.getD j default).q
theorem bst_imp {sl : List Slot} {most : Bool} {i : Nat} (hd : difS sl) (hi : i < sl.length) (h1 : (sl.getD i default).s = 1) (hb : 0 ≤ bstN sl most i) : (if most then lessW (wOf (sl.getD i default)) (wOf (sl.getD (bstN sl most i).toNat default)) else lessW (wOf (sl.getD (bstN sl most i).toNat default)) (wOf (sl.getD i default))) = (decide (urg (wOf (sl.getD i default)) (wOf (sl.getD (bstN sl most i).toNat default)) < 0) == most) := by
  have hbl := @bstN_bd sl most i
  have hne := hd (bstN sl most i).toNat i (by omega) hi (bstN_one i hb) h1
  have hne' : (wOf (sl.getD i default)).q ≠ (wOf (sl.getD (bstN sl most i).toNat default)).q := fun e => hne e.symm
  have e : decide (urg (wOf (sl.getD i default)) (wOf (sl.getD (bstN sl most i).toNat default)) < 0) = lessW (wOf (sl.getD i default)) (wOf (sl.getD (bstN sl most i).toNat default)) := by
    rw [Bool.eq_iff_iff, decide_eq_true_iff]; exact urg_neg
  rw [e]
  cases most
  · simp only [Bool.false_eq_true, if_false, beq_false]
    exact lessW_tot (Ne.symm hne')
  · simp
theorem okSl_iff {sl : List Slot} : okSl sl = true ↔ sl.length = 4 ∧ ∀ i, i < 4 → oneSl sl i = true := by
  simp only [okSl, Bool.and_eq_true, decide_eq_true_eq, allN_iff]
  constructor
  · rintro ⟨h1, h2⟩; exact ⟨h1, fun i hi => h2 i (by omega)⟩
  · rintro ⟨h1, h2⟩; exact ⟨h1, fun i hi => h2 i (by omega)⟩
theorem okS1_iff {x : Slot} : okS1 x = true ↔ (1 ≤ x.s ∧ x.s ≤ 3) ∧ (0 ≤ x.q ∧ x.q ≤ 7) ∧ 0 ≤ x.p ∧ x.p ≤ 15 := by simp only [okS1, Bool.and_eq_true, inside_t]
theorem fdP_iff {irq : Int} {x : Slot} : fdP irq x = true ↔ x.s ≠ 0 ∧ x.q = irq := by simp [fdP]
theorem anyN_iff {n : Nat} {f : Nat → Bool} : anyN n f = true ↔ ∃ i, i < n ∧ f i = true := by
  constructor
  · intro h
    simp only [anyN, Bool.not_eq_true', allN, List.all_eq_false, List.mem_range] at h
    obtain ⟨i, h1, h2⟩ := h
    exact ⟨i, h1, by simpa using h2⟩
  · rintro ⟨i, h1, h2⟩; exact anyN_t h2 h1
theorem anyN_nf {n : Nat} {f : Nat → Bool} : anyN n f = false ↔ ∀ i, i < n → f i = false := by
  constructor
  · intro h i hi
    cases hf : f i
    · rfl
    · rw [anyN_t hf hi] at h; cases h
  · exact fun h => anyN_f h (Nat.le_refl _)
/-- what valid slots are -/
structure SlF (sl : List Slot) : Prop where
  len : sl.length = 4
  z : ∀ i, i < 4 → (sl.getD i default).s = 0 → sl.getD i default = zSl
  ok : ∀ i, i < 4 → (sl.getD i default).s ≠ 0 → (1 ≤ (sl.getD i default).s ∧ (sl.getD i default).s ≤ 3) ∧ (0 ≤ (sl.getD i default).q ∧ (sl.getD i default).q ≤ 7) ∧ 0 ≤ (sl.getD i default).p ∧ (sl.getD i default).p ≤ 15
  dif : ∀ i j, i < j → j < 4 → (sl.getD i default).s ≠ 0 → (sl.getD j default).s ≠ 0 → (sl.getD i default).q ≠ (sl.getD j default).q
theorem slF {sl : List Slot} : okSl sl = true ↔ SlF sl := by
  rw [okSl_iff]
  constructor
  · rintro ⟨h1, h2⟩
    refine ⟨h1, fun i hi hz => ?_, fun i hi hz => ?_, fun i j hij hj hi0 hj0 => ?_⟩
    · have := h2 i hi; unfold oneSl at this; rw [if_pos hz] at this; exact of_decide_eq_true this
    · have := h2 i hi; unfold oneSl at this; rw [if_neg hz, Bool.and_eq_true] at this; exact okS1_iff.mp this.1
    · have := h2 j hj; unfold oneSl at this; rw [if_neg hj0, Bool.and_eq_true, Bool.not_eq_true', anyN_nf] at this
      have h3 := this.2 i hij
      intro e
      rw [fdP_iff.mpr ⟨hi0, e⟩] at h3
      cases h3
  · rintro ⟨h1, h2, h3, h4⟩
    refine ⟨h1, fun i hi => ?_⟩
    unfold oneSl
    split
    · next hz => exact decide_eq_true (h2 i hi hz)
    · next hz =>
      rw [Bool.and_eq_true, Bool.not_eq_true', anyN_nf]
      refine ⟨okS1_iff.mpr (h3 i hi hz), fun j hj => ?_⟩
      rw [← Bool.not_eq_true, fdP_iff]
      exact fun g => h4 j i hj hi g.1 hz g.2
theorem SlF.difS {sl : List Slot} (h : SlF sl) : difS sl := fun i j hij hj h1 h2 => h.dif i j hij (by rw [← h.len]; exact hj) (by omega) (by omega)
theorem fnd_cases {sl : List Slot} {irq : Int} : (fndS sl irq = -1 ∧ ∀ i, i < sl.length → fdP irq (sl.getD i default) = false) ∨ ∃ i : Nat, fndS sl irq = i ∧ i < sl.length ∧ (sl.getD i default).s ≠ 0 ∧ (sl.getD i default).q = irq := by
  by_cases h : fndS sl irq = -1
  · exact .inl ⟨h, idx_neg h⟩
  · obtain ⟨i, h1, h2, _, h4⟩ := idx_cases h
    exact .inr ⟨i, h1, h2, fdP_iff.mp h4⟩
theorem fre_cases {sl : List Slot} : (freS sl = -1 ∧ ∀ i, i < sl.length → (sl.getD i default).s ≠ 0) ∨ ∃ i : Nat, freS sl = i ∧ i < sl.length ∧ (sl.getD i default).s = 0 := by
  by_cases h : freS sl = -1
  · refine .inl ⟨h, fun i hi => ?_⟩
    have := idx_neg h i hi
    simpa [emP] using this
  · obtain ⟨i, h1, h2, _, h4⟩ := idx_cases h
    exact .inr ⟨i, h1, h2, of_decide_eq_true h4⟩
theorem fnd_self {sl : List Slot} {i : Nat} (hi : i < sl.length) (h0 : (sl.getD i default).s ≠ 0) : fndS sl (sl.getD i default).q = i ↔ anyN i (fun j => fdP (sl.getD i default).q (sl.getD j default)) = false := by
  constructor
  · intro h
    obtain ⟨k, h1, h2, h3, h4⟩ := idx_cases (show fndS sl (sl.getD i default).q ≠ -1 by omega)
    have hk : k = i := by
      have : (k : Int) = i := by rw [← h1]; exact h
      omega
    subst hk
    exact anyN_nf.mpr h3
  · intro h
    exact idx_some (anyN_nf.mp h) hi (fdP_iff.mpr ⟨h0, rfl⟩)
end Go.Rf

/- Slices that begin within their blocks; fields that are structs; answers that are arguments. -/
set_option linter.unusedVariables false
set_option linter.unusedSectionVars false
set_option linter.unusedSimpArgs false
namespace Go.Rf
open Go Go.RowKit
section
variable {P : Program} [Env P] {w0 : Base} {ops : Array Oper} {tb : List (Nat × TyI)} {o : Oper} {rest : List Oper} {T : List (Nat × AV)} {m m' : List (Nat × Option Row)} {nx nt d : Nat} {Q : Exit → St → Prop} {c : Code} {r : AV}
end
end Go.Rf
namespace Go.Rf
open Go Go.RowKit
/-! a function's name as a closure that has captured nothing -/
theorem ArgOK.fn {m : List (Nat × Option Row)} {nx : Nat} {av : AV} {f : FuncId} (h : ArgOK m nx av (.v (.func (.func f) #[] #[]))) : ArgOK m nx av (.fnc f []) := fun w0 ρ w y hC hy => by
  have := h w0 ρ w y hC hy
  simp only [RelV] at this ⊢
  exact ⟨[], this, by simp [RelVs]⟩
theorem ArgsOK.fn2 {T : List (Nat × AV)} {m : List (Nat × Option Row)} {nx : Nat} {xs : List Operand} {a : AV} {f : FuncId} (h : ArgsOK T m nx xs [a, .v (.func (.func f) #[] #[])]) : ArgsOK T m nx xs [a, .fnc f []] := by
  match xs, h with
  | x :: xs, ⟨av, _, _, e, h1, h2, h3⟩ =>
    cases e
    match xs, h3 with
    | y :: ys, ⟨av', _, _, e', g1, g2, g3⟩ =>
      cases e'
      exact ⟨av, _, _, rfl, h1, h2, av', _, _, rfl, g1, g2.fn, g3⟩
theorem ec3 {a b c d e f : Int} : eqCells [.int .i64 a, .int .i64 b, .int .i64 c] [.int .i64 d, .int .i64 e, .int .i64 f] = true ↔ a = d ∧ b = e ∧ c = f := by
  simp [eqCells, eqCell]
theorem ec2 {a b d e : Int} : eqCells [.int .i64 a, .int .i64 b] [.int .i64 d, .int .i64 e] = true ↔ a = d ∧ b = e := by
  simp [eqCells, eqCell]
theorem ec3f {a b c d e f : Int} (h : eqCells [.int .i64 a, .int .i64 b, .int .i64 c] [.int .i64 d, .int .i64 e, .int .i64 f] = false) : ¬ (a = d ∧ b = e ∧ c = f) := fun g => by rw [ec3.mpr g] at h; cases h
end Go.Rf
namespace Go.Rf
open Go Go.RowKit
/-! an argument's very value -/
theorem ArgOK.pin {m : List (Nat × Option Row)} {nx : Nat} {z : Value} {sz : Nat} {ys : List (List Value)} : ArgOK m nx (.pin z sz ys) (.pin z sz ys) := fun w0 ρ w y hC hy => by
  simp only [RelV] at hy ⊢
  exact ⟨hy.1, hy.2.later hC.below⟩
section
variable {w0 : Base} {T : List (Nat × AV)} {m : List (Nat × Option Row)} {nx nt : Nat}
end
end Go.Rf

/- The machine: what the walks of slots and queues need. -/
set_option linter.unusedVariables false
set_option linter.unusedSectionVars false
set_option linter.unusedSimpArgs false
namespace Go.Rf
open Go
def orI (l : List Int) : Int := if idxN (fun i => !decide (l.getD i default = 0)) l.length = -1 then 0 else l.getD (idxN (fun i => !decide (l.getD i default = 0)) l.length).toNat default
theorem orI_t {l : List Int} {i : Nat} (h : ∀ j, j < i → l.getD j default = 0) (hi : i < l.length) (h0 : ¬ l.getD i default = 0) : orI l = l.getD i default := by
  unfold orI
  rw [idx_some (i := i) (fun j hj => by simpa using h j hj) hi (by simpa using h0), if_neg (by omega)]
  rfl
theorem orI_f {l : List Int} {i : Nat} (h : ∀ j, j < i → l.getD j default = 0) (hi : l.length ≤ i) : orI l = 0 := by
  unfold orI
  rw [idx_none (i := i) (fun j hj => by simpa using h j hj) hi, if_pos rfl]
theorem orI_urg {a b : Wtr} : orI [cmpN a.p b.p, cmpN a.q b.q] = urg a b := by
  unfold urg
  by_cases h : cmpN a.p b.p = 0
  · rw [if_pos h]
    by_cases h2 : cmpN a.q b.q = 0
    · have e : orI [cmpN a.p b.p, cmpN a.q b.q] = 0 := orI_f (i := 2) (fun j hj => by
        match j, hj with
        | 0, _ => exact h
        | 1, _ => exact h2) (by simp)
      rw [e]; exact h2.symm
    · exact orI_t (i := 1) (fun j hj => by
        match j, hj with
        | 0, _ => exact h) (by simp) h2
  · rw [if_neg h]
    exact orI_t (i := 0) (fun j hj => by omega) (by simp) h
theorem idx_congr {n : Nat} {f g : Nat → Bool} (h : ∀ j, j < n → f j = g j) : idxN f n = idxN g n := by
  by_cases hg : idxN g n = -1
  · rw [hg]; exact idx_none (i := n) (fun j hj => by rw [h j hj]; exact idx_neg hg j hj) (Nat.le_refl _)
  · obtain ⟨i, h1, h2, h3, h4⟩ := idx_cases hg
    rw [h1]; exact idx_some (fun j hj => by rw [h j (by omega)]; exact h3 j hj) h2 (by rw [h i h2]; exact h4)
theorem take_getD {α : Type} [Inhabited α] {l : List α} {i j : Nat} (h : j < i) : (l.take i).getD j default = l.getD j default := by
  rw [List.getD_eq_getElem?_getD, List.getElem?_take, if_pos h, ← List.getD_eq_getElem?_getD]
theorem take_fnd {sl : List Slot} {i : Nat} {q : Int} (hi : i ≤ sl.length) : fndS (sl.take i) q = idxN (fun j => fdP q (sl.getD j default)) i := by
  unfold fndS
  have hl : (sl.take i).length = i := by rw [List.length_take]; omega
  rw [hl]
  exact idx_congr fun j hj => by rw [take_getD hj]
theorem idx_ge {f : Nat → Bool} {n : Nat} : 0 ≤ idxN f n ↔ anyN n f = true := by
  have := idx_any (f := f) (n := n)
  rw [← this]; simp
theorem idx_lt0 {f : Nat → Bool} {n : Nat} : idxN f n < 0 ↔ anyN n f = false := by
  have := idx_any (f := f) (n := n)
  rw [← this]; simp
theorem idx_bd {f : Nat → Bool} {n : Nat} : -1 ≤ idxN f n ∧ idxN f n < n ∨ (idxN f n = -1) := by
  by_cases h : idxN f n = -1
  · exact .inr h
  · obtain ⟨i, h1, h2, _⟩ := idx_cases h
    exact .inl (by omega)
theorem fnd_bd {sl : List Slot} {q : Int} : -1 ≤ fndS sl q ∧ fndS sl q < sl.length := by
  have := @idx_bd (fun i => fdP q (sl.getD i default)) sl.length
  unfold fndS
  omega
/-! one slot -/
section
variable {sl : List Slot} {i : Nat}
theorem one_z (h0 : (sl.getD i default).s = 0) (h : sl.getD i default = zSl) : oneSl sl i = true := by unfold oneSl; rw [if_pos h0]; exact decide_eq_true h
theorem one_zf (h0 : (sl.getD i default).s = 0) (h : ¬ sl.getD i default = zSl) : oneSl sl i = false := by unfold oneSl; rw [if_pos h0]; exact decide_eq_false h
theorem one_t (h0 : ¬ (sl.getD i default).s = 0) (h1 : okS1 (sl.getD i default) = true) (h2 : anyN i (fun j => fdP (sl.getD i default).q (sl.getD j default)) = false) : oneSl sl i = true := by unfold oneSl; rw [if_neg h0, h1, h2]; rfl
theorem one_f1 (h0 : ¬ (sl.getD i default).s = 0) (h1 : okS1 (sl.getD i default) = false) : oneSl sl i = false := by unfold oneSl; rw [if_neg h0, h1]; rfl
theorem one_f2 (h0 : ¬ (sl.getD i default).s = 0) (h2 : anyN i (fun j => fdP (sl.getD i default).q (sl.getD j default)) = true) : oneSl sl i = false := by unfold oneSl; rw [if_neg h0, h2, Bool.not_true, Bool.and_false]
theorem okSl_f (h : oneSl sl i = false) (hi : i < sl.length) : okSl sl = false := by unfold okSl; rw [allN_f h hi, Bool.and_false]
theorem okSl_l (h : sl.length ≠ 4) : okSl sl = false := by unfold okSl; rw [decide_eq_false h, Bool.false_and]
theorem okSl_t (hl : sl.length = 4) (h : ∀ j, j < i → oneSl sl j = true) (hi : 4 ≤ i) : okSl sl = true := okSl_iff.mpr ⟨hl, fun j hj => h j (by omega)⟩
theorem slot_eta {x : Slot} : x = zSl ↔ x.s = 0 ∧ x.q = 0 ∧ x.p = 0 := by cases x; simp [zSl]
theorem spec_bad (h1 : ¬ ((0 ≤ (sl.getD i default).s ∧ (sl.getD i default).s ≤ 3) ∧ (0 ≤ (sl.getD i default).q ∧ (sl.getD i default).q ≤ 7) ∧ 0 ≤ (sl.getD i default).p ∧ (sl.getD i default).p ≤ 15)) : oneSl sl i = false := by
  unfold oneSl
  split
  · next h0 =>
    refine decide_eq_false fun e => h1 ?_
    rw [e]; simp [zSl]
  · next h0 =>
    have : okS1 (sl.getD i default) = false := by rw [← Bool.not_eq_true, okS1_iff]; intro g; exact h1 ⟨by omega, g.2⟩
    rw [this]; rfl
theorem spec_ok (hi : i < sl.length) (h1 : (0 ≤ (sl.getD i default).s ∧ (sl.getD i default).s ≤ 3) ∧ (0 ≤ (sl.getD i default).q ∧ (sl.getD i default).q ≤ 7) ∧ 0 ≤ (sl.getD i default).p ∧ (sl.getD i default).p ≤ 15)
    (h2 : ¬ ((sl.getD i default).s = 0 ∧ ((sl.getD i default).q ≠ 0 ∨ (sl.getD i default).p ≠ 0))) (h3 : (sl.getD i default).s ≠ 0 → fndS sl (sl.getD i default).q = i) : oneSl sl i = true := by
  by_cases h0 : (sl.getD i default).s = 0
  · exact one_z h0 (slot_eta.mpr ⟨h0, by omega, by omega⟩)
  · exact one_t h0 (okS1_iff.mpr ⟨by omega, h1.2⟩) ((fnd_self hi h0).mp (h3 h0))
theorem spec_zf (h0 : (sl.getD i default).s = 0) (h : (sl.getD i default).q ≠ 0 ∨ (sl.getD i default).p ≠ 0) : oneSl sl i = false := one_zf h0 (fun e => by rw [e] at h; simp [zSl] at h)
theorem spec_ff (hi : i < sl.length) (h0 : (sl.getD i default).s ≠ 0) (h : fndS sl (sl.getD i default).q ≠ i) : oneSl sl i = false := one_f2 h0 (by
  rw [← Bool.not_eq_false]; exact fun g => h ((fnd_self hi h0).mpr g))
end
end Go.Rf
namespace Go.Rf
theorem okS1_a {x : Slot} (h : inside x.s 1 3 = false) : okS1 x = false := by simp only [okS1, h, Bool.false_and]
theorem okS1_b {x : Slot} (h : inside x.q 0 7 = false) : okS1 x = false := by simp only [okS1, h, Bool.false_and, Bool.and_false]
theorem okS1_c {x : Slot} (h : inside x.p 0 15 = false) : okS1 x = false := by simp only [okS1, h, Bool.and_false]
end Go.Rf
namespace Go.Rf
theorem okSl_fin {sl : List Slot} {i : Nat} (h : ∀ j, j < i → oneSl sl j = true) (hi : sl.length ≤ i) : ((sl.length : Int) == 4) = okSl sl := by
  by_cases hl : sl.length = 4
  · rw [okSl_t hl h (by omega)]; simp [hl]
  · rw [okSl_l hl]
    have : ¬ ((sl.length : Int) = 4) := by omega
    simp [this]
end Go.Rf
namespace Go.Rf
/-! the best pending slot: the program's way of comparing -/
section
variable {sl : List Slot} {most : Bool} {i : Nat}
theorem bstC_f1 {b : Int} (h : ¬ (sl.getD i default).s = 1) : bstC sl most b i = false := by simp only [bstC, decide_eq_false h, Bool.false_and]
theorem bstC_t1 {b : Int} (h : (sl.getD i default).s = 1) (hb : b < 0) : bstC sl most b i = true := by simp only [bstC, decide_eq_true h, decide_eq_true hb, Bool.true_or, Bool.true_and]
theorem bstC_2 (hd : difS sl) (hi : i < sl.length) (h : (sl.getD i default).s = 1) (hb : 0 ≤ bstN sl most i) : bstC sl most (bstN sl most i) i = (decide (urg (wOf (sl.getD i default)) (wOf (sl.getD (bstN sl most i).toNat default)) < 0) == most) := by
  rw [← bst_imp hd hi h hb]
  simp only [bstC, decide_eq_true h, decide_eq_false (show ¬ bstN sl most i < 0 by omega), Bool.false_or, Bool.true_and]
theorem bstC_s {b : Int} (h : (sl.getD i default).s = 1) (hb : ¬ b < 0) : bstC sl most b i = (if most then lessW (wOf (sl.getD i default)) (wOf (sl.getD b.toNat default)) else lessW (wOf (sl.getD b.toNat default)) (wOf (sl.getD i default))) := by
  simp only [bstC, decide_eq_true h, decide_eq_false hb, Bool.false_or, Bool.true_and]
end
/-! the waiting -/
/-- how many at the start are more urgent -/
def cntW (wa : List Wtr) (w : Wtr) : Nat := (wa.takeWhile (fun x => lessW x w)).length
theorem cntW_le {wa : List Wtr} {w : Wtr} : cntW wa w ≤ wa.length := (List.takeWhile_sublist _).length_le
def insW (wa : List Wtr) (w : Wtr) : List Wtr := wa.take (cntW wa w) ++ [w] ++ wa.drop (cntW wa w)
theorem insW_len {wa : List Wtr} {w : Wtr} : (insW wa w).length = wa.length + 1 := by
  have := @cntW_le wa w
  simp [insW]; omega
def inW (wa : List Wtr) (q : Int) : Int := idxN (fun j => decide ((wa.getD j default).q = q)) wa.length
theorem inW_bd {wa : List Wtr} {q : Int} : -1 ≤ inW wa q ∧ inW wa q < wa.length := by
  have := @idx_bd (fun j => decide ((wa.getD j default).q = q)) wa.length
  unfold inW
  omega
theorem take_inW {wa : List Wtr} {i : Nat} {q : Int} (hi : i ≤ wa.length) : inW (wa.take i) q = idxN (fun j => decide ((wa.getD j default).q = q)) i := by
  unfold inW
  have hl : (wa.take i).length = i := by rw [List.length_take]; omega
  rw [hl]
  exact idx_congr fun j hj => by rw [take_getD hj]
/-! settled -/
def setd (q : Que) : Bool := decide (q.wa.length = 0) || (decide (freS q.sl < 0) && (decide (bstS q.sl false < 0) || lessW (wOf (q.sl.getD (bstS q.sl false).toNat default)) (q.wa.getD 0 default)))
/-! the waiting of a queue -/
def oneWa (sl : List Slot) (wa : List Wtr) (i : Nat) : Bool := inside (wa.getD i default).q 0 7 && (inside (wa.getD i default).p 0 15 && (decide (fndS sl (wa.getD i default).q < 0) && (!(anyN i (fun j => decide ((wa.getD j default).q = (wa.getD i default).q))) && (decide (i = 0) || lessW (wa.getD (i - 1) default) (wa.getD i default)))))
def okWa (sl : List Slot) (wa : List Wtr) : Bool := allN wa.length (oneWa sl wa)
def okPa (q : Que) : Bool := okSl q.sl && okWa q.sl q.wa
def okQu (q : Que) : Bool := okPa q && setd q
theorem oneWa_iff {sl : List Slot} {wa : List Wtr} {i : Nat} : oneWa sl wa i = true ↔ (0 ≤ (wa.getD i default).q ∧ (wa.getD i default).q ≤ 7) ∧ (0 ≤ (wa.getD i default).p ∧ (wa.getD i default).p ≤ 15) ∧ fndS sl (wa.getD i default).q < 0 ∧ (∀ j, j < i → (wa.getD j default).q ≠ (wa.getD i default).q) ∧ (i = 0 ∨ lessW (wa.getD (i - 1) default) (wa.getD i default) = true) := by
  simp only [oneWa, Bool.and_eq_true, inside_t, decide_eq_true_eq, Bool.not_eq_true', anyN_nf, decide_eq_false_iff_not, Bool.or_eq_true, ne_eq]
theorem oneWa_f {sl : List Slot} {wa : List Wtr} {i : Nat} (h : ¬ ((0 ≤ (wa.getD i default).q ∧ (wa.getD i default).q ≤ 7) ∧ (0 ≤ (wa.getD i default).p ∧ (wa.getD i default).p ≤ 15) ∧ fndS sl (wa.getD i default).q < 0 ∧ (∀ j, j < i → (wa.getD j default).q ≠ (wa.getD i default).q) ∧ (i = 0 ∨ lessW (wa.getD (i - 1) default) (wa.getD i default) = true))) : oneWa sl wa i = false := by
  rw [← Bool.not_eq_true, oneWa_iff]; exact h
theorem okPa_s {q : Que} (h : okSl q.sl = false) : okPa q = false := by unfold okPa; rw [h, Bool.false_and]
theorem okPa_w {q : Que} {i : Nat} (h : oneWa q.sl q.wa i = false) (hi : i < q.wa.length) : okPa q = false := by unfold okPa okWa; rw [allN_f h hi, Bool.and_false]
theorem okPa_t {q : Que} {i : Nat} (h1 : okSl q.sl = true) (h : ∀ j, j < i → oneWa q.sl q.wa j = true) (hi : q.wa.length ≤ i) : okPa q = true := by unfold okPa okWa; rw [h1, allN_t h hi]; rfl
/-- at most eight wait -/
theorem pigeon : ∀ (n : Nat) (f : Nat → Int) (k : Nat), (∀ i, i < n → 0 ≤ f i ∧ f i < k) → (∀ i j, i < j → j < n → f i ≠ f j) → n ≤ k
  | n, f, 0, h, _ => by
    rcases Nat.eq_zero_or_pos n with h0 | h0
    · omega
    · have := h 0 h0; omega
  | n, f, k + 1, h, hd => by
    by_cases hx : ∃ i, i < n ∧ f i = k
    · obtain ⟨i, hi, hk⟩ := hx
      have := pigeon (n - 1) (fun j => if j < i then f j else f (j + 1)) k (fun j hj => by
        split
        · next hlt => have := h j (by omega); have := hd j i hlt hi; omega
        · next hge => have := h (j + 1) (by omega); have := hd i (j + 1) (by omega) (by omega); omega) (fun a b hab hb => by
        split
        · next h1 =>
          split
          · exact hd a b hab (by omega)
          · exact hd a (b + 1) (by omega) (by omega)
        · next h1 =>
          rw [if_neg (by omega)]
          exact hd (a + 1) (b + 1) (by omega) (by omega))
      omega
    · have := pigeon n f k (fun i hi => by
        have h1 := h i hi
        have h2 : f i ≠ k := fun e => hx ⟨i, hi, e⟩
        omega) hd
      omega
theorem okWa_le {sl : List Slot} {wa : List Wtr} {n : Nat} (h : ∀ j, j < n → oneWa sl wa j = true) : n ≤ 8 :=
  pigeon n (fun i => (wa.getD i default).q) 8 (fun i hi => by have := (oneWa_iff.mp (h i hi)).1; omega) (fun i j hij hj => (oneWa_iff.mp (h j hj)).2.2.2.1 i hij)
/-- the facts of a queue's parts -/
structure PaF (q : Que) : Prop where
  sl : SlF q.sl
  wn : q.wa.length ≤ 8
  wa : ∀ i, i < q.wa.length → oneWa q.sl q.wa i = true
theorem paF {q : Que} : okPa q = true ↔ PaF q := by
  unfold okPa okWa
  rw [Bool.and_eq_true, allN_iff]
  exact ⟨fun h => ⟨slF.mp h.1, okWa_le h.2, h.2⟩, fun h => ⟨slF.mpr h.sl, h.wa⟩⟩
end Go.Rf
namespace Go.Rf
theorem cut_rest {α : Type} {xs : List α} {f : α → List Value} {i : Nat} : ((xs.map f).drop ((i : Int)).toNat).take (((xs.map f).length : Int).toNat - ((i : Int)).toNat) = (xs.drop i).map f := by
  rw [Int.toNat_natCast, Int.toNat_natCast, List.take_of_length_le (by rw [List.length_drop]; exact Nat.le_refl _), List.map_drop]
theorem setd_0 {q : Que} (h : q.wa.length = 0) : setd q = true := by unfold setd; rw [decide_eq_true h, Bool.true_or]
theorem setd_f {q : Que} (h : ¬ q.wa.length = 0) (h2 : 0 ≤ freS q.sl) : setd q = false := by unfold setd; rw [decide_eq_false h, decide_eq_false (by omega)]; rfl
theorem setd_b {q : Que} (h2 : freS q.sl < 0) (h3 : bstS q.sl false < 0) : setd q = true := by unfold setd; rw [decide_eq_true h2, decide_eq_true h3]; simp
theorem setd_l {q : Que} (h : ¬ q.wa.length = 0) (h2 : freS q.sl < 0) (h3 : ¬ bstS q.sl false < 0) : setd q = lessW (wOf (q.sl.getD (bstS q.sl false).toNat default)) (q.wa.getD 0 default) := by unfold setd; rw [decide_eq_false h, decide_eq_true h2, decide_eq_false h3]; simp
theorem bstS_bd {sl : List Slot} {most : Bool} : -1 ≤ bstS sl most ∧ bstS sl most < sl.length := bstN_bd _
theorem bstS_at {sl : List Slot} {most : Bool} {i : Nat} (h : sl.length = i) : bstN sl most i = bstS sl most := by subst h; rfl
end Go.Rf
namespace Go.Rf
theorem okPa_fin {sl : List Slot} {wa : List Wtr} {i : Nat} (hs : okSl sl = true) (h : ∀ j, j < i → oneWa sl wa j = true) (hi : wa.length ≤ i ∨ 8 < i) (hn : i ≤ wa.length) : decide ((wa.length : Int) ≤ 8) = okPa ⟨sl, wa⟩ := by
  have h8 := okWa_le h
  rw [okPa_t (q := ⟨sl, wa⟩) hs h (show wa.length ≤ i by omega)]
  simp; omega
end Go.Rf

/- The machine: slots taken, put and ended; queues settled. -/
set_option linter.unusedVariables false
set_option linter.unusedSectionVars false
set_option linter.unusedSimpArgs false
namespace Go.Rf
open Go
/-! taken -/
def tkOK (sl : List Slot) (lim : Int) : Bool := decide (0 ≤ bstS sl true) && decide ((sl.getD (bstS sl true).toNat default).p < lim)
def tkS (sl : List Slot) : List Slot := sl.set (bstS sl true).toNat ⟨2, (sl.getD (bstS sl true).toNat default).q, (sl.getD (bstS sl true).toNat default).p⟩
def tkI (sl : List Slot) : Int := (sl.getD (bstS sl true).toNat default).q
section
variable {sl : List Slot} {lim irq p : Int}
theorem tkOK_iff : tkOK sl lim = true ↔ 0 ≤ bstS sl true ∧ (sl.getD (bstS sl true).toNat default).p < lim := by simp [tkOK]
/-! put where it is already -/
def ptS (sl : List Slot) (irq : Int) : List Slot := sl.set (fndS sl irq).toNat ⟨if (sl.getD (fndS sl irq).toNat default).s = 2 then 3 else (sl.getD (fndS sl irq).toNat default).s, (sl.getD (fndS sl irq).toNat default).q, (sl.getD (fndS sl irq).toNat default).p⟩
/-! ended -/
/-- it is active -/
def actP (x : Slot) : Bool := decide (x.s = 2) || decide (x.s = 3)
theorem actP_iff {x : Slot} : actP x = true ↔ x.s = 2 ∨ x.s = 3 := by simp [actP]
end
/-! one step of settling -/
def stK (q : Que) : Nat := if freS q.sl < 0 then (bstS q.sl false).toNat else (freS q.sl).toNat
def stW (q : Que) : List Wtr := if freS q.sl < 0 then insW (q.wa.drop 1) (wOf (q.sl.getD (bstS q.sl false).toNat default)) else q.wa.drop 1
def stQ (q : Que) : Que := ⟨q.sl.set (stK q) ⟨1, (q.wa.getD 0 default).q, (q.wa.getD 0 default).p⟩, stW q⟩
/-- how much is left to do -/
def wtS (x : Slot) : Nat := if x.s = 0 then 2000 else if x.s = 1 then (8 * x.p + x.q).toNat else 0
def phi (q : Que) : Nat := (q.sl.map wtS).sum
def setF : Nat → Que → Que
  | 0, q => q
  | n + 1, q => if setd q then q else setF n (stQ q)
def setl (q : Que) : Que := setF (phi q + 1) q
/-! what of a queue's parts settling relies on -/
def ltW (a b : Wtr) : Prop := lessW a b = true ∧ a.q ≠ b.q
structure QF (q : Que) : Prop where
  sl : SlF q.sl
  wn : q.wa.length ≤ 9
  wa : ∀ w ∈ q.wa, (0 ≤ w.q ∧ w.q ≤ 7) ∧ (0 ≤ w.p ∧ w.p ≤ 15) ∧ ∀ x ∈ q.sl, x.s ≠ 0 → x.q ≠ w.q
  pw : q.wa.Pairwise ltW
theorem mem_getD {α : Type} [Inhabited α] {l : List α} {x : α} : x ∈ l ↔ ∃ i, i < l.length ∧ l.getD i default = x := by
  constructor
  · intro h
    obtain ⟨i, hi, e⟩ := List.getElem_of_mem h
    exact ⟨i, hi, by rw [List.getD_eq_getElem?_getD, List.getElem?_eq_getElem hi]; exact e⟩
  · rintro ⟨i, hi, e⟩
    rw [List.getD_eq_getElem?_getD, List.getElem?_eq_getElem hi] at e
    rw [← e]; exact List.getElem_mem hi
theorem pw_getD {α : Type} [Inhabited α] {l : List α} {R : α → α → Prop} : l.Pairwise R ↔ ∀ i j, i < j → j < l.length → R (l.getD i default) (l.getD j default) := by
  rw [List.pairwise_iff_getElem]
  constructor
  · intro h i j hij hj
    have := h i j (by omega) hj hij
    rw [List.getD_eq_getElem?_getD, List.getD_eq_getElem?_getD, List.getElem?_eq_getElem (show i < l.length by omega), List.getElem?_eq_getElem hj]
    exact this
  · intro h i j hi hj hij
    have := h i j hij hj
    rw [List.getD_eq_getElem?_getD, List.getD_eq_getElem?_getD, List.getElem?_eq_getElem hi, List.getElem?_eq_getElem hj] at this
    exact this
theorem fnd_lt0 {sl : List Slot} {irq : Int} : fndS sl irq < 0 ↔ ∀ j, j < sl.length → ¬ ((sl.getD j default).s ≠ 0 ∧ (sl.getD j default).q = irq) := by
  unfold fndS
  rw [idx_lt0, anyN_nf]
  constructor
  · intro h j hj g; have := h j hj; rw [fdP_iff.mpr g] at this; cases this
  · intro h j hj; rw [← Bool.not_eq_true, fdP_iff]; exact h j hj
theorem fnd_lt0m {sl : List Slot} {irq : Int} : fndS sl irq < 0 ↔ ∀ x ∈ sl, x.s ≠ 0 → x.q ≠ irq := by
  rw [fnd_lt0]
  constructor
  · intro h x hx h0 h1
    obtain ⟨i, hi, rfl⟩ := mem_getD.mp hx
    exact h i hi ⟨h0, h1⟩
  · intro h j hj g
    exact h _ (mem_getD.mpr ⟨j, hj, rfl⟩) g.1 g.2
theorem PaF.q {q : Que} (h : PaF q) : QF q := by
  refine ⟨h.sl, Nat.le_succ_of_le h.wn, fun w hw => ?_, pw_getD.mpr ?_⟩
  · obtain ⟨i, hi, rfl⟩ := mem_getD.mp hw
    obtain ⟨h1, h2, h3, _⟩ := oneWa_iff.mp (h.wa i hi)
    exact ⟨h1, h2, fnd_lt0m.mp h3⟩
  · intro i j hij hj
    refine ⟨?_, (oneWa_iff.mp (h.wa j hj)).2.2.2.1 i hij⟩
    induction j with
    | zero => omega
    | succ j ih =>
      have hlast : lessW (q.wa.getD j default) (q.wa.getD (j + 1) default) = true := by
        rcases (oneWa_iff.mp (h.wa (j + 1) hj)).2.2.2.2 with g | g
        · omega
        · exact g
      by_cases e : i = j
      · subst e; exact hlast
      · exact lessW_trans (ih (by omega) (by omega)) hlast
theorem QF.pa {q : Que} (h : QF q) : PaF q := by
  have hp := pw_getD.mp h.pw
  have h8 : ∀ i, i < q.wa.length → oneWa q.sl q.wa i = true := fun i hi => by
    obtain ⟨h1, h2, h3⟩ := h.wa _ (mem_getD.mpr ⟨i, hi, rfl⟩)
    refine oneWa_iff.mpr ⟨h1, h2, fnd_lt0m.mpr h3, fun j hj => (hp j i hj hi).2, ?_⟩
    rcases Nat.eq_zero_or_pos i with g | g
    · exact .inl g
    · exact .inr (hp (i - 1) i (by omega) hi).1
  exact ⟨h.sl, okWa_le h8, h8⟩
theorem QF.wn8 {q : Que} (h : QF q) : q.wa.length ≤ 8 := h.pa.wn
/-! a slot that is written -/
theorem set_getD {α : Type} [Inhabited α] {l : List α} {i j : Nat} {x : α} (hi : i < l.length) : (l.set i x).getD j default = if i = j then x else l.getD j default := by
  rw [List.getD_eq_getElem?_getD, List.getElem?_set]
  by_cases e : i = j
  · subst e; simp [hi]
  · simp [e]
theorem SlF.set {sl : List Slot} (h : SlF sl) {k : Nat} {x : Slot} (hk : k < 4) (hx : (1 ≤ x.s ∧ x.s ≤ 3) ∧ (0 ≤ x.q ∧ x.q ≤ 7) ∧ 0 ≤ x.p ∧ x.p ≤ 15) (hq : ∀ j, j < 4 → j ≠ k → (sl.getD j default).s ≠ 0 → (sl.getD j default).q ≠ x.q) : SlF (sl.set k x) := by
  have hl : k < sl.length := by rw [h.len]; exact hk
  refine ⟨by rw [List.length_set]; exact h.len, fun i hi => ?_, fun i hi => ?_, fun i j hij hj => ?_⟩
  · rw [set_getD hl]; split
    · intro e; omega
    · exact h.z i hi
  · rw [set_getD hl]; split
    · intro _; exact hx
    · exact h.ok i hi
  · rw [set_getD hl, set_getD hl]
    by_cases e1 : k = i
    · rw [if_pos e1, if_neg (by omega)]
      intro _ h2 e; exact hq j hj (by omega) h2 e.symm
    · rw [if_neg e1]
      by_cases e2 : k = j
      · rw [if_pos e2]; intro h1 _; exact hq i (by omega) (by omega) h1
      · rw [if_neg e2]; exact h.dif i j hij hj
/-! a waiter put in its place -/
theorem take_tw {α : Type} {A B l : List α} (h : A ++ B = l) : l.take A.length = A ∧ l.drop A.length = B := by subst h; simp
theorem tw_mem {α : Type} {p : α → Bool} {x : α} : ∀ {l : List α}, x ∈ l.takeWhile p → p x = true
  | [], h => by simp at h
  | y :: l, h => by
    rw [List.takeWhile_cons] at h
    split at h
    · next hy =>
      rcases List.mem_cons.mp h with rfl | h
      · exact hy
      · exact tw_mem h
    · cases h
theorem insW_eq {wa : List Wtr} {w : Wtr} : insW wa w = wa.takeWhile (fun x => lessW x w) ++ [w] ++ wa.dropWhile (fun x => lessW x w) := by
  have h := List.takeWhile_append_dropWhile (p := fun x => lessW x w) (l := wa)
  unfold insW cntW
  obtain ⟨e1, e2⟩ := take_tw h
  rw [e1, e2]
theorem insW_mem {wa : List Wtr} {w x : Wtr} : x ∈ insW wa w ↔ x = w ∨ x ∈ wa := by
  have h := List.takeWhile_append_dropWhile (p := fun x => lessW x w) (l := wa)
  rw [insW_eq]
  have : x ∈ wa ↔ x ∈ wa.takeWhile (fun x => lessW x w) ∨ x ∈ wa.dropWhile (fun x => lessW x w) := by
    conv => lhs; rw [← h]
    exact List.mem_append
  simp only [List.mem_append, List.mem_singleton, this]
  constructor
  · rintro ((h | h) | h)
    · exact .inr (.inl h)
    · exact .inl h
    · exact .inr (.inr h)
  · rintro (h | h | h)
    · exact .inl (.inr h)
    · exact .inl (.inl h)
    · exact .inr h
theorem insW_pw {wa : List Wtr} {w : Wtr} (h : wa.Pairwise ltW) (hd : ∀ x ∈ wa, x.q ≠ w.q) : (insW wa w).Pairwise ltW := by
  rw [insW_eq]
  have hs := List.takeWhile_append_dropWhile (p := fun x => lessW x w) (l := wa)
  have hp : (wa.takeWhile (fun x => lessW x w) ++ wa.dropWhile (fun x => lessW x w)).Pairwise ltW := by rw [hs]; exact h
  obtain ⟨p1, p2, p3⟩ := List.pairwise_append.mp hp
  have t1 : ∀ x ∈ wa.takeWhile (fun x => lessW x w), ltW x w := fun x hx => by
    refine ⟨?_, hd x (by rw [← hs]; exact List.mem_append_left _ hx)⟩
    exact tw_mem (p := fun x => lessW x w) hx
  have t2 : ∀ x ∈ wa.dropWhile (fun x => lessW x w), ltW w x := by
    cases hdw : wa.dropWhile (fun x => lessW x w) with
    | nil => intro x hx; cases hx
    | cons y r =>
      have hy : lessW y w = false := by
        have := List.head?_dropWhile_not (fun x => lessW x w) wa
        rw [hdw] at this
        simpa using this
      have hyq : y.q ≠ w.q := hd y (by rw [← hs, hdw]; simp)
      have hwy : ltW w y := ⟨by rw [lessW_tot (Ne.symm hyq), hy]; rfl, Ne.symm hyq⟩
      rw [hdw] at p2
      intro x hx
      rcases List.mem_cons.mp hx with rfl | hx
      · exact hwy
      · have := (List.pairwise_cons.mp p2).1 x hx
        exact ⟨lessW_trans hwy.1 this.1, Ne.symm (hd x (by rw [← hs, hdw]; simp [hx]))⟩
  rw [List.append_assoc]
  refine List.pairwise_append.mpr ⟨p1, List.pairwise_append.mpr ⟨List.pairwise_singleton _ _, p2, fun a ha b hb => ?_⟩, fun a ha b hb => ?_⟩
  · rw [List.mem_singleton.mp ha]; exact t2 b hb
  · rcases List.mem_append.mp hb with hb | hb
    · rw [List.mem_singleton.mp hb]; exact t1 a ha
    · exact p3 a ha b hb
/-! settling comes to an end -/
theorem sum_set {α : Type} [Inhabited α] {f : α → Nat} {x : α} : ∀ {l : List α} {k : Nat}, k < l.length → ((l.set k x).map f).sum + f (l.getD k default) = (l.map f).sum + f x
  | [], k, h => by simp at h
  | y :: l, 0, _ => by simp; omega
  | y :: l, k + 1, h => by
    have := sum_set (f := f) (x := x) (l := l) (k := k) (by simpa using h)
    simp only [List.set_cons_succ, List.map_cons, List.sum_cons, List.getD_cons_succ]
    omega
theorem set_mem {α : Type} [Inhabited α] {l : List α} {k : Nat} {x y : α} (hk : k < l.length) (h : y ∈ l.set k x) : y = x ∨ ∃ j, j < l.length ∧ j ≠ k ∧ l.getD j default = y := by
  obtain ⟨j, hj, e⟩ := mem_getD.mp h
  rw [List.length_set] at hj
  rw [set_getD hk] at e
  by_cases hjk : k = j
  · rw [if_pos hjk] at e; exact .inl e.symm
  · rw [if_neg hjk] at e; exact .inr ⟨j, hj, Ne.symm hjk, e⟩
theorem best_slot {sl : List Slot} {most : Bool} (h : 0 ≤ bstS sl most) : ∃ k : Nat, bstS sl most = k ∧ k < sl.length ∧ (sl.getD k default).s = 1 := by
  have hb := @bstS_bd sl most
  refine ⟨(bstS sl most).toNat, by omega, by omega, bstN_one _ h⟩
structure NotSet (q : Que) (k : Nat) (w : Wtr) (r : List Wtr) : Prop where
  wa : q.wa = w :: r
  kn : stK q = k
  kl : k < 4
  st : (freS q.sl = k ∧ (q.sl.getD k default).s = 0 ∧ stW q = r) ∨ (freS q.sl < 0 ∧ bstS q.sl false = k ∧ (q.sl.getD k default).s = 1 ∧ lessW w (wOf (q.sl.getD k default)) = true ∧ stW q = insW r (wOf (q.sl.getD k default)))
theorem notSet {q : Que} (h : QF q) (hs : setd q = false) : ∃ k w r, NotSet q k w r := by
  have h0 : q.wa.length ≠ 0 := fun e => by rw [setd_0 e] at hs; cases hs
  obtain ⟨w, r, hw⟩ : ∃ w r, q.wa = w :: r := by
    cases hq : q.wa with
    | nil => rw [hq] at h0; exact absurd rfl h0
    | cons w r => exact ⟨w, r, rfl⟩
  rcases @fre_cases q.sl with ⟨f1, f2⟩ | ⟨i, f1, f2, f3⟩
  · have hb : 0 ≤ bstS q.sl false := by
      rcases Int.lt_or_le (bstS q.sl false) 0 with g | g
      · rw [setd_b (by omega) g] at hs; cases hs
      · exact g
    rw [setd_l h0 (by omega) (by omega)] at hs
    obtain ⟨k, hk, hkl, hk1⟩ := best_slot hb
    have hkn : (bstS q.sl false).toNat = k := by omega
    rw [hkn, hw] at hs
    have hs : lessW (wOf (q.sl.getD k default)) w = false := hs
    have hne : (wOf (q.sl.getD k default)).q ≠ w.q := (h.wa w (by rw [hw]; simp)).2.2 _ (mem_getD.mpr ⟨k, hkl, rfl⟩) (by omega)
    refine ⟨k, w, r, hw, by unfold stK; rw [if_pos (by omega), hkn], by rw [← h.sl.len]; exact hkl, .inr ⟨by omega, hk, hk1, ?_, ?_⟩⟩
    · rw [lessW_tot (Ne.symm hne), hs]; rfl
    · unfold stW; rw [if_pos (by omega), hkn, hw]; rfl
  · exact ⟨i, w, r, hw, by unfold stK; rw [if_neg (by omega), f1]; rfl, by rw [← h.sl.len]; exact f2, .inl ⟨f1, f3, by unfold stW; rw [if_neg (by omega), hw]; rfl⟩⟩
theorem NotSet.eq {q : Que} {k : Nat} {w : Wtr} {r : List Wtr} (n : NotSet q k w r) : stQ q = ⟨q.sl.set k ⟨1, w.q, w.p⟩, stW q⟩ := by
  unfold stQ; rw [n.kn, n.wa]; rfl
theorem stQ_F {q : Que} (h : QF q) (hs : setd q = false) : QF (stQ q) ∧ phi (stQ q) < phi q := by
  obtain ⟨k, w, r, n⟩ := notSet h hs
  rw [n.eq]
  have hl : k < q.sl.length := by rw [h.sl.len]; exact n.kl
  obtain ⟨hw1, hw2, hw3⟩ := h.wa w (by rw [n.wa]; simp)
  have hpw := h.pw
  rw [n.wa] at hpw
  obtain ⟨hp1, hp2⟩ := List.pairwise_cons.mp hpw
  have hrm : ∀ v ∈ r, v ∈ q.wa := fun v hv => by rw [n.wa]; simp [hv]
  have hsum := sum_set (f := wtS) (x := (⟨1, w.q, w.p⟩ : Slot)) hl
  have hwt : wtS ⟨1, w.q, w.p⟩ = (8 * w.p + w.q).toNat := rfl
  have hsl : SlF (q.sl.set k ⟨1, w.q, w.p⟩) := h.sl.set n.kl ⟨⟨by show (1 : Int) ≤ 1; omega, by show (1 : Int) ≤ 3; omega⟩, hw1, hw2⟩ (fun j hj hjk h0 => hw3 _ (mem_getD.mpr ⟨j, by rw [h.sl.len]; exact hj, rfl⟩) h0)
  rcases n.st with ⟨f1, f2, f3⟩ | ⟨f0, f1, f2, f3, f4⟩
  · rw [f3]
    refine ⟨⟨hsl, by have := h.wn; rw [n.wa] at this; simp at this; show r.length ≤ 9; omega, fun v hv => ?_, hp2⟩, ?_⟩
    · obtain ⟨g1, g2, g3⟩ := h.wa v (hrm v hv)
      refine ⟨g1, g2, fun x hx h0 => ?_⟩
      rcases set_mem hl hx with rfl | ⟨j, hj, _, rfl⟩
      · exact (hp1 v hv).2
      · exact g3 _ (mem_getD.mpr ⟨j, hj, rfl⟩) h0
    · have : wtS (q.sl.getD k default) = 2000 := by unfold wtS; rw [if_pos f2]
      show ((q.sl.set k ⟨1, w.q, w.p⟩).map wtS).sum < (q.sl.map wtS).sum
      omega
  · rw [f4]
    have hb := h.sl.ok k n.kl (by omega)
    refine ⟨⟨hsl, ?_, fun v hv => ?_, insW_pw hp2 fun x hx => ?_⟩, ?_⟩
    · have := h.wn; rw [n.wa] at this; simp at this
      show (insW r _).length ≤ 9
      rw [insW_len]; omega
    · rcases insW_mem.mp hv with rfl | hv
      · refine ⟨hb.2.1, hb.2.2, fun x hx h0 => ?_⟩
        rcases set_mem hl hx with rfl | ⟨j, hj, hjk, rfl⟩
        · exact fun e => hw3 _ (mem_getD.mpr ⟨k, hl, rfl⟩) (by omega) e.symm
        · intro e
          have h4 := h.sl.len
          rcases Nat.lt_or_ge j k with g | g
          · exact h.sl.dif j k g n.kl h0 (by omega) e
          · exact h.sl.dif k j (by omega) (by omega) (by omega) h0 e.symm
      · obtain ⟨g1, g2, g3⟩ := h.wa v (hrm v hv)
        refine ⟨g1, g2, fun x hx h0 => ?_⟩
        rcases set_mem hl hx with rfl | ⟨j, hj, _, rfl⟩
        · exact (hp1 v hv).2
        · exact g3 _ (mem_getD.mpr ⟨j, hj, rfl⟩) h0
    · exact fun e => (h.wa x (hrm x hx)).2.2 _ (mem_getD.mpr ⟨k, hl, rfl⟩) (by omega) e.symm
    · have : wtS (q.sl.getD k default) = (8 * (q.sl.getD k default).p + (q.sl.getD k default).q).toNat := by unfold wtS; rw [if_neg (by omega), if_pos f2]
      rw [lessW_iff] at f3
      have f3 : w.p < (q.sl.getD k default).p ∨ (w.p = (q.sl.getD k default).p ∧ w.q < (q.sl.getD k default).q) := f3
      show ((q.sl.set k ⟨1, w.q, w.p⟩).map wtS).sum < (q.sl.map wtS).sum
      omega
theorem setF_ok : ∀ {n : Nat} {q : Que}, QF q → phi q < n → QF (setF n q) ∧ setd (setF n q) = true
  | n + 1, q, h, h1 => by
    unfold setF
    cases hs : setd q
    · obtain ⟨g1, g2⟩ := stQ_F h hs
      simp only [Bool.false_eq_true, if_false]
      exact setF_ok g1 (by omega)
    · simp only [if_true]; exact ⟨h, hs⟩
theorem setl_ok {q : Que} (h : QF q) : QF (setl q) ∧ setd (setl q) = true := setF_ok h (Nat.lt_succ_self _)
theorem okQu_iff {q : Que} : okQu q = true ↔ QF q ∧ setd q = true := by
  unfold okQu
  rw [Bool.and_eq_true, paF]
  exact ⟨fun h => ⟨h.1.q, h.2⟩, fun h => ⟨h.1.pa, h.2⟩⟩
end Go.Rf

/- The machine: queues that are offered an interrupt, taken from, and in which one ends. -/
set_option linter.unusedVariables false
set_option linter.unusedSectionVars false
set_option linter.unusedSimpArgs false
namespace Go.Rf
open Go
/-! the active ones, as slots hold them -/
def actL (sl : List Slot) : List Wtr := (sl.filter actP).map wOf
theorem actL_set {sl : List Slot} : ∀ {k : Nat} {x : Slot}, k < sl.length → actP x = actP (sl.getD k default) → (actP x = true → wOf x = wOf (sl.getD k default)) → actL (sl.set k x) = actL sl := by
  unfold actL
  induction sl with
  | nil => intro k x hk; simp at hk
  | cons y sl ih =>
    intro k x hk h1 h2
    cases k with
    | zero =>
      simp only [List.set_cons_zero, List.filter_cons]
      have h1 : actP x = actP y := h1
      have h2 : actP x = true → wOf x = wOf y := h2
      rw [h1]
      cases hy : actP y
      · simp
      · rw [hy] at h1
        simp [h2 h1]
    | succ k =>
      have := ih (k := k) (x := x) (by simpa using hk) (by simpa using h1) (by simpa using h2)
      simp only [List.set_cons_succ, List.filter_cons]
      split
      · simp only [List.map_cons, this]
      · exact this
theorem actL_mem {sl : List Slot} {w : Wtr} : w ∈ actL sl ↔ ∃ x ∈ sl, actP x = true ∧ wOf x = w := by
  simp [actL, and_assoc]
/-! settling leaves the active ones alone -/
theorem stQ_act {q : Que} (h : QF q) (hs : setd q = false) : actL (stQ q).sl = actL q.sl := by
  obtain ⟨k, w, r, n⟩ := notSet h hs
  rw [n.eq]
  have hl : k < q.sl.length := by rw [h.sl.len]; exact n.kl
  refine actL_set hl ?_ (fun g => ?_)
  · have : actP (q.sl.getD k default) = false := by
      rcases n.st with ⟨_, f, _⟩ | ⟨_, _, f, _⟩ <;> rw [← Bool.not_eq_true, actP_iff] <;> omega
    rw [this]; rfl
  · cases g
theorem setF_act : ∀ {n : Nat} {q : Que}, QF q → actL (setF n q).sl = actL q.sl
  | 0, q, _ => rfl
  | n + 1, q, h => by
    unfold setF
    cases hs : setd q
    · simp only [Bool.false_eq_true, if_false]
      rw [setF_act (stQ_F h hs).1, stQ_act h hs]
    · rfl
theorem setl_act {q : Que} (h : QF q) : actL (setl q).sl = actL q.sl := setF_act h
/-! offered -/
def offQ (q : Que) (irq p : Int) : Que := if 0 ≤ fndS q.sl irq then ⟨ptS q.sl irq, q.wa⟩ else if 0 ≤ inW q.wa irq then q else ⟨q.sl, insW q.wa ⟨irq, p⟩⟩
def offr (q : Que) (irq p : Int) : Que := setl (offQ q irq p)
theorem fnd_at {sl : List Slot} {irq : Int} (h : 0 ≤ fndS sl irq) : ∃ k : Nat, fndS sl irq = k ∧ k < sl.length ∧ (sl.getD k default).s ≠ 0 ∧ (sl.getD k default).q = irq := by
  rcases @fnd_cases sl irq with ⟨g, _⟩ | g
  · omega
  · exact g
theorem SlF.upd {sl : List Slot} (h : SlF sl) {k : Nat} (hk : k < 4) {s' : Int} (h0 : (sl.getD k default).s ≠ 0) (hs : 1 ≤ s' ∧ s' ≤ 3) : SlF (sl.set k ⟨s', (sl.getD k default).q, (sl.getD k default).p⟩) := by
  refine h.set hk ⟨hs, (h.ok k hk h0).2⟩ (fun j hj hjk g => ?_)
  rcases Nat.lt_or_ge j k with e | e
  · exact h.dif j k e hk g h0
  · exact fun e' => h.dif k j (by omega) hj h0 g e'.symm
theorem QF.slUpd {q : Que} (h : QF q) {k : Nat} (hk : k < 4) {s' : Int} (h0 : (q.sl.getD k default).s ≠ 0) (hs : 1 ≤ s' ∧ s' ≤ 3) : QF ⟨q.sl.set k ⟨s', (q.sl.getD k default).q, (q.sl.getD k default).p⟩, q.wa⟩ := by
  refine ⟨h.sl.upd hk h0 hs, h.wn, fun w hw => ?_, h.pw⟩
  obtain ⟨g1, g2, g3⟩ := h.wa w hw
  refine ⟨g1, g2, fun x hx g => ?_⟩
  have hl : k < q.sl.length := by rw [h.sl.len]; exact hk
  rcases set_mem hl hx with rfl | ⟨j, hj, _, rfl⟩
  · exact g3 (q.sl.getD k default) (mem_getD.mpr ⟨k, hl, rfl⟩) h0
  · exact g3 _ (mem_getD.mpr ⟨j, hj, rfl⟩) g
theorem inW_lt0 {wa : List Wtr} {q : Int} : inW wa q < 0 ↔ ∀ w ∈ wa, w.q ≠ q := by
  unfold inW
  rw [idx_lt0, anyN_nf]
  constructor
  · intro h w hw
    obtain ⟨i, hi, rfl⟩ := mem_getD.mp hw
    exact of_decide_eq_false (h i hi)
  · intro h j hj
    exact decide_eq_false (h _ (mem_getD.mpr ⟨j, hj, rfl⟩))
theorem offQ_F {q : Que} {irq p : Int} (h : QF q) (hi : 0 ≤ irq ∧ irq ≤ 7) (hp : 0 ≤ p ∧ p ≤ 15) : QF (offQ q irq p) ∧ actL (offQ q irq p).sl = actL q.sl := by
  unfold offQ
  split
  · next h1 =>
    obtain ⟨k, e1, e2, e3, e4⟩ := fnd_at h1
    have hk : k < 4 := by rw [← h.sl.len]; exact e2
    unfold ptS
    rw [e1]
    simp only [Int.toNat_natCast]
    have hb := (h.sl.ok k hk e3).1
    refine ⟨h.slUpd hk e3 ?_, actL_set e2 ?_ (fun _ => rfl)⟩
    · split <;> omega
    · show actP ⟨if (q.sl.getD k default).s = 2 then 3 else (q.sl.getD k default).s, _, _⟩ = _
      by_cases e : (q.sl.getD k default).s = 2
      · rw [if_pos e, show actP (q.sl.getD k default) = true from actP_iff.mpr (.inl e)]; exact actP_iff.mpr (.inr rfl)
      · rw [if_neg e]
  split
  · exact ⟨h, rfl⟩
  · next h1 h2 =>
    have g1 := fnd_lt0m.mp (show fndS q.sl irq < 0 by omega)
    have g2 := inW_lt0.mp (show inW q.wa irq < 0 by omega)
    refine ⟨⟨h.sl, ?_, fun w hw => ?_, insW_pw h.pw g2⟩, rfl⟩
    · show (insW q.wa _).length ≤ 9
      rw [insW_len]; have := h.wn8; omega
    · rcases insW_mem.mp hw with rfl | hw
      · exact ⟨hi, hp, g1⟩
      · exact h.wa w hw
theorem offr_F {q : Que} {irq p : Int} (h : QF q) (hi : 0 ≤ irq ∧ irq ≤ 7) (hp : 0 ≤ p ∧ p ≤ 15) : QF (offr q irq p) ∧ setd (offr q irq p) = true ∧ actL (offr q irq p).sl = actL q.sl := by
  obtain ⟨h1, h2⟩ := offQ_F h hi hp
  obtain ⟨h3, h4⟩ := setl_ok h1
  exact ⟨h3, h4, by unfold offr; rw [setl_act h1, h2]⟩
/-! taken -/
def takQ (q : Que) : Que := ⟨tkS q.sl, q.wa⟩
/-! ended -/
theorem stQ_fre {q : Que} (h : 0 ≤ freS q.sl) : stQ q = ⟨q.sl.set (freS q.sl).toNat ⟨1, (q.wa.getD 0 default).q, (q.wa.getD 0 default).p⟩, q.wa.drop 1⟩ := by
  unfold stQ stK stW
  rw [if_neg (by omega), if_neg (by omega)]
end Go.Rf
namespace Go.Rf
end Go.Rf

/- The abstract machine: running steps. -/
set_option linter.unusedVariables false
set_option linter.unusedSectionVars false
set_option linter.unusedSimpArgs false
namespace Go.Rf
open Go
section
variable {rs : List Route} {a : Abs} {ss : List MStep}
end
end Go.Rf
namespace Go.Rf
end Go.Rf

/- The machine: interfaces and machines, their cells, equality, marks. -/
set_option linter.unusedVariables false
set_option linter.unusedSectionVars false
set_option linter.unusedSimpArgs false
namespace Go.Rf
open Go
def encIf (eS eW : Nat) (x : Ifc) : List CI := [.v (.int .i64 x.ma), .l 3 1 (x.st.map encI), .l eS 3 (x.qu.sl.map encSl), .l eW 2 (x.qu.wa.map encWa)]
def eqQu (x y : Que) : Bool := decide (x.sl = y.sl) && decide (x.wa = y.wa)
theorem eqQu_iff {x y : Que} : eqQu x y = true ↔ x = y := by cases x; cases y; simp [eqQu]
def eqIf (x y : Ifc) : Bool := decide (x.ma = y.ma) && (decide (x.st = y.st) && eqQu x.qu y.qu)
theorem eqIf_iff {x y : Ifc} : eqIf x y = true ↔ x = y := by cases x; cases y; simp [eqIf, eqQu_iff]
def eqMa (x y : Mach) : Bool := decide (x.rs = y.rs) && (decide (x.en = y.en) && (decide (x.ra = y.ra) && decide (x.cp = y.cp)))
theorem eqMa_iff {x y : Mach} : eqMa x y = true ↔ x = y := by cases x; cases y; simp [eqMa]
/-! bounds -/
structure BigI (x : Ifc) : Prop where
  st : x.st.length ≤ 9223372036854775807
  sl : x.qu.sl.length ≤ 9223372036854775807
  wa : x.qu.wa.length ≤ 9223372036854775807
structure BigM (m : Mach) : Prop where
  rs : m.rs.length ≤ 9223372036854775807
  en : m.en.length ≤ 9223372036854775807
  ra : m.ra.length ≤ 9223372036854775807
  cp : m.cp.length ≤ 9223372036854775807
  all : ∀ i, i < m.cp.length → BigI (m.cp.getD i default)
def szI (x : Ifc) : Int := x.st.length + x.qu.sl.length + x.qu.wa.length
def sumI (xs : List Ifc) : Nat → Int
  | 0 => 0
  | i + 1 => sumI xs i + szI (xs.getD i default)
theorem sumI_succ {xs : List Ifc} {i : Nat} : sumI xs (i + 1) = sumI xs i + szI (xs.getD i default) := rfl
theorem szI_nn {x : Ifc} : 0 ≤ szI x := by unfold szI; omega
theorem sumI_nn {xs : List Ifc} : ∀ i, 0 ≤ sumI xs i
  | 0 => Int.le_refl _
  | i + 1 => by have := @sumI_nn xs i; have := @szI_nn (xs.getD i default); rw [sumI_succ]; omega
theorem sumI_mono {xs : List Ifc} {i j : Nat} (h : i ≤ j) : sumI xs i ≤ sumI xs j := by
  induction h with
  | refl => exact Int.le_refl _
  | step _ ih => rename_i m _; have := @szI_nn (xs.getD m default); rw [sumI_succ]; omega
theorem sumI_get {xs : List Ifc} {i n : Nat} (h : i < n) : szI (xs.getD i default) ≤ sumI xs n := by
  have h1 := sumI_mono (xs := xs) (show i + 1 ≤ n from h)
  have h2 := @sumI_nn xs i
  rw [sumI_succ] at h1
  omega
/-- small machines -/
structure SmallM (m : Mach) : Prop where
  rs : m.rs.length ≤ 1048576
  en : m.en.length ≤ 1048576
  ra : m.ra.length ≤ 1048576
  cp : m.cp.length ≤ 1048576
  sum : sumI m.cp m.cp.length ≤ 1048576
theorem SmallM.allI {m : Mach} (h : SmallM m) {i : Nat} (hi : i < m.cp.length) : szI (m.cp.getD i default) ≤ 1048576 := by
  have := sumI_get (xs := m.cp) hi
  have := h.sum
  omega
/-! marks -/
section
variable {k : Int} {xs : List Ifc} {eS eW : Nat}
end
/-! a new machine -/
end Go.Rf

/- The machine: interfaces that are raised and taken from; the machine of an abstract. -/
set_option linter.unusedVariables false
set_option linter.unusedSectionVars false
set_option linter.unusedSimpArgs false
namespace Go.Rf
open Go
def lvl (sl : List Slot) (q : Int) : Int := (sl.getD (fndS sl q).toNat default).p
def runP (x : Ifc) : Int := if x.st.length = 0 then 16 else lvl x.qu.sl (x.st.getD (x.st.length - 1) default)
def raiI (x : Ifc) (q p : Int) : Ifc := ⟨x.ma, x.st, offr x.qu q p⟩
def takI (x : Ifc) : Ifc := ⟨x.ma, x.st ++ [tkI x.qu.sl], takQ x.qu⟩
structure IfF (x : Ifc) : Prop where
  qu : QF x.qu
  sn : x.st.length ≤ 4
  st : ∀ q ∈ x.st, ∃ w ∈ actL x.qu.sl, w.q = q
theorem act_fnd {sl : List Slot} {q : Int} (h : ∃ w ∈ actL sl, w.q = q) : 0 ≤ fndS sl q := by
  obtain ⟨w, hw, e⟩ := h
  obtain ⟨x, h1, h2, rfl⟩ := actL_mem.mp hw
  rcases Int.lt_or_le (fndS sl q) 0 with g | g
  · refine absurd e (fnd_lt0m.mp g x h1 ?_)
    rcases actP_iff.mp h2 with g | g <;> omega
  · exact g
theorem raiI_F {x : Ifc} {q p : Int} (h : IfF x) (hq : 0 ≤ q ∧ q ≤ 7) (hp : 0 ≤ p ∧ p ≤ 15) : IfF (raiI x q p) := by
  obtain ⟨h1, h2, h3⟩ := offr_F h.qu hq hp
  exact ⟨h1, h.sn, fun y hy => by show ∃ w ∈ actL (offr x.qu q p).sl, w.q = y; rw [h3]; exact h.st y hy⟩
/-! the stack of an abstract, made active one by one -/
def stkS (rs : List Route) (l : List Int) : List Slot := (l.map fun q => ⟨2, q, prI rs q⟩) ++ List.replicate (4 - l.length) zSl
def stkI (rs : List Route) (l : List Int) : Ifc := ⟨16, l, ⟨stkS rs l, []⟩⟩
/-- with one more, pending -/
def stkP (rs : List Route) (l : List Int) (q : Int) : List Slot := (l.map fun q => ⟨2, q, prI rs q⟩) ++ (⟨1, q, prI rs q⟩ :: List.replicate (3 - l.length) zSl)
section
variable {rs : List Route} {l : List Int} {q : Int}
theorem getD_app1 {α : Type} [Inhabited α] {a b : List α} {j : Nat} (h : j < a.length) : (a ++ b).getD j default = a.getD j default := by
  rw [List.getD_eq_getElem?_getD, List.getElem?_append_left h, ← List.getD_eq_getElem?_getD]
theorem getD_app2 {α : Type} [Inhabited α] {a b : List α} {j : Nat} (h : a.length ≤ j) : (a ++ b).getD j default = b.getD (j - a.length) default := by
  rw [List.getD_eq_getElem?_getD, List.getElem?_append_right h, ← List.getD_eq_getElem?_getD]
theorem getD_map1 {α β : Type} [Inhabited α] [Inhabited β] {f : α → β} {a : List α} {j : Nat} (h : j < a.length) : (a.map f).getD j default = f (a.getD j default) := by
  rw [List.getD_eq_getElem?_getD, List.getElem?_map, List.getElem?_eq_getElem h, List.getD_eq_getElem?_getD, List.getElem?_eq_getElem h]
  rfl
theorem getD_rep {α : Type} [Inhabited α] {x : α} {n j : Nat} (h : j < n) : (List.replicate n x).getD j default = x := by
  rw [List.getD_eq_getElem?_getD, List.getElem?_replicate, if_pos h]
  rfl
theorem stkS_len (h : l.length ≤ 4) : (stkS rs l).length = 4 := by unfold stkS; simp; omega
theorem stkP_len (h : l.length < 4) : (stkP rs l q).length = 4 := by unfold stkP; simp; omega
theorem stkS_lo {j : Nat} (h : j < l.length) : (stkS rs l).getD j default = ⟨2, l.getD j default, prI rs (l.getD j default)⟩ := by
  unfold stkS
  rw [getD_app1 (by simpa using h), getD_map1 h]
theorem stkS_hi {j : Nat} (h : l.length ≤ j) (h4 : j < 4) : (stkS rs l).getD j default = zSl := by
  unfold stkS
  rw [getD_app2 (by simpa using h), getD_rep (by simp; omega)]
theorem stkP_lo {j : Nat} (h : j < l.length) : (stkP rs l q).getD j default = ⟨2, l.getD j default, prI rs (l.getD j default)⟩ := by
  unfold stkP
  rw [getD_app1 (by simpa using h), getD_map1 h]
theorem stkP_at : (stkP rs l q).getD l.length default = ⟨1, q, prI rs q⟩ := by
  unfold stkP
  rw [getD_app2 (by simp)]
  simp
theorem stkP_hi {j : Nat} (h : l.length < j) (h4 : j < 4) : (stkP rs l q).getD j default = zSl := by
  unfold stkP
  rw [getD_app2 (by simp; omega), List.length_map]
  obtain ⟨k, e⟩ : ∃ k, j - l.length = k + 1 := ⟨j - l.length - 1, by omega⟩
  rw [e, List.getD_cons_succ, getD_rep (by omega)]
theorem set_app {α : Type} {a b : List α} {x : α} : (a ++ b).set a.length x = a ++ b.set 0 x := by
  rw [List.set_append_right _ _ (Nat.le_refl _), Nat.sub_self]
theorem stkS_set (h : l.length < 4) : (stkS rs l).set l.length ⟨1, q, prI rs q⟩ = stkP rs l q := by
  unfold stkS stkP
  have e := @set_app _ (l.map fun q => (⟨2, q, prI rs q⟩ : Slot)) (List.replicate (4 - l.length) zSl) ⟨1, q, prI rs q⟩
  rw [List.length_map] at e
  rw [e, show 4 - l.length = (3 - l.length) + 1 by omega, List.replicate_succ, List.set_cons_zero]
theorem stkP_set (h : l.length < 4) : (stkP rs l q).set l.length ⟨2, q, prI rs q⟩ = stkS rs (l ++ [q]) := by
  unfold stkS stkP
  have e := @set_app _ (l.map fun q => (⟨2, q, prI rs q⟩ : Slot)) (⟨1, q, prI rs q⟩ :: List.replicate (3 - l.length) zSl) ⟨2, q, prI rs q⟩
  rw [List.length_map] at e
  rw [e, List.set_cons_zero, List.map_append, List.length_append, List.append_assoc]
  simp only [List.map_cons, List.map_nil, List.length_cons, List.length_nil, List.cons_append, List.nil_append]
  rw [show 4 - (l.length + (0 + 1)) = 3 - l.length by omega]
theorem stkS_fre (h : l.length < 4) : freS (stkS rs l) = l.length := by
  unfold freS
  refine idx_some (fun j hj => ?_) (by rw [stkS_len (by omega)]; exact h) ?_
  · rw [stkS_lo hj]; rfl
  · rw [stkS_hi (Nat.le_refl _) h]; rfl
theorem stkS_fnd (h : l.length ≤ 4) (hq : ∀ j, j < l.length → l.getD j default ≠ q) : fndS (stkS rs l) q = -1 := by
  unfold fndS
  refine idx_none (i := 4) (fun j hj => ?_) (by rw [stkS_len h]; exact Nat.le_refl _)
  rw [← Bool.not_eq_true, fdP_iff]
  rcases Nat.lt_or_ge j l.length with g | g
  · rw [stkS_lo g]; exact fun e => hq j g e.2
  · rw [stkS_hi g hj]; exact fun e => e.1 rfl
theorem stkP_fnd {j : Nat} (h : l.length < 4) (hj : j < l.length) (hd : ∀ i, i < j → l.getD i default ≠ l.getD j default) : fndS (stkP rs l q) (l.getD j default) = j := by
  unfold fndS
  refine idx_some (fun i hi => ?_) (by rw [stkP_len h]; omega) ?_
  · rw [← Bool.not_eq_true, fdP_iff, stkP_lo (by omega)]
    exact fun e => hd i hi e.2
  · rw [stkP_lo hj, fdP_iff]
    exact ⟨by show (2 : Int) ≠ 0; decide, rfl⟩
theorem stkP_bst (h : l.length < 4) : bstS (stkP rs l q) true = l.length := by
  have hl : (stkP rs l q).length = 4 := stkP_len h
  have hneg : ¬ bstN (stkP rs l q) true 4 < 0 := by
    rw [bstN_neg]
    intro g
    have := g l.length h
    rw [stkP_at] at this
    exact this rfl
  have hb := @bstN_bd (stkP rs l q) true 4
  have h1 := bstN_one (sl := stkP rs l q) (most := true) 4 (by omega)
  unfold bstS
  rw [hl]
  rcases Nat.lt_trichotomy (bstN (stkP rs l q) true 4).toNat l.length with g | g | g
  · rw [stkP_lo g] at h1; exact absurd h1 (by show ¬ (2 : Int) = 1; decide)
  · omega
  · rw [stkP_hi g (by omega)] at h1; exact absurd h1 (by show ¬ (0 : Int) = 1; decide)
theorem sum_mem {α : Type} {f : α → Nat} {x : α} : ∀ {l : List α}, x ∈ l → f x ≤ (l.map f).sum
  | y :: l, h => by
    rw [List.map_cons, List.sum_cons]
    rcases List.mem_cons.mp h with rfl | h
    · omega
    · have := sum_mem (f := f) h; omega
theorem stk_raise (h : l.length < 4) (hq : ∀ j, j < l.length → l.getD j default ≠ q) : raiI (stkI rs l) q (prI rs q) = ⟨16, l, ⟨stkP rs l q, []⟩⟩ := by
  have h1 : offQ (stkI rs l).qu q (prI rs q) = ⟨stkS rs l, [⟨q, prI rs q⟩]⟩ := by
    unfold offQ
    rw [if_neg (by show ¬ 0 ≤ fndS (stkS rs l) q; rw [stkS_fnd (by omega) hq]; decide), if_neg (by have := @inW_bd ([] : List Wtr) q; show ¬ 0 ≤ inW [] q; simp at this; omega)]
    rfl
  have h2 : setd ⟨stkS rs l, [⟨q, prI rs q⟩]⟩ = false := setd_f (by show ¬ 1 = 0; decide) (by show 0 ≤ freS (stkS rs l); rw [stkS_fre h]; omega)
  have h3 : stQ ⟨stkS rs l, [⟨q, prI rs q⟩]⟩ = ⟨stkP rs l q, []⟩ := by
    rw [stQ_fre (by show 0 ≤ freS (stkS rs l); rw [stkS_fre h]; omega)]
    show (⟨(stkS rs l).set (freS (stkS rs l)).toNat ⟨1, q, prI rs q⟩, []⟩ : Que) = _
    rw [stkS_fre h, Int.toNat_natCast, stkS_set h]
  have h4 : setl ⟨stkS rs l, [⟨q, prI rs q⟩]⟩ = ⟨stkP rs l q, []⟩ := by
    unfold setl
    have hp : 0 < phi ⟨stkS rs l, [⟨q, prI rs q⟩]⟩ := by
      have hm : zSl ∈ stkS rs l := mem_getD.mpr ⟨l.length, by rw [stkS_len (by omega)]; exact h, stkS_hi (Nat.le_refl _) h⟩
      have : wtS zSl ≤ ((stkS rs l).map wtS).sum := sum_mem hm
      have e : wtS zSl = 2000 := rfl
      show 0 < ((stkS rs l).map wtS).sum
      omega
    obtain ⟨n, hn⟩ : ∃ n, phi ⟨stkS rs l, [⟨q, prI rs q⟩]⟩ = n + 1 := ⟨_, (Nat.sub_add_cancel hp).symm⟩
    rw [hn]
    unfold setF
    rw [h2]
    simp only [Bool.false_eq_true, if_false]
    rw [h3]
    unfold setF
    rw [setd_0 (by rfl)]
    rfl
  unfold raiI offr
  rw [h1, h4]
  rfl
theorem stk_run (h : l.length < 4) (hd : ∀ i j, i < j → j < l.length → l.getD i default ≠ l.getD j default) : runP ⟨16, l, ⟨stkP rs l q, []⟩⟩ = if l.length = 0 then 16 else prI rs (l.getD (l.length - 1) default) := by
  unfold runP
  show (if l.length = 0 then 16 else lvl (stkP rs l q) (l.getD (l.length - 1) default)) = _
  split
  · rfl
  · next h0 =>
    unfold lvl
    rw [stkP_fnd h (show l.length - 1 < l.length by omega) (fun i hi => hd i _ hi (by omega)), Int.toNat_natCast, stkP_lo (by omega)]
theorem stk_take (h : l.length < 4) : takI ⟨16, l, ⟨stkP rs l q, []⟩⟩ = stkI rs (l ++ [q]) := by
  unfold takI stkI takQ tkS tkI
  show (⟨16, l ++ [((stkP rs l q).getD (bstS (stkP rs l q) true).toNat default).q], ⟨(stkP rs l q).set (bstS (stkP rs l q) true).toNat ⟨2, ((stkP rs l q).getD (bstS (stkP rs l q) true).toNat default).q, ((stkP rs l q).getD (bstS (stkP rs l q) true).toNat default).p⟩, []⟩⟩ : Ifc) = _
  rw [stkP_bst h, Int.toNat_natCast, stkP_at]
  show (⟨16, l ++ [q], ⟨(stkP rs l q).set l.length ⟨2, q, prI rs q⟩, []⟩⟩ : Ifc) = _
  rw [stkP_set h]
theorem stkI_F (h : l.length ≤ 4) (hr : ∀ j, j < l.length → (0 ≤ l.getD j default ∧ l.getD j default ≤ 7) ∧ 0 ≤ prI rs (l.getD j default) ∧ prI rs (l.getD j default) ≤ 15) (hd : ∀ i j, i < j → j < l.length → l.getD i default ≠ l.getD j default) : IfF (stkI rs l) := by
  have key : ∀ i, i < 4 → ((stkS rs l).getD i default).s ≠ 0 → i < l.length := fun i hi h0 => by
    rcases Nat.lt_or_ge i l.length with g | g
    · exact g
    · rw [stkS_hi g hi] at h0; exact absurd rfl h0
  refine ⟨⟨⟨stkS_len h, fun i hi h0 => ?_, fun i hi h0 => ?_, fun i j hij hj h1 h2 => ?_⟩, Nat.zero_le _, fun w hw => (by cases hw), List.Pairwise.nil⟩, h, fun q hq => ?_⟩
  · show (stkS rs l).getD i default = zSl
    have h0 : ((stkS rs l).getD i default).s = 0 := h0
    rcases Nat.lt_or_ge i l.length with g | g
    · rw [stkS_lo g] at h0; exact absurd h0 (by show ¬ (2 : Int) = 0; decide)
    · exact stkS_hi g hi
  · have g := key i hi h0
    have e : (stkI rs l).qu.sl.getD i default = ⟨2, l.getD i default, prI rs (l.getD i default)⟩ := stkS_lo g
    rw [e]
    exact ⟨⟨by show (1 : Int) ≤ 2; decide, by show (2 : Int) ≤ 3; decide⟩, hr i g⟩
  · have g1 := key i (by omega) h1
    have g2 := key j hj h2
    show ((stkS rs l).getD i default).q ≠ ((stkS rs l).getD j default).q
    rw [stkS_lo g1, stkS_lo g2]
    exact hd i j hij g2
  · obtain ⟨i, hi, rfl⟩ := mem_getD.mp hq
    have hi : i < l.length := hi
    refine ⟨⟨l.getD i default, prI rs (l.getD i default)⟩, actL_mem.mpr ⟨⟨2, l.getD i default, prI rs (l.getD i default)⟩, mem_getD.mpr ⟨i, by show i < (stkS rs l).length; rw [stkS_len h]; omega, stkS_lo hi⟩, rfl, rfl⟩, rfl⟩
end
/-! what is posted, made pending one by one -/
section
variable {rs : List Route} {po : List Bool} {k : Nat} {x : Ifc}
end
/-- what of a valid abstract is needed for its stacks -/
structure StkF (rs : List Route) (l : List Int) : Prop where
  n : l.length ≤ 4
  el : ∀ j, j < l.length → (0 ≤ l.getD j default ∧ l.getD j default ≤ 7) ∧ 0 ≤ prI rs (l.getD j default) ∧ prI rs (l.getD j default) ≤ 15
  dn : ∀ j, 0 < j → j < l.length → prI rs (l.getD j default) < prI rs (l.getD (j - 1) default)
theorem StkF.lt {rs : List Route} {l : List Int} (h : StkF rs l) {i : Nat} : ∀ {j : Nat}, i < j → j < l.length → prI rs (l.getD j default) < prI rs (l.getD i default)
  | j + 1, hij, hj => by
    have := h.dn (j + 1) (by omega) hj
    by_cases e : i = j
    · subst e; exact this
    · have := StkF.lt h (show i < j by omega) (by omega)
      simp only [Nat.add_sub_cancel] at *
      omega
theorem StkF.dif {rs : List Route} {l : List Int} (h : StkF rs l) {i j : Nat} (hij : i < j) (hj : j < l.length) : l.getD i default ≠ l.getD j default := fun e => by
  have := h.lt hij hj
  rw [e] at this
  omega
theorem StkF.take {rs : List Route} {l : List Int} (h : StkF rs l) {n : Nat} (hn : n ≤ l.length) : IfF (stkI rs (l.take n)) := by
  have hl : (l.take n).length = n := by rw [List.length_take]; omega
  have hg : ∀ j, j < n → (l.take n).getD j default = l.getD j default := fun j hj => take_getD hj
  refine stkI_F (by rw [hl]; have := h.n; omega) (fun j hj => ?_) (fun i j hij hj => ?_)
  · rw [hg j (by omega)]; exact h.el j (by omega)
  · rw [hg i (by omega), hg j (by omega)]; exact h.dif hij (by omega)
/-- one of the stack is raised and taken -/
theorem StkF.step {rs : List Route} {l : List Int} (h : StkF rs l) {i : Nat} (hi : i < l.length) :
    IfF (raiI (stkI rs (l.take i)) (l.getD i default) (prI rs (l.getD i default))) ∧ (raiI (stkI rs (l.take i)) (l.getD i default) (prI rs (l.getD i default))).st.length < 4 ∧
    tkOK (raiI (stkI rs (l.take i)) (l.getD i default) (prI rs (l.getD i default))).qu.sl (min (raiI (stkI rs (l.take i)) (l.getD i default) (prI rs (l.getD i default))).ma (runP (raiI (stkI rs (l.take i)) (l.getD i default) (prI rs (l.getD i default))))) = true ∧
    takI (raiI (stkI rs (l.take i)) (l.getD i default) (prI rs (l.getD i default))) = stkI rs (l.take (i + 1)) := by
  have hn := h.n
  have hl : (l.take i).length = i := by rw [List.length_take]; omega
  have hg : ∀ j, j < i → (l.take i).getD j default = l.getD j default := fun j hj => take_getD hj
  have hr := stk_raise (rs := rs) (l := l.take i) (q := l.getD i default) (by omega) (fun j hj => by rw [hg j (by omega)]; exact h.dif (by omega) hi)
  refine ⟨raiI_F (h.take (by omega)) (h.el i hi).1 (h.el i hi).2, ?_, ?_, ?_⟩
  · show (l.take i).length < 4; omega
  · rw [hr, stk_run (by omega) (fun a b hab hb => by rw [hg a (by omega), hg b (by omega)]; exact h.dif hab (by omega))]
    rw [tkOK_iff]
    show 0 ≤ bstS (stkP rs (l.take i) (l.getD i default)) true ∧ ((stkP rs (l.take i) (l.getD i default)).getD (bstS (stkP rs (l.take i) (l.getD i default)) true).toNat default).p < min 16 _
    rw [stkP_bst (by omega), Int.toNat_natCast, stkP_at]
    have h15 := (h.el i hi).2.2
    refine ⟨by omega, ?_⟩
    show prI rs (l.getD i default) < _
    rw [hl]
    split
    · omega
    · next h0 =>
      rw [hg (i - 1) (by omega)]
      have := h.dn i (by omega) hi
      omega
  · rw [hr, stk_take (by omega)]
    congr 1
    rw [List.take_add_one, List.getElem?_eq_getElem hi, List.getD_eq_getElem?_getD, List.getElem?_eq_getElem hi]
    rfl
end Go.Rf
namespace Go.Rf
section
variable {q : Que} {irq p lim : Int} {x : Ifc}
def noI : Ifc := ⟨0, [], ⟨[], []⟩⟩
end
end Go.Rf

/- The machine: small facts for the walks. -/
set_option linter.unusedVariables false
set_option linter.unusedSectionVars false
set_option linter.unusedSimpArgs false
namespace Go.Rf
open Go
end Go.Rf
namespace Go.Rf
end Go.Rf

/- Sorting by insertion; what is pending in a queue. -/
set_option linter.unusedVariables false
set_option linter.unusedSectionVars false
set_option linter.unusedSimpArgs false
namespace Go.Rf
open Go
/-! one that moves to its place -/
section
variable {P R : List Wtr} {x : Wtr} {j : Nat}
end
section
variable {d : List Wtr} {i : Nat}
end
/-! what is pending -/
section
variable {q : Que} {i : Nat}
end
end Go.Rf
namespace Go.Rf
section
variable {P R : List Wtr} {x : Wtr} {j : Nat} {β : Type} {f : Wtr → β} {c : β}
end
end Go.Rf
namespace Go.Rf
end Go.Rf

/- The machine: what is valid. -/
set_option linter.unusedVariables false
set_option linter.unusedSectionVars false
set_option linter.unusedSimpArgs false
namespace Go.Rf
open Go
/-! active interrupts, sorted -/
theorem srtI_eq {a b : List Int} : srtI a = srtI b ↔ a.Perm b := by
  constructor
  · intro h
    exact (srtI_perm a).symm.trans (h ▸ srtI_perm b)
  · intro h
    have hp : ∀ l : List Int, (srtI l).Pairwise (fun x y => decide (x ≤ y) = true) := fun l => List.pairwise_mergeSort (fun a b c h1 h2 => by simp at *; omega) (fun a b => by simp; omega) l
    exact List.Perm.eq_of_pairwise (fun x y _ _ h1 h2 => by simp at *; omega) (hp a) (hp b) ((srtI_perm a).trans (h.trans (srtI_perm b).symm))
theorem perm_of {α : Type} [BEq α] [LawfulBEq α] : ∀ {a b : List α}, a.Nodup → (∀ x ∈ a, x ∈ b) → b.length ≤ a.length → a.Perm b
  | [], b, _, _, hl => by
    have : b = [] := List.eq_nil_of_length_eq_zero (by simpa using hl)
    rw [this]
  | x :: a, b, hn, hs, hl => by
    obtain ⟨h1, h2⟩ := List.nodup_cons.mp hn
    have hx : x ∈ b := hs x (by simp)
    refine List.Perm.trans ?_ (List.perm_cons_erase hx).symm
    refine List.Perm.cons x (perm_of h2 (fun y hy => ?_) ?_)
    · have hne : y ≠ x := fun e => h1 (e ▸ hy)
      exact (List.mem_erase_of_ne hne).mpr (hs y (by simp [hy]))
    · rw [List.length_erase_of_mem hx]
      simp only [List.length_cons] at hl
      omega
def actN (sl : List Slot) : Nat → List Int
  | 0 => []
  | i + 1 => if actP (sl.getD i default) then actN sl i ++ [(sl.getD i default).q] else actN sl i
def putI (l : List Int) (n : Int) : List Int := l.takeWhile (fun x => decide (x < n)) ++ [n] ++ l.dropWhile (fun x => decide (x < n))
def actS (sl : List Slot) : Nat → List Int
  | 0 => []
  | i + 1 => if actP (sl.getD i default) then putI (actS sl i) (sl.getD i default).q else actS sl i
section
variable {sl : List Slot} {i : Nat}
theorem actN_t (h : actP (sl.getD i default) = true) : actN sl (i + 1) = actN sl i ++ [(sl.getD i default).q] := by show (if _ then _ else _) = _; rw [if_pos h]
theorem actN_f (h : actP (sl.getD i default) = false) : actN sl (i + 1) = actN sl i := by show (if _ then _ else _) = _; rw [if_neg (by rw [h]; decide)]
theorem actS_t (h : (sl.getD i default).s = 2 ∨ (sl.getD i default).s = 3) : actS sl (i + 1) = putI (actS sl i) (sl.getD i default).q := by show (if _ then _ else _) = _; rw [if_pos (actP_iff.mpr h)]
theorem actS_f (h : ¬ ((sl.getD i default).s = 2 ∨ (sl.getD i default).s = 3)) : actS sl (i + 1) = actS sl i := by show (if _ then _ else _) = _; rw [if_neg (fun g => h (actP_iff.mp g))]
theorem actN_len : ∀ i, (actN sl i).length ≤ i
  | 0 => Nat.le_refl _
  | i + 1 => by
    have ih := @actN_len i
    show (if _ then _ else _ : List Int).length ≤ _
    split
    · rw [List.length_append, List.length_cons, List.length_nil]; omega
    · omega
theorem putI_mem {l : List Int} {n x : Int} : x ∈ putI l n ↔ x = n ∨ x ∈ l := by
  have h := List.takeWhile_append_dropWhile (p := fun x => decide (x < n)) (l := l)
  have : x ∈ l ↔ x ∈ l.takeWhile (fun x => decide (x < n)) ∨ x ∈ l.dropWhile (fun x => decide (x < n)) := by
    conv => lhs; rw [← h]
    exact List.mem_append
  unfold putI
  simp only [List.mem_append, List.mem_singleton, this]
  constructor
  · rintro ((h | h) | h)
    · exact .inr (.inl h)
    · exact .inl h
    · exact .inr (.inr h)
  · rintro (h | h | h)
    · exact .inl (.inr h)
    · exact .inl (.inl h)
    · exact .inr h
theorem putI_len {l : List Int} {n : Int} : (putI l n).length = l.length + 1 := by
  have h := congrArg List.length (List.takeWhile_append_dropWhile (p := fun x => decide (x < n)) (l := l))
  unfold putI
  simp only [List.length_append, List.length_cons, List.length_nil] at *
  omega
theorem putI_at {l : List Int} {n : Int} {k : Nat} (h : ∀ j, j < k → l.getD j default < n) (hk : k ≤ l.length) (he : k = l.length ∨ (k < l.length ∧ ¬ l.getD k default < n)) : putI l n = l.take k ++ [n] ++ l.drop k := by
  have key : l.takeWhile (fun x => decide (x < n)) = l.take k ∧ l.dropWhile (fun x => decide (x < n)) = l.drop k := by
    induction l generalizing k with
    | nil => simp at hk; subst hk; exact ⟨rfl, rfl⟩
    | cons x l ih =>
      cases k with
      | zero =>
        rcases he with he | ⟨_, he⟩
        · simp at he
        · have he : ¬ x < n := he
          simp [he]
      | succ k =>
        have h0 : x < n := h 0 (by omega)
        obtain ⟨e1, e2⟩ := ih (k := k) (fun j hj => by simpa using h (j + 1) (by omega)) (by simpa using hk) (by
          rcases he with he | ⟨g1, g2⟩
          · left; simpa using he
          · right; exact ⟨by simpa using g1, by simpa using g2⟩)
        simp [h0, e1, e2]
  unfold putI
  rw [key.1, key.2]
theorem actS_mem {x : Int} : ∀ i, x ∈ actS sl i ↔ x ∈ actN sl i
  | 0 => Iff.rfl
  | i + 1 => by
    have ih := @actS_mem x i
    show x ∈ (if _ then _ else _ : List Int) ↔ x ∈ (if _ then _ else _ : List Int)
    split
    · rw [putI_mem, List.mem_append, List.mem_singleton, ih]; exact Or.comm
    · exact ih
theorem actS_len : ∀ i, (actS sl i).length = (actN sl i).length
  | 0 => rfl
  | i + 1 => by
    have ih := @actS_len i
    show (if _ then _ else _ : List Int).length = (if _ then _ else _ : List Int).length
    split
    · rw [putI_len, List.length_append, ih]; rfl
    · exact ih
theorem actN_mem {x : Int} : ∀ i, x ∈ actN sl i ↔ ∃ j, j < i ∧ actP (sl.getD j default) = true ∧ (sl.getD j default).q = x
  | 0 => by simp [actN]
  | i + 1 => by
    have ih := @actN_mem x i
    show x ∈ (if _ then _ else _ : List Int) ↔ _
    split
    · next h =>
      rw [List.mem_append, List.mem_singleton, ih]
      constructor
      · rintro (⟨j, h1, h2⟩ | rfl)
        · exact ⟨j, by omega, h2⟩
        · exact ⟨i, by omega, h, rfl⟩
      · rintro ⟨j, h1, h2, h3⟩
        by_cases e : j = i
        · subst e; exact .inr h3.symm
        · exact .inl ⟨j, by omega, h2, h3⟩
    · next h =>
      rw [ih]
      constructor
      · rintro ⟨j, h1, h2⟩; exact ⟨j, by omega, h2⟩
      · rintro ⟨j, h1, h2, h3⟩
        by_cases e : j = i
        · subst e; exact absurd h2 h
        · exact ⟨j, by omega, h2, h3⟩
theorem actN_nd (h : SlF sl) : ∀ i, i ≤ 4 → (actN sl i).Nodup
  | 0, _ => List.nodup_nil
  | i + 1, hi => by
    have ih := actN_nd h i (by omega)
    show (if _ then _ else _ : List Int).Nodup
    split
    · next ha =>
      refine List.nodup_append.mpr ⟨ih, List.nodup_cons.mpr ⟨by simp, List.nodup_nil⟩, fun x hx y hy e => ?_⟩
      rw [List.mem_singleton.mp hy] at e
      obtain ⟨j, h1, h2, h3⟩ := (actN_mem i).mp hx
      refine h.dif j i h1 (by omega) ?_ ?_ (h3.trans e)
      · rcases actP_iff.mp h2 with g | g <;> omega
      · rcases actP_iff.mp ha with g | g <;> omega
    · exact ih
theorem actS_ne (h : SlF sl) (hi : i < 4) (ha : actP (sl.getD i default) = true) {x : Int} (hx : x ∈ actS sl i) : x ≠ (sl.getD i default).q := fun e => by
  obtain ⟨j, h1, h2, h3⟩ := (actN_mem i).mp ((actS_mem i).mp hx)
  refine h.dif j i h1 hi ?_ ?_ (h3.trans e)
  · rcases actP_iff.mp h2 with g | g <;> omega
  · rcases actP_iff.mp ha with g | g <;> omega
end
/-! interfaces -/
def lvD (sl : List Slot) (st : List Int) (i : Nat) : Bool := decide (i = 0) || decide (lvl sl (st.getD i default) < lvl sl (st.getD (i - 1) default))
def okSt (sl : List Slot) (st : List Int) : Bool := decide (srtI st = srtI (actN sl 4)) && allN st.length (lvD sl st)
def okIf (x : Ifc) : Bool := inside x.ma 0 16 && (okQu x.qu && okSt x.qu.sl x.st)
section
variable {sl : List Slot} {st : List Int} {i : Nat}
theorem okSt_p (h : ¬ srtI st = srtI (actN sl 4)) : okSt sl st = false := by unfold okSt; rw [decide_eq_false h, Bool.false_and]
theorem okSt_l (h : lvD sl st i = false) (hi : i < st.length) : okSt sl st = false := by unfold okSt; rw [allN_f h hi, Bool.and_false]
theorem okSt_t (h : srtI st = srtI (actN sl 4)) (h2 : ∀ j, j < i → lvD sl st j = true) (hi : st.length ≤ i) : okSt sl st = true := by unfold okSt; rw [decide_eq_true h, allN_t h2 hi]; rfl
theorem lvD_0 : lvD sl st 0 = true := rfl
theorem lvD_t (h : lvl sl (st.getD i default) < lvl sl (st.getD (i - 1) default)) : lvD sl st i = true := by unfold lvD; rw [decide_eq_true h, Bool.or_true]
theorem lvD_f (h0 : i ≠ 0) (h : ¬ lvl sl (st.getD i default) < lvl sl (st.getD (i - 1) default)) : lvD sl st i = false := by unfold lvD; rw [decide_eq_false h, decide_eq_false h0]; rfl
/-- one of the active is in a slot -/
theorem act_in {x : Int} (h : x ∈ actN sl 4) (hl : sl.length = 4) : 0 ≤ fndS sl x := by
  obtain ⟨j, h1, h2, h3⟩ := (actN_mem 4).mp h
  refine act_fnd ⟨wOf (sl.getD j default), actL_mem.mpr ⟨sl.getD j default, mem_getD.mpr ⟨j, by omega, rfl⟩, h2, rfl⟩, h3⟩
theorem srt_in (h : srtI st = srtI (actN sl 4)) {x : Int} (hx : x ∈ st) : x ∈ actN sl 4 := (srtI_eq.mp h).mem_iff.mp hx
/-- the reference's way -/
structure StP (sl : List Slot) (st : List Int) (i : Nat) : Prop where
  inn : ∀ j, j < i → st.getD j default ∈ actN sl 4
  dif : ∀ k j, k < j → j < i → st.getD k default ≠ st.getD j default
  lev : ∀ j, j < i → lvD sl st j = true
theorem stP_0 : StP sl st 0 := ⟨fun j h => by omega, fun k j _ h => by omega, fun j h => by omega⟩
theorem StP.succ (h : StP sl st i) (h1 : st.getD i default ∈ actN sl 4) (h2 : ∀ k, k < i → st.getD k default ≠ st.getD i default) (h3 : lvD sl st i = true) : StP sl st (i + 1) := by
  refine ⟨fun j hj => ?_, fun k j hk hj => ?_, fun j hj => ?_⟩
  · by_cases e : j = i
    · subst e; exact h1
    · exact h.inn j (by omega)
  · by_cases e : j = i
    · subst e; exact h2 k hk
    · exact h.dif k j hk (by omega)
  · by_cases e : j = i
    · subst e; exact h3
    · exact h.lev j (by omega)
theorem nd_getD {l : List Int} : l.Nodup ↔ ∀ k j, k < j → j < l.length → l.getD k default ≠ l.getD j default := pw_getD
theorem StP.fin (hF : SlF sl) (h : StP sl st st.length) : okSt sl st = decide (st.length = (actN sl 4).length) := by
  by_cases hl : st.length = (actN sl 4).length
  · rw [decide_eq_true hl]
    have hn : st.Nodup := nd_getD.mpr h.dif
    have hp := perm_of hn (fun x hx => by obtain ⟨j, hj, rfl⟩ := mem_getD.mp hx; exact h.inn j hj) (by omega)
    exact okSt_t (srtI_eq.mpr hp) h.lev (Nat.le_refl _)
  · rw [decide_eq_false hl]
    exact okSt_p fun e => hl (srtI_eq.mp e).length_eq
theorem okSt_in (hi : i < st.length) (h : ¬ st.getD i default ∈ actN sl 4) : okSt sl st = false := okSt_p fun e => h (srt_in e (mem_getD.mpr ⟨i, hi, rfl⟩))
theorem okSt_dup (hF : SlF sl) {k : Nat} (hk : k < i) (hi : i < st.length) (h : st.getD k default = st.getD i default) : okSt sl st = false := okSt_p fun e => by
  have hn : st.Nodup := (srtI_eq.mp e).nodup_iff.mpr (actN_nd hF 4 (Nat.le_refl _))
  exact nd_getD.mp hn k i hk hi h
end
theorem okIf_F {x : Ifc} (h : okIf x = true) : IfF x ∧ setd x.qu = true ∧ (0 ≤ x.ma ∧ x.ma ≤ 16) ∧ srtI x.st = srtI (actN x.qu.sl 4) := by
  simp only [okIf, okSt, Bool.and_eq_true, decide_eq_true_eq] at h
  obtain ⟨h1, h2, h3, h4⟩ := h
  obtain ⟨g1, g2⟩ := okQu_iff.mp h2
  refine ⟨⟨g1, ?_, fun q hq => ?_⟩, g2, inside_t.mp h1, h3⟩
  · rw [(srtI_eq.mp h3).length_eq]; exact actN_len 4
  · obtain ⟨j, h1, h2, h3⟩ := (actN_mem 4).mp (srt_in h3 hq)
    exact ⟨wOf (x.qu.sl.getD j default), actL_mem.mpr ⟨_, mem_getD.mpr ⟨j, by rw [g1.sl.len]; exact h1, rfl⟩, h2, rfl⟩, h3⟩
/-! machines -/
def rtW (rs : List Route) (k : Nat) (w : Wtr) : Bool := decide (tgI rs w.q = k) && decide (prI rs w.q = w.p)
def rtS (rs : List Route) (k : Nat) (x : Slot) : Bool := !decide (x.s = 3) && (decide (x.s = 0) || rtW rs k (wOf x))
def okRq (rs : List Route) (q : Que) (k : Nat) : Bool := allN 4 (fun i => rtS rs k (q.sl.getD i default)) && allN q.wa.length (fun i => rtW rs k (q.wa.getD i default))
def oneM (m : Mach) (k : Nat) : Bool := okIf (m.cp.getD k default) && okRq m.rs (m.cp.getD k default).qu k
def okMa (m : Mach) : Bool := okRts m.rs m.cp.length && (decide (m.en.length = 8) && (decide (m.ra.length = 8) && allN m.cp.length (oneM m)))
section
variable {rs : List Route} {q : Que} {k i : Nat} {m : Mach}
theorem rtW_iff {w : Wtr} : rtW rs k w = true ↔ tgI rs w.q = k ∧ prI rs w.q = w.p := by simp [rtW]
theorem rtW_nf {w : Wtr} : rtW rs k w = false ↔ ¬ (tgI rs w.q = k ∧ prI rs w.q = w.p) := by rw [← Bool.not_eq_true, rtW_iff]
theorem rtS_iff {x : Slot} : rtS rs k x = true ↔ x.s ≠ 3 ∧ (x.s = 0 ∨ (tgI rs x.q = k ∧ prI rs x.q = x.p)) := by
  simp only [rtS, Bool.and_eq_true, Bool.not_eq_true', decide_eq_false_iff_not, Bool.or_eq_true, decide_eq_true_eq, rtW_iff, wOf, ne_eq]
theorem rtS_nf {x : Slot} : rtS rs k x = false ↔ ¬ (x.s ≠ 3 ∧ (x.s = 0 ∨ (tgI rs x.q = k ∧ prI rs x.q = x.p))) := by rw [← Bool.not_eq_true, rtS_iff]
theorem okRq_s (h : rtS rs k (q.sl.getD i default) = false) (hi : i < 4) : okRq rs q k = false := by unfold okRq; rw [allN_f h hi, Bool.false_and]
theorem okRq_w (h : rtW rs k (q.wa.getD i default) = false) (hi : i < q.wa.length) : okRq rs q k = false := by unfold okRq; rw [allN_f h hi, Bool.and_false]
theorem okRq_t {j : Nat} (h : ∀ t, t < i → rtS rs k (q.sl.getD t default) = true) (hi : 4 ≤ i) (h2 : ∀ t, t < j → rtW rs k (q.wa.getD t default) = true) (hj : q.wa.length ≤ j) : okRq rs q k = true := by unfold okRq; rw [allN_t h hi, allN_t h2 hj]; rfl
theorem okMa_r (h : okRts m.rs m.cp.length = false) : okMa m = false := by unfold okMa; rw [h, Bool.false_and]
theorem okMa_l (h : ¬ (m.en.length = 8 ∧ m.ra.length = 8)) : okMa m = false := by
  unfold okMa
  by_cases h1 : m.en.length = 8
  · rw [decide_eq_true h1, decide_eq_false (fun e => h ⟨h1, e⟩)]; simp
  · rw [decide_eq_false h1]; simp
theorem okMa_k (h : oneM m k = false) (hk : k < m.cp.length) : okMa m = false := by unfold okMa; rw [allN_f h hk]; simp
theorem okMa_t (h1 : okRts m.rs m.cp.length = true) (h2 : m.en.length = 8) (h3 : m.ra.length = 8) (h4 : ∀ j, j < k → oneM m j = true) (hk : m.cp.length ≤ k) : okMa m = true := by unfold okMa; rw [h1, decide_eq_true h2, decide_eq_true h3, allN_t h4 hk]; rfl
theorem oneM_1 (h : okIf (m.cp.getD k default) = false) : oneM m k = false := by unfold oneM; rw [h, Bool.false_and]
theorem oneM_2 (h : okRq m.rs (m.cp.getD k default).qu k = false) : oneM m k = false := by unfold oneM; rw [h, Bool.and_false]
theorem oneM_t (h1 : okIf (m.cp.getD k default) = true) (h2 : okRq m.rs (m.cp.getD k default).qu k = true) : oneM m k = true := by unfold oneM; rw [h1, h2]; rfl
end
/-- what the program gathers: the waiting, and the slots that are not empty -/
def ftL (q : Que) : Nat → List Wtr
  | 0 => q.wa
  | i + 1 => if (q.sl.getD i default).s = 0 then ftL q i else ftL q i ++ [wOf (q.sl.getD i default)]
section
variable {rs : List Route} {q : Que} {k i : Nat}
theorem ftL_0 (h : (q.sl.getD i default).s = 0) : ftL q (i + 1) = ftL q i := by show (if _ then _ else _) = _; rw [if_pos h]
theorem ftL_1 (h : ¬ (q.sl.getD i default).s = 0) : ftL q (i + 1) = ftL q i ++ [wOf (q.sl.getD i default)] := by show (if _ then _ else _) = _; rw [if_neg h]
theorem ftL_len : ∀ i, (ftL q i).length ≤ q.wa.length + i
  | 0 => Nat.le_refl _
  | i + 1 => by
    have ih := @ftL_len i
    show (if _ then _ else _ : List Wtr).length ≤ _
    split
    · omega
    · rw [List.length_append, List.length_cons, List.length_nil]; omega
theorem ftL_mem {x : Wtr} : ∀ i, x ∈ ftL q i ↔ x ∈ q.wa ∨ ∃ j, j < i ∧ (q.sl.getD j default).s ≠ 0 ∧ x = wOf (q.sl.getD j default)
  | 0 => by simp [ftL]
  | i + 1 => by
    have ih := @ftL_mem x i
    show x ∈ (if _ then _ else _ : List Wtr) ↔ _
    split
    · next h =>
      rw [ih]
      constructor
      · rintro (h1 | ⟨j, h1, h2⟩)
        · exact .inl h1
        · exact .inr ⟨j, by omega, h2⟩
      · rintro (h1 | ⟨j, h1, h2, h3⟩)
        · exact .inl h1
        · by_cases e : j = i
          · subst e; exact absurd h h2
          · exact .inr ⟨j, by omega, h2, h3⟩
    · next h =>
      rw [List.mem_append, List.mem_singleton, ih]
      constructor
      · rintro ((h1 | ⟨j, h1, h2⟩) | rfl)
        · exact .inl h1
        · exact .inr ⟨j, by omega, h2⟩
        · exact .inr ⟨i, by omega, h, rfl⟩
      · rintro (h1 | ⟨j, h1, h2, h3⟩)
        · exact .inl (.inl h1)
        · by_cases e : j = i
          · subst e; exact .inr h3
          · exact .inl (.inr ⟨j, by omega, h2, h3⟩)
theorem ftL_bd (h : QF q) {x : Wtr} (hi : i ≤ 4) (hx : x ∈ ftL q i) : 0 ≤ x.q ∧ x.q ≤ 7 := by
  rcases (ftL_mem i).mp hx with g | ⟨j, g1, g2, rfl⟩
  · exact (h.wa x g).1
  · exact (h.sl.ok j (by omega) g2).2.1
theorem ft_ok (h3 : ∀ j, j < 4 → (q.sl.getD j default).s ≠ 3) : (!(anyN (ftL q 4).length (fun i => !rtW rs k ((ftL q 4).getD i default)))) = okRq rs q k := by
  rw [Bool.eq_iff_iff, Bool.not_eq_true', anyN_nf]
  constructor
  · intro h
    have hm : ∀ x ∈ ftL q 4, rtW rs k x = true := fun x hx => by
      obtain ⟨i, hi, rfl⟩ := mem_getD.mp hx
      simpa using h i hi
    refine okRq_t (i := 4) (j := q.wa.length) (fun t ht => rtS_iff.mpr ⟨h3 t ht, ?_⟩) (Nat.le_refl _) (fun t ht => hm _ ((ftL_mem 4).mpr (.inl (mem_getD.mpr ⟨t, ht, rfl⟩)))) (Nat.le_refl _)
    by_cases h0 : (q.sl.getD t default).s = 0
    · exact .inl h0
    · exact .inr (rtW_iff.mp (hm _ ((ftL_mem 4).mpr (.inr ⟨t, ht, h0, rfl⟩))))
  · intro h i hi
    have hx : (ftL q 4).getD i default ∈ ftL q 4 := mem_getD.mpr ⟨i, hi, rfl⟩
    simp only [okRq, Bool.and_eq_true, allN_iff] at h
    rw [Bool.not_eq_false']
    rcases (ftL_mem 4).mp hx with g | ⟨j, g1, g2, g3⟩
    · obtain ⟨t, ht, e⟩ := mem_getD.mp g
      rw [← e]; exact h.2 t ht
    · rw [g3]
      rcases (rtS_iff.mp (h.1 j g1)).2 with e | e
      · exact absurd e g2
      · exact rtW_iff.mpr e
end
end Go.Rf
namespace Go.Rf
section
variable {x : Ifc}
theorem okIf_m (h : inside x.ma 0 16 = false) : okIf x = false := by unfold okIf; rw [h, Bool.false_and]
theorem okIf_q (h : okQu x.qu = false) : okIf x = false := by unfold okIf; rw [h, Bool.false_and, Bool.and_false]
theorem okIf_s (h : okSt x.qu.sl x.st = false) : okIf x = false := by unfold okIf; rw [h, Bool.and_false, Bool.and_false]
theorem okIf_t (h1 : inside x.ma 0 16 = true) (h2 : okQu x.qu = true) (h3 : okSt x.qu.sl x.st = true) : okIf x = true := by unfold okIf; rw [h1, h2, h3]; rfl
theorem okIf_e (h1 : inside x.ma 0 16 = true) (h2 : okQu x.qu = true) : okIf x = okSt x.qu.sl x.st := by unfold okIf; rw [h1, h2]; rfl
end
end Go.Rf

/- The machine: the abstract that describes it. -/
set_option linter.unusedVariables false
set_option linter.unusedSectionVars false
set_option linter.unusedSimpArgs false
namespace Go.Rf
open Go
theorem hasI_iff {l : List Int} {v : Int} : hasI l v = true ↔ v ∈ l := by
  unfold hasI
  rw [anyN_iff]
  constructor
  · rintro ⟨i, hi, h⟩
    rw [of_decide_eq_true h]
    exact mem_getD.mpr ⟨i, hi, rfl⟩
  · intro h
    obtain ⟨i, hi, e⟩ := mem_getD.mp h
    exact ⟨i, hi, decide_eq_true e.symm⟩
theorem hasI_nf {l : List Int} {v : Int} : hasI l v = false ↔ v ∉ l := by rw [← Bool.not_eq_true, hasI_iff]
theorem mem_take {l : List Int} {i : Nat} (hi : i ≤ l.length) {v : Int} : v ∈ l.take i ↔ ∃ k, k < i ∧ l.getD k default = v := by
  rw [mem_getD]
  constructor
  · rintro ⟨k, hk, e⟩
    rw [List.length_take] at hk
    have hk2 : k < i := by omega
    exact ⟨k, hk2, by rw [← take_getD (l := l) hk2]; exact e⟩
  · rintro ⟨k, hk, e⟩
    exact ⟨k, by rw [List.length_take]; omega, by rw [take_getD hk]; exact e⟩
theorem beqN {a b : Nat} : ((a : Int) == (b : Int)) = decide (a = b) := by
  by_cases h : a = b
  · subst h; simp
  · have : ¬ ((a : Int) = b) := by omega
    simp [h, this]
/-! posted -/
/-- what a valid machine is -/
structure MaF (m : Mach) : Prop where
  rt : okRts m.rs m.cp.length = true
  n : 1 ≤ m.cp.length ∧ m.cp.length ≤ 2
  rn : m.rs.length = 8
  en : m.en.length = 8
  ra : m.ra.length = 8
  ok : ∀ k, k < m.cp.length → IfF (m.cp.getD k default) ∧ setd (m.cp.getD k default).qu = true ∧ (0 ≤ (m.cp.getD k default).ma ∧ (m.cp.getD k default).ma ≤ 16) ∧ srtI (m.cp.getD k default).st = srtI (actN (m.cp.getD k default).qu.sl 4)
  rq : ∀ k, k < m.cp.length → okRq m.rs (m.cp.getD k default).qu k = true
theorem maF {m : Mach} (h : okMa m = true) : MaF m := by
  simp only [okMa, oneM, Bool.and_eq_true, decide_eq_true_eq, allN_iff] at h
  obtain ⟨h1, h2, h3, h4⟩ := h
  have hr := okRts_iff.mp h1
  exact ⟨h1, by omega, hr.2.1, h2, h3, fun k hk => okIf_F (h4 k hk).1, fun k hk => (h4 k hk).2⟩
/-! sizes of machines -/
def szQ (q : Que) (l : Int) : Int := if szL q.sl.length l < 0 then -1 else szL q.wa.length (szL q.sl.length l)
def szF (x : Ifc) (l : Int) : Int := if szL x.st.length l < 0 then -1 else szQ x.qu (szL x.st.length l)
def szFS (xs : List Ifc) (l : Int) : Int := if l - xs.length - sumI xs xs.length < 0 then -1 else l - xs.length - sumI xs xs.length
def szMa (m : Mach) (l : Int) : Int := if szL m.rs.length l < 0 then -1 else if szL m.en.length (szL m.rs.length l) < 0 then -1 else if szL m.ra.length (szL m.en.length (szL m.rs.length l)) < 0 then -1 else szFS m.cp (szL m.ra.length (szL m.en.length (szL m.rs.length l)))
theorem szF_eq {x : Ifc} {l : Int} (hl : 0 ≤ l) : szF x l = if l - szI x < 0 then -1 else l - szI x := by
  unfold szF szQ szL szI
  repeat' split
  all_goals omega
theorem szMa_small {m : Mach} {l : Int} (hl : 0 ≤ l ∧ l ≤ 1048576) (h : ¬ szMa m l < 0) : SmallM m := by
  have hn := @sumI_nn m.cp m.cp.length
  unfold szMa szFS szL at h
  refine ⟨?_, ?_, ?_, ?_, ?_⟩ <;> (repeat' split at h) <;> omega
end Go.Rf
namespace Go.Rf
theorem szL_neg {n : Nat} {l : Int} (h : szL n l < 0) : szL n l = -1 := by
  unfold szL at *
  by_cases h1 : l - n < 0
  · rw [if_pos h1]
  · rw [if_neg h1] at h; exact absurd h h1
theorem szQ_neg {q : Que} {l : Int} (h : szQ q l < 0) : szQ q l = -1 := by
  unfold szQ at *
  by_cases h1 : szL q.sl.length l < 0
  · rw [if_pos h1]
  · rw [if_neg h1] at h ⊢; exact szL_neg h
theorem szFS_neg {xs : List Ifc} {l : Int} (h : szFS xs l < 0) : szFS xs l = -1 := by
  unfold szFS at *
  by_cases h1 : l - xs.length - sumI xs xs.length < 0
  · rw [if_pos h1]
  · rw [if_neg h1] at h; exact absurd h h1
end Go.Rf

/- Texts with spaces between words: the shelf's join, lists of numbers, slots. -/
set_option linter.unusedVariables false
set_option linter.unusedSectionVars false
set_option linter.unusedSimpArgs false
namespace Go.Rf
open Go Go.RowKit
def spB : ByteArray := ⟨#[32]⟩
/-- the first n words, with spaces between them -/
def jnS (ws : List ByteArray) : Nat → ByteArray
  | 0 => ⟨#[]⟩
  | n + 1 => (if n = 0 then ⟨#[]⟩ else jnS ws n ++ spB) ++ ws.getD n ⟨#[]⟩
theorem jnS_1 {ws : List ByteArray} : jnS ws 1 = ws.getD 0 ⟨#[]⟩ := by
  show (⟨#[]⟩ : ByteArray) ++ ws.getD 0 ⟨#[]⟩ = _
  exact ByteArray.empty_append
theorem jnS_succ {ws : List ByteArray} {n : Nat} (h : 0 < n) : jnS ws (n + 1) = jnS ws n ++ spB ++ ws.getD n ⟨#[]⟩ := by
  show (if n = 0 then _ else _) ++ _ = _
  rw [if_neg (by omega)]
theorem jnS_size {ws : List ByteArray} {b : Nat} (h : ∀ i, i < ws.length → (ws.getD i ⟨#[]⟩).size ≤ b) : ∀ n, n ≤ ws.length → (jnS ws n).size ≤ n * (b + 1)
  | 0, _ => Nat.zero_le _
  | n + 1, hn => by
    have ih := jnS_size h n (by omega)
    have hb := h n (by omega)
    have e : (n + 1) * (b + 1) = n * (b + 1) + (b + 1) := Nat.succ_mul _ _
    have hsp : spB.size = 1 := rfl
    by_cases h0 : n = 0
    · subst h0
      rw [jnS_1]
      omega
    · rw [jnS_succ (by omega), ByteArray.size_append, ByteArray.size_append]
      omega
theorem inter_snoc (sep x : List UInt8) : ∀ (l : List (List UInt8)), l ≠ [] → sep.intercalate (l ++ [x]) = sep.intercalate l ++ sep ++ x
  | [], h => absurd rfl h
  | [y], _ => by simp [List.intercalate]
  | y :: z :: r, _ => by
    have ih := inter_snoc sep x (z :: r) (by simp)
    simp only [List.intercalate, List.cons_append, List.intersperse, List.flatten_cons] at ih ⊢
    rw [ih]
    simp only [List.append_assoc]
theorem jn_take {ws : List ByteArray} : ∀ n, n ≤ ws.length → (⟨(Lib.join ((ws.take n).map (·.data.toList)) [32]).toArray⟩ : ByteArray) = jnS ws n
  | 0, _ => rfl
  | n + 1, hn => by
    have ih := jn_take (ws := ws) n (by omega)
    have hx : ws[n]? = some (ws.getD n ⟨#[]⟩) := by rw [List.getD_eq_getElem?_getD, List.getElem?_eq_getElem (by omega)]; rfl
    rw [List.take_add_one, hx, Option.toList_some, List.map_append, List.map_cons, List.map_nil]
    by_cases h0 : n = 0
    · subst h0
      rw [jnS_1, List.take_zero, List.map_nil, List.nil_append, Lib.join_one]
    · rw [jnS_succ (by omega), ← ih, Lib.join, inter_snoc _ _ _ (by intro e; have := congrArg List.length e; rw [List.length_map, List.length_take, Nat.min_eq_left (by omega)] at this; exact h0 this)]
      apply ByteArray.ext
      simp [ByteArray.data_append, Lib.join, spB]
def jnA (ws : List ByteArray) : ByteArray := jnS ws ws.length
theorem jn_eq {ws : List ByteArray} : (⟨(Lib.join (ws.map (·.data.toList)) spB.data.toList).toArray⟩ : ByteArray) = jnA ws := by
  have h := jn_take (ws := ws) ws.length (Nat.le_refl _)
  rw [List.take_length] at h
  exact h
theorem Ctr.join {P : Program} [Env P] {f : FuncId} (hc : Callable P f) {ws : List ByteArray} (hl : ws.length ≤ 1048576) (hs : (jnA ws).size ≤ 140737488355328)
    (h : ∀ (bk o c : Nat) (w : World), (∀ (j : Nat) x, ws[j]? = some x → w.cell? ⟨bk, o + j, none⟩ = some (.string x)) → bk < w.heap.size → ws.length ≤ 140737488355328 → ws.length ≤ c → (Lib.join (ws.map (·.data.toList)) spB.data.toList).length ≤ 140737488355328 →
      Calls P f #[.slice (some ⟨bk, o, none⟩) ws.length c, .string spB] w fun e w' => e = .returned (.string ⟨(Lib.join (ws.map (·.data.toList)) spB.data.toList).toArray⟩) ∧ Below w.heap.size w w')
    (h0 : ∀ (a : Option Addr) (c : Nat) (w : World), Calls P f #[.slice a 0 c, .string spB] w fun e w' => e = .returned (.string ⟨#[]⟩) ∧ w' = w) :
    Ctr P f [.lst 1 (ws.map encW), .v (.string ⟨#[32]⟩)] (.one (.v (.string (jnA ws)))) := by
  refine ⟨hc, fun w vs he hv => ?_⟩
  simp only [RelVs] at hv
  obtain ⟨y, _, rfl, hy, _, _, rfl, hv2, rfl⟩ := hv
  simp only [RelV] at hy hv2
  subst hv2
  obtain ⟨A, cap, rfl, hcap, hall, hcell⟩ := hy
  rw [List.length_map] at hcap hcell ⊢
  by_cases hz : ws.length = 0
  · have e0 : ws = [] := List.eq_nil_of_length_eq_zero hz
    subst e0
    exact (h0 A cap w).mono fun e w' ⟨h1, h2⟩ => ⟨_, h1, by simp only [ResRel, RCRel]; rfl, h2 ▸ Below.refl _ _⟩
  · obtain ⟨ad, rfl, hb, hr⟩ := hcell (by omega)
    have hat : ∀ j x, ws[j]? = some x → w.cell? (ad.add (j * 1 + 0)) = some (.string x) := fun j x hj => hr j (encW x) (by rw [List.getElem?_map, hj]; rfl) 0 _ rfl
    have hsp : ad.spot = none := by
      have h1 := hat 0 (ws.getD 0 ⟨#[]⟩) (by rw [List.getD_eq_getElem?_getD, List.getElem?_eq_getElem (by omega)]; rfl)
      have h1 : w.cell? ad = some (.string (ws.getD 0 ⟨#[]⟩)) := h1
      cases hsp : ad.spot with
      | none => rfl
      | some s =>
        exfalso
        unfold World.cell? at h1
        rw [hsp] at h1
        split at h1
        · simp at h1
        · cases h1
    obtain ⟨bk, o, sp⟩ := ad
    simp only at hsp hb
    subst hsp
    refine (h bk o cap w (fun j x hj => ?_) hb (by omega) hcap (by have := congrArg ByteArray.size (jn_eq (ws := ws)); simp only [ByteArray.size, List.size_toArray] at this hs; omega)).mono fun e w' ⟨h1, h2⟩ => ⟨.string (jnA ws), h1.trans (by rw [jn_eq]), by simp only [ResRel, RCRel], h2⟩
    have := hat j x hj
    rw [Nat.mul_one, Nat.add_zero] at this
    by_cases hj0 : j = 0
    · subst hj0; exact this
    · rw [Addr.add, if_neg hj0] at this; exact this
/-! numbers and slots -/
def noneB : ByteArray := ⟨#[110, 111, 110, 101]⟩
def numL (l : List Int) : List ByteArray := l.map numT
theorem numL_len {l : List Int} : (numL l).length = l.length := List.length_map _
theorem numL_get {l : List Int} {i : Nat} (h : i < l.length) : (numL l).getD i ⟨#[]⟩ = numT (l.getD i default) := by
  rw [numL, List.getD_eq_getElem?_getD, List.getD_eq_getElem?_getD, List.getElem?_map, List.getElem?_eq_getElem h]; rfl
def lstT (l : List Int) : ByteArray := if l.length = 0 then noneB else jnA (numL l)
def numOK (n : Int) : Prop := -9223372036854775807 ≤ n ∧ n ≤ 9223372036854775807
theorem numL_size {l : List Int} (h : ∀ i, i < l.length → numOK (l.getD i default)) (n : Nat) (hn : n ≤ l.length) : (jnS (numL l) n).size ≤ n * 22 :=
  jnS_size (b := 21) (fun i hi => by rw [numL_len] at hi; rw [numL_get hi]; have := h i hi; exact numT_size (by have := this.1; omega) this.2) n (by rw [numL_len]; exact hn)
theorem lstT_e {l : List Int} (h : l.length = 0) : lstT l = noneB := if_pos h
theorem lstT_n {l : List Int} (h : 0 < l.length) : lstT l = jnS (numL l) l.length := by rw [lstT, if_neg (by omega), jnA, numL_len]
theorem lstT_size {l : List Int} (h : ∀ i, i < l.length → numOK (l.getD i default)) : (lstT l).size ≤ l.length * 22 + 4 := by
  by_cases h0 : l.length = 0
  · rw [lstT_e h0]; show (4 : Nat) ≤ _; omega
  · rw [lstT_n (by omega)]; have := numL_size h l.length (Nat.le_refl _); omega
def letB (k : Int) : ByteArray := (⟨#[45, 112, 97, 98]⟩ : ByteArray).extract k.toNat (k + 1).toNat
theorem letB_size {k : Int} : (letB k).size ≤ 4 := by
  rw [letB, ByteArray.size_extract]
  show min _ 4 - _ ≤ 4
  omega
/-- the text of a slot -/
def sltT (x : Slot) : ByteArray := if x.s = 0 then letB x.s else letB x.s ++ (numT x.q ++ ⟨#[58]⟩ ++ numT x.p)
def sltL (sl : List Slot) : List ByteArray := sl.map sltT
theorem sltL_len {sl : List Slot} : (sltL sl).length = sl.length := List.length_map _
theorem sltL_get {l : List Slot} {i : Nat} (h : i < l.length) : (sltL l).getD i ⟨#[]⟩ = sltT (l.getD i default) := by
  rw [sltL, List.getD_eq_getElem?_getD, List.getD_eq_getElem?_getD, List.getElem?_map, List.getElem?_eq_getElem h]; rfl
def sltsT (sl : List Slot) : ByteArray := jnA (sltL sl)
theorem sltT_e {x : Slot} (h : x.s = 0) : sltT x = letB x.s := if_pos h
theorem sltT_n {x : Slot} (h : x.s ≠ 0) : sltT x = letB x.s ++ (numT x.q ++ ⟨#[58]⟩ ++ numT x.p) := if_neg h
theorem sltT_size {x : Slot} (h : x.s ≠ 0 → numOK x.q ∧ numOK x.p) : (sltT x).size ≤ 47 := by
  have hb := @letB_size x.s
  by_cases h0 : x.s = 0
  · rw [sltT_e h0]; omega
  · obtain ⟨⟨a1, a2⟩, b1, b2⟩ := h h0
    have n1 := numT_size (n := x.q) (by omega) a2
    have n2 := numT_size (n := x.p) (by omega) b2
    rw [sltT_n h0, ByteArray.size_append, ByteArray.size_append, ByteArray.size_append]
    have : (⟨#[58]⟩ : ByteArray).size = 1 := rfl
    omega
theorem sltL_size {sl : List Slot} (h : ∀ i, i < sl.length → (sl.getD i default).s ≠ 0 → numOK (sl.getD i default).q ∧ numOK (sl.getD i default).p) (n : Nat) (hn : n ≤ sl.length) : (jnS (sltL sl) n).size ≤ n * 48 :=
  jnS_size (b := 47) (fun i hi => by rw [sltL_len] at hi; rw [sltL_get hi]; exact sltT_size (h i hi)) n (by rw [sltL_len]; exact hn)
/-- the reference's round -/
theorem jn_s1 {sl : List Slot} {i : Nat} (hi : i < sl.length) : jnS (sltL sl) (i + 1) = (if i = 0 then ⟨#[]⟩ else jnS (sltL sl) i ++ spB) ++ sltT (sl.getD i default) := by
  show (if i = 0 then _ else _) ++ (sltL sl).getD i ⟨#[]⟩ = _
  rw [sltL_get hi]
theorem SlF.s03 {sl : List Slot} (h : SlF sl) {i : Nat} (hi : i < 4) : 0 ≤ (sl.getD i default).s ∧ (sl.getD i default).s ≤ 3 := by
  rcases Decidable.em ((sl.getD i default).s = 0) with g | g
  · omega
  · have := h.ok i hi g; omega
theorem SlF.nums {sl : List Slot} (h : SlF sl) {i : Nat} (hi : i < 4) (hs : (sl.getD i default).s ≠ 0) : (0 ≤ (sl.getD i default).q ∧ (sl.getD i default).q ≤ 7) ∧ (0 ≤ (sl.getD i default).p ∧ (sl.getD i default).p ≤ 15) ∧ (numT (sl.getD i default).q).size ≤ 21 ∧ (numT (sl.getD i default).p).size ≤ 21 := by
  have := h.ok i hi hs
  exact ⟨this.2.1, this.2.2, numT_size (by omega) (by omega), numT_size (by omega) (by omega)⟩
theorem sl_ok {sl : List Slot} (h : SlF sl) : ∀ i, i < sl.length → (sl.getD i default).s ≠ 0 → numOK (sl.getD i default).q ∧ numOK (sl.getD i default).p := fun i hi hs => by
  have := h.ok i (by have := h.len; omega) hs
  exact ⟨⟨by omega, by omega⟩, by omega, by omega⟩
def numP (l : List Int) (i : Nat) : List ByteArray := (numL l).take i
theorem numP_succ {l : List Int} {i : Nat} (h : i < l.length) : numP l (i + 1) = numP l i ++ [numT (l.getD i default)] := by
  rw [numP, List.take_add_one, ← numL_get h, List.getD_eq_getElem?_getD, List.getElem?_eq_getElem (by rw [numL_len]; exact h)]
  rfl
theorem numP_all {l : List Int} : numP l l.length = numL l := by rw [numP, ← numL_len, List.take_length]
theorem numP_len {l : List Int} {i : Nat} : (numP l i).length ≤ l.length := by rw [numP, List.length_take, numL_len]; omega
theorem numP_sz {l : List Int} (hl : l.length ≤ 1048576) (h : ∀ i, i < l.length → numOK (l.getD i default)) : (jnA (numP l l.length)).size ≤ 140737488355328 := by
  have := numL_size h l.length (Nat.le_refl _)
  rw [numP_all, jnA, numL_len]; omega
theorem lstT_j {l : List Int} (h : 0 < l.length) : jnA (numP l l.length) = lstT l := by rw [lstT_n h, numP_all, jnA, numL_len]
def sltP (l : List Slot) (i : Nat) : List ByteArray := (sltL l).take i
theorem sltP_len {l : List Slot} {i : Nat} : (sltP l i).length ≤ l.length := by rw [sltP, List.length_take, sltL_len]; omega
theorem sltP_succ {l : List Slot} {i : Nat} (h : i < l.length) : sltP l (i + 1) = sltP l i ++ [sltT (l.getD i default)] := by
  rw [sltP, List.take_add_one, ← sltL_get h, List.getD_eq_getElem?_getD, List.getElem?_eq_getElem (by rw [sltL_len]; exact h)]
  rfl
theorem sltP_e {l : List Slot} {i : Nat} (h : i < l.length) (hs : (l.getD i default).s = 0) : sltP l (i + 1) = sltP l i ++ [letB (l.getD i default).s] := by rw [sltP_succ h, sltT_e hs]
theorem sltP_n {l : List Slot} {i : Nat} (h : i < l.length) (hs : (l.getD i default).s ≠ 0) : sltP l (i + 1) = sltP l i ++ [letB (l.getD i default).s ++ (numT (l.getD i default).q ++ ⟨#[58]⟩ ++ numT (l.getD i default).p)] := by rw [sltP_succ h, sltT_n hs]
theorem sltP_j {l : List Slot} : jnA (sltP l l.length) = sltsT l := by rw [sltsT, sltP, ← sltL_len, List.take_length]
theorem sltP_sz {sl : List Slot} (hl : sl.length ≤ 1048576) (h : ∀ i, i < sl.length → (sl.getD i default).s ≠ 0 → numOK (sl.getD i default).q ∧ numOK (sl.getD i default).p) : (jnA (sltP sl sl.length)).size ≤ 140737488355328 := by
  have := sltL_size h sl.length (Nat.le_refl _)
  rw [sltP_j, sltsT, jnA, sltL_len]; omega
theorem t8_a {sl : List Slot} {i : Nat} (hi : i < sl.length) (h0 : i = 0) (hs : (sl.getD i default).s = 0) : jnS (sltL sl) (i + 1) = jnS (sltL sl) i ++ letB (sl.getD i default).s := by
  rw [jn_s1 hi, if_pos h0, sltT_e hs]; subst h0; rfl
theorem t8_b {sl : List Slot} {i : Nat} (hi : i < sl.length) (h0 : i ≠ 0) (hs : (sl.getD i default).s = 0) : jnS (sltL sl) (i + 1) = jnS (sltL sl) i ++ spB ++ letB (sl.getD i default).s := by
  rw [jn_s1 hi, if_neg h0, sltT_e hs]
theorem t8_c {sl : List Slot} {i : Nat} (hi : i < sl.length) (h0 : i = 0) (hs : (sl.getD i default).s ≠ 0) : jnS (sltL sl) (i + 1) = jnS (sltL sl) i ++ letB (sl.getD i default).s ++ numT (sl.getD i default).q ++ ⟨#[58]⟩ ++ numT (sl.getD i default).p := by
  rw [jn_s1 hi, if_pos h0, sltT_n hs]
  simp only [ByteArray.append_assoc]
  subst h0; rfl
theorem t8_d {sl : List Slot} {i : Nat} (hi : i < sl.length) (h0 : i ≠ 0) (hs : (sl.getD i default).s ≠ 0) : jnS (sltL sl) (i + 1) = jnS (sltL sl) i ++ spB ++ letB (sl.getD i default).s ++ numT (sl.getD i default).q ++ ⟨#[58]⟩ ++ numT (sl.getD i default).p := by
  rw [jn_s1 hi, if_neg h0, sltT_n hs]
  simp only [ByteArray.append_assoc]
end Go.Rf

/- The join: structs with slices, and slices of slices, read as the contracts want them. -/
set_option linter.unusedVariables false
set_option linter.unusedSectionVars false
set_option linter.unusedSimpArgs false
namespace Go.Rf
open Go Go.ChangeShapes Go.WideShapes Go.Deep Go.ChangeAt Go.RowKit
section
variable {H : Type} {enc : TypeId × Value → H} {P : Program} {w : World} {base : Nat} {spare : Nat → Bool} {held : Bool} {t e e2 : TypeId}
theorem row_of_trod {cs : List Value} {n : Nat} {x : DataW H × List MemPlace} {E : EK} (ht : P.underlying t = some (.slice e)) (hE : E.Fits P e) (hsz : E.sz ≠ 0) (hf : DataW.trod enc P w base spare held n t cs = some x) :
    ∃ (v : Value) (ys : List (List Value)), cs = [v] ∧ v.oneCell' = true ∧ ReadsAt w E.sz ys v ∧ ys.length ≤ maxLen ∧ ∀ c ∈ ys, CellsOK E.ks c := by
  rcases open_slice ht hf with ⟨hcs, _⟩ | ⟨a', len, cap, m, n, D, Pl, hcs, hb, hl, hm, hmm, hx, hi⟩
  · exact ⟨_, [], hcs, rfl, ⟨none, 0, rfl, Nat.le_refl _, by simp, by simp⟩, by simp, by simp⟩
  · have hlm : len ≤ m := by rw [hmm]; split <;> omega
    rw [hE.cells] at hi
    let ys := (List.range len).map fun i => (w.cells? base (a'.add (i * E.sz)) E.sz).getD []
    have hget : ∀ i c, ys[i]? = some c → i < len ∧ w.cells? base (a'.add (i * E.sz)) E.sz = some c ∧ CellsOK E.ks c := by
      intro i c hic
      simp only [ys, List.getElem?_map] at hic
      rcases Nat.lt_or_ge i len with hlt | hge
      · obtain ⟨cs', h1, h2⟩ := hi i (by omega)
        rw [List.getElem?_range hlt] at hic
        simp [h1] at hic
        subst hic
        exact ⟨hlt, h1, hE.trod h2⟩
      · rw [List.getElem?_eq_none (by simpa using hge)] at hic
        cases hic
    have hlen : ys.length = len := by simp [ys]
    refine ⟨_, ys, hcs, rfl, ⟨some a', cap, by rw [hlen], by omega, fun c hc => ?_, fun h0 => ⟨a', rfl, ?_, fun i c hic j u hju => ?_⟩⟩, by omega, fun c hc => ?_⟩
    · obtain ⟨i, hic⟩ := List.getElem?_of_mem hc
      obtain ⟨_, h1, h2⟩ := hget i c hic
      exact ⟨(World.cells?_some h1).2.1, h2.len.2⟩
    · obtain ⟨cs', h1, _⟩ := hi 0 (by omega)
      obtain ⟨_, h2, h3⟩ := World.cells?_some h1
      have h4 := h3 0 (by omega)
      rw [List.getElem?_eq_getElem (by omega)] at h4
      have := cell_block h4
      simpa [Addr.add] using this
    · obtain ⟨_, h1, _⟩ := hget i c hic
      obtain ⟨_, h2, h3⟩ := World.cells?_some h1
      have hj : j < c.length := (List.getElem?_eq_some_iff.1 hju).1
      rw [← hju, ← h3 j (by omega)]
      rw [← Go.Deep.add_add]
    · obtain ⟨i, hic⟩ := List.getElem?_of_mem hc
      exact (hget i c hic).2.2
theorem fields_of_trod {cs : List Value} {n : Nat} {x : DataW H × List MemPlace} {fs : Array Field} (hs : P.underlying t = some (.struct fs)) (hone : oneCellFields P fs = true) (hC : P.cellsOf t = fs.size)
    (h : DataW.trod enc P w base spare held n t cs = some x) : cs.length = fs.size ∧ ∀ (j : Nat) (f : Field), fs[j]? = some f → ∃ (v : Value) (n : Nat) (y : DataW H × List MemPlace), cs[j]? = some v ∧ DataW.trod enc P w base spare held n f.type [v] = some y := by
  obtain ⟨xs, n', _, _, hlen, hxl, hf⟩ := DataW.trod_struct hs h
  refine ⟨by rw [hlen, hC], fun j f hj => ?_⟩
  obtain ⟨ho, h1⟩ := hone_of hone j f hj
  have hjl : j < fs.size := (Array.getElem?_eq_some_iff.1 hj).1
  have h2 := hf j f hj
  have hjc : j < cs.length := by omega
  have e1 : (cs.drop f.offset).take (P.cellsOf f.type) = [cs[j]] := by
    rw [ho, h1, List.drop_eq_getElem_cons hjc]; rfl
  rw [e1, List.getElem?_eq_getElem (by omega)] at h2
  exact ⟨cs[j], n', _, List.getElem?_eq_getElem hjc, h2⟩
end
theorem RelVs_c {w : World} {x : AV} {v : Value} {as : List AV} {vs : List Value} (hr : RelV w noRho 0 x v) (h : RelVs w noRho 0 as vs) : RelVs w noRho 0 (x :: as) (v :: vs) := by
  simp only [RelVs]; exact ⟨v, vs, rfl, hr, h⟩
theorem of_O : ∀ c, CellsOK [.bool] c → ∃ x : Bool, c = encO x := by
  intro c h
  simp only [CellsOK, CellOK] at h
  obtain ⟨_, r0, rfl, ⟨n0, rfl⟩, h⟩ := h
  subst h
  exact ⟨n0, rfl⟩
theorem of_I : ∀ c, CellsOK [.int .i64] c → ∃ x : Int, c = encI x := by
  intro c h
  simp only [CellsOK, CellOK] at h
  obtain ⟨_, r0, rfl, ⟨n0, rfl, _⟩, h⟩ := h
  subst h
  exact ⟨n0, rfl⟩
end Go.Rf

/- The join: machines, read as the contracts want them. -/
set_option linter.unusedVariables false
set_option linter.unusedSectionVars false
set_option linter.unusedSimpArgs false
namespace Go.Rf
open Go Go.ChangeShapes Go.WideShapes Go.Deep Go.ChangeAt Go.RowKit
theorem of_Ro : ∀ c, CellsOK [.int .i64, .int .i64] c → ∃ x : Route, c = encRo x := by
  intro c h
  simp only [CellsOK, CellOK] at h
  obtain ⟨_, r0, rfl, ⟨n0, rfl, _⟩, _, r1, rfl, ⟨n1, rfl, _⟩, h⟩ := h
  subst h
  exact ⟨⟨n0, n1⟩, rfl⟩
theorem of_Wa : ∀ c, CellsOK [.int .i64, .int .i64] c → ∃ x : Wtr, c = encWa x := by
  intro c h
  simp only [CellsOK, CellOK] at h
  obtain ⟨_, r0, rfl, ⟨n0, rfl, _⟩, _, r1, rfl, ⟨n1, rfl, _⟩, h⟩ := h
  subst h
  exact ⟨⟨n0, n1⟩, rfl⟩
theorem of_Sl : ∀ c, CellsOK [.int .i64, .int .i64, .int .i64] c → ∃ x : Slot, c = encSl x := by
  intro c h
  simp only [CellsOK, CellOK] at h
  obtain ⟨_, r0, rfl, ⟨n0, rfl, _⟩, _, r1, rfl, ⟨n1, rfl, _⟩, _, r2, rfl, ⟨n2, rfl, _⟩, h⟩ := h
  subst h
  exact ⟨⟨n0, n1, n2⟩, rfl⟩
theorem list4 {α : Type} {l : List α} {a b c d : α} (h : l.length = 4) (h0 : l[0]? = some a) (h1 : l[1]? = some b) (h2 : l[2]? = some c) (h3 : l[3]? = some d) : l = [a, b, c, d] := by
  match l, h with
  | [a', b', c', d'], _ => simp at *; simp [*]
section
variable {H : Type} {enc : TypeId × Value → H} {P : Program} {w : World} {base : Nat} {spare : Nat → Bool} {held : Bool}
structure IfTy (P : Program) (t tI tQ tSl tWa eSl eWa : TypeId) (fI fQ fS fW : Array Field) : Prop where
  hs : P.underlying t = some (.struct fI)
  hf : fI.toList.map (fun f => (f.type, f.offset)) = [(3, 0), (tI, 1), (tQ, 2)]
  hC : P.cellsOf t = 4
  c3 : P.cellsOf 3 = 1
  cI : P.cellsOf tI = 1
  cQ : P.cellsOf tQ = 2
  hI : P.underlying tI = some (.slice 3)
  hQ : P.underlying tQ = some (.struct fQ)
  hoQ : oneCellFields P fQ = true
  hfQ : fQ.toList.map Field.type = [tSl, tWa]
  hSl : P.underlying tSl = some (.slice eSl)
  hWa : P.underlying tWa = some (.slice eWa)
  fi : (EK.one (.int .i64)).Fits P 3
  gS : (EK.str fS [.int .i64, .int .i64, .int .i64]).Fits P eSl
  gW : (EK.str fW [.int .i64, .int .i64]).Fits P eWa
  sS : fS.size = 3
  sW : fW.size = 2
theorem ifc_of_trod {t tI tQ tSl tWa eSl eWa : TypeId} {fI fQ fS fW : Array Field} (K : IfTy P t tI tQ tSl tWa eSl eWa fI fQ fS fW) {cs : List Value} {n : Nat} {x : DataW H × List MemPlace} (h : DataW.trod enc P w base spare held n t cs = some x) :
    ∃ (y : Ifc) (v1 v2 v3 : Value), cs = [.int .i64 y.ma, v1, v2, v3] ∧ (v1.oneCell' = true ∧ v2.oneCell' = true ∧ v3.oneCell' = true) ∧ ReadsAt w 1 (y.st.map encI) v1 ∧ ReadsAt w 3 (y.qu.sl.map encSl) v2 ∧ ReadsAt w 2 (y.qu.wa.map encWa) v3 ∧ BigI y := by
  obtain ⟨xs, n', _, _, hlen, hxl, hf⟩ := DataW.trod_struct K.hs h
  have h3 : fI.size = 3 := by have := congrArg List.length K.hf; simpa using this
  have hl4 : cs.length = 4 := by rw [hlen, K.hC]
  have hty : ∀ (j : Nat) (p : TypeId × Nat), [(3, 0), (tI, 1), (tQ, 2)][j]? = some p → ∃ y, DataW.trod enc P w base spare held n' p.1 ((cs.drop p.2).take (P.cellsOf p.1)) = some y := by
    intro j p hj
    rw [← K.hf, List.getElem?_map] at hj
    obtain ⟨f, hf1, rfl⟩ := Option.map_eq_some_iff.1 hj
    have hf1 : fI[j]? = some f := by simpa using hf1
    have hjl : j < fI.size := (Array.getElem?_eq_some_iff.1 hf1).1
    have h2 := hf j f hf1
    rw [List.getElem?_eq_getElem (by omega)] at h2
    exact ⟨_, h2⟩
  obtain ⟨y0, k0⟩ := hty 0 _ rfl
  obtain ⟨y1, k1⟩ := hty 1 _ rfl
  obtain ⟨y2, k2⟩ := hty 2 _ rfl
  match cs, hl4 with
  | [a, b, c, d], _ =>
    simp only [K.c3, K.cI, K.cQ, List.drop_zero, List.drop_succ_cons, List.take_succ_cons, List.take_zero] at k0 k1 k2
    obtain ⟨ma, hma⟩ := of_I _ (K.fi.trod k0)
    obtain ⟨v1, ys1, e1, o1, r1, b1, c1⟩ := row_of_trod K.hI K.fi (by decide) k1
    have hq2 : fQ.size = 2 := by have := congrArg List.length K.hfQ; simpa using this
    obtain ⟨_, hq⟩ := fields_of_trod K.hQ K.hoQ (by rw [K.cQ, hq2]) k2
    have htq : ∀ (j : Nat) (tj : TypeId), [tSl, tWa][j]? = some tj → ∃ (v : Value) (n : Nat) (y : DataW H × List MemPlace), [c, d][j]? = some v ∧ DataW.trod enc P w base spare held n tj [v] = some y := by
      intro j tj hj
      rw [← K.hfQ, List.getElem?_map] at hj
      obtain ⟨f, hf1, rfl⟩ := Option.map_eq_some_iff.1 hj
      exact hq j f (by simpa using hf1)
    obtain ⟨v2, n2, z2, g2, q2⟩ := htq 0 _ rfl
    obtain ⟨v3, n3, z3, g3, q3⟩ := htq 1 _ rfl
    obtain ⟨_, ys2, e2, o2, r2, b2, c2⟩ := row_of_trod K.hSl K.gS (by show fS.size ≠ 0; rw [K.sS]; decide) q2
    obtain ⟨_, ys3, e3, o3, r3, b3, c3⟩ := row_of_trod K.hWa K.gW (by show fW.size ≠ 0; rw [K.sW]; decide) q3
    cases e1; cases e2; cases e3
    simp at g2 g3
    subst g2; subst g3
    obtain ⟨x1, rfl⟩ := list_of of_I _ c1
    obtain ⟨x2, rfl⟩ := list_of of_Sl _ c2
    obtain ⟨x3, rfl⟩ := list_of of_Wa _ c3
    have r2 : ReadsAt w fS.size (x2.map encSl) c := r2
    have r3 : ReadsAt w fW.size (x3.map encWa) d := r3
    rw [K.sS] at r2
    rw [K.sW] at r3
    simp only [encI, List.cons.injEq, and_true] at hma
    refine ⟨⟨ma, x1, ⟨x2, x3⟩⟩, b, c, d, by rw [hma], ⟨o1, o2, o3⟩, r1, r2, r3, ?_⟩
    exact ⟨by simpa [maxLen] using b1, by simpa [maxLen] using b2, by simpa [maxLen] using b3⟩
theorem ifcs_of_trod (eS eW : TypeId) {t e tI tQ tSl tWa eSl eWa : TypeId} {fI fQ fS fW : Array Field} (ht : P.underlying t = some (.slice e)) (K : IfTy P e tI tQ tSl tWa eSl eWa fI fQ fS fW) {cs : List Value} {n : Nat} {x : DataW H × List MemPlace} (hf : DataW.trod enc P w base spare held n t cs = some x) :
    ∃ (v : Value) (xs : List Ifc), cs = [v] ∧ v.oneCell' = true ∧ NReadsAt w 4 (xs.map (encIf eS eW)) v ∧ xs.length ≤ maxLen ∧ ∀ y ∈ xs, BigI y := by
  rcases open_slice ht hf with ⟨hcs, _⟩ | ⟨a', len, cap, m, n, D, Pl, hcs, hb, hl, hm, hmm, hx, hi⟩
  · exact ⟨_, [], hcs, rfl, ⟨none, 0, rfl, Nat.le_refl _, by simp, by simp⟩, by simp, by simp⟩
  · have hlm : len ≤ m := by rw [hmm]; split <;> omega
    rw [K.hC] at hi
    have hx : ∀ i : Nat, ∃ y : Ifc, i < len → ∃ v1 v2 v3, (∀ k u, [Value.int .i64 y.ma, v1, v2, v3][k]? = some u → w.cell? (a'.add (i * 4 + k)) = some u) ∧ (v1.oneCell' = true ∧ v2.oneCell' = true ∧ v3.oneCell' = true) ∧ ReadsAt w 1 (y.st.map encI) v1 ∧ ReadsAt w 3 (y.qu.sl.map encSl) v2 ∧ ReadsAt w 2 (y.qu.wa.map encWa) v3 ∧ BigI y := by
      intro i
      by_cases hlt : i < len
      · obtain ⟨cs', h1, h2⟩ := hi i (by omega)
        obtain ⟨y, v1, v2, v3, rfl, h3, h4, h5, h6, h7⟩ := ifc_of_trod K h2
        obtain ⟨_, h8, h9⟩ := World.cells?_some h1
        refine ⟨y, fun _ => ⟨v1, v2, v3, fun k u hk => ?_, h3, h4, h5, h6, h7⟩⟩
        have hk4 : k < 4 := by have := (List.getElem?_eq_some_iff.1 hk).1; simpa using this
        have := h9 k hk4
        rw [← hk, ← this, ← Go.Deep.add_add]
      · exact ⟨⟨0, [], ⟨[], []⟩⟩, fun h => absurd h hlt⟩
    let f : Nat → Ifc := fun i => Classical.choose (hx i)
    have hfs : ∀ i, i < len → ∃ v1 v2 v3, (∀ k u, [Value.int .i64 (f i).ma, v1, v2, v3][k]? = some u → w.cell? (a'.add (i * 4 + k)) = some u) ∧ (v1.oneCell' = true ∧ v2.oneCell' = true ∧ v3.oneCell' = true) ∧ ReadsAt w 1 ((f i).st.map encI) v1 ∧ ReadsAt w 3 ((f i).qu.sl.map encSl) v2 ∧ ReadsAt w 2 ((f i).qu.wa.map encWa) v3 ∧ BigI (f i) := fun i => Classical.choose_spec (hx i)
    refine ⟨_, (List.range len).map f, hcs, rfl, ⟨some a', cap, by simp, by simp; omega, fun c hc => ?_, fun h0 => ⟨a', rfl, ?_, fun i k c hik => ?_⟩⟩, by simp; omega, fun y hy => ?_⟩
    · simp only [List.mem_map] at hc; obtain ⟨_, _, rfl⟩ := hc; rfl
    · have h0 : 0 < len := by simpa using h0
      obtain ⟨v1, v2, v3, h1, _⟩ := hfs 0 h0
      have := cell_block (h1 0 _ rfl)
      simpa [Addr.add] using this
    · simp only [nget, List.getElem?_map, List.map_map] at hik
      rcases Nat.lt_or_ge i len with hlt | hge
      · rw [List.getElem?_range hlt] at hik
        obtain ⟨v1, v2, v3, h1, ⟨o1, o2, o3⟩, r1, r2, r3, _⟩ := hfs i hlt
        match k with
        | 0 => simp [encIf] at hik; subst hik; exact ⟨_, h1 0 _ rfl, rfl, rfl⟩
        | 1 => simp [encIf] at hik; subst hik; exact ⟨_, h1 1 _ rfl, o1, r1⟩
        | 2 => simp [encIf] at hik; subst hik; exact ⟨_, h1 2 _ rfl, o2, r2⟩
        | 3 => simp [encIf] at hik; subst hik; exact ⟨_, h1 3 _ rfl, o3, r3⟩
        | k + 4 => simp [encIf] at hik
      · rw [List.getElem?_eq_none (by simpa using hge)] at hik
        cases hik
    · simp only [List.mem_map, List.mem_range] at hy
      obtain ⟨i, hi, rfl⟩ := hy
      obtain ⟨_, _, _, _, _, _, _, _, h⟩ := hfs i hi
      exact h
end
end Go.Rf

/- The join: consoles, read as the contracts want them. -/
set_option linter.unusedVariables false
set_option linter.unusedSectionVars false
set_option linter.unusedSimpArgs false
namespace Go.Rf
open Go Go.ChangeShapes Go.WideShapes Go.Deep Go.ChangeAt Go.RowKit
theorem of_Lgc : ∀ c, CellsOK [.str, .str, .int .i64] c → ∃ x : Lg, c = encLc x ∧ x.d.size ≤ 9223372036854775807 ∧ x.p.size ≤ 9223372036854775807 := by
  intro c h
  simp only [CellsOK, CellOK] at h
  obtain ⟨_, r0, rfl, ⟨n0, rfl, z0⟩, _, r1, rfl, ⟨n1, rfl, z1⟩, _, r2, rfl, ⟨n2, rfl, _⟩, h⟩ := h
  subst h
  exact ⟨⟨n0, n1, n2⟩, rfl, by simpa [maxLen] using z0, by simpa [maxLen] using z1⟩
section
variable {H : Type} {enc : TypeId × Value → H} {P : Program} {w : World} {base : Nat} {spare : Nat → Bool} {held : Bool}
theorem mach_of_trod (eS eW : TypeId) {t tR tB tC eR eB tIf tI tQ tSl tWa eSl eWa : TypeId} {fs fR fI fQ fS fW : Array Field}
    (hs : P.underlying t = some (.struct fs)) (hone : oneCellFields P fs = true) (hC : P.cellsOf t = fs.size) (hfs : fs.toList.map Field.type = [tR, tB, tB, tC])
    (hR : P.underlying tR = some (.slice eR)) (hB : P.underlying tB = some (.slice eB)) (hCp : P.underlying tC = some (.slice tIf))
    (fB : (EK.one .bool).Fits P eB) (fRo : (EK.str fR [.int .i64, .int .i64]).Fits P eR) (sR : fR.size = 2) (K : IfTy P tIf tI tQ tSl tWa eSl eWa fI fQ fS fW)
    {cs : List Value} {n : Nat} {x : DataW H × List MemPlace} (h : DataW.trod enc P w base spare held n t cs = some x) :
    ∃ (m : Mach) (v0 v1 v2 v3 : Value), cs = [v0, v1, v2, v3] ∧ ReadsAt w 2 (m.rs.map encRo) v0 ∧ ReadsAt w 1 (m.en.map encO) v1 ∧ ReadsAt w 1 (m.ra.map encO) v2 ∧ NReadsAt w 4 (m.cp.map (encIf eS eW)) v3 ∧ BigM m := by
  obtain ⟨hl, hf⟩ := fields_of_trod (cs := cs) hs hone hC h
  have h4 : fs.size = 4 := by have := congrArg List.length hfs; simpa using this
  have hty : ∀ (j : Nat) (tj : TypeId), [tR, tB, tB, tC][j]? = some tj → ∃ (v : Value) (n : Nat) (y : DataW H × List MemPlace), cs[j]? = some v ∧ DataW.trod enc P w base spare held n tj [v] = some y := by
    intro j tj hj
    rw [← hfs, List.getElem?_map] at hj
    obtain ⟨f, hf1, rfl⟩ := Option.map_eq_some_iff.1 hj
    exact hf j f (by simpa using hf1)
  obtain ⟨v0, n0, y0, g0, k0⟩ := hty 0 _ rfl
  obtain ⟨v1, n1, y1, g1, k1⟩ := hty 1 _ rfl
  obtain ⟨v2, n2, y2, g2, k2⟩ := hty 2 _ rfl
  obtain ⟨v3, n3, y3, g3, k3⟩ := hty 3 _ rfl
  obtain rfl := list4 (by omega) g0 g1 g2 g3
  obtain ⟨_, ys0, e0, _, r0, b0, o0⟩ := row_of_trod hR fRo (by show fR.size ≠ 0; rw [sR]; decide) k0
  obtain ⟨_, ys1, e1, _, r1, b1, o1⟩ := row_of_trod hB fB (by decide) k1
  obtain ⟨_, ys2, e2, _, r2, b2, o2⟩ := row_of_trod hB fB (by decide) k2
  obtain ⟨_, xs3, e3, _, r3, b3, o3⟩ := ifcs_of_trod eS eW hCp K k3
  cases e0; cases e1; cases e2; cases e3
  obtain ⟨x0, rfl⟩ := list_of of_Ro _ o0
  obtain ⟨x1, rfl⟩ := list_of of_O _ o1
  obtain ⟨x2, rfl⟩ := list_of of_O _ o2
  have r0 : ReadsAt w fR.size (x0.map encRo) v0 := r0
  rw [sR] at r0
  refine ⟨⟨x0, x1, x2, xs3⟩, v0, v1, v2, v3, rfl, r0, r1, r2, r3, ?_⟩
  exact ⟨by simpa [maxLen] using b0, by simpa [maxLen] using b1, by simpa [maxLen] using b2, by simpa [maxLen] using b3, fun i hi => by
      have hi : i < xs3.length := hi
      show BigI (xs3.getD i default)
      rw [List.getD_eq_getElem?_getD, List.getElem?_eq_getElem hi]
      exact o3 _ (List.getElem_mem hi)⟩
theorem reads_cons (eS eW : TypeId) {b0 : Nat} {r : Reach} {t tM tL tR tB tC eR eB tIf tI tQ tSl tWa eSl eWa : TypeId} {fc fs fL fR fI fQ fS fW : Array Field} {v : Value} {d : DataW H} {p : List MemPlace}
    (hc : P.underlying t = some (.struct fc)) (hfc : fc.toList.map (fun f => (f.type, f.offset)) = [(tM, 0), (tL, 4)]) (hCc : P.cellsOf t = 7) (cM : P.cellsOf tM = 4) (cL : P.cellsOf tL = 3)
    (hs : P.underlying tM = some (.struct fs)) (hone : oneCellFields P fs = true) (hC : P.cellsOf tM = fs.size) (hfs : fs.toList.map Field.type = [tR, tB, tB, tC])
    (hR : P.underlying tR = some (.slice eR)) (hB : P.underlying tB = some (.slice eB)) (hCp : P.underlying tC = some (.slice tIf))
    (fB : (EK.one .bool).Fits P eB) (fRo : (EK.str fR [.int .i64, .int .i64]).Fits P eR) (sR : fR.size = 2) (K : IfTy P tIf tI tQ tSl tWa eSl eWa fI fQ fS fW)
    (gL : (EK.str fL [.str, .str, .int .i64]).Fits P tL)
    (hv : Value.okWide P w r b0 t v) (h : DataW.Trod enc P w base spare held t v d p) :
    ∃ (m : Mach) (x : Lg), RelV w noRho 0 (.agg [.lst 2 (m.rs.map encRo), .lst 1 (m.en.map encO), .lst 1 (m.ra.map encO), .nst none 4 (m.cp.map (encIf eS eW)), .v (.string x.d), .v (.string x.p), .v (.int .i64 x.n)]) v ∧ BigM m ∧ (x.d.size ≤ 9223372036854775807 ∧ x.p.size ≤ 9223372036854775807) := by
  obtain ⟨⟨l⟩, rfl, hsz⟩ := okWide_struct hc hv
  obtain ⟨fuel, hf⟩ := h
  obtain ⟨xs, n', _, _, hlen, hxl, hfx⟩ := DataW.trod_struct hc (by simpa [Value.cells] using hf)
  have h2 : fc.size = 2 := by have := congrArg List.length hfc; simpa using this
  have hl7 : l.length = 7 := by rw [← hCc]; simpa using hlen
  have hty : ∀ (j : Nat) (p : TypeId × Nat), [(tM, 0), (tL, 4)][j]? = some p → ∃ y, DataW.trod enc P w base spare held n' p.1 ((l.drop p.2).take (P.cellsOf p.1)) = some y := by
    intro j p hj
    rw [← hfc, List.getElem?_map] at hj
    obtain ⟨f, hf1, rfl⟩ := Option.map_eq_some_iff.1 hj
    have hf1 : fc[j]? = some f := by simpa using hf1
    have hjl : j < fc.size := (Array.getElem?_eq_some_iff.1 hf1).1
    have h2 := hfx j f hf1
    rw [List.getElem?_eq_getElem (by omega)] at h2
    exact ⟨_, h2⟩
  obtain ⟨y0, k0⟩ := hty 0 _ rfl
  obtain ⟨y1, k1⟩ := hty 1 _ rfl
  match l, hl7 with
  | [a, b, c, d, e, f, g], _ =>
    simp only [cM, cL, List.drop_zero, List.drop_succ_cons, List.take_succ_cons, List.take_zero] at k0 k1
    obtain ⟨m, v0, v1, v2, v3, e0, r0, r1, r2, r3, hb⟩ := mach_of_trod eS eW hs hone hC hfs hR hB hCp fB fRo sR K k0
    obtain ⟨x, hx, hz⟩ := of_Lgc _ (gL.trod k1)
    cases e0
    simp only [encLc, List.cons.injEq, and_true] at hx
    obtain ⟨rfl, rfl, rfl⟩ := hx
    refine ⟨m, x, ?_, hb, hz⟩
    simp only [RelV, RelVs]
    exact ⟨_, rfl, _, _, rfl, r0, _, _, rfl, r1, _, _, rfl, r2, _, _, rfl, ⟨by simp, r3⟩, _, _, rfl, rfl, _, _, rfl, rfl, _, _, rfl, rfl, rfl⟩
end
end Go.Rf

/- What stands in a valid log; what the log's functions give. -/
set_option linter.unusedVariables false
set_option linter.unusedSimpArgs false
set_option linter.unusedSectionVars false
namespace Go.Rf
open Go Go.RowKit
theorem logN_le {s : ByteArray} : logN s ≤ 60 ∧ posN s (logN s) ≤ s.size ∧ posN s (logN s) ≤ 25380 := by
  have h := pos_le (logN_ok (s := s)).1
  have h2 := posN_big (logN_ok (s := s)).1
  omega
theorem ends_at {s : ByteArray} : (pre (posI s) (logN s + 1)).getD (((pre (recN s) (logN s)).length : Int)).toNat default = posI s (logN s) := by
  rw [pre_len]
  exact pre_getD (Nat.lt_succ_self _)
theorem recs_len {s : ByteArray} : ((pre (recN s) (logN s)).length : Int) = logN s := by rw [pre_len]
/-! RecoverLog -/
/-! equality, sizes -/
def eqL (x y : Lg) : Bool := x.d.toList == y.d.toList && x.p.toList == y.p.toList && x.n == y.n
def szLg (x : Lg) (l : Int) : Int := if l - x.d.size < 0 then -1 else if l - x.d.size - x.p.size < 0 then -1 else l - x.d.size - x.p.size
theorem eqL_self {x : Lg} : eqL x x = true := by simp [eqL]
/-! valid logs -/
theorem okLg_f1 {x : Lg} (h : 30000 < x.d.size + x.p.size) : okLg x = false := by
  rw [okLg, decide_eq_false (by omega)]; rfl
theorem okLg_f2 {x : Lg} (h : ¬ posN (x.d ++ x.p) (logN (x.d ++ x.p)) = x.d.size + x.p.size) : okLg x = false := by
  rw [okLg, decide_eq_false h, Bool.and_false]; rfl
theorem okLg_f3 {x : Lg} (h : ¬ posN x.d (logN x.d) = x.d.size) : okLg x = false := by
  rw [okLg, decide_eq_false h, Bool.and_false]; rfl
theorem okLg_f4 {x : Lg} (h : ¬ (logN (x.d ++ x.p) : Int) = x.n) : okLg x = false := by
  rw [okLg, decide_eq_false h, Bool.and_false]
theorem okLg_t {x : Lg} (h0 : x.d.size + x.p.size ≤ 30000) (h1 : posN (x.d ++ x.p) (logN (x.d ++ x.p)) = x.d.size + x.p.size) (h2 : posN x.d (logN x.d) = x.d.size) (h3 : (logN (x.d ++ x.p) : Int) = x.n) : okLg x = true := by
  rw [okLg, decide_eq_true h0, decide_eq_true h1, decide_eq_true h2, decide_eq_true h3]; rfl
theorem okLg_v {x : Lg} (h0 : x.d.size + x.p.size ≤ 30000) (h1 : posN (x.d ++ x.p) (logN (x.d ++ x.p)) = x.d.size + x.p.size) (h2 : posN x.d (logN x.d) = x.d.size) : okLg x = decide ((logN (x.d ++ x.p) : Int) = x.n) := by
  rw [okLg, decide_eq_true h0, decide_eq_true h1, decide_eq_true h2]; rfl
theorem okLg_ok {x : Lg} (h : okLg x = true) : x.d.size + x.p.size ≤ 30000 ∧ posN x.d (logN x.d) = x.d.size ∧ 0 ≤ x.n ∧ x.n ≤ 60 := by
  simp only [okLg, Bool.and_eq_true, decide_eq_true_eq] at h
  have := logN_le (s := x.d ++ x.p)
  omega
theorem okLg_some {x : Lg} {j : Nat} (h1 : posN (x.d ++ x.p) (logN (x.d ++ x.p)) = x.d.size + x.p.size) (h2 : (logN (x.d ++ x.p) : Int) = x.n) (hj : j ≤ logN (x.d ++ x.p)) (hp : posN (x.d ++ x.p) j = x.d.size) : okLg x = true := by
  have hl := logN_le (s := x.d ++ x.p)
  obtain ⟨h3, h4⟩ := log_down (D := x.d) (P := x.p) (n := j) (fun i hi => logN_ok.1 i (by omega)) (by omega)
  have h5 : logN x.d = j := logN_eq h3 (okN_f1 (by omega))
  exact okLg_t (by omega) h1 (by rw [h5]; omega) h2
theorem okLg_none {x : Lg} (h : ∀ j, j < logN (x.d ++ x.p) + 1 → ¬ posN (x.d ++ x.p) j = x.d.size) : okLg x = false := by
  cases he : okLg x with
  | false => rfl
  | true =>
    exfalso
    have h2 := (okLg_ok he).2.1
    obtain ⟨h3, h4⟩ := log_up (D := x.d) (P := x.p) (n := logN x.d) logN_ok.1
    refine h (logN x.d) ?_ (by omega)
    rcases Nat.lt_or_ge (logN x.d) (logN (x.d ++ x.p) + 1) with h5 | h5
    · exact h5
    · have h6 := h3 (logN (x.d ++ x.p)) (by omega)
      rw [logN_ok.2] at h6
      cases h6
/-! SyncLog, AppendRecord -/
end Go.Rf

/- Consoles: sizes, equality, validity, and the text of a console. -/
set_option linter.unusedVariables false
set_option linter.unusedSectionVars false
set_option linter.unusedSimpArgs false
namespace Go.Rf
open Go Go.RowKit
theorem szMa_in {m : Mach} {l : Int} (hl : 0 ≤ l ∧ l ≤ 1048576) (h : ¬ szMa m l < 0) : 0 ≤ szMa m l ∧ szMa m l ≤ 1048576 := by
  have hs := @sumI_nn m.cp m.cp.length
  refine ⟨by omega, ?_⟩
  unfold szMa szFS szL
  (repeat' split) <;> omega
def szCo (m : Mach) (x : Lg) (l : Int) : Int := if szMa m l < 0 then -1 else if szLg x (szMa m l) < 0 then -1 else szLg x (szMa m l)
theorem szCo_small {m : Mach} {x : Lg} {l : Int} (hl : 0 ≤ l ∧ l ≤ 1048576) (h : ¬ szCo m x l < 0) : SmallM m ∧ x.d.size + x.p.size ≤ 1048576 := by
  have h1 : ¬ szMa m l < 0 := fun g => by rw [szCo, if_pos g] at h; omega
  have h2 := szMa_in hl h1
  rw [szCo, if_neg h1] at h
  have h3 : ¬ szLg x (szMa m l) < 0 := fun g => by rw [if_pos g] at h; omega
  refine ⟨szMa_small hl h1, ?_⟩
  simp only [szLg] at h3
  split at h3
  · omega
  · split at h3 <;> omega
def eqCo (m : Mach) (x : Lg) (n : Mach) (y : Lg) : Bool := eqMa m n && eqL x y
theorem eqCo_self {m : Mach} {x : Lg} : eqCo m x m x = true := by rw [eqCo, eqMa_iff.mpr rfl, eqL_self]; rfl
def okCo (m : Mach) (x : Lg) : Bool := okMa m && okLg x
theorem okCo_1 {m : Mach} {x : Lg} (h : okMa m = false) : okCo m x = false := by rw [okCo, h]; rfl
theorem okCo_2 {m : Mach} {x : Lg} (h : okMa m = true) : okCo m x = okLg x := by rw [okCo, h]; rfl
/-! the text -/
def wqS (q : Que) (i : Nat) : List Int := (q.wa.take i).map (fun w => w.q)
def wqL (q : Que) : List Int := q.wa.map (fun w => w.q)
theorem wqS_succ {q : Que} {i : Nat} (h : i < q.wa.length) : wqS q (i + 1) = wqS q i ++ [(q.wa.getD i default).q] := by
  rw [wqS, wqS, List.take_add_one, List.getElem?_eq_getElem h, List.getD_eq_getElem?_getD, List.getElem?_eq_getElem h, Option.toList_some, List.map_append]
  rfl
theorem wqS_all {q : Que} {i : Nat} (h : q.wa.length ≤ i) : wqS q i = wqL q := by rw [wqS, List.take_of_length_le h]; rfl
theorem wqS_len {q : Que} {i : Nat} : (wqS q i).length ≤ q.wa.length := by rw [wqS, List.length_map, List.length_take]; omega
theorem wqL_len {q : Que} : (wqL q).length = q.wa.length := List.length_map _
theorem wqL_get {q : Que} {i : Nat} (h : i < q.wa.length) : (wqL q).getD i default = (q.wa.getD i default).q := by
  rw [wqL, List.getD_eq_getElem?_getD, List.getD_eq_getElem?_getD, List.getElem?_map, List.getElem?_eq_getElem h]; rfl
theorem wq_ok {q : Que} (h : QF q) : ∀ i, i < (wqL q).length → numOK ((wqL q).getD i default) := fun i hi => by
  rw [wqL_len] at hi
  rw [wqL_get hi]
  have := (h.wa _ (mem_getD.mpr ⟨i, hi, rfl⟩)).1
  exact ⟨by omega, by omega⟩
def sC0 : ByteArray := ⟨#[99, 112, 117, 32]⟩
def sC1 : ByteArray := ⟨#[58, 32, 109, 97, 115, 107, 32]⟩
def sC2 : ByteArray := ⟨#[44, 32, 115, 108, 111, 116, 115, 32]⟩
def sC3 : ByteArray := ⟨#[44, 32, 119, 97, 105, 116, 105, 110, 103, 32]⟩
def sC4 : ByteArray := ⟨#[10]⟩
def sC5 : ByteArray := ⟨#[114, 101, 99, 111, 114, 100, 115, 32]⟩
def lineC (k : Nat) (x : Ifc) : ByteArray := sC0 ++ numT (k : Int) ++ sC1 ++ numT x.ma ++ sC2 ++ sltsT x.qu.sl ++ sC3 ++ lstT (wqL x.qu) ++ sC4
def fmtC (m : Mach) : Nat → ByteArray
  | 0 => ⟨#[]⟩
  | k + 1 => fmtC m k ++ lineC k (m.cp.getD k default)
theorem fmtC_succ {m : Mach} {k : Nat} : fmtC m (k + 1) = fmtC m k ++ lineC k (m.cp.getD k default) := rfl
theorem fmtC_spec {m : Mach} {k : Nat} : fmtC m (k + 1) = fmtC m k ++ sC0 ++ numT (k : Int) ++ sC1 ++ numT (m.cp.getD k default).ma ++ sC2 ++ sltsT (m.cp.getD k default).qu.sl ++ sC3 ++ lstT (wqL (m.cp.getD k default).qu) ++ sC4 := by
  rw [fmtC_succ, lineC]
  simp only [ByteArray.append_assoc]
theorem slts_size {sl : List Slot} (h : SlF sl) : (sltsT sl).size ≤ 192 := by
  have := sltL_size (sl_ok h) sl.length (Nat.le_refl _)
  rw [sltsT, jnA, sltL_len]
  have := h.len
  omega
theorem wl_size {q : Que} (h : QF q) : (lstT (wqL q)).size ≤ 202 := by
  have := lstT_size (wq_ok h)
  rw [wqL_len] at this
  have := h.wn
  omega
theorem nt21 {n : Int} (h : numOK n) : (numT n).size ≤ 21 := numT_size (by have := h.1; omega) h.2
theorem lineC_size {k : Nat} {x : Ifc} (hk : k ≤ 1048576) (hx : IfF x) (hm : numOK x.ma) : (lineC k x).size ≤ 600 := by
  have h1 := nt21 (n := (k : Int)) ⟨by omega, by omega⟩
  have h2 := nt21 hm
  have h3 := slts_size hx.qu.sl
  have h4 := wl_size hx.qu
  have e0 : sC0.size = 4 := rfl
  have e1 : sC1.size = 7 := rfl
  have e2 : sC2.size = 8 := rfl
  have e3 : sC3.size = 10 := rfl
  have e4 : sC4.size = 1 := rfl
  simp only [lineC, ByteArray.size_append]
  omega
theorem fmtC_size {m : Mach} (h : MaF m) : ∀ k, k ≤ m.cp.length → (fmtC m k).size ≤ k * 600
  | 0, _ => Nat.zero_le _
  | k + 1, hk => by
    have ih := fmtC_size h k (by omega)
    obtain ⟨hI, _, hm, _⟩ := h.ok k (by omega)
    have hn := h.n
    have hl := lineC_size (k := k) (by omega) hI ⟨by omega, by omega⟩
    rw [fmtC_succ, ByteArray.size_append]
    omega
def fmtT (m : Mach) (x : Lg) : ByteArray × Bool := if okCo m x then (fmtC m m.cp.length ++ sC5 ++ numT x.n ++ sC4, true) else (⟨#[]⟩, false)
theorem fmtT_t {m : Mach} {x : Lg} (h : okCo m x = true) : fmtT m x = (fmtC m m.cp.length ++ sC5 ++ numT x.n ++ sC4, true) := if_pos h
theorem fmtT_f {m : Mach} {x : Lg} (h : okCo m x = false) : fmtT m x = (⟨#[]⟩, false) := if_neg (by rw [h]; exact Bool.false_ne_true)
theorem okCo_t {m : Mach} {x : Lg} (h : okCo m x = true) : okMa m = true ∧ okLg x = true := by
  rw [okCo, Bool.and_eq_true] at h; exact h
end Go.Rf

/- A struct that came in, between two operations: its slices with their values. -/
set_option linter.unusedVariables false
set_option linter.unusedSimpArgs false
set_option linter.unusedSectionVars false
namespace Go.Rf
open Go Go.RowKit
section
variable {P : Program} {w0 : Base} {ops : Array Oper} {o : Oper} {rest : List Oper} {T : List (Nat × AV)} {m : List (Nat × Option Row)} {nx nt : Nat} {Q : Exit → St → Prop}
theorem WX_pinS (t : Nat) {cs : List AV} (ht : look t T = some (.agg cs)) {rs : (Nat → Value) → List AV} (hr : ∀ u, pinF cs u 0 [] = some (rs u)) (h : ∀ u, WX P w0 ops o rest ⟨(t, .agg (rs u)) :: T, m, nx, nt⟩ Q) : WX P w0 ops o rest ⟨T, m, nx, nt⟩ Q := by
  intro ρ a w hT hC
  have h1 := hT.tmps t _ ht
  simp only [RelV] at h1
  obtain ⟨us, he, h1⟩ := h1
  let u : Nat → Value := fun i => us.getD i undef
  refine h u ρ a w ⟨fun i x hi => ?_, hT.size, hT.defers⟩ hC
  by_cases e : i = t
  · subst e
    rw [look_cons_same] at hi
    cases hi
    simp only [RelV]
    exact ⟨us, he, by simpa using pinF_spec (acc' := []) (hr u) h1 (fun j y hj => by simp only [u, Nat.zero_add, List.getD_eq_getElem?_getD, hj, Option.getD_some]) (by simp [RelVs])⟩
  · rw [look_cons_other (fun e' => e e'.symm)] at hi
    exact hT.tmps i x hi
end
end Go.Rf

/- How branches of a walk are read: one name for the rules. -/
set_option linter.unusedVariables false
namespace Go.Rf
theorem rfb :
    ((∀ (p : Prop) [Decidable p], (decide p = true) = p) ∧ (∀ (p : Prop) [Decidable p], (decide p = false) ↔ ¬p) ∧
    (∀ {α : Type} [BEq α] [LawfulBEq α] {a b : α}, a == b ↔ a = b) ∧ (∀ {α : Type} [BEq α] [LawfulBEq α] {a b : α}, a != b ↔ a ≠ b) ∧ (∀ {α : Type} (a b : α), (a ≠ b) = ¬(a = b))) ∧
    ((∀ b : Bool, ((!b) = true) = (b = false)) ∧ (∀ b : Bool, ((!b) = false) = (b = true)) ∧
    (∀ {α : Type} [BEq α] [LawfulBEq α] {a b : α}, (a == b) = false ↔ a ≠ b) ∧ (∀ {α : Type} [BEq α] [LawfulBEq α] {a b : α}, (a != b) = false ↔ a = b) ∧
    (∀ b : Bool, (¬(b = true)) = (b = false)) ∧ (∀ b : Bool, (¬(b = false)) = (b = true))) ∧
    ((∀ {a b : Int}, ¬(a < b) ↔ b ≤ a) ∧ (∀ {a b : Int}, ¬(a ≤ b) ↔ b < a) ∧ (∀ {a b : Int}, a > b ↔ b < a) ∧ (∀ {a b : Int}, a ≥ b ↔ b ≤ a)) ∧
    ((∀ a b : Bool, ((a && b) = true) = (a = true ∧ b = true)) ∧ (∀ {a b : Bool}, (a && b) = false ↔ a = false ∨ b = false) ∧ (∀ a b : Bool, ((a || b) = true) = (a = true ∨ b = true)) ∧ (∀ {a b : Bool}, (a || b) = false ↔ a = false ∧ b = false)) :=
  ⟨⟨fun p _ => decide_eq_true_eq, fun p _ => decide_eq_false_iff_not, beq_iff_eq, bne_iff_ne, fun a b => ne_eq a b⟩, ⟨Bool.not_eq_true', Bool.not_eq_false', beq_eq_false_iff_ne, bne_eq_false_iff_eq, Bool.not_eq_true, Bool.not_eq_false⟩, ⟨Int.not_lt, Int.not_le, gt_iff_lt, ge_iff_le⟩, ⟨Bool.and_eq_true, Bool.and_eq_false_iff, Bool.or_eq_true, Bool.or_eq_false_iff⟩⟩
end Go.Rf
