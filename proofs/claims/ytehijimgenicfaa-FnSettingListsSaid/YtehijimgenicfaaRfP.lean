/- Folds over the places of a list. -/
import Derived.Test.YtehijimgenicfaaRfO
set_option linter.unusedVariables false
set_option linter.unusedSimpArgs false
set_option linter.unusedSectionVars false
namespace Go.Rf
open Go
def foldN {β : Type} (f : Nat → β → β) (b : β) : Nat → β
  | 0 => b
  | n + 1 => f n (foldN f b n)
theorem foldN_succ {β : Type} {f : Nat → β → β} {b : β} {n : Nat} : foldN f b (n + 1) = f n (foldN f b n) := rfl
theorem foldN_zero {β : Type} {f : Nat → β → β} {b : β} : foldN f b 0 = b := rfl
def cntN (p : Nat → Bool) (n : Nat) : Int := foldN (fun i c => if p i then c + 1 else c) 0 n
theorem cntN_zero {p : Nat → Bool} : cntN p 0 = 0 := rfl
theorem cntN_t {p : Nat → Bool} {n : Nat} (h : p n = true) : cntN p (n + 1) = cntN p n + 1 := by simp [cntN, foldN, h]
theorem cntN_f {p : Nat → Bool} {n : Nat} (h : p n = false) : cntN p (n + 1) = cntN p n := by simp [cntN, foldN, h]
theorem cntN_le (p : Nat → Bool) : ∀ n, 0 ≤ cntN p n ∧ cntN p n ≤ n
  | 0 => by simp [cntN, foldN]
  | n + 1 => by
    have := cntN_le p n
    cases h : p n
    · rw [cntN_f h]; omega
    · rw [cntN_t h]; omega
theorem cntN_congr {p q : Nat → Bool} : ∀ {n : Nat}, (∀ i, i < n → p i = q i) → cntN p n = cntN q n
  | 0, _ => rfl
  | n + 1, h => by
    have h1 := cntN_congr (fun i hi => h i (by omega)) (n := n)
    have h2 := h n (by omega)
    cases hq : q n
    · rw [cntN_f hq, cntN_f (by rw [h2, hq]), h1]
    · rw [cntN_t hq, cntN_t (by rw [h2, hq]), h1]
theorem Ctr.int {P : Program} [Env P] {f : FuncId} {args : List AV} {a b : Int} (h : Ctr P f args (.one (.v (.int .i64 a)))) (e : a = b) : Ctr P f args (.one (.v (.int .i64 b))) := e ▸ h
structure Sample where
  q : Int
  a : Int
  g : Int
  deriving Inhabited, DecidableEq
def encSc (x : Sample) : List Value := [.int .i64 x.q, .int .i64 x.a, .int .i64 x.g]
def encS (x : Sample) : Value := .agg ⟨encSc x⟩
def eqS (x y : Sample) : Bool := x.q == y.q && x.a == y.a && x.g == y.g
theorem eqS_iff {x y : Sample} : eqS x y = true ↔ x = y := by
  cases x; cases y; simp [eqS, and_assoc]
def okS (x : Sample) : Prop := (0 ≤ x.q ∧ x.q ≤ 7) ∧ 0 ≤ x.a ∧ x.a ≤ x.g ∧ x.g ≤ 100000
def oneS (xs : List Sample) (i : Nat) : Bool :=
  inside (xs.getD i default).q 0 7 && inside (xs.getD i default).a 0 100000 && inside (xs.getD i default).g (xs.getD i default).a 100000 && (decide (i = 0) || decide ((xs.getD (i - 1) default).g ≤ (xs.getD i default).g))
def goodS (xs : List Sample) : Bool := allN xs.length (oneS xs) && decide (xs.length ≤ 40)
def someS (xs : List Sample) : Bool := goodS xs && decide (0 < xs.length)
theorem goodS_ok {xs : List Sample} (h : goodS xs = true) : xs.length ≤ 40 ∧ ∀ i, i < xs.length → okS (xs.getD i default) := by
  simp only [goodS, Bool.and_eq_true, decide_eq_true_eq, allN_iff] at h
  refine ⟨h.2, fun i hi => ?_⟩
  have := h.1 i hi
  simp only [oneS, inside, Bool.and_eq_true, decide_eq_true_eq] at this
  unfold okS
  omega
def wStep (x : Sample) (p : Int × Int) : Int × Int := if p.2 < x.g - x.a ∨ (x.g - x.a = p.2 ∧ x.q < p.1) then (x.q, x.g - x.a) else p
def worst (xs : List Sample) : Int × Int := if someS xs then foldN (fun i p => wStep (xs.getD i default) p) (0, -1) xs.length else (0, 0)
theorem someS_good {xs : List Sample} (h : someS xs = true) : goodS xs = true := by
  simp only [someS, Bool.and_eq_true] at h
  exact h.1
def mStep (n t : Int) (p : Int × Int) : Int × Int := if p.1 < n ∨ (n = p.1 ∧ 0 < n ∧ t < p.2) then (n, t) else p
def bStep (t n : Int) (p : Int × Int) : Int × Int := if p.2 < n then (t, n) else p
def dStep (pl c d p : Int) : Int := if pl ≤ 100 * c ∧ (p < 0 ∨ d < p) then d else p
def mwN (xs : List Sample) (i : Nat) : Int := cntN (fun k => decide ((xs.getD k default).a ≤ (xs.getD i default).a) && decide ((xs.getD i default).a < (xs.getD k default).g)) xs.length
def bsN (xs : List Sample) (s : Int) (i : Nat) : Int := cntN (fun k => inside (xs.getD k default).g (xs.getD i default).g ((xs.getD i default).g + s - 1)) xs.length
def upN (xs : List Sample) (d : Int) : Int := cntN (fun k => decide ((xs.getD k default).g - (xs.getD k default).a ≤ d)) xs.length
def ooN (xs : List Sample) (i j : Nat) : Int := cntN (fun k => decide ((xs.getD (i + 1 + k) default).q = (xs.getD i default).q) && decide ((xs.getD (i + 1 + k) default).a < (xs.getD i default).a)) j
def mwT (xs : List Sample) : Int × Int := if someS xs then foldN (fun i p => mStep (mwN xs i) (xs.getD i default).a p) (0, 0) xs.length else (0, 0)
def bsT (xs : List Sample) (s : Int) : Int × Int × Bool := if someS xs && inside s 1 1000 then ((foldN (fun i p => bStep (xs.getD i default).g (bsN xs s i) p) (0, 0) xs.length).1, (foldN (fun i p => bStep (xs.getD i default).g (bsN xs s i) p) (0, 0) xs.length).2, true) else (0, 0, false)
def dlT (xs : List Sample) (s : Int) : Int × Bool := if someS xs && inside s 0 100 then (foldN (fun i p => dStep (s * xs.length) (upN xs ((xs.getD i default).g - (xs.getD i default).a)) ((xs.getD i default).g - (xs.getD i default).a) p) (-1) xs.length, true) else (0, false)
def ooT (xs : List Sample) : Int := if someS xs then foldN (fun i n => n + ooN xs i (xs.length - (i + 1))) 0 xs.length else 0
theorem oo_drop {xs : List Sample} {i : Nat} : cntN (fun k => decide (((xs.drop (i + 1)).getD k default).q = (xs.getD i default).q) && decide (((xs.drop (i + 1)).getD k default).a < (xs.getD i default).a)) (xs.drop (i + 1)).length = ooN xs i (xs.length - (i + 1)) := by
  rw [List.length_drop, ooN]
  refine cntN_congr fun k _ => ?_
  simp [List.getD_eq_getElem?_getD, List.getElem?_drop]
theorem cut_map {α : Type} {xs : List α} {f : α → List Value} {i : Nat} (h : i < xs.length) : ((xs.map f).drop ((((i : Int) + 1)).toNat)).take (((xs.map f).length : Int).toNat - (((i : Int) + 1)).toNat) = (xs.drop (i + 1)).map f := by
  have h1 : ((i : Int) + 1).toNat = i + 1 := by omega
  rw [h1, List.map_drop, List.take_of_length_le (by simp)]
theorem ooF_le (xs : List Sample) (h : xs.length ≤ 40) : ∀ i, i ≤ xs.length → 0 ≤ foldN (fun i n => n + ooN xs i (xs.length - (i + 1))) 0 i ∧ foldN (fun i n => n + ooN xs i (xs.length - (i + 1))) 0 i ≤ 40 * i
  | 0, _ => by simp [foldN]
  | i + 1, hi => by
    have h1 := ooF_le xs h i (by omega)
    have h2 := cntN_le (fun k => decide ((xs.getD (i + 1 + k) default).q = (xs.getD i default).q) && decide ((xs.getD (i + 1 + k) default).a < (xs.getD i default).a)) (xs.length - (i + 1))
    rw [foldN_succ]
    simp only [ooN] at *
    omega
end Go.Rf
