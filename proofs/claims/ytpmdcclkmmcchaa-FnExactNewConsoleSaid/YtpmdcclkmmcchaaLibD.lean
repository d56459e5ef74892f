/- Texts merged into one: RfMB, RfMC, RfMD, RfNU, RfME, RfMF, RfMG, RfNH, RfNI. -/
import Derived.Test.YtpmdcclkmmcchaaLibC
/- The machine: what the walks of slots and queues need. -/
set_option linter.unusedVariables false
set_option linter.unusedSectionVars false
set_option linter.unusedSimpArgs false
namespace Go.Rf
open Go
theorem take_getD {α : Type} [Inhabited α] {l : List α} {i j : Nat} (h : j < i) : (l.take i).getD j default = l.getD j default := by
  rw [List.getD_eq_getElem?_getD, List.getElem?_take, if_pos h, ← List.getD_eq_getElem?_getD]
theorem idx_lt0 {f : Nat → Bool} {n : Nat} : idxN f n < 0 ↔ anyN n f = false := by
  have := idx_any (f := f) (n := n)
  rw [← this]; simp
theorem idx_bd {f : Nat → Bool} {n : Nat} : -1 ≤ idxN f n ∧ idxN f n < n ∨ (idxN f n = -1) := by
  by_cases h : idxN f n = -1
  · exact .inr h
  · obtain ⟨i, h1, h2, _⟩ := idx_cases h
    exact .inl (by omega)
/-! one slot -/
section
variable {sl : List Slot} {i : Nat}
end
end Go.Rf
namespace Go.Rf
end Go.Rf
namespace Go.Rf
end Go.Rf
namespace Go.Rf
/-! the best pending slot: the program's way of comparing -/
section
variable {sl : List Slot} {most : Bool} {i : Nat}
end
/-! the waiting -/
/-- how many at the start are more urgent -/
def cntW (wa : List Wtr) (w : Wtr) : Nat := (wa.takeWhile (fun x => lessW x w)).length
theorem cntW_le {wa : List Wtr} {w : Wtr} : cntW wa w ≤ wa.length := (List.takeWhile_sublist _).length_le
def insW (wa : List Wtr) (w : Wtr) : List Wtr := wa.take (cntW wa w) ++ [w] ++ wa.drop (cntW wa w)
theorem insW_len {wa : List Wtr} {w : Wtr} : (insW wa w).length = wa.length + 1 := by
  have := @cntW_le wa w
  simp [insW]; omega
def inW (wa : List Wtr) (q : Int) : Int := idxN (fun j => decide ((wa.getD j default).q = q)) wa.length
theorem inW_bd {wa : List Wtr} {q : Int} : -1 ≤ inW wa q ∧ inW wa q < wa.length := by
  have := @idx_bd (fun j => decide ((wa.getD j default).q = q)) wa.length
  unfold inW
  omega
/-! settled -/
def setd (q : Que) : Bool := decide (q.wa.length = 0) || (decide (freS q.sl < 0) && (decide (bstS q.sl false < 0) || lessW (wOf (q.sl.getD (bstS q.sl false).toNat default)) (q.wa.getD 0 default)))
/-! the waiting of a queue -/
def oneWa (sl : List Slot) (wa : List Wtr) (i : Nat) : Bool := inside (wa.getD i default).q 0 7 && (inside (wa.getD i default).p 0 15 && (decide (fndS sl (wa.getD i default).q < 0) && (!(anyN i (fun j => decide ((wa.getD j default).q = (wa.getD i default).q))) && (decide (i = 0) || lessW (wa.getD (i - 1) default) (wa.getD i default)))))
theorem oneWa_iff {sl : List Slot} {wa : List Wtr} {i : Nat} : oneWa sl wa i = true ↔ (0 ≤ (wa.getD i default).q ∧ (wa.getD i default).q ≤ 7) ∧ (0 ≤ (wa.getD i default).p ∧ (wa.getD i default).p ≤ 15) ∧ fndS sl (wa.getD i default).q < 0 ∧ (∀ j, j < i → (wa.getD j default).q ≠ (wa.getD i default).q) ∧ (i = 0 ∨ lessW (wa.getD (i - 1) default) (wa.getD i default) = true) := by
  simp only [oneWa, Bool.and_eq_true, inside_t, decide_eq_true_eq, Bool.not_eq_true', anyN_nf, decide_eq_false_iff_not, Bool.or_eq_true, ne_eq]
/-- at most eight wait -/
theorem pigeon : ∀ (n : Nat) (f : Nat → Int) (k : Nat), (∀ i, i < n → 0 ≤ f i ∧ f i < k) → (∀ i j, i < j → j < n → f i ≠ f j) → n ≤ k
  | n, f, 0, h, _ => by
    rcases Nat.eq_zero_or_pos n with h0 | h0
    · omega
    · have := h 0 h0; omega
  | n, f, k + 1, h, hd => by
    by_cases hx : ∃ i, i < n ∧ f i = k
    · obtain ⟨i, hi, hk⟩ := hx
      have := pigeon (n - 1) (fun j => if j < i then f j else f (j + 1)) k (fun j hj => by
        split
        · next hlt => have := h j (by omega); have := hd j i hlt hi; omega
        · next hge => have := h (j + 1) (by omega); have := hd i (j + 1) (by omega) (by omega); omega) (fun a b hab hb => by
        split
        · next h1 =>
          split
          · exact hd a b hab (by omega)
          · exact hd a (b + 1) (by omega) (by omega)
        · next h1 =>
          rw [if_neg (by omega)]
          exact hd (a + 1) (b + 1) (by omega) (by omega))
      omega
    · have := pigeon n f k (fun i hi => by
        have h1 := h i hi
        have h2 : f i ≠ k := fun e => hx ⟨i, hi, e⟩
        omega) hd
      omega
theorem okWa_le {sl : List Slot} {wa : List Wtr} {n : Nat} (h : ∀ j, j < n → oneWa sl wa j = true) : n ≤ 8 :=
  pigeon n (fun i => (wa.getD i default).q) 8 (fun i hi => by have := (oneWa_iff.mp (h i hi)).1; omega) (fun i j hij hj => (oneWa_iff.mp (h j hj)).2.2.2.1 i hij)
/-- the facts of a queue's parts -/
structure PaF (q : Que) : Prop where
  sl : SlF q.sl
  wn : q.wa.length ≤ 8
  wa : ∀ i, i < q.wa.length → oneWa q.sl q.wa i = true
end Go.Rf
namespace Go.Rf
theorem setd_0 {q : Que} (h : q.wa.length = 0) : setd q = true := by unfold setd; rw [decide_eq_true h, Bool.true_or]
theorem setd_f {q : Que} (h : ¬ q.wa.length = 0) (h2 : 0 ≤ freS q.sl) : setd q = false := by unfold setd; rw [decide_eq_false h, decide_eq_false (by omega)]; rfl
theorem setd_b {q : Que} (h2 : freS q.sl < 0) (h3 : bstS q.sl false < 0) : setd q = true := by unfold setd; rw [decide_eq_true h2, decide_eq_true h3]; simp
theorem setd_l {q : Que} (h : ¬ q.wa.length = 0) (h2 : freS q.sl < 0) (h3 : ¬ bstS q.sl false < 0) : setd q = lessW (wOf (q.sl.getD (bstS q.sl false).toNat default)) (q.wa.getD 0 default) := by unfold setd; rw [decide_eq_false h, decide_eq_true h2, decide_eq_false h3]; simp
theorem bstS_bd {sl : List Slot} {most : Bool} : -1 ≤ bstS sl most ∧ bstS sl most < sl.length := bstN_bd _
end Go.Rf
namespace Go.Rf
end Go.Rf

/- The machine: slots taken, put and ended; queues settled. -/
set_option linter.unusedVariables false
set_option linter.unusedSectionVars false
set_option linter.unusedSimpArgs false
namespace Go.Rf
open Go
/-! taken -/
def tkOK (sl : List Slot) (lim : Int) : Bool := decide (0 ≤ bstS sl true) && decide ((sl.getD (bstS sl true).toNat default).p < lim)
def tkS (sl : List Slot) : List Slot := sl.set (bstS sl true).toNat ⟨2, (sl.getD (bstS sl true).toNat default).q, (sl.getD (bstS sl true).toNat default).p⟩
def tkI (sl : List Slot) : Int := (sl.getD (bstS sl true).toNat default).q
section
variable {sl : List Slot} {lim irq p : Int}
theorem tkOK_iff : tkOK sl lim = true ↔ 0 ≤ bstS sl true ∧ (sl.getD (bstS sl true).toNat default).p < lim := by simp [tkOK]
/-! put where it is already -/
def ptS (sl : List Slot) (irq : Int) : List Slot := sl.set (fndS sl irq).toNat ⟨if (sl.getD (fndS sl irq).toNat default).s = 2 then 3 else (sl.getD (fndS sl irq).toNat default).s, (sl.getD (fndS sl irq).toNat default).q, (sl.getD (fndS sl irq).toNat default).p⟩
/-! ended -/
/-- it is active -/
def actP (x : Slot) : Bool := decide (x.s = 2) || decide (x.s = 3)
theorem actP_iff {x : Slot} : actP x = true ↔ x.s = 2 ∨ x.s = 3 := by simp [actP]
end
/-! one step of settling -/
def stK (q : Que) : Nat := if freS q.sl < 0 then (bstS q.sl false).toNat else (freS q.sl).toNat
def stW (q : Que) : List Wtr := if freS q.sl < 0 then insW (q.wa.drop 1) (wOf (q.sl.getD (bstS q.sl false).toNat default)) else q.wa.drop 1
def stQ (q : Que) : Que := ⟨q.sl.set (stK q) ⟨1, (q.wa.getD 0 default).q, (q.wa.getD 0 default).p⟩, stW q⟩
/-- how much is left to do -/
def wtS (x : Slot) : Nat := if x.s = 0 then 2000 else if x.s = 1 then (8 * x.p + x.q).toNat else 0
def phi (q : Que) : Nat := (q.sl.map wtS).sum
def setF : Nat → Que → Que
  | 0, q => q
  | n + 1, q => if setd q then q else setF n (stQ q)
def setl (q : Que) : Que := setF (phi q + 1) q
/-! what of a queue's parts settling relies on -/
def ltW (a b : Wtr) : Prop := lessW a b = true ∧ a.q ≠ b.q
structure QF (q : Que) : Prop where
  sl : SlF q.sl
  wn : q.wa.length ≤ 9
  wa : ∀ w ∈ q.wa, (0 ≤ w.q ∧ w.q ≤ 7) ∧ (0 ≤ w.p ∧ w.p ≤ 15) ∧ ∀ x ∈ q.sl, x.s ≠ 0 → x.q ≠ w.q
  pw : q.wa.Pairwise ltW
theorem mem_getD {α : Type} [Inhabited α] {l : List α} {x : α} : x ∈ l ↔ ∃ i, i < l.length ∧ l.getD i default = x := by
  constructor
  · intro h
    obtain ⟨i, hi, e⟩ := List.getElem_of_mem h
    exact ⟨i, hi, by rw [List.getD_eq_getElem?_getD, List.getElem?_eq_getElem hi]; exact e⟩
  · rintro ⟨i, hi, e⟩
    rw [List.getD_eq_getElem?_getD, List.getElem?_eq_getElem hi] at e
    rw [← e]; exact List.getElem_mem hi
theorem pw_getD {α : Type} [Inhabited α] {l : List α} {R : α → α → Prop} : l.Pairwise R ↔ ∀ i j, i < j → j < l.length → R (l.getD i default) (l.getD j default) := by
  rw [List.pairwise_iff_getElem]
  constructor
  · intro h i j hij hj
    have := h i j (by omega) hj hij
    rw [List.getD_eq_getElem?_getD, List.getD_eq_getElem?_getD, List.getElem?_eq_getElem (show i < l.length by omega), List.getElem?_eq_getElem hj]
    exact this
  · intro h i j hi hj hij
    have := h i j hij hj
    rw [List.getD_eq_getElem?_getD, List.getD_eq_getElem?_getD, List.getElem?_eq_getElem hi, List.getElem?_eq_getElem hj] at this
    exact this
theorem fnd_lt0 {sl : List Slot} {irq : Int} : fndS sl irq < 0 ↔ ∀ j, j < sl.length → ¬ ((sl.getD j default).s ≠ 0 ∧ (sl.getD j default).q = irq) := by
  unfold fndS
  rw [idx_lt0, anyN_nf]
  constructor
  · intro h j hj g; have := h j hj; rw [fdP_iff.mpr g] at this; cases this
  · intro h j hj; rw [← Bool.not_eq_true, fdP_iff]; exact h j hj
theorem fnd_lt0m {sl : List Slot} {irq : Int} : fndS sl irq < 0 ↔ ∀ x ∈ sl, x.s ≠ 0 → x.q ≠ irq := by
  rw [fnd_lt0]
  constructor
  · intro h x hx h0 h1
    obtain ⟨i, hi, rfl⟩ := mem_getD.mp hx
    exact h i hi ⟨h0, h1⟩
  · intro h j hj g
    exact h _ (mem_getD.mpr ⟨j, hj, rfl⟩) g.1 g.2
theorem PaF.q {q : Que} (h : PaF q) : QF q := by
  refine ⟨h.sl, Nat.le_succ_of_le h.wn, fun w hw => ?_, pw_getD.mpr ?_⟩
  · obtain ⟨i, hi, rfl⟩ := mem_getD.mp hw
    obtain ⟨h1, h2, h3, _⟩ := oneWa_iff.mp (h.wa i hi)
    exact ⟨h1, h2, fnd_lt0m.mp h3⟩
  · intro i j hij hj
    refine ⟨?_, (oneWa_iff.mp (h.wa j hj)).2.2.2.1 i hij⟩
    induction j with
    | zero => omega
    | succ j ih =>
      have hlast : lessW (q.wa.getD j default) (q.wa.getD (j + 1) default) = true := by
        rcases (oneWa_iff.mp (h.wa (j + 1) hj)).2.2.2.2 with g | g
        · omega
        · exact g
      by_cases e : i = j
      · subst e; exact hlast
      · exact lessW_trans (ih (by omega) (by omega)) hlast
theorem QF.pa {q : Que} (h : QF q) : PaF q := by
  have hp := pw_getD.mp h.pw
  have h8 : ∀ i, i < q.wa.length → oneWa q.sl q.wa i = true := fun i hi => by
    obtain ⟨h1, h2, h3⟩ := h.wa _ (mem_getD.mpr ⟨i, hi, rfl⟩)
    refine oneWa_iff.mpr ⟨h1, h2, fnd_lt0m.mpr h3, fun j hj => (hp j i hj hi).2, ?_⟩
    rcases Nat.eq_zero_or_pos i with g | g
    · exact .inl g
    · exact .inr (hp (i - 1) i (by omega) hi).1
  exact ⟨h.sl, okWa_le h8, h8⟩
theorem QF.wn8 {q : Que} (h : QF q) : q.wa.length ≤ 8 := h.pa.wn
/-! a slot that is written -/
theorem set_getD {α : Type} [Inhabited α] {l : List α} {i j : Nat} {x : α} (hi : i < l.length) : (l.set i x).getD j default = if i = j then x else l.getD j default := by
  rw [List.getD_eq_getElem?_getD, List.getElem?_set]
  by_cases e : i = j
  · subst e; simp [hi]
  · simp [e]
theorem SlF.set {sl : List Slot} (h : SlF sl) {k : Nat} {x : Slot} (hk : k < 4) (hx : (1 ≤ x.s ∧ x.s ≤ 3) ∧ (0 ≤ x.q ∧ x.q ≤ 7) ∧ 0 ≤ x.p ∧ x.p ≤ 15) (hq : ∀ j, j < 4 → j ≠ k → (sl.getD j default).s ≠ 0 → (sl.getD j default).q ≠ x.q) : SlF (sl.set k x) := by
  have hl : k < sl.length := by rw [h.len]; exact hk
  refine ⟨by rw [List.length_set]; exact h.len, fun i hi => ?_, fun i hi => ?_, fun i j hij hj => ?_⟩
  · rw [set_getD hl]; split
    · intro e; omega
    · exact h.z i hi
  · rw [set_getD hl]; split
    · intro _; exact hx
    · exact h.ok i hi
  · rw [set_getD hl, set_getD hl]
    by_cases e1 : k = i
    · rw [if_pos e1, if_neg (by omega)]
      intro _ h2 e; exact hq j hj (by omega) h2 e.symm
    · rw [if_neg e1]
      by_cases e2 : k = j
      · rw [if_pos e2]; intro h1 _; exact hq i (by omega) (by omega) h1
      · rw [if_neg e2]; exact h.dif i j hij hj
/-! a waiter put in its place -/
theorem take_tw {α : Type} {A B l : List α} (h : A ++ B = l) : l.take A.length = A ∧ l.drop A.length = B := by subst h; simp
theorem tw_mem {α : Type} {p : α → Bool} {x : α} : ∀ {l : List α}, x ∈ l.takeWhile p → p x = true
  | [], h => by simp at h
  | y :: l, h => by
    rw [List.takeWhile_cons] at h
    split at h
    · next hy =>
      rcases List.mem_cons.mp h with rfl | h
      · exact hy
      · exact tw_mem h
    · cases h
theorem insW_eq {wa : List Wtr} {w : Wtr} : insW wa w = wa.takeWhile (fun x => lessW x w) ++ [w] ++ wa.dropWhile (fun x => lessW x w) := by
  have h := List.takeWhile_append_dropWhile (p := fun x => lessW x w) (l := wa)
  unfold insW cntW
  obtain ⟨e1, e2⟩ := take_tw h
  rw [e1, e2]
theorem insW_mem {wa : List Wtr} {w x : Wtr} : x ∈ insW wa w ↔ x = w ∨ x ∈ wa := by
  have h := List.takeWhile_append_dropWhile (p := fun x => lessW x w) (l := wa)
  rw [insW_eq]
  have : x ∈ wa ↔ x ∈ wa.takeWhile (fun x => lessW x w) ∨ x ∈ wa.dropWhile (fun x => lessW x w) := by
    conv => lhs; rw [← h]
    exact List.mem_append
  simp only [List.mem_append, List.mem_singleton, this]
  constructor
  · rintro ((h | h) | h)
    · exact .inr (.inl h)
    · exact .inl h
    · exact .inr (.inr h)
  · rintro (h | h | h)
    · exact .inl (.inr h)
    · exact .inl (.inl h)
    · exact .inr h
theorem insW_pw {wa : List Wtr} {w : Wtr} (h : wa.Pairwise ltW) (hd : ∀ x ∈ wa, x.q ≠ w.q) : (insW wa w).Pairwise ltW := by
  rw [insW_eq]
  have hs := List.takeWhile_append_dropWhile (p := fun x => lessW x w) (l := wa)
  have hp : (wa.takeWhile (fun x => lessW x w) ++ wa.dropWhile (fun x => lessW x w)).Pairwise ltW := by rw [hs]; exact h
  obtain ⟨p1, p2, p3⟩ := List.pairwise_append.mp hp
  have t1 : ∀ x ∈ wa.takeWhile (fun x => lessW x w), ltW x w := fun x hx => by
    refine ⟨?_, hd x (by rw [← hs]; exact List.mem_append_left _ hx)⟩
    exact tw_mem (p := fun x => lessW x w) hx
  have t2 : ∀ x ∈ wa.dropWhile (fun x => lessW x w), ltW w x := by
    cases hdw : wa.dropWhile (fun x => lessW x w) with
    | nil => intro x hx; cases hx
    | cons y r =>
      have hy : lessW y w = false := by
        have := List.head?_dropWhile_not (fun x => lessW x w) wa
        rw [hdw] at this
        simpa using this
      have hyq : y.q ≠ w.q := hd y (by rw [← hs, hdw]; simp)
      have hwy : ltW w y := ⟨by rw [lessW_tot (Ne.symm hyq), hy]; rfl, Ne.symm hyq⟩
      rw [hdw] at p2
      intro x hx
      rcases List.mem_cons.mp hx with rfl | hx
      · exact hwy
      · have := (List.pairwise_cons.mp p2).1 x hx
        exact ⟨lessW_trans hwy.1 this.1, Ne.symm (hd x (by rw [← hs, hdw]; simp [hx]))⟩
  rw [List.append_assoc]
  refine List.pairwise_append.mpr ⟨p1, List.pairwise_append.mpr ⟨List.pairwise_singleton _ _, p2, fun a ha b hb => ?_⟩, fun a ha b hb => ?_⟩
  · rw [List.mem_singleton.mp ha]; exact t2 b hb
  · rcases List.mem_append.mp hb with hb | hb
    · rw [List.mem_singleton.mp hb]; exact t1 a ha
    · exact p3 a ha b hb
/-! settling comes to an end -/
theorem sum_set {α : Type} [Inhabited α] {f : α → Nat} {x : α} : ∀ {l : List α} {k : Nat}, k < l.length → ((l.set k x).map f).sum + f (l.getD k default) = (l.map f).sum + f x
  | [], k, h => by simp at h
  | y :: l, 0, _ => by simp; omega
  | y :: l, k + 1, h => by
    have := sum_set (f := f) (x := x) (l := l) (k := k) (by simpa using h)
    simp only [List.set_cons_succ, List.map_cons, List.sum_cons, List.getD_cons_succ]
    omega
theorem set_mem {α : Type} [Inhabited α] {l : List α} {k : Nat} {x y : α} (hk : k < l.length) (h : y ∈ l.set k x) : y = x ∨ ∃ j, j < l.length ∧ j ≠ k ∧ l.getD j default = y := by
  obtain ⟨j, hj, e⟩ := mem_getD.mp h
  rw [List.length_set] at hj
  rw [set_getD hk] at e
  by_cases hjk : k = j
  · rw [if_pos hjk] at e; exact .inl e.symm
  · rw [if_neg hjk] at e; exact .inr ⟨j, hj, Ne.symm hjk, e⟩
theorem best_slot {sl : List Slot} {most : Bool} (h : 0 ≤ bstS sl most) : ∃ k : Nat, bstS sl most = k ∧ k < sl.length ∧ (sl.getD k default).s = 1 := by
  have hb := @bstS_bd sl most
  refine ⟨(bstS sl most).toNat, by omega, by omega, bstN_one _ h⟩
structure NotSet (q : Que) (k : Nat) (w : Wtr) (r : List Wtr) : Prop where
  wa : q.wa = w :: r
  kn : stK q = k
  kl : k < 4
  st : (freS q.sl = k ∧ (q.sl.getD k default).s = 0 ∧ stW q = r) ∨ (freS q.sl < 0 ∧ bstS q.sl false = k ∧ (q.sl.getD k default).s = 1 ∧ lessW w (wOf (q.sl.getD k default)) = true ∧ stW q = insW r (wOf (q.sl.getD k default)))
theorem notSet {q : Que} (h : QF q) (hs : setd q = false) : ∃ k w r, NotSet q k w r := by
  have h0 : q.wa.length ≠ 0 := fun e => by rw [setd_0 e] at hs; cases hs
  obtain ⟨w, r, hw⟩ : ∃ w r, q.wa = w :: r := by
    cases hq : q.wa with
    | nil => rw [hq] at h0; exact absurd rfl h0
    | cons w r => exact ⟨w, r, rfl⟩
  rcases @fre_cases q.sl with ⟨f1, f2⟩ | ⟨i, f1, f2, f3⟩
  · have hb : 0 ≤ bstS q.sl false := by
      rcases Int.lt_or_le (bstS q.sl false) 0 with g | g
      · rw [setd_b (by omega) g] at hs; cases hs
      · exact g
    rw [setd_l h0 (by omega) (by omega)] at hs
    obtain ⟨k, hk, hkl, hk1⟩ := best_slot hb
    have hkn : (bstS q.sl false).toNat = k := by omega
    rw [hkn, hw] at hs
    have hs : lessW (wOf (q.sl.getD k default)) w = false := hs
    have hne : (wOf (q.sl.getD k default)).q ≠ w.q := (h.wa w (by rw [hw]; simp)).2.2 _ (mem_getD.mpr ⟨k, hkl, rfl⟩) (by omega)
    refine ⟨k, w, r, hw, by unfold stK; rw [if_pos (by omega), hkn], by rw [← h.sl.len]; exact hkl, .inr ⟨by omega, hk, hk1, ?_, ?_⟩⟩
    · rw [lessW_tot (Ne.symm hne), hs]; rfl
    · unfold stW; rw [if_pos (by omega), hkn, hw]; rfl
  · exact ⟨i, w, r, hw, by unfold stK; rw [if_neg (by omega), f1]; rfl, by rw [← h.sl.len]; exact f2, .inl ⟨f1, f3, by unfold stW; rw [if_neg (by omega), hw]; rfl⟩⟩
theorem NotSet.eq {q : Que} {k : Nat} {w : Wtr} {r : List Wtr} (n : NotSet q k w r) : stQ q = ⟨q.sl.set k ⟨1, w.q, w.p⟩, stW q⟩ := by
  unfold stQ; rw [n.kn, n.wa]; rfl
theorem stQ_F {q : Que} (h : QF q) (hs : setd q = false) : QF (stQ q) ∧ phi (stQ q) < phi q := by
  obtain ⟨k, w, r, n⟩ := notSet h hs
  rw [n.eq]
  have hl : k < q.sl.length := by rw [h.sl.len]; exact n.kl
  obtain ⟨hw1, hw2, hw3⟩ := h.wa w (by rw [n.wa]; simp)
  have hpw := h.pw
  rw [n.wa] at hpw
  obtain ⟨hp1, hp2⟩ := List.pairwise_cons.mp hpw
  have hrm : ∀ v ∈ r, v ∈ q.wa := fun v hv => by rw [n.wa]; simp [hv]
  have hsum := sum_set (f := wtS) (x := (⟨1, w.q, w.p⟩ : Slot)) hl
  have hwt : wtS ⟨1, w.q, w.p⟩ = (8 * w.p + w.q).toNat := rfl
  have hsl : SlF (q.sl.set k ⟨1, w.q, w.p⟩) := h.sl.set n.kl ⟨⟨by show (1 : Int) ≤ 1; omega, by show (1 : Int) ≤ 3; omega⟩, hw1, hw2⟩ (fun j hj hjk h0 => hw3 _ (mem_getD.mpr ⟨j, by rw [h.sl.len]; exact hj, rfl⟩) h0)
  rcases n.st with ⟨f1, f2, f3⟩ | ⟨f0, f1, f2, f3, f4⟩
  · rw [f3]
    refine ⟨⟨hsl, by have := h.wn; rw [n.wa] at this; simp at this; show r.length ≤ 9; omega, fun v hv => ?_, hp2⟩, ?_⟩
    · obtain ⟨g1, g2, g3⟩ := h.wa v (hrm v hv)
      refine ⟨g1, g2, fun x hx h0 => ?_⟩
      rcases set_mem hl hx with rfl | ⟨j, hj, _, rfl⟩
      · exact (hp1 v hv).2
      · exact g3 _ (mem_getD.mpr ⟨j, hj, rfl⟩) h0
    · have : wtS (q.sl.getD k default) = 2000 := by unfold wtS; rw [if_pos f2]
      show ((q.sl.set k ⟨1, w.q, w.p⟩).map wtS).sum < (q.sl.map wtS).sum
      omega
  · rw [f4]
    have hb := h.sl.ok k n.kl (by omega)
    refine ⟨⟨hsl, ?_, fun v hv => ?_, insW_pw hp2 fun x hx => ?_⟩, ?_⟩
    · have := h.wn; rw [n.wa] at this; simp at this
      show (insW r _).length ≤ 9
      rw [insW_len]; omega
    · rcases insW_mem.mp hv with rfl | hv
      · refine ⟨hb.2.1, hb.2.2, fun x hx h0 => ?_⟩
        rcases set_mem hl hx with rfl | ⟨j, hj, hjk, rfl⟩
        · exact fun e => hw3 _ (mem_getD.mpr ⟨k, hl, rfl⟩) (by omega) e.symm
        · intro e
          have h4 := h.sl.len
          rcases Nat.lt_or_ge j k with g | g
          · exact h.sl.dif j k g n.kl h0 (by omega) e
          · exact h.sl.dif k j (by omega) (by omega) (by omega) h0 e.symm
      · obtain ⟨g1, g2, g3⟩ := h.wa v (hrm v hv)
        refine ⟨g1, g2, fun x hx h0 => ?_⟩
        rcases set_mem hl hx with rfl | ⟨j, hj, _, rfl⟩
        · exact (hp1 v hv).2
        · exact g3 _ (mem_getD.mpr ⟨j, hj, rfl⟩) h0
    · exact fun e => (h.wa x (hrm x hx)).2.2 _ (mem_getD.mpr ⟨k, hl, rfl⟩) (by omega) e.symm
    · have : wtS (q.sl.getD k default) = (8 * (q.sl.getD k default).p + (q.sl.getD k default).q).toNat := by unfold wtS; rw [if_neg (by omega), if_pos f2]
      rw [lessW_iff] at f3
      have f3 : w.p < (q.sl.getD k default).p ∨ (w.p = (q.sl.getD k default).p ∧ w.q < (q.sl.getD k default).q) := f3
      show ((q.sl.set k ⟨1, w.q, w.p⟩).map wtS).sum < (q.sl.map wtS).sum
      omega
theorem setF_ok : ∀ {n : Nat} {q : Que}, QF q → phi q < n → QF (setF n q) ∧ setd (setF n q) = true
  | n + 1, q, h, h1 => by
    unfold setF
    cases hs : setd q
    · obtain ⟨g1, g2⟩ := stQ_F h hs
      simp only [Bool.false_eq_true, if_false]
      exact setF_ok g1 (by omega)
    · simp only [if_true]; exact ⟨h, hs⟩
theorem setl_ok {q : Que} (h : QF q) : QF (setl q) ∧ setd (setl q) = true := setF_ok h (Nat.lt_succ_self _)
end Go.Rf

/- The machine: queues that are offered an interrupt, taken from, and in which one ends. -/
set_option linter.unusedVariables false
set_option linter.unusedSectionVars false
set_option linter.unusedSimpArgs false
namespace Go.Rf
open Go
/-! the active ones, as slots hold them -/
def actL (sl : List Slot) : List Wtr := (sl.filter actP).map wOf
theorem actL_set {sl : List Slot} : ∀ {k : Nat} {x : Slot}, k < sl.length → actP x = actP (sl.getD k default) → (actP x = true → wOf x = wOf (sl.getD k default)) → actL (sl.set k x) = actL sl := by
  unfold actL
  induction sl with
  | nil => intro k x hk; simp at hk
  | cons y sl ih =>
    intro k x hk h1 h2
    cases k with
    | zero =>
      simp only [List.set_cons_zero, List.filter_cons]
      have h1 : actP x = actP y := h1
      have h2 : actP x = true → wOf x = wOf y := h2
      rw [h1]
      cases hy : actP y
      · simp
      · rw [hy] at h1
        simp [h2 h1]
    | succ k =>
      have := ih (k := k) (x := x) (by simpa using hk) (by simpa using h1) (by simpa using h2)
      simp only [List.set_cons_succ, List.filter_cons]
      split
      · simp only [List.map_cons, this]
      · exact this
theorem actL_mem {sl : List Slot} {w : Wtr} : w ∈ actL sl ↔ ∃ x ∈ sl, actP x = true ∧ wOf x = w := by
  simp [actL, and_assoc]
/-! settling leaves the active ones alone -/
theorem stQ_act {q : Que} (h : QF q) (hs : setd q = false) : actL (stQ q).sl = actL q.sl := by
  obtain ⟨k, w, r, n⟩ := notSet h hs
  rw [n.eq]
  have hl : k < q.sl.length := by rw [h.sl.len]; exact n.kl
  refine actL_set hl ?_ (fun g => ?_)
  · have : actP (q.sl.getD k default) = false := by
      rcases n.st with ⟨_, f, _⟩ | ⟨_, _, f, _⟩ <;> rw [← Bool.not_eq_true, actP_iff] <;> omega
    rw [this]; rfl
  · cases g
theorem setF_act : ∀ {n : Nat} {q : Que}, QF q → actL (setF n q).sl = actL q.sl
  | 0, q, _ => rfl
  | n + 1, q, h => by
    unfold setF
    cases hs : setd q
    · simp only [Bool.false_eq_true, if_false]
      rw [setF_act (stQ_F h hs).1, stQ_act h hs]
    · rfl
theorem setl_act {q : Que} (h : QF q) : actL (setl q).sl = actL q.sl := setF_act h
/-! offered -/
def offQ (q : Que) (irq p : Int) : Que := if 0 ≤ fndS q.sl irq then ⟨ptS q.sl irq, q.wa⟩ else if 0 ≤ inW q.wa irq then q else ⟨q.sl, insW q.wa ⟨irq, p⟩⟩
def offr (q : Que) (irq p : Int) : Que := setl (offQ q irq p)
theorem fnd_at {sl : List Slot} {irq : Int} (h : 0 ≤ fndS sl irq) : ∃ k : Nat, fndS sl irq = k ∧ k < sl.length ∧ (sl.getD k default).s ≠ 0 ∧ (sl.getD k default).q = irq := by
  rcases @fnd_cases sl irq with ⟨g, _⟩ | g
  · omega
  · exact g
theorem SlF.upd {sl : List Slot} (h : SlF sl) {k : Nat} (hk : k < 4) {s' : Int} (h0 : (sl.getD k default).s ≠ 0) (hs : 1 ≤ s' ∧ s' ≤ 3) : SlF (sl.set k ⟨s', (sl.getD k default).q, (sl.getD k default).p⟩) := by
  refine h.set hk ⟨hs, (h.ok k hk h0).2⟩ (fun j hj hjk g => ?_)
  rcases Nat.lt_or_ge j k with e | e
  · exact h.dif j k e hk g h0
  · exact fun e' => h.dif k j (by omega) hj h0 g e'.symm
theorem QF.slUpd {q : Que} (h : QF q) {k : Nat} (hk : k < 4) {s' : Int} (h0 : (q.sl.getD k default).s ≠ 0) (hs : 1 ≤ s' ∧ s' ≤ 3) : QF ⟨q.sl.set k ⟨s', (q.sl.getD k default).q, (q.sl.getD k default).p⟩, q.wa⟩ := by
  refine ⟨h.sl.upd hk h0 hs, h.wn, fun w hw => ?_, h.pw⟩
  obtain ⟨g1, g2, g3⟩ := h.wa w hw
  refine ⟨g1, g2, fun x hx g => ?_⟩
  have hl : k < q.sl.length := by rw [h.sl.len]; exact hk
  rcases set_mem hl hx with rfl | ⟨j, hj, _, rfl⟩
  · exact g3 (q.sl.getD k default) (mem_getD.mpr ⟨k, hl, rfl⟩) h0
  · exact g3 _ (mem_getD.mpr ⟨j, hj, rfl⟩) g
theorem inW_lt0 {wa : List Wtr} {q : Int} : inW wa q < 0 ↔ ∀ w ∈ wa, w.q ≠ q := by
  unfold inW
  rw [idx_lt0, anyN_nf]
  constructor
  · intro h w hw
    obtain ⟨i, hi, rfl⟩ := mem_getD.mp hw
    exact of_decide_eq_false (h i hi)
  · intro h j hj
    exact decide_eq_false (h _ (mem_getD.mpr ⟨j, hj, rfl⟩))
theorem offQ_F {q : Que} {irq p : Int} (h : QF q) (hi : 0 ≤ irq ∧ irq ≤ 7) (hp : 0 ≤ p ∧ p ≤ 15) : QF (offQ q irq p) ∧ actL (offQ q irq p).sl = actL q.sl := by
  unfold offQ
  split
  · next h1 =>
    obtain ⟨k, e1, e2, e3, e4⟩ := fnd_at h1
    have hk : k < 4 := by rw [← h.sl.len]; exact e2
    unfold ptS
    rw [e1]
    simp only [Int.toNat_natCast]
    have hb := (h.sl.ok k hk e3).1
    refine ⟨h.slUpd hk e3 ?_, actL_set e2 ?_ (fun _ => rfl)⟩
    · split <;> omega
    · show actP ⟨if (q.sl.getD k default).s = 2 then 3 else (q.sl.getD k default).s, _, _⟩ = _
      by_cases e : (q.sl.getD k default).s = 2
      · rw [if_pos e, show actP (q.sl.getD k default) = true from actP_iff.mpr (.inl e)]; exact actP_iff.mpr (.inr rfl)
      · rw [if_neg e]
  split
  · exact ⟨h, rfl⟩
  · next h1 h2 =>
    have g1 := fnd_lt0m.mp (show fndS q.sl irq < 0 by omega)
    have g2 := inW_lt0.mp (show inW q.wa irq < 0 by omega)
    refine ⟨⟨h.sl, ?_, fun w hw => ?_, insW_pw h.pw g2⟩, rfl⟩
    · show (insW q.wa _).length ≤ 9
      rw [insW_len]; have := h.wn8; omega
    · rcases insW_mem.mp hw with rfl | hw
      · exact ⟨hi, hp, g1⟩
      · exact h.wa w hw
theorem offr_F {q : Que} {irq p : Int} (h : QF q) (hi : 0 ≤ irq ∧ irq ≤ 7) (hp : 0 ≤ p ∧ p ≤ 15) : QF (offr q irq p) ∧ setd (offr q irq p) = true ∧ actL (offr q irq p).sl = actL q.sl := by
  obtain ⟨h1, h2⟩ := offQ_F h hi hp
  obtain ⟨h3, h4⟩ := setl_ok h1
  exact ⟨h3, h4, by unfold offr; rw [setl_act h1, h2]⟩
/-! taken -/
def takQ (q : Que) : Que := ⟨tkS q.sl, q.wa⟩
/-! ended -/
theorem stQ_fre {q : Que} (h : 0 ≤ freS q.sl) : stQ q = ⟨q.sl.set (freS q.sl).toNat ⟨1, (q.wa.getD 0 default).q, (q.wa.getD 0 default).p⟩, q.wa.drop 1⟩ := by
  unfold stQ stK stW
  rw [if_neg (by omega), if_neg (by omega)]
end Go.Rf
namespace Go.Rf
end Go.Rf

/- The abstract machine: running steps. -/
set_option linter.unusedVariables false
set_option linter.unusedSectionVars false
set_option linter.unusedSimpArgs false
namespace Go.Rf
open Go
section
variable {rs : List Route} {a : Abs} {ss : List MStep}
end
end Go.Rf
namespace Go.Rf
end Go.Rf

/- The machine: interfaces and machines, their cells, equality, marks. -/
set_option linter.unusedVariables false
set_option linter.unusedSectionVars false
set_option linter.unusedSimpArgs false
namespace Go.Rf
open Go
def encIf (eS eW : Nat) (x : Ifc) : List CI := [.v (.int .i64 x.ma), .l 3 1 (x.st.map encI), .l eS 3 (x.qu.sl.map encSl), .l eW 2 (x.qu.wa.map encWa)]
def eqQu (x y : Que) : Bool := decide (x.sl = y.sl) && decide (x.wa = y.wa)
theorem eqQu_iff {x y : Que} : eqQu x y = true ↔ x = y := by cases x; cases y; simp [eqQu]
def eqIf (x y : Ifc) : Bool := decide (x.ma = y.ma) && (decide (x.st = y.st) && eqQu x.qu y.qu)
theorem eqIf_iff {x y : Ifc} : eqIf x y = true ↔ x = y := by cases x; cases y; simp [eqIf, eqQu_iff]
def eqMa (x y : Mach) : Bool := decide (x.rs = y.rs) && (decide (x.en = y.en) && (decide (x.ra = y.ra) && decide (x.cp = y.cp)))
theorem eqMa_iff {x y : Mach} : eqMa x y = true ↔ x = y := by cases x; cases y; simp [eqMa]
/-! bounds -/
structure BigI (x : Ifc) : Prop where
  st : x.st.length ≤ 9223372036854775807
  sl : x.qu.sl.length ≤ 9223372036854775807
  wa : x.qu.wa.length ≤ 9223372036854775807
structure BigM (m : Mach) : Prop where
  rs : m.rs.length ≤ 9223372036854775807
  en : m.en.length ≤ 9223372036854775807
  ra : m.ra.length ≤ 9223372036854775807
  cp : m.cp.length ≤ 9223372036854775807
  all : ∀ i, i < m.cp.length → BigI (m.cp.getD i default)
def szI (x : Ifc) : Int := x.st.length + x.qu.sl.length + x.qu.wa.length
def sumI (xs : List Ifc) : Nat → Int
  | 0 => 0
  | i + 1 => sumI xs i + szI (xs.getD i default)
theorem sumI_succ {xs : List Ifc} {i : Nat} : sumI xs (i + 1) = sumI xs i + szI (xs.getD i default) := rfl
theorem szI_nn {x : Ifc} : 0 ≤ szI x := by unfold szI; omega
theorem sumI_nn {xs : List Ifc} : ∀ i, 0 ≤ sumI xs i
  | 0 => Int.le_refl _
  | i + 1 => by have := @sumI_nn xs i; have := @szI_nn (xs.getD i default); rw [sumI_succ]; omega
theorem sumI_mono {xs : List Ifc} {i j : Nat} (h : i ≤ j) : sumI xs i ≤ sumI xs j := by
  induction h with
  | refl => exact Int.le_refl _
  | step _ ih => rename_i m _; have := @szI_nn (xs.getD m default); rw [sumI_succ]; omega
theorem sumI_get {xs : List Ifc} {i n : Nat} (h : i < n) : szI (xs.getD i default) ≤ sumI xs n := by
  have h1 := sumI_mono (xs := xs) (show i + 1 ≤ n from h)
  have h2 := @sumI_nn xs i
  rw [sumI_succ] at h1
  omega
/-- small machines -/
structure SmallM (m : Mach) : Prop where
  rs : m.rs.length ≤ 1048576
  en : m.en.length ≤ 1048576
  ra : m.ra.length ≤ 1048576
  cp : m.cp.length ≤ 1048576
  sum : sumI m.cp m.cp.length ≤ 1048576
theorem SmallM.allI {m : Mach} (h : SmallM m) {i : Nat} (hi : i < m.cp.length) : szI (m.cp.getD i default) ≤ 1048576 := by
  have := sumI_get (xs := m.cp) hi
  have := h.sum
  omega
theorem SmallM.big {m : Mach} (h : SmallM m) : BigM m := by
  refine ⟨by have := h.rs; omega, by have := h.en; omega, by have := h.ra; omega, by have := h.cp; omega, fun i hi => ?_⟩
  have := h.allI hi
  unfold szI at this
  exact ⟨by omega, by omega, by omega⟩
/-! marks -/
def mkSl (k : Int) (j : Nat) : Slot := ⟨k + 3 * j, k + 3 * j + 1, k + 3 * j + 1 + 1⟩
def mkWa (k : Int) (j : Nat) : Wtr := ⟨k + 2 * j, k + 2 * j + 1⟩
/-- how many numbers an interface takes -/
def wdI (x : Ifc) : Int := 1 + x.st.length + 3 * x.qu.sl.length + 2 * x.qu.wa.length
def offI (xs : List Ifc) : Nat → Int
  | 0 => 0
  | i + 1 => offI xs i + wdI (xs.getD i default)
theorem offI_succ {xs : List Ifc} {i : Nat} : offI xs (i + 1) = offI xs i + wdI (xs.getD i default) := rfl
theorem offI_le {xs : List Ifc} : ∀ i, 0 ≤ offI xs i ∧ offI xs i ≤ i + 3 * sumI xs i
  | 0 => ⟨Int.le_refl _, Int.le_refl _⟩
  | i + 1 => by
    have := @offI_le xs i
    rw [offI_succ, sumI_succ]
    unfold wdI szI
    push_cast
    omega
def mkI1 (k : Int) (x : Ifc) : Ifc := ⟨k, over (mkI (k + 1)) x.st x.st.length, ⟨over (mkSl (k + 1 + x.st.length)) x.qu.sl x.qu.sl.length, over (mkWa (k + 1 + x.st.length + 3 * x.qu.sl.length)) x.qu.wa x.qu.wa.length⟩⟩
def mkIS (k : Int) (xs : List Ifc) : Nat → List Ifc
  | 0 => xs
  | i + 1 => (mkIS k xs i).set i (mkI1 (k + offI xs i) (xs.getD i default))
section
variable {k : Int} {xs : List Ifc} {eS eW : Nat}
theorem mkIS_succ {i : Nat} : mkIS k xs (i + 1) = (mkIS k xs i).set i (mkI1 (k + offI xs i) (xs.getD i default)) := rfl
theorem mkIS_len : ∀ i, (mkIS k xs i).length = xs.length
  | 0 => rfl
  | i + 1 => by rw [mkIS_succ, List.length_set, mkIS_len i]
theorem mkIS_ge : ∀ {i j : Nat}, i ≤ j → (mkIS k xs i)[j]? = xs[j]?
  | 0, j, _ => rfl
  | i + 1, j, h => by
    rw [mkIS_succ, List.getElem?_set_ne (by omega)]
    exact mkIS_ge (by omega)
theorem mkIS_lt : ∀ {i j : Nat}, j < i → i ≤ xs.length → (mkIS k xs i)[j]? = some (mkI1 (k + offI xs j) (xs.getD j default))
  | 0, j, h, _ => by omega
  | i + 1, j, h, hl => by
    rw [mkIS_succ]
    by_cases e : j = i
    · subst e
      rw [List.getElem?_set_self (by rw [mkIS_len]; omega)]
    · rw [List.getElem?_set_ne (by omega)]
      exact mkIS_lt (by omega) (by omega)
theorem mkIS_open {i : Nat} (h : i < xs.length) : ((mkIS k xs i).map (encIf eS eW))[i]? = some (encIf eS eW (xs.getD i default)) := by
  rw [List.getElem?_map, mkIS_ge (Nat.le_refl _), List.getElem?_eq_getElem h]
  simp [h]
theorem mkIS_full {i : Nat} (h : i < xs.length) : ((mkIS k xs xs.length).map (encIf eS eW))[((i : Int)).toNat]? = some (encIf eS eW (mkI1 (k + offI xs i) (xs.getD i default))) := by
  show ((mkIS k xs xs.length).map (encIf eS eW))[i]? = _
  rw [List.getElem?_map, mkIS_lt h (Nat.le_refl _)]
  rfl
end
def mkM (k : Int) (m : Mach) : Mach := ⟨over (mkRo k) m.rs m.rs.length, over (mkO (k + 2 * m.rs.length)) m.en m.en.length, over (mkO (k + 2 * m.rs.length + m.en.length)) m.ra m.ra.length, mkIS (k + 2 * m.rs.length + m.en.length + m.ra.length) m.cp m.cp.length⟩
def mkMN (k : Int) (m : Mach) : Int := k + 2 * m.rs.length + m.en.length + m.ra.length + offI m.cp m.cp.length
theorem mkMN_le {m : Mach} {k : Int} (hs : SmallM m) : k ≤ mkMN k m ∧ mkMN k m ≤ k + 10000000 := by
  have h1 := hs.rs; have h2 := hs.en; have h3 := hs.ra; have h4 := hs.cp; have h5 := hs.sum
  have := @offI_le m.cp m.cp.length
  unfold mkMN
  omega
/-! a new machine -/
def noM : Mach := ⟨[], [], [], []⟩
def ifc0 : Ifc := ⟨16, [], ⟨[zSl, zSl, zSl, zSl], []⟩⟩
def newM (rs : List Route) (c : Nat) : Mach := ⟨rs, List.replicate 8 false, List.replicate 8 false, List.replicate c ifc0⟩
def newMT (rs : List Route) (c : Int) : Mach × Bool := if okRts rs c then (newM rs c.toNat, true) else (noM, false)
theorem newMT_t {rs : List Route} {c : Int} (h : okRts rs c = true) : newMT rs c = (newM rs c.toNat, true) := by unfold newMT; rw [h]; rfl
theorem newMT_f {rs : List Route} {c : Int} (h : okRts rs c = false) : newMT rs c = (noM, false) := by unfold newMT; rw [h]; rfl
theorem newMT_2f {rs : List Route} {c : Int} (h : (newMT rs c).2 = false) : newMT rs c = (noM, false) := by
  cases hr : okRts rs c
  · exact newMT_f hr
  · rw [newMT_t hr] at h; cases h
theorem noM_small : SmallM noM := ⟨by decide, by decide, by decide, by decide, by decide⟩
theorem newM_small {rs : List Route} {c : Nat} (h : rs.length ≤ 8) (hc : c ≤ 2) : SmallM (newM rs c) := by
  refine ⟨by show rs.length ≤ _; omega, by show (List.replicate 8 false).length ≤ _; decide, by show (List.replicate 8 false).length ≤ _; decide, by show (List.replicate c ifc0).length ≤ _; rw [List.length_replicate]; omega, ?_⟩
  show sumI (List.replicate c ifc0) (List.replicate c ifc0).length ≤ _
  rw [List.length_replicate]
  match c, hc with
  | 0, _ => decide
  | 1, _ => decide
  | 2, _ => decide
theorem newMT_small {rs : List Route} {c : Int} : SmallM (newMT rs c).1 := by
  unfold newMT
  split
  · next h =>
    have hr := okRts_iff.mp h
    exact newM_small (by omega) (by omega)
  · exact noM_small
end Go.Rf

/- The machine: interfaces that are raised and taken from; the machine of an abstract. -/
set_option linter.unusedVariables false
set_option linter.unusedSectionVars false
set_option linter.unusedSimpArgs false
namespace Go.Rf
open Go
def lvl (sl : List Slot) (q : Int) : Int := (sl.getD (fndS sl q).toNat default).p
def runP (x : Ifc) : Int := if x.st.length = 0 then 16 else lvl x.qu.sl (x.st.getD (x.st.length - 1) default)
def raiI (x : Ifc) (q p : Int) : Ifc := ⟨x.ma, x.st, offr x.qu q p⟩
def takI (x : Ifc) : Ifc := ⟨x.ma, x.st ++ [tkI x.qu.sl], takQ x.qu⟩
structure IfF (x : Ifc) : Prop where
  qu : QF x.qu
  sn : x.st.length ≤ 4
  st : ∀ q ∈ x.st, ∃ w ∈ actL x.qu.sl, w.q = q
theorem raiI_F {x : Ifc} {q p : Int} (h : IfF x) (hq : 0 ≤ q ∧ q ≤ 7) (hp : 0 ≤ p ∧ p ≤ 15) : IfF (raiI x q p) := by
  obtain ⟨h1, h2, h3⟩ := offr_F h.qu hq hp
  exact ⟨h1, h.sn, fun y hy => by show ∃ w ∈ actL (offr x.qu q p).sl, w.q = y; rw [h3]; exact h.st y hy⟩
/-! the stack of an abstract, made active one by one -/
def stkS (rs : List Route) (l : List Int) : List Slot := (l.map fun q => ⟨2, q, prI rs q⟩) ++ List.replicate (4 - l.length) zSl
def stkI (rs : List Route) (l : List Int) : Ifc := ⟨16, l, ⟨stkS rs l, []⟩⟩
/-- with one more, pending -/
def stkP (rs : List Route) (l : List Int) (q : Int) : List Slot := (l.map fun q => ⟨2, q, prI rs q⟩) ++ (⟨1, q, prI rs q⟩ :: List.replicate (3 - l.length) zSl)
section
variable {rs : List Route} {l : List Int} {q : Int}
theorem getD_app1 {α : Type} [Inhabited α] {a b : List α} {j : Nat} (h : j < a.length) : (a ++ b).getD j default = a.getD j default := by
  rw [List.getD_eq_getElem?_getD, List.getElem?_append_left h, ← List.getD_eq_getElem?_getD]
theorem getD_app2 {α : Type} [Inhabited α] {a b : List α} {j : Nat} (h : a.length ≤ j) : (a ++ b).getD j default = b.getD (j - a.length) default := by
  rw [List.getD_eq_getElem?_getD, List.getElem?_append_right h, ← List.getD_eq_getElem?_getD]
theorem getD_map1 {α β : Type} [Inhabited α] [Inhabited β] {f : α → β} {a : List α} {j : Nat} (h : j < a.length) : (a.map f).getD j default = f (a.getD j default) := by
  rw [List.getD_eq_getElem?_getD, List.getElem?_map, List.getElem?_eq_getElem h, List.getD_eq_getElem?_getD, List.getElem?_eq_getElem h]
  rfl
theorem getD_rep {α : Type} [Inhabited α] {x : α} {n j : Nat} (h : j < n) : (List.replicate n x).getD j default = x := by
  rw [List.getD_eq_getElem?_getD, List.getElem?_replicate, if_pos h]
  rfl
theorem stkS_len (h : l.length ≤ 4) : (stkS rs l).length = 4 := by unfold stkS; simp; omega
theorem stkP_len (h : l.length < 4) : (stkP rs l q).length = 4 := by unfold stkP; simp; omega
theorem stkS_lo {j : Nat} (h : j < l.length) : (stkS rs l).getD j default = ⟨2, l.getD j default, prI rs (l.getD j default)⟩ := by
  unfold stkS
  rw [getD_app1 (by simpa using h), getD_map1 h]
theorem stkS_hi {j : Nat} (h : l.length ≤ j) (h4 : j < 4) : (stkS rs l).getD j default = zSl := by
  unfold stkS
  rw [getD_app2 (by simpa using h), getD_rep (by simp; omega)]
theorem stkP_lo {j : Nat} (h : j < l.length) : (stkP rs l q).getD j default = ⟨2, l.getD j default, prI rs (l.getD j default)⟩ := by
  unfold stkP
  rw [getD_app1 (by simpa using h), getD_map1 h]
theorem stkP_at : (stkP rs l q).getD l.length default = ⟨1, q, prI rs q⟩ := by
  unfold stkP
  rw [getD_app2 (by simp)]
  simp
theorem stkP_hi {j : Nat} (h : l.length < j) (h4 : j < 4) : (stkP rs l q).getD j default = zSl := by
  unfold stkP
  rw [getD_app2 (by simp; omega), List.length_map]
  obtain ⟨k, e⟩ : ∃ k, j - l.length = k + 1 := ⟨j - l.length - 1, by omega⟩
  rw [e, List.getD_cons_succ, getD_rep (by omega)]
theorem set_app {α : Type} {a b : List α} {x : α} : (a ++ b).set a.length x = a ++ b.set 0 x := by
  rw [List.set_append_right _ _ (Nat.le_refl _), Nat.sub_self]
theorem stkS_set (h : l.length < 4) : (stkS rs l).set l.length ⟨1, q, prI rs q⟩ = stkP rs l q := by
  unfold stkS stkP
  have e := @set_app _ (l.map fun q => (⟨2, q, prI rs q⟩ : Slot)) (List.replicate (4 - l.length) zSl) ⟨1, q, prI rs q⟩
  rw [List.length_map] at e
  rw [e, show 4 - l.length = (3 - l.length) + 1 by omega, List.replicate_succ, List.set_cons_zero]
theorem stkP_set (h : l.length < 4) : (stkP rs l q).set l.length ⟨2, q, prI rs q⟩ = stkS rs (l ++ [q]) := by
  unfold stkS stkP
  have e := @set_app _ (l.map fun q => (⟨2, q, prI rs q⟩ : Slot)) (⟨1, q, prI rs q⟩ :: List.replicate (3 - l.length) zSl) ⟨2, q, prI rs q⟩
  rw [List.length_map] at e
  rw [e, List.set_cons_zero, List.map_append, List.length_append, List.append_assoc]
  simp only [List.map_cons, List.map_nil, List.length_cons, List.length_nil, List.cons_append, List.nil_append]
  rw [show 4 - (l.length + (0 + 1)) = 3 - l.length by omega]
theorem stkS_fre (h : l.length < 4) : freS (stkS rs l) = l.length := by
  unfold freS
  refine idx_some (fun j hj => ?_) (by rw [stkS_len (by omega)]; exact h) ?_
  · rw [stkS_lo hj]; rfl
  · rw [stkS_hi (Nat.le_refl _) h]; rfl
theorem stkS_fnd (h : l.length ≤ 4) (hq : ∀ j, j < l.length → l.getD j default ≠ q) : fndS (stkS rs l) q = -1 := by
  unfold fndS
  refine idx_none (i := 4) (fun j hj => ?_) (by rw [stkS_len h]; exact Nat.le_refl _)
  rw [← Bool.not_eq_true, fdP_iff]
  rcases Nat.lt_or_ge j l.length with g | g
  · rw [stkS_lo g]; exact fun e => hq j g e.2
  · rw [stkS_hi g hj]; exact fun e => e.1 rfl
theorem stkP_fnd {j : Nat} (h : l.length < 4) (hj : j < l.length) (hd : ∀ i, i < j → l.getD i default ≠ l.getD j default) : fndS (stkP rs l q) (l.getD j default) = j := by
  unfold fndS
  refine idx_some (fun i hi => ?_) (by rw [stkP_len h]; omega) ?_
  · rw [← Bool.not_eq_true, fdP_iff, stkP_lo (by omega)]
    exact fun e => hd i hi e.2
  · rw [stkP_lo hj, fdP_iff]
    exact ⟨by show (2 : Int) ≠ 0; decide, rfl⟩
theorem stkP_bst (h : l.length < 4) : bstS (stkP rs l q) true = l.length := by
  have hl : (stkP rs l q).length = 4 := stkP_len h
  have hneg : ¬ bstN (stkP rs l q) true 4 < 0 := by
    rw [bstN_neg]
    intro g
    have := g l.length h
    rw [stkP_at] at this
    exact this rfl
  have hb := @bstN_bd (stkP rs l q) true 4
  have h1 := bstN_one (sl := stkP rs l q) (most := true) 4 (by omega)
  unfold bstS
  rw [hl]
  rcases Nat.lt_trichotomy (bstN (stkP rs l q) true 4).toNat l.length with g | g | g
  · rw [stkP_lo g] at h1; exact absurd h1 (by show ¬ (2 : Int) = 1; decide)
  · omega
  · rw [stkP_hi g (by omega)] at h1; exact absurd h1 (by show ¬ (0 : Int) = 1; decide)
theorem sum_mem {α : Type} {f : α → Nat} {x : α} : ∀ {l : List α}, x ∈ l → f x ≤ (l.map f).sum
  | y :: l, h => by
    rw [List.map_cons, List.sum_cons]
    rcases List.mem_cons.mp h with rfl | h
    · omega
    · have := sum_mem (f := f) h; omega
theorem stk_raise (h : l.length < 4) (hq : ∀ j, j < l.length → l.getD j default ≠ q) : raiI (stkI rs l) q (prI rs q) = ⟨16, l, ⟨stkP rs l q, []⟩⟩ := by
  have h1 : offQ (stkI rs l).qu q (prI rs q) = ⟨stkS rs l, [⟨q, prI rs q⟩]⟩ := by
    unfold offQ
    rw [if_neg (by show ¬ 0 ≤ fndS (stkS rs l) q; rw [stkS_fnd (by omega) hq]; decide), if_neg (by have := @inW_bd ([] : List Wtr) q; show ¬ 0 ≤ inW [] q; simp at this; omega)]
    rfl
  have h2 : setd ⟨stkS rs l, [⟨q, prI rs q⟩]⟩ = false := setd_f (by show ¬ 1 = 0; decide) (by show 0 ≤ freS (stkS rs l); rw [stkS_fre h]; omega)
  have h3 : stQ ⟨stkS rs l, [⟨q, prI rs q⟩]⟩ = ⟨stkP rs l q, []⟩ := by
    rw [stQ_fre (by show 0 ≤ freS (stkS rs l); rw [stkS_fre h]; omega)]
    show (⟨(stkS rs l).set (freS (stkS rs l)).toNat ⟨1, q, prI rs q⟩, []⟩ : Que) = _
    rw [stkS_fre h, Int.toNat_natCast, stkS_set h]
  have h4 : setl ⟨stkS rs l, [⟨q, prI rs q⟩]⟩ = ⟨stkP rs l q, []⟩ := by
    unfold setl
    have hp : 0 < phi ⟨stkS rs l, [⟨q, prI rs q⟩]⟩ := by
      have hm : zSl ∈ stkS rs l := mem_getD.mpr ⟨l.length, by rw [stkS_len (by omega)]; exact h, stkS_hi (Nat.le_refl _) h⟩
      have : wtS zSl ≤ ((stkS rs l).map wtS).sum := sum_mem hm
      have e : wtS zSl = 2000 := rfl
      show 0 < ((stkS rs l).map wtS).sum
      omega
    obtain ⟨n, hn⟩ : ∃ n, phi ⟨stkS rs l, [⟨q, prI rs q⟩]⟩ = n + 1 := ⟨_, (Nat.sub_add_cancel hp).symm⟩
    rw [hn]
    unfold setF
    rw [h2]
    simp only [Bool.false_eq_true, if_false]
    rw [h3]
    unfold setF
    rw [setd_0 (by rfl)]
    rfl
  unfold raiI offr
  rw [h1, h4]
  rfl
theorem stk_run (h : l.length < 4) (hd : ∀ i j, i < j → j < l.length → l.getD i default ≠ l.getD j default) : runP ⟨16, l, ⟨stkP rs l q, []⟩⟩ = if l.length = 0 then 16 else prI rs (l.getD (l.length - 1) default) := by
  unfold runP
  show (if l.length = 0 then 16 else lvl (stkP rs l q) (l.getD (l.length - 1) default)) = _
  split
  · rfl
  · next h0 =>
    unfold lvl
    rw [stkP_fnd h (show l.length - 1 < l.length by omega) (fun i hi => hd i _ hi (by omega)), Int.toNat_natCast, stkP_lo (by omega)]
theorem stk_take (h : l.length < 4) : takI ⟨16, l, ⟨stkP rs l q, []⟩⟩ = stkI rs (l ++ [q]) := by
  unfold takI stkI takQ tkS tkI
  show (⟨16, l ++ [((stkP rs l q).getD (bstS (stkP rs l q) true).toNat default).q], ⟨(stkP rs l q).set (bstS (stkP rs l q) true).toNat ⟨2, ((stkP rs l q).getD (bstS (stkP rs l q) true).toNat default).q, ((stkP rs l q).getD (bstS (stkP rs l q) true).toNat default).p⟩, []⟩⟩ : Ifc) = _
  rw [stkP_bst h, Int.toNat_natCast, stkP_at]
  show (⟨16, l ++ [q], ⟨(stkP rs l q).set l.length ⟨2, q, prI rs q⟩, []⟩⟩ : Ifc) = _
  rw [stkP_set h]
theorem stkI_F (h : l.length ≤ 4) (hr : ∀ j, j < l.length → (0 ≤ l.getD j default ∧ l.getD j default ≤ 7) ∧ 0 ≤ prI rs (l.getD j default) ∧ prI rs (l.getD j default) ≤ 15) (hd : ∀ i j, i < j → j < l.length → l.getD i default ≠ l.getD j default) : IfF (stkI rs l) := by
  have key : ∀ i, i < 4 → ((stkS rs l).getD i default).s ≠ 0 → i < l.length := fun i hi h0 => by
    rcases Nat.lt_or_ge i l.length with g | g
    · exact g
    · rw [stkS_hi g hi] at h0; exact absurd rfl h0
  refine ⟨⟨⟨stkS_len h, fun i hi h0 => ?_, fun i hi h0 => ?_, fun i j hij hj h1 h2 => ?_⟩, Nat.zero_le _, fun w hw => (by cases hw), List.Pairwise.nil⟩, h, fun q hq => ?_⟩
  · show (stkS rs l).getD i default = zSl
    have h0 : ((stkS rs l).getD i default).s = 0 := h0
    rcases Nat.lt_or_ge i l.length with g | g
    · rw [stkS_lo g] at h0; exact absurd h0 (by show ¬ (2 : Int) = 0; decide)
    · exact stkS_hi g hi
  · have g := key i hi h0
    have e : (stkI rs l).qu.sl.getD i default = ⟨2, l.getD i default, prI rs (l.getD i default)⟩ := stkS_lo g
    rw [e]
    exact ⟨⟨by show (1 : Int) ≤ 2; decide, by show (2 : Int) ≤ 3; decide⟩, hr i g⟩
  · have g1 := key i (by omega) h1
    have g2 := key j hj h2
    show ((stkS rs l).getD i default).q ≠ ((stkS rs l).getD j default).q
    rw [stkS_lo g1, stkS_lo g2]
    exact hd i j hij g2
  · obtain ⟨i, hi, rfl⟩ := mem_getD.mp hq
    have hi : i < l.length := hi
    refine ⟨⟨l.getD i default, prI rs (l.getD i default)⟩, actL_mem.mpr ⟨⟨2, l.getD i default, prI rs (l.getD i default)⟩, mem_getD.mpr ⟨i, by show i < (stkS rs l).length; rw [stkS_len h]; omega, stkS_lo hi⟩, rfl, rfl⟩, rfl⟩
end
/-! what is posted, made pending one by one -/
section
variable {rs : List Route} {po : List Bool} {k : Nat} {x : Ifc}
end
/-- what of a valid abstract is needed for its stacks -/
structure StkF (rs : List Route) (l : List Int) : Prop where
  n : l.length ≤ 4
  el : ∀ j, j < l.length → (0 ≤ l.getD j default ∧ l.getD j default ≤ 7) ∧ 0 ≤ prI rs (l.getD j default) ∧ prI rs (l.getD j default) ≤ 15
  dn : ∀ j, 0 < j → j < l.length → prI rs (l.getD j default) < prI rs (l.getD (j - 1) default)
theorem StkF.lt {rs : List Route} {l : List Int} (h : StkF rs l) {i : Nat} : ∀ {j : Nat}, i < j → j < l.length → prI rs (l.getD j default) < prI rs (l.getD i default)
  | j + 1, hij, hj => by
    have := h.dn (j + 1) (by omega) hj
    by_cases e : i = j
    · subst e; exact this
    · have := StkF.lt h (show i < j by omega) (by omega)
      simp only [Nat.add_sub_cancel] at *
      omega
theorem StkF.dif {rs : List Route} {l : List Int} (h : StkF rs l) {i j : Nat} (hij : i < j) (hj : j < l.length) : l.getD i default ≠ l.getD j default := fun e => by
  have := h.lt hij hj
  rw [e] at this
  omega
theorem StkF.take {rs : List Route} {l : List Int} (h : StkF rs l) {n : Nat} (hn : n ≤ l.length) : IfF (stkI rs (l.take n)) := by
  have hl : (l.take n).length = n := by rw [List.length_take]; omega
  have hg : ∀ j, j < n → (l.take n).getD j default = l.getD j default := fun j hj => take_getD hj
  refine stkI_F (by rw [hl]; have := h.n; omega) (fun j hj => ?_) (fun i j hij hj => ?_)
  · rw [hg j (by omega)]; exact h.el j (by omega)
  · rw [hg i (by omega), hg j (by omega)]; exact h.dif hij (by omega)
/-- one of the stack is raised and taken -/
theorem StkF.step {rs : List Route} {l : List Int} (h : StkF rs l) {i : Nat} (hi : i < l.length) :
    IfF (raiI (stkI rs (l.take i)) (l.getD i default) (prI rs (l.getD i default))) ∧ (raiI (stkI rs (l.take i)) (l.getD i default) (prI rs (l.getD i default))).st.length < 4 ∧
    tkOK (raiI (stkI rs (l.take i)) (l.getD i default) (prI rs (l.getD i default))).qu.sl (min (raiI (stkI rs (l.take i)) (l.getD i default) (prI rs (l.getD i default))).ma (runP (raiI (stkI rs (l.take i)) (l.getD i default) (prI rs (l.getD i default))))) = true ∧
    takI (raiI (stkI rs (l.take i)) (l.getD i default) (prI rs (l.getD i default))) = stkI rs (l.take (i + 1)) := by
  have hn := h.n
  have hl : (l.take i).length = i := by rw [List.length_take]; omega
  have hg : ∀ j, j < i → (l.take i).getD j default = l.getD j default := fun j hj => take_getD hj
  have hr := stk_raise (rs := rs) (l := l.take i) (q := l.getD i default) (by omega) (fun j hj => by rw [hg j (by omega)]; exact h.dif (by omega) hi)
  refine ⟨raiI_F (h.take (by omega)) (h.el i hi).1 (h.el i hi).2, ?_, ?_, ?_⟩
  · show (l.take i).length < 4; omega
  · rw [hr, stk_run (by omega) (fun a b hab hb => by rw [hg a (by omega), hg b (by omega)]; exact h.dif hab (by omega))]
    rw [tkOK_iff]
    show 0 ≤ bstS (stkP rs (l.take i) (l.getD i default)) true ∧ ((stkP rs (l.take i) (l.getD i default)).getD (bstS (stkP rs (l.take i) (l.getD i default)) true).toNat default).p < min 16 _
    rw [stkP_bst (by omega), Int.toNat_natCast, stkP_at]
    have h15 := (h.el i hi).2.2
    refine ⟨by omega, ?_⟩
    show prI rs (l.getD i default) < _
    rw [hl]
    split
    · omega
    · next h0 =>
      rw [hg (i - 1) (by omega)]
      have := h.dn i (by omega) hi
      omega
  · rw [hr, stk_take (by omega)]
    congr 1
    rw [List.take_add_one, List.getElem?_eq_getElem hi, List.getD_eq_getElem?_getD, List.getElem?_eq_getElem hi]
    rfl
end Go.Rf
namespace Go.Rf
section
variable {q : Que} {irq p lim : Int} {x : Ifc}
end
end Go.Rf

/- The machine: small facts for the walks. -/
set_option linter.unusedVariables false
set_option linter.unusedSectionVars false
set_option linter.unusedSimpArgs false
namespace Go.Rf
open Go
theorem rep_succ {α β : Type} {f : α → β} {k : Nat} {x : α} {y : β} (h : f x = y) : (List.replicate k x).map f ++ [y] = (List.replicate (k + 1) x).map f := by
  subst h
  rw [List.replicate_succ', List.map_append]
  rfl
end Go.Rf
namespace Go.Rf
end Go.Rf

/- Regions with rows that may come up at any time: an operation that waits for two or three of them. -/
set_option linter.unusedVariables false
set_option linter.unusedSectionVars false
set_option linter.unusedSimpArgs false
namespace Go.Rf
open Go Go.RowKit
section
variable {P : Program} [Env P] {b : Base} {ops : Array Oper} {m0 : List (Nat × Option Row)} {o : Oper} {T T1 : List (Nat × AV)} {m m1 : List (Nat × Option Row)} {nx nt n1 nt1 d fuel j : Nat} {listed : Array Bool} {V : List VE} {K : St → Prop} {r : AV}
theorem VStep.mk2 {is : List Nat} (ms : List Nat) (t0 : Nat) (x0 : AV) (id0 : Nat) (r0 : Row) (t1 : Nat) (x1 : AV) (id1 : Nat) (r1 : Row) (V1 : List VE) (ho : ops[j]? = some o) (hg : o.guard = none) (hV : remV is V = V1) (hT : frT (selV is V) T = (t0, x0) :: (t1, x1) :: T) (hM : frM (selV is V) m = (id0, some r0) :: (id1, some r1) :: m)
    (hx : ∀ b' : Base, [EnvAt P b'] → b'.n0 = b.n0 → WX P b' ops o [] ⟨(t0, x0) :: (t1, x1) :: T, (id0, some r0) :: (id1, some r1) :: m, nx, nt⟩ (nq (fun S' => S' = ⟨T1, m1, n1, nt1⟩))) (hn : Nat.ble nx n1 = true) (hv : vfreeB b.n0 n1 nt1 V1 T1 m1 = true) (hd : dstNot o.dst V1 = true) (hk : keepM b.n0 m1 ms [] = some m0)
    (h : WAV P b ops m0 fuel ((mark is listed).setIfInBounds j true) ⟨T1, m1, n1, nt1⟩ V1 K) : VStep P b ops m0 fuel listed ⟨T, m, nx, nt⟩ V K j is := by
  subst hV
  refine ⟨o, ⟨T1, m1, n1, nt1⟩, ms, ho, hg, ?_, hn, hv, hd, hk, h⟩
  show ∀ b' : Base, [EnvAt P b'] → b'.n0 = b.n0 → WX P b' ops o [] ⟨frT (selV is V) T, frM (selV is V) m, nx, nt⟩ _
  rw [hT, hM]
  exact hx
theorem VStep.mk3 {is : List Nat} (ms : List Nat) (t0 : Nat) (x0 : AV) (id0 : Nat) (r0 : Row) (t1 : Nat) (x1 : AV) (id1 : Nat) (r1 : Row) (t2 : Nat) (x2 : AV) (id2 : Nat) (r2 : Row) (V1 : List VE) (ho : ops[j]? = some o) (hg : o.guard = none) (hV : remV is V = V1) (hT : frT (selV is V) T = (t0, x0) :: (t1, x1) :: (t2, x2) :: T) (hM : frM (selV is V) m = (id0, some r0) :: (id1, some r1) :: (id2, some r2) :: m)
    (hx : ∀ b' : Base, [EnvAt P b'] → b'.n0 = b.n0 → WX P b' ops o [] ⟨(t0, x0) :: (t1, x1) :: (t2, x2) :: T, (id0, some r0) :: (id1, some r1) :: (id2, some r2) :: m, nx, nt⟩ (nq (fun S' => S' = ⟨T1, m1, n1, nt1⟩))) (hn : Nat.ble nx n1 = true) (hv : vfreeB b.n0 n1 nt1 V1 T1 m1 = true) (hd : dstNot o.dst V1 = true) (hk : keepM b.n0 m1 ms [] = some m0)
    (h : WAV P b ops m0 fuel ((mark is listed).setIfInBounds j true) ⟨T1, m1, n1, nt1⟩ V1 K) : VStep P b ops m0 fuel listed ⟨T, m, nx, nt⟩ V K j is := by
  subst hV
  refine ⟨o, ⟨T1, m1, n1, nt1⟩, ms, ho, hg, ?_, hn, hv, hd, hk, h⟩
  show ∀ b' : Base, [EnvAt P b'] → b'.n0 = b.n0 → WX P b' ops o [] ⟨frT (selV is V) T, frM (selV is V) m, nx, nt⟩ _
  rw [hT, hM]
  exact hx
end
end Go.Rf
namespace Go.Rf
open Go Go.RowKit
def keepX (m : List (Nat × Option Row)) : List Nat → List (Nat × Option Row) → Option (List (Nat × Option Row))
  | [], acc => some acc
  | i :: r, acc => match mem m i with
    | some row => keepX m r ((i, some row) :: acc)
    | none => none
theorem keepX_spec {m : List (Nat × Option Row)} : ∀ {ks : List Nat} {acc M0 : List (Nat × Option Row)}, keepX m ks acc = some M0 → (∀ i r, mem acc i = some r → mem m i = some r) → ∀ i r, mem M0 i = some r → mem m i = some r
  | [], acc, M0, h, ha => by simp [keepX] at h; subst h; exact ha
  | t :: ks, acc, M0, h, ha => by
    simp only [keepX] at h
    cases h1 : mem m t with
    | none => simp [h1] at h
    | some x =>
      simp only [h1] at h
      refine keepX_spec h fun i r hr => ?_
      by_cases e : t = i
      · subst e; rw [mem_cons_same] at hr; cases hr; exact h1
      · rw [mem_cons_other e] at hr; exact ha i r hr
/-- only these rows are told of, each once -/
theorem Gh.keep {w0 : Base} {T : List (Nat × AV)} {m m0 : List (Nat × Option Row)} {nx nt : Nat} (ms : List Nat) (h : keepX m ms [] = some m0) : Gh w0 ⟨T, m, nx, nt⟩ ⟨T, m0, nx, nt⟩ := fun ρ a w hT hC => ⟨ρ, hT, hC.sub (keepX_spec h fun i r hr => by simp [mem, look] at hr)⟩
end Go.Rf

/- How branches of a walk are read: one name for the rules. -/
set_option linter.unusedVariables false
namespace Go.Rf
theorem rfb :
    ((∀ (p : Prop) [Decidable p], (decide p = true) = p) ∧ (∀ (p : Prop) [Decidable p], (decide p = false) ↔ ¬p) ∧
    (∀ {α : Type} [BEq α] [LawfulBEq α] {a b : α}, a == b ↔ a = b) ∧ (∀ {α : Type} [BEq α] [LawfulBEq α] {a b : α}, a != b ↔ a ≠ b) ∧ (∀ {α : Type} (a b : α), (a ≠ b) = ¬(a = b))) ∧
    ((∀ b : Bool, ((!b) = true) = (b = false)) ∧ (∀ b : Bool, ((!b) = false) = (b = true)) ∧
    (∀ {α : Type} [BEq α] [LawfulBEq α] {a b : α}, (a == b) = false ↔ a ≠ b) ∧ (∀ {α : Type} [BEq α] [LawfulBEq α] {a b : α}, (a != b) = false ↔ a = b) ∧
    (∀ b : Bool, (¬(b = true)) = (b = false)) ∧ (∀ b : Bool, (¬(b = false)) = (b = true))) ∧
    ((∀ {a b : Int}, ¬(a < b) ↔ b ≤ a) ∧ (∀ {a b : Int}, ¬(a ≤ b) ↔ b < a) ∧ (∀ {a b : Int}, a > b ↔ b < a) ∧ (∀ {a b : Int}, a ≥ b ↔ b ≤ a)) ∧
    ((∀ a b : Bool, ((a && b) = true) = (a = true ∧ b = true)) ∧ (∀ {a b : Bool}, (a && b) = false ↔ a = false ∨ b = false) ∧ (∀ a b : Bool, ((a || b) = true) = (a = true ∨ b = true)) ∧ (∀ {a b : Bool}, (a || b) = false ↔ a = false ∧ b = false)) :=
  ⟨⟨fun p _ => decide_eq_true_eq, fun p _ => decide_eq_false_iff_not, beq_iff_eq, bne_iff_ne, fun a b => ne_eq a b⟩, ⟨Bool.not_eq_true', Bool.not_eq_false', beq_eq_false_iff_ne, bne_eq_false_iff_eq, Bool.not_eq_true, Bool.not_eq_false⟩, ⟨Int.not_lt, Int.not_le, gt_iff_lt, ge_iff_le⟩, ⟨Bool.and_eq_true, Bool.and_eq_false_iff, Bool.or_eq_true, Bool.or_eq_false_iff⟩⟩
end Go.Rf
