/- Texts merged into one: RfMA, RfNV, RfMB, RfMC, RfMD, RfNU, RfME, RfMF, RfMG, RfMH, RfMI, RfMJ, RfNW, RfML, RfMO, RfMP, RfNO, RfNZ, RfMR, RfNP, RfMK, RfNI. -/
import Derived.Test.YtcnodpipinlpcaaGreatLibC
set_option linter.unusedVariables false
set_option linter.unusedSectionVars false
set_option linter.unusedSimpArgs false
namespace Go.Rf
open Go
structure Slot where
 s : Int
 q : Int
 p : Int
 deriving Inhabited, DecidableEq
def encSl (x : Slot) : List Value := [.int .i64 x.s, .int .i64 x.q, .int .i64 x.p]
def encSv (x : Slot) : Value := .agg ⟨encSl x⟩
structure Wtr where
 q : Int
 p : Int
 deriving Inhabited, DecidableEq
def encWa (x : Wtr) : List Value := [.int .i64 x.q, .int .i64 x.p]
def encWv (x : Wtr) : Value := .agg ⟨encWa x⟩
structure Que where
 sl : List Slot
 wa : List Wtr
 deriving Inhabited, DecidableEq
structure Ifc where
 ma : Int
 st : List Int
 qu : Que
 deriving Inhabited, DecidableEq
structure Mach where
 rs : List Route
 en : List Bool
 ra : List Bool
 cp : List Ifc
 deriving Inhabited, DecidableEq
def zSl : Slot := ⟨0, 0, 0⟩
def wOf (x : Slot) : Wtr := ⟨x.q, x.p⟩
def eqSl (x y : Slot) : Bool := x.s == y.s && (x.q == y.q && x.p == y.p)
theorem eqSl_iff {x y : Slot} : eqSl x y = true ↔ x = y := by cases x; cases y; simp [eqSl]
def eqWa (x y : Wtr) : Bool := x.q == y.q && x.p == y.p
theorem eqWa_iff {x y : Wtr} : eqWa x y = true ↔ x = y := by cases x; cases y; simp [eqWa]
def fdP (irq : Int) (x : Slot) : Bool := !(decide (x.s = 0)) && decide (x.q = irq)
def fndS (sl : List Slot) (irq : Int) : Int := idxN (fun i => fdP irq (sl.getD i default)) sl.length
def emP (x : Slot) : Bool := decide (x.s = 0)
def freS (sl : List Slot) : Int := idxN (fun i => emP (sl.getD i default)) sl.length
def okS1 (x : Slot) : Bool := inside x.s 1 3 && (inside x.q 0 7 && inside x.p 0 15)
def oneSl (sl : List Slot) (i : Nat) : Bool := if (sl.getD i default).s = 0 then decide (sl.getD i default = zSl) else okS1 (sl.getD i default) && !(anyN i (fun j => fdP (sl.getD i default).q (sl.getD j default)))
def okSl (sl : List Slot) : Bool := decide (sl.length = 4) && allN sl.length (oneSl sl)
def cmpN (x y : Int) : Int := if x < y then -1 else if y < x then 1 else 0
def urg (a b : Wtr) : Int := if cmpN a.p b.p = 0 then cmpN a.q b.q else cmpN a.p b.p
def lessW (a b : Wtr) : Bool := decide (a.p < b.p) || (decide (a.p = b.p) && decide (a.q < b.q))
theorem lessW_iff {a b : Wtr} : lessW a b = true ↔ a.p < b.p ∨ (a.p = b.p ∧ a.q < b.q) := by simp [lessW]
theorem lessW_nf {a b : Wtr} : lessW a b = false ↔ ¬ (a.p < b.p ∨ (a.p = b.p ∧ a.q < b.q)) := by rw [← Bool.not_eq_true, lessW_iff]
theorem urg_neg {a b : Wtr} : urg a b < 0 ↔ lessW a b = true := by
 rw [lessW_iff]; unfold urg cmpN
 by_cases h1 : a.p < b.p
 ·simp [h1]
 ·by_cases h2 : b.p < a.p
  ·simp [h1, h2]; omega
  ·have : a.p = b.p := by omega
   simp [this]
   by_cases h3 : a.q < b.q
   ·simp [h3]
   ·simp [h3]
    split <;> omega
theorem urg_pos {a b : Wtr} : 0 < urg a b ↔ lessW b a = true := by
 rw [lessW_iff]; unfold urg cmpN
 by_cases h1 : a.p < b.p
 ·simp [h1]; omega
 ·by_cases h2 : b.p < a.p
  ·simp [h1, h2]
  ·have : a.p = b.p := by omega
   simp [this]
   by_cases h3 : a.q < b.q
   ·simp [h3]; omega
   ·simp [h3]
    split
    ·simp; omega
    ·simp; omega
theorem lessW_asym {a b : Wtr} (h : lessW a b = true) : lessW b a = false := by rw [lessW_iff] at h; rw [lessW_nf]; omega
theorem lessW_trans {a b c : Wtr} (h : lessW a b = true) (h' : lessW b c = true) : lessW a c = true := by rw [lessW_iff] at *; omega
theorem lessW_tot {a b : Wtr} (h : a.q ≠ b.q) : lessW a b = !(lessW b a) := by
 cases h1 : lessW b a
 ·rw [lessW_nf] at h1; show _ = true; rw [lessW_iff]; omega
 ·exact lessW_asym h1
def bstC (sl : List Slot) (most : Bool) (b : Int) (i : Nat) : Bool := decide ((sl.getD i default).s = 1) && (decide (b < 0) || (if most then lessW (wOf (sl.getD i default)) (wOf (sl.getD b.toNat default)) else lessW (wOf (sl.getD b.toNat default)) (wOf (sl.getD i default))))
def bstN (sl : List Slot) (most : Bool) : Nat → Int
 | 0 => -1
 | i + 1 => if bstC sl most (bstN sl most i) i then (i : Int) else bstN sl most i
theorem bstN_succ {sl : List Slot} {most : Bool} {i : Nat} : bstN sl most (i + 1) = if bstC sl most (bstN sl most i) i then (i : Int) else bstN sl most i := rfl
theorem bstN_t {sl : List Slot} {most : Bool} {i : Nat} (h : bstC sl most (bstN sl most i) i = true) : bstN sl most (i + 1) = (i : Int) := by rw [bstN_succ, if_pos h]
theorem bstN_f {sl : List Slot} {most : Bool} {i : Nat} (h : bstC sl most (bstN sl most i) i = false) : bstN sl most (i + 1) = bstN sl most i := by rw [bstN_succ, if_neg (by rw [h]; decide)]
theorem bstN_bd {sl : List Slot} {most : Bool} : ∀ i, -1 ≤ bstN sl most i ∧ bstN sl most i < i
 | 0 => by simp [bstN]
 | i + 1 => by
  have := @bstN_bd sl most i
  rw [bstN_succ]
  split <;> omega
theorem bstN_one {sl : List Slot} {most : Bool} : ∀ i, 0 ≤ bstN sl most i → (sl.getD (bstN sl most i).toNat default).s = 1
 | 0 => by simp [bstN]
 | i + 1 => by
  have ih := @bstN_one sl most i
  rw [bstN_succ]
  split
  ·next h =>
   intro _
   simp only [bstC, Bool.and_eq_true, decide_eq_true_eq] at h
   simpa using h.1
  ·exact ih
theorem bstN_neg {sl : List Slot} {most : Bool} : ∀ i, bstN sl most i < 0 ↔ ∀ j, j < i → (sl.getD j default).s ≠ 1
 | 0 => by simp [bstN]
 | i + 1 => by
  have ih := @bstN_neg sl most i
  rw [bstN_succ]
  constructor
  ·intro h j hj
   split at h
   ·omega
   ·next hc =>
    have h' := ih.mp h
    by_cases e : j = i
    ·subst e
     intro hs
     apply hc
     simp only [bstC, Bool.and_eq_true, decide_eq_true_eq, Bool.or_eq_true]
     exact ⟨hs, .inl h⟩
    ·exact h' j (by omega)
  ·intro h
   rw [if_neg]
   ·exact ih.mpr fun j hj => h j (by omega)
   ·simp only [bstC, Bool.and_eq_true, decide_eq_true_eq]
    exact fun g => h i (by omega) g.1
def bstS (sl : List Slot) (most : Bool) : Int := bstN sl most sl.length
def difS (sl : List Slot) : Prop := ∀ i j, i < j → j < sl.length → (sl.getD i default).s = 1 → (sl.getD j default).s = 1 → (sl.getD i default).q ≠ (sl.getD j default).q
theorem bst_imp {sl : List Slot} {most : Bool} {i : Nat} (hd : difS sl) (hi : i < sl.length) (h1 : (sl.getD i default).s = 1) (hb : 0 ≤ bstN sl most i) : (if most then lessW (wOf (sl.getD i default)) (wOf (sl.getD (bstN sl most i).toNat default)) else lessW (wOf (sl.getD (bstN sl most i).toNat default)) (wOf (sl.getD i default))) = (decide (urg (wOf (sl.getD i default)) (wOf (sl.getD (bstN sl most i).toNat default)) < 0) == most) := by
 have hbl := @bstN_bd sl most i
 have hne := hd (bstN sl most i).toNat i (by omega) hi (bstN_one i hb) h1
 have hne' : (wOf (sl.getD i default)).q ≠ (wOf (sl.getD (bstN sl most i).toNat default)).q := fun e => hne e.symm
 have e : decide (urg (wOf (sl.getD i default)) (wOf (sl.getD (bstN sl most i).toNat default)) < 0) = lessW (wOf (sl.getD i default)) (wOf (sl.getD (bstN sl most i).toNat default)) := by
  rw [Bool.eq_iff_iff, decide_eq_true_iff]; exact urg_neg
 rw [e]
 cases most
 ·simp only [Bool.false_eq_true, if_false, beq_false]
  exact lessW_tot (Ne.symm hne')
 ·simp
theorem okSl_iff {sl : List Slot} : okSl sl = true ↔ sl.length = 4 ∧ ∀ i, i < 4 → oneSl sl i = true := by
 simp only [okSl, Bool.and_eq_true, decide_eq_true_eq, allN_iff]
 constructor
 ·rintro ⟨h1, h2⟩; exact ⟨h1, fun i hi => h2 i (by omega)⟩
 ·rintro ⟨h1, h2⟩; exact ⟨h1, fun i hi => h2 i (by omega)⟩
theorem okS1_iff {x : Slot} : okS1 x = true ↔ (1 ≤ x.s ∧ x.s ≤ 3) ∧ (0 ≤ x.q ∧ x.q ≤ 7) ∧ 0 ≤ x.p ∧ x.p ≤ 15 := by simp only [okS1, Bool.and_eq_true, inside_t]
theorem fdP_iff {irq : Int} {x : Slot} : fdP irq x = true ↔ x.s ≠ 0 ∧ x.q = irq := by simp [fdP]
theorem anyN_iff {n : Nat} {f : Nat → Bool} : anyN n f = true ↔ ∃ i, i < n ∧ f i = true := by
 constructor
 ·intro h
  simp only [anyN, Bool.not_eq_true', allN, List.all_eq_false, List.mem_range] at h
  obtain ⟨i, h1, h2⟩ := h
  exact ⟨i, h1, by simpa using h2⟩
 ·rintro ⟨i, h1, h2⟩; exact anyN_t h2 h1
theorem anyN_nf {n : Nat} {f : Nat → Bool} : anyN n f = false ↔ ∀ i, i < n → f i = false := by
 constructor
 ·intro h i hi
  cases hf : f i
  ·rfl
  ·rw [anyN_t hf hi] at h; cases h
 ·exact fun h => anyN_f h (Nat.le_refl _)
structure SlF (sl : List Slot) : Prop where
 len : sl.length = 4
 z : ∀ i, i < 4 → (sl.getD i default).s = 0 → sl.getD i default = zSl
 ok : ∀ i, i < 4 → (sl.getD i default).s ≠ 0 → (1 ≤ (sl.getD i default).s ∧ (sl.getD i default).s ≤ 3) ∧ (0 ≤ (sl.getD i default).q ∧ (sl.getD i default).q ≤ 7) ∧ 0 ≤ (sl.getD i default).p ∧ (sl.getD i default).p ≤ 15
 dif : ∀ i j, i < j → j < 4 → (sl.getD i default).s ≠ 0 → (sl.getD j default).s ≠ 0 → (sl.getD i default).q ≠ (sl.getD j default).q
theorem slF {sl : List Slot} : okSl sl = true ↔ SlF sl := by
 rw [okSl_iff]
 constructor
 ·rintro ⟨h1, h2⟩
  refine ⟨h1, fun i hi hz => ?_, fun i hi hz => ?_, fun i j hij hj hi0 hj0 => ?_⟩
  ·have := h2 i hi; unfold oneSl at this; rw [if_pos hz] at this; exact of_decide_eq_true this
  ·have := h2 i hi; unfold oneSl at this; rw [if_neg hz, Bool.and_eq_true] at this; exact okS1_iff.mp this.1
  ·have := h2 j hj; unfold oneSl at this; rw [if_neg hj0, Bool.and_eq_true, Bool.not_eq_true', anyN_nf] at this
   have h3 := this.2 i hij
   intro e
   rw [fdP_iff.mpr ⟨hi0, e⟩] at h3
   cases h3
 ·rintro ⟨h1, h2, h3, h4⟩
  refine ⟨h1, fun i hi => ?_⟩
  unfold oneSl
  split
  ·next hz => exact decide_eq_true (h2 i hi hz)
  ·next hz =>
   rw [Bool.and_eq_true, Bool.not_eq_true', anyN_nf]
   refine ⟨okS1_iff.mpr (h3 i hi hz), fun j hj => ?_⟩
   rw [← Bool.not_eq_true, fdP_iff]
   exact fun g => h4 j i hj hi g.1 hz g.2
theorem SlF.difS {sl : List Slot} (h : SlF sl) : difS sl := fun i j hij hj h1 h2 => h.dif i j hij (by rw [← h.len]; exact hj) (by omega) (by omega)
theorem fnd_cases {sl : List Slot} {irq : Int} : (fndS sl irq = -1 ∧ ∀ i, i < sl.length → fdP irq (sl.getD i default) = false) ∨ ∃ i : Nat, fndS sl irq = i ∧ i < sl.length ∧ (sl.getD i default).s ≠ 0 ∧ (sl.getD i default).q = irq := by
 by_cases h : fndS sl irq = -1
 ·exact .inl ⟨h, idx_neg h⟩
 ·obtain ⟨i, h1, h2, _, h4⟩ := idx_cases h
  exact .inr ⟨i, h1, h2, fdP_iff.mp h4⟩
theorem fre_cases {sl : List Slot} : (freS sl = -1 ∧ ∀ i, i < sl.length → (sl.getD i default).s ≠ 0) ∨ ∃ i : Nat, freS sl = i ∧ i < sl.length ∧ (sl.getD i default).s = 0 := by
 by_cases h : freS sl = -1
 ·refine .inl ⟨h, fun i hi => ?_⟩
  have := idx_neg h i hi
  simpa [emP] using this
 ·obtain ⟨i, h1, h2, _, h4⟩ := idx_cases h
  exact .inr ⟨i, h1, h2, of_decide_eq_true h4⟩
theorem fnd_self {sl : List Slot} {i : Nat} (hi : i < sl.length) (h0 : (sl.getD i default).s ≠ 0) : fndS sl (sl.getD i default).q = i ↔ anyN i (fun j => fdP (sl.getD i default).q (sl.getD j default)) = false := by
 constructor
 ·intro h
  obtain ⟨k, h1, h2, h3, h4⟩ := idx_cases (show fndS sl (sl.getD i default).q ≠ -1 by omega)
  have hk : k = i := by
   have : (k : Int) = i := by rw [← h1]; exact h
   omega
  subst hk
  exact anyN_nf.mpr h3
 ·intro h
  exact idx_some (anyN_nf.mp h) hi (fdP_iff.mpr ⟨h0, rfl⟩)
end Go.Rf
set_option linter.unusedVariables false
set_option linter.unusedSectionVars false
set_option linter.unusedSimpArgs false
namespace Go.Rf
open Go Go.RowKit
section
variable {P : Program} [Env P] {w0 : Base} {ops : Array Oper} {tb : List (Nat × TyI)} {o : Oper} {rest : List Oper} {T : List (Nat × AV)} {m m' : List (Nat × Option Row)} {nx nt d : Nat} {Q : Exit → St → Prop} {c : Code} {r : AV}
theorem Gh.tl {id e sz : Nat} {ys : List (List Value)} {f : Bool} (hm : mem m id = some (.row e sz ys f)) : Gh w0 ⟨T, m, nx, nt⟩ ⟨T, (id, some (.row e sz ys true)) :: m, nx, nt⟩ := by
 intro ρ a w hT hC
 obtain ⟨h1, h2⟩ := hC.rowF hm
 exact ⟨ρ, hT, hC.retell hm (row' := .row e sz ys true) ⟨h1.gen, h2⟩ fun p b hb => by cases hb⟩
theorem WX_tail {t e e' sz by_ id : Nat} {zs : List Value} {ys : List (List Value)} {f : Bool} {x lo : Operand} {k : IntKind} {l : Int} (G : Good P tb) (nx' : Nat) (hn' : Nat.beq nx' (Nat.succ nx) = true) (hd : o.dst = some d) (hlt : Nat.blt d nt = true) (ho : o.op = .slice t x (some lo) none none) (ht : look t tb = some (.slice e sz by_ zs)) (hx : ev T x = some (.own id)) (hm : mem m id = some (.row e' sz ys f))
 (hl : ev T lo = some (.v (.int k l))) (h0 : 0 ≤ l) (h1 : l ≤ ys.length)
 (hk : WL P w0 ops rest ⟨(d, .own nx) :: T, (nx, some (.row e' sz (ys.drop l.toNat) true)) :: (id, none) :: m, nx', nt⟩ Q) : WX P w0 ops o rest ⟨T, m, nx, nt⟩ Q := by
 have hn'' := Nat.eq_of_beq_eq_true hn'
 subst hn''
 intro ρ a w hT hC
 have hxe := hT.ev hx
 simp only [RelV] at hxe
 obtain ⟨hrow, hall⟩ := hC.rowF hm
 obtain ⟨A, cap, he, hcap⟩ := hrow.slice
 have hrun := run_cut (G t _ ht) hT (A := A) (lo := some lo) (hi := none) (l := l) (h := ys.length) (n := ys.length) (cap := cap) (by simp only [bndA, hl]) (by simp [bndA]) h0 h1 (Int.le_refl _) hcap w
 have hr : (execOp a.eval o).run P w = .ok (.value (.slice (if cap = l.toNat then A else A.map (·.add (l.toNat * sz))) (ys.length - l.toNat) (cap - l.toNat))) w := by
  simp only [Option.map_none, Option.map_some, Int.toNat_natCast] at hrun
  simp only [execOp, ho, hxe.2, he, Option.map_none, Option.map_some, hrun, Sem.run_bind, Result.andThen_ok, Sem.run_pure]
 unfold Oper.wp
 rw [hr, Oper.upon_value, hd]
 generalize hv : (Value.slice (if cap = l.toNat then A else A.map (·.add (l.toNat * sz))) (ys.length - l.toNat) (cap - l.toNat)) = v
 have hdl : (ys.drop l.toNat).length = ys.length - l.toNat := List.length_drop
 have hbk : ∀ b, blk v = some b → blk (ρ id) = some b := by
  intro b hb
  rw [he]
  rw [← hv] at hb
  cases A with
  | none => split at hb <;> simp [blk] at hb
  | some ad =>
   split at hb
   ·exact hb
   ·simp only [Option.map_some, blk, add_block] at hb; exact hb
 have hown : TlR w w0.w.heap.size e' sz v (ys.drop l.toNat) := by
  rcases hrow.gen with ⟨g1, rfl⟩ | ⟨g, o', cap', cur, g1, g2, g3, g4, g5, g6⟩
  ·refine .inl ⟨?_, by simp⟩
   rw [he] at g1; cases g1
   rw [← hv]; simp
  ·rw [he] at g1
   cases g1
   have hF := flatten_length (fun c hc => (hall c hc).1)
   by_cases hc : cap = l.toNat
   ·have hz : ys.length - l.toNat = 0 := by omega
    have hnil : ys.drop l.toNat = [] := List.drop_eq_nil_of_le (by omega)
    rw [if_pos hc] at hv
    exact .inr ⟨g, o', cap - l.toNat, cur, by rw [← hv, hdl], g2, g3, by rw [hdl]; omega, g5, by rw [hnil]; simp⟩
   ·rw [if_neg hc] at hv
    have hcc : cur.toList.length = cur.size := by simp
    have hlen0 : ((cur.toList.drop o').take (ys.length * sz)).length = ys.length * sz := by rw [g6]; exact hF
    have hle : l.toNat * sz ≤ ys.length * sz := Nat.mul_le_mul_right _ (by omega)
    rw [List.length_take, List.length_drop, hcc] at hlen0
    refine .inr ⟨g, o' + l.toNat * sz, cap - l.toNat, cur, by rw [← hv, hdl]; simp [Addr.add_lit], g2, g3, by rw [hdl]; omega, by omega, ?_⟩
    rw [hdl, flatten_drop (fun c hc => (hall c hc).1) (by omega), ← g6, Nat.sub_mul, List.drop_take, List.drop_drop]
 have hC2 : RelC w0 ρ ((id, none) :: m) nx w := hC.sub fun i r hr => by
  by_cases e : id = i
  ·subst e; rw [mem_cons_same] at hr; cases hr
  ·rw [mem_cons_other e] at hr; exact hr
 refine hk (upd ρ nx v) _ _ ((hT.add v).put hlt (by simp only [RelV]; exact ⟨by omega, (upd_same _ _ _).symm⟩)) (hC2.addP (fun _ => rfl) ?_ ?_ ?_)
 ·refine ⟨?_, fun c hc => hall c (List.mem_of_mem_drop hc)⟩
  rw [upd_same]
  exact hown
 ·intro i r hr b hb hy
  by_cases e : id = i
  ·subst e; rw [mem_cons_same] at hr; cases hr
  ·rw [mem_cons_other e] at hr
   exact hC.foot_apart hr hm (Ne.symm e) hb (.inl (hbk b hy))
 ·intro b hb
  exact hC.kept.2.2 id _ hm b (hbk b hb)
end
end Go.Rf
namespace Go.Rf
open Go Go.RowKit
theorem ArgOK.fn {m : List (Nat × Option Row)} {nx : Nat} {av : AV} {f : FuncId} (h : ArgOK m nx av (.v (.func (.func f) #[] #[]))) : ArgOK m nx av (.fnc f []) := fun w0 ρ w y hC hy => by
 have := h w0 ρ w y hC hy
 simp only [RelV] at this ⊢
 exact ⟨[], this, by simp [RelVs]⟩
theorem ArgsOK.fn2 {T : List (Nat × AV)} {m : List (Nat × Option Row)} {nx : Nat} {xs : List Operand} {a : AV} {f : FuncId} (h : ArgsOK T m nx xs [a, .v (.func (.func f) #[] #[])]) : ArgsOK T m nx xs [a, .fnc f []] := by
 match xs, h with
 | x :: xs, ⟨av, _, _, e, h1, h2, h3⟩ =>
  cases e
  match xs, h3 with
  | y :: ys, ⟨av', _, _, e', g1, g2, g3⟩ =>
   cases e'
   exact ⟨av, _, _, rfl, h1, h2, av', _, _, rfl, g1, g2.fn, g3⟩
theorem ec3 {a b c d e f : Int} : eqCells [.int .i64 a, .int .i64 b, .int .i64 c] [.int .i64 d, .int .i64 e, .int .i64 f] = true ↔ a = d ∧ b = e ∧ c = f := by
 simp [eqCells, eqCell]
theorem ec2 {a b d e : Int} : eqCells [.int .i64 a, .int .i64 b] [.int .i64 d, .int .i64 e] = true ↔ a = d ∧ b = e := by
 simp [eqCells, eqCell]
theorem ec3f {a b c d e f : Int} (h : eqCells [.int .i64 a, .int .i64 b, .int .i64 c] [.int .i64 d, .int .i64 e, .int .i64 f] = false) : ¬ (a = d ∧ b = e ∧ c = f) := fun g => by rw [ec3.mpr g] at h; cases h
end Go.Rf
namespace Go.Rf
open Go Go.RowKit
theorem ArgOK.pin {m : List (Nat × Option Row)} {nx : Nat} {z : Value} {sz : Nat} {ys : List (List Value)} : ArgOK m nx (.pin z sz ys) (.pin z sz ys) := fun w0 ρ w y hC hy => by
 simp only [RelV] at hy ⊢
 exact ⟨hy.1, hy.2.later hC.below⟩
theorem ArgsOK.pin1 {T : List (Nat × AV)} {m : List (Nat × Option Row)} {nx : Nat} {x : Operand} {xs : List Operand} {z : Value} {sz : Nat} {ys : List (List Value)} {as : List AV} (hx : ev T x = some (.pin z sz ys)) (h : ArgsOK T m nx (x :: xs) (.lst sz ys :: as)) : ArgsOK T m nx (x :: xs) (.pin z sz ys :: as) := by
 obtain ⟨av, a, as', e, h1, h2, h3⟩ := h
 cases e
 exact ⟨_, _, _, rfl, hx, ArgOK.pin, h3⟩
section
variable {w0 : Base} {T : List (Nat × AV)} {m : List (Nat × Option Row)} {nx nt : Nat}
theorem Gh.asPin {d t : Nat} {z : Value} {sz : Nat} {ys : List (List Value)} (hd : look d T = some (.v z)) (ht : look t T = some (.pin z sz ys)) : Gh w0 ⟨T, m, nx, nt⟩ ⟨(d, .pin z sz ys) :: T, m, nx, nt⟩ := by
 intro ρ a w hT hC
 refine ⟨ρ, ⟨fun i x hi => ?_, hT.size, hT.defers⟩, hC⟩
 by_cases e : d = i
 ·subst e
  rw [look_cons_same] at hi
  cases hi
  have h1 := hT.tmps d _ hd
  have h2 := hT.tmps t _ ht
  simp only [RelV] at h1 h2 ⊢
  exact ⟨h1, by rw [h1, ← h2.1]; exact h2.2⟩
 ·rw [look_cons_other e] at hi
  exact hT.tmps i x hi
end
end Go.Rf
set_option linter.unusedVariables false
set_option linter.unusedSectionVars false
set_option linter.unusedSimpArgs false
namespace Go.Rf
open Go
def orI (l : List Int) : Int := if idxN (fun i => !decide (l.getD i default = 0)) l.length = -1 then 0 else l.getD (idxN (fun i => !decide (l.getD i default = 0)) l.length).toNat default
theorem orI_t {l : List Int} {i : Nat} (h : ∀ j, j < i → l.getD j default = 0) (hi : i < l.length) (h0 : ¬ l.getD i default = 0) : orI l = l.getD i default := by
 unfold orI
 rw [idx_some (i := i) (fun j hj => by simpa using h j hj) hi (by simpa using h0), if_neg (by omega)]
 rfl
theorem orI_f {l : List Int} {i : Nat} (h : ∀ j, j < i → l.getD j default = 0) (hi : l.length ≤ i) : orI l = 0 := by
 unfold orI
 rw [idx_none (i := i) (fun j hj => by simpa using h j hj) hi, if_pos rfl]
theorem orI_urg {a b : Wtr} : orI [cmpN a.p b.p, cmpN a.q b.q] = urg a b := by
 unfold urg
 by_cases h : cmpN a.p b.p = 0
 ·rw [if_pos h]
  by_cases h2 : cmpN a.q b.q = 0
  ·have e : orI [cmpN a.p b.p, cmpN a.q b.q] = 0 := orI_f (i := 2) (fun j hj => by
    match j, hj with
    | 0, _ => exact h
    | 1, _ => exact h2) (by simp)
   rw [e]; exact h2.symm
  ·exact orI_t (i := 1) (fun j hj => by
    match j, hj with
    | 0, _ => exact h) (by simp) h2
 ·rw [if_neg h]
  exact orI_t (i := 0) (fun j hj => by omega) (by simp) h
theorem idx_congr {n : Nat} {f g : Nat → Bool} (h : ∀ j, j < n → f j = g j) : idxN f n = idxN g n := by
 by_cases hg : idxN g n = -1
 ·rw [hg]; exact idx_none (i := n) (fun j hj => by rw [h j hj]; exact idx_neg hg j hj) (Nat.le_refl _)
 ·obtain ⟨i, h1, h2, h3, h4⟩ := idx_cases hg
  rw [h1]; exact idx_some (fun j hj => by rw [h j (by omega)]; exact h3 j hj) h2 (by rw [h i h2]; exact h4)
theorem take_getD {α : Type} [Inhabited α] {l : List α} {i j : Nat} (h : j < i) : (l.take i).getD j default = l.getD j default := by
 rw [List.getD_eq_getElem?_getD, List.getElem?_take, if_pos h, ← List.getD_eq_getElem?_getD]
theorem take_fnd {sl : List Slot} {i : Nat} {q : Int} (hi : i ≤ sl.length) : fndS (sl.take i) q = idxN (fun j => fdP q (sl.getD j default)) i := by
 unfold fndS
 have hl : (sl.take i).length = i := by rw [List.length_take]; omega
 rw [hl]
 exact idx_congr fun j hj => by rw [take_getD hj]
theorem idx_ge {f : Nat → Bool} {n : Nat} : 0 ≤ idxN f n ↔ anyN n f = true := by
 have := idx_any (f := f) (n := n)
 rw [← this]; simp
theorem idx_lt0 {f : Nat → Bool} {n : Nat} : idxN f n < 0 ↔ anyN n f = false := by
 have := idx_any (f := f) (n := n)
 rw [← this]; simp
theorem idx_bd {f : Nat → Bool} {n : Nat} : -1 ≤ idxN f n ∧ idxN f n < n ∨ (idxN f n = -1) := by
 by_cases h : idxN f n = -1
 ·exact .inr h
 ·obtain ⟨i, h1, h2, _⟩ := idx_cases h
  exact .inl (by omega)
theorem fnd_bd {sl : List Slot} {q : Int} : -1 ≤ fndS sl q ∧ fndS sl q < sl.length := by
 have := @idx_bd (fun i => fdP q (sl.getD i default)) sl.length
 unfold fndS
 omega
theorem fre_bd {sl : List Slot} : -1 ≤ freS sl ∧ freS sl < sl.length := by
 have := @idx_bd (fun i => emP (sl.getD i default)) sl.length
 unfold freS
 omega
section
variable {sl : List Slot} {i : Nat}
theorem one_z (h0 : (sl.getD i default).s = 0) (h : sl.getD i default = zSl) : oneSl sl i = true := by unfold oneSl; rw [if_pos h0]; exact decide_eq_true h
theorem one_zf (h0 : (sl.getD i default).s = 0) (h : ¬ sl.getD i default = zSl) : oneSl sl i = false := by unfold oneSl; rw [if_pos h0]; exact decide_eq_false h
theorem one_t (h0 : ¬ (sl.getD i default).s = 0) (h1 : okS1 (sl.getD i default) = true) (h2 : anyN i (fun j => fdP (sl.getD i default).q (sl.getD j default)) = false) : oneSl sl i = true := by unfold oneSl; rw [if_neg h0, h1, h2]; rfl
theorem one_f1 (h0 : ¬ (sl.getD i default).s = 0) (h1 : okS1 (sl.getD i default) = false) : oneSl sl i = false := by unfold oneSl; rw [if_neg h0, h1]; rfl
theorem one_f2 (h0 : ¬ (sl.getD i default).s = 0) (h2 : anyN i (fun j => fdP (sl.getD i default).q (sl.getD j default)) = true) : oneSl sl i = false := by unfold oneSl; rw [if_neg h0, h2, Bool.not_true, Bool.and_false]
theorem okSl_f (h : oneSl sl i = false) (hi : i < sl.length) : okSl sl = false := by unfold okSl; rw [allN_f h hi, Bool.and_false]
theorem okSl_l (h : sl.length ≠ 4) : okSl sl = false := by unfold okSl; rw [decide_eq_false h, Bool.false_and]
theorem okSl_t (hl : sl.length = 4) (h : ∀ j, j < i → oneSl sl j = true) (hi : 4 ≤ i) : okSl sl = true := okSl_iff.mpr ⟨hl, fun j hj => h j (by omega)⟩
theorem slot_eta {x : Slot} : x = zSl ↔ x.s = 0 ∧ x.q = 0 ∧ x.p = 0 := by cases x; simp [zSl]
theorem spec_bad (h1 : ¬ ((0 ≤ (sl.getD i default).s ∧ (sl.getD i default).s ≤ 3) ∧ (0 ≤ (sl.getD i default).q ∧ (sl.getD i default).q ≤ 7) ∧ 0 ≤ (sl.getD i default).p ∧ (sl.getD i default).p ≤ 15)) : oneSl sl i = false := by
 unfold oneSl
 split
 ·next h0 =>
  refine decide_eq_false fun e => h1 ?_
  rw [e]; simp [zSl]
 ·next h0 =>
  have : okS1 (sl.getD i default) = false := by rw [← Bool.not_eq_true, okS1_iff]; intro g; exact h1 ⟨by omega, g.2⟩
  rw [this]; rfl
theorem spec_ok (hi : i < sl.length) (h1 : (0 ≤ (sl.getD i default).s ∧ (sl.getD i default).s ≤ 3) ∧ (0 ≤ (sl.getD i default).q ∧ (sl.getD i default).q ≤ 7) ∧ 0 ≤ (sl.getD i default).p ∧ (sl.getD i default).p ≤ 15)
 (h2 : ¬ ((sl.getD i default).s = 0 ∧ ((sl.getD i default).q ≠ 0 ∨ (sl.getD i default).p ≠ 0))) (h3 : (sl.getD i default).s ≠ 0 → fndS sl (sl.getD i default).q = i) : oneSl sl i = true := by
 by_cases h0 : (sl.getD i default).s = 0
 ·exact one_z h0 (slot_eta.mpr ⟨h0, by omega, by omega⟩)
 ·exact one_t h0 (okS1_iff.mpr ⟨by omega, h1.2⟩) ((fnd_self hi h0).mp (h3 h0))
theorem spec_zf (h0 : (sl.getD i default).s = 0) (h : (sl.getD i default).q ≠ 0 ∨ (sl.getD i default).p ≠ 0) : oneSl sl i = false := one_zf h0 (fun e => by rw [e] at h; simp [zSl] at h)
theorem spec_ff (hi : i < sl.length) (h0 : (sl.getD i default).s ≠ 0) (h : fndS sl (sl.getD i default).q ≠ i) : oneSl sl i = false := one_f2 h0 (by
 rw [← Bool.not_eq_false]; exact fun g => h ((fnd_self hi h0).mpr g))
end
end Go.Rf
namespace Go.Rf
theorem okS1_a {x : Slot} (h : inside x.s 1 3 = false) : okS1 x = false := by simp only [okS1, h, Bool.false_and]
theorem okS1_b {x : Slot} (h : inside x.q 0 7 = false) : okS1 x = false := by simp only [okS1, h, Bool.false_and, Bool.and_false]
theorem okS1_c {x : Slot} (h : inside x.p 0 15 = false) : okS1 x = false := by simp only [okS1, h, Bool.and_false]
end Go.Rf
namespace Go.Rf
theorem okSl_fin {sl : List Slot} {i : Nat} (h : ∀ j, j < i → oneSl sl j = true) (hi : sl.length ≤ i) : ((sl.length : Int) == 4) = okSl sl := by
 by_cases hl : sl.length = 4
 ·rw [okSl_t hl h (by omega)]; simp [hl]
 ·rw [okSl_l hl]
  have : ¬ ((sl.length : Int) = 4) := by omega
  simp [this]
end Go.Rf
namespace Go.Rf
section
variable {sl : List Slot} {most : Bool} {i : Nat}
theorem bstC_f1 {b : Int} (h : ¬ (sl.getD i default).s = 1) : bstC sl most b i = false := by simp only [bstC, decide_eq_false h, Bool.false_and]
theorem bstC_t1 {b : Int} (h : (sl.getD i default).s = 1) (hb : b < 0) : bstC sl most b i = true := by simp only [bstC, decide_eq_true h, decide_eq_true hb, Bool.true_or, Bool.true_and]
theorem bstC_2 (hd : difS sl) (hi : i < sl.length) (h : (sl.getD i default).s = 1) (hb : 0 ≤ bstN sl most i) : bstC sl most (bstN sl most i) i = (decide (urg (wOf (sl.getD i default)) (wOf (sl.getD (bstN sl most i).toNat default)) < 0) == most) := by
 rw [← bst_imp hd hi h hb]
 simp only [bstC, decide_eq_true h, decide_eq_false (show ¬ bstN sl most i < 0 by omega), Bool.false_or, Bool.true_and]
theorem bstC_s {b : Int} (h : (sl.getD i default).s = 1) (hb : ¬ b < 0) : bstC sl most b i = (if most then lessW (wOf (sl.getD i default)) (wOf (sl.getD b.toNat default)) else lessW (wOf (sl.getD b.toNat default)) (wOf (sl.getD i default))) := by
 simp only [bstC, decide_eq_true h, decide_eq_false hb, Bool.false_or, Bool.true_and]
theorem setG {α : Type} {f : α → List Value} {l : List α} {i : Nat} {x : α} : (l.map f).set i (f x) = (l.set i x).map f := by rw [List.map_set]
end
def cntW (wa : List Wtr) (w : Wtr) : Nat := (wa.takeWhile (fun x => lessW x w)).length
theorem cntW_at {wa : List Wtr} {w : Wtr} {i : Nat} (h : ∀ j, j < i → lessW (wa.getD j default) w = true) (hi : i ≤ wa.length) (he : i = wa.length ∨ (i < wa.length ∧ lessW (wa.getD i default) w = false)) : cntW wa w = i := by
 unfold cntW
 induction wa generalizing i with
 | nil => simp at hi; simp [hi]
 | cons x wa ih =>
  cases i with
  | zero =>
   rcases he with he | ⟨_, he⟩
   ·simp at he
   ·have he : lessW x w = false := he
    simp [he]
  | succ i =>
   have h0 : lessW x w = true := h 0 (by omega)
   rw [List.takeWhile_cons, if_pos h0, List.length_cons]
   congr 1
   refine ih (fun j hj => by simpa using h (j + 1) (by omega)) (by simpa using hi) ?_
   rcases he with he | ⟨g1, g2⟩
   ·left; simpa using he
   ·right; exact ⟨by simpa using g1, by simpa using g2⟩
theorem cntW_le {wa : List Wtr} {w : Wtr} : cntW wa w ≤ wa.length := (List.takeWhile_sublist _).length_le
def insW (wa : List Wtr) (w : Wtr) : List Wtr := wa.take (cntW wa w) ++ [w] ++ wa.drop (cntW wa w)
theorem insW_len {wa : List Wtr} {w : Wtr} : (insW wa w).length = wa.length + 1 := by
 have := @cntW_le wa w
 simp [insW]; omega
theorem insW_at {wa : List Wtr} {w : Wtr} {i : Nat} (h : ∀ j, j < i → lessW (wa.getD j default) w = true) (hi : i ≤ wa.length) (he : i = wa.length ∨ (i < wa.length ∧ lessW (wa.getD i default) w = false)) : insW wa w = wa.take i ++ [w] ++ wa.drop i := by
 unfold insW
 rw [cntW_at h hi he]
def inW (wa : List Wtr) (q : Int) : Int := idxN (fun j => decide ((wa.getD j default).q = q)) wa.length
theorem inW_bd {wa : List Wtr} {q : Int} : -1 ≤ inW wa q ∧ inW wa q < wa.length := by
 have := @idx_bd (fun j => decide ((wa.getD j default).q = q)) wa.length
 unfold inW
 omega
theorem take_inW {wa : List Wtr} {i : Nat} {q : Int} (hi : i ≤ wa.length) : inW (wa.take i) q = idxN (fun j => decide ((wa.getD j default).q = q)) i := by
 unfold inW
 have hl : (wa.take i).length = i := by rw [List.length_take]; omega
 rw [hl]
 exact idx_congr fun j hj => by rw [take_getD hj]
def setd (q : Que) : Bool := decide (q.wa.length = 0) || (decide (freS q.sl < 0) && (decide (bstS q.sl false < 0) || lessW (wOf (q.sl.getD (bstS q.sl false).toNat default)) (q.wa.getD 0 default)))
def oneWa (sl : List Slot) (wa : List Wtr) (i : Nat) : Bool := inside (wa.getD i default).q 0 7 && (inside (wa.getD i default).p 0 15 && (decide (fndS sl (wa.getD i default).q < 0) && (!(anyN i (fun j => decide ((wa.getD j default).q = (wa.getD i default).q))) && (decide (i = 0) || lessW (wa.getD (i - 1) default) (wa.getD i default)))))
def okWa (sl : List Slot) (wa : List Wtr) : Bool := allN wa.length (oneWa sl wa)
def okPa (q : Que) : Bool := okSl q.sl && okWa q.sl q.wa
def okQu (q : Que) : Bool := okPa q && setd q
theorem oneWa_iff {sl : List Slot} {wa : List Wtr} {i : Nat} : oneWa sl wa i = true ↔ (0 ≤ (wa.getD i default).q ∧ (wa.getD i default).q ≤ 7) ∧ (0 ≤ (wa.getD i default).p ∧ (wa.getD i default).p ≤ 15) ∧ fndS sl (wa.getD i default).q < 0 ∧ (∀ j, j < i → (wa.getD j default).q ≠ (wa.getD i default).q) ∧ (i = 0 ∨ lessW (wa.getD (i - 1) default) (wa.getD i default) = true) := by
 simp only [oneWa, Bool.and_eq_true, inside_t, decide_eq_true_eq, Bool.not_eq_true', anyN_nf, decide_eq_false_iff_not, Bool.or_eq_true, ne_eq]
theorem oneWa_f {sl : List Slot} {wa : List Wtr} {i : Nat} (h : ¬ ((0 ≤ (wa.getD i default).q ∧ (wa.getD i default).q ≤ 7) ∧ (0 ≤ (wa.getD i default).p ∧ (wa.getD i default).p ≤ 15) ∧ fndS sl (wa.getD i default).q < 0 ∧ (∀ j, j < i → (wa.getD j default).q ≠ (wa.getD i default).q) ∧ (i = 0 ∨ lessW (wa.getD (i - 1) default) (wa.getD i default) = true))) : oneWa sl wa i = false := by
 rw [← Bool.not_eq_true, oneWa_iff]; exact h
theorem okPa_s {q : Que} (h : okSl q.sl = false) : okPa q = false := by unfold okPa; rw [h, Bool.false_and]
theorem okPa_w {q : Que} {i : Nat} (h : oneWa q.sl q.wa i = false) (hi : i < q.wa.length) : okPa q = false := by unfold okPa okWa; rw [allN_f h hi, Bool.and_false]
theorem okPa_t {q : Que} {i : Nat} (h1 : okSl q.sl = true) (h : ∀ j, j < i → oneWa q.sl q.wa j = true) (hi : q.wa.length ≤ i) : okPa q = true := by unfold okPa okWa; rw [h1, allN_t h hi]; rfl
theorem pigeon : ∀ (n : Nat) (f : Nat → Int) (k : Nat), (∀ i, i < n → 0 ≤ f i ∧ f i < k) → (∀ i j, i < j → j < n → f i ≠ f j) → n ≤ k
 | n, f, 0, h, _ => by
  rcases Nat.eq_zero_or_pos n with h0 | h0
  ·omega
  ·have := h 0 h0; omega
 | n, f, k + 1, h, hd => by
  by_cases hx : ∃ i, i < n ∧ f i = k
  ·obtain ⟨i, hi, hk⟩ := hx
   have := pigeon (n - 1) (fun j => if j < i then f j else f (j + 1)) k (fun j hj => by
    split
    ·next hlt => have := h j (by omega); have := hd j i hlt hi; omega
    ·next hge => have := h (j + 1) (by omega); have := hd i (j + 1) (by omega) (by omega); omega) (fun a b hab hb => by
    split
    ·next h1 =>
     split
     ·exact hd a b hab (by omega)
     ·exact hd a (b + 1) (by omega) (by omega)
    ·next h1 =>
     rw [if_neg (by omega)]
     exact hd (a + 1) (b + 1) (by omega) (by omega))
   omega
  ·have := pigeon n f k (fun i hi => by
    have h1 := h i hi
    have h2 : f i ≠ k := fun e => hx ⟨i, hi, e⟩
    omega) hd
   omega
theorem okWa_le {sl : List Slot} {wa : List Wtr} {n : Nat} (h : ∀ j, j < n → oneWa sl wa j = true) : n ≤ 8 :=
 pigeon n (fun i => (wa.getD i default).q) 8 (fun i hi => by have := (oneWa_iff.mp (h i hi)).1; omega) (fun i j hij hj => (oneWa_iff.mp (h j hj)).2.2.2.1 i hij)
structure PaF (q : Que) : Prop where
 sl : SlF q.sl
 wn : q.wa.length ≤ 8
 wa : ∀ i, i < q.wa.length → oneWa q.sl q.wa i = true
theorem paF {q : Que} : okPa q = true ↔ PaF q := by
 unfold okPa okWa
 rw [Bool.and_eq_true, allN_iff]
 exact ⟨fun h => ⟨slF.mp h.1, okWa_le h.2, h.2⟩, fun h => ⟨slF.mpr h.sl, h.wa⟩⟩
end Go.Rf
namespace Go.Rf
theorem enc_oneW (w : Wtr) : ∀ u ∈ encWa w, u.oneCell' = true := by intro u hu; simp [encWa] at hu; rcases hu with rfl | rfl <;> rfl
theorem cut_rest {α : Type} {xs : List α} {f : α → List Value} {i : Nat} : ((xs.map f).drop ((i : Int)).toNat).take (((xs.map f).length : Int).toNat - ((i : Int)).toNat) = (xs.drop i).map f := by
 rw [Int.toNat_natCast, Int.toNat_natCast, List.take_of_length_le (by rw [List.length_drop]; exact Nat.le_refl _), List.map_drop]
theorem setd_0 {q : Que} (h : q.wa.length = 0) : setd q = true := by unfold setd; rw [decide_eq_true h, Bool.true_or]
theorem setd_f {q : Que} (h : ¬ q.wa.length = 0) (h2 : 0 ≤ freS q.sl) : setd q = false := by unfold setd; rw [decide_eq_false h, decide_eq_false (by omega)]; rfl
theorem setd_b {q : Que} (h2 : freS q.sl < 0) (h3 : bstS q.sl false < 0) : setd q = true := by unfold setd; rw [decide_eq_true h2, decide_eq_true h3]; simp
theorem setd_l {q : Que} (h : ¬ q.wa.length = 0) (h2 : freS q.sl < 0) (h3 : ¬ bstS q.sl false < 0) : setd q = lessW (wOf (q.sl.getD (bstS q.sl false).toNat default)) (q.wa.getD 0 default) := by unfold setd; rw [decide_eq_false h, decide_eq_true h2, decide_eq_false h3]; simp
theorem bstS_bd {sl : List Slot} {most : Bool} : -1 ≤ bstS sl most ∧ bstS sl most < sl.length := bstN_bd _
theorem bstS_at {sl : List Slot} {most : Bool} {i : Nat} (h : sl.length = i) : bstN sl most i = bstS sl most := by subst h; rfl
end Go.Rf
namespace Go.Rf
theorem okPa_fin {sl : List Slot} {wa : List Wtr} {i : Nat} (hs : okSl sl = true) (h : ∀ j, j < i → oneWa sl wa j = true) (hi : wa.length ≤ i ∨ 8 < i) (hn : i ≤ wa.length) : decide ((wa.length : Int) ≤ 8) = okPa ⟨sl, wa⟩ := by
 have h8 := okWa_le h
 rw [okPa_t (q := ⟨sl, wa⟩) hs h (show wa.length ≤ i by omega)]
 simp; omega
end Go.Rf
set_option linter.unusedVariables false
set_option linter.unusedSectionVars false
set_option linter.unusedSimpArgs false
namespace Go.Rf
open Go
def tkOK (sl : List Slot) (lim : Int) : Bool := decide (0 ≤ bstS sl true) && decide ((sl.getD (bstS sl true).toNat default).p < lim)
def tkS (sl : List Slot) : List Slot := sl.set (bstS sl true).toNat ⟨2, (sl.getD (bstS sl true).toNat default).q, (sl.getD (bstS sl true).toNat default).p⟩
def tkI (sl : List Slot) : Int := (sl.getD (bstS sl true).toNat default).q
def tkT (sl : List Slot) (lim : Int) : List Slot × Int × Bool := if tkOK sl lim then (tkS sl, tkI sl, true) else ([], 0, false)
section
variable {sl : List Slot} {lim irq p : Int}
theorem tkT_t (h : tkOK sl lim = true) : tkT sl lim = (tkS sl, tkI sl, true) := by unfold tkT; rw [h]; rfl
theorem tkT_f (h : tkOK sl lim = false) : tkT sl lim = ([], 0, false) := by unfold tkT; rw [h]; rfl
theorem tkOK_iff : tkOK sl lim = true ↔ 0 ≤ bstS sl true ∧ (sl.getD (bstS sl true).toNat default).p < lim := by simp [tkOK]
theorem tkOK_nf : tkOK sl lim = false ↔ ¬ (0 ≤ bstS sl true ∧ (sl.getD (bstS sl true).toNat default).p < lim) := by rw [← Bool.not_eq_true, tkOK_iff]
def ptS (sl : List Slot) (irq : Int) : List Slot := sl.set (fndS sl irq).toNat ⟨if (sl.getD (fndS sl irq).toNat default).s = 2 then 3 else (sl.getD (fndS sl irq).toNat default).s, (sl.getD (fndS sl irq).toNat default).q, (sl.getD (fndS sl irq).toNat default).p⟩
def edX (sl : List Slot) (irq : Int) : Slot := if (sl.getD (fndS sl irq).toNat default).s = 3 then ⟨1, irq, (sl.getD (fndS sl irq).toNat default).p⟩ else zSl
def edS (sl : List Slot) (irq : Int) : List Slot := sl.set (fndS sl irq).toNat (edX sl irq)
def actP (x : Slot) : Bool := decide (x.s = 2) || decide (x.s = 3)
theorem actP_iff {x : Slot} : actP x = true ↔ x.s = 2 ∨ x.s = 3 := by simp [actP]
theorem fnd_q (h : 0 ≤ fndS sl irq) : (sl.getD (fndS sl irq).toNat default).q = irq ∧ (sl.getD (fndS sl irq).toNat default).s ≠ 0 := by
 rcases @fnd_cases sl irq with ⟨h1, _⟩ | ⟨i, h1, _, h3, h4⟩
 ·omega
 ·rw [h1]; exact ⟨by simpa using h4, by simpa using h3⟩
end
def stK (q : Que) : Nat := if freS q.sl < 0 then (bstS q.sl false).toNat else (freS q.sl).toNat
def stW (q : Que) : List Wtr := if freS q.sl < 0 then insW (q.wa.drop 1) (wOf (q.sl.getD (bstS q.sl false).toNat default)) else q.wa.drop 1
def stQ (q : Que) : Que := ⟨q.sl.set (stK q) ⟨1, (q.wa.getD 0 default).q, (q.wa.getD 0 default).p⟩, stW q⟩
def wtS (x : Slot) : Nat := if x.s = 0 then 2000 else if x.s = 1 then (8 * x.p + x.q).toNat else 0
def phi (q : Que) : Nat := (q.sl.map wtS).sum
def setF : Nat → Que → Que
 | 0, q => q
 | n + 1, q => if setd q then q else setF n (stQ q)
def setl (q : Que) : Que := setF (phi q + 1) q
def ltW (a b : Wtr) : Prop := lessW a b = true ∧ a.q ≠ b.q
structure QF (q : Que) : Prop where
 sl : SlF q.sl
 wn : q.wa.length ≤ 9
 wa : ∀ w ∈ q.wa, (0 ≤ w.q ∧ w.q ≤ 7) ∧ (0 ≤ w.p ∧ w.p ≤ 15) ∧ ∀ x ∈ q.sl, x.s ≠ 0 → x.q ≠ w.q
 pw : q.wa.Pairwise ltW
theorem mem_getD {α : Type} [Inhabited α] {l : List α} {x : α} : x ∈ l ↔ ∃ i, i < l.length ∧ l.getD i default = x := by
 constructor
 ·intro h
  obtain ⟨i, hi, e⟩ := List.getElem_of_mem h
  exact ⟨i, hi, by rw [List.getD_eq_getElem?_getD, List.getElem?_eq_getElem hi]; exact e⟩
 ·rintro ⟨i, hi, e⟩
  rw [List.getD_eq_getElem?_getD, List.getElem?_eq_getElem hi] at e
  rw [← e]; exact List.getElem_mem hi
theorem pw_getD {α : Type} [Inhabited α] {l : List α} {R : α → α → Prop} : l.Pairwise R ↔ ∀ i j, i < j → j < l.length → R (l.getD i default) (l.getD j default) := by
 rw [List.pairwise_iff_getElem]
 constructor
 ·intro h i j hij hj
  have := h i j (by omega) hj hij
  rw [List.getD_eq_getElem?_getD, List.getD_eq_getElem?_getD, List.getElem?_eq_getElem (show i < l.length by omega), List.getElem?_eq_getElem hj]
  exact this
 ·intro h i j hi hj hij
  have := h i j hij hj
  rw [List.getD_eq_getElem?_getD, List.getD_eq_getElem?_getD, List.getElem?_eq_getElem hi, List.getElem?_eq_getElem hj] at this
  exact this
theorem fnd_lt0 {sl : List Slot} {irq : Int} : fndS sl irq < 0 ↔ ∀ j, j < sl.length → ¬ ((sl.getD j default).s ≠ 0 ∧ (sl.getD j default).q = irq) := by
 unfold fndS
 rw [idx_lt0, anyN_nf]
 constructor
 ·intro h j hj g; have := h j hj; rw [fdP_iff.mpr g] at this; cases this
 ·intro h j hj; rw [← Bool.not_eq_true, fdP_iff]; exact h j hj
theorem fnd_lt0m {sl : List Slot} {irq : Int} : fndS sl irq < 0 ↔ ∀ x ∈ sl, x.s ≠ 0 → x.q ≠ irq := by
 rw [fnd_lt0]
 constructor
 ·intro h x hx h0 h1
  obtain ⟨i, hi, rfl⟩ := mem_getD.mp hx
  exact h i hi ⟨h0, h1⟩
 ·intro h j hj g
  exact h _ (mem_getD.mpr ⟨j, hj, rfl⟩) g.1 g.2
theorem PaF.q {q : Que} (h : PaF q) : QF q := by
 refine ⟨h.sl, Nat.le_succ_of_le h.wn, fun w hw => ?_, pw_getD.mpr ?_⟩
 ·obtain ⟨i, hi, rfl⟩ := mem_getD.mp hw
  obtain ⟨h1, h2, h3, _⟩ := oneWa_iff.mp (h.wa i hi)
  exact ⟨h1, h2, fnd_lt0m.mp h3⟩
 ·intro i j hij hj
  refine ⟨?_, (oneWa_iff.mp (h.wa j hj)).2.2.2.1 i hij⟩
  induction j with
  | zero => omega
  | succ j ih =>
   have hlast : lessW (q.wa.getD j default) (q.wa.getD (j + 1) default) = true := by
    rcases (oneWa_iff.mp (h.wa (j + 1) hj)).2.2.2.2 with g | g
    ·omega
    ·exact g
   by_cases e : i = j
   ·subst e; exact hlast
   ·exact lessW_trans (ih (by omega) (by omega)) hlast
theorem QF.pa {q : Que} (h : QF q) : PaF q := by
 have hp := pw_getD.mp h.pw
 have h8 : ∀ i, i < q.wa.length → oneWa q.sl q.wa i = true := fun i hi => by
  obtain ⟨h1, h2, h3⟩ := h.wa _ (mem_getD.mpr ⟨i, hi, rfl⟩)
  refine oneWa_iff.mpr ⟨h1, h2, fnd_lt0m.mpr h3, fun j hj => (hp j i hj hi).2, ?_⟩
  rcases Nat.eq_zero_or_pos i with g | g
  ·exact .inl g
  ·exact .inr (hp (i - 1) i (by omega) hi).1
 exact ⟨h.sl, okWa_le h8, h8⟩
theorem QF.wn8 {q : Que} (h : QF q) : q.wa.length ≤ 8 := h.pa.wn
theorem set_getD {α : Type} [Inhabited α] {l : List α} {i j : Nat} {x : α} (hi : i < l.length) : (l.set i x).getD j default = if i = j then x else l.getD j default := by
 rw [List.getD_eq_getElem?_getD, List.getElem?_set]
 by_cases e : i = j
 ·subst e; simp [hi]
 ·simp [e]
theorem SlF.set {sl : List Slot} (h : SlF sl) {k : Nat} {x : Slot} (hk : k < 4) (hx : (1 ≤ x.s ∧ x.s ≤ 3) ∧ (0 ≤ x.q ∧ x.q ≤ 7) ∧ 0 ≤ x.p ∧ x.p ≤ 15) (hq : ∀ j, j < 4 → j ≠ k → (sl.getD j default).s ≠ 0 → (sl.getD j default).q ≠ x.q) : SlF (sl.set k x) := by
 have hl : k < sl.length := by rw [h.len]; exact hk
 refine ⟨by rw [List.length_set]; exact h.len, fun i hi => ?_, fun i hi => ?_, fun i j hij hj => ?_⟩
 ·rw [set_getD hl]; split
  ·intro e; omega
  ·exact h.z i hi
 ·rw [set_getD hl]; split
  ·intro _; exact hx
  ·exact h.ok i hi
 ·rw [set_getD hl, set_getD hl]
  by_cases e1 : k = i
  ·rw [if_pos e1, if_neg (by omega)]
   intro _ h2 e; exact hq j hj (by omega) h2 e.symm
  ·rw [if_neg e1]
   by_cases e2 : k = j
   ·rw [if_pos e2]; intro h1 _; exact hq i (by omega) (by omega) h1
   ·rw [if_neg e2]; exact h.dif i j hij hj
theorem SlF.setZ {sl : List Slot} (h : SlF sl) {k : Nat} (hk : k < 4) : SlF (sl.set k zSl) := by
 have hl : k < sl.length := by rw [h.len]; exact hk
 refine ⟨by rw [List.length_set]; exact h.len, fun i hi => ?_, fun i hi => ?_, fun i j hij hj => ?_⟩
 ·rw [set_getD hl]; split
  ·intro _; rfl
  ·exact h.z i hi
 ·rw [set_getD hl]; split
  ·intro e; exact absurd rfl e
  ·exact h.ok i hi
 ·rw [set_getD hl, set_getD hl]
  split
  ·intro e; exact absurd rfl e
  ·split
   ·intro _ e; exact absurd rfl e
   ·exact h.dif i j hij hj
theorem take_tw {α : Type} {A B l : List α} (h : A ++ B = l) : l.take A.length = A ∧ l.drop A.length = B := by subst h; simp
theorem tw_mem {α : Type} {p : α → Bool} {x : α} : ∀ {l : List α}, x ∈ l.takeWhile p → p x = true
 | [], h => by simp at h
 | y :: l, h => by
  rw [List.takeWhile_cons] at h
  split at h
  ·next hy =>
   rcases List.mem_cons.mp h with rfl | h
   ·exact hy
   ·exact tw_mem h
  ·cases h
theorem insW_eq {wa : List Wtr} {w : Wtr} : insW wa w = wa.takeWhile (fun x => lessW x w) ++ [w] ++ wa.dropWhile (fun x => lessW x w) := by
 have h := List.takeWhile_append_dropWhile (p := fun x => lessW x w) (l := wa)
 unfold insW cntW
 obtain ⟨e1, e2⟩ := take_tw h
 rw [e1, e2]
theorem insW_mem {wa : List Wtr} {w x : Wtr} : x ∈ insW wa w ↔ x = w ∨ x ∈ wa := by
 have h := List.takeWhile_append_dropWhile (p := fun x => lessW x w) (l := wa)
 rw [insW_eq]
 have : x ∈ wa ↔ x ∈ wa.takeWhile (fun x => lessW x w) ∨ x ∈ wa.dropWhile (fun x => lessW x w) := by
  conv => lhs; rw [← h]
  exact List.mem_append
 simp only [List.mem_append, List.mem_singleton, this]
 constructor
 ·rintro ((h | h) | h)
  ·exact .inr (.inl h)
  ·exact .inl h
  ·exact .inr (.inr h)
 ·rintro (h | h | h)
  ·exact .inl (.inr h)
  ·exact .inl (.inl h)
  ·exact .inr h
theorem insW_pw {wa : List Wtr} {w : Wtr} (h : wa.Pairwise ltW) (hd : ∀ x ∈ wa, x.q ≠ w.q) : (insW wa w).Pairwise ltW := by
 rw [insW_eq]
 have hs := List.takeWhile_append_dropWhile (p := fun x => lessW x w) (l := wa)
 have hp : (wa.takeWhile (fun x => lessW x w) ++ wa.dropWhile (fun x => lessW x w)).Pairwise ltW := by rw [hs]; exact h
 obtain ⟨p1, p2, p3⟩ := List.pairwise_append.mp hp
 have t1 : ∀ x ∈ wa.takeWhile (fun x => lessW x w), ltW x w := fun x hx => by
  refine ⟨?_, hd x (by rw [← hs]; exact List.mem_append_left _ hx)⟩
  exact tw_mem (p := fun x => lessW x w) hx
 have t2 : ∀ x ∈ wa.dropWhile (fun x => lessW x w), ltW w x := by
  cases hdw : wa.dropWhile (fun x => lessW x w) with
  | nil => intro x hx; cases hx
  | cons y r =>
   have hy : lessW y w = false := by
    have := List.head?_dropWhile_not (fun x => lessW x w) wa
    rw [hdw] at this
    simpa using this
   have hyq : y.q ≠ w.q := hd y (by rw [← hs, hdw]; simp)
   have hwy : ltW w y := ⟨by rw [lessW_tot (Ne.symm hyq), hy]; rfl, Ne.symm hyq⟩
   rw [hdw] at p2
   intro x hx
   rcases List.mem_cons.mp hx with rfl | hx
   ·exact hwy
   ·have := (List.pairwise_cons.mp p2).1 x hx
    exact ⟨lessW_trans hwy.1 this.1, Ne.symm (hd x (by rw [← hs, hdw]; simp [hx]))⟩
 rw [List.append_assoc]
 refine List.pairwise_append.mpr ⟨p1, List.pairwise_append.mpr ⟨List.pairwise_singleton _ _, p2, fun a ha b hb => ?_⟩, fun a ha b hb => ?_⟩
 ·rw [List.mem_singleton.mp ha]; exact t2 b hb
 ·rcases List.mem_append.mp hb with hb | hb
  ·rw [List.mem_singleton.mp hb]; exact t1 a ha
  ·exact p3 a ha b hb
theorem sum_set {α : Type} [Inhabited α] {f : α → Nat} {x : α} : ∀ {l : List α} {k : Nat}, k < l.length → ((l.set k x).map f).sum + f (l.getD k default) = (l.map f).sum + f x
 | [], k, h => by simp at h
 | y :: l, 0, _ => by simp; omega
 | y :: l, k + 1, h => by
  have := sum_set (f := f) (x := x) (l := l) (k := k) (by simpa using h)
  simp only [List.set_cons_succ, List.map_cons, List.sum_cons, List.getD_cons_succ]
  omega
theorem set_mem {α : Type} [Inhabited α] {l : List α} {k : Nat} {x y : α} (hk : k < l.length) (h : y ∈ l.set k x) : y = x ∨ ∃ j, j < l.length ∧ j ≠ k ∧ l.getD j default = y := by
 obtain ⟨j, hj, e⟩ := mem_getD.mp h
 rw [List.length_set] at hj
 rw [set_getD hk] at e
 by_cases hjk : k = j
 ·rw [if_pos hjk] at e; exact .inl e.symm
 ·rw [if_neg hjk] at e; exact .inr ⟨j, hj, Ne.symm hjk, e⟩
theorem best_slot {sl : List Slot} {most : Bool} (h : 0 ≤ bstS sl most) : ∃ k : Nat, bstS sl most = k ∧ k < sl.length ∧ (sl.getD k default).s = 1 := by
 have hb := @bstS_bd sl most
 refine ⟨(bstS sl most).toNat, by omega, by omega, bstN_one _ h⟩
structure NotSet (q : Que) (k : Nat) (w : Wtr) (r : List Wtr) : Prop where
 wa : q.wa = w :: r
 kn : stK q = k
 kl : k < 4
 st : (freS q.sl = k ∧ (q.sl.getD k default).s = 0 ∧ stW q = r) ∨ (freS q.sl < 0 ∧ bstS q.sl false = k ∧ (q.sl.getD k default).s = 1 ∧ lessW w (wOf (q.sl.getD k default)) = true ∧ stW q = insW r (wOf (q.sl.getD k default)))
theorem notSet {q : Que} (h : QF q) (hs : setd q = false) : ∃ k w r, NotSet q k w r := by
 have h0 : q.wa.length ≠ 0 := fun e => by rw [setd_0 e] at hs; cases hs
 obtain ⟨w, r, hw⟩ : ∃ w r, q.wa = w :: r := by
  cases hq : q.wa with
  | nil => rw [hq] at h0; exact absurd rfl h0
  | cons w r => exact ⟨w, r, rfl⟩
 rcases @fre_cases q.sl with ⟨f1, f2⟩ | ⟨i, f1, f2, f3⟩
 ·have hb : 0 ≤ bstS q.sl false := by
   rcases Int.lt_or_le (bstS q.sl false) 0 with g | g
   ·rw [setd_b (by omega) g] at hs; cases hs
   ·exact g
  rw [setd_l h0 (by omega) (by omega)] at hs
  obtain ⟨k, hk, hkl, hk1⟩ := best_slot hb
  have hkn : (bstS q.sl false).toNat = k := by omega
  rw [hkn, hw] at hs
  have hs : lessW (wOf (q.sl.getD k default)) w = false := hs
  have hne : (wOf (q.sl.getD k default)).q ≠ w.q := (h.wa w (by rw [hw]; simp)).2.2 _ (mem_getD.mpr ⟨k, hkl, rfl⟩) (by omega)
  refine ⟨k, w, r, hw, by unfold stK; rw [if_pos (by omega), hkn], by rw [← h.sl.len]; exact hkl, .inr ⟨by omega, hk, hk1, ?_, ?_⟩⟩
  ·rw [lessW_tot (Ne.symm hne), hs]; rfl
  ·unfold stW; rw [if_pos (by omega), hkn, hw]; rfl
 ·exact ⟨i, w, r, hw, by unfold stK; rw [if_neg (by omega), f1]; rfl, by rw [← h.sl.len]; exact f2, .inl ⟨f1, f3, by unfold stW; rw [if_neg (by omega), hw]; rfl⟩⟩
theorem NotSet.eq {q : Que} {k : Nat} {w : Wtr} {r : List Wtr} (n : NotSet q k w r) : stQ q = ⟨q.sl.set k ⟨1, w.q, w.p⟩, stW q⟩ := by
 unfold stQ; rw [n.kn, n.wa]; rfl
theorem stQ_F {q : Que} (h : QF q) (hs : setd q = false) : QF (stQ q) ∧ phi (stQ q) < phi q := by
 obtain ⟨k, w, r, n⟩ := notSet h hs
 rw [n.eq]
 have hl : k < q.sl.length := by rw [h.sl.len]; exact n.kl
 obtain ⟨hw1, hw2, hw3⟩ := h.wa w (by rw [n.wa]; simp)
 have hpw := h.pw
 rw [n.wa] at hpw
 obtain ⟨hp1, hp2⟩ := List.pairwise_cons.mp hpw
 have hrm : ∀ v ∈ r, v ∈ q.wa := fun v hv => by rw [n.wa]; simp [hv]
 have hsum := sum_set (f := wtS) (x := (⟨1, w.q, w.p⟩ : Slot)) hl
 have hwt : wtS ⟨1, w.q, w.p⟩ = (8 * w.p + w.q).toNat := rfl
 have hsl : SlF (q.sl.set k ⟨1, w.q, w.p⟩) := h.sl.set n.kl ⟨⟨by show (1 : Int) ≤ 1; omega, by show (1 : Int) ≤ 3; omega⟩, hw1, hw2⟩ (fun j hj hjk h0 => hw3 _ (mem_getD.mpr ⟨j, by rw [h.sl.len]; exact hj, rfl⟩) h0)
 rcases n.st with ⟨f1, f2, f3⟩ | ⟨f0, f1, f2, f3, f4⟩
 ·rw [f3]
  refine ⟨⟨hsl, by have := h.wn; rw [n.wa] at this; simp at this; show r.length ≤ 9; omega, fun v hv => ?_, hp2⟩, ?_⟩
  ·obtain ⟨g1, g2, g3⟩ := h.wa v (hrm v hv)
   refine ⟨g1, g2, fun x hx h0 => ?_⟩
   rcases set_mem hl hx with rfl | ⟨j, hj, _, rfl⟩
   ·exact (hp1 v hv).2
   ·exact g3 _ (mem_getD.mpr ⟨j, hj, rfl⟩) h0
  ·have : wtS (q.sl.getD k default) = 2000 := by unfold wtS; rw [if_pos f2]
   show ((q.sl.set k ⟨1, w.q, w.p⟩).map wtS).sum < (q.sl.map wtS).sum
   omega
 ·rw [f4]
  have hb := h.sl.ok k n.kl (by omega)
  refine ⟨⟨hsl, ?_, fun v hv => ?_, insW_pw hp2 fun x hx => ?_⟩, ?_⟩
  ·have := h.wn; rw [n.wa] at this; simp at this
   show (insW r _).length ≤ 9
   rw [insW_len]; omega
  ·rcases insW_mem.mp hv with rfl | hv
   ·refine ⟨hb.2.1, hb.2.2, fun x hx h0 => ?_⟩
    rcases set_mem hl hx with rfl | ⟨j, hj, hjk, rfl⟩
    ·exact fun e => hw3 _ (mem_getD.mpr ⟨k, hl, rfl⟩) (by omega) e.symm
    ·intro e
     have h4 := h.sl.len
     rcases Nat.lt_or_ge j k with g | g
     ·exact h.sl.dif j k g n.kl h0 (by omega) e
     ·exact h.sl.dif k j (by omega) (by omega) (by omega) h0 e.symm
   ·obtain ⟨g1, g2, g3⟩ := h.wa v (hrm v hv)
    refine ⟨g1, g2, fun x hx h0 => ?_⟩
    rcases set_mem hl hx with rfl | ⟨j, hj, _, rfl⟩
    ·exact (hp1 v hv).2
    ·exact g3 _ (mem_getD.mpr ⟨j, hj, rfl⟩) h0
  ·exact fun e => (h.wa x (hrm x hx)).2.2 _ (mem_getD.mpr ⟨k, hl, rfl⟩) (by omega) e.symm
  ·have : wtS (q.sl.getD k default) = (8 * (q.sl.getD k default).p + (q.sl.getD k default).q).toNat := by unfold wtS; rw [if_neg (by omega), if_pos f2]
   rw [lessW_iff] at f3
   have f3 : w.p < (q.sl.getD k default).p ∨ (w.p = (q.sl.getD k default).p ∧ w.q < (q.sl.getD k default).q) := f3
   show ((q.sl.set k ⟨1, w.q, w.p⟩).map wtS).sum < (q.sl.map wtS).sum
   omega
theorem setF_more : ∀ {n m : Nat} {q : Que}, QF q → phi q < n → phi q < m → setF n q = setF m q
 | n + 1, m + 1, q, h, h1, h2 => by
  unfold setF
  cases hs : setd q
  ·obtain ⟨g1, g2⟩ := stQ_F h hs
   simp only [Bool.false_eq_true, if_false]
   exact setF_more g1 (by omega) (by omega)
  ·rfl
theorem setl_step {q : Que} (h : QF q) (hs : setd q = false) : setl q = setl (stQ q) := by
 obtain ⟨g1, g2⟩ := stQ_F h hs
 unfold setl
 rw [show setF (phi q + 1) q = setF (phi q) (stQ q) by conv => lhs; unfold setF; rw [hs]; simp]
 exact setF_more g1 (by omega) (by omega)
theorem setl_done {q : Que} (hs : setd q = true) : setl q = q := by unfold setl setF; rw [hs]; rfl
theorem setF_ok : ∀ {n : Nat} {q : Que}, QF q → phi q < n → QF (setF n q) ∧ setd (setF n q) = true
 | n + 1, q, h, h1 => by
  unfold setF
  cases hs : setd q
  ·obtain ⟨g1, g2⟩ := stQ_F h hs
   simp only [Bool.false_eq_true, if_false]
   exact setF_ok g1 (by omega)
  ·simp only [if_true]; exact ⟨h, hs⟩
theorem setl_ok {q : Que} (h : QF q) : QF (setl q) ∧ setd (setl q) = true := setF_ok h (Nat.lt_succ_self _)
theorem okQu_iff {q : Que} : okQu q = true ↔ QF q ∧ setd q = true := by
 unfold okQu
 rw [Bool.and_eq_true, paF]
 exact ⟨fun h => ⟨h.1.q, h.2⟩, fun h => ⟨h.1.pa, h.2⟩⟩
end Go.Rf
set_option linter.unusedVariables false
set_option linter.unusedSectionVars false
set_option linter.unusedSimpArgs false
namespace Go.Rf
open Go
def actL (sl : List Slot) : List Wtr := (sl.filter actP).map wOf
theorem actL_set {sl : List Slot} : ∀ {k : Nat} {x : Slot}, k < sl.length → actP x = actP (sl.getD k default) → (actP x = true → wOf x = wOf (sl.getD k default)) → actL (sl.set k x) = actL sl := by
 unfold actL
 induction sl with
 | nil => intro k x hk; simp at hk
 | cons y sl ih =>
  intro k x hk h1 h2
  cases k with
  | zero =>
   simp only [List.set_cons_zero, List.filter_cons]
   have h1 : actP x = actP y := h1
   have h2 : actP x = true → wOf x = wOf y := h2
   rw [h1]
   cases hy : actP y
   ·simp
   ·rw [hy] at h1
    simp [h2 h1]
  | succ k =>
   have := ih (k := k) (x := x) (by simpa using hk) (by simpa using h1) (by simpa using h2)
   simp only [List.set_cons_succ, List.filter_cons]
   split
   ·simp only [List.map_cons, this]
   ·exact this
theorem actL_mem {sl : List Slot} {w : Wtr} : w ∈ actL sl ↔ ∃ x ∈ sl, actP x = true ∧ wOf x = w := by
 simp [actL, and_assoc]
theorem stQ_act {q : Que} (h : QF q) (hs : setd q = false) : actL (stQ q).sl = actL q.sl := by
 obtain ⟨k, w, r, n⟩ := notSet h hs
 rw [n.eq]
 have hl : k < q.sl.length := by rw [h.sl.len]; exact n.kl
 refine actL_set hl ?_ (fun g => ?_)
 ·have : actP (q.sl.getD k default) = false := by
   rcases n.st with ⟨_, f, _⟩ | ⟨_, _, f, _⟩ <;> rw [← Bool.not_eq_true, actP_iff] <;> omega
  rw [this]; rfl
 ·cases g
theorem setF_act : ∀ {n : Nat} {q : Que}, QF q → actL (setF n q).sl = actL q.sl
 | 0, q, _ => rfl
 | n + 1, q, h => by
  unfold setF
  cases hs : setd q
  ·simp only [Bool.false_eq_true, if_false]
   rw [setF_act (stQ_F h hs).1, stQ_act h hs]
  ·rfl
theorem setl_act {q : Que} (h : QF q) : actL (setl q).sl = actL q.sl := setF_act h
def offQ (q : Que) (irq p : Int) : Que := if 0 ≤ fndS q.sl irq then ⟨ptS q.sl irq, q.wa⟩ else if 0 ≤ inW q.wa irq then q else ⟨q.sl, insW q.wa ⟨irq, p⟩⟩
def offr (q : Que) (irq p : Int) : Que := setl (offQ q irq p)
theorem fnd_at {sl : List Slot} {irq : Int} (h : 0 ≤ fndS sl irq) : ∃ k : Nat, fndS sl irq = k ∧ k < sl.length ∧ (sl.getD k default).s ≠ 0 ∧ (sl.getD k default).q = irq := by
 rcases @fnd_cases sl irq with ⟨g, _⟩ | g
 ·omega
 ·exact g
theorem SlF.upd {sl : List Slot} (h : SlF sl) {k : Nat} (hk : k < 4) {s' : Int} (h0 : (sl.getD k default).s ≠ 0) (hs : 1 ≤ s' ∧ s' ≤ 3) : SlF (sl.set k ⟨s', (sl.getD k default).q, (sl.getD k default).p⟩) := by
 refine h.set hk ⟨hs, (h.ok k hk h0).2⟩ (fun j hj hjk g => ?_)
 rcases Nat.lt_or_ge j k with e | e
 ·exact h.dif j k e hk g h0
 ·exact fun e' => h.dif k j (by omega) hj h0 g e'.symm
theorem QF.slUpd {q : Que} (h : QF q) {k : Nat} (hk : k < 4) {s' : Int} (h0 : (q.sl.getD k default).s ≠ 0) (hs : 1 ≤ s' ∧ s' ≤ 3) : QF ⟨q.sl.set k ⟨s', (q.sl.getD k default).q, (q.sl.getD k default).p⟩, q.wa⟩ := by
 refine ⟨h.sl.upd hk h0 hs, h.wn, fun w hw => ?_, h.pw⟩
 obtain ⟨g1, g2, g3⟩ := h.wa w hw
 refine ⟨g1, g2, fun x hx g => ?_⟩
 have hl : k < q.sl.length := by rw [h.sl.len]; exact hk
 rcases set_mem hl hx with rfl | ⟨j, hj, _, rfl⟩
 ·exact g3 (q.sl.getD k default) (mem_getD.mpr ⟨k, hl, rfl⟩) h0
 ·exact g3 _ (mem_getD.mpr ⟨j, hj, rfl⟩) g
theorem inW_lt0 {wa : List Wtr} {q : Int} : inW wa q < 0 ↔ ∀ w ∈ wa, w.q ≠ q := by
 unfold inW
 rw [idx_lt0, anyN_nf]
 constructor
 ·intro h w hw
  obtain ⟨i, hi, rfl⟩ := mem_getD.mp hw
  exact of_decide_eq_false (h i hi)
 ·intro h j hj
  exact decide_eq_false (h _ (mem_getD.mpr ⟨j, hj, rfl⟩))
theorem offQ_F {q : Que} {irq p : Int} (h : QF q) (hi : 0 ≤ irq ∧ irq ≤ 7) (hp : 0 ≤ p ∧ p ≤ 15) : QF (offQ q irq p) ∧ actL (offQ q irq p).sl = actL q.sl := by
 unfold offQ
 split
 ·next h1 =>
  obtain ⟨k, e1, e2, e3, e4⟩ := fnd_at h1
  have hk : k < 4 := by rw [← h.sl.len]; exact e2
  unfold ptS
  rw [e1]
  simp only [Int.toNat_natCast]
  have hb := (h.sl.ok k hk e3).1
  refine ⟨h.slUpd hk e3 ?_, actL_set e2 ?_ (fun _ => rfl)⟩
  ·split <;> omega
  ·show actP ⟨if (q.sl.getD k default).s = 2 then 3 else (q.sl.getD k default).s, _, _⟩ = _
   by_cases e : (q.sl.getD k default).s = 2
   ·rw [if_pos e, show actP (q.sl.getD k default) = true from actP_iff.mpr (.inl e)]; exact actP_iff.mpr (.inr rfl)
   ·rw [if_neg e]
 split
 ·exact ⟨h, rfl⟩
 ·next h1 h2 =>
  have g1 := fnd_lt0m.mp (show fndS q.sl irq < 0 by omega)
  have g2 := inW_lt0.mp (show inW q.wa irq < 0 by omega)
  refine ⟨⟨h.sl, ?_, fun w hw => ?_, insW_pw h.pw g2⟩, rfl⟩
  ·show (insW q.wa _).length ≤ 9
   rw [insW_len]; have := h.wn8; omega
  ·rcases insW_mem.mp hw with rfl | hw
   ·exact ⟨hi, hp, g1⟩
   ·exact h.wa w hw
theorem offr_F {q : Que} {irq p : Int} (h : QF q) (hi : 0 ≤ irq ∧ irq ≤ 7) (hp : 0 ≤ p ∧ p ≤ 15) : QF (offr q irq p) ∧ setd (offr q irq p) = true ∧ actL (offr q irq p).sl = actL q.sl := by
 obtain ⟨h1, h2⟩ := offQ_F h hi hp
 obtain ⟨h3, h4⟩ := setl_ok h1
 exact ⟨h3, h4, by unfold offr; rw [setl_act h1, h2]⟩
def takQ (q : Que) : Que := ⟨tkS q.sl, q.wa⟩
theorem takQ_F {q : Que} (h : QF q) (hb : 0 ≤ bstS q.sl true) : QF (takQ q) := by
 obtain ⟨k, e1, e2, e3⟩ := best_slot hb
 have hk : k < 4 := by rw [← h.sl.len]; exact e2
 unfold takQ tkS
 rw [e1]
 exact h.slUpd hk (by omega) (by omega)
def endQ (q : Que) (irq : Int) : Que := setl ⟨edS q.sl irq, q.wa⟩
theorem endQ_F0 {q : Que} {irq : Int} (h : QF q) (hf : 0 ≤ fndS q.sl irq) : QF ⟨edS q.sl irq, q.wa⟩ := by
 obtain ⟨k, e1, e2, e3, e4⟩ := fnd_at hf
 have hk : k < 4 := by rw [← h.sl.len]; exact e2
 have e5 : edX q.sl irq = if (q.sl.getD k default).s = 3 then ⟨1, irq, (q.sl.getD k default).p⟩ else zSl := by unfold edX; rw [e1]; rfl
 unfold edS
 rw [e1, e5]
 split
 ·rw [← e4]; exact h.slUpd hk e3 (by omega)
 ·refine ⟨h.sl.setZ hk, h.wn, fun w hw => ?_, h.pw⟩
  obtain ⟨g1, g2, g3⟩ := h.wa w hw
  refine ⟨g1, g2, fun x hx g => ?_⟩
  rcases set_mem e2 hx with rfl | ⟨j, hj, _, rfl⟩
  ·exact absurd rfl g
  ·exact g3 _ (mem_getD.mpr ⟨j, hj, rfl⟩) g
theorem endQ_F {q : Que} {irq : Int} (h : QF q) (hf : 0 ≤ fndS q.sl irq) : QF (endQ q irq) ∧ setd (endQ q irq) = true := setl_ok (endQ_F0 h hf)
theorem stQ_fre {q : Que} (h : 0 ≤ freS q.sl) : stQ q = ⟨q.sl.set (freS q.sl).toNat ⟨1, (q.wa.getD 0 default).q, (q.wa.getD 0 default).p⟩, q.wa.drop 1⟩ := by
 unfold stQ stK stW
 rw [if_neg (by omega), if_neg (by omega)]
theorem stQ_bst {q : Que} (h : freS q.sl < 0) : stQ q = ⟨q.sl.set (bstS q.sl false).toNat ⟨1, (q.wa.getD 0 default).q, (q.wa.getD 0 default).p⟩, insW (q.wa.drop 1) (wOf (q.sl.getD (bstS q.sl false).toNat default))⟩ := by
 unfold stQ stK stW
 rw [if_pos h, if_pos h]
theorem stQ_pos {q : Que} (h : QF q) (hs : setd q = false) : 0 < q.wa.length ∧ (freS q.sl < 0 → 0 ≤ bstS q.sl false) := by
 obtain ⟨k, w, r, n⟩ := notSet h hs
 refine ⟨by rw [n.wa]; simp, fun g => ?_⟩
 rcases n.st with ⟨f, _⟩ | ⟨_, f, _⟩ <;> omega
end Go.Rf
namespace Go.Rf
theorem tail1 {xs : List Wtr} : ((xs.map encWa).drop (1 : Int).toNat).take (((xs.map encWa).length : Int).toNat - (1 : Int).toNat) = (xs.drop 1).map encWa := by
 have h1 : (1 : Int).toNat = 1 := rfl
 have h2 : (((xs.map encWa).length : Int)).toNat = (xs.map encWa).length := Int.toNat_natCast _
 rw [h1, h2, List.take_of_length_le (by rw [List.length_drop]; exact Nat.le_refl _), List.map_drop]
theorem drop1 {xs : List Wtr} : (xs.map encWa).drop (1 : Int).toNat = (xs.drop 1).map encWa := List.map_drop.symm
end Go.Rf
set_option linter.unusedVariables false
set_option linter.unusedSectionVars false
set_option linter.unusedSimpArgs false
namespace Go.Rf
open Go
section
variable {rs : List Route} {a : Abs} {ss : List MStep}
end
theorem makeA_F {rs : List Route} {a : Abs} {s : MStep} (hF : AbsF rs a) (hv : stepV a.ma.length s = true) : AbsF rs (makeA rs a s).1 ∧ (makeA rs a s).1.ma.length = a.ma.length := by
 have same : ∀ b : Abs, b.ma.length = a.ma.length → b.st.length = a.st.length → b.en.length = a.en.length → b.ra.length = a.ra.length → b.po.length = a.po.length → (∀ c, c < a.ma.length → (b.st.getD c default).length ≤ 4) → (∀ c, c < a.ma.length → ∀ i, i < (b.st.getD c default).length → 0 ≤ (b.st.getD c default).getD i default ∧ (b.st.getD c default).getD i default ≤ 7) → AbsF rs b ∧ b.ma.length = a.ma.length := fun b e1 e2 e3 e4 e5 h1 h2 =>
  ⟨⟨by rw [e1]; exact hF.n, hF.rn, by rw [e1, e2]; exact hF.st, by rw [e3]; exact hF.en, by rw [e4]; exact hF.ra, by rw [e5]; exact hF.po, by rw [e1]; exact hF.rt, by rw [e1]; exact h1, by rw [e1]; exact h2⟩, e1⟩
 have get : ∀ (c k : Nat) (l : List Int), (a.st.set k l).getD c default = if k = c ∧ k < a.st.length then l else a.st.getD c default := fun c k l => by
  rw [List.getD_eq_getElem?_getD, List.getD_eq_getElem?_getD, List.getElem?_set]
  by_cases e : k = c
  ·subst e
   by_cases h : k < a.st.length
   ·simp [h]
   ·simp [h]
  ·simp [e]
 unfold makeA
 split
 ·exact same _ rfl rfl rfl List.length_set rfl hF.len hF.el
 split
 ·exact same _ rfl rfl rfl (syncR_len 8) (syncP_len 8) hF.len hF.el
 split
 ·next h3 =>
  split
  ·exact same _ rfl rfl rfl rfl rfl hF.len hF.el
  ·next hn =>
   have hb := @nextT_lt rs a s.c.toNat
   have h4 : (a.st.getD s.c.toNat default).length ≠ 4 := fun e => hn (by rw [nextT_4 e]; decide)
   refine same _ rfl List.length_set rfl rfl List.length_set (fun c hc => ?_) (fun c hc i hi => ?_)
   ·show ((a.st.set _ _).getD c default).length ≤ 4
    rw [get]
    split
    ·next e => have := hF.len c hc; rw [← e.1] at this; simp only [List.length_append, List.length_cons, List.length_nil]; omega
    ·exact hF.len c hc
   ·have hi : i < ((a.st.set s.c.toNat (a.st.getD s.c.toNat default ++ [nextT rs a s.c.toNat])).getD c default).length := hi
    show 0 ≤ ((a.st.set _ _).getD c default).getD i default ∧ _
    rw [get] at hi ⊢
    split at hi
    ·next e =>
     rw [if_pos e]
     by_cases hl : i < (a.st.getD s.c.toNat default).length
     ·have := hF.el c hc i (by rw [← e.1]; exact hl)
      rw [← e.1] at this
      rw [List.getD_eq_getElem?_getD, List.getElem?_append_left hl, ← List.getD_eq_getElem?_getD]
      exact this
     ·rw [List.getD_eq_getElem?_getD, List.getElem?_append_right (by omega)]
      simp only [List.length_append, List.length_cons, List.length_nil] at hi
      have : i - (a.st.getD s.c.toNat default).length = 0 := by omega
      rw [this]
      simp only [List.getElem?_cons_zero, Option.getD_some]
      omega
    ·next e => rw [if_neg e]; exact hF.el c hc i hi
 split
 ·split
  ·exact same _ rfl rfl rfl rfl rfl hF.len hF.el
  ·refine same _ rfl List.length_set rfl rfl rfl (fun c hc => ?_) (fun c hc i hi => ?_)
   ·show ((a.st.set _ _).getD c default).length ≤ 4
    rw [get]
    split
    ·next e => have := hF.len c hc; rw [← e.1] at this; rw [List.length_take]; omega
    ·exact hF.len c hc
   ·have hi : i < ((a.st.set s.c.toNat ((a.st.getD s.c.toNat default).take ((a.st.getD s.c.toNat default).length - 1))).getD c default).length := hi
    show 0 ≤ ((a.st.set _ _).getD c default).getD i default ∧ _
    rw [get] at hi ⊢
    split at hi
    ·next e =>
     rw [if_pos e]
     rw [List.length_take] at hi
     have := hF.el c hc i (by rw [← e.1]; omega)
     rw [← e.1] at this
     rw [List.getD_eq_getElem?_getD, List.getElem?_take, if_pos (by omega), ← List.getD_eq_getElem?_getD]
     exact this
    ·next e => rw [if_neg e]; exact hF.el c hc i hi
 split
 ·exact same _ List.length_set rfl rfl rfl rfl hF.len hF.el
 ·exact same _ rfl rfl List.length_set rfl rfl hF.len hF.el
def stepsV (n : Int) (ss : List MStep) : Bool := decide (ss.length ≤ 30) && allN ss.length (fun i => stepV n (ss.getD i default))
theorem stepsV_iff {n : Int} {ss : List MStep} : stepsV n ss = true ↔ ss.length ≤ 30 ∧ ∀ i, i < ss.length → stepV n (ss.getD i default) = true := by simp only [stepsV, Bool.and_eq_true, decide_eq_true_eq, allN_iff]
theorem stepsV_f {n : Int} {ss : List MStep} (h : 30 < ss.length ∨ ∃ i, i < ss.length ∧ stepV n (ss.getD i default) = false) : stepsV n ss = false := by
 rw [← Bool.not_eq_true, stepsV_iff]
 rintro ⟨h1, h2⟩
 rcases h with h | ⟨i, hi, h⟩
 ·omega
 ·rw [h2 i hi] at h; cases h
end Go.Rf
namespace Go.Rf
end Go.Rf
set_option linter.unusedVariables false
set_option linter.unusedSectionVars false
set_option linter.unusedSimpArgs false
namespace Go.Rf
open Go
def encIf (eS eW : Nat) (x : Ifc) : List CI := [.v (.int .i64 x.ma), .l 3 1 (x.st.map encI), .l eS 3 (x.qu.sl.map encSl), .l eW 2 (x.qu.wa.map encWa)]
def eqQu (x y : Que) : Bool := decide (x.sl = y.sl) && decide (x.wa = y.wa)
theorem eqQu_iff {x y : Que} : eqQu x y = true ↔ x = y := by cases x; cases y; simp [eqQu]
def eqIf (x y : Ifc) : Bool := decide (x.ma = y.ma) && (decide (x.st = y.st) && eqQu x.qu y.qu)
theorem eqIf_iff {x y : Ifc} : eqIf x y = true ↔ x = y := by cases x; cases y; simp [eqIf, eqQu_iff]
def eqMa (x y : Mach) : Bool := decide (x.rs = y.rs) && (decide (x.en = y.en) && (decide (x.ra = y.ra) && decide (x.cp = y.cp)))
theorem eqMa_iff {x y : Mach} : eqMa x y = true ↔ x = y := by cases x; cases y; simp [eqMa]
structure BigI (x : Ifc) : Prop where
 st : x.st.length ≤ 9223372036854775807
 sl : x.qu.sl.length ≤ 9223372036854775807
 wa : x.qu.wa.length ≤ 9223372036854775807
structure BigM (m : Mach) : Prop where
 rs : m.rs.length ≤ 9223372036854775807
 en : m.en.length ≤ 9223372036854775807
 ra : m.ra.length ≤ 9223372036854775807
 cp : m.cp.length ≤ 9223372036854775807
 all : ∀ i, i < m.cp.length → BigI (m.cp.getD i default)
def szI (x : Ifc) : Int := x.st.length + x.qu.sl.length + x.qu.wa.length
def sumI (xs : List Ifc) : Nat → Int
 | 0 => 0
 | i + 1 => sumI xs i + szI (xs.getD i default)
theorem sumI_succ {xs : List Ifc} {i : Nat} : sumI xs (i + 1) = sumI xs i + szI (xs.getD i default) := rfl
theorem szI_nn {x : Ifc} : 0 ≤ szI x := by unfold szI; omega
theorem sumI_nn {xs : List Ifc} : ∀ i, 0 ≤ sumI xs i
 | 0 => Int.le_refl _
 | i + 1 => by have := @sumI_nn xs i; have := @szI_nn (xs.getD i default); rw [sumI_succ]; omega
theorem sumI_mono {xs : List Ifc} {i j : Nat} (h : i ≤ j) : sumI xs i ≤ sumI xs j := by
 induction h with
 | refl => exact Int.le_refl _
 | step _ ih => rename_i m _; have := @szI_nn (xs.getD m default); rw [sumI_succ]; omega
theorem sumI_get {xs : List Ifc} {i n : Nat} (h : i < n) : szI (xs.getD i default) ≤ sumI xs n := by
 have h1 := sumI_mono (xs := xs) (show i + 1 ≤ n from h)
 have h2 := @sumI_nn xs i
 rw [sumI_succ] at h1
 omega
structure SmallM (m : Mach) : Prop where
 rs : m.rs.length ≤ 1048576
 en : m.en.length ≤ 1048576
 ra : m.ra.length ≤ 1048576
 cp : m.cp.length ≤ 1048576
 sum : sumI m.cp m.cp.length ≤ 1048576
theorem SmallM.allI {m : Mach} (h : SmallM m) {i : Nat} (hi : i < m.cp.length) : szI (m.cp.getD i default) ≤ 1048576 := by
 have := sumI_get (xs := m.cp) hi
 have := h.sum
 omega
section
variable {k : Int} {xs : List Ifc} {eS eW : Nat}
end
end Go.Rf
set_option linter.unusedVariables false
set_option linter.unusedSectionVars false
set_option linter.unusedSimpArgs false
namespace Go.Rf
open Go
def lvl (sl : List Slot) (q : Int) : Int := (sl.getD (fndS sl q).toNat default).p
def runP (x : Ifc) : Int := if x.st.length = 0 then 16 else lvl x.qu.sl (x.st.getD (x.st.length - 1) default)
theorem runP_0 {x : Ifc} (h : x.st.length = 0) : runP x = 16 := by unfold runP; rw [if_pos h]
theorem runP_1 {x : Ifc} (h : ¬ x.st.length = 0) : runP x = lvl x.qu.sl (x.st.getD (x.st.length - 1) default) := by unfold runP; rw [if_neg h]
def raiI (x : Ifc) (q p : Int) : Ifc := ⟨x.ma, x.st, offr x.qu q p⟩
def takI (x : Ifc) : Ifc := ⟨x.ma, x.st ++ [tkI x.qu.sl], takQ x.qu⟩
structure IfF (x : Ifc) : Prop where
 qu : QF x.qu
 sn : x.st.length ≤ 4
 st : ∀ q ∈ x.st, ∃ w ∈ actL x.qu.sl, w.q = q
theorem act_fnd {sl : List Slot} {q : Int} (h : ∃ w ∈ actL sl, w.q = q) : 0 ≤ fndS sl q := by
 obtain ⟨w, hw, e⟩ := h
 obtain ⟨x, h1, h2, rfl⟩ := actL_mem.mp hw
 rcases Int.lt_or_le (fndS sl q) 0 with g | g
 ·refine absurd e (fnd_lt0m.mp g x h1 ?_)
  rcases actP_iff.mp h2 with g | g <;> omega
 ·exact g
theorem IfF.top {x : Ifc} (h : IfF x) {i : Nat} (hi : i < x.st.length) : 0 ≤ fndS x.qu.sl (x.st.getD i default) := act_fnd (h.st _ (mem_getD.mpr ⟨i, hi, rfl⟩))
theorem raiI_F {x : Ifc} {q p : Int} (h : IfF x) (hq : 0 ≤ q ∧ q ≤ 7) (hp : 0 ≤ p ∧ p ≤ 15) : IfF (raiI x q p) := by
 obtain ⟨h1, h2, h3⟩ := offr_F h.qu hq hp
 exact ⟨h1, h.sn, fun y hy => by show ∃ w ∈ actL (offr x.qu q p).sl, w.q = y; rw [h3]; exact h.st y hy⟩
theorem mem_set {α : Type} [Inhabited α] {l : List α} {k : Nat} {x y : α} (h : x ∈ l) (hne : x ≠ l.getD k default) : x ∈ l.set k y := by
 obtain ⟨i, hi, rfl⟩ := mem_getD.mp h
 refine mem_getD.mpr ⟨i, by rw [List.length_set]; exact hi, ?_⟩
 rw [List.getD_eq_getElem?_getD, List.getElem?_set_ne (fun e => hne (by rw [e])), ← List.getD_eq_getElem?_getD]
theorem takI_F {x : Ifc} (h : IfF x) (hb : 0 ≤ bstS x.qu.sl true) (hn : x.st.length < 4) : IfF (takI x) := by
 obtain ⟨k, e1, e2, e3⟩ := best_slot hb
 refine ⟨takQ_F h.qu hb, by show (x.st ++ [tkI x.qu.sl]).length ≤ 4; rw [List.length_append, List.length_cons, List.length_nil]; omega, fun q hq => ?_⟩
 show ∃ w ∈ actL (tkS x.qu.sl), w.q = q
 unfold tkS
 rw [e1, Int.toNat_natCast]
 rcases List.mem_append.mp hq with hq | hq
 ·obtain ⟨w, hw, e⟩ := h.st q hq
  obtain ⟨y, y1, y2, y3⟩ := actL_mem.mp hw
  refine ⟨w, actL_mem.mpr ⟨y, mem_set y1 (fun e' => ?_), y2, y3⟩, e⟩
  rw [e'] at y2
  rcases actP_iff.mp y2 with g | g <;> omega
 ·rw [List.mem_singleton.mp hq]
  refine ⟨⟨(x.qu.sl.getD k default).q, (x.qu.sl.getD k default).p⟩, actL_mem.mpr ⟨⟨2, (x.qu.sl.getD k default).q, (x.qu.sl.getD k default).p⟩, List.mem_iff_getElem.mpr ⟨k, by rw [List.length_set]; exact e2, by simp⟩, rfl, rfl⟩, ?_⟩
  show (x.qu.sl.getD k default).q = tkI x.qu.sl
  unfold tkI
  rw [e1, Int.toNat_natCast]
def stkS (rs : List Route) (l : List Int) : List Slot := (l.map fun q => ⟨2, q, prI rs q⟩) ++ List.replicate (4 - l.length) zSl
def stkI (rs : List Route) (l : List Int) : Ifc := ⟨16, l, ⟨stkS rs l, []⟩⟩
def stkP (rs : List Route) (l : List Int) (q : Int) : List Slot := (l.map fun q => ⟨2, q, prI rs q⟩) ++ (⟨1, q, prI rs q⟩ :: List.replicate (3 - l.length) zSl)
section
variable {rs : List Route} {l : List Int} {q : Int}
theorem getD_app1 {α : Type} [Inhabited α] {a b : List α} {j : Nat} (h : j < a.length) : (a ++ b).getD j default = a.getD j default := by
 rw [List.getD_eq_getElem?_getD, List.getElem?_append_left h, ← List.getD_eq_getElem?_getD]
theorem getD_app2 {α : Type} [Inhabited α] {a b : List α} {j : Nat} (h : a.length ≤ j) : (a ++ b).getD j default = b.getD (j - a.length) default := by
 rw [List.getD_eq_getElem?_getD, List.getElem?_append_right h, ← List.getD_eq_getElem?_getD]
theorem getD_map1 {α β : Type} [Inhabited α] [Inhabited β] {f : α → β} {a : List α} {j : Nat} (h : j < a.length) : (a.map f).getD j default = f (a.getD j default) := by
 rw [List.getD_eq_getElem?_getD, List.getElem?_map, List.getElem?_eq_getElem h, List.getD_eq_getElem?_getD, List.getElem?_eq_getElem h]
 rfl
theorem getD_rep {α : Type} [Inhabited α] {x : α} {n j : Nat} (h : j < n) : (List.replicate n x).getD j default = x := by
 rw [List.getD_eq_getElem?_getD, List.getElem?_replicate, if_pos h]
 rfl
theorem stkS_len (h : l.length ≤ 4) : (stkS rs l).length = 4 := by unfold stkS; simp; omega
theorem stkP_len (h : l.length < 4) : (stkP rs l q).length = 4 := by unfold stkP; simp; omega
theorem stkS_lo {j : Nat} (h : j < l.length) : (stkS rs l).getD j default = ⟨2, l.getD j default, prI rs (l.getD j default)⟩ := by
 unfold stkS
 rw [getD_app1 (by simpa using h), getD_map1 h]
theorem stkS_hi {j : Nat} (h : l.length ≤ j) (h4 : j < 4) : (stkS rs l).getD j default = zSl := by
 unfold stkS
 rw [getD_app2 (by simpa using h), getD_rep (by simp; omega)]
theorem stkP_lo {j : Nat} (h : j < l.length) : (stkP rs l q).getD j default = ⟨2, l.getD j default, prI rs (l.getD j default)⟩ := by
 unfold stkP
 rw [getD_app1 (by simpa using h), getD_map1 h]
theorem stkP_at : (stkP rs l q).getD l.length default = ⟨1, q, prI rs q⟩ := by
 unfold stkP
 rw [getD_app2 (by simp)]
 simp
theorem stkP_hi {j : Nat} (h : l.length < j) (h4 : j < 4) : (stkP rs l q).getD j default = zSl := by
 unfold stkP
 rw [getD_app2 (by simp; omega), List.length_map]
 obtain ⟨k, e⟩ : ∃ k, j - l.length = k + 1 := ⟨j - l.length - 1, by omega⟩
 rw [e, List.getD_cons_succ, getD_rep (by omega)]
theorem set_app {α : Type} {a b : List α} {x : α} : (a ++ b).set a.length x = a ++ b.set 0 x := by
 rw [List.set_append_right _ _ (Nat.le_refl _), Nat.sub_self]
theorem stkS_set (h : l.length < 4) : (stkS rs l).set l.length ⟨1, q, prI rs q⟩ = stkP rs l q := by
 unfold stkS stkP
 have e := @set_app _ (l.map fun q => (⟨2, q, prI rs q⟩ : Slot)) (List.replicate (4 - l.length) zSl) ⟨1, q, prI rs q⟩
 rw [List.length_map] at e
 rw [e, show 4 - l.length = (3 - l.length) + 1 by omega, List.replicate_succ, List.set_cons_zero]
theorem stkP_set (h : l.length < 4) : (stkP rs l q).set l.length ⟨2, q, prI rs q⟩ = stkS rs (l ++ [q]) := by
 unfold stkS stkP
 have e := @set_app _ (l.map fun q => (⟨2, q, prI rs q⟩ : Slot)) (⟨1, q, prI rs q⟩ :: List.replicate (3 - l.length) zSl) ⟨2, q, prI rs q⟩
 rw [List.length_map] at e
 rw [e, List.set_cons_zero, List.map_append, List.length_append, List.append_assoc]
 simp only [List.map_cons, List.map_nil, List.length_cons, List.length_nil, List.cons_append, List.nil_append]
 rw [show 4 - (l.length + (0 + 1)) = 3 - l.length by omega]
theorem stkS_fre (h : l.length < 4) : freS (stkS rs l) = l.length := by
 unfold freS
 refine idx_some (fun j hj => ?_) (by rw [stkS_len (by omega)]; exact h) ?_
 ·rw [stkS_lo hj]; rfl
 ·rw [stkS_hi (Nat.le_refl _) h]; rfl
theorem stkS_fnd (h : l.length ≤ 4) (hq : ∀ j, j < l.length → l.getD j default ≠ q) : fndS (stkS rs l) q = -1 := by
 unfold fndS
 refine idx_none (i := 4) (fun j hj => ?_) (by rw [stkS_len h]; exact Nat.le_refl _)
 rw [← Bool.not_eq_true, fdP_iff]
 rcases Nat.lt_or_ge j l.length with g | g
 ·rw [stkS_lo g]; exact fun e => hq j g e.2
 ·rw [stkS_hi g hj]; exact fun e => e.1 rfl
theorem stkP_fnd {j : Nat} (h : l.length < 4) (hj : j < l.length) (hd : ∀ i, i < j → l.getD i default ≠ l.getD j default) : fndS (stkP rs l q) (l.getD j default) = j := by
 unfold fndS
 refine idx_some (fun i hi => ?_) (by rw [stkP_len h]; omega) ?_
 ·rw [← Bool.not_eq_true, fdP_iff, stkP_lo (by omega)]
  exact fun e => hd i hi e.2
 ·rw [stkP_lo hj, fdP_iff]
  exact ⟨by show (2 : Int) ≠ 0; decide, rfl⟩
theorem stkP_bst (h : l.length < 4) : bstS (stkP rs l q) true = l.length := by
 have hl : (stkP rs l q).length = 4 := stkP_len h
 have hneg : ¬ bstN (stkP rs l q) true 4 < 0 := by
  rw [bstN_neg]
  intro g
  have := g l.length h
  rw [stkP_at] at this
  exact this rfl
 have hb := @bstN_bd (stkP rs l q) true 4
 have h1 := bstN_one (sl := stkP rs l q) (most := true) 4 (by omega)
 unfold bstS
 rw [hl]
 rcases Nat.lt_trichotomy (bstN (stkP rs l q) true 4).toNat l.length with g | g | g
 ·rw [stkP_lo g] at h1; exact absurd h1 (by show ¬ (2 : Int) = 1; decide)
 ·omega
 ·rw [stkP_hi g (by omega)] at h1; exact absurd h1 (by show ¬ (0 : Int) = 1; decide)
theorem sum_mem {α : Type} {f : α → Nat} {x : α} : ∀ {l : List α}, x ∈ l → f x ≤ (l.map f).sum
 | y :: l, h => by
  rw [List.map_cons, List.sum_cons]
  rcases List.mem_cons.mp h with rfl | h
  ·omega
  ·have := sum_mem (f := f) h; omega
theorem stk_raise (h : l.length < 4) (hq : ∀ j, j < l.length → l.getD j default ≠ q) : raiI (stkI rs l) q (prI rs q) = ⟨16, l, ⟨stkP rs l q, []⟩⟩ := by
 have h1 : offQ (stkI rs l).qu q (prI rs q) = ⟨stkS rs l, [⟨q, prI rs q⟩]⟩ := by
  unfold offQ
  rw [if_neg (by show ¬ 0 ≤ fndS (stkS rs l) q; rw [stkS_fnd (by omega) hq]; decide), if_neg (by have := @inW_bd ([] : List Wtr) q; show ¬ 0 ≤ inW [] q; simp at this; omega)]
  rfl
 have h2 : setd ⟨stkS rs l, [⟨q, prI rs q⟩]⟩ = false := setd_f (by show ¬ 1 = 0; decide) (by show 0 ≤ freS (stkS rs l); rw [stkS_fre h]; omega)
 have h3 : stQ ⟨stkS rs l, [⟨q, prI rs q⟩]⟩ = ⟨stkP rs l q, []⟩ := by
  rw [stQ_fre (by show 0 ≤ freS (stkS rs l); rw [stkS_fre h]; omega)]
  show (⟨(stkS rs l).set (freS (stkS rs l)).toNat ⟨1, q, prI rs q⟩, []⟩ : Que) = _
  rw [stkS_fre h, Int.toNat_natCast, stkS_set h]
 have h4 : setl ⟨stkS rs l, [⟨q, prI rs q⟩]⟩ = ⟨stkP rs l q, []⟩ := by
  unfold setl
  have hp : 0 < phi ⟨stkS rs l, [⟨q, prI rs q⟩]⟩ := by
   have hm : zSl ∈ stkS rs l := mem_getD.mpr ⟨l.length, by rw [stkS_len (by omega)]; exact h, stkS_hi (Nat.le_refl _) h⟩
   have : wtS zSl ≤ ((stkS rs l).map wtS).sum := sum_mem hm
   have e : wtS zSl = 2000 := rfl
   show 0 < ((stkS rs l).map wtS).sum
   omega
  obtain ⟨n, hn⟩ : ∃ n, phi ⟨stkS rs l, [⟨q, prI rs q⟩]⟩ = n + 1 := ⟨_, (Nat.sub_add_cancel hp).symm⟩
  rw [hn]
  unfold setF
  rw [h2]
  simp only [Bool.false_eq_true, if_false]
  rw [h3]
  unfold setF
  rw [setd_0 (by rfl)]
  rfl
 unfold raiI offr
 rw [h1, h4]
 rfl
theorem stk_run (h : l.length < 4) (hd : ∀ i j, i < j → j < l.length → l.getD i default ≠ l.getD j default) : runP ⟨16, l, ⟨stkP rs l q, []⟩⟩ = if l.length = 0 then 16 else prI rs (l.getD (l.length - 1) default) := by
 unfold runP
 show (if l.length = 0 then 16 else lvl (stkP rs l q) (l.getD (l.length - 1) default)) = _
 split
 ·rfl
 ·next h0 =>
  unfold lvl
  rw [stkP_fnd h (show l.length - 1 < l.length by omega) (fun i hi => hd i _ hi (by omega)), Int.toNat_natCast, stkP_lo (by omega)]
theorem stk_take (h : l.length < 4) : takI ⟨16, l, ⟨stkP rs l q, []⟩⟩ = stkI rs (l ++ [q]) := by
 unfold takI stkI takQ tkS tkI
 show (⟨16, l ++ [((stkP rs l q).getD (bstS (stkP rs l q) true).toNat default).q], ⟨(stkP rs l q).set (bstS (stkP rs l q) true).toNat ⟨2, ((stkP rs l q).getD (bstS (stkP rs l q) true).toNat default).q, ((stkP rs l q).getD (bstS (stkP rs l q) true).toNat default).p⟩, []⟩⟩ : Ifc) = _
 rw [stkP_bst h, Int.toNat_natCast, stkP_at]
 show (⟨16, l ++ [q], ⟨(stkP rs l q).set l.length ⟨2, q, prI rs q⟩, []⟩⟩ : Ifc) = _
 rw [stkP_set h]
theorem stkI_F (h : l.length ≤ 4) (hr : ∀ j, j < l.length → (0 ≤ l.getD j default ∧ l.getD j default ≤ 7) ∧ 0 ≤ prI rs (l.getD j default) ∧ prI rs (l.getD j default) ≤ 15) (hd : ∀ i j, i < j → j < l.length → l.getD i default ≠ l.getD j default) : IfF (stkI rs l) := by
 have key : ∀ i, i < 4 → ((stkS rs l).getD i default).s ≠ 0 → i < l.length := fun i hi h0 => by
  rcases Nat.lt_or_ge i l.length with g | g
  ·exact g
  ·rw [stkS_hi g hi] at h0; exact absurd rfl h0
 refine ⟨⟨⟨stkS_len h, fun i hi h0 => ?_, fun i hi h0 => ?_, fun i j hij hj h1 h2 => ?_⟩, Nat.zero_le _, fun w hw => (by cases hw), List.Pairwise.nil⟩, h, fun q hq => ?_⟩
 ·show (stkS rs l).getD i default = zSl
  have h0 : ((stkS rs l).getD i default).s = 0 := h0
  rcases Nat.lt_or_ge i l.length with g | g
  ·rw [stkS_lo g] at h0; exact absurd h0 (by show ¬ (2 : Int) = 0; decide)
  ·exact stkS_hi g hi
 ·have g := key i hi h0
  have e : (stkI rs l).qu.sl.getD i default = ⟨2, l.getD i default, prI rs (l.getD i default)⟩ := stkS_lo g
  rw [e]
  exact ⟨⟨by show (1 : Int) ≤ 2; decide, by show (2 : Int) ≤ 3; decide⟩, hr i g⟩
 ·have g1 := key i (by omega) h1
  have g2 := key j hj h2
  show ((stkS rs l).getD i default).q ≠ ((stkS rs l).getD j default).q
  rw [stkS_lo g1, stkS_lo g2]
  exact hd i j hij g2
 ·obtain ⟨i, hi, rfl⟩ := mem_getD.mp hq
  have hi : i < l.length := hi
  refine ⟨⟨l.getD i default, prI rs (l.getD i default)⟩, actL_mem.mpr ⟨⟨2, l.getD i default, prI rs (l.getD i default)⟩, mem_getD.mpr ⟨i, by show i < (stkS rs l).length; rw [stkS_len h]; omega, stkS_lo hi⟩, rfl, rfl⟩, rfl⟩
end
section
variable {rs : List Route} {po : List Bool} {k : Nat} {x : Ifc}
end
structure StkF (rs : List Route) (l : List Int) : Prop where
 n : l.length ≤ 4
 el : ∀ j, j < l.length → (0 ≤ l.getD j default ∧ l.getD j default ≤ 7) ∧ 0 ≤ prI rs (l.getD j default) ∧ prI rs (l.getD j default) ≤ 15
 dn : ∀ j, 0 < j → j < l.length → prI rs (l.getD j default) < prI rs (l.getD (j - 1) default)
theorem StkF.lt {rs : List Route} {l : List Int} (h : StkF rs l) {i : Nat} : ∀ {j : Nat}, i < j → j < l.length → prI rs (l.getD j default) < prI rs (l.getD i default)
 | j + 1, hij, hj => by
  have := h.dn (j + 1) (by omega) hj
  by_cases e : i = j
  ·subst e; exact this
  ·have := StkF.lt h (show i < j by omega) (by omega)
   simp only [Nat.add_sub_cancel] at *
   omega
theorem StkF.dif {rs : List Route} {l : List Int} (h : StkF rs l) {i j : Nat} (hij : i < j) (hj : j < l.length) : l.getD i default ≠ l.getD j default := fun e => by
 have := h.lt hij hj
 rw [e] at this
 omega
theorem StkF.take {rs : List Route} {l : List Int} (h : StkF rs l) {n : Nat} (hn : n ≤ l.length) : IfF (stkI rs (l.take n)) := by
 have hl : (l.take n).length = n := by rw [List.length_take]; omega
 have hg : ∀ j, j < n → (l.take n).getD j default = l.getD j default := fun j hj => take_getD hj
 refine stkI_F (by rw [hl]; have := h.n; omega) (fun j hj => ?_) (fun i j hij hj => ?_)
 ·rw [hg j (by omega)]; exact h.el j (by omega)
 ·rw [hg i (by omega), hg j (by omega)]; exact h.dif hij (by omega)
theorem StkF.step {rs : List Route} {l : List Int} (h : StkF rs l) {i : Nat} (hi : i < l.length) :
 IfF (raiI (stkI rs (l.take i)) (l.getD i default) (prI rs (l.getD i default))) ∧ (raiI (stkI rs (l.take i)) (l.getD i default) (prI rs (l.getD i default))).st.length < 4 ∧
 tkOK (raiI (stkI rs (l.take i)) (l.getD i default) (prI rs (l.getD i default))).qu.sl (min (raiI (stkI rs (l.take i)) (l.getD i default) (prI rs (l.getD i default))).ma (runP (raiI (stkI rs (l.take i)) (l.getD i default) (prI rs (l.getD i default))))) = true ∧
 takI (raiI (stkI rs (l.take i)) (l.getD i default) (prI rs (l.getD i default))) = stkI rs (l.take (i + 1)) := by
 have hn := h.n
 have hl : (l.take i).length = i := by rw [List.length_take]; omega
 have hg : ∀ j, j < i → (l.take i).getD j default = l.getD j default := fun j hj => take_getD hj
 have hr := stk_raise (rs := rs) (l := l.take i) (q := l.getD i default) (by omega) (fun j hj => by rw [hg j (by omega)]; exact h.dif (by omega) hi)
 refine ⟨raiI_F (h.take (by omega)) (h.el i hi).1 (h.el i hi).2, ?_, ?_, ?_⟩
 ·show (l.take i).length < 4; omega
 ·rw [hr, stk_run (by omega) (fun a b hab hb => by rw [hg a (by omega), hg b (by omega)]; exact h.dif hab (by omega))]
  rw [tkOK_iff]
  show 0 ≤ bstS (stkP rs (l.take i) (l.getD i default)) true ∧ ((stkP rs (l.take i) (l.getD i default)).getD (bstS (stkP rs (l.take i) (l.getD i default)) true).toNat default).p < min 16 _
  rw [stkP_bst (by omega), Int.toNat_natCast, stkP_at]
  have h15 := (h.el i hi).2.2
  refine ⟨by omega, ?_⟩
  show prI rs (l.getD i default) < _
  rw [hl]
  split
  ·omega
  ·next h0 =>
   rw [hg (i - 1) (by omega)]
   have := h.dn i (by omega) hi
   omega
 ·rw [hr, stk_take (by omega)]
  congr 1
  rw [List.take_add_one, List.getElem?_eq_getElem hi, List.getD_eq_getElem?_getD, List.getElem?_eq_getElem hi]
  rfl
end Go.Rf
namespace Go.Rf
section
variable {q : Que} {irq p lim : Int} {x : Ifc}
theorem offQ_a (h : 0 ≤ fndS q.sl irq) : offQ q irq p = ⟨ptS q.sl irq, q.wa⟩ := by unfold offQ; rw [if_pos h]
theorem offQ_b (h : fndS q.sl irq < 0) (h2 : inW q.wa irq < 0) : offQ q irq p = ⟨q.sl, insW q.wa ⟨irq, p⟩⟩ := by unfold offQ; rw [if_neg (by omega), if_neg (by omega)]
theorem offQ_c (h : fndS q.sl irq < 0) (h2 : 0 ≤ inW q.wa irq) : offQ q irq p = q := by unfold offQ; rw [if_neg (by omega), if_pos h2]
def takT (q : Que) (lim : Int) : Que × Int × Bool := if tkOK q.sl lim then (takQ q, tkI q.sl, true) else (⟨[], []⟩, 0, false)
theorem takT_t (h : tkOK q.sl lim = true) : takT q lim = (takQ q, tkI q.sl, true) := by unfold takT; rw [h]; rfl
theorem takT_f (h : tkOK q.sl lim = false) : takT q lim = (⟨[], []⟩, 0, false) := by unfold takT; rw [h]; rfl
theorem tkT_2 {sl : List Slot} : (tkT sl lim).2.2 = tkOK sl lim := by
 cases h : tkOK sl lim
 ·rw [tkT_f h]
 ·rw [tkT_t h]
theorem takT_2 : (takT q lim).2.2 = tkOK q.sl lim := by
 cases h : tkOK q.sl lim
 ·rw [takT_f h]
 ·rw [takT_t h]
def limI (x : Ifc) : Int := min x.ma (runP x)
def okT (x : Ifc) : Bool := tkOK x.qu.sl (limI x)
def noI : Ifc := ⟨0, [], ⟨[], []⟩⟩
def takIT (x : Ifc) : Ifc × Int × Bool := if okT x then (takI x, tkI x.qu.sl, true) else (noI, 0, false)
theorem takIT_t (h : okT x = true) : takIT x = (takI x, tkI x.qu.sl, true) := by unfold takIT; rw [h]; rfl
theorem takIT_f (h : okT x = false) : takIT x = (noI, 0, false) := by unfold takIT; rw [h]; rfl
theorem tkI_bd {sl : List Slot} (h : SlF sl) (hb : 0 ≤ bstS sl true) : 0 ≤ tkI sl ∧ tkI sl ≤ 7 := by
 obtain ⟨k, e1, e2, e3⟩ := best_slot hb
 unfold tkI
 rw [e1, Int.toNat_natCast]
 exact (h.ok k (by rw [← h.len]; exact e2) (by omega)).2.1
theorem ptS_2 {sl : List Slot} (h : (sl.getD (fndS sl irq).toNat default).s = 2) : ptS sl irq = sl.set (fndS sl irq).toNat ⟨3, (sl.getD (fndS sl irq).toNat default).q, (sl.getD (fndS sl irq).toNat default).p⟩ := by unfold ptS; rw [if_pos h]
theorem ptS_n {sl : List Slot} (h : ¬ (sl.getD (fndS sl irq).toNat default).s = 2) : ptS sl irq = sl.set (fndS sl irq).toNat ⟨(sl.getD (fndS sl irq).toNat default).s, (sl.getD (fndS sl irq).toNat default).q, (sl.getD (fndS sl irq).toNat default).p⟩ := by unfold ptS; rw [if_neg h]
end
end Go.Rf
set_option linter.unusedVariables false
set_option linter.unusedSectionVars false
set_option linter.unusedSimpArgs false
namespace Go.Rf
open Go
end Go.Rf
namespace Go.Rf
end Go.Rf
set_option linter.unusedVariables false
set_option linter.unusedSectionVars false
set_option linter.unusedSimpArgs false
namespace Go.Rf
open Go
def srtW (l : List Wtr) : List Wtr := l.foldl insW []
def difW (l : List Wtr) : Prop := l.Pairwise (fun a b => a.q ≠ b.q)
theorem srtW_snoc {l : List Wtr} {x : Wtr} : srtW (l ++ [x]) = insW (srtW l) x := by simp [srtW, List.foldl_append]
theorem foldW_mem {x : Wtr} : ∀ {l acc : List Wtr}, x ∈ l.foldl insW acc ↔ x ∈ acc ∨ x ∈ l
 | [], acc => by simp
 | y :: l, acc => by
  rw [List.foldl_cons, foldW_mem, insW_mem, List.mem_cons]
  constructor
  ·rintro ((h | h) | h)
   ·exact .inr (.inl h)
   ·exact .inl h
   ·exact .inr (.inr h)
  ·rintro (h | h | h)
   ·exact .inl (.inr h)
   ·exact .inl (.inl h)
   ·exact .inr h
theorem foldW_len : ∀ {l acc : List Wtr}, (l.foldl insW acc).length = acc.length + l.length
 | [], acc => by simp
 | y :: l, acc => by rw [List.foldl_cons, foldW_len, insW_len, List.length_cons]; omega
theorem foldW_pw : ∀ {l acc : List Wtr}, acc.Pairwise ltW → difW l → (∀ a ∈ acc, ∀ b ∈ l, a.q ≠ b.q) → (l.foldl insW acc).Pairwise ltW
 | [], acc, h, _, _ => h
 | y :: l, acc, h, hd, hx => by
  obtain ⟨h1, h2⟩ := List.pairwise_cons.mp hd
  rw [List.foldl_cons]
  refine foldW_pw (insW_pw h fun a ha => hx a ha y (by simp)) h2 fun a ha b hb => ?_
  rcases insW_mem.mp ha with rfl | ha
  ·exact h1 b hb
  ·exact hx a ha b (by simp [hb])
theorem srtW_len {l : List Wtr} : (srtW l).length = l.length := by unfold srtW; rw [foldW_len]; simp
theorem srtW_mem {l : List Wtr} {x : Wtr} : x ∈ srtW l ↔ x ∈ l := by unfold srtW; rw [foldW_mem]; simp
theorem srtW_pw {l : List Wtr} (h : difW l) : (srtW l).Pairwise ltW := foldW_pw List.Pairwise.nil h (fun a ha => by cases ha)
theorem insW_end {acc : List Wtr} {w : Wtr} (h : ∀ a ∈ acc, lessW a w = true) : insW acc w = acc ++ [w] := by
 rw [insW_at (i := acc.length) (fun j hj => h _ (mem_getD.mpr ⟨j, hj, rfl⟩)) (Nat.le_refl _) (.inl rfl)]
 simp
theorem foldW_sorted : ∀ {l acc : List Wtr}, (acc ++ l).Pairwise ltW → l.foldl insW acc = acc ++ l
 | [], acc, _ => by simp
 | y :: l, acc, h => by
  rw [List.foldl_cons, insW_end (fun a ha => ((List.pairwise_append.mp h).2.2 a ha y (by simp)).1)]
  rw [foldW_sorted (by simpa using h)]
  simp
theorem srtW_sorted {l : List Wtr} (h : l.Pairwise ltW) : srtW l = l := by unfold srtW; rw [foldW_sorted (by simpa using h)]; rfl
def movW (P : List Wtr) (x : Wtr) (R : List Wtr) (j : Nat) : List Wtr := P.take j ++ x :: (P.drop j ++ R)
section
variable {P R : List Wtr} {x : Wtr} {j : Nat}
theorem movW_len (h : j ≤ P.length) : (movW P x R j).length = P.length + 1 + R.length := by
 unfold movW
 simp
 omega
theorem movW_at (h : j ≤ P.length) : (movW P x R j).getD j default = x := by
 unfold movW
 rw [getD_app2 (by rw [List.length_take]; omega), List.length_take, Nat.min_eq_left h, Nat.sub_self]
 rfl
theorem movW_pre {t : Nat} (h : t < j) (hj : j ≤ P.length) : (movW P x R j).getD t default = P.getD t default := by
 unfold movW
 rw [getD_app1 (by rw [List.length_take]; omega), take_getD h]
theorem movW_top : movW P x R P.length = P ++ x :: R := by unfold movW; simp
theorem movW_swap {β : Type} {f : Wtr → β} (h0 : 0 < j) (hj : j ≤ P.length) : (((movW P x R j).map f).set j (f (P.getD (j - 1) default))).set (j - 1) (f x) = (movW P x R (j - 1)).map f := by
 have hlt : j - 1 < P.length := by omega
 have h1 : P.take j = P.take (j - 1) ++ [P.getD (j - 1) default] := by
  have := List.take_add_one (l := P) (i := j - 1)
  rw [show j - 1 + 1 = j by omega, List.getElem?_eq_getElem hlt] at this
  rw [this, List.getD_eq_getElem?_getD, List.getElem?_eq_getElem hlt]
  rfl
 have h2 : P.drop (j - 1) = P.getD (j - 1) default :: P.drop j := by
  rw [List.drop_eq_getElem_cons hlt, show j - 1 + 1 = j by omega, List.getD_eq_getElem?_getD, List.getElem?_eq_getElem hlt]
  rfl
 rw [← List.map_set, ← List.map_set]
 congr 1
 unfold movW
 rw [h1, h2]
 generalize P.getD (j - 1) default = y
 have hl : (P.take (j - 1)).length = j - 1 := by rw [List.length_take]; omega
 generalize hA : P.take (j - 1) = A at *
 have e1 : ∀ (z : Wtr) (B : List Wtr), (A ++ [y] ++ z :: B).set j y = A ++ [y] ++ y :: B := fun z B => by
  have := @set_app _ (A ++ [y]) (z :: B) y
  rw [List.length_append, List.length_cons, List.length_nil, show A.length + (0 + 1) = j by omega] at this
  rw [this]; rfl
 rw [e1]
 have e2 := @set_app _ A ([y] ++ y :: (P.drop j ++ R)) x
 rw [hl] at e2
 rw [List.append_assoc, e2]
 simp
theorem movW_end (hj : j ≤ P.length) (hs : P.Pairwise ltW) (hd : ∀ p ∈ P, p.q ≠ x.q) (h1 : ∀ t, j ≤ t → t < P.length → lessW x (P.getD t default) = true) (h2 : j = 0 ∨ lessW x (P.getD (j - 1) default) = false) : movW P x R j = insW P x ++ R := by
 have hp := pw_getD.mp hs
 have hh : ∀ t, t < j → lessW (P.getD t default) x = true := fun t ht => by
  have hl : lessW (P.getD (j - 1) default) x = true := by
   rcases h2 with h2 | h2
   ·omega
   ·rw [lessW_tot (hd _ (mem_getD.mpr ⟨j - 1, by omega, rfl⟩)), h2]; rfl
  rcases Nat.lt_or_ge t (j - 1) with g | g
  ·exact lessW_trans (hp t (j - 1) g (by omega)).1 hl
  ·rw [show t = j - 1 by omega]; exact hl
 have he : j = P.length ∨ (j < P.length ∧ lessW (P.getD j default) x = false) := by
  rcases Nat.lt_or_ge j P.length with g | g
  ·exact .inr ⟨g, lessW_asym (h1 j (Nat.le_refl _) g)⟩
  ·exact .inl (by omega)
 rw [insW_at hh hj he]
 unfold movW; simp
end
def srtN (d : List Wtr) (i : Nat) : List Wtr := srtW (d.take i) ++ d.drop i
section
variable {d : List Wtr} {i : Nat}
theorem srtN_1 (h : 0 < d.length) : srtN d 1 = d := by
 match d, h with
 | x :: d, _ => simp [srtN, srtW, insW, cntW]
theorem srtN_0 (h : d.length = 0) : srtN d 1 = d := by
 match d, h with
 | [], _ => rfl
theorem srtN_i : srtN d 1 = d := by
 rcases Nat.eq_zero_or_pos d.length with h | h
 ·exact srtN_0 h
 ·exact srtN_1 h
theorem srtN_all (h : d.length ≤ i) : srtN d i = srtW d := by unfold srtN; rw [List.take_of_length_le h, List.drop_of_length_le h, List.append_nil]
theorem srtN_mov (h : i < d.length) : srtN d i = movW (srtW (d.take i)) (d.getD i default) (d.drop (i + 1)) i := by
 have hl : (srtW (d.take i)).length = i := by rw [srtW_len, List.length_take]; omega
 conv => rhs; rw [← hl]
 unfold srtN
 rw [hl]
 have e := @movW_top (srtW (d.take i)) (d.drop (i + 1)) (d.getD i default)
 rw [hl] at e
 rw [e, List.drop_eq_getElem_cons h, List.getD_eq_getElem?_getD, List.getElem?_eq_getElem h]
 rfl
theorem srtN_succ (h : i < d.length) : srtN d (i + 1) = insW (srtW (d.take i)) (d.getD i default) ++ d.drop (i + 1) := by
 unfold srtN
 rw [List.take_add_one, List.getElem?_eq_getElem h, List.getD_eq_getElem?_getD, List.getElem?_eq_getElem h]
 show srtW (d.take i ++ [d[i]]) ++ _ = _
 rw [srtW_snoc]
 rfl
structure MovF (d : List Wtr) (i : Nat) : Prop where
 len : (srtW (d.take i)).length = i
 pw : (srtW (d.take i)).Pairwise ltW
 dif : ∀ p ∈ srtW (d.take i), p.q ≠ (d.getD i default).q
theorem movF (hd : difW d) (h : i < d.length) : MovF d i := by
 refine ⟨by rw [srtW_len, List.length_take]; omega, srtW_pw (List.Pairwise.sublist (List.take_sublist _ _) hd), fun p hp => ?_⟩
 obtain ⟨t, ht, rfl⟩ := mem_getD.mp (srtW_mem.mp hp)
 rw [List.length_take] at ht
 rw [take_getD (by omega)]
 exact (pw_getD.mp hd) t i (by omega) h
end
def pnP (x : Slot) : Bool := decide (x.s = 1) || decide (x.s = 3)
theorem pnP_iff {x : Slot} : pnP x = true ↔ x.s = 1 ∨ x.s = 3 := by simp [pnP]
def pnL (q : Que) : Nat → List Wtr
 | 0 => q.wa
 | i + 1 => if pnP (q.sl.getD i default) then pnL q i ++ [wOf (q.sl.getD i default)] else pnL q i
def pnS (q : Que) : Nat → List Wtr
 | 0 => q.wa
 | i + 1 => if pnP (q.sl.getD i default) then insW (pnS q i) (wOf (q.sl.getD i default)) else pnS q i
section
variable {q : Que} {i : Nat}
theorem pnL_t (h : (q.sl.getD i default).s = 1 ∨ (q.sl.getD i default).s = 3) : pnL q (i + 1) = pnL q i ++ [wOf (q.sl.getD i default)] := by
 show (if pnP _ then _ else _) = _
 rw [if_pos (pnP_iff.mpr h)]
theorem pnL_f (h : ¬ ((q.sl.getD i default).s = 1 ∨ (q.sl.getD i default).s = 3)) : pnL q (i + 1) = pnL q i := by
 show (if pnP _ then _ else _) = _
 rw [if_neg (fun g => h (pnP_iff.mp g))]
theorem pnS_t (h : (q.sl.getD i default).s = 1 ∨ (q.sl.getD i default).s = 3) : pnS q (i + 1) = insW (pnS q i) (wOf (q.sl.getD i default)) := by
 show (if pnP _ then _ else _) = _
 rw [if_pos (pnP_iff.mpr h)]
theorem pnS_f (h : ¬ ((q.sl.getD i default).s = 1 ∨ (q.sl.getD i default).s = 3)) : pnS q (i + 1) = pnS q i := by
 show (if pnP _ then _ else _) = _
 rw [if_neg (fun g => h (pnP_iff.mp g))]
theorem pn_srt (h : QF q) : ∀ i, srtW (pnL q i) = pnS q i
 | 0 => srtW_sorted h.pw
 | i + 1 => by
  have ih := pn_srt h i
  show srtW (if pnP _ then _ else _) = (if pnP _ then _ else _)
  split
  ·rw [srtW_snoc, ih]
  ·exact ih
theorem pnL_len : ∀ i, (pnL q i).length ≤ q.wa.length + i
 | 0 => Nat.le_refl _
 | i + 1 => by
  have ih := @pnL_len i
  show (if pnP _ then _ else _ : List Wtr).length ≤ _
  split
  ·rw [List.length_append, List.length_cons, List.length_nil]; omega
  ·omega
theorem pnS_len : ∀ i, (pnS q i).length ≤ q.wa.length + i
 | 0 => Nat.le_refl _
 | i + 1 => by
  have ih := @pnS_len i
  show (if pnP _ then _ else _ : List Wtr).length ≤ _
  split
  ·rw [insW_len]; omega
  ·omega
theorem pnL_mem {x : Wtr} : ∀ i, x ∈ pnL q i → x ∈ q.wa ∨ ∃ j, j < i ∧ (q.sl.getD j default).s ≠ 0 ∧ x = wOf (q.sl.getD j default)
 | 0, h => .inl h
 | i + 1, h => by
  change x ∈ (if pnP _ then _ else _ : List Wtr) at h
  split at h
  ·next hp =>
   rcases List.mem_append.mp h with h | h
   ·rcases pnL_mem i h with g | ⟨j, g1, g2, g3⟩
    ·exact .inl g
    ·exact .inr ⟨j, by omega, g2, g3⟩
   ·refine .inr ⟨i, by omega, ?_, List.mem_singleton.mp h⟩
    rcases pnP_iff.mp hp with g | g <;> omega
  ·rcases pnL_mem i h with g | ⟨j, g1, g2, g3⟩
   ·exact .inl g
   ·exact .inr ⟨j, by omega, g2, g3⟩
theorem pnL_dif (h : QF q) : ∀ i, i ≤ 4 → difW (pnL q i)
 | 0, _ => h.pw.imp fun h => h.2
 | i + 1, hi => by
  have ih := pnL_dif h i (by omega)
  show difW (if pnP _ then _ else _)
  split
  ·next hp =>
   have h0 : (q.sl.getD i default).s ≠ 0 := by rcases pnP_iff.mp hp with g | g <;> omega
   refine List.pairwise_append.mpr ⟨ih, List.pairwise_singleton _ _, fun a ha b hb => ?_⟩
   rw [List.mem_singleton.mp hb]
   show a.q ≠ (q.sl.getD i default).q
   rcases pnL_mem i ha with g | ⟨j, g1, g2, rfl⟩
   ·exact fun e => (h.wa a g).2.2 _ (mem_getD.mpr ⟨i, by rw [h.sl.len]; omega, rfl⟩) h0 e.symm
   ·exact h.sl.dif j i g1 (by omega) g2 h0
  ·exact ih
theorem pnS_mem (h : QF q) {x : Wtr} : x ∈ pnS q i ↔ x ∈ pnL q i := by rw [← pn_srt h, srtW_mem]
theorem pn_bd (h : QF q) {x : Wtr} (hi : i ≤ 4) (hx : x ∈ pnL q i) : 0 ≤ x.q ∧ x.q ≤ 7 := by
 rcases pnL_mem i hx with g | ⟨j, g1, g2, rfl⟩
 ·exact (h.wa x g).1
 ·exact (h.sl.ok j (by omega) g2).2.1
end
def pndI (q : Que) : List Int := (pnS q 4).map (·.q)
theorem pndI_bd {q : Que} (h : QF q) {i : Nat} (hi : i < (pndI q).length) : 0 ≤ (pndI q).getD i default ∧ (pndI q).getD i default ≤ 7 := by
 unfold pndI at hi ⊢
 rw [List.length_map] at hi
 rw [getD_map1 hi]
 exact pn_bd h (Nat.le_refl _) ((pnS_mem h).mp (mem_getD.mpr ⟨i, hi, rfl⟩))
theorem pndI_len {q : Que} (h : QF q) : (pndI q).length ≤ 12 := by
 unfold pndI
 rw [List.length_map]
 have := @pnS_len q 4
 have := h.wn8
 omega
end Go.Rf
namespace Go.Rf
section
variable {P R : List Wtr} {x : Wtr} {j : Nat} {β : Type} {f : Wtr → β} {c : β}
theorem map_get {α : Type} [Inhabited α] {g : α → β} {l : List α} {i : Nat} (h : i < l.length) : (l.map g)[i]? = some (g (l.getD i default)) := by
 rw [List.getElem?_map, List.getElem?_eq_getElem h, List.getD_eq_getElem?_getD, List.getElem?_eq_getElem h]
 rfl
theorem movW_get (h : j ≤ P.length) : ((movW P x R j).map f)[((j : Int)).toNat]? = some (f x) := by
 show ((movW P x R j).map f)[j]? = _
 rw [map_get (by rw [movW_len h]; omega), movW_at h]
theorem movW_gp (h0 : 0 < j) (h : j ≤ P.length) : ((movW P x R j).map f)[((j : Int) - 1).toNat]? = some (f (P.getD (j - 1) default)) := by
 rw [show ((j : Int) - 1).toNat = j - 1 by omega]
 rw [map_get (by rw [movW_len h]; omega), movW_pre (by omega) h]
theorem movW_gs (h0 : 0 < j) (h : j ≤ P.length) : (((movW P x R j).map f).set ((j : Int)).toNat c)[((j : Int) - 1).toNat]? = some (f (P.getD (j - 1) default)) := by
 rw [← movW_gp (f := f) (x := x) (R := R) h0 h]
 show (((movW P x R j).map f).set j c)[((j : Int) - 1).toNat]? = _
 rw [List.getElem?_set_ne (by omega)]
end
end Go.Rf
namespace Go.Rf
theorem takeG {α β : Type} [Inhabited α] {f : α → β} {l : List α} {i : Nat} {y : β} (h : i < l.length) (hy : y = f (l.getD i default)) : (l.take i).map f ++ [y] = (l.take (i + 1)).map f := by
 subst hy
 rw [List.take_add_one, List.getElem?_eq_getElem h, List.map_append, List.getD_eq_getElem?_getD, List.getElem?_eq_getElem h]
 rfl
theorem pnd_at {q : Que} {i : Nat} (h : i < (pnS q 4).length) : (pndI q).getD i default = ((pnS q 4).getD i default).q := by unfold pndI; rw [getD_map1 h]
theorem pnd_len {q : Que} : (pndI q).length = (pnS q 4).length := by unfold pndI; rw [List.length_map]
theorem pnd_take {q : Que} {i : Nat} (h : i < (pnS q 4).length) : ((pndI q).take i).map encI ++ [[Value.int .i64 ((pnS q 4).getD i default).q]] = ((pndI q).take (i + 1)).map encI := takeG (by rw [pnd_len]; exact h) (by rw [pnd_at h]; rfl)
theorem pnd_all {q : Que} {i : Nat} (h : (pnS q 4).length ≤ i) : (pndI q).take i = pndI q := List.take_of_length_le (by rw [pnd_len]; exact h)
end Go.Rf
set_option linter.unusedVariables false
set_option linter.unusedSectionVars false
set_option linter.unusedSimpArgs false
namespace Go.Rf
open Go
theorem srtI_eq {a b : List Int} : srtI a = srtI b ↔ a.Perm b := by
 constructor
 ·intro h
  exact (srtI_perm a).symm.trans (h ▸ srtI_perm b)
 ·intro h
  have hp : ∀ l : List Int, (srtI l).Pairwise (fun x y => decide (x ≤ y) = true) := fun l => List.pairwise_mergeSort (fun a b c h1 h2 => by simp at *; omega) (fun a b => by simp; omega) l
  exact List.Perm.eq_of_pairwise (fun x y _ _ h1 h2 => by simp at *; omega) (hp a) (hp b) ((srtI_perm a).trans (h.trans (srtI_perm b).symm))
theorem perm_of {α : Type} [BEq α] [LawfulBEq α] : ∀ {a b : List α}, a.Nodup → (∀ x ∈ a, x ∈ b) → b.length ≤ a.length → a.Perm b
 | [], b, _, _, hl => by
  have : b = [] := List.eq_nil_of_length_eq_zero (by simpa using hl)
  rw [this]
 | x :: a, b, hn, hs, hl => by
  obtain ⟨h1, h2⟩ := List.nodup_cons.mp hn
  have hx : x ∈ b := hs x (by simp)
  refine List.Perm.trans ?_ (List.perm_cons_erase hx).symm
  refine List.Perm.cons x (perm_of h2 (fun y hy => ?_) ?_)
  ·have hne : y ≠ x := fun e => h1 (e ▸ hy)
   exact (List.mem_erase_of_ne hne).mpr (hs y (by simp [hy]))
  ·rw [List.length_erase_of_mem hx]
   simp only [List.length_cons] at hl
   omega
def actN (sl : List Slot) : Nat → List Int
 | 0 => []
 | i + 1 => if actP (sl.getD i default) then actN sl i ++ [(sl.getD i default).q] else actN sl i
def putI (l : List Int) (n : Int) : List Int := l.takeWhile (fun x => decide (x < n)) ++ [n] ++ l.dropWhile (fun x => decide (x < n))
def actS (sl : List Slot) : Nat → List Int
 | 0 => []
 | i + 1 => if actP (sl.getD i default) then putI (actS sl i) (sl.getD i default).q else actS sl i
section
variable {sl : List Slot} {i : Nat}
theorem actN_t (h : actP (sl.getD i default) = true) : actN sl (i + 1) = actN sl i ++ [(sl.getD i default).q] := by show (if _ then _ else _) = _; rw [if_pos h]
theorem actN_f (h : actP (sl.getD i default) = false) : actN sl (i + 1) = actN sl i := by show (if _ then _ else _) = _; rw [if_neg (by rw [h]; decide)]
theorem actS_t (h : (sl.getD i default).s = 2 ∨ (sl.getD i default).s = 3) : actS sl (i + 1) = putI (actS sl i) (sl.getD i default).q := by show (if _ then _ else _) = _; rw [if_pos (actP_iff.mpr h)]
theorem actS_f (h : ¬ ((sl.getD i default).s = 2 ∨ (sl.getD i default).s = 3)) : actS sl (i + 1) = actS sl i := by show (if _ then _ else _) = _; rw [if_neg (fun g => h (actP_iff.mp g))]
theorem actN_len : ∀ i, (actN sl i).length ≤ i
 | 0 => Nat.le_refl _
 | i + 1 => by
  have ih := @actN_len i
  show (if _ then _ else _ : List Int).length ≤ _
  split
  ·rw [List.length_append, List.length_cons, List.length_nil]; omega
  ·omega
theorem putI_mem {l : List Int} {n x : Int} : x ∈ putI l n ↔ x = n ∨ x ∈ l := by
 have h := List.takeWhile_append_dropWhile (p := fun x => decide (x < n)) (l := l)
 have : x ∈ l ↔ x ∈ l.takeWhile (fun x => decide (x < n)) ∨ x ∈ l.dropWhile (fun x => decide (x < n)) := by
  conv => lhs; rw [← h]
  exact List.mem_append
 unfold putI
 simp only [List.mem_append, List.mem_singleton, this]
 constructor
 ·rintro ((h | h) | h)
  ·exact .inr (.inl h)
  ·exact .inl h
  ·exact .inr (.inr h)
 ·rintro (h | h | h)
  ·exact .inl (.inr h)
  ·exact .inl (.inl h)
  ·exact .inr h
theorem putI_len {l : List Int} {n : Int} : (putI l n).length = l.length + 1 := by
 have h := congrArg List.length (List.takeWhile_append_dropWhile (p := fun x => decide (x < n)) (l := l))
 unfold putI
 simp only [List.length_append, List.length_cons, List.length_nil] at *
 omega
theorem putI_at {l : List Int} {n : Int} {k : Nat} (h : ∀ j, j < k → l.getD j default < n) (hk : k ≤ l.length) (he : k = l.length ∨ (k < l.length ∧ ¬ l.getD k default < n)) : putI l n = l.take k ++ [n] ++ l.drop k := by
 have key : l.takeWhile (fun x => decide (x < n)) = l.take k ∧ l.dropWhile (fun x => decide (x < n)) = l.drop k := by
  induction l generalizing k with
  | nil => simp at hk; subst hk; exact ⟨rfl, rfl⟩
  | cons x l ih =>
   cases k with
   | zero =>
    rcases he with he | ⟨_, he⟩
    ·simp at he
    ·have he : ¬ x < n := he
     simp [he]
   | succ k =>
    have h0 : x < n := h 0 (by omega)
    obtain ⟨e1, e2⟩ := ih (k := k) (fun j hj => by simpa using h (j + 1) (by omega)) (by simpa using hk) (by
     rcases he with he | ⟨g1, g2⟩
     ·left; simpa using he
     ·right; exact ⟨by simpa using g1, by simpa using g2⟩)
    simp [h0, e1, e2]
 unfold putI
 rw [key.1, key.2]
theorem actS_mem {x : Int} : ∀ i, x ∈ actS sl i ↔ x ∈ actN sl i
 | 0 => Iff.rfl
 | i + 1 => by
  have ih := @actS_mem x i
  show x ∈ (if _ then _ else _ : List Int) ↔ x ∈ (if _ then _ else _ : List Int)
  split
  ·rw [putI_mem, List.mem_append, List.mem_singleton, ih]; exact Or.comm
  ·exact ih
theorem actS_len : ∀ i, (actS sl i).length = (actN sl i).length
 | 0 => rfl
 | i + 1 => by
  have ih := @actS_len i
  show (if _ then _ else _ : List Int).length = (if _ then _ else _ : List Int).length
  split
  ·rw [putI_len, List.length_append, ih]; rfl
  ·exact ih
theorem actN_mem {x : Int} : ∀ i, x ∈ actN sl i ↔ ∃ j, j < i ∧ actP (sl.getD j default) = true ∧ (sl.getD j default).q = x
 | 0 => by simp [actN]
 | i + 1 => by
  have ih := @actN_mem x i
  show x ∈ (if _ then _ else _ : List Int) ↔ _
  split
  ·next h =>
   rw [List.mem_append, List.mem_singleton, ih]
   constructor
   ·rintro (⟨j, h1, h2⟩ | rfl)
    ·exact ⟨j, by omega, h2⟩
    ·exact ⟨i, by omega, h, rfl⟩
   ·rintro ⟨j, h1, h2, h3⟩
    by_cases e : j = i
    ·subst e; exact .inr h3.symm
    ·exact .inl ⟨j, by omega, h2, h3⟩
  ·next h =>
   rw [ih]
   constructor
   ·rintro ⟨j, h1, h2⟩; exact ⟨j, by omega, h2⟩
   ·rintro ⟨j, h1, h2, h3⟩
    by_cases e : j = i
    ·subst e; exact absurd h2 h
    ·exact ⟨j, by omega, h2, h3⟩
theorem actN_nd (h : SlF sl) : ∀ i, i ≤ 4 → (actN sl i).Nodup
 | 0, _ => List.nodup_nil
 | i + 1, hi => by
  have ih := actN_nd h i (by omega)
  show (if _ then _ else _ : List Int).Nodup
  split
  ·next ha =>
   refine List.nodup_append.mpr ⟨ih, List.nodup_cons.mpr ⟨by simp, List.nodup_nil⟩, fun x hx y hy e => ?_⟩
   rw [List.mem_singleton.mp hy] at e
   obtain ⟨j, h1, h2, h3⟩ := (actN_mem i).mp hx
   refine h.dif j i h1 (by omega) ?_ ?_ (h3.trans e)
   ·rcases actP_iff.mp h2 with g | g <;> omega
   ·rcases actP_iff.mp ha with g | g <;> omega
  ·exact ih
theorem actS_ne (h : SlF sl) (hi : i < 4) (ha : actP (sl.getD i default) = true) {x : Int} (hx : x ∈ actS sl i) : x ≠ (sl.getD i default).q := fun e => by
 obtain ⟨j, h1, h2, h3⟩ := (actN_mem i).mp ((actS_mem i).mp hx)
 refine h.dif j i h1 hi ?_ ?_ (h3.trans e)
 ·rcases actP_iff.mp h2 with g | g <;> omega
 ·rcases actP_iff.mp ha with g | g <;> omega
end
def lvD (sl : List Slot) (st : List Int) (i : Nat) : Bool := decide (i = 0) || decide (lvl sl (st.getD i default) < lvl sl (st.getD (i - 1) default))
def okSt (sl : List Slot) (st : List Int) : Bool := decide (srtI st = srtI (actN sl 4)) && allN st.length (lvD sl st)
def okIf (x : Ifc) : Bool := inside x.ma 0 16 && (okQu x.qu && okSt x.qu.sl x.st)
section
variable {sl : List Slot} {st : List Int} {i : Nat}
theorem okSt_p (h : ¬ srtI st = srtI (actN sl 4)) : okSt sl st = false := by unfold okSt; rw [decide_eq_false h, Bool.false_and]
theorem okSt_l (h : lvD sl st i = false) (hi : i < st.length) : okSt sl st = false := by unfold okSt; rw [allN_f h hi, Bool.and_false]
theorem okSt_t (h : srtI st = srtI (actN sl 4)) (h2 : ∀ j, j < i → lvD sl st j = true) (hi : st.length ≤ i) : okSt sl st = true := by unfold okSt; rw [decide_eq_true h, allN_t h2 hi]; rfl
theorem lvD_0 : lvD sl st 0 = true := rfl
theorem lvD_t (h : lvl sl (st.getD i default) < lvl sl (st.getD (i - 1) default)) : lvD sl st i = true := by unfold lvD; rw [decide_eq_true h, Bool.or_true]
theorem lvD_f (h0 : i ≠ 0) (h : ¬ lvl sl (st.getD i default) < lvl sl (st.getD (i - 1) default)) : lvD sl st i = false := by unfold lvD; rw [decide_eq_false h, decide_eq_false h0]; rfl
theorem act_in {x : Int} (h : x ∈ actN sl 4) (hl : sl.length = 4) : 0 ≤ fndS sl x := by
 obtain ⟨j, h1, h2, h3⟩ := (actN_mem 4).mp h
 refine act_fnd ⟨wOf (sl.getD j default), actL_mem.mpr ⟨sl.getD j default, mem_getD.mpr ⟨j, by omega, rfl⟩, h2, rfl⟩, h3⟩
theorem srt_in (h : srtI st = srtI (actN sl 4)) {x : Int} (hx : x ∈ st) : x ∈ actN sl 4 := (srtI_eq.mp h).mem_iff.mp hx
structure StP (sl : List Slot) (st : List Int) (i : Nat) : Prop where
 inn : ∀ j, j < i → st.getD j default ∈ actN sl 4
 dif : ∀ k j, k < j → j < i → st.getD k default ≠ st.getD j default
 lev : ∀ j, j < i → lvD sl st j = true
theorem stP_0 : StP sl st 0 := ⟨fun j h => by omega, fun k j _ h => by omega, fun j h => by omega⟩
theorem StP.succ (h : StP sl st i) (h1 : st.getD i default ∈ actN sl 4) (h2 : ∀ k, k < i → st.getD k default ≠ st.getD i default) (h3 : lvD sl st i = true) : StP sl st (i + 1) := by
 refine ⟨fun j hj => ?_, fun k j hk hj => ?_, fun j hj => ?_⟩
 ·by_cases e : j = i
  ·subst e; exact h1
  ·exact h.inn j (by omega)
 ·by_cases e : j = i
  ·subst e; exact h2 k hk
  ·exact h.dif k j hk (by omega)
 ·by_cases e : j = i
  ·subst e; exact h3
  ·exact h.lev j (by omega)
theorem nd_getD {l : List Int} : l.Nodup ↔ ∀ k j, k < j → j < l.length → l.getD k default ≠ l.getD j default := pw_getD
theorem StP.fin (hF : SlF sl) (h : StP sl st st.length) : okSt sl st = decide (st.length = (actN sl 4).length) := by
 by_cases hl : st.length = (actN sl 4).length
 ·rw [decide_eq_true hl]
  have hn : st.Nodup := nd_getD.mpr h.dif
  have hp := perm_of hn (fun x hx => by obtain ⟨j, hj, rfl⟩ := mem_getD.mp hx; exact h.inn j hj) (by omega)
  exact okSt_t (srtI_eq.mpr hp) h.lev (Nat.le_refl _)
 ·rw [decide_eq_false hl]
  exact okSt_p fun e => hl (srtI_eq.mp e).length_eq
theorem okSt_in (hi : i < st.length) (h : ¬ st.getD i default ∈ actN sl 4) : okSt sl st = false := okSt_p fun e => h (srt_in e (mem_getD.mpr ⟨i, hi, rfl⟩))
theorem okSt_dup (hF : SlF sl) {k : Nat} (hk : k < i) (hi : i < st.length) (h : st.getD k default = st.getD i default) : okSt sl st = false := okSt_p fun e => by
 have hn : st.Nodup := (srtI_eq.mp e).nodup_iff.mpr (actN_nd hF 4 (Nat.le_refl _))
 exact nd_getD.mp hn k i hk hi h
end
theorem okIf_F {x : Ifc} (h : okIf x = true) : IfF x ∧ setd x.qu = true ∧ (0 ≤ x.ma ∧ x.ma ≤ 16) ∧ srtI x.st = srtI (actN x.qu.sl 4) := by
 simp only [okIf, okSt, Bool.and_eq_true, decide_eq_true_eq] at h
 obtain ⟨h1, h2, h3, h4⟩ := h
 obtain ⟨g1, g2⟩ := okQu_iff.mp h2
 refine ⟨⟨g1, ?_, fun q hq => ?_⟩, g2, inside_t.mp h1, h3⟩
 ·rw [(srtI_eq.mp h3).length_eq]; exact actN_len 4
 ·obtain ⟨j, h1, h2, h3⟩ := (actN_mem 4).mp (srt_in h3 hq)
  exact ⟨wOf (x.qu.sl.getD j default), actL_mem.mpr ⟨_, mem_getD.mpr ⟨j, by rw [g1.sl.len]; exact h1, rfl⟩, h2, rfl⟩, h3⟩
def rtW (rs : List Route) (k : Nat) (w : Wtr) : Bool := decide (tgI rs w.q = k) && decide (prI rs w.q = w.p)
def rtS (rs : List Route) (k : Nat) (x : Slot) : Bool := !decide (x.s = 3) && (decide (x.s = 0) || rtW rs k (wOf x))
def okRq (rs : List Route) (q : Que) (k : Nat) : Bool := allN 4 (fun i => rtS rs k (q.sl.getD i default)) && allN q.wa.length (fun i => rtW rs k (q.wa.getD i default))
def oneM (m : Mach) (k : Nat) : Bool := okIf (m.cp.getD k default) && okRq m.rs (m.cp.getD k default).qu k
def okMa (m : Mach) : Bool := okRts m.rs m.cp.length && (decide (m.en.length = 8) && (decide (m.ra.length = 8) && allN m.cp.length (oneM m)))
section
variable {rs : List Route} {q : Que} {k i : Nat} {m : Mach}
theorem rtW_iff {w : Wtr} : rtW rs k w = true ↔ tgI rs w.q = k ∧ prI rs w.q = w.p := by simp [rtW]
theorem rtW_nf {w : Wtr} : rtW rs k w = false ↔ ¬ (tgI rs w.q = k ∧ prI rs w.q = w.p) := by rw [← Bool.not_eq_true, rtW_iff]
theorem rtS_iff {x : Slot} : rtS rs k x = true ↔ x.s ≠ 3 ∧ (x.s = 0 ∨ (tgI rs x.q = k ∧ prI rs x.q = x.p)) := by
 simp only [rtS, Bool.and_eq_true, Bool.not_eq_true', decide_eq_false_iff_not, Bool.or_eq_true, decide_eq_true_eq, rtW_iff, wOf, ne_eq]
theorem rtS_nf {x : Slot} : rtS rs k x = false ↔ ¬ (x.s ≠ 3 ∧ (x.s = 0 ∨ (tgI rs x.q = k ∧ prI rs x.q = x.p))) := by rw [← Bool.not_eq_true, rtS_iff]
theorem okRq_s (h : rtS rs k (q.sl.getD i default) = false) (hi : i < 4) : okRq rs q k = false := by unfold okRq; rw [allN_f h hi, Bool.false_and]
theorem okRq_w (h : rtW rs k (q.wa.getD i default) = false) (hi : i < q.wa.length) : okRq rs q k = false := by unfold okRq; rw [allN_f h hi, Bool.and_false]
theorem okRq_t {j : Nat} (h : ∀ t, t < i → rtS rs k (q.sl.getD t default) = true) (hi : 4 ≤ i) (h2 : ∀ t, t < j → rtW rs k (q.wa.getD t default) = true) (hj : q.wa.length ≤ j) : okRq rs q k = true := by unfold okRq; rw [allN_t h hi, allN_t h2 hj]; rfl
theorem okMa_r (h : okRts m.rs m.cp.length = false) : okMa m = false := by unfold okMa; rw [h, Bool.false_and]
theorem okMa_l (h : ¬ (m.en.length = 8 ∧ m.ra.length = 8)) : okMa m = false := by
 unfold okMa
 by_cases h1 : m.en.length = 8
 ·rw [decide_eq_true h1, decide_eq_false (fun e => h ⟨h1, e⟩)]; simp
 ·rw [decide_eq_false h1]; simp
theorem okMa_k (h : oneM m k = false) (hk : k < m.cp.length) : okMa m = false := by unfold okMa; rw [allN_f h hk]; simp
theorem okMa_t (h1 : okRts m.rs m.cp.length = true) (h2 : m.en.length = 8) (h3 : m.ra.length = 8) (h4 : ∀ j, j < k → oneM m j = true) (hk : m.cp.length ≤ k) : okMa m = true := by unfold okMa; rw [h1, decide_eq_true h2, decide_eq_true h3, allN_t h4 hk]; rfl
theorem oneM_1 (h : okIf (m.cp.getD k default) = false) : oneM m k = false := by unfold oneM; rw [h, Bool.false_and]
theorem oneM_2 (h : okRq m.rs (m.cp.getD k default).qu k = false) : oneM m k = false := by unfold oneM; rw [h, Bool.and_false]
theorem oneM_t (h1 : okIf (m.cp.getD k default) = true) (h2 : okRq m.rs (m.cp.getD k default).qu k = true) : oneM m k = true := by unfold oneM; rw [h1, h2]; rfl
end
def ftL (q : Que) : Nat → List Wtr
 | 0 => q.wa
 | i + 1 => if (q.sl.getD i default).s = 0 then ftL q i else ftL q i ++ [wOf (q.sl.getD i default)]
section
variable {rs : List Route} {q : Que} {k i : Nat}
theorem ftL_0 (h : (q.sl.getD i default).s = 0) : ftL q (i + 1) = ftL q i := by show (if _ then _ else _) = _; rw [if_pos h]
theorem ftL_1 (h : ¬ (q.sl.getD i default).s = 0) : ftL q (i + 1) = ftL q i ++ [wOf (q.sl.getD i default)] := by show (if _ then _ else _) = _; rw [if_neg h]
theorem ftL_len : ∀ i, (ftL q i).length ≤ q.wa.length + i
 | 0 => Nat.le_refl _
 | i + 1 => by
  have ih := @ftL_len i
  show (if _ then _ else _ : List Wtr).length ≤ _
  split
  ·omega
  ·rw [List.length_append, List.length_cons, List.length_nil]; omega
theorem ftL_mem {x : Wtr} : ∀ i, x ∈ ftL q i ↔ x ∈ q.wa ∨ ∃ j, j < i ∧ (q.sl.getD j default).s ≠ 0 ∧ x = wOf (q.sl.getD j default)
 | 0 => by simp [ftL]
 | i + 1 => by
  have ih := @ftL_mem x i
  show x ∈ (if _ then _ else _ : List Wtr) ↔ _
  split
  ·next h =>
   rw [ih]
   constructor
   ·rintro (h1 | ⟨j, h1, h2⟩)
    ·exact .inl h1
    ·exact .inr ⟨j, by omega, h2⟩
   ·rintro (h1 | ⟨j, h1, h2, h3⟩)
    ·exact .inl h1
    ·by_cases e : j = i
     ·subst e; exact absurd h h2
     ·exact .inr ⟨j, by omega, h2, h3⟩
  ·next h =>
   rw [List.mem_append, List.mem_singleton, ih]
   constructor
   ·rintro ((h1 | ⟨j, h1, h2⟩) | rfl)
    ·exact .inl h1
    ·exact .inr ⟨j, by omega, h2⟩
    ·exact .inr ⟨i, by omega, h, rfl⟩
   ·rintro (h1 | ⟨j, h1, h2, h3⟩)
    ·exact .inl (.inl h1)
    ·by_cases e : j = i
     ·subst e; exact .inr h3
     ·exact .inl (.inr ⟨j, by omega, h2, h3⟩)
theorem ftL_bd (h : QF q) {x : Wtr} (hi : i ≤ 4) (hx : x ∈ ftL q i) : 0 ≤ x.q ∧ x.q ≤ 7 := by
 rcases (ftL_mem i).mp hx with g | ⟨j, g1, g2, rfl⟩
 ·exact (h.wa x g).1
 ·exact (h.sl.ok j (by omega) g2).2.1
theorem ft_ok (h3 : ∀ j, j < 4 → (q.sl.getD j default).s ≠ 3) : (!(anyN (ftL q 4).length (fun i => !rtW rs k ((ftL q 4).getD i default)))) = okRq rs q k := by
 rw [Bool.eq_iff_iff, Bool.not_eq_true', anyN_nf]
 constructor
 ·intro h
  have hm : ∀ x ∈ ftL q 4, rtW rs k x = true := fun x hx => by
   obtain ⟨i, hi, rfl⟩ := mem_getD.mp hx
   simpa using h i hi
  refine okRq_t (i := 4) (j := q.wa.length) (fun t ht => rtS_iff.mpr ⟨h3 t ht, ?_⟩) (Nat.le_refl _) (fun t ht => hm _ ((ftL_mem 4).mpr (.inl (mem_getD.mpr ⟨t, ht, rfl⟩)))) (Nat.le_refl _)
  by_cases h0 : (q.sl.getD t default).s = 0
  ·exact .inl h0
  ·exact .inr (rtW_iff.mp (hm _ ((ftL_mem 4).mpr (.inr ⟨t, ht, h0, rfl⟩))))
 ·intro h i hi
  have hx : (ftL q 4).getD i default ∈ ftL q 4 := mem_getD.mpr ⟨i, hi, rfl⟩
  simp only [okRq, Bool.and_eq_true, allN_iff] at h
  rw [Bool.not_eq_false']
  rcases (ftL_mem 4).mp hx with g | ⟨j, g1, g2, g3⟩
  ·obtain ⟨t, ht, e⟩ := mem_getD.mp g
   rw [← e]; exact h.2 t ht
  ·rw [g3]
   rcases (rtS_iff.mp (h.1 j g1)).2 with e | e
   ·exact absurd e g2
   ·exact rtW_iff.mpr e
end
end Go.Rf
namespace Go.Rf
section
variable {x : Ifc}
theorem okIf_m (h : inside x.ma 0 16 = false) : okIf x = false := by unfold okIf; rw [h, Bool.false_and]
theorem okIf_q (h : okQu x.qu = false) : okIf x = false := by unfold okIf; rw [h, Bool.false_and, Bool.and_false]
theorem okIf_s (h : okSt x.qu.sl x.st = false) : okIf x = false := by unfold okIf; rw [h, Bool.and_false, Bool.and_false]
theorem okIf_t (h1 : inside x.ma 0 16 = true) (h2 : okQu x.qu = true) (h3 : okSt x.qu.sl x.st = true) : okIf x = true := by unfold okIf; rw [h1, h2, h3]; rfl
theorem okIf_e (h1 : inside x.ma 0 16 = true) (h2 : okQu x.qu = true) : okIf x = okSt x.qu.sl x.st := by unfold okIf; rw [h1, h2]; rfl
end
end Go.Rf
set_option linter.unusedVariables false
set_option linter.unusedSectionVars false
set_option linter.unusedSimpArgs false
namespace Go.Rf
open Go
theorem hasI_iff {l : List Int} {v : Int} : hasI l v = true ↔ v ∈ l := by
 unfold hasI
 rw [anyN_iff]
 constructor
 ·rintro ⟨i, hi, h⟩
  rw [of_decide_eq_true h]
  exact mem_getD.mpr ⟨i, hi, rfl⟩
 ·intro h
  obtain ⟨i, hi, e⟩ := mem_getD.mp h
  exact ⟨i, hi, decide_eq_true e.symm⟩
theorem hasI_nf {l : List Int} {v : Int} : hasI l v = false ↔ v ∉ l := by rw [← Bool.not_eq_true, hasI_iff]
theorem mem_take {l : List Int} {i : Nat} (hi : i ≤ l.length) {v : Int} : v ∈ l.take i ↔ ∃ k, k < i ∧ l.getD k default = v := by
 rw [mem_getD]
 constructor
 ·rintro ⟨k, hk, e⟩
  rw [List.length_take] at hk
  have hk2 : k < i := by omega
  exact ⟨k, hk2, by rw [← take_getD (l := l) hk2]; exact e⟩
 ·rintro ⟨k, hk, e⟩
  exact ⟨k, by rw [List.length_take]; omega, by rw [take_getD hk]; exact e⟩
theorem beqN {a b : Nat} : ((a : Int) == (b : Int)) = decide (a = b) := by
 by_cases h : a = b
 ·subst h; simp
 ·have : ¬ ((a : Int) = b) := by omega
  simp [h, this]
def setP (po : List Bool) (l : List Int) : Nat → List Bool
 | 0 => po
 | i + 1 => (setP po l i).set (l.getD i default).toNat true
theorem setP_succ {po : List Bool} {l : List Int} {i : Nat} : setP po l (i + 1) = (setP po l i).set (l.getD i default).toNat true := rfl
theorem setP_len {po : List Bool} {l : List Int} : ∀ i, (setP po l i).length = po.length
 | 0 => rfl
 | i + 1 => by rw [setP_succ, List.length_set, setP_len i]
def poN (m : Mach) : Nat → List Bool
 | 0 => List.replicate 8 false
 | k + 1 => setP (poN m k) (pndI (m.cp.getD k default).qu) (pndI (m.cp.getD k default).qu).length
theorem poN_succ {m : Mach} {k : Nat} : poN m (k + 1) = setP (poN m k) (pndI (m.cp.getD k default).qu) (pndI (m.cp.getD k default).qu).length := rfl
theorem poN_len {m : Mach} : ∀ k, (poN m k).length = 8
 | 0 => rfl
 | k + 1 => by rw [poN_succ, setP_len, poN_len k]
def abOf (m : Mach) : Abs := ⟨m.en, m.ra, poN m m.cp.length, m.cp.map (·.ma), m.cp.map (·.st)⟩
structure MaF (m : Mach) : Prop where
 rt : okRts m.rs m.cp.length = true
 n : 1 ≤ m.cp.length ∧ m.cp.length ≤ 2
 rn : m.rs.length = 8
 en : m.en.length = 8
 ra : m.ra.length = 8
 ok : ∀ k, k < m.cp.length → IfF (m.cp.getD k default) ∧ setd (m.cp.getD k default).qu = true ∧ (0 ≤ (m.cp.getD k default).ma ∧ (m.cp.getD k default).ma ≤ 16) ∧ srtI (m.cp.getD k default).st = srtI (actN (m.cp.getD k default).qu.sl 4)
 rq : ∀ k, k < m.cp.length → okRq m.rs (m.cp.getD k default).qu k = true
theorem maF {m : Mach} (h : okMa m = true) : MaF m := by
 simp only [okMa, oneM, Bool.and_eq_true, decide_eq_true_eq, allN_iff] at h
 obtain ⟨h1, h2, h3, h4⟩ := h
 have hr := okRts_iff.mp h1
 exact ⟨h1, by omega, hr.2.1, h2, h3, fun k hk => okIf_F (h4 k hk).1, fun k hk => (h4 k hk).2⟩
theorem take_ma {m : Mach} {k : Nat} (h : k < m.cp.length) : ((m.cp.map (·.ma)).take k).map encI ++ [[Value.int .i64 (m.cp.getD k default).ma]] = ((m.cp.map (·.ma)).take (k + 1)).map encI := takeG (by rw [List.length_map]; exact h) (by rw [getD_map1 h]; rfl)
theorem take_st {m : Mach} {k : Nat} (h : k < m.cp.length) {y : List CI} (hy : y = encSt (m.cp.getD k default).st) : ((m.cp.map (·.st)).take k).map encSt ++ [y] = ((m.cp.map (·.st)).take (k + 1)).map encSt := takeG (by rw [List.length_map]; exact h) (by rw [getD_map1 h]; exact hy)
theorem take_all {α β : Type} {l : List α} {f : α → β} {k : Nat} (h : l.length ≤ k) : (l.map f).take k = l.map f := List.take_of_length_le (by rw [List.length_map]; exact h)
def szQ (q : Que) (l : Int) : Int := if szL q.sl.length l < 0 then -1 else szL q.wa.length (szL q.sl.length l)
def szF (x : Ifc) (l : Int) : Int := if szL x.st.length l < 0 then -1 else szQ x.qu (szL x.st.length l)
def szFS (xs : List Ifc) (l : Int) : Int := if l - xs.length - sumI xs xs.length < 0 then -1 else l - xs.length - sumI xs xs.length
def szMa (m : Mach) (l : Int) : Int := if szL m.rs.length l < 0 then -1 else if szL m.en.length (szL m.rs.length l) < 0 then -1 else if szL m.ra.length (szL m.en.length (szL m.rs.length l)) < 0 then -1 else szFS m.cp (szL m.ra.length (szL m.en.length (szL m.rs.length l)))
theorem szF_eq {x : Ifc} {l : Int} (hl : 0 ≤ l) : szF x l = if l - szI x < 0 then -1 else l - szI x := by
 unfold szF szQ szL szI
 repeat' split
 all_goals omega
theorem szMa_small {m : Mach} {l : Int} (hl : 0 ≤ l ∧ l ≤ 1048576) (h : ¬ szMa m l < 0) : SmallM m := by
 have hn := @sumI_nn m.cp m.cp.length
 unfold szMa szFS szL at h
 refine ⟨?_, ?_, ?_, ?_, ?_⟩ <;> (repeat' split at h) <;> omega
end Go.Rf
namespace Go.Rf
theorem szL_neg {n : Nat} {l : Int} (h : szL n l < 0) : szL n l = -1 := by
 unfold szL at *
 by_cases h1 : l - n < 0
 ·rw [if_pos h1]
 ·rw [if_neg h1] at h; exact absurd h h1
theorem szQ_neg {q : Que} {l : Int} (h : szQ q l < 0) : szQ q l = -1 := by
 unfold szQ at *
 by_cases h1 : szL q.sl.length l < 0
 ·rw [if_pos h1]
 ·rw [if_neg h1] at h ⊢; exact szL_neg h
theorem szFS_neg {xs : List Ifc} {l : Int} (h : szFS xs l < 0) : szFS xs l = -1 := by
 unfold szFS at *
 by_cases h1 : l - xs.length - sumI xs xs.length < 0
 ·rw [if_pos h1]
 ·rw [if_neg h1] at h; exact absurd h h1
end Go.Rf
set_option linter.unusedVariables false
set_option linter.unusedSimpArgs false
set_option linter.unusedSectionVars false
namespace Go.Rf
open Go Go.RowKit
section
variable {P : Program} {w0 : Base} {ops : Array Oper} {o : Oper} {rest : List Oper} {T : List (Nat × AV)} {m : List (Nat × Option Row)} {nx nt : Nat} {Q : Exit → St → Prop}
theorem WX_pinS (t : Nat) {cs : List AV} (ht : look t T = some (.agg cs)) {rs : (Nat → Value) → List AV} (hr : ∀ u, pinF cs u 0 [] = some (rs u)) (h : ∀ u, WX P w0 ops o rest ⟨(t, .agg (rs u)) :: T, m, nx, nt⟩ Q) : WX P w0 ops o rest ⟨T, m, nx, nt⟩ Q := by
 intro ρ a w hT hC
 have h1 := hT.tmps t _ ht
 simp only [RelV] at h1
 obtain ⟨us, he, h1⟩ := h1
 let u : Nat → Value := fun i => us.getD i undef
 refine h u ρ a w ⟨fun i x hi => ?_, hT.size, hT.defers⟩ hC
 by_cases e : i = t
 ·subst e
  rw [look_cons_same] at hi
  cases hi
  simp only [RelV]
  exact ⟨us, he, by simpa using pinF_spec (acc' := []) (hr u) h1 (fun j y hj => by simp only [u, Nat.zero_add, List.getD_eq_getElem?_getD, hj, Option.getD_some]) (by simp [RelVs])⟩
 ·rw [look_cons_other (fun e' => e e'.symm)] at hi
  exact hT.tmps i x hi
end
end Go.Rf
set_option linter.unusedVariables false
set_option linter.unusedSectionVars false
set_option linter.unusedSimpArgs false
namespace Go.Rf
open Go
theorem nodup_len {α : Type} [BEq α] [LawfulBEq α] : ∀ {a b : List α}, a.Nodup → (∀ x ∈ a, x ∈ b) → a.length ≤ b.length
 | [], b, _, _ => Nat.zero_le _
 | x :: a, b, hn, hs => by
  obtain ⟨h1, h2⟩ := List.nodup_cons.mp hn
  have hx : x ∈ b := hs x (by simp)
  have := nodup_len (b := b.erase x) h2 (fun y hy => (List.mem_erase_of_ne (fun e : y = x => h1 (e ▸ hy))).mpr (hs y (by simp [hy])))
  rw [List.length_erase_of_mem hx] at this
  have hp : 0 < b.length := List.length_pos_of_mem hx
  simp only [List.length_cons]
  omega
theorem actN_lt {sl : List Slot} {k : Nat} (h : actP (sl.getD k default) = false) : ∀ i, k < i → (actN sl i).length < i
 | i + 1, hk => by
  have hl := @actN_len sl i
  show (if _ then _ else _ : List Int).length < _
  split
  ·next ha =>
   rw [List.length_append, List.length_cons, List.length_nil]
   have hne : k ≠ i := fun e => by subst e; rw [h] at ha; cases ha
   have := actN_lt h i (by omega)
   omega
  ·omega
theorem act_iff {sl : List Slot} (hl : sl.length = 4) {q : Int} : (∃ w ∈ actL sl, w.q = q) ↔ q ∈ actN sl 4 := by
 rw [actN_mem]
 constructor
 ·rintro ⟨w, hw, e⟩
  obtain ⟨x, h1, h2, rfl⟩ := actL_mem.mp hw
  obtain ⟨j, hj, rfl⟩ := mem_getD.mp h1
  exact ⟨j, by omega, h2, e⟩
 ·rintro ⟨j, h1, h2, h3⟩
  exact ⟨wOf (sl.getD j default), actL_mem.mpr ⟨_, mem_getD.mpr ⟨j, by omega, rfl⟩, h2, rfl⟩, h3⟩
structure IfG (x : Ifc) : Prop where
 f : IfF x
 nd : x.st.Nodup
theorem IfG.lt {x : Ifc} (h : IfG x) (hb : 0 ≤ bstS x.qu.sl true) : x.st.length < 4 := by
 obtain ⟨k, e1, e2, e3⟩ := best_slot hb
 have hl := h.f.qu.sl.len
 have h1 := nodup_len h.nd (fun q hq => (act_iff hl).mp (h.f.st q hq))
 have h2 := actN_lt (sl := x.qu.sl) (k := k) (by rw [← Bool.not_eq_true, actP_iff]; omega) 4 (by omega)
 omega
theorem raiG {x : Ifc} {q p : Int} (h : IfG x) (hq : 0 ≤ q ∧ q ≤ 7) (hp : 0 ≤ p ∧ p ≤ 15) : IfG (raiI x q p) := ⟨raiI_F h.f hq hp, h.nd⟩
theorem takG {x : Ifc} (h : IfG x) (hk : okT x = true) : IfG (takI x) := by
 have hb := (tkOK_iff.mp hk).1
 refine ⟨takI_F h.f hb (h.lt hb), ?_⟩
 obtain ⟨k, e1, e2, e3⟩ := best_slot hb
 refine List.nodup_append.mpr ⟨h.nd, List.nodup_cons.mpr ⟨by simp, List.nodup_nil⟩, fun a ha b hb e => ?_⟩
 rw [List.mem_singleton.mp hb] at e
 obtain ⟨j, h1, h2, h3⟩ := (actN_mem 4).mp ((act_iff h.f.qu.sl.len).mp (h.f.st a ha))
 have hkq : tkI x.qu.sl = (x.qu.sl.getD k default).q := by unfold tkI; rw [e1]; rfl
 have hne : j ≠ k := fun ee => by subst ee; rcases actP_iff.mp h2 with g | g <;> omega
 have hj0 : (x.qu.sl.getD j default).s ≠ 0 := by rcases actP_iff.mp h2 with g | g <;> omega
 have hl := h.f.qu.sl.len
 rcases Nat.lt_or_ge j k with g | g
 ·exact h.f.qu.sl.dif j k g (by omega) hj0 (by omega) (by rw [h3, e, hkq])
 ·exact h.f.qu.sl.dif k j (by omega) h1 (by omega) hj0 (by rw [h3, e, hkq])
def lastI (x : Ifc) : Int := x.st.getD (x.st.length - 1) default
def leaveI (x : Ifc) : Ifc := ⟨x.ma, x.st.take (x.st.length - 1), endQ x.qu (lastI x)⟩
theorem lastI_mem {x : Ifc} (h : x.st.length ≠ 0) : lastI x ∈ x.st := mem_getD.mpr ⟨x.st.length - 1, by omega, rfl⟩
theorem fnd_act {sl : List Slot} {q : Int} (h : SlF sl) (ha : ∃ w ∈ actL sl, w.q = q) : actP (sl.getD (fndS sl q).toNat default) = true := by
 obtain ⟨k, e1, e2, e3, e4⟩ := fnd_at (act_fnd ha)
 obtain ⟨j, h1, h2, h3⟩ := (actN_mem 4).mp ((act_iff h.len).mp ha)
 have hl := h.len
 have hj0 : (sl.getD j default).s ≠ 0 := by rcases actP_iff.mp h2 with g | g <;> omega
 have : j = k := by
  rcases Nat.lt_trichotomy j k with g | g | g
  ·exact absurd (h3.trans e4.symm) (h.dif j k g (by omega) hj0 e3)
  ·exact g
  ·exact absurd (e4.trans h3.symm) (h.dif k j g h1 e3 hj0)
 subst this
 rw [e1]
 exact h2
theorem leaG {x : Ifc} (h : IfG x) (h0 : x.st.length ≠ 0) : IfG (leaveI x) := by
 have hf := act_fnd (h.f.st _ (lastI_mem h0))
 have hQ0 := endQ_F0 h.f.qu hf
 obtain ⟨k, e1, e2, e3, e4⟩ := fnd_at hf
 have hnl : ∀ y ∈ x.st.take (x.st.length - 1), y ≠ lastI x := fun y hy e => by
  obtain ⟨i, hi, e5⟩ := (mem_take (by omega)).mp hy
  exact nd_getD.mp h.nd i (x.st.length - 1) hi (by omega) (e5.trans e)
 refine ⟨⟨(endQ_F h.f.qu hf).1, by show (x.st.take (x.st.length - 1)).length ≤ 4; have := h.f.sn; rw [List.length_take]; omega, fun y hy => ?_⟩, List.Pairwise.sublist (List.take_sublist _ _) h.nd⟩
 show ∃ w ∈ actL (endQ x.qu (lastI x)).sl, w.q = y
 unfold endQ
 rw [setl_act hQ0]
 show ∃ w ∈ actL (edS x.qu.sl (lastI x)), w.q = y
 obtain ⟨w, hw, e⟩ := h.f.st y (List.mem_of_mem_take hy)
 obtain ⟨z, z1, z2, z3⟩ := actL_mem.mp hw
 refine ⟨w, actL_mem.mpr ⟨z, ?_, z2, z3⟩, e⟩
 unfold edS
 rw [e1, Int.toNat_natCast]
 refine mem_set z1 fun e' => hnl y hy ?_
 rw [← e, ← z3, e']
 exact e4
structure MaG (m : Mach) : Prop where
 rt : okRts m.rs m.cp.length = true
 n : 1 ≤ m.cp.length ∧ m.cp.length ≤ 2
 rn : m.rs.length = 8
 en : m.en.length = 8
 ra : m.ra.length = 8
 ok : ∀ k, k < m.cp.length → IfG (m.cp.getD k default)
theorem MaF.g {m : Mach} (h : MaF m) : MaG m := ⟨h.rt, h.n, h.rn, h.en, h.ra, fun k hk => ⟨(h.ok k hk).1, (srtI_eq.mp (h.ok k hk).2.2.2).nodup_iff.mpr (actN_nd (h.ok k hk).1.qu.sl 4 (Nat.le_refl _))⟩⟩
theorem MaG.tg {m : Mach} (h : MaG m) {i : Nat} (hi : i < 8) : (0 ≤ (m.rs.getD i default).t ∧ (m.rs.getD i default).t ≤ 1) ∧ (m.rs.getD i default).t.toNat < m.cp.length ∧ (0 ≤ (m.rs.getD i default).p ∧ (m.rs.getD i default).p ≤ 15) := by
 have := (okRts_iff.mp h.rt).2.2 i hi
 have := h.n
 omega
def tgM (m : Mach) (i : Nat) : Nat := (m.rs.getD i default).t.toNat
def cndM (m : Mach) (i : Nat) : Bool := m.en.getD i default && (m.ra.getD i default && !hasI (m.cp.getD (tgM m i) default).st i)
def synR (m : Mach) : Nat → List Bool
 | 0 => m.ra
 | i + 1 => if cndM m i then (synR m i).set i false else synR m i
def synC (m : Mach) : Nat → List Ifc
 | 0 => m.cp
 | i + 1 => if cndM m i then (synC m i).set (tgM m i) (raiI ((synC m i).getD (tgM m i) default) i (m.rs.getD i default).p) else synC m i
def synM (m : Mach) : Mach := ⟨m.rs, m.en, synR m 8, synC m 8⟩
section
variable {m : Mach} {i : Nat}
theorem synR_t (h : cndM m i = true) : synR m (i + 1) = (synR m i).set i false := by show (if _ then _ else _) = _; rw [if_pos h]
theorem synR_f (h : cndM m i = false) : synR m (i + 1) = synR m i := by show (if _ then _ else _) = _; rw [if_neg (by rw [h]; decide)]
theorem synC_t (h : cndM m i = true) : synC m (i + 1) = (synC m i).set (tgM m i) (raiI ((synC m i).getD (tgM m i) default) i (m.rs.getD i default).p) := by show (if _ then _ else _) = _; rw [if_pos h]
theorem synC_f (h : cndM m i = false) : synC m (i + 1) = synC m i := by show (if _ then _ else _) = _; rw [if_neg (by rw [h]; decide)]
theorem synR_len : ∀ i, (synR m i).length = m.ra.length
 | 0 => rfl
 | i + 1 => by
  have ih := @synR_len i
  show (if _ then _ else _ : List Bool).length = _
  split
  ·rw [List.length_set]; exact ih
  ·exact ih
theorem synC_len : ∀ i, (synC m i).length = m.cp.length
 | 0 => rfl
 | i + 1 => by
  have ih := @synC_len i
  show (if _ then _ else _ : List Ifc).length = _
  split
  ·rw [List.length_set]; exact ih
  ·exact ih
theorem synR_ge : ∀ {i j : Nat}, i ≤ j → (synR m i).getD j default = m.ra.getD j default
 | 0, _, _ => rfl
 | i + 1, j, h => by
  show (if _ then _ else _ : List Bool).getD j default = _
  split
  ·rw [List.getD_eq_getElem?_getD, List.getElem?_set_ne (by omega), ← List.getD_eq_getElem?_getD]; exact synR_ge (by omega)
  ·exact synR_ge (by omega)
theorem synC_st (hM : MaG m) : ∀ {i k : Nat}, i ≤ 8 → k < m.cp.length → ((synC m i).getD k default).st = (m.cp.getD k default).st ∧ IfG ((synC m i).getD k default)
 | 0, k, _, hk => ⟨rfl, hM.ok k hk⟩
 | i + 1, k, hi, hk => by
  have ih := @synC_st hM i k (by omega) hk
  obtain ⟨_, h2, h3⟩ := hM.tg (i := i) (by omega)
  show ((if _ then _ else _ : List Ifc).getD k default).st = _ ∧ IfG ((if _ then _ else _ : List Ifc).getD k default)
  split
  ·rw [set_getD (by rw [synC_len]; exact h2)]
   by_cases e : tgM m i = k
   ·rw [if_pos e]
    subst e
    have ih2 := @synC_st hM i (tgM m i) (by omega) h2
    exact ⟨ih2.1, raiG ih2.2 (by omega) h3⟩
   ·rw [if_neg e]; exact ih
  ·exact ih
theorem synM_G (hM : MaG m) : MaG (synM m) := by
 refine ⟨?_, by show 1 ≤ (synC m 8).length ∧ _; rw [synC_len]; exact ⟨hM.n.1, by show (synC m 8).length ≤ 2; rw [synC_len]; exact hM.n.2⟩, hM.rn, hM.en, by show (synR m 8).length = 8; rw [synR_len]; exact hM.ra, fun k hk => ?_⟩
 ·show okRts m.rs (synC m 8).length = true
  rw [synC_len]; exact hM.rt
 ·have hk : k < (synC m 8).length := hk
  rw [synC_len] at hk
  exact (synC_st hM (Nat.le_refl _) hk).2
end
def stM (m : Mach) (s : MStep) : Mach × Int × Bool :=
 if s.k = 1 then (⟨m.rs, m.en, m.ra.set s.q.toNat true, m.cp⟩, -1, !(m.ra.getD s.q.toNat default))
 else if s.k = 2 then (synM m, -1, true)
 else if s.k = 3 then (if okT (m.cp.getD s.c.toNat default) then (⟨m.rs, m.en, m.ra, m.cp.set s.c.toNat (takI (m.cp.getD s.c.toNat default))⟩, tkI (m.cp.getD s.c.toNat default).qu.sl, true) else (⟨m.rs, m.en, m.ra, m.cp.set s.c.toNat noI⟩, 0, false))
 else if s.k = 4 then (if (m.cp.getD s.c.toNat default).st.length = 0 then (⟨m.rs, m.en, m.ra, m.cp.set s.c.toNat noI⟩, 0, false) else (⟨m.rs, m.en, m.ra, m.cp.set s.c.toNat (leaveI (m.cp.getD s.c.toNat default))⟩, lastI (m.cp.getD s.c.toNat default), true))
 else if s.k = 5 then (⟨m.rs, m.en, m.ra, m.cp.set s.c.toNat ⟨s.v, (m.cp.getD s.c.toNat default).st, (m.cp.getD s.c.toNat default).qu⟩⟩, -1, true)
 else (⟨m.rs, m.en.set s.q.toNat (decide (s.v = 1)), m.ra, m.cp⟩, -1, true)
def nopM (m : Mach) (s : MStep) : Prop := (s.k = 3 ∧ okT (m.cp.getD s.c.toNat default) = false) ∨ (s.k = 4 ∧ (m.cp.getD s.c.toNat default).st.length = 0)
end Go.Rf
set_option linter.unusedVariables false
set_option linter.unusedSectionVars false
set_option linter.unusedSimpArgs false
namespace Go.Rf
open Go
theorem abOf_F {m : Mach} (h : MaG m) : AbsF m.rs (abOf m) := by
 have hl : (m.cp.map (fun x : Ifc => x.ma)).length = m.cp.length := List.length_map _
 have hl2 : (m.cp.map (fun x : Ifc => x.st)).length = m.cp.length := List.length_map _
 have hg : ∀ c, c < m.cp.length → (m.cp.map (fun x : Ifc => x.st)).getD c default = (m.cp.getD c default).st := fun c hc => getD_map1 (f := fun x : Ifc => x.st) hc
 refine ⟨by show 1 ≤ (m.cp.map (fun x : Ifc => x.ma)).length ∧ (m.cp.map (fun x : Ifc => x.ma)).length ≤ 2; rw [hl]; exact h.n, h.rn, by show (m.cp.map (fun x : Ifc => x.st)).length = (m.cp.map (fun x : Ifc => x.ma)).length; rw [hl, hl2], h.en, h.ra, poN_len _, fun i hi => ?_, fun c hc => ?_, fun c hc i hi => ?_⟩
 ·show 0 ≤ (m.rs.getD i default).t ∧ (m.rs.getD i default).t < (m.cp.map (fun x : Ifc => x.ma)).length
  rw [hl]
  have := (okRts_iff.mp h.rt).2.2 i hi
  omega
 ·have hc : c < (m.cp.map (fun x : Ifc => x.ma)).length := hc
  rw [hl] at hc
  show ((m.cp.map (fun x : Ifc => x.st)).getD c default).length ≤ 4
  rw [hg c hc]
  exact (h.ok c hc).f.sn
 ·have hc : c < (m.cp.map (fun x : Ifc => x.ma)).length := hc
  rw [hl] at hc
  have hi : i < ((m.cp.map (fun x : Ifc => x.st)).getD c default).length := hi
  show 0 ≤ ((m.cp.map (fun x : Ifc => x.st)).getD c default).getD i default ∧ ((m.cp.map (fun x : Ifc => x.st)).getD c default).getD i default ≤ 7
  rw [hg c hc] at hi ⊢
  have hI := (h.ok c hc).f
  obtain ⟨j, h1, h2, h3⟩ := (actN_mem 4).mp ((act_iff hI.qu.sl.len).mp (hI.st _ (mem_getD.mpr ⟨i, hi, rfl⟩)))
  rw [← h3]
  exact (hI.qu.sl.ok j h1 (by rcases actP_iff.mp h2 with g | g <;> omega)).2.1
theorem MaG.put {m : Mach} (h : MaG m) {c : Nat} {x : Ifc} (hx : IfG x) : MaG ⟨m.rs, m.en, m.ra, m.cp.set c x⟩ := by
 refine ⟨by show okRts m.rs (m.cp.set c x).length = true; rw [List.length_set]; exact h.rt, by show 1 ≤ (m.cp.set c x).length ∧ (m.cp.set c x).length ≤ 2; rw [List.length_set]; exact h.n, h.rn, h.en, h.ra, fun k hk => ?_⟩
 have hk : k < (m.cp.set c x).length := hk
 rw [List.length_set] at hk
 show IfG ((m.cp.set c x).getD k default)
 by_cases e : c = k
 ·subst e
  rw [set_getD hk, if_pos rfl]; exact hx
 ·rw [List.getD_eq_getElem?_getD, List.getElem?_set_ne e, ← List.getD_eq_getElem?_getD]; exact h.ok k hk
theorem stM_G {m : Mach} {s : MStep} (h : MaG m) (hv : stepV m.cp.length s = true) (hk : (stM m s).2.2 = true) : MaG (stM m s).1 ∧ (stM m s).1.rs = m.rs ∧ (stM m s).1.cp.length = m.cp.length := by
 obtain ⟨sk, sq, sc, sv⟩ := s
 have hc := fun hk => sv_c (n := m.cp.length) (k := sk) (q := sq) (c := sc) (v := sv) hv hk
 unfold stM at hk ⊢
 dsimp only at hk ⊢
 by_cases h1 : sk = 1
 ·simp only [h1, if_true]
  exact ⟨⟨h.rt, h.n, h.rn, h.en, by show (m.ra.set sq.toNat true).length = 8; rw [List.length_set]; exact h.ra, h.ok⟩, trivial, trivial⟩
 by_cases h2 : sk = 2
 ·rw [if_neg h1, if_pos h2]
  exact ⟨synM_G h, rfl, synC_len 8⟩
 by_cases h3 : sk = 3
 ·have hcc := hc (.inl h3)
  rw [if_neg h1, if_neg h2, if_pos h3] at hk ⊢
  by_cases ho : okT (m.cp.getD sc.toNat default) = true
  ·rw [if_pos ho]
   exact ⟨h.put (takG (h.ok _ (by omega)) ho), rfl, List.length_set⟩
  ·rw [if_neg ho] at hk; cases hk
 by_cases h4 : sk = 4
 ·have hcc := hc (.inr (.inl h4))
  rw [if_neg h1, if_neg h2, if_neg h3, if_pos h4] at hk ⊢
  by_cases ho : (m.cp.getD sc.toNat default).st.length = 0
  ·rw [if_pos ho] at hk; cases hk
  ·rw [if_neg ho]
   exact ⟨h.put (leaG (h.ok _ (by omega)) ho), rfl, List.length_set⟩
 by_cases h5 : sk = 5
 ·have hcc := hc (.inr (.inr h5))
  rw [if_neg h1, if_neg h2, if_neg h3, if_neg h4, if_pos h5]
  have hI := h.ok sc.toNat (by omega)
  exact ⟨h.put ⟨⟨hI.f.qu, hI.f.sn, hI.f.st⟩, hI.nd⟩, rfl, List.length_set⟩
 ·rw [if_neg h1, if_neg h2, if_neg h3, if_neg h4, if_neg h5]
  exact ⟨⟨h.rt, h.n, h.rn, by show (m.en.set sq.toNat _).length = 8; rw [List.length_set]; exact h.en, h.ra, h.ok⟩, rfl, rfl⟩
def agS (p : Mach × Abs) (s : MStep) : Option (Mach × Abs) :=
 if (stM p.1 s).2.2 = (makeA p.1.rs p.2 s).2.2 then (if (stM p.1 s).2.2 = true then (if (stM p.1 s).2.1 = (makeA p.1.rs p.2 s).2.1 ∧ abOf (stM p.1 s).1 = (makeA p.1.rs p.2 s).1 then some ((stM p.1 s).1, (makeA p.1.rs p.2 s).1) else none) else some p) else none
def agN (m : Mach) (ss : List MStep) : Nat → Option (Mach × Abs)
 | 0 => some (m, abOf m)
 | i + 1 => match agN m ss i with
  | some p => agS p (ss.getD i default)
  | none => none
theorem agN_succ {m : Mach} {ss : List MStep} {i : Nat} {p : Mach × Abs} (h : agN m ss i = some p) : agN m ss (i + 1) = agS p (ss.getD i default) := by show (match agN m ss i with | some p => _ | none => _) = _; rw [h]
def agI (m : Mach) (ss : List MStep) : Nat := if idxN (fun i => (agN m ss (i + 1)).isNone) ss.length = -1 then ss.length else (idxN (fun i => (agN m ss (i + 1)).isNone) ss.length).toNat
theorem agN_le {m : Mach} {ss : List MStep} : ∀ {i : Nat} {p : Mach × Abs}, agN m ss i = some p → ∀ j, j ≤ i → (agN m ss j).isNone = false
 | 0, p, h, j, hj => by
  have e : j = 0 := by omega
  subst e
  rfl
 | i + 1, p, h, j, hj => by
  by_cases e : j = i + 1
  ·subst e; rw [h]; rfl
  ·cases hi : agN m ss i with
   | none =>
    have : agN m ss (i + 1) = none := by show (match agN m ss i with | some p => _ | none => _) = _; rw [hi]
    rw [this] at h; cases h
   | some q => exact agN_le hi j (by omega)
theorem agI_at {m : Mach} {ss : List MStep} {i : Nat} {p : Mach × Abs} (h : agN m ss i = some p) (hi : i < ss.length) (hn : agS p (ss.getD i default) = none) : agI m ss = i := by
 unfold agI
 rw [idx_some (i := i) (fun j hj => agN_le h (j + 1) (by omega)) hi (by rw [agN_succ h, hn]; rfl), if_neg (by omega), Int.toNat_natCast]
theorem agI_end {m : Mach} {ss : List MStep} {i : Nat} {p : Mach × Abs} (h : agN m ss i = some p) (hi : i = ss.length) : agI m ss = ss.length := by
 subst hi
 unfold agI
 rw [idx_none (i := ss.length) (fun j hj => agN_le h (j + 1) (by omega)) (Nat.le_refl _), if_pos rfl]
def agT (m : Mach) (ss : List MStep) : Int × Bool := if okMa m && stepsV m.cp.length ss then ((agI m ss : Int), true) else (0, false)
theorem agT_t {m : Mach} {ss : List MStep} (h : okMa m = true) (h2 : stepsV m.cp.length ss = true) : agT m ss = ((agI m ss : Int), true) := by unfold agT; rw [h, h2]; rfl
theorem agT_f1 {m : Mach} {ss : List MStep} (h : okMa m = false) : agT m ss = (0, false) := by unfold agT; rw [h]; rfl
theorem agT_f2 {m : Mach} {ss : List MStep} (h : stepsV m.cp.length ss = false) : agT m ss = (0, false) := by unfold agT; rw [h, Bool.and_false]; rfl
section
variable {p : Mach × Abs} {s : MStep}
theorem agS_ne (h : (stM p.1 s).2.2 ≠ (makeA p.1.rs p.2 s).2.2) : agS p s = none := by unfold agS; rw [if_neg h]
theorem agS_no (h : (stM p.1 s).2.2 = (makeA p.1.rs p.2 s).2.2) (h2 : (stM p.1 s).2.2 = false) : agS p s = some p := by unfold agS; rw [if_pos h, if_neg (by rw [h2]; decide)]
theorem agS_t (h : (stM p.1 s).2.2 = (makeA p.1.rs p.2 s).2.2) (h2 : (stM p.1 s).2.2 = true) (h3 : (stM p.1 s).2.1 = (makeA p.1.rs p.2 s).2.1) (h4 : abOf (stM p.1 s).1 = (makeA p.1.rs p.2 s).1) : agS p s = some ((stM p.1 s).1, (makeA p.1.rs p.2 s).1) := by unfold agS; rw [if_pos h, if_pos h2, if_pos ⟨h3, h4⟩]
theorem agS_f (h : (stM p.1 s).2.2 = (makeA p.1.rs p.2 s).2.2) (h2 : (stM p.1 s).2.2 = true) (h3 : ¬ ((stM p.1 s).2.1 = (makeA p.1.rs p.2 s).2.1 ∧ abOf (stM p.1 s).1 = (makeA p.1.rs p.2 s).1)) : agS p s = none := by unfold agS; rw [if_pos h, if_pos h2, if_neg h3]
end
structure AgF (m : Mach) (p : Mach × Abs) : Prop where
 g : MaG p.1
 f : AbsF p.1.rs p.2
 rs : p.1.rs = m.rs
 n : p.1.cp.length = m.cp.length
 na : p.2.ma.length = m.cp.length
theorem agF_0 {m : Mach} (h : MaG m) : AgF m (m, abOf m) := ⟨h, abOf_F h, rfl, rfl, List.length_map _⟩
theorem agF_s {m : Mach} {p : Mach × Abs} {s : MStep} (h : AgF m p) (hv : stepV m.cp.length s = true) (hk : (stM p.1 s).2.2 = true) : AgF m ((stM p.1 s).1, (makeA p.1.rs p.2 s).1) := by
 obtain ⟨h1, h2, h3⟩ := stM_G (s := s) h.g (by rw [h.n]; exact hv) hk
 obtain ⟨h4, h5⟩ := makeA_F (s := s) h.f (by rw [h.na]; exact hv)
 exact ⟨h1, by show AbsF (stM p.1 s).1.rs _; rw [h2]; exact h4, by show (stM p.1 s).1.rs = m.rs; rw [h2]; exact h.rs, by show (stM p.1 s).1.cp.length = _; rw [h3]; exact h.n, by show (makeA p.1.rs p.2 s).1.ma.length = _; rw [h5]; exact h.na⟩
end Go.Rf
set_option linter.unusedVariables false
set_option linter.unusedSectionVars false
set_option linter.unusedSimpArgs false
namespace Go.Rf
open Go
section
variable {m : Mach} {sk sq sc sv : Int} {q c : Nat}
theorem sm1 (h : sk = 1) : stM m ⟨sk, (q : Int), sc, sv⟩ = (⟨m.rs, m.en, m.ra.set q true, m.cp⟩, -1, !(m.ra.getD q default)) := by subst h; rfl
theorem sm2 (h : sk = 2) : stM m ⟨sk, sq, sc, sv⟩ = (synM m, -1, true) := by subst h; rfl
theorem sm3 (h : sk = 3) (hk : okT (m.cp.getD c default) = true) : stM m ⟨sk, sq, (c : Int), sv⟩ = (⟨m.rs, m.en, m.ra, m.cp.set c (takI (m.cp.getD c default))⟩, tkI (m.cp.getD c default).qu.sl, true) := by
 subst h
 show (if okT (m.cp.getD c default) then _ else _ : Mach × Int × Bool) = _
 rw [hk]; rfl
theorem sm3n (h : sk = 3) (hk : okT (m.cp.getD c default) = false) : stM m ⟨sk, sq, (c : Int), sv⟩ = (⟨m.rs, m.en, m.ra, m.cp.set c noI⟩, 0, false) := by
 subst h
 show (if okT (m.cp.getD c default) then _ else _ : Mach × Int × Bool) = _
 rw [hk]; rfl
theorem sm4 (h : sk = 4) (hk : ¬ (m.cp.getD c default).st.length = 0) : stM m ⟨sk, sq, (c : Int), sv⟩ = (⟨m.rs, m.en, m.ra, m.cp.set c (leaveI (m.cp.getD c default))⟩, lastI (m.cp.getD c default), true) := by
 subst h
 show (if (m.cp.getD c default).st.length = 0 then _ else _ : Mach × Int × Bool) = _
 rw [if_neg hk]; rfl
theorem sm4n (h : sk = 4) (hk : (m.cp.getD c default).st.length = 0) : stM m ⟨sk, sq, (c : Int), sv⟩ = (⟨m.rs, m.en, m.ra, m.cp.set c noI⟩, 0, false) := by
 subst h
 show (if (m.cp.getD c default).st.length = 0 then _ else _ : Mach × Int × Bool) = _
 rw [if_pos hk]; rfl
theorem sm5 (h : sk = 5) : stM m ⟨sk, sq, (c : Int), sv⟩ = (⟨m.rs, m.en, m.ra, m.cp.set c ⟨sv, (m.cp.getD c default).st, (m.cp.getD c default).qu⟩⟩, -1, true) := by subst h; rfl
theorem sm6 (h : sk = 6) : stM m ⟨sk, (q : Int), sc, sv⟩ = (⟨m.rs, m.en.set q (decide (sv = 1)), m.ra, m.cp⟩, -1, true) := by subst h; rfl
theorem nopM_k (h : nopM m ⟨sk, sq, sc, sv⟩) : sk = 3 ∨ sk = 4 := by
 rcases h with ⟨h, _⟩ | ⟨h, _⟩
 ·exact .inl h
 ·exact .inr h
theorem nopM_3 (h : nopM m ⟨sk, sq, (c : Int), sv⟩) (h3 : sk = 3) : okT (m.cp.getD c default) = false := by
 rcases h with ⟨_, h⟩ | ⟨h, _⟩
 ·exact h
 ·have h' : sk = 4 := h
  omega
theorem nopM_4 (h : nopM m ⟨sk, sq, (c : Int), sv⟩) (h4 : sk = 4) : (m.cp.getD c default).st.length = 0 := by
 rcases h with ⟨h, _⟩ | ⟨_, h⟩
 ·have h' : sk = 3 := h
  omega
 ·exact h
theorem yes3 (h : ¬ nopM m ⟨sk, sq, (c : Int), sv⟩) (h3 : sk = 3) : okT (m.cp.getD c default) = true := by
 cases ho : okT (m.cp.getD c default)
 ·exact absurd (Or.inl ⟨h3, ho⟩) h
 ·rfl
theorem yes4 (h : ¬ nopM m ⟨sk, sq, (c : Int), sv⟩) (h4 : sk = 4) : ¬ (m.cp.getD c default).st.length = 0 := fun e => h (Or.inr ⟨h4, e⟩)
theorem stM_no {s : MStep} (h : nopM m s) : (stM m s).2.2 = false := by
 obtain ⟨sk, sq, sc, sv⟩ := s
 rcases h with ⟨h1, h2⟩ | ⟨h1, h2⟩
 ·have h1 : sk = 3 := h1
  subst h1
  show (if okT (m.cp.getD sc.toNat default) then _ else _ : Mach × Int × Bool).2.2 = false
  have h2 : okT (m.cp.getD sc.toNat default) = false := h2
  rw [h2]; rfl
 ·have h1 : sk = 4 := h1
  subst h1
  show (if (m.cp.getD sc.toNat default).st.length = 0 then _ else _ : Mach × Int × Bool).2.2 = false
  have h2 : (m.cp.getD sc.toNat default).st.length = 0 := h2
  rw [if_pos h2]
end
theorem MaG.lens {m : Mach} (h : MaG m) {k : Nat} (hk : k < m.cp.length) : (m.cp.getD k default).st.length ≤ 4 ∧ (m.cp.getD k default).qu.sl.length = 4 ∧ (m.cp.getD k default).qu.wa.length ≤ 8 := ⟨(h.ok k hk).f.sn, (h.ok k hk).f.qu.sl.len, (h.ok k hk).f.qu.wn8⟩
theorem MaG.small {m : Mach} (h : MaG m) : SmallM m := by
 have h1 := h.n
 refine ⟨by rw [h.rn]; decide, by rw [h.en]; decide, by rw [h.ra]; decide, by omega, ?_⟩
 have key : ∀ i, i ≤ m.cp.length → sumI m.cp i ≤ 16 * i := by
  intro i
  induction i with
  | zero => intro _; exact Int.le_refl _
  | succ i ih =>
   intro hi
   rw [sumI_succ]
   have := ih (by omega)
   obtain ⟨q1, q2, q3⟩ := h.lens (show i < m.cp.length by omega)
   have : szI (m.cp.getD i default) ≤ 16 := by unfold szI; omega
   push_cast
   omega
 have := key _ (Nat.le_refl _)
 omega
theorem cnd_mt {m : Mach} {i : Nat} (h1 : m.en.getD i default = true) (h2 : m.ra.getD i default = true) (h3 : hasI (m.cp.getD (tgM m i) default).st i = false) : cndM m i = true := by unfold cndM; rw [h1, h2, h3]; rfl
theorem cnd_m1 {m : Mach} {i : Nat} (h1 : m.en.getD i default = false) : cndM m i = false := by unfold cndM; rw [h1, Bool.false_and]
theorem cnd_m2 {m : Mach} {i : Nat} (h2 : m.ra.getD i default = false) : cndM m i = false := by unfold cndM; rw [h2, Bool.false_and, Bool.and_false]
theorem cnd_m3 {m : Mach} {i : Nat} (h3 : hasI (m.cp.getD (tgM m i) default).st i = true) : cndM m i = false := by unfold cndM; rw [h3]; simp
theorem edS_3 {sl : List Slot} {q : Int} (h : (sl.getD (fndS sl q).toNat default).s = 3) : edS sl q = sl.set (fndS sl q).toNat ⟨1, q, (sl.getD (fndS sl q).toNat default).p⟩ := by unfold edS edX; rw [if_pos h]
theorem edS_n {sl : List Slot} {q : Int} (h : ¬ (sl.getD (fndS sl q).toNat default).s = 3) : edS sl q = sl.set (fndS sl q).toNat zSl := by unfold edS edX; rw [if_neg h]
end Go.Rf
set_option linter.unusedVariables false
set_option linter.unusedSimpArgs false
set_option linter.unusedSectionVars false
namespace Go.Rf
open Go Go.RowKit
section
variable {P : Program} [Env P] {w0 : Base} {ops : Array Oper} {tb : List (Nat × TyI)} {o : Oper} {rest : List Oper} {T : List (Nat × AV)} {m m1 : List (Nat × Option Row)} {nx nt d n1 : Nat} {Q : Exit → St → Prop}
def FinI (m1 : List (Nat × Option Row)) (n1 : Nat) (e : Exit) (S : St) : Prop := (e = .normal ∨ e = .ret) ∧ S.m = m1 ∧ S.nx = n1
theorem WX_inl [EnvAt P w0] {f : FuncId} {fn : Func} {c : Code} {as : Array Operand} {ts : Array TypeId} {args : List AV} {n : Nat} (m1 : List (Nat × Option Row)) (n1 : Nat) (hd : o.dst = some d) (hlt : Nat.blt d nt = true) (ho : o.op = .call { callee := .value (.func f), args := as, argTypes := ts })
 (hf : P.funcs[f]? = some fn) (hb : fn.body = some c) (hname : (fn.name == "runtime.NumGoroutine") = false) (hl : fn.results = #[]) (hn : fn.ntmps = n) (hlen : Nat.ble args.length n = true) (ha : evL T as.toList [] = some args) (hle : Nat.ble nx n1 = true)
 (h : ∀ b : Base, [EnvAt P b] → b.n0 = nx → W P b c ⟨argT args 0, m, nx, n⟩ (FinI m1 n1)) (hk : WL P w0 ops rest ⟨(d, .tup []) :: T, m1, n1, nt⟩ Q) : WX P w0 ops o rest ⟨T, m, nx, nt⟩ Q := by
 rename_i hw0
 intro ρ a w hT hC
 obtain ⟨bs, h1, h2⟩ := evL_rel hT ha
 simp at h1
 subst h1
 have hcal : Callable P f := ⟨fn, hf, hname, by rw [hb]; rfl⟩
 have hrun : (execOp a.eval o).run P w = .ok (.enter f (as.toList.map a.eval).toArray) w := by
  simp [execOp, ho, resolve, Deferred.ofValue, invoke, Act.eval, run_call hcal, ← Array.toList_map]
 unfold Oper.wp
 rw [hrun, Oper.upon_enter]
 let b : Base := ⟨w0.w, nx, ρ, w, w0.keep, fun c hc => Nat.lt_of_lt_of_le (w0.kb c hc) hC.kept.1, w0.E, w0.hE⟩
 have hen : EnvAt P b := ⟨hw0.e⟩
 have hCb : RelC b ρ m nx w := ⟨hC.rows, hC.apart, hC.below, ⟨Nat.le_refl _, fun _ _ => rfl⟩, ⟨Nat.le_refl _, fun _ _ => rfl, hC.kept.2.2⟩, hC.inner⟩
 have hlen' : args.length ≤ n := Nat.le_of_ble_eq_true hlen
 have hTb := argT_start (b := b) (fn := fn) (show RelVs b.w ρ nx args (as.toList.map a.eval) from h2) hlen' hn
 have hcalls : Calls P f (as.toList.map a.eval).toArray w (fun en w' => ∃ ρ', en = .returned (.tuple #[]) ∧ (∀ i, i < nx → ρ' i = ρ i) ∧ RelC b ρ' m1 n1 w') := by
  refine calls_of_wp hf hb ?_
  refine wp_mono (h b rfl ρ _ w hTb hCb) ?_
  have fin : ∀ (ρ' : Nat → Value) (S : St) (a' : Act) (w' : World), S.m = m1 → S.nx = n1 → RelT b ρ' S.T S.nx S.nt a' → RelC b ρ' S.m S.nx w' →
   a'.defers = [] ∧ ∃ v, (results fn a'.tmps).run P w' = .ok v w' ∧ ∃ ρ', Ending.returned v = .returned (.tuple #[]) ∧ (∀ i, i < nx → ρ' i = ρ i) ∧ RelC b ρ' m1 n1 w' := by
   intro ρ' S a' w' e1 e2 hT' hC'
   refine ⟨hT'.defers, .tuple #[], ?_, ρ', rfl, fun i hi => hC'.pin.2 i hi, by rw [← e1, ← e2]; exact hC'⟩
   have := results_run (P := P) (fn := fn) (l := []) (ys := []) (tmps := a'.tmps) (w := w') (by rw [hl]) (by simp)
   simpa using this
  rintro e a' w' ⟨ρ', S, ⟨hq, e1, e2⟩, hT', hC'⟩
  rcases hq with rfl | rfl
  ·exact fin ρ' S a' w' e1 e2 hT' hC'
  ·exact fin ρ' S a' w' e1 e2 hT' hC'
 refine hcalls.mono fun ex w' ⟨ρ', he, q1, q2⟩ => ?_
 subst he
 have hn1 := Nat.le_of_ble_eq_true hle
 refine hk ρ' _ w' ?_ ⟨q2.rows, q2.apart, q2.below, ⟨Nat.le_trans hC.pin.1 hn1, fun i hi => by rw [q1 i (Nat.lt_of_lt_of_le hi hC.pin.1)]; exact hC.pin.2 i hi⟩, ⟨Nat.le_trans hC.kept.1 q2.kept.1, fun c hc => (q2.kept.2.1 c hc).trans (hC.kept.2.1 c hc), q2.kept.2.2⟩, q2.inner⟩
 rw [hd]
 have hT' : RelT w0 ρ' T n1 nt a := ⟨fun t x hx => (hT.tmps t x hx).mono hn1 q1, hT.size, hT.defers⟩
 exact hT'.put hlt (by simp only [RelV]; exact ⟨[], rfl, by simp only [RelVs]⟩)
end
end Go.Rf
set_option linter.unusedVariables false
set_option linter.unusedSimpArgs false
set_option linter.unusedSectionVars false
namespace Go.Rf
open Go Go.RowKit
section
variable {P : Program} [Env P] {w0 : Base} {ops : Array Oper} {tb : List (Nat × TyI)} {o : Oper} {rest : List Oper} {T : List (Nat × AV)} {m : List (Nat × Option Row)} {nx nt d : Nat} {Q : Exit → St → Prop}
theorem WX_inlE [EnvAt P w0] {f : FuncId} {fn : Func} {c : Code} {as : Array Operand} {ts : Array TypeId} {args : List AV} {n : Nat} (hd : o.dst = some d) (hlt : Nat.blt d nt = true) (ho : o.op = .call { callee := .value (.func f), args := as, argTypes := ts })
 (hf : P.funcs[f]? = some fn) (hb : fn.body = some c) (hname : (fn.name == "runtime.NumGoroutine") = false) (hl : fn.results = #[]) (hn : fn.ntmps = n) (hlen : Nat.ble args.length n = true) (ha : evL T as.toList [] = some args)
 (h : ∃ m1 n1, (∀ b : Base, [EnvAt P b] → b.n0 = nx → W P b c ⟨argT args 0, m, nx, n⟩ (FinI m1 n1)) ∧ Nat.ble nx n1 = true ∧ WL P w0 ops rest ⟨(d, .tup []) :: T, m1, n1, nt⟩ Q) : WX P w0 ops o rest ⟨T, m, nx, nt⟩ Q := by
 obtain ⟨m1, n1, h1, h2, h3⟩ := h
 exact WX_inl m1 n1 hd hlt ho hf hb hname hl hn hlen ha h2 h1 h3
end
def CILe (c c' : CI) : Prop := c = c' ∨ ∃ e sz ys f, c = .l e sz ys f ∧ c' = .l e sz ys true
def FlR (a b : List CI) : Prop := a.length = b.length ∧ ∀ (k : Nat) (c' : CI), b[k]? = some c' → ∃ c, a[k]? = some c ∧ CILe c c'
def FlLe (x y : List (List CI)) : Prop := x.length = y.length ∧ ∀ (i : Nat) (b : List CI), y[i]? = some b → ∃ a, x[i]? = some a ∧ FlR a b
theorem FlR.nil : FlR [] [] := ⟨rfl, fun k c' h => by simp at h⟩
theorem FlR.cons {c c' : CI} {a b : List CI} (h : CILe c c') (hr : FlR a b) : FlR (c :: a) (c' :: b) := ⟨by simp [hr.1], fun k d hd => by
 match k with
 | 0 => exact ⟨c, rfl, by simp at hd; subst hd; exact h⟩
 | k + 1 => exact hr.2 k d (by simpa using hd)⟩
theorem FlR.rfl' {a : List CI} : FlR a a := ⟨rfl, fun k c h => ⟨c, h, .inl rfl⟩⟩
theorem CILe.s {c : CI} : CILe c c := .inl rfl
theorem CILe.t {e sz : Nat} {ys : List (List Value)} {f : Bool} : CILe (.l e sz ys f) (.l e sz ys true) := .inr ⟨e, sz, ys, f, rfl, rfl⟩
theorem FlLe.refl {x : List (List CI)} : FlLe x x := ⟨rfl, fun i b h => ⟨b, h, FlR.rfl'⟩⟩
theorem FlLe.map {α : Type} {f g : α → List CI} {xs : List α} (h : ∀ x, FlR (f x) (g x)) : FlLe (xs.map f) (xs.map g) := ⟨by simp, fun i b hb => by
 rw [List.getElem?_map] at hb
 obtain ⟨x, hx, rfl⟩ := Option.map_eq_some_iff.1 hb
 exact ⟨f x, by rw [List.getElem?_map, hx]; rfl, h x⟩⟩
theorem FlLe.set {x y : List (List CI)} {a b : List CI} {i : Nat} (h : FlLe x y) (hr : FlR a b) : FlLe (x.set i a) (y.set i b) := ⟨by simp [h.1], fun j c hc => by
 by_cases e : i = j
 ·subst e
  have hl : i < y.length := by
   rcases Nat.lt_or_ge i y.length with g | g
   ·exact g
   ·rw [List.getElem?_eq_none (by simpa using g)] at hc; cases hc
  rw [List.getElem?_set_self (by simpa using hl)] at hc
  cases hc
  exact ⟨a, by rw [List.getElem?_set_self (by rw [h.1]; exact hl)], hr⟩
 ·rw [List.getElem?_set_ne e] at hc ⊢
  exact h.2 j c hc⟩
theorem FlLe.trans {x y z : List (List CI)} (h : FlLe x y) (h' : FlLe y z) : FlLe x z := ⟨h.1.trans h'.1, fun i b hb => by
 obtain ⟨a, ha, hr⟩ := h'.2 i b hb
 obtain ⟨a2, ha2, hr2⟩ := h.2 i a ha
 refine ⟨a2, ha2, hr2.1.trans hr.1, fun k c hc => ?_⟩
 obtain ⟨d, hd, hd'⟩ := hr.2 k c hc
 obtain ⟨d2, hd2, hd2'⟩ := hr2.2 k d hd
 refine ⟨d2, hd2, ?_⟩
 rcases hd2' with rfl | ⟨e, sz, ys, f, rfl, rfl⟩
 ·exact hd'
 ·rcases hd' with rfl | ⟨e2, sz2, ys2, f2, q1, rfl⟩
  ·exact .inr ⟨e, sz, ys, f, rfl, rfl⟩
  ·cases q1; exact .inr ⟨e, sz, ys, f, rfl, rfl⟩⟩
theorem FlLe.nget {x y : List (List CI)} (h : FlLe x y) {i k : Nat} {c' : CI} (hc : nget y i k = some c') : ∃ c, nget x i k = some c ∧ CILe c c' := by
 simp only [Go.Rf.nget] at hc ⊢
 cases hb : y[i]? with
 | none => rw [hb] at hc; cases hc
 | some b =>
  rw [hb] at hc
  obtain ⟨a, ha, hr⟩ := h.2 i b hb
  obtain ⟨c, h1, h2⟩ := hr.2 k c' hc
  exact ⟨c, by rw [ha]; exact h1, h2⟩
section
variable {w0 : Base} {T : List (Nat × AV)} {m : List (Nat × Option Row)} {nx nt : Nat}
theorem Gh.nestF {id e sz : Nat} {yss : List (List CI)} (yss' : List (List CI)) (hm : mem m id = some (.nest e sz yss [])) (h : FlLe yss yss') : Gh w0 ⟨T, m, nx, nt⟩ ⟨T, (id, some (.nest e sz yss' [])) :: m, nx, nt⟩ := by
 intro ρ a w hT hC
 obtain ⟨hlt, cells, hN, hop⟩ := hC.nestC hm
 obtain ⟨n1, n2, n3, n4, n5⟩ := hN
 refine ⟨ρ, hT, hC.retell hm (row' := .nest e sz yss' []) ⟨cells, ⟨by rw [← h.1]; exact n1, by rw [← h.1]; exact n2, n3, fun cs hcs => ?_, fun i k c hc => ?_⟩, fun q hq => by cases hq⟩ fun p b hb => ?_⟩
 ·obtain ⟨i, hi, rfl⟩ := List.getElem_of_mem hcs
  obtain ⟨a', ha, hr⟩ := h.2 i _ (List.getElem?_eq_getElem hi)
  rw [← hr.1]
  obtain ⟨hi2, e2⟩ := List.getElem?_eq_some_iff.1 ha
  rw [← e2]
  exact n4 _ (List.getElem_mem hi2)
 ·obtain ⟨d, hd, hle⟩ := h.nget hc
  obtain ⟨u, hu, hr⟩ := n5 i k d hd
  refine ⟨u, hu, ?_⟩
  rcases hle with rfl | ⟨e1, sz1, ys, f, rfl, rfl⟩
  ·exact hr
  ·exact ⟨OwnR.gen hr.1, hr.2⟩
 ·have hb : innAt w (ρ id) sz yss' p = some b := hb
  show innAt w (ρ id) sz yss p = some b
  unfold innAt at hb ⊢
  cases hc : Go.Rf.nget yss' p.1 p.2 with
  | none => rw [hc] at hb; cases hb
  | some c =>
   rw [hc] at hb
   obtain ⟨d, hd, hle⟩ := h.nget hc
   rw [hd]
   rcases hle with rfl | ⟨e1, sz1, ys, f, rfl, rfl⟩
   ·exact hb
   ·exact hb
end
section
variable {w0 : Base} {T : List (Nat × AV)} {m : List (Nat × Option Row)} {nx nt : Nat}
theorem Gh.bump (nx' : Nat) (h : nx ≤ nx') : Gh w0 ⟨T, m, nx, nt⟩ ⟨T, m, nx', nt⟩ := by
 intro ρ a w hT hC
 refine ⟨ρ, ⟨fun t x hx => (hT.tmps t x hx).mono h fun _ _ => rfl, hT.size, hT.defers⟩, ⟨fun id r hr => ?_, hC.apart, hC.below, ⟨Nat.le_trans hC.pin.1 h, hC.pin.2⟩, hC.kept, hC.inner⟩⟩
 obtain ⟨h1, h2⟩ := hC.rows id r hr
 refine ⟨Nat.lt_of_lt_of_le h1 h, ?_⟩
 cases r
 case box cs =>
  obtain ⟨b, cur, ty, q1, q2, q3, q4, q5⟩ := h2
  exact ⟨b, cur, ty, q1, q2, q3, RelVs.mono h (fun _ _ => rfl) _ q4, q5⟩
 case nest e sz yss op =>
  obtain ⟨cells, q1, q2⟩ := h2
  exact ⟨cells, q1, fun q hq => ⟨Nat.lt_of_lt_of_le (q2 q hq).1 h, (q2 q hq).2⟩⟩
 all_goals exact h2
end
theorem Ctr.argsTo {P : Program} [Env P] {f : FuncId} {args args' : List AV} {res : Res} (h : Ctr P f args res) (ha : ∀ w vs, RelVs w noRho 0 args' vs → RelVs w noRho 0 args vs) : Ctr P f args' res := ⟨h.callable, fun w vs he hv => h.calls w vs he (ha w vs hv)⟩
theorem NReadsAt.fl {w : World} {sz : Nat} {yss yss' : List (List CI)} {y : Value} (hf : FlLe yss yss') (h : NReadsAt w sz yss' y) : NReadsAt w sz yss y := by
 obtain ⟨A, cap, he, hc, hl, hr⟩ := h
 refine ⟨A, cap, by rw [he, hf.1], by rw [hf.1]; exact hc, fun cs hcs => ?_, fun h0 => ?_⟩
 ·obtain ⟨i, hi, rfl⟩ := List.getElem_of_mem hcs
  have hi' : i < yss'.length := by rw [← hf.1]; exact hi
  obtain ⟨a, ha, hr⟩ := hf.2 i _ (List.getElem?_eq_getElem hi')
  rw [List.getElem?_eq_getElem hi] at ha
  cases ha
  rw [hr.1]
  exact hl _ (List.getElem_mem hi')
 ·obtain ⟨ad, h1, h2, h3⟩ := hr (by rw [← hf.1]; exact h0)
  refine ⟨ad, h1, h2, fun i k c hc => ?_⟩
  have : ∃ c', Go.Rf.nget yss' i k = some c' ∧ CILe c c' := by
   simp only [Go.Rf.nget] at hc ⊢
   cases hb : yss[i]? with
   | none => rw [hb] at hc; cases hc
   | some b =>
    rw [hb] at hc
    have hi : i < yss'.length := by rw [← hf.1]; exact (List.getElem?_eq_some_iff.1 hb).1
    obtain ⟨a, ha, hr⟩ := hf.2 i _ (List.getElem?_eq_getElem hi)
    rw [hb] at ha
    cases ha
    have hc : b[k]? = some c := hc
    have hk : k < (yss'[i]).length := by rw [← hr.1]; exact (List.getElem?_eq_some_iff.1 hc).1
    obtain ⟨c2, h1, h2⟩ := hr.2 k _ (List.getElem?_eq_getElem hk)
    rw [hc] at h1
    cases h1
    exact ⟨_, by rw [List.getElem?_eq_getElem hi]; exact List.getElem?_eq_getElem hk, h2⟩
  obtain ⟨c', hc', hle⟩ := this
  obtain ⟨u, q1, q2, q3⟩ := h3 i k c' hc'
  refine ⟨u, q1, q2, ?_⟩
  rcases hle with rfl | ⟨e1, sz1, ys, f, rfl, rfl⟩
  ·exact q3
  ·exact q3
def encIfT (eS eW : Nat) (x : Ifc) : List CI := [.v (.int .i64 x.ma), .l 3 1 (x.st.map encI), .l eS 3 (x.qu.sl.map encSl), .l eW 2 (x.qu.wa.map encWa) true]
theorem flI {eS eW : Nat} (x : Ifc) : FlR (encIf eS eW x) (encIfT eS eW x) := .cons .s (.cons .s (.cons .s (.cons .t .nil)))
theorem flM {eS eW : Nat} {xs : List Ifc} : FlLe (xs.map (encIf eS eW)) (xs.map (encIfT eS eW)) := FlLe.map flI
theorem argM {w : World} {ρ : Nat → Value} {nx : Nat} {a b c : AV} {yss yss' : List (List CI)} {rest : List AV} (hf : FlLe yss yss') : ∀ vs, RelVs w ρ nx (.agg [a, b, c, .nst none 4 yss'] :: rest) vs → RelVs w ρ nx (.agg [a, b, c, .nst none 4 yss] :: rest) vs := by
 intro vs h
 simp only [RelVs, RelV] at h ⊢
 obtain ⟨y, ys', rfl, ⟨zs, rfl, y0, t0, rfl, h0, y1, t1, rfl, h1, y2, t2, rfl, h2, y3, t3, rfl, ⟨h3, h4⟩, rfl⟩, hr⟩ := h
 exact ⟨_, _, rfl, ⟨_, rfl, _, _, rfl, h0, _, _, rfl, h1, _, _, rfl, h2, _, _, rfl, ⟨by simp, NReadsAt.fl hf h4⟩, rfl⟩, hr⟩
theorem nst_back {α : Type} [Inhabited α] {xs : List α} {f : α → List CI} {i : Nat} {c c' : List CI} (hi : i < xs.length) (hc : c' = f (xs.getD i default)) : ((xs.map f).set i c).set i c' = xs.map f := by
 subst hc
 rw [List.set_set]
 apply List.ext_getElem?
 intro j
 by_cases e : i = j
 ·subst e
  rw [List.getElem?_set_self (by simpa using hi), List.getElem?_map, List.getD_eq_getElem?_getD, List.getElem?_eq_getElem hi]; rfl
 ·rw [List.getElem?_set_ne e]
section
variable {P : Program} [Env P] {w0 : Base} {ops : Array Oper} {tb : List (Nat × TyI)} {o : Oper} {rest : List Oper} {T : List (Nat × AV)} {m : List (Nat × Option Row)} {nx nt d : Nat} {Q : Exit → St → Prop} {c : Code}
theorem WL_pinT {t sz : Nat} {ys : List (List Value)} (ht : look t T = some (.lst sz ys)) (h : ∀ y, WL P w0 ops rest ⟨(t, .pin y sz ys) :: T, m, nx, nt⟩ Q) : WL P w0 ops rest ⟨T, m, nx, nt⟩ Q := by
 intro ρ a w hT hC
 have h1 := hT.tmps t _ ht
 simp only [RelV] at h1
 refine h (a.tmps.getD t undef) ρ a w ⟨fun i x hi => ?_, hT.size, hT.defers⟩ hC
 by_cases e : i = t
 ·subst e
  rw [look_cons_same] at hi
  cases hi
  simp only [RelV]
  exact ⟨trivial, h1⟩
 ·rw [look_cons_other (fun e' => e e'.symm)] at hi
  exact hT.tmps i x hi
theorem pinF_spec2 {w0 : World} {ρ : Nat → Value} {nx : Nat} {u : Nat → Value} : ∀ {cs : List AV} {us : List Value} {k : Nat} {acc rs : List AV} {acc' : List Value}, pinF cs u k acc = some rs → RelVs w0 ρ nx cs us → (∀ j y, us[j]? = some y → (∃ A l c, y = .slice A l c) → u (k + j) = y) → RelVs w0 ρ nx acc.reverse acc' → RelVs w0 ρ nx rs (acc' ++ us)
 | [], us, k, acc, rs, acc', h, hr, _, ha => by
  simp [pinF, revO_eq] at h
  simp only [RelVs] at hr
  subst h; subst hr
  simpa using ha
 | x :: cs, _, k, acc, rs, acc', h, hr, hu, ha => by
  simp only [RelVs] at hr
  obtain ⟨y, us, rfl, h1, h2⟩ := hr
  have h0 : (∃ A l c, y = .slice A l c) → u k = y := fun hs => by simpa using hu 0 y rfl hs
  have key : ∀ (a : AV), RelV w0 ρ nx a y → pinF cs u (Nat.succ k) (a :: acc) = some rs → RelVs w0 ρ nx rs (acc' ++ y :: us) := fun a hy h' => by
   have := pinF_spec2 h' h2 (fun j y hj => by rw [show Nat.succ k + j = k + (j + 1) by omega]; exact hu (j + 1) y (by simpa using hj)) (acc' := acc' ++ [y]) (by
    rw [List.reverse_cons]
    refine RelVs.append _ ha ?_
    simp only [RelVs]
    exact ⟨_, _, rfl, hy, rfl⟩)
   simpa using this
  cases x <;> simp only [pinF] at h
  case lst sz ys => exact key _ (by simp only [RelV] at h1 ⊢; obtain ⟨A, c, e, _⟩ := id h1; exact ⟨(h0 ⟨_, _, _, e⟩).symm, h1⟩) h
  case nst z sz ys => exact key _ (by simp only [RelV] at h1 ⊢; obtain ⟨_, A, c, e, _⟩ := id h1; exact ⟨fun v hv => by cases hv; exact (h0 ⟨_, _, _, e⟩).symm, h1.2⟩) h
  all_goals exact key _ h1 h
theorem W_pinM (t : Nat) {cs : List AV} (ht : look t T = some (.agg cs)) {rs : (Nat → Value) → List AV} (hr : ∀ u, pinF cs u 0 [] = some (rs u)) (h : ∀ u : Nat → Option Addr × Nat × Nat, W P w0 c ⟨(t, .agg (rs fun j => .slice (u j).1 (u j).2.1 (u j).2.2)) :: T, m, nx, nt⟩ Q) : W P w0 c ⟨T, m, nx, nt⟩ Q := by
 intro ρ a w hT hC
 have h1 := hT.tmps t _ ht
 simp only [RelV] at h1
 obtain ⟨us, he, h1⟩ := h1
 let p : Value → Option Addr × Nat × Nat := fun v => match v with
  | .slice A l c => (A, l, c)
  | _ => (none, 0, 0)
 let u : Nat → Option Addr × Nat × Nat := fun i => p (us.getD i undef)
 refine h u ρ a w ⟨fun i x hi => ?_, hT.size, hT.defers⟩ hC
 by_cases e : i = t
 ·subst e
  rw [look_cons_same] at hi
  cases hi
  simp only [RelV]
  have key : ∀ j y, us[j]? = some y → (∃ A l c, y = .slice A l c) → (fun j => Value.slice (u j).1 (u j).2.1 (u j).2.2) (0 + j) = y := fun j y hj hs => by
   obtain ⟨A, l, c, rfl⟩ := hs
   simp only [u, p, Nat.zero_add, List.getD_eq_getElem?_getD, hj, Option.getD_some]
  have := pinF_spec2 (acc' := []) (hr fun j => .slice (u j).1 (u j).2.1 (u j).2.2) h1 key (by simp [RelVs])
  exact ⟨us, he, by simpa using this⟩
 ·rw [look_cons_other (fun e' => e e'.symm)] at hi
  exact hT.tmps i x hi
end
def encIfX (x : Ifc) : List CI := [.x, .x, .x, .x]
section
variable {w0 : Base} {T : List (Nat × AV)} {m : List (Nat × Option Row)} {nx nt : Nat}
theorem Gh.nestX {id e : Nat} {yss : List (List CI)} (xs : List Ifc) (hm : mem m id = some (.nest e 4 yss [])) (h : yss.length = xs.length) : Gh w0 ⟨T, m, nx, nt⟩ ⟨T, (id, some (.nest e 4 (xs.map encIfX) [])) :: m, nx, nt⟩ := by
 intro ρ a w hT hC
 obtain ⟨hlt, cells, hN, hop⟩ := hC.nestC hm
 obtain ⟨n1, n2, n3, n4, n5⟩ := hN
 have hx : ∀ {i k : Nat} {c : CI}, nget (xs.map encIfX) i k = some c → c = .x ∧ i < xs.length ∧ k < 4 := fun {i k c} hc => by
  simp only [nget, List.getElem?_map] at hc
  cases hi : xs[i]? with
  | none => rw [hi] at hc; cases hc
  | some x =>
   rw [hi] at hc
   have hc : (encIfX x)[k]? = some c := hc
   refine ⟨?_, (List.getElem?_eq_some_iff.1 hi).1, (List.getElem?_eq_some_iff.1 hc).1⟩
   match k, hc with
   | 0, hc => cases hc; rfl
   | 1, hc => cases hc; rfl
   | 2, hc => cases hc; rfl
   | 3, hc => cases hc; rfl
 refine ⟨ρ, hT, hC.retell hm (row' := .nest e 4 (xs.map encIfX) []) ⟨cells, ⟨by rw [List.length_map, ← h]; exact n1, by rw [List.length_map, ← h]; exact n2, n3, fun cs hcs => ?_, fun i k c hc => ?_⟩, fun q hq => by cases hq⟩ fun p b hb => ?_⟩
 ·obtain ⟨x, _, rfl⟩ := List.mem_map.1 hcs; rfl
 ·obtain ⟨rfl, hi, hk⟩ := hx hc
  have hi' : i < cells.length := by rw [n2, h]; exact hi
  have hk' : k < (cells[i]).length := by rw [(n3 _ (List.getElem_mem hi')).1]; exact hk
  exact ⟨(cells[i])[k], by simp only [nget, List.getElem?_eq_getElem hi']; exact List.getElem?_eq_getElem hk', trivial⟩
 ·have hb : innAt w (ρ id) 4 (xs.map encIfX) p = some b := hb
  exfalso
  unfold innAt at hb
  cases hc : nget (xs.map encIfX) p.1 p.2 with
  | none => rw [hc] at hb; cases hb
  | some c => rw [hc] at hb; obtain ⟨rfl, _⟩ := hx hc; cases hb
end
end Go.Rf
set_option linter.unusedVariables false
set_option linter.unusedSectionVars false
set_option linter.unusedSimpArgs false
namespace Go.Rf
open Go
theorem edS_3q {sl : List Slot} {q : Int} (h0 : 0 ≤ fndS sl q) (h : (sl.getD (fndS sl q).toNat default).s = 3) : edS sl q = sl.set (fndS sl q).toNat ⟨1, (sl.getD (fndS sl q).toNat default).q, (sl.getD (fndS sl q).toNat default).p⟩ := by rw [edS_3 h, (fnd_q h0).1]
theorem lea_f {x : Ifc} (h : IfG x) (h0 : x.st.length ≠ 0) : 0 ≤ fndS x.qu.sl (lastI x) ∧ actP (x.qu.sl.getD (fndS x.qu.sl (lastI x)).toNat default) = true := ⟨act_fnd (h.f.st _ (lastI_mem h0)), fnd_act h.f.qu.sl (h.f.st _ (lastI_mem h0))⟩
theorem lastI_sub {x : Ifc} (h0 : x.st.length ≠ 0) : x.st.getD ((x.st.length : Int) - 1).toNat default = lastI x := by
 rw [show ((x.st.length : Int) - 1).toNat = x.st.length - 1 by omega]; rfl
theorem getZ {α β : Type} [Inhabited α] {l : List α} {f : α → β} {i : Nat} (h : i < l.length) : (l.map f)[i]? = some (f (l.getD i default)) := by simp [h]
theorem cut_last {xs : List Int} : List.take (((xs.length : Int) - 1).toNat - Int.toNat 0) (List.drop (Int.toNat 0) (xs.map encI)) = (xs.take (xs.length - 1)).map encI := by
 rw [show ((xs.length : Int) - 1).toNat - Int.toNat 0 = xs.length - 1 from by simp, show List.drop (Int.toNat 0) (xs.map encI) = xs.map encI from rfl, List.map_take]
def leaIT (x : Ifc) : Ifc × Int × Bool := if x.st.length = 0 then (noI, 0, false) else (leaveI x, lastI x, true)
theorem leaIT_f {x : Ifc} (h : x.st.length = 0) : leaIT x = (noI, 0, false) := if_pos h
theorem leaIT_t {x : Ifc} (h : x.st.length ≠ 0) : leaIT x = (leaveI x, lastI x, true) := if_neg h
theorem sm3T {m : Mach} {sk sq sv : Int} {c : Nat} (h : sk = 3) : stM m ⟨sk, sq, (c : Int), sv⟩ = (⟨m.rs, m.en, m.ra, m.cp.set c (takIT (m.cp.getD c default)).1⟩, (takIT (m.cp.getD c default)).2.1, (takIT (m.cp.getD c default)).2.2) := by
 cases hk : okT (m.cp.getD c default)
 ·rw [sm3n h hk, takIT_f hk]
 ·rw [sm3 h hk, takIT_t hk]
theorem sm4T {m : Mach} {sk sq sv : Int} {c : Nat} (h : sk = 4) : stM m ⟨sk, sq, (c : Int), sv⟩ = (⟨m.rs, m.en, m.ra, m.cp.set c (leaIT (m.cp.getD c default)).1⟩, (leaIT (m.cp.getD c default)).2.1, (leaIT (m.cp.getD c default)).2.2) := by
 by_cases hk : (m.cp.getD c default).st.length = 0
 ·rw [sm4n h hk, leaIT_f hk]
 ·rw [sm4 h hk, leaIT_t hk]
theorem flPut {eS eW : Nat} {xs : List Ifc} {c : Nat} {x : Ifc} {row : List CI} (h : FlR row (encIfT eS eW x)) : FlLe ((xs.map (encIfT eS eW)).set c row) ((xs.set c x).map (encIfT eS eW)) := by rw [List.map_set]; exact FlLe.refl.set h
theorem setE {eS eW : Nat} {xs : List Ifc} {c : Nat} {x : Ifc} {row : List CI} (h : row = encIf eS eW x) : (xs.map (encIf eS eW)).set c row = (xs.set c x).map (encIf eS eW) := by rw [List.map_set, h]
theorem lastI_bd {x : Ifc} (h : IfG x) (h0 : x.st.length ≠ 0) : 0 ≤ lastI x ∧ lastI x ≤ 7 := by
 obtain ⟨j, h1, h2, h3⟩ := (actN_mem 4).mp ((act_iff h.f.qu.sl.len).mp (h.f.st _ (lastI_mem h0)))
 rw [← h3]
 exact (h.f.qu.sl.ok j h1 (by rcases actP_iff.mp h2 with g | g <;> omega)).2.1
theorem tkI_bd2 {x : Ifc} (h : IfG x) (hk : okT x = true) : 0 ≤ tkI x.qu.sl ∧ tkI x.qu.sl ≤ 7 := tkI_bd h.f.qu.sl (tkOK_iff.mp hk).1
theorem eqAb_nf {x y : Abs} (h : x ≠ y) : eqAb x y = false := by
 cases e : eqAb x y
 ·rfl
 ·exact absurd (eqAb_iff.mp e) h
theorem ab_ext {rs rs' : List Route} {a b : Abs} (hA : AbsF rs a) (hB : AbsF rs' b) (hn : a.ma.length = b.ma.length) (h1 : ∀ j, j < 8 → (a.en.getD j default = b.en.getD j default ∧ a.ra.getD j default = b.ra.getD j default ∧ a.po.getD j default = b.po.getD j default)) (h2 : ∀ j, j < a.ma.length → (a.ma.getD j default = b.ma.getD j default ∧ a.st.getD j default = b.st.getD j default)) : a = b := by
 have e1 := eq_true_of (i := 8) (by rw [hA.en, hB.en]) (fun j hj => (h1 j hj).1) (by rw [hA.en]; exact Nat.le_refl _)
 have e2 := eq_true_of (i := 8) (by rw [hA.ra, hB.ra]) (fun j hj => (h1 j hj).2.1) (by rw [hA.ra]; exact Nat.le_refl _)
 have e3 := eq_true_of (i := 8) (by rw [hA.po, hB.po]) (fun j hj => (h1 j hj).2.2) (by rw [hA.po]; exact Nat.le_refl _)
 have e4 := eq_true_of hn (fun j hj => (h2 j hj).1) (Nat.le_refl _)
 have e5 := eq_true_of (i := a.ma.length) (by rw [hA.st, hB.st, hn]) (fun j hj => (h2 j hj).2) (by rw [hA.st]; exact Nat.le_refl _)
 obtain ⟨a1, a2, a3, a4, a5⟩ := a
 obtain ⟨b1, b2, b3, b4, b5⟩ := b
 simp only at e1 e2 e3 e4 e5
 subst e1 e2 e3 e4 e5
 rfl
theorem AbsF.slen {rs : List Route} {b : Abs} (h : AbsF rs b) (i : Nat) : (b.st.getD i default).length ≤ 1048576 := by
 by_cases hi : i < b.ma.length
 ·have := h.len i hi; omega
 ·rw [List.getD_eq_getElem?_getD, List.getElem?_eq_none (by rw [h.st]; omega)]; exact Nat.zero_le _
theorem argFn3 {w : World} {ρ : Nat → Value} {nx : Nat} {a b : AV} {f : FuncId} : ∀ vs, RelVs w ρ nx [a, b, .v (.func (.func f) #[] #[])] vs → RelVs w ρ nx [a, b, .fnc f []] vs := by
 intro vs h
 simp only [RelVs, RelV] at h ⊢
 obtain ⟨y0, t0, rfl, h0, y1, t1, rfl, h1, y2, t2, rfl, rfl, rfl⟩ := h
 exact ⟨_, _, rfl, h0, _, _, rfl, h1, _, _, rfl, ⟨[], rfl, rfl⟩, rfl⟩
theorem szMa_le {m : Mach} {l : Int} (hl : 0 ≤ l ∧ l ≤ 1048576) (h : ¬ szMa m l < 0) : 0 ≤ szMa m l ∧ szMa m l ≤ 1048576 := by
 have hs := @sumI_nn m.cp m.cp.length
 refine ⟨by omega, ?_⟩
 unfold szMa szFS szL
 (repeat' split) <;> omega
theorem szL_nle {n : Nat} {l : Int} (hl : 0 ≤ l ∧ l ≤ 1048576) (h : ¬ szL n l < 0) : n ≤ 1048576 := by
 unfold szL at h
 split at h <;> omega
end Go.Rf
set_option linter.unusedVariables false
set_option linter.unusedSectionVars false
set_option linter.unusedSimpArgs false
namespace Go.Rf
open Go Go.ChangeShapes Go.WideShapes Go.Deep Go.ChangeAt Go.RowKit
section
variable {H : Type} {enc : TypeId × Value → H} {P : Program} {w : World} {base : Nat} {spare : Nat → Bool} {held : Bool} {t e e2 : TypeId}
theorem row_of_trod {cs : List Value} {n : Nat} {x : DataW H × List MemPlace} {E : EK} (ht : P.underlying t = some (.slice e)) (hE : E.Fits P e) (hsz : E.sz ≠ 0) (hf : DataW.trod enc P w base spare held n t cs = some x) :
 ∃ (v : Value) (ys : List (List Value)), cs = [v] ∧ v.oneCell' = true ∧ ReadsAt w E.sz ys v ∧ ys.length ≤ maxLen ∧ ∀ c ∈ ys, CellsOK E.ks c := by
 rcases open_slice ht hf with ⟨hcs, _⟩ | ⟨a', len, cap, m, n, D, Pl, hcs, hb, hl, hm, hmm, hx, hi⟩
 ·exact ⟨_, [], hcs, rfl, ⟨none, 0, rfl, Nat.le_refl _, by simp, by simp⟩, by simp, by simp⟩
 ·have hlm : len ≤ m := by rw [hmm]; split <;> omega
  rw [hE.cells] at hi
  let ys := (List.range len).map fun i => (w.cells? base (a'.add (i * E.sz)) E.sz).getD []
  have hget : ∀ i c, ys[i]? = some c → i < len ∧ w.cells? base (a'.add (i * E.sz)) E.sz = some c ∧ CellsOK E.ks c := by
   intro i c hic
   simp only [ys, List.getElem?_map] at hic
   rcases Nat.lt_or_ge i len with hlt | hge
   ·obtain ⟨cs', h1, h2⟩ := hi i (by omega)
    rw [List.getElem?_range hlt] at hic
    simp [h1] at hic
    subst hic
    exact ⟨hlt, h1, hE.trod h2⟩
   ·rw [List.getElem?_eq_none (by simpa using hge)] at hic
    cases hic
  have hlen : ys.length = len := by simp [ys]
  refine ⟨_, ys, hcs, rfl, ⟨some a', cap, by rw [hlen], by omega, fun c hc => ?_, fun h0 => ⟨a', rfl, ?_, fun i c hic j u hju => ?_⟩⟩, by omega, fun c hc => ?_⟩
  ·obtain ⟨i, hic⟩ := List.getElem?_of_mem hc
   obtain ⟨_, h1, h2⟩ := hget i c hic
   exact ⟨(World.cells?_some h1).2.1, h2.len.2⟩
  ·obtain ⟨cs', h1, _⟩ := hi 0 (by omega)
   obtain ⟨_, h2, h3⟩ := World.cells?_some h1
   have h4 := h3 0 (by omega)
   rw [List.getElem?_eq_getElem (by omega)] at h4
   have := cell_block h4
   simpa [Addr.add] using this
  ·obtain ⟨_, h1, _⟩ := hget i c hic
   obtain ⟨_, h2, h3⟩ := World.cells?_some h1
   have hj : j < c.length := (List.getElem?_eq_some_iff.1 hju).1
   rw [← hju, ← h3 j (by omega)]
   rw [← Go.Deep.add_add]
  ·obtain ⟨i, hic⟩ := List.getElem?_of_mem hc
   exact (hget i c hic).2.2
theorem fields_of_trod {cs : List Value} {n : Nat} {x : DataW H × List MemPlace} {fs : Array Field} (hs : P.underlying t = some (.struct fs)) (hone : oneCellFields P fs = true) (hC : P.cellsOf t = fs.size)
 (h : DataW.trod enc P w base spare held n t cs = some x) : cs.length = fs.size ∧ ∀ (j : Nat) (f : Field), fs[j]? = some f → ∃ (v : Value) (n : Nat) (y : DataW H × List MemPlace), cs[j]? = some v ∧ DataW.trod enc P w base spare held n f.type [v] = some y := by
 obtain ⟨xs, n', _, _, hlen, hxl, hf⟩ := DataW.trod_struct hs h
 refine ⟨by rw [hlen, hC], fun j f hj => ?_⟩
 obtain ⟨ho, h1⟩ := hone_of hone j f hj
 have hjl : j < fs.size := (Array.getElem?_eq_some_iff.1 hj).1
 have h2 := hf j f hj
 have hjc : j < cs.length := by omega
 have e1 : (cs.drop f.offset).take (P.cellsOf f.type) = [cs[j]] := by
  rw [ho, h1, List.drop_eq_getElem_cons hjc]; rfl
 rw [e1, List.getElem?_eq_getElem (by omega)] at h2
 exact ⟨cs[j], n', _, List.getElem?_eq_getElem hjc, h2⟩
end
theorem RelVs_c {w : World} {x : AV} {v : Value} {as : List AV} {vs : List Value} (hr : RelV w noRho 0 x v) (h : RelVs w noRho 0 as vs) : RelVs w noRho 0 (x :: as) (v :: vs) := by
 simp only [RelVs]; exact ⟨v, vs, rfl, hr, h⟩
theorem of_O : ∀ c, CellsOK [.bool] c → ∃ x : Bool, c = encO x := by
 intro c h
 simp only [CellsOK, CellOK] at h
 obtain ⟨_, r0, rfl, ⟨n0, rfl⟩, h⟩ := h
 subst h
 exact ⟨n0, rfl⟩
theorem of_I : ∀ c, CellsOK [.int .i64] c → ∃ x : Int, c = encI x := by
 intro c h
 simp only [CellsOK, CellOK] at h
 obtain ⟨_, r0, rfl, ⟨n0, rfl, _⟩, h⟩ := h
 subst h
 exact ⟨n0, rfl⟩
end Go.Rf
set_option linter.unusedVariables false
set_option linter.unusedSectionVars false
set_option linter.unusedSimpArgs false
namespace Go.Rf
open Go Go.ChangeShapes Go.WideShapes Go.Deep Go.ChangeAt Go.RowKit
theorem of_Ro : ∀ c, CellsOK [.int .i64, .int .i64] c → ∃ x : Route, c = encRo x := by
 intro c h
 simp only [CellsOK, CellOK] at h
 obtain ⟨_, r0, rfl, ⟨n0, rfl, _⟩, _, r1, rfl, ⟨n1, rfl, _⟩, h⟩ := h
 subst h
 exact ⟨⟨n0, n1⟩, rfl⟩
theorem of_Wa : ∀ c, CellsOK [.int .i64, .int .i64] c → ∃ x : Wtr, c = encWa x := by
 intro c h
 simp only [CellsOK, CellOK] at h
 obtain ⟨_, r0, rfl, ⟨n0, rfl, _⟩, _, r1, rfl, ⟨n1, rfl, _⟩, h⟩ := h
 subst h
 exact ⟨⟨n0, n1⟩, rfl⟩
theorem of_Sl : ∀ c, CellsOK [.int .i64, .int .i64, .int .i64] c → ∃ x : Slot, c = encSl x := by
 intro c h
 simp only [CellsOK, CellOK] at h
 obtain ⟨_, r0, rfl, ⟨n0, rfl, _⟩, _, r1, rfl, ⟨n1, rfl, _⟩, _, r2, rfl, ⟨n2, rfl, _⟩, h⟩ := h
 subst h
 exact ⟨⟨n0, n1, n2⟩, rfl⟩
theorem list4 {α : Type} {l : List α} {a b c d : α} (h : l.length = 4) (h0 : l[0]? = some a) (h1 : l[1]? = some b) (h2 : l[2]? = some c) (h3 : l[3]? = some d) : l = [a, b, c, d] := by
 match l, h with
 | [a', b', c', d'], _ => simp at *; simp [*]
section
variable {H : Type} {enc : TypeId × Value → H} {P : Program} {w : World} {base : Nat} {spare : Nat → Bool} {held : Bool}
structure IfTy (P : Program) (t tI tQ tSl tWa eSl eWa : TypeId) (fI fQ fS fW : Array Field) : Prop where
 hs : P.underlying t = some (.struct fI)
 hf : fI.toList.map (fun f => (f.type, f.offset)) = [(3, 0), (tI, 1), (tQ, 2)]
 hC : P.cellsOf t = 4
 c3 : P.cellsOf 3 = 1
 cI : P.cellsOf tI = 1
 cQ : P.cellsOf tQ = 2
 hI : P.underlying tI = some (.slice 3)
 hQ : P.underlying tQ = some (.struct fQ)
 hoQ : oneCellFields P fQ = true
 hfQ : fQ.toList.map Field.type = [tSl, tWa]
 hSl : P.underlying tSl = some (.slice eSl)
 hWa : P.underlying tWa = some (.slice eWa)
 fi : (EK.one (.int .i64)).Fits P 3
 gS : (EK.str fS [.int .i64, .int .i64, .int .i64]).Fits P eSl
 gW : (EK.str fW [.int .i64, .int .i64]).Fits P eWa
 sS : fS.size = 3
 sW : fW.size = 2
theorem ifc_of_trod {t tI tQ tSl tWa eSl eWa : TypeId} {fI fQ fS fW : Array Field} (K : IfTy P t tI tQ tSl tWa eSl eWa fI fQ fS fW) {cs : List Value} {n : Nat} {x : DataW H × List MemPlace} (h : DataW.trod enc P w base spare held n t cs = some x) :
 ∃ (y : Ifc) (v1 v2 v3 : Value), cs = [.int .i64 y.ma, v1, v2, v3] ∧ (v1.oneCell' = true ∧ v2.oneCell' = true ∧ v3.oneCell' = true) ∧ ReadsAt w 1 (y.st.map encI) v1 ∧ ReadsAt w 3 (y.qu.sl.map encSl) v2 ∧ ReadsAt w 2 (y.qu.wa.map encWa) v3 ∧ BigI y := by
 obtain ⟨xs, n', _, _, hlen, hxl, hf⟩ := DataW.trod_struct K.hs h
 have h3 : fI.size = 3 := by have := congrArg List.length K.hf; simpa using this
 have hl4 : cs.length = 4 := by rw [hlen, K.hC]
 have hty : ∀ (j : Nat) (p : TypeId × Nat), [(3, 0), (tI, 1), (tQ, 2)][j]? = some p → ∃ y, DataW.trod enc P w base spare held n' p.1 ((cs.drop p.2).take (P.cellsOf p.1)) = some y := by
  intro j p hj
  rw [← K.hf, List.getElem?_map] at hj
  obtain ⟨f, hf1, rfl⟩ := Option.map_eq_some_iff.1 hj
  have hf1 : fI[j]? = some f := by simpa using hf1
  have hjl : j < fI.size := (Array.getElem?_eq_some_iff.1 hf1).1
  have h2 := hf j f hf1
  rw [List.getElem?_eq_getElem (by omega)] at h2
  exact ⟨_, h2⟩
 obtain ⟨y0, k0⟩ := hty 0 _ rfl
 obtain ⟨y1, k1⟩ := hty 1 _ rfl
 obtain ⟨y2, k2⟩ := hty 2 _ rfl
 match cs, hl4 with
 | [a, b, c, d], _ =>
  simp only [K.c3, K.cI, K.cQ, List.drop_zero, List.drop_succ_cons, List.take_succ_cons, List.take_zero] at k0 k1 k2
  obtain ⟨ma, hma⟩ := of_I _ (K.fi.trod k0)
  obtain ⟨v1, ys1, e1, o1, r1, b1, c1⟩ := row_of_trod K.hI K.fi (by decide) k1
  have hq2 : fQ.size = 2 := by have := congrArg List.length K.hfQ; simpa using this
  obtain ⟨_, hq⟩ := fields_of_trod K.hQ K.hoQ (by rw [K.cQ, hq2]) k2
  have htq : ∀ (j : Nat) (tj : TypeId), [tSl, tWa][j]? = some tj → ∃ (v : Value) (n : Nat) (y : DataW H × List MemPlace), [c, d][j]? = some v ∧ DataW.trod enc P w base spare held n tj [v] = some y := by
   intro j tj hj
   rw [← K.hfQ, List.getElem?_map] at hj
   obtain ⟨f, hf1, rfl⟩ := Option.map_eq_some_iff.1 hj
   exact hq j f (by simpa using hf1)
  obtain ⟨v2, n2, z2, g2, q2⟩ := htq 0 _ rfl
  obtain ⟨v3, n3, z3, g3, q3⟩ := htq 1 _ rfl
  obtain ⟨_, ys2, e2, o2, r2, b2, c2⟩ := row_of_trod K.hSl K.gS (by show fS.size ≠ 0; rw [K.sS]; decide) q2
  obtain ⟨_, ys3, e3, o3, r3, b3, c3⟩ := row_of_trod K.hWa K.gW (by show fW.size ≠ 0; rw [K.sW]; decide) q3
  cases e1; cases e2; cases e3
  simp at g2 g3
  subst g2; subst g3
  obtain ⟨x1, rfl⟩ := list_of of_I _ c1
  obtain ⟨x2, rfl⟩ := list_of of_Sl _ c2
  obtain ⟨x3, rfl⟩ := list_of of_Wa _ c3
  have r2 : ReadsAt w fS.size (x2.map encSl) c := r2
  have r3 : ReadsAt w fW.size (x3.map encWa) d := r3
  rw [K.sS] at r2
  rw [K.sW] at r3
  simp only [encI, List.cons.injEq, and_true] at hma
  refine ⟨⟨ma, x1, ⟨x2, x3⟩⟩, b, c, d, by rw [hma], ⟨o1, o2, o3⟩, r1, r2, r3, ?_⟩
  exact ⟨by simpa [maxLen] using b1, by simpa [maxLen] using b2, by simpa [maxLen] using b3⟩
theorem ifcs_of_trod (eS eW : TypeId) {t e tI tQ tSl tWa eSl eWa : TypeId} {fI fQ fS fW : Array Field} (ht : P.underlying t = some (.slice e)) (K : IfTy P e tI tQ tSl tWa eSl eWa fI fQ fS fW) {cs : List Value} {n : Nat} {x : DataW H × List MemPlace} (hf : DataW.trod enc P w base spare held n t cs = some x) :
 ∃ (v : Value) (xs : List Ifc), cs = [v] ∧ v.oneCell' = true ∧ NReadsAt w 4 (xs.map (encIf eS eW)) v ∧ xs.length ≤ maxLen ∧ ∀ y ∈ xs, BigI y := by
 rcases open_slice ht hf with ⟨hcs, _⟩ | ⟨a', len, cap, m, n, D, Pl, hcs, hb, hl, hm, hmm, hx, hi⟩
 ·exact ⟨_, [], hcs, rfl, ⟨none, 0, rfl, Nat.le_refl _, by simp, by simp⟩, by simp, by simp⟩
 ·have hlm : len ≤ m := by rw [hmm]; split <;> omega
  rw [K.hC] at hi
  have hx : ∀ i : Nat, ∃ y : Ifc, i < len → ∃ v1 v2 v3, (∀ k u, [Value.int .i64 y.ma, v1, v2, v3][k]? = some u → w.cell? (a'.add (i * 4 + k)) = some u) ∧ (v1.oneCell' = true ∧ v2.oneCell' = true ∧ v3.oneCell' = true) ∧ ReadsAt w 1 (y.st.map encI) v1 ∧ ReadsAt w 3 (y.qu.sl.map encSl) v2 ∧ ReadsAt w 2 (y.qu.wa.map encWa) v3 ∧ BigI y := by
   intro i
   by_cases hlt : i < len
   ·obtain ⟨cs', h1, h2⟩ := hi i (by omega)
    obtain ⟨y, v1, v2, v3, rfl, h3, h4, h5, h6, h7⟩ := ifc_of_trod K h2
    obtain ⟨_, h8, h9⟩ := World.cells?_some h1
    refine ⟨y, fun _ => ⟨v1, v2, v3, fun k u hk => ?_, h3, h4, h5, h6, h7⟩⟩
    have hk4 : k < 4 := by have := (List.getElem?_eq_some_iff.1 hk).1; simpa using this
    have := h9 k hk4
    rw [← hk, ← this, ← Go.Deep.add_add]
   ·exact ⟨⟨0, [], ⟨[], []⟩⟩, fun h => absurd h hlt⟩
  let f : Nat → Ifc := fun i => Classical.choose (hx i)
  have hfs : ∀ i, i < len → ∃ v1 v2 v3, (∀ k u, [Value.int .i64 (f i).ma, v1, v2, v3][k]? = some u → w.cell? (a'.add (i * 4 + k)) = some u) ∧ (v1.oneCell' = true ∧ v2.oneCell' = true ∧ v3.oneCell' = true) ∧ ReadsAt w 1 ((f i).st.map encI) v1 ∧ ReadsAt w 3 ((f i).qu.sl.map encSl) v2 ∧ ReadsAt w 2 ((f i).qu.wa.map encWa) v3 ∧ BigI (f i) := fun i => Classical.choose_spec (hx i)
  refine ⟨_, (List.range len).map f, hcs, rfl, ⟨some a', cap, by simp, by simp; omega, fun c hc => ?_, fun h0 => ⟨a', rfl, ?_, fun i k c hik => ?_⟩⟩, by simp; omega, fun y hy => ?_⟩
  ·simp only [List.mem_map] at hc; obtain ⟨_, _, rfl⟩ := hc; rfl
  ·have h0 : 0 < len := by simpa using h0
   obtain ⟨v1, v2, v3, h1, _⟩ := hfs 0 h0
   have := cell_block (h1 0 _ rfl)
   simpa [Addr.add] using this
  ·simp only [nget, List.getElem?_map, List.map_map] at hik
   rcases Nat.lt_or_ge i len with hlt | hge
   ·rw [List.getElem?_range hlt] at hik
    obtain ⟨v1, v2, v3, h1, ⟨o1, o2, o3⟩, r1, r2, r3, _⟩ := hfs i hlt
    match k with
    | 0 => simp [encIf] at hik; subst hik; exact ⟨_, h1 0 _ rfl, rfl, rfl⟩
    | 1 => simp [encIf] at hik; subst hik; exact ⟨_, h1 1 _ rfl, o1, r1⟩
    | 2 => simp [encIf] at hik; subst hik; exact ⟨_, h1 2 _ rfl, o2, r2⟩
    | 3 => simp [encIf] at hik; subst hik; exact ⟨_, h1 3 _ rfl, o3, r3⟩
    | k + 4 => simp [encIf] at hik
   ·rw [List.getElem?_eq_none (by simpa using hge)] at hik
    cases hik
  ·simp only [List.mem_map, List.mem_range] at hy
   obtain ⟨i, hi, rfl⟩ := hy
   obtain ⟨_, _, _, _, _, _, _, _, h⟩ := hfs i hi
   exact h
theorem reads_mach (eS eW : TypeId) {b0 : Nat} {r : Reach} {t tR tB tC eR eB tIf tI tQ tSl tWa eSl eWa : TypeId} {fs fR fI fQ fS fW : Array Field} {v : Value} {d : DataW H} {p : List MemPlace}
 (hs : P.underlying t = some (.struct fs)) (hone : oneCellFields P fs = true) (hC : P.cellsOf t = fs.size) (hfs : fs.toList.map Field.type = [tR, tB, tB, tC])
 (hR : P.underlying tR = some (.slice eR)) (hB : P.underlying tB = some (.slice eB)) (hCp : P.underlying tC = some (.slice tIf))
 (fB : (EK.one .bool).Fits P eB) (fRo : (EK.str fR [.int .i64, .int .i64]).Fits P eR) (sR : fR.size = 2) (K : IfTy P tIf tI tQ tSl tWa eSl eWa fI fQ fS fW)
 (hv : Value.okWide P w r b0 t v) (h : DataW.Trod enc P w base spare held t v d p) :
 ∃ m : Mach, RelV w noRho 0 (.agg [.lst 2 (m.rs.map encRo), .lst 1 (m.en.map encO), .lst 1 (m.ra.map encO), .nst none 4 (m.cp.map (encIf eS eW))]) v ∧ BigM m := by
 obtain ⟨⟨l⟩, rfl, hsz⟩ := okWide_struct hs hv
 obtain ⟨fuel, hf⟩ := h
 obtain ⟨hl, hf⟩ := fields_of_trod (cs := l) hs hone hC (by simpa [Value.cells] using hf)
 have h4 : fs.size = 4 := by have := congrArg List.length hfs; simpa using this
 have hty : ∀ (j : Nat) (tj : TypeId), [tR, tB, tB, tC][j]? = some tj → ∃ (v : Value) (n : Nat) (y : DataW H × List MemPlace), l[j]? = some v ∧ DataW.trod enc P w base spare held n tj [v] = some y := by
  intro j tj hj
  rw [← hfs, List.getElem?_map] at hj
  obtain ⟨f, hf1, rfl⟩ := Option.map_eq_some_iff.1 hj
  exact hf j f (by simpa using hf1)
 obtain ⟨v0, n0, y0, g0, k0⟩ := hty 0 _ rfl
 obtain ⟨v1, n1, y1, g1, k1⟩ := hty 1 _ rfl
 obtain ⟨v2, n2, y2, g2, k2⟩ := hty 2 _ rfl
 obtain ⟨v3, n3, y3, g3, k3⟩ := hty 3 _ rfl
 obtain rfl := list4 (by omega) g0 g1 g2 g3
 obtain ⟨_, ys0, e0, _, r0, b0, o0⟩ := row_of_trod hR fRo (by show fR.size ≠ 0; rw [sR]; decide) k0
 obtain ⟨_, ys1, e1, _, r1, b1, o1⟩ := row_of_trod hB fB (by decide) k1
 obtain ⟨_, ys2, e2, _, r2, b2, o2⟩ := row_of_trod hB fB (by decide) k2
 obtain ⟨_, xs3, e3, _, r3, b3, o3⟩ := ifcs_of_trod eS eW hCp K k3
 cases e0; cases e1; cases e2; cases e3
 obtain ⟨x0, rfl⟩ := list_of of_Ro _ o0
 obtain ⟨x1, rfl⟩ := list_of of_O _ o1
 obtain ⟨x2, rfl⟩ := list_of of_O _ o2
 have r0 : ReadsAt w fR.size (x0.map encRo) v0 := r0
 rw [sR] at r0
 refine ⟨⟨x0, x1, x2, xs3⟩, ?_, ?_⟩
 ·simp only [RelV, RelVs]
  exact ⟨_, rfl, _, _, rfl, r0, _, _, rfl, r1, _, _, rfl, r2, _, _, rfl, ⟨by simp, r3⟩, rfl⟩
 ·exact ⟨by simpa [maxLen] using b0, by simpa [maxLen] using b1, by simpa [maxLen] using b2, by simpa [maxLen] using b3, fun i hi => by
   have hi : i < xs3.length := hi
   show BigI (xs3.getD i default)
   rw [List.getD_eq_getElem?_getD, List.getElem?_eq_getElem hi]
   exact o3 _ (List.getElem_mem hi)⟩
end
end Go.Rf
set_option linter.unusedVariables false
namespace Go.Rf
theorem rfb :
 ((∀ (p : Prop) [Decidable p], (decide p = true) = p) ∧ (∀ (p : Prop) [Decidable p], (decide p = false) ↔ ¬p) ∧
 (∀ {α : Type} [BEq α] [LawfulBEq α] {a b : α}, a == b ↔ a = b) ∧ (∀ {α : Type} [BEq α] [LawfulBEq α] {a b : α}, a != b ↔ a ≠ b) ∧ (∀ {α : Type} (a b : α), (a ≠ b) = ¬(a = b))) ∧
 ((∀ b : Bool, ((!b) = true) = (b = false)) ∧ (∀ b : Bool, ((!b) = false) = (b = true)) ∧
 (∀ {α : Type} [BEq α] [LawfulBEq α] {a b : α}, (a == b) = false ↔ a ≠ b) ∧ (∀ {α : Type} [BEq α] [LawfulBEq α] {a b : α}, (a != b) = false ↔ a = b) ∧
 (∀ b : Bool, (¬(b = true)) = (b = false)) ∧ (∀ b : Bool, (¬(b = false)) = (b = true))) ∧
 ((∀ {a b : Int}, ¬(a < b) ↔ b ≤ a) ∧ (∀ {a b : Int}, ¬(a ≤ b) ↔ b < a) ∧ (∀ {a b : Int}, a > b ↔ b < a) ∧ (∀ {a b : Int}, a ≥ b ↔ b ≤ a)) ∧
 ((∀ a b : Bool, ((a && b) = true) = (a = true ∧ b = true)) ∧ (∀ {a b : Bool}, (a && b) = false ↔ a = false ∨ b = false) ∧ (∀ a b : Bool, ((a || b) = true) = (a = true ∨ b = true)) ∧ (∀ {a b : Bool}, (a || b) = false ↔ a = false ∧ b = false)) :=
 ⟨⟨fun p _ => decide_eq_true_eq, fun p _ => decide_eq_false_iff_not, beq_iff_eq, bne_iff_ne, fun a b => ne_eq a b⟩, ⟨Bool.not_eq_true', Bool.not_eq_false', beq_eq_false_iff_ne, bne_eq_false_iff_eq, Bool.not_eq_true, Bool.not_eq_false⟩, ⟨Int.not_lt, Int.not_le, gt_iff_lt, ge_iff_le⟩, ⟨Bool.and_eq_true, Bool.and_eq_false_iff, Bool.or_eq_true, Bool.or_eq_false_iff⟩⟩
end Go.Rf
