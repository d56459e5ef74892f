/- Texts merged into one: RfXH, RfXI, RfXJ, RfXK, RfZ. -/
import Derived.Test.YtcnodpipinlpcaaLibC
import Derived.Lib.Atoi
import Derived.Lib.AtoiBound
import Derived.WideLaws
import Derived.Lib.SplitLaws
import Derived.Lib.CountLaws
/- The text of a number: both readers give the number back. -/
set_option linter.unusedVariables false
set_option linter.unusedSimpArgs false
namespace Go.Rf
open Go Go.RowKit
theorem byteN_app {a b : ByteArray} {j : Nat} : byteN (a ++ b) j = if j < a.size then byteN a j else byteN b (j - a.size) := by
  have hs : a.data.toList.length = a.size := rfl
  simp only [byteN, ByteArray.data_append, Array.toList_append, List.getD_eq_getElem?_getD, List.getElem?_append, hs]
  split <;> rfl
theorem dV_app {a b : ByteArray} : ∀ i, i ≤ a.size → dV (a ++ b) i = dV a i
  | 0, _ => rfl
  | i + 1, h => by
    simp only [dV]
    rw [dV_app i (by omega), byteN_app, if_pos (by omega)]
theorem byteN_dig {d : Nat} (h : d < 10) : byteN ⟨#[UInt8.ofNat (48 + d)]⟩ 0 = 48 + d := by
  rcases d with _ | _ | _ | _ | _ | _ | _ | _ | _ | _ | d <;> first | rfl | omega
theorem one_size {u : UInt8} : (⟨#[u]⟩ : ByteArray).size = 1 := rfl
theorem num_digits : ∀ n : Nat, 1 ≤ (numT n).size ∧ (∀ j, j < (numT n).size → digN (numT n) j = true) ∧ dV (numT n) (numT n).size = n ∧ ∀ k, n < 10 ^ (k + 1) → (numT n).size ≤ k + 1 := by
  intro n
  induction n using Nat.strongRecOn with
  | _ n ih =>
    rcases Nat.lt_or_ge n 10 with h | h
    · rw [numT_small h]
      have hb := byteN_dig h
      refine ⟨Nat.le_refl _, fun j hj => ?_, ?_, fun k _ => by rw [one_size]; omega⟩
      · rw [one_size] at hj
        obtain rfl : j = 0 := by omega
        simp only [digN, hb, Bool.and_eq_true, decide_eq_true_eq]
        omega
      · rw [one_size]
        simp only [dV, hb]
        omega
    · obtain ⟨h1, h2, h3, h4⟩ := ih (n / 10) (by omega)
      rw [numT_step h]
      have hd : n % 10 < 10 := Nat.mod_lt _ (by decide)
      have hb := byteN_dig hd
      have hsz : (numT ((n / 10 : Nat) : Int) ++ (⟨#[UInt8.ofNat (48 + n % 10)]⟩ : ByteArray)).size = (numT ((n / 10 : Nat) : Int)).size + 1 := by rw [ByteArray.size_append, one_size]
      rw [hsz]
      refine ⟨by omega, fun j hj => ?_, ?_, fun k hk => ?_⟩
      · rcases Nat.lt_or_ge j (numT ((n / 10 : Nat) : Int)).size with h5 | h5
        · have := h2 j h5
          simp only [digN, byteN_app, if_pos h5] at this ⊢
          exact this
        · have e : j - (numT ((n / 10 : Nat) : Int)).size = 0 := by omega
          simp only [digN, byteN_app, if_neg (show ¬ j < (numT ((n / 10 : Nat) : Int)).size by omega), e, hb, Bool.and_eq_true, decide_eq_true_eq]
          omega
      · simp only [dV]
        rw [dV_app _ (Nat.le_refl _), h3, byteN_app, if_neg (Nat.lt_irrefl _), Nat.sub_self, hb]
        omega
      · cases k with
        | zero => simp at hk; omega
        | succ k =>
          have := h4 k (by rw [Nat.pow_succ] at hk; omega)
          omega
theorem num_bod {n : Int} (h0 : -999999 ≤ n) (h1 : n ≤ 999999) : negT (numT n) = decide (n < 0) ∧ bodT (numT n) = numT (n.natAbs : Int) := by
  rcases Int.lt_or_le n 0 with h | h
  · obtain ⟨k, rfl⟩ : ∃ k : Nat, n = -(k : Int) := ⟨n.natAbs, by omega⟩
    obtain ⟨g1, g2, g3, g4⟩ := num_digits k
    have e : numT (-(k : Int)) = (⟨#[45]⟩ : ByteArray) ++ numT (k : Int) := by rw [numT_neg h, Int.neg_neg]
    have hn : negT (numT (-(k : Int))) = true := by
      rw [e]
      simp only [negT, byteN_app, ByteArray.size_append, one_size, Bool.and_eq_true, decide_eq_true_eq, beq_iff_eq]
      exact ⟨by omega, rfl⟩
    refine ⟨by rw [hn, decide_eq_true h], ?_⟩
    rw [bodT, if_pos hn, e]
    have e2 := ext_app_r (a := (⟨#[45]⟩ : ByteArray)) (b := numT (k : Int))
    rw [one_size] at e2
    rw [e2]
    congr 1
    omega
  · obtain ⟨k, rfl⟩ : ∃ k : Nat, n = (k : Int) := ⟨n.natAbs, by omega⟩
    obtain ⟨g1, g2, g3, g4⟩ := num_digits k
    have hn : negT (numT (k : Int)) = false := by
      have := g2 0 (by omega)
      simp only [digN, Bool.and_eq_true, decide_eq_true_eq] at this
      simp only [negT, Bool.and_eq_false_iff, beq_eq_false_iff_ne, ne_eq]
      right; omega
    refine ⟨by rw [hn, decide_eq_false (by omega)], ?_⟩
    rw [bodT, hn]
    rfl
theorem nm_num {n : Int} (h0 : -999999 ≤ n) (h1 : n ≤ 999999) : nmK (numT n) = true ∧ nmN (numT n) = n := by
  obtain ⟨e1, e2⟩ := num_bod h0 h1
  obtain ⟨g1, g2, g3, g4⟩ := num_digits n.natAbs
  have hs : (numT (n.natAbs : Int)).size ≤ 6 := g4 5 (by have : (10 : Nat) ^ (5 + 1) = 1000000 := rfl; omega)
  have hv : nV (numT n) = n := by
    rw [nV, e1, e2, g3]
    by_cases h : n < 0
    · simp [h]; omega
    · simp [h]; omega
  have hk : nmK (numT n) = true := by
    rw [nmK, nmA, e2, hv]
    simp only [Bool.and_eq_true, beq_self_eq_true, and_true]
    refine ⟨by simp only [inside, Bool.and_eq_true, decide_eq_true_eq]; omega, allN_iff.mpr g2⟩
  exact ⟨hk, by rw [nmN, if_pos hk, hv]⟩
theorem nm_range {s : ByteArray} (h : nmK s = true) : numT (nmN s) = s ∧ -999999 ≤ nmN s ∧ nmN s ≤ 999999 := by
  have h0 := h
  rw [nmK, Bool.and_eq_true] at h0
  have h1 := h0.1
  rw [nmA, Bool.and_eq_true] at h1
  have h2 := h1.1
  simp only [inside, Bool.and_eq_true, decide_eq_true_eq] at h2
  have h3 := dV_le (t := bodT s) (i := (bodT s).size) (fun j hj => allN_iff.mp h1.2 j hj)
  have h4 := h3.2.1 (by omega)
  rw [(nm_t h).1]
  refine ⟨toList_inj' (by simpa using h0.2), ?_, ?_⟩ <;> (unfold nV; split <;> omega)
theorem decFrom_snoc {b : UInt8} : ∀ {l : List UInt8} {acc : Nat}, Lib.decFrom acc (l ++ [b]) = (Lib.decFrom acc l).bind (fun m => (Lib.digitVal b).map (fun d => m * 10 + d))
  | [], acc => by
    simp only [List.nil_append, Lib.decFrom]
    cases Lib.digitVal b <;> rfl
  | x :: r, acc => by
    simp only [List.cons_append, Lib.decFrom]
    cases Lib.digitVal x with
    | none => rfl
    | some d => exact decFrom_snoc
theorem digitVal_of {d : Nat} (h : d < 10) : Lib.digitVal (UInt8.ofNat (48 + d)) = some d := by
  rcases d with _ | _ | _ | _ | _ | _ | _ | _ | _ | _ | d <;> first | rfl | omega
theorem dec_digits : ∀ n : Nat, Lib.decFrom 0 (Lib.decDigits n) = some n ∧ Lib.decDigits n ≠ [] ∧ ∃ d, d < 10 ∧ (Lib.decDigits n)[0]? = some (UInt8.ofNat (48 + d)) := by
  intro n
  induction n using Nat.strongRecOn with
  | _ n ih =>
    rw [Lib.decDigits]
    split
    · rename_i h
      exact ⟨by simp only [Lib.decFrom]; rw [digitVal_of h]; simp, by simp, n, h, rfl⟩
    · rename_i h
      obtain ⟨h1, h2, d, h3, h4⟩ := ih (n / 10) (by omega)
      refine ⟨?_, by simp, d, h3, ?_⟩
      · rw [decFrom_snoc, h1, digitVal_of (Nat.mod_lt _ (by decide))]
        simp only [Option.bind_some, Option.map_some]
        congr 1
        omega
      · cases hq : Lib.decDigits (n / 10) with
        | nil => exact absurd hq h2
        | cons x r => rw [hq] at h4; simpa using h4
theorem atoi_num {n : Int} : Lib.atoi (numT n).data.toList = some n := by
  have e : (numT n).data.toList = Lib.itoa n := by simp [numT]
  rw [e, Lib.itoa]
  split
  · rename_i h
    obtain ⟨h1, h2, _⟩ := dec_digits n.natAbs
    simp only [Lib.atoi, beq_self_eq_true, if_true, Lib.decNat]
    rw [if_neg (by simpa using h2), h1]
    simp only [Option.map_some]
    congr 1
    omega
  · rename_i h
    obtain ⟨h1, h2, d, h3, h4⟩ := dec_digits n.toNat
    cases hq : Lib.decDigits n.toNat with
    | nil => exact absurd hq h2
    | cons x r =>
      rw [hq] at h1 h4
      have hx : x = UInt8.ofNat (48 + d) := by simpa using h4
      have hx1 : (x == 45) = false := by
        subst hx
        rcases d with _ | _ | _ | _ | _ | _ | _ | _ | _ | _ | d <;> first | rfl | omega
      have hx2 : (x == 43) = false := by
        subst hx
        rcases d with _ | _ | _ | _ | _ | _ | _ | _ | _ | _ | d <;> first | rfl | omega
      simp only [Lib.atoi, hx1, hx2, Bool.false_eq_true, if_false, Lib.decNat, List.isEmpty_cons, h1, Option.map_some]
      congr 1
      omega
/-- what the program's reader answers, of what the library's gives -/
def piOK (s : ByteArray) : Bool := match Lib.atoi s.data.toList with | none => false | some n => inside n (-999999) 999999 && (numT n).toList == s.toList
theorem pi_iff {s : ByteArray} (h : s.size ≤ 7) : piOK s = nmK s ∧ (piOK s = true → (Lib.atoi s.data.toList).getD 0 = nmN s) := by
  cases hk : nmK s with
  | true =>
    obtain ⟨h1, h2, h3⟩ := nm_range hk
    have ha : Lib.atoi s.data.toList = some (nmN s) := by
      have := atoi_num (n := nmN s)
      rwa [h1] at this
    refine ⟨?_, fun _ => by rw [ha]; rfl⟩
    simp only [piOK, ha, h1, beq_self_eq_true, Bool.and_true, inside, Bool.and_eq_true, decide_eq_true_eq]
    exact ⟨h2, h3⟩
  | false =>
    have hp : piOK s = false := by
      cases hq : piOK s with
      | false => rfl
      | true =>
        unfold piOK at hq
        cases ha : Lib.atoi s.data.toList with
        | none => rw [ha] at hq; cases hq
        | some n =>
          rw [ha] at hq
          simp only [inside, Bool.and_eq_true, decide_eq_true_eq, beq_iff_eq] at hq
          have e : numT n = s := toList_inj' hq.2
          have := (nm_num (n := n) (by omega) (by omega)).1
          rw [e, hk] at this
          cases this
    exact ⟨hp, fun h => by rw [hp] at h; cases h⟩
theorem nm_long {s : ByteArray} (h : 7 < s.size) : nmK s = false ∧ nmN s = 0 := by
  have hb : 7 ≤ (bodT s).size := by
    unfold bodT
    split
    · rw [ByteArray.size_extract]; omega
    · omega
  have hk : nmK s = false := nm_f1 (by simp only [inside, Bool.and_eq_false_iff, decide_eq_false_iff_not]; omega)
  exact ⟨hk, (nm_f hk).1⟩
end Go.Rf

/- Contracts of the library's that do not tell all; an error against nil; the program's reader of numbers. -/
set_option linter.unusedVariables false
set_option linter.unusedSectionVars false
set_option linter.unusedSimpArgs false
namespace Go.Rf
open Go Go.RowKit
def nnB : Value → Bool
  | .nilIface => false
  | _ => true
def errOK (e : Value) : Prop := e = .nilIface ∨ ∃ t p, e = .iface t (.pointer p)
theorem renAs_v {ids : List Nat} : ∀ {xs : List Value}, renAs ids (xs.map AV.v) = xs.map AV.v
  | [] => rfl
  | x :: r => by simp [renAs, renA, renAs_v (xs := r)]
section
variable {P : Program} [Env P] {w0 : Base} {ops : Array Oper} {o : Oper} {T : List (Nat × AV)} {m : List (Nat × Option Row)} {nx nt d : Nat}
theorem q_nn {x : Operand} {t t' : TypeId} {e : Value} (hu : P.underlying t = some (.interface (P.methodsAt t))) (ho : o.op = .binOp .neq t x (.const .nilIface) t') (hx : ev T x = some (.v e)) (he : errOK e) : QStep P o T m nx nt (.v (.bool (nnB e))) :=
  QStep.val fun w0 ρ ac hT w' => by
    have h1 := hT.ev hx
    simp only [RelV] at h1
    have h2 : ac.eval (.const .nilIface) = .nilIface := rfl
    rcases he with rfl | ⟨te, pe, rfl⟩
    · simp [execOp, ho, h1, h2, eqGuard, run_neq_nil_nil w' t hu, nnB]
    · simp [execOp, ho, h1, h2, eqGuard, run_neq_held_nil w' t te _ hu, nnB]
theorem CtrX.lib {α : Type} {R : α → Prop} {f : FuncId} {xs : List Value} {A B : α → Value} (hc : Callable P f)
    (h : ∀ w, Env.E P w → Calls P f xs.toArray w fun e w' => ∃ x, R x ∧ e = .returned (.tuple #[A x, B x]) ∧ Below w.heap.size w w') : CtrX P f (xs.map .v) [] R (fun x => .many [.v (A x), .v (B x)]) (fun _ => []) := by
  refine ⟨hc, fun w0 hw ρ m nx ids w vs hin _ hC hv => ?_⟩
  have hid : ids = [] := List.eq_nil_of_length_eq_zero (by simpa using hin.len)
  subst hid
  rw [renAs_v] at hv
  rw [RelVs.map_v_eq (w0 := w0.w) xs hv]
  refine (h w (hC.env P)).mono fun e w' ⟨x, hx, he, hb⟩ => ?_
  refine ⟨x, hx, _, ρ, he, fun _ _ => rfl, Nat.le_refl _, ?_, hC.trans hb⟩
  show RelV w0.w ρ nx (.tup [.v (A x), .v (B x)]) _
  simp [RelV, RelVs]
end
theorem atoi_bd {s : ByteArray} (h : s.size ≤ 7) : -1000000000000000000 < (Lib.atoi s.data.toList).getD 0 ∧ (Lib.atoi s.data.toList).getD 0 < 1000000000000000000 := by
  cases ha : Lib.atoi s.data.toList with
  | none => simp
  | some n => exact Lib.atoi_bound ha (by show s.size ≤ 18; omega)
theorem nm_long2 {s : ByteArray} (h : 7 < s.size) : nmN s = 0 ∧ nmK s = false := ⟨(nm_long h).2, (nm_long h).1⟩
theorem pi_none {s : ByteArray} (h : s.size ≤ 7) (ha : (Lib.atoi s.data.toList).isNone = true) : nmN s = 0 ∧ nmK s = false := by
  have h1 : piOK s = false := by unfold piOK; rw [Option.isNone_iff_eq_none.mp ha]
  have := (pi_iff h).1
  rw [h1] at this
  exact ⟨(nm_f this.symm).1, this.symm⟩
theorem pi_out {s : ByteArray} (h : s.size ≤ 7) (hi : inside ((Lib.atoi s.data.toList).getD 0) (-999999) 999999 = false) : nmN s = 0 ∧ nmK s = false := by
  have h1 : piOK s = false := by
    unfold piOK
    cases ha : Lib.atoi s.data.toList with
    | none => rfl
    | some n => rw [ha] at hi; simp only [Option.getD_some] at hi; show (inside n (-999999) 999999 && _) = false; rw [hi]; rfl
  have := (pi_iff h).1
  rw [h1] at this
  exact ⟨(nm_f this.symm).1, this.symm⟩
theorem pi_ne {s : ByteArray} (h : s.size ≤ 7) (ha : (Lib.atoi s.data.toList).isNone = false) (hi : ¬ (numT ((Lib.atoi s.data.toList).getD 0)).toList = s.toList) : nmN s = 0 ∧ nmK s = false := by
  have h1 : piOK s = false := by
    unfold piOK
    cases ha : Lib.atoi s.data.toList with
    | none => rfl
    | some n => rw [ha] at hi; simp only [Option.getD_some] at hi; simp [hi]
  have := (pi_iff h).1
  rw [h1] at this
  exact ⟨(nm_f this.symm).1, this.symm⟩
theorem pi_yes {s : ByteArray} (h : s.size ≤ 7) (ha : (Lib.atoi s.data.toList).isNone = false) (hi : inside ((Lib.atoi s.data.toList).getD 0) (-999999) 999999 = true) (he : (numT ((Lib.atoi s.data.toList).getD 0)).toList = s.toList) : nmN s = (Lib.atoi s.data.toList).getD 0 ∧ nmK s = true := by
  have h1 : piOK s = true := by
    unfold piOK
    cases hq : Lib.atoi s.data.toList with
    | none => rw [hq] at ha; cases ha
    | some n => rw [hq] at hi he; simp only [Option.getD_some] at hi he; simp [hi, he]
  obtain ⟨h2, h3⟩ := pi_iff h
  exact ⟨(h3 h1).symm, h2 ▸ h1⟩
theorem bod_lt {s : ByteArray} : (bodT s).size < s.size ↔ negT s = true := by
  unfold bodT
  split
  · rename_i h
    have h2 := h
    simp only [negT, Bool.and_eq_true, decide_eq_true_eq] at h2
    rw [ByteArray.size_extract]
    exact ⟨fun _ => h, fun _ => by omega⟩
  · rename_i h
    exact ⟨fun g => absurd g (Nat.lt_irrefl _), fun g => absurd g h⟩
theorem bod_le {s : ByteArray} : (bodT s).size ≤ s.size := by
  unfold bodT
  split
  · rw [ByteArray.size_extract]; omega
  · exact Nat.le_refl _
theorem bod_t {s : ByteArray} (h1 : 1 < s.size) (h2 : byteN s 0 = 45) : s.extract 1 s.size = bodT s := by
  rw [bodT, if_pos (by simp [negT, h1, h2])]
theorem bod_f {s : ByteArray} (h : ¬ (1 < s.size ∧ byteN s 0 = 45)) : s = bodT s := by
  rw [bodT, if_neg]
  intro g
  simp only [negT, Bool.and_eq_true, decide_eq_true_eq, beq_iff_eq] at g
  exact h g
theorem nV_n {s : ByteArray} (h : (bodT s).size < s.size) : nV s = -(dV (bodT s) (bodT s).size) := by rw [nV, if_pos (bod_lt.mp h)]
theorem nV_p {s : ByteArray} (h : ¬ (bodT s).size < s.size) : nV s = dV (bodT s) (bodT s).size := by rw [nV, if_neg (fun g => h (bod_lt.mpr g))]
theorem rd_1 {s : ByteArray} (h : inside (bodT s).size 1 6 = false) : nmN s = 0 ∧ nmK s = false := nm_f (nm_f1 h)
theorem rd_2 {s : ByteArray} {i : Nat} (hi : i < (bodT s).size) (h : digN (bodT s) i = false) : nmN s = 0 ∧ nmK s = false := nm_f (nm_f2 hi h)
theorem rd_3 {s : ByteArray} {n : Int} (e : nV s = n) (h : ¬ (numT n).toList = s.toList) : nmN s = 0 ∧ nmK s = false := nm_f (by rw [nmK, e]; simp [h])
theorem rd_4 {s : ByteArray} {n : Int} {i : Nat} (h1 : inside (bodT s).size 1 6 = true) (hi : (bodT s).size ≤ i) (h2 : ∀ j, j < i → digN (bodT s) j = true) (e : nV s = n) (h : (numT n).toList = s.toList) : nmN s = n ∧ nmK s = true := by
  have hk : nmK s = true := by
    rw [nmK, nmA, h1, e]
    have h3 : allN (bodT s).size (digN (bodT s)) = true := allN_iff.mpr (fun j hj => h2 j (by omega))
    simp [h, h3]
  exact ⟨(nm_t hk).1.trans e, hk⟩
theorem dv_step {t : ByteArray} {i : Nat} (h1 : 48 ≤ byteN t i) (h2 : byteN t i ≤ 57) (h3 : 0 ≤ dV t i) (h4 : dV t i ≤ 999999) : IntKind.i64.wrap (10 * dV t i + IntKind.i64.wrap (IntKind.u8.wrap (byteN t i - 48))) = dV t (i + 1) := by
  have e1 : IntKind.u8.wrap (byteN t i - 48) = byteN t i - 48 := by
    show Int.emod _ 256 = _
    exact Int.emod_eq_of_lt (by omega) (by omega)
  have e2 : IntKind.i64.wrap (byteN t i - 48) = byteN t i - 48 := wrap_in (by omega) (by omega)
  rw [e1, e2, wrap_in (by omega) (by omega)]
  rfl
theorem size_pos {t : ByteArray} (h : ¬ t.toList = (⟨#[]⟩ : ByteArray).toList) : 0 < t.size := by
  rcases Nat.eq_zero_or_pos t.size with h0 | h0
  · exfalso
    apply h
    have e : t = ⟨#[]⟩ := by
      apply ba_ext
      have : t.data.toList.length = 0 := h0
      rw [List.eq_nil_of_length_eq_zero this]
    rw [e]
  · exact h0
end Go.Rf

/- Pieces of a text: the library's split and ours are one. -/
set_option linter.unusedVariables false
set_option linter.unusedSimpArgs false
namespace Go.Rf
open Go Go.RowKit
theorem idx_lib {s : ByteArray} {c : UInt8} : Lib.indexB s ⟨#[c]⟩ = if standsB s c.toNat then (fIdx s c.toNat : Int) else -1 := by
  have h1 : (⟨#[c]⟩ : ByteArray).data.toList = [c] := rfl
  show Lib.index s.data.toList (⟨#[c]⟩ : ByteArray).data.toList = _
  rw [h1, Lib.index_one]
  have hst := stands_index (s := s) (c := c)
  have hge := Lib.indexByte_ge s.data.toList c
  cases h : standsB s c.toNat
  · rw [h] at hst
    have hn : ¬ 0 ≤ Lib.indexByte s.data.toList c := by simpa using hst
    rw [if_neg (by simp)]
    omega
  · rw [h] at hst
    have hn : 0 ≤ Lib.indexByte s.data.toList c := by simpa using hst
    obtain ⟨o, ho⟩ : ∃ o : Nat, Lib.indexByte s.data.toList c = o := ⟨(Lib.indexByte s.data.toList c).toNat, by omega⟩
    obtain ⟨g1, g2⟩ := Lib.indexByte_some ho
    have hlt : o < s.data.toList.length := by
      rcases Nat.lt_or_ge o s.data.toList.length with h' | h'
      · exact h'
      · rw [List.getElem?_eq_none h'] at g1; cases g1
    have hi : fIdx s c.toNat = o := by
      refine fIdx_some (fun j hj => ?_) (by rw [← size_list]; exact hlt) ?_
      · have g3 := g2 j hj
        have hjl : j < s.data.toList.length := by omega
        rw [List.getElem?_eq_getElem hjl] at g3
        rw [byteN_list, List.getD_eq_getElem?_getD, List.getElem?_eq_getElem hjl]
        simp only [Option.getD_some, beq_eq_false_iff_ne, ne_eq]
        intro e
        exact g3 (congrArg some (Lib.byte_eq_of_toNat e))
      · rw [byteN_list, List.getD_eq_getElem?_getD, g1]; rfl
    rw [if_pos rfl, ho, hi]
theorem ext_all {s : ByteArray} : s.extract 0 s.size = s := by
  apply ba_ext
  rw [ext_list, List.drop_zero, Nat.sub_zero, List.take_of_length_le (by rw [size_list]; exact Nat.le_refl _)]
theorem splitL_f {s : ByteArray} {b : Int} (h : standsB s b = false) : splitL s b = [s] := by
  have hp : spO s b s.size = ([], 0) := spO_pre (fun j hj => by
    cases hq : (byteN s j == b) with
    | false => rfl
    | true => rw [standsB, anyN_t (f := fun i => byteN s i == b) hq hj] at h; cases h)
  rw [splitL, hp, ext_all]
  rfl
theorem ext_ext {s : ByteArray} {k i j : Nat} (hj : k + j ≤ s.size) : (s.extract k s.size).extract i j = s.extract (k + i) (k + j) := by
  apply ba_ext
  rw [ext_list, ext_list, ext_list]
  rw [List.drop_take, List.take_take, List.drop_drop]
  congr 1
  omega
theorem spO_from {s : ByteArray} {b : Int} (h : standsB s b = true) : ∀ i, fIdx s b + 1 + i ≤ s.size → spO s b (fIdx s b + 1 + i) = (firstB s b :: (spO (afterB s b) b i).1, fIdx s b + 1 + (spO (afterB s b) b i).2) := by
  obtain ⟨h1, h2, h3⟩ := fIdx_stands h
  have ha : afterB s b = s.extract (fIdx s b + 1) s.size := by rw [afterB, if_pos h]
  intro i
  induction i with
  | zero =>
    intro _
    rw [Nat.add_zero, spO_t h2, spO_pre h3]
    rfl
  | succ i ih =>
    intro hi
    have h4 := ih (by omega)
    have hb : byteN (afterB s b) i = byteN s (fIdx s b + 1 + i) := by rw [ha, byteN_ext (by omega)]
    rw [← Nat.add_assoc]
    have hle := (spO_le (s := afterB s b) (b := b) (i := i)).1
    by_cases hq : byteN s (fIdx s b + 1 + i) = b
    · rw [spO_t hq, spO_t (by rw [hb]; exact hq), h4]
      simp only [List.cons_append, Prod.mk.injEq, List.cons.injEq, true_and]
      refine ⟨?_, by omega⟩
      rw [ha, ext_ext (by omega)]
    · rw [spO_f hq, spO_f (by rw [hb]; exact hq), h4]
theorem splitL_t {s : ByteArray} {b : Int} (h : standsB s b = true) : splitL s b = firstB s b :: splitL (afterB s b) b := by
  obtain ⟨h1, h2, h3⟩ := fIdx_stands h
  have ha : afterB s b = s.extract (fIdx s b + 1) s.size := by rw [afterB, if_pos h]
  have hs : (afterB s b).size = s.size - (fIdx s b + 1) := by rw [ha, size_ext (Nat.le_refl _)]
  have h4 := spO_from h (afterB s b).size (by omega)
  have e : fIdx s b + 1 + (afterB s b).size = s.size := by omega
  have hle := (spO_le (s := afterB s b) (b := b) (i := (afterB s b).size)).1
  have h5 := ext_ext (s := s) (k := fIdx s b + 1) (i := (spO (afterB s b) b (afterB s b).size).2) (j := (afterB s b).size) (by omega)
  rw [e] at h4
  rw [e, ← ha] at h5
  have e1 : splitL s b = (spO s b s.size).1 ++ [s.extract (spO s b s.size).2 s.size] := rfl
  have e2 : splitL (afterB s b) b = (spO (afterB s b) b (afterB s b).size).1 ++ [(afterB s b).extract (spO (afterB s b) b (afterB s b).size).2 (afterB s b).size] := rfl
  rw [e1, e2, h4, h5]
  rfl
theorem splitL_app {a z : ByteArray} {u : UInt8} (h : standsB a u.toNat = false) : splitL (a ++ ⟨#[u]⟩ ++ z) u.toNat = a :: splitL z u.toNat := by
  obtain ⟨h1, h2⟩ := app_fIdx (z := z) h
  have e1 : firstB (a ++ ⟨#[u]⟩ ++ z) u.toNat = a := by
    rw [firstB, h1, ByteArray.append_assoc]
    exact ext_app_l
  have e2 : afterB (a ++ ⟨#[u]⟩ ++ z) u.toNat = z := by
    rw [afterB, if_pos h2, h1]
    have h3 : (a ++ (⟨#[u]⟩ : ByteArray)).size = a.size + 1 := by rw [ByteArray.size_append]; rfl
    have h4 := ext_app_r (a := a ++ (⟨#[u]⟩ : ByteArray)) (b := z)
    rw [h3] at h4
    exact h4
  rw [splitL_t h2, e1, e2]
theorem split_lib {c : UInt8} : ∀ (n : Nat) (s : ByteArray), s.size ≤ n → Lib.splitB ⟨#[c]⟩ 0 (Lib.countB s ⟨#[c]⟩) s = splitL s c.toNat := by
  intro n
  induction n with
  | zero =>
    intro s hs
    have hst : standsB s c.toNat = false := by
      cases h : standsB s c.toNat with
      | false => rfl
      | true => have := (fIdx_stands h).1; omega
    have hi := idx_lib (s := s) (c := c)
    rw [hst] at hi
    rw [Lib.splitB_miss _ _ _ _ (by simpa using hi), splitL_f hst]
  | succ n ih =>
    intro s hs
    have hi := idx_lib (s := s) (c := c)
    cases hst : standsB s c.toNat with
    | false =>
      rw [hst] at hi
      rw [Lib.splitB_miss _ _ _ _ (by simpa using hi), splitL_f hst]
    | true =>
      rw [hst, if_pos rfl] at hi
      have h1 := (fIdx_stands hst).1
      have hz : (⟨#[c]⟩ : ByteArray).size = 1 := rfl
      rw [Lib.countB_hit s ⟨#[c]⟩ _ (Nat.le_refl 1) hi, Nat.add_comm 1, Lib.splitB_hit _ _ _ _ _ hi, hz, Nat.add_zero, ih _ (by rw [size_ext (Nat.le_refl _)]; omega), splitL_t hst, firstB, afterB, if_pos hst]
end Go.Rf

/- Good settings: what the test says, in words of lists; parts of good lists are good. -/
set_option linter.unusedVariables false
namespace Go.Rf
open Go Go.RowKit
def sumL : List Setting → Int
  | [] => 0
  | x :: r => x.f + sumL r
theorem sumL_append : ∀ {a b : List Setting}, sumL (a ++ b) = sumL a + sumL b
  | [], b => by simp [sumL]
  | x :: r, b => by
    have := sumL_append (a := r) (b := b)
    simp only [List.cons_append, sumL, this]
    omega
theorem sumF_take {xs : List Setting} : ∀ i, i ≤ xs.length → sumF xs i = sumL (xs.take i)
  | 0, _ => by simp [sumL]; rfl
  | i + 1, hi => by
    rw [sumF_succ, sumF_take i (by omega), List.take_succ_eq_append_getElem (by omega), sumL_append]
    have h1 : i < xs.length := by omega
    simp [sumL, List.getD_eq_getElem?_getD, h1]
theorem sumF_all {xs : List Setting} : sumF xs xs.length = sumL xs := by rw [sumF_take _ (Nat.le_refl _), List.take_length]
theorem sumL_filter {p : Setting → Bool} : ∀ {xs : List Setting}, (∀ x ∈ xs, 0 ≤ x.f) → 0 ≤ sumL xs ∧ 0 ≤ sumL (xs.filter p) ∧ sumL (xs.filter p) ≤ sumL xs
  | [], _ => by simp [sumL]
  | x :: r, h => by
    have h1 := sumL_filter (p := p) (xs := r) (fun y hy => h y (List.mem_cons_of_mem _ hy))
    have h2 := h x List.mem_cons_self
    rw [List.filter_cons]
    split <;> simp only [sumL] <;> omega
theorem good_iff {xs : List Setting} : goodT xs = true ↔ (∀ x ∈ xs, isSet x = true) ∧ xs.Pairwise (fun x y => x.g < y.g ∧ x.n.toList ≠ y.n.toList) ∧ sumL xs ≤ 16 := by
  constructor
  · intro h
    have h0 := h
    simp only [goodT, Bool.and_eq_true, decide_eq_true_eq] at h0
    have h1 : ∀ i, i < xs.length → oneT xs i = true := fun i hi => allN_iff.mp h0.1 i hi
    refine ⟨fun x hx => ?_, ?_, by rw [← sumF_all]; exact h0.2⟩
    · obtain ⟨i, hi, rfl⟩ := List.getElem_of_mem hx
      have := h1 i hi
      simp only [oneT, Bool.and_eq_true] at this
      simpa [List.getD_eq_getElem?_getD, hi] using this.1.1
    · rw [List.pairwise_iff_getElem]
      intro i j hi hj hij
      have h2 := goodT_asc h j i hij hj
      have h3 := h1 j hj
      simp only [oneT, Bool.and_eq_true, Bool.not_eq_true'] at h3
      have h4 := h3.2
      refine ⟨by simpa [List.getD_eq_getElem?_getD, hi, hj] using h2, fun he => ?_⟩
      rw [anyN_t (f := sameN xs j) (i := i) (by simp [sameN, List.getD_eq_getElem?_getD, hi, hj, he]) hij] at h4
      cases h4
  · rintro ⟨h1, h2, h3⟩
    rw [List.pairwise_iff_getElem] at h2
    simp only [goodT, Bool.and_eq_true, decide_eq_true_eq]
    refine ⟨allN_iff.mpr (fun i hi => ?_), by rw [sumF_all]; exact h3⟩
    have hd : ∀ k, (hk : k < xs.length) → xs.getD k default = xs[k] := fun k hk => by simp [List.getD_eq_getElem?_getD, hk]
    simp only [oneT, Bool.and_eq_true, Bool.or_eq_true, decide_eq_true_eq, Bool.not_eq_true']
    refine ⟨⟨by rw [hd i hi]; exact h1 _ (List.getElem_mem hi), ?_⟩, anyN_f (i := i) (fun k hk => ?_) (Nat.le_refl _)⟩
    · rcases Nat.eq_zero_or_pos i with h0 | h0
      · exact .inl h0
      · refine .inr ?_
        rw [hd i hi, hd (i - 1) (by omega)]
        exact (h2 (i - 1) i (by omega) hi (by omega)).1
    · simp only [sameN, hd k (by omega), hd i hi, beq_eq_false_iff_ne, ne_eq]
      exact (h2 k i (by omega) hi hk).2
theorem isSet_f {x : Setting} (h : isSet x = true) : 1 ≤ x.f ∧ x.f ≤ 16 := by
  simp only [isSet, inside, Bool.and_eq_true, decide_eq_true_eq] at h
  omega
theorem sumL_sub {xs ys : List Setting} (hs : ys.Sublist xs) : (∀ x ∈ xs, 0 ≤ x.f) → 0 ≤ sumL ys ∧ sumL ys ≤ sumL xs := by
  induction hs with
  | slnil => intro _; simp [sumL]
  | cons a _ ih =>
    intro h
    have h1 := ih (fun y hy => h y (List.mem_cons_of_mem _ hy))
    have h2 := h a List.mem_cons_self
    simp only [sumL]
    omega
  | cons_cons a _ ih =>
    intro h
    have h1 := ih (fun y hy => h y (List.mem_cons_of_mem _ hy))
    have h2 := h a List.mem_cons_self
    simp only [sumL]
    omega
theorem good_sub {xs ys : List Setting} (h : goodT xs = true) (hs : ys.Sublist xs) : goodT ys = true := by
  rw [good_iff] at *
  obtain ⟨h1, h2, h3⟩ := h
  have := sumL_sub hs (fun x hx => by have := isSet_f (h1 x hx); omega)
  exact ⟨fun x hx => h1 x (hs.subset hx), h2.sublist hs, by omega⟩
end Go.Rf

/- A shift; classes of delays. -/
set_option linter.unusedVariables false
set_option linter.unusedSimpArgs false
set_option linter.unusedSectionVars false
namespace Go.Rf
open Go
def pw : Nat → Int
  | 0 => 1
  | n + 1 => 2 * pw n
theorem pw_eq : ∀ n : Nat, (1 : Int) * 2 ^ n = pw n
  | 0 => rfl
  | n + 1 => by rw [pw, ← pw_eq n, Int.pow_succ]; omega
theorem pw_pos : ∀ n, 0 < pw n
  | 0 => by simp [pw]
  | n + 1 => by have := pw_pos n; simp only [pw]; omega
theorem pw_le {n : Nat} (h : n ≤ 7) : 1 ≤ pw n ∧ pw n ≤ 128 := by
  rcases n with _ | _ | _ | _ | _ | _ | _ | _ | n <;> first | (simp [pw]; done) | omega
section
variable {P : Program} [Env P] {T : List (Nat × AV)} {m : List (Nat × Option Row)} {nx nt : Nat} {o : Oper}
theorem q_shl1 {x y : Operand} {t t' : TypeId} {n : Nat} (ho : o.op = .binOp .shl t x y t') (hx : ev T x = some (.v (.int .i64 1))) (hy : ev T y = some (.v (.int .i64 (n : Int)))) (h1 : n ≤ 7) :
    QStep P o T m nx nt (.v (.int .i64 (pw n))) :=
  QStep.val fun w0 ρ ac hT w' => by
    have g1 := hT.ev hx
    have g2 := hT.ev hy
    simp only [RelV] at g1 g2
    have hp := pw_le h1
    have hw : IntKind.i64.wrap ((1 : Int) * 2 ^ ((n : Int)).toNat) = pw n := by
      have e : ((n : Int)).toNat = n := rfl
      rw [e, pw_eq]
      exact wrap_in (by omega) (by omega)
    have hs := shift_shl_i64 (x := 1) (yk := .i64) (y := (n : Int)) (by omega) (by omega)
    rw [hw] at hs
    have hw2 : IntKind.i64.wrap ((2 : Int) ^ n) = pw n := by rw [← hw, Int.one_mul]; rfl
    simp [execOp, ho, g1, g2, eqGuard, binOp_shl, hw2]
end
def cls (d : Int) : Nat := if d < 1 then 0 else if d < 2 then 1 else if d < 4 then 2 else if d < 8 then 3 else if d < 16 then 4 else if d < 32 then 5 else if d < 64 then 6 else 7
theorem cls_le {d : Int} : cls d ≤ 7 := by unfold cls; (repeat' split) <;> omega
theorem cls_of {d : Int} {n : Nat} (hn : n ≤ 7) (h : ∀ j, j < n → pw j ≤ d) (he : n = 7 ∨ d < pw n) : cls d = n := by
  have h0 := fun hj => h 0 hj
  have h1 := fun hj => h 1 hj
  have h2 := fun hj => h 2 hj
  have h3 := fun hj => h 3 hj
  have h4 := fun hj => h 4 hj
  have h5 := fun hj => h 5 hj
  have h6 := fun hj => h 6 hj
  clear h
  rcases n with _ | _ | _ | _ | _ | _ | _ | _ | n <;> first | omega | (simp [pw] at *; unfold cls; repeat' split) <;> omega
theorem div_pw {d : Int} {n : Nat} : d / pw n / 2 = d / pw (n + 1) := by
  have := pw_pos n
  rw [Int.ediv_ediv_of_nonneg (by omega), pw, Int.mul_comm]
theorem div_pos {d : Int} {n : Nat} : 0 < d / pw n ↔ pw n ≤ d := by
  have := pw_pos n
  constructor
  · intro h
    have := Int.ediv_mul_le d (by omega : pw n ≠ 0)
    have h3 : 1 * pw n ≤ d / pw n * pw n := Int.mul_le_mul_of_nonneg_right (by omega) (by omega)
    omega
  · intro h
    have : 1 ≤ d / pw n := (Int.le_ediv_iff_mul_le this).mpr (by omega)
    omega
def dcG (xs : List Sample) (i k : Nat) : Int := cntN (fun j => decide (cls ((xs.getD j default).g - (xs.getD j default).a) = k)) i
theorem dcG_le {xs : List Sample} {i k : Nat} : 0 ≤ dcG xs i k ∧ dcG xs i k ≤ i := cntN_le _ _
theorem dcG_set {xs : List Sample} {i k : Nat} (h : cls ((xs.getD i default).g - (xs.getD i default).a) = k) :
    ((pre (dcG xs i) 8).map encI).set ((k : Int)).toNat (encI (dcG xs i ((k : Int)).toNat + 1)) = (pre (dcG xs (i + 1)) 8).map encI := by
  have hk : k ≤ 7 := h ▸ cls_le
  have e0 : ((k : Int)).toNat = k := rfl
  have e : dcG xs i k + 1 = dcG xs (i + 1) k := (cntN_t (by simpa using h)).symm
  rw [e0, e]
  exact pre_set (by omega) fun j hj hne => cntN_f (by simp only [decide_eq_false_iff_not]; omega)
def dcT (xs : List Sample) : List Int := if goodS xs then pre (dcG xs xs.length) 8 else []
theorem dcT_len {xs : List Sample} : (dcT xs).length ≤ 8 := by unfold dcT; split <;> simp [pre_len]
end Go.Rf
