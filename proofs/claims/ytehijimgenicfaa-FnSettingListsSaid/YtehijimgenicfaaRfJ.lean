/- The join: arguments that the statement hands over, read as the contracts want them. -/
import Derived.Test.YtehijimgenicfaaRfN
import Derived.Deep.Slices
import Derived.Deep.Fields
import Derived.ChangeSame
import Derived.Lib.SmallJoins
import Derived.ChangeOld
set_option linter.unusedVariables false
set_option linter.unusedSectionVars false
set_option linter.unusedSimpArgs false
namespace Go.Rf
open Go Go.ChangeShapes Go.WideShapes Go.Deep Go.ChangeAt Go.RowKit

inductive CK where
  | int (k : IntKind)
  | bool
  | str
def CellOK : CK → Value → Prop
  | .int k, v => ∃ n, v = .int k n ∧ (Lit.int k n).wf = true
  | .bool, v => ∃ b, v = .bool b
  | .str, v => ∃ s, v = .string s ∧ s.size ≤ maxLen
def CellsOK : List CK → List Value → Prop
  | [], cs => cs = []
  | k :: ks, cs => ∃ v vs, cs = v :: vs ∧ CellOK k v ∧ CellsOK ks vs
def ckOf (P : Program) (t : TypeId) : Option CK := match P.underlying t with
  | some (.int k) => some (.int k)
  | some .bool => some .bool
  | some .string => some .str
  | _ => none
def cksF (P : Program) : List Field → Option (List CK)
  | [] => some []
  | f :: r => match ckOf P f.type, cksF P r with
    | some k, some ks => some (k :: ks)
    | _, _ => none

theorem CellOK.one {k : CK} {v : Value} (h : CellOK k v) : v.oneCell' = true := by
  cases k <;> simp only [CellOK] at h
  · obtain ⟨n, rfl, _⟩ := h; rfl
  · obtain ⟨n, rfl⟩ := h; rfl
  · obtain ⟨n, rfl, _⟩ := h; rfl
theorem CellsOK.len : ∀ {ks : List CK} {cs : List Value}, CellsOK ks cs → cs.length = ks.length ∧ ∀ u ∈ cs, u.oneCell' = true
  | [], cs, h => by simp only [CellsOK] at h; subst h; simp
  | k :: ks, cs, h => by
    simp only [CellsOK] at h
    obtain ⟨v, vs, rfl, h1, h2⟩ := h
    obtain ⟨a, b⟩ := CellsOK.len h2
    exact ⟨by simp [a], fun u hu => by rcases List.mem_cons.mp hu with rfl | hu; exact h1.one; exact b u hu⟩

section
variable {H : Type} {enc : TypeId × Value → H} {P : Program} {w : World} {base : Nat} {spare : Nat → Bool} {held : Bool} {t e : TypeId}
theorem cell_of_trod {k : CK} {n : Nat} {cs : List Value} {x : DataW H × List MemPlace} (hk : ckOf P t = some k) (h : DataW.trod enc P w base spare held n t cs = some x) : ∃ v, cs = [v] ∧ CellOK k v := by
  unfold ckOf at hk
  split at hk <;> cases hk
  · next k ht => obtain ⟨n, rfl, _, hw⟩ := DataW.trod_int ht h; exact ⟨_, rfl, n, rfl, hw⟩
  · next ht => obtain ⟨b, rfl, _⟩ := DataW.trod_bool ht h; exact ⟨_, rfl, b, rfl⟩
  · next ht => obtain ⟨s, rfl, _, hs⟩ := DataW.trod_string ht h; exact ⟨_, rfl, s, rfl, hs⟩

theorem cells_walk : ∀ (l : List Field) (ks : List CK) (cs : List Value), cksF P l = some ks → cs.length = l.length → (∀ (j : Nat) (f : Field) (k : CK), l[j]? = some f → ckOf P f.type = some k → ∃ v, cs[j]? = some v ∧ CellOK k v) → CellsOK ks cs
  | [], ks, cs, hk, hl, _ => by simp [cksF] at hk; subst hk; simpa [CellsOK] using hl
  | f :: r, ks, cs, hk, hl, h => by
    simp only [cksF] at hk
    split at hk
    · next k ks' h1 h2 =>
      cases hk
      match cs, hl with
      | c :: cs, hl =>
        obtain ⟨v, hv, hok⟩ := h 0 f k rfl h1
        simp at hv
        subst hv
        exact ⟨c, cs, rfl, hok, cells_walk r ks' cs h2 (by simpa using hl) fun j f' k' hj hk' => by simpa using h (j + 1) f' k' (by simpa using hj) hk'⟩
    · cases hk

theorem cells_of_struct {fs : Array Field} {ks : List CK} {n : Nat} {cs : List Value} {x : DataW H × List MemPlace} (hs : P.underlying t = some (.struct fs)) (hone : oneCellFields P fs = true) (hC : P.cellsOf t = fs.size) (hk : cksF P fs.toList = some ks)
    (h : DataW.trod enc P w base spare held n t cs = some x) : CellsOK ks cs := by
  obtain ⟨xs, n', _, _, hlen, hxl, hf⟩ := DataW.trod_struct hs h
  refine cells_walk _ _ _ hk (by rw [hlen, hC]; simp) fun j f k hj hkf => ?_
  have hj' : fs[j]? = some f := by simpa using hj
  obtain ⟨ho, h1⟩ := hone_of hone j f hj'
  have hjl : j < fs.size := (Array.getElem?_eq_some_iff.1 hj').1
  have h2 := hf j f hj'
  rw [ho, h1, List.getElem?_eq_getElem (by omega)] at h2
  obtain ⟨v, hv, hok⟩ := cell_of_trod hkf h2
  refine ⟨v, ?_, hok⟩
  have : ((cs.drop j).take 1)[0]? = some v := by rw [hv]; rfl
  simpa using this

theorem cell_block {a : Addr} {v : Value} (h : w.cell? a = some v) : a.block < w.heap.size := by
  unfold World.cell? at h
  split at h
  · next hb => exact (Array.getElem?_eq_some_iff.1 hb).1
  · cases h

/-- how the elements of a slice type read -/
inductive EK where
  | one (k : CK)
  | str (fs : Array Field) (ks : List CK)
def EK.sz : EK → Nat
  | .one _ => 1
  | .str fs _ => fs.size
def EK.ks : EK → List CK
  | .one k => [k]
  | .str _ ks => ks
def EK.Fits (P : Program) (e : TypeId) : EK → Prop
  | .one k => ckOf P e = some k ∧ P.cellsOf e = 1
  | .str fs ks => P.underlying e = some (.struct fs) ∧ oneCellFields P fs = true ∧ P.cellsOf e = fs.size ∧ cksF P fs.toList = some ks
theorem EK.Fits.cells {E : EK} (h : E.Fits P e) : P.cellsOf e = E.sz := by cases E <;> simp only [EK.Fits] at h; exact h.2; exact h.2.2.1
theorem EK.Fits.trod {E : EK} (h : E.Fits P e) {n : Nat} {cs : List Value} {x : DataW H × List MemPlace} (ht : DataW.trod enc P w base spare held n e cs = some x) : CellsOK E.ks cs := by
  cases E <;> simp only [EK.Fits] at h
  · obtain ⟨v, rfl, hv⟩ := cell_of_trod h.1 ht; exact ⟨v, [], rfl, hv, rfl⟩
  · exact cells_of_struct h.1 h.2.1 h.2.2.1 h.2.2.2 ht

theorem reads_slice {v : Value} {d : DataW H} {p : List MemPlace} {E : EK} (ht : P.underlying t = some (.slice e)) (hE : E.Fits P e) (hsz : E.sz ≠ 0) (hv : ∃ a len cap, v = .slice a len cap) (h : DataW.Trod enc P w base spare held t v d p) :
    ∃ ys, ReadsAt w E.sz ys v ∧ ys.length ≤ maxLen ∧ ∀ c ∈ ys, CellsOK E.ks c := by
  obtain ⟨a, len, cap, rfl⟩ := hv
  obtain ⟨fuel, hf⟩ := h
  rcases open_slice ht hf with ⟨hcs, _⟩ | ⟨a', len', cap', m, n, D, Pl, hcs, hb, hl, hm, hmm, hx, hi⟩
  · simp [Value.cells] at hcs
    obtain ⟨rfl, rfl, rfl⟩ := hcs
    exact ⟨[], ⟨none, 0, rfl, Nat.le_refl _, by simp, by simp⟩, by simp, by simp⟩
  · simp [Value.cells] at hcs
    obtain ⟨rfl, rfl, rfl⟩ := hcs
    have hlm : len ≤ m := by rw [hmm]; split <;> omega
    rw [hE.cells] at hi
    let ys := (List.range len).map fun i => (w.cells? base (a'.add (i * E.sz)) E.sz).getD []
    have hget : ∀ i c, ys[i]? = some c → i < len ∧ w.cells? base (a'.add (i * E.sz)) E.sz = some c ∧ CellsOK E.ks c := by
      intro i c hic
      simp only [ys, List.getElem?_map] at hic
      rcases Nat.lt_or_ge i len with hlt | hge
      · obtain ⟨cs', h1, h2⟩ := hi i (by omega)
        rw [List.getElem?_range hlt] at hic
        simp [h1] at hic
        subst hic
        exact ⟨hlt, h1, hE.trod h2⟩
      · rw [List.getElem?_eq_none (by simpa using hge)] at hic
        cases hic
    have hlen : ys.length = len := by simp [ys]
    refine ⟨ys, ⟨some a', cap, by rw [hlen], by omega, fun c hc => ?_, fun h0 => ⟨a', rfl, ?_, fun i c hic j u hju => ?_⟩⟩, by omega, fun c hc => ?_⟩
    · obtain ⟨i, hic⟩ := List.getElem?_of_mem hc
      obtain ⟨_, h1, h2⟩ := hget i c hic
      exact ⟨(World.cells?_some h1).2.1, h2.len.2⟩
    · obtain ⟨cs', h1, _⟩ := hi 0 (by omega)
      obtain ⟨_, h2, h3⟩ := World.cells?_some h1
      have h4 := h3 0 (by omega)
      rw [List.getElem?_eq_getElem (by omega)] at h4
      have := cell_block h4
      simpa [Addr.add] using this
    · obtain ⟨_, h1, _⟩ := hget i c hic
      obtain ⟨_, h2, h3⟩ := World.cells?_some h1
      have hj : j < c.length := (List.getElem?_eq_some_iff.1 hju).1
      rw [← hju, ← h3 j (by omega)]
      rw [← Go.Deep.add_add]
    · obtain ⟨i, hic⟩ := List.getElem?_of_mem hc
      exact (hget i c hic).2.2
theorem reads_struct {r : Reach} {b0 : Nat} {fs : Array Field} {ks : List CK} {v : Value} {d : DataW H} {p : List MemPlace} (hs : P.underlying t = some (.struct fs)) (hone : oneCellFields P fs = true) (hC : P.cellsOf t = fs.size) (hk : cksF P fs.toList = some ks)
    (hv : Value.okWide P w r b0 t v) (h : DataW.Trod enc P w base spare held t v d p) : ∃ cs, v = .agg ⟨cs⟩ ∧ CellsOK ks cs := by
  obtain ⟨⟨l⟩, rfl, hsz⟩ := okWide_struct hs hv
  obtain ⟨fuel, hf⟩ := h
  exact ⟨l, rfl, cells_of_struct hs hone hC hk (by simpa [Value.cells] using hf)⟩
theorem int_bound {n : Int} (h : (Lit.int .i64 n).wf = true) : -9223372036854775808 ≤ n ∧ n ≤ 9223372036854775807 := by
  simp only [Lit.wf, IntKind.min, IntKind.max, Bool.and_eq_true, decide_eq_true_eq, IntKind.signed, IntKind.bits] at h
  simpa using h
end
/-- a list of cell lists, all of one form, is a list of data -/
theorem list_of {α : Type} {f : α → List Value} {ks : List CK} (h : ∀ c, CellsOK ks c → ∃ x, c = f x) : ∀ (ys : List (List Value)), (∀ c ∈ ys, CellsOK ks c) → ∃ xs : List α, ys = xs.map f
  | [], _ => ⟨[], rfl⟩
  | c :: r, hc => by
    obtain ⟨x, rfl⟩ := h c (hc c (by simp))
    obtain ⟨xs, rfl⟩ := list_of h r (fun c' h' => hc c' (by simp [h']))
    exact ⟨x :: xs, rfl⟩
theorem RelVs_nil {w : World} : RelVs w noRho 0 [] [] := rfl
theorem RelVs_v {w : World} {v : Value} {as : List AV} {vs : List Value} (h : RelVs w noRho 0 as vs) : RelVs w noRho 0 (.v v :: as) (v :: vs) := by
  simp only [RelVs]; exact ⟨v, vs, rfl, by simp only [RelV], h⟩
theorem RelVs_lst {w : World} {sz : Nat} {ys : List (List Value)} {v : Value} {as : List AV} {vs : List Value} (hr : ReadsAt w sz ys v) (h : RelVs w noRho 0 as vs) : RelVs w noRho 0 (.lst sz ys :: as) (v :: vs) := by
  simp only [RelVs]; exact ⟨v, vs, rfl, by simpa only [RelV] using hr, h⟩
theorem Ctr.true {P : Program} [Env P] {f : FuncId} {args : List AV} (h : Ctr P f args (.one (.v (.bool Bool.true)))) {w : World} {vs : List Value} (hE : Env.E P w) (hv : RelVs w noRho 0 args vs) :
    Calls P f vs.toArray w fun e w' => e = .returned (.bool Bool.true) ∧ Below w.heap.size w w' :=
  (h.calls w vs hE hv).mono fun e w' ⟨v, he, hr, hb⟩ => ⟨by simp only [ResRel, RCRel] at hr; rw [he, hr], hb⟩
end Go.Rf
