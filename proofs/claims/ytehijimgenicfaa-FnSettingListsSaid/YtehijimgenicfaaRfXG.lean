/- Putting a setting among settings: what both programs compute. -/
import Derived.Test.YtehijimgenicfaaRfXF
import Derived.Test.YtehijimgenicfaaRfL
set_option linter.unusedVariables false
set_option linter.unusedSectionVars false
set_option linter.unusedSimpArgs false
namespace Go.Rf
open Go Go.RowKit
section
variable {P : Program} [Env P] {w0 : Base} {T : List (Nat × AV)} {m : List (Nat × Option Row)} {nx nt : Nat} {Q : Exit → St → Prop} {c : Code}
/-- a row told by an equal list -/
theorem W_eqrow {id e sz : Nat} {ys : List (List Value)} (ys' : List (List Value)) (hm : mem m id = some (.row e sz ys)) (h : ys = ys') (hk : W P w0 c ⟨T, (id, some (.row e sz ys')) :: m, nx, nt⟩ Q) : W P w0 c ⟨T, m, nx, nt⟩ Q := by
  subst h
  intro ρ a w hT hC
  exact hk ρ a w hT (hC.retell hm (hC.rows id _ hm).2)
/-- a row takes the number of a row that is given up -/
theorem W_rento {tx id id' e sz : Nat} {ys : List (List Value)} {T' T'' : List (Nat × AV)} (hp : w0.n0 ≤ id') (hne : Nat.beq id id' = false) (hlt : Nat.blt id' nx = true) (hx : look tx T = some (.own id)) (hm : mem m id = some (.row e sz ys)) (hf : freeM id' m = true) (hT' : killO id' T [] [] = some T') (hT'' : killO id T' [] [] = some T'')
    (hk : W P w0 c ⟨(tx, .own id') :: T'', (id', some (.row e sz ys)) :: (id, none) :: m, nx, nt⟩ Q) : W P w0 c ⟨T, m, nx, nt⟩ Q := by
  intro ρ a w hT hC
  have hxe := hT.tmps _ _ hx
  simp only [RelV] at hxe
  have hne' : id ≠ id' := beq_ne hne
  have hlt' : id' < nx := Nat.le_of_ble_eq_true hlt
  have hs : ∀ i r, mem ((id', some (Row.row e sz ys)) :: (id, none) :: m) i = some r → (i = id' ∧ r = .row e sz ys) ∨ (i ≠ id' ∧ i ≠ id ∧ mem m i = some r) := fun i r hr => by
    by_cases e1 : id' = i
    · subst e1; rw [mem_cons_same] at hr; cases hr; exact .inl ⟨rfl, rfl⟩
    · rw [mem_cons_other e1] at hr
      by_cases e2 : id = i
      · subst e2; rw [mem_cons_same] at hr; cases hr
      · rw [mem_cons_other e2] at hr; exact .inr ⟨Ne.symm e1, Ne.symm e2, hr⟩
  have hval : ∀ i, i ≠ id' → upd ρ id' (ρ id) i = ρ i := fun i hi => upd_other ρ _ hi
  have hT2 : RelT w0.w (upd ρ id' (ρ id)) ((tx, .own id') :: T'') nx nt a := by
    refine ⟨fun t x hx' => ?_, hT.size, hT.defers⟩
    by_cases e : tx = t
    · subst e
      simp [look] at hx'
      subst hx'
      simp only [RelV]
      exact ⟨hlt', by rw [upd_same]; exact hxe.2⟩
    · have hl : look t T'' = some x := by simpa [look, show tx.beq t = false from Bool.eq_false_iff.mpr (fun h => e (Nat.eq_of_beq_eq_true h))] using hx'
      rw [killO_eq] at hT' hT''
      cases hT'; cases hT''
      rcases killT_spec _ _ _ _ _ hl (by simp) with h2 | ⟨_, h2, h3⟩
      · simp [look] at h2
      · rcases killT_spec _ _ _ _ _ h2 (by simp) with h4 | ⟨_, h4, h5⟩
        · simp [look] at h4
        · exact RelV.upd _ h5 (hT.tmps t x h4)
  refine hk _ a w hT2 ⟨fun i r hr => ?_, fun i i' r r' hr hr' hd b hb => ?_, hC.below, ⟨hC.pin.1, fun i hi => (upd_other ρ _ (by omega)).trans (hC.pin.2 i hi)⟩, hC.kept.1, hC.kept.2.1, fun i r hr b hb => ?_⟩
  · rcases hs i r hr with ⟨rfl, rfl⟩ | ⟨h1, h2, h3⟩
    · refine ⟨hlt', ?_⟩
      have := (hC.rows id _ hm).2
      simp only [RowRel] at this ⊢
      rw [upd_same]
      exact this
    · obtain ⟨h4, h5⟩ := hC.rows i r h3
      refine ⟨h4, ?_⟩
      cases r with
      | box cs =>
        obtain ⟨bb, cur, ty, g3, g4, g5, g6, g7⟩ := h5
        exact ⟨bb, cur, ty, by rw [hval i h1]; exact g3, g4, g5, RelVs.upd _ (freeM_spec hf h3) g6, g7⟩
      | spare e' sz' ys' gs' => simp only [RowRel] at h5 ⊢; rw [hval i h1]; exact h5
      | byt bs => simp only [RowRel] at h5 ⊢; rw [hval i h1]; exact h5
      | row e' sz' ys' => simp only [RowRel] at h5 ⊢; rw [hval i h1]; exact h5
  · rcases hs i r hr with ⟨rfl, rfl⟩ | ⟨h1, h2, h3⟩
    · rcases hs i' r' hr' with ⟨rfl, rfl⟩ | ⟨g1, g2, g3⟩
      · exact absurd rfl hd
      · rw [upd_same] at hb
        rw [hval i' g1]
        exact hC.apart id i' _ _ hm g3 (Ne.symm g2) b hb
    · rw [hval i h1] at hb
      rcases hs i' r' hr' with ⟨rfl, rfl⟩ | ⟨g1, g2, g3⟩
      · rw [upd_same]
        exact hC.apart i id _ _ h3 hm h2 b hb
      · rw [hval i' g1]
        exact hC.apart i i' _ _ h3 g3 hd b hb
  · rcases hs i r hr with ⟨rfl, rfl⟩ | ⟨h1, h2, h3⟩
    · rw [upd_same] at hb
      exact hC.kept.2.2 id _ hm b hb
    · rw [hval i h1] at hb
      exact hC.kept.2.2 i r h3 b hb
end
def putL (xs : List Setting) (s : Setting) : List Setting := xs.filter (fun x => decide (x.g < s.g)) ++ [s] ++ xs.filter (fun x => decide (s.g < x.g))
def ptOK (xs : List Setting) (s : Setting) : Bool := goodT xs && goodT (putL xs s)
def ptT (xs : List Setting) (s : Setting) : List Setting := if ptOK xs s then putL xs s else []
theorem sumF_ge {xs : List Setting} (h : ∀ i, i < xs.length → oneT xs i = true) : ∀ i, i ≤ xs.length → (i : Int) ≤ sumF xs i
  | 0, _ => Int.le_refl _
  | i + 1, hi => by
    have h1 := sumF_ge h i (by omega)
    have h2 := h i (by omega)
    simp only [oneT, isSet, inside, Bool.and_eq_true, decide_eq_true_eq] at h2
    rw [sumF_succ]
    omega
theorem good_len {xs : List Setting} (h : goodT xs = true) : xs.length ≤ 16 := by
  simp only [goodT, Bool.and_eq_true, decide_eq_true_eq] at h
  have := sumF_ge (fun i hi => allN_iff.mp h.1 i hi) xs.length (Nat.le_refl _)
  omega
theorem good_pair {xs : List Setting} (h : goodT xs = true) : xs.Pairwise (fun x y => x.g < y.g) := by
  rw [List.pairwise_iff_getElem]
  intro i j hi hj hij
  have := goodT_asc h j i hij hj
  simpa [List.getD_eq_getElem?_getD, hi, hj] using this
theorem cut_lt {l : List Setting} {g : Int} {i : Nat} (hp : l.Pairwise (fun x y => x.g < y.g)) (hi : i ≤ l.length) (h1 : ∀ j, j < i → (l.getD j default).g < g) (h2 : i < l.length → g ≤ (l.getD i default).g) :
    l.take i = l.filter (fun x => decide (x.g < g)) ∧ l.drop i = l.filter (fun x => decide (g ≤ x.g)) := by
  have ht : ∀ x ∈ l.take i, x.g < g := by
    intro x hx
    obtain ⟨j, hj, rfl⟩ := List.getElem_of_mem hx
    rw [List.length_take] at hj
    have := h1 j (by omega)
    simpa [List.getD_eq_getElem?_getD, show j < l.length by omega] using this
  have hd : ∀ x ∈ l.drop i, g ≤ x.g := by
    intro x hx
    obtain ⟨j, hj, rfl⟩ := List.getElem_of_mem hx
    rw [List.length_drop] at hj
    have h3 := h2 (by omega)
    have h4 : i < l.length := by omega
    simp only [List.getD_eq_getElem?_getD, h4, List.getElem?_eq_getElem, Option.getD_some] at h3
    rw [List.getElem_drop]
    rcases Nat.eq_zero_or_pos j with rfl | h0
    · simpa using h3
    · have := (List.pairwise_iff_getElem.mp hp) i (i + j) h4 (by omega) (by omega)
      omega
  have e : l = l.take i ++ l.drop i := (List.take_append_drop i l).symm
  constructor
  · conv => rhs; rw [e, List.filter_append]
    rw [List.filter_eq_self.mpr (fun x hx => by simpa using ht x hx), List.filter_eq_nil_iff.mpr (fun x hx => by have := hd x hx; simp; omega), List.append_nil]
  · conv => rhs; rw [e, List.filter_append]
    rw [List.filter_eq_nil_iff.mpr (fun x hx => by have := ht x hx; simp; omega), List.filter_eq_self.mpr (fun x hx => by simpa using hd x hx), List.nil_append]
theorem ws_put {xs : List Setting} {s : Setting} {i : Nat} (h : goodT xs = true) (hi : i ≤ (wsT xs s.g).length) (h1 : ∀ j, j < i → ((wsT xs s.g).getD j default).g < s.g) (h2 : i < (wsT xs s.g).length → s.g ≤ ((wsT xs s.g).getD i default).g) :
    (wsT xs s.g).take i ++ [s] ++ (wsT xs s.g).drop i = putL xs s := by
  obtain ⟨e1, e2⟩ := cut_lt (l := wsT xs s.g) ((good_pair h).sublist List.filter_sublist) hi h1 h2
  rw [e1, e2, putL, wsT, List.filter_filter, List.filter_filter]
  have a1 : ∀ x ∈ xs, (decide (x.g < s.g) && !(x.g == s.g)) = decide (x.g < s.g) := fun x _ => by
    by_cases hx : x.g < s.g
    · have : ¬ x.g = s.g := by omega
      simp [hx, this]
    · simp [hx]
  have a2 : ∀ x ∈ xs, (decide (s.g ≤ x.g) && !(x.g == s.g)) = decide (s.g < x.g) := fun x _ => by
    by_cases hx : s.g < x.g
    · have : ¬ x.g = s.g := by omega
      have h3 : s.g ≤ x.g := by omega
      simp [hx, this, h3]
    · by_cases h4 : s.g ≤ x.g
      · have : x.g = s.g := by omega
        simp [this]
      · simp [hx, h4]
  rw [List.filter_congr a1, List.filter_congr a2]
theorem xs_put {xs : List Setting} {s : Setting} {k : Nat} (h : goodT xs = true) (hi : k ≤ xs.length) (h1 : ∀ j, j < k → (xs.getD j default).g < s.g) (h2 : k < xs.length → s.g < (xs.getD k default).g) : xs.take k ++ [s] ++ xs.drop k = putL xs s := by
  obtain ⟨e1, e2⟩ := cut_lt (good_pair h) hi h1 (fun hk => Int.le_of_lt (h2 hk))
  rw [e1, putL, e2]
  congr 1
  refine List.filter_congr (fun x hx => ?_)
  by_cases hx2 : x.g = s.g
  · exfalso
    obtain ⟨j, hj, rfl⟩ := List.getElem_of_mem hx
    rcases Nat.lt_or_ge j k with h3 | h3
    · have := h1 j h3
      simp only [List.getD_eq_getElem?_getD, hj, List.getElem?_eq_getElem, Option.getD_some] at this
      omega
    · have h4 := h2 (by omega)
      simp only [List.getD_eq_getElem?_getD, show k < xs.length by omega, List.getElem?_eq_getElem, Option.getD_some] at h4
      rcases Nat.lt_or_ge k j with h5 | h5
      · have := (List.pairwise_iff_getElem.mp (good_pair h)) k j (by omega) hj h5
        omega
      · have : j = k := by omega
        subst this
        omega
  · by_cases h3 : s.g < x.g
    · simp [h3, Int.le_of_lt h3]
    · have : ¬ s.g ≤ x.g := by omega
      simp [h3, this]
theorem xs_put1 {xs : List Setting} {s : Setting} {k : Nat} (h : goodT xs = true) (hi : k < xs.length) (h1 : ∀ j, j < k → (xs.getD j default).g < s.g) (h2 : (xs.getD k default).g = s.g) : xs.take k ++ [s] ++ xs.drop (k + 1) = putL xs s := by
  obtain ⟨e1, e2⟩ := cut_lt (good_pair h) (Nat.le_of_lt hi) h1 (fun hk => by omega)
  obtain ⟨_, e3⟩ := cut_lt (g := s.g + 1) (i := k + 1) (good_pair h) (by omega) (fun j hj => by
    rcases Nat.lt_or_ge j k with h3 | h3
    · have := h1 j h3; omega
    · have : j = k := by omega
      subst this; omega) (fun hk => by
    have := goodT_asc h (k + 1) k (by omega) hk
    omega)
  rw [e1, e3, putL]
  congr 1
theorem putL_len {xs : List Setting} {s : Setting} : (putL xs s).length ≤ xs.length + xs.length + 1 := by
  have h1 := List.length_filter_le (fun x : Setting => decide (x.g < s.g)) xs
  have h2 := List.length_filter_le (fun x : Setting => decide (s.g < x.g)) xs
  simp only [putL, List.length_append, List.length_cons, List.length_nil]
  omega
theorem putL_mem {xs : List Setting} {s x : Setting} (h : x ∈ putL xs s) : x = s ∨ x ∈ xs := by
  simp only [putL, List.mem_append, List.mem_singleton, List.mem_filter] at h
  rcases h with (h | h) | h
  · exact .inr h.1
  · exact .inl h
  · exact .inr h.1
theorem putL_names {xs : List Setting} {s : Setting} (hz : ∀ i, i < xs.length → (xs.getD i default).n.size ≤ 9223372036854775807) (hs : s.n.size ≤ 9223372036854775807) : ∀ i, i < (putL xs s).length → ((putL xs s).getD i default).n.size ≤ 9223372036854775807 := by
  intro i hi
  have hm : (putL xs s).getD i default ∈ putL xs s := by simp [List.getD_eq_getElem?_getD, hi]
  rcases putL_mem hm with h | h
  · rw [h]; exact hs
  · obtain ⟨j, hj, h2⟩ := List.getElem_of_mem h
    have := hz j hj
    simp only [List.getD_eq_getElem?_getD, hj, List.getElem?_eq_getElem, Option.getD_some] at this
    rw [← h2]; exact this
theorem upto_succ' {p : Nat → Prop} {i : Nat} (h : ∀ j, j < i → p j) (hi : p i) : ∀ j, j < i + 1 → p j := upto_succ h hi
theorem getRest {α : Type} [Inhabited α] {xs : List α} {f : α → List Value} {i : Nat} (h : i < xs.length) : (((xs.map f).drop ((i : Int)).toNat).take (((xs.map f).length : Int).toNat - ((i : Int)).toNat))[(0 : Int).toNat]? = some (f (xs.getD i default)) := by
  have : ¬ xs.length - i = 0 := by omega
  simp [List.getElem?_take, h, this]
theorem szN_le {xs : List Setting} {l : Int} : ∀ i, szN xs l i ≤ l - xs.length
  | 0 => Int.le_refl _
  | i + 1 => by
    have := szN_le (xs := xs) (l := l) i
    rw [szN_succ]
    omega
theorem szT_bd {xs : List Setting} (h : 0 ≤ szT xs 1048576) : xs.length ≤ 1048576 ∧ 0 ≤ szT xs 1048576 ∧ szT xs 1048576 ≤ 1048576 := by
  have h2 := szN_le (xs := xs) (l := 1048576) xs.length
  refine ⟨?_, h, ?_⟩
  · unfold szT at h; split at h <;> omega
  · unfold szT; split
    · omega
    · split <;> omega
theorem ptT_len {xs : List Setting} {s : Setting} : (ptT xs s).length ≤ 33 := by
  unfold ptT
  split
  · rename_i h
    simp only [ptOK, Bool.and_eq_true] at h
    have h1 := good_len h.1
    have h2 := putL_len (xs := xs) (s := s)
    omega
  · exact Nat.zero_le _
theorem rest_len {xs : List Setting} {i : Nat} : (((xs.map encTc).drop ((i : Int)).toNat).take (((xs.map encTc).length : Int).toNat - ((i : Int)).toNat)).length = xs.length - i := by simp
theorem put_rest1 {xs : List Setting} {i : Nat} : (((xs.drop i).map encTc).drop (1 : Int).toNat).take ((((xs.drop i).map encTc).length : Int).toNat - (1 : Int).toNat) = (xs.drop (i + 1)).map encTc := by
  have : (1 : Int).toNat = 1 := rfl
  rw [this, List.take_of_length_le (by simp; omega), ← List.map_drop, List.drop_drop]
theorem put_at {xs : List Setting} {i : Nat} : ((xs.map encTc).drop ((0 : Int)).toNat).take (((i : Int)).toNat - ((0 : Int)).toNat) = (xs.take i).map encTc := by simp
theorem put_rest {xs : List Setting} {i : Nat} : ((xs.map encTc).drop ((i : Int)).toNat).take (((xs.map encTc).length : Int).toNat - ((i : Int)).toNat) = (xs.drop i).map encTc := by
  rw [List.take_of_length_le (by simp), Int.toNat_natCast, List.map_drop]
def namesOK (xs : List Setting) : Prop := ∀ i, i < xs.length → (xs.getD i default).n.size ≤ 9223372036854775807
theorem of_size {l : List ByteArray} {b : Nat} {x : ByteArray} (h : x ∈ l) (hb : ∀ z ∈ l, z.size ≤ b) : x.size ≤ b := hb x h
theorem names_iff {xs : List Setting} : namesOK xs ↔ ∀ x ∈ xs, x.n.size ≤ 9223372036854775807 := by
  constructor
  · intro h x hx
    obtain ⟨i, hi, rfl⟩ := List.getElem_of_mem hx
    simpa [List.getD_eq_getElem?_getD, hi] using h i hi
  · intro h i hi
    have := h xs[i] (List.getElem_mem hi)
    simpa [List.getD_eq_getElem?_getD, hi] using this
theorem names_snoc {xs : List Setting} {s : Setting} (h : namesOK xs) (hs : s.n.size ≤ 9223372036854775807) : namesOK (xs ++ [s]) := by
  rw [names_iff] at *
  intro x hx
  rcases List.mem_append.1 hx with h1 | h1
  · exact h x h1
  · rw [List.mem_singleton.1 h1]; exact hs
theorem put_len {xs : List Setting} {s : Setting} (h : ptOK xs s = true) : (putL xs s).length ≤ 33 := by
  have := ptT_len (xs := xs) (s := s)
  rw [ptT, if_pos h] at this
  exact this
theorem put_names {xs : List Setting} {s : Setting} (h : namesOK xs) (hs : s.n.size ≤ 9) : namesOK (putL xs s) := putL_names h (by omega)
end Go.Rf
