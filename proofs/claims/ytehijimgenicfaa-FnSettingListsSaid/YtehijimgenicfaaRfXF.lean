/- Rows with spare cells: cap, reslicing, growing by zeros, copying; texts that do not overlap. -/
import Derived.Test.YtehijimgenicfaaRfXB
import Derived.Lib.AppendZerosOnto
import Derived.Lib.Overlaps
import Derived.Laws.Externs
set_option linter.unusedVariables false
set_option linter.unusedSectionVars false
set_option linter.unusedSimpArgs false
namespace Go.Rf
open Go Go.RowKit
section
variable {P : Program} [Env P] {w0 : Base} {ops : Array Oper} {tb : List (Nat × TyI)} {o : Oper} {rest : List Oper} {T : List (Nat × AV)} {m : List (Nat × Option Row)} {nx nt d : Nat} {Q : Exit → St → Prop} {c : Code}
theorem RelC.spare {ρ : Nat → Value} {w : World} (hC : RelC w0 ρ m nx w) {id e sz : Nat} {ys gs : List (List Value)} (hm : mem m id = some (.spare e sz ys gs)) : ∃ g cur, ρ id = .slice (some ⟨g, 0, none⟩) ys.length (ys.length + gs.length) ∧ w0.w.heap.size ≤ g ∧ w.heap[g]? = some (.cells cur e (0, 0)) ∧ cur.toList = (ys ++ gs).flatten ∧ ys.length + gs.length ≤ maxLen ∧ ∀ c ∈ ys ++ gs, c.length = sz := (hC.rows id _ hm).2
/-- the same world, one row told in other words -/
theorem RelC.retell {ρ : Nat → Value} {w : World} (hC : RelC w0 ρ m nx w) {id : Nat} {row row' : Row} (hm : mem m id = some row) (hrow : RowRel w0.w ρ nx w id row') : RelC w0 ρ ((id, some row') :: m) nx w := by
  have hs : ∀ i r, mem ((id, some row') :: m) i = some r → (i = id ∧ r = row') ∨ (i ≠ id ∧ mem m i = some r) := fun i r hr => by
    by_cases e : id = i
    · subst e; rw [mem_cons_same] at hr; cases hr; exact .inl ⟨rfl, rfl⟩
    · rw [mem_cons_other e] at hr; exact .inr ⟨Ne.symm e, hr⟩
  have was : ∀ i r, mem ((id, some row') :: m) i = some r → ∃ r', mem m i = some r' := fun i r hr => by
    rcases hs i r hr with ⟨rfl, rfl⟩ | ⟨_, h⟩
    · exact ⟨_, hm⟩
    · exact ⟨_, h⟩
  refine ⟨fun i r hr => ?_, fun i i' r r' hr hr' => ?_, hC.below, hC.pin, hC.kept.1, hC.kept.2.1, fun i r hr => ?_⟩
  · rcases hs i r hr with ⟨rfl, rfl⟩ | ⟨_, h⟩
    · exact ⟨(hC.rows _ _ hm).1, hrow⟩
    · exact hC.rows i r h
  · obtain ⟨r1, h1⟩ := was i r hr
    obtain ⟨r2, h2⟩ := was i' r' hr'
    exact hC.apart i i' r1 r2 h1 h2
  · obtain ⟨r1, h1⟩ := was i r hr
    exact hC.kept.2.2 i r1 h1
/-- cells in pieces of 'sz' -/
def chunk (sz : Nat) : Nat → List Value → List (List Value)
  | 0, _ => []
  | n + 1, l => l.take sz :: chunk sz n (l.drop sz)
theorem chunk_len {sz : Nat} : ∀ {n : Nat} {l : List Value}, (chunk sz n l).length = n
  | 0, _ => rfl
  | n + 1, l => by simp [chunk, chunk_len]
theorem chunk_flat {sz : Nat} : ∀ {n : Nat} {l : List Value}, l.length = n * sz → (chunk sz n l).flatten = l ∧ ∀ c ∈ chunk sz n l, c.length = sz
  | 0, l, h => by
    have : l = [] := List.eq_nil_of_length_eq_zero (by omega)
    subst this
    exact ⟨rfl, by simp [chunk]⟩
  | n + 1, l, h => by
    rw [Nat.add_mul] at h
    obtain ⟨h1, h2⟩ := chunk_flat (sz := sz) (n := n) (l := l.drop sz) (by rw [List.length_drop]; omega)
    simp only [chunk, List.flatten_cons, h1, List.take_append_drop, true_and, List.mem_cons]
    rintro c (rfl | hc)
    · rw [List.length_take]; omega
    · exact h2 c hc
theorem WX_cap {x : Operand} {t id e sz e' sz' by_ : Nat} {zs : List Value} {ys : List (List Value)} (G : Good P tb) (ht : look t tb = some (.slice e' sz' by_ zs)) (hd : o.dst = some d) (hlt : Nat.blt d nt = true) (ho : o.op = .call { callee := .builtin .cap, args := #[x], argTypes := #[t] }) (hx : ev T x = some (.own id)) (hm : mem m id = some (.row e sz ys)) (hpos : 0 < ys.length)
    (hk : ∀ gs : List (List Value), ys.length + gs.length ≤ 9223372036854775807 → (∀ c ∈ ys, c.length = sz ∧ ∀ u ∈ c, u.oneCell' = true) → WL P w0 ops rest ⟨(d, .v (.int .i64 ((ys.length + gs.length : Nat) : Int))) :: T, (id, some (.spare e sz ys gs)) :: m, nx, nt⟩ Q) : WX P w0 ops o rest ⟨T, m, nx, nt⟩ Q := by
  intro ρ a w hT hC
  have h := hT.ev hx
  simp only [RelV] at h
  obtain ⟨hrow, hall⟩ := hC.row hm
  rcases hrow.2 with ⟨_, hz⟩ | ⟨g, cap, cur, hsl, hB, hb, hcap, hcapm, hcur, htake⟩
  · omega
  · have hdl : (cur.toList.drop (ys.length * sz)).length = (cap - ys.length) * sz := by rw [List.length_drop, Nat.sub_mul]; simp [hcur]
    obtain ⟨hf, hc⟩ := chunk_flat hdl
    have hgl : (chunk sz (cap - ys.length) (cur.toList.drop (ys.length * sz))).length = cap - ys.length := chunk_len
    have hfin := hk (chunk sz (cap - ys.length) (cur.toList.drop (ys.length * sz))) (by rw [hgl]; unfold maxLen at hcapm; omega) hall
    have e1 : ys.length + (cap - ys.length) = cap := by omega
    rw [hgl, e1] at hfin
    have hr : (execOp a.eval o).run P w = .ok (.value (.int .i64 cap)) w := by
      simp [execOp, ho, resolve, invoke, builtin, h.2, hsl, goInt, Builtin.cap_, run_underlying (G t _ ht).1]
    unfold Oper.wp
    rw [hr, Oper.upon_value, hd]
    refine hfin ρ _ w (hT.put hlt (by simp only [RelV])) (hC.retell hm ?_)
    simp only [RowRel]
    refine ⟨g, cur, by rw [hgl, e1]; exact hsl, hB, hb, ?_, by rw [hgl, e1]; exact hcapm, fun c hc' => ?_⟩
    · rw [List.flatten_append, hf, ← htake, List.take_append_drop]
    · rcases List.mem_append.1 hc' with hc' | hc'
      · exact (hall c hc').1
      · exact hc c hc'
theorem q_cut_spare {t e e' sz by_ id : Nat} {zs : List Value} {ys gs : List (List Value)} {x : Operand} {lo hi : Option Operand} {l h : Int} (G : Good P tb) (ho : o.op = .slice t x lo hi none) (ht : look t tb = some (.slice e sz by_ zs)) (hx : ev T x = some (.own id)) (hm : mem m id = some (.spare e' sz ys gs))
    (hl : bndA T 0 lo = some l) (hh : bndA T ys.length hi = some h) (h0 : 0 ≤ l) (h1 : l ≤ h) (h2 : h ≤ ys.length) (hpos : 0 < ys.length) : QStep P o T m nx nt (.sub id sz l.toNat (h.toNat - l.toNat)) :=
  QStep.run fun w0 ρ a w hT hC => by
    have hxe := hT.ev hx
    simp only [RelV] at hxe
    obtain ⟨g, cur, he, _⟩ := hC.spare hm
    refine ⟨.slice (if ys.length + gs.length = l.toNat then some ⟨g, 0, none⟩ else (some (⟨g, 0, none⟩ : Addr)).map (·.add (l.toNat * sz))) (h.toNat - l.toNat) (ys.length + gs.length - l.toNat), ?_, fun w' hC' => ?_⟩
    · simp only [RelV]
      refine ⟨hxe.1, _, _, rfl, by omega, fun hp => ?_, fun hl0 => ⟨ys.length, ?_, by omega⟩⟩
      · rw [if_neg (by omega)]
        exact ⟨g, _, _, he, by simp [Addr.add_lit]⟩
      · rw [he, hl0, if_neg (by omega)]
        simp [Addr.add_zero']
    · have := run_cut (G t _ ht) hT (A := some ⟨g, 0, none⟩) hl hh h0 h1 h2 (by omega : ys.length ≤ ys.length + gs.length) w'
      simp only [execOp, ho, hxe.2, he, Option.map_none, this, Sem.run_bind, Result.andThen_ok, Sem.run_pure]
theorem run_reslice {t e sz by_ : Nat} {zs : List Value} (G : TyOK P t (.slice e sz by_ zs)) {A : Addr} {n cap N : Nat} {k : IntKind} (hn : n ≤ cap) (hN : N ≤ cap) (hpos : 0 < N) (w : World) :
    (Instr.sliceAt t (.slice (some A) n cap) none (some (.int k N)) none).run P w = .ok (.slice (some A) N cap) w := by
  obtain ⟨hu, _, i, z, hi', hs, _⟩ := G
  have h1 : ¬ ((N : Int) < 0) := by omega
  have h2 : (N : Int) ≤ cap := by omega
  have h3 : ¬ cap = 0 := by omega
  have hh1 : (0 : Int) ≤ (N : Int) := by omega
  have hcap2 : (n : Int) ≤ (cap : Int) := by omega
  simp [Instr.sliceAt, Instr.slice, run_underlying hu, Instr.sliceBounds, Instr.sliceBound, asIntOf, sizeOf, typeInfo, hi', hs, h1, h2, h3, hh1, hcap2, Addr.add_zero']
  intro hlt
  omega
theorem WX_reslice {t e e' sz by_ id N : Nat} {zs : List Value} {ys gs : List (List Value)} {x y : Operand} {k : IntKind} {h : Int} (G : Good P tb) (nx' : Nat) (hn' : Nat.beq nx' (Nat.succ nx) = true) (hd : o.dst = some d) (hlt : Nat.blt d nt = true) (ho : o.op = .slice t x none (some y) none) (ht : look t tb = some (.slice e sz by_ zs)) (hx : ev T x = some (.own id)) (hm : mem m id = some (.spare e' sz ys gs))
    (hy : ev T y = some (.v (.int k h))) (hN : h = (N : Int)) (hle : N ≤ ys.length + gs.length) (hpos : 0 < N)
    (hk : WL P w0 ops rest ⟨(d, .own nx) :: T, (nx, some (.spare e' sz ((ys ++ gs).take N) ((ys ++ gs).drop N))) :: (id, none) :: m, nx', nt⟩ Q) : WX P w0 ops o rest ⟨T, m, nx, nt⟩ Q := by
  have hn'' := Nat.eq_of_beq_eq_true hn'
  subst hn''
  subst hN
  intro ρ a w hT hC
  have hxe := hT.ev hx
  have hye := hT.ev hy
  simp only [RelV] at hxe hye
  obtain ⟨g, cur, he, hB, hb, hcur, hmax, hall⟩ := hC.spare hm
  have hr : (execOp a.eval o).run P w = .ok (.value (.slice (some ⟨g, 0, none⟩) N (ys.length + gs.length))) w := by
    simp only [execOp, ho, hxe.2, he, Option.map_some, Option.map_none, hye, run_reslice (P := P) (G t _ ht) (by omega : ys.length ≤ ys.length + gs.length) hle hpos w, Sem.run_bind, Result.andThen_ok, Sem.run_pure]
  have hsub : ∀ i r, mem ((id, none) :: m) i = some r → mem m i = some r ∧ i ≠ id := fun i r hr => by
    by_cases e : id = i
    · subst e; rw [mem_cons_same] at hr; cases hr
    · rw [mem_cons_other e] at hr; exact ⟨hr, Ne.symm e⟩
  have hC2 : RelC w0 ρ ((id, none) :: m) nx w := ⟨fun i r hr => hC.rows i r (hsub i r hr).1, fun i i' r r' hr hr' => hC.apart i i' r r' (hsub i r hr).1 (hsub i' r' hr').1, hC.below, hC.pin, hC.kept.1, hC.kept.2.1, fun i r hr => hC.kept.2.2 i r (hsub i r hr).1⟩
  have hbk : blk (ρ id) = some g := by rw [he]; rfl
  unfold Oper.wp
  rw [hr, Oper.upon_value, hd]
  refine hk (upd ρ nx (.slice (some ⟨g, 0, none⟩) N (ys.length + gs.length))) _ w ((hT.add _).put hlt ?_) (hC2.add ?_ ?_ ?_)
  · simp only [RelV]
    exact ⟨by omega, by rw [upd_same]⟩
  · simp only [RowRel]
    have hlen : (ys ++ gs).length = ys.length + gs.length := List.length_append
    have h1 : ((ys ++ gs).take N).length = N := by rw [List.length_take]; omega
    have h2 : ((ys ++ gs).drop N).length = ys.length + gs.length - N := by rw [List.length_drop]; omega
    refine ⟨g, cur, by rw [upd_same, h1, h2]; congr 1; omega, hB, hb, by rw [List.take_append_drop]; exact hcur, by rw [h1, h2]; omega, by rw [List.take_append_drop]; exact hall⟩
  · intro i r hr b hbb hy'
    obtain ⟨h1, h2⟩ := hsub i r hr
    simp [blk] at hy'
    exact hC.apart i id _ _ h1 hm h2 b hbb (by rw [hbk, hy'])
  · intro b hb'
    simp [blk] at hb'
    subst hb'
    exact hC.kept.2.2 id _ hm _ hbk
/-- the spare cells are forgotten -/
theorem W_row {id e sz : Nat} {ys gs : List (List Value)} (hm : mem m id = some (.spare e sz ys gs)) (hall : ∀ c ∈ ys, ∀ u ∈ c, u.oneCell' = true) (h : W P w0 c ⟨T, (id, some (.row e sz ys)) :: m, nx, nt⟩ Q) : W P w0 c ⟨T, m, nx, nt⟩ Q := by
  intro ρ a w hT hC
  obtain ⟨g, cur, he, hB, hb, hcur, hmax, hl⟩ := hC.spare hm
  refine h ρ a w hT (hC.retell hm ?_)
  have hly : ∀ c ∈ ys, c.length = sz := fun c hc => hl c (List.mem_append_left _ hc)
  have hfl := flatten_length (ys := ys) (sz := sz) hly
  have hfl2 := flatten_length (ys := ys ++ gs) (sz := sz) hl
  refine ⟨⟨hfl, .inr ⟨g, ys.length + gs.length, cur, he, hB, hb, by omega, hmax, ?_, ?_⟩⟩, fun c hc => ⟨hly c hc, hall c hc⟩⟩
  · have := congrArg List.length hcur
    rw [hfl2, List.length_append] at this
    simpa using this
  · rw [hcur, List.flatten_append, ← hfl, List.take_append_of_le_length (Nat.le_refl _), List.take_length]
/-- what a copy does, for elements of any size -/
theorem run_copy_at {dT sT ty e sz : Nat} {inf : TypeInfo} (hu : P.underlying dT = some (.slice e)) (hi : P.info? e = some inf) (hsz : inf.size = sz) {w : World} {g off dLen dCap : Nat} {a : Addr} {sLen sCap : Nat} {cur : Array Value} {t : TypeId} {vs : List (List Value)} (hg : w.heap[g]? = some (.cells cur t (0, 0)))
    (hn : vs.length = Nat.min sLen dLen) (hl : ∀ c ∈ vs, c.length = sz ∧ ∀ u ∈ c, u.oneCell' = true) (hsrc : ∀ j v, vs.flatten[j]? = some v → w.cell? (a.add j) = some v) (hfit : off + vs.flatten.length ≤ cur.size) :
    (Builtin.copy_ #[dT, sT] ty #[.slice (some ⟨g, off, none⟩) dLen dCap, .slice (some a) sLen sCap]).run P w = .ok (goInt vs.length) (w.setRow g (cur.toList.take off ++ vs.flatten ++ cur.toList.drop (off + vs.flatten.length)).toArray) := by
  have hfl := flatten_length (ys := vs) (sz := sz) (fun c hc => (hl c hc).1)
  have hf := run_firstCells_some (P := P) w sz vs.length a sLen sCap vs.flatten hfl hsrc
  have hst := run_storeCells_at (P := P) g off t vs.flatten 0 cur w hg (by simpa using hfit) (fun u hu => by
    obtain ⟨c, hc, hu⟩ := List.mem_flatten.1 hu
    exact (hl c hc).2 u hu)
  simp only [Nat.add_zero] at hst
  simp [Builtin.copy_, run_underlying hu, Builtin.lenOf, sizeOf, typeInfo, hi, hsz, ← hn, hf, hst]
/-- an operand reads as these elements, the world being as it is -/
def SrcOK (m : List (Nat × Option Row)) (nx sz : Nat) (av : AV) (vs : List (List Value)) : Prop :=
  ∀ (w0 : Base) ρ w y, RelC w0 ρ m nx w → RelV w0.w ρ nx av y → ∃ A cap, y = .slice A vs.length cap ∧ (0 < vs.length → ∃ ad, A = some ad ∧ ∀ j v, vs.flatten[j]? = some v → w.cell? (ad.add j) = some v)
theorem SrcOK.of {sz : Nat} {av : AV} {vs : List (List Value)} (hs : ∀ c ∈ vs, c.length = sz) (h : ArgOK m nx av (.lst sz vs)) (hpos : 0 < sz) : SrcOK m nx sz av vs := by
  intro w0 ρ w y hC hy
  have hr := h w0 ρ w y hC hy
  simp only [RelV] at hr
  obtain ⟨A, cap, he, _, hall, hA⟩ := hr
  refine ⟨A, cap, he, fun h0 => ?_⟩
  obtain ⟨ad, h1, _, h3⟩ := hA h0
  refine ⟨ad, h1, fun j v hj => ?_⟩
  have hlt : j < vs.length * sz := by rw [← flatten_length (sz := sz) hs]; exact (List.getElem?_eq_some_iff.1 hj).1
  have hdiv : j / sz < vs.length := Nat.div_lt_of_lt_mul (by rw [Nat.mul_comm]; exact hlt)
  have hmod : j % sz < sz := Nat.mod_lt _ hpos
  have hc : vs[j / sz]? = some vs[j / sz] := List.getElem?_eq_getElem hdiv
  have e1 : j / sz * sz + j % sz = j := by rw [Nat.mul_comm]; exact Nat.div_add_mod j sz
  have h4 := flatten_at (ys := vs) (sz := sz) hs hc hmod
  rw [e1, hj] at h4
  have := h3 _ _ hc (j % sz) v h4.symm
  rwa [e1] at this
theorem SrcOK.spare {id e sz i n : Nat} {ys gs : List (List Value)} (hm : mem m id = some (.spare e sz ys gs)) (hle : i + n ≤ ys.length) : SrcOK m nx sz (.sub id sz i n) ((ys.drop i).take n) := by
  intro w0 ρ w y hC hy
  simp only [RelV] at hy
  obtain ⟨hn, A, cap, rfl, hcap, hA, _⟩ := hy
  obtain ⟨g, cur, hρ, hB, hb, hcur, _, hall⟩ := hC.spare hm
  have hl : ((ys.drop i).take n).length = n := by rw [List.length_take, List.length_drop]; omega
  refine ⟨A, cap, by rw [hl], fun h0 => ?_⟩
  rw [hl] at h0
  obtain ⟨g', l, c, hg, rfl⟩ := hA h0
  have hgg : g = g' := by rw [hρ] at hg; simp at hg; exact hg.1
  subst hgg
  refine ⟨_, rfl, fun j v hj => ?_⟩
  have hly : ∀ c ∈ ys, c.length = sz := fun c hc => hall c (List.mem_append_left _ hc)
  have hd : (ys.drop i).flatten = ys.flatten.drop (i * sz) := flatten_drop hly (by omega)
  have hly2 : ∀ c ∈ ys.drop i, c.length = sz := fun c hc => hly c (List.mem_of_mem_drop hc)
  have ht : ((ys.drop i).take n).flatten = (ys.drop i).flatten.take (n * sz) := flatten_take hly2 (by rw [List.length_drop]; omega)
  rw [ht, hd, List.getElem?_take] at hj
  split at hj
  · rw [List.getElem?_drop] at hj
    rw [Addr.add_lit, heap_cell hb, hcur, List.flatten_append, List.getElem?_append_left (List.getElem?_eq_some_iff.1 hj).1]
    exact hj
  · cases hj
/-- a copy into a row of the call's own -/
theorem WX_copy_row {x y : Operand} {dT sT e sz by_ id n i : Nat} {zs : List Value} {ys vs : List (List Value)} {ay : AV} (G : Good P tb) (hd : o.dst = some d) (hlt : Nat.blt d nt = true) (ho : o.op = .call { callee := .builtin .copy, args := #[x, y], argTypes := #[dT, sT] }) (ht : look dT tb = some (.slice e sz by_ zs))
    (hx : ev T x = some (.sub id sz i n)) (hm : mem m id = some (.row e sz ys)) (hy : ev T y = some ay) (hs : SrcOK m nx sz ay vs) (hvs : ∀ c ∈ vs, c.length = sz ∧ ∀ u ∈ c, u.oneCell' = true) (hn : vs.length ≤ n) (hle : i + n ≤ ys.length) (hpos : 0 < vs.length)
    (hk : WL P w0 ops rest ⟨(d, .v (.int .i64 (vs.length : Int))) :: T, (id, some (.row e sz (ys.take i ++ vs ++ ys.drop (i + vs.length)))) :: m, nx, nt⟩ Q) : WX P w0 ops o rest ⟨T, m, nx, nt⟩ Q := by
  intro ρ a w hT hC
  obtain ⟨hu, _, inf, z, hi, hsz, _⟩ := G dT _ ht
  have hax := hT.ev hx
  simp only [RelV] at hax
  obtain ⟨hid, A, cap, hex, hcap, hA, _⟩ := hax
  obtain ⟨g, l, c, hg, rfl⟩ := hA (by omega)
  obtain ⟨A', cap', hey, hsrc⟩ := hs w0 ρ w _ hC (hT.ev hy)
  obtain ⟨ad, rfl, hsrc2⟩ := hsrc hpos
  obtain ⟨hrow, hall⟩ := hC.row hm
  rcases hrow.2 with ⟨hnil, _⟩ | ⟨g', cp, cur, hsl, hB, hb, hcp, hcpm, hcur, htake⟩
  · rw [hg] at hnil; cases hnil
  · have hgg : g = g' ∧ l = ys.length ∧ c = cp := by rw [hg] at hsl; simpa using hsl
    obtain ⟨rfl, rfl, rfl⟩ := hgg
    have hfl := flatten_length (ys := vs) (sz := sz) (fun c hc => (hvs c hc).1)
    have hb1 : (i + vs.length) * sz ≤ ys.length * sz := Nat.mul_le_mul_right _ (by omega)
    have hb2 : ys.length * sz ≤ cur.size := by rw [hcur]; exact Nat.mul_le_mul_right _ hcp
    rw [Nat.add_mul] at hb1
    have hrun := run_copy_at (P := P) (sT := sT) (ty := o.type) (dLen := n) (dCap := cap) (sLen := vs.length) (sCap := cap') hu hi hsz hb (by simp only [Nat.min_def]; split <;> omega) hvs hsrc2 (off := i * sz) (by omega)
    have hr : (execOp a.eval o).run P w = .ok (.value (goInt vs.length)) (w.setRow g (cur.toList.take (i * sz) ++ vs.flatten ++ cur.toList.drop (i * sz + vs.flatten.length)).toArray) := by
      simp only [execOp, ho, resolve, invoke, builtin, Sem.run_bind, Sem.run_pure, Result.andThen_ok, List.map_toArray, List.map_cons, List.map_nil, hex, hey, hrun]
    unfold Oper.wp
    rw [hr, Oper.upon_value, hd]
    have hall' : ∀ c ∈ ys.take i ++ vs ++ ys.drop (i + vs.length), c.length = sz ∧ ∀ u ∈ c, u.oneCell' = true := by
      intro c hc
      simp only [List.mem_append] at hc
      rcases hc with (hc | hc) | hc
      · exact hall c (List.mem_of_mem_take hc)
      · exact hvs c hc
      · exact hall c (List.mem_of_mem_drop hc)
    have hlen : (ys.take i ++ vs ++ ys.drop (i + vs.length)).length = ys.length := by simp; omega
    refine hk ρ _ _ (hT.put hlt (by simp only [RelV]; rfl)) (hC.change hm (by rw [hsl]; rfl) (grownBy_setRow w g _) hB ⟨⟨?_, .inr ⟨g, c, _, by rw [hlen]; exact hsl, hB, setRow_heap w g cur _ e _ hb, by omega, hcpm, ?_, ?_⟩⟩, hall'⟩)
    · rw [flatten_length (fun c hc => (hall' c hc).1)]
    · simp [hfl]; omega
    · rw [hlen]
      simp only [List.flatten_append]
      rw [flatten_take (fun c hc => (hall c hc).1) (by omega), flatten_drop (fun c hc => (hall c hc).1) (by omega), ← htake, hfl]
      have hlt1 : (List.take (i * sz) cur.toList).length = i * sz := by rw [List.length_take]; simp; omega
      simp only [List.take_append, List.take_take, List.drop_take, List.length_append, hlt1, hfl]
      rw [Nat.min_eq_left (by omega : i * sz ≤ ys.length * sz), Nat.min_eq_right (by omega : i * sz ≤ ys.length * sz)]
      rw [List.take_of_length_le (l := vs.flatten) (by omega), Nat.add_mul]
/-- .. into a row with spare cells -/
theorem WX_copy_spare {x y : Operand} {dT sT e sz by_ id n i : Nat} {zs : List Value} {ys gs vs : List (List Value)} {ay : AV} (G : Good P tb) (hd : o.dst = some d) (hlt : Nat.blt d nt = true) (ho : o.op = .call { callee := .builtin .copy, args := #[x, y], argTypes := #[dT, sT] }) (ht : look dT tb = some (.slice e sz by_ zs))
    (hx : ev T x = some (.sub id sz i n)) (hm : mem m id = some (.spare e sz ys gs)) (hy : ev T y = some ay) {L : Nat} {us : List (List Value)} (hs : SrcOK m nx sz ay us) (hL : Nat.min us.length n = L) (hvs : vs = us.take L) (hone : ∀ c ∈ vs, ∀ u ∈ c, u.oneCell' = true) (hszs : ∀ c ∈ vs, c.length = sz) (hle : i + n ≤ ys.length) (hpos : 0 < L)
    (hk : WL P w0 ops rest ⟨(d, .v (.int .i64 (vs.length : Int))) :: T, (id, some (.spare e sz (ys.take i ++ vs ++ ys.drop (i + vs.length)) gs)) :: m, nx, nt⟩ Q) : WX P w0 ops o rest ⟨T, m, nx, nt⟩ Q := by
  intro ρ a w hT hC
  obtain ⟨hu, _, inf, z, hi, hsz, _⟩ := G dT _ ht
  have hax := hT.ev hx
  simp only [RelV] at hax
  obtain ⟨hid, A, cap, hex, hcap, hA, _⟩ := hax
  have hmin : L ≤ us.length ∧ L ≤ n := by simp only [Nat.min_def] at hL; split at hL <;> omega
  obtain ⟨g, l, c, hg, rfl⟩ := hA (by omega)
  obtain ⟨A', cap', hey, hsrc⟩ := hs w0 ρ w _ hC (hT.ev hy)
  obtain ⟨ad, rfl, hsrc2⟩ := hsrc (by omega)
  obtain ⟨g', cur, hsl, hB, hb, hcur, hmax, hall⟩ := hC.spare hm
  have hgg : g = g' := by rw [hg] at hsl; simp at hsl; exact hsl.1
  subst hgg
  have hvl : vs.length = L := by rw [hvs, List.length_take]; omega
  have hfl := flatten_length (ys := vs) (sz := sz) hszs
  have hcl : cur.toList.length = (ys.length + gs.length) * sz := by rw [hcur, flatten_length hall, List.length_append]
  have hcs : cur.size = (ys.length + gs.length) * sz := by rw [← hcl]; simp
  have hb1 : (i + vs.length) * sz ≤ (ys.length + gs.length) * sz := Nat.mul_le_mul_right _ (by omega)
  rw [Nat.add_mul] at hb1
  have hsrc' : ∀ j v, vs.flatten[j]? = some v → w.cell? (ad.add j) = some v := fun j v hj => by
    refine hsrc2 j v ?_
    have : us.flatten = vs.flatten ++ (us.drop L).flatten := by rw [hvs, ← List.flatten_append, List.take_append_drop]
    rw [this, List.getElem?_append_left (List.getElem?_eq_some_iff.1 hj).1]
    exact hj
  have hrun := run_copy_at (P := P) (sT := sT) (ty := o.type) (dLen := n) (dCap := cap) (sLen := us.length) (sCap := cap') hu hi hsz hb (by rw [hvl, hL]) (fun c hc => ⟨hszs c hc, hone c hc⟩) hsrc' (off := i * sz) (by omega)
  have hr : (execOp a.eval o).run P w = .ok (.value (goInt vs.length)) (w.setRow g (cur.toList.take (i * sz) ++ vs.flatten ++ cur.toList.drop (i * sz + vs.flatten.length)).toArray) := by
    simp only [execOp, ho, resolve, invoke, builtin, Sem.run_bind, Sem.run_pure, Result.andThen_ok, List.map_toArray, List.map_cons, List.map_nil, hex, hey, hrun]
  unfold Oper.wp
  rw [hr, Oper.upon_value, hd]
  have hlen : (ys.take i ++ vs ++ ys.drop (i + vs.length)).length = ys.length := by simp; omega
  have hly : ∀ c ∈ ys, c.length = sz := fun c hc => hall c (List.mem_append_left _ hc)
  refine hk ρ _ _ (hT.put hlt (by simp only [RelV]; rfl)) (hC.change hm (by rw [hsl]; rfl) (grownBy_setRow w g _) hB ?_)
  simp only [RowRel]
  refine ⟨g, _, by rw [hlen]; exact hsl, hB, setRow_heap w g cur _ e _ hb, ?_, by rw [hlen]; exact hmax, fun c hc => ?_⟩
  · rw [hcur, List.flatten_append, hfl]
    have f1 := flatten_take (ys := ys) (sz := sz) hly (by omega : i ≤ ys.length)
    have f2 := flatten_drop (ys := ys) (sz := sz) hly (by omega : i + vs.length ≤ ys.length)
    have fy := flatten_length (ys := ys) (sz := sz) hly
    have hb3 : (i + vs.length) * sz ≤ ys.length * sz := Nat.mul_le_mul_right _ (by omega)
    rw [Nat.add_mul] at hb3
    rw [List.take_append_of_le_length (by omega), List.drop_append_of_le_length (by omega)]
    simp only [List.flatten_append, f1, f2, Nat.add_mul, List.append_assoc]
  · simp only [List.mem_append] at hc
    rcases hc with ((hc | hc) | hc) | hc
    · exact hly c (List.mem_of_mem_take hc)
    · exact hszs c hc
    · exact hly c (List.mem_of_mem_drop hc)
    · exact hall c (List.mem_append_right _ hc)
/-- append(s[:i], make(..)...) where there is no room: a new row -/
theorem WX_growmake {x y : Operand} {t tn tr e sz by_ id i k : Nat} {zs : List Value} {zn : Value} {ys gs : List (List Value)} {kk : IntKind} {q : Int} (G : Good P tb) (nx' : Nat) (hn' : Nat.beq nx' (Nat.succ nx) = true) (hd : o.dst = some d) (hlt : Nat.blt d nt = true) (ho : o.op = .call { callee := .builtin .append, args := #[x, y], argTypes := #[t, tn] }) (ht : look t tb = some (.slice e sz by_ zs)) (htn : look tn tb = some (.flat (.int .i64) zn))
    (hx : ev T x = some (.sub id sz 0 i)) (hm : mem m id = some (.spare tr sz ys gs)) (hy : ev T y = some (.v (.int kk q))) (hq : q = (k : Int)) (hk0 : 0 < k) (hi : i ≤ ys.length) (hroom : ys.length + gs.length < i + k) (hbig : (i + k) * by_ ≤ 140737488355328) (hbig2 : i + k ≤ 9223372036854775807) (hone : ∀ c ∈ ys, ∀ u ∈ c, u.oneCell' = true) (hpos : 0 < ys.length)
    (hk : WL P w0 ops rest ⟨(d, .own nx) :: T, (nx, some (.row e sz (ys.take i ++ List.replicate k zs))) :: m, nx', nt⟩ Q) : WX P w0 ops o rest ⟨T, m, nx, nt⟩ Q := by
  have hn'' := Nat.eq_of_beq_eq_true hn'
  subst hn''
  subst hq
  intro ρ a w hT hC
  obtain ⟨hu, _, inf, z, hinf, hsz, hby, hz, hzc, hzl, hzpos, hzone⟩ := G t _ ht
  have htn' : P.underlying tn = some (.int .i64) := (G tn _ htn).1
  have hax := hT.ev hx
  have hay := hT.ev hy
  simp only [RelV] at hax hay
  obtain ⟨hid, A, cap, hex, hcap, hA, hA0⟩ := hax
  obtain ⟨l0, hl0, _⟩ := hA0 trivial
  obtain ⟨g, cur, hsl, hB, hb, hcur, hmax, hall⟩ := hC.spare hm
  have hAg : A = some ⟨g, 0, none⟩ ∧ cap = ys.length + gs.length := by rw [hl0] at hsl; simp at hsl; exact ⟨hsl.1, hsl.2.2⟩
  obtain ⟨rfl, rfl⟩ := hAg
  have hly : ∀ c ∈ ys, c.length = sz := fun c hc => hall c (List.mem_append_left _ hc)
  have hti : (ys.take i).length = i := by rw [List.length_take]; omega
  have hft : (ys.take i).flatten = ys.flatten.take (i * sz) := flatten_take hly hi
  have hfl : (ys.take i).flatten.length = i * inf.size := by rw [flatten_length (sz := sz) (fun c hc => hly c (List.mem_of_mem_take hc)), hti, hsz]
  have hold : (Builtin.firstCells inf.size i (.slice (some ⟨g, 0, none⟩) i (ys.length + gs.length))).run P w.drew = .ok (ys.take i).flatten.toArray w.drew :=
    run_firstCells_some w.drew inf.size i ⟨g, 0, none⟩ i _ (ys.take i).flatten hfl (fun j v hj => by
      have hb' : w.drew.heap[g]? = some (.cells cur tr (0, 0)) := hb
      rw [Addr.add_lit, heap_cell hb', Nat.zero_add, hcur, List.flatten_append]
      rw [hft, List.getElem?_take] at hj
      split at hj
      · rw [List.getElem?_append_left (List.getElem?_eq_some_iff.1 hj).1]; exact hj
      · cases hj)
  have hrun := Lib.run_append_grow_zeros (P := P) w t tn o.type e inf z kk .i64 hu htn' hinf hz (some ⟨g, 0, none⟩) i (ys.length + gs.length) (ys.take i).flatten hold k hk0 (by omega) hroom (by omega) (by
    rw [hby]
    have : k * by_ ≤ (i + k) * by_ := Nat.mul_le_mul_right _ (by omega)
    omega) (by rw [hby]; exact growslice_fits hroom hbig)
  have hr : (execOp a.eval o).run P w = .ok (.value (.slice (some ⟨w.heap.size, 0, none⟩) (i + k) (grownCap w (i + k) (ys.length + gs.length) e))) (w.drew.alloc (.cells ((ys.take i).flatten.toArray ++ Builtin.zeroCells z.cells k ++ Builtin.zeroCells z.cells (grownCap w (i + k) (ys.length + gs.length) e - (i + k))) e)) := by
    simp only [execOp, ho, resolve, invoke, builtin, Sem.run_bind, Sem.run_pure, Result.andThen_ok, List.map_toArray, List.map_cons, List.map_nil, hex, hay, hrun]
  unfold Oper.wp
  rw [hr, Oper.upon_value, hd]
  have hb2 : Below w.heap.size w (w.drew.alloc (.cells ((ys.take i).flatten.toArray ++ Builtin.zeroCells z.cells k ++ Builtin.zeroCells z.cells (grownCap w (i + k) (ys.length + gs.length) e - (i + k))) e)) := ((Below.refl _ _).drew).alloc (Nat.le_refl _) _
  have hge := grownCap_ge w (i + k) (ys.length + gs.length) e
  have hle := grownCap_le_maxLen w (i + k) (ys.length + gs.length) e (by unfold maxLen; omega)
  have hzf : (Builtin.zeroCells z.cells k).toList = (List.replicate k zs).flatten := by rw [hzc]; exact zero_flat (by omega) k
  have hzs : ∀ n, (Builtin.zeroCells z.cells n).size = n * sz := fun n => by
    have h := congrArg List.length (zero_flat (zs := zs) (by omega) n)
    rw [flatten_length (sz := zs.length) (fun c hc => by rw [(List.mem_replicate.1 hc).2]), List.length_replicate, hzl] at h
    rw [hzc]
    simpa using h
  refine hk (upd ρ nx (.slice (some ⟨w.heap.size, 0, none⟩) (i + k) (grownCap w (i + k) (ys.length + gs.length) e))) _ _ ((hT.add _).put hlt ?_) ((hC.trans hb2).add ?_ ?_ (fun b hb => (by simp [blk] at hb; subst hb; exact hC.fresh (Nat.le_refl _))))
  · simp only [RelV]
    exact ⟨by omega, by rw [upd_same]⟩
  · have hlen : (ys.take i ++ List.replicate k zs).length = i + k := by rw [List.length_append, hti, List.length_replicate]
    have hall' : ∀ c ∈ ys.take i ++ List.replicate k zs, c.length = sz ∧ ∀ u ∈ c, u.oneCell' = true := fun c hc => by
      rcases List.mem_append.1 hc with hc | hc
      · exact ⟨hly c (List.mem_of_mem_take hc), hone c (List.mem_of_mem_take hc)⟩
      · rw [(List.mem_replicate.1 hc).2]; exact ⟨hzl, hzone⟩
    have hfl3 := flatten_length (ys := ys.take i ++ List.replicate k zs) (sz := sz) (fun c hc => (hall' c hc).1)
    refine ⟨⟨hfl3, .inr ⟨w.heap.size, _, _, by rw [upd_same, hlen], hC.below.size, heap_alloc_new w.drew _, by rw [hlen]; exact hge, hle, ?_, ?_⟩⟩, hall'⟩
    · simp only [Array.size_append, hzs, List.size_toArray, hfl, hsz]
      rw [← Nat.add_mul, ← Nat.add_mul]
      congr 1
      omega
    · rw [hlen] at hfl3 ⊢
      simp only [Array.toList_append]
      rw [List.take_append_of_le_length (by simp [hzs, hfl, hsz, Nat.add_mul]), hzf, ← List.flatten_append, ← hfl3, List.take_length]
  · intro id' row hm' b hb'
    have := hC.lt hm' hb'
    simp [blk]
    omega
theorem q_overlaps {x y : Operand} {f : FuncId} {fn : Func} {ts : Array TypeId} {t tr e e' sz by_ id id' i n sz' : Nat} {zs : List Value} {ys ys' gs' : List (List Value)} (G : Good P tb) (hf : P.funcs[f]? = some fn) (hname : (fn.name == "runtime.NumGoroutine") = false) (hb : fn.body.isNone = true) (hn : Extern.findNext fn = none) (he : Extern.find fn = some (Extern.SlicesOverlaps.overlaps #[t, t] #[tr]))
    (ho : o.op = .call { callee := .value (.func f), args := #[x, y], argTypes := ts }) (ht : look t tb = some (.slice e sz by_ zs)) (hx : ev T x = some (.own id)) (hm : mem m id = some (.row e' sz ys)) (hpos : 0 < ys.length) (hy : ev T y = some (.sub id' sz' i n)) (hm' : mem m id' = some (.spare e sz ys' gs')) (hne : Nat.beq id id' = false) (hn0 : 0 < n) (hsz : 0 < sz) (hpos' : 0 < ys'.length) : QStep P o T m nx nt (.v (.bool false)) :=
  QStep.run fun w0 ρ a w hT hC => by
    have h1 := hT.ev hx
    have h2 := hT.ev hy
    simp only [RelV] at h1 h2
    obtain ⟨hid', A, cap, hey, hcap, hA, _⟩ := h2
    obtain ⟨g', l, c, hg', rfl⟩ := hA hn0
    refine ⟨.bool false, by simp only [RelV], fun w' hC' => ?_⟩
    obtain ⟨hrow, _⟩ := hC'.row hm
    obtain ⟨g2, cur', hsl', hB', hb', hcur', hmax', hall'⟩ := hC'.spare hm'
    have hgg : g' = g2 := by rw [hg'] at hsl'; simp at hsl'; exact hsl'.1
    subst hgg
    rcases hrow.2 with ⟨_, hz⟩ | ⟨g, cp, cur, hsl, hB, hbb, hcp, hcpm, hcur, _⟩
    · omega
    · have hgne : g ≠ g' := fun e => hC'.apart id id' _ _ hm hm' (beq_ne hne) g (by rw [hsl]; rfl) (by rw [hsl', e]; rfl)
      obtain ⟨_, _, inf, z, hinf, hs2, _⟩ := G t _ ht
      have hu := (G t _ ht).1
      have hk : cur'.size ≠ 0 := by
        have h3 := congrArg List.length hcur'
        rw [flatten_length hall', List.length_append] at h3
        simp at h3
        rw [h3]
        exact Nat.pos_iff_ne_zero.mp (Nat.mul_pos (by omega) hsz)
      have hrun := Lib.run_overlaps_apart (P := P) w' t tr e hu sz (fun w => by simp [Go.sizeOf, typeInfo, hinf, hs2]) ⟨g, 0, none⟩ ⟨g', i * sz', none⟩ ys.length cp n cap hgne e' e cur.size cur'.size (by simp [World.shape?, hbb]) (by simp [World.shape?, hb']) hk (by simp [World.frozen?, hbb]) (by simp [World.frozen?, hbb])
      have hext := run_callFunc_extern hf hname hb hn he #[a.eval x, a.eval y] w'
      rw [h1.2, hsl, hey] at hext
      have e1 : (callFunc f #[a.eval x, a.eval y]).run P w' = .ok (.value (.bool false)) w' := by
        rw [h1.2, hsl, hey, hext, hrun]; rfl
      have e2 : (execOp a.eval o).run P w' = (callFunc f #[a.eval x, a.eval y]).run P w' := by
        have hev : a.eval (.func f) = .func (.func f) #[] #[] := rfl
        simp only [execOp, ho, resolve, hev, Deferred.ofValue, invoke, List.map_toArray, List.map_cons, List.map_nil]
        simp
      rw [e2, e1]
theorem ins_grow {α : Type} {l z : List α} {v : α} {i : Nat} (hi : i ≤ l.length) (hz : z.length = l.length + 1 - i) :
    (((l.take i ++ z).take i ++ [v] ++ (l.take i ++ z).drop (i + 1)).take (i + 1) ++ l.drop i ++ ((l.take i ++ z).take i ++ [v] ++ (l.take i ++ z).drop (i + 1)).drop (i + 1 + (l.length - i))) = l.take i ++ [v] ++ l.drop i := by
  have hti : (l.take i).length = i := by rw [List.length_take]; omega
  have e1 : (l.take i ++ z).take i = l.take i := by rw [List.take_append_of_le_length (by omega), List.take_take, Nat.min_self]
  have hlen : (l.take i ++ [v] ++ (l.take i ++ z).drop (i + 1)).length = l.length + 1 := by simp; omega
  rw [e1]
  have e2 : (l.take i ++ [v] ++ (l.take i ++ z).drop (i + 1)).take (i + 1) = l.take i ++ [v] := by
    rw [List.take_append_of_le_length (by rw [List.length_append, hti]; exact Nat.le_refl _), List.take_of_length_le (by rw [List.length_append, hti]; exact Nat.le_refl _)]
  have e3 : (l.take i ++ [v] ++ (l.take i ++ z).drop (i + 1)).drop (i + 1 + (l.length - i)) = [] := List.drop_of_length_le (by omega)
  rw [e2, e3, List.append_nil]
theorem ins_room {α : Type} {l g : List α} {v : α} {i : Nat} (hi : i ≤ l.length) (hg : 0 < g.length) :
    ((((l ++ g).take (l.length + 1)).take (i + 1) ++ l.drop i ++ ((l ++ g).take (l.length + 1)).drop (i + 1 + (l.length - i))).take i ++ [v] ++ (((l ++ g).take (l.length + 1)).take (i + 1) ++ l.drop i ++ ((l ++ g).take (l.length + 1)).drop (i + 1 + (l.length - i))).drop (i + 1)) = l.take i ++ [v] ++ l.drop i := by
  have hY : ((l ++ g).take (l.length + 1)).length = l.length + 1 := by simp; omega
  have e0 : ((l ++ g).take (l.length + 1)).drop (i + 1 + (l.length - i)) = [] := List.drop_of_length_le (by omega)
  rw [e0, List.append_nil]
  have hT : (((l ++ g).take (l.length + 1)).take (i + 1)).length = i + 1 := by rw [List.length_take]; omega
  rw [List.take_append_of_le_length (by omega), List.take_take, List.take_take, Nat.min_eq_left (by omega), Nat.min_eq_left (by omega), List.take_append_of_le_length hi]
  congr 1
  rw [List.drop_append, List.drop_of_length_le (by omega), List.nil_append, hT, Nat.sub_self, List.drop_zero]
theorem ren_rel {ρ : Nat → Value} {a : Act} {w : World} {tx id e sz : Nat} {ys : List (List Value)} {T' : List (Nat × AV)} (hT : RelT w0.w ρ T nx nt a) (hC : RelC w0 ρ m nx w) (hx : look tx T = some (.own id)) (hm : mem m id = some (.row e sz ys)) (hT' : killO id T [] [] = some T') :
    RelT w0.w (upd ρ nx (ρ id)) ((tx, .own nx) :: T') (nx + 1) nt a ∧ RelC w0 (upd ρ nx (ρ id)) ((nx, some (.row e sz ys)) :: (id, none) :: m) (nx + 1) w := by
  have hxe := hT.tmps _ _ hx
  simp only [RelV] at hxe
  have hsub : ∀ i r, mem ((id, none) :: m) i = some r → mem m i = some r ∧ i ≠ id := fun i r hr => by
    by_cases e : id = i
    · subst e; rw [mem_cons_same] at hr; cases hr
    · rw [mem_cons_other e] at hr; exact ⟨hr, Ne.symm e⟩
  have hC2 : RelC w0 ρ ((id, none) :: m) nx w := ⟨fun i r hr => hC.rows i r (hsub i r hr).1, fun i i' r r' hr hr' => hC.apart i i' r r' (hsub i r hr).1 (hsub i' r' hr').1, hC.below, hC.pin, hC.kept.1, hC.kept.2.1, fun i r hr => hC.kept.2.2 i r (hsub i r hr).1⟩
  have hrow := (hC.rows id _ hm).2
  simp only [RowRel] at hrow
  refine ⟨⟨fun t x hx' => ?_, hT.size, hT.defers⟩, hC2.add ?_ ?_ ?_⟩
  · by_cases e : tx = t
    · subst e
      simp [look] at hx'
      subst hx'
      simp only [RelV]
      exact ⟨by omega, by rw [upd_same]; exact hxe.2⟩
    · have hl : look t T' = some x := by simpa [look, show tx.beq t = false from Bool.eq_false_iff.mpr (fun h => e (Nat.eq_of_beq_eq_true h))] using hx'
      rw [killO_eq] at hT'
      cases hT'
      rcases killT_spec _ _ _ _ _ hl (by simp) with h2 | ⟨_, h2, h3⟩
      · simp [look] at h2
      · exact (hT.add (ρ id)).tmps t x h2
  · simp only [RowRel]
    rw [upd_same]
    exact hrow
  · intro i r hr b hb hy'
    obtain ⟨h1, h2⟩ := hsub i r hr
    exact hC.apart i id _ _ h1 hm h2 b hb hy'
  · intro b hb'
    exact hC.kept.2.2 id _ hm _ hb'
/-- a row under a new number, so that a row of the caller's can be grown -/
theorem WX_ren {tx id e sz : Nat} {ys : List (List Value)} {T' : List (Nat × AV)} (nx' : Nat) (hn' : Nat.beq nx' (Nat.succ nx) = true) (hx : look tx T = some (.own id)) (hm : mem m id = some (.row e sz ys)) (hT' : killO id T [] [] = some T')
    (hk : WX P w0 ops o rest ⟨(tx, .own nx) :: T', (nx, some (.row e sz ys)) :: (id, none) :: m, nx', nt⟩ Q) : WX P w0 ops o rest ⟨T, m, nx, nt⟩ Q := by
  have hn'' := Nat.eq_of_beq_eq_true hn'
  subst hn''
  intro ρ a w hT hC
  obtain ⟨h1, h2⟩ := ren_rel hT hC hx hm hT'
  exact hk _ a w h1 h2
theorem WA_ren {m0 : List (Nat × Option Row)} {fuel : Nat} {listed : Array Bool} {K : St → Prop} {tx id e sz : Nat} {ys : List (List Value)} {T' : List (Nat × AV)} (nx' : Nat) (hn' : Nat.beq nx' (Nat.succ nx) = true) (hx : look tx T = some (.own id)) (hm : mem m id = some (.row e sz ys)) (hT' : killO id T [] [] = some T')
    (hk : WA P w0 ops m0 fuel listed ⟨(tx, .own nx) :: T', (nx, some (.row e sz ys)) :: (id, none) :: m, nx', nt⟩ K) : WA P w0 ops m0 fuel listed ⟨T, m, nx, nt⟩ K := by
  have hn'' := Nat.eq_of_beq_eq_true hn'
  subst hn''
  intro hs ρ a w hT hC hS
  obtain ⟨h1, h2⟩ := ren_rel hT hC hx hm hT'
  exact hk hs _ a w h1 h2 hS
theorem of_eq {α : Type} {L L0 : List α} {p : α → Prop} (h : L = L0) (h0 : ∀ c ∈ L0, p c) : ∀ c ∈ L, p c := h ▸ h0
theorem ins_src {α : Type} {l g : List α} {i A B L N : Nat} (hi : i ≤ l.length) (hA : A = i) (hB : L ≤ B) (hL : L = l.length - i) (hN : N = l.length + 1) : l.drop i = ((((l ++ g).take N).drop A).take B).take L := by
  subst hA; subst hL; subst hN
  rw [List.take_take, Nat.min_eq_left hB, List.drop_take, List.take_take, Nat.min_eq_left (by omega), List.drop_append_of_le_length hi, List.take_append_of_le_length (by rw [List.length_drop]; exact Nat.le_refl _), List.take_of_length_le (by rw [List.length_drop]; exact Nat.le_refl _)]
theorem enc_one (v : Setting) : ∀ u ∈ encTc v, u.oneCell' = true := by
  intro u hu
  simp only [encTc, List.mem_cons, List.not_mem_nil, or_false] at hu
  rcases hu with rfl | rfl | rfl | rfl | rfl | rfl <;> rfl
end
end Go.Rf
