/- Texts merged into one: RfG, RfH, RfM, RfN, RfO, RfP, RfS, RfJ, RfT, RfI, RfK, Rf9, RfU, RfW, Rf0, RfXA, RfXB, RfXF, RfX, RfL. -/
import Derived.Test.YtcnodpipinlpcaaGreatLibA
import Derived.Deep.LoopGhost
import Derived.Deep.Slices
import Derived.Deep.Fields
import Derived.ChangeSame
import Derived.Lib.SmallJoins
import Derived.ChangeOld
import Derived.OrdersHeld
import Derived.Laws.StructEq
import Derived.Lib.AppendZerosOnto
import Derived.Lib.Overlaps
import Derived.Laws.Externs
set_option linter.unusedVariables false
set_option linter.unusedSectionVars false
set_option linter.unusedSimpArgs false
namespace Go.Rf
open Go Go.RowKit
section
variable {P : Program} [Env P] {w0 : Base} {ops : Array Oper} {tb : List (Nat × TyI)} {o : Oper} {rest : List Oper} {T : List (Nat × AV)} {m : List (Nat × Option Row)} {nx nt d : Nat} {r : AV} {Q : Exit → St → Prop}
def bndA (T : List (Nat × AV)) (dflt : Int) : Option Operand → Option Int
 | none => some dflt
 | some x => match ev T x with
  | some (.v (.int _ i)) => some i
  | _ => none
theorem bndA_spec {w0 : World} {ρ : Nat → Value} {a : Act} (hT : RelT w0 ρ T nx nt a) {dflt i : Int} {x : Option Operand} (h : bndA T dflt x = some i) : (x.map a.eval = none ∧ i = dflt) ∨ ∃ k, x.map a.eval = some (.int k i) := by
 cases x with
 | none => simp [bndA] at h; exact .inl ⟨rfl, h.symm⟩
 | some x =>
  simp only [bndA] at h
  split at h
  ·rename_i k i' he
   cases h
   have := hT.ev he
   simp only [RelV] at this
   exact .inr ⟨k, by simp [this]⟩
  ·cases h
theorem run_cut {w0 : World} {t e sz by_ : Nat} {zs : List Value} (G : TyOK P t (.slice e sz by_ zs)) {ρ : Nat → Value} {a : Act} (hT : RelT w0 ρ T nx nt a) {lo hi : Option Operand} {l h : Int} {A : Option Addr} {n cap : Nat} (hl : bndA T 0 lo = some l) (hh : bndA T n hi = some h)
 (h0 : 0 ≤ l) (h1 : l ≤ h) (h2 : h ≤ n) (hc : n ≤ cap) (w : World) :
 (Instr.sliceAt t (.slice A n cap) (lo.map a.eval) (hi.map a.eval) none).run P w = .ok (.slice (if cap = l.toNat then A else A.map (·.add (l.toNat * sz))) (h.toNat - l.toNat) (cap - l.toNat)) w := by
 obtain ⟨hu, _, i, z, hi', hs, _⟩ := G
 have eh : (h.toNat : Int) = h := Int.toNat_of_nonneg (by omega)
 have hh1 : 0 ≤ h := by omega
 have hl2 : l ≤ (n : Int) := by omega
 have hcap : h ≤ (cap : Int) := by omega
 have hcap2 : (n : Int) ≤ (cap : Int) := by omega
 rcases bndA_spec hT hl with ⟨e1, rfl⟩ | ⟨k1, e1⟩ <;> rcases bndA_spec hT hh with ⟨e2, rfl⟩ | ⟨k2, e2⟩ <;>
  simp [e1, e2, Instr.sliceAt, Instr.slice, run_underlying hu, Instr.sliceBounds, Instr.sliceBound, asIntOf, sizeOf, typeInfo, hi', hs, h0, h1, h2, hh1, hl2, eh, hcap, hcap2]
theorem q_cut_lst {t e sz by_ : Nat} {zs : List Value} {ys : List (List Value)} {x : Operand} {lo hi : Option Operand} {l h : Int} (G : Good P tb) (ho : o.op = .slice t x lo hi none) (ht : look t tb = some (.slice e sz by_ zs)) (hx : ev T x = some (.lst sz ys)) (hl : bndA T 0 lo = some l) (hh : bndA T ys.length hi = some h)
 (h0 : 0 ≤ l) (h1 : l ≤ h) (h2 : h ≤ ys.length) : QStep P o T m nx nt (.lst sz ((ys.drop l.toNat).take (h.toNat - l.toNat))) :=
 QStep.run fun w0 ρ a w hT hC => by
  have hxe := hT.ev hx
  simp only [RelV] at hxe
  obtain ⟨A, cap, he, hcap, hall, hA⟩ := hxe
  have hlen : ((ys.drop l.toNat).take (h.toNat - l.toNat)).length = h.toNat - l.toNat := by rw [List.length_take, List.length_drop]; omega
  refine ⟨.slice (if cap = l.toNat then A else A.map (·.add (l.toNat * sz))) (h.toNat - l.toNat) (cap - l.toNat), ?_, fun w' hC' => ?_⟩
  ·simp only [RelV]
   refine ⟨_, _, by rw [hlen], by rw [hlen]; omega, fun c hc => hall c (List.mem_of_mem_drop (List.mem_of_mem_take hc)), fun hpos => ?_⟩
   rw [hlen] at hpos
   have hpos2 : 0 < ys.length := by omega
   obtain ⟨ad, rfl, hb, hcell⟩ := hA hpos2
   have hcl : cap ≠ l.toNat := by omega
   rw [if_neg hcl]
   refine ⟨_, rfl, by rw [add_block]; exact hb, fun i c hi j u hj => ?_⟩
   have hi2 : ys[l.toNat + i]? = some c := by
    rw [List.getElem?_take] at hi
    split at hi
    ·rwa [List.getElem?_drop] at hi
    ·cases hi
   have := hcell _ _ hi2 j u hj
   rw [add_add', ← this]
   congr 2
   rw [Nat.add_mul]
   omega
  ·have := run_cut (G t _ ht) hT (A := A) hl hh h0 h1 h2 hcap w'
   simp only [execOp, ho, he, Option.map_none, this, Sem.run_bind, Result.andThen_ok, Sem.run_pure]
theorem q_cut_own {t e e' sz by_ id : Nat} {zs : List Value} {ys : List (List Value)} {x : Operand} {lo hi : Option Operand} {l h : Int} (G : Good P tb) (ho : o.op = .slice t x lo hi none) (ht : look t tb = some (.slice e sz by_ zs)) (hx : ev T x = some (.own id)) (hm : mem m id = some (.row e' sz ys))
 (hl : bndA T 0 lo = some l) (hh : bndA T ys.length hi = some h) (h0 : 0 ≤ l) (h1 : l ≤ h) (h2 : h ≤ ys.length) : QStep P o T m nx nt (.sub id sz l.toNat (h.toNat - l.toNat)) :=
 QStep.run fun w0 ρ a w hT hC => by
  have hxe := hT.ev hx
  simp only [RelV] at hxe
  obtain ⟨hrow, _⟩ := hC.row hm
  have hshape : ∃ A cap, ρ id = .slice A ys.length cap ∧ ys.length ≤ cap ∧ (0 < ys.length → ∃ g, A = some ⟨g, 0, none⟩) := by
   rcases hrow.2 with ⟨e1, e2⟩ | ⟨g, cap, cur, e1, _, _, e2, _⟩
   ·exact ⟨none, 0, by rw [e1, e2], by omega, fun h => by omega⟩
   ·exact ⟨_, cap, e1, e2, fun _ => ⟨g, rfl⟩⟩
  obtain ⟨A, cap, he, hcap, hA⟩ := hshape
  refine ⟨.slice (if cap = l.toNat then A else A.map (·.add (l.toNat * sz))) (h.toNat - l.toNat) (cap - l.toNat), ?_, fun w' hC' => ?_⟩
  ·simp only [RelV]
   refine ⟨hxe.1, _, _, rfl, by omega, fun hpos => ?_, fun hl0 => ⟨ys.length, ?_, by omega⟩⟩
   have hpos2 : 0 < ys.length := by omega
   obtain ⟨g, rfl⟩ := hA hpos2
   have hcl : cap ≠ l.toNat := by omega
   rw [if_neg hcl]
   exact ⟨g, _, _, he, by simp [Addr.add_lit]⟩
   ·rw [he, hl0]
    have e : A.map (fun a => a.add 0) = A := by cases A <;> simp [Addr.add_zero']
    simp [e]
  ·have := run_cut (G t _ ht) hT (A := A) hl hh h0 h1 h2 hcap w'
   simp only [execOp, ho, hxe.2, he, Option.map_none, this, Sem.run_bind, Result.andThen_ok, Sem.run_pure]
def evs (T : List (Nat × AV)) : List Operand → List AV → Option (List AV)
 | [], acc => revO acc []
 | x :: r, acc => match ev T x with
  | some a => evs T r (a :: acc)
  | none => none
theorem evs_spec {ρ : Nat → Value} {a : Act} (hT : RelT w0 ρ T nx nt a) : ∀ {xs : List Operand} {acc rs : List AV} {acc' : List Value}, evs T xs acc = some rs → RelVs w0 ρ nx acc.reverse acc' → RelVs w0 ρ nx rs (acc' ++ xs.map a.eval)
 | [], acc, rs, acc', h, ha => by simp [evs, revO_eq] at h; subst h; simpa using ha
 | x :: xs, acc, rs, acc', h, ha => by
  simp only [evs] at h
  cases h1 : ev T x with
  | none => simp [h1] at h
  | some av =>
   simp only [h1] at h
   have := evs_spec hT h (acc' := acc' ++ [a.eval x]) (by
    rw [List.reverse_cons]
    refine RelVs.append _ ha ?_
    simp only [RelVs]
    exact ⟨_, _, rfl, hT.ev h1, rfl⟩)
   simpa using this
theorem q_func {f : FuncId} {caps : Array Operand} {cs : List AV} (ho : o.op = .makeFunc (.func f) #[] caps) (hc : evs T caps.toList [] = some cs) : QStep P o T m nx nt (.fnc f cs) :=
 QStep.run fun w0 ρ a w hT hC => by
  have := evs_spec hT hc (acc' := []) (by simp [RelVs])
  refine ⟨.func (.func f) #[] (caps.map a.eval), ?_, fun w' _ => by simp [execOp, ho, Instr.makeFunc]⟩
  simp only [RelV]
  exact ⟨caps.toList.map a.eval, by rw [← Array.toList_map], by simpa using this⟩
def opRefs (n : Nat) : List (Nat × Nat × Nat) → Bool
 | [] => true
 | q :: r => Nat.blt q.2.2 n && opRefs n r
theorem opRefs_get {n : Nat} : ∀ {op : List (Nat × Nat × Nat)}, opRefs n op = true → ∀ q ∈ op, q.2.2 < n
 | [], _, q, hq => by cases hq
 | p :: r, h, q, hq => by
  simp only [opRefs, Bool.and_eq_true] at h
  rcases List.mem_cons.1 hq with rfl | hq
  ·exact Nat.le_of_ble_eq_true h.1
  ·exact opRefs_get h.2 q hq
def rowRefs (n : Nat) : Row → Bool
 | .box cs => refsBs n cs
 | .row _ _ _ _ => true
 | .byt _ => true
 | .spare _ _ _ _ => true
 | .nest _ _ _ op => opRefs n op
def WeakT (T : List (Nat × AV)) (n : Nat) : List (Nat × AV) → Prop
 | [] => True
 | (t, x) :: r => (∃ x', look t T = some x' ∧ x' = x) ∧ refsB n x = true ∧ WeakT T n r
def WeakM (m : List (Nat × Option Row)) (n : Nat) : List (Nat × Option Row) → Prop
 | [] => True
 | (id, none) :: r => WeakM m n r
 | (id, some row) :: r => (∃ row', mem m id = some row' ∧ row' = row) ∧ Nat.blt id n = true ∧ rowRefs n row = true ∧ WeakM m n r
theorem WeakT.get {n : Nat} : ∀ {T' : List (Nat × AV)}, WeakT T n T' → ∀ t x, (t, x) ∈ T' → look t T = some x ∧ refsB n x = true
 | [], _, _, _, h => by simp at h
 | (t', x') :: r, hw, t, x, h => by
  obtain ⟨⟨y, h1, h2⟩, h3, h4⟩ := hw
  rcases List.mem_cons.1 h with he | h
  ·cases he; subst h2; exact ⟨h1, h3⟩
  ·exact WeakT.get h4 t x h
theorem WeakM.get {n : Nat} : ∀ {m' : List (Nat × Option Row)}, WeakM m n m' → ∀ id row, (id, some row) ∈ m' → mem m id = some row ∧ id < n ∧ rowRefs n row = true
 | [], _, _, _, h => by simp at h
 | (id', none) :: r, hw, id, row, h => by
  rcases List.mem_cons.1 h with he | h
  ·cases he
  ·exact WeakM.get (m' := r) hw id row h
 | (id', some row') :: r, hw, id, row, h => by
  obtain ⟨⟨y, h1, h2⟩, h3, h4, h5⟩ := hw
  rcases List.mem_cons.1 h with he | h
  ·cases he; subst h2; exact ⟨h1, Nat.le_of_ble_eq_true h3, h4⟩
  ·exact WeakM.get h5 id row h
structure Weak (S S' : St) : Prop where
 nt : S'.nt = S.nt
 T : WeakT S.T S'.nx S'.T
 m : WeakM S.m S'.nx S'.m
theorem mem_in {id : Nat} {row : Row} (h : mem m id = some row) : (id, some row) ∈ m := by
 unfold mem at h
 cases hl : look id m with
 | none => simp [hl] at h
 | some o => cases o with
  | none => simp [hl] at h
  | some row' => simp [hl] at h; subst h; exact look_mem hl
theorem Weak.rel {S S' : St} (hw : Weak S S') (hn0 : w0.n0 ≤ S'.nx) {ρ : Nat → Value} {a : Act} {w : World} (hT : RelT w0 ρ S.T S.nx S.nt a) (hC : RelC w0 ρ S.m S.nx w) : RelT w0 ρ S'.T S'.nx S'.nt a ∧ RelC w0 ρ S'.m S'.nx w := by
 refine ⟨⟨fun t x hx => ?_, by rw [hw.nt]; exact hT.size, hT.defers⟩, ⟨fun id row hr => ?_, fun id id' r r' hr hr' hne => ?_, hC.below, ⟨hn0, hC.pin.2⟩, ⟨hC.kept.1, hC.kept.2.1, fun id r hr => hC.kept.2.2 id r (hw.m.get id r (mem_in hr)).1⟩,
  hC.inner' (Nat.le_refl _) (fun id r hr => .inr ⟨r, (hw.m.get id r (mem_in hr)).1, fun _ _ h => h⟩) (fun id r hr b hb => .inl ⟨id, r, (hw.m.get id r (mem_in hr)).1, hb⟩)⟩⟩
 ·obtain ⟨h1, h2⟩ := hw.T.get t x (look_mem hx)
  exact (hT.tmps t x h1).less x h2
 ·obtain ⟨h1, h2, h3⟩ := hw.m.get id row (mem_in hr)
  obtain ⟨_, h4⟩ := hC.rows id row h1
  exact ⟨h2, h4.to rfl (fun cs e l hl => by subst e; exact RelVs.less cs h3 hl) fun e sz yss op he q hq _ => by subst he; exact ⟨opRefs_get h3 q hq, rfl⟩⟩
 ·exact hC.apart id id' r r' (hw.m.get id r (mem_in hr)).1 (hw.m.get id' r' (mem_in hr')).1 hne
theorem W_weak {c : Code} {S S' : St} (hw : Weak S S') (hnx : S'.nx = S.nx) (h : W P w0 c S' Q) : W P w0 c S Q :=
 fun ρ a w hT hC => let ⟨h1, h2⟩ := hw.rel (hnx ▸ hC.pin.1) hT hC; h ρ a w h1 h2
theorem W_loop {α : Type} (st : α → St) (inv : α → Prop) (μ : α → Nat) {c : Code} {S : St} (x0 : α) (h0 : inv x0) (hw : Weak S (st x0)) (hnx : ∀ x, (st x).nx = S.nx)
 (round : ∀ x, inv x → W P w0 c (st x) (sq (fun S' => ∃ x', inv x' ∧ Weak S' (st x') ∧ μ x' < μ x) Q)) : W P w0 (.loop c) S Q := by
 intro ρ a w hT hC
 have hp : ∀ x, w0.n0 ≤ (st x).nx := fun x => by rw [hnx x]; exact hC.pin.1
 obtain ⟨h1, h2⟩ := hw.rel (hp _) hT hC
 refine wp_loop_ghost (fun n a w => ∃ x, inv x ∧ μ x = n ∧ ∃ ρ, RelT w0 ρ (st x).T (st x).nx (st x).nt a ∧ RelC w0 ρ (st x).m (st x).nx w) (μ x0) ⟨x0, h0, rfl, ρ, h1, h2⟩ ?_
 rintro n a w ⟨x, hi, rfl, ρ, hT, hC⟩
 refine wp_mono (round x hi ρ a w hT hC) ?_
 rintro e a w ⟨ρ', S', hq, hT', hC'⟩
 cases e
 case normal =>
  obtain ⟨x', hi', hw', hlt⟩ := hq
  obtain ⟨g1, g2⟩ := hw'.rel (hp _) hT' hC'
  exact ⟨μ x', hlt, x', hi', rfl, ρ', g1, g2⟩
 all_goals exact ⟨ρ', S', hq, hT', hC'⟩
def getR (tb : List (Nat × TyI)) (S : St) : ResultVar → Option AV
 | .tmp t => look t S.T
 | .cell p ty => match look p S.T with
  | some (.ptr id off) => match mem S.m id with
   | some (.box cs) => match look ty tb with
    | some (.struct _ zs) => match takeR zs.length (dropN off cs) [] with
     | some rs => some (.agg rs)
     | none => none
    | some _ => nth cs off
    | none => none
   | _ => none
  | _ => none
def getRs (tb : List (Nat × TyI)) (S : St) : List ResultVar → List AV → Option (List AV)
 | [], acc => revO acc []
 | x :: r, acc => match getR tb S x with
  | some a => getRs tb S r (a :: acc)
  | none => none
def toVal : AV → Option Value
 | .v x => some x
 | .pin z _ _ => some z
 | .nst (some z) _ _ => some z
 | .agg cs => match vaR cs [] with
  | some xs => some (.agg ⟨xs⟩)
  | none => none
 | _ => none
def RCOK (m : List (Nat × Option Row)) : AV → RC → Prop
 | x, .v u => toVal x = some u
 | .own id, .fr e sz ys f => ∃ f0, mem m id = some (.row e sz ys f0) ∧ (f0 = true → f = true)
 | .v x, .fr _ _ ys _ => x = .slice none 0 0 ∧ ys = []
 | .own id, .ne e sz yss => mem m id = some (.nest e sz yss [])
 | .v x, .ne _ _ yss => x = .slice none 0 0 ∧ yss = []
 | _, _ => False
def RCOKs (m : List (Nat × Option Row)) : List AV → List RC → Prop
 | [], [] => True
 | x :: xs, r :: rs => RCOK m x r ∧ RCOKs m xs rs
 | _, _ => False
def ownIds : List AV → List Nat → List Nat
 | [], acc => acc
 | .own i :: r, acc => ownIds r (i :: acc)
 | _ :: r, acc => ownIds r acc
def loneB : List AV → Bool
 | [] => true
 | .v x :: r => (blk x).isNone && loneB r
 | _ :: r => loneB r
def nodupB : List Nat → Bool
 | [] => true
 | x :: r => !has x r && nodupB r
def aggA : AV → Option (List AV)
 | .agg cs => some cs
 | .v (.agg ⟨l⟩) => some (avR l [])
 | _ => none
theorem aggA_spec {w0 : World} {ρ : Nat → Value} {nx : Nat} {a : AV} {cs : List AV} (h : aggA a = some cs) {y : Value} (hy : RelV w0 ρ nx a y) : ∃ cvs : List Value, y = .agg cvs.toArray ∧ RelVs w0 ρ nx cs cvs := by
 cases a <;> simp only [aggA] at h <;> try cases h
 case agg.refl => simpa only [RelV] using hy
 case v x =>
  cases x <;> simp only [aggA] at h <;> try cases h
  rename_i l
  simp only [RelV] at hy
  subst hy
  exact ⟨l.toList, rfl, by rw [avR_eq]; simpa using RelVs.map_v l.toList⟩
def flA : List (Option Nat) → List AV → List AV → Option (List AV)
 | [], [], acc => revO acc []
 | none :: sh, a :: as, acc => flA sh as (a :: acc)
 | some n :: sh, a :: as, acc => match aggA a with
  | some cs => bif Nat.beq cs.length n then flA sh as (rev cs acc) else none
  | none => none
 | _, _, _ => none
def leaves : Res → List AV → List AV
 | .shp _ sh _, avs => match flA sh avs [] with
  | some ls => ls
  | none => []
 | _, avs => avs
def ResOK (m : List (Nat × Option Row)) (avs : List AV) : Res → Prop
 | .one r => ∃ x, avs = [x] ∧ RCOK m x r
 | .many rs => RCOKs m avs rs ∧ Nat.beq avs.length 1 = false ∧ nodupB (ownIds avs []) = true ∧ loneB avs = true
 | .shp single sh rs => ∃ ls, flA sh avs [] = some ls ∧ RCOKs m ls rs ∧ Nat.beq avs.length 1 = single ∧ nodupB (ownIds ls []) = true
def Fin (tb : List (Nat × TyI)) (rs : List ResultVar) (res : Res) : Exit → St → Prop
 | .ret, S => ∃ avs, getRs tb S rs [] = some avs ∧ ResOK S.m avs res
 | .normal, S => ∃ avs, getRs tb S rs [] = some avs ∧ ResOK S.m avs res
 | _, _ => False
def resSem (tmps : Array Value) : ResultVar → Sem Value
 | .tmp t => pure (tmps.getD t undef)
 | .cell a t => do loadVar t (← asAddr (tmps.getD a undef))
theorem getR_spec (G : Good P tb) {S : St} {ρ : Nat → Value} {a : Act} {w : World} (hT : RelT w0 ρ S.T S.nx S.nt a) (hC : RelC w0 ρ S.m S.nx w) {x : ResultVar} {r : AV} (h : getR tb S x = some r) : ∃ y, RelV w0 ρ S.nx r y ∧ (resSem a.tmps x).run P w = .ok y w := by
 cases x with
 | tmp t => exact ⟨_, hT.tmps t r h, rfl⟩
 | cell p ty =>
  simp only [getR] at h
  cases h1 : look p S.T with
  | none => simp [h1] at h
  | some av =>
   cases av <;> simp only [h1] at h <;> try cases h
   rename_i id off
   cases h2 : mem S.m id with
   | none => simp [h2] at h
   | some row =>
    cases row with
    | row _ _ _ => simp [h2] at h
    | byt _ => simp [h2] at h
    | spare _ _ _ _ => simp [h2] at h
    | nest _ _ _ _ => simp [h2] at h
    | box cs =>
     simp only [h2] at h
     cases h3 : look ty tb with
     | none => simp [h3] at h
     | some i =>
      have hp := hT.tmps p _ h1
      simp only [RelV] at hp
      obtain ⟨_, g, hg, he⟩ := hp
      obtain ⟨b, cur, ty', hρ, _, hb, hR, _⟩ := hC.box h2
      rw [hg] at hρ
      simp at hρ
      subst hρ
      have flat : ∀ (hf : flatB i = true) (hr : nth cs off = some r), ∃ y, RelV w0 ρ S.nx r y ∧ (resSem a.tmps (.cell p ty)).run P w = .ok y w := by
       intro hf hr
       rw [nth_eq] at hr
       obtain ⟨u, hu, h4⟩ := RelVs.get _ hR off r hr
       refine ⟨u, h4, ?_⟩
       have hc : w.cell? ⟨g, off, none⟩ = some u := by rw [heap_cell hb, hu]
       simp only [resSem, he, asAddr, Sem.run_bind, Sem.run_pure, Result.andThen_ok, loadVar, (G ty i h3).run_isAgg w, hf, Bool.not_true, Bool.false_eq_true, if_false, run_load, hc]
      cases i with
      | flat fk z => simp only [h3] at h; exact flat rfl h
      | slice e sz by_ zs => simp only [h3] at h; exact flat rfl h
      | struct fs zs =>
       simp only [h3] at h
       cases h4 : takeR zs.length (dropN off cs) [] with
       | none => simp [h4] at h
       | some rs =>
        simp only [h4, Option.some.injEq] at h
        subst h
        obtain ⟨hrs, hlen⟩ := takeR_spec _ _ _ _ h4
        rw [dropN_eq] at hrs hlen
        simp at hrs
        have hR2 : RelVs w0 ρ S.nx rs ((cur.toList.drop off).take zs.length) := by rw [hrs]; exact (RelVs.drop off _ hR).take _ _
        have hl := RelVs.length _ hR2
        have hl2 : rs.length = zs.length := by rw [hrs, List.length_take]; omega
        have := run_load_struct (G ty _ h3) (w := w) (p := ⟨g, off, none⟩) (us := (cur.toList.drop off).take zs.length) (by rw [hl, hl2]) (fun j u hj => by
         rw [Addr.add_lit, heap_cell hb]
         rw [List.getElem?_take] at hj
         split at hj
         ·rw [List.getElem?_drop] at hj; exact hj
         ·cases hj)
        refine ⟨_, by simp only [RelV]; exact ⟨_, rfl, hR2⟩, ?_⟩
        simp only [Instr.loadAt, Instr.sureAddr, Sem.run_bind, Sem.run_pure, Result.andThen_ok] at this
        simp only [resSem, he, asAddr, Sem.run_bind, Sem.run_pure, Result.andThen_ok]
        exact this
theorem getRs_spec (G : Good P tb) {S : St} {ρ : Nat → Value} {a : Act} {w : World} (hT : RelT w0 ρ S.T S.nx S.nt a) (hC : RelC w0 ρ S.m S.nx w) : ∀ {xs : List ResultVar} {acc rs : List AV}, getRs tb S xs acc = some rs →
 ∃ ys avs, rs = acc.reverse ++ avs ∧ RelVs w0 ρ S.nx avs ys ∧ (xs.mapM (resSem a.tmps)).run P w = .ok ys w
 | [], acc, rs, h => by simp [getRs, revO_eq] at h; exact ⟨[], [], by simp [h], by simp [RelVs], rfl⟩
 | x :: xs, acc, rs, h => by
  simp only [getRs] at h
  cases h1 : getR tb S x with
  | none => simp [h1] at h
  | some av =>
   simp only [h1] at h
   obtain ⟨y, h2, h3⟩ := getR_spec G hT hC h1
   obtain ⟨ys, avs, e1, e2, e3⟩ := getRs_spec G hT hC h
   refine ⟨y :: ys, av :: avs, by simp [e1], by simp only [RelVs]; exact ⟨_, _, rfl, h2, e2⟩, ?_⟩
   simp [List.mapM_cons, h3, e3]
theorem toVal_spec {ρ : Nat → Value} {x : AV} {u y : Value} (h : toVal x = some u) (hy : RelV w0 ρ nx x y) : y = u := by
 cases x <;> simp only [toVal] at h <;> try cases h
 case v.refl => simpa only [RelV] using hy
 case pin.refl => simp only [RelV] at hy; exact hy.1
 case nst z _ _ =>
  cases z with
  | none => simp [toVal] at h
  | some z => simp [toVal] at h; subst h; simp only [RelV] at hy; exact hy.1 _ rfl
 case agg cs =>
  cases hv : vaR cs [] with
  | none => simp [hv] at h
  | some xs =>
   simp [hv] at h
   obtain ⟨xs', h1, h2⟩ := vaR_spec _ _ _ hv
   simp at h2
   subst h2
   simp only [RelV] at hy
   obtain ⟨ys, rfl, h3⟩ := hy
   rw [h1] at h3
   rw [RelVs.map_v_eq _ h3, ← h]
theorem NestR_nil {B : Nat} {w : World} {e sz : Nat} : NestR B w (.slice none 0 0) e sz [] :=
 ⟨[], ⟨World.ownsRow_nil _ _ _ _, rfl, by simp, by simp, fun i k c h => by simp [nget] at h⟩, fun p b h => by simp [innAt, nget] at h⟩
theorem RCOK.rel {ρ : Nat → Value} {w : World} (hC : RelC w0 ρ m nx w) {x : AV} {c : RC} (h : RCOK m x c) {y : Value} (hy : RelV w0 ρ nx x y) : RCRel w0.w.heap.size w c y := by
 cases c with
 | v u =>
  have h' : toVal x = some u := by cases x <;> exact h
  simp only [RCRel]
  exact toVal_spec h' hy
 | fr e sz ys =>
  cases x <;> simp only [RCOK] at h
  case own id =>
   simp only [RelV] at hy
   rw [hy.2]
   obtain ⟨f0, h, hf⟩ := h
   obtain ⟨h1, h2⟩ := hC.rowF h
   exact ⟨h1.up hf, h2⟩
  case v x =>
   obtain ⟨rfl, rfl⟩ := h
   simp only [RelV] at hy
   subst hy
   exact ⟨OwnR.nil, by simp⟩
 | ne e sz yss =>
  cases x <;> simp only [RCOK] at h
  case own id =>
   simp only [RelV] at hy
   rw [hy.2]
   obtain ⟨_, cells, h1, _⟩ := hC.rows id _ h
   exact ⟨cells, h1, fun p b hb => ⟨((hC.inner id _ h p b hb).2.2.2 id _ h).1, fun p' hp' => (((hC.inner id _ h p b hb).2.2.2 id _ h).2 p' hp').2⟩⟩
  case v x =>
   obtain ⟨rfl, rfl⟩ := h
   simp only [RelV] at hy
   subst hy
   exact NestR_nil
theorem RCOK.foot {ρ : Nat → Value} {w : World} {x : AV} {c : RC} (h : RCOK m x c) {y : Value} (hy : RelV w0 ρ nx x y) {b : Nat} (hb : rfoot w c y b) : ∃ id row, x = .own id ∧ mem m id = some row ∧ foot w (ρ id) row b := by
 cases c with
 | v u => exact hb.elim
 | fr e sz ys =>
  cases x <;> simp only [RCOK] at h
  case own id => obtain ⟨f0, h, hf⟩ := h; simp only [RelV] at hy; exact ⟨id, _, rfl, h, .inl (by rw [← hy.2]; exact hb)⟩
  case v x =>
   obtain ⟨rfl, rfl⟩ := h
   simp only [RelV] at hy
   subst hy
   simp [rfoot, blk] at hb
 | ne e sz yss =>
  cases x <;> simp only [RCOK] at h
  case own id => simp only [RelV] at hy; exact ⟨id, _, rfl, h, by rw [← hy.2]; exact hb⟩
  case v x =>
   obtain ⟨rfl, rfl⟩ := h
   simp only [RelV] at hy
   subst hy
   simp [rfoot, blk, innAt, nget] at hb
theorem nodup_tail : ∀ (l : List AV) (acc : List Nat), nodupB (ownIds l acc) = true → nodupB acc = true
 | [], acc, h => h
 | x :: r, acc, h => by
  cases x <;> simp only [ownIds] at h
  case own i =>
   have := nodup_tail r (i :: acc) h
   simp only [nodupB, Bool.and_eq_true] at this
   exact this.2
  all_goals exact nodup_tail r acc h
theorem nodup_notin : ∀ (l : List AV) (acc : List Nat), nodupB (ownIds l acc) = true → ∀ i ∈ acc, AV.own i ∉ l
 | [], _, _, _, _ => by simp
 | x :: r, acc, h, i, hi => by
  cases x <;> simp only [ownIds] at h
  case own j =>
   have h1 := nodup_tail r (j :: acc) h
   simp only [nodupB, Bool.and_eq_true, Bool.not_eq_true'] at h1
   have h2 := nodup_notin r (j :: acc) h i (by simp [hi])
   intro hm
   rcases List.mem_cons.1 hm with e | hm
   ·cases e
    exact has_false h1.1 i hi rfl
   ·exact h2 hm
  all_goals
   have h2 := nodup_notin r acc h i hi
   intro hm
   rcases List.mem_cons.1 hm with e | hm
   ·cases e
   ·exact h2 hm
theorem RelC.foot_apart {ρ : Nat → Value} {w : World} (hC : RelC w0 ρ m nx w) {id id' : Nat} {row row' : Row} (hm : mem m id = some row) (hm' : mem m id' = some row') (hne : id ≠ id') {b : Nat} (hb : foot w (ρ id) row b) : ¬ foot w (ρ id') row' b := by
 rintro (hb' | ⟨p', hb'⟩)
 ·rcases hb with hb | ⟨p, hb⟩
  ·exact hC.apart id id' _ _ hm hm' hne b hb hb'
  ·exact hC.blkne hm hm' hb hb'
 ·rcases hb with hb | ⟨p, hb⟩
  ·exact hC.blkne hm' hm hb' hb
  ·exact hne (((hC.inner id row hm p b hb).2.2.2 id' row' hm').2 p' hb').1
theorem RCOKs.foots {ρ : Nat → Value} {w : World} {b : Nat} : ∀ {xs : List AV} {rs : List RC}, RCOKs m xs rs → ∀ {ys : List Value}, RelVs w0 ρ nx xs ys → rfoots w rs ys b → ∃ id row, .own id ∈ xs ∧ mem m id = some row ∧ foot w (ρ id) row b
 | [], [], _, _, hy, hb => by simp only [RelVs] at hy; subst hy; exact hb.elim
 | [], _ :: _, h, _, _, _ => h.elim
 | _ :: _, [], h, _, _, _ => h.elim
 | x :: xs, r :: rs, h, _, hy, hb => by
  simp only [RelVs] at hy
  obtain ⟨y, ys, rfl, h1, h2⟩ := hy
  rcases hb with hb | hb
  ·obtain ⟨id, row, rfl, h3, h4⟩ := h.1.foot h1 hb
   exact ⟨id, row, by simp, h3, h4⟩
  ·obtain ⟨id, row, h3, h4⟩ := RCOKs.foots h.2 h2 hb
   exact ⟨id, row, List.mem_cons_of_mem _ h3, h4⟩
theorem RCOKs.rel {ρ : Nat → Value} {w : World} (hC : RelC w0 ρ m nx w) : ∀ {xs : List AV} {rs : List RC} {acc : List Nat}, RCOKs m xs rs → nodupB (ownIds xs acc) = true → ∀ {ys : List Value}, RelVs w0 ρ nx xs ys → RCRels w0.w.heap.size w rs ys
 | [], [], _, _, _, _, hy => hy
 | [], _ :: _, _, h, _, _, _ => h.elim
 | _ :: _, [], _, h, _, _, _ => h.elim
 | x :: xs, r :: rs, acc, h, hn, _, hy => by
  simp only [RelVs] at hy
  obtain ⟨y, ys, rfl, h1, h2⟩ := hy
  simp only [RCRels]
  have hn' : ∃ acc', nodupB (ownIds xs acc') = true ∧ (∀ i, x = .own i → i ∈ acc') := by
   cases x <;> simp only [ownIds] at hn
   case own i => exact ⟨_, hn, fun j hj => by cases hj; simp⟩
   all_goals exact ⟨_, hn, fun j hj => by cases hj⟩
  obtain ⟨acc', hn1, hn2⟩ := hn'
  refine ⟨y, ys, rfl, h.1.rel hC h1, RCOKs.rel hC h.2 hn1 h2, fun b hb hb' => ?_⟩
  obtain ⟨id, row, rfl, h3, h4⟩ := h.1.foot h1 hb
  obtain ⟨id', row', h5, h6, h7⟩ := RCOKs.foots h.2 h2 hb'
  refine hC.foot_apart h3 h6 (fun e => ?_) h4 h7
  subst e
  exact nodup_notin xs acc' hn1 id (hn2 id rfl) h5
theorem flA_rel {ρ : Nat → Value} : ∀ {sh : List (Option Nat)} {as acc ls : List AV} {vs acc' : List Value}, flA sh as acc = some ls → RelVs w0 ρ nx as vs → RelVs w0 ρ nx acc.reverse acc' → ∃ ys, RelVs w0 ρ nx ls (acc' ++ ys) ∧ asmV sh ys = some vs
 | [], [], acc, ls, vs, acc', h, hr, ha => by
  simp [flA, revO_eq] at h
  simp only [RelVs] at hr
  subst h; subst hr
  exact ⟨[], by simpa using ha, rfl⟩
 | [], _ :: _, _, _, _, _, h, _, _ => by simp [flA] at h
 | none :: sh, [], _, _, _, _, h, _, _ => by simp [flA] at h
 | none :: sh, a :: as, acc, ls, vs, acc', h, hr, ha => by
  simp only [flA] at h
  simp only [RelVs] at hr
  obtain ⟨v, vs', rfl, h1, h2⟩ := hr
  obtain ⟨ys, h3, h4⟩ := flA_rel h h2 (acc' := acc' ++ [v]) (by
   rw [List.reverse_cons]
   refine RelVs.append _ ha ?_
   simp only [RelVs]
   exact ⟨_, _, rfl, h1, rfl⟩)
  exact ⟨v :: ys, by simpa using h3, by simp [asmV, h4]⟩
 | some n :: sh, as, acc, ls, vs, acc', h, hr, ha => by
  have key : ∀ (cs : List AV) (as' : List AV) (cvs : List Value) (vs' : List Value), cs.length = n → RelVs w0 ρ nx cs cvs → RelVs w0 ρ nx as' vs' → flA sh as' (rev cs acc) = some ls → ∃ ys, RelVs w0 ρ nx ls (acc' ++ ys) ∧ asmV (some n :: sh) ys = some (.agg cvs.toArray :: vs') := by
   intro cs as' cvs vs' hl h1 h2 h3
   obtain ⟨ys, h4, h5⟩ := flA_rel h3 h2 (acc' := acc' ++ cvs) (by
    rw [rev_eq, List.reverse_append, List.reverse_reverse]
    exact RelVs.append _ ha h1)
   have hcl := RelVs.length _ h1
   refine ⟨cvs ++ ys, by simpa using h4, ?_⟩
   have hcn : cvs.length = n := by omega
   simp only [asmV]
   rw [if_pos (by rw [List.length_append]; omega), ← hcn, List.take_left, List.drop_left, h5]
   rfl
  cases as with
  | nil => simp [flA] at h
  | cons a as =>
   simp only [RelVs] at hr
   obtain ⟨v, vs', rfl, h1, h2⟩ := hr
   simp only [flA] at h
   cases ha' : aggA a with
   | none => simp [ha'] at h
   | some cs =>
    simp only [ha'] at h
    cases hb : Nat.beq cs.length n with
    | false => simp [hb] at h
    | true =>
     simp only [hb, cond_true] at h
     obtain ⟨cvs, rfl, h1'⟩ := aggA_spec ha' h1
     exact key cs as cvs vs' (Nat.eq_of_beq_eq_true hb) h1' h2 h
theorem ResOK.parts {ρ : Nat → Value} {w : World} (hC : RelC w0 ρ m nx w) {avs : List AV} {res : Res} (h : ResOK m avs res) {ys : List Value} (hy : RelVs w0 ρ nx avs ys) :
 resParts w0.w.heap.size w res (if h : ys.toArray.size = 1 then ys.toArray[0] else .tuple ys.toArray) (fun rs ls => ∀ b, rfoots w rs ls b → ∃ id row, .own id ∈ leaves res avs ∧ mem m id = some row ∧ foot w (ρ id) row b) := by
 have hyl := RelVs.length _ hy
 cases res with
 | one r =>
  obtain ⟨x, rfl, hx⟩ := h
  simp only [RelVs] at hy
  obtain ⟨y, _, rfl, g1, rfl⟩ := hy
  simp only [List.size_toArray, List.length_cons, List.length_nil, Nat.zero_add, dif_pos, List.getElem_toArray, List.getElem_cons_zero]
  refine ⟨hx.rel hC g1, fun b hb => ?_⟩
  rcases hb with hb | hb
  ·obtain ⟨id, row, rfl, h3, h4⟩ := hx.foot g1 hb
   exact ⟨id, row, by simp [leaves], h3, h4⟩
  ·exact hb.elim
 | many rs =>
  obtain ⟨h3, h4, h5, h6⟩ := h
  have hne : ¬ ys.toArray.size = 1 := by rw [List.size_toArray, hyl]; exact beq_ne h4
  rw [dif_neg hne]
  exact ⟨ys, rfl, RCOKs.rel hC h3 h5 hy, fun b hb => RCOKs.foots h3 hy hb⟩
 | shp single sh rs =>
  obtain ⟨ls, h1, h2, h3, h4⟩ := h
  obtain ⟨us, h5, h6⟩ := flA_rel (acc' := []) h1 hy (by simp [RelVs])
  simp only [List.nil_append] at h5
  refine ⟨us, ys, RCOKs.rel hC h2 h4 h5, h6, ?_, fun b hb => by simpa only [leaves, h1] using RCOKs.foots h2 h5 hb⟩
  cases single with
  | true =>
   have h7 := Nat.eq_of_beq_eq_true h3
   rw [h7] at hyl
   match ys, hyl with
   | [y], _ => simp
  | false =>
   have hne : ¬ ys.toArray.size = 1 := by rw [List.size_toArray, hyl]; exact beq_ne h3
   rw [dif_neg hne]
   simp
theorem resParts.rel {B : Nat} {w : World} {res : Res} {y : Value} {K : List RC → List Value → Prop} (h : resParts B w res y K) : ResRel B w res y := by
 cases res with
 | one r => exact h.1
 | many rs => obtain ⟨ys, h1, h2, _⟩ := h; exact ⟨ys, h1, h2⟩
 | shp single sh rs => obtain ⟨ys, vs, h1, h2, h3, _⟩ := h; exact ⟨ys, vs, h1, h2, h3⟩
theorem resParts.mono {B : Nat} {w : World} {res : Res} {y : Value} {K K' : List RC → List Value → Prop} (h : resParts B w res y K) (hk : ∀ rs ys, RCRels B w rs ys → K rs ys → K' rs ys) : resParts B w res y K' := by
 cases res with
 | one r => exact ⟨h.1, hk _ _ ⟨y, [], rfl, h.1, rfl, fun _ _ h => h⟩ h.2⟩
 | many rs => obtain ⟨ys, h1, h2, h3⟩ := h; exact ⟨ys, h1, h2, hk _ _ h2 h3⟩
 | shp single sh rs => obtain ⟨ys, vs, h1, h2, h3, h4⟩ := h; exact ⟨ys, vs, h1, h2, h3, hk _ _ h1 h4⟩
def argT : List AV → Nat → List (Nat × AV)
 | [], _ => []
 | a :: as, k => (k, a) :: argT as (Nat.succ k)
theorem argT_spec {w0 : World} {ρ : Nat → Value} : ∀ {as : List AV} {vs : List Value} {k : Nat}, RelVs w0 ρ nx as vs → ∀ t x, look t (argT as k) = some x → ∃ u, k ≤ t ∧ vs[t - k]? = some u ∧ RelV w0 ρ nx x u
 | [], _, _, _, _, _, h => by simp [argT, look] at h
 | a :: as, _, k, hr, t, x, h => by
  simp only [RelVs] at hr
  obtain ⟨y, ys, rfl, h1, h2⟩ := hr
  by_cases e : k = t
  ·subst e
   simp only [argT] at h
   rw [look_cons_same] at h
   cases h
   exact ⟨y, Nat.le_refl _, by simp, h1⟩
  ·simp only [argT] at h
   rw [look_cons_other e] at h
   obtain ⟨u, g1, g2, g3⟩ := argT_spec h2 t x h
   refine ⟨u, by omega, ?_, g3⟩
   rw [show t - k = (t - (k + 1)) + 1 by omega]
   simpa using g2
mutual
theorem RelV.outer {w : World} {ρ : Nat → Value} : ∀ (x : AV) {y : Value}, RelV w noRho 0 x y → RelV w ρ 0 x y
 | x, _, h => h.mono (Nat.le_refl _) (fun i hi => by omega)
end
theorem RelVs.outer {w : World} {ρ : Nat → Value} (x : List AV) {y : List Value} (h : RelVs w noRho 0 x y) : RelVs w ρ 0 x y := RelVs.mono (Nat.le_refl _) (fun i hi => by omega) x h
theorem results_run {fn : Func} {l : List ResultVar} (hl : fn.results = l.toArray) {tmps : Array Value} {ys : List Value} {w : World} (h : (l.mapM (resSem tmps)).run P w = .ok ys w) :
 (results fn tmps).run P w = .ok (if h : ys.toArray.size = 1 then ys.toArray[0] else .tuple ys.toArray) w := by
 have he : results fn tmps = (do let vs ← fn.results.mapM (resSem tmps); pure (if h : vs.size = 1 then vs[0] else .tuple vs)) := rfl
 rw [he, hl, List.mapM_toArray]
 simp only [Sem.run_bind, Sem.run_map, h, Result.andThen_ok, Sem.run_pure]
theorem Ctr.of (G : Good P tb) {f : FuncId} {fn : Func} {c : Code} {args : List AV} {res : Res} {l : List ResultVar} {n : Nat} (hf : P.funcs[f]? = some fn) (hb : fn.body = some c) (hname : (fn.name == "runtime.NumGoroutine") = false) (hl : fn.results = l.toArray) (hn : fn.ntmps = n)
 (hlen : Nat.ble args.length n = true) (h : ∀ w0 : Base, [NoPin w0] → [EnvAt P w0] → W P w0 c ⟨argT args 0, [], 0, n⟩ (Fin tb l res)) : Ctr P f args res := by
 refine ⟨⟨fn, hf, hname, by rw [hb]; rfl⟩, fun w vs henv hrel => ?_⟩
 have hlen' : args.length ≤ n := Nat.le_of_ble_eq_true hlen
 have hvl := RelVs.length _ hrel
 refine calls_of_wp hf hb ?_
 let b0 : Base := ⟨w, 0, noRho, w, fun _ => False, fun _ h => h.elim, Env.E P, fun w' hb => Env.mono henv hb⟩
 have hC : RelC b0 noRho [] 0 w := ⟨fun id r hr => by simp [mem, look] at hr, fun id id' r r' hr => by simp [mem, look] at hr, Below.refl _ _, ⟨Nat.le_refl _, fun i hi => by cases hi⟩, ⟨Nat.le_refl _, fun b h => h.elim, fun id r hr => by simp [mem, look] at hr⟩, fun id r hr => by simp [mem, look] at hr⟩
 have hnp : NoPin b0 := ⟨rfl⟩
 have hen : EnvAt P b0 := ⟨rfl⟩
 have hT : RelT w noRho (argT args 0) 0 n { tmps := vs.toArray ++ Array.replicate (fn.ntmps - vs.toArray.size) undef, defers := [] } := by
  refine ⟨fun t x hx => ?_, by simp [hn]; omega, rfl⟩
  obtain ⟨u, _, h2, h3⟩ := argT_spec hrel t x hx
  have hlt : t < vs.length := by
   rcases Nat.lt_or_ge t vs.length with hlt | hge
   ·exact hlt
   ·rw [Nat.sub_zero, List.getElem?_eq_none hge] at h2; cases h2
  have : (vs.toArray ++ Array.replicate (fn.ntmps - vs.toArray.size) undef).getD t undef = u := by
   rw [Array.getD_eq_getD_getElem?, Array.getElem?_append_left (by simpa using hlt)]
   simp only [Nat.sub_zero] at h2
   simp [h2]
  rw [this]
  exact h3
 refine wp_mono (h b0 noRho _ w hT hC) ?_
 have fin : ∀ (ρ : Nat → Value) (S : St) (a : Act) (w' : World) (avs : List AV), getRs tb S l [] = some avs → ResOK S.m avs res → RelT w ρ S.T S.nx S.nt a → RelC b0 ρ S.m S.nx w' →
  a.defers = [] ∧ ∃ v, (results fn a.tmps).run P w' = .ok v w' ∧ ∃ u, Ending.returned v = .returned u ∧ ResRel w.heap.size w' res u ∧ Below w.heap.size w w' := by
  intro ρ S a w' avs h1 h2 hT' hC'
  obtain ⟨ys, avs', e1, e2, e3⟩ := getRs_spec G hT' hC' h1
  simp at e1
  subst e1
  exact ⟨hT'.defers, _, results_run hl e3, _, rfl, (ResOK.parts hC' h2 e2).rel, hC'.below⟩
 rintro e a w' ⟨ρ, S, hq, hT', hC'⟩
 cases e <;> simp only [Fin] at hq
 case normal => obtain ⟨avs, h1, h2⟩ := hq; exact fin ρ S a w' avs h1 h2 hT' hC'
 case ret => obtain ⟨avs, h1, h2⟩ := hq; exact fin ρ S a w' avs h1 h2 hT' hC'
end
end Go.Rf
set_option linter.unusedVariables false
set_option linter.unusedSectionVars false
set_option linter.unusedSimpArgs false
namespace Go.Rf
open Go Go.RowKit
section
variable {P : Program} [Env P] {w0 : Base} {ops : Array Oper} {tb : List (Nat × TyI)} {o : Oper} {rest : List Oper} {T : List (Nat × AV)} {m : List (Nat × Option Row)} {nx nt d : Nat} {r : AV} {Q : Exit → St → Prop}
def bldA (tb : List (Nat × TyI)) (m : List (Nat × Option Row)) (T : List (Nat × AV)) (fs : List (Nat × Nat)) : List (Nat × Operand) → List AV → Option (List AV)
 | [], cs => some cs
 | (k, x) :: r, cs => match nth fs k with
  | some (off, ft) => match look ft tb, ev T x with
   | some i, some av => match cellsOf av with
    | some vs => bif (Nat.beq vs.length (sizeI i) && Nat.ble (off + vs.length) cs.length) && oneAs m vs then (match setO cs off vs [] with | some cs' => bldA tb m T fs r cs' | none => none) else none
    | none => none
   | _, _ => none
  | none => none
theorem foldl_set (off : Nat) : ∀ (l : List Value) (j : Nat) (cs : Array Value), off + j + l.length ≤ cs.size → (l.zipIdx j).foldl (fun cs (p : Value × Nat) => cs.setIfInBounds (off + p.2) p.1) cs = (cs.toList.take (off + j) ++ l ++ cs.toList.drop (off + j + l.length)).toArray
 | [], j, cs, _ => by simp
 | x :: l, j, cs, h => by
  simp only [List.length_cons] at h
  simp only [List.zipIdx_cons, List.foldl_cons]
  rw [foldl_set off l (j + 1) _ (by simp; omega)]
  congr 1
  have h2 : off + j < cs.size := by omega
  rw [Array.toList_setIfInBounds]
  have e1 : (cs.toList.set (off + j) x).take (off + (j + 1)) = cs.toList.take (off + j) ++ [x] := by
   rw [show off + (j + 1) = off + j + 1 by omega, List.take_succ_eq_append_getElem (by simpa using h2)]
   have : (cs.toList.set (off + j) x).take (off + j) = cs.toList.take (off + j) := by
    rw [List.take_set]
    exact List.set_eq_of_length_le (by rw [List.length_take]; omega)
   simp [this]
  rw [e1, List.drop_set_of_lt (by omega)]
  simp
  congr 1
  omega
theorem bldA_spec (G : Good P tb) {ρ : Nat → Value} {a : Act} {w : World} (hT : RelT w0 ρ T nx nt a) (hC : RelC w0 ρ m nx w) {fields : Array Field} {fs : List (Nat × Nat)}
 (hf : ∀ (k off ft : Nat), fs[k]? = some (off, ft) → ∃ (f : Field) (j : TypeInfo), fields[k]? = some f ∧ f.offset = off ∧ f.type = ft ∧ P.info? ft = some j ∧ j.size ≠ 0) {places : Array (Nat × Nat)} (hp : ∀ (k : Nat) (f : Field) (j : TypeInfo), fields[k]? = some f → P.info? f.type = some j → places[k]? = some (f.offset, j.size)) :
 ∀ {ps : List (Nat × Operand)} {cs rs : List AV}, bldA tb m T fs ps cs = some rs → ∀ (cells : Array Value), RelVs w0 ρ nx cs cells.toList →
 ∃ out : Array Value, Instr.fill (places[·]?) cells (ps.map fun p => (p.1, a.eval p.2)) = some out ∧ RelVs w0 ρ nx rs out.toList
 | [], cs, rs, h, cells, hr => by simp [bldA] at h; subst h; exact ⟨cells, rfl, hr⟩
 | (k, x) :: ps, cs, rs, h, cells, hr => by
  simp only [bldA] at h
  cases h1 : nth fs k with
  | none => simp [h1] at h
  | some p =>
   obtain ⟨off, ft⟩ := p
   simp only [h1] at h
   cases h2 : look ft tb with
   | none => simp [h2] at h
   | some i =>
    cases h3 : ev T x with
    | none => simp [h2, h3] at h
    | some av =>
     simp only [h2, h3] at h
     cases h4 : cellsOf av with
     | none => simp [h4] at h
     | some vs =>
      simp only [h4] at h
      cases h5 : ((Nat.beq vs.length (sizeI i) && Nat.ble (off + vs.length) cs.length) && oneAs m vs) with
      | false => simp [h5] at h
      | true =>
       simp only [h5, cond_true, setO_eq] at h
       simp only [Bool.and_eq_true] at h5
       have hl : vs.length = sizeI i := Nat.eq_of_beq_eq_true h5.1.1
       have hfit : off + vs.length ≤ cs.length := Nat.le_of_ble_eq_true h5.1.2
       rw [nth_eq] at h1
       obtain ⟨f, j, g1, g2, g3, g4, g5⟩ := hf k off ft h1
       subst g2; subst g3
       have hplace := hp k f j g1 g4
       have hsz : j.size = sizeI i := by
        have := (G _ _ h2).run_sizeOf w
        simp [sizeOf, typeInfo, g4] at this
        exact this
       have hR := (cells_rel hC h4 h5.2 (hT.ev h3)).1
       have hvl := RelVs.length _ hR
       have hcl := RelVs.length _ hr
       simp at hvl hcl
       have hfold := foldl_set f.offset (a.eval x).cells.toList 0 cells (by simp; omega)
       have hfold2 : (a.eval x).cells.zipIdx.foldl (fun cs (p : Value × Nat) => cs.setIfInBounds (f.offset + p.2) p.1) cells = (cells.toList.take f.offset ++ (a.eval x).cells.toList ++ cells.toList.drop (f.offset + vs.length)).toArray := by
        rw [← Array.foldl_toList]
        have e : (a.eval x).cells.zipIdx.toList = (a.eval x).cells.toList.zipIdx 0 := by simp
        rw [e, hfold]
        simp [hvl]
       have hfold3 : (a.eval x).cells.zipIdx.foldl (fun cs (p : Value × Nat) => match p with | (c, j) => cs.setIfInBounds (f.offset + j) c) cells = (cells.toList.take f.offset ++ (a.eval x).cells.toList ++ cells.toList.drop (f.offset + vs.length)).toArray := hfold2
       obtain ⟨out, e1, e2⟩ := bldA_spec G hT hC hf hp h (cells.toList.take f.offset ++ (a.eval x).cells.toList ++ cells.toList.drop (f.offset + vs.length)).toArray (by
        rw [setN_eq _ _ _ _ hfit]
        simp only [List.reverse_nil, List.nil_append]
        exact RelVs.append _ (RelVs.append _ (RelVs.take _ _ hr) hR) (RelVs.drop _ _ hr))
       refine ⟨out, ?_, e2⟩
       simp only [List.map_cons, Instr.fill, hplace]
       rw [if_neg (by simp [hvl, hl, hsz]; omega), hfold3]
       exact e1
theorem run_places {fields : Array Field} {w : World} (hall : ∀ f ∈ fields.toList, ∃ j, P.info? f.type = some j) : ∃ places : Array (Nat × Nat), ((fields.mapM fun f => do pure (f.offset, ← sizeOf f.type) : Sem (Array (Nat × Nat)))).run P w = .ok places w ∧
 ∀ (k : Nat) (f : Field) (j : TypeInfo), fields[k]? = some f → P.info? f.type = some j → places[k]? = some (f.offset, j.size) := by
 obtain ⟨l⟩ := fields
 have key : ∀ (l : List Field), (∀ f ∈ l, ∃ j, P.info? f.type = some j) → ∃ ps : List (Nat × Nat), ((l.mapM fun f => do pure (f.offset, ← sizeOf f.type) : Sem (List (Nat × Nat)))).run P w = .ok ps w ∧ ∀ (k : Nat) (f : Field) (j : TypeInfo), l[k]? = some f → P.info? f.type = some j → ps[k]? = some (f.offset, j.size) := by
  intro l
  induction l with
  | nil => intro _; exact ⟨[], by simp, by simp⟩
  | cons f l ih =>
   intro h
   obtain ⟨j, hj⟩ := h f (by simp)
   obtain ⟨ps, h1, h2⟩ := ih (fun f hf => h f (by simp [hf]))
   refine ⟨(f.offset, j.size) :: ps, ?_, ?_⟩
   ·simp [List.mapM_cons, sizeOf, typeInfo, hj] at h1 ⊢
    rw [h1]
    rfl
   ·intro k f' j' hk hj'
    match k with
    | 0 => simp at hk; subst hk; rw [hj] at hj'; cases hj'; rfl
    | k + 1 => simp at hk; simpa using h2 k f' j' hk hj'
 obtain ⟨ps, h1, h2⟩ := key l hall
 refine ⟨ps.toArray, ?_, by simpa using h2⟩
 rw [List.mapM_toArray]
 simp only [Sem.run_map, h1, Result.andThen_ok]
theorem q_build {t : TypeId} {ps : Array (Nat × Operand)} {fs : List (Nat × Nat)} {zs : List Value} {rs : List AV} (G : Good P tb) (ho : o.op = .build t ps) (ht : look t tb = some (.struct fs zs)) (hb : bldA tb m T fs ps.toList (avR zs []) = some rs) (hd : detAs rs = true) : QStep P o T m nx nt (.agg rs) :=
 QStep.run fun w0 ρ a w hT hC => by
  obtain ⟨fields, i, hu, hi, hsz, hz, _, hlen, hf⟩ := G t _ ht
  have hall : ∀ f ∈ fields.toList, ∃ j, P.info? f.type = some j := by
   intro f hm
   obtain ⟨k, hk, rfl⟩ := List.getElem_of_mem hm
   have hk' : k < fs.length := by rw [hlen]; simpa using hk
   obtain ⟨f', j, g1, _, g3, g4, _⟩ := hf k fs[k].1 fs[k].2 (by rw [List.getElem?_eq_getElem hk'])
   have : fields[k]? = some (fields.toList[k]) := by simp at hk; simp [hk]
   rw [this] at g1
   cases g1
   exact ⟨j, by rw [g3]; exact g4⟩
  have key : ∀ w', RelC w0 ρ m nx w' → ∃ ys : List Value, RelVs w0 ρ nx rs ys ∧ (execOp a.eval o).run P w' = .ok (.value (.agg ys.toArray)) w' := by
   intro w' hC'
   obtain ⟨places, hp1, hp2⟩ := run_places (P := P) (w := w') hall
   obtain ⟨out, e1, e2⟩ := bldA_spec G hT hC' hf hp2 hb zs.toArray (by simpa [avR_eq] using RelVs.map_v zs)
   refine ⟨out.toList, e2, ?_⟩
   have hps : (ps.map fun (p : Nat × Operand) => (p.1, a.eval p.2)).toList = ps.toList.map fun p => (p.1, a.eval p.2) := by simp
   have hps' : (Array.map (fun x => match x with | (i, x) => (i, a.eval x)) ps).toList = ps.toList.map fun p => (p.1, a.eval p.2) := hps
   simp only [execOp, ho, Instr.build, Sem.run_bind, zeroValue, typeInfo, run_program, Result.andThen_ok, hi, Sem.run_pure, hz, run_underlying hu, hp1, Value.cells, hps', e1]
  obtain ⟨ys, h1, h2⟩ := key w hC
  refine ⟨.agg ys.toArray, by simp only [RelV]; exact ⟨ys, rfl, h1⟩, fun w' hC' => ?_⟩
  obtain ⟨ys', h1', h2'⟩ := key w' hC'
  rw [detAs_eq hd h1 h1'] at h2'
  exact h2'
theorem fin_one {rs : List ResultVar} {S : St} {x : AV} {c : RC} (h : getRs tb S rs [] = some [x]) (hx : RCOK S.m x c) : Fin tb rs (.one c) .ret S := ⟨_, h, x, rfl, hx⟩
theorem fin_many {rs : List ResultVar} {S : St} {xs : List AV} {cs : List RC} (h : getRs tb S rs [] = some xs) (hl : Nat.beq xs.length 1 = false) (hn : nodupB (ownIds xs []) = true) (ho : loneB xs = true) (hx : RCOKs S.m xs cs) : Fin tb rs (.many cs) .ret S := ⟨_, h, hx, hl, hn, ho⟩
theorem rc_v {x u : Value} (h : x = u) : RCOK m (.v x) (.v u) := by subst h; rfl
theorem rc_agg {cs : List AV} {xs : List Value} {u : Value} (h : vaR cs [] = some xs) (hu : .agg ⟨xs⟩ = u) : RCOK m (.agg cs) (.v u) := by
 show toVal (.agg cs) = some u
 simp only [toVal, h]
 rw [hu]
theorem rc_own {id e sz : Nat} {ys ys' : List (List Value)} {f f0 : Bool} (h : mem m id = some (.row e sz ys' f0)) (hy : ys' = ys) (hf : (!f0 || f) = true := by rfl) : RCOK m (.own id) (.fr e sz ys f) := by subst hy; exact ⟨f0, h, fun e => by subst e; simpa using hf⟩
theorem rc_nil {e sz : Nat} {ys : List (List Value)} {f : Bool} (h : [] = ys) : RCOK m (.v (.slice none 0 0)) (.fr e sz ys f) := ⟨rfl, h.symm⟩
theorem rcs_nil : RCOKs m [] [] := trivial
theorem rcs_cons {x : AV} {xs : List AV} {r : RC} {rs : List RC} (h : RCOK m x r) (h' : RCOKs m xs rs) : RCOKs m (x :: xs) (r :: rs) := ⟨h, h'⟩
theorem q_len' {x : Operand} {t e sz by_ n n' : Nat} {zs : List Value} {ax : AV} (G : Good P tb) (ho : o.op = .call { callee := .builtin .len, args := #[x], argTypes := #[t] }) (ht : look t tb = some (.slice e sz by_ zs)) (hx : ev T x = some ax) (hn : lenA m ax = some n) (he : n = n') :
 QStep P o T m nx nt (.v (.int .i64 n')) := he ▸ q_len G ho ht hx hn
theorem getM {α : Type} [Inhabited α] {l : List α} {f : α → List Value} {i : Int} (h0 : 0 ≤ i) (h1 : i < l.length) : (l.map f)[i.toNat]? = some (f (l.getD i.toNat default)) := by
 have : i.toNat < l.length := by omega
 simp [this]
theorem q_eqv {v v' : Value} (h : QStep P o T m nx nt (.v v)) (e : v = v') : QStep P o T m nx nt (.v v') := e ▸ h
def keepO (n : Nat) (T : List (Nat × AV)) : List Nat → List (Nat × AV) → Option (List (Nat × AV))
 | [], acc => some acc
 | t :: r, acc => match look t T with
  | some x => bif refsB n x then keepO n T r ((t, x) :: acc) else none
  | none => none
def keepM (n : Nat) (m : List (Nat × Option Row)) : List Nat → List (Nat × Option Row) → Option (List (Nat × Option Row))
 | [], acc => some acc
 | i :: r, acc => match mem m i with
  | some row => bif Nat.blt i n && rowRefs n row then keepM n m r ((i, some row) :: acc) else none
  | none => none
theorem keepO_spec {n : Nat} {T : List (Nat × AV)} : ∀ {ks : List Nat} {acc T0 : List (Nat × AV)}, keepO n T ks acc = some T0 → WeakT T n acc → WeakT T n T0
 | [], acc, T0, h, ha => by simp [keepO] at h; subst h; exact ha
 | t :: r, acc, T0, h, ha => by
  simp only [keepO] at h
  cases h1 : look t T with
  | none => simp [h1] at h
  | some x =>
   simp only [h1] at h
   cases h2 : refsB n x with
   | false => simp [h2] at h
   | true =>
    simp only [h2, cond_true] at h
    exact keepO_spec h ⟨⟨x, h1, rfl⟩, h2, ha⟩
theorem keepM_spec {n : Nat} {m : List (Nat × Option Row)} : ∀ {ks : List Nat} {acc M0 : List (Nat × Option Row)}, keepM n m ks acc = some M0 → WeakM m n acc → WeakM m n M0
 | [], acc, M0, h, ha => by simp [keepM] at h; subst h; exact ha
 | t :: r, acc, M0, h, ha => by
  simp only [keepM] at h
  cases h1 : mem m t with
  | none => simp [h1] at h
  | some x =>
   simp only [h1] at h
   cases h2 : (Nat.blt t n && rowRefs n x) with
   | false => simp [h2] at h
   | true =>
    simp only [h2, cond_true] at h
    simp only [Bool.and_eq_true] at h2
    exact keepM_spec h ⟨⟨x, h1, rfl⟩, h2.1, h2.2, ha⟩
theorem WeakT.append {n : Nat} {T : List (Nat × AV)} : ∀ {a b : List (Nat × AV)}, WeakT T n a → WeakT T n b → WeakT T n (a ++ b)
 | [], _, _, h => h
 | (t, x) :: r, _, h, h' => ⟨h.1, h.2.1, WeakT.append h.2.2 h'⟩
theorem WeakM.append {n : Nat} {m : List (Nat × Option Row)} : ∀ {a b : List (Nat × Option Row)}, WeakM m n a → WeakM m n b → WeakM m n (a ++ b)
 | [], _, _, h => h
 | (i, none) :: r, _, h, h' => WeakM.append (a := r) h h'
 | (i, some row) :: r, _, h, h' => ⟨h.1, h.2.1, h.2.2.1, WeakM.append h.2.2.2 h'⟩
theorem W_loopK {α : Type} {c : Code} (ks ms : List Nat) (mod : α → List (Nat × AV)) (mm : α → List (Nat × Option Row)) (inv : α → Prop) (μ : α → Nat) (x0 : α) {T0 : List (Nat × AV)} {M0 : List (Nat × Option Row)}
 (hT : keepO nx T ks [] = some T0) (hM : keepM nx m ms [] = some M0) (h0 : inv x0) (w1 : WeakT T nx (mod x0)) (w2 : WeakM m nx (mm x0))
 (round : ∀ x, inv x → W P w0 c ⟨mod x ++ T0, mm x ++ M0, nx, nt⟩ (sq (fun S' => ∃ x', inv x' ∧ μ x' < μ x ∧ WeakT S'.T nx (mod x') ∧ WeakM S'.m nx (mm x') ∧ keepO nx S'.T ks [] = some T0 ∧ keepM nx S'.m ms [] = some M0 ∧ S'.nt = nt) Q)) :
 W P w0 (.loop c) ⟨T, m, nx, nt⟩ Q := by
 refine W_loop (fun x => ⟨mod x ++ T0, mm x ++ M0, nx, nt⟩) inv μ x0 h0 ⟨rfl, w1.append (keepO_spec hT trivial), w2.append (keepM_spec hM trivial)⟩ (fun _ => rfl) (fun x hx => W_mono (round x hx) ?_)
 intro e S' hq
 cases e
 case normal =>
  obtain ⟨x', g1, g2, g3, g4, g5, g6, g7⟩ := hq
  exact ⟨x', g1, ⟨g7.symm, g3.append (keepO_spec g5 trivial), g4.append (keepM_spec g6 trivial)⟩, g2⟩
 all_goals exact hq
end
end Go.Rf
set_option linter.unusedVariables false
set_option linter.unusedSectionVars false
set_option linter.unusedSimpArgs false
namespace Go.Rf
open Go
def inside (n l h : Int) : Bool := decide (n ≥ l) && decide (n ≤ h)
theorem inside_t {n l h : Int} : inside n l h = true ↔ l ≤ n ∧ n ≤ h := by simp [inside]
end Go.Rf
set_option linter.unusedVariables false
set_option linter.unusedSectionVars false
set_option linter.unusedSimpArgs false
namespace Go.Rf
open Go
variable {P : Program} [Env P] {tb : List (Nat × TyI)} {w0 : Base} {T : List (Nat × AV)} {m : List (Nat × Option Row)} {nx nt : Nat} {o : Oper}
theorem q_min' {x y : Operand} {ts : Array TypeId} {k : IntKind} {a b : Int} (ho : o.op = .call { callee := .builtin .min, args := #[x, y], argTypes := ts }) (hx : ev T x = some (.v (.int k a))) (hy : ev T y = some (.v (.int k b))) :
 QStep P o T m nx nt (.v (.int k (min a b))) := by
 have := q_min (P := P) (m := m) (nx := nx) (nt := nt) ho hx hy
 have e : (if b < a then b else a) = min a b := by rw [Int.min_def]; split <;> split <;> omega
 rwa [e] at this
end Go.Rf
set_option linter.unusedVariables false
set_option linter.unusedSimpArgs false
set_option linter.unusedSectionVars false
namespace Go.Rf
open Go
section
variable {α β : Type} [Inhabited α] {f : α → β} {z : β} {xs ys : List α} {i : Nat}
def fill (f : α → β) (z : β) (xs : List α) (i : Nat) : List β := (xs.take i).map f ++ List.replicate (xs.length - i) z
theorem fill_zero : fill f z xs 0 = List.replicate xs.length z := by simp [fill]
theorem fill_len (h : i ≤ xs.length) : (fill f z xs i).length = xs.length := by simp [fill]; omega
theorem fill_get (h : i < xs.length) : (fill f z xs i)[i]? = some z := by
 have h1 : (List.map f (List.take i xs)).length = i := by simp; omega
 rw [fill, List.getElem?_append_right (by omega), h1, Nat.sub_self, List.getElem?_replicate, if_pos (by omega)]
theorem take_succ (h : i < xs.length) : xs.take (i + 1) = xs.take i ++ [xs.getD i default] := by
 rw [List.take_add_one]
 simp [h]
theorem fill_set (h : i < xs.length) : (fill f z xs i).set i (f (xs.getD i default)) = fill f z xs (i + 1) := by
 have h1 : (List.map f (List.take i xs)).length = i := by simp; omega
 have h2 : xs.length - i = (xs.length - (i + 1)) + 1 := by omega
 rw [fill, List.set_append_right _ _ (by omega), h1, h2, List.replicate_succ, fill, take_succ h]
 simp
theorem fill_end (h1 : i ≤ xs.length) (h2 : xs.length ≤ i) : fill f z xs i = xs.map f := by
 have : xs.length - i = 0 := by omega
 simp [fill, this, List.take_of_length_le h2]
theorem getN (h : i < xs.length) : (xs.map f)[((i : Int)).toNat]? = some (f (xs.getD i default)) := by simp [h]
theorem getNI {j : Int} (h0 : 0 ≤ j) (h : j.toNat < xs.length) : (xs.map f)[j.toNat]? = some (f (xs.getD j.toNat default)) := by simp [h]
theorem eq_true_of (hl : xs.length = ys.length) (h : ∀ j, j < i → xs.getD j default = ys.getD j default) (hi : xs.length ≤ i) : xs = ys := by
 apply List.ext_getElem hl
 intro j h1 h2
 have := h j (by omega)
 simpa [h1, h2] using this
theorem eq_false_of (h : xs.getD i default ≠ ys.getD i default) : xs ≠ ys := fun e => h (by rw [e])
theorem upto_succ {p : Nat → Prop} (h : ∀ j, j < i → p j) (hi : p i) : ∀ j, j < i + 1 → p j := fun j hj => by
 rcases Nat.lt_or_ge j i with h1 | h1
 ·exact h j h1
 ·have : j = i := by omega
  exact this ▸ hi
end
def allN (n : Nat) (f : Nat → Bool) : Bool := (List.range n).all f
theorem allN_t {n i : Nat} {f : Nat → Bool} (h : ∀ j, j < i → f j = true) (hi : n ≤ i) : allN n f = true := by
 simp only [allN, List.all_eq_true, List.mem_range]
 exact fun j hj => h j (by omega)
theorem allN_f {n i : Nat} {f : Nat → Bool} (h : f i = false) (hi : i < n) : allN n f = false := by
 simp only [allN, List.all_eq_false, List.mem_range]
 exact ⟨i, hi, by simp [h]⟩
theorem allN_iff {n : Nat} {f : Nat → Bool} : allN n f = true ↔ ∀ j, j < n → f j = true := by simp [allN]
end Go.Rf
set_option linter.unusedVariables false
set_option linter.unusedSimpArgs false
set_option linter.unusedSectionVars false
namespace Go.Rf
open Go
theorem Ctr.int {P : Program} [Env P] {f : FuncId} {args : List AV} {a b : Int} (h : Ctr P f args (.one (.v (.int .i64 a)))) (e : a = b) : Ctr P f args (.one (.v (.int .i64 b))) := e ▸ h
end Go.Rf
set_option linter.unusedVariables false
set_option linter.unusedSimpArgs false
set_option linter.unusedSectionVars false
namespace Go.Rf
open Go
structure Setting where
 g : Int
 n : ByteArray
 c : Int
 f : Int
 w : Int
 k : Bool
instance : Inhabited Setting := ⟨⟨0, ⟨#[]⟩, 0, 0, 0, false⟩⟩
end Go.Rf
set_option linter.unusedVariables false
set_option linter.unusedSectionVars false
set_option linter.unusedSimpArgs false
namespace Go.Rf
open Go Go.ChangeShapes Go.WideShapes Go.Deep Go.ChangeAt Go.RowKit
inductive CK where
 | int (k : IntKind)
 | bool
 | str
def CellOK : CK → Value → Prop
 | .int k, v => ∃ n, v = .int k n ∧ (Lit.int k n).wf = true
 | .bool, v => ∃ b, v = .bool b
 | .str, v => ∃ s, v = .string s ∧ s.size ≤ maxLen
def CellsOK : List CK → List Value → Prop
 | [], cs => cs = []
 | k :: ks, cs => ∃ v vs, cs = v :: vs ∧ CellOK k v ∧ CellsOK ks vs
def ckOf (P : Program) (t : TypeId) : Option CK := match P.underlying t with
 | some (.int k) => some (.int k)
 | some .bool => some .bool
 | some .string => some .str
 | _ => none
def cksF (P : Program) : List Field → Option (List CK)
 | [] => some []
 | f :: r => match ckOf P f.type, cksF P r with
  | some k, some ks => some (k :: ks)
  | _, _ => none
theorem CellOK.one {k : CK} {v : Value} (h : CellOK k v) : v.oneCell' = true := by
 cases k <;> simp only [CellOK] at h
 ·obtain ⟨n, rfl, _⟩ := h; rfl
 ·obtain ⟨n, rfl⟩ := h; rfl
 ·obtain ⟨n, rfl, _⟩ := h; rfl
theorem CellsOK.len : ∀ {ks : List CK} {cs : List Value}, CellsOK ks cs → cs.length = ks.length ∧ ∀ u ∈ cs, u.oneCell' = true
 | [], cs, h => by simp only [CellsOK] at h; subst h; simp
 | k :: ks, cs, h => by
  simp only [CellsOK] at h
  obtain ⟨v, vs, rfl, h1, h2⟩ := h
  obtain ⟨a, b⟩ := CellsOK.len h2
  exact ⟨by simp [a], fun u hu => by rcases List.mem_cons.mp hu with rfl | hu; exact h1.one; exact b u hu⟩
section
variable {H : Type} {enc : TypeId × Value → H} {P : Program} {w : World} {base : Nat} {spare : Nat → Bool} {held : Bool} {t e : TypeId}
theorem cell_of_trod {k : CK} {n : Nat} {cs : List Value} {x : DataW H × List MemPlace} (hk : ckOf P t = some k) (h : DataW.trod enc P w base spare held n t cs = some x) : ∃ v, cs = [v] ∧ CellOK k v := by
 unfold ckOf at hk
 split at hk <;> cases hk
 ·next k ht => obtain ⟨n, rfl, _, hw⟩ := DataW.trod_int ht h; exact ⟨_, rfl, n, rfl, hw⟩
 ·next ht => obtain ⟨b, rfl, _⟩ := DataW.trod_bool ht h; exact ⟨_, rfl, b, rfl⟩
 ·next ht => obtain ⟨s, rfl, _, hs⟩ := DataW.trod_string ht h; exact ⟨_, rfl, s, rfl, hs⟩
theorem cells_walk : ∀ (l : List Field) (ks : List CK) (cs : List Value), cksF P l = some ks → cs.length = l.length → (∀ (j : Nat) (f : Field) (k : CK), l[j]? = some f → ckOf P f.type = some k → ∃ v, cs[j]? = some v ∧ CellOK k v) → CellsOK ks cs
 | [], ks, cs, hk, hl, _ => by simp [cksF] at hk; subst hk; simpa [CellsOK] using hl
 | f :: r, ks, cs, hk, hl, h => by
  simp only [cksF] at hk
  split at hk
  ·next k ks' h1 h2 =>
   cases hk
   match cs, hl with
   | c :: cs, hl =>
    obtain ⟨v, hv, hok⟩ := h 0 f k rfl h1
    simp at hv
    subst hv
    exact ⟨c, cs, rfl, hok, cells_walk r ks' cs h2 (by simpa using hl) fun j f' k' hj hk' => by simpa using h (j + 1) f' k' (by simpa using hj) hk'⟩
  ·cases hk
theorem cells_of_struct {fs : Array Field} {ks : List CK} {n : Nat} {cs : List Value} {x : DataW H × List MemPlace} (hs : P.underlying t = some (.struct fs)) (hone : oneCellFields P fs = true) (hC : P.cellsOf t = fs.size) (hk : cksF P fs.toList = some ks)
 (h : DataW.trod enc P w base spare held n t cs = some x) : CellsOK ks cs := by
 obtain ⟨xs, n', _, _, hlen, hxl, hf⟩ := DataW.trod_struct hs h
 refine cells_walk _ _ _ hk (by rw [hlen, hC]; simp) fun j f k hj hkf => ?_
 have hj' : fs[j]? = some f := by simpa using hj
 obtain ⟨ho, h1⟩ := hone_of hone j f hj'
 have hjl : j < fs.size := (Array.getElem?_eq_some_iff.1 hj').1
 have h2 := hf j f hj'
 rw [ho, h1, List.getElem?_eq_getElem (by omega)] at h2
 obtain ⟨v, hv, hok⟩ := cell_of_trod hkf h2
 refine ⟨v, ?_, hok⟩
 have : ((cs.drop j).take 1)[0]? = some v := by rw [hv]; rfl
 simpa using this
theorem cell_block {a : Addr} {v : Value} (h : w.cell? a = some v) : a.block < w.heap.size := by
 unfold World.cell? at h
 split at h
 ·next hb => exact (Array.getElem?_eq_some_iff.1 hb).1
 ·cases h
inductive EK where
 | one (k : CK)
 | str (fs : Array Field) (ks : List CK)
def EK.sz : EK → Nat
 | .one _ => 1
 | .str fs _ => fs.size
def EK.ks : EK → List CK
 | .one k => [k]
 | .str _ ks => ks
def EK.Fits (P : Program) (e : TypeId) : EK → Prop
 | .one k => ckOf P e = some k ∧ P.cellsOf e = 1
 | .str fs ks => P.underlying e = some (.struct fs) ∧ oneCellFields P fs = true ∧ P.cellsOf e = fs.size ∧ cksF P fs.toList = some ks
theorem EK.Fits.cells {E : EK} (h : E.Fits P e) : P.cellsOf e = E.sz := by cases E <;> simp only [EK.Fits] at h; exact h.2; exact h.2.2.1
theorem EK.Fits.trod {E : EK} (h : E.Fits P e) {n : Nat} {cs : List Value} {x : DataW H × List MemPlace} (ht : DataW.trod enc P w base spare held n e cs = some x) : CellsOK E.ks cs := by
 cases E <;> simp only [EK.Fits] at h
 ·obtain ⟨v, rfl, hv⟩ := cell_of_trod h.1 ht; exact ⟨v, [], rfl, hv, rfl⟩
 ·exact cells_of_struct h.1 h.2.1 h.2.2.1 h.2.2.2 ht
theorem reads_slice {v : Value} {d : DataW H} {p : List MemPlace} {E : EK} (ht : P.underlying t = some (.slice e)) (hE : E.Fits P e) (hsz : E.sz ≠ 0) (hv : ∃ a len cap, v = .slice a len cap) (h : DataW.Trod enc P w base spare held t v d p) :
 ∃ ys, ReadsAt w E.sz ys v ∧ ys.length ≤ maxLen ∧ ∀ c ∈ ys, CellsOK E.ks c := by
 obtain ⟨a, len, cap, rfl⟩ := hv
 obtain ⟨fuel, hf⟩ := h
 rcases open_slice ht hf with ⟨hcs, _⟩ | ⟨a', len', cap', m, n, D, Pl, hcs, hb, hl, hm, hmm, hx, hi⟩
 ·simp [Value.cells] at hcs
  obtain ⟨rfl, rfl, rfl⟩ := hcs
  exact ⟨[], ⟨none, 0, rfl, Nat.le_refl _, by simp, by simp⟩, by simp, by simp⟩
 ·simp [Value.cells] at hcs
  obtain ⟨rfl, rfl, rfl⟩ := hcs
  have hlm : len ≤ m := by rw [hmm]; split <;> omega
  rw [hE.cells] at hi
  let ys := (List.range len).map fun i => (w.cells? base (a'.add (i * E.sz)) E.sz).getD []
  have hget : ∀ i c, ys[i]? = some c → i < len ∧ w.cells? base (a'.add (i * E.sz)) E.sz = some c ∧ CellsOK E.ks c := by
   intro i c hic
   simp only [ys, List.getElem?_map] at hic
   rcases Nat.lt_or_ge i len with hlt | hge
   ·obtain ⟨cs', h1, h2⟩ := hi i (by omega)
    rw [List.getElem?_range hlt] at hic
    simp [h1] at hic
    subst hic
    exact ⟨hlt, h1, hE.trod h2⟩
   ·rw [List.getElem?_eq_none (by simpa using hge)] at hic
    cases hic
  have hlen : ys.length = len := by simp [ys]
  refine ⟨ys, ⟨some a', cap, by rw [hlen], by omega, fun c hc => ?_, fun h0 => ⟨a', rfl, ?_, fun i c hic j u hju => ?_⟩⟩, by omega, fun c hc => ?_⟩
  ·obtain ⟨i, hic⟩ := List.getElem?_of_mem hc
   obtain ⟨_, h1, h2⟩ := hget i c hic
   exact ⟨(World.cells?_some h1).2.1, h2.len.2⟩
  ·obtain ⟨cs', h1, _⟩ := hi 0 (by omega)
   obtain ⟨_, h2, h3⟩ := World.cells?_some h1
   have h4 := h3 0 (by omega)
   rw [List.getElem?_eq_getElem (by omega)] at h4
   have := cell_block h4
   simpa [Addr.add] using this
  ·obtain ⟨_, h1, _⟩ := hget i c hic
   obtain ⟨_, h2, h3⟩ := World.cells?_some h1
   have hj : j < c.length := (List.getElem?_eq_some_iff.1 hju).1
   rw [← hju, ← h3 j (by omega)]
   rw [← Go.Deep.add_add]
  ·obtain ⟨i, hic⟩ := List.getElem?_of_mem hc
   exact (hget i c hic).2.2
end
theorem list_of {α : Type} {f : α → List Value} {ks : List CK} (h : ∀ c, CellsOK ks c → ∃ x, c = f x) : ∀ (ys : List (List Value)), (∀ c ∈ ys, CellsOK ks c) → ∃ xs : List α, ys = xs.map f
 | [], _ => ⟨[], rfl⟩
 | c :: r, hc => by
  obtain ⟨x, rfl⟩ := h c (hc c (by simp))
  obtain ⟨xs, rfl⟩ := list_of h r (fun c' h' => hc c' (by simp [h']))
  exact ⟨x :: xs, rfl⟩
theorem RelVs_nil {w : World} : RelVs w noRho 0 [] [] := rfl
theorem RelVs_lst {w : World} {sz : Nat} {ys : List (List Value)} {v : Value} {as : List AV} {vs : List Value} (hr : ReadsAt w sz ys v) (h : RelVs w noRho 0 as vs) : RelVs w noRho 0 (.lst sz ys :: as) (v :: vs) := by
 simp only [RelVs]; exact ⟨v, vs, rfl, by simpa only [RelV] using hr, h⟩
theorem Ctr.true {P : Program} [Env P] {f : FuncId} {args : List AV} (h : Ctr P f args (.one (.v (.bool Bool.true)))) {w : World} {vs : List Value} (hE : Env.E P w) (hv : RelVs w noRho 0 args vs) :
 Calls P f vs.toArray w fun e w' => e = .returned (.bool Bool.true) ∧ Below w.heap.size w w' :=
 (h.calls w vs hE hv).mono fun e w' ⟨v, he, hr, hb⟩ => ⟨by simp only [ResRel, RCRel] at hr; rw [he, hr], hb⟩
end Go.Rf
set_option linter.unusedVariables false
set_option linter.unusedSectionVars false
namespace Go.Rf
open Go
end Go.Rf
set_option linter.unusedVariables false
set_option linter.unusedSectionVars false
set_option linter.unusedSimpArgs false
namespace Go.Rf
open Go Go.RowKit
def nq (K : St → Prop) : Exit → St → Prop
 | .normal, S => K S
 | _, _ => False
def pureOp : Op → Bool
 | .load _ _ => true
 | .field _ _ _ => true
 | .fieldAddr _ _ _ => true
 | .index _ _ _ => true
 | .indexAddr _ _ _ => true
 | .move _ => true
 | .assign _ => true
 | .binOp _ _ _ _ _ => true
 | .unOp _ _ _ => true
 | .convert _ _ _ => true
 | .slice _ _ _ _ _ => true
 | .build _ _ => true
 | .extract _ _ => true
 | .pick _ _ _ => true
 | .makeFunc _ _ _ => true
 | .call { callee := .builtin .len, args := _, argTypes := _ } => true
 | .call { callee := .builtin .min, args := _, argTypes := _ } => true
 | .call { callee := .builtin .max, args := _, argTypes := _ } => true
 | _ => false
theorem val_of_bind {P : Program} {x : Sem Value} {w w' : World} {n : Next} (h : (do let v ← x; pure (Next.value v) : Sem Next).run P w = .ok n w') : ∃ v, n = .value v := by
 simp only [Sem.run_bind] at h
 cases hx : x.run P w with
 | ok v w1 => rw [hx] at h; simp at h; exact ⟨v, h.1.symm⟩
 | halt c w1 => rw [hx] at h; simp at h
theorem pure_spec {P : Program} {o : Oper} (hp : pureOp o.op = true) {ρ : Operand → Value} {w w' : World} {n : Next} (h : (execOp ρ o).run P w = .ok n w') : ∃ v, n = .value v := by
 unfold execOp at h
 split at h <;> rename_i he <;> rw [he] at hp <;> first
  | (cases hp; done)
  | exact val_of_bind h
  | (simp at h; exact ⟨_, h.1.symm⟩)
  | skip
 ·simp only [Sem.run_bind] at h
  rename_i c x y
  cases hx : (asBool (ρ c)).run P w with
  | ok v w1 => rw [hx] at h; simp at h; exact ⟨_, h.1.symm⟩
  | halt cc w1 => rw [hx] at h; simp at h
 ·rename_i c
  obtain ⟨cal, args, ts⟩ := c
  cases cal with
  | value f => cases hp
  | invoke r nm => cases hp
  | builtin b =>
   cases b <;> first
    | (cases hp; done)
    | (simp only [resolve, invoke, builtin, Sem.run_bind, Sem.run_pure, Result.andThen_ok] at h; exact val_of_bind (by simpa only [Sem.run_bind, Sem.run_pure] using h))
section
variable {P : Program} [Env P] {b : Base} {ops : Array Oper} {o : Oper} {T : List (Nat × AV)} {m m0 : List (Nat × Option Row)} {nx nt d i fuel : Nat} {listed : Array Bool} {r : AV} {K : St → Prop}
def Cls (b : Base) (m0 : List (Nat × Option Row)) (w : World) : Prop := RelC b b.r0 m0 b.n0 w
theorem Inner.eq {w0 w0' : Base} {ρ ρ' : Nat → Value} {m : List (Nat × Option Row)} {w : World} (h : Inner w0 ρ m w) (hr : ∀ id r, mem m id = some r → ρ' id = ρ id) (hk : w0'.keep = w0.keep := by rfl) (hw : w0'.w = w0.w := by rfl) : Inner w0' ρ' m w := by
 intro id r hm p b hb
 rw [hr id r hm] at hb
 obtain ⟨g1, g2, g3, g4⟩ := h id r hm p b hb
 refine ⟨by rw [hk]; exact g1, by rw [hw]; exact g2, g3, fun id' r' hm' => ?_⟩
 rw [hr id' r' hm']
 exact g4 id' r' hm'
theorem RelC.pinned {ρ : Nat → Value} {w w' : World} (hC : RelC b ρ m nx w) (h : Cls b m0 w') : RelC b ρ m0 nx w' := by
 have hr : ∀ i, i < b.n0 → ρ i = b.r0 i := hC.pin.2
 refine ⟨fun id r hm => ?_, fun id id' r r' hm hm' hne bb hb => ?_, h.below, hC.pin, ⟨h.kept.1, h.kept.2.1, fun id r hm bb hb => ?_⟩, h.inner.eq fun id r hm => hr id (h.rows id r hm).1⟩
 ·obtain ⟨h1, h2⟩ := h.rows id r hm
  exact ⟨Nat.lt_of_lt_of_le h1 hC.pin.1, h2.mono hC.pin.1 hr h1⟩
 ·have h1 := (h.rows id r hm).1
  have h2 := (h.rows id' r' hm').1
  rw [hr id h1] at hb
  rw [hr id' h2]
  exact h.apart id id' r r' hm hm' hne bb hb
 ·rw [hr id (h.rows id r hm).1] at hb
  exact h.kept.2.2 id r hm bb hb
theorem RelC.cls {ρ : Nat → Value} {w : World} {ms : List Nat} (hC : RelC b ρ m nx w) (h : keepM b.n0 m ms [] = some m0) : Cls b m0 w := by
 have hw : WeakM m b.n0 m0 := keepM_spec h trivial
 have hr : ∀ i, i < b.n0 → ρ i = b.r0 i := hC.pin.2
 have h2 : RelC b ρ m0 b.n0 w := (Weak.rel (S := ⟨[], m, nx, 0⟩) (S' := ⟨[], m0, b.n0, 0⟩) ⟨rfl, trivial, hw⟩ (Nat.le_refl _) (ρ := ρ) (a := ⟨#[], []⟩) ⟨fun t x hx => (by cases hx), rfl, rfl⟩ hC).2
 refine ⟨fun id r hm => ?_, fun id id' r r' hm hm' hne bb hb => ?_, h2.below, ⟨Nat.le_refl _, fun _ _ => rfl⟩, ⟨h2.kept.1, h2.kept.2.1, fun id r hm bb hb => ?_⟩, h2.inner.eq fun id r hm => (hr id (h2.rows id r hm).1).symm⟩
 ·obtain ⟨g1, g2⟩ := h2.rows id r hm
  exact ⟨g1, g2.mono (Nat.le_refl _) (fun j hj => (hr j hj).symm) g1⟩
 ·have g1 := (h2.rows id r hm).1
  have g2 := (h2.rows id' r' hm').1
  rw [← hr id g1] at hb
  rw [← hr id' g2]
  exact h2.apart id id' r r' hm hm' hne bb hb
 ·rw [← hr id (h2.rows id r hm).1] at hb
  exact h2.kept.2.2 id r hm bb hb
def WA (P : Program) (b : Base) (ops : Array Oper) (m0 : List (Nat × Option Row)) (fuel : Nat) (listed : Array Bool) (S : St) (K : St → Prop) : Prop :=
 Region.noSelect ops = true → ∀ ρ a w, RelT b.w ρ S.T S.nx S.nt a → RelC b ρ S.m S.nx w → Cls b m0 w → wpAnyH P .any ops (Post b (nq K)) (Cls b m0) fuel listed a w
theorem post_only {e : Exit} {a : Act} {w : World} (h : Post b (nq K) e a w) : e = .normal := by
 obtain ⟨ρ, S, h, _⟩ := h
 cases e <;> first | rfl | exact h.elim
theorem WA_take [EnvAt P b] (i : Nat) (hi : ops[i]? = some o) (hf : Region.free .any ops listed i = true) (hr : (Region.ready .any ops listed).contains i = true) (hp : pureOp o.op = true) (hg : o.guard = none)
 (hd : o.dst = some d) (hlt : Nat.blt d nt = true) (hq : QStep P o T m0 nx nt r) (hk : WA P b ops m0 fuel (listed.setIfInBounds i true) ⟨(d, r) :: T, m, nx, nt⟩ K) : WA P b ops m0 (fuel + 1) listed ⟨T, m, nx, nt⟩ K := by
 intro hs ρ a w hT hC hS
 obtain ⟨y, hy, hq⟩ := hq b ρ a w hT (hC.pinned hS)
 refine wpAnyH_take hi hs hf hr (fun c a w h => absurd (post_only h) (by simp)) (v := y) (.inl ⟨by simp [Region.wanted, hg], fun w' hw' => ?_⟩) hS ?_
 ·have h1 := hq w' (hC.pinned hw')
  unfold Oper.quietAt at h1
  generalize hres : (execOp a.eval o).run P w' = res at *
  cases res with
  | ok n w'' =>
   obtain ⟨v, rfl⟩ := pure_spec hp hres
   simp only [Oper.quietUpon] at h1
   rw [h1.1, h1.2]
  | halt x w'' => simp only [Oper.quietUpon] at h1
 ·rw [hd]
  exact hk hs ρ _ w (hT.put hlt hy) hC hS
theorem WA_take_run [EnvAt P b] (i : Nat) {j gd : Nat} {want : Bool} (hi : ops[i]? = some o) (hf : Region.free .any ops listed i = true) (hr : (Region.ready .any ops listed).contains i = true) (hp : pureOp o.op = true) (hg : o.guard = some (j, want))
 (hj : (ops[j]?).bind (·.dst) = some gd) (hb : look gd T = some (.v (.bool want)))
 (hd : o.dst = some d) (hlt : Nat.blt d nt = true) (hq : QStep P o T m0 nx nt r) (hk : WA P b ops m0 fuel (listed.setIfInBounds i true) ⟨(d, r) :: T, m, nx, nt⟩ K) : WA P b ops m0 (fuel + 1) listed ⟨T, m, nx, nt⟩ K := by
 intro hs ρ a w hT hC hS
 obtain ⟨y, hy, hq⟩ := hq b ρ a w hT (hC.pinned hS)
 refine wpAnyH_take hi hs hf hr (fun c a w h => absurd (post_only h) (by simp)) (v := y) (.inl ⟨by rw [wanted_of hT hg hj hb]; simp, fun w' hw' => ?_⟩) hS ?_
 ·have h1 := hq w' (hC.pinned hw')
  unfold Oper.quietAt at h1
  generalize hres : (execOp a.eval o).run P w' = res at *
  cases res with
  | ok n w'' =>
   obtain ⟨v, rfl⟩ := pure_spec hp hres
   simp only [Oper.quietUpon] at h1
   rw [h1.1, h1.2]
  | halt x w'' => simp only [Oper.quietUpon] at h1
 ·rw [hd]
  exact hk hs ρ _ w (hT.put hlt hy) hC hS
theorem WA_skip (i : Nat) {j gd : Nat} {want bb : Bool} (hi : ops[i]? = some o) (hf : Region.free .any ops listed i = true) (hr : (Region.ready .any ops listed).contains i = true) (hg : o.guard = some (j, want))
 (hj : (ops[j]?).bind (·.dst) = some gd) (hb : look gd T = some (.v (.bool bb))) (hne : (bb == want) = false)
 (hd : o.dst = some d) (hlt : Nat.blt d nt = true) (hk : WA P b ops m0 fuel (listed.setIfInBounds i true) ⟨(d, .v undef) :: T, m, nx, nt⟩ K) : WA P b ops m0 (fuel + 1) listed ⟨T, m, nx, nt⟩ K := by
 intro hs ρ a w hT hC hS
 refine wpAnyH_take hi hs hf hr (fun c a w h => absurd (post_only h) (by simp)) (v := undef) (.inr ⟨by rw [wanted_of hT hg hj hb, hne], rfl⟩) hS ?_
 rw [hd]
 exact hk hs ρ _ w (hT.put hlt (by simp [RelV])) hC hS
theorem WA_skip_u (i : Nat) {j gd : Nat} {want : Bool} (hi : ops[i]? = some o) (hf : Region.free .any ops listed i = true) (hr : (Region.ready .any ops listed).contains i = true) (hg : o.guard = some (j, want))
 (hj : (ops[j]?).bind (·.dst) = some gd) (hb : look gd T = some (.v undef))
 (hd : o.dst = some d) (hlt : Nat.blt d nt = true) (hk : WA P b ops m0 fuel (listed.setIfInBounds i true) ⟨(d, .v undef) :: T, m, nx, nt⟩ K) : WA P b ops m0 (fuel + 1) listed ⟨T, m, nx, nt⟩ K := by
 intro hs ρ a w hT hC hS
 refine wpAnyH_take hi hs hf hr (fun c a w h => absurd (post_only h) (by simp)) (v := undef) (.inr ⟨wanted_undef hT hg hj hb, rfl⟩) hS ?_
 rw [hd]
 exact hk hs ρ _ w (hT.put hlt (by simp [RelV])) hC hS
theorem WA_part {S : St} {gd : Nat} {bb : Bool} (hb : look gd S.T = some (.v (.bool bb))) (h1 : bb = true → WA P b ops m0 fuel listed S K) (h2 : bb = false → WA P b ops m0 fuel listed S K) : WA P b ops m0 fuel listed S K := by
 cases bb
 ·exact h2 rfl
 ·exact h1 rfl
def WB (P : Program) (b : Base) (ops : Array Oper) (m0 : List (Nat × Option Row)) (fuel : Nat) (listed : Array Bool) (i : Nat) (S : St) (K : St → Prop) : Prop :=
 Region.noSelect ops = true → ∀ ρ a w, RelT b.w ρ S.T S.nx S.nt a → RelC b ρ S.m S.nx w → Cls b m0 w → wpOp P ops (Post b (nq K)) i (fun a' w' => Cls b m0 w' ∧ wpAnyH P .any ops (Post b (nq K)) (Cls b m0) fuel (listed.setIfInBounds i true) a' w') a w
def AllB (P : Program) (b : Base) (ops : Array Oper) (m0 : List (Nat × Option Row)) (fuel : Nat) (listed : Array Bool) (S : St) (K : St → Prop) : List Nat → Prop
 | [] => True
 | i :: r => WB P b ops m0 fuel listed i S K ∧ AllB P b ops m0 fuel listed S K r
theorem AllB.get {S : St} : ∀ {rs : List Nat}, AllB P b ops m0 fuel listed S K rs → ∀ i ∈ rs, WB P b ops m0 fuel listed i S K
 | [], _, i, hi => by cases hi
 | j :: r, h, i, hi => by
  rcases List.mem_cons.1 hi with rfl | hi
  ·exact h.1
  ·exact AllB.get h.2 i hi
theorem AllB.nil {S : St} : AllB P b ops m0 fuel listed S K [] := trivial
theorem AllB.cons {S : St} {rs : List Nat} (h : WB P b ops m0 fuel listed i S K) (h' : AllB P b ops m0 fuel listed S K rs) : AllB P b ops m0 fuel listed S K (i :: rs) := ⟨h, h'⟩
theorem WA_branch {S : St} {rs : List Nat} (hr : Region.ready .any ops listed = rs) (hne : rs.isEmpty = false) (h : AllB P b ops m0 fuel listed S K rs) : WA P b ops m0 (fuel + 1) listed S K :=
 fun hs ρ a w hT hC hS => wpAnyH_all hr (by rintro rfl; cases hne) fun i hi => h.get i hi hs ρ a w hT hC hS
theorem WA_end {S : St} (hr : Region.ready .any ops listed = []) (h : K S) : WA P b ops m0 fuel listed S K :=
 fun hs ρ a w hT hC hS => wpAnyH_done hr ⟨ρ, S, h, hT, hC⟩ fuel
theorem wp_nq {K' : St → Prop} {a : Act} {w : World} {n n' : Act → World → Prop} (h : o.wp P a w n (Post b (nq K))) (hn : ∀ a w, n a w → n' a w) : o.wp P a w n' (Post b (nq K')) := by
 unfold Oper.wp at *
 generalize (execOp a.eval o).run P w = r at *
 cases r with
 | ok x w' =>
  cases x <;> simp only [Oper.upon] at h ⊢ <;> first
   | exact hn _ _ h
   | skip
  case enter f args =>
   refine h.mono fun e w'' he => ?_
   cases e with
   | returned u => exact hn _ _ he
   | panicked c => exact absurd (post_only he) (by simp)
   | outgrown => obtain ⟨a, w, he⟩ := he; exact absurd (post_only he) (by simp)
  case row row args => exact Rows.mono h fun u w'' he => hn _ _ he
 | halt x w' =>
  cases x <;> simp only [Oper.upon] at h ⊢
  case panic u => exact absurd (post_only h) (by simp)
theorem WB_run (ms : List Nat) {S : St} (hi : ops[i]? = some o) (hg : o.guard = none)
 (h : WX P b ops o [] S (nq (fun S' => keepM b.n0 S'.m ms [] = some m0 ∧ WA P b ops m0 fuel (listed.setIfInBounds i true) S' K))) : WB P b ops m0 fuel listed i S K := by
 intro hs ρ a w hT hC hS
 unfold wpOp
 simp only [hi]
 rw [if_pos (by simp [Region.wanted, hg])]
 refine .inl (wp_nq (h ρ a w hT hC) ?_)
 rintro a' w' ⟨ρ', S', ⟨h1, h2⟩, hT', hC'⟩
 exact ⟨hC'.cls h1, h2 hs ρ' a' w' hT' hC' (hC'.cls h1)⟩
theorem WB_grun (ms : List Nat) {S : St} {j gd : Nat} {want : Bool} (hi : ops[i]? = some o) (hg : o.guard = some (j, want)) (hj : (ops[j]?).bind (·.dst) = some gd) (hb : look gd S.T = some (.v (.bool want)))
 (h : WX P b ops o [] S (nq (fun S' => keepM b.n0 S'.m ms [] = some m0 ∧ WA P b ops m0 fuel (listed.setIfInBounds i true) S' K))) : WB P b ops m0 fuel listed i S K := by
 intro hs ρ a w hT hC hS
 unfold wpOp
 simp only [hi]
 rw [if_pos (by rw [wanted_of hT hg hj hb]; simp)]
 refine .inl (wp_nq (h ρ a w hT hC) ?_)
 rintro a' w' ⟨ρ', S', ⟨h1, h2⟩, hT', hC'⟩
 exact ⟨hC'.cls h1, h2 hs ρ' a' w' hT' hC' (hC'.cls h1)⟩
theorem W_drawsH {w0 : Base} (n : Nat) (ms : List Nat) {id : Nat} {l : List Oper} {Q : Exit → St → Prop} (hm : P.follows .mixedOrders = true) (hs : Region.noSelect l.toArray = true) (hn : l.toArray.size = n) (hK : keepM nx m ms [] = some m0)
 (h : ∀ r0, WA P ⟨w0.w, nx, r0, w0.ws, w0.keep, w0.kb, w0.E, w0.hE⟩ l.toArray m0 n (Array.replicate n false) ⟨T, m, nx, nt⟩ K) (hq : ∀ S', K S' → Q .normal S') : W P w0 (.region id l.toArray true) ⟨T, m, nx, nt⟩ Q := by
 intro ρ a w hT hC
 refine wp_region_held (S := Cls ⟨w0.w, nx, ρ, w0.ws, w0.keep, w0.kb, w0.E, w0.hE⟩ m0) hm ?_
 have hC1 : RelC ⟨w0.w, nx, ρ, w0.ws, w0.keep, w0.kb, w0.E, w0.hE⟩ ρ m nx w.drew := let h := hC.drew; ⟨h.rows, h.apart, h.below, ⟨Nat.le_refl _, fun _ _ => rfl⟩, h.kept, h.inner⟩
 subst hn
 have h1 := h ρ hs ρ a w.drew hT hC1 (RelC.cls (ms := ms) hC1 hK)
 refine mono (fun a' w' hp => ?_) _ _ _ _ h1
 obtain ⟨ρ', S', h2, h3, h4⟩ := hp
 exact ⟨ρ', S', hq S' h2, h3, h4.rows, h4.apart, h4.below, ⟨Nat.le_trans hC.pin.1 h4.pin.1, fun i hi => (h4.pin.2 i (Nat.lt_of_lt_of_le hi hC.pin.1)).trans (hC.pin.2 i hi)⟩, h4.kept, h4.inner⟩
where
 mono {b : Base} {S : World → Prop} {Q' : Exit → Act → World → Prop} {ops : Array Oper} {K : St → Prop} (h : ∀ a w, Post b (nq K) .normal a w → Q' .normal a w) : ∀ (fuel : Nat) (listed : Array Bool) (a : Act) (w : World), wpAnyH P .any ops (Post b (nq K)) S fuel listed a w → wpAnyH P .any ops Q' S fuel listed a w
  | 0, _, _, _, hh => ⟨hh.1, h _ _ hh.2⟩
  | fuel + 1, listed, a, w, hh => ⟨fun h0 => h _ _ (hh.1 h0), fun i hi => by
   have h3 := hh.2 i hi
   unfold wpOp at h3 ⊢
   cases ho : ops[i]? with
   | none => simp only [ho] at h3; exact ⟨h3.1, mono h fuel _ _ _ h3.2⟩
   | some o =>
    simp only [ho] at h3 ⊢
    split
    ·rename_i hw
     rw [if_pos hw] at h3
     rcases h3 with h3 | ⟨_, a', w', h3⟩
     ·refine .inl (wp_any h3 fun a w h4 => ⟨h4.1, mono h fuel _ _ _ h4.2⟩)
     ·exact absurd (post_only h3) (by simp)
    ·rename_i hw
     rw [if_neg hw] at h3
     exact ⟨h3.1, mono h fuel _ _ _ h3.2⟩⟩
 wp_any {b : Base} {o : Oper} {K : St → Prop} {a : Act} {w : World} {n n' : Act → World → Prop} {Q' : Exit → Act → World → Prop} (h : o.wp P a w n (Post b (nq K))) (hn : ∀ a w, n a w → n' a w) : o.wp P a w n' Q' := by
  unfold Oper.wp at *
  generalize (execOp a.eval o).run P w = r at *
  cases r with
  | ok x w' =>
   cases x <;> simp only [Oper.upon] at h ⊢ <;> first
    | exact hn _ _ h
    | skip
   case enter f args =>
    refine h.mono fun e w'' he => ?_
    cases e with
    | returned u => exact hn _ _ he
    | panicked c => exact absurd (post_only he) (by simp)
    | outgrown => obtain ⟨a, w, he⟩ := he; exact absurd (post_only he) (by simp)
   case row row args => exact Rows.mono h fun u w'' he => hn _ _ he
  | halt x w' =>
   cases x <;> simp only [Oper.upon] at h ⊢
   case panic u => exact absurd (post_only h) (by simp)
def Meet (ts ms : List Nat) (T1 : List (Nat × AV)) (M1 : List (Nat × Option Row)) (nx nt : Nat) (S : St) : Prop :=
 keepO nx S.T ts [] = some T1 ∧ keepM nx S.m ms [] = some M1 ∧ S.nx = nx ∧ S.nt = nt
theorem Meet.mk {ts ms : List Nat} {T1 : List (Nat × AV)} {M1 : List (Nat × Option Row)} {S : St} (h1 : keepO nx S.T ts [] = some T1) (h2 : keepM nx S.m ms [] = some M1) (h3 : S.nx = nx) (h4 : S.nt = nt) : Meet ts ms T1 M1 nx nt S := ⟨h1, h2, h3, h4⟩
theorem Meet.use {w0 : Base} {ts ms : List Nat} {T1 : List (Nat × AV)} {M1 : List (Nat × Option Row)} {S : St} {c : Code} {Q : Exit → St → Prop} (h : Meet ts ms T1 M1 nx nt S) (hk : W P w0 c ⟨T1, M1, nx, nt⟩ Q) : W P w0 c S Q := by
 obtain ⟨h1, h2, h3, h4⟩ := h
 exact W_weak (S' := ⟨T1, M1, nx, nt⟩) ⟨h4.symm, keepO_spec h1 trivial, keepM_spec h2 trivial⟩ h3.symm hk
theorem W_drawsJ {w0 : Base} (ts ms2 : List Nat) (nx2 n : Nat) (ms : List Nat) {id : Nat} {l : List Oper} {y : Code} {Q Q' : Exit → St → Prop} {T1 : List (Nat × AV)} {M1 : List (Nat × Option Row)} (hm : P.follows .mixedOrders = true) (hs : Region.noSelect l.toArray = true) (hn : l.toArray.size = n) (hK : keepM nx m ms [] = some m0)
 (hq : ∀ S', W P w0 y S' Q' → Q .normal S') (h : ∀ r0, WA P ⟨w0.w, nx, r0, w0.ws, w0.keep, w0.kb, w0.E, w0.hE⟩ l.toArray m0 n (Array.replicate n false) ⟨T, m, nx, nt⟩ (Meet ts ms2 T1 M1 nx2 nt)) (h2 : W P w0 y ⟨T1, M1, nx2, nt⟩ Q') : W P w0 (.region id l.toArray true) ⟨T, m, nx, nt⟩ Q :=
 W_drawsH n ms hm hs hn hK h fun S' hS => hq S' (hS.use h2)
end
end Go.Rf
set_option linter.unusedVariables false
set_option linter.unusedSectionVars false
set_option linter.unusedSimpArgs false
namespace Go.Rf
open Go Go.RowKit
def evL (T : List (Nat × AV)) : List Operand → List AV → Option (List AV)
 | [], acc => revO acc []
 | x :: xs, acc => match ev T x with
  | some av => evL T xs (av :: acc)
  | none => none
mutual
def renA (ids : List Nat) : AV → AV
 | .own i => .own (ids.getD i 0)
 | .sub i sz a n => .sub (ids.getD i 0) sz a n
 | .ptr i o => .ptr (ids.getD i 0) o
 | .rpt i sz a k => .rpt (ids.getD i 0) sz a k
 | .agg cs => .agg (renAs ids cs)
 | .tup cs => .tup (renAs ids cs)
 | .fnc f cs => .fnc f (renAs ids cs)
 | .v x => .v x
 | .lst sz ys => .lst sz ys
 | .pin z sz ys => .pin z sz ys
 | .ept cs => .ept cs
 | .nst z sz yss => .nst z sz yss
 | .eptN cs => .eptN (renAs ids cs)
 | .any => .any
def renAs (ids : List Nat) : List AV → List AV
 | [] => []
 | c :: cs => renA ids c :: renAs ids cs
end
mutual
theorem RelV.ren {w0 : World} {ρ : Nat → Value} {nx k : Nat} {ids : List Nat} : ∀ (x : AV) {y : Value}, refsB k x = true → RelV w0 ρ nx (renA ids x) y → RelV w0 (fun j => ρ (ids.getD j 0)) k x y
 | .v _, _, _, h => by simpa only [renA, RelV] using h
 | .lst _ _, _, _, h => by simpa only [renA, RelV] using h
 | .pin _ _ _, _, _, h => by simpa only [renA, RelV] using h
 | .ept _, _, _, h => by simpa only [renA, RelV] using h
 | .own i, _, hm, h => by simp only [refsB] at hm; simp only [renA, RelV] at h ⊢; exact ⟨Nat.le_of_ble_eq_true hm, h.2⟩
 | .sub i _ _ _, _, hm, h => by simp only [refsB] at hm; simp only [renA, RelV] at h ⊢; exact ⟨Nat.le_of_ble_eq_true hm, h.2⟩
 | .ptr i _, _, hm, h => by simp only [refsB] at hm; simp only [renA, RelV] at h ⊢; exact ⟨Nat.le_of_ble_eq_true hm, h.2⟩
 | .rpt i _ _ _, _, hm, h => by simp only [refsB] at hm; simp only [renA, RelV] at h ⊢; exact ⟨Nat.le_of_ble_eq_true hm, h.2⟩
 | .agg cs, _, hm, h => by
  simp only [refsB] at hm
  simp only [renA, RelV] at h ⊢
  obtain ⟨ys, e, h⟩ := h
  exact ⟨ys, e, RelVs.ren cs hm h⟩
 | .tup cs, _, hm, h => by
  simp only [refsB] at hm
  simp only [renA, RelV] at h ⊢
  obtain ⟨ys, e, h⟩ := h
  exact ⟨ys, e, RelVs.ren cs hm h⟩
 | .fnc _ cs, _, hm, h => by
  simp only [refsB] at hm
  simp only [renA, RelV] at h ⊢
  obtain ⟨ys, e, h⟩ := h
  exact ⟨ys, e, RelVs.ren cs hm h⟩
 | .nst _ _ _, _, _, h => by simpa only [renA, RelV] using h
 | .any, _, _, _ => by simp only [RelV]
 | .eptN cs, _, hm, h => by
  simp only [refsB] at hm
  simp only [renA, RelV] at h ⊢
  obtain ⟨ad, us, e, hb, h, h2⟩ := h
  exact ⟨ad, us, e, hb, RelVs.ren cs hm h, h2⟩
theorem RelVs.ren {w0 : World} {ρ : Nat → Value} {nx k : Nat} {ids : List Nat} : ∀ (x : List AV) {y : List Value}, refsBs k x = true → RelVs w0 ρ nx (renAs ids x) y → RelVs w0 (fun j => ρ (ids.getD j 0)) k x y
 | [], _, _, h => by simpa only [renAs, RelVs] using h
 | c :: cs, _, hm, h => by
  simp only [refsBs, Bool.and_eq_true] at hm
  simp only [renAs, RelVs] at h ⊢
  obtain ⟨y, ys, e, h1, h2⟩ := h
  exact ⟨y, ys, e, RelV.ren c hm.1 h1, RelVs.ren cs hm.2 h2⟩
end
theorem RelVs.norefs {w0 : Base} {ρ ρ' : Nat → Value} {nx nx' : Nat} {cs : List AV} (h0 : refsBs 0 cs = true) {y : List Value} (h : RelVs w0 ρ nx cs y) : RelVs w0 ρ' nx' cs y :=
 RelVs.mono (Nat.zero_le _) (fun i hi => by omega) cs (RelVs.less cs h0 h)
def rowM : List Row → Nat → List (Nat × Option Row)
 | [], _ => []
 | r :: rs, k => (k, some r) :: rowM rs (Nat.succ k)
theorem rowM_mem : ∀ {rs : List Row} {k j : Nat} {row : Row}, mem (rowM rs k) j = some row → k ≤ j ∧ rs[j - k]? = some row
 | [], k, j, row, h => by simp [rowM, mem, look] at h
 | r :: rs, k, j, row, h => by
  simp only [rowM] at h
  by_cases e : k = j
  ·subst e; rw [mem_cons_same] at h; cases h; simp
  ·rw [mem_cons_other e] at h
   obtain ⟨h1, h2⟩ := rowM_mem h
   refine ⟨by omega, ?_⟩
   rw [show j - k = (j - (k + 1)) + 1 by omega]
   simpa using h2
inductive RowsIn (m : List (Nat × Option Row)) : List Nat → List Row → Prop
 | nil : RowsIn m [] []
 | cons {id : Nat} {ids : List Nat} {r : Row} {rs : List Row} (h : mem m id = some r) (h' : RowsIn m ids rs) : RowsIn m (id :: ids) (r :: rs)
theorem RowsIn.len {m : List (Nat × Option Row)} : ∀ {ids : List Nat} {rs : List Row}, RowsIn m ids rs → ids.length = rs.length
 | _, _, .nil => rfl
 | _, _, .cons _ h => by simp [h.len]
theorem RowsIn.get {m : List (Nat × Option Row)} : ∀ {ids : List Nat} {rs : List Row}, RowsIn m ids rs → ∀ {j : Nat} {r : Row}, rs[j]? = some r → ∃ id, ids[j]? = some id ∧ mem m id = some r
 | _, _, .nil, _, _, h => by simp at h
 | _, _, .cons h h', j, r, hj => by
  match j with
  | 0 => simp at hj; subst hj; exact ⟨_, rfl, h⟩
  | j + 1 => simpa using h'.get (by simpa using hj)
def freeRows : List Row → Bool
 | [] => true
 | r :: rs => rowRefs 0 r && freeRows rs
theorem freeRows_get : ∀ {rs : List Row}, freeRows rs = true → ∀ {j : Nat} {r : Row}, rs[j]? = some r → rowRefs 0 r = true
 | [], _, _, _, h => by simp at h
 | r :: rs, h, j, r', hj => by
  simp only [freeRows, Bool.and_eq_true] at h
  match j with
  | 0 => simp at hj; subst hj; exact h.1
  | j + 1 => exact freeRows_get h.2 (by simpa using hj)
def aft : List Nat → List (Option Row) → List (Nat × Option Row) → List (Nat × Option Row)
 | id :: ids, r :: rs, m => (id, r) :: aft ids rs m
 | _, _, m => m
theorem mem_aft {m : List (Nat × Option Row)} : ∀ {ids : List Nat} {rs : List (Option Row)}, ids.length = rs.length → ∀ {id : Nat} {r : Row}, mem (aft ids rs m) id = some r → (∃ j : Nat, ids[j]? = some id ∧ rs[j]? = some (some r)) ∨ (id ∉ ids ∧ mem m id = some r)
 | [], [], _, id, r, h => .inr ⟨by simp, h⟩
 | [], _ :: _, hl, _, _, _ => by simp at hl
 | _ :: _, [], hl, _, _, _ => by simp at hl
 | i :: ids, q :: rs, hl, id, r, h => by
  simp only [aft] at h
  by_cases e : i = id
  ·subst e; rw [mem_cons_same] at h; subst h; exact .inl ⟨0, rfl, rfl⟩
  ·rw [mem_cons_other e] at h
   rcases mem_aft (by simpa using hl) h with ⟨j, h1, h2⟩ | ⟨h1, h2⟩
   ·exact .inl ⟨j + 1, by simpa using h1, by simpa using h2⟩
   ·exact .inr ⟨by simp [h1, Ne.symm e], h2⟩
structure CtrM (P : Program) [Env P] (f : FuncId) (args : List AV) (rows : List Row) (res : Res) (after : List (Option Row)) : Prop where
 callable : Callable P f
 calls : ∀ (w0 : Base) [EnvAt P w0] ρ m nx (ids : List Nat) w vs, RowsIn m ids rows → nodupB ids = true → RelC w0 ρ m nx w → RelVs w0.w ρ nx (renAs ids args) vs →
  Calls P f vs.toArray w (fun en w' => ∃ v ρ', en = .returned v ∧ (∀ i, i < nx → ρ' i = ρ i) ∧ nx ≤ (instR res nx (aft ids after m)).2.2 ∧ RelV w0.w ρ' (instR res nx (aft ids after m)).2.2 (instR res nx (aft ids after m)).1 v ∧
   RelC w0 ρ' (instR res nx (aft ids after m)).2.1 (instR res nx (aft ids after m)).2.2 w')
def survB : List (Option Row) → Nat → Bool
 | [], _ => false
 | some _ :: _, 0 => true
 | none :: _, 0 => false
 | _ :: rs, n + 1 => survB rs n
theorem survB_get : ∀ {rs : List (Option Row)} {j : Nat} {r : Row}, rs[j]? = some (some r) → survB rs j = true
 | [], _, _, h => by simp at h
 | q :: rs, 0, r, h => by simp at h; subst h; rfl
 | q :: rs, j + 1, r, h => by cases q <;> exact survB_get (rs := rs) (by simpa using h)
def deadA (after : List (Option Row)) : List AV → Bool
 | [] => true
 | .own i :: r => !survB after i && deadA after r
 | _ :: r => deadA after r
theorem deadA_get {after : List (Option Row)} : ∀ {l : List AV}, deadA after l = true → ∀ {i : Nat}, .own i ∈ l → survB after i = false
 | [], _, _, h => by simp at h
 | x :: l, hd, i, h => by
  rcases List.mem_cons.1 h with e | h
  ·subst e; simp only [deadA, Bool.and_eq_true, Bool.not_eq_true'] at hd; exact hd.1
  ·have h2 : deadA after l = true := by
    cases x <;> simp only [deadA] at hd
    case own j => simp only [Bool.and_eq_true] at hd; exact hd.2
    all_goals exact hd
   exact deadA_get h2 h
inductive AftOK (m : List (Nat × Option Row)) : Nat → List (Option Row) → Prop
 | nil {k : Nat} : AftOK m k []
 | gone {k : Nat} {rs : List (Option Row)} (h : AftOK m (Nat.succ k) rs) : AftOK m k (none :: rs)
 | stays {k : Nat} {r r' : Row} {rs : List (Option Row)} (h1 : mem m k = some r') (e : r' = r) (h2 : rowRefs 0 r = true) (h : AftOK m (Nat.succ k) rs) : AftOK m k (some r :: rs)
theorem AftOK.get {m : List (Nat × Option Row)} : ∀ {k : Nat} {rs : List (Option Row)}, AftOK m k rs → ∀ {j : Nat} {r : Row}, rs[j]? = some (some r) → mem m (k + j) = some r ∧ rowRefs 0 r = true
 | _, _, .nil, _, _, h => by simp at h
 | k, _, .gone h, j, r, hj => by
  match j with
  | 0 => simp at hj
  | j + 1 => have := h.get (j := j) (by simpa using hj); rwa [show k.succ + j = k + (j + 1) by omega] at this
 | k, _, .stays h1 e h2 h, j, r, hj => by
  match j with
  | 0 => simp at hj; subst hj; subst e; exact ⟨h1, h2⟩
  | j + 1 => have := h.get (j := j) (by simpa using hj); rwa [show k.succ + j = k + (j + 1) by omega] at this
def FinM (tb : List (Nat × TyI)) (rs : List ResultVar) (res : Res) (after : List (Option Row)) : Exit → St → Prop
 | .ret, S => ∃ avs, getRs tb S rs [] = some avs ∧ ResOK S.m avs res ∧ AftOK S.m 0 after ∧ deadA after (leaves res avs) = true
 | .normal, S => ∃ avs, getRs tb S rs [] = some avs ∧ ResOK S.m avs res ∧ AftOK S.m 0 after ∧ deadA after (leaves res avs) = true
 | _, _ => False
section
variable {P : Program} [Env P] {w0 : Base} {ops : Array Oper} {tb : List (Nat × TyI)} {o : Oper} {rest : List Oper} {T : List (Nat × AV)} {m m' : List (Nat × Option Row)} {nx nt d : Nat} {r : AV} {Q : Exit → St → Prop} {after : List (Option Row)}
theorem finm_one {rs : List ResultVar} {S : St} {x : AV} {c : RC} (h : getRs tb S rs [] = some [x]) (hx : RCOK S.m x c) (hd : deadA after [x] = true) (ha : AftOK S.m 0 after) : FinM tb rs (.one c) after .ret S := ⟨_, h, ⟨x, rfl, hx⟩, ha, hd⟩
theorem finm_many {rs : List ResultVar} {S : St} {xs : List AV} {cs : List RC} (h : getRs tb S rs [] = some xs) (hl : Nat.beq xs.length 1 = false) (hn : nodupB (ownIds xs []) = true) (ho : loneB xs = true) (hx : RCOKs S.m xs cs) (hd : deadA after xs = true) (ha : AftOK S.m 0 after) : FinM tb rs (.many cs) after .ret S := ⟨_, h, ⟨hx, hl, hn, ho⟩, ha, hd⟩
theorem has_of_mem {k : Nat} : ∀ {l : List Nat}, k ∈ l → has k l = true
 | [], h => by cases h
 | x :: r, h => by
  rcases List.mem_cons.1 h with rfl | h
  ·simp [has, Nat.beq_refl]
  ·simp [has, has_of_mem h]
theorem nodupB_get : ∀ {ids : List Nat}, nodupB ids = true → ∀ {j j' id : Nat}, ids[j]? = some id → ids[j']? = some id → j = j'
 | [], _, _, _, _, h, _ => by simp at h
 | x :: r, hn, j, j', id, h, h' => by
  simp only [nodupB, Bool.and_eq_true, Bool.not_eq_true'] at hn
  match j, j' with
  | 0, 0 => rfl
  | 0, j' + 1 =>
   simp at h h'; subst h
   have := has_of_mem (List.mem_of_getElem? h')
   rw [hn.1] at this; cases this
  | j + 1, 0 =>
   simp at h h'; subst h'
   have := has_of_mem (List.mem_of_getElem? h)
   rw [hn.1] at this; cases this
  | j + 1, j' + 1 =>
   have := nodupB_get hn.2 (j := j) (j' := j') (id := id) (by simpa using h) (by simpa using h')
   rw [this]
theorem getD_of_get {ids : List Nat} {j id : Nat} (h : ids[j]? = some id) : ids.getD j 0 = id := by
 rw [List.getD_eq_getElem?_getD, h]; rfl
theorem RowRel.move {ρ ρ' : Nat → Value} {nx nx' : Nat} {w : World} {id id' : Nat} {row : Row} (h : RowRel w0.w ρ nx w id row) (hf : rowRefs 0 row = true) (he : ρ' id' = ρ id) : RowRel w0.w ρ' nx' w id' row :=
 h.to he (fun cs e l hl => by subst e; exact RelVs.norefs (w0 := w0) hf hl) fun e sz yss op e' q hq _ => by subst e'; exact absurd (opRefs_get hf q hq) (Nat.not_lt_zero _)
def KeepIs (ρ : Nat → Value) (ids : List Nat) (rows : List Row) (w : World) (K : Nat → Prop) : Prop := ∀ c, K c ↔ c < w.heap.size ∧ ∀ (j : Nat) id r, ids[j]? = some id → rows[j]? = some r → ¬ foot w (ρ id) r c
section
variable {ρ ρ' : Nat → Value} {rows : List Row} {ids : List Nat} {nx2 : Nat} {m2 : List (Nat × Option Row)} {w w' : World} {b : Base}
theorem KeepIs.other (hkeep : KeepIs ρ ids rows w b.keep) (hC : RelC w0 ρ m nx w) (hin : RowsIn m ids rows) {id : Nat} {r : Row} (hm : mem m id = some r) (hid : id ∉ ids) {c : Nat} (hf : foot w (ρ id) r c) : b.keep c := by
 refine (hkeep c).2 ⟨hC.foot_lt hm hf, fun j id' r' hj hr' hb => ?_⟩
 obtain ⟨id'', h3, h4⟩ := hin.get hr'
 rw [hj] at h3; cases h3
 exact hC.foot_apart h4 hm (fun e => hid (e ▸ List.mem_of_getElem? hj)) hb hf
theorem KeepIs.outer (hkeep : KeepIs ρ ids rows w b.keep) (hC : RelC w0 ρ m nx w) (hin : RowsIn m ids rows) {c : Nat} (hc : w0.keep c) : b.keep c := by
 refine (hkeep c).2 ⟨Nat.lt_of_lt_of_le (w0.kb c hc) hC.kept.1, fun j id r hj hr hb => ?_⟩
 obtain ⟨id', h1, h2⟩ := hin.get hr
 rw [hj] at h1; cases h1
 rcases hb with hb | ⟨p, hb⟩
 ·exact hC.kept.2.2 id r h2 c hb hc
 ·exact (hC.inner id r h2 p c hb).1 hc
theorem KeepIs.back (hkeep : KeepIs ρ ids rows w b.keep) (hC : RelC w0 ρ m nx w) (hin : RowsIn m ids rows) (hws : b.ws = w) (hC' : RelC b ρ' m2 nx2 w') {id : Nat} {r : Row} (hm : mem m id = some r) (hid : id ∉ ids) : ∀ p, inn w' (ρ id) r p = inn w (ρ id) r p := by
 refine inn_frame fun c hc => ?_
 have := hC'.kept.2.1 c (hkeep.other hC hin hm hid (.inl hc))
 rwa [hws] at this
theorem callM_rows (hC : RelC w0 ρ m nx w) (hin : RowsIn m ids rows) (hnd : nodupB ids = true) (hl : rows.length = after.length)
 (hbw : b.w = w0.w) (hws : b.ws = w) (hkeep : KeepIs ρ ids rows w b.keep) (hr0 : ∀ (j : Nat) id, ids[j]? = some id → ρ' j = ρ id)
 (hC' : RelC b ρ' m2 nx2 w') (ha : AftOK m2 0 after) : RelC w0 ρ (aft ids after m) nx w' := by
 have hlen : ids.length = after.length := hin.len.trans hl
 have was : ∀ id r, mem (aft ids after m) id = some r → ∃ r', mem m id = some r' := fun id r hr => by
  rcases mem_aft hlen hr with ⟨j, h1, h2⟩ | ⟨_, h2⟩
  ·have : j < rows.length := by rw [← hin.len]; exact (List.getElem?_eq_some_iff.1 h1).1
   obtain ⟨id', h3, h4⟩ := hin.get (List.getElem?_eq_getElem this)
   rw [h1] at h3; cases h3
   exact ⟨_, h4⟩
  ·exact ⟨_, h2⟩
 have hsz : w.heap.size ≤ w'.heap.size := by have := hC'.kept.1; rwa [hws] at this
 have same : ∀ id r, mem m id = some r → id ∉ ids → ∀ c, foot w (ρ id) r c → w'.heap[c]? = w.heap[c]? := fun id r hm hid c hf => by
  have := hC'.kept.2.1 c (hkeep.other hC hin hm hid hf)
  rwa [hws] at this
 refine ⟨fun id r hr => ?_, fun i i' r r' hr hr' hne c hc => ?_, by have := hC'.below; rwa [hbw] at this, hC.pin, ⟨Nat.le_trans hC.kept.1 hsz, fun c hc => ?_, fun id r hr c hc => ?_⟩, fun id r hr p c hc => ?_⟩
 ·rcases mem_aft hlen hr with ⟨j, h1, h2⟩ | ⟨h1, h2⟩
  ·obtain ⟨r', h3⟩ := was id r hr
   refine ⟨(hC.rows id r' h3).1, ?_⟩
   obtain ⟨h4, h5⟩ := ha.get h2
   have h6 := (hC'.rows _ _ h4).2
   rw [hbw] at h6
   exact h6.move h5 (by rw [Nat.zero_add]; exact (hr0 j id h1).symm)
  ·obtain ⟨g1, g2⟩ := hC.rows id r h2
   exact ⟨g1, g2.frame (fun c hc => same id r h2 h1 c (.inl hc)) fun p c hc => same id r h2 h1 c (.inr ⟨p, hc⟩)⟩
 ·obtain ⟨r1, h1⟩ := was i r hr
  obtain ⟨r2, h2⟩ := was i' r' hr'
  exact hC.apart i i' r1 r2 h1 h2 hne c hc
 ·have := hC'.kept.2.1 c (hkeep.outer hC hin hc)
  rw [hws] at this
  exact this.trans (hC.kept.2.1 c hc)
 ·obtain ⟨r', h1⟩ := was id r hr
  exact hC.kept.2.2 id r' h1 c hc
 ·rcases mem_aft hlen hr with ⟨j, h1, h2⟩ | ⟨h1, h2⟩
  ·obtain ⟨h4, h5⟩ := ha.get h2
   rw [Nat.zero_add] at h4
   rw [← hr0 j id h1] at hc
   obtain ⟨g1, g2, g3, g4⟩ := hC'.inner j r h4 p c hc
   rw [hbw] at g2
   refine ⟨fun hk => g1 (hkeep.outer hC hin hk), g2, g3, fun id' r' hr' => ?_⟩
   rcases mem_aft hlen hr' with ⟨j', q1, q2⟩ | ⟨q1, q2⟩
   ·obtain ⟨q3, _⟩ := ha.get q2
    rw [Nat.zero_add] at q3
    rw [← hr0 j' id' q1]
    refine ⟨(g4 j' r' q3).1, fun p' hp' => ?_⟩
    obtain ⟨e1, e2⟩ := (g4 j' r' q3).2 p' hp'
    subst e1
    rw [h1] at q1; cases q1
    exact ⟨rfl, e2⟩
   ·refine ⟨fun hb => g1 (hkeep.other hC hin q2 q1 (.inl hb)), fun p' hp' => ?_⟩
    rw [hkeep.back hC hin hws hC' q2 q1] at hp'
    exact absurd (hkeep.other hC hin q2 q1 (.inr ⟨p', hp'⟩)) g1
  ·rw [hkeep.back hC hin hws hC' h2 h1] at hc
   obtain ⟨g1, g2, g3, g4⟩ := hC.inner id r h2 p c hc
   refine ⟨g1, g2, Nat.lt_of_lt_of_le g3 hsz, fun id' r' hr' => ?_⟩
   rcases mem_aft hlen hr' with ⟨j', q1, q2⟩ | ⟨q1, q2⟩
   ·obtain ⟨r1, q5⟩ := was id' r' hr'
    refine ⟨(g4 id' r1 q5).1, fun p' hp' => ?_⟩
    obtain ⟨q3, _⟩ := ha.get q2
    rw [Nat.zero_add] at q3
    rw [← hr0 j' id' q1] at hp'
    exact absurd (hkeep.other hC hin h2 h1 (.inr ⟨p, hc⟩)) (hC'.inner j' r' q3 p' c hp').1
   ·exact ⟨(g4 id' r' q2).1, fun p' hp' => (g4 id' r' q2).2 p' (by rwa [hkeep.back hC hin hws hC' q2 q1] at hp')⟩
theorem callM_fin (hC : RelC w0 ρ m nx w) (hin : RowsIn m ids rows) (hnd : nodupB ids = true) (hl : rows.length = after.length)
 (hbw : b.w = w0.w) (hws : b.ws = w) (hkeep : KeepIs ρ ids rows w b.keep) (hr0 : ∀ (j : Nat) id, ids[j]? = some id → ρ' j = ρ id)
 (hC' : RelC b ρ' m2 nx2 w') (ha : AftOK m2 0 after) {avs : List AV} {res : Res} (h2 : ResOK m2 avs res) (h4 : deadA after (leaves res avs) = true) {ys : List Value} (e2 : RelVs b.w ρ' nx2 avs ys) :
 ∃ ρ2, (∀ i, i < nx → ρ2 i = ρ i) ∧ nx ≤ (instR res nx (aft ids after m)).2.2 ∧ RelV w0.w ρ2 (instR res nx (aft ids after m)).2.2 (instR res nx (aft ids after m)).1 (if h : ys.toArray.size = 1 then ys.toArray[0] else .tuple ys.toArray) ∧ RelC w0 ρ2 (instR res nx (aft ids after m)).2.1 (instR res nx (aft ids after m)).2.2 w' := by
 have hlen2 : ids.length = after.length := hin.len.trans hl
 have hA := callM_rows hC hin hnd hl hbw hws hkeep hr0 hC' ha
 refine instP_spec (B := w0.w.heap.size) hA (Nat.le_refl _) ?_
 have hp := ResOK.parts hC' h2 e2
 rw [hbw] at hp
 refine hp.mono fun rs ls _ hK c hc => ?_
 obtain ⟨i, row, hi, hm, hf⟩ := hK c hc
 have hnk : ¬ b.keep c := by
  rcases hf with hf | ⟨p, hf⟩
  ·exact hC'.kept.2.2 i row hm c hf
  ·exact (hC'.inner i row hm p c hf).1
 refine ⟨fun id r hr hb => ?_, fun hk => hnk (hkeep.outer hC hin hk)⟩
 rcases mem_aft hlen2 hr with ⟨j, g1, g2⟩ | ⟨g1, g2⟩
 ·have hne : i ≠ j := fun e => by
   have := deadA_get h4 hi
   rw [e, survB_get g2] at this
   cases this
  obtain ⟨g3, _⟩ := ha.get g2
  rw [Nat.zero_add] at g3
  rw [← hr0 j id g1] at hb
  exact hC'.foot_apart hm g3 hne hf hb
 ·refine hnk (hkeep.other hC hin g2 g1 ?_)
  rcases hb with hb | ⟨p, hb⟩
  ·exact .inl hb
  ·exact .inr ⟨p, by rwa [hkeep.back hC hin hws hC' g2 g1] at hb⟩
theorem callM_start (hC : RelC w0 ρ m nx w) (hin : RowsIn m ids rows) (hnd : nodupB ids = true) (hfr : freeRows rows = true) {k : Nat} (hk : rows.length = k) (hbw : b.w = w0.w) (hws : b.ws = w) (hn0 : b.n0 = k) (hr0 : b.r0 = fun j => ρ (ids.getD j 0)) (hkeep : KeepIs ρ ids rows w b.keep) :
 RelC b (fun j => ρ (ids.getD j 0)) (rowM rows 0) k w := by
 have hrow : ∀ j row, mem (rowM rows 0) j = some row → ∃ id, ids[j]? = some id ∧ mem m id = some row ∧ ρ (ids.getD j 0) = ρ id ∧ rows[j]? = some row := fun j row hm => by
  obtain ⟨_, h2⟩ := rowM_mem hm
  rw [Nat.sub_zero] at h2
  obtain ⟨id, h3, h4⟩ := hin.get h2
  exact ⟨id, h3, h4, by rw [getD_of_get h3], h2⟩
 refine ⟨fun j row hm => ?_, fun j j' row row' hm hm' hne c hc => ?_, by rw [hbw]; exact hC.below, ⟨by rw [hn0]; exact Nat.le_refl _, fun i _ => by rw [hr0]⟩, ⟨by rw [hws]; exact Nat.le_refl _, fun c _ => by rw [hws], fun j row hm c hc hkc => ?_⟩, fun j row hm p c hc => ?_⟩
 ·obtain ⟨id, h1, h2, h3, h4⟩ := hrow j row hm
  refine ⟨by rw [← hk]; exact (List.getElem?_eq_some_iff.1 h4).1, ?_⟩
  rw [hbw]
  exact RowRel.move (w0 := w0) (hC.rows id row h2).2 (freeRows_get hfr h4) h3
 ·obtain ⟨id, h1, h2, h3, _⟩ := hrow j row hm
  obtain ⟨id', h1', h2', h3', _⟩ := hrow j' row' hm'
  simp only [h3] at hc
  simp only [h3']
  exact hC.apart id id' _ _ h2 h2' (fun e => hne (nodupB_get hnd h1 (e ▸ h1'))) c hc
 ·obtain ⟨id, h1, h2, h3, h4⟩ := hrow j row hm
  simp only [h3] at hc
  exact ((hkeep c).1 hkc).2 j id row h1 h4 (.inl hc)
 ·obtain ⟨id, h1, h2, h3, h4⟩ := hrow j row hm
  simp only [h3] at hc
  obtain ⟨g1, g2, g3, g4⟩ := hC.inner id row h2 p c hc
  refine ⟨fun hkc => ((hkeep c).1 hkc).2 j id row h1 h4 (.inr ⟨p, hc⟩), by rw [hbw]; exact g2, g3, fun j' row' hm' => ?_⟩
  obtain ⟨id', h1', h2', h3', _⟩ := hrow j' row' hm'
  simp only [h3']
  refine ⟨(g4 id' row' h2').1, fun p' hp' => ?_⟩
  obtain ⟨e1, e2⟩ := (g4 id' row' h2').2 p' hp'
  subst e1
  exact ⟨nodupB_get hnd h1 h1', e2⟩
theorem argT_start {n k : Nat} {args : List AV} {vs : List Value} {fn : Func} (hrel : RelVs b.w ρ k args vs) (hlen : args.length ≤ n) (hn : fn.ntmps = n) : RelT b ρ (argT args 0) k n { tmps := vs.toArray ++ Array.replicate (fn.ntmps - vs.toArray.size) undef, defers := [] } := by
 have hvl := RelVs.length _ hrel
 refine ⟨fun t x hx => ?_, by simp [hn]; omega, rfl⟩
 obtain ⟨u, _, h2, h3⟩ := argT_spec hrel t x hx
 have hlt : t < vs.length := by
  rcases Nat.lt_or_ge t vs.length with hlt | hge
  ·exact hlt
  ·rw [Nat.sub_zero, List.getElem?_eq_none hge] at h2; cases h2
 have : (vs.toArray ++ Array.replicate (fn.ntmps - vs.toArray.size) undef).getD t undef = u := by
  rw [Array.getD_eq_getD_getElem?, Array.getElem?_append_left (by simpa using hlt)]
  simp only [Nat.sub_zero] at h2
  simp [h2]
 rw [this]
 exact h3
end
theorem CtrM.of (G : Good P tb) {f : FuncId} {fn : Func} {c : Code} {args : List AV} {rows : List Row} {res : Res} {l : List ResultVar} {n k : Nat} (hf : P.funcs[f]? = some fn) (hb : fn.body = some c) (hname : (fn.name == "runtime.NumGoroutine") = false) (hl : fn.results = l.toArray) (hn : fn.ntmps = n)
 (hlen : Nat.ble args.length n = true) (hk : rows.length = k) (haf : rows.length = after.length) (hrefs : refsBs k args = true) (hfr : freeRows rows = true)
 (h : ∀ b : Base, [EnvAt P b] → b.n0 = k → W P b c ⟨argT args 0, rowM rows 0, k, n⟩ (FinM tb l res after)) : CtrM P f args rows res after := by
 refine ⟨⟨fn, hf, hname, by rw [hb]; rfl⟩, fun w0 hw0 ρ m nx ids w vs hin hnd hC hrel => ?_⟩
 have hidl : ids.length = k := hin.len.trans hk
 let ρc : Nat → Value := fun j => ρ (ids.getD j 0)
 have hrel' : RelVs w0.w ρc k args vs := RelVs.ren args hrefs hrel
 have hlen' : args.length ≤ n := Nat.le_of_ble_eq_true hlen
 refine calls_of_wp hf hb ?_
 let b : Base := ⟨w0.w, k, ρc, w, fun c => c < w.heap.size ∧ ∀ (j : Nat) id r, ids[j]? = some id → rows[j]? = some r → ¬ foot w (ρ id) r c, fun c hc => hc.1, w0.E, w0.hE⟩
 have hen : EnvAt P b := ⟨hw0.e⟩
 have hkp : KeepIs ρ ids rows w b.keep := fun _ => Iff.rfl
 have hCb : RelC b ρc (rowM rows 0) k w := callM_start (b := b) hC hin hnd hfr hk rfl rfl rfl rfl hkp
 have hT := argT_start (b := b) (fn := fn) hrel' hlen' hn
 refine wp_mono (h b rfl ρc _ w hT hCb) ?_
 have fin : ∀ (ρ' : Nat → Value) (S : St) (a : Act) (w' : World), (∃ avs, getRs tb S l [] = some avs ∧ ResOK S.m avs res ∧ AftOK S.m 0 after ∧ deadA after (leaves res avs) = true) → RelT b ρ' S.T S.nx S.nt a → RelC b ρ' S.m S.nx w' →
  a.defers = [] ∧ ∃ v, (results fn a.tmps).run P w' = .ok v w' ∧ ∃ u ρ', Ending.returned v = .returned u ∧ (∀ i, i < nx → ρ' i = ρ i) ∧ nx ≤ (instR res nx (aft ids after m)).2.2 ∧ RelV w0.w ρ' (instR res nx (aft ids after m)).2.2 (instR res nx (aft ids after m)).1 u ∧
  RelC w0 ρ' (instR res nx (aft ids after m)).2.1 (instR res nx (aft ids after m)).2.2 w' := by
  intro ρ' S a w' ⟨avs, h1, h2, h3, h4⟩ hT' hC'
  obtain ⟨ys, avs', e1, e2, e3⟩ := getRs_spec G hT' hC' h1
  simp at e1
  subst e1
  have hpin : ∀ j id, ids[j]? = some id → ρ' j = ρ id := fun j id hj => by
   have hj' : j < k := by rw [← hidl]; exact (List.getElem?_eq_some_iff.1 hj).1
   rw [hC'.pin.2 j hj']
   show ρ (ids.getD j 0) = _
   rw [getD_of_get hj]
  obtain ⟨ρ2, q1, q2, q3, q4⟩ := callM_fin (b := b) hC hin hnd haf rfl rfl hkp hpin hC' h3 h2 h4 e2
  exact ⟨hT'.defers, _, results_run hl e3, _, ρ2, rfl, q1, q2, q3, q4⟩
 rintro e a w' ⟨ρ', S, hq, hT', hC'⟩
 cases e <;> simp only [FinM] at hq
 case normal => exact fin ρ' S a w' hq hT' hC'
 case ret => exact fin ρ' S a w' hq hT' hC'
theorem evL_rel {ρ : Nat → Value} {a : Act} (hT : RelT w0 ρ T nx nt a) : ∀ {xs : List Operand} {acc as : List AV}, evL T xs acc = some as → ∃ bs, as = acc.reverse ++ bs ∧ RelVs w0 ρ nx bs (xs.map a.eval)
 | [], acc, as, h => by simp [evL, revO_eq] at h; exact ⟨[], by simp [h], by simp [RelVs]⟩
 | x :: xs, acc, as, h => by
  simp only [evL] at h
  cases hx : ev T x with
  | none => simp [hx] at h
  | some av =>
   simp only [hx] at h
   obtain ⟨bs, h1, h2⟩ := evL_rel hT h
   refine ⟨av :: bs, by simpa using h1, ?_⟩
   simp only [List.map_cons, RelVs]
   exact ⟨_, _, rfl, hT.ev hx, h2⟩
theorem WX_callm [EnvAt P w0] {f : FuncId} {as : Array Operand} {ts : Array TypeId} {args : List AV} {rows : List Row} {res : Res} {n1 : Nat} (nx' : Nat) (ids : List Nat) (hd : o.dst = some d) (hlt : Nat.blt d nt = true) (ho : o.op = .call { callee := .value (.func f), args := as, argTypes := ts }) (hc : CtrM P f args rows res after)
 (ha : evL T as.toList [] = some (renAs ids args)) (hr : RowsIn m ids rows) (hnd : nodupB ids = true) (hi : instO res nx (aft ids after m) = some (r, m', n1)) (hn' : Nat.beq nx' n1 = true) (hk : WL P w0 ops rest ⟨(d, r) :: T, m', nx', nt⟩ Q) : WX P w0 ops o rest ⟨T, m, nx, nt⟩ Q := by
 have hn'' := Nat.eq_of_beq_eq_true hn'
 subst hn''
 have hi := instO_some hi
 intro ρ a w hT hC
 obtain ⟨bs, h1, h2⟩ := evL_rel hT ha
 simp at h1
 subst h1
 have hcalls := hc.calls w0 ρ m nx ids w _ hr hnd hC h2
 have hrun : (execOp a.eval o).run P w = .ok (.enter f (as.toList.map a.eval).toArray) w := by
  simp [execOp, ho, resolve, Deferred.ofValue, invoke, Act.eval, run_call hc.callable, ← Array.toList_map]
 unfold Oper.wp
 rw [hrun, Oper.upon_enter]
 refine hcalls.mono fun ex w' ⟨v, ρ', he, q1, q2, q3, q4⟩ => ?_
 subst he
 rw [hi] at q2 q3 q4
 refine hk ρ' _ w' ?_ q4
 rw [hd]
 have hT' : RelT w0 ρ' T nx' nt a := ⟨fun t x hx => (hT.tmps t x hx).mono q2 q1, hT.size, hT.defers⟩
 exact hT'.put hlt q3
theorem RelC.sub {ρ : Nat → Value} {w : World} (hC : RelC w0 ρ m nx w) (h : ∀ i r, mem m' i = some r → mem m i = some r) : RelC w0 ρ m' nx w :=
 ⟨fun i r hr => hC.rows i r (h i r hr), fun i i' r r' hr hr' => hC.apart i i' r r' (h i r hr) (h i' r' hr'), hC.below, hC.pin, ⟨hC.kept.1, hC.kept.2.1, fun i r hr => hC.kept.2.2 i r (h i r hr)⟩,
  hC.inner' (Nat.le_refl _) (fun i r hr => .inr ⟨r, h i r hr, fun _ _ h => h⟩) (fun i r hr b hb => .inl ⟨i, r, h i r hr, hb⟩)⟩
theorem shrink_rel {t id e sz n : Nat} {ys : List (List Value)} (ht : look t T = some (.sub id sz 0 n)) (hm : mem m id = some (.row e sz ys)) {ρ : Nat → Value} {a : Act} {w : World} (hT : RelT w0.w ρ T nx nt a) (hC : RelC w0 ρ m nx w) : ∃ ρ', RelT w0.w ρ' ((t, .own nx) :: T) (nx + 1) nt a ∧ RelC w0 ρ' ((nx, some (.row e sz (ys.take n))) :: (id, none) :: m) (nx + 1) w := by
 have h1 := hT.tmps t _ ht
 simp only [RelV] at h1
 obtain ⟨hid, A, cap, he, hcap, _, h0⟩ := h1
 obtain ⟨l, hl, hnl⟩ := h0 trivial
 obtain ⟨hrow, hall⟩ := hC.row hm
 have hC2 : RelC w0 ρ ((id, none) :: m) nx w := by
  have hsub : ∀ i r, mem ((id, none) :: m) i = some r → mem m i = some r ∧ i ≠ id := fun i r hr => by
   by_cases e : id = i
   ·subst e; rw [mem_cons_same] at hr; cases hr
   ·rw [mem_cons_other e] at hr; exact ⟨hr, Ne.symm e⟩
  exact hC.sub fun i r hr => (hsub i r hr).1
 have hbk : ∀ b, blk (a.tmps.getD t undef) = some b → blk (ρ id) = some b := by
  intro b hb
  rw [he] at hb
  rw [hl]
  cases A <;> first | exact hb | (simp [blk] at hb; done)
 have hllen : l = ys.length := by
  rcases hrow.2 with ⟨h2, h3⟩ | ⟨g, cp, cur, h2, _⟩
  ·rw [hl] at h2; cases h2; exact h3.symm
  ·rw [hl] at h2; cases h2; rfl
 have hown : w.ownsRow w0.w.heap.size e sz (a.tmps.getD t undef) (ys.take n).length (ys.take n).flatten := by
  have hnys : n ≤ ys.length := by
   rcases hrow.2 with ⟨h2, h3⟩ | ⟨g, cp, cur, h2, _⟩
   ·rw [hl] at h2; cases h2; omega
   ·rw [hl] at h2; cases h2; omega
  have hft : (ys.take n).flatten = ys.flatten.take (n * sz) := by
   have h5 : ys.flatten = (ys.take n).flatten ++ (ys.drop n).flatten := by rw [← List.flatten_append, List.take_append_drop]
   have h6 := flatten_length (ys := ys.take n) (sz := sz) (fun c hc => (hall c (List.mem_of_mem_take hc)).1)
   have hlt : (ys.take n).length = n := by rw [List.length_take]; omega
   rw [hlt] at h6
   have h7 : List.take (n * sz) ((ys.take n).flatten ++ (ys.drop n).flatten) = (ys.take n).flatten := by
    rw [List.take_append_of_le_length (by omega)]
    exact List.take_of_length_le (by omega)
   rw [h5, h7]
  have hlt : (ys.take n).length = n := by rw [List.length_take]; omega
  rw [hlt]
  refine ⟨by rw [flatten_length (sz := sz) (fun c hc => (hall c (List.mem_of_mem_take hc)).1), hlt], ?_⟩
  rcases hrow.2 with ⟨h2, h3⟩ | ⟨g, cp, cur, h2, h3, h4, h5, h6, h7, h8⟩
  ·refine .inl ⟨?_, by omega⟩
   rw [hl] at h2
   rw [he]
   cases h2
   have : n = 0 := by omega
   rw [this]
  ·refine .inr ⟨g, cp, cur, ?_, h3, h4, by omega, h6, h7, ?_⟩
   ·rw [hl] at h2; rw [he]; cases h2; rfl
   ·rw [hft, ← h8, List.take_take, Nat.min_eq_left (Nat.mul_le_mul_right _ (by omega))]
 refine ⟨upd ρ nx (a.tmps.getD t undef), ⟨fun t' x hx => ?_, hT.size, hT.defers⟩, hC2.addP (fun _ => rfl) ?_ ?_ ?_⟩
 ·by_cases e : t = t'
  ·subst e
   rw [look_cons_same] at hx
   cases hx
   simp only [RelV]
   exact ⟨by omega, (upd_same _ _ _).symm⟩
  ·rw [look_cons_other e] at hx
   exact (hT.tmps t' x hx).mono (Nat.le_succ _) (fun i hi => upd_other ρ _ (Nat.ne_of_lt hi))
 ·refine ⟨?_, fun c hc => hall c (List.mem_of_mem_take hc)⟩
  rw [upd_same]
  exact hown
 ·intro i r hr b hb hy
  by_cases e : id = i
  ·subst e; rw [mem_cons_same] at hr; cases hr
  ·rw [mem_cons_other e] at hr
   exact hC.foot_apart hr hm (Ne.symm e) hb (.inl (hbk b hy))
 ·intro b hb
  exact hC.kept.2.2 id _ hm b (hbk b hb)
theorem flatten_take {sz n : Nat} {ys : List (List Value)} (hall : ∀ c ∈ ys, c.length = sz) (hn : n ≤ ys.length) : (ys.take n).flatten = ys.flatten.take (n * sz) := by
 have h5 : ys.flatten = (ys.take n).flatten ++ (ys.drop n).flatten := by rw [← List.flatten_append, List.take_append_drop]
 have h6 := flatten_length (ys := ys.take n) (sz := sz) (fun c hc => hall c (List.mem_of_mem_take hc))
 rw [List.length_take, Nat.min_eq_left hn] at h6
 have h7 : List.take (n * sz) ((ys.take n).flatten ++ (ys.drop n).flatten) = (ys.take n).flatten := by
  rw [List.take_append_of_le_length (by omega)]
  exact List.take_of_length_le (by omega)
 rw [h5, h7]
theorem flatten_drop {sz n : Nat} {ys : List (List Value)} (hall : ∀ c ∈ ys, c.length = sz) (hn : n ≤ ys.length) : (ys.drop n).flatten = ys.flatten.drop (n * sz) := by
 have h5 : ys.flatten = (ys.take n).flatten ++ (ys.drop n).flatten := by rw [← List.flatten_append, List.take_append_drop]
 have h6 := flatten_length (ys := ys.take n) (sz := sz) (fun c hc => hall c (List.mem_of_mem_take hc))
 rw [List.length_take, Nat.min_eq_left hn] at h6
 have h7 : List.drop (n * sz) ((ys.take n).flatten ++ (ys.drop n).flatten) = (ys.drop n).flatten := by
  rw [List.drop_append_of_le_length (by omega), List.drop_of_length_le (by omega), List.nil_append]
 rw [h5, h7]
theorem zero_flat {zs : List Value} (hpos : 0 < zs.length) (n : Nat) : (Builtin.zeroCells zs.toArray n).toList = (List.replicate n zs).flatten := by
 apply List.ext_getElem?
 intro j
 by_cases hj : j < n * zs.length
 ·have hdiv : j / zs.length < n := Nat.div_lt_of_lt_mul (by rw [Nat.mul_comm]; exact hj)
  have hmod : j % zs.length < zs.length := Nat.mod_lt _ hpos
  have h1 := flatten_at (ys := List.replicate n zs) (sz := zs.length) (fun c hc => by rw [(List.mem_replicate.1 hc).2]) (i := j / zs.length) (c := zs) (by simp [hdiv]) hmod
  have h2 : j / zs.length * zs.length + j % zs.length = j := by rw [Nat.mul_comm]; exact Nat.div_add_mod j _
  rw [h2] at h1
  rw [h1]
  simp [Builtin.zeroCells, hj, hmod]
 ·rw [List.getElem?_eq_none (by simp [Builtin.zeroCells]; omega), List.getElem?_eq_none (by rw [flatten_length (sz := zs.length) (fun c hc => by rw [(List.mem_replicate.1 hc).2])]; simp; omega)]
end
end Go.Rf
set_option linter.unusedVariables false
set_option linter.unusedSimpArgs false
set_option linter.unusedSectionVars false
namespace Go.Rf
open Go Go.RowKit
section
variable {P : Program} [Env P] {w0 : Base} {ops : Array Oper} {tb : List (Nat × TyI)} {o : Oper} {T : List (Nat × AV)} {m : List (Nat × Option Row)} {nx nt : Nat} {Q : Exit → St → Prop} {c : Code}
theorem W_pinT {t sz : Nat} {ys : List (List Value)} (ht : look t T = some (.lst sz ys)) (h : ∀ y, W P w0 c ⟨(t, .pin y sz ys) :: T, m, nx, nt⟩ Q) : W P w0 c ⟨T, m, nx, nt⟩ Q := by
 intro ρ a w hT hC
 have h1 := hT.tmps t _ ht
 simp only [RelV] at h1
 refine h (a.tmps.getD t undef) ρ a w ⟨fun i x hi => ?_, hT.size, hT.defers⟩ hC
 by_cases e : i = t
 ·subst e
  rw [look_cons_same] at hi
  cases hi
  simp only [RelV]
  exact ⟨trivial, h1⟩
 ·rw [look_cons_other (fun e' => e e'.symm)] at hi
  exact hT.tmps i x hi
theorem q_index_pin {x y : Operand} {t e sz by_ : Nat} {zs : List Value} {z : Value} {ys : List (List Value)} {k : IntKind} {i : Int} {c : List Value} (G : Good P tb) (ho : o.op = .indexAddr t x y) (ht : look t tb = some (.slice e sz by_ zs)) (hx : ev T x = some (.pin z sz ys)) (hy : ev T y = some (.v (.int k i)))
 (h0 : 0 ≤ i) (hc : ys[i.toNat]? = some c) : QStep P o T m nx nt (.ept c) :=
 QStep.run fun w0 ρ a w hT hC => by
  have h := hT.ev hx
  have h2 := hT.ev hy
  simp only [RelV] at h h2
  obtain ⟨_, A, cap, he, _, hall, hA⟩ := h
  have hlt : i.toNat < ys.length := by
   rcases Nat.lt_or_ge i.toNat ys.length with hlt | hge
   ·exact hlt
   ·rw [List.getElem?_eq_none hge] at hc; cases hc
  obtain ⟨ad, rfl, hb, hcell⟩ := hA (by omega)
  refine ⟨.pointer (some (ad.add (i.toNat * sz))), by
   simp only [RelV]
   refine ⟨_, rfl, by rw [add_block]; exact hb, (hall c (List.mem_of_getElem? hc)).2, fun j u hj => ?_⟩
   rw [add_add']
   exact hcell _ _ hc j u hj, fun w' hC' => ?_⟩
  simp only [execOp, ho, he, h2, Sem.run_bind, run_indexAt_in (G t _ ht) (a := ad) (len := ys.length) (cap := cap) (k := k) (i := i) h0 (by omega), Result.andThen_ok, Sem.run_pure]
end
end Go.Rf
set_option linter.unusedVariables false
set_option linter.unusedSimpArgs false
set_option linter.unusedSectionVars false
namespace Go.Rf
open Go
theorem Ctr.bool {P : Program} [Env P] {f : FuncId} {args : List AV} {a b : Bool} (h : Ctr P f args (.one (.v (.bool a)))) (e : a = b) : Ctr P f args (.one (.v (.bool b))) := e ▸ h
def anyN (n : Nat) (f : Nat → Bool) : Bool := !(allN n (fun i => !f i))
theorem anyN_t {n i : Nat} {f : Nat → Bool} (h : f i = true) (hi : i < n) : anyN n f = true := by
 rw [anyN, allN_f (i := i) (by simp [h]) hi]; rfl
theorem anyN_f {n i : Nat} {f : Nat → Bool} (h : ∀ j, j < i → f j = false) (hi : n ≤ i) : anyN n f = false := by
 rw [anyN, allN_t (i := i) (fun j hj => by simp [h j hj]) hi]; rfl
def idxN (f : Nat → Bool) (n : Nat) : Int := match (List.range n).find? f with
 | some i => i
 | none => -1
theorem idx_none {f : Nat → Bool} {n i : Nat} (h : ∀ j, j < i → f j = false) (hi : n ≤ i) : idxN f n = -1 := by
 have : (List.range n).find? f = none := by
  rw [List.find?_eq_none]
  exact fun j hj => by simp [h j (by have := List.mem_range.mp hj; omega)]
 rw [idxN, this]
theorem idx_some {f : Nat → Bool} {n i : Nat} (h : ∀ j, j < i → f j = false) (hi : i < n) (ht : f i = true) : idxN f n = i := by
 have : (List.range n).find? f = some i := by
  rw [List.find?_range_eq_some]
  exact ⟨ht, List.mem_range.mpr hi, fun j hj => by simp [h j hj]⟩
 rw [idxN, this]
theorem idx_any {f : Nat → Bool} {n : Nat} : decide (idxN f n ≥ 0) = anyN n f := by
 unfold idxN
 cases hf : (List.range n).find? f with
 | none =>
  rw [List.find?_eq_none] at hf
  rw [anyN_f (i := n) (fun j hj => by simpa using hf j (List.mem_range.mpr hj)) (Nat.le_refl _)]
  rfl
 | some i =>
  have h1 := List.find?_some hf
  have h2 := List.mem_range.mp (List.mem_of_find?_eq_some hf)
  rw [anyN_t h1 h2]
  simp
theorem cut_take {α : Type} {xs : List α} {f : α → List Value} {i : Nat} : ((xs.map f).drop ((0 : Int)).toNat).take (((i : Int)).toNat - ((0 : Int)).toNat) = (xs.take i).map f := by
 simp [List.map_take]
end Go.Rf
set_option linter.unusedVariables false
set_option linter.unusedSimpArgs false
set_option linter.unusedSectionVars false
namespace Go.Rf
open Go Go.RowKit
section
variable {α β : Type} [Inhabited α] {f : α → β} {g : Nat → α} {xs : List α} {i j : Nat}
def over (g : Nat → α) (xs : List α) (i : Nat) : List α := (List.range i).map g ++ xs.drop i
end
def encI (n : Int) : List Value := [.int .i64 n]
def encO (b : Bool) : List Value := [.bool b]
end Go.Rf
set_option linter.unusedVariables false
set_option linter.unusedSimpArgs false
set_option linter.unusedSectionVars false
namespace Go.Rf
open Go Go.RowKit
structure Cur where
 c : List Int
 a : Int
 s : Int
def bytesOK (l : List Int) : Prop := l.length ≤ 1048576 ∧ ∀ j, 0 ≤ l.getD j default ∧ l.getD j default ≤ 255
end Go.Rf
namespace Go.Rf
open Go Go.RowKit
end Go.Rf
set_option linter.unusedVariables false
set_option linter.unusedSectionVars false
set_option linter.unusedSimpArgs false
namespace Go.Rf
open Go Go.RowKit
structure CtrX (P : Program) [Env P] {α : Type} (f : FuncId) (args : List AV) (rows : List Row) (R : α → Prop) (res : α → Res) (after : α → List (Option Row)) : Prop where
 callable : Callable P f
 calls : ∀ (w0 : Base) [EnvAt P w0] ρ m nx (ids : List Nat) w vs, RowsIn m ids rows → nodupB ids = true → RelC w0 ρ m nx w → RelVs w0.w ρ nx (renAs ids args) vs →
  Calls P f vs.toArray w (fun en w' => ∃ x, R x ∧ ∃ v ρ', en = .returned v ∧ (∀ i, i < nx → ρ' i = ρ i) ∧ nx ≤ (instR (res x) nx (aft ids (after x) m)).2.2 ∧ RelV w0.w ρ' (instR (res x) nx (aft ids (after x) m)).2.2 (instR (res x) nx (aft ids (after x) m)).1 v ∧
   RelC w0 ρ' (instR (res x) nx (aft ids (after x) m)).2.1 (instR (res x) nx (aft ids (after x) m)).2.2 w')
theorem CtrX.weak {P : Program} [Env P] {α : Type} {f : FuncId} {args : List AV} {rows : List Row} {R R' : α → Prop} {res : α → Res} {after : α → List (Option Row)} (h : CtrX P f args rows R res after) (hR : ∀ x, R x → R' x) : CtrX P f args rows R' res after :=
 ⟨h.callable, fun w0 hw ρ m nx ids w vs h1 h2 h3 h4 => (h.calls w0 ρ m nx ids w vs h1 h2 h3 h4).mono fun en w' ⟨x, hx, h⟩ => ⟨x, hR x hx, h⟩⟩
def FinX {α : Type} (tb : List (Nat × TyI)) (rs : List ResultVar) (R : α → Prop) (res : α → Res) (after : α → List (Option Row)) (e : Exit) (S : St) : Prop := ∃ x, R x ∧ FinM tb rs (res x) (after x) e S
section
variable {P : Program} [Env P] {w0 : Base} {ops : Array Oper} {tb : List (Nat × TyI)} {o : Oper} {rest : List Oper} {T : List (Nat × AV)} {m : List (Nat × Option Row)} {nx nt d : Nat} {Q : Exit → St → Prop}
theorem CtrX.of {α : Type} {R : α → Prop} {res : α → Res} {after : α → List (Option Row)} (G : Good P tb) {f : FuncId} {fn : Func} {c : Code} {args : List AV} {rows : List Row} {l : List ResultVar} {n k : Nat} (hf : P.funcs[f]? = some fn) (hb : fn.body = some c) (hname : (fn.name == "runtime.NumGoroutine") = false) (hl : fn.results = l.toArray) (hn : fn.ntmps = n)
 (hlen : Nat.ble args.length n = true) (hk : rows.length = k) (haf : ∀ x, rows.length = (after x).length) (hrefs : refsBs k args = true) (hfr : freeRows rows = true)
 (h : ∀ b : Base, [EnvAt P b] → b.n0 = k → W P b c ⟨argT args 0, rowM rows 0, k, n⟩ (FinX tb l R res after)) : CtrX P f args rows R res after := by
 refine ⟨⟨fn, hf, hname, by rw [hb]; rfl⟩, fun w0 hw0 ρ m nx ids w vs hin hnd hC hrel => ?_⟩
 have hidl : ids.length = k := hin.len.trans hk
 let ρc : Nat → Value := fun j => ρ (ids.getD j 0)
 have hrel' : RelVs w0.w ρc k args vs := RelVs.ren args hrefs hrel
 have hlen' : args.length ≤ n := Nat.le_of_ble_eq_true hlen
 refine calls_of_wp hf hb ?_
 let b : Base := ⟨w0.w, k, ρc, w, fun c => c < w.heap.size ∧ ∀ (j : Nat) id r, ids[j]? = some id → rows[j]? = some r → ¬ foot w (ρ id) r c, fun c hc => hc.1, w0.E, w0.hE⟩
 have hen : EnvAt P b := ⟨hw0.e⟩
 have hkp : KeepIs ρ ids rows w b.keep := fun _ => Iff.rfl
 have hCb : RelC b ρc (rowM rows 0) k w := callM_start (b := b) hC hin hnd hfr hk rfl rfl rfl rfl hkp
 have hT := argT_start (b := b) (fn := fn) hrel' hlen' hn
 refine wp_mono (h b rfl ρc _ w hT hCb) ?_
 have fin : ∀ (x : α) (ρ' : Nat → Value) (S : St) (a : Act) (w' : World), (∃ avs, getRs tb S l [] = some avs ∧ ResOK S.m avs (res x) ∧ AftOK S.m 0 (after x) ∧ deadA (after x) (leaves (res x) avs) = true) → RelT b ρ' S.T S.nx S.nt a → RelC b ρ' S.m S.nx w' →
  a.defers = [] ∧ ∃ v, (results fn a.tmps).run P w' = .ok v w' ∧ ∃ u ρ', Ending.returned v = .returned u ∧ (∀ i, i < nx → ρ' i = ρ i) ∧ nx ≤ (instR (res x) nx (aft ids (after x) m)).2.2 ∧ RelV w0.w ρ' (instR (res x) nx (aft ids (after x) m)).2.2 (instR (res x) nx (aft ids (after x) m)).1 u ∧
  RelC w0 ρ' (instR (res x) nx (aft ids (after x) m)).2.1 (instR (res x) nx (aft ids (after x) m)).2.2 w' := by
  intro x ρ' S a w' ⟨avs, h1, h2, h3, h4⟩ hT' hC'
  obtain ⟨ys, avs', e1, e2, e3⟩ := getRs_spec G hT' hC' h1
  simp at e1
  subst e1
  have hpin : ∀ j id, ids[j]? = some id → ρ' j = ρ id := fun j id hj => by
   have hj' : j < k := by rw [← hidl]; exact (List.getElem?_eq_some_iff.1 hj).1
   rw [hC'.pin.2 j hj']
   show ρ (ids.getD j 0) = _
   rw [getD_of_get hj]
  obtain ⟨ρ2, q1, q2, q3, q4⟩ := callM_fin (b := b) hC hin hnd (haf x) rfl rfl hkp hpin hC' h3 h2 h4 e2
  exact ⟨hT'.defers, _, results_run hl e3, _, ρ2, rfl, q1, q2, q3, q4⟩
 rintro e a w' ⟨ρ', S, ⟨x, hx, hq⟩, hT', hC'⟩
 cases e <;> simp only [FinM] at hq
 case normal => obtain ⟨g1, v, g2, g3⟩ := fin x ρ' S a w' hq hT' hC'; exact ⟨g1, v, g2, x, hx, g3⟩
 case ret => obtain ⟨g1, v, g2, g3⟩ := fin x ρ' S a w' hq hT' hC'; exact ⟨g1, v, g2, x, hx, g3⟩
end
end Go.Rf
set_option linter.unusedVariables false
set_option linter.unusedSectionVars false
set_option linter.unusedSimpArgs false
namespace Go.Rf
open Go Go.RowKit
inductive EF where
 | int (k : IntKind)
 | bool
 | str
def efOf (P : Program) (t : TypeId) : Option EF := match P.underlying t with
 | some (.int k) => some (.int k)
 | some .bool => some .bool
 | some .string => some .str
 | _ => none
def efB : EF → EF → Bool
 | .int k, .int k' => decide (k = k')
 | .bool, .bool => true
 | .str, .str => true
 | _, _ => false
theorem efB_eq {a b : EF} (h : efB a b = true) : a = b := by
 cases a <;> cases b <;> simp [efB] at h <;> first | rfl | (rw [h])
def efsB (P : Program) : List Field → Nat → List EF → Bool
 | [], _, [] => true
 | f :: fs, j, k :: ks => (f.name != "_") && (f.offset == j) && (match efOf P f.type with | some k' => efB k' k | none => false) && efsB P fs (j + 1) ks
 | _, _, _ => false
def eqTypeB (P : Program) (t : TypeId) (ks : List EF) : Bool :=
 (match P.underlying t with | some (.struct fs) => efsB P fs.toList 0 ks | _ => false) && !P.stoodInHeld t && !P.eqGuardType P.depth t
def fitV : EF → Value → Prop
 | .int k, v => ∃ a, v = .int k a
 | .bool, v => ∃ a, v = .bool a
 | .str, v => ∃ a, v = .string a
def fitVs : List EF → List Value → Prop
 | [], us => us = []
 | k :: ks, us => ∃ u r, us = u :: r ∧ fitV k u ∧ fitVs ks r
def eqCell : Value → Value → Bool
 | .int _ a, .int _ b => decide (a = b)
 | .bool a, .bool b => a == b
 | .string a, .string b => decide (a = b)
 | _, _ => false
def eqCells : List Value → List Value → Bool
 | [], [] => true
 | a :: r, b :: s => eqCell a b && eqCells r s
 | _, _ => false
theorem bytes_eq_list {a b : ByteArray} : (a.toList == b.toList) = decide (a = b) := by
 have e : (a.toList = b.toList) ↔ a = b := by
  rw [ByteArray.toList_eq, ByteArray.toList_eq]
  obtain ⟨⟨x⟩⟩ := a
  obtain ⟨⟨y⟩⟩ := b
  simp
 rw [Bool.eq_iff_iff, beq_iff_eq, decide_eq_true_eq]
 exact e
section
variable {P : Program} {w : World}
theorem run_eqFields {d : Nat} {xs ys : Array Value} : ∀ {fs : List Field} {j : Nat} {ks : List EF}, efsB P fs j ks = true → fitVs ks (xs.toList.drop j) → fitVs ks (ys.toList.drop j) →
 (Op.eqFields (d + 1) xs ys fs).run P w = .ok (eqCells (xs.toList.drop j) (ys.toList.drop j)) w
 | [], j, [], _, hx, hy => by
  simp only [fitVs] at hx hy
  rw [hx, hy]
  simp [Op.eqFields, eqCells]
 | [], _, _ :: _, h, _, _ => by simp [efsB] at h
 | _ :: _, _, [], h, _, _ => by simp [efsB] at h
 | f :: fs, j, k :: ks, h, hx, hy => by
  simp only [efsB, Bool.and_eq_true] at h
  obtain ⟨⟨⟨h1, h2⟩, h3⟩, h4⟩ := h
  simp only [fitVs] at hx hy
  obtain ⟨u, r, ex, hu, hr⟩ := hx
  obtain ⟨v, s, ey, hv, hs⟩ := hy
  have hj : f.offset = j := by simpa using h2
  have gx : xs[j]? = some u := by
   have := congrArg (fun l => l[0]?) ex
   simpa [List.getElem?_drop] using this
  have gy : ys[j]? = some v := by
   have := congrArg (fun l => l[0]?) ey
   simpa [List.getElem?_drop] using this
  have dx : xs.toList.drop (j + 1) = r := by rw [← List.drop_drop, ex]; rfl
  have dy : ys.toList.drop (j + 1) = s := by rw [← List.drop_drop, ey]; rfl
  have hn : f.name ≠ "_" := by simpa using h1
  have ih := run_eqFields (d := d) (xs := xs) (ys := ys) h4 (dx ▸ hr) (dy ▸ hs)
  rw [dx, dy] at ih
  have key : ∀ w, (part f.type xs f.offset).run P w = .ok u w ∧ (part f.type ys f.offset).run P w = .ok v w ∧ (Op.equalIn (d + 1) f.type u v).run P w = .ok (eqCell u v) w := by
   intro w
   cases he : efOf P f.type with
   | none => simp [he] at h3
   | some k' =>
    simp only [he] at h3
    obtain rfl := efB_eq h3
    unfold efOf at he
    split at he <;> cases he
    ·next k ht =>
     obtain ⟨a, rfl⟩ := hu
     obtain ⟨b, rfl⟩ := hv
     refine ⟨by simp [part, isAgg, run_underlying ht, hj, gx], by simp [part, isAgg, run_underlying ht, hj, gy], ?_⟩
     rw [run_equalIn_int w d _ k k a b ht]
     rfl
    ·next ht =>
     obtain ⟨a, rfl⟩ := hu
     obtain ⟨b, rfl⟩ := hv
     exact ⟨by simp [part, isAgg, run_underlying ht, hj, gx], by simp [part, isAgg, run_underlying ht, hj, gy], run_equalIn_bool' w d _ a b ht⟩
    ·next ht =>
     obtain ⟨a, rfl⟩ := hu
     obtain ⟨b, rfl⟩ := hv
     refine ⟨by simp [part, isAgg, run_underlying ht, hj, gx], by simp [part, isAgg, run_underlying ht, hj, gy], ?_⟩
     rw [run_equalIn_string w d _ a b ht, bytes_eq_list]
     rfl
  rw [ex, ey]
  simp only [Op.eqFields, if_pos hn, Sem.run_bind, (key w).1, (key w).2.1, (key w).2.2, Result.andThen_ok, eqCells]
  cases hc : eqCell u v
  ·simp
  ·simpa using ih
theorem run_eqStruct {t : TypeId} {ks : List EF} {us vs : List Value} (h : eqTypeB P t ks = true) (hu : fitVs ks us) (hv : fitVs ks vs) : (Op.equalIn 10000 t (.agg ⟨us⟩) (.agg ⟨vs⟩)).run P w = .ok (eqCells us vs) w := by
 simp only [eqTypeB, Bool.and_eq_true, Bool.not_eq_true'] at h
 obtain ⟨⟨h1, h2⟩, _⟩ := h
 split at h1
 ·next fs hfs =>
  have e : P.fieldsOf t = fs := by simp [Program.fieldsOf, hfs]
  rw [show (10000 : Nat) = 9999 + 1 from rfl, run_equalIn_agg w 9999 t _ _ (by rw [e]; exact hfs) h2, e]
  exact run_eqFields (d := 9998) (xs := ⟨us⟩) (ys := ⟨vs⟩) h1 hu hv
 ·cases h1
end
section
variable {P : Program} [Env P] {w0 : Base} {ops : Array Oper} {tb : List (Nat × TyI)} {o : Oper} {rest : List Oper} {T : List (Nat × AV)} {m : List (Nat × Option Row)} {nx nt d : Nat} {Q : Exit → St → Prop}
theorem eval_agg {x : Operand} {ax : AV} {cs : List AV} {us : List Value} {w0 : World} {ρ : Nat → Value} {a : Act} (hT : RelT w0 ρ T nx nt a) (hx : ev T x = some ax) (hc : cellsOf ax = some cs) (hu : vaR cs [] = some us) (hax : ax = .agg cs ∨ ax = .v (.agg ⟨us⟩)) : a.eval x = .agg ⟨us⟩ := by
 obtain ⟨us', h1, h2⟩ := vaR_spec _ _ _ hu
 simp at h2
 subst h2
 have := hT.ev hx
 rcases hax with rfl | rfl
 ·simp only [RelV] at this
  obtain ⟨ys, e, hr⟩ := this
  rw [h1] at hr
  rw [e, RelVs.map_v_eq _ hr]
 ·simpa only [RelV] using this
theorem q_eqs {x y : Operand} {t t' : TypeId} {ax ay : AV} {cs ds : List AV} {us vs : List Value} (ks : List EF) (ho : o.op = .binOp .eql t x y t') (hx : ev T x = some ax) (hy : ev T y = some ay) (hc : cellsOf ax = some cs) (hd : cellsOf ay = some ds) (hu : vaR cs [] = some us) (hv : vaR ds [] = some vs)
 (hax : ax = .agg cs ∨ ax = .v (.agg ⟨us⟩)) (hay : ay = .agg ds ∨ ay = .v (.agg ⟨vs⟩)) (ht : eqTypeB P t ks = true) (fu : fitVs ks us) (fv : fitVs ks vs) : QStep P o T m nx nt (.v (.bool (eqCells us vs))) :=
 QStep.val fun w0 ρ a hT w' => by
  have ex := eval_agg hT hx hc hu hax
  have ey := eval_agg hT hy hd hv hay
  have hg : P.eqGuardType P.depth t = false := by simp only [eqTypeB, Bool.and_eq_true, Bool.not_eq_true'] at ht; exact ht.2
  simp [execOp, ho, ex, ey, run_eqGuard_agg w' .eql t x y _ _ hg, run_eql_struct, run_eqStruct ht fu fv]
theorem q_nes {x y : Operand} {t t' : TypeId} {ax ay : AV} {cs ds : List AV} {us vs : List Value} (ks : List EF) (ho : o.op = .binOp .neq t x y t') (hx : ev T x = some ax) (hy : ev T y = some ay) (hc : cellsOf ax = some cs) (hd : cellsOf ay = some ds) (hu : vaR cs [] = some us) (hv : vaR ds [] = some vs)
 (hax : ax = .agg cs ∨ ax = .v (.agg ⟨us⟩)) (hay : ay = .agg ds ∨ ay = .v (.agg ⟨vs⟩)) (ht : eqTypeB P t ks = true) (fu : fitVs ks us) (fv : fitVs ks vs) : QStep P o T m nx nt (.v (.bool (!eqCells us vs))) :=
 QStep.val fun w0 ρ a hT w' => by
  have ex := eval_agg hT hx hc hu hax
  have ey := eval_agg hT hy hd hv hay
  have hg : P.eqGuardType P.depth t = false := by simp only [eqTypeB, Bool.and_eq_true, Bool.not_eq_true'] at ht; exact ht.2
  simp [execOp, ho, ex, ey, run_eqGuard_agg w' .neq t x y _ _ hg, run_neq_struct, run_eqStruct ht fu fv]
end
def okC (n : Int) (x : Cur) : Prop := bytesOK x.c ∧ 0 ≤ x.a ∧ x.a ≤ n
theorem okC.mono {n n' : Int} {x : Cur} (h : okC n x) (hn : n ≤ n') : okC n' x := ⟨h.1, h.2.1, by have := h.2.2; omega⟩
end Go.Rf
namespace Go.Rf
open Go Go.RowKit
end Go.Rf
namespace Go.Rf
end Go.Rf
namespace Go.Rf
open Go Go.RowKit
section
variable {P : Program} [Env P] {w0 : Base} {T : List (Nat × AV)} {m : List (Nat × Option Row)} {nx nt : Nat} {Q : Exit → St → Prop} {c : Code}
theorem Ctr.eq {f : FuncId} {args : List AV} {res res' : Res} (h : Ctr P f args res) (e : res = res') : Ctr P f args res' := e ▸ h
end
end Go.Rf
namespace Go.Rf
open Go Go.RowKit
section
variable {P : Program} [Env P] {w0 : Base} {T : List (Nat × AV)} {m : List (Nat × Option Row)} {nx nt : Nat} {Q : Exit → St → Prop} {c : Code}
end
end Go.Rf
set_option linter.unusedVariables false
set_option linter.unusedSectionVars false
set_option linter.unusedSimpArgs false
namespace Go.Rf
open Go Go.RowKit
section
variable {P : Program} [Env P] {w0 : Base} {ops : Array Oper} {tb : List (Nat × TyI)} {o : Oper} {rest : List Oper} {T : List (Nat × AV)} {m : List (Nat × Option Row)} {nx nt d : Nat} {Q : Exit → St → Prop} {c : Code}
theorem RelC.spare {ρ : Nat → Value} {w : World} (hC : RelC w0 ρ m nx w) {id e sz : Nat} {ys gs : List (List Value)} (hm : mem m id = some (.spare e sz ys gs)) : ∃ g cur, ρ id = .slice (some ⟨g, 0, none⟩) ys.length (ys.length + gs.length) ∧ w0.w.heap.size ≤ g ∧ w.heap[g]? = some (.cells cur e (0, 0)) ∧ cur.toList = (ys ++ gs).flatten ∧ ys.length + gs.length ≤ maxLen ∧ ∀ c ∈ ys ++ gs, c.length = sz := (hC.rows id _ hm).2
theorem RelC.retell {ρ : Nat → Value} {w : World} (hC : RelC w0 ρ m nx w) {id : Nat} {row row' : Row} (hm : mem m id = some row) (hrow : RowRel w0.w ρ nx w id row') (hin : ∀ p b, inn w (ρ id) row' p = some b → inn w (ρ id) row p = some b := by intro p b h; cases h) : RelC w0 ρ ((id, some row') :: m) nx w := by
 have hs : ∀ i r, mem ((id, some row') :: m) i = some r → (i = id ∧ r = row') ∨ (i ≠ id ∧ mem m i = some r) := fun i r hr => by
  by_cases e : id = i
  ·subst e; rw [mem_cons_same] at hr; cases hr; exact .inl ⟨rfl, rfl⟩
  ·rw [mem_cons_other e] at hr; exact .inr ⟨Ne.symm e, hr⟩
 have was : ∀ i r, mem ((id, some row') :: m) i = some r → ∃ r', mem m i = some r' := fun i r hr => by
  rcases hs i r hr with ⟨rfl, rfl⟩ | ⟨_, h⟩
  ·exact ⟨_, hm⟩
  ·exact ⟨_, h⟩
 refine ⟨fun i r hr => ?_, fun i i' r r' hr hr' => ?_, hC.below, hC.pin, ⟨hC.kept.1, hC.kept.2.1, fun i r hr => ?_⟩, hC.inner' (Nat.le_refl _) (fun i r hr => ?_) (fun i r hr b hb => ?_)⟩
 ·rcases hs i r hr with ⟨rfl, rfl⟩ | ⟨_, h⟩
  ·exact ⟨(hC.rows _ _ hm).1, hrow⟩
  ·exact hC.rows i r h
 ·obtain ⟨r1, h1⟩ := was i r hr
  obtain ⟨r2, h2⟩ := was i' r' hr'
  exact hC.apart i i' r1 r2 h1 h2
 ·obtain ⟨r1, h1⟩ := was i r hr
  exact hC.kept.2.2 i r1 h1
 ·rcases hs i r hr with ⟨rfl, rfl⟩ | ⟨_, h⟩
  ·exact .inr ⟨row, hm, hin⟩
  ·exact .inr ⟨r, h, fun _ _ h => h⟩
 ·obtain ⟨r1, h1⟩ := was i r hr
  exact .inl ⟨i, r1, h1, hb⟩
def chunk (sz : Nat) : Nat → List Value → List (List Value)
 | 0, _ => []
 | n + 1, l => l.take sz :: chunk sz n (l.drop sz)
theorem chunk_len {sz : Nat} : ∀ {n : Nat} {l : List Value}, (chunk sz n l).length = n
 | 0, _ => rfl
 | n + 1, l => by simp [chunk, chunk_len]
theorem chunk_flat {sz : Nat} : ∀ {n : Nat} {l : List Value}, l.length = n * sz → (chunk sz n l).flatten = l ∧ ∀ c ∈ chunk sz n l, c.length = sz
 | 0, l, h => by
  have : l = [] := List.eq_nil_of_length_eq_zero (by omega)
  subst this
  exact ⟨rfl, by simp [chunk]⟩
 | n + 1, l, h => by
  rw [Nat.add_mul] at h
  obtain ⟨h1, h2⟩ := chunk_flat (sz := sz) (n := n) (l := l.drop sz) (by rw [List.length_drop]; omega)
  simp only [chunk, List.flatten_cons, h1, List.take_append_drop, true_and, List.mem_cons]
  rintro c (rfl | hc)
  ·rw [List.length_take]; omega
  ·exact h2 c hc
theorem WX_cap {x : Operand} {t id e sz e' sz' by_ : Nat} {zs : List Value} {ys : List (List Value)} (G : Good P tb) (ht : look t tb = some (.slice e' sz' by_ zs)) (hd : o.dst = some d) (hlt : Nat.blt d nt = true) (ho : o.op = .call { callee := .builtin .cap, args := #[x], argTypes := #[t] }) (hx : ev T x = some (.own id)) (hm : mem m id = some (.row e sz ys)) (hpos : 0 < ys.length)
 (hk : ∀ gs : List (List Value), ys.length + gs.length ≤ 9223372036854775807 → (∀ c ∈ ys, c.length = sz ∧ ∀ u ∈ c, u.oneCell' = true) → WL P w0 ops rest ⟨(d, .v (.int .i64 ((ys.length + gs.length : Nat) : Int))) :: T, (id, some (.spare e sz ys gs)) :: m, nx, nt⟩ Q) : WX P w0 ops o rest ⟨T, m, nx, nt⟩ Q := by
 intro ρ a w hT hC
 have h := hT.ev hx
 simp only [RelV] at h
 obtain ⟨hrow, hall⟩ := hC.row hm
 rcases hrow.2 with ⟨_, hz⟩ | ⟨g, cap, cur, hsl, hB, hb, hcap, hcapm, hcur, htake⟩
 ·omega
 ·have hdl : (cur.toList.drop (ys.length * sz)).length = (cap - ys.length) * sz := by rw [List.length_drop, Nat.sub_mul]; simp [hcur]
  obtain ⟨hf, hc⟩ := chunk_flat hdl
  have hgl : (chunk sz (cap - ys.length) (cur.toList.drop (ys.length * sz))).length = cap - ys.length := chunk_len
  have hfin := hk (chunk sz (cap - ys.length) (cur.toList.drop (ys.length * sz))) (by rw [hgl]; unfold maxLen at hcapm; omega) hall
  have e1 : ys.length + (cap - ys.length) = cap := by omega
  rw [hgl, e1] at hfin
  have hr : (execOp a.eval o).run P w = .ok (.value (.int .i64 cap)) w := by
   simp [execOp, ho, resolve, invoke, builtin, h.2, hsl, goInt, Builtin.cap_, run_underlying (G t _ ht).1]
  unfold Oper.wp
  rw [hr, Oper.upon_value, hd]
  refine hfin ρ _ w (hT.put hlt (by simp only [RelV])) (hC.retell hm ?_)
  simp only [RowRel]
  refine ⟨g, cur, by rw [hgl, e1]; exact hsl, hB, hb, ?_, by rw [hgl, e1]; exact hcapm, fun c hc' => ?_⟩
  ·rw [List.flatten_append, hf, ← htake, List.take_append_drop]
  ·rcases List.mem_append.1 hc' with hc' | hc'
   ·exact (hall c hc').1
   ·exact hc c hc'
theorem q_cut_spare {t e e' sz by_ id : Nat} {zs : List Value} {ys gs : List (List Value)} {x : Operand} {lo hi : Option Operand} {l h : Int} (G : Good P tb) (ho : o.op = .slice t x lo hi none) (ht : look t tb = some (.slice e sz by_ zs)) (hx : ev T x = some (.own id)) (hm : mem m id = some (.spare e' sz ys gs))
 (hl : bndA T 0 lo = some l) (hh : bndA T ys.length hi = some h) (h0 : 0 ≤ l) (h1 : l ≤ h) (h2 : h ≤ ys.length) (hpos : 0 < ys.length) : QStep P o T m nx nt (.sub id sz l.toNat (h.toNat - l.toNat)) :=
 QStep.run fun w0 ρ a w hT hC => by
  have hxe := hT.ev hx
  simp only [RelV] at hxe
  obtain ⟨g, cur, he, _⟩ := hC.spare hm
  refine ⟨.slice (if ys.length + gs.length = l.toNat then some ⟨g, 0, none⟩ else (some (⟨g, 0, none⟩ : Addr)).map (·.add (l.toNat * sz))) (h.toNat - l.toNat) (ys.length + gs.length - l.toNat), ?_, fun w' hC' => ?_⟩
  ·simp only [RelV]
   refine ⟨hxe.1, _, _, rfl, by omega, fun hp => ?_, fun hl0 => ⟨ys.length, ?_, by omega⟩⟩
   ·rw [if_neg (by omega)]
    exact ⟨g, _, _, he, by simp [Addr.add_lit]⟩
   ·rw [he, hl0, if_neg (by omega)]
    simp [Addr.add_zero']
  ·have := run_cut (G t _ ht) hT (A := some ⟨g, 0, none⟩) hl hh h0 h1 h2 (by omega : ys.length ≤ ys.length + gs.length) w'
   simp only [execOp, ho, hxe.2, he, Option.map_none, this, Sem.run_bind, Result.andThen_ok, Sem.run_pure]
theorem run_reslice {t e sz by_ : Nat} {zs : List Value} (G : TyOK P t (.slice e sz by_ zs)) {A : Addr} {n cap N : Nat} {k : IntKind} (hn : n ≤ cap) (hN : N ≤ cap) (hpos : 0 < N) (w : World) :
 (Instr.sliceAt t (.slice (some A) n cap) none (some (.int k N)) none).run P w = .ok (.slice (some A) N cap) w := by
 obtain ⟨hu, _, i, z, hi', hs, _⟩ := G
 have h1 : ¬ ((N : Int) < 0) := by omega
 have h2 : (N : Int) ≤ cap := by omega
 have h3 : ¬ cap = 0 := by omega
 have hh1 : (0 : Int) ≤ (N : Int) := by omega
 have hcap2 : (n : Int) ≤ (cap : Int) := by omega
 simp [Instr.sliceAt, Instr.slice, run_underlying hu, Instr.sliceBounds, Instr.sliceBound, asIntOf, sizeOf, typeInfo, hi', hs, h1, h2, h3, hh1, hcap2, Addr.add_zero']
 intro hlt
 omega
theorem WX_reslice {t e e' sz by_ id N : Nat} {zs : List Value} {ys gs : List (List Value)} {x y : Operand} {k : IntKind} {h : Int} (G : Good P tb) (nx' : Nat) (hn' : Nat.beq nx' (Nat.succ nx) = true) (hd : o.dst = some d) (hlt : Nat.blt d nt = true) (ho : o.op = .slice t x none (some y) none) (ht : look t tb = some (.slice e sz by_ zs)) (hx : ev T x = some (.own id)) (hm : mem m id = some (.spare e' sz ys gs))
 (hy : ev T y = some (.v (.int k h))) (hN : h = (N : Int)) (hle : N ≤ ys.length + gs.length) (hpos : 0 < N)
 (hk : WL P w0 ops rest ⟨(d, .own nx) :: T, (nx, some (.spare e' sz ((ys ++ gs).take N) ((ys ++ gs).drop N))) :: (id, none) :: m, nx', nt⟩ Q) : WX P w0 ops o rest ⟨T, m, nx, nt⟩ Q := by
 have hn'' := Nat.eq_of_beq_eq_true hn'
 subst hn''
 subst hN
 intro ρ a w hT hC
 have hxe := hT.ev hx
 have hye := hT.ev hy
 simp only [RelV] at hxe hye
 obtain ⟨g, cur, he, hB, hb, hcur, hmax, hall⟩ := hC.spare hm
 have hr : (execOp a.eval o).run P w = .ok (.value (.slice (some ⟨g, 0, none⟩) N (ys.length + gs.length))) w := by
  simp only [execOp, ho, hxe.2, he, Option.map_some, Option.map_none, hye, run_reslice (P := P) (G t _ ht) (by omega : ys.length ≤ ys.length + gs.length) hle hpos w, Sem.run_bind, Result.andThen_ok, Sem.run_pure]
 have hsub : ∀ i r, mem ((id, none) :: m) i = some r → mem m i = some r ∧ i ≠ id := fun i r hr => by
  by_cases e : id = i
  ·subst e; rw [mem_cons_same] at hr; cases hr
  ·rw [mem_cons_other e] at hr; exact ⟨hr, Ne.symm e⟩
 have hC2 : RelC w0 ρ ((id, none) :: m) nx w := hC.sub fun i r hr => (hsub i r hr).1
 have hbk : blk (ρ id) = some g := by rw [he]; rfl
 unfold Oper.wp
 rw [hr, Oper.upon_value, hd]
 refine hk (upd ρ nx (.slice (some ⟨g, 0, none⟩) N (ys.length + gs.length))) _ w ((hT.add _).put hlt ?_) (hC2.addP (fun _ => rfl) ?_ ?_ ?_)
 ·simp only [RelV]
  exact ⟨by omega, by rw [upd_same]⟩
 ·simp only [RowRel]
  have hlen : (ys ++ gs).length = ys.length + gs.length := List.length_append
  have h1 : ((ys ++ gs).take N).length = N := by rw [List.length_take]; omega
  have h2 : ((ys ++ gs).drop N).length = ys.length + gs.length - N := by rw [List.length_drop]; omega
  refine ⟨g, cur, by rw [upd_same, h1, h2]; congr 1; omega, hB, hb, by rw [List.take_append_drop]; exact hcur, by rw [h1, h2]; omega, by rw [List.take_append_drop]; exact hall⟩
 ·intro i r hr b hbb hy'
  obtain ⟨h1, h2⟩ := hsub i r hr
  simp [blk] at hy'
  exact hC.foot_apart h1 hm h2 hbb (.inl (by rw [hbk, hy']))
 ·intro b hb'
  simp [blk] at hb'
  subst hb'
  exact hC.kept.2.2 id _ hm _ hbk
theorem W_row {id e sz : Nat} {ys gs : List (List Value)} (hm : mem m id = some (.spare e sz ys gs)) (hall : ∀ c ∈ ys, ∀ u ∈ c, u.oneCell' = true) (h : W P w0 c ⟨T, (id, some (.row e sz ys)) :: m, nx, nt⟩ Q) : W P w0 c ⟨T, m, nx, nt⟩ Q := by
 intro ρ a w hT hC
 obtain ⟨g, cur, he, hB, hb, hcur, hmax, hl⟩ := hC.spare hm
 refine h ρ a w hT (hC.retell hm ?_)
 have hly : ∀ c ∈ ys, c.length = sz := fun c hc => hl c (List.mem_append_left _ hc)
 have hfl := flatten_length (ys := ys) (sz := sz) hly
 have hfl2 := flatten_length (ys := ys ++ gs) (sz := sz) hl
 refine ⟨⟨hfl, .inr ⟨g, ys.length + gs.length, cur, he, hB, hb, by omega, hmax, ?_, ?_⟩⟩, fun c hc => ⟨hly c hc, hall c hc⟩⟩
 ·have := congrArg List.length hcur
  rw [hfl2, List.length_append] at this
  simpa using this
 ·rw [hcur, List.flatten_append, ← hfl, List.take_append_of_le_length (Nat.le_refl _), List.take_length]
theorem run_copy_at {dT sT ty e sz : Nat} {inf : TypeInfo} (hu : P.underlying dT = some (.slice e)) (hi : P.info? e = some inf) (hsz : inf.size = sz) {w : World} {g off dLen dCap : Nat} {a : Addr} {sLen sCap : Nat} {cur : Array Value} {t : TypeId} {vs : List (List Value)} (hg : w.heap[g]? = some (.cells cur t (0, 0)))
 (hn : vs.length = Nat.min sLen dLen) (hl : ∀ c ∈ vs, c.length = sz ∧ ∀ u ∈ c, u.oneCell' = true) (hsrc : ∀ j v, vs.flatten[j]? = some v → w.cell? (a.add j) = some v) (hfit : off + vs.flatten.length ≤ cur.size) :
 (Builtin.copy_ #[dT, sT] ty #[.slice (some ⟨g, off, none⟩) dLen dCap, .slice (some a) sLen sCap]).run P w = .ok (goInt vs.length) (w.setRow g (cur.toList.take off ++ vs.flatten ++ cur.toList.drop (off + vs.flatten.length)).toArray) := by
 have hfl := flatten_length (ys := vs) (sz := sz) (fun c hc => (hl c hc).1)
 have hf := run_firstCells_some (P := P) w sz vs.length a sLen sCap vs.flatten hfl hsrc
 have hst := run_storeCells_at (P := P) g off t vs.flatten 0 cur w hg (by simpa using hfit) (fun u hu => by
  obtain ⟨c, hc, hu⟩ := List.mem_flatten.1 hu
  exact (hl c hc).2 u hu)
 simp only [Nat.add_zero] at hst
 simp [Builtin.copy_, run_underlying hu, Builtin.lenOf, sizeOf, typeInfo, hi, hsz, ← hn, hf, hst]
def SrcOK (m : List (Nat × Option Row)) (nx sz : Nat) (av : AV) (vs : List (List Value)) : Prop :=
 ∀ (w0 : Base) ρ w y, RelC w0 ρ m nx w → RelV w0.w ρ nx av y → ∃ A cap, y = .slice A vs.length cap ∧ (0 < vs.length → ∃ ad, A = some ad ∧ ∀ j v, vs.flatten[j]? = some v → w.cell? (ad.add j) = some v)
theorem SrcOK.of {sz : Nat} {av : AV} {vs : List (List Value)} (hs : ∀ c ∈ vs, c.length = sz) (h : ArgOK m nx av (.lst sz vs)) (hpos : 0 < sz) : SrcOK m nx sz av vs := by
 intro w0 ρ w y hC hy
 have hr := h w0 ρ w y hC hy
 simp only [RelV] at hr
 obtain ⟨A, cap, he, _, hall, hA⟩ := hr
 refine ⟨A, cap, he, fun h0 => ?_⟩
 obtain ⟨ad, h1, _, h3⟩ := hA h0
 refine ⟨ad, h1, fun j v hj => ?_⟩
 have hlt : j < vs.length * sz := by rw [← flatten_length (sz := sz) hs]; exact (List.getElem?_eq_some_iff.1 hj).1
 have hdiv : j / sz < vs.length := Nat.div_lt_of_lt_mul (by rw [Nat.mul_comm]; exact hlt)
 have hmod : j % sz < sz := Nat.mod_lt _ hpos
 have hc : vs[j / sz]? = some vs[j / sz] := List.getElem?_eq_getElem hdiv
 have e1 : j / sz * sz + j % sz = j := by rw [Nat.mul_comm]; exact Nat.div_add_mod j sz
 have h4 := flatten_at (ys := vs) (sz := sz) hs hc hmod
 rw [e1, hj] at h4
 have := h3 _ _ hc (j % sz) v h4.symm
 rwa [e1] at this
theorem SrcOK.spare {id e sz i n : Nat} {ys gs : List (List Value)} (hm : mem m id = some (.spare e sz ys gs)) (hle : i + n ≤ ys.length) : SrcOK m nx sz (.sub id sz i n) ((ys.drop i).take n) := by
 intro w0 ρ w y hC hy
 simp only [RelV] at hy
 obtain ⟨hn, A, cap, rfl, hcap, hA, _⟩ := hy
 obtain ⟨g, cur, hρ, hB, hb, hcur, _, hall⟩ := hC.spare hm
 have hl : ((ys.drop i).take n).length = n := by rw [List.length_take, List.length_drop]; omega
 refine ⟨A, cap, by rw [hl], fun h0 => ?_⟩
 rw [hl] at h0
 obtain ⟨g', l, c, hg, rfl⟩ := hA h0
 have hgg : g = g' := by rw [hρ] at hg; simp at hg; exact hg.1
 subst hgg
 refine ⟨_, rfl, fun j v hj => ?_⟩
 have hly : ∀ c ∈ ys, c.length = sz := fun c hc => hall c (List.mem_append_left _ hc)
 have hd : (ys.drop i).flatten = ys.flatten.drop (i * sz) := flatten_drop hly (by omega)
 have hly2 : ∀ c ∈ ys.drop i, c.length = sz := fun c hc => hly c (List.mem_of_mem_drop hc)
 have ht : ((ys.drop i).take n).flatten = (ys.drop i).flatten.take (n * sz) := flatten_take hly2 (by rw [List.length_drop]; omega)
 rw [ht, hd, List.getElem?_take] at hj
 split at hj
 ·rw [List.getElem?_drop] at hj
  rw [Addr.add_lit, heap_cell hb, hcur, List.flatten_append, List.getElem?_append_left (List.getElem?_eq_some_iff.1 hj).1]
  exact hj
 ·cases hj
theorem WX_copy_row {x y : Operand} {dT sT e sz by_ id n i : Nat} {zs : List Value} {ys vs : List (List Value)} {ay : AV} (G : Good P tb) (hd : o.dst = some d) (hlt : Nat.blt d nt = true) (ho : o.op = .call { callee := .builtin .copy, args := #[x, y], argTypes := #[dT, sT] }) (ht : look dT tb = some (.slice e sz by_ zs))
 (hx : ev T x = some (.sub id sz i n)) (hm : mem m id = some (.row e sz ys)) (hy : ev T y = some ay) (hs : SrcOK m nx sz ay vs) (hvs : ∀ c ∈ vs, c.length = sz ∧ ∀ u ∈ c, u.oneCell' = true) (hn : vs.length ≤ n) (hle : i + n ≤ ys.length) (hpos : 0 < vs.length)
 (hk : WL P w0 ops rest ⟨(d, .v (.int .i64 (vs.length : Int))) :: T, (id, some (.row e sz (ys.take i ++ vs ++ ys.drop (i + vs.length)))) :: m, nx, nt⟩ Q) : WX P w0 ops o rest ⟨T, m, nx, nt⟩ Q := by
 intro ρ a w hT hC
 obtain ⟨hu, _, inf, z, hi, hsz, _⟩ := G dT _ ht
 have hax := hT.ev hx
 simp only [RelV] at hax
 obtain ⟨hid, A, cap, hex, hcap, hA, _⟩ := hax
 obtain ⟨g, l, c, hg, rfl⟩ := hA (by omega)
 obtain ⟨A', cap', hey, hsrc⟩ := hs w0 ρ w _ hC (hT.ev hy)
 obtain ⟨ad, rfl, hsrc2⟩ := hsrc hpos
 obtain ⟨hrow, hall⟩ := hC.row hm
 rcases hrow.2 with ⟨hnil, _⟩ | ⟨g', cp, cur, hsl, hB, hb, hcp, hcpm, hcur, htake⟩
 ·rw [hg] at hnil; cases hnil
 ·have hgg : g = g' ∧ l = ys.length ∧ c = cp := by rw [hg] at hsl; simpa using hsl
  obtain ⟨rfl, rfl, rfl⟩ := hgg
  have hfl := flatten_length (ys := vs) (sz := sz) (fun c hc => (hvs c hc).1)
  have hb1 : (i + vs.length) * sz ≤ ys.length * sz := Nat.mul_le_mul_right _ (by omega)
  have hb2 : ys.length * sz ≤ cur.size := by rw [hcur]; exact Nat.mul_le_mul_right _ hcp
  rw [Nat.add_mul] at hb1
  have hrun := run_copy_at (P := P) (sT := sT) (ty := o.type) (dLen := n) (dCap := cap) (sLen := vs.length) (sCap := cap') hu hi hsz hb (by simp only [Nat.min_def]; split <;> omega) hvs hsrc2 (off := i * sz) (by omega)
  have hr : (execOp a.eval o).run P w = .ok (.value (goInt vs.length)) (w.setRow g (cur.toList.take (i * sz) ++ vs.flatten ++ cur.toList.drop (i * sz + vs.flatten.length)).toArray) := by
   simp only [execOp, ho, resolve, invoke, builtin, Sem.run_bind, Sem.run_pure, Result.andThen_ok, List.map_toArray, List.map_cons, List.map_nil, hex, hey, hrun]
  unfold Oper.wp
  rw [hr, Oper.upon_value, hd]
  have hall' : ∀ c ∈ ys.take i ++ vs ++ ys.drop (i + vs.length), c.length = sz ∧ ∀ u ∈ c, u.oneCell' = true := by
   intro c hc
   simp only [List.mem_append] at hc
   rcases hc with (hc | hc) | hc
   ·exact hall c (List.mem_of_mem_take hc)
   ·exact hvs c hc
   ·exact hall c (List.mem_of_mem_drop hc)
  have hlen : (ys.take i ++ vs ++ ys.drop (i + vs.length)).length = ys.length := by simp; omega
  refine hk ρ _ _ (hT.put hlt (by simp only [RelV]; rfl)) (hC.change hm (by rw [hsl]; rfl) (grownBy_setRow w g _) hB ⟨⟨?_, .inr ⟨g, c, _, by rw [hlen]; exact hsl, hB, setRow_heap w g cur _ e _ hb, by omega, hcpm, ?_, ?_⟩⟩, hall'⟩)
  ·rw [flatten_length (fun c hc => (hall' c hc).1)]
  ·simp [hfl]; omega
  ·rw [hlen]
   simp only [List.flatten_append]
   rw [flatten_take (fun c hc => (hall c hc).1) (by omega), flatten_drop (fun c hc => (hall c hc).1) (by omega), ← htake, hfl]
   have hlt1 : (List.take (i * sz) cur.toList).length = i * sz := by rw [List.length_take]; simp; omega
   simp only [List.take_append, List.take_take, List.drop_take, List.length_append, hlt1, hfl]
   rw [Nat.min_eq_left (by omega : i * sz ≤ ys.length * sz), Nat.min_eq_right (by omega : i * sz ≤ ys.length * sz)]
   rw [List.take_of_length_le (l := vs.flatten) (by omega), Nat.add_mul]
theorem WX_copy_spare {x y : Operand} {dT sT e sz by_ id n i : Nat} {zs : List Value} {ys gs vs : List (List Value)} {ay : AV} (G : Good P tb) (hd : o.dst = some d) (hlt : Nat.blt d nt = true) (ho : o.op = .call { callee := .builtin .copy, args := #[x, y], argTypes := #[dT, sT] }) (ht : look dT tb = some (.slice e sz by_ zs))
 (hx : ev T x = some (.sub id sz i n)) (hm : mem m id = some (.spare e sz ys gs)) (hy : ev T y = some ay) {L : Nat} {us : List (List Value)} (hs : SrcOK m nx sz ay us) (hL : Nat.min us.length n = L) (hvs : vs = us.take L) (hone : ∀ c ∈ vs, ∀ u ∈ c, u.oneCell' = true) (hszs : ∀ c ∈ vs, c.length = sz) (hle : i + n ≤ ys.length) (hpos : 0 < L)
 (hk : WL P w0 ops rest ⟨(d, .v (.int .i64 (vs.length : Int))) :: T, (id, some (.spare e sz (ys.take i ++ vs ++ ys.drop (i + vs.length)) gs)) :: m, nx, nt⟩ Q) : WX P w0 ops o rest ⟨T, m, nx, nt⟩ Q := by
 intro ρ a w hT hC
 obtain ⟨hu, _, inf, z, hi, hsz, _⟩ := G dT _ ht
 have hax := hT.ev hx
 simp only [RelV] at hax
 obtain ⟨hid, A, cap, hex, hcap, hA, _⟩ := hax
 have hmin : L ≤ us.length ∧ L ≤ n := by simp only [Nat.min_def] at hL; split at hL <;> omega
 obtain ⟨g, l, c, hg, rfl⟩ := hA (by omega)
 obtain ⟨A', cap', hey, hsrc⟩ := hs w0 ρ w _ hC (hT.ev hy)
 obtain ⟨ad, rfl, hsrc2⟩ := hsrc (by omega)
 obtain ⟨g', cur, hsl, hB, hb, hcur, hmax, hall⟩ := hC.spare hm
 have hgg : g = g' := by rw [hg] at hsl; simp at hsl; exact hsl.1
 subst hgg
 have hvl : vs.length = L := by rw [hvs, List.length_take]; omega
 have hfl := flatten_length (ys := vs) (sz := sz) hszs
 have hcl : cur.toList.length = (ys.length + gs.length) * sz := by rw [hcur, flatten_length hall, List.length_append]
 have hcs : cur.size = (ys.length + gs.length) * sz := by rw [← hcl]; simp
 have hb1 : (i + vs.length) * sz ≤ (ys.length + gs.length) * sz := Nat.mul_le_mul_right _ (by omega)
 rw [Nat.add_mul] at hb1
 have hsrc' : ∀ j v, vs.flatten[j]? = some v → w.cell? (ad.add j) = some v := fun j v hj => by
  refine hsrc2 j v ?_
  have : us.flatten = vs.flatten ++ (us.drop L).flatten := by rw [hvs, ← List.flatten_append, List.take_append_drop]
  rw [this, List.getElem?_append_left (List.getElem?_eq_some_iff.1 hj).1]
  exact hj
 have hrun := run_copy_at (P := P) (sT := sT) (ty := o.type) (dLen := n) (dCap := cap) (sLen := us.length) (sCap := cap') hu hi hsz hb (by rw [hvl, hL]) (fun c hc => ⟨hszs c hc, hone c hc⟩) hsrc' (off := i * sz) (by omega)
 have hr : (execOp a.eval o).run P w = .ok (.value (goInt vs.length)) (w.setRow g (cur.toList.take (i * sz) ++ vs.flatten ++ cur.toList.drop (i * sz + vs.flatten.length)).toArray) := by
  simp only [execOp, ho, resolve, invoke, builtin, Sem.run_bind, Sem.run_pure, Result.andThen_ok, List.map_toArray, List.map_cons, List.map_nil, hex, hey, hrun]
 unfold Oper.wp
 rw [hr, Oper.upon_value, hd]
 have hlen : (ys.take i ++ vs ++ ys.drop (i + vs.length)).length = ys.length := by simp; omega
 have hly : ∀ c ∈ ys, c.length = sz := fun c hc => hall c (List.mem_append_left _ hc)
 refine hk ρ _ _ (hT.put hlt (by simp only [RelV]; rfl)) (hC.change hm (by rw [hsl]; rfl) (grownBy_setRow w g _) hB ?_)
 simp only [RowRel]
 refine ⟨g, _, by rw [hlen]; exact hsl, hB, setRow_heap w g cur _ e _ hb, ?_, by rw [hlen]; exact hmax, fun c hc => ?_⟩
 ·rw [hcur, List.flatten_append, hfl]
  have f1 := flatten_take (ys := ys) (sz := sz) hly (by omega : i ≤ ys.length)
  have f2 := flatten_drop (ys := ys) (sz := sz) hly (by omega : i + vs.length ≤ ys.length)
  have fy := flatten_length (ys := ys) (sz := sz) hly
  have hb3 : (i + vs.length) * sz ≤ ys.length * sz := Nat.mul_le_mul_right _ (by omega)
  rw [Nat.add_mul] at hb3
  rw [List.take_append_of_le_length (by omega), List.drop_append_of_le_length (by omega)]
  simp only [List.flatten_append, f1, f2, Nat.add_mul, List.append_assoc]
 ·simp only [List.mem_append] at hc
  rcases hc with ((hc | hc) | hc) | hc
  ·exact hly c (List.mem_of_mem_take hc)
  ·exact hszs c hc
  ·exact hly c (List.mem_of_mem_drop hc)
  ·exact hall c (List.mem_append_right _ hc)
theorem WX_growmake {x y : Operand} {t tn tr e sz by_ id i k : Nat} {zs : List Value} {zn : Value} {ys gs : List (List Value)} {kk : IntKind} {q : Int} (G : Good P tb) (nx' : Nat) (hn' : Nat.beq nx' (Nat.succ nx) = true) (hd : o.dst = some d) (hlt : Nat.blt d nt = true) (ho : o.op = .call { callee := .builtin .append, args := #[x, y], argTypes := #[t, tn] }) (ht : look t tb = some (.slice e sz by_ zs)) (htn : look tn tb = some (.flat (.int .i64) zn))
 (hx : ev T x = some (.sub id sz 0 i)) (hm : mem m id = some (.spare tr sz ys gs)) (hy : ev T y = some (.v (.int kk q))) (hq : q = (k : Int)) (hk0 : 0 < k) (hi : i ≤ ys.length) (hroom : ys.length + gs.length < i + k) (hbig : (i + k) * by_ ≤ 140737488355328) (hbig2 : i + k ≤ 9223372036854775807) (hone : ∀ c ∈ ys, ∀ u ∈ c, u.oneCell' = true) (hpos : 0 < ys.length)
 (hk : WL P w0 ops rest ⟨(d, .own nx) :: T, (nx, some (.row e sz (ys.take i ++ List.replicate k zs))) :: m, nx', nt⟩ Q) : WX P w0 ops o rest ⟨T, m, nx, nt⟩ Q := by
 have hn'' := Nat.eq_of_beq_eq_true hn'
 subst hn''
 subst hq
 intro ρ a w hT hC
 obtain ⟨hu, _, inf, z, hinf, hsz, hby, hz, hzc, hzl, hzpos, hzone⟩ := G t _ ht
 have htn' : P.underlying tn = some (.int .i64) := (G tn _ htn).1
 have hax := hT.ev hx
 have hay := hT.ev hy
 simp only [RelV] at hax hay
 obtain ⟨hid, A, cap, hex, hcap, hA, hA0⟩ := hax
 obtain ⟨l0, hl0, _⟩ := hA0 trivial
 obtain ⟨g, cur, hsl, hB, hb, hcur, hmax, hall⟩ := hC.spare hm
 have hAg : A = some ⟨g, 0, none⟩ ∧ cap = ys.length + gs.length := by rw [hl0] at hsl; simp at hsl; exact ⟨hsl.1, hsl.2.2⟩
 obtain ⟨rfl, rfl⟩ := hAg
 have hly : ∀ c ∈ ys, c.length = sz := fun c hc => hall c (List.mem_append_left _ hc)
 have hti : (ys.take i).length = i := by rw [List.length_take]; omega
 have hft : (ys.take i).flatten = ys.flatten.take (i * sz) := flatten_take hly hi
 have hfl : (ys.take i).flatten.length = i * inf.size := by rw [flatten_length (sz := sz) (fun c hc => hly c (List.mem_of_mem_take hc)), hti, hsz]
 have hold : (Builtin.firstCells inf.size i (.slice (some ⟨g, 0, none⟩) i (ys.length + gs.length))).run P w.drew = .ok (ys.take i).flatten.toArray w.drew :=
  run_firstCells_some w.drew inf.size i ⟨g, 0, none⟩ i _ (ys.take i).flatten hfl (fun j v hj => by
   have hb' : w.drew.heap[g]? = some (.cells cur tr (0, 0)) := hb
   rw [Addr.add_lit, heap_cell hb', Nat.zero_add, hcur, List.flatten_append]
   rw [hft, List.getElem?_take] at hj
   split at hj
   ·rw [List.getElem?_append_left (List.getElem?_eq_some_iff.1 hj).1]; exact hj
   ·cases hj)
 have hrun := Lib.run_append_grow_zeros (P := P) w t tn o.type e inf z kk .i64 hu htn' hinf hz (some ⟨g, 0, none⟩) i (ys.length + gs.length) (ys.take i).flatten hold k hk0 (by omega) hroom (by omega) (by
  rw [hby]
  have : k * by_ ≤ (i + k) * by_ := Nat.mul_le_mul_right _ (by omega)
  omega) (by rw [hby]; exact growslice_fits hroom hbig)
 have hr : (execOp a.eval o).run P w = .ok (.value (.slice (some ⟨w.heap.size, 0, none⟩) (i + k) (grownCap w (i + k) (ys.length + gs.length) e))) (w.drew.alloc (.cells ((ys.take i).flatten.toArray ++ Builtin.zeroCells z.cells k ++ Builtin.zeroCells z.cells (grownCap w (i + k) (ys.length + gs.length) e - (i + k))) e)) := by
  simp only [execOp, ho, resolve, invoke, builtin, Sem.run_bind, Sem.run_pure, Result.andThen_ok, List.map_toArray, List.map_cons, List.map_nil, hex, hay, hrun]
 unfold Oper.wp
 rw [hr, Oper.upon_value, hd]
 have hb2 : Below w.heap.size w (w.drew.alloc (.cells ((ys.take i).flatten.toArray ++ Builtin.zeroCells z.cells k ++ Builtin.zeroCells z.cells (grownCap w (i + k) (ys.length + gs.length) e - (i + k))) e)) := ((Below.refl _ _).drew).alloc (Nat.le_refl _) _
 have hge := grownCap_ge w (i + k) (ys.length + gs.length) e
 have hle := grownCap_le_maxLen w (i + k) (ys.length + gs.length) e (by unfold maxLen; omega)
 have hzf : (Builtin.zeroCells z.cells k).toList = (List.replicate k zs).flatten := by rw [hzc]; exact zero_flat (by omega) k
 have hzs : ∀ n, (Builtin.zeroCells z.cells n).size = n * sz := fun n => by
  have h := congrArg List.length (zero_flat (zs := zs) (by omega) n)
  rw [flatten_length (sz := zs.length) (fun c hc => by rw [(List.mem_replicate.1 hc).2]), List.length_replicate, hzl] at h
  rw [hzc]
  simpa using h
 refine hk (upd ρ nx (.slice (some ⟨w.heap.size, 0, none⟩) (i + k) (grownCap w (i + k) (ys.length + gs.length) e))) _ _ ((hT.add _).put hlt ?_) (hC.addF hb2 (fun _ => rfl) ?_ (fun b hb => (by simp [blk] at hb; subst hb; exact Nat.le_refl _)))
 ·simp only [RelV]
  exact ⟨by omega, by rw [upd_same]⟩
 ·have hlen : (ys.take i ++ List.replicate k zs).length = i + k := by rw [List.length_append, hti, List.length_replicate]
  have hall' : ∀ c ∈ ys.take i ++ List.replicate k zs, c.length = sz ∧ ∀ u ∈ c, u.oneCell' = true := fun c hc => by
   rcases List.mem_append.1 hc with hc | hc
   ·exact ⟨hly c (List.mem_of_mem_take hc), hone c (List.mem_of_mem_take hc)⟩
   ·rw [(List.mem_replicate.1 hc).2]; exact ⟨hzl, hzone⟩
  have hfl3 := flatten_length (ys := ys.take i ++ List.replicate k zs) (sz := sz) (fun c hc => (hall' c hc).1)
  refine ⟨⟨hfl3, .inr ⟨w.heap.size, _, _, by rw [upd_same, hlen], hC.below.size, heap_alloc_new w.drew _, by rw [hlen]; exact hge, hle, ?_, ?_⟩⟩, hall'⟩
  ·simp only [Array.size_append, hzs, List.size_toArray, hfl, hsz]
   rw [← Nat.add_mul, ← Nat.add_mul]
   congr 1
   omega
  ·rw [hlen] at hfl3 ⊢
   simp only [Array.toList_append]
   rw [List.take_append_of_le_length (by simp [hzs, hfl, hsz, Nat.add_mul]), hzf, ← List.flatten_append, ← hfl3, List.take_length]
theorem q_overlaps {x y : Operand} {f : FuncId} {fn : Func} {ts : Array TypeId} {t tr e e' sz by_ id id' i n sz' : Nat} {zs : List Value} {ys ys' gs' : List (List Value)} (G : Good P tb) (hf : P.funcs[f]? = some fn) (hname : (fn.name == "runtime.NumGoroutine") = false) (hb : fn.body.isNone = true) (hn : Extern.findNext fn = none) (he : Extern.find fn = some (Extern.SlicesOverlaps.overlaps #[t, t] #[tr]))
 (ho : o.op = .call { callee := .value (.func f), args := #[x, y], argTypes := ts }) (ht : look t tb = some (.slice e sz by_ zs)) (hx : ev T x = some (.own id)) (hm : mem m id = some (.row e' sz ys)) (hpos : 0 < ys.length) (hy : ev T y = some (.sub id' sz' i n)) (hm' : mem m id' = some (.spare e sz ys' gs')) (hne : Nat.beq id id' = false) (hn0 : 0 < n) (hsz : 0 < sz) (hpos' : 0 < ys'.length) : QStep P o T m nx nt (.v (.bool false)) :=
 QStep.run fun w0 ρ a w hT hC => by
  have h1 := hT.ev hx
  have h2 := hT.ev hy
  simp only [RelV] at h1 h2
  obtain ⟨hid', A, cap, hey, hcap, hA, _⟩ := h2
  obtain ⟨g', l, c, hg', rfl⟩ := hA hn0
  refine ⟨.bool false, by simp only [RelV], fun w' hC' => ?_⟩
  obtain ⟨hrow, _⟩ := hC'.row hm
  obtain ⟨g2, cur', hsl', hB', hb', hcur', hmax', hall'⟩ := hC'.spare hm'
  have hgg : g' = g2 := by rw [hg'] at hsl'; simp at hsl'; exact hsl'.1
  subst hgg
  rcases hrow.2 with ⟨_, hz⟩ | ⟨g, cp, cur, hsl, hB, hbb, hcp, hcpm, hcur, _⟩
  ·omega
  ·have hgne : g ≠ g' := fun e => hC'.apart id id' _ _ hm hm' (beq_ne hne) g (by rw [hsl]; rfl) (by rw [hsl', e]; rfl)
   obtain ⟨_, _, inf, z, hinf, hs2, _⟩ := G t _ ht
   have hu := (G t _ ht).1
   have hk : cur'.size ≠ 0 := by
    have h3 := congrArg List.length hcur'
    rw [flatten_length hall', List.length_append] at h3
    simp at h3
    rw [h3]
    exact Nat.pos_iff_ne_zero.mp (Nat.mul_pos (by omega) hsz)
   have hrun := Lib.run_overlaps_apart (P := P) w' t tr e hu sz (fun w => by simp [Go.sizeOf, typeInfo, hinf, hs2]) ⟨g, 0, none⟩ ⟨g', i * sz', none⟩ ys.length cp n cap hgne e' e cur.size cur'.size (by simp [World.shape?, hbb]) (by simp [World.shape?, hb']) hk (by simp [World.frozen?, hbb]) (by simp [World.frozen?, hbb])
   have hext := run_callFunc_extern hf hname hb hn he #[a.eval x, a.eval y] w'
   rw [h1.2, hsl, hey] at hext
   have e1 : (callFunc f #[a.eval x, a.eval y]).run P w' = .ok (.value (.bool false)) w' := by
    rw [h1.2, hsl, hey, hext, hrun]; rfl
   have e2 : (execOp a.eval o).run P w' = (callFunc f #[a.eval x, a.eval y]).run P w' := by
    have hev : a.eval (.func f) = .func (.func f) #[] #[] := rfl
    simp only [execOp, ho, resolve, hev, Deferred.ofValue, invoke, List.map_toArray, List.map_cons, List.map_nil]
    simp
   rw [e2, e1]
theorem ins_grow {α : Type} {l z : List α} {v : α} {i : Nat} (hi : i ≤ l.length) (hz : z.length = l.length + 1 - i) :
 (((l.take i ++ z).take i ++ [v] ++ (l.take i ++ z).drop (i + 1)).take (i + 1) ++ l.drop i ++ ((l.take i ++ z).take i ++ [v] ++ (l.take i ++ z).drop (i + 1)).drop (i + 1 + (l.length - i))) = l.take i ++ [v] ++ l.drop i := by
 have hti : (l.take i).length = i := by rw [List.length_take]; omega
 have e1 : (l.take i ++ z).take i = l.take i := by rw [List.take_append_of_le_length (by omega), List.take_take, Nat.min_self]
 have hlen : (l.take i ++ [v] ++ (l.take i ++ z).drop (i + 1)).length = l.length + 1 := by simp; omega
 rw [e1]
 have e2 : (l.take i ++ [v] ++ (l.take i ++ z).drop (i + 1)).take (i + 1) = l.take i ++ [v] := by
  rw [List.take_append_of_le_length (by rw [List.length_append, hti]; exact Nat.le_refl _), List.take_of_length_le (by rw [List.length_append, hti]; exact Nat.le_refl _)]
 have e3 : (l.take i ++ [v] ++ (l.take i ++ z).drop (i + 1)).drop (i + 1 + (l.length - i)) = [] := List.drop_of_length_le (by omega)
 rw [e2, e3, List.append_nil]
theorem ins_room {α : Type} {l g : List α} {v : α} {i : Nat} (hi : i ≤ l.length) (hg : 0 < g.length) :
 ((((l ++ g).take (l.length + 1)).take (i + 1) ++ l.drop i ++ ((l ++ g).take (l.length + 1)).drop (i + 1 + (l.length - i))).take i ++ [v] ++ (((l ++ g).take (l.length + 1)).take (i + 1) ++ l.drop i ++ ((l ++ g).take (l.length + 1)).drop (i + 1 + (l.length - i))).drop (i + 1)) = l.take i ++ [v] ++ l.drop i := by
 have hY : ((l ++ g).take (l.length + 1)).length = l.length + 1 := by simp; omega
 have e0 : ((l ++ g).take (l.length + 1)).drop (i + 1 + (l.length - i)) = [] := List.drop_of_length_le (by omega)
 rw [e0, List.append_nil]
 have hT : (((l ++ g).take (l.length + 1)).take (i + 1)).length = i + 1 := by rw [List.length_take]; omega
 rw [List.take_append_of_le_length (by omega), List.take_take, List.take_take, Nat.min_eq_left (by omega), Nat.min_eq_left (by omega), List.take_append_of_le_length hi]
 congr 1
 rw [List.drop_append, List.drop_of_length_le (by omega), List.nil_append, hT, Nat.sub_self, List.drop_zero]
theorem ren_rel {ρ : Nat → Value} {a : Act} {w : World} {tx id : Nat} {row : Row} {T' : List (Nat × AV)} (hT : RelT w0.w ρ T nx nt a) (hC : RelC w0 ρ m nx w) (hx : look tx T = some (.own id)) (hm : mem m id = some row) (hf : rowRefs 0 row = true) (hT' : killO id T [] [] = some T') :
 RelT w0.w (upd ρ nx (ρ id)) ((tx, .own nx) :: T') (nx + 1) nt a ∧ RelC w0 (upd ρ nx (ρ id)) ((nx, some row) :: (id, none) :: m) (nx + 1) w := by
 have hxe := hT.tmps _ _ hx
 simp only [RelV] at hxe
 have hsub : ∀ i r, mem ((id, none) :: m) i = some r → mem m i = some r ∧ i ≠ id := fun i r hr => by
  by_cases e : id = i
  ·subst e; rw [mem_cons_same] at hr; cases hr
  ·rw [mem_cons_other e] at hr; exact ⟨hr, Ne.symm e⟩
 have hC2 : RelC w0 ρ ((id, none) :: m) nx w := hC.sub fun i r hr => (hsub i r hr).1
 refine ⟨⟨fun t x hx' => ?_, hT.size, hT.defers⟩, hC2.add ?_ ?_ ?_⟩
 ·by_cases e : tx = t
  ·subst e
   simp [look] at hx'
   subst hx'
   simp only [RelV]
   exact ⟨by omega, by rw [upd_same]; exact hxe.2⟩
  ·have hl : look t T' = some x := by simpa [look, show tx.beq t = false from Bool.eq_false_iff.mpr (fun h => e (Nat.eq_of_beq_eq_true h))] using hx'
   rw [killO_eq] at hT'
   cases hT'
   rcases killT_spec _ _ _ _ _ hl (by simp) with h2 | ⟨_, h2, h3⟩
   ·simp [look] at h2
   ·exact (hT.add (ρ id)).tmps t x h2
 ·exact RowRel.move (w0 := w0) (hC.rows id _ hm).2 hf (upd_same _ _ _)
 ·intro b hb
  refine ⟨fun i r hr hb' => ?_, ?_⟩
  ·obtain ⟨h1, h2⟩ := hsub i r hr
   exact hC.foot_apart h1 hm h2 hb' hb
  ·rcases hb with hb | ⟨p, hb⟩
   ·exact hC.kept.2.2 id _ hm _ hb
   ·exact (hC.inner id _ hm p b hb).1
 ·intro p b hb
  obtain ⟨_, _, _, g4⟩ := hC.inner id _ hm p b hb
  exact ⟨(g4 id _ hm).1, fun p' hp' => ((g4 id _ hm).2 p' hp').2⟩
theorem WX_ren {tx id : Nat} {row : Row} {T' : List (Nat × AV)} (nx' : Nat) (hn' : Nat.beq nx' (Nat.succ nx) = true) (hx : look tx T = some (.own id)) (hm : mem m id = some row) (hT' : killO id T [] [] = some T') (hf : rowRefs 0 row = true)
 (hk : WX P w0 ops o rest ⟨(tx, .own nx) :: T', (nx, some row) :: (id, none) :: m, nx', nt⟩ Q) : WX P w0 ops o rest ⟨T, m, nx, nt⟩ Q := by
 have hn'' := Nat.eq_of_beq_eq_true hn'
 subst hn''
 intro ρ a w hT hC
 obtain ⟨h1, h2⟩ := ren_rel hT hC hx hm hf hT'
 exact hk _ a w h1 h2
theorem of_eq {α : Type} {L L0 : List α} {p : α → Prop} (h : L = L0) (h0 : ∀ c ∈ L0, p c) : ∀ c ∈ L, p c := h ▸ h0
theorem ins_src {α : Type} {l g : List α} {i A B L N : Nat} (hi : i ≤ l.length) (hA : A = i) (hB : L ≤ B) (hL : L = l.length - i) (hN : N = l.length + 1) : l.drop i = ((((l ++ g).take N).drop A).take B).take L := by
 subst hA; subst hL; subst hN
 rw [List.take_take, Nat.min_eq_left hB, List.drop_take, List.take_take, Nat.min_eq_left (by omega), List.drop_append_of_le_length hi, List.take_append_of_le_length (by rw [List.length_drop]; exact Nat.le_refl _), List.take_of_length_le (by rw [List.length_drop]; exact Nat.le_refl _)]
end
end Go.Rf
set_option linter.unusedVariables false
set_option linter.unusedSimpArgs false
set_option linter.unusedSectionVars false
namespace Go.Rf
open Go
section
variable {α : Type} [Inhabited α] {f : α → List Value} {g : Nat → α} {xs : List α} {i : Nat}
end
end Go.Rf
set_option linter.unusedVariables false
set_option linter.unusedSimpArgs false
set_option linter.unusedSectionVars false
namespace Go.Rf
open Go
theorem idx_cases {f : Nat → Bool} {n : Nat} (h : idxN f n ≠ -1) : ∃ i : Nat, idxN f n = (i : Int) ∧ i < n ∧ (∀ j, j < i → f j = false) ∧ f i = true := by
 unfold idxN at h ⊢
 cases hf : (List.range n).find? f with
 | none => simp [hf] at h
 | some i =>
  rw [List.find?_range_eq_some] at hf
  exact ⟨i, rfl, List.mem_range.mp hf.2.1, fun j hj => by simpa using hf.2.2 j hj, hf.1⟩
theorem idx_neg {f : Nat → Bool} {n : Nat} (h : idxN f n = -1) : ∀ i, i < n → f i = false := by
 unfold idxN at h
 cases hf : (List.range n).find? f with
 | none =>
  rw [List.find?_eq_none] at hf
  intro i hi
  simpa using hf i (List.mem_range.mpr hi)
 | some i => simp [hf] at h
section
variable {α : Type} [Inhabited α] {f : α → List Value} {p : α → Bool} {xs : List α} {j : Nat}
end
end Go.Rf
namespace Go.Rf
open Go
end Go.Rf
