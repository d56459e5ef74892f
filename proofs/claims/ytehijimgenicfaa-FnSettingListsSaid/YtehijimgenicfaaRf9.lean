/- A slice that came in, kept in a box; shifts and bits. -/
import Derived.Test.YtehijimgenicfaaRfK
import Derived.Test.YtehijimgenicfaaRfP
set_option linter.unusedVariables false
set_option linter.unusedSimpArgs false
set_option linter.unusedSectionVars false
namespace Go.Rf
open Go Go.RowKit
section
variable {P : Program} [Env P] {w0 : Base} {ops : Array Oper} {tb : List (Nat × TyI)} {o : Oper} {T : List (Nat × AV)} {m : List (Nat × Option Row)} {nx nt : Nat} {Q : Exit → St → Prop} {c : Code}
theorem W_pin {id sz : Nat} {ys : List (List Value)} {cs : List AV} (hm : mem m id = some (.box (.lst sz ys :: cs))) (h : ∀ y, W P w0 c ⟨T, (id, some (.box (.pin y sz ys :: cs))) :: m, nx, nt⟩ Q) : W P w0 c ⟨T, m, nx, nt⟩ Q := by
  intro ρ a w hT hC
  obtain ⟨b, cur, ty, hρ, hB, hb, hR, hone⟩ := hC.box hm
  have hR2 := hR
  simp only [RelVs] at hR2
  obtain ⟨y, r, e, h1, h2⟩ := hR2
  refine h y ρ a w hT (hC.change hm (by rw [hρ]; rfl) ⟨rfl, rfl, rfl, Nat.le_refl _, fun _ _ _ => rfl⟩ hB ?_)
  refine ⟨b, cur, ty, hρ, hB, hb, ?_, hone⟩
  simp only [RelVs]
  simp only [RelV] at h1
  exact ⟨y, r, e, by simp only [RelV]; exact ⟨trivial, h1⟩, h2⟩
theorem W_pinT {t sz : Nat} {ys : List (List Value)} (ht : look t T = some (.lst sz ys)) (h : ∀ y, W P w0 c ⟨(t, .pin y sz ys) :: T, m, nx, nt⟩ Q) : W P w0 c ⟨T, m, nx, nt⟩ Q := by
  intro ρ a w hT hC
  have h1 := hT.tmps t _ ht
  simp only [RelV] at h1
  refine h (a.tmps.getD t undef) ρ a w ⟨fun i x hi => ?_, hT.size, hT.defers⟩ hC
  by_cases e : i = t
  · subst e
    rw [look_cons_same] at hi
    cases hi
    simp only [RelV]
    exact ⟨trivial, h1⟩
  · rw [look_cons_other (fun e' => e e'.symm)] at hi
    exact hT.tmps i x hi
theorem W_unpin {id sz : Nat} {ys : List (List Value)} {cs : List AV} {y : Value} (hm : mem m id = some (.box (.pin y sz ys :: cs))) (h : W P w0 c ⟨T, (id, some (.box (.lst sz ys :: cs))) :: m, nx, nt⟩ Q) : W P w0 c ⟨T, m, nx, nt⟩ Q := by
  intro ρ a w hT hC
  obtain ⟨b, cur, ty, hρ, hB, hb, hR, hone⟩ := hC.box hm
  have hR2 := hR
  simp only [RelVs] at hR2
  obtain ⟨y', r, e, h1, h2⟩ := hR2
  refine h ρ a w hT (hC.change hm (by rw [hρ]; rfl) ⟨rfl, rfl, rfl, Nat.le_refl _, fun _ _ _ => rfl⟩ hB ?_)
  refine ⟨b, cur, ty, hρ, hB, hb, ?_, hone⟩
  simp only [RelVs]
  simp only [RelV] at h1
  exact ⟨y', r, e, by simp only [RelV]; exact h1.2, h2⟩
theorem q_index_pin {x y : Operand} {t e sz by_ : Nat} {zs : List Value} {z : Value} {ys : List (List Value)} {k : IntKind} {i : Int} {c : List Value} (G : Good P tb) (ho : o.op = .indexAddr t x y) (ht : look t tb = some (.slice e sz by_ zs)) (hx : ev T x = some (.pin z sz ys)) (hy : ev T y = some (.v (.int k i)))
    (h0 : 0 ≤ i) (hc : ys[i.toNat]? = some c) : QStep P o T m nx nt (.ept c) :=
  QStep.run fun w0 ρ a w hT hC => by
    have h := hT.ev hx
    have h2 := hT.ev hy
    simp only [RelV] at h h2
    obtain ⟨_, A, cap, he, _, hall, hA⟩ := h
    have hlt : i.toNat < ys.length := by
      rcases Nat.lt_or_ge i.toNat ys.length with hlt | hge
      · exact hlt
      · rw [List.getElem?_eq_none hge] at hc; cases hc
    obtain ⟨ad, rfl, hb, hcell⟩ := hA (by omega)
    refine ⟨.pointer (some (ad.add (i.toNat * sz))), by
      simp only [RelV]
      refine ⟨_, rfl, by rw [add_block]; exact hb, (hall c (List.mem_of_getElem? hc)).2, fun j u hj => ?_⟩
      rw [add_add']
      exact hcell _ _ hc j u hj, fun w' hC' => ?_⟩
    simp only [execOp, ho, he, h2, Sem.run_bind, run_indexAt_in (G t _ ht) (a := ad) (len := ys.length) (cap := cap) (k := k) (i := i) h0 (by omega), Result.andThen_ok, Sem.run_pure]
theorem q_shr {x y : Operand} {t t' : TypeId} {k yk : IntKind} {a b : Int} (ho : o.op = .binOp .shr t x y t') (hx : ev T x = some (.v (.int k a))) (hy : ev T y = some (.v (.int yk b))) (hb : ¬ b < 0) :
    QStep P o T m nx nt (.v (.int k (a.fdiv (2 ^ (min b.toNat k.bits))))) :=
  QStep.val fun w0 ρ ac hT w' => by
    have h1 := hT.ev hx
    have h2 := hT.ev hy
    simp only [RelV] at h1 h2
    simp [execOp, ho, h1, h2, eqGuard, binOp, Op.shift, hb]
def andI (k : IntKind) (a b : Int) : Int := k.wrap ((BitVec.ofInt k.bits a &&& BitVec.ofInt k.bits b).toNat : Nat)
theorem q_and {x y : Operand} {t t' : TypeId} {k : IntKind} {a b : Int} (ho : o.op = .binOp .and t x y t') (hx : ev T x = some (.v (.int k a))) (hy : ev T y = some (.v (.int k b))) :
    QStep P o T m nx nt (.v (.int k (andI k a b))) :=
  QStep.val fun w0 ρ ac hT w' => by
    have h1 := hT.ev hx
    have h2 := hT.ev hy
    simp only [RelV] at h1 h2
    simp [execOp, ho, h1, h2, eqGuard, binOp, Op.intBits, andI]
end
end Go.Rf
