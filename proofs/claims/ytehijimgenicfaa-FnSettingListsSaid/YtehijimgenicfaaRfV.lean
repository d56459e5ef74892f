/- What is laid stays; contracts of the library; numbers as text. -/
import Derived.Test.YtehijimgenicfaaRfR
import Derived.Lib.LaidTab
import Derived.Lib.ItoaNum
import Derived.Lib.ItoaLen
import Derived.Sort.Grow
set_option linter.unusedVariables false
set_option linter.unusedSimpArgs false
set_option linter.unusedSectionVars false
namespace Go.Rf
open Go Go.RowKit Go.Sort
theorem tab_below {P : Program} {w w' : World} {n : String} {k : IntKind} {zs : List Int} (h : Lib.TabIs P w n k zs) (hb : Below w.heap.size w w') : Lib.TabIs P w' n k zs := by
  unfold Lib.TabIs World.var? at h ⊢
  cases hg : P.globalNamed n with
  | none => simp [hg] at h
  | some g =>
    simp only [hg, Option.bind_some] at h ⊢
    have hlt : g < w.heap.size := by
      rcases Nat.lt_or_ge g w.heap.size with h' | h'
      · exact h'
      · rw [Array.getElem?_eq_none h'] at h; cases h
    rw [hb.block g hlt]
    exact h
theorem below_grow (w : World) (k : Nat) (os : Array Obj) : Below w.heap.size w (grow (w.drewN k) os) :=
  ⟨rfl, rfl, rfl, by simp [grow, World.drewN], fun i hi => by
    show (w.heap ++ os)[i]? = w.heap[i]?
    rw [Array.getElem?_append_left hi]⟩
theorem Ctr.lib {P : Program} [Env P] {f : FuncId} {xs : List Value} {v : Value} (hc : Callable P f) (h : ∀ w, Env.E P w → Calls P f xs.toArray w fun e w' => e = .returned v ∧ Below w.heap.size w w') : Ctr P f (xs.map .v) (.one (.v v)) :=
  ⟨hc, fun w vs he hv => by
    rw [RelVs.map_v_eq (w0 := w) xs hv]
    exact (h w he).mono fun e w' ⟨h1, h2⟩ => ⟨v, h1, by simp [ResRel, RCRel], h2⟩⟩
def numT (n : Int) : ByteArray := ⟨(Lib.itoa n).toArray⟩
theorem digit_at {n : Nat} (h : n < 10) : (⟨#[48, 49, 50, 51, 52, 53, 54, 55, 56, 57]⟩ : ByteArray).extract n (n + 1) = ⟨#[UInt8.ofNat (48 + n)]⟩ := by
  rcases n with _ | _ | _ | _ | _ | _ | _ | _ | _ | _ | n <;> first | rfl | omega
theorem numT_neg {n : Int} (h : n < 0) : numT n = (⟨#[45]⟩ : ByteArray) ++ numT (-n) := by
  have e1 : Lib.itoa n = 45 :: Lib.decDigits n.natAbs := by rw [Lib.itoa, if_pos h]
  have e2 : Lib.itoa (-n) = Lib.decDigits n.natAbs := by
    rw [Lib.itoa, if_neg (by omega)]
    congr 1
    omega
  rw [numT, numT, e1, e2]
  apply ByteArray.ext
  simp [ByteArray.data_append]
theorem numT_small {n : Nat} (h : n < 10) : numT n = ⟨#[UInt8.ofNat (48 + n)]⟩ := by
  rw [numT, Lib.itoa, if_neg (by omega), Lib.decDigits]
  simp [h]
theorem numT_step {n : Nat} (h : 10 ≤ n) : numT n = numT ((n / 10 : Nat) : Int) ++ ⟨#[UInt8.ofNat (48 + n % 10)]⟩ := by
  have e1 : Lib.itoa (n : Int) = Lib.decDigits (n / 10) ++ [UInt8.ofNat (48 + n % 10)] := by
    rw [Lib.itoa, if_neg (by omega), Lib.decDigits]
    simp [show ¬ n < 10 by omega]
  have e2 : Lib.itoa ((n / 10 : Nat) : Int) = Lib.decDigits (n / 10) := by
    rw [Lib.itoa, if_neg (by omega)]
    congr 1
  rw [numT, numT, e1, e2]
  apply ByteArray.ext
  simp [ByteArray.data_append]
theorem numT_size {n : Int} (h0 : -9223372036854775808 ≤ n) (h1 : n ≤ 9223372036854775807) : (numT n).size ≤ 21 := by
  have := Lib.itoa_length_le n h0 h1
  simpa [numT, ByteArray.size] using this
end Go.Rf
namespace Go.Rf
open Go Go.RowKit
theorem cell_below {w w' : World} {a : Addr} {v : Value} (h : w.cell? a = some v) (hb : Below w.heap.size w w') : w'.cell? a = some v := by
  have hlt : a.block < w.heap.size := by
    unfold World.cell? at h
    split at h
    · next hb => exact (Array.getElem?_eq_some_iff.1 hb).1
    · cases h
  exact (hb.cell hlt).trans h
end Go.Rf
