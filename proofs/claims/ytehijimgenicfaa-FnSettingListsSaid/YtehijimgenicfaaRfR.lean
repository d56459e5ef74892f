/- Bytes to text; marks of texts and of settings. -/
import Derived.Test.YtehijimgenicfaaRfL
import Derived.Laws.BytesArg
set_option linter.unusedVariables false
set_option linter.unusedSimpArgs false
set_option linter.unusedSectionVars false
namespace Go.Rf
open Go Go.RowKit
def u8s : List (List Value) → List Int → Option (List Int)
  | [], acc => revO acc []
  | [.int .u8 n] :: r, acc => u8s r (n :: acc)
  | _ :: _, _ => none
theorem u8s_spec : ∀ {ys : List (List Value)} {acc ns : List Int}, u8s ys acc = some ns → ∃ xs, ns = acc.reverse ++ xs ∧ ys = xs.map fun n => [.int .u8 n]
  | [], acc, ns, h => by simp [u8s, revO_eq] at h; exact ⟨[], by simp [h], rfl⟩
  | c :: r, acc, ns, h => by
    have hc : ∃ n, c = [.int .u8 n] ∧ u8s r (n :: acc) = some ns := by
      cases c with
      | nil => simp [u8s] at h
      | cons v c2 =>
        cases c2 with
        | cons u c3 => cases v <;> first | (simp [u8s] at h; done) | (rename_i k _; cases k <;> simp [u8s] at h)
        | nil =>
          cases v <;> try (simp [u8s] at h; done)
          rename_i k n
          cases k <;> try (simp [u8s] at h; done)
          exact ⟨n, rfl, by simpa only [u8s] using h⟩
    obtain ⟨n, rfl, h'⟩ := hc
    obtain ⟨xs, h1, h2⟩ := u8s_spec h'
    exact ⟨n :: xs, by simp [h1], by simp [h2]⟩
section
variable {P : Program} [Env P] {tb : List (Nat × TyI)} {o : Oper} {T : List (Nat × AV)} {m : List (Nat × Option Row)} {nx nt : Nat}
theorem run_b2s {src dst e by_ : Nat} {zs : List Value} {z0 z : Value} (G : Good P tb) (hs : look src tb = some (.slice e 1 by_ zs)) (he : look e tb = some (.flat (.int .u8) z0)) (hd : look dst tb = some (.flat .str z)) {w : World} {ns : List Int} {y : Value} (h : ReadsAt w 1 (ns.map fun n => [.int .u8 n]) y) :
    (convert src dst y).run P w = .ok (.string (strOfNums ns)) w := by
  obtain ⟨A, cap, rfl, _, _, hA⟩ := h
  have hs' := (G _ _ hs).1
  have he' : P.underlying e = some (.int .u8) := (G _ _ he).1
  have hd' : P.underlying dst = some .string := (G _ _ hd).1
  cases A with
  | none =>
    have h0 : ns = [] := by
      cases ns with
      | nil => rfl
      | cons n r => obtain ⟨ad, h1, _⟩ := hA (by simp); cases h1
    subst h0
    exact run_convert_bytes_nil w src e hs' he' _ _ dst hd'
  | some ad =>
    have hl : (loadCells ad (ns.map fun n => [Value.int .u8 n]).length).run P w = .ok (ns.map (Value.int .u8)).toArray w := by
      have := run_loadCells_list (P := P) w ad (ns.map (Value.int .u8)) (fun j v hj => by
        have hjl : j < ns.length := by
          rcases Nat.lt_or_ge j ns.length with h | h
          · exact h
          · simp [List.getElem?_eq_none (show (ns.map (Value.int .u8)).length ≤ j by simpa using h)] at hj
        obtain ⟨ad', h1, _, h2⟩ := hA (by simp; omega)
        cases h1
        have := h2 j [.int .u8 ns[j]] (by simp [hjl]) 0 _ rfl
        simp [hjl] at hj
        subst hj
        simpa using this)
      simpa using this
    rw [run_convert_bytes_string w src dst e _ _ cap hs' he' hd', run_bytesToString w _ _ cap ns hl, foldl_push_bytes]
    simp [strOfNums, ByteArray.empty, ByteArray.emptyWithCapacity]
    rfl
theorem q_b2s {src dst e by_ : Nat} {x : Operand} {ax : AV} {zs : List Value} {z0 z : Value} {ys : List (List Value)} {ns : List Int} (G : Good P tb) (ho : o.op = .convert src dst x) (hs : look src tb = some (.slice e 1 by_ zs)) (he : look e tb = some (.flat (.int .u8) z0)) (hd : look dst tb = some (.flat .str z))
    (hx : ev T x = some ax) (hl : toArg1 m ax = some (.lst 1 ys)) (hu : u8s ys [] = some ns) : QStep P o T m nx nt (.v (.string (strOfNums ns))) :=
  QStep.run fun w0 ρ a w hT hC => by
    obtain ⟨xs, h1, h2⟩ := u8s_spec hu
    simp at h1
    subst h1
    refine ⟨.string (strOfNums ns), by simp only [RelV], fun w' hC' => ?_⟩
    have hr := ArgOK.of1 (nx := nx) hl w0 ρ w' _ hC' (hT.ev hx)
    simp only [RelV] at hr
    rw [h2] at hr
    simp [execOp, ho, run_b2s G hs he hd hr]
end
def digB (k : Int) : ByteArray := strOfNums [IntKind.u8.wrap (48 + k % 10)]
def mtF : Nat → Nat → ByteArray → ByteArray
  | 0, _, out => out
  | f + 1, k, out => if k = 0 then out else mtF f (k / 10) (digB (k : Int) ++ out)
theorem mtF_zero {f : Nat} {out : ByteArray} : mtF f 0 out = out := by cases f <;> rfl
theorem mtF_step {f k : Nat} {out : ByteArray} (h : 0 < k) (hf : k ≤ f) : mtF f k out = mtF (f - 1) (k / 10) (digB (k : Int) ++ out) := by
  obtain ⟨g, rfl⟩ : ∃ g, f = g + 1 := ⟨f - 1, by omega⟩
  rw [mtF, if_neg (by omega)]
  rfl
theorem digB_size {k : Int} : (digB k).size = 1 := strOfNums_size _
def strM : ByteArray := ⟨#[109]⟩
def mtT (k : Int) : ByteArray := if k ≤ 0 then ⟨#[109, 48]⟩ else ⟨#[109]⟩ ++ mtF k.toNat k.toNat ⟨#[]⟩
def mkT (k : Int) (j : Nat) : Setting := ⟨k + 6 * j, mtT (k + 6 * j + 1), k + 6 * j + 1 + 1, k + 6 * j + 1 + 1 + 1, k + 6 * j + 1 + 1 + 1 + 1, (k + 6 * j + 1 + 1 + 1 + 1 + 1) % 3 == 0⟩
end Go.Rf
