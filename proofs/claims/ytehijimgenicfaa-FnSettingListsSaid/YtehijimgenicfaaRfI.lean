/- Regions that draw their order and make rows: whatever only reads is taken first; a call or a new row is branched over. -/
import Derived.Test.YtehijimgenicfaaRfH
import Derived.OrdersHeld
set_option linter.unusedVariables false
set_option linter.unusedSectionVars false
set_option linter.unusedSimpArgs false
namespace Go.Rf
open Go Go.RowKit

def nq (K : St → Prop) : Exit → St → Prop
  | .normal, S => K S
  | _, _ => False

/-- the operation yields a value or halts; it enters nothing -/
def pureOp : Op → Bool
  | .load _ _ => true
  | .field _ _ _ => true
  | .fieldAddr _ _ _ => true
  | .index _ _ _ => true
  | .indexAddr _ _ _ => true
  | .move _ => true
  | .assign _ => true
  | .binOp _ _ _ _ _ => true
  | .unOp _ _ _ => true
  | .convert _ _ _ => true
  | .slice _ _ _ _ _ => true
  | .build _ _ => true
  | .extract _ _ => true
  | .pick _ _ _ => true
  | .makeFunc _ _ _ => true
  | .call { callee := .builtin .len, args := _, argTypes := _ } => true
  | .call { callee := .builtin .min, args := _, argTypes := _ } => true
  | .call { callee := .builtin .max, args := _, argTypes := _ } => true
  | _ => false

theorem val_of_bind {P : Program} {x : Sem Value} {w w' : World} {n : Next} (h : (do let v ← x; pure (Next.value v) : Sem Next).run P w = .ok n w') : ∃ v, n = .value v := by
  simp only [Sem.run_bind] at h
  cases hx : x.run P w with
  | ok v w1 => rw [hx] at h; simp at h; exact ⟨v, h.1.symm⟩
  | halt c w1 => rw [hx] at h; simp at h

theorem pure_spec {P : Program} {o : Oper} (hp : pureOp o.op = true) {ρ : Operand → Value} {w w' : World} {n : Next} (h : (execOp ρ o).run P w = .ok n w') : ∃ v, n = .value v := by
  unfold execOp at h
  split at h <;> rename_i he <;> rw [he] at hp <;> first
    | (cases hp; done)
    | exact val_of_bind h
    | (simp at h; exact ⟨_, h.1.symm⟩)
    | skip
  · simp only [Sem.run_bind] at h
    rename_i c x y
    cases hx : (asBool (ρ c)).run P w with
    | ok v w1 => rw [hx] at h; simp at h; exact ⟨_, h.1.symm⟩
    | halt cc w1 => rw [hx] at h; simp at h
  · rename_i c
    obtain ⟨cal, args, ts⟩ := c
    cases cal with
    | value f => cases hp
    | invoke r nm => cases hp
    | builtin b =>
      cases b <;> first
        | (cases hp; done)
        | (simp only [resolve, invoke, builtin, Sem.run_bind, Sem.run_pure, Result.andThen_ok] at h; exact val_of_bind (by simpa only [Sem.run_bind, Sem.run_pure] using h))

section
variable {P : Program} [Env P] {b : Base} {ops : Array Oper} {o : Oper} {T : List (Nat × AV)} {m m0 : List (Nat × Option Row)} {nx nt d i fuel : Nat} {listed : Array Bool} {r : AV} {K : St → Prop}

/-- the class of worlds of a region: the rows that it does not write -/
def Cls (b : Base) (m0 : List (Nat × Option Row)) (w : World) : Prop := RelC b b.r0 m0 b.n0 w

theorem RelC.pinned {ρ : Nat → Value} {w w' : World} (hC : RelC b ρ m nx w) (h : Cls b m0 w') : RelC b ρ m0 nx w' := by
  have hr : ∀ i, i < b.n0 → ρ i = b.r0 i := hC.pin.2
  refine ⟨fun id r hm => ?_, fun id id' r r' hm hm' hne bb hb => ?_, h.below, hC.pin, h.kept.1, h.kept.2.1, fun id r hm bb hb => ?_⟩
  · obtain ⟨h1, h2⟩ := h.rows id r hm
    exact ⟨Nat.lt_of_lt_of_le h1 hC.pin.1, h2.mono hC.pin.1 hr h1⟩
  · have h1 := (h.rows id r hm).1
    have h2 := (h.rows id' r' hm').1
    rw [hr id h1] at hb
    rw [hr id' h2]
    exact h.apart id id' r r' hm hm' hne bb hb
  · rw [hr id (h.rows id r hm).1] at hb
    exact h.kept.2.2 id r hm bb hb

theorem RelC.cls {ρ : Nat → Value} {w : World} {ms : List Nat} (hC : RelC b ρ m nx w) (h : keepM b.n0 m ms [] = some m0) : Cls b m0 w := by
  have hw : WeakM m b.n0 m0 := keepM_spec h trivial
  have hr : ∀ i, i < b.n0 → ρ i = b.r0 i := hC.pin.2
  have h2 : RelC b ρ m0 b.n0 w := (Weak.rel (S := ⟨[], m, nx, 0⟩) (S' := ⟨[], m0, b.n0, 0⟩) ⟨rfl, trivial, hw⟩ (Nat.le_refl _) (ρ := ρ) (a := ⟨#[], []⟩) ⟨fun t x hx => (by cases hx), rfl, rfl⟩ hC).2
  refine ⟨fun id r hm => ?_, fun id id' r r' hm hm' hne bb hb => ?_, h2.below, ⟨Nat.le_refl _, fun _ _ => rfl⟩, h2.kept.1, h2.kept.2.1, fun id r hm bb hb => ?_⟩
  · obtain ⟨g1, g2⟩ := h2.rows id r hm
    exact ⟨g1, g2.mono (Nat.le_refl _) (fun j hj => (hr j hj).symm) g1⟩
  · have g1 := (h2.rows id r hm).1
    have g2 := (h2.rows id' r' hm').1
    rw [← hr id g1] at hb
    rw [← hr id' g2]
    exact h2.apart id id' r r' hm hm' hne bb hb
  · rw [← hr id (h2.rows id r hm).1] at hb
    exact h2.kept.2.2 id r hm bb hb

def WA (P : Program) (b : Base) (ops : Array Oper) (m0 : List (Nat × Option Row)) (fuel : Nat) (listed : Array Bool) (S : St) (K : St → Prop) : Prop :=
  Region.noSelect ops = true → ∀ ρ a w, RelT b.w ρ S.T S.nx S.nt a → RelC b ρ S.m S.nx w → Cls b m0 w → wpAnyH P .any ops (Post b (nq K)) (Cls b m0) fuel listed a w

theorem post_only {e : Exit} {a : Act} {w : World} (h : Post b (nq K) e a w) : e = .normal := by
  obtain ⟨ρ, S, h, _⟩ := h
  cases e <;> first | rfl | exact h.elim

theorem WA_take [EnvAt P b] (i : Nat) (hi : ops[i]? = some o) (hf : Region.free .any ops listed i = true) (hr : (Region.ready .any ops listed).contains i = true) (hp : pureOp o.op = true) (hg : o.guard = none)
    (hd : o.dst = some d) (hlt : Nat.blt d nt = true) (hq : QStep P o T m0 nx nt r) (hk : WA P b ops m0 fuel (listed.setIfInBounds i true) ⟨(d, r) :: T, m, nx, nt⟩ K) : WA P b ops m0 (fuel + 1) listed ⟨T, m, nx, nt⟩ K := by
  intro hs ρ a w hT hC hS
  obtain ⟨y, hy, hq⟩ := hq b ρ a w hT (hC.pinned hS)
  refine wpAnyH_take hi hs hf hr (fun c a w h => absurd (post_only h) (by simp)) (v := y) (.inl ⟨by simp [Region.wanted, hg], fun w' hw' => ?_⟩) hS ?_
  · have h1 := hq w' (hC.pinned hw')
    unfold Oper.quietAt at h1
    generalize hres : (execOp a.eval o).run P w' = res at *
    cases res with
    | ok n w'' =>
      obtain ⟨v, rfl⟩ := pure_spec hp hres
      simp only [Oper.quietUpon] at h1
      rw [h1.1, h1.2]
    | halt x w'' => simp only [Oper.quietUpon] at h1
  · rw [hd]
    exact hk hs ρ _ w (hT.put hlt hy) hC hS

theorem WA_take_run [EnvAt P b] (i : Nat) {j gd : Nat} {want : Bool} (hi : ops[i]? = some o) (hf : Region.free .any ops listed i = true) (hr : (Region.ready .any ops listed).contains i = true) (hp : pureOp o.op = true) (hg : o.guard = some (j, want))
    (hj : (ops[j]?).bind (·.dst) = some gd) (hb : look gd T = some (.v (.bool want)))
    (hd : o.dst = some d) (hlt : Nat.blt d nt = true) (hq : QStep P o T m0 nx nt r) (hk : WA P b ops m0 fuel (listed.setIfInBounds i true) ⟨(d, r) :: T, m, nx, nt⟩ K) : WA P b ops m0 (fuel + 1) listed ⟨T, m, nx, nt⟩ K := by
  intro hs ρ a w hT hC hS
  obtain ⟨y, hy, hq⟩ := hq b ρ a w hT (hC.pinned hS)
  refine wpAnyH_take hi hs hf hr (fun c a w h => absurd (post_only h) (by simp)) (v := y) (.inl ⟨by rw [wanted_of hT hg hj hb]; simp, fun w' hw' => ?_⟩) hS ?_
  · have h1 := hq w' (hC.pinned hw')
    unfold Oper.quietAt at h1
    generalize hres : (execOp a.eval o).run P w' = res at *
    cases res with
    | ok n w'' =>
      obtain ⟨v, rfl⟩ := pure_spec hp hres
      simp only [Oper.quietUpon] at h1
      rw [h1.1, h1.2]
    | halt x w'' => simp only [Oper.quietUpon] at h1
  · rw [hd]
    exact hk hs ρ _ w (hT.put hlt hy) hC hS

theorem WA_skip (i : Nat) {j gd : Nat} {want bb : Bool} (hi : ops[i]? = some o) (hf : Region.free .any ops listed i = true) (hr : (Region.ready .any ops listed).contains i = true) (hg : o.guard = some (j, want))
    (hj : (ops[j]?).bind (·.dst) = some gd) (hb : look gd T = some (.v (.bool bb))) (hne : (bb == want) = false)
    (hd : o.dst = some d) (hlt : Nat.blt d nt = true) (hk : WA P b ops m0 fuel (listed.setIfInBounds i true) ⟨(d, .v undef) :: T, m, nx, nt⟩ K) : WA P b ops m0 (fuel + 1) listed ⟨T, m, nx, nt⟩ K := by
  intro hs ρ a w hT hC hS
  refine wpAnyH_take hi hs hf hr (fun c a w h => absurd (post_only h) (by simp)) (v := undef) (.inr ⟨by rw [wanted_of hT hg hj hb, hne], rfl⟩) hS ?_
  rw [hd]
  exact hk hs ρ _ w (hT.put hlt (by simp [RelV])) hC hS

theorem WA_skip_u (i : Nat) {j gd : Nat} {want : Bool} (hi : ops[i]? = some o) (hf : Region.free .any ops listed i = true) (hr : (Region.ready .any ops listed).contains i = true) (hg : o.guard = some (j, want))
    (hj : (ops[j]?).bind (·.dst) = some gd) (hb : look gd T = some (.v undef))
    (hd : o.dst = some d) (hlt : Nat.blt d nt = true) (hk : WA P b ops m0 fuel (listed.setIfInBounds i true) ⟨(d, .v undef) :: T, m, nx, nt⟩ K) : WA P b ops m0 (fuel + 1) listed ⟨T, m, nx, nt⟩ K := by
  intro hs ρ a w hT hC hS
  refine wpAnyH_take hi hs hf hr (fun c a w h => absurd (post_only h) (by simp)) (v := undef) (.inr ⟨wanted_undef hT hg hj hb, rfl⟩) hS ?_
  rw [hd]
  exact hk hs ρ _ w (hT.put hlt (by simp [RelV])) hC hS

theorem WA_part {S : St} {gd : Nat} {bb : Bool} (hb : look gd S.T = some (.v (.bool bb))) (h1 : bb = true → WA P b ops m0 fuel listed S K) (h2 : bb = false → WA P b ops m0 fuel listed S K) : WA P b ops m0 fuel listed S K := by
  cases bb
  · exact h2 rfl
  · exact h1 rfl

/-- One of those that may come up comes up. -/
def WB (P : Program) (b : Base) (ops : Array Oper) (m0 : List (Nat × Option Row)) (fuel : Nat) (listed : Array Bool) (i : Nat) (S : St) (K : St → Prop) : Prop :=
  Region.noSelect ops = true → ∀ ρ a w, RelT b.w ρ S.T S.nx S.nt a → RelC b ρ S.m S.nx w → Cls b m0 w → wpOp P ops (Post b (nq K)) i (fun a' w' => Cls b m0 w' ∧ wpAnyH P .any ops (Post b (nq K)) (Cls b m0) fuel (listed.setIfInBounds i true) a' w') a w
def AllB (P : Program) (b : Base) (ops : Array Oper) (m0 : List (Nat × Option Row)) (fuel : Nat) (listed : Array Bool) (S : St) (K : St → Prop) : List Nat → Prop
  | [] => True
  | i :: r => WB P b ops m0 fuel listed i S K ∧ AllB P b ops m0 fuel listed S K r
theorem AllB.get {S : St} : ∀ {rs : List Nat}, AllB P b ops m0 fuel listed S K rs → ∀ i ∈ rs, WB P b ops m0 fuel listed i S K
  | [], _, i, hi => by cases hi
  | j :: r, h, i, hi => by
    rcases List.mem_cons.1 hi with rfl | hi
    · exact h.1
    · exact AllB.get h.2 i hi
theorem AllB.nil {S : St} : AllB P b ops m0 fuel listed S K [] := trivial
theorem AllB.cons {S : St} {rs : List Nat} (h : WB P b ops m0 fuel listed i S K) (h' : AllB P b ops m0 fuel listed S K rs) : AllB P b ops m0 fuel listed S K (i :: rs) := ⟨h, h'⟩
theorem WA_branch {S : St} {rs : List Nat} (hr : Region.ready .any ops listed = rs) (hne : rs.isEmpty = false) (h : AllB P b ops m0 fuel listed S K rs) : WA P b ops m0 (fuel + 1) listed S K :=
  fun hs ρ a w hT hC hS => wpAnyH_all hr (by rintro rfl; cases hne) fun i hi => h.get i hi hs ρ a w hT hC hS
theorem WA_end {S : St} (hr : Region.ready .any ops listed = []) (h : K S) : WA P b ops m0 fuel listed S K :=
  fun hs ρ a w hT hC hS => wpAnyH_done hr ⟨ρ, S, h, hT, hC⟩ fuel

theorem wp_nq {K' : St → Prop} {a : Act} {w : World} {n n' : Act → World → Prop} (h : o.wp P a w n (Post b (nq K))) (hn : ∀ a w, n a w → n' a w) : o.wp P a w n' (Post b (nq K')) := by
  unfold Oper.wp at *
  generalize (execOp a.eval o).run P w = r at *
  cases r with
  | ok x w' =>
    cases x <;> simp only [Oper.upon] at h ⊢ <;> first
      | exact hn _ _ h
      | skip
    case enter f args =>
      refine h.mono fun e w'' he => ?_
      cases e with
      | returned u => exact hn _ _ he
      | panicked c => exact absurd (post_only he) (by simp)
      | outgrown => obtain ⟨a, w, he⟩ := he; exact absurd (post_only he) (by simp)
    case row row args => exact Rows.mono h fun u w'' he => hn _ _ he
  | halt x w' =>
    cases x <;> simp only [Oper.upon] at h ⊢
    case panic u => exact absurd (post_only h) (by simp)

theorem WB_run (ms : List Nat) {S : St} (hi : ops[i]? = some o) (hg : o.guard = none)
    (h : WX P b ops o [] S (nq (fun S' => keepM b.n0 S'.m ms [] = some m0 ∧ WA P b ops m0 fuel (listed.setIfInBounds i true) S' K))) : WB P b ops m0 fuel listed i S K := by
  intro hs ρ a w hT hC hS
  unfold wpOp
  simp only [hi]
  rw [if_pos (by simp [Region.wanted, hg])]
  refine .inl (wp_nq (h ρ a w hT hC) ?_)
  rintro a' w' ⟨ρ', S', ⟨h1, h2⟩, hT', hC'⟩
  exact ⟨hC'.cls h1, h2 hs ρ' a' w' hT' hC' (hC'.cls h1)⟩
theorem WB_grun (ms : List Nat) {S : St} {j gd : Nat} {want : Bool} (hi : ops[i]? = some o) (hg : o.guard = some (j, want)) (hj : (ops[j]?).bind (·.dst) = some gd) (hb : look gd S.T = some (.v (.bool want)))
    (h : WX P b ops o [] S (nq (fun S' => keepM b.n0 S'.m ms [] = some m0 ∧ WA P b ops m0 fuel (listed.setIfInBounds i true) S' K))) : WB P b ops m0 fuel listed i S K := by
  intro hs ρ a w hT hC hS
  unfold wpOp
  simp only [hi]
  rw [if_pos (by rw [wanted_of hT hg hj hb]; simp)]
  refine .inl (wp_nq (h ρ a w hT hC) ?_)
  rintro a' w' ⟨ρ', S', ⟨h1, h2⟩, hT', hC'⟩
  exact ⟨hC'.cls h1, h2 hs ρ' a' w' hT' hC' (hC'.cls h1)⟩

theorem W_drawsH {w0 : Base} (n : Nat) (ms : List Nat) {id : Nat} {l : List Oper} {Q : Exit → St → Prop} (hm : P.follows .mixedOrders = true) (hs : Region.noSelect l.toArray = true) (hn : l.toArray.size = n) (hK : keepM nx m ms [] = some m0)
    (h : ∀ r0, WA P ⟨w0.w, nx, r0, w0.ws, w0.keep, w0.kb, w0.E, w0.hE⟩ l.toArray m0 n (Array.replicate n false) ⟨T, m, nx, nt⟩ K) (hq : ∀ S', K S' → Q .normal S') : W P w0 (.region id l.toArray true) ⟨T, m, nx, nt⟩ Q := by
  intro ρ a w hT hC
  refine wp_region_held (S := Cls ⟨w0.w, nx, ρ, w0.ws, w0.keep, w0.kb, w0.E, w0.hE⟩ m0) hm ?_
  have hC1 : RelC ⟨w0.w, nx, ρ, w0.ws, w0.keep, w0.kb, w0.E, w0.hE⟩ ρ m nx w.drew := let h := hC.drew; ⟨h.rows, h.apart, h.below, ⟨Nat.le_refl _, fun _ _ => rfl⟩, h.kept⟩
  subst hn
  have h1 := h ρ hs ρ a w.drew hT hC1 (RelC.cls (ms := ms) hC1 hK)
  refine mono (fun a' w' hp => ?_) _ _ _ _ h1
  obtain ⟨ρ', S', h2, h3, h4⟩ := hp
  exact ⟨ρ', S', hq S' h2, h3, h4.rows, h4.apart, h4.below, ⟨Nat.le_trans hC.pin.1 h4.pin.1, fun i hi => (h4.pin.2 i (Nat.lt_of_lt_of_le hi hC.pin.1)).trans (hC.pin.2 i hi)⟩, h4.kept⟩
where
  mono {b : Base} {S : World → Prop} {Q' : Exit → Act → World → Prop} {ops : Array Oper} {K : St → Prop} (h : ∀ a w, Post b (nq K) .normal a w → Q' .normal a w) : ∀ (fuel : Nat) (listed : Array Bool) (a : Act) (w : World), wpAnyH P .any ops (Post b (nq K)) S fuel listed a w → wpAnyH P .any ops Q' S fuel listed a w
    | 0, _, _, _, hh => ⟨hh.1, h _ _ hh.2⟩
    | fuel + 1, listed, a, w, hh => ⟨fun h0 => h _ _ (hh.1 h0), fun i hi => by
      have h3 := hh.2 i hi
      unfold wpOp at h3 ⊢
      cases ho : ops[i]? with
      | none => simp only [ho] at h3; exact ⟨h3.1, mono h fuel _ _ _ h3.2⟩
      | some o =>
        simp only [ho] at h3 ⊢
        split
        · rename_i hw
          rw [if_pos hw] at h3
          rcases h3 with h3 | ⟨_, a', w', h3⟩
          · refine .inl (wp_any h3 fun a w h4 => ⟨h4.1, mono h fuel _ _ _ h4.2⟩)
          · exact absurd (post_only h3) (by simp)
        · rename_i hw
          rw [if_neg hw] at h3
          exact ⟨h3.1, mono h fuel _ _ _ h3.2⟩⟩
  wp_any {b : Base} {o : Oper} {K : St → Prop} {a : Act} {w : World} {n n' : Act → World → Prop} {Q' : Exit → Act → World → Prop} (h : o.wp P a w n (Post b (nq K))) (hn : ∀ a w, n a w → n' a w) : o.wp P a w n' Q' := by
    unfold Oper.wp at *
    generalize (execOp a.eval o).run P w = r at *
    cases r with
    | ok x w' =>
      cases x <;> simp only [Oper.upon] at h ⊢ <;> first
        | exact hn _ _ h
        | skip
      case enter f args =>
        refine h.mono fun e w'' he => ?_
        cases e with
        | returned u => exact hn _ _ he
        | panicked c => exact absurd (post_only he) (by simp)
        | outgrown => obtain ⟨a, w, he⟩ := he; exact absurd (post_only he) (by simp)
      case row row args => exact Rows.mono h fun u w'' he => hn _ _ he
    | halt x w' =>
      cases x <;> simp only [Oper.upon] at h ⊢
      case panic u => exact absurd (post_only h) (by simp)

/-- where the ways of a region meet: what is kept of each of them -/
def Meet (ts ms : List Nat) (T1 : List (Nat × AV)) (M1 : List (Nat × Option Row)) (nx nt : Nat) (S : St) : Prop :=
  keepO nx S.T ts [] = some T1 ∧ keepM nx S.m ms [] = some M1 ∧ S.nx = nx ∧ S.nt = nt
theorem Meet.mk {ts ms : List Nat} {T1 : List (Nat × AV)} {M1 : List (Nat × Option Row)} {S : St} (h1 : keepO nx S.T ts [] = some T1) (h2 : keepM nx S.m ms [] = some M1) (h3 : S.nx = nx) (h4 : S.nt = nt) : Meet ts ms T1 M1 nx nt S := ⟨h1, h2, h3, h4⟩
theorem Meet.use {w0 : Base} {ts ms : List Nat} {T1 : List (Nat × AV)} {M1 : List (Nat × Option Row)} {S : St} {c : Code} {Q : Exit → St → Prop} (h : Meet ts ms T1 M1 nx nt S) (hk : W P w0 c ⟨T1, M1, nx, nt⟩ Q) : W P w0 c S Q := by
  obtain ⟨h1, h2, h3, h4⟩ := h
  exact W_weak (S' := ⟨T1, M1, nx, nt⟩) ⟨h4.symm, keepO_spec h1 trivial, keepM_spec h2 trivial⟩ h3.symm hk
theorem W_drawsJ {w0 : Base} (ts ms2 : List Nat) (nx2 n : Nat) (ms : List Nat) {id : Nat} {l : List Oper} {y : Code} {Q Q' : Exit → St → Prop} {T1 : List (Nat × AV)} {M1 : List (Nat × Option Row)} (hm : P.follows .mixedOrders = true) (hs : Region.noSelect l.toArray = true) (hn : l.toArray.size = n) (hK : keepM nx m ms [] = some m0)
    (hq : ∀ S', W P w0 y S' Q' → Q .normal S') (h : ∀ r0, WA P ⟨w0.w, nx, r0, w0.ws, w0.keep, w0.kb, w0.E, w0.hE⟩ l.toArray m0 n (Array.replicate n false) ⟨T, m, nx, nt⟩ (Meet ts ms2 T1 M1 nx2 nt)) (h2 : W P w0 y ⟨T1, M1, nx2, nt⟩ Q') : W P w0 (.region id l.toArray true) ⟨T, m, nx, nt⟩ Q :=
  W_drawsH n ms hm hs hn hK h fun S' hS => hq S' (hS.use h2)
end
end Go.Rf
