/- The cursor of the draws, of which only bounds are told. -/
import Derived.Test.YtbepplocdmnchaaW20
import Derived.Test.YtbepplocdmnchaaRfXB
set_option maxRecDepth 20000
set_option linter.unusedVariables false
namespace Go.Proofs.Ytbepplocdmnchaa
open Go Go.Rf
theorem x_pick {x : Cur} {n : Int} (h : okC n x) (hn : n ≤ 1000000000000) (k : Int) : CtrX (α := Int × Cur) Try.prog 79 [.ptr 0 0, .v (.int .i64 k)] [.box [.lst 1 (x.c.map encU), .v (.int .i64 x.a), .v (.int .u64 x.s)]] (fun y => (0 ≤ y.1 ∧ (y.1 < k ∨ (k ≤ 1 ∧ y.1 = 0))) ∧ okC (n + 2) y.2) (fun y => .one (.v (.int .i64 y.1))) (fun y => [some (.box [.lst 1 (y.2.c.map encU), .v (.int .i64 y.2.a), .v (.int .u64 y.2.s)])]) :=
  CtrX.ofM (pkV x k, pkC x k) (c_spec_l1Cur_pick x k (h.big hn) h.1) ⟨pk_in h.1, h.pk _⟩ rfl rfl
theorem x_among {x : Cur} {n : Int} (h : okC n x) (hn : n ≤ 1000000000000) (l : List Int) (lo hi : Int) (hl : 1 ≤ l.length ∧ l.length ≤ 1048576) (hb : ∀ z ∈ l, lo ≤ z ∧ z ≤ hi) : CtrX (α := Int × Cur) Try.prog 78 [.ptr 0 0, .own 1] [.box [.lst 1 (x.c.map encU), .v (.int .i64 x.a), .v (.int .u64 x.s)], .row 3 1 (l.map encI)] (fun y => (lo ≤ y.1 ∧ y.1 ≤ hi) ∧ okC (n + 2) y.2) (fun y => .one (.v (.int .i64 y.1))) (fun y => [some (.box [.lst 1 (y.2.c.map encU), .v (.int .i64 y.2.a), .v (.int .u64 y.2.s)]), some (.row 3 1 (l.map encI))]) :=
  CtrX.ofM (l.getD (pkV x l.length).toNat default, pkC x l.length) (c_spec_l1Cur_among x l hl (h.big hn) h.1) ⟨getD_in hb (by have := pk_in (n := l.length) h.1; omega), h.pk _⟩ rfl rfl
theorem x_amongv {x : Cur} {n : Int} (h : okC n x) (hn : n ≤ 1000000000000) (l : List Int) (hl : 1 ≤ l.length ∧ l.length ≤ 1048576) : CtrX (α := Int × Cur) Try.prog 78 [.ptr 0 0, .own 1] [.box [.lst 1 (x.c.map encU), .v (.int .i64 x.a), .v (.int .u64 x.s)], .row 3 1 (l.map encI)] (fun y => (True) ∧ okC (n + 2) y.2) (fun y => .one (.v (.int .i64 y.1))) (fun y => [some (.box [.lst 1 (y.2.c.map encU), .v (.int .i64 y.2.a), .v (.int .u64 y.2.s)]), some (.row 3 1 (l.map encI))]) :=
  CtrX.ofM (l.getD (pkV x l.length).toNat default, pkC x l.length) (c_spec_l1Cur_among x l hl (h.big hn) h.1) ⟨trivial, h.pk _⟩ rfl rfl
theorem x_amongs {x : Cur} {n : Int} (h : okC n x) (hn : n ≤ 1000000000000) (l : List Int) (lo hi : Int) (k : Nat) (hl : 1 ≤ k ∧ k ≤ l.length ∧ l.length ≤ 1048576) (hb : ∀ z ∈ l, lo ≤ z ∧ z ≤ hi) : CtrX (α := Int × Cur) Try.prog 78 [.ptr 0 0, .sub 1 1 0 k] [.box [.lst 1 (x.c.map encU), .v (.int .i64 x.a), .v (.int .u64 x.s)], .row 3 1 (l.map encI)] (fun y => (lo ≤ y.1 ∧ y.1 ≤ hi) ∧ okC (n + 2) y.2) (fun y => .one (.v (.int .i64 y.1))) (fun y => [some (.box [.lst 1 (y.2.c.map encU), .v (.int .i64 y.2.a), .v (.int .u64 y.2.s)]), some (.row 3 1 (l.map encI))]) :=
  CtrX.ofM (l.getD (pkV x k).toNat default, pkC x k) (c_spec_l1Cur_among_s x l k hl (h.big hn) h.1) ⟨getD_in hb (by have := pk_in (n := k) h.1; omega), h.pk _⟩ rfl rfl
end Go.Proofs.Ytbepplocdmnchaa
