/- The join: the contract of FnRefinement, lifted to its statement. -/
import Derived.Test.YtcnodpipinlpcaaGreatPFnRefinementK
import Derived.Test.YtcnodpipinlpcaaGreatRows
import Derived.WalkKit
import Derived.ProofKit
import Derived.OpenShut
import Derived.ShutString
import Derived.ChangeOld
import Derived.Below
import Derived.Carry
namespace Go.Proofs.YtcnodpipinlpcaaGreat.fnRefinementDone
open Go Go.ChangeShapes Go.WideShapes Go.ChangeAt Go.RowKit Go.Rf
open Go.ChangeMaps (open_string shut_string)
set_option linter.unusedVariables false
theorem own:ownKnob Tryz.prog.godebug=Option.none:=by kernel_rfl
theorem laidOut:laidOutB Tryz.prog=true:=by kernel_rfl
set_option maxRecDepth 100000 in
theorem lifted (os:Os) (started:os.Started) (H:Type) (enc:TypeId×Value→H) :
 ReturnsInHanded {} Tryz.checked os 7 .any (Rows.fnRefinementSpec.pre6 enc Tryz.prog Tryz.f7 Rows.fnRefinementRow.domain false) (Rows.fnRefinementSpec.post enc Tryz.prog Tryz.f7 false true false false):=by
 refine returnsInHanded_of_change (C:=Tryz.checked) own started X Tryz.func7
  (ChangeSpec.witness6 (enc:=enc) (C:=Tryz.checked) false ⟨#[],#[.slice none 0 0],[]⟩ 8 X X X X) ?_
 intro W base args ds gs before hval0 hW hcnd _
 have hval:∀(j:Nat) t v,Tryz.f7.params[j]?=some t→args[j]?=some v→Value.okWide Tryz.prog W .any base t v:=hval0
 have hW':=hW
 obtain ⟨p,q,hA0,hV,rfl,hfz,hnd⟩:=hW
 have hA:DataW.TrodAll enc Tryz.prog W 0 (λ_=>true) true Tryz.f7.params.toList args.toList ds p:=hA0
 rw [Tryz.params7] at hA hval
 obtain ⟨v0,vs0,d0,ds0,p0,q0,hargs,rfl,rfl,h0,r0⟩:=trodAll_cons hA
 obtain ⟨rfl,rfl,rfl⟩:=trodAll_nil r0
 obtain rfl:args=#[v0]:=by cases args;simp_all
 obtain ⟨rfl,rfl⟩:=trodVars_none hV
 have k0:=h0
 have lt0:∀x∈p0,x.block < W.heap.size:=by obtain ⟨m,hm⟩:=k0;exact DataW.trod_lt m _ _ _ hm
 obtain ⟨ys0,q0,m0,o0⟩:=b0u (E:=.one (.int .u8)) Tryz.underlying22 ⟨by kernel_rfl,by kernel_rfl⟩ (by decide) (okWide_slice Tryz.underlying22 (hval 0 22 v0 Z Z)) h0
 obtain ⟨a0,rfl,z0⟩:=b0v c2y _ o0
 clear hA0 hval0
 refine ((a3Q a0 (by simpa [maxLen] using m0) (c0T z0)).true trivial (b3P q0 b3O)).mono λe W' ⟨he,bel⟩=>?_
 subst he
 exact ⟨_,Z,_,_,_,[],_,[],hW',trodAll_mk1 (shut_bool Tryz.underlying4 _),(trodAll_cons_mk (Below.trod laidOut X (of_decide_eq_true X) k0 bel lt0) trodAll_mk0),Z,bel.frame _,λh=>by cases h⟩
theorem over:Rows.fnRefinementRow.holds Tryz.pinned (OpenSpec.ofChange Rows.fnRefinementSpec) :=
 OpenClaim.holds_of_wide 7 Tryz.f7 Z Z Z Z Z Z Z ⟨Z,Z,Z,Z,Z⟩ Z Z Z Z Z X Tryz.func7 X
  (of_decide_eq_true X) (by unfold Func.isWrapper;first | (rw [if_pos (by decide +kernel)];kernel_rfl) | (rw [if_neg (by decide +kernel)];exact ⟨Z,Z⟩))
  (λos started H enc _=>lifted os started H enc)
theorem proved:Rows.FnRefinementSaid:=over
#print axioms proved
end Go.Proofs.YtcnodpipinlpcaaGreat.fnRefinementDone
