/- The join: the contract of FnScript, lifted to its statement. -/
import Derived.Test.YtdhckhjphmjniaaGreatDoorPFnScriptK
import Derived.Test.YtdhckhjphmjniaaGreatDoorRows
import Derived.Test.YtdhckhjphmjniaaGreatDoorCards
import Derived.Test.YtdhckhjphmjniaaGreatDoorTie
import Derived.SevenTiedAt
import Derived.WalkKit
import Derived.ProofKit
import Derived.OpenShut
import Derived.ShutString
import Derived.ChangeOld
import Derived.Below
import Derived.Carry
set_option linter.unusedVariables false
namespace Go.Proofs.YtdhckhjphmjniaaGreatDoor.fnScriptDone
open Go Go.ChangeShapes Go.WideShapes Go.ChangeAt Go.RowKit Go.Rf
open Go.ChangeMaps (open_string shut_string)
set_option maxRecDepth 100000 in
theorem lifted (os:Os) (started:os.Started) (H:Type) (enc:TypeId×Value→H) :
 ReturnsInHanded {} Tryz.checked os 3 .any (λw args=>(Rows.fnScriptSpec.pre enc Tryz.prog Tryz.f3 Rows.fnScriptRow.domain false w args/\laidMet Tryz.prog Rows.fnScriptRow.laid w)/\sizedMet enc Tryz.prog Tryz.f3 (OpenSpec.ofChange Rows.fnScriptSpec) false w args)
  (Rows.fnScriptSpec.post enc Tryz.prog Tryz.f3 false true false false):=by
 refine a4S (C:=Tryz.checked) (X:=λw _=>laidMet Tryz.prog Rows.fnScriptRow.laid w) (λ_ _ _ hh h=>h.of_heap hh) own started Y Tryz.func3
  (ChangeSpec.witness_at (enc:=enc) (C:=Tryz.checked) (os:=os) (X:=λw _=>laidMet Tryz.prog Rows.fnScriptRow.laid w) false (b2d os) #[.slice none 0 0] 8 Z Y Y Y Y Y (c0x os _)) ?_
 intro W base args ds gs before hval0 hW hsh hL
 have hval:∀(j:Nat) t v,Tryz.f3.params[j]?=some t→args[j]?=some v→Value.okWide Tryz.prog W .any base t v:=hval0
 have hW':=hW
 obtain ⟨p,q,hA0,hV,rfl,hfz,hnd⟩:=hW
 have hA:DataW.TrodAll enc Tryz.prog W 0 (λ_=>true) true Tryz.f3.params.toList args.toList ds p:=hA0
 rw [Tryz.params3] at hA hval
 obtain ⟨v0,vs0,d0,ds0,p0,q0,hargs,rfl,rfl,h0,r0⟩:=trodAll_cons hA
 obtain ⟨rfl,rfl,rfl⟩:=trodAll_nil r0
 obtain rfl:args=#[v0]:=by cases args;simp_all
 obtain ⟨rfl,rfl⟩:=trodVars_none hV
 have k0:=h0
 have lt0:∀x∈p0,x.block < W.heap.size:=by obtain ⟨m,hm⟩:=k0;exact DataW.trod_lt m _ _ _ hm
 obtain ⟨ys0,q0,m0,o0⟩:=b3w (E:=.one (.int .u8)) Tryz.underlying22 ⟨by kernel_rfl,by kernel_rfl⟩ (by decide) (okWide_slice Tryz.underlying22 (hval 0 22 v0 Z Z)) h0
 obtain ⟨a0,rfl,z0⟩:=b3x c7g _ o0
 clear hA0 hval0
 refine ((a9r a0 (by simpa [maxLen] using m0) (c4T z0)).true (c65 hL hsh) (b61 q0 b60)).mono λe W' ⟨he,bel⟩=>?_
 subst he
 exact ⟨_,Z,_,_,_,[],_,[],hW',trodAll_mk1 (shut_bool Tryz.underlying4 _),(trodAll_cons_mk (Below.trod c2d Y (of_decide_eq_true Y) k0 bel lt0) trodAll_mk0),Z,bel.frame _,λh=>by cases h⟩
theorem and_t {a b:Bool} (h:a=true) (g:b=true):(a && b)=true:=by subst h;subst g;rfl
theorem jf0:(Rows.fnScriptRow.wf (OpenSpec.ofChange Rows.fnScriptSpec))=true:=by kernel_rfl
theorem jf1:(laidOutB Tryz.prog)=true:=by kernel_rfl
theorem jf2:(mapsRowed Tryz.prog)=true:=by kernel_rfl
theorem jf3:(Tryz.f3.params.all (Tryz.prog.readableRec ·))=true:=by kernel_rfl
theorem jf4:(namedTie Tryz.prog Rows.fnScriptRow.named Rows.fnScriptSpec.vars)=true:=by kernel_rfl
theorem jf5:((Rows.fnScriptRow.stops==[]))=true:=by kernel_rfl
theorem jf6:((Tryz.prog.stops==[]))=true:=by kernel_rfl
theorem jf7:((Rows.fnScriptRow.knobs==[]))=true:=by kernel_rfl
theorem jf8:((Tryz.prog.stopKnobs==[]))=true:=by kernel_rfl
theorem jf9:((Rows.fnScriptRow.inPlace==Tryz.prog.inPlace 3))=true:=by kernel_rfl
theorem jf10:((Rows.fnScriptRow.unfollowed==Tryz.prog.unfollowed 3))=true:=by kernel_rfl
theorem jf11:((Rows.fnScriptRow.recurses==Tryz.prog.recurses 3))=true:=by kernel_rfl
theorem jf12:((Rows.fnScriptRow.named==Tryz.prog.varsNamed 3))=true:=by kernel_rfl
theorem jf13:((Rows.fnScriptRow.maps==(Tryz.f3.params.toList++Rows.fnScriptSpec.plain.varTypes Tryz.prog).any (Tryz.prog.mapsRec ·)))=true:=by kernel_rfl
theorem jf14:((Rows.fnScriptRow.ifaces==(Tryz.f3.params.toList++Rows.fnScriptSpec.plain.varTypes Tryz.prog).any (Tryz.prog.ifacesRec ·)))=true:=by kernel_rfl
theorem jf15:((Rows.fnScriptRow.mapsOut==Tryz.prog.mapsAmong Tryz.f3.resultTypes.toList))=true:=by kernel_rfl
theorem jf16:((Rows.fnScriptRow.loops==(Tryz.f3.params.toList++Rows.fnScriptSpec.plain.varTypes Tryz.prog).any (Tryz.prog.loopsFrom ·)))=true:=by kernel_rfl
theorem jf17:((Rows.fnScriptRow.wideKeys==(Tryz.f3.params.toList++Rows.fnScriptSpec.plain.varTypes Tryz.prog++Tryz.f3.resultTypes.toList).any (Tryz.prog.wideKeysFrom ·)))=true:=by kernel_rfl
theorem jf18:(Rows.fnScriptSpec.vars.all (Tryz.prog.varReadable ·))=true:=by kernel_rfl
theorem jf19:(Tryz.f3.resultTypes.all (λt=>Tryz.prog.readableRec t && decide (t < Tryz.prog.types.size)))=true:=by kernel_rfl
theorem jf20:((Rows.fnScriptRow.ifacesOut==Tryz.f3.resultTypes.toList.any (Tryz.prog.ifacesRec ·)))=true:=by kernel_rfl
theorem jf21:((Rows.fnScriptRow.loopsOut==Tryz.f3.resultTypes.toList.any (Tryz.prog.loopsFrom ·)))=true:=by kernel_rfl
theorem jf22:((Rows.fnScriptRow.plainKeys==Tryz.prog.plainKeys))=true:=by kernel_rfl
theorem jf23:(Rows.fnScriptRow.shortTexts.isNone)=true:=by kernel_rfl
theorem jf24:(Tryz.prog.stopsHeard)=true:=by kernel_rfl
theorem jf25:(Tryz.prog.mayEnter)=true:=by kernel_rfl
theorem jf26:((Rows.fnScriptRow.lifted==Tryz.prog.liftsFinal))=true:=by kernel_rfl
theorem jf27:((Tryz.prog.make==some Rows.fnScriptRow.make))=true:=by kernel_rfl
theorem jf28:((Rows.fnScriptRow.kinds==(if Rows.fnScriptRow.domain.isEmpty then [] else Tryz.f3.params.toList.map λt=>match Tryz.prog.underlying t with | some (.int k)=>some k | _=>none)))=true:=by kernel_rfl
theorem jf29:((Rows.fnScriptRow.pinned==Rows.fnScriptRow.pinnedBy))=true:=by kernel_rfl
theorem jf30:((Rows.fnScriptRow.veiled==(Tryz.f3.params.toList++Rows.fnScriptSpec.plain.varTypes Tryz.prog++Tryz.f3.resultTypes.toList).any (Tryz.prog.veiledRec ·)))=true:=by kernel_rfl
theorem jf31:(Rows.fnScriptRow.veiledFits Tryz.prog Tryz.f3.params.toList (Tryz.f3.params.toList++Rows.fnScriptSpec.plain.varTypes Tryz.prog++Tryz.f3.resultTypes.toList))=true:=by kernel_rfl
set_option maxRecDepth 20000 in
theorem closed:joinedFacts Tryz.prog 3 Tryz.f3 Rows.fnScriptSpec Rows.fnScriptRow=true:=by
 unfold joinedFacts
 exact (and_t (and_t (and_t (and_t (and_t (and_t (and_t (and_t (and_t (and_t (and_t (and_t (and_t (and_t (and_t (and_t (and_t (and_t (and_t (and_t (and_t (and_t (and_t (and_t (and_t (and_t (and_t (and_t (and_t (and_t (and_t jf0 jf1) jf2) jf3) jf4) jf5) jf6) jf7) jf8) jf9) jf10) jf11) jf12) jf13) jf14) jf15) jf16) jf17) jf18) jf19) jf20) jf21) jf22) jf23) jf24) jf25) jf26) jf27) jf28) jf29) jf30) jf31)
theorem over:Rows.fnScriptRow.holds Tryz.pinned (OpenSpec.ofChange Rows.fnScriptSpec) :=
 OpenClaim.holds_of_wide 3 Tryz.f3 Z Z Z Z Z Z Z ⟨Z,Z,Z,Z,Z⟩ Z Z Z Z Z Y Tryz.func3 closed
  (of_decide_eq_true Y) (by unfold Func.isWrapper;first | (rw [if_pos (by decide +kernel)];kernel_rfl) | (rw [if_neg (by decide +kernel)];exact ⟨Z,Z⟩))
  (λos started H enc _=>lifted os started H enc)
theorem card:Claim7.holds Tryz.pinned (.plain (OpenSpec.ofChange Rows.fnScriptSpec)) Rows.fnScriptCard :=
 Claim7.holds_tied_plain_at .later [] [.data,.data,.data,.data,.sentinel,.sentinel,.pinned] true (true, "a50e63e502019ed74fbd8fb097c7dd9b449a3a7a0ad556ec5265ba7c8628d36a") true
  over (λ_ h=>by cases h) Y (λ_ h=>by cases h) fnScript_row_tie Z ⟨Z,Z⟩ Y Z
  (λf fn hf hfn=>by
   obtain rfl:f=3:=Option.some.inj ((show Tryz.prog.funcNamed Rows.fnScriptRow.func=some 3 by kernel_rfl).symm.trans hf) |>.symm
   obtain rfl:fn=Tryz.f3:=(Option.some.inj (Tryz.func3.symm.trans hfn)).symm
   exact ⟨by kernel_rfl,λj t ht=>by
    rw [Tryz.params3] at ht
    have hm:=Array.mem_of_getElem? ht
    have hp:t=22:=by simpa using hm
    rcases hp with rfl
    ·exact (show Tryz.prog.wantsStandIn 22=false by kernel_rfl)⟩)
  Y
theorem proved:Rows.FnScriptCardSaid:=card
#print axioms proved
end Go.Proofs.YtdhckhjphmjniaaGreatDoor.fnScriptDone
