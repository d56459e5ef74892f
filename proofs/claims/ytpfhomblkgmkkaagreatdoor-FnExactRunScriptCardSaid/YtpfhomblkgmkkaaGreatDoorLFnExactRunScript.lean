/- The join: the contract of FnExactRunScript, lifted to its statement. -/
import Derived.Test.YtpfhomblkgmkkaaGreatDoorPFnExactRunScriptJ
import Derived.Test.YtpfhomblkgmkkaaGreatDoorRows
import Derived.Test.YtpfhomblkgmkkaaGreatDoorCards
import Derived.Test.YtpfhomblkgmkkaaGreatDoorTie
import Derived.SevenTiedAt
import Derived.WalkKit
import Derived.ProofKit
import Derived.OpenShut
import Derived.ShutString
import Derived.ChangeOld
import Derived.Below
import Derived.Carry
namespace Go.Proofs.YtpfhomblkgmkkaaGreatDoor.fnExactRunScriptDone
open Go Go.ChangeShapes Go.WideShapes Go.ChangeAt Go.RowKit Go.Rf
open Go.ChangeMaps (open_string shut_string)
set_option linter.unusedVariables false
theorem cells30:Tryz.prog.cellsOf 30=7:=by kernel_rfl
theorem cells26:Tryz.prog.cellsOf 26=4:=by kernel_rfl
theorem cells28:Tryz.prog.cellsOf 28=3:=by kernel_rfl
theorem ifty:∃a b c d,IfTy Tryz.prog 129 93 127 124 125 260 262 a b c d:=⟨_,_,_,_,Tryz.underlying129,Z,by kernel_rfl,by kernel_rfl,by kernel_rfl,by kernel_rfl,Tryz.underlying93,Tryz.underlying127,by kernel_rfl,Z,Tryz.underlying124,Tryz.underlying125,⟨by kernel_rfl,by kernel_rfl⟩,⟨Tryz.underlying260,by kernel_rfl,by kernel_rfl,by kernel_rfl⟩,⟨Tryz.underlying262,by kernel_rfl,by kernel_rfl,by kernel_rfl⟩,Z,Z⟩
set_option maxRecDepth 100000 in
theorem lifted (os:Os) (started:os.Started) (H:Type) (enc:TypeId×Value→H) :
 ReturnsInHanded {} Tryz.checked os 4 .any (λw args=>(Rows.fnExactRunScriptSpec.pre enc Tryz.prog Tryz.f4 Rows.fnExactRunScriptRow.domain false w args/\laidMet Tryz.prog Rows.fnExactRunScriptRow.laid w)/\sizedMet enc Tryz.prog Tryz.f4 (OpenSpec.ofChange Rows.fnExactRunScriptSpec) false w args)
  (Rows.fnExactRunScriptSpec.post enc Tryz.prog Tryz.f4 false true false false):=by
 refine a3K (C:=Tryz.checked) (X:=λw _=>laidMet Tryz.prog Rows.fnExactRunScriptRow.laid w) (λ_ _ _ hh h=>h.of_heap hh) own started Y Tryz.func4
  (ChangeSpec.witness_at (enc:=enc) (C:=Tryz.checked) (os:=os) (X:=λw _=>laidMet Tryz.prog Rows.fnExactRunScriptRow.laid w) false (b1H os) #[.agg #[.slice none 0 0,.slice none 0 0,.slice none 0 0,.slice none 0 0,.string ⟨#[]⟩,.string ⟨#[]⟩,.int .i64 0],.string ⟨#[]⟩] 8 Z Y Y Y Y Y (b9Y os _)) ?_
 intro W base args ds gs before hval0 hW hsh hL
 have hval:∀(j:Nat) t v,Tryz.f4.params[j]?=some t→args[j]?=some v→Value.okWide Tryz.prog W .any base t v:=hval0
 have hW':=hW
 obtain ⟨p,q,hA0,hV,rfl,hfz,hnd⟩:=hW
 have hA:DataW.TrodAll enc Tryz.prog W 0 (λ_=>true) true Tryz.f4.params.toList args.toList ds p:=hA0
 rw [Tryz.params4] at hA hval
 obtain ⟨v0,vs0,d0,ds0,p0,q0,hargs,rfl,rfl,h0,r0⟩:=trodAll_cons hA
 obtain ⟨v1,vs1,d1,ds1,p1,q1,rfl,rfl,rfl,h1,r1⟩:=trodAll_cons r0
 obtain ⟨rfl,rfl,rfl⟩:=trodAll_nil r1
 obtain rfl:args=#[v0,v1]:=by cases args;simp_all
 obtain ⟨rfl,rfl⟩:=trodVars_none hV
 have k0:=h0
 have lt0:∀x∈p0,x.block < W.heap.size:=by obtain ⟨m,hm⟩:=k0;exact DataW.trod_lt m _ _ _ hm
 obtain ⟨_,_,_,_,hK0⟩:=ifty
 obtain ⟨a0,y0,RA0,z0,zl0⟩:=b4N 169 182 (eB:=4) Tryz.underlying30 Z cells30 cells26 cells28 Tryz.underlying26 Y cells26 Z Tryz.underlying22 Tryz.underlying23 Tryz.underlying24 ⟨by kernel_rfl,by kernel_rfl⟩ ⟨Tryz.underlying85,by kernel_rfl,by kernel_rfl,by kernel_rfl⟩ Z hK0 ⟨Tryz.underlying28,by kernel_rfl,by kernel_rfl,by kernel_rfl⟩ (hval 0 30 v0 Z Z) h0
 have k1:=h1
 have lt1:∀x∈p1,x.block < W.heap.size:=by obtain ⟨m,hm⟩:=k1;exact DataW.trod_lt m _ _ _ hm
 obtain ⟨a1,rfl,-,-,w1⟩:=open_string Tryz.underlying9 (hval 1 9 v1 Z Z) h1
 clear hA0 hval0
 refine ((a1W a0 y0 a1 (by simpa [maxLen] using w1) z0 zl0).true (c6i hL hsh) (c00 RA0 (b95 b6m))).mono λe W' ⟨he,bel⟩=>?_
 subst he
 exact ⟨_,Z,_,_,_,[],_,[],hW',trodAll_mk1 (shut_bool Tryz.underlying4 _),(trodAll_cons_mk (Below.trod b6a Y (of_decide_eq_true Y) k0 bel lt0) (trodAll_cons_mk (Below.trod b6a Y (of_decide_eq_true Y) k1 bel lt1) trodAll_mk0)),Z,bel.frame _,λh=>by cases h⟩
theorem and_t {a b:Bool} (h:a=true) (g:b=true):(a && b)=true:=by subst h;subst g;rfl
theorem jf0:(Rows.fnExactRunScriptRow.wf (OpenSpec.ofChange Rows.fnExactRunScriptSpec))=true:=by kernel_rfl
theorem jf1:(laidOutB Tryz.prog)=true:=by kernel_rfl
theorem jf2:(mapsRowed Tryz.prog)=true:=by kernel_rfl
theorem jf3:(Tryz.f4.params.all (Tryz.prog.readableRec ·))=true:=by kernel_rfl
theorem jf4:(namedTie Tryz.prog Rows.fnExactRunScriptRow.named Rows.fnExactRunScriptSpec.vars)=true:=by kernel_rfl
theorem jf5:((Rows.fnExactRunScriptRow.stops==[]))=true:=by kernel_rfl
theorem jf6:((Tryz.prog.stops==[]))=true:=by kernel_rfl
theorem jf7:((Rows.fnExactRunScriptRow.knobs==[]))=true:=by kernel_rfl
theorem jf8:((Tryz.prog.stopKnobs==[]))=true:=by kernel_rfl
theorem jf9:((Rows.fnExactRunScriptRow.inPlace==Tryz.prog.inPlace 4))=true:=by kernel_rfl
theorem jf10:((Rows.fnExactRunScriptRow.unfollowed==Tryz.prog.unfollowed 4))=true:=by kernel_rfl
theorem jf11:((Rows.fnExactRunScriptRow.recurses==Tryz.prog.recurses 4))=true:=by kernel_rfl
theorem jf12:((Rows.fnExactRunScriptRow.named==Tryz.prog.varsNamed 4))=true:=by kernel_rfl
theorem jf13:((Rows.fnExactRunScriptRow.maps==(Tryz.f4.params.toList++Rows.fnExactRunScriptSpec.plain.varTypes Tryz.prog).any (Tryz.prog.mapsRec ·)))=true:=by kernel_rfl
theorem jf14:((Rows.fnExactRunScriptRow.ifaces==(Tryz.f4.params.toList++Rows.fnExactRunScriptSpec.plain.varTypes Tryz.prog).any (Tryz.prog.ifacesRec ·)))=true:=by kernel_rfl
theorem jf15:((Rows.fnExactRunScriptRow.mapsOut==Tryz.prog.mapsAmong Tryz.f4.resultTypes.toList))=true:=by kernel_rfl
theorem jf16:((Rows.fnExactRunScriptRow.loops==(Tryz.f4.params.toList++Rows.fnExactRunScriptSpec.plain.varTypes Tryz.prog).any (Tryz.prog.loopsFrom ·)))=true:=by kernel_rfl
theorem jf17:((Rows.fnExactRunScriptRow.wideKeys==(Tryz.f4.params.toList++Rows.fnExactRunScriptSpec.plain.varTypes Tryz.prog++Tryz.f4.resultTypes.toList).any (Tryz.prog.wideKeysFrom ·)))=true:=by kernel_rfl
theorem jf18:(Rows.fnExactRunScriptSpec.vars.all (Tryz.prog.varReadable ·))=true:=by kernel_rfl
theorem jf19:(Tryz.f4.resultTypes.all (λt=>Tryz.prog.readableRec t && decide (t < Tryz.prog.types.size)))=true:=by kernel_rfl
theorem jf20:((Rows.fnExactRunScriptRow.ifacesOut==Tryz.f4.resultTypes.toList.any (Tryz.prog.ifacesRec ·)))=true:=by kernel_rfl
theorem jf21:((Rows.fnExactRunScriptRow.loopsOut==Tryz.f4.resultTypes.toList.any (Tryz.prog.loopsFrom ·)))=true:=by kernel_rfl
theorem jf22:((Rows.fnExactRunScriptRow.plainKeys==Tryz.prog.plainKeys))=true:=by kernel_rfl
theorem jf23:(Rows.fnExactRunScriptRow.shortTexts.isNone)=true:=by kernel_rfl
theorem jf24:(Tryz.prog.stopsHeard)=true:=by kernel_rfl
theorem jf25:(Tryz.prog.mayEnter)=true:=by kernel_rfl
theorem jf26:((Rows.fnExactRunScriptRow.lifted==Tryz.prog.liftsFinal))=true:=by kernel_rfl
theorem jf27:((Tryz.prog.make==some Rows.fnExactRunScriptRow.make))=true:=by kernel_rfl
theorem jf28:((Rows.fnExactRunScriptRow.kinds==(if Rows.fnExactRunScriptRow.domain.isEmpty then [] else Tryz.f4.params.toList.map λt=>match Tryz.prog.underlying t with | some (.int k)=>some k | _=>none)))=true:=by kernel_rfl
theorem jf29:((Rows.fnExactRunScriptRow.pinned==Rows.fnExactRunScriptRow.pinnedBy))=true:=by kernel_rfl
theorem jf30:((Rows.fnExactRunScriptRow.veiled==(Tryz.f4.params.toList++Rows.fnExactRunScriptSpec.plain.varTypes Tryz.prog++Tryz.f4.resultTypes.toList).any (Tryz.prog.veiledRec ·)))=true:=by kernel_rfl
theorem jf31:(Rows.fnExactRunScriptRow.veiledFits Tryz.prog Tryz.f4.params.toList (Tryz.f4.params.toList++Rows.fnExactRunScriptSpec.plain.varTypes Tryz.prog++Tryz.f4.resultTypes.toList))=true:=by kernel_rfl
set_option maxRecDepth 20000 in
theorem closed:joinedFacts Tryz.prog 4 Tryz.f4 Rows.fnExactRunScriptSpec Rows.fnExactRunScriptRow=true:=by
 unfold joinedFacts
 exact (and_t (and_t (and_t (and_t (and_t (and_t (and_t (and_t (and_t (and_t (and_t (and_t (and_t (and_t (and_t (and_t (and_t (and_t (and_t (and_t (and_t (and_t (and_t (and_t (and_t (and_t (and_t (and_t (and_t (and_t (and_t jf0 jf1) jf2) jf3) jf4) jf5) jf6) jf7) jf8) jf9) jf10) jf11) jf12) jf13) jf14) jf15) jf16) jf17) jf18) jf19) jf20) jf21) jf22) jf23) jf24) jf25) jf26) jf27) jf28) jf29) jf30) jf31)
theorem over:Rows.fnExactRunScriptRow.holds Tryz.pinned (OpenSpec.ofChange Rows.fnExactRunScriptSpec) :=
 OpenClaim.holds_of_wide 4 Tryz.f4 Z Z Z Z Z Z Z ⟨Z,Z,Z,Z,Z⟩ Z Z Z Z Z Y Tryz.func4 closed
  (of_decide_eq_true Y) (by unfold Func.isWrapper;first | (rw [if_pos (by decide +kernel)];kernel_rfl) | (rw [if_neg (by decide +kernel)];exact ⟨Z,Z⟩))
  (λos started H enc _=>lifted os started H enc)
theorem card:Claim7.holds Tryz.pinned (.plain (OpenSpec.ofChange Rows.fnExactRunScriptSpec)) Rows.fnExactRunScriptCard :=
 Claim7.holds_tied_plain_at .later [] [.data,.data,.data,.data,.sentinel,.sentinel,.pinned] true (true, "3f97e07460e990868cf3fb1504972fd756cfd7993a50ed654733ac82f971ea2a") true
  over (λ_ h=>by cases h) Y (λ_ h=>by cases h) fnExactRunScript_row_tie Z ⟨Z,Z⟩ Y Z
  (λf fn hf hfn=>by
   obtain rfl:f=4:=Option.some.inj ((show Tryz.prog.funcNamed Rows.fnExactRunScriptRow.func=some 4 by kernel_rfl).symm.trans hf) |>.symm
   obtain rfl:fn=Tryz.f4:=(Option.some.inj (Tryz.func4.symm.trans hfn)).symm
   exact ⟨by kernel_rfl,λj t ht=>by
    rw [Tryz.params4] at ht
    have hm:=Array.mem_of_getElem? ht
    have hp:t=30∨t=9:=by simpa using hm
    rcases hp with rfl | rfl
    ·exact (show Tryz.prog.wantsStandIn 30=false by kernel_rfl)
    ·exact (show Tryz.prog.wantsStandIn 9=false by kernel_rfl)⟩)
  Y
theorem proved:Rows.FnExactRunScriptCardSaid:=card
#print axioms proved
end Go.Proofs.YtpfhomblkgmkkaaGreatDoor.fnExactRunScriptDone
