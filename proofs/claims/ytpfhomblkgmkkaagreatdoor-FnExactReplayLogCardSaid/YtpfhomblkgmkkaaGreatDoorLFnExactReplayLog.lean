/- The join: the contract of FnExactReplayLog, lifted to its statement. -/
import Derived.Test.YtpfhomblkgmkkaaGreatDoorPFnExactReplayLogJ
import Derived.Test.YtpfhomblkgmkkaaGreatDoorRows
import Derived.Test.YtpfhomblkgmkkaaGreatDoorCards
import Derived.Test.YtpfhomblkgmkkaaGreatDoorTie
import Derived.SevenTiedAt
import Derived.WalkKit
import Derived.ProofKit
import Derived.OpenShut
import Derived.ShutString
import Derived.ChangeOld
import Derived.Below
import Derived.Carry
namespace Go.Proofs.YtpfhomblkgmkkaaGreatDoor.fnExactReplayLogDone
open Go Go.ChangeShapes Go.WideShapes Go.ChangeAt Go.RowKit Go.Rf
open Go.ChangeMaps (open_string shut_string)
set_option linter.unusedVariables false
theorem cells85:Tryz.prog.cellsOf 85=2:=by kernel_rfl
theorem of_Route:∀ c,CellsOK [.int .i64,.int .i64] c→∃ x:Route,c=p8 x:=by
 intro c h
 simp only [CellsOK,CellOK] at h
 obtain ⟨_,r0,rfl,⟨n0,rfl,_⟩,h⟩:=h
 obtain ⟨_,r1,rfl,⟨n1,rfl,_⟩,h⟩:=h
 subst h
 exact ⟨⟨n0,n1⟩,rfl⟩
theorem cells28:Tryz.prog.cellsOf 28=3:=by kernel_rfl
theorem of_Lg:∀ c,CellsOK [.str,.str,.int .i64] c→∃ x:Lg,c=c0i x∧x.d.size≤9223372036854775807∧x.p.size≤9223372036854775807:=by
 intro c h
 simp only [CellsOK,CellOK] at h
 obtain ⟨_,r0,rfl,⟨n0,rfl,z0⟩,h⟩:=h
 obtain ⟨_,r1,rfl,⟨n1,rfl,z1⟩,h⟩:=h
 obtain ⟨_,r2,rfl,⟨n2,rfl,_⟩,h⟩:=h
 subst h
 exact ⟨⟨n0,n1,n2⟩,rfl,(by simpa [maxLen] using z0),(by simpa [maxLen] using z1)⟩
set_option maxRecDepth 100000 in
theorem lifted (os:Os) (started:os.Started) (H:Type) (enc:TypeId×Value→H) :
 ReturnsInHanded {} Tryz.checked os 5 .any (fun w args=>(Rows.fnExactReplayLogSpec.pre enc Tryz.prog Tryz.f5 Rows.fnExactReplayLogRow.domain false w args∧laidMet Tryz.prog Rows.fnExactReplayLogRow.laid w)∧sizedMet enc Tryz.prog Tryz.f5 (OpenSpec.ofChange Rows.fnExactReplayLogSpec) false w args)
  (Rows.fnExactReplayLogSpec.post enc Tryz.prog Tryz.f5 false true false false):=by
 refine a3E (C:=Tryz.checked) (X:=fun w _=>laidMet Tryz.prog Rows.fnExactReplayLogRow.laid w) (fun _ _ _ hh h=>h.of_heap hh) own started (by kernel_rfl) Tryz.func5
  (ChangeSpec.witness_at (enc:=enc) (C:=Tryz.checked) (os:=os) (X:=fun w _=>laidMet Tryz.prog Rows.fnExactReplayLogRow.laid w) false (b08 os) #[.slice none 0 0,.int .i64 0,.agg #[.string ⟨#[]⟩,.string ⟨#[]⟩,.int .i64 0]] 8 rfl (by kernel_rfl) (by kernel_rfl) (by kernel_rfl) (by kernel_rfl) (by kernel_rfl) (b8U os _)) ?_
 intro W base args ds gs before hval0 hW hsh hL
 have hval:∀ (j:Nat) t v,Tryz.f5.params[j]?=some t→args[j]?=some v→Value.okWide Tryz.prog W .any base t v:=hval0
 have hW':=hW
 obtain ⟨p,q,hA0,hV,rfl,hfz,hnd⟩:=hW
 have hA:DataW.TrodAll enc Tryz.prog W 0 (fun _=>true) true Tryz.f5.params.toList args.toList ds p:=hA0
 rw [Tryz.params5] at hA hval
 obtain ⟨v0,vs0,d0,ds0,p0,q0,hargs,rfl,rfl,h0,r0⟩:=trodAll_cons hA
 obtain ⟨v1,vs1,d1,ds1,p1,q1,rfl,rfl,rfl,h1,r1⟩:=trodAll_cons r0
 obtain ⟨v2,vs2,d2,ds2,p2,q2,rfl,rfl,rfl,h2,r2⟩:=trodAll_cons r1
 obtain ⟨rfl,rfl,rfl⟩:=trodAll_nil r2
 obtain rfl:args=#[v0,v1,v2]:=by cases args;simp_all
 obtain ⟨rfl,rfl⟩:=trodVars_none hV
 have k0:=h0
 have lt0:∀ x∈p0,x.block < W.heap.size:=by obtain ⟨m,hm⟩:=k0;exact DataW.trod_lt m _ _ _ hm
 obtain ⟨ys0,q0,m0,o0⟩:=b2s (E:=.str _ [.int .i64,.int .i64]) Tryz.underlying22 ⟨Tryz.underlying85,by kernel_rfl,cells85,by kernel_rfl⟩ (by decide) (okWide_slice Tryz.underlying22 (hval 0 22 v0 rfl rfl)) h0
 obtain ⟨a0,rfl⟩:=b4m of_Route _ o0
 have k1:=h1
 have lt1:∀ x∈p1,x.block < W.heap.size:=by obtain ⟨m,hm⟩:=k1;exact DataW.trod_lt m _ _ _ hm
 obtain ⟨a1,rfl,-,-,w1⟩:=open_int Tryz.underlying3 (hval 1 3 v1 rfl rfl) h1
 have b1:=b5K w1
 have k2:=h2
 have lt2:∀ x∈p2,x.block < W.heap.size:=by obtain ⟨m,hm⟩:=k2;exact DataW.trod_lt m _ _ _ hm
 obtain ⟨cs2,rfl,o2⟩:=b1i (ks:=[.str,.str,.int .i64]) Tryz.underlying28 (by kernel_rfl) cells28 (by kernel_rfl) (hval 2 28 v2 rfl rfl) h2
 obtain ⟨a2,rfl,z2⟩:=of_Lg _ o2
 clear hA0 hval0
 refine ((a2e a0 a1 a2 (by simpa [maxLen] using m0) z2).true (c22 hL hsh) (b5M q0 (b4n (b4n b5L)))).mono fun e W' ⟨he,bel⟩=>?_
 subst he
 exact ⟨_,rfl,_,_,_,[],_,[],hW',trodAll_mk1 (shut_bool Tryz.underlying4 _),(trodAll_cons_mk (Below.trod b2g (by kernel_rfl) (of_decide_eq_true (by kernel_rfl)) k0 bel lt0) (trodAll_cons_mk (Below.trod b2g (by kernel_rfl) (of_decide_eq_true (by kernel_rfl)) k1 bel lt1) (trodAll_cons_mk (Below.trod b2g (by kernel_rfl) (of_decide_eq_true (by kernel_rfl)) k2 bel lt2) trodAll_mk0))),rfl,bel.frame _,fun h=>by cases h⟩
theorem and_t {a b:Bool} (h:a=true) (g:b=true):(a && b)=true:=by subst h;subst g;rfl
theorem jf0:(Rows.fnExactReplayLogRow.wf (OpenSpec.ofChange Rows.fnExactReplayLogSpec))=true:=by kernel_rfl
theorem jf1:(laidOutB Tryz.prog)=true:=by kernel_rfl
theorem jf2:(mapsRowed Tryz.prog)=true:=by kernel_rfl
theorem jf3:(Tryz.f5.params.all (Tryz.prog.readableRec ·))=true:=by kernel_rfl
theorem jf4:(namedTie Tryz.prog Rows.fnExactReplayLogRow.named Rows.fnExactReplayLogSpec.vars)=true:=by kernel_rfl
theorem jf5:((Rows.fnExactReplayLogRow.stops==[]))=true:=by kernel_rfl
theorem jf6:((Tryz.prog.stops==[]))=true:=by kernel_rfl
theorem jf7:((Rows.fnExactReplayLogRow.knobs==[]))=true:=by kernel_rfl
theorem jf8:((Tryz.prog.stopKnobs==[]))=true:=by kernel_rfl
theorem jf9:((Rows.fnExactReplayLogRow.inPlace==Tryz.prog.inPlace 5))=true:=by kernel_rfl
theorem jf10:((Rows.fnExactReplayLogRow.unfollowed==Tryz.prog.unfollowed 5))=true:=by kernel_rfl
theorem jf11:((Rows.fnExactReplayLogRow.recurses==Tryz.prog.recurses 5))=true:=by kernel_rfl
theorem jf12:((Rows.fnExactReplayLogRow.named==Tryz.prog.varsNamed 5))=true:=by kernel_rfl
theorem jf13:((Rows.fnExactReplayLogRow.maps==(Tryz.f5.params.toList++Rows.fnExactReplayLogSpec.plain.varTypes Tryz.prog).any (Tryz.prog.mapsRec ·)))=true:=by kernel_rfl
theorem jf14:((Rows.fnExactReplayLogRow.ifaces==(Tryz.f5.params.toList++Rows.fnExactReplayLogSpec.plain.varTypes Tryz.prog).any (Tryz.prog.ifacesRec ·)))=true:=by kernel_rfl
theorem jf15:((Rows.fnExactReplayLogRow.mapsOut==Tryz.prog.mapsAmong Tryz.f5.resultTypes.toList))=true:=by kernel_rfl
theorem jf16:((Rows.fnExactReplayLogRow.loops==(Tryz.f5.params.toList++Rows.fnExactReplayLogSpec.plain.varTypes Tryz.prog).any (Tryz.prog.loopsFrom ·)))=true:=by kernel_rfl
theorem jf17:((Rows.fnExactReplayLogRow.wideKeys==(Tryz.f5.params.toList++Rows.fnExactReplayLogSpec.plain.varTypes Tryz.prog++Tryz.f5.resultTypes.toList).any (Tryz.prog.wideKeysFrom ·)))=true:=by kernel_rfl
theorem jf18:(Rows.fnExactReplayLogSpec.vars.all (Tryz.prog.varReadable ·))=true:=by kernel_rfl
theorem jf19:(Tryz.f5.resultTypes.all (fun t=>Tryz.prog.readableRec t && decide (t < Tryz.prog.types.size)))=true:=by kernel_rfl
theorem jf20:((Rows.fnExactReplayLogRow.ifacesOut==Tryz.f5.resultTypes.toList.any (Tryz.prog.ifacesRec ·)))=true:=by kernel_rfl
theorem jf21:((Rows.fnExactReplayLogRow.loopsOut==Tryz.f5.resultTypes.toList.any (Tryz.prog.loopsFrom ·)))=true:=by kernel_rfl
theorem jf22:((Rows.fnExactReplayLogRow.plainKeys==Tryz.prog.plainKeys))=true:=by kernel_rfl
theorem jf23:(Rows.fnExactReplayLogRow.shortTexts.isNone)=true:=by kernel_rfl
theorem jf24:(Tryz.prog.stopsHeard)=true:=by kernel_rfl
theorem jf25:(Tryz.prog.mayEnter)=true:=by kernel_rfl
theorem jf26:((Rows.fnExactReplayLogRow.lifted==Tryz.prog.liftsFinal))=true:=by kernel_rfl
theorem jf27:((Tryz.prog.make==some Rows.fnExactReplayLogRow.make))=true:=by kernel_rfl
theorem jf28:((Rows.fnExactReplayLogRow.kinds==(if Rows.fnExactReplayLogRow.domain.isEmpty then [] else Tryz.f5.params.toList.map fun t=>match Tryz.prog.underlying t with | some (.int k)=>some k | _=>none)))=true:=by kernel_rfl
theorem jf29:((Rows.fnExactReplayLogRow.pinned==Rows.fnExactReplayLogRow.pinnedBy))=true:=by kernel_rfl
theorem jf30:((Rows.fnExactReplayLogRow.veiled==(Tryz.f5.params.toList++Rows.fnExactReplayLogSpec.plain.varTypes Tryz.prog++Tryz.f5.resultTypes.toList).any (Tryz.prog.veiledRec ·)))=true:=by kernel_rfl
theorem jf31:(Rows.fnExactReplayLogRow.veiledFits Tryz.prog Tryz.f5.params.toList (Tryz.f5.params.toList++Rows.fnExactReplayLogSpec.plain.varTypes Tryz.prog++Tryz.f5.resultTypes.toList))=true:=by kernel_rfl
set_option maxRecDepth 20000 in
theorem closed:joinedFacts Tryz.prog 5 Tryz.f5 Rows.fnExactReplayLogSpec Rows.fnExactReplayLogRow=true:=by
 unfold joinedFacts
 exact (and_t (and_t (and_t (and_t (and_t (and_t (and_t (and_t (and_t (and_t (and_t (and_t (and_t (and_t (and_t (and_t (and_t (and_t (and_t (and_t (and_t (and_t (and_t (and_t (and_t (and_t (and_t (and_t (and_t (and_t (and_t jf0 jf1) jf2) jf3) jf4) jf5) jf6) jf7) jf8) jf9) jf10) jf11) jf12) jf13) jf14) jf15) jf16) jf17) jf18) jf19) jf20) jf21) jf22) jf23) jf24) jf25) jf26) jf27) jf28) jf29) jf30) jf31)
theorem over:Rows.fnExactReplayLogRow.holds Tryz.pinned (OpenSpec.ofChange Rows.fnExactReplayLogSpec) :=
 OpenClaim.holds_of_wide 5 Tryz.f5 rfl rfl rfl rfl rfl rfl rfl ⟨rfl,rfl,rfl,rfl,rfl⟩ rfl rfl rfl rfl rfl (by kernel_rfl) Tryz.func5 closed
  (of_decide_eq_true (by kernel_rfl)) (by unfold Func.isWrapper;first | (rw [if_pos (by decide +kernel)];kernel_rfl) | (rw [if_neg (by decide +kernel)];exact ⟨rfl,rfl⟩))
  (fun os started H enc _=>lifted os started H enc)
theorem card:Claim7.holds Tryz.pinned (.plain (OpenSpec.ofChange Rows.fnExactReplayLogSpec)) Rows.fnExactReplayLogCard :=
 Claim7.holds_tied_plain_at .later [] [.data,.data,.data,.data,.sentinel,.sentinel,.pinned] true (true, "3f97e07460e990868cf3fb1504972fd756cfd7993a50ed654733ac82f971ea2a") true
  over (fun _ h=>by cases h) (by kernel_rfl) (fun _ h=>by cases h) fnExactReplayLog_row_tie rfl ⟨rfl,rfl⟩ (by kernel_rfl) rfl
  (fun f fn hf hfn=>by
   obtain rfl:f=5:=Option.some.inj ((show Tryz.prog.funcNamed Rows.fnExactReplayLogRow.func=some 5 by kernel_rfl).symm.trans hf) |>.symm
   obtain rfl:fn=Tryz.f5:=(Option.some.inj (Tryz.func5.symm.trans hfn)).symm
   exact ⟨by kernel_rfl,fun j t ht=>by
    rw [Tryz.params5] at ht
    have hm:=Array.mem_of_getElem? ht
    have hp:t=22∨t=3∨t=28:=by simpa using hm
    rcases hp with rfl | rfl | rfl
    ·exact (show Tryz.prog.wantsStandIn 22=false by kernel_rfl)
    ·exact (show Tryz.prog.wantsStandIn 3=false by kernel_rfl)
    ·exact (show Tryz.prog.wantsStandIn 28=false by kernel_rfl)⟩)
  (by kernel_rfl)
theorem proved:Rows.FnExactReplayLogCardSaid:=card
#print axioms proved
end Go.Proofs.YtpfhomblkgmkkaaGreatDoor.fnExactReplayLogDone
