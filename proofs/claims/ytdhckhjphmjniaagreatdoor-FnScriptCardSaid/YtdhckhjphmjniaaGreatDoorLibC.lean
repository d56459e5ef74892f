/- Texts merged into one: RfXJ, RfXF, RfXG, RfNA, RfNB, RfNC, RfND, RfNE, RfNF, RfNG, RfNH, RfNJ, RfNK, RfQ, RfY, RfNM, RfNQ, RfNR, RfNS. -/
import Derived.Test.YtdhckhjphmjniaaGreatDoorLibB
import Derived.Lib.SplitLaws
import Derived.Lib.CountLaws
import Derived.Lib.AppendZerosOnto
import Derived.Lib.Overlaps
import Derived.Laws.Externs
import Derived.Sort.Row
import Derived.Sort.Grow
import Derived.Lib.SliceRun
set_option linter.constructorNameAsVariable false
set_option linter.unusedSectionVars false
set_option linter.unusedSimpArgs false
set_option linter.unusedVariables false
namespace Go.Rf
open Go Go.RowKit
variable {B N a b by_ d e e' i id j k n0 nt:Nat} {S S':St} {T T':List (Nat×AV)} {as:List AV} {cs:List CI} {gs ys:List (List Value)} {h n:Int} {ids is js:List Nat} {l:Array Bool} {m m0:List (Nat×Option Row)} {o:Oper} {op:List (Nat×Nat×Nat)} {p:Nat×Nat} {r:Row} {rs:List ResultVar} {w w' w0:World} {x:Operand} {y z:Value} {yss yss':List (List CI)} {zs:List Value} {ρ ρ':Nat→Value}
theorem b5L {s:ByteArray} {c:UInt8}:Lib.indexB s ⟨#[c]⟩=if m4 s c.toNat then (J5 s c.toNat:Int) else -1:=by
 have h1:(⟨#[c]⟩:ByteArray).data.toList=[c]:=rfl
 show Lib.index s.data.toList (⟨#[c]⟩:ByteArray).data.toList=_
 rw [h1,Lib.index_one]
 have hst:=a3o (s:=s) (c:=c)
 have hge:=Lib.indexByte_ge s.data.toList c
 cases h:m4 s c.toNat
 ·grind
 ·rw [h] at hst
  have hn:0<=Lib.indexByte s.data.toList c:=by simpa using hst
  obtain ⟨o,ho⟩:∃o:Nat,Lib.indexByte s.data.toList c=o:=⟨(Lib.indexByte s.data.toList c).toNat,by omega⟩
  obtain ⟨g1,g2⟩:=Lib.indexByte_some ho
  have hlt:o < s.data.toList.length:=by
   grind
  have hi:J5 s c.toNat=o:=by
   refine a42 (λj hj=>?_) (by rw [← B1];exact hlt) ?_
   ·have g3:=g2 j hj
    have hjl:j < s.data.toList.length:=by omega
    rw [List.getElem?_eq_getElem hjl] at g3
    rw [U7,List.getD_eq_getElem?_getD,List.getElem?_eq_getElem hjl]
    simp only [Option.getD_some,beq_eq_false_iff_ne,ne_eq]
    intro e
    exact g3 (congrArg some (Lib.byte_eq_of_toNat e))
   ·rw [U7,List.getD_eq_getElem?_getD,g1];rfl
  rw [if_pos Z,ho,hi]
theorem c0R {s:ByteArray}:s.extract 0 s.size=s:=by
 simp
theorem a6W {s:ByteArray} {b:Int} (h:m4 s b=false):i6 s b=[s]:=by
 grind [a9x,m4,S5,i6,c0R]
theorem b5M {s:ByteArray} {k i j:Nat} (hj:k+j<=s.size):(s.extract k s.size).extract i j=s.extract (k+i) (k+j):=by
 apply a3r
 simp_all
theorem b8b {s:ByteArray} {b:Int} (h:m4 s b=true):∀i,J5 s b+1+i<=s.size→spO s b (J5 s b+1+i)=(l9 s b :: (spO (u4 s b) b i).1,J5 s b+1+(spO (u4 s b) b i).2):=by
 obtain ⟨h1,h2,h3⟩:=C5 h
 have ha:u4 s b=s.extract (J5 s b+1) s.size:=by rw [u4,if_pos h]
 intro i
 induction i with
 | zero =>
  intro _
  rw [Nat.add_zero,a0V h2,a9x h3]
  rfl
 | succ i ih =>
  grind [b1n,a0V,b5M,a3O]
theorem b3I {s:ByteArray} {b:Int} (h:m4 s b=true):i6 s b=l9 s b :: i6 (u4 s b) b:=by
 obtain ⟨h1,h2,h3⟩:=C5 h
 have ha:u4 s b=s.extract (J5 s b+1) s.size:=by rw [u4,if_pos h]
 have hs:(u4 s b).size=s.size - (J5 s b+1):=by rw [ha,a2C (Nat.le_refl _)]
 have h4:=b8b h (u4 s b).size J
 have e:J5 s b+1+(u4 s b).size=s.size:=by omega
 have hle:=(b4M (s:=u4 s b) (b:=b) (i:=(u4 s b).size)).1
 have h5:=b5M (s:=s) (k:=J5 s b+1) (i:=(spO (u4 s b) b (u4 s b).size).2) (j:=(u4 s b).size) J
 rw [e] at h4
 rw [e,← ha] at h5
 have e1:i6 s b=(spO s b s.size).1++[s.extract (spO s b s.size).2 s.size]:=rfl
 have e2:i6 (u4 s b) b=(spO (u4 s b) b (u4 s b).size).1++[(u4 s b).extract (spO (u4 s b) b (u4 s b).size).2 (u4 s b).size]:=rfl
 rw [e1,e2,h4,h5]
 rfl
theorem b7b {c:UInt8}:∀(n:Nat) (s:ByteArray),s.size<=n→Lib.splitB ⟨#[c]⟩ 0 (Lib.countB s ⟨#[c]⟩) s=i6 s c.toNat:=by
 intro n
 induction n with
 | zero =>
  intro s hs
  have hst:m4 s c.toNat=false:=by
   cases h:m4 s c.toNat with
   | false=>rfl
   | true=>have:=(C5 h).1;omega
  have hi:=b5L (s:=s) (c:=c)
  rw [hst] at hi
  rw [Lib.splitB_miss _ _ _ _ (by simpa using hi),a6W hst]
 | succ n ih =>
  intro s hs
  have hi:=b5L (s:=s) (c:=c)
  cases hst:m4 s c.toNat with
  | false =>
   rw [hst] at hi
   rw [Lib.splitB_miss _ _ _ _ (by simpa using hi),a6W hst]
  | true =>
   rw [hst,if_pos Z] at hi
   have h1:=(C5 hst).1
   have hz:(⟨#[c]⟩:ByteArray).size=1:=rfl
   rw [Lib.countB_hit s ⟨#[c]⟩ _ (Nat.le_refl 1) hi,Nat.add_comm 1,Lib.splitB_hit _ _ _ _ _ hi,hz,Nat.add_zero,ih _ (by rw [a2C (Nat.le_refl _)];omega),b3I hst,l9,u4,if_pos hst]
section
variable {P:Program} [Env P] {w0:Base} {ops:Array Oper} {tb:List (Nat×TyI)} {o:Oper} {rest:List Oper} {T:List (Nat×AV)} {m:List (Nat×Option Row)} {nx nt d:Nat} {Q:Exit→St→Prop} {c:Code}
theorem RelC.spare (hC:RelC w0 ρ m nx w) {id e sz:Nat} {ys gs:List (List Value)} (hm:mem m id=some (.spare e sz ys gs)):∃g cur,ρ id=.slice (some ⟨g,0,none⟩) ys.length (ys.length+gs.length)/\w0.w.heap.size<=g/\w.heap[g]?=some (.cells cur e (0,0))/\cur.toList=(ys++gs).flatten/\ys.length+gs.length<=maxLen/\∀c∈ys++gs,c.length=sz:=(hC.rows id _ hm).2
theorem RelC.retell (hC:RelC w0 ρ m nx w) {id:Nat} {row row':Row} (hm:mem m id=some row) (hrow:RowRel w0.w ρ nx w id row') (hin:∀p b,inn w (ρ id) row' p=some b→inn w (ρ id) row p=some b:=by intro p b h;cases h):RelC w0 ρ ((id,some row') :: m) nx w:=by
 have hs:∀i r,mem ((id,some row') :: m) i=some r→(i=id/\r=row')∨(i≠id/\mem m i=some r):=λi r hr=>by
  by_cases e:id=i
  ·subst e;rw [l5] at hr;cases hr;exact .inl ⟨Z,Z⟩
  ·rw [e7 e] at hr;exact .inr ⟨Ne.symm e,hr⟩
 have was:∀i r,mem ((id,some row') :: m) i=some r→∃r',mem m i=some r':=λi r hr=>by
  rcases hs i r hr with ⟨rfl,rfl⟩ | ⟨_,h⟩
  ·exact ⟨_,hm⟩
  ·exact ⟨_,h⟩
 refine ⟨λi r hr=>?_,λi i' r r' hr hr'=>?_,hC.below,hC.pin,⟨hC.kept.1,hC.kept.2.1,λi r hr=>?_⟩,hC.inner' (Nat.le_refl _) (λi r hr=>?_) (λi r hr b hb=>?_)⟩
 ·rcases hs i r hr with ⟨rfl,rfl⟩ | ⟨_,h⟩
  ·exact ⟨(hC.rows _ _ hm).1,hrow⟩
  ·exact hC.rows i r h
 ·obtain ⟨r1,h1⟩:=was i r hr
  obtain ⟨r2,h2⟩:=was i' r' hr'
  exact hC.apart i i' r1 r2 h1 h2
 ·obtain ⟨r1,h1⟩:=was i r hr
  exact hC.kept.2.2 i r1 h1
 ·rcases hs i r hr with ⟨rfl,rfl⟩ | ⟨_,h⟩
  ·exact .inr ⟨row,hm,hin⟩
  ·exact .inr ⟨r,h,λ_ _ h=>h⟩
 ·obtain ⟨r1,h1⟩:=was i r hr
  exact .inl ⟨i,r1,h1,hb⟩
def a6X (sz:Nat):Nat→List Value→List (List Value)
 | 0,_=>[]
 | n+1,l=>l.take sz :: a6X sz n (l.drop sz)
theorem b1t {sz:Nat}:∀{n:Nat} {l:List Value},(a6X sz n l).length=n
 | 0,_=>rfl
 | n+1,l=>by simp [a6X,b1t]
theorem a95 {sz:Nat}:∀{n:Nat} {l:List Value},l.length=n * sz→(a6X sz n l).flatten=l/\∀c∈a6X sz n l,c.length=sz
 | 0,l,h=>by
  grind [a6X]
 | n+1,l,h=>by
  rw [Nat.add_mul] at h
  obtain ⟨h1,h2⟩:=a95 (sz:=sz) (n:=n) (l:=l.drop sz) (by rw [List.length_drop];omega)
  simp only [a6X,List.flatten_cons,h1,List.take_append_drop,true_and,List.mem_cons]
  grind
theorem c47 {t sz sz':Nat} (G:Good P tb) (ht:look t tb=some (.slice e' sz' by_ zs)) (hd:o.dst=some d) (hlt:Nat.blt d nt=true) (ho:o.op=.call { callee:=.builtin .cap,args:=#[x],argTypes:=#[t] }) (hx:ev T x=some (.own id)) (hm:mem m id=some (.row e sz ys)) (hpos:0 < ys.length)
 (hk:∀gs:List (List Value),ys.length+gs.length<=9223372036854775807→(∀c∈ys,c.length=sz/\∀u∈c,u.oneCell'=true)→WL P w0 ops rest ⟨(d,.v (.int .i64 ((ys.length+gs.length:Nat):Int))) :: T,(id,some (.spare e sz ys gs)) :: m,nx,nt⟩ Q):WX P w0 ops o rest ⟨T,m,nx,nt⟩ Q:=by
 intro ρ a w hT hC
 have h:=hT.ev hx
 simp only [RelV] at h
 obtain ⟨hrow,hall⟩:=hC.row hm
 rcases hrow.2 with ⟨_,hz⟩ | ⟨g,cap,cur,hsl,hB,hb,hcap,hcapm,hcur,htake⟩
 ·omega
 ·have hdl:(cur.toList.drop (ys.length * sz)).length=(cap - ys.length) * sz:=by rw [List.length_drop,Nat.sub_mul];simp [hcur]
  obtain ⟨hf,hc⟩:=a95 hdl
  have hgl:(a6X sz (cap - ys.length) (cur.toList.drop (ys.length * sz))).length=cap - ys.length:=b1t
  have hfin:=hk (a6X sz (cap - ys.length) (cur.toList.drop (ys.length * sz))) (by rw [hgl];unfold maxLen at hcapm;omega) hall
  have e1:ys.length+(cap - ys.length)=cap:=by omega
  rw [hgl,e1] at hfin
  have hr:(execOp a.eval o).run P w=.ok (.value (.int .i64 cap)) w:=by
   simp [execOp,ho,resolve,invoke,builtin,h.2,hsl,goInt,Builtin.cap_,run_underlying (G t _ ht).1]
  unfold Oper.wp
  rw [hr,Oper.upon_value,hd]
  refine hfin ρ _ w (hT.put hlt (by simp only [RelV])) (hC.retell hm ?_)
  simp only [RowRel]
  refine ⟨g,cur,by rw [hgl,e1];exact hsl,hB,hb,?_,by rw [hgl,e1];exact hcapm,λc hc'=>?_⟩
  ·rw [List.flatten_append,hf,← htake,List.take_append_drop]
  grind
theorem a0v {t sz:Nat} {lo hi:Option Operand} {l:Int} (G:Good P tb) (ho:o.op=.slice t x lo hi none) (ht:look t tb=some (.slice e sz by_ zs)) (hx:ev T x=some (.own id)) (hm:mem m id=some (.spare e' sz ys gs))
 (hl:a5P T 0 lo=some l) (hh:a5P T ys.length hi=some h) (h0:0<=l) (h1:l<=h) (h2:h<=ys.length) (hpos:0 < ys.length):QStep P o T m nx nt (.sub id sz l.toNat (h.toNat - l.toNat)) :=
 QStep.run λw0 ρ a w hT hC=>by
  have hxe:=hT.ev hx
  simp only [RelV] at hxe
  obtain ⟨g,cur,he,_⟩:=hC.spare hm
  refine ⟨.slice (if ys.length+gs.length=l.toNat then some ⟨g,0,none⟩ else (some (⟨g,0,none⟩:Addr)).map (·.add (l.toNat * sz))) (h.toNat - l.toNat) (ys.length+gs.length - l.toNat),?_,λw' hC'=>?_⟩
  ·simp only [RelV]
   refine ⟨hxe.1,_,_,Z,by omega,λhp=>?_,λhl0=>⟨ys.length,?_,by omega⟩⟩
   ·rw [if_neg J]
    exact ⟨g,_,_,he,by simp [Addr.add_lit]⟩
   ·rw [he,hl0,if_neg J]
    simp [Addr.add_zero']
  ·have:=a9u (G t _ ht) hT (A:=some ⟨g,0,none⟩) hl hh h0 h1 h2 (by omega:ys.length<=ys.length+gs.length) w'
   simp only [execOp,ho,hxe.2,he,Option.map_none,this,Sem.run_bind,Result.andThen_ok,Sem.run_pure]
theorem b3J {t e sz by_:Nat} {zs:List Value} (G:TyOK P t (.slice e sz by_ zs)) {A:Addr} {n cap N:Nat} {k:IntKind} (hn:n<=cap) (hN:N<=cap) (hpos:0 < N) (w:World) :
 (Instr.sliceAt t (.slice (some A) n cap) none (some (.int k N)) none).run P w=.ok (.slice (some A) N cap) w:=by
 obtain ⟨hu,_,i,z,hi',hs,_⟩:=G
 have h1:¬ ((N:Int) < 0):=by omega
 have h2:(N:Int)<=cap:=by omega
 have h3:¬ cap=0:=by omega
 have hh1:(0:Int)<=(N:Int):=by omega
 have hcap2:(n:Int)<=(cap:Int):=by omega
 simp [Instr.sliceAt,Instr.slice,run_underlying hu,Instr.sliceBounds,Instr.sliceBound,asIntOf,sizeOf,typeInfo,hi',hs,h1,h2,h3,hh1,hcap2,Addr.add_zero']
 intro hlt
 omega
theorem b4P {t sz:Nat} {y:Operand} {k:IntKind} (G:Good P tb) (nx':Nat) (hn':Nat.beq nx' (Nat.succ nx)=true) (hd:o.dst=some d) (hlt:Nat.blt d nt=true) (ho:o.op=.slice t x none (some y) none) (ht:look t tb=some (.slice e sz by_ zs)) (hx:ev T x=some (.own id)) (hm:mem m id=some (.spare e' sz ys gs))
 (hy:ev T y=some (.v (.int k h))) (hN:h=(N:Int)) (hle:N<=ys.length+gs.length) (hpos:0 < N)
 (hk:WL P w0 ops rest ⟨(d,.own nx) :: T,(nx,some (.spare e' sz ((ys++gs).take N) ((ys++gs).drop N))) :: (id,none) :: m,nx',nt⟩ Q):WX P w0 ops o rest ⟨T,m,nx,nt⟩ Q:=by
 have hn'':=Nat.eq_of_beq_eq_true hn'
 subst hn''
 subst hN
 intro ρ a w hT hC
 have hxe:=hT.ev hx
 have hye:=hT.ev hy
 simp only [RelV] at hxe hye
 obtain ⟨g,cur,he,hB,hb,hcur,hmax,hall⟩:=hC.spare hm
 have hr:(execOp a.eval o).run P w=.ok (.value (.slice (some ⟨g,0,none⟩) N (ys.length+gs.length))) w:=by
  simp only [execOp,ho,hxe.2,he,Option.map_some,Option.map_none,hye,b3J (P:=P) (G t _ ht) (by omega:ys.length<=ys.length+gs.length) hle hpos w,Sem.run_bind,Result.andThen_ok,Sem.run_pure]
 have hsub:∀i r,mem ((id,none) :: m) i=some r→mem m i=some r/\i≠id:=λi r hr=>by
  grind [l5,e7]
 have hC2:RelC w0 ρ ((id,none) :: m) nx w:=hC.sub λi r hr=>(hsub i r hr).1
 have hbk:blk (ρ id)=some g:=by rw [he];rfl
 unfold Oper.wp
 rw [hr,Oper.upon_value,hd]
 refine hk (upd ρ nx (.slice (some ⟨g,0,none⟩) N (ys.length+gs.length))) _ w ((hT.add _).put hlt ?_) (hC2.addP (λ_=>Z) ?_ ?_ ?_)
 ·simp only [RelV]
  exact ⟨by omega,by rw [l3]⟩
 ·simp_all [RowRel,l3]
 ·intro i r hr b hbb hy'
  obtain ⟨h1,h2⟩:=hsub i r hr
  simp [blk] at hy'
  exact hC.foot_apart h1 hm h2 hbb (.inl (by rw [hbk,hy']))
 ·intro b hb'
  simp [blk] at hb'
  subst hb'
  exact hC.kept.2.2 id _ hm _ hbk
theorem c7s {sz:Nat} (hm:mem m id=some (.spare e sz ys gs)) (hall:∀c∈ys,∀u∈c,u.oneCell'=true) (h:W P w0 c ⟨T,(id,some (.row e sz ys)) :: m,nx,nt⟩ Q):W P w0 c ⟨T,m,nx,nt⟩ Q:=by
 intro ρ a w hT hC
 obtain ⟨g,cur,he,hB,hb,hcur,hmax,hl⟩:=hC.spare hm
 refine h ρ a w hT (hC.retell hm ?_)
 have hly:∀c∈ys,c.length=sz:=λc hc=>hl c (List.mem_append_left _ hc)
 have hfl:=m6 (ys:=ys) (sz:=sz) hly
 have hfl2:=m6 (ys:=ys++gs) (sz:=sz) hl
 refine ⟨⟨hfl,.inr ⟨g,ys.length+gs.length,cur,he,hB,hb,by omega,hmax,?_,?_⟩⟩,λc hc=>⟨hly c hc,hall c hc⟩⟩
 ·have:=congrArg List.length hcur
  rw [hfl2,List.length_append] at this
  simpa using this
 ·rw [hcur,List.flatten_append,← hfl,List.take_append_of_le_length (Nat.le_refl _),List.take_length]
theorem a8N {dT sT ty e sz:Nat} {inf:TypeInfo} (hu:P.underlying dT=some (.slice e)) (hi:P.info? e=some inf) (hsz:inf.size=sz) {w:World} {g off dLen dCap:Nat} {a:Addr} {sLen sCap:Nat} {cur:Array Value} {t:TypeId} {vs:List (List Value)} (hg:w.heap[g]?=some (.cells cur t (0,0)))
 (hn:vs.length=Nat.min sLen dLen) (hl:∀c∈vs,c.length=sz/\∀u∈c,u.oneCell'=true) (hsrc:∀j v,vs.flatten[j]?=some v→w.cell? (a.add j)=some v) (hfit:off+vs.flatten.length<=cur.size) :
 (Builtin.copy_ #[dT,sT] ty #[.slice (some ⟨g,off,none⟩) dLen dCap,.slice (some a) sLen sCap]).run P w=.ok (goInt vs.length) (w.setRow g (cur.toList.take off++vs.flatten++cur.toList.drop (off+vs.flatten.length)).toArray):=by
 have hfl:=m6 (ys:=vs) (sz:=sz) (λc hc=>(hl c hc).1)
 have hf:=run_firstCells_some (P:=P) w sz vs.length a sLen sCap vs.flatten hfl hsrc
 have hst:=run_storeCells_at (P:=P) g off t vs.flatten 0 cur w hg (by simpa using hfit) (λu hu=>by
  obtain ⟨c,hc,hu⟩:=List.mem_flatten.1 hu
  exact (hl c hc).2 u hu)
 simp only [Nat.add_zero] at hst
 simp [Builtin.copy_,run_underlying hu,Builtin.lenOf,sizeOf,typeInfo,hi,hsz,← hn,hf,hst]
def SrcOK (m:List (Nat×Option Row)) (nx sz:Nat) (av:AV) (vs:List (List Value)):Prop :=
 ∀(w0:Base) ρ w y,RelC w0 ρ m nx w→RelV w0.w ρ nx av y→∃A cap,y=.slice A vs.length cap/\(0 < vs.length→∃ad,A=some ad/\∀j v,vs.flatten[j]?=some v→w.cell? (ad.add j)=some v)
theorem SrcOK.of {sz:Nat} {av:AV} {vs:List (List Value)} (hs:∀c∈vs,c.length=sz) (h:ArgOK m nx av (.lst sz vs)) (hpos:0 < sz):SrcOK m nx sz av vs:=by
 intro w0 ρ w y hC hy
 have hr:=h w0 ρ w y hC hy
 simp only [RelV] at hr
 obtain ⟨A,cap,he,_,hall,hA⟩:=hr
 refine ⟨A,cap,he,λh0=>?_⟩
 obtain ⟨ad,h1,_,h3⟩:=hA h0
 refine ⟨ad,h1,λj v hj=>?_⟩
 have hlt:j < vs.length * sz:=by rw [← m6 (sz:=sz) hs];exact (List.getElem?_eq_some_iff.1 hj).1
 have hdiv:j / sz < vs.length:=Nat.div_lt_of_lt_mul (by rw [Nat.mul_comm];exact hlt)
 have hmod:j % sz < sz:=Nat.mod_lt _ hpos
 have hc:vs[j / sz]?=some vs[j / sz]:=List.getElem?_eq_getElem hdiv
 have e1:j / sz * sz+j % sz=j:=by rw [Nat.mul_comm];exact Nat.div_add_mod j sz
 have h4:=O7 (ys:=vs) (sz:=sz) hs hc hmod
 grind
theorem SrcOK.spare {sz n:Nat} (hm:mem m id=some (.spare e sz ys gs)) (hle:i+n<=ys.length):SrcOK m nx sz (.sub id sz i n) ((ys.drop i).take n):=by
 intro w0 ρ w y hC hy
 simp only [RelV] at hy
 obtain ⟨hn,A,cap,rfl,hcap,hA,_⟩:=hy
 obtain ⟨g,cur,hρ,hB,hb,hcur,_,hall⟩:=hC.spare hm
 have hl:((ys.drop i).take n).length=n:=by rw [List.length_take,List.length_drop];omega
 refine ⟨A,cap,by rw [hl],λh0=>?_⟩
 rw [hl] at h0
 obtain ⟨g',l,c,hg,rfl⟩:=hA h0
 have hgg:g=g':=by rw [hρ] at hg;simp at hg;exact hg.1
 subst hgg
 refine ⟨_,Z,λj v hj=>?_⟩
 have hly:∀c∈ys,c.length=sz:=λc hc=>hall c (List.mem_append_left _ hc)
 have hd:(ys.drop i).flatten=ys.flatten.drop (i * sz):=a01 hly J
 have hly2:∀c∈ys.drop i,c.length=sz:=λc hc=>hly c (List.mem_of_mem_drop hc)
 have ht:((ys.drop i).take n).flatten=(ys.drop i).flatten.take (n * sz):=a00 hly2 (by rw [List.length_drop];omega)
 rw [ht,hd,List.getElem?_take] at hj
 split at hj
 ·rw [List.getElem?_drop] at hj
  rw [Addr.add_lit,V2 hb,hcur,List.flatten_append,List.getElem?_append_left (List.getElem?_eq_some_iff.1 hj).1]
  exact hj
 ·cases hj
theorem a8O {y:Operand} {dT sT sz id n i:Nat} {ys vs:List (List Value)} {ay:AV} (G:Good P tb) (hd:o.dst=some d) (hlt:Nat.blt d nt=true) (ho:o.op=.call { callee:=.builtin .copy,args:=#[x,y],argTypes:=#[dT,sT] }) (ht:look dT tb=some (.slice e sz by_ zs))
 (hx:ev T x=some (.sub id sz i n)) (hm:mem m id=some (.row e sz ys)) (hy:ev T y=some ay) (hs:SrcOK m nx sz ay vs) (hvs:∀c∈vs,c.length=sz/\∀u∈c,u.oneCell'=true) (hn:vs.length<=n) (hle:i+n<=ys.length) (hpos:0 < vs.length)
 (hk:WL P w0 ops rest ⟨(d,.v (.int .i64 (vs.length:Int))) :: T,(id,some (.row e sz (ys.take i++vs++ys.drop (i+vs.length)))) :: m,nx,nt⟩ Q):WX P w0 ops o rest ⟨T,m,nx,nt⟩ Q:=by
 intro ρ a w hT hC
 obtain ⟨hu,_,inf,z,hi,hsz,_⟩:=G dT _ ht
 have hax:=hT.ev hx
 simp only [RelV] at hax
 obtain ⟨hid,A,cap,hex,hcap,hA,_⟩:=hax
 obtain ⟨g,l,c,hg,rfl⟩:=hA J
 obtain ⟨A',cap',hey,hsrc⟩:=hs w0 ρ w _ hC (hT.ev hy)
 obtain ⟨ad,rfl,hsrc2⟩:=hsrc hpos
 obtain ⟨hrow,hall⟩:=hC.row hm
 rcases hrow.2 with ⟨hnil,_⟩ | ⟨g',cp,cur,hsl,hB,hb,hcp,hcpm,hcur,htake⟩
 ·omega
 ·have hgg:g=g'/\l=ys.length/\c=cp:=by rw [hg] at hsl;simpa using hsl
  obtain ⟨rfl,rfl,rfl⟩:=hgg
  have hfl:=m6 (ys:=vs) (sz:=sz) (λc hc=>(hvs c hc).1)
  have hb1:(i+vs.length) * sz<=ys.length * sz:=Nat.mul_le_mul_right _ J
  have hb2:ys.length * sz<=cur.size:=by rw [hcur];exact Nat.mul_le_mul_right _ hcp
  rw [Nat.add_mul] at hb1
  have hrun:=a8N (P:=P) (sT:=sT) (ty:=o.type) (dLen:=n) (dCap:=cap) (sLen:=vs.length) (sCap:=cap') hu hi hsz hb (by simp only [Nat.min_def];split<;>omega) hvs hsrc2 (off:=i * sz) J
  have hr:(execOp a.eval o).run P w=.ok (.value (goInt vs.length)) (w.setRow g (cur.toList.take (i * sz)++vs.flatten++cur.toList.drop (i * sz+vs.flatten.length)).toArray):=by
   simp only [execOp,ho,resolve,invoke,builtin,Sem.run_bind,Sem.run_pure,Result.andThen_ok,List.map_toArray,List.map_cons,List.map_nil,hex,hey,hrun]
  unfold Oper.wp
  rw [hr,Oper.upon_value,hd]
  have hall':∀c∈ys.take i++vs++ys.drop (i+vs.length),c.length=sz/\∀u∈c,u.oneCell'=true:=by
   grind
  have hlen:(ys.take i++vs++ys.drop (i+vs.length)).length=ys.length:=by simp;omega
  refine hk ρ _ _ (hT.put hlt (by simp only [RelV];rfl)) (hC.change hm (by rw [hsl];rfl) (I6 w g _) hB ⟨⟨?_,.inr ⟨g,c,_,by rw [hlen];exact hsl,hB,setRow_heap w g cur _ e _ hb,by omega,hcpm,?_,?_⟩⟩,hall'⟩)
  ·rw [m6 (λc hc=>(hall' c hc).1)]
  ·simp [hfl];omega
  ·rw [hlen]
   simp only [List.flatten_append]
   rw [a00 (λc hc=>(hall c hc).1) J,a01 (λc hc=>(hall c hc).1) J,← htake,hfl]
   have hlt1:(List.take (i * sz) cur.toList).length=i * sz:=by rw [List.length_take];simp;omega
   simp only [List.take_append,List.take_take,List.drop_take,List.length_append,hlt1,hfl]
   rw [Nat.min_eq_left (by omega:i * sz<=ys.length * sz),Nat.min_eq_right (by omega:i * sz<=ys.length * sz)]
   rw [List.take_of_length_le (l:=vs.flatten) J,Nat.add_mul]
theorem a5B {x y:Operand} {dT sT e sz by_ id n i:Nat} {zs:List Value} {ys gs vs:List (List Value)} {ay:AV} (G:Good P tb) (hd:o.dst=some d) (hlt:Nat.blt d nt=true) (ho:o.op=.call { callee:=.builtin .copy,args:=#[x,y],argTypes:=#[dT,sT] }) (ht:look dT tb=some (.slice e sz by_ zs))
 (hx:ev T x=some (.sub id sz i n)) (hm:mem m id=some (.spare e sz ys gs)) (hy:ev T y=some ay) {L:Nat} {us:List (List Value)} (hs:SrcOK m nx sz ay us) (hL:Nat.min us.length n=L) (hvs:vs=us.take L) (hone:∀c∈vs,∀u∈c,u.oneCell'=true) (hszs:∀c∈vs,c.length=sz) (hle:i+n<=ys.length) (hpos:0 < L)
 (hk:WL P w0 ops rest ⟨(d,.v (.int .i64 (vs.length:Int))) :: T,(id,some (.spare e sz (ys.take i++vs++ys.drop (i+vs.length)) gs)) :: m,nx,nt⟩ Q):WX P w0 ops o rest ⟨T,m,nx,nt⟩ Q:=by
 intro ρ a w hT hC
 obtain ⟨hu,_,inf,z,hi,hsz,_⟩:=G dT _ ht
 have hax:=hT.ev hx
 simp only [RelV] at hax
 obtain ⟨hid,A,cap,hex,hcap,hA,_⟩:=hax
 have hmin:L<=us.length/\L<=n:=by simp only [Nat.min_def] at hL;split at hL<;>omega
 obtain ⟨g,l,c,hg,rfl⟩:=hA J
 obtain ⟨A',cap',hey,hsrc⟩:=hs w0 ρ w _ hC (hT.ev hy)
 obtain ⟨ad,rfl,hsrc2⟩:=hsrc J
 obtain ⟨g',cur,hsl,hB,hb,hcur,hmax,hall⟩:=hC.spare hm
 have hgg:g=g':=by rw [hg] at hsl;simp at hsl;exact hsl.1
 subst hgg
 have hvl:vs.length=L:=by rw [hvs,List.length_take];omega
 have hfl:=m6 (ys:=vs) (sz:=sz) hszs
 have hcl:cur.toList.length=(ys.length+gs.length) * sz:=by rw [hcur,m6 hall,List.length_append]
 have hcs:cur.size=(ys.length+gs.length) * sz:=by rw [← hcl];simp
 have hb1:(i+vs.length) * sz<=(ys.length+gs.length) * sz:=Nat.mul_le_mul_right _ J
 rw [Nat.add_mul] at hb1
 have hsrc':∀j v,vs.flatten[j]?=some v→w.cell? (ad.add j)=some v:=λj v hj=>by
  refine hsrc2 j v ?_
  have:us.flatten=vs.flatten++(us.drop L).flatten:=by rw [hvs,← List.flatten_append,List.take_append_drop]
  grind
 have hrun:=a8N (P:=P) (sT:=sT) (ty:=o.type) (dLen:=n) (dCap:=cap) (sLen:=us.length) (sCap:=cap') hu hi hsz hb (by rw [hvl,hL]) (λc hc=>⟨hszs c hc,hone c hc⟩) hsrc' (off:=i * sz) J
 have hr:(execOp a.eval o).run P w=.ok (.value (goInt vs.length)) (w.setRow g (cur.toList.take (i * sz)++vs.flatten++cur.toList.drop (i * sz+vs.flatten.length)).toArray):=by
  simp only [execOp,ho,resolve,invoke,builtin,Sem.run_bind,Sem.run_pure,Result.andThen_ok,List.map_toArray,List.map_cons,List.map_nil,hex,hey,hrun]
 unfold Oper.wp
 rw [hr,Oper.upon_value,hd]
 have hlen:(ys.take i++vs++ys.drop (i+vs.length)).length=ys.length:=by simp;omega
 have hly:∀c∈ys,c.length=sz:=λc hc=>hall c (List.mem_append_left _ hc)
 refine hk ρ _ _ (hT.put hlt (by simp only [RelV];rfl)) (hC.change hm (by rw [hsl];rfl) (I6 w g _) hB ?_)
 simp only [RowRel]
 refine ⟨g,_,by rw [hlen];exact hsl,hB,setRow_heap w g cur _ e _ hb,?_,by rw [hlen];exact hmax,λc hc=>?_⟩
 ·rw [hcur,List.flatten_append,hfl]
  have f1:=a00 (ys:=ys) (sz:=sz) hly (by omega:i<=ys.length)
  have f2:=a01 (ys:=ys) (sz:=sz) hly (by omega:i+vs.length<=ys.length)
  have fy:=m6 (ys:=ys) (sz:=sz) hly
  have hb3:(i+vs.length) * sz<=ys.length * sz:=Nat.mul_le_mul_right _ J
  rw [Nat.add_mul] at hb3
  rw [List.take_append_of_le_length J,List.drop_append_of_le_length J]
  simp only [List.flatten_append,f1,f2,Nat.add_mul,List.append_assoc]
 grind
theorem b3K {y:Operand} {t tn tr sz id i k:Nat} {zn:Value} {ys gs:List (List Value)} {kk:IntKind} {q:Int} (G:Good P tb) (nx':Nat) (hn':Nat.beq nx' (Nat.succ nx)=true) (hd:o.dst=some d) (hlt:Nat.blt d nt=true) (ho:o.op=.call { callee:=.builtin .append,args:=#[x,y],argTypes:=#[t,tn] }) (ht:look t tb=some (.slice e sz by_ zs)) (htn:look tn tb=some (.flat (.int .i64) zn))
 (hx:ev T x=some (.sub id sz 0 i)) (hm:mem m id=some (.spare tr sz ys gs)) (hy:ev T y=some (.v (.int kk q))) (hq:q=(k:Int)) (hk0:0 < k) (hi:i<=ys.length) (hroom:ys.length+gs.length < i+k) (hbig:(i+k) * by_<=140737488355328) (hbig2:i+k<=9223372036854775807) (hone:∀c∈ys,∀u∈c,u.oneCell'=true) (hpos:0 < ys.length)
 (hk:WL P w0 ops rest ⟨(d,.own nx) :: T,(nx,some (.row e sz (ys.take i++List.replicate k zs))) :: m,nx',nt⟩ Q):WX P w0 ops o rest ⟨T,m,nx,nt⟩ Q:=by
 have hn'':=Nat.eq_of_beq_eq_true hn'
 subst hn''
 subst hq
 intro ρ a w hT hC
 obtain ⟨hu,_,inf,z,hinf,hsz,hby,hz,hzc,hzl,hzpos,hzone⟩:=G t _ ht
 have htn':P.underlying tn=some (.int .i64):=(G tn _ htn).1
 have hax:=hT.ev hx
 have hay:=hT.ev hy
 simp only [RelV] at hax hay
 obtain ⟨hid,A,cap,hex,hcap,hA,hA0⟩:=hax
 obtain ⟨l0,hl0,_⟩:=hA0 trivial
 obtain ⟨g,cur,hsl,hB,hb,hcur,hmax,hall⟩:=hC.spare hm
 have hAg:A=some ⟨g,0,none⟩/\cap=ys.length+gs.length:=by rw [hl0] at hsl;simp at hsl;exact ⟨hsl.1,hsl.2.2⟩
 obtain ⟨rfl,rfl⟩:=hAg
 have hly:∀c∈ys,c.length=sz:=λc hc=>hall c (List.mem_append_left _ hc)
 have hti:(ys.take i).length=i:=by rw [List.length_take];omega
 have hft:(ys.take i).flatten=ys.flatten.take (i * sz):=a00 hly hi
 have hfl:(ys.take i).flatten.length=i * inf.size:=by rw [m6 (sz:=sz) (λc hc=>hly c (List.mem_of_mem_take hc)),hti,hsz]
 have hold:(Builtin.firstCells inf.size i (.slice (some ⟨g,0,none⟩) i (ys.length+gs.length))).run P w.drew=.ok (ys.take i).flatten.toArray w.drew :=
  run_firstCells_some w.drew inf.size i ⟨g,0,none⟩ i _ (ys.take i).flatten hfl (λj v hj=>by
   have hb':w.drew.heap[g]?=some (.cells cur tr (0,0)):=hb
   rw [Addr.add_lit,V2 hb',Nat.zero_add,hcur,List.flatten_append]
   rw [hft,List.getElem?_take] at hj
   split at hj
   ·rw [List.getElem?_append_left (List.getElem?_eq_some_iff.1 hj).1];exact hj
   ·cases hj)
 have hrun:=Lib.run_append_grow_zeros (P:=P) w t tn o.type e inf z kk .i64 hu htn' hinf hz (some ⟨g,0,none⟩) i (ys.length+gs.length) (ys.take i).flatten hold k hk0 J hroom J (by
  rw [hby]
  have:k * by_<=(i+k) * by_:=Nat.mul_le_mul_right _ J
  omega) (by rw [hby];exact growslice_fits hroom hbig)
 have hr:(execOp a.eval o).run P w=.ok (.value (.slice (some ⟨w.heap.size,0,none⟩) (i+k) (grownCap w (i+k) (ys.length+gs.length) e))) (w.drew.alloc (.cells ((ys.take i).flatten.toArray++Builtin.zeroCells z.cells k++Builtin.zeroCells z.cells (grownCap w (i+k) (ys.length+gs.length) e - (i+k))) e)):=by
  simp only [execOp,ho,resolve,invoke,builtin,Sem.run_bind,Sem.run_pure,Result.andThen_ok,List.map_toArray,List.map_cons,List.map_nil,hex,hay,hrun]
 unfold Oper.wp
 rw [hr,Oper.upon_value,hd]
 have hb2:Below w.heap.size w (w.drew.alloc (.cells ((ys.take i).flatten.toArray++Builtin.zeroCells z.cells k++Builtin.zeroCells z.cells (grownCap w (i+k) (ys.length+gs.length) e - (i+k))) e)):=((Below.refl _ _).drew).alloc (Nat.le_refl _) _
 have hge:=grownCap_ge w (i+k) (ys.length+gs.length) e
 have hle:=grownCap_le_maxLen w (i+k) (ys.length+gs.length) e (by unfold maxLen;omega)
 have hzf:(Builtin.zeroCells z.cells k).toList=(List.replicate k zs).flatten:=by rw [hzc];exact b1k J k
 have hzs:∀n,(Builtin.zeroCells z.cells n).size=n * sz:=λn=>by
  have h:=congrArg List.length (b1k (zs:=zs) J n)
  rw [m6 (sz:=zs.length) (λc hc=>by rw [(List.mem_replicate.1 hc).2]),List.length_replicate,hzl] at h
  rw [hzc]
  simpa using h
 refine hk (upd ρ nx (.slice (some ⟨w.heap.size,0,none⟩) (i+k) (grownCap w (i+k) (ys.length+gs.length) e))) _ _ ((hT.add _).put hlt ?_) (hC.addF hb2 (λ_=>Z) ?_ (λb hb=>(by simp [blk] at hb;subst hb;exact Nat.le_refl _)))
 ·simp only [RelV]
  exact ⟨by omega,by rw [l3]⟩
 ·have hlen:(ys.take i++List.replicate k zs).length=i+k:=by rw [List.length_append,hti,List.length_replicate]
  have hall':∀c∈ys.take i++List.replicate k zs,c.length=sz/\∀u∈c,u.oneCell'=true:=λc hc=>by
   rcases List.mem_append.1 hc with hc | hc
   ·exact ⟨hly c (List.mem_of_mem_take hc),hone c (List.mem_of_mem_take hc)⟩
   ·rw [(List.mem_replicate.1 hc).2];exact ⟨hzl,hzone⟩
  have hfl3:=m6 (ys:=ys.take i++List.replicate k zs) (sz:=sz) (λc hc=>(hall' c hc).1)
  refine ⟨⟨hfl3,.inr ⟨w.heap.size,_,_,by rw [l3,hlen],hC.below.size,heap_alloc_new w.drew _,by rw [hlen];exact hge,hle,?_,?_⟩⟩,hall'⟩
  ·simp only [Array.size_append,hzs,List.size_toArray,hfl,hsz]
   rw [← Nat.add_mul,← Nat.add_mul]
   congr 1
   omega
  ·rw [hlen] at hfl3 ⊢
   simp only [Array.toList_append]
   rw [List.take_append_of_le_length (by simp [hzs,hfl,hsz,Nat.add_mul]),hzf,← List.flatten_append,← hfl3,List.take_length]
theorem b4Q {x y:Operand} {f:FuncId} {fn:Func} {ts:Array TypeId} {t tr e e' sz by_ id id' i n sz':Nat} {zs:List Value} {ys ys' gs':List (List Value)} (G:Good P tb) (hf:P.funcs[f]?=some fn) (hname:(fn.name == "runtime.NumGoroutine")=false) (hb:fn.body.isNone=true) (hn:Extern.findNext fn=none) (he:Extern.find fn=some (Extern.SlicesOverlaps.overlaps #[t,t] #[tr]))
 (ho:o.op=.call { callee:=.value (.func f),args:=#[x,y],argTypes:=ts }) (ht:look t tb=some (.slice e sz by_ zs)) (hx:ev T x=some (.own id)) (hm:mem m id=some (.row e' sz ys)) (hpos:0 < ys.length) (hy:ev T y=some (.sub id' sz' i n)) (hm':mem m id'=some (.spare e sz ys' gs')) (hne:Nat.beq id id'=false) (hn0:0 < n) (hsz:0 < sz) (hpos':0 < ys'.length):QStep P o T m nx nt (.v (.bool false)) :=
 QStep.run λw0 ρ a w hT hC=>by
  have h1:=hT.ev hx
  have h2:=hT.ev hy
  simp only [RelV] at h1 h2
  obtain ⟨hid',A,cap,hey,hcap,hA,_⟩:=h2
  obtain ⟨g',l,c,hg',rfl⟩:=hA hn0
  refine ⟨.bool false,by simp only [RelV],λw' hC'=>?_⟩
  obtain ⟨hrow,_⟩:=hC'.row hm
  obtain ⟨g2,cur',hsl',hB',hb',hcur',hmax',hall'⟩:=hC'.spare hm'
  have hgg:g'=g2:=by rw [hg'] at hsl';simp at hsl';exact hsl'.1
  subst hgg
  rcases hrow.2 with ⟨_,hz⟩ | ⟨g,cp,cur,hsl,hB,hbb,hcp,hcpm,hcur,_⟩
  ·omega
  ·have hgne:g≠g':=λe=>hC'.apart id id' _ _ hm hm' (N6 hne) g (by rw [hsl];rfl) (by rw [hsl',e];rfl)
   obtain ⟨_,_,inf,z,hinf,hs2,_⟩:=G t _ ht
   have hu:=(G t _ ht).1
   have hk:cur'.size≠0:=by
    have h3:=congrArg List.length hcur'
    rw [m6 hall',List.length_append] at h3
    simp at h3
    rw [h3]
    exact Nat.pos_iff_ne_zero.mp (Nat.mul_pos J hsz)
   have hrun:=Lib.run_overlaps_apart (P:=P) w' t tr e hu sz (λw=>by simp [Go.sizeOf,typeInfo,hinf,hs2]) ⟨g,0,none⟩ ⟨g',i * sz',none⟩ ys.length cp n cap hgne e' e cur.size cur'.size (by simp [World.shape?,hbb]) (by simp [World.shape?,hb']) hk (by simp [World.frozen?,hbb]) (by simp [World.frozen?,hbb])
   have hext:=run_callFunc_extern hf hname hb hn he #[a.eval x,a.eval y] w'
   rw [h1.2,hsl,hey] at hext
   have e1:(callFunc f #[a.eval x,a.eval y]).run P w'=.ok (.value (.bool false)) w':=by
    simp_all
   have e2:(execOp a.eval o).run P w'=(callFunc f #[a.eval x,a.eval y]).run P w':=by
    have hev:a.eval (.func f)=.func (.func f) #[] #[]:=rfl
    simp only [execOp,ho,resolve,hev,Deferred.ofValue,invoke,List.map_toArray,List.map_cons,List.map_nil]
    simp
   rw [e2,e1]
theorem b8c {α:Type} {l z:List α} {v:α} (hi:i<=l.length) (hz:z.length=l.length+1 - i) :
 (((l.take i++z).take i++[v]++(l.take i++z).drop (i+1)).take (i+1)++l.drop i++((l.take i++z).take i++[v]++(l.take i++z).drop (i+1)).drop (i+1+(l.length - i)))=l.take i++[v]++l.drop i:=by
 have hti:(l.take i).length=i:=by rw [List.length_take];omega
 have e1:(l.take i++z).take i=l.take i:=by rw [List.take_append_of_le_length J,List.take_take,Nat.min_self]
 have hlen:(l.take i++[v]++(l.take i++z).drop (i+1)).length=l.length+1:=by simp;omega
 rw [e1]
 have e2:(l.take i++[v]++(l.take i++z).drop (i+1)).take (i+1)=l.take i++[v]:=by
  grind
 (simp_all;omega)
theorem b3L {α:Type} {l g:List α} {v:α} (hi:i<=l.length) (hg:0 < g.length) :
 ((((l++g).take (l.length+1)).take (i+1)++l.drop i++((l++g).take (l.length+1)).drop (i+1+(l.length - i))).take i++[v]++(((l++g).take (l.length+1)).take (i+1)++l.drop i++((l++g).take (l.length+1)).drop (i+1+(l.length - i))).drop (i+1))=l.take i++[v]++l.drop i:=by
 have hY:((l++g).take (l.length+1)).length=l.length+1:=by simp;omega
 have e0:((l++g).take (l.length+1)).drop (i+1+(l.length - i))=[]:=List.drop_of_length_le J
 grind
theorem c0S {a:Act} {tx:Nat} {row:Row} (hT:RelT w0.w ρ T nx nt a) (hC:RelC w0 ρ m nx w) (hx:look tx T=some (.own id)) (hm:mem m id=some row) (hf:rowRefs 0 row=true) (hT':a5z id T [] []=some T') :
 RelT w0.w (upd ρ nx (ρ id)) ((tx,.own nx) :: T') (nx+1) nt a/\RelC w0 (upd ρ nx (ρ id)) ((nx,some row) :: (id,none) :: m) (nx+1) w:=by
 have hxe:=hT.tmps _ _ hx
 simp only [RelV] at hxe
 have hsub:∀i r,mem ((id,none) :: m) i=some r→mem m i=some r/\i≠id:=λi r hr=>by
  grind [l5,e7]
 have hC2:RelC w0 ρ ((id,none) :: m) nx w:=hC.sub λi r hr=>(hsub i r hr).1
 refine ⟨⟨λt x hx'=>?_,hT.size,hT.defers⟩,hC2.add ?_ ?_ ?_⟩
 ·by_cases e:tx=t
  ·subst e
   simp [look] at hx'
   subst hx'
   simp only [RelV]
   exact ⟨by omega,by rw [l3];exact hxe.2⟩
  ·have hl:look t T'=some x:=by simpa [look,show tx.beq t=false from Bool.eq_false_iff.mpr (λh=>e (Nat.eq_of_beq_eq_true h))] using hx'
   rw [a6G] at hT'
   cases hT'
   rcases U5 _ _ _ _ _ hl (by simp) with h2 | ⟨_,h2,h3⟩
   ·simp [look] at h2
   ·exact (hT.add (ρ id)).tmps t x h2
 ·exact RowRel.move (w0:=w0) (hC.rows id _ hm).2 hf (l3 _ _ _)
 ·intro b hb
  refine ⟨λi r hr hb'=>?_,?_⟩
  ·obtain ⟨h1,h2⟩:=hsub i r hr
   exact hC.foot_apart h1 hm h2 hb' hb
  ·rcases hb with hb | ⟨p,hb⟩
   ·exact hC.kept.2.2 id _ hm _ hb
   ·exact (hC.inner id _ hm p b hb).1
 ·intro p b hb
  obtain ⟨_,_,_,g4⟩:=hC.inner id _ hm p b hb
  grind
theorem a1n {tx id:Nat} {row:Row} {T':List (Nat×AV)} (nx':Nat) (hn':Nat.beq nx' (Nat.succ nx)=true) (hx:look tx T=some (.own id)) (hm:mem m id=some row) (hT':a5z id T [] []=some T') (hf:rowRefs 0 row=true)
 (hk:WX P w0 ops o rest ⟨(tx,.own nx) :: T',(nx,some row) :: (id,none) :: m,nx',nt⟩ Q):WX P w0 ops o rest ⟨T,m,nx,nt⟩ Q:=by
 have hn'':=Nat.eq_of_beq_eq_true hn'
 subst hn''
 intro ρ a w hT hC
 obtain ⟨h1,h2⟩:=c0S hT hC hx hm hf hT'
 exact hk _ a w h1 h2
theorem c7t {α:Type} {L L0:List α} {p:α→Prop} (h:L=L0) (h0:∀c∈L0,p c):∀c∈L,p c:=h▸h0
theorem c0T {α:Type} {l g:List α} {A L:Nat} (hi:i<=l.length) (hA:A=i) (hB:L<=B) (hL:L=l.length - i) (hN:N=l.length+1):l.drop i=((((l++g).take N).drop A).take B).take L:=by
 grind
end
section
variable {P:Program} [Env P] {w0:Base} {T:List (Nat×AV)} {m:List (Nat×Option Row)} {nx nt:Nat} {Q:Exit→St→Prop} {c:Code}
theorem c0U {sz:Nat} (ys':List (List Value)) (hm:mem m id=some (.row e sz ys)) (h:ys=ys') (hk:W P w0 c ⟨T,(id,some (.row e sz ys')) :: m,nx,nt⟩ Q):W P w0 c ⟨T,m,nx,nt⟩ Q:=by
 subst h
 intro ρ a w hT hC
 exact hk ρ a w hT (hC.retell hm (hC.rows id _ hm).2)
end
theorem b4R {p:Nat→Prop} (h:∀j,j < i→p j) (hi:p i):∀j,j < i+1→p j:=s4 h hi
def Gh (w0:Base) (S S':St):Prop:=∀ρ a w,RelT w0.w ρ S.T S.nx S.nt a→RelC w0 ρ S.m S.nx w→∃ρ',RelT w0.w ρ' S'.T S'.nx S'.nt a/\RelC w0 ρ' S'.m S'.nx w
section
variable {P:Program} [Env P] {w0:Base} {ops:Array Oper} {tb:List (Nat×TyI)} {o:Oper} {rest:List Oper} {T:List (Nat×AV)} {m m':List (Nat×Option Row)} {nx nt d:Nat} {Q:Exit→St→Prop} {c:Code}
theorem J6 (h:Gh w0 S S') (hk:W P w0 c S' Q):W P w0 c S Q:=λρ a w hT hC=>let ⟨ρ',h1,h2⟩:=h ρ a w hT hC;hk ρ' a w h1 h2
theorem r9 (h:Gh w0 S S') (hk:WL P w0 ops rest S' Q):WL P w0 ops rest S Q:=λρ a w hT hC=>let ⟨ρ',h1,h2⟩:=h ρ a w hT hC;hk ρ' a w h1 h2
theorem I0 (h:Gh w0 S S') (hk:WX P w0 ops o rest S' Q):WX P w0 ops o rest S Q:=λρ a w hT hC=>let ⟨ρ',h1,h2⟩:=h ρ a w hT hC;hk ρ' a w h1 h2
theorem a3P {fuel:Nat} {listed:Array Bool} {K:St→Prop} (h:Gh w0 S S') (hk:WA P w0 ops m0 fuel listed S' K):WA P w0 ops m0 fuel listed S K:=λhs ρ a w hT hC hS=>let ⟨ρ',h1,h2⟩:=h ρ a w hT hC;hk hs ρ' a w h1 h2 hS
theorem Gh.trans {S'':St} (h:Gh w0 S S') (h':Gh w0 S' S''):Gh w0 S S'':=λρ a w hT hC=>let ⟨ρ',h1,h2⟩:=h ρ a w hT hC;h' ρ' a w h1 h2
theorem b4S {α:Type} {c cs:List α} (h:k+cs.length<=c.length):(c.take k++cs++c.drop (k+cs.length))[j]?=if k<=j/\j < k+cs.length then cs[j - k]? else c[j]?:=by
 have hk:(c.take k).length=k:=by rw [List.length_take];omega
 grind
theorem b4T {α:Type} {c cs:List α} (h:k+cs.length<=c.length):(c.take k++cs++c.drop (k+cs.length)).length=c.length:=by simp;omega
def a8P:List Nat→List (Nat×Option Row)→List (Nat×Option Row)
 | [],m=>m
 | i :: r,m=>(i,none) :: a8P r m
theorem a45:∀{ids:List Nat} {id:Nat} {r:Row},mem (a8P ids m) id=some r→id∉ids/\mem m id=some r
 | [],_,_,h=>⟨by simp,h⟩
 | i :: ids,id,r,h=>by
  simp only [a8P] at h
  by_cases e:i=id
  ·subst e;rw [l5] at h;cases h
  ·rw [e7 e] at h
   obtain ⟨h1,h2⟩:=a45 h
   grind
theorem RelC.renest {row row':Row} {v':Value} (hC:RelC w0 ρ m nx w) (hp:w0.n0<=id∨v'=ρ id) (hm:mem m id=some row) (hf:freeM id m=true∨v'=ρ id) (hob:blk (ρ id)=(ρ id).ownBlock) (hob':blk v'=v'.ownBlock) (hid:id∉ids)
 (hgr:w.grownBy w' (ρ id).ownBlock) (hat:v'.ownBlock=(ρ id).ownBlock∨v'.ownBlock=some w.heap.size) (hrow':RowRel w0 (upd ρ id v') nx w' id row')
 (hmem:∀p b,inn w' v' row' p=some b→(∃p0,inn w (ρ id) row p0=some b)∨∃id' r',id'∈ids/\mem m id'=some r'/\S8 w (ρ id') r' b) (hinj:∀p p' b,inn w' v' row' p=some b→inn w' v' row' p'=some b→p=p'):RelC w0 (upd ρ id v') (a8P ids ((id,some row') :: m)) nx w':=by
 have hs:∀i r,mem (a8P ids ((id,some row') :: m)) i=some r→(i=id/\r=row')∨(i≠id/\i∉ids/\mem m i=some r):=λi r hr=>by
  obtain ⟨h1,h2⟩:=a45 hr
  by_cases e:id=i
  ·subst e;rw [l5] at h2;cases h2;exact .inl ⟨Z,Z⟩
  ·rw [e7 e] at h2;exact .inr ⟨Ne.symm e,h1,h2⟩
 have hval:∀i,i≠id→upd ρ id v' i=ρ i:=λi hi=>m3 ρ _ hi
 have hBg:∀k,(ρ id).ownBlock=some k→w0.w.heap.size<=k:=λk hk=>((hC.rows id row hm).2.blk_lt (by rw [hob];exact hk)).1
 have hother:∀i r,mem m i=some r→i≠id→∀b,S8 w (ρ i) r b→w'.heap[b]?=w.heap[b]?:=λi r hr hne b hb=>by
  refine hgr.block b (hC.foot_lt hr hb) λe=>?_
  rw [← hob] at e
  exact hC.foot_apart hr hm hne hb (.inl e.symm)
 have hmain:∀b,blk v'=some b→blk (ρ id)=some b∨b=w.heap.size:=λb hb=>by
  grind
 have hinn:∀i r,mem m i=some r→i≠id→∀p,inn w' (ρ i) r p=inn w (ρ i) r p:=λi r hr hne=>Z7 λb hb=>hother i r hr hne b (.inl hb)
 have hwas:∀p b,inn w' v' row' p=some b→∃i r,mem m i=some r/\(i=id∨i∈ids)/\S8 w (ρ i) r b/\(i=id→∃p0,inn w (ρ id) r p0=some b):=λp b hb=>by
  rcases hmem p b hb with ⟨p0,h⟩ | ⟨id',r',h1,h2,h3⟩
  ·exact ⟨id,row,hm,.inl Z,.inr ⟨p0,h⟩,λ_=>⟨p0,h⟩⟩
  grind
 refine ⟨λi r hr=>?_,λi i' r r' hr hr' hne b hb=>?_,hC.below.grown hgr hC.below.size hBg,⟨hC.pin.1,λi hi=>?_⟩,⟨Nat.le_trans hC.kept.1 hgr.size,λb hk=>(hgr.block b (Nat.lt_of_lt_of_le (w0.kb b hk) hC.kept.1) (λe=>hC.kept.2.2 id _ hm b (by rw [hob];exact e.symm) hk)).trans (hC.kept.2.1 b hk),λi r hr b hb hk=>?_⟩,λi r hr p b hb=>?_⟩
 ·rcases hs i r hr with ⟨rfl,rfl⟩ | ⟨h1,h2,h3⟩
  ·exact ⟨(hC.rows i row hm).1,hrow'⟩
  ·obtain ⟨h4,h5⟩:=hC.rows i r h3
   have h6:=h5.frame (λb hb=>hother i r h3 h1 b (.inl hb)) λp b hb=>hother i r h3 h1 b (.inr ⟨p,hb⟩)
   refine ⟨h4,?_⟩
   rcases hf with hf | hf
   ·exact h6.updRho hf h3 h1
   ·subst hf
    have e:upd ρ id (ρ id)=ρ:=by funext j;unfold upd;split<;>simp_all
    rw [e];exact h6
 ·rcases hs i r hr with ⟨rfl,rfl⟩ | ⟨h1,h2,h3⟩
  ·rcases hs i' r' hr' with ⟨rfl,rfl⟩ | ⟨g1,g2,g3⟩
   ·exact absurd Z hne
   ·rw [l3] at hb
    rw [hval i' g1]
    rcases hmain b hb with h | h
    ·exact hC.apart i i' _ _ hm g3 hne b h
    ·intro hb';have:=hC.lt g3 hb';omega
  ·rw [hval i h1] at hb
   rcases hs i' r' hr' with ⟨rfl,rfl⟩ | ⟨g1,g2,g3⟩
   ·rw [l3]
    intro hb'
    rcases hmain b hb' with h | h
    ·exact hC.apart i i' _ _ h3 hm hne b hb h
    ·have:=hC.lt h3 hb;omega
   ·rw [hval i' g1]
    exact hC.apart i i' _ _ h3 g3 hne b hb
 ·by_cases e:i=id
  ·subst e
   rcases hp with hp | hp
   ·omega
   ·rw [l3,hp];exact hC.pin.2 i hi
  ·rw [hval i e];exact hC.pin.2 i hi
 ·rcases hs i r hr with ⟨rfl,rfl⟩ | ⟨h1,h2,h3⟩
  ·rw [l3] at hb
   rcases hmain b hb with h | h
   ·exact hC.kept.2.2 i _ hm b h hk
   ·subst h;exact hC.fresh (Nat.le_refl _) hk
  ·rw [hval i h1] at hb
   exact hC.kept.2.2 i r h3 b hb hk
 ·rcases hs i r hr with ⟨rfl,rfl⟩ | ⟨h1,h2,h3⟩
  ·rw [l3] at hb
   obtain ⟨j,rj,g1,g2,g3,g3'⟩:=hwas p b hb
   refine ⟨?_,?_,Nat.lt_of_lt_of_le (hC.foot_lt g1 g3) hgr.size,λi' r' hr'=>?_⟩
   ·rcases g3 with g3 | ⟨p0,g3⟩
    ·exact hC.kept.2.2 j rj g1 b g3
    ·exact (hC.inner j rj g1 p0 b g3).1
   ·rcases g3 with g3 | ⟨p0,g3⟩
    ·exact ((hC.rows j rj g1).2.blk_lt g3).1
    ·exact (hC.inner j rj g1 p0 b g3).2.1
   ·rcases hs i' r' hr' with ⟨rfl,rfl⟩ | ⟨q1,q2,q3⟩
    ·rw [l3]
     refine ⟨λhb'=>?_,λp' hp'=>⟨Z,hinj p p' b hb hp'⟩⟩
     rcases hmain b hb' with h | h
     ·by_cases e:j=i'
      ·obtain ⟨p0,h0⟩:=g3' e
       subst e
       exact hC.blkne g1 hm h0 h
      ·exact hC.foot_apart g1 hm e g3 (.inl h)
     ·have:=hC.foot_lt g1 g3;omega
    ·rw [hval i' q1]
     have hji:j≠i':=λe=>by
      grind
     refine ⟨λhb'=>hC.foot_apart g1 q3 hji g3 (.inl hb'),λp' hp'=>?_⟩
     rw [hinn i' r' q3 q1] at hp'
     exact absurd (.inr ⟨p',hp'⟩) (hC.foot_apart g1 q3 hji g3)
  ·rw [hval i h1,hinn i r h3 h1] at hb
   obtain ⟨g1,g2,g3,g4⟩:=hC.inner i r h3 p b hb
   refine ⟨g1,g2,Nat.lt_of_lt_of_le g3 hgr.size,λi' r' hr'=>?_⟩
   rcases hs i' r' hr' with ⟨rfl,rfl⟩ | ⟨q1,q2,q3⟩
   ·rw [l3]
    refine ⟨λhb'=>?_,λp' hp'=>?_⟩
    ·grind
    ·obtain ⟨j,rj,k1,k2,k3,_⟩:=hwas p' b hp'
     have hij:i≠j:=λe=>by
      grind
     exact absurd k3 (hC.foot_apart h3 k1 hij (.inr ⟨p,hb⟩))
   grind
end
section
variable {P:Program} [Env P] {w0:Base} {ops:Array Oper} {tb:List (Nat×TyI)} {o:Oper} {rest:List Oper} {T:List (Nat×AV)} {m m':List (Nat×Option Row)} {nx nt d:Nat} {Q:Exit→St→Prop} {c:Code}
theorem RelC.nestC (hC:RelC w0 ρ m nx w) {id e sz:Nat} {yss:List (List CI)} {op:List (Nat×Nat×Nat)} (hm:mem m id=some (.nest e sz yss op)):id < nx/\∃cells,NestC w0.w.heap.size w (ρ id) e sz yss cells/\∀q∈op,q.2.2 < nx/\C0 yss q.1 q.2.1=some .x/\C0 cells q.1 q.2.1=some (ρ q.2.2):=hC.rows id _ hm
theorem NestC.blkOwn {sz:Nat} {cells:List (List Value)} (h:NestC B w y e sz yss cells):blk y=y.ownBlock:=a3g h.1
theorem b4U (w:World) (r:Option Nat):w.grownBy w r:=⟨Z,Z,Z,Nat.le_refl _,λ_ _ _=>Z⟩
theorem a6Y (ρ:Nat→Value) (id:Nat):upd ρ id (ρ id)=ρ:=by funext j;unfold upd;split<;>simp_all
theorem a96 {sz:Nat}:inn w y (.nest e sz yss op) p=A3 w y sz yss p:=rfl
theorem a97 {sz:Nat} (h:A3 w y sz yss' p=some b) (hy:∀e s ys f,C0 yss' p.1 p.2=some (.l e s ys f)→∃e' s' ys' f',C0 yss p.1 p.2=some (.l e' s' ys' f')):A3 w y sz yss p=some b:=by
 unfold A3 at h ⊢
 grind
theorem b3M {yss:List (List CI)} {i k:Nat} {cs:List CI} {z:CI} (hi:yss[i]?=some cs) (i' k':Nat):C0 (yss.set i (cs.set k z)) i' k'=if i'=i/\k'=k/\k < cs.length then some z else C0 yss i' k':=by
 grind [C0]
theorem b3N {sz:Nat} {z:CI} (hi:yss[i]?=some cs) (hall:∀c∈yss,c.length=sz):∀c∈yss.set i (cs.set k z),c.length=sz:=λc hc=>by
 grind
theorem Gh.open {id e sz i k e' sz':Nat} {yss yss':List (List CI)} {op:List (Nat×Nat×Nat)} {cs:List CI} {ys:List (List Value)} {f:Bool} (nx':Nat) (hn':Nat.beq nx' (Nat.succ nx)=true) (hm:mem m id=some (.nest e sz yss op)) (hi:yss[i]?=some cs) (hk:cs[k]?=some (.l e' sz' ys f)) (hy:yss.set i (cs.set k .x)=yss') :
 Gh w0 ⟨T,m,nx,nt⟩ ⟨T,(id,some (.nest e sz yss' ((i,k,nx) :: op))) :: (nx,some (.row e' sz' ys f)) :: m,nx',nt⟩:=by
 have hn'':=Nat.eq_of_beq_eq_true hn'
 subst hn''
 subst hy
 intro ρ a w hT hC
 obtain ⟨hlt,cells,hN,hop⟩:=hC.nestC hm
 have hc:C0 yss i k=some (.l e' sz' ys f):=D8.2 ⟨cs,hi,hk⟩
 have hkl:=(List.getElem?_eq_some_iff.1 hk).1
 obtain ⟨u,hu,hrow,hinn⟩:=hN.at hc
 have hset:=b3M (k:=k) (z:=CI.x) hi
 have hNC:NestC w0.w.heap.size w (ρ id) e sz (yss.set i (cs.set k .x)) cells:=by
  refine ⟨by rw [List.length_set];exact hN.1,by rw [List.length_set];exact hN.2.1,hN.2.2.1,b3N hi hN.2.2.2.1,λi' k' c hc'=>?_⟩
  rw [hset] at hc'
  split at hc'
  ·rename_i h
   cases hc'
   exact ⟨u,by rw [h.1,h.2.1];exact hu,trivial⟩
  ·exact hN.2.2.2.2 i' k' c hc'
 have hsub:∀p b,A3 w (ρ id) sz (yss.set i (cs.set k .x)) p=some b→A3 w (ρ id) sz yss p=some b/\p≠(i,k):=λp b hb=>by
  refine ⟨a97 hb λe s ys f h=>?_,λe=>?_⟩
  ·rw [hset] at h
   split at h
   ·cases h
   ·exact ⟨_,_,_,_,h⟩
  ·subst e
   unfold A3 at hb
   rw [hset,if_pos ⟨Z,Z,hkl⟩] at hb
   cases hb
 have hC1:RelC w0 ρ ((id,some (.nest e sz (yss.set i (cs.set k .x)) [])) :: m) nx w:=hC.retell hm ⟨cells,hNC,λq hq=>by cases hq⟩ (λp b hb=>(hsub p b hb).1)
 have hC2:RelC w0 (upd ρ nx u) ((nx,some (.row e' sz' ys f)) :: (id,some (.nest e sz (yss.set i (cs.set k .x)) [])) :: m) (nx+1) w:=by
  refine hC1.add ?_ (λb hb=>?_) (λp b hb=>by cases hb)
  ·simp only [RowRel];rw [l3];exact hrow
  ·rcases hb with hb | ⟨p,hb⟩
   ·have hb1:inn w (ρ id) (.nest e sz yss op) (i,k)=some b:=by rw [a96,hinn];exact hb
    obtain ⟨g1,_,_,g4⟩:=hC.inner id _ hm _ b hb1
    refine ⟨λi' r' hr' hf=>?_,g1⟩
    by_cases e1:id=i'
    ·subst e1
     rw [l5] at hr'
     cases hr'
     rcases hf with hf | ⟨p',hf⟩
     ·exact (g4 id _ hm).1 hf
     ·obtain ⟨h1,h2⟩:=hsub p' b hf
      exact h2 ((g4 id _ hm).2 p' h1).2.symm
    ·rw [e7 e1] at hr'
     rcases hf with hf | ⟨p',hf⟩
     ·exact (g4 i' r' hr').1 hf
     ·exact e1 ((g4 i' r' hr').2 p' hf).1
   ·cases hb
 have hne:nx≠id:=Nat.ne_of_gt hlt
 have hm2:mem ((nx,some (Row.row e' sz' ys f)) :: (id,some (.nest e sz (yss.set i (cs.set k .x)) [])) :: m) id=some (.nest e sz (yss.set i (cs.set k .x)) []):=by rw [e7 hne,l5]
 have hupd:∀j,j < nx→upd ρ nx u j=ρ j:=λj hj=>m3 ρ u J
 refine ⟨upd ρ nx u,hT.add u,(hC2.retell hm2 (row':=.nest e sz (yss.set i (cs.set k .x)) ((i,k,nx) :: op)) ⟨cells,by rw [hupd id hlt];exact hNC,λq hq=>?_⟩ (λp b h=>h)).sub λi' r' hr'=>?_⟩
 ·rcases List.mem_cons.1 hq with rfl | hq
  ·refine ⟨Nat.lt_succ_self nx,?_,?_⟩
   ·rw [hset,if_pos ⟨Z,Z,hkl⟩]
   ·rw [l3];exact hu
  ·obtain ⟨g1,g2,g3⟩:=hop q hq
   refine ⟨Nat.lt_succ_of_lt g1,?_,by rw [hupd _ g1];exact g3⟩
   rw [hset]
   split
   ·rfl
   ·exact g2
 ·by_cases e1:id=i'
  ·subst e1;rw [l5] at hr' ⊢;exact hr'
  ·rw [e7 e1] at hr' ⊢
   by_cases e2:nx=i'
   ·subst e2;rw [l5] at hr' ⊢;exact hr'
   ·rw [e7 e2] at hr' ⊢;rw [e7 e1];exact hr'
theorem Gh.detach {id e sz:Nat} {yss:List (List CI)} {q:Nat×Nat×Nat} {op:List (Nat×Nat×Nat)} (hm:mem m id=some (.nest e sz yss (q :: op))):Gh w0 ⟨T,m,nx,nt⟩ ⟨T,(id,some (.nest e sz yss op)) :: m,nx,nt⟩:=by
 intro ρ a w hT hC
 obtain ⟨hlt,cells,hN,hop⟩:=hC.nestC hm
 exact ⟨ρ,hT,hC.retell hm ⟨cells,hN,λq hq=>hop q (List.mem_cons_of_mem _ hq)⟩ λp b h=>h⟩
theorem RelVs.forget:∀{cs:List AV} {us:List Value} (k:Nat),RelVs w0 ρ nx cs us→RelVs w0 ρ nx (cs.set k .any) us
 | [],us,k,h=>by simpa using h
 | c :: cs,_,0,h=>by
  grind [RelVs,RelV]
 | c :: cs,_,k+1,h=>by
  simp only [RelVs] at h
  obtain ⟨u,us,rfl,h1,h2⟩:=h
  simp only [List.set_cons_succ,RelVs]
  exact ⟨_,_,Z,h1,RelVs.forget k h2⟩
def b7c:List AV→Nat→List AV→Option (List AV)
 | [],_,acc=>a3a acc []
 | _ :: r,0,acc=>b7c r (r.length+1) (.any :: acc)
 | x :: r,k+1,acc=>b7c r k (x :: acc)
theorem b1u {w0:World}:∀{cs:List AV} {k:Nat} {acc rs:List AV} {us acc':List Value},b7c cs k acc=some rs→RelVs w0 ρ nx cs us→RelVs w0 ρ nx acc.reverse acc'→RelVs w0 ρ nx rs (acc'++us)
 | [],_,acc,rs,us,acc',h,hr,ha=>by
  simp [b7c,F9] at h
  simp only [RelVs] at hr
  subst h;subst hr
  simpa using ha
 | c :: cs,k,acc,rs,us,acc',h,hr,ha=>by
  simp only [RelVs] at hr
  obtain ⟨u,us,rfl,h1,h2⟩:=hr
  have key:∀(a:AV) (k':Nat),RelV w0 ρ nx a u→b7c cs k' (a :: acc)=some rs→RelVs w0 ρ nx rs (acc'++u :: us):=λa k' hu h'=>by
   have:=b1u h' h2 (acc':=acc'++[u]) (by
    rw [List.reverse_cons]
    refine RelVs.append _ ha ?_
    simp only [RelVs]
    exact ⟨_,_,Z,hu,Z⟩)
   simpa using this
  cases k with
  | zero=>exact key .any _ (by simp only [RelV]) h
  | succ k=>exact key c k h1 h
theorem Gh.forget {id k:Nat} {cs cs':List AV} (hm:mem m id=some (.box cs)) (h:b7c cs k []=some cs'):Gh w0 ⟨T,m,nx,nt⟩ ⟨T,(id,some (.box cs')) :: m,nx,nt⟩:=by
 intro ρ a w hT hC
 obtain ⟨b,cur,ty,hρ,hB,hb,hR,hone⟩:=hC.box hm
 exact ⟨ρ,hT,hC.retell hm ⟨b,cur,ty,hρ,hB,hb,by simpa using b1u (acc':=[]) h hR (by simp [RelVs]),hone⟩⟩
theorem Gh.close {id id' e sz i k e' sz':Nat} {yss yss':List (List CI)} {op:List (Nat×Nat×Nat)} {cs:List CI} {ys:List (List Value)} {f:Bool} (hm:mem m id=some (.nest e sz yss ((i,k,id') :: op))) (hm':mem m id'=some (.row e' sz' ys f)) (hi:yss[i]?=some cs) (hop':∀q∈op,¬ (q.1=i/\q.2.1=k)) (hy:yss.set i (cs.set k (.l e' sz' ys f))=yss') :
 Gh w0 ⟨T,m,nx,nt⟩ ⟨T,(id',none) :: (id,some (.nest e sz yss' op)) :: m,nx,nt⟩:=by
 subst hy
 intro ρ a w hT hC
 obtain ⟨hlt,cells,hN,hop⟩:=hC.nestC hm
 obtain ⟨h1,h2,h3⟩:=hop (i,k,id') (List.mem_cons_self)
 simp only at h1 h2 h3
 have hkl:k < cs.length:=by
  grind [D8]
 have hset:=b3M (k:=k) (z:=CI.l e' sz' ys f) hi
 have hrow':=hC.rowF hm'
 have hNC:NestC w0.w.heap.size w (ρ id) e sz (yss.set i (cs.set k (.l e' sz' ys f))) cells:=by
  refine ⟨by rw [List.length_set];exact hN.1,by rw [List.length_set];exact hN.2.1,hN.2.2.1,b3N hi hN.2.2.2.1,λi' k' c hc'=>?_⟩
  rw [hset] at hc'
  split at hc'
  ·rename_i h
   cases hc'
   exact ⟨_,by rw [h.1,h.2.1];exact h3,hrow'⟩
  ·exact hN.2.2.2.2 i' k' c hc'
 have hwas:∀p b,A3 w (ρ id) sz (yss.set i (cs.set k (.l e' sz' ys f))) p=some b→(p=(i,k)/\blk (ρ id')=some b)∨(p≠(i,k)/\A3 w (ρ id) sz yss p=some b):=λp b hb=>by
  by_cases e1:p=(i,k)
  ·subst e1
   obtain ⟨u,g1,_,g3⟩:=hNC.at (i:=i) (k:=k) (by rw [hset,if_pos ⟨Z,Z,hkl⟩])
   grind
  ·grind [a97]
 have hne:id≠id':=λe=>by subst e;rw [hm] at hm';cases hm'
 refine ⟨ρ,hT,?_⟩
 have:=hC.renest (ids:=[id']) (row':=.nest e sz (yss.set i (cs.set k (.l e' sz' ys f))) op) (v':=ρ id) (.inr Z) hm (.inr Z) hN.blkOwn hN.blkOwn (by simpa using hne) (b4U w _) (.inl Z) ?_ (λp b hb=>?_) (λp p' b hb hb'=>?_)
 ·rw [a6Y] at this;exact this
 ·rw [a6Y]
  refine ⟨cells,hNC,λq hq=>?_⟩
  grind
 ·rcases hwas p b hb with ⟨_,h⟩ | ⟨_,h⟩
  ·exact .inr ⟨id',_,by simp,hm',.inl h⟩
  ·exact .inl ⟨p,h⟩
 ·rcases hwas p b hb with ⟨rfl,h⟩ | ⟨_,h⟩<;>rcases hwas p' b hb' with ⟨rfl,h'⟩ | ⟨_,h'⟩
  ·rfl
  ·exact absurd h (hC.blkne hm hm' h')
  ·exact absurd h' (hC.blkne hm hm' h)
  ·exact ((hC.inner id _ hm p b h).2.2.2 id _ hm).2 p' h' |>.2
inductive Absorb (m:List (Nat×Option Row)):List AV→List CI→List Nat→Prop
 | nil:Absorb m [] [] []
 | v {x:Value} {as:List AV} {cs:List CI} {ids:List Nat} (hx:x.oneCell'=true) (h:Absorb m as cs ids):Absorb m (.v x :: as) (.v x :: cs) ids
 | nils {e sz:Nat} {f:Bool} {as:List AV} {cs:List CI} {ids:List Nat} (h:Absorb m as cs ids):Absorb m (.v (.slice none 0 0) :: as) (.l e sz [] f :: cs) ids
 | own {id e sz:Nat} {ys:List (List Value)} {f:Bool} {as:List AV} {cs:List CI} {ids:List Nat} (hm:mem m id=some (.row e sz ys f)) (h:Absorb m as cs ids):Absorb m (.own id :: as) (.l e sz ys f :: cs) (id :: ids)
theorem Absorb.rows (h:Absorb m as cs ids):∀i∈ids,∃e sz ys f,mem m i=some (.row e sz ys f):=by
 induction h with
 | nil=>intro i hi;cases hi
 | v _ _ ih=>exact ih
 | nils _ ih=>exact ih
 | own hm _ ih =>
  grind
def a2K (ρ:Nat→Value) (m:List (Nat×Option Row)) (ids:List Nat) (cs:List CI) (us:List Value) (j b:Nat):Prop:=(∃e s ys f,cs[j]?=some (.l e s ys f))/\∃u,us[j]?=some u/\blk u=some b
theorem Absorb.spec (hC:RelC w0 ρ m nx w) {as:List AV} {cs:List CI} {ids:List Nat} (h:Absorb m as cs ids):nodupB ids=true→∀{us:List Value},RelVs w0.w ρ nx as us →
 us.length=cs.length/\(∀u∈us,u.oneCell'=true)/\(∀(j:Nat) (c:CI),cs[j]?=some c→∃u,us[j]?=some u/\CIRel w0.w.heap.size w c u)/\(∀j b,a2K ρ m ids cs us j b→∃i r,i∈ids/\mem m i=some r/\blk (ρ i)=some b) /\
 ∀j j' b,a2K ρ m ids cs us j b→a2K ρ m ids cs us j' b→j=j':=by
 induction h with
 | nil =>
  intro _ us hr
  simp only [RelVs] at hr
  subst hr
  exact ⟨Z,by simp,by simp,λj b hb=>by obtain ⟨⟨_,_,_,_,h⟩,_⟩:=hb;simp at h,λj j' b hb=>by obtain ⟨⟨_,_,_,_,h⟩,_⟩:=hb;simp at h⟩
 | @v x as cs ids hx _ ih =>
  intro hn us hr
  simp only [RelVs,RelV] at hr
  obtain ⟨u,us,rfl,rfl,hr⟩:=hr
  obtain ⟨h1,h2,h3,h4,h5⟩:=ih hn hr
  have hs:∀j b,a2K ρ m ids (.v u :: cs) (u :: us) j b→∃j0,j=j0+1/\a2K ρ m ids cs us j0 b:=λj b hb=>by
   obtain ⟨⟨e,s,ys,f,g1⟩,u',g2,g3⟩:=hb
   cases j with
   | zero=>simp at g1
   | succ j=>exact ⟨j,Z,⟨e,s,ys,f,by simpa using g1⟩,u',by simpa using g2,g3⟩
  refine ⟨by simp [h1],?_,?_,?_,?_⟩
  ·intro y hy
   rcases List.mem_cons.1 hy with rfl | hy
   ·exact hx
   ·exact h2 y hy
  ·intro j c hj
   cases j with
   | zero=>simp at hj;subst hj;exact ⟨u,Z,Z⟩
   | succ j=>simpa using h3 j c (by simpa using hj)
  ·intro j b hb
   obtain ⟨j0,_,hb⟩:=hs j b hb
   exact h4 j0 b hb
  ·intro j j' b hb hb'
   obtain ⟨j0,rfl,hb⟩:=hs j b hb
   obtain ⟨j1,rfl,hb'⟩:=hs j' b hb'
   rw [h5 j0 j1 b hb hb']
 | @nils e sz f0 as cs ids _ ih =>
  intro hn us hr
  simp only [RelVs,RelV] at hr
  obtain ⟨u,us,rfl,rfl,hr⟩:=hr
  obtain ⟨h1,h2,h3,h4,h5⟩:=ih hn hr
  have hs:∀j b,a2K ρ m ids (.l e sz [] f0 :: cs) (.slice none 0 0 :: us) j b→∃j0,j=j0+1/\a2K ρ m ids cs us j0 b:=λj b hb=>by
   obtain ⟨⟨e,s,ys,f,g1⟩,u',g2,g3⟩:=hb
   cases j with
   | zero=>simp at g2;subst g2;simp [blk] at g3
   | succ j=>exact ⟨j,Z,⟨e,s,ys,f,by simpa using g1⟩,u',by simpa using g2,g3⟩
  refine ⟨by simp [h1],?_,?_,?_,?_⟩
  ·intro y hy
   rcases List.mem_cons.1 hy with rfl | hy
   ·rfl
   ·exact h2 y hy
  ·intro j c hj
   cases j with
   | zero=>simp at hj;subst hj;exact ⟨_,Z,OwnR.nil,by simp⟩
   | succ j=>simpa using h3 j c (by simpa using hj)
  ·intro j b hb
   obtain ⟨j0,_,hb⟩:=hs j b hb
   exact h4 j0 b hb
  ·intro j j' b hb hb'
   obtain ⟨j0,rfl,hb⟩:=hs j b hb
   obtain ⟨j1,rfl,hb'⟩:=hs j' b hb'
   rw [h5 j0 j1 b hb hb']
 | @own id e sz ys f0 as cs ids hm hA ih =>
  intro hn us hr
  simp only [RelVs,RelV] at hr
  obtain ⟨u,us,rfl,⟨_,rfl⟩,hr⟩:=hr
  simp only [nodupB,Bool.and_eq_true,Bool.not_eq_true'] at hn
  obtain ⟨h1,h2,h3,h4,h5⟩:=ih hn.2 hr
  have hs:∀j b,a2K ρ m (id :: ids) (.l e sz ys f0 :: cs) (ρ id :: us) j b→(j=0/\blk (ρ id)=some b)∨∃j0,j=j0+1/\a2K ρ m ids cs us j0 b:=λj b hb=>by
   obtain ⟨⟨e,s,ys,f,g1⟩,u',g2,g3⟩:=hb
   cases j with
   | zero=>simp at g2;subst g2;exact .inl ⟨Z,g3⟩
   | succ j=>exact .inr ⟨j,Z,⟨e,s,ys,f,by simpa using g1⟩,u',by simpa using g2,g3⟩
  have hcross:∀j b,blk (ρ id)=some b→¬ a2K ρ m ids cs us j b:=λj b hb hb'=>by
   obtain ⟨i,r,q1,q2,q3⟩:=h4 j b hb'
   have hne:id≠i:=λe=>by subst e;rw [a1j q1] at hn;exact absurd hn.1 (by simp)
   exact hC.apart id i _ _ hm q2 hne b hb q3
  refine ⟨by simp [h1],?_,?_,?_,?_⟩
  ·intro y hy
   rcases List.mem_cons.1 hy with rfl | hy
   ·exact a7R hC (x:=.own id) (by simp only [c0D,hm]) (by simp only [RelV];exact ⟨(hC.rows id _ hm).1,trivial⟩)
   ·exact h2 y hy
  ·intro j c hj
   cases j with
   | zero=>simp at hj;subst hj;exact ⟨_,Z,hC.rowF hm⟩
   | succ j=>simpa using h3 j c (by simpa using hj)
  ·intro j b hb
   rcases hs j b hb with ⟨_,hb⟩ | ⟨j0,_,hb⟩
   ·exact ⟨id,_,by simp,hm,hb⟩
   ·obtain ⟨i,r,q1,q2,q3⟩:=h4 j0 b hb
    exact ⟨i,r,by simp [q1],q2,q3⟩
  ·intro j j' b hb hb'
   rcases hs j b hb with ⟨rfl,q1⟩ | ⟨j0,rfl,q1⟩<;>rcases hs j' b hb' with ⟨rfl,q2⟩ | ⟨j1,rfl,q2⟩
   ·rfl
   ·exact absurd q2 (hcross j1 b q1)
   ·exact absurd q1 (hcross j0 b q2)
   ·rw [h5 j0 j1 b q1 q2]
theorem b3O {sz:Nat} {c:List CI} (hi:yss[i]?=some c) (hall:∀c∈yss,c.length=sz) (hfit:k+cs.length<=c.length):∀c'∈yss.set i (c.take k++cs++c.drop (k+cs.length)),c'.length=sz:=λc' hc=>by
 grind
theorem a8Q {α:Type} {yss:List (List α)} {i k:Nat} {c cs:List α} (hi:yss[i]?=some c) (hfit:k+cs.length<=c.length) (i' k':Nat):C0 (yss.set i (c.take k++cs++c.drop (k+cs.length))) i' k'=if i'=i/\k<=k'/\k' < k+cs.length then cs[k' - k]? else C0 yss i' k':=by
 grind [b4S,C0]
theorem r8 {t:TypeId} {ti:TyI} {y:Operand} {sz:Nat} {c:List CI} {ay:AV} (G:Good P tb) (hd:o.dst=none) (ho:o.op=.store t x y) (ht:look t tb=some ti) (hx:ev T x=some (.rpt id sz j k)) (hm:mem m id=some (.nest e sz yss op))
 (hc:yss[j]?=some c) (hy:ev T y=some ay) (hv:C9 ay=some as) (hA:Absorb m as cs ids) (hnd:nodupB ids=true) (h1:a1D m as=true) (hl:Nat.beq as.length (X2 ti)=true) (hfit:k+cs.length<=c.length) (hop':∀q∈op,¬ (q.1=j/\k<=q.2.1/\q.2.1 < k+cs.length))
 (hres:yss.set j (c.take k++cs++c.drop (k+cs.length))=yss')
 (hk:WL P w0 ops rest ⟨T,a8P ids ((id,some (.nest e sz yss' op)) :: m),nx,nt⟩ Q):WX P w0 ops o rest ⟨T,m,nx,nt⟩ Q:=by
 subst hres
 intro ρ a w hT hC
 have hax:=hT.ev hx
 simp only [RelV] at hax
 obtain ⟨hn,g,o',l,cp,hg,he⟩:=hax
 obtain ⟨hlt,cells,hN,hop⟩:=hC.nestC hm
 obtain rfl:=hN.off hg
 rw [Nat.zero_add] at he
 obtain ⟨h2,h3⟩:=Z8 hC hv h1 (hT.ev hy)
 have hrows:=hA.rows
 have hidn:id∉ids:=λhi=>by obtain ⟨_,_,_,_,h⟩:=hrows id hi;rw [hm] at h;cases h
 obtain ⟨hul,_,hCI,hown,hinj⟩:=hA.spec hC hnd h2
 have hsz:(a.eval y).cells.size=cs.length:=by simpa using hul
 have hl':as.length=X2 ti:=Nat.eq_of_beq_eq_true hl
 have hal:=RelVs.length _ h2
 have hcl:c.length=sz:=hN.2.2.2.1 c (List.mem_of_getElem? hc)
 have hjl:j < yss.length:=(List.getElem?_eq_some_iff.1 hc).1
 have hjc:j < cells.length:=by rw [hN.2.1];exact hjl
 have hdl:cells[j]?=some cells[j]:=List.getElem?_eq_getElem hjc
 have hdn:=(hN.2.2.1 cells[j] (List.getElem_mem hjc))
 rcases hN.1.2 with ⟨hnil,_⟩ | ⟨g',cap,cur,hsl,hB,hb,hcap,hcapm,hcur,htake⟩
 ·omega
 have hgg:g=g'/\l=yss.length/\cp=cap:=by rw [hg] at hsl;simpa using hsl
 obtain ⟨rfl,rfl,rfl⟩:=hgg
 have hbd:j * sz+k+cs.length<=yss.length * sz:=by
  have:(j+1) * sz<=yss.length * sz:=Nat.mul_le_mul_right _ hjl
  grind
 have hbd2:yss.length * sz<=cur.size:=by rw [hcur];exact Nat.mul_le_mul_right _ hcap
 have hrun:=a0Z (P:=P) (G t ti ht) hb (off:=j * sz+k) (v:=a.eval y) (by simp at hal;omega) h3 J
 unfold Oper.wp
 have hr:(execOp a.eval o).run P w=.ok .skip (w.setRow g (cur.toList.take (j * sz+k)++(a.eval y).cells.toList++cur.toList.drop (j * sz+k+(a.eval y).cells.size)).toArray):=by
  simp only [execOp,ho,he,Sem.run_bind,hrun,Result.andThen_ok,Sem.run_pure]
 rw [hr,Oper.upon_skip,hd]
 generalize hw':w.setRow g (cur.toList.take (j * sz+k)++(a.eval y).cells.toList++cur.toList.drop (j * sz+k+(a.eval y).cells.size)).toArray=w'
 have hgr:w.grownBy w' (some g):=hw'▸I6 w g _
 let us:=(a.eval y).cells.toList
 have hus:us.length=cs.length:=hul
 let dd:=cells[j].take k++us++cells[j].drop (k+us.length)
 have hdd:dd.length=sz:=by rw [b4T (by rw [hus,hdn.1,← hcl];exact hfit)];exact hdn.1
 have hcells':∀c'∈cells.set j dd,c'.length=sz/\∀u∈c',u.oneCell'=true:=λc' hc'=>by
  rcases List.mem_or_eq_of_mem_set hc' with hc' | rfl
  ·exact hN.2.2.1 c' hc'
  grind
 have hblkid:blk (ρ id)=some g:=by rw [hg];rfl
 have hown':w'.ownsRow w0.w.heap.size e sz (ρ id) (yss.set j (c.take k++cs++c.drop (k+cs.length))).length (cells.set j dd).flatten:=by
  refine ⟨?_,.inr ⟨g,cp,_,by rw [hg];simp,hB,by rw [← hw'];exact setRow_heap w g cur _ e _ hb,by simpa using hcap,hcapm,?_,?_⟩⟩
  ·rw [m6 (λc hc=>(hcells' c hc).1)];simp [hN.2.1]
  ·simp [hsz];omega
  ·rw [a1E (vs:=us) (λc hc=>(hN.2.2.1 c hc).1) hdl J Z,hsz,hus,← htake]
   simp only [List.length_set]
   have hlt1:(List.take (j * sz+k) cur.toList).length=j * sz+k:=by rw [List.length_take];simp;omega
   simp only [List.take_append,List.take_take,List.drop_take,List.length_append,hlt1]
   rw [Nat.min_eq_left (by omega:j * sz+k<=yss.length * sz),Nat.min_eq_right (by omega:j * sz+k<=yss.length * sz)]
   rw [List.take_of_length_le (l:=(a.eval y).cells.toList) J,hul]
 have hnget:=a8Q (k:=k) (cs:=cs) hc hfit
 have hngetc:∀i' k',C0 (cells.set j dd) i' k'=if i'=j/\k<=k'/\k' < k+cs.length then us[k' - k]? else C0 cells i' k':=λi' k'=>by
  grind [a8Q]
 have hfr:∀b',b'≠g→b' < w.heap.size→w'.heap[b']?=w.heap[b']?:=λb' hne hlt'=>hgr.block b' hlt' (by simpa using hne)
 have hNC:NestC w0.w.heap.size w' (ρ id) e sz (yss.set j (c.take k++cs++c.drop (k+cs.length))) (cells.set j dd):=by
  refine ⟨hown',by simp [hN.2.1],hcells',b3O hc hN.2.2.2.1 hfit,λi' k' c' hc'=>?_⟩
  rw [hnget] at hc'
  rw [hngetc]
  split at hc'
  ·rename_i h
   rw [if_pos h]
   obtain ⟨u,q1,q2⟩:=hCI _ _ hc'
   refine ⟨u,q1,q2.frame ?_⟩
   rintro ⟨e',s',ys,f',rfl⟩ b' hb'
   obtain ⟨i0,r0,z1,z2,z3⟩:=hown _ b' ⟨⟨_,_,_,_,hc'⟩,u,q1,hb'⟩
   refine hfr b' (λe0=>?_) (hC.lt z2 z3)
   subst e0
   exact hC.apart i0 id _ _ z2 hm (λe0=>hidn (e0▸z1)) b' z3 hblkid
  ·rename_i h
   rw [if_neg h]
   obtain ⟨u,q1,q2⟩:=hN.2.2.2.2 i' k' c' hc'
   refine ⟨u,q1,q2.frame ?_⟩
   rintro ⟨e',s',ys,f',rfl⟩ b' hb'
   obtain ⟨u',q3,_,q5⟩:=hN.at hc'
   rw [q1] at q3;cases q3
   have hi0:inn w (ρ id) (.nest e sz yss op) (i',k')=some b':=by rw [a96,q5];exact hb'
   refine hfr b' (λe0=>?_) (hC.inner id _ hm _ b' hi0).2.2.1
   subst e0
   exact hC.blkne hm hm hi0 hblkid
 have hwas:∀p b',A3 w' (ρ id) sz (yss.set j (c.take k++cs++c.drop (k+cs.length))) p=some b'→(p.1=j/\k<=p.2/\p.2 < k+cs.length/\a2K ρ m ids cs us (p.2 - k) b')∨(¬ (p.1=j/\k<=p.2/\p.2 < k+cs.length)/\A3 w (ρ id) sz yss p=some b'):=λp b' hb'=>by
  obtain ⟨e',s',ys,f',u,q1,q2,q3,_,_⟩:=hNC.inn hb'
  rw [hnget] at q1
  rw [hngetc] at q2
  by_cases h:p.1=j/\k<=p.2/\p.2 < k+cs.length
  ·rw [if_pos h] at q1 q2
   exact .inl ⟨h.1,h.2.1,h.2.2,⟨_,_,_,_,q1⟩,u,q2,q3⟩
  ·rw [if_neg h] at q1 q2
   obtain ⟨u',z1,_,z3⟩:=hN.at q1
   grind
 have hfin:=hC.renest (w':=w') (ids:=ids) (row':=.nest e sz (yss.set j (c.take k++cs++c.drop (k+cs.length))) op) (v':=ρ id) (.inr Z) hm (.inr Z) hN.blkOwn hN.blkOwn hidn (by rw [← hN.blkOwn,hblkid];exact hgr) (.inl Z) ?_ (λp b' hb'=>?_) (λp p' b' hb' hb''=>?_)
 ·rw [a6Y] at hfin
  exact hk ρ _ _ hT.put_none hfin
 ·rw [a6Y]
  refine ⟨_,hNC,λq hq=>?_⟩
  grind
 ·rcases hwas p b' hb' with ⟨_,_,_,h⟩ | ⟨_,h⟩
  ·obtain ⟨i,r,q1,q2,q3⟩:=hown _ b' h
   exact .inr ⟨i,r,q1,q2,.inl q3⟩
  ·exact .inl ⟨p,h⟩
 ·have hx:∀p p':Nat×Nat,(p.1=j/\k<=p.2/\p.2 < k+cs.length/\a2K ρ m ids cs us (p.2 - k) b')→A3 w (ρ id) sz yss p'=some b'→False:=λp p' h h'=>by
   obtain ⟨i,r,q1,q2,q3⟩:=hown _ b' h.2.2.2
   exact hC.blkne (p:=p') hm q2 h' q3
  rcases hwas p b' hb' with h | ⟨_,h⟩<;>rcases hwas p' b' hb'' with h' | ⟨_,h'⟩
  ·grind
  ·grind
  ·grind
  ·exact ((hC.inner id _ hm p b' h).2.2.2 id _ hm).2 p' h' |>.2
inductive PlainC:List Value→List CI→Prop
 | nil:PlainC [] []
 | v {x:Value} {xs:List Value} {cs:List CI} (h:PlainC xs cs):PlainC (x :: xs) (.v x :: cs)
 | s {e sz:Nat} {f:Bool} {xs:List Value} {cs:List CI} (h:PlainC xs cs):PlainC (.slice none 0 0 :: xs) (.l e sz [] f :: cs)
theorem PlainC.get {xs:List Value} (h:PlainC xs cs):xs.length=cs.length/\∀(k:Nat) (c:CI),cs[k]?=some c→∃u,xs[k]?=some u/\CIRel B w c u/\((∃e s ys f,c=.l e s ys f)→blk u=none):=by
 induction h with
 | nil=>exact ⟨Z,by simp⟩
 | v _ ih =>
  refine ⟨by simp [ih.1],λk c hk=>?_⟩
  cases k with
  | zero=>simp at hk;subst hk;exact ⟨_,Z,Z,λ⟨_,_,_,_,h⟩=>by cases h⟩
  | succ k=>simpa using ih.2 k c (by simpa using hk)
 | s _ ih =>
  refine ⟨by simp [ih.1],λk c hk=>?_⟩
  cases k with
  | zero=>simp at hk;subst hk;exact ⟨_,Z,⟨OwnR.nil,by simp⟩,λ_=>Z⟩
  | succ k=>simpa using ih.2 k c (by simpa using hk)
theorem Gh.nest {id e sz:Nat} {ys:List (List Value)} {yss:List (List CI)} (hm:mem m id=some (.row e sz ys)) (hl:ys.length=yss.length) (hp:∀(i:Nat) (c:List Value) (cs:List CI),ys[i]?=some c→yss[i]?=some cs→PlainC c cs):Gh w0 ⟨T,m,nx,nt⟩ ⟨T,(id,some (.nest e sz yss [])) :: m,nx,nt⟩:=by
 intro ρ a w hT hC
 obtain ⟨hrow,hall⟩:=hC.row hm
 have hget:∀i cs,yss[i]?=some cs→∃c,ys[i]?=some c/\PlainC c cs:=λi cs h=>by
  have hi:i < ys.length:=by rw [hl];exact (List.getElem?_eq_some_iff.1 h).1
  exact ⟨_,List.getElem?_eq_getElem hi,hp i _ cs (List.getElem?_eq_getElem hi) h⟩
 have hNC:NestC w0.w.heap.size w (ρ id) e sz yss ys:=by
  refine ⟨by rw [← hl];exact hrow,hl,hall,λcs hcs=>?_,λi k c hc=>?_⟩
  ·obtain ⟨i,hi⟩:=List.getElem?_of_mem hcs
   obtain ⟨c,h1,h2⟩:=hget i cs hi
   rw [← (h2.get (B:=0) (w:=w)).1]
   grind
  ·obtain ⟨cs,h1,h2⟩:=D8.1 hc
   obtain ⟨c',h3,h4⟩:=hget i cs h1
   obtain ⟨u,h5,h6,_⟩:=h4.get.2 k c h2
   exact ⟨u,D8.2 ⟨c',h3,h5⟩,h6⟩
 refine ⟨ρ,hT,hC.retell hm ⟨ys,hNC,λq hq=>by cases hq⟩ λp b hb=>?_⟩
 obtain ⟨e',s',zs,f',u,h1,h2,h3,_⟩:=hNC.inn hb
 obtain ⟨cs,q1,q2⟩:=D8.1 h1
 obtain ⟨c',q3,q4⟩:=D8.1 h2
 obtain ⟨c'',q5,q6⟩:=hget p.1 cs q1
 rw [q3] at q5;cases q5
 obtain ⟨u',q7,_,q8⟩:=(q6.get (B:=0) (w:=w)).2 p.2 _ q2
 grind
end
section
variable {P:Program} [Env P] {w0:Base} {ops:Array Oper} {tb:List (Nat×TyI)} {o:Oper} {rest:List Oper} {T:List (Nat×AV)} {m m':List (Nat×Option Row)} {nx nt d:Nat} {Q:Exit→St→Prop} {c:Code}
theorem B2 {t sz:Nat} {ps:Array (Nat×Operand)} {ax:AV} (G:Good P tb) (nx':Nat) (hn':Nat.beq nx' (Nat.succ nx)=true) (hd:o.dst=some d) (hlt:Nat.blt d nt=true) (ho:o.op=.buildSlice t 1 ps) (hps:ps.toList=[(0,x)]) (ht:look t tb=some (.slice e sz by_ zs))
 (hx:ev T x=some ax) (hv:C9 ax=some as) (hA:Absorb m as cs ids) (hnd:nodupB ids=true) (h1:a1D m as=true) (hsz:Nat.beq cs.length sz=true) (hbig:Nat.ble sz 16777216=true)
 (hk:WL P w0 ops rest ⟨(d,.own nx) :: T,(nx,some (.nest e sz [cs] [])) :: a8P ids m,nx',nt⟩ Q):WX P w0 ops o rest ⟨T,m,nx,nt⟩ Q:=by
 have hn'':=Nat.eq_of_beq_eq_true hn'
 subst hn''
 intro ρ a w hT hC
 obtain ⟨h2,h3⟩:=Z8 hC hv h1 (hT.ev hx)
 obtain ⟨hul,hone,hCI,hown,hinj⟩:=hA.spec hC hnd h2
 have hsz':cs.length=sz:=Nat.eq_of_beq_eq_true hsz
 have hbig':=Nat.le_of_ble_eq_true hbig
 let us:=(a.eval x).cells.toList
 have hus:us.length=sz:=by rw [← hsz'];exact hul
 have hrun:=a1f (G t _ ht) [a.eval x] (λv hv=>by simp at hv;subst hv;simpa [us] using hus) (by simpa using hbig') w
 have hr:(execOp a.eval o).run P w=.ok (.value (.slice (some ⟨w.heap.size,0,none⟩) 1 1)) (w.alloc (.cells us.toArray e)):=by
  have hps':(Array.map (λx=>match x with | (i,x)=>(i,a.eval x)) ps)=(([a.eval x].zipIdx 0).map λp=>(p.2,p.1)).toArray:=by
   apply Array.ext'
   simp_all
  have e1:([a.eval x].map (·.cells.toList)).flatten=us:=by simp [us]
  rw [e1] at hrun
  simp only [execOp,ho,hps',Sem.run_bind]
  simp_all
 unfold Oper.wp
 rw [hr,Oper.upon_value,hd]
 have hsub:=hC.sub (m':=a8P ids m) λi r hr=>(a45 hr).2
 have hb:Below w.heap.size w (w.alloc (.cells us.toArray e)):=(Below.refl _ _).alloc (Nat.le_refl _) _
 have hC2:=hsub.trans hb
 generalize hw':w.alloc (.cells us.toArray e)=w' at *
 have hnew:w'.heap[w.heap.size]?=some (.cells us.toArray e (0,0)):=by rw [← hw'];exact Go.heap_alloc_new w _
 let y:Value:=.slice (some ⟨w.heap.size,0,none⟩) 1 1
 obtain ⟨_,_,iz,z,_,_,_,_,_,_,hpos,_⟩:=G t _ ht
 have hownsz:w'.ownsRow w0.w.heap.size e sz y [cs].length [us].flatten:=by
  refine ⟨by simp [hus],.inr ⟨w.heap.size,1,us.toArray,Z,hC.below.size,hnew,Nat.le_refl _,by unfold maxLen;omega,by simp [hus],by simp [← hus]⟩⟩
 have hng:∀i k c,C0 [cs] i k=some c→i=0/\cs[k]?=some c:=λi k c h=>by
  obtain ⟨cs',h1,h2⟩:=D8.1 h
  grind
 have hNC:NestC w0.w.heap.size w' y e sz [cs] [us]:=by
  refine ⟨hownsz,Z,λc hc=>by simp at hc;subst hc;exact ⟨hus,hone⟩,λc hc=>by simp at hc;subst hc;exact hsz',λi k c hc=>?_⟩
  obtain ⟨rfl,hc⟩:=hng i k c hc
  obtain ⟨u,q1,q2⟩:=hCI k c hc
  refine ⟨u,by simp only [C0,List.getElem?_cons_zero,Option.bind_some];exact q1,q2.frame ?_⟩
  rintro ⟨e',s',ys,f',rfl⟩ b' hb'
  obtain ⟨i0,r0,z1,z2,z3⟩:=hown _ b' ⟨⟨_,_,_,_,hc⟩,u,q1,hb'⟩
  exact hb.block b' (hC.lt z2 z3)
 have hwas:∀p b',A3 w' y sz [cs] p=some b'→p.1=0/\a2K ρ m ids cs us p.2 b':=λp b' hb'=>by
  obtain ⟨e',s',ys,f',u,q1,q2,q3,_,_⟩:=hNC.inn hb'
  obtain ⟨h0,q1⟩:=hng _ _ _ q1
  rw [h0] at q2
  exact ⟨h0,⟨_,_,_,_,q1⟩,u,by simpa [C0] using q2,q3⟩
 refine hk (upd ρ nx y) _ _ ((hT.add _).put hlt (by simp only [RelV];exact ⟨by omega,by rw [l3]⟩)) (hC2.add ?_ (λb' hb'=>?_) (λp b' hb'=>?_))
 ·refine ⟨[us],by rw [l3];exact hNC,λq hq=>by cases hq⟩
 ·rcases hb' with hb' | ⟨p,hb'⟩
  ·have hbw:b'=w.heap.size:=by simp [y,blk] at hb';exact hb'.symm
   refine ⟨λi r hr hf=>?_,?_⟩
   ·have:=hsub.foot_lt hr (hsub.foot_trans hb hr hf);omega
   ·rw [hbw];exact hC.fresh (Nat.le_refl _)
  ·obtain ⟨_,h⟩:=hwas p b' hb'
   obtain ⟨i0,r0,z1,z2,z3⟩:=hown _ b' h
   refine ⟨λi r hr hf=>?_,hC.kept.2.2 i0 r0 z2 b' z3⟩
   obtain ⟨g1,g2⟩:=a45 hr
   exact hC.foot_apart g2 z2 (λe0=>g1 (e0▸z1)) (hsub.foot_trans hb hr hf) (.inl z3)
 ·obtain ⟨h0,h⟩:=hwas p b' hb'
  obtain ⟨i0,r0,z1,z2,z3⟩:=hown _ b' h
  refine ⟨λhby=>?_,λp' hp'=>?_⟩
  ·have hbw:b'=w.heap.size:=by simp [y,blk] at hby;exact hby.symm
   have:=hC.lt z2 z3
   omega
  ·obtain ⟨h0',h'⟩:=hwas p' b' hp'
   grind
theorem V8 {α:Type} {l l':List (List α)}:C0 (l++l') i k=if i < l.length then C0 l i k else C0 l' (i - l.length) k:=by
 grind [C0]
theorem F8 {t e sz by_ id2:Nat} {zs:List Value} {y:Operand} {yss uss:List (List CI)} {op:List (Nat×Nat×Nat)} {T':List (Nat×AV)} (G:Good P tb) (hp:w0.n0<=id) (hd:o.dst=some d) (hlt:Nat.blt d nt=true) (ho:o.op=.call { callee:=.builtin .append,args:=#[x,y],argTypes:=#[t,t] })
 (ht:look t tb=some (.slice e sz by_ zs)) (hx:ev T x=some (.own id)) (hm:mem m id=some (.nest e sz yss op)) (hy:ev T y=some (.own id2)) (hm2:mem m id2=some (.nest e sz uss [])) (hne:Nat.beq id id2=false) (hby:Nat.blt 0 by_=true) (hbytes:(yss.length+uss.length) * by_<=140737488355328)
 (hf:freeM id m=true) (hT':a5z id T [] []=some T')
 (hk:WL P w0 ops rest ⟨(d,.own id) :: T',(id2,none) :: (id,some (.nest e sz (yss++uss) op)) :: m,nx,nt⟩ Q):WX P w0 ops o rest ⟨T,m,nx,nt⟩ Q:=by
 intro ρ a w hT hC
 have h1:=hT.ev hx
 have h2:=hT.ev hy
 simp only [RelV] at h1 h2
 obtain ⟨hltid,cells,hN,hop⟩:=hC.nestC hm
 obtain ⟨_,cells2,hN2,_⟩:=hC.nestC hm2
 have hne':id≠id2:=N6 hne
 have hreads:ReadsAt w sz cells2 (ρ id2):=b4D (by rw [hN2.2.1];exact hN2.1) hN2.2.2.1
 obtain ⟨v',w',hrun,hown,hgr,hat⟩:=a2v (ty:=o.type) (G t _ ht) hN.1 hreads (by rw [hN2.2.1];exact hbytes) (Nat.le_of_ble_eq_true hby) hC.below.size
 rw [hN2.2.1,← List.flatten_append,← List.length_append] at hown
 have hr2:(execOp a.eval o).run P w=.ok (.value v') w':=by
  simp only [execOp,ho,resolve,invoke,builtin,Sem.run_bind,Sem.run_pure,Result.andThen_ok,List.map_toArray,List.map_cons,List.map_nil,h1.2,h2.2,hrun]
 unfold Oper.wp
 rw [hr2,Oper.upon_value,hd]
 have hfr:∀b,(∃i r,mem m i=some r/\i≠id/\S8 w (ρ i) r b)∨(∃p,A3 w (ρ id) sz yss p=some b)→w'.heap[b]?=w.heap[b]?:=λb hb=>by
  rcases hb with ⟨i,r,q1,q2,q3⟩ | ⟨p,q⟩
  ·refine hgr.block b (hC.foot_lt q1 q3) λe0=>?_
   exact hC.foot_apart q1 hm q2 q3 (.inl (by rw [hN.blkOwn];exact e0.symm))
  ·have q':inn w (ρ id) (.nest e sz yss op) p=some b:=q
   refine hgr.block b (hC.inner id _ hm p b q').2.2.1 λe0=>?_
   exact hC.blkne hm hm q' (by rw [hN.blkOwn];exact e0.symm)
 have hcl:cells.length=yss.length:=hN.2.1
 have hNC:NestC w0.w.heap.size w' v' e sz (yss++uss) (cells++cells2):=by
  refine ⟨hown,by simp [hN.2.1,hN2.2.1],λc hc=>?_,λc hc=>?_,λi k c hc=>?_⟩
  ·rcases List.mem_append.1 hc with hc | hc
   ·exact hN.2.2.1 c hc
   ·exact hN2.2.2.1 c hc
  ·rcases List.mem_append.1 hc with hc | hc
   ·exact hN.2.2.2.1 c hc
   ·exact hN2.2.2.2.1 c hc
  ·rw [V8] at hc
   rw [V8,hcl]
   by_cases hi:i < yss.length
   ·rw [if_pos hi] at hc ⊢
    obtain ⟨u,q1,q2⟩:=hN.2.2.2.2 i k c hc
    refine ⟨u,q1,q2.frame ?_⟩
    rintro ⟨e',s',ys,f',rfl⟩ b' hb'
    obtain ⟨u',q3,_,q5⟩:=hN.at hc
    grind
   ·rw [if_neg hi] at hc ⊢
    obtain ⟨u,q1,q2⟩:=hN2.2.2.2.2 _ k c hc
    refine ⟨u,q1,q2.frame ?_⟩
    rintro ⟨e',s',ys,f',rfl⟩ b' hb'
    obtain ⟨u',q3,_,q5⟩:=hN2.at hc
    rw [q1] at q3;cases q3
    exact hfr b' (.inl ⟨id2,_,hm2,Ne.symm hne',.inr ⟨(i - yss.length,k),by rw [a96,q5];exact hb'⟩⟩)
 have hwas:∀p b,A3 w' v' sz (yss++uss) p=some b→(p.1 < yss.length/\A3 w (ρ id) sz yss p=some b)∨(yss.length<=p.1/\A3 w (ρ id2) sz uss (p.1 - yss.length,p.2)=some b):=λp b hb=>by
  obtain ⟨e',s',ys,f',u,q1,q2,q3,_,_⟩:=hNC.inn hb
  rw [V8] at q1
  rw [V8,hcl] at q2
  by_cases hi:p.1 < yss.length
  ·rw [if_pos hi] at q1 q2
   obtain ⟨u',z1,_,z3⟩:=hN.at q1
   grind
  ·rw [if_neg hi] at q1 q2
   obtain ⟨u',z1,_,z3⟩:=hN2.at q1
   grind
 refine hk (upd ρ id v') _ _ (RelT.put ⟨λt' x' hx'=>?_,hT.size,hT.defers⟩ hlt (by simp only [RelV];exact ⟨h1.1,by rw [l3]⟩)) ?_
 ·rw [a6G] at hT'
  cases hT'
  rcases U5 _ _ _ _ _ hx' (by simp) with h2 | ⟨_,h2,h3⟩
  ·simp [look] at h2
  ·exact RelV.upd _ h3 (hT.tmps t' x' h2)
 ·refine hC.renest (ids:=[id2]) (row':=.nest e sz (yss++uss) op) (.inl hp) hm (.inl hf) hN.blkOwn hNC.blkOwn (by simpa using hne') hgr hat ?_ (λp b hb=>?_) (λp p' b hb hb'=>?_)
  ·refine ⟨_,by rw [l3];exact hNC,λq hq=>?_⟩
   obtain ⟨q1,q2,q3⟩:=hop q hq
   have hi:q.1 < yss.length:=by
    grind [D8]
   refine ⟨q1,by rw [V8,if_pos hi];exact q2,?_⟩
   rw [V8,hcl,if_pos hi,m3 _ _ (a1g ((V4 hf hm).2 _ _ _ _ Z) q hq)]
   exact q3
  ·rcases hwas p b hb with ⟨_,h⟩ | ⟨_,h⟩
   ·exact .inl ⟨p,h⟩
   ·exact .inr ⟨id2,_,by simp,hm2,.inr ⟨_,h⟩⟩
  ·have hx:∀p p',A3 w (ρ id) sz yss p=some b→A3 w (ρ id2) sz uss p'=some b→False:=λp p' h h'=>hC.foot_apart hm hm2 hne' (.inr ⟨p,h⟩) (.inr ⟨p',h'⟩)
   rcases hwas p b hb with ⟨g1,h⟩ | ⟨g1,h⟩<;>rcases hwas p' b hb' with ⟨g2,h'⟩ | ⟨g2,h'⟩
   ·exact ((hC.inner id _ hm p b h).2.2.2 id _ hm).2 p' h' |>.2
   ·exact (hx _ _ h h').elim
   ·exact (hx _ _ h' h).elim
   ·have:=((hC.inner id2 _ hm2 _ b h).2.2.2 id2 _ hm2).2 _ h' |>.2
    grind
theorem A8 {sz:Nat} (h:mem m id=some (.nest e sz yss' [])) (hy:yss'=yss):RCOK m (.own id) (.ne e sz yss):=by subst hy;exact h
theorem b5N {sz:Nat} (h:[]=yss):RCOK m (.v (.slice none 0 0)) (.ne e sz yss):=⟨Z,h.symm⟩
theorem b2s {u:Value} {sz:Nat} (h:z=u):RCOK m (.pin z sz ys) (.v u):=by subst h;rfl
theorem o8 {xs ls:List AV} {single:Bool} {sh:List (Option Nat)} {cs:List RC} (h:V5 tb S rs []=some xs) (hl:Nat.beq xs.length 1=single) (hf:flA sh xs []=some ls) (hn:nodupB (U6 ls [])=true) (hx:RCOKs S.m ls cs):Fin tb rs (.shp single sh cs) .ret S:=⟨_,h,ls,hf,hx,hl,hn⟩
end
section
variable {P:Program} [Env P] {w0:Base} {ops:Array Oper} {tb:List (Nat×TyI)} {o:Oper} {rest:List Oper} {T:List (Nat×AV)} {m m':List (Nat×Option Row)} {nx nt d:Nat} {Q:Exit→St→Prop} {c:Code}
theorem a1K {sz:Nat} (h:QStep P o T m nx nt (.pin z sz ys)):QStep P o T m nx nt (.lst sz ys):=λw0 _ ρ a w hT hC=>by
 obtain ⟨y,h1,h2⟩:=h w0 ρ a w hT hC
 simp only [RelV] at h1
 exact ⟨y,by simp only [RelV];exact h1.2,h2⟩
theorem b1v {z:Option Value} {sz:Nat} (h:QStep P o T m nx nt (.nst z sz yss)):QStep P o T m nx nt (.nst none sz yss):=λw0 _ ρ a w hT hC=>by
 obtain ⟨y,h1,h2⟩:=h w0 ρ a w hT hC
 simp only [RelV] at h1
 exact ⟨y,by simp only [RelV];exact ⟨λv hv=>(by cases hv),h1.2⟩,h2⟩
def a6Z:List AV→(Nat→Value)→Nat→List AV→Option (List AV)
 | [],_,_,acc=>a3a acc []
 | .lst sz ys :: r,u,k,acc=>a6Z r u (Nat.succ k) (.pin (u k) sz ys :: acc)
 | .nst _ sz yss :: r,u,k,acc=>a6Z r u (Nat.succ k) (.nst (some (u k)) sz yss :: acc)
 | x :: r,u,k,acc=>a6Z r u (Nat.succ k) (x :: acc)
theorem a78 {w0:World} {u:Nat→Value}:∀{cs:List AV} {us:List Value} {k:Nat} {acc rs:List AV} {acc':List Value},a6Z cs u k acc=some rs→RelVs w0 ρ nx cs us→(∀j y,us[j]?=some y→u (k+j)=y)→RelVs w0 ρ nx acc.reverse acc'→RelVs w0 ρ nx rs (acc'++us)
 | [],us,k,acc,rs,acc',h,hr,_,ha=>by
  simp [a6Z,F9] at h
  simp only [RelVs] at hr
  subst h;subst hr
  simpa using ha
 | x :: cs,_,k,acc,rs,acc',h,hr,hu,ha=>by
  simp only [RelVs] at hr
  obtain ⟨y,us,rfl,h1,h2⟩:=hr
  have h0:u k=y:=by simpa using hu 0 y Z
  have key:∀(a:AV),RelV w0 ρ nx a y→a6Z cs u (Nat.succ k) (a :: acc)=some rs→RelVs w0 ρ nx rs (acc'++y :: us):=λa hy h'=>by
   have:=a78 h' h2 (λj y hj=>by rw [show Nat.succ k+j=k+(j+1) by omega];exact hu (j+1) y (by simpa using hj)) (acc':=acc'++[y]) (by
    rw [List.reverse_cons]
    refine RelVs.append _ ha ?_
    simp only [RelVs]
    exact ⟨_,_,Z,hy,Z⟩)
   simpa using this
  cases x<;>simp only [a6Z] at h
  case lst sz ys=>exact key _ (by simp only [RelV] at h1 ⊢;exact ⟨h0.symm,h1⟩) h
  case nst z sz ys=>exact key _ (by simp only [RelV] at h1 ⊢;exact ⟨λv hv=>by cases hv;exact h0.symm,h1.2⟩) h
  all_goals exact key _ h1 h
theorem n8 (t:Nat) {cs:List AV} (ht:look t T=some (.agg cs)) {rs:(Nat→Value)→List AV} (hr:∀u,a6Z cs u 0 []=some (rs u)) (h:∀u,W P w0 c ⟨(t,.agg (rs u)) :: T,m,nx,nt⟩ Q):W P w0 c ⟨T,m,nx,nt⟩ Q:=by
 intro ρ a w hT hC
 have h1:=hT.tmps t _ ht
 simp only [RelV] at h1
 obtain ⟨us,he,h1⟩:=h1
 let u:Nat→Value:=λi=>us.getD i undef
 refine h u ρ a w ⟨λi x hi=>?_,hT.size,hT.defers⟩ hC
 by_cases e:i=t
 ·subst e
  rw [r3] at hi
  cases hi
  simp only [RelV]
  exact ⟨us,he,by simpa using a78 (acc':=[]) (hr u) h1 (λj y hj=>by simp only [u,Nat.zero_add,List.getD_eq_getElem?_getD,hj,Option.getD_some]) (by simp [RelVs])⟩
 ·rw [l6 (λe'=>e e'.symm)] at hi
  exact hT.tmps i x hi
mutual
def sbA (a b:Nat):AV→AV
 | .own i=>.own (bif Nat.beq i a then b else i)
 | .sub i sz k n=>.sub (bif Nat.beq i a then b else i) sz k n
 | .ptr i o=>.ptr (bif Nat.beq i a then b else i) o
 | .rpt i sz k j=>.rpt (bif Nat.beq i a then b else i) sz k j
 | .agg cs=>.agg (a98 a b cs)
 | .tup cs=>.tup (a98 a b cs)
 | .fnc f cs=>.fnc f (a98 a b cs)
 | .eptN cs=>.eptN (a98 a b cs)
 | .v x=>.v x
 | .lst sz ys=>.lst sz ys
 | .pin z sz ys=>.pin z sz ys
 | .ept cs=>.ept cs
 | .nst z sz yss=>.nst z sz yss
 | .any=>.any
def a98 (a b:Nat):List AV→List AV
 | []=>[]
 | c :: cs=>sbA a b c :: a98 a b cs
end
mutual
theorem RelV.sb {w0:World} {ρ:Nat→Value} {nx a b:Nat} (hb:b < nx):∀(x:AV) {y:Value},ment b x=false→RelV w0 ρ nx x y→RelV w0 (upd ρ b (ρ a)) nx (sbA a b x) y
 | .own i,_,hm,h=>by
  simp only [ment] at hm
  simp only [RelV,sbA] at h ⊢
  cases e:Nat.beq i a with
  | true=>have:=Nat.eq_of_beq_eq_true e;subst this;simp only [cond_true];exact ⟨hb,by rw [l3];exact h.2⟩
  | false=>simp only [cond_false];rw [m3 _ _ (N6 hm)];exact h
 | .sub i sz k n,_,hm,h=>by
  simp only [ment] at hm
  simp only [RelV,sbA] at h ⊢
  cases e:Nat.beq i a with
  | true=>have:=Nat.eq_of_beq_eq_true e;subst this;simp only [cond_true];rw [l3];exact ⟨hb,h.2⟩
  | false=>simp only [cond_false];rw [m3 _ _ (N6 hm)];exact h
 | .ptr i o,_,hm,h=>by
  simp only [ment] at hm
  simp only [RelV,sbA] at h ⊢
  cases e:Nat.beq i a with
  | true=>have:=Nat.eq_of_beq_eq_true e;subst this;simp only [cond_true];rw [l3];exact ⟨hb,h.2⟩
  | false=>simp only [cond_false];rw [m3 _ _ (N6 hm)];exact h
 | .rpt i sz k j,_,hm,h=>by
  simp only [ment] at hm
  simp only [RelV,sbA] at h ⊢
  cases e:Nat.beq i a with
  | true=>have:=Nat.eq_of_beq_eq_true e;subst this;simp only [cond_true];rw [l3];exact ⟨hb,h.2⟩
  | false=>simp only [cond_false];rw [m3 _ _ (N6 hm)];exact h
 | .agg cs,_,hm,h=>by
  simp only [ment] at hm
  simp only [RelV,sbA] at h ⊢
  obtain ⟨ys,e,h⟩:=h
  exact ⟨ys,e,RelVs.sb hb cs hm h⟩
 | .tup cs,_,hm,h=>by
  simp only [ment] at hm
  simp only [RelV,sbA] at h ⊢
  obtain ⟨ys,e,h⟩:=h
  exact ⟨ys,e,RelVs.sb hb cs hm h⟩
 | .fnc _ cs,_,hm,h=>by
  simp only [ment] at hm
  simp only [RelV,sbA] at h ⊢
  obtain ⟨ys,e,h⟩:=h
  exact ⟨ys,e,RelVs.sb hb cs hm h⟩
 | .eptN cs,_,hm,h=>by
  simp only [ment] at hm
  simp only [RelV,sbA] at h ⊢
  obtain ⟨ad,us,e,hlt,h,h2⟩:=h
  exact ⟨ad,us,e,hlt,RelVs.sb hb cs hm h,h2⟩
 | .v _,_,_,h=>h
 | .lst _ _,_,_,h=>h
 | .pin _ _ _,_,_,h=>h
 | .ept _,_,_,h=>h
 | .nst _ _ _,_,_,h=>h
 | .any,_,_,h=>h
theorem RelVs.sb {w0:World} {ρ:Nat→Value} {nx a b:Nat} (hb:b < nx):∀(x:List AV) {y:List Value},a0U b x=false→RelVs w0 ρ nx x y→RelVs w0 (upd ρ b (ρ a)) nx (a98 a b x) y
 | [],_,_,h=>h
 | c :: cs,_,hm,h=>by
  simp only [a0U,Bool.or_eq_false_iff] at hm
  simp only [RelVs,a98] at h ⊢
  obtain ⟨y,ys,e,h1,h2⟩:=h
  exact ⟨y,ys,e,RelV.sb hb c hm.1 h1,RelVs.sb hb cs hm.2 h2⟩
end
def sbO (a b:Nat):List (Nat×Nat×Nat)→List (Nat×Nat×Nat)
 | []=>[]
 | q :: r=>(q.1,q.2.1,bif Nat.beq q.2.2 a then b else q.2.2) :: sbO a b r
def sbR (a b:Nat):Row→Row
 | .box cs=>.box (a98 a b cs)
 | .nest e sz yss op=>.nest e sz yss (sbO a b op)
 | r=>r
def a60 (b:Nat):Row→Bool
 | .box cs=>a0U b cs
 | .nest _ _ _ op=>a39 b op
 | _=>false
theorem b5O:∀{op:List (Nat×Nat×Nat)} {q:Nat×Nat×Nat},q∈sbO a b op→∃p∈op,q.1=p.1/\q.2.1=p.2.1/\q.2.2=(bif Nat.beq p.2.2 a then b else p.2.2)
 | [],q,h=>by cases h
 | p :: r,q,h=>by
  simp only [sbO] at h
  rcases List.mem_cons.1 h with rfl | h
  ·simp
  ·obtain ⟨p',h1,h2⟩:=b5O h
   grind
theorem b8d:inn w y (sbR a b r) p=inn w y r p:=by cases r<;>rfl
theorem RowRel.sb (hb:b < nx) (hm:a60 b r=false) (hj:upd ρ b (ρ a) j=ρ i) (h:RowRel w0 ρ nx w i r):RowRel w0 (upd ρ b (ρ a)) nx w j (sbR a b r):=by
 cases r with
 | box cs =>
  obtain ⟨bb,cur,ty,h3,h4,h5,h6,h7⟩:=h
  exact ⟨bb,cur,ty,by rw [hj];exact h3,h4,h5,RelVs.sb hb cs hm h6,h7⟩
 | spare e sz ys gs=>simp only [sbR,RowRel] at h ⊢;rw [hj];exact h
 | byt bs=>simp only [sbR,RowRel] at h ⊢;rw [hj];exact h
 | row e sz ys f=>simp only [sbR,RowRel] at h ⊢;rw [hj];exact h
 | nest e sz yss op =>
  obtain ⟨cells,h1,h2⟩:=h
  refine ⟨cells,by rw [hj];exact h1,λq hq=>?_⟩
  obtain ⟨p,g1,g2,g3,g4⟩:=b5O hq
  obtain ⟨k1,k2,k3⟩:=h2 p g1
  have hpb:=a1g (op:=op) hm p g1
  rw [g2,g3,g4]
  cases e':Nat.beq p.2.2 a with
  | true=>have:=Nat.eq_of_beq_eq_true e';simp only [cond_true];exact ⟨hb,k2,by rw [l3,← this];exact k3⟩
  | false=>simp only [cond_false];exact ⟨k1,k2,by rw [m3 _ _ hpb];exact k3⟩
mutual
def sbK {β:Type} (a b:Nat):AV→(AV→β)→β
 | .own i,k=>bif Nat.beq i a then k (.own b) else k (.own i)
 | .sub i sz j n,k=>bif Nat.beq i a then k (.sub b sz j n) else k (.sub i sz j n)
 | .ptr i o,k=>bif Nat.beq i a then k (.ptr b o) else k (.ptr i o)
 | .rpt i sz j q,k=>bif Nat.beq i a then k (.rpt b sz j q) else k (.rpt i sz j q)
 | .agg cs,k=>b2t a b cs [] (λcs'=>k (.agg cs'))
 | .tup cs,k=>b2t a b cs [] (λcs'=>k (.tup cs'))
 | .fnc f cs,k=>b2t a b cs [] (λcs'=>k (.fnc f cs'))
 | .eptN cs,k=>b2t a b cs [] (λcs'=>k (.eptN cs'))
 | .v x,k=>k (.v x)
 | .lst sz ys,k=>k (.lst sz ys)
 | .pin z sz ys,k=>k (.pin z sz ys)
 | .ept cs,k=>k (.ept cs)
 | .nst z sz yss,k=>k (.nst z sz yss)
 | .any,k=>k .any
def b2t {β:Type} (a b:Nat):List AV→List AV→(List AV→β)→β
 | [],acc,k=>b3q acc [] k
 | c :: cs,acc,k=>sbK a b c (λc'=>b2t a b cs (c' :: acc) k)
end
mutual
theorem b8e {β:Type} {a b:Nat}:∀(x:AV) (k:AV→β),sbK a b x k=k (sbA a b x)
 | .own i,k=>by simp only [sbK,sbA];cases Nat.beq i a<;>rfl
 | .sub i _ _ _,k=>by simp only [sbK,sbA];cases Nat.beq i a<;>rfl
 | .ptr i _,k=>by simp only [sbK,sbA];cases Nat.beq i a<;>rfl
 | .rpt i _ _ _,k=>by simp only [sbK,sbA];cases Nat.beq i a<;>rfl
 | .agg cs,k=>by simp only [sbK,sbA,a47 cs,List.reverse_nil,List.nil_append]
 | .tup cs,k=>by simp only [sbK,sbA,a47 cs,List.reverse_nil,List.nil_append]
 | .fnc f cs,k=>by simp only [sbK,sbA,a47 cs,List.reverse_nil,List.nil_append]
 | .eptN cs,k=>by simp only [sbK,sbA,a47 cs,List.reverse_nil,List.nil_append]
 | .v _,k=>rfl
 | .lst _ _,k=>rfl
 | .pin _ _ _,k=>rfl
 | .ept _,k=>rfl
 | .nst _ _ _,k=>rfl
 | .any,k=>rfl
theorem a47 {β:Type} {a b:Nat}:∀(x acc:List AV) (k:List AV→β),b2t a b x acc k=k (acc.reverse++a98 a b x)
 | [],acc,k=>by simp [b2t,a98,a4U]
 | c :: cs,acc,k=>by simp only [b2t,a98,b8e c,a47 cs,List.reverse_cons,List.append_assoc,List.cons_append,List.nil_append]
end
def sbT (a b:Nat):List (Nat×AV)→List Nat→List (Nat×AV)→Option (List (Nat×AV))
 | [],_,acc=>some acc
 | (t,x) :: r,seen,acc=>bif has t seen then sbT a b r seen acc else bif ment b x then sbT a b r (t :: seen) acc else sbK a b x (λx'=>sbT a b r (t :: seen) ((t,x') :: acc))
def b7d {β:Type} (a b:Nat):List (Nat×Nat×Nat)→List (Nat×Nat×Nat)→(List (Nat×Nat×Nat)→β)→β
 | [],acc,k=>b3q acc [] k
 | (i,j,n) :: r,acc,k=>bif Nat.beq n a then b7d a b r ((i,j,b) :: acc) k else b7d a b r ((i,j,n) :: acc) k
theorem b5P {β:Type}:∀(op acc:List (Nat×Nat×Nat)) (k:List (Nat×Nat×Nat)→β),b7d a b op acc k=k (acc.reverse++sbO a b op)
 | [],acc,k=>by simp [b7d,sbO,a4U]
 | (i,j,n) :: r,acc,k=>by
  simp only [b7d,sbO,b5P r]
  grind
def c48 {β:Type} (a b:Nat):Row→(Row→β)→β
 | .box cs,k=>b2t a b cs [] (λcs'=>k (.box cs'))
 | .nest e sz yss op,k=>b7d a b op [] (λop'=>k (.nest e sz yss op'))
 | .row e sz ys f,k=>k (.row e sz ys f)
 | .byt bs,k=>k (.byt bs)
 | .spare e sz ys gs,k=>k (.spare e sz ys gs)
theorem c0V {β:Type} (r:Row) (k:Row→β):c48 a b r k=k (sbR a b r):=by
 cases r<;>simp [c48,sbR,a47,b5P]
def sbM (a b:Nat):List (Nat×Option Row)→List Nat→List (Nat×Option Row)→Option (List (Nat×Option Row))
 | [],_,acc=>a3a acc []
 | (i,none) :: r,seen,acc=>sbM a b r (i :: seen) acc
 | (i,some row) :: r,seen,acc=>bif has i seen then sbM a b r seen acc else bif Nat.beq i b then sbM a b r (i :: seen) acc else bif a60 b row then none
  else c48 a b row (λrow'=>bif Nat.beq i a then sbM a b r (i :: seen) ((b,some row') :: acc) else sbM a b r (i :: seen) ((i,some row') :: acc))
theorem a1o {l:List Nat}:has k l=true↔k∈l:=⟨U5.has_mem,a1j⟩
theorem a61:∀{l:List (Nat×AV)} {seen:List Nat} {acc T':List (Nat×AV)},sbT a b l seen acc=some T'→(∀p∈acc,p.1∈seen)→∀{t:Nat} {x:AV},look t T'=some x→look t acc=some x∨(t∉seen/\∃x0,look t l=some x0/\ment b x0=false/\x=sbA a b x0)
 | [],seen,acc,T',h,_,t,x,hx=>by simp [sbT] at h;subst h;exact .inl hx
 | (t',x') :: r,seen,acc,T',h,hs,t,x,hx=>by
  simp only [sbT] at h
  cases h1:has t' seen with
  | true =>
   simp only [h1,cond_true] at h
   rcases a61 h hs hx with h2 | ⟨h2,x0,h3,h4⟩
   ·exact .inl h2
   ·refine .inr ⟨h2,x0,?_,h4⟩
    rw [l6 (λe=>by subst e;exact h2 (a1o.1 h1))];exact h3
  | false =>
   simp only [h1,cond_false] at h
   have hns:t'∉seen:=λhm=>by rw [a1o.2 hm] at h1;cases h1
   cases h2:ment b x' with
   | true =>
    simp only [h2,cond_true] at h
    rcases a61 h (λp hp=>List.mem_cons_of_mem _ (hs p hp)) hx with h3 | ⟨h3,x0,h4,h5⟩
    ·exact .inl h3
    ·simp at h3
     refine .inr ⟨h3.2,x0,?_,h5⟩
     rw [l6 (λe=>h3.1 e.symm)];exact h4
   | false =>
    simp only [h2,cond_false,b8e] at h
    rcases a61 h (λp hp=>by
     rcases List.mem_cons.1 hp with rfl | hp
     ·simp
     ·exact List.mem_cons_of_mem _ (hs p hp)) hx with h3 | ⟨h3,x0,h4,h5⟩
    ·by_cases e:t'=t
     ·subst e
      rw [r3] at h3
      cases h3
      exact .inr ⟨hns,x',r3 _ _ _,h2,Z⟩
     ·rw [l6 e] at h3
      exact .inl h3
    ·simp at h3
     refine .inr ⟨h3.2,x0,?_,h5⟩
     rw [l6 (λe=>h3.1 e.symm)];exact h4
def c49 (a b:Nat) (l:List (Nat×Option Row)) (seen:List Nat) (i:Nat) (r:Row):Prop :=
 ∃j r0,j∉seen/\mem l j=some r0/\j≠b/\((j=a/\i=b)∨(j≠a/\i=j))/\a60 b r0=false/\r=sbR a b r0
theorem a2L:∀{l:List (Nat×Option Row)} {seen:List Nat} {acc m':List (Nat×Option Row)},sbM a b l seen acc=some m'→∀{i:Nat} {r:Row},(i,some r)∈m'→(i,some r)∈acc∨c49 a b l seen i r
 | [],seen,acc,m',h,i,r,hx=>by
  simp [sbM,F9] at h
  subst h
  exact .inl (by simpa using hx)
 | (j,none) :: l,seen,acc,m',h,i,r,hx=>by
  simp only [sbM] at h
  rcases a2L h hx with h1 | ⟨j',r0,h1,h2,h3⟩
  ·exact .inl h1
  ·simp at h1
   exact .inr ⟨j',r0,h1.2,by rw [e7 (λe=>h1.1 e.symm)];exact h2,h3⟩
 | (j,some row) :: l,seen,acc,m',h,i,r,hx=>by
  simp only [sbM] at h
  cases h1:has j seen with
  | true =>
   simp only [h1,cond_true] at h
   rcases a2L h hx with h2 | ⟨j',r0,h2,h3,h4⟩
   ·exact .inl h2
   ·exact .inr ⟨j',r0,h2,by rw [e7 (λe=>by subst e;exact h2 (a1o.1 h1))];exact h3,h4⟩
  | false =>
   simp only [h1,cond_false] at h
   have hns:j∉seen:=λhm=>by rw [a1o.2 hm] at h1;cases h1
   have up:c49 a b l (j :: seen) i r→c49 a b ((j,some row) :: l) seen i r:=λ⟨j',r0,h2,h3,h4⟩=>by
    simp at h2
    exact ⟨j',r0,h2.2,by rw [e7 (λe=>h2.1 e.symm)];exact h3,h4⟩
   cases h2:Nat.beq j b with
   | true =>
    simp only [h2,cond_true] at h
    rcases a2L h hx with h3 | h3
    ·exact .inl h3
    ·exact .inr (up h3)
   | false =>
    simp only [h2,cond_false] at h
    cases h3:a60 b row with
    | true=>simp [h3] at h
    | false =>
     simp only [h3,cond_false,c0V] at h
     cases h4:Nat.beq j a with
     | true =>
      simp only [h4,cond_true] at h
      have hja:=Nat.eq_of_beq_eq_true h4
      rcases a2L h hx with h5 | h5
      ·rcases List.mem_cons.1 h5 with h5 | h5
       ·cases h5
        exact .inr ⟨j,row,hns,l5 _ _ _,N6 h2,.inl ⟨hja,Z⟩,h3,Z⟩
       ·exact .inl h5
      ·exact .inr (up h5)
     | false =>
      simp only [h4,cond_false] at h
      rcases a2L h hx with h5 | h5
      ·rcases List.mem_cons.1 h5 with h5 | h5
       ·cases h5
        exact .inr ⟨j,row,hns,l5 _ _ _,N6 h2,.inr ⟨N6 h4,Z⟩,h3,Z⟩
       ·exact .inl h5
      ·exact .inr (up h5)
theorem Gh.sub (a b:Nat) {T':List (Nat×AV)} (hp:w0.n0<=b) (hb:Nat.blt b nx=true) (hT':sbT a b T [] []=some T') (hM':sbM a b m [] []=some m'):Gh w0 ⟨T,m,nx,nt⟩ ⟨T',m',nx,nt⟩:=by
 intro ρ ac w hT hC
 have hb':b < nx:=Nat.le_of_ble_eq_true hb
 let ρ':=upd ρ b (ρ a)
 have hfrom:∀i r,mem m' i=some r→∃j r0,mem m j=some r0/\j≠b/\((j=a/\i=b)∨(j≠a/\i=j))/\a60 b r0=false/\r=sbR a b r0/\ρ' i=ρ j:=λi r hr=>by
  rcases a2L hM' (a5R hr) with h | ⟨j,r0,_,h2,h3,h4,h5,h6⟩
  ·cases h
  ·grind [l3,m3]
 have hinj:∀{i i' j j':Nat},((j=a/\i=b)∨(j≠a/\i=j))→j≠b→((j'=a/\i'=b)∨(j'≠a/\i'=j'))→j'≠b→i≠i'→j≠j':=by
  omega
 refine ⟨ρ',⟨λt x hx=>?_,hT.size,hT.defers⟩,⟨λi r hr=>?_,λi i' r r' hr hr' hne bb hbb=>?_,hC.below,⟨hC.pin.1,λi hi=>(m3 ρ _ J).trans (hC.pin.2 i hi)⟩,⟨hC.kept.1,hC.kept.2.1,λi r hr bb hbb=>?_⟩,λi r hr p bb hbb=>?_⟩⟩
 ·rcases a61 hT' (by simp) hx with h | ⟨_,x0,h1,h2,rfl⟩
  ·simp [look] at h
  ·exact RelV.sb hb' x0 h2 (hT.tmps t x0 h1)
 ·obtain ⟨j,r0,h1,h2,h3,h4,rfl,h6⟩:=hfrom i r hr
  obtain ⟨g1,g2⟩:=hC.rows j r0 h1
  refine ⟨?_,RowRel.sb hb' h4 h6 g2⟩
  grind
 ·obtain ⟨j,r0,h1,h2,h3,h4,rfl,h6⟩:=hfrom i r hr
  obtain ⟨j',r1,g1,g2,g3,g4,rfl,g6⟩:=hfrom i' r' hr'
  rw [h6] at hbb
  rw [g6]
  exact hC.apart j j' r0 r1 h1 g1 (hinj h3 h2 g3 g2 hne) bb hbb
 ·obtain ⟨j,r0,h1,h2,h3,h4,rfl,h6⟩:=hfrom i r hr
  rw [h6] at hbb
  exact hC.kept.2.2 j r0 h1 bb hbb
 ·obtain ⟨j,r0,h1,h2,h3,h4,rfl,h6⟩:=hfrom i r hr
  rw [h6,b8d] at hbb
  obtain ⟨q1,q2,q3,q4⟩:=hC.inner j r0 h1 p bb hbb
  refine ⟨q1,q2,q3,λi' r' hr'=>?_⟩
  obtain ⟨j',r1,g1,g2,g3,g4,rfl,g6⟩:=hfrom i' r' hr'
  rw [g6]
  refine ⟨(q4 j' r1 g1).1,λp' hp'=>?_⟩
  rw [b8d] at hp'
  grind
end
section
variable {P:Program} [Env P] {w0:Base} {ops:Array Oper} {tb:List (Nat×TyI)} {o:Oper} {rest:List Oper} {T:List (Nat×AV)} {m m':List (Nat×Option Row)} {nx nt d:Nat} {Q:Exit→St→Prop}
end
structure VE where
 i:Nat
 d:Nat
 id:Nat
 box:Bool
 row:Row
variable {F U V:List VE}
def VE.av (e:VE):AV:=bif e.box then .ptr e.id 0 else .own e.id
def VOK (P:Program) (ops:Array Oper) (e:VE):Prop :=
 ∃o,ops[e.i]?=some o/\o.guard=none/\o.dst=some e.d/\rowRefs 0 e.row=true/\(∀w y p,inn w y e.row p=none)/\∀(ac:Act) (w:World),∃y w',(execOp ac.eval o).run P w=.ok (.value y) w'/\Below w.heap.size w w'/\(∀b,blk y=some b→w.heap.size<=b) /\
  (e.box=true→∃g,y=.pointer (some ⟨g,0,none⟩))/\∀(B:World) (r:Nat→Value) (nx:Nat),B.heap.size<=w.heap.size→r e.id=y→RowRel B r nx w' e.id e.row
inductive Split:List VE→List VE→List VE→Prop
 | nil:Split [] [] []
 | sel {e:VE} {V F U:List VE} (h:Split V F U):Split (e :: V) (e :: F) U
 | uns {e:VE} {V F U:List VE} (h:Split V F U):Split (e :: V) F (e :: U)
def T2:List Nat→Array Bool→Array Bool
 | [],l=>l
 | i :: r,l=>T2 r (l.setIfInBounds i true)
theorem b1w:∀(is:List Nat) (l:Array Bool),(T2 is l).size=l.size
 | [],_=>rfl
 | i :: r,l=>by simp [T2,b1w r]
theorem a4h:∀(is:List Nat) (l:Array Bool) (k:Nat),(T2 is l)[k]?=if k∈is/\k < l.size then some true else l[k]?
 | [],l,k=>by simp [T2]
 | i :: r,l,k=>by
  simp only [T2,a4h r,Array.size_setIfInBounds]
  grind
theorem b1x (h:∀k,k∈is↔k∈js):T2 is l=T2 js l:=by
 apply Array.ext_getElem?
 intro k
 rw [a4h,a4h]
 simp only [h]
theorem a62:(T2 is l).setIfInBounds i true=T2 (i :: is) l:=by
 apply Array.ext_getElem?
 intro k
 rw [a4h]
 by_cases e:i=k
 ·grind [b1w]
 ·rw [Array.getElem?_setIfInBounds_ne e,a4h]
  simp [Ne.symm e]
theorem b7e:T2 is (T2 js l)=T2 (js++is) l:=by
 induction js generalizing l with
 | nil=>rfl
 | cons j js ih=>simp only [T2,List.cons_append,ih]
def frT (F:List VE) (T:List (Nat×AV)):List (Nat×AV):=match F with
 | []=>T
 | e :: F=>(e.d,e.av) :: frT F T
def frM (F:List VE) (m:List (Nat×Option Row)):List (Nat×Option Row):=match F with
 | []=>m
 | e :: F=>(e.id,some e.row) :: frM F m
def b2u (id:Nat):List (Nat×AV)→Bool
 | []=>true
 | (_,x) :: r=>!ment id x && b2u id r
def b3P {α:Type} (k:Nat):List (Nat×α)→Bool
 | []=>true
 | (i,_) :: r=>!Nat.beq i k && b3P k r
def a2a (n0 nx nt:Nat):List VE→List (Nat×AV)→List (Nat×Option Row)→Bool
 | [],_,_=>true
 | e :: V,T,m=>Nat.blt e.id nx && (Nat.blt e.d nt && (Nat.ble n0 e.id && (b3P e.id m && (freeM e.id m && (b2u e.id T && (b3P e.d T && a2a n0 nx nt V T m))))))
def a99:List VE→Bool
 | []=>true
 | e :: V=>!has e.id (V.map VE.id) && (!has e.d (V.map VE.d) && (!has e.i (V.map VE.i) && a99 V))
structure VFree (n0 nx nt:Nat) (V:List VE) (T:List (Nat×AV)) (m:List (Nat×Option Row)):Prop where
 lt:∀e∈V,e.id < nx
 dlt:∀e∈V,e.d < nt
 n0:∀e∈V,n0<=e.id
 mm:∀e∈V,mem m e.id=none
 fm:∀e∈V,freeM e.id m=true
 ft:∀e∈V,∀t x,look t T=some x→ment e.id x=false
 kt:∀e∈V,look e.d T=none
structure VDist (V:List VE):Prop where
 id:V.Pairwise (λa b=>a.id≠b.id)
 d:V.Pairwise (λa b=>a.d≠b.d)
 i:V.Pairwise (λa b=>a.i≠b.i)
theorem a52 {α:Type}:∀{l:List (Nat×α)},b3P k l=true→look k l=none
 | [],_=>rfl
 | (i,x) :: r,h=>by
  simp only [b3P,Bool.and_eq_true,Bool.not_eq_true'] at h
  rw [l6 (N6 h.1)]
  exact a52 h.2
theorem a8R:∀{l:List (Nat×AV)},b2u id l=true→∀t x,look t l=some x→ment id x=false
 | [],_,t,x,h=>by simp [look] at h
 | (i,y) :: r,h,t,x,hx=>by
  simp only [b2u,Bool.and_eq_true,Bool.not_eq_true'] at h
  by_cases e:i=t
  ·subst e;rw [r3] at hx;cases hx;exact h.1
  ·rw [l6 e] at hx;exact a8R h.2 t x hx
theorem VFree.of {nx:Nat}:∀{V:List VE},a2a n0 nx nt V T m=true→VFree n0 nx nt V T m
 | [],_=>⟨by simp,by simp,by simp,by simp,by simp,by simp,by simp⟩
 | e :: V,h=>by
  simp only [a2a,Bool.and_eq_true] at h
  obtain ⟨h1,h2,h3,h4,h5,h6,h7,h8⟩:=h
  have ih:=VFree.of h8
  refine ⟨?_,?_,?_,?_,?_,?_,?_⟩<;>intro e' he'<;>rcases List.mem_cons.1 he' with rfl | he'
  ·exact Nat.le_of_ble_eq_true h1
  ·exact ih.lt e' he'
  ·exact Nat.le_of_ble_eq_true h2
  ·exact ih.dlt e' he'
  ·exact Nat.le_of_ble_eq_true h3
  ·exact ih.n0 e' he'
  ·simp only [mem,a52 h4]
  ·exact ih.mm e' he'
  ·exact h5
  ·exact ih.fm e' he'
  ·exact a8R h6
  ·exact ih.ft e' he'
  ·exact a52 h7
  ·exact ih.kt e' he'
theorem VDist.of:∀{V:List VE},a99 V=true→VDist V
 | [],_=>⟨.nil,.nil,.nil⟩
 | e :: V,h=>by
  simp only [a99,Bool.and_eq_true,Bool.not_eq_true'] at h
  obtain ⟨h1,h2,h4,h3⟩:=h
  have ih:=VDist.of h3
  exact ⟨.cons (λb hb he=>a1b h1 b.id (List.mem_map.2 ⟨b,hb,Z⟩) he.symm) ih.id,.cons (λb hb he=>a1b h2 b.d (List.mem_map.2 ⟨b,hb,Z⟩) he.symm) ih.d,.cons (λb hb he=>a1b h4 b.i (List.mem_map.2 ⟨b,hb,Z⟩) he.symm) ih.i⟩
theorem b2v {f:VE→Nat} (h:V.Pairwise (λa b=>f a≠f b)):∀{a b:VE},a∈V→b∈V→f a=f b→a=b:=by
 induction V with
 | nil=>intro a b ha;cases ha
 | cons e V ih =>
  intro a b ha hb he
  rw [List.pairwise_cons] at h
  grind
theorem Split.memF (h:Split V F U):∀e∈F,e∈V:=by
 induction h with
 | nil=>simp
 | sel _ ih=>intro x hx;rcases List.mem_cons.1 hx with rfl | hx;simp;exact List.mem_cons_of_mem _ (ih x hx)
 | uns _ ih=>intro x hx;exact List.mem_cons_of_mem _ (ih x hx)
theorem Split.memU (h:Split V F U):∀e∈U,e∈V:=by
 induction h with
 | nil=>simp
 | uns _ ih=>intro x hx;rcases List.mem_cons.1 hx with rfl | hx;simp;exact List.mem_cons_of_mem _ (ih x hx)
 | sel _ ih=>intro x hx;exact List.mem_cons_of_mem _ (ih x hx)
theorem Split.move (h:Split V F U) {e:VE} (he:e∈U):∃F' U',Split V F' U'/\U'.length+1=U.length/\∀x,x∈F'↔x=e∨x∈F:=by
 induction h with
 | nil=>cases he
 | @sel e0 V F U _ ih =>
  obtain ⟨F',U',h1,h2,h3⟩:=ih he
  exact ⟨e0 :: F',U',.sel h1,h2,λx=>by simp only [List.mem_cons,h3];constructor<;>rintro (h | h | h)<;>simp [h]⟩
 | @uns e0 V F U hs ih =>
  by_cases e1:e=e0
  ·subst e1
   exact ⟨e :: F,U,.sel hs,by simp,λx=>by simp⟩
  ·have he':e∈U:=by rcases List.mem_cons.1 he with h | h;exact absurd h e1;exact h
   obtain ⟨F',U',h1,h2,h3⟩:=ih he'
   exact ⟨F',e0 :: U',.uns h1,by simp;omega,h3⟩
theorem Split.all:∀V:List VE,Split V [] V
 | []=>.nil
 | _ :: V=>.uns (Split.all V)
theorem a4i:∀{F:List VE} {t:Nat} {x:AV},look t (frT F T)=some x→(∃e∈F,e.d=t/\x=e.av)∨((∀e∈F,e.d≠t)/\look t T=some x)
 | [],t,x,h=>.inr ⟨by simp,h⟩
 | e :: F,t,x,h=>by
  simp only [frT] at h
  by_cases e1:e.d=t
  ·grind [r3]
  ·simp_all [l6,a4i]
theorem a0w:∀{F:List VE},F.Pairwise (λa b=>a.d≠b.d)→∀e∈F,look e.d (frT F T)=some e.av
 | [],_,e,h=>by cases h
 | e0 :: F,hp,e,he=>by
  rw [List.pairwise_cons] at hp
  simp only [frT]
  rcases List.mem_cons.1 he with rfl | he
  ·exact r3 _ _ _
  ·rw [l6 (hp.1 e he)];exact a0w hp.2 e he
theorem X5:∀{F:List VE} {t:Nat},(∀e∈F,e.d≠t)→look t (frT F T)=look t T
 | [],_,_=>rfl
 | e :: F,t,h=>by
  simp only [frT]
  rw [l6 (h e (by simp))]
  exact X5 λx hx=>h x (by simp [hx])
theorem a63:∀{F:List VE} {i:Nat} {r:Row},mem (frM F m) i=some r→(∃e∈F,e.id=i/\r=e.row)∨((∀e∈F,e.id≠i)/\mem m i=some r)
 | [],i,r,h=>.inr ⟨by simp,h⟩
 | e :: F,i,r,h=>by
  simp only [frM] at h
  by_cases e1:e.id=i
  ·grind [l5]
  ·simp_all [e7,a63]
theorem a3u:∀{F:List VE},F.Pairwise (λa b=>a.id≠b.id)→∀e∈F,mem (frM F m) e.id=some e.row
 | [],_,e,h=>by cases h
 | e0 :: F,hp,e,he=>by
  rw [List.pairwise_cons] at hp
  simp only [frM]
  rcases List.mem_cons.1 he with rfl | he
  ·exact l5 _ _ _
  ·rw [e7 (hp.1 e he)];exact a3u hp.2 e he
theorem a1L:∀{F:List VE} {i:Nat},(∀e∈F,e.id≠i)→mem (frM F m) i=mem m i
 | [],_,_=>rfl
 | e :: F,i,h=>by
  simp only [frM]
  rw [e7 (h e (by simp))]
  exact a1L λx hx=>h x (by simp [hx])
theorem Split.pw (h:Split V F U) {R:VE→VE→Prop} (hp:V.Pairwise R):F.Pairwise R:=by
 induction h with
 | nil=>exact .nil
 | sel hs ih=>rw [List.pairwise_cons] at hp;exact .cons (λb hb=>hp.1 b (hs.memF b hb)) (ih hp.2)
 | uns _ ih=>rw [List.pairwise_cons] at hp;exact ih hp.2
theorem VE.ment_av {e:VE}:ment id e.av=Nat.beq e.id id:=by unfold VE.av;cases e.box<;>rfl
mutual
theorem b2w {id:Nat}:∀(x:AV),z7 0 x=true→ment id x=false
 | .own i,h=>by simp only [z7] at h;exact absurd (Nat.le_of_ble_eq_true h) (Nat.not_lt_zero i)
 | .sub i _ _ _,h=>by simp only [z7] at h;exact absurd (Nat.le_of_ble_eq_true h) (Nat.not_lt_zero i)
 | .ptr i _,h=>by simp only [z7] at h;exact absurd (Nat.le_of_ble_eq_true h) (Nat.not_lt_zero i)
 | .rpt i _ _ _,h=>by simp only [z7] at h;exact absurd (Nat.le_of_ble_eq_true h) (Nat.not_lt_zero i)
 | .agg cs,h=>by simp only [z7] at h;simp only [ment];exact N4 cs h
 | .tup cs,h=>by simp only [z7] at h;simp only [ment];exact N4 cs h
 | .fnc _ cs,h=>by simp only [z7] at h;simp only [ment];exact N4 cs h
 | .eptN cs,h=>by simp only [z7] at h;simp only [ment];exact N4 cs h
 | .v _,_=>rfl
 | .lst _ _,_=>rfl
 | .pin _ _ _,_=>rfl
 | .ept _,_=>rfl
 | .nst _ _ _,_=>rfl
 | .any,_=>rfl
theorem N4 {id:Nat}:∀(x:List AV),H7 0 x=true→a0U id x=false
 | [],_=>rfl
 | c :: cs,h=>by simp only [H7,Bool.and_eq_true] at h;simp only [a0U,b2w c h.1,N4 cs h.2,Bool.or_false]
end
theorem b0a:∀{op:List (Nat×Nat×Nat)},a7U 0 op=true→a39 id op=false
 | [],_=>rfl
 | q :: r,h=>by simp only [a7U,Bool.and_eq_true] at h;exact absurd (Nat.le_of_ble_eq_true h.1) (Nat.not_lt_zero _)
def Quiet (id:Nat) (r:Row):Prop:=(∀cs,r=.box cs→a0U id cs=false)/\∀e sz yss op,r=.nest e sz yss op→a39 id op=false
theorem Quiet.of (h:rowRefs 0 r=true):Quiet id r:=⟨λcs e=>by subst e;exact N4 cs h,λ_ _ _ _ e=>by subst e;exact b0a h⟩
theorem Quiet.rel {nx:Nat} (hq:Quiet id r) (hne:i≠id) (h:RowRel w0 ρ nx w i r):RowRel w0 (upd ρ id y) nx w i r :=
 h.to (m3 ρ y hne) (λcs e l hl=>by exact RelVsUpd cs (hq.1 cs e) hl) λe sz yss op he q hq' hlt=>⟨hlt,m3 ρ y (a1g (hq.2 _ _ _ _ he) q hq')⟩
where
 RelVsUpd {w0:World} {id nx:Nat} {ρ:Nat→Value} {y:Value} (cs:List AV) {l:List Value} (hm:a0U id cs=false) (h:RelVs w0 ρ nx cs l):RelVs w0 (upd ρ id y) nx cs l :=
  RelVs.upd (w0:=⟨w0,0,ρ,w0,λ_=>False,λ_ h=>h.elim,λ_=>True,λ_ _=>trivial⟩) cs hm h
theorem RelC.addAt {b:Base} {M M':List (Nat×Option Row)} {nx:Nat} {row:Row} (hC:RelC b ρ M nx w) (hlt:id < nx) (hn0:b.n0<=id) (hq:∀i r,mem M i=some r→Quiet id r) (hb:Below w.heap.size w w') (hin:∀w y p,inn w y row p=none)
 (hrow:RowRel b.w (upd ρ id y) nx w' id row) (hy:∀c,blk y=some c→w.heap.size<=c) (hM:∀i r,mem M' i=some r→(i=id/\r=row)∨(i≠id/\mem M i=some r)):RelC b (upd ρ id y) M' nx w':=by
 have hC1:=hC.trans hb
 have hf:∀i r,mem M i=some r→∀c,S8 w' (ρ i) r c→c < w.heap.size:=λi r hi c hc=>hC.foot_lt hi (hC.foot_trans hb hi hc)
 have hval:∀i,i≠id→upd ρ id y i=ρ i:=λi hi=>m3 ρ y hi
 refine ⟨λi r hi=>?_,λi i' r r' hi hi' hne c hc=>?_,hC1.below,⟨hC.pin.1,λi hi=>(hval i J).trans (hC.pin.2 i hi)⟩,⟨hC1.kept.1,hC1.kept.2.1,λi r hi c hc hk=>?_⟩,λi r hi p c hc=>?_⟩
 ·rcases hM i r hi with ⟨rfl,rfl⟩ | ⟨h1,h2⟩
  ·exact ⟨hlt,hrow⟩
  ·exact ⟨(hC.rows i r h2).1,(hq i r h2).rel h1 (hC1.rows i r h2).2⟩
 ·rcases hM i r hi with ⟨rfl,rfl⟩ | ⟨h1,h2⟩
  ·rcases hM i' r' hi' with ⟨rfl,rfl⟩ | ⟨g1,g2⟩
   ·exact absurd Z hne
   ·rw [l3] at hc;rw [hval i' g1]
    intro hc'
    have:=hf i' r' g2 c (.inl hc');have:=hy c hc;omega
  ·rw [hval i h1] at hc
   rcases hM i' r' hi' with ⟨rfl,rfl⟩ | ⟨g1,g2⟩
   ·rw [l3]
    intro hc'
    have:=hf i r h2 c (.inl hc);have:=hy c hc';omega
   ·rw [hval i' g1];exact hC.apart i i' r r' h2 g2 hne c hc
 ·rcases hM i r hi with ⟨rfl,rfl⟩ | ⟨h1,h2⟩
  ·rw [l3] at hc;exact hC.fresh (hy c hc) hk
  ·rw [hval i h1] at hc;exact hC1.kept.2.2 i r h2 c hc hk
 ·rcases hM i r hi with ⟨rfl,rfl⟩ | ⟨h1,h2⟩
  ·rw [hin] at hc;cases hc
  ·rw [hval i h1] at hc
   obtain ⟨g1,g2,g3,g4⟩:=hC1.inner i r h2 p c hc
   refine ⟨g1,g2,g3,λi' r' hi'=>?_⟩
   rcases hM i' r' hi' with ⟨rfl,rfl⟩ | ⟨k1,k2⟩
   ·rw [l3]
    refine ⟨λhc'=>?_,λp' hp'=>by rw [hin] at hp';cases hp'⟩
    have:=hf i r h2 c (.inr ⟨p,hc⟩);have:=hy c hc';omega
   grind
section
variable {P:Program} [Env P] {b:Base} {ops:Array Oper} {T:List (Nat×AV)} {m m0:List (Nat×Option Row)} {nx nt fuel:Nat} {listed:Array Bool} {K:St→Prop} {V F U:List VE} {ρ:Nat→Value} {a:Act} {w:World}
theorem b7f (hV:VFree n0 nx nt V T m) (hok:∀e∈V,VOK P ops e) (hF:∀e∈F,e∈V) (hid:freeM id m=true):∀i r,mem (frM F m) i=some r→Quiet id r:=λi r hi=>by
 rcases a63 hi with ⟨x,h1,h2,h3⟩ | ⟨h1,h2⟩
 ·subst h3
  obtain ⟨_,_,_,_,h4,_⟩:=hok x (hF x h1)
  exact Quiet.of h4
 ·exact V4 hid h2
theorem b7g {e:VE} (hV:VFree b.n0 nx nt V T m) (hD:VDist V) (hok:∀e∈V,VOK P ops e) (hs:Split V F U) (he:e∈U) (hnF:e∉F) (hT:RelT b.w ρ (frT F T) nx nt a) (hC:RelC b ρ (frM F m) nx w) {F' U':List VE} (hs':Split V F' U') (hF':∀x,x∈F'↔x=e∨x∈F) :
 ∃o y w' ρ',ops[e.i]?=some o/\o.guard=none/\o.dst=some e.d/\(execOp a.eval o).run P w=.ok (.value y) w'/\RelT b.w ρ' (frT F' T) nx nt (a.put (some e.d) y)/\RelC b ρ' (frM F' m) nx w'/\Below w.heap.size w w':=by
 have heV:e∈V:=hs.memU e he
 obtain ⟨o,ho,hg,hd,hrf,hin,hrun⟩:=hok e heV
 obtain ⟨y,w',hr,hb,hy,hbox,hrow⟩:=hrun a w
 have hlt:=hV.lt e heV
 have hdlt:e.d < a.tmps.size:=by rw [hT.size];exact hV.dlt e heV
 have hother:∀x∈F,x.id≠e.id:=λx hx he'=>hnF (by have:=b2v hD.id (hs.memF x hx) heV he';rw [← this];exact hx)
 have hotherd:∀x∈F,x.d≠e.d:=λx hx he'=>hnF (by have:=b2v hD.d (hs.memF x hx) heV he';rw [← this];exact hx)
 have hmold:∀i r,mem (frM F' m) i=some r→(i=e.id/\r=e.row)∨(i≠e.id/\mem (frM F m) i=some r):=λi r hi=>by
  rcases a63 hi with ⟨x,h1,h2,h3⟩ | ⟨h1,h2⟩
  ·rcases (hF' x).1 h1 with rfl | h1
   ·grind
   ·subst h2
    refine .inr ⟨hother x h1,?_⟩
    rw [a3u (hs.pw hD.id) x h1,h3]
  ·grind [a1L]
 refine ⟨o,y,w',upd ρ e.id y,ho,hg,hd,hr,⟨λt x hx=>?_,by simp [Act.put,hT.size],by simp [Act.put,hT.defers]⟩,hC.addAt hlt (hV.n0 e heV) (b7f hV hok hs.memF (hV.fm e heV)) hb hin (hrow b.w _ nx hC.below.size (l3 _ _ _)) hy hmold,hb⟩
 have hput:∀t,t≠e.d→(a.put (some e.d) y).tmps.getD t undef=a.tmps.getD t undef:=λt ht=>by
  simp only [Act.put,Array.getD_eq_getD_getElem?]
  grind
 rcases a4i hx with ⟨x',h1,h2,h3⟩ | ⟨h1,h2⟩
 ·rcases (hF' x').1 h1 with rfl | h1
  ·subst h2;subst h3
   have hv:(a.put (some x'.d) y).tmps.getD x'.d undef=y:=by simp [Act.put,hdlt]
   rw [hv]
   unfold VE.av
   cases hbx:x'.box with
   | true=>obtain ⟨g,hg'⟩:=hbox hbx;simp only [cond_true,RelV];exact ⟨hlt,g,by rw [l3];exact hg',hg'⟩
   | false=>simp only [cond_false,RelV];exact ⟨hlt,(l3 _ _ _).symm⟩
  ·subst h2;subst h3
   rw [hput _ (hotherd x' h1)]
   refine RelV.upd x'.av ?_ (hT.tmps _ _ (a0w (hs.pw hD.d) x' h1))
   rw [VE.ment_av]
   cases hbe:Nat.beq x'.id e.id with
   | false=>rfl
   | true=>exact absurd (Nat.eq_of_beq_eq_true hbe) (hother x' h1)
 ·rw [hput _ λe1=>h1 e ((hF' e).2 (.inl Z)) e1.symm]
  refine RelV.upd x (hV.ft e heV t x h2) (hT.tmps t x ?_)
  rw [X5 λx hx=>h1 x ((hF' x).2 (.inr hx))]
  exact h2
theorem c5a {n n':Act→World→Prop} {Q Q':Exit→Act→World→Prop} (h:o.wp P a w n Q) (hQ:∀e a w,Q e a w→e=.normal) (hn:∀(a0:Act) (y:Value) (w':World),a0.tmps=a.tmps→n (a0.put o.dst y) w'→n' (a0.put o.dst y) w'):o.wp P a w n' Q':=by
 unfold Oper.wp at *
 generalize (execOp a.eval o).run P w=r at *
 cases r with
 | ok x w' =>
  cases x<;>simp only [Oper.upon] at h ⊢
  case value v=>exact hn a v w' Z h
  case skip=>exact hn a undef w' Z h
  case defer d=>exact hn { a with defers:=d :: a.defers } undef w' Z h
  case enter f args =>
   refine h.mono λe w'' he=>?_
   cases e with
   | returned u=>exact hn a u w'' Z he
   | panicked c=>exact absurd (hQ _ _ _ he) (by simp)
   | outgrown=>obtain ⟨a,w,he⟩:=he;exact absurd (hQ _ _ _ he) (by simp)
  case row row args=>exact Rows.mono h λu w'' he=>hn a u w'' Z he
 | halt x w' =>
  cases x<;>simp only [Oper.upon] at h ⊢
  grind
def rst (ρ ρ':Nat→Value):List VE→Nat→Value
 | []=>ρ'
 | e :: R=>upd (rst ρ ρ' R) e.id (ρ e.id)
theorem b0b:∀{R:List VE} {e:VE},e∈R→rst ρ ρ' R e.id=ρ e.id
 | [],_,h=>by cases h
 | e0 :: R,e,h=>by
  simp only [rst]
  by_cases e1:e.id=e0.id
  ·rw [e1,l3]
  ·rw [m3 _ _ e1]
   rcases List.mem_cons.1 h with rfl | h
   ·exact absurd Z e1
   ·exact b0b h
theorem b2x:∀{R:List VE} {i:Nat},(∀e∈R,e.id≠i)→rst ρ ρ' R i=ρ' i
 | [],_,_=>rfl
 | e0 :: R,i,h=>by
  simp only [rst]
  rw [m3 _ _ (Ne.symm (h e0 (by simp)))]
  exact b2x λe he=>h e (by simp [he])
theorem RelV.rst {w0:Base} {x:AV}:∀{R:List VE},(∀e∈R,ment e.id x=false)→RelV w0 ρ' nx x y→RelV w0 (Go.Rf.rst ρ ρ' R) nx x y
 | [],_,h=>h
 | e :: R,hm,h=>RelV.upd x (hm e (by simp)) (RelV.rst (λe he=>hm e (by simp [he])) h)
theorem RowRel.rst:∀{R:List VE},(∀e∈R,Quiet e.id r/\e.id≠i)→RowRel w0 ρ' nx w i r→RowRel w0 (Go.Rf.rst ρ ρ' R) nx w i r
 | [],_,h=>h
 | e :: R,hm,h=>(hm e (by simp)).1.rel (Ne.symm (hm e (by simp)).2) (RowRel.rst (λe he=>hm e (by simp [he])) h)
theorem b4V [EnvAt P b] {o:Oper} {C R:List VE} {S1:St} {Q':Exit→Act→World→Prop} (hV:VFree b.n0 nx nt V T m) (hD:VDist V) (hok:∀e∈V,VOK P ops e) (hFV:∀e∈F,e∈V) (hpF:F.Pairwise (λa b=>a.id≠b.id)) (hpFd:F.Pairwise (λa b=>a.d≠b.d)) (hCF:∀e∈C,e∈F) (hRF:∀e∈R,e∈F/\e∉C)
 (hx:∀b':Base,[EnvAt P b']→b'.n0=b.n0→WX P b' ops o [] ⟨frT C T,frM C m,nx,nt⟩ (nq (λS'=>S'=S1))) (hnx:nx<=S1.nx) {nt1:Nat} (hR1:VFree b.n0 S1.nx nt1 R S1.T S1.m) (hdst:∀e∈R,o.dst≠some e.d) (hpR:R.Pairwise (λa b=>a.id≠b.id)) (hpRd:R.Pairwise (λa b=>a.d≠b.d))
 (hT:RelT b.w ρ (frT F T) nx nt a) (hC:RelC b ρ (frM F m) nx w):o.wp P a w (λa' w'=>∃ρ'',RelT b.w ρ'' (frT R S1.T) S1.nx S1.nt a'/\RelC b ρ'' (frM R S1.m) S1.nx w') Q':=by
 have hRr:∀e∈R,mem (frM F m) e.id=some e.row:=λe he=>a3u hpF e (hRF e he).1
 have hsubC:∀i r,mem (frM C m) i=some r→mem (frM F m) i=some r/\∀e∈R,e.id≠i:=λi r hi=>by
  rcases a63 hi with ⟨x,h1,h2,h3⟩ | ⟨h1,h2⟩
  ·subst h2;subst h3
   refine ⟨a3u hpF x (hCF x h1),λe he e1=>(hRF e he).2 ?_⟩
   rw [b2v hpF (hRF e he).1 (hCF x h1) e1];exact h1
  ·have hno:∀e∈F,e.id≠i:=λe he e1=>by rw [← e1,hV.mm e (hFV e he)] at h2;cases h2
   exact ⟨by rw [a1L hno];exact h2,λe he=>hno e (hRF e he).1⟩
 let b':Base:=⟨b.w,b.n0,b.r0,w,λc=>b.keep c∨∃e∈R,S8 w (ρ e.id) e.row c,λc hc=>(by
  rcases hc with hc | ⟨e,he,hc⟩
  ·exact Nat.lt_of_lt_of_le (b.kb c hc) hC.kept.1
  ·exact hC.foot_lt (hRr e he) hc),b.E,b.hE⟩
 have hen:EnvAt P b':=⟨(inferInstance:EnvAt P b).e⟩
 have hapart:∀i r,mem (frM C m) i=some r→∀c,S8 w (ρ i) r c→∀e∈R,¬ S8 w (ρ e.id) e.row c:=λi r hi c hc e he hc'=>by
  obtain ⟨h1,h2⟩:=hsubC i r hi
  exact hC.foot_apart h1 (hRr e he) (Ne.symm (h2 e he)) hc hc'
 have hC0:RelC b ρ (frM C m) nx w:=hC.sub λi r hi=>(hsubC i r hi).1
 have hCb:RelC b' ρ (frM C m) nx w:=by
  refine ⟨hC0.rows,hC0.apart,hC0.below,hC0.pin,⟨Nat.le_refl _,λ_ _=>Z,λi r hi c hc hk=>?_⟩,λi r hi p c hc=>?_⟩
  ·rcases hk with hk | ⟨e,he,hk⟩
   ·exact hC0.kept.2.2 i r hi c hc hk
   ·exact hapart i r hi c (.inl hc) e he hk
  ·obtain ⟨g1,g2⟩:=hC0.inner i r hi p c hc
   refine ⟨λhk=>?_,g2⟩
   rcases hk with hk | ⟨e,he,hk⟩
   ·exact g1 hk
   ·exact hapart i r hi c (.inr ⟨p,hc⟩) e he hk
 have hTb:RelT b'.w ρ (frT C T) nx nt a:=by
  refine ⟨λt x hx'=>?_,hT.size,hT.defers⟩
  rcases a4i hx' with ⟨x',h1,h2,h3⟩ | ⟨h1,h2⟩
  ·subst h2;subst h3
   exact hT.tmps _ _ (a0w hpFd x' (hCF x' h1))
  ·refine hT.tmps t x ?_
   rw [X5 λe he e1=>?_]
   ·exact h2
   ·rw [← e1,hV.kt e (hFV e he)] at h2;cases h2
 have hwp:=hx b' Z ρ a w hTb hCb
 refine c5a hwp (λe a w h=>H0 h) λa0 y w' ha0 hn=>?_
 obtain ⟨ρ',S',hS',hT',hC'⟩:=hn
 simp only [nq] at hS'
 subst hS'
 have hnt:S'.nt=nt:=by have h1:=hT'.size;have h2:=hT.size;simp [Act.put] at h1;cases hd:o.dst<;>simp [hd,ha0] at h1<;>omega
 have hkeepR:∀e∈R,∀c,S8 w (ρ e.id) e.row c→b'.keep c:=λe he c hc=>.inr ⟨e,he,hc⟩
 have hinR:∀e∈R,∀w y p,inn w y e.row p=none:=λe he=>by obtain ⟨_,_,_,_,_,h5,_⟩:=hok e (hFV e (hRF e he).1);exact h5
 have hrfR:∀e∈R,rowRefs 0 e.row=true:=λe he=>by obtain ⟨_,_,_,_,h4,_⟩:=hok e (hFV e (hRF e he).1);exact h4
 have hmR:∀i r,mem S'.m i=some r→∀e∈R,Quiet e.id r/\e.id≠i:=λi r hi e he=>⟨V4 (hR1.fm e he) hi,λe1=>by rw [← e1,hR1.mm e he] at hi;cases hi⟩
 have hcase:∀i r,mem (frM R S'.m) i=some r→(∃e∈R,i=e.id/\r=e.row/\rst ρ ρ' R i=ρ e.id)∨(mem S'.m i=some r/\rst ρ ρ' R i=ρ' i):=λi r hi=>by
  grind [a63,b0b,b2x]
 have hsame:∀e∈R,∀c,blk (ρ e.id)=some c→w'.heap[c]?=w.heap[c]?:=λe he c hc=>hC'.kept.2.1 c (hkeepR e he c (.inl hc))
 have hsz:w.heap.size<=w'.heap.size:=hC'.kept.1
 refine ⟨rst ρ ρ' R,⟨λt x hx'=>?_,hT'.size,hT'.defers⟩,λi r hi=>?_,λi i' r r' hi hi' hne c hc=>?_,hC'.below,⟨hC'.pin.1,λi hi=>?_⟩,⟨Nat.le_trans hC.kept.1 hsz,λc hc=>(hC'.kept.2.1 c (.inl hc)).trans (hC.kept.2.1 c hc),λi r hi c hc hk=>?_⟩,λi r hi p c hc=>?_⟩
 ·rcases a4i hx' with ⟨e,h1,h2,h3⟩ | ⟨h1,h2⟩
  ·subst h2;subst h3
   have hv:(a0.put o.dst y).tmps.getD e.d undef=a.tmps.getD e.d undef:=by
    rw [← ha0]
    cases hd:o.dst with
    | none=>rfl
    | some d =>
     have:d≠e.d:=λe1=>hdst e h1 (by rw [hd,e1])
     simp only [Act.put,Array.getD_eq_getD_getElem?]
     grind
   rw [hv]
   have hr:=hT.tmps _ _ (a0w hpFd e (hRF e h1).1)
   have hlt:=hR1.lt e h1
   unfold VE.av at hr ⊢
   cases hbx:e.box with
   | true=>simp only [hbx,cond_true,RelV] at hr ⊢;obtain ⟨_,g,q1,q2⟩:=hr;exact ⟨hlt,g,by rw [b0b h1];exact q1,q2⟩
   | false=>simp only [hbx,cond_false,RelV] at hr ⊢;exact ⟨hlt,by rw [b0b h1];exact hr.2⟩
  ·exact RelV.rst (w0:=b') (λe he=>hR1.ft e he t x h2) (hT'.tmps t x h2)
 ·rcases hcase i r hi with ⟨e,h1,rfl,rfl,h3⟩ | ⟨h1,h2⟩
  ·refine ⟨hR1.lt e h1,?_⟩
   have hr:=(hC.rows _ _ (hRr e h1)).2
   have hr2:=hr.frame (w':=w') (λc hc=>hsame e h1 c hc) λp c hc=>by rw [hinR e h1] at hc;cases hc
   exact RowRel.move (w0:=b) hr2 (hrfR e h1) (b0b h1)
  ·obtain ⟨g1,g2⟩:=hC'.rows i r h1
   exact ⟨g1,RowRel.rst (hmR i r h1) g2⟩
 ·rcases hcase i r hi with ⟨e,h1,rfl,rfl,h3⟩ | ⟨h1,h2⟩
  ·rw [h3] at hc
   rcases hcase i' r' hi' with ⟨e',g1,rfl,rfl,g3⟩ | ⟨g1,g2⟩
   ·rw [g3]
    exact hC.apart e.id e'.id _ _ (hRr e h1) (hRr e' g1) hne c hc
   ·rw [g2]
    intro hc'
    exact hC'.kept.2.2 i' r' g1 c hc' (hkeepR e h1 c (.inl hc))
  ·rw [h2] at hc
   rcases hcase i' r' hi' with ⟨e',g1,rfl,rfl,g3⟩ | ⟨g1,g2⟩
   ·rw [g3]
    intro hc'
    exact hC'.kept.2.2 i r h1 c hc (hkeepR e' g1 c (.inl hc'))
   ·rw [g2]
    exact hC'.apart i i' r r' h1 g1 hne c hc
 ·rw [b2x λe he e1=>by have:=hR1.n0 e he;omega]
  exact hC'.pin.2 i hi
 ·rcases hcase i r hi with ⟨e,h1,rfl,rfl,h3⟩ | ⟨h1,h2⟩
  ·rw [h3] at hc;exact hC.kept.2.2 e.id _ (hRr e h1) c hc hk
  ·rw [h2] at hc;exact hC'.kept.2.2 i r h1 c hc (.inl hk)
 ·rcases hcase i r hi with ⟨e,h1,rfl,rfl,h3⟩ | ⟨h1,h2⟩
  ·grind
  ·rw [h2] at hc
   obtain ⟨g1,g2,g3,g4⟩:=hC'.inner i r h1 p c hc
   refine ⟨λhk=>g1 (.inl hk),g2,g3,λi' r' hi'=>?_⟩
   rcases hcase i' r' hi' with ⟨e',k1,rfl,rfl,k3⟩ | ⟨k1,k2⟩
   ·rw [k3]
    exact ⟨λhc'=>g1 (hkeepR e' k1 c (.inl hc')),λp' hp'=>by rw [hinR e' k1] at hp';cases hp'⟩
   grind
def WAV (P:Program) (b:Base) (ops:Array Oper) (m0:List (Nat×Option Row)) (fuel:Nat) (listed:Array Bool) (S:St) (V:List VE) (K:St→Prop):Prop :=
 ∀F U,Split V F U→WA P b ops m0 (fuel+U.length) (T2 (F.map VE.i) listed) ⟨frT F S.T,frM F S.m,S.nx,S.nt⟩ K
theorem s7 {S:St} (V:List VE) (hok:∀e∈V,VOK P ops e) (h:(∀e∈V,VOK P ops e)→WAV P b ops m0 fuel listed S V K):WA P b ops m0 (fuel+V.length) listed S K:=h hok [] V (Split.all V)
theorem G0 (h:WA P b ops m0 fuel listed S K):WAV P b ops m0 fuel listed S [] K:=λF U hs=>by cases hs;exact h
def a1M:List Nat→List (List Nat×List Nat)
 | []=>[([],[])]
 | i :: r=>(a1M r).map (λp=>(i :: p.1,p.2))++(a1M r).map (λp=>(p.1,i :: p.2))
theorem Split.inN (h:Split V F U):(F.map VE.i,U.map VE.i)∈a1M (V.map VE.i):=by
 induction h with
 | nil=>simp [a1M]
 | @sel e V F U _ ih=>simp only [List.map_cons,a1M,List.mem_append,List.mem_map];exact .inl ⟨_,ih,Z⟩
 | @uns e V F U _ ih=>simp only [List.map_cons,a1M,List.mem_append,List.mem_map];exact .inr ⟨_,ih,Z⟩
def b8f (F:List Nat):List Nat→Bool
 | []=>true
 | c :: r=>has c F && b8f F r
def c0W (i:Nat) (F:List Nat):List (Nat×List Nat)→Bool
 | []=>false
 | (j,C) :: r=>(Nat.beq j i && b8f F C) || c0W i F r
def c7u (ops:Array Oper) (listed:Array Bool) (is:List Nat) (rs:List (Nat×List Nat)):Bool :=
 (a1M is).all λp=>let R:=Region.ready .any ops (T2 p.1 listed);!R.isEmpty && R.all λi=>has i p.2 || c0W i p.1 rs
def a5n (is:List Nat):List VE→List VE
 | []=>[]
 | e :: V=>bif has e.i is then e :: a5n is V else a5n is V
def a0b (is:List Nat):List VE→List VE
 | []=>[]
 | e :: V=>bif has e.i is then a0b is V else e :: a0b is V
theorem a4j {is:List Nat} {e:VE}:∀{V:List VE},e∈a5n is V↔e∈V/\e.i∈is
 | []=>by simp [a5n]
 | e0 :: V=>by
  simp only [a5n]
  cases h:has e0.i is with
  | true =>
   have:=a1o.1 h
   simp only [cond_true,List.mem_cons,a4j (V:=V)]
   grind
  | false =>
   have:e0.i∉is:=λhh=>by rw [a1o.2 hh] at h;cases h
   simp only [cond_false,List.mem_cons,a4j (V:=V)]
   grind
theorem a0x {is:List Nat} {e:VE}:∀{V:List VE},e∈a0b is V↔e∈V/\e.i∉is
 | []=>by simp [a0b]
 | e0 :: V=>by
  simp only [a0b]
  cases h:has e0.i is with
  | true =>
   have:=a1o.1 h
   simp only [cond_true,List.mem_cons,a0x (V:=V)]
   grind
  | false =>
   have:e0.i∉is:=λhh=>by rw [a1o.2 hh] at h;cases h
   simp only [cond_false,List.mem_cons,a0x (V:=V)]
   grind
theorem a9z {R:VE→VE→Prop}:∀{V:List VE},V.Pairwise R→(a0b is V).Pairwise R
 | [],h=>h
 | e :: V,h=>by
  rw [List.pairwise_cons] at h
  simp only [a0b]
  cases has e.i is with
  | true=>exact a9z h.2
  | false=>exact .cons (λx hx=>h.1 x (a0x.1 hx).1) (a9z h.2)
theorem Split.rem (h:Split V F U):(∀e∈U,e.i∉is)→Split (a0b is V) (a0b is F) U:=by
 induction h with
 | nil=>intro _;exact .nil
 | @sel e V F U _ ih =>
  intro hU
  simp only [a0b]
  cases has e.i is with
  | true=>exact ih hU
  | false=>exact .sel (ih hU)
 | @uns e V F U _ ih =>
  intro hU
  simp only [a0b]
  cases h:has e.i is with
  | true=>exact absurd (a1o.1 h) (hU e (by simp))
  | false=>exact .uns (ih λx hx=>hU x (by simp [hx]))
theorem Split.disj (h:Split V F U) {f:VE→Nat}:V.Pairwise (λa b=>f a≠f b)→∀x∈F,∀y∈U,f x≠f y:=by
 induction h with
 | nil=>intro _ x hx;cases hx
 | @sel e V F U hs ih =>
  intro hp x hx y hy
  rw [List.pairwise_cons] at hp
  rcases List.mem_cons.1 hx with rfl | hx
  ·exact hp.1 y (hs.memU y hy)
  grind
 | @uns e V F U hs ih =>
  intro hp x hx y hy
  rw [List.pairwise_cons] at hp
  rcases List.mem_cons.1 hy with rfl | hy
  ·exact Ne.symm (hp.1 x (hs.memF x hx))
  grind
def a3v (d:Option Nat):List VE→Bool
 | []=>true
 | e :: V=>(match d with | some d=>!Nat.beq d e.d | none=>true) && a3v d V
theorem a54 {d:Option Nat}:∀{V:List VE},a3v d V=true→∀e∈V,d≠some e.d
 | [],_,e,h=>by cases h
 | e0 :: V,h,e,he=>by
  simp only [a3v,Bool.and_eq_true] at h
  rcases List.mem_cons.1 he with rfl | he
  ·intro e1;subst e1;simp [Nat.beq_refl] at h
  ·exact a54 h.2 e he
def VStep (P:Program) [Env P] (b:Base) (ops:Array Oper) (m0:List (Nat×Option Row)) (fuel:Nat) (listed:Array Bool) (S:St) (V:List VE) (K:St→Prop) (j:Nat) (is:List Nat):Prop :=
 ∃o S1 ms,ops[j]?=some o/\o.guard=none/\(∀b':Base,[EnvAt P b']→b'.n0=b.n0→WX P b' ops o [] ⟨frT (a5n is V) S.T,frM (a5n is V) S.m,S.nx,S.nt⟩ (nq (λS'=>S'=S1)))/\Nat.ble S.nx S1.nx=true/\a2a b.n0 S1.nx S1.nt (a0b is V) S1.T S1.m=true/\a3v o.dst (a0b is V)=true/\S0 b.n0 S1.m ms []=some m0 /\
  WAV P b ops m0 fuel ((T2 is listed).setIfInBounds j true) S1 (a0b is V) K
theorem VStep.mk (ms:List Nat) {o:Oper} {S1:St} (ho:ops[j]?=some o) (hg:o.guard=none) (hx:∀b':Base,[EnvAt P b']→b'.n0=b.n0→WX P b' ops o [] ⟨frT (a5n is V) S.T,frM (a5n is V) S.m,S.nx,S.nt⟩ (nq (λS'=>S'=S1))) (hn:Nat.ble S.nx S1.nx=true) (hv:a2a b.n0 S1.nx S1.nt (a0b is V) S1.T S1.m=true) (hd:a3v o.dst (a0b is V)=true) (hk:S0 b.n0 S1.m ms []=some m0)
 (h:WAV P b ops m0 fuel ((T2 is listed).setIfInBounds j true) S1 (a0b is V) K):VStep P b ops m0 fuel listed S V K j is:=⟨o,S1,ms,ho,hg,hx,hn,hv,hd,hk,h⟩
def AllVS (P:Program) [Env P] (b:Base) (ops:Array Oper) (m0:List (Nat×Option Row)) (fuel:Nat) (listed:Array Bool) (S:St) (V:List VE) (K:St→Prop):List (Nat×List Nat)→Prop
 | []=>True
 | (j,is) :: r=>VStep P b ops m0 fuel listed S V K j is/\AllVS P b ops m0 fuel listed S V K r
theorem AllVS.get {F:List Nat}:∀{rs:List (Nat×List Nat)},AllVS P b ops m0 fuel listed S V K rs→c0W i F rs=true→∃is,(∀c∈is,c∈F)/\VStep P b ops m0 fuel listed S V K i is
 | [],_,h=>by cases h
 | (j,C) :: r,hA,h=>by
  simp only [c0W,Bool.or_eq_true,Bool.and_eq_true] at h
  rcases h with ⟨h1,h2⟩ | h
  ·have:=Nat.eq_of_beq_eq_true h1
   subst this
   refine ⟨C,?_,hA.1⟩
   clear hA h1
   induction C with
   | nil=>intro c hc;cases hc
   | cons c0 C ih =>
    grind [b8f,a1o]
  ·exact AllVS.get hA.2 h
theorem AllVS.nil:AllVS P b ops m0 fuel listed S V K []:=trivial
theorem AllVS.cons {r:List (Nat×List Nat)} (h:VStep P b ops m0 fuel listed S V K j is) (h':AllVS P b ops m0 fuel listed S V K r):AllVS P b ops m0 fuel listed S V K ((j,is) :: r):=⟨h,h'⟩
theorem b5Q [EnvAt P b] {rs:List (Nat×List Nat)} (hV:VFree b.n0 nx nt V T m) (hD:VDist V) (hok:∀e∈V,VOK P ops e) (hchk:c7u ops listed (V.map VE.i) rs=true) (hA:AllVS P b ops m0 fuel listed ⟨T,m,nx,nt⟩ V K rs) (hs:Split V F U)
 (ih:∀F' U',Split V F' U'→U'.length+1=U.length→WA P b ops m0 (fuel+1+U'.length) (T2 (F'.map VE.i) listed) ⟨frT F' T,frM F' m,nx,nt⟩ K):WA P b ops m0 (fuel+1+U.length) (T2 (F.map VE.i) listed) ⟨frT F T,frM F m,nx,nt⟩ K:=by
 intro hns ρ a w hT hC hS
 have hc0:=(List.all_eq_true.1 hchk) _ hs.inN
 simp only [Bool.and_eq_true,Bool.not_eq_true'] at hc0
 obtain ⟨hne,hall⟩:=hc0
 rw [show fuel+1+U.length=(fuel+U.length)+1 by omega]
 refine wpAnyH_all Z (λh=>by rw [h] at hne;cases hne) λi hi=>?_
 have hcase:=(List.all_eq_true.1 hall) i hi
 rw [Bool.or_eq_true] at hcase
 rcases hcase with hcase | hcase
 ·obtain ⟨e,he,rfl⟩:=List.mem_map.1 (a1o.1 hcase)
  have hnF:e∉F:=λh=>hs.disj (f:=VE.id) hD.id e h e he Z
  obtain ⟨F',U',h1,h2,h3⟩:=hs.move he
  obtain ⟨o,y,w',ρ',g1,g2,g3,g4,g5,g6,g7⟩:=b7g hV hD hok hs he hnF hT hC h1 h3
  unfold wpOp
  simp only [g1]
  rw [if_pos (by simp [Region.wanted,g2])]
  refine .inl ?_
  unfold Oper.wp
  rw [g4,Oper.upon_value,g3]
  have hS':Cls b m0 w':=RelC.trans hS g7
  refine ⟨hS',?_⟩
  have hm:(T2 (F.map VE.i) listed).setIfInBounds e.i true=T2 (F'.map VE.i) listed:=by
   rw [a62]
   refine b1x λk=>?_
   grind
  rw [hm,show fuel+U.length=fuel+1+U'.length by omega]
  exact ih F' U' h1 h2 hns ρ' _ w' g5 g6 hS'
 ·obtain ⟨is,hisF,o,S1,ms,ho,hg,hx,hnx,hvf,hdn,hkm,hW⟩:=hA.get hcase
  have hR:=VFree.of hvf
  have hisFe:∀e∈V,e.i∈is→e∈F:=λe he hi'=>by
   obtain ⟨x,hx',hxe⟩:=List.mem_map.1 (hisF _ hi')
   rw [← b2v hD.i (hs.memF x hx') he hxe];exact hx'
  have hUis:∀e∈U,e.i∉is:=λe he hi'=>hs.disj (f:=VE.id) hD.id e (hisFe e (hs.memU e he) hi') e he Z
  have hsp:=hs.rem (is:=is) hUis
  have hR2:VFree b.n0 S1.nx S1.nt (a0b is F) S1.T S1.m:=by
   have hsub:∀e∈a0b is F,e∈a0b is V:=hsp.memF
   exact ⟨λe he=>hR.lt e (hsub e he),λe he=>hR.dlt e (hsub e he),λe he=>hR.n0 e (hsub e he),λe he=>hR.mm e (hsub e he),λe he=>hR.fm e (hsub e he),λe he=>hR.ft e (hsub e he),λe he=>hR.kt e (hsub e he)⟩
  have hfr:=b4V (F:=F) (C:=a5n is V) (R:=a0b is F) (Q':=a25 b (nq K)) hV hD hok hs.memF (hs.pw hD.id) (hs.pw hD.d) (λe he=>hisFe e (a4j.1 he).1 (a4j.1 he).2) (λe he=>⟨(a0x.1 he).1,λh=>(a0x.1 he).2 (a4j.1 h).2⟩) hx (Nat.le_of_ble_eq_true hnx) hR2 (λe he=>a54 hdn e (hsp.memF e he)) (a9z (hs.pw hD.id)) (a9z (hs.pw hD.d)) hT hC
  unfold wpOp
  simp only [ho]
  rw [if_pos (by simp [Region.wanted,hg])]
  refine .inl ?_
  unfold Oper.wp at hfr ⊢
  refine upon_mono hfr λa' w' ⟨ρ'',k1,k2⟩=>?_
  have hS':Cls b m0 w':=by
   refine RelC.cls (ms:=ms) (k2.sub λi r hi=>?_) hkm
   rw [a1L λe he e1=>by rw [← e1,hR2.mm e he] at hi;cases hi]
   exact hi
  refine ⟨hS',?_⟩
  have hm:(T2 (F.map VE.i) listed).setIfInBounds i true=T2 ((a0b is F).map VE.i) ((T2 is listed).setIfInBounds i true):=by
   rw [a62,a62,b7e]
   refine b1x λk=>?_
   simp only [List.mem_cons,List.cons_append,List.mem_append,List.mem_map]
   constructor
   ·grind [a0x]
   ·grind [a0x]
  rw [hm]
  exact hW _ _ hsp hns ρ'' a' w' k1 k2 hS'
where
 upon_mono {o:Oper} {a:Act} {n n':Act→World→Prop} {Q:Exit→Act→World→Prop} {r:Result Next} (h:o.upon P a n Q r) (hn:∀a w,n a w→n' a w):o.upon P a n' Q r:=by
  cases r with
  | ok x w' =>
   cases x<;>simp only [Oper.upon] at h ⊢
   case value v=>exact hn _ _ h
   case skip=>exact hn _ _ h
   case defer d=>exact hn _ _ h
   case enter f args =>
    refine h.mono λe w'' he=>?_
    cases e with
    | returned u=>exact hn _ _ he
    | panicked c=>exact he
    | outgrown=>exact he
   case row row args=>exact Rows.mono h λu w'' he=>hn _ _ he
  | halt x w'=>cases x<;>exact h
theorem n6 [EnvAt P b] (rs:List (Nat×List Nat)) (hV0:a2a b.n0 nx nt V T m=true) (hD0:a99 V=true) (hok:∀e∈V,VOK P ops e) (hchk:c7u ops listed (V.map VE.i) rs=true) (hA:AllVS P b ops m0 fuel listed ⟨T,m,nx,nt⟩ V K rs):WAV P b ops m0 (fuel+1) listed ⟨T,m,nx,nt⟩ V K:=by
 have main:∀n F U,Split V F U→U.length=n→WA P b ops m0 (fuel+1+U.length) (T2 (F.map VE.i) listed) ⟨frT F T,frM F m,nx,nt⟩ K:=by
  intro n
  induction n with
  | zero=>intro F U hs hl;exact b5Q (VFree.of hV0) (VDist.of hD0) hok hchk hA hs λF' U' _ h=>by omega
  | succ n ih=>intro F U hs hl;exact b5Q (VFree.of hV0) (VDist.of hD0) hok hchk hA hs λF' U' hs' h=>ih F' U' hs' J
 exact λF U hs=>main _ F U hs Z
theorem VOK.lit {tb:List (Nat×TyI)} {t sz:Nat} (G:Good P tb) (ho:ops[i]?=some o) (hg:o.guard=none) (hd:o.dst=some d) (hop:o.op=.buildSlice t 0 #[]) (ht:look t tb=some (.slice e sz by_ zs)):VOK P ops ⟨i,d,id,false,.row e sz []⟩:=by
 refine ⟨o,ho,hg,hd,Z,λ_ _ _=>Z,λρ w=>?_⟩
 have hrun:=a1f (G t _ ht) [] (by simp) (by simp) w
 refine ⟨.slice (some ⟨w.heap.size,0,none⟩) 0 0,w.alloc (.cells #[] e),?_,(Below.refl _ _).alloc (Nat.le_refl _) _,λb hb=>(by simp [blk] at hb;omega),λh=>(by cases h),λB r nx hB hr=>?_⟩
 ·simp only [execOp,hop,Sem.run_bind]
  simp at hrun
  simp [hrun]
 ·simp only [RowRel]
  rw [hr]
  refine ⟨⟨by simp,.inr ⟨w.heap.size,0,#[],Z,hB,Go.heap_alloc_new w _,Nat.le_refl _,Nat.zero_le _,by simp,by simp⟩⟩,by simp⟩
theorem b8g:∀(zs:List Value),H7 0 (avR zs [])=true:=λzs=>by
 rw [a33]
 induction zs with
 | nil=>rfl
 | cons z zs ih=>simpa [H7,z7] using ih
theorem VOK.box {t:Nat} (ho:ops[i]?=some o) (hg:o.guard=none) (hd:o.dst=some d) (hop:o.op=.alloc t) (hone:∀u∈zs,u.oneCell'=true) (hz:∃inf z,P.info? t=some inf/\inf.zero=some z/\z.cells=zs.toArray):VOK P ops ⟨i,d,id,true,.box (avR zs [])⟩:=by
 obtain ⟨inf,z,h1,h2,h3⟩:=hz
 refine ⟨o,ho,hg,hd,b8g zs,λ_ _ _=>Z,λρ w=>⟨.pointer (some ⟨w.heap.size,0,none⟩),w.alloc (.cells zs.toArray t),?_,(Below.refl _ _).alloc (Nat.le_refl _) _,λb hb=>(by simp [blk] at hb;omega),λ_=>⟨_,Z⟩,λB r nx hB hr=>?_⟩⟩
 ·simp [execOp,hop,Instr.alloc,zeroValue,typeInfo,h1,h2,newVar,newRow,h3]
 ·refine ⟨w.heap.size,zs.toArray,t,hr,hB,Go.heap_alloc_new w _,?_,by simpa using hone⟩
  rw [a33];simpa using RelVs.map_v zs
theorem VOK.boxS {tb:List (Nat×TyI)} {t:Nat} {fs:List (Nat×Nat)} (G:Good P tb) (ho:ops[i]?=some o) (hg:o.guard=none) (hd:o.dst=some d) (hop:o.op=.alloc t) (ht:look t tb=some (.struct fs zs)):VOK P ops ⟨i,d,id,true,.box (avR zs [])⟩:=by
 obtain ⟨fields,inf,_,hi,_,hz,h1,_⟩:=G t _ ht
 exact VOK.box ho hg hd hop h1 ⟨inf,_,hi,hz,by simp [Value.cells]⟩
theorem VOK.make {tb:List (Nat×TyI)} {o:Oper} {t e sz by_ d i id n:Nat} {zs:List Value} {kl kc:IntKind} (G:Good P tb) (ho:ops[i]?=some o) (hg:o.guard=none) (hd:o.dst=some d) (hop:o.op=.makeSlice t (.const (.int kl n)) (.const (.int kc n))) (ht:look t tb=some (.slice e sz by_ zs)) (hb:by_ * n<=281474976710656) (hn:n<=9223372036854775807):VOK P ops ⟨i,d,id,false,.row e sz (List.replicate n zs)⟩:=by
 obtain ⟨hu,_,inf,z,hi,hs,hby,hz,hzc,hzl,hpos,hone⟩:=G t _ ht
 subst hby;subst hs
 refine ⟨o,ho,hg,hd,Z,λ_ _ _=>Z,λρ w=>?_⟩
 obtain ⟨w',hr,_,hgr⟩:=run_make_full (P:=P) w 0 t e inf z inf.size hu hi hz Z kl kc n hb (by unfold maxLen;exact hn) (Nat.zero_le _)
 have hb2:Below w.heap.size w w':=(Below.refl _ _).grown hgr (Nat.le_refl _) (by simp)
 refine ⟨.slice (some ⟨w.heap.size,0,none⟩) n n,w',?_,hb2,λb hb=>(by simp [blk] at hb;omega),λh=>(by cases h),λB r nx hB hr'=>?_⟩
 ·simp only [execOp,hop,Sem.run_bind]
  simp [Act.eval,hr]
 ·obtain ⟨w2,hr2,hown,_⟩:=run_make_full (P:=P) w B.heap.size t e inf z inf.size hu hi hz Z kl kc n hb (by unfold maxLen;exact hn) hB
  have e2:w2=w':=by rw [hr] at hr2;cases hr2;rfl
  subst e2
  refine ⟨?_,λc hc=>by rw [(List.mem_replicate.1 hc).2];exact ⟨hzl,hone⟩⟩
  rw [OwnR.no,hr',List.length_replicate]
  rw [hzc,← hzl,b1e J] at hown
  grind
theorem A9 {N:Nat} (hn:Nat.ble nx N=true) (h:WA P b ops m0 fuel listed ⟨T,m,N,nt⟩ K):WA P b ops m0 fuel listed ⟨T,m,nx,nt⟩ K:=by
 intro hs ρ a w hT hC hS
 have hn:=Nat.le_of_ble_eq_true hn
 refine h hs ρ a w ⟨λt x hx=>(hT.tmps t x hx).mono hn (λ_ _=>Z),hT.size,hT.defers⟩ ⟨λid r hr=>?_,hC.apart,hC.below,⟨Nat.le_trans hC.pin.1 hn,hC.pin.2⟩,hC.kept,hC.inner⟩ hS
 obtain ⟨h1,h2⟩:=hC.rows id r hr
 exact ⟨Nat.lt_of_lt_of_le h1 hn,h2.mono hn (λ_ _=>Z) h1⟩
theorem AllVOK.cons {e:VE} (h:VOK P ops e) (h':∀e∈V,VOK P ops e):∀x∈e :: V,VOK P ops x:=λx hx=>by rcases List.mem_cons.1 hx with rfl | hx;exact h;exact h' x hx
theorem AllVOK.nil:∀x∈([]:List VE),VOK P ops x:=λx hx=>by cases hx
end
structure CtrE (P:Program) [Env P] {α:Type} (f:FuncId) (args:List AV) (res:α→Res):Prop where
 callable:Callable P f
 calls:∀w vs,Env.E P w→RelVs w noRho 0 args vs→Calls P f vs.toArray w λe w'=>∃x:α,∃v,e=.returned v/\ResRel w.heap.size w' (res x) v/\Below w.heap.size w w'
def c7v {α:Type} (tb:List (Nat×TyI)) (rs:List ResultVar) (res:α→Res):Exit→St→Prop:=λe S=>∃x,Fin tb rs (res x) e S
theorem c5b {α:Type} {tb:List (Nat×TyI)} {res:α→Res} {e:Exit} (x:α) (h:Fin tb rs (res x) e S):c7v tb rs res e S:=⟨x,h⟩
section
variable {P:Program} [Env P] {w0:Base} {ops:Array Oper} {tb:List (Nat×TyI)} {o:Oper} {rest:List Oper} {T:List (Nat×AV)} {m:List (Nat×Option Row)} {nx nt d:Nat} {Q:Exit→St→Prop} {c:Code}
theorem CtrE.of {α:Type} {res:α→Res} (G:Good P tb) {f:FuncId} {fn:Func} {c:Code} {args:List AV} {l:List ResultVar} {n:Nat} (hf:P.funcs[f]?=some fn) (hb:fn.body=some c) (hname:(fn.name == "runtime.NumGoroutine")=false) (hl:fn.results=l.toArray) (hn:fn.ntmps=n)
 (hlen:Nat.ble args.length n=true) (h:∀w0:Base,[NoPin w0]→[EnvAt P w0]→W P w0 c ⟨a5U args 0,[],0,n⟩ (c7v tb l res)):CtrE P f args res:=by
 refine ⟨⟨fn,hf,hname,by rw [hb];rfl⟩,λw vs henv hrel=>?_⟩
 have hlen':args.length<=n:=Nat.le_of_ble_eq_true hlen
 have hvl:=RelVs.length _ hrel
 refine calls_of_wp hf hb ?_
 let b0:Base:=⟨w,0,noRho,w,λ_=>False,λ_ h=>h.elim,Env.E P,λw' hb=>Env.mono henv hb⟩
 have hC:RelC b0 noRho [] 0 w:=⟨λid r hr=>by simp [mem,look] at hr,λid id' r r' hr=>by simp [mem,look] at hr,Below.refl _ _,⟨Nat.le_refl _,λi hi=>by cases hi⟩,⟨Nat.le_refl _,λb h=>h.elim,λid r hr=>by simp [mem,look] at hr⟩,λid r hr=>by simp [mem,look] at hr⟩
 have hnp:NoPin b0:=⟨Z⟩
 have hen:EnvAt P b0:=⟨Z⟩
 have hT:RelT w noRho (a5U args 0) 0 n { tmps:=vs.toArray++Array.replicate (fn.ntmps - vs.toArray.size) undef,defers:=[] }:=by
  refine ⟨λt x hx=>?_,by simp [hn];omega,Z⟩
  obtain ⟨u,_,h2,h3⟩:=a4X hrel t x hx
  have hlt:t < vs.length:=by
   grind
  have:(vs.toArray++Array.replicate (fn.ntmps - vs.toArray.size) undef).getD t undef=u:=by
   rw [Array.getD_eq_getD_getElem?,Array.getElem?_append_left (by simpa using hlt)]
   grind
  rw [this]
  exact h3
 refine wp_mono (h b0 noRho _ w hT hC) ?_
 have fin:∀(x:α) (ρ:Nat→Value) (S:St) (a:Act) (w':World) (avs:List AV),V5 tb S l []=some avs→ResOK S.m avs (res x)→RelT w ρ S.T S.nx S.nt a→RelC b0 ρ S.m S.nx w' →
  a.defers=[]/\∃v,(results fn a.tmps).run P w'=.ok v w'/\∃x:α,∃u,Ending.returned v=.returned u/\ResRel w.heap.size w' (res x) u/\Below w.heap.size w w':=by
  intro x ρ S a w' avs h1 h2 hT' hC'
  obtain ⟨ys,avs',e1,e2,e3⟩:=Z9 G hT' hC' h1
  simp at e1
  subst e1
  exact ⟨hT'.defers,_,V6 hl e3,x,_,Z,(ResOK.parts hC' h2 e2).rel,hC'.below⟩
 rintro e a w' ⟨ρ,S,⟨x,hq⟩,hT',hC'⟩
 cases e<;>simp only [Fin] at hq
 case normal=>obtain ⟨avs,h1,h2⟩:=hq;exact fin x ρ S a w' avs h1 h2 hT' hC'
 case ret=>obtain ⟨avs,h1,h2⟩:=hq;exact fin x ρ S a w' avs h1 h2 hT' hC'
theorem b0c [EnvAt P w0] {α:Type} {res:α→Res} {f:FuncId} {as:Array Operand} {ts:Array TypeId} {args:List AV} {r:α→AV} {m':α→List (Nat×Option Row)} {n1:Nat} (nx':Nat) (hd:o.dst=some d) (hlt:Nat.blt d nt=true) (ho:o.op=.call { callee:=.value (.func f),args:=as,argTypes:=ts }) (ha:ArgsOK T m nx as.toList args) (hc:CtrE P f args res)
 (hi:∀x,a8E (res x) nx m=some (r x,m' x,n1)) (hn':Nat.beq nx' n1=true) (hk:∀x,WL P w0 ops rest ⟨(d,r x) :: T,m' x,nx',nt⟩ Q):WX P w0 ops o rest ⟨T,m,nx,nt⟩ Q:=by
 have hn'':=Nat.eq_of_beq_eq_true hn'
 subst hn''
 intro ρ a w hT hC
 have hrel:=ha.rel hT hC
 have hcalls:=hc.calls w _ (hC.env P) hrel
 have hrun:(execOp a.eval o).run P w=.ok (.enter f (as.toList.map a.eval).toArray) w:=by
  simp [execOp,ho,resolve,Deferred.ofValue,invoke,Act.eval,a0s hc.callable,← Array.toList_map]
 unfold Oper.wp
 rw [hrun,Oper.upon_enter]
 refine hcalls.mono λe w' ⟨x,v,he,hr,hb'⟩=>?_
 subst he
 have hi:=a3d (hi x)
 have hC':=hC.trans hb'
 obtain ⟨ρ',g1,g2,g3,g4⟩:=a9Q (m:=m) (nx:=nx) hC' ⟨hC.below.size,hC.kept.1⟩ hr (λid r hm b hb=>hC.foot_lt hm (hC.foot_trans hb' hm hb))
 rw [hi] at g2 g3 g4
 refine hk x ρ' _ w' ?_ g4
 rw [hd]
 have hT':RelT w0 ρ' T nx' nt a:=⟨λt x hx=>(hT.tmps t x hx).mono g2 g1,hT.size,hT.defers⟩
 exact hT'.put hlt g3
end
theorem RelT.weak {nx:Nat} {a:Act} (h:RelT w0 ρ T nx nt a) (hsub:∀t x,look t T'=some x→look t T=some x):RelT w0 ρ T' nx nt a:=⟨λt x hx=>h.tmps t x (hsub t x hx),h.size,h.defers⟩
section
variable {P:Program} [Env P] {b:Base} {ops:Array Oper} {m0:List (Nat×Option Row)} {o:Oper} {T:List (Nat×AV)} {m:List (Nat×Option Row)} {nx nt d fuel:Nat} {listed:Array Bool} {V:List VE} {K:St→Prop} {r:AV}
def c9w (ops:Array Oper) (listed:Array Bool) (is:List Nat) (i:Nat):Bool :=
 (a1M is).all λp=>Region.free .any ops (T2 p.1 listed) i && (Region.ready .any ops (T2 p.1 listed)).contains i
theorem v7 [EnvAt P b] (i:Nat) (hi:ops[i]?=some o) (hchk:c9w ops listed (V.map VE.i) i=true) (hp:a5V o.op=true) (hg:o.guard=none)
 (hd:o.dst=some d) (hlt:Nat.blt d nt=true) (hq:QStep P o T m0 nx nt r) (hV0:a2a b.n0 nx nt V T m=true) (hD0:a99 V=true) (hdn:a3v (some d) V=true)
 (hk:WAV P b ops m0 fuel (listed.setIfInBounds i true) ⟨(d,r) :: T,m,nx,nt⟩ V K):WAV P b ops m0 (fuel+1) listed ⟨T,m,nx,nt⟩ V K:=by
 intro F U hs
 have hV:=VFree.of hV0
 have hD:=VDist.of hD0
 have hc:=(List.all_eq_true.1 hchk) _ hs.inN
 simp only [Bool.and_eq_true] at hc
 rw [show fuel+1+U.length=(fuel+U.length)+1 by omega]
 have hq':QStep P o (frT F T) m0 nx nt r:=λw0 _ ρ a w hT hC=>hq w0 ρ a w (hT.weak λt x hx=>by
  rw [X5 λe he e1=>by have:=hV.kt e (hs.memF e he);rw [e1,hx] at this;cases this]
  exact hx) hC
 refine d5 i hi hc.1 hc.2 hp hg hd hlt hq' ?_
 have h:=hk F U hs
 have hm:(T2 (F.map VE.i) listed).setIfInBounds i true=T2 (F.map VE.i) (listed.setIfInBounds i true):=by
  rw [a62]
  rfl
 rw [hm]
 intro hns ρ a w hT hC hS
 refine h hns ρ a w (hT.weak λt x hx=>?_) hC hS
 rcases a4i hx with ⟨e,he,h1,h2⟩ | ⟨h1,h2⟩
 ·subst h1;subst h2
  have hne:d≠e.d:=λe1=>a54 hdn e (hs.memF e he) (by rw [e1])
  show look e.d ((d,r) :: frT F T)=some e.av
  rw [l6 hne]
  exact a0w (hs.pw hD.d) e he
 ·grind [r3,l6,X5]
end
section
variable {P:Program} [Env P] {b:Base} {ops:Array Oper} {m0:List (Nat×Option Row)} {o:Oper} {T T1:List (Nat×AV)} {m m1:List (Nat×Option Row)} {nx nt n1 nt1 d fuel j:Nat} {listed:Array Bool} {V:List VE} {K:St→Prop} {r:AV}
theorem b5R:has k []=false:=rfl
theorem b3Q:∀{V:List VE},a5n [] V=[]
 | []=>rfl
 | e :: V=>by simp only [a5n,b5R,cond_false];exact b3Q
theorem a64:∀{V:List VE},a0b [] V=V
 | []=>rfl
 | e :: V=>by simp only [a0b,b5R,cond_false];rw [a64]
theorem VStep.mk0 (ms:List Nat) (ho:ops[j]?=some o) (hg:o.guard=none) (hx:∀b':Base,[EnvAt P b']→b'.n0=b.n0→WX P b' ops o [] ⟨T,m,nx,nt⟩ (nq (λS'=>S'=⟨T1,m1,n1,nt1⟩))) (hn:Nat.ble nx n1=true) (hv:a2a b.n0 n1 nt1 V T1 m1=true) (hd:a3v o.dst V=true) (hk:S0 b.n0 m1 ms []=some m0)
 (h:WAV P b ops m0 fuel (listed.setIfInBounds j true) ⟨T1,m1,n1,nt1⟩ V K):VStep P b ops m0 fuel listed ⟨T,m,nx,nt⟩ V K j []:=by
 refine ⟨o,⟨T1,m1,n1,nt1⟩,ms,ho,hg,?_,hn,by rw [a64];exact hv,by rw [a64];exact hd,hk,by rw [a64];exact h⟩
 rw [b3Q]
 exact hx
theorem vin {is:List Nat} {V V':List VE} {e:VE} (h:a0b is V=V') (he:e∈V'):e∈V:=by subst h;exact (a0x.1 he).1
theorem VStep.mk1 (ms:List Nat) (t0:Nat) (x0:AV) (id0:Nat) (r0:Row) (V1:List VE) (ho:ops[j]?=some o) (hg:o.guard=none) (hV:a0b is V=V1) (hT:frT (a5n is V) T=(t0,x0) :: T) (hM:frM (a5n is V) m=(id0,some r0) :: m)
 (hx:∀b':Base,[EnvAt P b']→b'.n0=b.n0→WX P b' ops o [] ⟨(t0,x0) :: T,(id0,some r0) :: m,nx,nt⟩ (nq (λS'=>S'=⟨T1,m1,n1,nt1⟩))) (hn:Nat.ble nx n1=true) (hv:a2a b.n0 n1 nt1 V1 T1 m1=true) (hd:a3v o.dst V1=true) (hk:S0 b.n0 m1 ms []=some m0)
 (h:WAV P b ops m0 fuel ((T2 is listed).setIfInBounds j true) ⟨T1,m1,n1,nt1⟩ V1 K):VStep P b ops m0 fuel listed ⟨T,m,nx,nt⟩ V K j is:=by
 subst hV
 refine ⟨o,⟨T1,m1,n1,nt1⟩,ms,ho,hg,?_,hn,hv,hd,hk,h⟩
 grind
end
section
variable {P:Program} [Env P] {b:Base} {ops:Array Oper} {m0:List (Nat×Option Row)} {o:Oper} {T T1:List (Nat×AV)} {m m1:List (Nat×Option Row)} {nx nt n1 nt1 d fuel j:Nat} {listed:Array Bool} {V:List VE} {K:St→Prop} {r:AV}
theorem VStep.mk3 (ms:List Nat) (t0:Nat) (x0:AV) (id0:Nat) (r0:Row) (t1:Nat) (x1:AV) (id1:Nat) (r1:Row) (t2:Nat) (x2:AV) (id2:Nat) (r2:Row) (V1:List VE) (ho:ops[j]?=some o) (hg:o.guard=none) (hV:a0b is V=V1) (hT:frT (a5n is V) T=(t0,x0) :: (t1,x1) :: (t2,x2) :: T) (hM:frM (a5n is V) m=(id0,some r0) :: (id1,some r1) :: (id2,some r2) :: m)
 (hx:∀b':Base,[EnvAt P b']→b'.n0=b.n0→WX P b' ops o [] ⟨(t0,x0) :: (t1,x1) :: (t2,x2) :: T,(id0,some r0) :: (id1,some r1) :: (id2,some r2) :: m,nx,nt⟩ (nq (λS'=>S'=⟨T1,m1,n1,nt1⟩))) (hn:Nat.ble nx n1=true) (hv:a2a b.n0 n1 nt1 V1 T1 m1=true) (hd:a3v o.dst V1=true) (hk:S0 b.n0 m1 ms []=some m0)
 (h:WAV P b ops m0 fuel ((T2 is listed).setIfInBounds j true) ⟨T1,m1,n1,nt1⟩ V1 K):VStep P b ops m0 fuel listed ⟨T,m,nx,nt⟩ V K j is:=by
 subst hV
 refine ⟨o,⟨T1,m1,n1,nt1⟩,ms,ho,hg,?_,hn,hv,hd,hk,h⟩
 grind
end
def b3R (m:List (Nat×Option Row)):List Nat→List (Nat×Option Row)→Option (List (Nat×Option Row))
 | [],acc=>some acc
 | i :: r,acc=>match mem m i with
  | some row=>b3R m r ((i,some row) :: acc)
  | none=>none
theorem b0d:∀{ks:List Nat} {acc M0:List (Nat×Option Row)},b3R m ks acc=some M0→(∀i r,mem acc i=some r→mem m i=some r)→∀i r,mem M0 i=some r→mem m i=some r
 | [],acc,M0,h,ha=>by simp [b3R] at h;subst h;exact ha
 | t :: ks,acc,M0,h,ha=>by
  simp only [b3R] at h
  cases h1:mem m t with
  | none=>simp [h1] at h
  | some x =>
   simp only [h1] at h
   refine b0d h λi r hr=>?_
   by_cases e:t=i
   ·subst e;rw [l5] at hr;cases hr;exact h1
   ·rw [e7 e] at hr;exact ha i r hr
theorem Gh.keep {w0:Base} {nx:Nat} (ms:List Nat) (h:b3R m ms []=some m0):Gh w0 ⟨T,m,nx,nt⟩ ⟨T,m0,nx,nt⟩:=λρ a w hT hC=>⟨ρ,hT,hC.sub (b0d h λi r hr=>by simp [mem,look] at hr)⟩
theorem b8h (h0:0<=n) (h1:n<=18446744073709551615):IntKind.u64.wrap n=n:=by
 unfold IntKind.wrap
 simp [IntKind.bits,IntKind.signed]
 omega
theorem c0X (h0:0<=n) (h1:n<=255):IntKind.u8.wrap n=n:=by
 unfold IntKind.wrap
 simp [IntKind.bits,IntKind.signed]
 omega
section
variable {P:Program} [Env P] {tb:List (Nat×TyI)} {o:Oper} {T:List (Nat×AV)} {m:List (Nat×Option Row)} {nx nt:Nat}
theorem b3S {src dst:TypeId} {k k':IntKind} {z':Value} {fk:FK} (G:Good P tb) (ho:o.op=.convert src dst x) (hs:look src tb=some (.flat fk z')) (ht:look dst tb=some (.flat (.int k) z)) (hx:ev T x=some (.v (.int k' n)))
 (h:k.wrap n=n):QStep P o T m nx nt (.v (.int k n)):=by
 have:=a17 (m:=m) (nx:=nx) (nt:=nt) G ho hs ht hx
 rwa [h] at this
end
theorem Gh.fnc {w0:Base} {T:List (Nat×AV)} {m:List (Nat×Option Row)} {nx nt t:Nat} {f:FuncId} (ht:look t T=some (.v (.func (.func f) #[] #[]))):Gh w0 ⟨T,m,nx,nt⟩ ⟨(t,.fnc f []) :: T,m,nx,nt⟩:=by
 intro ρ a w hT hC
 refine ⟨ρ,⟨λi x hi=>?_,hT.size,hT.defers⟩,hC⟩
 by_cases e:t=i
 ·subst e
  rw [r3] at hi
  cases hi
  have h1:=hT.tmps t _ ht
  simp only [RelV] at h1 ⊢
  exact ⟨[],h1,by simp [RelVs]⟩
 ·rw [l6 e] at hi
  exact hT.tmps i x hi
end Go.Rf
namespace Go.Rf
open Go Go.RowKit Go.Sort
def srtI (l:List Int):List Int:=l.mergeSort λx y=>decide (x<=y)
theorem X6 {l:List Int}:(srtI l).length=l.length:=List.length_mergeSort l
theorem a48 (l:List Int):(srtI l).Perm l:=List.mergeSort_perm l _
theorem a79 (l:List Int):(l.map r7).flatten=l.map (Value.int .i64):=by
 induction l with
 | nil=>rfl
 | cons x l ih=>simp only [List.map_cons,List.flatten_cons,ih];rfl
theorem CtrM.sort {P:Program} [Env P] {f e:Nat} (hc:Callable P f) {l:List Int} (hl:l.length<=1048576)
 (h:∀(blk off cap:Nat) (w:World),Holds (Value.int .i64) w blk off l.toArray→blk < w.heap.size→l.length < 4611686018427387904→Calls P f #[.slice (some ⟨blk,off,none⟩) l.length cap] w λe w'=>e=.returned (.tuple #[])/\∃n os,w'=grow (putRow (Value.int .i64) (Sort.ahead w n) blk off (l.mergeSort λx y=>decide (x<=y)).toArray) os)
 (h0:∀(p:Option Addr) (cap:Nat) (w:World),Calls P f #[.slice p 0 cap] w λe w'=>e=.returned (.tuple #[])/\w'=w) :
 CtrM P f [.own 0] [.row e 1 (l.map r7)] (.many []) [some (.row e 1 ((srtI l).map r7))]:=by
 refine ⟨hc,λw0 _ ρ m nx ids w vs hr hnd hC hv=>?_⟩
 cases hr with
 | @cons id ids r rs hm hr' =>
  cases hr'
  obtain ⟨y,ys,rfl,hy,hys⟩:∃y ys,vs=y :: ys/\RelV w0.w ρ nx (.own id) y/\RelVs w0.w ρ nx [] ys:=by
   simp only [renAs,a4c,RelVs] at hv
   obtain ⟨y,ys,e,h1,h2⟩:=hv
   exact ⟨y,ys,e,by simpa using h1,by simpa only [RelVs] using h2⟩
  have hys:ys=[]:=by simpa only [RelVs] using hys
  subst hys
  simp only [RelV] at hy
  obtain ⟨hid,rfl⟩:=hy
  obtain ⟨hrow,hall⟩:=hC.row hm
  have fin:∀w',RelC w0 ρ ((id,some (.row e 1 ((srtI l).map r7))) :: m) nx w'→∃v ρ',Ending.returned (.tuple #[])=.returned v/\(∀i,i < nx→ρ' i=ρ i)/\nx<=(instR (.many []) nx (aft [id] [some (.row e 1 ((srtI l).map r7))] m)).2.2/\RelV w0.w ρ' (instR (.many []) nx (aft [id] [some (.row e 1 ((srtI l).map r7))] m)).2.2 (instR (.many []) nx (aft [id] [some (.row e 1 ((srtI l).map r7))] m)).1 v /\
   RelC w0 ρ' (instR (.many []) nx (aft [id] [some (.row e 1 ((srtI l).map r7))] m)).2.1 (instR (.many []) nx (aft [id] [some (.row e 1 ((srtI l).map r7))] m)).2.2 w':=λw' hC' =>
   ⟨.tuple #[],ρ,Z,λ_ _=>Z,Nat.le_refl _,by show RelV w0.w ρ nx (.tup []) (.tuple #[]);simp only [RelV];exact ⟨[],Z,by simp only [RelVs]⟩,hC'⟩
  have hlen:(l.map r7).length=l.length:=List.length_map _
  by_cases hz:l.length=0
  ·have hl0:l=[]:=List.eq_nil_of_length_eq_zero hz
   subst hl0
   obtain ⟨p,cap,hs⟩:∃p cap,ρ id=.slice p 0 cap:=by
    rcases hrow.2 with ⟨h1,_⟩ | ⟨g,cap,cur,h1,_⟩
    ·exact ⟨_,_,h1⟩
    ·exact ⟨_,_,h1⟩
   rw [hs]
   refine (h0 p cap w).mono λex w' ⟨he,hw⟩=>?_
   subst he;subst hw
   refine fin w' (hC.sub λi r hr=>?_)
   by_cases e1:id=i
   ·subst e1;rw [l5] at hr;cases hr;rw [show srtI []=[] from List.eq_nil_of_length_eq_zero (by rw [X6];rfl)];exact hm
   ·rw [e7 e1] at hr;exact hr
  ·rcases hrow.2 with ⟨_,h1⟩ | ⟨g,cap,cur,hs,hB,hb,hcp,hmx,hcur,htake⟩
   ·rw [hlen] at h1;exact absurd h1 hz
   ·rw [hlen] at hs hcp htake
    have hfl:=a79 l
    rw [hfl,Nat.mul_one] at htake
    have hcell:∀j,j < l.length→cur[j]?=some (.int .i64 (l[j]!)):=λj hj=>by
     have:(cur.toList.take l.length)[j]?=(l.map (Value.int .i64))[j]?:=by rw [htake]
     rw [List.getElem?_take,if_pos hj,List.getElem?_map,List.getElem?_eq_getElem hj] at this
     rw [← Array.getElem?_toList,this,getElem!_pos l j hj]
     rfl
    have hH:Holds (Value.int .i64) w g 0 l.toArray:=λj hj=>by
     have hj:j < l.length:=by simpa using hj
     refine ⟨?_,?_⟩
     ·simp only [World.cell?,hb,Nat.zero_add]
      have:=hcell j hj
      simpa using this
     ·simp [World.frozen?,hb]
    have hg:g < w.heap.size:=(Array.getElem?_eq_some_iff.1 hb).1
    rw [hs]
    refine (h g 0 cap w hH hg J).mono λex w' ⟨he,n,os,hw⟩=>?_
    subst he
    have hheap:w'.heap[g]?=some (.cells (putCells (Value.int .i64) 0 (srtI l).toArray cur) e (0,0)):=by
     subst hw
     show ((w.heap.modify g _)++os)[g]?=_
     rw [Array.getElem?_append_left (by simpa using hg),Array.getElem?_modify,if_pos Z,hb]
     rfl
    refine fin w' (hC.change hm (by rw [hs];rfl) ?_ hB ⟨⟨?_,.inr ⟨g,cap,_,by rw [List.length_map,X6];exact hs,hB,hheap,by rw [List.length_map,X6];exact hcp,hmx,?_,?_⟩⟩,?_⟩)
    ·subst hw
     refine ⟨Z,Z,Z,?_,λk hk hne=>?_⟩
     ·show w.heap.size<=((w.heap.modify g _)++os).size
      simp
     ·show ((w.heap.modify g _)++os)[k]?=_
      have hgk:g≠k:=λe1=>hne (by rw [e1])
      rw [Array.getElem?_append_left (by simpa using hk),Array.getElem?_modify,if_neg hgk]
    ·rw [a79];simp [X6]
    ·unfold putCells;simp;simpa using hcur
    ·rw [List.length_map,X6,a79,Nat.mul_one]
     apply List.ext_getElem?
     intro j
     by_cases hj:j < l.length
     ·rw [List.getElem?_take,if_pos hj,Array.getElem?_toList]
      unfold putCells
      rw [Array.getElem?_mapIdx,hcell j hj,List.getElem?_map]
      have hj2:j < (srtI l).length:=by rw [X6];exact hj
      rw [List.getElem?_eq_getElem hj2]
      simp only [Option.map_some,Nat.zero_le,true_and,Nat.zero_add,Nat.sub_zero]
      rw [if_pos (by simpa using hj2)]
      congr 2
      rw [getElem!_pos (srtI l).toArray j (by simpa using hj2)]
      simp
     ·rw [List.getElem?_take,if_neg hj,List.getElem?_eq_none (by rw [List.length_map,X6];omega)]
    ·intro c hc
     obtain ⟨x,_,rfl⟩:=List.mem_map.1 hc
     exact ⟨Z,λu hu=>by simp [r7] at hu;subst hu;rfl⟩
end Go.Rf
namespace Go.Rf
open Go Go.RowKit
section
variable {P:Program} [Env P] {w0:Base} {ops:Array Oper} {tb:List (Nat×TyI)} {o:Oper} {rest:List Oper} {T:List (Nat×AV)} {m:List (Nat×Option Row)} {nx nt d:Nat} {Q:Exit→St→Prop}
theorem c0Y [EnvAt P w0] {x:Operand} {t t' e sz sz' by_:Nat} {zs:List Value} {ys:List (List Value)} (G:Good P tb) (hd:o.dst=some d) (hlt:Nat.blt d nt=true) (ho:o.op=.binOp .eql t x (.const (.slice none 0 0)) t') (ht:look t tb=some (.slice e sz' by_ zs)) (hx:ev T x=some (.lst sz ys))
 (hk:∀b,(b=true→ys=[])→WL P w0 ops rest ⟨(d,.v (.bool b)) :: T,m,nx,nt⟩ Q):WX P w0 ops o rest ⟨T,m,nx,nt⟩ Q:=by
 intro ρ a w hT hC
 have h:=hT.ev hx
 simp only [RelV] at h
 obtain ⟨A,cap,he,_,_,hs⟩:=h
 obtain ⟨hu,_⟩:=G t _ ht
 have hn:(execOp a.eval o).run P w=.ok (.value (.bool A.isNone)) w:=by
  have h2:a.eval (.const (.slice none 0 0))=.slice none 0 0:=rfl
  simp [execOp,ho,he,h2,eqGuard,Go.Lib.run_eql_slice_nil w t e A ys.length cap 0 0 hu]
 unfold Oper.wp
 rw [hn,Oper.upon_value,hd]
 refine hk A.isNone (λhb=>?_) ρ _ _ (hT.put hlt (by simp only [RelV])) hC
 grind
end
end Go.Rf
namespace Go.Rf
open Go
section
variable {α:Type} [Inhabited α] {f:α→List Value} {g g':Nat→α} {n k:Nat}
theorem c5c (h:k < n):(pre g n)[k]?=some (g k):=by simp [pre,h]
theorem b3T (h:k < n):(pre g n).getD k default=g k:=by simp [c5c h]
end
structure Route where
 p:Int
 t:Int
 deriving Inhabited,DecidableEq
def q9 (x:Route):List Value:=[.int .i64 x.p,.int .i64 x.t]
def b8i (x:Route):Value:=.agg ⟨q9 x⟩
structure MStep where
 k:Int
 q:Int
 c:Int
 v:Int
 deriving Inhabited,DecidableEq
def c7w (x:MStep):List Value:=[.int .i64 x.k,.int .i64 x.q,.int .i64 x.c,.int .i64 x.v]
def b5S (x:MStep):Value:=.agg ⟨c7w x⟩
structure Abs where
 en:List Bool
 ra:List Bool
 po:List Bool
 ma:List Int
 st:List (List Int)
 deriving Inhabited,DecidableEq
def a65 (l:List Int):List CI:=[.l 3 1 (l.map r7)]
def lenN (xss:List (List Int)):Nat→Int
 | 0=>0
 | i+1=>lenN xss i+(xss.getD i default).length
theorem b7h {xss:List (List Int)} {i:Nat}:lenN xss (i+1)=lenN xss i+(xss.getD i default).length:=rfl
structure SmallA (a:Abs):Prop where
 en:a.en.length<=1048576
 ra:a.ra.length<=1048576
 po:a.po.length<=1048576
 ma:a.ma.length<=1048576
 st:a.st.length<=1048576
 all:∀i,i < a.st.length→(a.st.getD i default).length<=1048576
 sum:lenN a.st a.st.length<=1048576
def b0e (c:Int) (r:Route):Bool:=n7 r.p 0 15 && n7 r.t 0 (c - 1)
def okRts (rs:List Route) (c:Int):Bool:=n7 c 1 2 && (decide (rs.length=8) && a18 rs.length (λi=>b0e c (rs.getD i default)))
def prI (rs:List Route) (x:Int):Int:=(rs.getD x.toNat default).p
def tgI (rs:List Route) (x:Int):Int:=(rs.getD x.toNat default).t
theorem H1 {rs:List Route} {c:Int}:okRts rs c=true↔(1<=c/\c<=2)/\rs.length=8/\∀i,i < 8→(0<=(rs.getD i default).p/\(rs.getD i default).p<=15)/\0<=(rs.getD i default).t/\(rs.getD i default).t<=c - 1:=by
 grind [okRts,v8,F6,b0e]
end Go.Rf
namespace Go.Rf
structure BigA (a:Abs):Prop where
 en:a.en.length<=9223372036854775807
 ra:a.ra.length<=9223372036854775807
 po:a.po.length<=9223372036854775807
 ma:a.ma.length<=9223372036854775807
 st:a.st.length<=9223372036854775807
 all:∀i,i < a.st.length→(a.st.getD i default).length<=9223372036854775807
theorem SmallA.big {a:Abs} (h:SmallA a):BigA a:=⟨by have:=h.en;omega,by have:=h.ra;omega,by have:=h.po;omega,by have:=h.ma;omega,by have:=h.st;omega,λi hi=>by have:=h.all i hi;omega⟩
theorem c9x {n:Nat}:((n:Int)==8)=decide (n=8):=by
 grind
theorem a0c {x a b:Int} (h:n7 x a b=false):¬ (a<=x/\x<=b):=λhh=>by rw [v8.mpr hh] at h;exact absurd h (by decide)
end Go.Rf
namespace Go.Rf
open Go
variable {L:Int} {a:Abs} {c i:Nat} {rs:List Route}
def t7 (rs:List Route) (a:Abs) (c:Nat):Nat→Int
 | 0=>-1
 | i+1=>if (a.po.getD i default=true/\(rs.getD i default).t=c)/\(t7 rs a c i < 0∨(rs.getD i default).p < (rs.getD (t7 rs a c i).toNat default).p) then i else t7 rs a c i
theorem a1p:t7 rs a c (i+1)=if (a.po.getD i default=true/\(rs.getD i default).t=c)/\(t7 rs a c i < 0∨(rs.getD i default).p < (rs.getD (t7 rs a c i).toNat default).p) then (i:Int) else t7 rs a c i:=rfl
theorem a2M {rs:List Route} {a:Abs} {c:Nat}:∀i,-1<=t7 rs a c i/\t7 rs a c i < i
 | 0=>by simp [t7]
 | i+1=>by
  have:=@a2M rs a c i
  rw [a1p]
  split<;>omega
def O4 (rs:List Route) (a:Abs) (c:Nat) (L:Int):Nat→Int×Int
 | 0=>(-1,L)
 | i+1=>if (a.po.getD i default=true/\(rs.getD i default).t=c)/\(rs.getD i default).p < (O4 rs a c L i).2 then (i,(rs.getD i default).p) else O4 rs a c L i
theorem a3w:O4 rs a c L (i+1)=if (a.po.getD i default=true/\(rs.getD i default).t=c)/\(rs.getD i default).p < (O4 rs a c L i).2 then ((i:Int),(rs.getD i default).p) else O4 rs a c L i:=rfl
theorem b2y {rs:List Route} {a:Abs} {c:Nat} {L:Int}:∀i,O4 rs a c L i=if 0<=t7 rs a c i/\(rs.getD (t7 rs a c i).toNat default).p < L then (t7 rs a c i,(rs.getD (t7 rs a c i).toNat default).p) else (-1,L)
 | 0=>by simp [O4,t7]
 | i+1=>by
  have ih:=@b2y rs a c L i
  have hb:=@a2M rs a c i
  by_cases h:(a.po.getD i default=true/\(rs.getD i default).t=c)/\(t7 rs a c i < 0∨(rs.getD i default).p < (rs.getD (t7 rs a c i).toNat default).p)
  ·have e:t7 rs a c (i+1)=i:=by rw [a1p,if_pos h]
   rw [a3w,ih,e]
   simp only [Int.toNat_natCast]
   by_cases h2:0<=t7 rs a c i/\(rs.getD (t7 rs a c i).toNat default).p < L
   ·rw [if_pos h2,if_pos ⟨h.1,by show (rs.getD i default).p < (rs.getD (t7 rs a c i).toNat default).p;omega⟩,if_pos J]
   ·rw [if_neg h2]
    by_cases h3:(rs.getD i default).p < L
    ·rw [if_pos ⟨h.1,h3⟩,if_pos J]
    ·rw [if_neg (λq=>h3 q.2),if_neg J]
  ·have e:t7 rs a c (i+1)=t7 rs a c i:=by rw [a1p,if_neg h]
   rw [a3w,ih,e]
   refine if_neg λq=>h ⟨q.1,?_⟩
   have q2:=q.2
   by_cases h2:0<=t7 rs a c i/\(rs.getD (t7 rs a c i).toNat default).p < L
   ·rw [if_pos h2] at q2;exact .inr q2
   ·rw [if_neg h2] at q2
    have q3:(rs.getD i default).p < L:=q2
    omega
theorem b8j (i:Nat):-1<=(O4 rs a c L i).1/\(O4 rs a c L i).1 < i:=by
 have hb:=@a2M rs a c i
 rw [b2y]
 grind
def b4W (rs:List Route) (l:List Int):Int:=(rs.getD (l.getD (l.length - 1) default).toNat default).p
def b2z (rs:List Route) (a:Abs) (c:Nat):Int:=if (a.st.getD c default).length=0 then a.ma.getD c default else min (a.ma.getD c default) (b4W rs (a.st.getD c default))
def B8 (rs:List Route) (a:Abs) (c:Nat):Int:=if (a.st.getD c default).length=4 then -1 else (O4 rs a c (b2z rs a c) 8).1
theorem b0f {rs:List Route} {a:Abs} {c:Nat}:-1<=B8 rs a c/\B8 rs a c < 8:=by
 unfold B8
 split
 ·omega
 ·exact b8j 8
theorem a9A:B8 rs a c=if t7 rs a c 8 < 0∨(a.st.getD c default).length=4∨a.ma.getD c default<=(rs.getD (t7 rs a c 8).toNat default).p∨(0 < (a.st.getD c default).length/\b4W rs (a.st.getD c default)<=(rs.getD (t7 rs a c 8).toNat default).p) then -1 else t7 rs a c 8:=by
 grind [B8,b2z,b2y]
end Go.Rf
namespace Go.Rf
variable {L:Int} {a:Abs} {c i:Nat} {rs:List Route}
structure AbsF (rs:List Route) (a:Abs):Prop where
 n:1<=a.ma.length/\a.ma.length<=2
 rn:rs.length=8
 st:a.st.length=a.ma.length
 en:a.en.length=8
 ra:a.ra.length=8
 po:a.po.length=8
 rt:∀i,i < 8→0<=(rs.getD i default).t/\(rs.getD i default).t < a.ma.length
 len:∀c,c < a.ma.length→(a.st.getD c default).length<=4
 el:∀c,c < a.ma.length→∀i,i < (a.st.getD c default).length→0<=(a.st.getD c default).getD i default/\(a.st.getD c default).getD i default<=7
theorem AbsF.small (h:AbsF rs a):SmallA a:=by
 have h1:=h.n
 have hl:lenN a.st a.st.length<=1048576:=by
  have:∀i,i<=a.ma.length→lenN a.st i<=4 * i:=by
   intro i
   induction i with
   | zero=>intro _;exact Int.le_refl _
   | succ i ih=>intro hi;rw [b7h];have:=ih J;have:=h.len i J;omega
  have:=this a.st.length (by rw [h.st];exact Nat.le_refl _)
  have:=h.st
  omega
 exact ⟨by rw [h.en];decide,by rw [h.ra];decide,by rw [h.po];decide,by omega,by rw [h.st];omega,λi hi=>Nat.le_trans (h.len i (by rw [← h.st];exact hi)) (by decide),hl⟩
theorem b2A (h1:a.po.getD i default=true) (h2:(rs.getD i default).t=c) (h3:(rs.getD i default).p < (O4 rs a c L i).2):O4 rs a c L (i+1)=((i:Int),(rs.getD i default).p):=by rw [a3w,if_pos ⟨⟨h1,h2⟩,h3⟩]
theorem a49 (h:a.po.getD i default=true→(rs.getD i default).t=c→¬ (rs.getD i default).p < (O4 rs a c L i).2):O4 rs a c L (i+1)=O4 rs a c L i:=by rw [a3w,if_neg (λq=>h q.1.1 q.1.2 q.2)]
theorem b2B (h1:a.po.getD i default=true) (h2:(rs.getD i default).t=c) (h3:t7 rs a c i < 0∨(rs.getD i default).p < (rs.getD (t7 rs a c i).toNat default).p):t7 rs a c (i+1)=(i:Int):=by rw [a1p,if_pos ⟨⟨h1,h2⟩,h3⟩]
theorem a5a (h:a.po.getD i default=true→(rs.getD i default).t=c→¬ (t7 rs a c i < 0∨(rs.getD i default).p < (rs.getD (t7 rs a c i).toNat default).p)):t7 rs a c (i+1)=t7 rs a c i:=by rw [a1p,if_neg (λq=>h q.1.1 q.1.2 q.2)]
theorem b4X (h:(a.st.getD c default).length=0):b2z rs a c=a.ma.getD c default:=by unfold b2z;rw [if_pos h]
theorem b4Y (h:0 < (a.st.getD c default).length):b2z rs a c=min (a.ma.getD c default) (rs.getD ((a.st.getD c default).getD (((a.st.getD c default).length:Int) - 1).toNat default).toNat default).p:=by
 unfold b2z
 rw [if_neg J,show (((a.st.getD c default).length:Int) - 1).toNat=(a.st.getD c default).length - 1 by omega]
 rfl
theorem b5T (h:(a.st.getD c default).length=4):B8 rs a c=-1:=by unfold B8;rw [if_pos h]
theorem c0Z (h:(a.st.getD c default).length≠4) (hi:i=8):B8 rs a c=(O4 rs a c (b2z rs a c) i).1:=by unfold B8;rw [if_neg h,hi]
theorem c00 {rs:List Route} {a:Abs} {c i:Nat} (hi:i=8) (h:t7 rs a c i < 0∨(a.st.getD c default).length=4∨a.ma.getD c default<=(rs.getD (t7 rs a c i).toNat default).p∨(0 < (a.st.getD c default).length/\b4W rs (a.st.getD c default)<=(rs.getD (t7 rs a c i).toNat default).p)):B8 rs a c=-1:=by subst hi;rw [a9A,if_pos h]
theorem c01 {rs:List Route} {a:Abs} {c i:Nat} (hi:i=8) (h:¬ (t7 rs a c i < 0∨(a.st.getD c default).length=4∨a.ma.getD c default<=(rs.getD (t7 rs a c i).toNat default).p∨(0 < (a.st.getD c default).length/\b4W rs (a.st.getD c default)<=(rs.getD (t7 rs a c i).toNat default).p))):B8 rs a c=t7 rs a c i:=by subst hi;rw [a9A,if_neg h]
end Go.Rf
namespace Go.Rf
open Go
def V9 (n:Int) (s:MStep):Bool :=
 if s.k=1 then n7 s.q 0 7 && (decide (s.c=0) && decide (s.v=0))
 else if s.k=2 then decide (s.q=0) && (decide (s.c=0) && decide (s.v=0))
 else if s.k=3∨s.k=4 then decide (s.q=0) && (n7 s.c 0 (n - 1) && decide (s.v=0))
 else if s.k=5 then decide (s.q=0) && (n7 s.c 0 (n - 1) && n7 s.v 0 16)
 else decide (s.k=6) && (n7 s.q 0 7 && (decide (s.c=0) && n7 s.v 0 1))
def b0g (l:List Int) (v:Int):Bool:=a0t l.length (λj=>decide (v=l.getD j default))
def c7x (rs:List Route) (a:Abs) (i:Nat):Bool:=a.en.getD i default && (a.ra.getD i default && !b0g (a.st.getD (rs.getD i default).t.toNat default) i)
def b8k (rs:List Route) (a:Abs):Nat→List Bool
 | 0=>a.ra
 | i+1=>if c7x rs a i then (b8k rs a i).set i false else b8k rs a i
def b8l (rs:List Route) (a:Abs):Nat→List Bool
 | 0=>a.po
 | i+1=>if c7x rs a i then (b8l rs a i).set i true else b8l rs a i
def c7y (rs:List Route) (a:Abs):Abs:=⟨a.en,b8k rs a 8,b8l rs a 8,a.ma,a.st⟩
def c2s (rs:List Route) (a:Abs) (s:MStep):Abs×Int×Bool :=
 if s.k=1 then ({a with ra:=a.ra.set s.q.toNat true},-1,!(a.ra.getD s.q.toNat default))
 else if s.k=2 then (c7y rs a,-1,true)
 else if s.k=3 then
  if B8 rs a s.c.toNat < 0 then (a,-1,false)
  else ({a with po:=a.po.set (B8 rs a s.c.toNat).toNat false,st:=a.st.set s.c.toNat (a.st.getD s.c.toNat default++[B8 rs a s.c.toNat])},B8 rs a s.c.toNat,true)
 else if s.k=4 then
  if (a.st.getD s.c.toNat default).length=0 then (a,-1,false)
  else ({a with st:=a.st.set s.c.toNat ((a.st.getD s.c.toNat default).take ((a.st.getD s.c.toNat default).length - 1))},(a.st.getD s.c.toNat default).getD ((a.st.getD s.c.toNat default).length - 1) default,true)
 else if s.k=5 then ({a with ma:=a.ma.set s.c.toNat s.v},-1,true)
 else ({a with en:=a.en.set s.q.toNat (decide (s.v=1))},-1,true)
end Go.Rf
namespace Go.Rf
theorem c02 {n k q c v:Int} (h:V9 n ⟨k,q,c,v⟩=true) (hk:k=1∨k=6):0<=q/\q<=7:=by
 grind [V9,v8]
theorem b2C {n k q c v:Int} (h:V9 n ⟨k,q,c,v⟩=true) (hk:k=3∨k=4∨k=5):0<=c/\c<=n - 1:=by
 grind [V9,v8]
theorem c7z {n k q c v:Int} (h:V9 n ⟨k,q,c,v⟩=true):1<=k/\k<=6:=by
 grind [V9]
end Go.Rf
namespace Go.Rf
open Go
theorem a3x {l:List (List CI)} {c:List CI} {i j:Nat} (h:j < l.length) (hj:j=i):(l.set i c)[j]?=some c:=by
 subst hj
 simp [h]
end Go.Rf
namespace Go.Rf
section
variable {rs:List Route} {a:Abs} {sk sq sc sv:Int} {q c:Nat}
theorem mk1 (h:sk=1):c2s rs a ⟨sk,(q:Int),sc,sv⟩=({a with ra:=a.ra.set q true},-1,!(a.ra.getD q default)):=by subst h;rfl
theorem mk3 (h:sk=3) (hn:¬ B8 rs a c < 0):c2s rs a ⟨sk,sq,(c:Int),sv⟩=({a with po:=a.po.set (B8 rs a c).toNat false,st:=a.st.set c (a.st.getD c default++[B8 rs a c])},B8 rs a c,true):=by
 subst h
 show (if B8 rs a c < 0 then _ else _)=_
 rw [if_neg hn]
 rfl
end
section
variable {rs:List Route} {a:Abs} {s:MStep}
end
end Go.Rf
