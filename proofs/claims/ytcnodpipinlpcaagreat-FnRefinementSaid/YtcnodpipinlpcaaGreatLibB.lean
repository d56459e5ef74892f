/- Texts merged into one: RfG, RfH, RfM, RfN, RfO, RfP, RfS, RfJ, RfT, RfI, RfK, Rf9, RfU, RfW, Rf0, RfXA, RfXB, RfXD, RfXF, RfX, RfL, RfXG, RfNA. -/
import Derived.Test.YtcnodpipinlpcaaGreatLibA
import Derived.Deep.LoopGhost
import Derived.Deep.Slices
import Derived.Deep.Fields
import Derived.ChangeSame
import Derived.Lib.SmallJoins
import Derived.ChangeOld
import Derived.OrdersHeld
import Derived.Laws.StructEq
import Derived.Lib.AppendZerosOnto
import Derived.Lib.Overlaps
import Derived.Laws.Externs
set_option linter.unusedSectionVars false
set_option linter.unusedSimpArgs false
set_option linter.unusedVariables false
namespace Go.Rf
open Go Go.RowKit
section
variable {P:Program} [Env P] {w0:Base} {ops:Array Oper} {tb:List (Nat×TyI)} {o:Oper} {rest:List Oper} {T:List (Nat×AV)} {m:List (Nat×Option Row)} {nx nt d:Nat} {r:AV} {Q:Exit→St→Prop}
def a5U (T:List (Nat×AV)) (dflt:Int):Option Operand→Option Int
 | none=>some dflt
 | some x=>match ev T x with
  | some (.v (.int _ i))=>some i
  | _=>none
theorem a8B {w0:World} {ρ:Nat→Value} {a:Act} (hT:RelT w0 ρ T nx nt a) {dflt i:Int} {x:Option Operand} (h:a5U T dflt x=some i):(x.map a.eval=none/\i=dflt)∨∃k,x.map a.eval=some (.int k i):=by
 cases x with
 | none=>simp [a5U] at h;exact .inl ⟨Z,h.symm⟩
 | some x =>
  simp only [a5U] at h
  split at h
  ·rename_i k i' he
   cases h
   have:=hT.ev he
   simp only [RelV] at this
   grind
  ·cases h
theorem a67 {w0:World} {t e sz by_:Nat} {zs:List Value} (G:TyOK P t (.slice e sz by_ zs)) {ρ:Nat→Value} {a:Act} (hT:RelT w0 ρ T nx nt a) {lo hi:Option Operand} {l h:Int} {A:Option Addr} {n cap:Nat} (hl:a5U T 0 lo=some l) (hh:a5U T n hi=some h)
 (h0:0<=l) (h1:l<=h) (h2:h<=n) (hc:n<=cap) (w:World) :
 (Instr.sliceAt t (.slice A n cap) (lo.map a.eval) (hi.map a.eval) none).run P w=.ok (.slice (if cap=l.toNat then A else A.map (·.add (l.toNat * sz))) (h.toNat - l.toNat) (cap - l.toNat)) w:=by
 obtain ⟨hu,_,i,z,hi',hs,_⟩:=G
 have eh:(h.toNat:Int)=h:=Int.toNat_of_nonneg J
 have hh1:0<=h:=by omega
 have hl2:l<=(n:Int):=by omega
 have hcap:h<=(cap:Int):=by omega
 have hcap2:(n:Int)<=(cap:Int):=by omega
 rcases a8B hT hl with ⟨e1,rfl⟩ | ⟨k1,e1⟩<;>rcases a8B hT hh with ⟨e2,rfl⟩ | ⟨k2,e2⟩ <;>
  simp [e1,e2,Instr.sliceAt,Instr.slice,run_underlying hu,Instr.sliceBounds,Instr.sliceBound,asIntOf,sizeOf,typeInfo,hi',hs,h0,h1,h2,hh1,hl2,eh,hcap,hcap2]
theorem I5 {t e sz by_:Nat} {zs:List Value} {ys:List (List Value)} {x:Operand} {lo hi:Option Operand} {l h:Int} (G:Good P tb) (ho:o.op=.slice t x lo hi none) (ht:look t tb=some (.slice e sz by_ zs)) (hx:ev T x=some (.lst sz ys)) (hl:a5U T 0 lo=some l) (hh:a5U T ys.length hi=some h)
 (h0:0<=l) (h1:l<=h) (h2:h<=ys.length):QStep P o T m nx nt (.lst sz ((ys.drop l.toNat).take (h.toNat - l.toNat))) :=
 QStep.run λw0 ρ a w hT hC=>by
  have hxe:=hT.ev hx
  simp only [RelV] at hxe
  obtain ⟨A,cap,he,hcap,hall,hA⟩:=hxe
  have hlen:((ys.drop l.toNat).take (h.toNat - l.toNat)).length=h.toNat - l.toNat:=by rw [List.length_take,List.length_drop];omega
  refine ⟨.slice (if cap=l.toNat then A else A.map (·.add (l.toNat * sz))) (h.toNat - l.toNat) (cap - l.toNat),?_,λw' hC'=>?_⟩
  ·simp only [RelV]
   refine ⟨_,_,by rw [hlen],by rw [hlen];omega,λc hc=>hall c (List.mem_of_mem_drop (List.mem_of_mem_take hc)),λhpos=>?_⟩
   rw [hlen] at hpos
   have hpos2:0 < ys.length:=by omega
   obtain ⟨ad,rfl,hb,hcell⟩:=hA hpos2
   have hcl:cap≠l.toNat:=by omega
   rw [if_neg hcl]
   refine ⟨_,Z,by rw [A2];exact hb,λi c hi j u hj=>?_⟩
   have hi2:ys[l.toNat+i]?=some c:=by
    grind
   have:=hcell _ _ hi2 j u hj
   rw [a1o,← this]
   grind
  ·have:=a67 (G t _ ht) hT (A:=A) hl hh h0 h1 h2 hcap w'
   simp only [execOp,ho,he,Option.map_none,this,Sem.run_bind,Result.andThen_ok,Sem.run_pure]
theorem a1r {t e e' sz by_ id:Nat} {zs:List Value} {ys:List (List Value)} {x:Operand} {lo hi:Option Operand} {l h:Int} (G:Good P tb) (ho:o.op=.slice t x lo hi none) (ht:look t tb=some (.slice e sz by_ zs)) (hx:ev T x=some (.own id)) (hm:mem m id=some (.row e' sz ys))
 (hl:a5U T 0 lo=some l) (hh:a5U T ys.length hi=some h) (h0:0<=l) (h1:l<=h) (h2:h<=ys.length):QStep P o T m nx nt (.sub id sz l.toNat (h.toNat - l.toNat)) :=
 QStep.run λw0 ρ a w hT hC=>by
  have hxe:=hT.ev hx
  simp only [RelV] at hxe
  obtain ⟨hrow,_⟩:=hC.row hm
  have hshape:∃A cap,ρ id=.slice A ys.length cap/\ys.length<=cap/\(0 < ys.length→∃g,A=some ⟨g,0,none⟩):=by
   rcases hrow.2 with ⟨e1,e2⟩ | ⟨g,cap,cur,e1,_,_,e2,_⟩
   ·exact ⟨none,0,by rw [e1,e2],by omega,λh=>by omega⟩
   ·exact ⟨_,cap,e1,e2,λ_=>⟨g,Z⟩⟩
  obtain ⟨A,cap,he,hcap,hA⟩:=hshape
  refine ⟨.slice (if cap=l.toNat then A else A.map (·.add (l.toNat * sz))) (h.toNat - l.toNat) (cap - l.toNat),?_,λw' hC'=>?_⟩
  ·simp only [RelV]
   refine ⟨hxe.1,_,_,Z,by omega,λhpos=>?_,λhl0=>⟨ys.length,?_,by omega⟩⟩
   have hpos2:0 < ys.length:=by omega
   obtain ⟨g,rfl⟩:=hA hpos2
   have hcl:cap≠l.toNat:=by omega
   rw [if_neg hcl]
   exact ⟨g,_,_,he,by simp [Addr.add_lit]⟩
   ·rw [he,hl0]
    have e:A.map (λa=>a.add 0)=A:=by cases A<;>simp [Addr.add_zero']
    simp [e]
  ·have:=a67 (G t _ ht) hT (A:=A) hl hh h0 h1 h2 hcap w'
   simp only [execOp,ho,hxe.2,he,Option.map_none,this,Sem.run_bind,Result.andThen_ok,Sem.run_pure]
def evs (T:List (Nat×AV)):List Operand→List AV→Option (List AV)
 | [],acc=>a2x acc []
 | x :: r,acc=>match ev T x with
  | some a=>evs T r (a :: acc)
  | none=>none
theorem b0s {ρ:Nat→Value} {a:Act} (hT:RelT w0 ρ T nx nt a):∀{xs:List Operand} {acc rs:List AV} {acc':List Value},evs T xs acc=some rs→RelVs w0 ρ nx acc.reverse acc'→RelVs w0 ρ nx rs (acc'++xs.map a.eval)
 | [],acc,rs,acc',h,ha=>by simp [evs,E6] at h;subst h;simpa using ha
 | x :: xs,acc,rs,acc',h,ha=>by
  simp only [evs] at h
  cases h1:ev T x with
  | none=>simp [h1] at h
  | some av =>
   simp only [h1] at h
   have:=b0s hT h (acc':=acc'++[a.eval x]) (by
    rw [List.reverse_cons]
    refine RelVs.append _ ha ?_
    simp only [RelVs]
    exact ⟨_,_,Z,hT.ev h1,Z⟩)
   simpa using this
theorem c0O {f:FuncId} {caps:Array Operand} {cs:List AV} (ho:o.op=.makeFunc (.func f) #[] caps) (hc:evs T caps.toList []=some cs):QStep P o T m nx nt (.fnc f cs) :=
 QStep.run λw0 ρ a w hT hC=>by
  have:=b0s hT hc (acc':=[]) (by simp [RelVs])
  refine ⟨.func (.func f) #[] (caps.map a.eval),?_,λw' _=>by simp [execOp,ho,Instr.makeFunc]⟩
  simp only [RelV]
  exact ⟨caps.toList.map a.eval,by rw [← Array.toList_map],by simpa using this⟩
def a5V (n:Nat):List (Nat×Nat×Nat)→Bool
 | []=>true
 | q :: r=>Nat.blt q.2.2 n && a5V n r
theorem a4a {n:Nat}:∀{op:List (Nat×Nat×Nat)},a5V n op=true→∀q∈op,q.2.2 < n
 | [],_,q,hq=>by cases hq
 | p :: r,h,q,hq=>by
  simp only [a5V,Bool.and_eq_true] at h
  rcases List.mem_cons.1 hq with rfl | hq
  ·simp_all
  ·exact a4a h.2 q hq
def rowRefs (n:Nat):Row→Bool
 | .box cs=>F2 n cs
 | .row _ _ _ _=>true
 | .byt _=>true
 | .spare _ _ _ _=>true
 | .nest _ _ _ op=>a5V n op
def WeakT (T:List (Nat×AV)) (n:Nat):List (Nat×AV)→Prop
 | []=>True
 | (t,x) :: r=>(∃x',look t T=some x'/\x'=x)/\v2 n x=true/\WeakT T n r
def WeakM (m:List (Nat×Option Row)) (n:Nat):List (Nat×Option Row)→Prop
 | []=>True
 | (id,none) :: r=>WeakM m n r
 | (id,some row) :: r=>(∃row',mem m id=some row'/\row'=row)/\Nat.blt id n=true/\rowRefs n row=true/\WeakM m n r
theorem WeakT.get {n:Nat}:∀{T':List (Nat×AV)},WeakT T n T'→∀t x,(t,x)∈T'→look t T=some x/\v2 n x=true
 | [],_,_,_,h=>by simp at h
 | (t',x') :: r,hw,t,x,h=>by
  obtain ⟨⟨y,h1,h2⟩,h3,h4⟩:=hw
  rcases List.mem_cons.1 h with he | h
  ·grind
  ·exact WeakT.get h4 t x h
theorem WeakM.get {n:Nat}:∀{m':List (Nat×Option Row)},WeakM m n m'→∀id row,(id,some row)∈m'→mem m id=some row/\id < n/\rowRefs n row=true
 | [],_,_,_,h=>by simp at h
 | (id',none) :: r,hw,id,row,h=>by
  rcases List.mem_cons.1 h with he | h
  ·cases he
  ·exact WeakM.get (m':=r) hw id row h
 | (id',some row') :: r,hw,id,row,h=>by
  obtain ⟨⟨y,h1,h2⟩,h3,h4,h5⟩:=hw
  rcases List.mem_cons.1 h with he | h
  ·simp_all
  ·exact WeakM.get h5 id row h
structure Weak (S S':St):Prop where
 nt:S'.nt=S.nt
 T:WeakT S.T S'.nx S'.T
 m:WeakM S.m S'.nx S'.m
theorem a4b {id:Nat} {row:Row} (h:mem m id=some row):(id,some row)∈m:=by
 grind [mem,a4J]
theorem Weak.rel {S S':St} (hw:Weak S S') (hn0:w0.n0<=S'.nx) {ρ:Nat→Value} {a:Act} {w:World} (hT:RelT w0 ρ S.T S.nx S.nt a) (hC:RelC w0 ρ S.m S.nx w):RelT w0 ρ S'.T S'.nx S'.nt a/\RelC w0 ρ S'.m S'.nx w:=by
 refine ⟨⟨λt x hx=>?_,by rw [hw.nt];exact hT.size,hT.defers⟩,⟨λid row hr=>?_,λid id' r r' hr hr' hne=>?_,hC.below,⟨hn0,hC.pin.2⟩,⟨hC.kept.1,hC.kept.2.1,λid r hr=>hC.kept.2.2 id r (hw.m.get id r (a4b hr)).1⟩,
  hC.inner' (Nat.le_refl _) (λid r hr=>.inr ⟨r,(hw.m.get id r (a4b hr)).1,λ_ _ h=>h⟩) (λid r hr b hb=>.inl ⟨id,r,(hw.m.get id r (a4b hr)).1,hb⟩)⟩⟩
 ·obtain ⟨h1,h2⟩:=hw.T.get t x (a4J hx)
  exact (hT.tmps t x h1).less x h2
 ·obtain ⟨h1,h2,h3⟩:=hw.m.get id row (a4b hr)
  obtain ⟨_,h4⟩:=hC.rows id row h1
  exact ⟨h2,h4.to Z (λcs e l hl=>by subst e;exact RelVs.less cs h3 hl) λe sz yss op he q hq _=>by subst he;exact ⟨a4a h3 q hq,Z⟩⟩
 ·exact hC.apart id id' r r' (hw.m.get id r (a4b hr)).1 (hw.m.get id' r' (a4b hr')).1 hne
theorem c0P {c:Code} {S S':St} (hw:Weak S S') (hnx:S'.nx=S.nx) (h:W P w0 c S' Q):W P w0 c S Q :=
 λρ a w hT hC=>let ⟨h1,h2⟩:=hw.rel (hnx▸hC.pin.1) hT hC;h ρ a w h1 h2
theorem c0Q {α:Type} (st:α→St) (inv:α→Prop) (μ:α→Nat) {c:Code} {S:St} (x0:α) (h0:inv x0) (hw:Weak S (st x0)) (hnx:∀x,(st x).nx=S.nx)
 (round:∀x,inv x→W P w0 c (st x) (sq (λS'=>∃x',inv x'/\Weak S' (st x')/\μ x' < μ x) Q)):W P w0 (.loop c) S Q:=by
 intro ρ a w hT hC
 have hp:∀x,w0.n0<=(st x).nx:=λx=>by rw [hnx x];exact hC.pin.1
 obtain ⟨h1,h2⟩:=hw.rel (hp _) hT hC
 refine wp_loop_ghost (λn a w=>∃x,inv x/\μ x=n/\∃ρ,RelT w0 ρ (st x).T (st x).nx (st x).nt a/\RelC w0 ρ (st x).m (st x).nx w) (μ x0) ⟨x0,h0,Z,ρ,h1,h2⟩ ?_
 rintro n a w ⟨x,hi,rfl,ρ,hT,hC⟩
 refine wp_mono (round x hi ρ a w hT hC) ?_
 rintro e a w ⟨ρ',S',hq,hT',hC'⟩
 cases e
 case normal =>
  obtain ⟨x',hi',hw',hlt⟩:=hq
  obtain ⟨g1,g2⟩:=hw'.rel (hp _) hT' hC'
  exact ⟨μ x',hlt,x',hi',Z,ρ',g1,g2⟩
 all_goals exact ⟨ρ',S',hq,hT',hC'⟩
def b6T (tb:List (Nat×TyI)) (S:St):ResultVar→Option AV
 | .tmp t=>look t S.T
 | .cell p ty=>match look p S.T with
  | some (.ptr id off)=>match mem S.m id with
   | some (.box cs)=>match look ty tb with
    | some (.struct _ zs)=>match a2o zs.length (Y3 off cs) [] with
     | some rs=>some (.agg rs)
     | none=>none
    | some _=>nth cs off
    | none=>none
   | _=>none
  | _=>none
def T2 (tb:List (Nat×TyI)) (S:St):List ResultVar→List AV→Option (List AV)
 | [],acc=>a2x acc []
 | x :: r,acc=>match b6T tb S x with
  | some a=>T2 tb S r (a :: acc)
  | none=>none
def a6m:AV→Option Value
 | .v x=>some x
 | .pin z _ _=>some z
 | .nst (some z) _ _=>some z
 | .agg cs=>match vaR cs [] with
  | some xs=>some (.agg ⟨xs⟩)
  | none=>none
 | _=>none
def RCOK (m:List (Nat×Option Row)):AV→RC→Prop
 | x,.v u=>a6m x=some u
 | .own id,.fr e sz ys f=>∃f0,mem m id=some (.row e sz ys f0)/\(f0=true→f=true)
 | .v x,.fr _ _ ys _=>x=.slice none 0 0/\ys=[]
 | .own id,.ne e sz yss=>mem m id=some (.nest e sz yss [])
 | .v x,.ne _ _ yss=>x=.slice none 0 0/\yss=[]
 | _,_=>False
def RCOKs (m:List (Nat×Option Row)):List AV→List RC→Prop
 | [],[]=>True
 | x :: xs,r :: rs=>RCOK m x r/\RCOKs m xs rs
 | _,_=>False
def P1:List AV→List Nat→List Nat
 | [],acc=>acc
 | .own i :: r,acc=>P1 r (i :: acc)
 | _ :: r,acc=>P1 r acc
def b0t:List AV→Bool
 | []=>true
 | .v x :: r=>(blk x).isNone && b0t r
 | _ :: r=>b0t r
def nodupB:List Nat→Bool
 | []=>true
 | x :: r=>!has x r && nodupB r
def b4t:AV→Option (List AV)
 | .agg cs=>some cs
 | .v (.agg ⟨l⟩)=>some (avR l [])
 | _=>none
theorem b3K {w0:World} {ρ:Nat→Value} {a:AV} {cs:List AV} (h:b4t a=some cs) {y:Value} (hy:RelV w0 ρ nx a y):∃cvs:List Value,y=.agg cvs.toArray/\RelVs w0 ρ nx cs cvs:=by
 cases a<;>simp only [b4t] at h<;>try cases h
 case agg.refl=>simpa only [RelV] using hy
 case v x =>
  cases x<;>simp only [b4t] at h<;>try cases h
  rename_i l
  simp only [RelV] at hy
  subst hy
  exact ⟨l.toList,Z,by rw [a2J];simpa using RelVs.map_v l.toList⟩
def flA:List (Option Nat)→List AV→List AV→Option (List AV)
 | [],[],acc=>a2x acc []
 | none :: sh,a :: as,acc=>flA sh as (a :: acc)
 | some n :: sh,a :: as,acc=>match b4t a with
  | some cs=>bif Nat.beq cs.length n then flA sh as (rev cs acc) else none
  | none=>none
 | _,_,_=>none
def a15:Res→List AV→List AV
 | .shp _ sh _,avs=>match flA sh avs [] with
  | some ls=>ls
  | none=>[]
 | _,avs=>avs
def ResOK (m:List (Nat×Option Row)) (avs:List AV):Res→Prop
 | .one r=>∃x,avs=[x]/\RCOK m x r
 | .many rs=>RCOKs m avs rs/\Nat.beq avs.length 1=false/\nodupB (P1 avs [])=true/\b0t avs=true
 | .shp single sh rs=>∃ls,flA sh avs []=some ls/\RCOKs m ls rs/\Nat.beq avs.length 1=single/\nodupB (P1 ls [])=true
def Fin (tb:List (Nat×TyI)) (rs:List ResultVar) (res:Res):Exit→St→Prop
 | .ret,S=>∃avs,T2 tb S rs []=some avs/\ResOK S.m avs res
 | .normal,S=>∃avs,T2 tb S rs []=some avs/\ResOK S.m avs res
 | _,_=>False
def a4c (tmps:Array Value):ResultVar→Sem Value
 | .tmp t=>pure (tmps.getD t undef)
 | .cell a t=>do loadVar t (← asAddr (tmps.getD a undef))
theorem b3L (G:Good P tb) {S:St} {ρ:Nat→Value} {a:Act} {w:World} (hT:RelT w0 ρ S.T S.nx S.nt a) (hC:RelC w0 ρ S.m S.nx w) {x:ResultVar} {r:AV} (h:b6T tb S x=some r):∃y,RelV w0 ρ S.nx r y/\(a4c a.tmps x).run P w=.ok y w:=by
 cases x with
 | tmp t=>exact ⟨_,hT.tmps t r h,Z⟩
 | cell p ty =>
  simp only [b6T] at h
  cases h1:look p S.T with
  | none=>simp [h1] at h
  | some av =>
   cases av<;>simp only [h1] at h<;>try cases h
   rename_i id off
   cases h2:mem S.m id with
   | none=>simp [h2] at h
   | some row =>
    cases row with
    | row _ _ _=>simp [h2] at h
    | byt _=>simp [h2] at h
    | spare _ _ _ _=>simp [h2] at h
    | nest _ _ _ _=>simp [h2] at h
    | box cs =>
     simp only [h2] at h
     cases h3:look ty tb with
     | none=>simp [h3] at h
     | some i =>
      have hp:=hT.tmps p _ h1
      simp only [RelV] at hp
      obtain ⟨_,g,hg,he⟩:=hp
      obtain ⟨b,cur,ty',hρ,_,hb,hR,_⟩:=hC.box h2
      rw [hg] at hρ
      simp at hρ
      subst hρ
      have flat:∀(hf:V2 i=true) (hr:nth cs off=some r),∃y,RelV w0 ρ S.nx r y/\(a4c a.tmps (.cell p ty)).run P w=.ok y w:=by
       intro hf hr
       rw [a2I] at hr
       obtain ⟨u,hu,h4⟩:=RelVs.get _ hR off r hr
       refine ⟨u,h4,?_⟩
       have hc:w.cell? ⟨g,off,none⟩=some u:=by rw [P8 hb,hu]
       simp only [a4c,he,asAddr,Sem.run_bind,Sem.run_pure,Result.andThen_ok,loadVar,(G ty i h3).run_isAgg w,hf,Bool.not_true,Bool.false_eq_true,if_false,run_load,hc]
      cases i with
      | flat fk z=>simp only [h3] at h;exact flat Z h
      | slice e sz by_ zs=>simp only [h3] at h;exact flat Z h
      | struct fs zs =>
       simp only [h3] at h
       cases h4:a2o zs.length (Y3 off cs) [] with
       | none=>simp [h4] at h
       | some rs =>
        simp only [h4,Option.some.injEq] at h
        subst h
        obtain ⟨hrs,hlen⟩:=U1 _ _ _ _ h4
        rw [Q7] at hrs hlen
        simp at hrs
        have hR2:RelVs w0 ρ S.nx rs ((cur.toList.drop off).take zs.length):=by rw [hrs];exact (RelVs.drop off _ hR).take _ _
        have hl:=RelVs.length _ hR2
        have hl2:rs.length=zs.length:=by rw [hrs,List.length_take];omega
        have:=E0 (G ty _ h3) (w:=w) (p:=⟨g,off,none⟩) (us:=(cur.toList.drop off).take zs.length) (by rw [hl,hl2]) (λj u hj=>by
         rw [Addr.add_lit,P8 hb]
         rw [List.getElem?_take] at hj
         split at hj
         ·rw [List.getElem?_drop] at hj;exact hj
         ·cases hj)
        refine ⟨_,by simp only [RelV];exact ⟨_,Z,hR2⟩,?_⟩
        simp only [Instr.loadAt,Instr.sureAddr,Sem.run_bind,Sem.run_pure,Result.andThen_ok] at this
        simp only [a4c,he,asAddr,Sem.run_bind,Sem.run_pure,Result.andThen_ok]
        exact this
theorem a0f (G:Good P tb) {S:St} {ρ:Nat→Value} {a:Act} {w:World} (hT:RelT w0 ρ S.T S.nx S.nt a) (hC:RelC w0 ρ S.m S.nx w):∀{xs:List ResultVar} {acc rs:List AV},T2 tb S xs acc=some rs →
 ∃ys avs,rs=acc.reverse++avs/\RelVs w0 ρ S.nx avs ys/\(xs.mapM (a4c a.tmps)).run P w=.ok ys w
 | [],acc,rs,h=>by simp [T2,E6] at h;exact ⟨[],[],by simp [h],by simp [RelVs],Z⟩
 | x :: xs,acc,rs,h=>by
  simp only [T2] at h
  cases h1:b6T tb S x with
  | none=>simp [h1] at h
  | some av =>
   simp only [h1] at h
   obtain ⟨y,h2,h3⟩:=b3L G hT hC h1
   obtain ⟨ys,avs,e1,e2,e3⟩:=a0f G hT hC h
   refine ⟨y :: ys,av :: avs,by simp [e1],by simp only [RelVs];exact ⟨_,_,Z,h2,e2⟩,?_⟩
   simp_all
theorem b1u {ρ:Nat→Value} {x:AV} {u y:Value} (h:a6m x=some u) (hy:RelV w0 ρ nx x y):y=u:=by
 cases x<;>simp only [a6m] at h<;>try cases h
 case v.refl=>simpa only [RelV] using hy
 case pin.refl=>simp only [RelV] at hy;exact hy.1
 case nst z _ _ =>
  cases z with
  | none=>simp [a6m] at h
  | some z=>simp [a6m] at h;subst h;simp only [RelV] at hy;exact hy.1 _ Z
 case agg cs =>
  cases hv:vaR cs [] with
  | none=>simp [hv] at h
  | some xs =>
   simp [hv] at h
   obtain ⟨xs',h1,h2⟩:=V0 _ _ _ hv
   simp at h2
   subst h2
   simp only [RelV] at hy
   obtain ⟨ys,rfl,h3⟩:=hy
   rw [h1] at h3
   rw [RelVs.map_v_eq _ h3,← h]
theorem b3M {B:Nat} {w:World} {e sz:Nat}:b77 B w (.slice none 0 0) e sz [] :=
 ⟨[],⟨World.ownsRow_nil _ _ _ _,Z,by simp,by simp,λi k c h=>by simp [y8] at h⟩,λp b h=>by simp [y4,y8] at h⟩
theorem RCOK.rel {ρ:Nat→Value} {w:World} (hC:RelC w0 ρ m nx w) {x:AV} {c:RC} (h:RCOK m x c) {y:Value} (hy:RelV w0 ρ nx x y):RCRel w0.w.heap.size w c y:=by
 cases c with
 | v u =>
  have h':a6m x=some u:=by cases x<;>exact h
  simp only [RCRel]
  exact b1u h' hy
 | fr e sz ys =>
  cases x<;>simp only [RCOK] at h
  case own id =>
   simp only [RelV] at hy
   rw [hy.2]
   obtain ⟨f0,h,hf⟩:=h
   obtain ⟨h1,h2⟩:=hC.rowF h
   exact ⟨h1.up hf,h2⟩
  case v x =>
   obtain ⟨rfl,rfl⟩:=h
   simp only [RelV] at hy
   subst hy
   exact ⟨OwnR.nil,by simp⟩
 | ne e sz yss =>
  cases x<;>simp only [RCOK] at h
  case own id =>
   simp only [RelV] at hy
   rw [hy.2]
   obtain ⟨_,cells,h1,_⟩:=hC.rows id _ h
   exact ⟨cells,h1,λp b hb=>⟨((hC.inner id _ h p b hb).2.2.2 id _ h).1,λp' hp'=>(((hC.inner id _ h p b hb).2.2.2 id _ h).2 p' hp').2⟩⟩
  case v x =>
   obtain ⟨rfl,rfl⟩:=h
   simp only [RelV] at hy
   subst hy
   exact b3M
theorem RCOK.foot {ρ:Nat→Value} {w:World} {x:AV} {c:RC} (h:RCOK m x c) {y:Value} (hy:RelV w0 ρ nx x y) {b:Nat} (hb:a6f w c y b):∃id row,x=.own id/\mem m id=some row/\O1 w (ρ id) row b:=by
 cases c with
 | v u=>exact hb.elim
 | fr e sz ys =>
  cases x<;>simp only [RCOK] at h
  case own id=>obtain ⟨f0,h,hf⟩:=h;simp only [RelV] at hy;exact ⟨id,_,Z,h,.inl (by rw [← hy.2];exact hb)⟩
  case v x =>
   obtain ⟨rfl,rfl⟩:=h
   simp only [RelV] at hy
   subst hy
   simp [a6f,blk] at hb
 | ne e sz yss =>
  cases x<;>simp only [RCOK] at h
  case own id=>simp only [RelV] at hy;exact ⟨id,_,Z,h,by rw [← hy.2];exact hb⟩
  case v x =>
   obtain ⟨rfl,rfl⟩:=h
   simp only [RelV] at hy
   subst hy
   simp [a6f,blk,y4,y8] at hb
theorem a4d:∀(l:List AV) (acc:List Nat),nodupB (P1 l acc)=true→nodupB acc=true
 | [],acc,h=>h
 | x :: r,acc,h=>by
  cases x<;>simp only [P1] at h
  case own i =>
   have:=a4d r (i :: acc) h
   simp only [nodupB,Bool.and_eq_true] at this
   exact this.2
  all_goals exact a4d r acc h
theorem a2R:∀(l:List AV) (acc:List Nat),nodupB (P1 l acc)=true→∀i∈acc,AV.own i∉l
 | [],_,_,_,_=>by simp
 | x :: r,acc,h,i,hi=>by
  cases x<;>simp only [P1] at h
  case own j =>
   have h1:=a4d r (j :: acc) h
   simp only [nodupB,Bool.and_eq_true,Bool.not_eq_true'] at h1
   have h2:=a2R r (j :: acc) h i (by simp [hi])
   intro hm
   rcases List.mem_cons.1 hm with e | hm
   ·cases e
    exact Z9 h1.1 i hi Z
   ·exact h2 hm
  all_goals
   have h2:=a2R r acc h i hi
   intro hm
   rcases List.mem_cons.1 hm with e | hm
   ·cases e
   ·exact h2 hm
theorem RelC.foot_apart {ρ:Nat→Value} {w:World} (hC:RelC w0 ρ m nx w) {id id':Nat} {row row':Row} (hm:mem m id=some row) (hm':mem m id'=some row') (hne:id≠id') {b:Nat} (hb:O1 w (ρ id) row b):¬ O1 w (ρ id') row' b:=by
 rintro (hb' | ⟨p',hb'⟩)
 ·rcases hb with hb | ⟨p,hb⟩
  ·exact hC.apart id id' _ _ hm hm' hne b hb hb'
  ·exact hC.blkne hm hm' hb hb'
 ·rcases hb with hb | ⟨p,hb⟩
  ·exact hC.blkne hm' hm hb' hb
  ·exact hne (((hC.inner id row hm p b hb).2.2.2 id' row' hm').2 p' hb').1
theorem RCOKs.foots {ρ:Nat→Value} {w:World} {b:Nat}:∀{xs:List AV} {rs:List RC},RCOKs m xs rs→∀{ys:List Value},RelVs w0 ρ nx xs ys→a39 w rs ys b→∃id row,.own id∈xs/\mem m id=some row/\O1 w (ρ id) row b
 | [],[],_,_,hy,hb=>by simp only [RelVs] at hy;subst hy;exact hb.elim
 | [],_ :: _,h,_,_,_=>h.elim
 | _ :: _,[],h,_,_,_=>h.elim
 | x :: xs,r :: rs,h,_,hy,hb=>by
  simp only [RelVs] at hy
  obtain ⟨y,ys,rfl,h1,h2⟩:=hy
  rcases hb with hb | hb
  ·obtain ⟨id,row,rfl,h3,h4⟩:=h.1.foot h1 hb
   grind
  ·obtain ⟨id,row,h3,h4⟩:=RCOKs.foots h.2 h2 hb
   grind
theorem RCOKs.rel {ρ:Nat→Value} {w:World} (hC:RelC w0 ρ m nx w):∀{xs:List AV} {rs:List RC} {acc:List Nat},RCOKs m xs rs→nodupB (P1 xs acc)=true→∀{ys:List Value},RelVs w0 ρ nx xs ys→RCRels w0.w.heap.size w rs ys
 | [],[],_,_,_,_,hy=>hy
 | [],_ :: _,_,h,_,_,_=>h.elim
 | _ :: _,[],_,h,_,_,_=>h.elim
 | x :: xs,r :: rs,acc,h,hn,_,hy=>by
  simp only [RelVs] at hy
  obtain ⟨y,ys,rfl,h1,h2⟩:=hy
  simp only [RCRels]
  have hn':∃acc',nodupB (P1 xs acc')=true/\(∀i,x=.own i→i∈acc'):=by
   cases x<;>simp only [P1] at hn
   case own i=>exact ⟨_,hn,λj hj=>by cases hj;simp⟩
   all_goals exact ⟨_,hn,λj hj=>by cases hj⟩
  obtain ⟨acc',hn1,hn2⟩:=hn'
  refine ⟨y,ys,Z,h.1.rel hC h1,RCOKs.rel hC h.2 hn1 h2,λb hb hb'=>?_⟩
  obtain ⟨id,row,rfl,h3,h4⟩:=h.1.foot h1 hb
  obtain ⟨id',row',h5,h6,h7⟩:=RCOKs.foots h.2 h2 hb'
  refine hC.foot_apart h3 h6 (λe=>?_) h4 h7
  subst e
  exact a2R xs acc' hn1 id (hn2 id Z) h5
theorem a9l {ρ:Nat→Value}:∀{sh:List (Option Nat)} {as acc ls:List AV} {vs acc':List Value},flA sh as acc=some ls→RelVs w0 ρ nx as vs→RelVs w0 ρ nx acc.reverse acc'→∃ys,RelVs w0 ρ nx ls (acc'++ys)/\a4M sh ys=some vs
 | [],[],acc,ls,vs,acc',h,hr,ha=>by
  simp [flA,E6] at h
  simp only [RelVs] at hr
  subst h;subst hr
  exact ⟨[],by simpa using ha,Z⟩
 | [],_ :: _,_,_,_,_,h,_,_=>by simp [flA] at h
 | none :: sh,[],_,_,_,_,h,_,_=>by simp [flA] at h
 | none :: sh,a :: as,acc,ls,vs,acc',h,hr,ha=>by
  simp only [flA] at h
  simp only [RelVs] at hr
  obtain ⟨v,vs',rfl,h1,h2⟩:=hr
  obtain ⟨ys,h3,h4⟩:=a9l h h2 (acc':=acc'++[v]) (by
   rw [List.reverse_cons]
   refine RelVs.append _ ha ?_
   simp only [RelVs]
   exact ⟨_,_,Z,h1,Z⟩)
  exact ⟨v :: ys,by simpa using h3,by simp [a4M,h4]⟩
 | some n :: sh,as,acc,ls,vs,acc',h,hr,ha=>by
  have key:∀(cs:List AV) (as':List AV) (cvs:List Value) (vs':List Value),cs.length=n→RelVs w0 ρ nx cs cvs→RelVs w0 ρ nx as' vs'→flA sh as' (rev cs acc)=some ls→∃ys,RelVs w0 ρ nx ls (acc'++ys)/\a4M (some n :: sh) ys=some (.agg cvs.toArray :: vs'):=by
   intro cs as' cvs vs' hl h1 h2 h3
   obtain ⟨ys,h4,h5⟩:=a9l h3 h2 (acc':=acc'++cvs) (by
    rw [a1Z,List.reverse_append,List.reverse_reverse]
    exact RelVs.append _ ha h1)
   have hcl:=RelVs.length _ h1
   refine ⟨cvs++ys,by simpa using h4,?_⟩
   have hcn:cvs.length=n:=by omega
   simp only [a4M]
   rw [if_pos (by rw [List.length_append];omega),← hcn,List.take_left,List.drop_left,h5]
   rfl
  cases as with
  | nil=>simp [flA] at h
  | cons a as =>
   simp only [RelVs] at hr
   obtain ⟨v,vs',rfl,h1,h2⟩:=hr
   simp only [flA] at h
   cases ha':b4t a with
   | none=>simp [ha'] at h
   | some cs =>
    simp only [ha'] at h
    cases hb:Nat.beq cs.length n with
    | false=>simp [hb] at h
    | true =>
     simp only [hb,cond_true] at h
     obtain ⟨cvs,rfl,h1'⟩:=b3K ha' h1
     exact key cs as cvs vs' (Nat.eq_of_beq_eq_true hb) h1' h2 h
theorem ResOK.parts {ρ:Nat→Value} {w:World} (hC:RelC w0 ρ m nx w) {avs:List AV} {res:Res} (h:ResOK m avs res) {ys:List Value} (hy:RelVs w0 ρ nx avs ys) :
 resParts w0.w.heap.size w res (if h:ys.toArray.size=1 then ys.toArray[0] else .tuple ys.toArray) (λrs ls=>∀b,a39 w rs ls b→∃id row,.own id∈a15 res avs/\mem m id=some row/\O1 w (ρ id) row b):=by
 have hyl:=RelVs.length _ hy
 cases res with
 | one r =>
  obtain ⟨x,rfl,hx⟩:=h
  simp only [RelVs] at hy
  obtain ⟨y,_,rfl,g1,rfl⟩:=hy
  simp only [List.size_toArray,List.length_cons,List.length_nil,Nat.zero_add,dif_pos,List.getElem_toArray,List.getElem_cons_zero]
  refine ⟨hx.rel hC g1,λb hb=>?_⟩
  rcases hb with hb | hb
  ·obtain ⟨id,row,rfl,h3,h4⟩:=hx.foot g1 hb
   exact ⟨id,row,by simp [a15],h3,h4⟩
  ·exact hb.elim
 | many rs =>
  obtain ⟨h3,h4,h5,h6⟩:=h
  have hne:¬ ys.toArray.size=1:=by rw [List.size_toArray,hyl];exact J1 h4
  rw [dif_neg hne]
  exact ⟨ys,Z,RCOKs.rel hC h3 h5 hy,λb hb=>RCOKs.foots h3 hy hb⟩
 | shp single sh rs =>
  obtain ⟨ls,h1,h2,h3,h4⟩:=h
  obtain ⟨us,h5,h6⟩:=a9l (acc':=[]) h1 hy (by simp [RelVs])
  simp only [List.nil_append] at h5
  refine ⟨us,ys,RCOKs.rel hC h2 h4 h5,h6,?_,λb hb=>by simpa only [a15,h1] using RCOKs.foots h2 h5 hb⟩
  cases single with
  | true =>
   have h7:=Nat.eq_of_beq_eq_true h3
   rw [h7] at hyl
   match ys,hyl with
   | [y],_=>simp
  | false =>
   grind [J1]
theorem resParts.rel {B:Nat} {w:World} {res:Res} {y:Value} {K:List RC→List Value→Prop} (h:resParts B w res y K):ResRel B w res y:=by
 cases res with
 | one r=>exact h.1
 | many rs=>obtain ⟨ys,h1,h2,_⟩:=h;exact ⟨ys,h1,h2⟩
 | shp single sh rs=>obtain ⟨ys,vs,h1,h2,h3,_⟩:=h;exact ⟨ys,vs,h1,h2,h3⟩
theorem resParts.mono {B:Nat} {w:World} {res:Res} {y:Value} {K K':List RC→List Value→Prop} (h:resParts B w res y K) (hk:∀rs ys,RCRels B w rs ys→K rs ys→K' rs ys):resParts B w res y K':=by
 cases res with
 | one r=>exact ⟨h.1,hk _ _ ⟨y,[],Z,h.1,Z,λ_ _ h=>h⟩ h.2⟩
 | many rs=>obtain ⟨ys,h1,h2,h3⟩:=h;exact ⟨ys,h1,h2,hk _ _ h2 h3⟩
 | shp single sh rs=>obtain ⟨ys,vs,h1,h2,h3,h4⟩:=h;exact ⟨ys,vs,h1,h2,h3,hk _ _ h1 h4⟩
def a4T:List AV→Nat→List (Nat×AV)
 | [],_=>[]
 | a :: as,k=>(k,a) :: a4T as (Nat.succ k)
theorem a3q {w0:World} {ρ:Nat→Value}:∀{as:List AV} {vs:List Value} {k:Nat},RelVs w0 ρ nx as vs→∀t x,look t (a4T as k)=some x→∃u,k<=t/\vs[t - k]?=some u/\RelV w0 ρ nx x u
 | [],_,_,_,_,_,h=>by simp [a4T,look] at h
 | a :: as,_,k,hr,t,x,h=>by
  simp only [RelVs] at hr
  obtain ⟨y,ys,rfl,h1,h2⟩:=hr
  by_cases e:k=t
  ·grind [a4T,m9]
  ·simp only [a4T] at h
   rw [j5 e] at h
   obtain ⟨u,g1,g2,g3⟩:=a3q h2 t x h
   grind
mutual
theorem RelV.outer {w:World} {ρ:Nat→Value}:∀(x:AV) {y:Value},RelV w noRho 0 x y→RelV w ρ 0 x y
 | x,_,h=>h.mono (Nat.le_refl _) (λi hi=>by omega)
end
theorem RelVs.outer {w:World} {ρ:Nat→Value} (x:List AV) {y:List Value} (h:RelVs w noRho 0 x y):RelVs w ρ 0 x y:=RelVs.mono (Nat.le_refl _) (λi hi=>by omega) x h
theorem V3 {fn:Func} {l:List ResultVar} (hl:fn.results=l.toArray) {tmps:Array Value} {ys:List Value} {w:World} (h:(l.mapM (a4c tmps)).run P w=.ok ys w) :
 (results fn tmps).run P w=.ok (if h:ys.toArray.size=1 then ys.toArray[0] else .tuple ys.toArray) w:=by
 have he:results fn tmps=(do let vs ← fn.results.mapM (a4c tmps);pure (if h:vs.size=1 then vs[0] else .tuple vs)):=rfl
 simp_all
theorem Ctr.of (G:Good P tb) {f:FuncId} {fn:Func} {c:Code} {args:List AV} {res:Res} {l:List ResultVar} {n:Nat} (hf:P.funcs[f]?=some fn) (hb:fn.body=some c) (hname:(fn.name == "runtime.NumGoroutine")=false) (hl:fn.results=l.toArray) (hn:fn.ntmps=n)
 (hlen:Nat.ble args.length n=true) (h:∀w0:Base,[NoPin w0]→[EnvAt P w0]→W P w0 c ⟨a4T args 0,[],0,n⟩ (Fin tb l res)):Ctr P f args res:=by
 refine ⟨⟨fn,hf,hname,by rw [hb];rfl⟩,λw vs henv hrel=>?_⟩
 have hlen':args.length<=n:=Nat.le_of_ble_eq_true hlen
 have hvl:=RelVs.length _ hrel
 refine calls_of_wp hf hb ?_
 let b0:Base:=⟨w,0,noRho,w,λ_=>False,λ_ h=>h.elim,Env.E P,λw' hb=>Env.mono henv hb⟩
 have hC:RelC b0 noRho [] 0 w:=⟨λid r hr=>by simp [mem,look] at hr,λid id' r r' hr=>by simp [mem,look] at hr,Below.refl _ _,⟨Nat.le_refl _,λi hi=>by cases hi⟩,⟨Nat.le_refl _,λb h=>h.elim,λid r hr=>by simp [mem,look] at hr⟩,λid r hr=>by simp [mem,look] at hr⟩
 have hnp:NoPin b0:=⟨Z⟩
 have hen:EnvAt P b0:=⟨Z⟩
 have hT:RelT w noRho (a4T args 0) 0 n { tmps:=vs.toArray++Array.replicate (fn.ntmps - vs.toArray.size) undef,defers:=[] }:=by
  refine ⟨λt x hx=>?_,by simp [hn];omega,Z⟩
  obtain ⟨u,_,h2,h3⟩:=a3q hrel t x hx
  have hlt:t < vs.length:=by
   grind
  have:(vs.toArray++Array.replicate (fn.ntmps - vs.toArray.size) undef).getD t undef=u:=by
   rw [Array.getD_eq_getD_getElem?,Array.getElem?_append_left (by simpa using hlt)]
   grind
  rw [this]
  exact h3
 refine wp_mono (h b0 noRho _ w hT hC) ?_
 have fin:∀(ρ:Nat→Value) (S:St) (a:Act) (w':World) (avs:List AV),T2 tb S l []=some avs→ResOK S.m avs res→RelT w ρ S.T S.nx S.nt a→RelC b0 ρ S.m S.nx w' →
  a.defers=[]/\∃v,(results fn a.tmps).run P w'=.ok v w'/\∃u,Ending.returned v=.returned u/\ResRel w.heap.size w' res u/\Below w.heap.size w w':=by
  intro ρ S a w' avs h1 h2 hT' hC'
  obtain ⟨ys,avs',e1,e2,e3⟩:=a0f G hT' hC' h1
  simp at e1
  subst e1
  exact ⟨hT'.defers,_,V3 hl e3,_,Z,(ResOK.parts hC' h2 e2).rel,hC'.below⟩
 rintro e a w' ⟨ρ,S,hq,hT',hC'⟩
 cases e<;>simp only [Fin] at hq
 case normal=>obtain ⟨avs,h1,h2⟩:=hq;exact fin ρ S a w' avs h1 h2 hT' hC'
 case ret=>obtain ⟨avs,h1,h2⟩:=hq;exact fin ρ S a w' avs h1 h2 hT' hC'
end
section
variable {P:Program} [Env P] {w0:Base} {ops:Array Oper} {tb:List (Nat×TyI)} {o:Oper} {rest:List Oper} {T:List (Nat×AV)} {m:List (Nat×Option Row)} {nx nt d:Nat} {r:AV} {Q:Exit→St→Prop}
def b4u (tb:List (Nat×TyI)) (m:List (Nat×Option Row)) (T:List (Nat×AV)) (fs:List (Nat×Nat)):List (Nat×Operand)→List AV→Option (List AV)
 | [],cs=>some cs
 | (k,x) :: r,cs=>match nth fs k with
  | some (off,ft)=>match look ft tb,ev T x with
   | some i,some av=>match A0 av with
    | some vs=>bif (Nat.beq vs.length (Q8 i) && Nat.ble (off+vs.length) cs.length) && a0J m vs then (match a5T cs off vs [] with | some cs'=>b4u tb m T fs r cs' | none=>none) else none
    | none=>none
   | _,_=>none
  | none=>none
theorem a8C (off:Nat):∀(l:List Value) (j:Nat) (cs:Array Value),off+j+l.length<=cs.size→(l.zipIdx j).foldl (λcs (p:Value×Nat)=>cs.setIfInBounds (off+p.2) p.1) cs=(cs.toList.take (off+j)++l++cs.toList.drop (off+j+l.length)).toArray
 | [],j,cs,_=>by simp
 | x :: l,j,cs,h=>by
  simp only [List.length_cons] at h
  simp only [List.zipIdx_cons,List.foldl_cons]
  rw [a8C off l (j+1) _ (by simp;omega)]
  congr 1
  have h2:off+j < cs.size:=by omega
  rw [Array.toList_setIfInBounds]
  have e1:(cs.toList.set (off+j) x).take (off+(j+1))=cs.toList.take (off+j)++[x]:=by
   rw [show off+(j+1)=off+j+1 by omega,List.take_succ_eq_append_getElem (by simpa using h2)]
   have:(cs.toList.set (off+j) x).take (off+j)=cs.toList.take (off+j):=by
    rw [List.take_set]
    exact List.set_eq_of_length_le (by rw [List.length_take];omega)
   simp [this]
  rw [e1,List.drop_set_of_lt J]
  simp
  congr 1
  omega
theorem a8D (G:Good P tb) {ρ:Nat→Value} {a:Act} {w:World} (hT:RelT w0 ρ T nx nt a) (hC:RelC w0 ρ m nx w) {fields:Array Field} {fs:List (Nat×Nat)}
 (hf:∀(k off ft:Nat),fs[k]?=some (off,ft)→∃(f:Field) (j:TypeInfo),fields[k]?=some f/\f.offset=off/\f.type=ft/\P.info? ft=some j/\j.size≠0) {places:Array (Nat×Nat)} (hp:∀(k:Nat) (f:Field) (j:TypeInfo),fields[k]?=some f→P.info? f.type=some j→places[k]?=some (f.offset,j.size)) :
 ∀{ps:List (Nat×Operand)} {cs rs:List AV},b4u tb m T fs ps cs=some rs→∀(cells:Array Value),RelVs w0 ρ nx cs cells.toList →
 ∃out:Array Value,Instr.fill (places[·]?) cells (ps.map λp=>(p.1,a.eval p.2))=some out/\RelVs w0 ρ nx rs out.toList
 | [],cs,rs,h,cells,hr=>by simp [b4u] at h;subst h;exact ⟨cells,Z,hr⟩
 | (k,x) :: ps,cs,rs,h,cells,hr=>by
  simp only [b4u] at h
  cases h1:nth fs k with
  | none=>simp [h1] at h
  | some p =>
   obtain ⟨off,ft⟩:=p
   simp only [h1] at h
   cases h2:look ft tb with
   | none=>simp [h2] at h
   | some i =>
    cases h3:ev T x with
    | none=>simp [h2,h3] at h
    | some av =>
     simp only [h2,h3] at h
     cases h4:A0 av with
     | none=>simp [h4] at h
     | some vs =>
      simp only [h4] at h
      cases h5:((Nat.beq vs.length (Q8 i) && Nat.ble (off+vs.length) cs.length) && a0J m vs) with
      | false=>simp [h5] at h
      | true =>
       simp only [h5,cond_true,a13] at h
       simp only [Bool.and_eq_true] at h5
       have hl:vs.length=Q8 i:=Nat.eq_of_beq_eq_true h5.1.1
       have hfit:off+vs.length<=cs.length:=Nat.le_of_ble_eq_true h5.1.2
       rw [a2I] at h1
       obtain ⟨f,j,g1,g2,g3,g4,g5⟩:=hf k off ft h1
       subst g2;subst g3
       have hplace:=hp k f j g1 g4
       have hsz:j.size=Q8 i:=by
        have:=(G _ _ h2).run_sizeOf w
        simp [sizeOf,typeInfo,g4] at this
        exact this
       have hR:=(U3 hC h4 h5.2 (hT.ev h3)).1
       have hvl:=RelVs.length _ hR
       have hcl:=RelVs.length _ hr
       simp at hvl hcl
       have hfold:=a8C f.offset (a.eval x).cells.toList 0 cells (by simp;omega)
       have hfold2:(a.eval x).cells.zipIdx.foldl (λcs (p:Value×Nat)=>cs.setIfInBounds (f.offset+p.2) p.1) cells=(cells.toList.take f.offset++(a.eval x).cells.toList++cells.toList.drop (f.offset+vs.length)).toArray:=by
        rw [← Array.foldl_toList]
        have e:(a.eval x).cells.zipIdx.toList=(a.eval x).cells.toList.zipIdx 0:=by simp
        rw [e,hfold]
        simp [hvl]
       have hfold3:(a.eval x).cells.zipIdx.foldl (λcs (p:Value×Nat)=>match p with | (c,j)=>cs.setIfInBounds (f.offset+j) c) cells=(cells.toList.take f.offset++(a.eval x).cells.toList++cells.toList.drop (f.offset+vs.length)).toArray:=hfold2
       obtain ⟨out,e1,e2⟩:=a8D G hT hC hf hp h (cells.toList.take f.offset++(a.eval x).cells.toList++cells.toList.drop (f.offset+vs.length)).toArray (by
        rw [a12 _ _ _ _ hfit]
        simp only [List.reverse_nil,List.nil_append]
        exact RelVs.append _ (RelVs.append _ (RelVs.take _ _ hr) hR) (RelVs.drop _ _ hr))
       refine ⟨out,?_,e2⟩
       simp only [List.map_cons,Instr.fill,hplace]
       rw [if_neg (by simp [hvl,hl,hsz];omega),hfold3]
       exact e1
theorem b1v {fields:Array Field} {w:World} (hall:∀f∈fields.toList,∃j,P.info? f.type=some j):∃places:Array (Nat×Nat),((fields.mapM λf=>do pure (f.offset,← sizeOf f.type):Sem (Array (Nat×Nat)))).run P w=.ok places w /\
 ∀(k:Nat) (f:Field) (j:TypeInfo),fields[k]?=some f→P.info? f.type=some j→places[k]?=some (f.offset,j.size):=by
 obtain ⟨l⟩:=fields
 have key:∀(l:List Field),(∀f∈l,∃j,P.info? f.type=some j)→∃ps:List (Nat×Nat),((l.mapM λf=>do pure (f.offset,← sizeOf f.type):Sem (List (Nat×Nat)))).run P w=.ok ps w/\∀(k:Nat) (f:Field) (j:TypeInfo),l[k]?=some f→P.info? f.type=some j→ps[k]?=some (f.offset,j.size):=by
  intro l
  induction l with
  | nil=>intro _;exact ⟨[],by simp,by simp⟩
  | cons f l ih =>
   intro h
   obtain ⟨j,hj⟩:=h f (by simp)
   obtain ⟨ps,h1,h2⟩:=ih (λf hf=>h f (by simp [hf]))
   refine ⟨(f.offset,j.size) :: ps,?_,?_⟩
   ·simp [List.mapM_cons,sizeOf,typeInfo,hj] at h1 ⊢
    rw [h1]
    rfl
   grind
 obtain ⟨ps,h1,h2⟩:=key l hall
 simp_all
theorem y9 {t:TypeId} {ps:Array (Nat×Operand)} {fs:List (Nat×Nat)} {zs:List Value} {rs:List AV} (G:Good P tb) (ho:o.op=.build t ps) (ht:look t tb=some (.struct fs zs)) (hb:b4u tb m T fs ps.toList (avR zs [])=some rs) (hd:a3T rs=true):QStep P o T m nx nt (.agg rs) :=
 QStep.run λw0 ρ a w hT hC=>by
  obtain ⟨fields,i,hu,hi,hsz,hz,_,hlen,hf⟩:=G t _ ht
  have hall:∀f∈fields.toList,∃j,P.info? f.type=some j:=by
   intro f hm
   obtain ⟨k,hk,rfl⟩:=List.getElem_of_mem hm
   have hk':k < fs.length:=by rw [hlen];simpa using hk
   obtain ⟨f',j,g1,_,g3,g4,_⟩:=hf k fs[k].1 fs[k].2 (by rw [List.getElem?_eq_getElem hk'])
   grind
  have key:∀w',RelC w0 ρ m nx w'→∃ys:List Value,RelVs w0 ρ nx rs ys/\(execOp a.eval o).run P w'=.ok (.value (.agg ys.toArray)) w':=by
   intro w' hC'
   obtain ⟨places,hp1,hp2⟩:=b1v (P:=P) (w:=w') hall
   obtain ⟨out,e1,e2⟩:=a8D G hT hC' hf hp2 hb zs.toArray (by simpa [a2J] using RelVs.map_v zs)
   refine ⟨out.toList,e2,?_⟩
   have hps:(ps.map λ(p:Nat×Operand)=>(p.1,a.eval p.2)).toList=ps.toList.map λp=>(p.1,a.eval p.2):=by simp
   have hps':(Array.map (λx=>match x with | (i,x)=>(i,a.eval x)) ps).toList=ps.toList.map λp=>(p.1,a.eval p.2):=hps
   simp only [execOp,ho,Instr.build,Sem.run_bind,zeroValue,typeInfo,run_program,Result.andThen_ok,hi,Sem.run_pure,hz,run_underlying hu,hp1,Value.cells,hps',e1]
  obtain ⟨ys,h1,h2⟩:=key w hC
  refine ⟨.agg ys.toArray,by simp only [RelV];exact ⟨ys,Z,h1⟩,λw' hC'=>?_⟩
  obtain ⟨ys',h1',h2'⟩:=key w' hC'
  rw [a4K hd h1 h1'] at h2'
  exact h2'
theorem R0 {rs:List ResultVar} {S:St} {x:AV} {c:RC} (h:T2 tb S rs []=some [x]) (hx:RCOK S.m x c):Fin tb rs (.one c) .ret S:=⟨_,h,x,Z,hx⟩
theorem G1 {rs:List ResultVar} {S:St} {xs:List AV} {cs:List RC} (h:T2 tb S rs []=some xs) (hl:Nat.beq xs.length 1=false) (hn:nodupB (P1 xs [])=true) (ho:b0t xs=true) (hx:RCOKs S.m xs cs):Fin tb rs (.many cs) .ret S:=⟨_,h,hx,hl,hn,ho⟩
theorem p5 {x u:Value} (h:x=u):RCOK m (.v x) (.v u):=by subst h;rfl
theorem a16 {cs:List AV} {xs:List Value} {u:Value} (h:vaR cs []=some xs) (hu:.agg ⟨xs⟩=u):RCOK m (.agg cs) (.v u):=by
 show a6m (.agg cs)=some u
 simp only [a6m,h]
 rw [hu]
theorem b8 {id e sz:Nat} {ys ys':List (List Value)} {f f0:Bool} (h:mem m id=some (.row e sz ys' f0)) (hy:ys'=ys) (hf:(!f0 || f)=true:=by rfl):RCOK m (.own id) (.fr e sz ys f):=by subst hy;exact ⟨f0,h,λe=>by subst e;simpa using hf⟩
theorem t7 {e sz:Nat} {ys:List (List Value)} {f:Bool} (h:[]=ys):RCOK m (.v (.slice none 0 0)) (.fr e sz ys f):=⟨Z,h.symm⟩
theorem d5:RCOKs m [] []:=trivial
theorem a7 {x:AV} {xs:List AV} {r:RC} {rs:List RC} (h:RCOK m x r) (h':RCOKs m xs rs):RCOKs m (x :: xs) (r :: rs):=⟨h,h'⟩
theorem a4e {x:Operand} {t e sz by_ n n':Nat} {zs:List Value} {ax:AV} (G:Good P tb) (ho:o.op=.call { callee:=.builtin .len,args:=#[x],argTypes:=#[t] }) (ht:look t tb=some (.slice e sz by_ zs)) (hx:ev T x=some ax) (hn:b3G m ax=some n) (he:n=n') :
 QStep P o T m nx nt (.v (.int .i64 n')):=he▸a7l G ho ht hx hn
theorem w9 {α:Type} [Inhabited α] {l:List α} {f:α→List Value} {i:Int} (h0:0<=i) (h1:i < l.length):(l.map f)[i.toNat]?=some (f (l.getD i.toNat default)):=by
 grind
theorem V4 {v v':Value} (h:QStep P o T m nx nt (.v v)) (e:v=v'):QStep P o T m nx nt (.v v'):=e▸h
def a6n (n:Nat) (T:List (Nat×AV)):List Nat→List (Nat×AV)→Option (List (Nat×AV))
 | [],acc=>some acc
 | t :: r,acc=>match look t T with
  | some x=>bif v2 n x then a6n n T r ((t,x) :: acc) else none
  | none=>none
def N6 (n:Nat) (m:List (Nat×Option Row)):List Nat→List (Nat×Option Row)→Option (List (Nat×Option Row))
 | [],acc=>some acc
 | i :: r,acc=>match mem m i with
  | some row=>bif Nat.blt i n && rowRefs n row then N6 n m r ((i,some row) :: acc) else none
  | none=>none
theorem a17 {n:Nat}:∀{ks:List Nat} {acc T0:List (Nat×AV)},a6n n T ks acc=some T0→WeakT T n acc→WeakT T n T0
 | [],acc,T0,h,ha=>by simp [a6n] at h;subst h;exact ha
 | t :: r,acc,T0,h,ha=>by
  simp only [a6n] at h
  cases h1:look t T with
  | none=>simp [h1] at h
  | some x =>
   simp only [h1] at h
   cases h2:v2 n x with
   | false=>simp [h2] at h
   | true =>
    simp only [h2,cond_true] at h
    exact a17 h ⟨⟨x,h1,Z⟩,h2,ha⟩
theorem a0g {n:Nat}:∀{ks:List Nat} {acc M0:List (Nat×Option Row)},N6 n m ks acc=some M0→WeakM m n acc→WeakM m n M0
 | [],acc,M0,h,ha=>by simp [N6] at h;subst h;exact ha
 | t :: r,acc,M0,h,ha=>by
  simp only [N6] at h
  cases h1:mem m t with
  | none=>simp [h1] at h
  | some x =>
   simp only [h1] at h
   cases h2:(Nat.blt t n && rowRefs n x) with
   | false=>simp [h2] at h
   | true =>
    simp only [h2,cond_true] at h
    simp only [Bool.and_eq_true] at h2
    exact a0g h ⟨⟨x,h1,Z⟩,h2.1,h2.2,ha⟩
theorem WeakT.append {n:Nat}:∀{a b:List (Nat×AV)},WeakT T n a→WeakT T n b→WeakT T n (a++b)
 | [],_,_,h=>h
 | (t,x) :: r,_,h,h'=>⟨h.1,h.2.1,WeakT.append h.2.2 h'⟩
theorem WeakM.append {n:Nat} {m:List (Nat×Option Row)}:∀{a b:List (Nat×Option Row)},WeakM m n a→WeakM m n b→WeakM m n (a++b)
 | [],_,_,h=>h
 | (i,none) :: r,_,h,h'=>WeakM.append (a:=r) h h'
 | (i,some row) :: r,_,h,h'=>⟨h.1,h.2.1,h.2.2.1,WeakM.append h.2.2.2 h'⟩
theorem f6 {α:Type} {c:Code} (ks ms:List Nat) (mod:α→List (Nat×AV)) (mm:α→List (Nat×Option Row)) (inv:α→Prop) (μ:α→Nat) (x0:α) {T0:List (Nat×AV)} {M0:List (Nat×Option Row)}
 (hT:a6n nx T ks []=some T0) (hM:N6 nx m ms []=some M0) (h0:inv x0) (w1:WeakT T nx (mod x0)) (w2:WeakM m nx (mm x0))
 (round:∀x,inv x→W P w0 c ⟨mod x++T0,mm x++M0,nx,nt⟩ (sq (λS'=>∃x',inv x'/\μ x' < μ x/\WeakT S'.T nx (mod x')/\WeakM S'.m nx (mm x')/\a6n nx S'.T ks []=some T0/\N6 nx S'.m ms []=some M0/\S'.nt=nt) Q)) :
 W P w0 (.loop c) ⟨T,m,nx,nt⟩ Q:=by
 refine c0Q (λx=>⟨mod x++T0,mm x++M0,nx,nt⟩) inv μ x0 h0 ⟨Z,w1.append (a17 hT trivial),w2.append (a0g hM trivial)⟩ (λ_=>Z) (λx hx=>b4o (round x hx) ?_)
 intro e S' hq
 cases e
 case normal =>
  obtain ⟨x',g1,g2,g3,g4,g5,g6,g7⟩:=hq
  exact ⟨x',g1,⟨g7.symm,g3.append (a17 g5 trivial),g4.append (a0g g6 trivial)⟩,g2⟩
 all_goals exact hq
end
end Go.Rf
namespace Go.Rf
open Go
def s1 (n l h:Int):Bool:=decide (n≥l) && decide (n<=h)
theorem s7 {n l h:Int}:s1 n l h=true↔l<=n/\n<=h:=by simp [s1]
variable {P:Program} [Env P] {tb:List (Nat×TyI)} {w0:Base} {T:List (Nat×AV)} {m:List (Nat×Option Row)} {nx nt:Nat} {o:Oper}
theorem b4v {x y:Operand} {ts:Array TypeId} {k:IntKind} {a b:Int} (ho:o.op=.call { callee:=.builtin .min,args:=#[x,y],argTypes:=ts }) (hx:ev T x=some (.v (.int k a))) (hy:ev T y=some (.v (.int k b))) :
 QStep P o T m nx nt (.v (.int k (min a b))):=by
 have:=c2s (P:=P) (m:=m) (nx:=nx) (nt:=nt) ho hx hy
 grind
section
variable {α β:Type} [Inhabited α] {f:α→β} {z:β} {xs ys:List α} {i:Nat}
def c4q (f:α→β) (z:β) (xs:List α) (i:Nat):List β:=(xs.take i).map f++List.replicate (xs.length - i) z
theorem a2S (h:i < xs.length):(xs.map f)[((i:Int)).toNat]?=some (f (xs.getD i default)):=by simp [h]
theorem C7 {j:Int} (h0:0<=j) (h:j.toNat < xs.length):(xs.map f)[j.toNat]?=some (f (xs.getD j.toNat default)):=by simp [h]
theorem F3 (hl:xs.length=ys.length) (h:∀j,j < i→xs.getD j default=ys.getD j default) (hi:xs.length<=i):xs=ys:=by
 apply List.ext_getElem hl
 intro j h1 h2
 have:=h j J
 simpa [h1,h2] using this
theorem a6o (h:xs.getD i default≠ys.getD i default):xs≠ys:=λe=>h (by rw [e])
theorem r5 {p:Nat→Prop} (h:∀j,j < i→p j) (hi:p i):∀j,j < i+1→p j:=λj hj=>by
 grind
end
def X7 (n:Nat) (f:Nat→Bool):Bool:=(List.range n).all f
theorem a1a {n i:Nat} {f:Nat→Bool} (h:∀j,j < i→f j=true) (hi:n<=i):X7 n f=true:=by
 grind [X7]
theorem X8 {n i:Nat} {f:Nat→Bool} (h:f i=false) (hi:i < n):X7 n f=false:=by
 grind [X7]
theorem w4 {n:Nat} {f:Nat→Bool}:X7 n f=true↔∀j,j < n→f j=true:=by simp [X7]
theorem Ctr.int [Env P] {f:FuncId} {args:List AV} {a b:Int} (h:Ctr P f args (.one (.v (.int .i64 a)))) (e:a=b):Ctr P f args (.one (.v (.int .i64 b))):=e▸h
structure Setting where
 g:Int
 n:ByteArray
 c:Int
 f:Int
 w:Int
 k:Bool
instance:Inhabited Setting:=⟨⟨0,⟨#[]⟩,0,0,0,false⟩⟩
end Go.Rf
namespace Go.Rf
open Go Go.ChangeShapes Go.WideShapes Go.Deep Go.ChangeAt Go.RowKit
variable {cs:List Value} {n:Nat} {v:Value} {w:World}
inductive CK where
 | int (k:IntKind)
 | bool
 | str
variable {k:CK}
def CellOK:CK→Value→Prop
 | .int k,v=>∃n,v=.int k n/\(Lit.int k n).wf=true
 | .bool,v=>∃b,v=.bool b
 | .str,v=>∃s,v=.string s/\s.size<=maxLen
def CellsOK:List CK→List Value→Prop
 | [],cs=>cs=[]
 | k :: ks,cs=>∃v vs,cs=v :: vs/\CellOK k v/\CellsOK ks vs
def b4w (P:Program) (t:TypeId):Option CK:=match P.underlying t with
 | some (.int k)=>some (.int k)
 | some .bool=>some .bool
 | some .string=>some .str
 | _=>none
def b3N (P:Program):List Field→Option (List CK)
 | []=>some []
 | f :: r=>match b4w P f.type,b3N P r with
  | some k,some ks=>some (k :: ks)
  | _,_=>none
theorem CellOK.one (h:CellOK k v):v.oneCell'=true:=by
 cases k<;>simp only [CellOK] at h
 ·obtain ⟨n,rfl,_⟩:=h;rfl
 ·obtain ⟨n,rfl⟩:=h;rfl
 ·obtain ⟨n,rfl,_⟩:=h;rfl
theorem CellsOK.len:∀{ks:List CK} {cs:List Value},CellsOK ks cs→cs.length=ks.length/\∀u∈cs,u.oneCell'=true
 | [],cs,h=>by simp only [CellsOK] at h;subst h;simp
 | k :: ks,cs,h=>by
  simp only [CellsOK] at h
  obtain ⟨v,vs,rfl,h1,h2⟩:=h
  obtain ⟨a,b⟩:=CellsOK.len h2
  exact ⟨by simp [a],λu hu=>by rcases List.mem_cons.mp hu with rfl | hu;exact h1.one;exact b u hu⟩
section
variable {H:Type} {enc:TypeId×Value→H} {P:Program} {w:World} {base:Nat} {spare:Nat→Bool} {held:Bool} {t e:TypeId}
theorem a4U {x:DataW H×List MemPlace} (hk:b4w P t=some k) (h:DataW.trod enc P w base spare held n t cs=some x):∃v,cs=[v]/\CellOK k v:=by
 unfold b4w at hk
 split at hk<;>cases hk
 ·next k ht=>obtain ⟨n,rfl,_,hw⟩:=DataW.trod_int ht h;exact ⟨_,Z,n,Z,hw⟩
 ·next ht=>obtain ⟨b,rfl,_⟩:=DataW.trod_bool ht h;exact ⟨_,Z,b,Z⟩
 ·next ht=>obtain ⟨s,rfl,_,hs⟩:=DataW.trod_string ht h;exact ⟨_,Z,s,Z,hs⟩
theorem a7v:∀(l:List Field) (ks:List CK) (cs:List Value),b3N P l=some ks→cs.length=l.length→(∀(j:Nat) (f:Field) (k:CK),l[j]?=some f→b4w P f.type=some k→∃v,cs[j]?=some v/\CellOK k v)→CellsOK ks cs
 | [],ks,cs,hk,hl,_=>by simp [b3N] at hk;subst hk;simpa [CellsOK] using hl
 | f :: r,ks,cs,hk,hl,h=>by
  simp only [b3N] at hk
  split at hk
  ·next k ks' h1 h2 =>
   cases hk
   match cs,hl with
   | c :: cs,hl =>
    obtain ⟨v,hv,hok⟩:=h 0 f k Z h1
    simp at hv
    subst hv
    exact ⟨c,cs,Z,hok,a7v r ks' cs h2 (by simpa using hl) λj f' k' hj hk'=>by simpa using h (j+1) f' k' (by simpa using hj) hk'⟩
  ·cases hk
theorem a6K {fs:Array Field} {ks:List CK} {x:DataW H×List MemPlace} (hs:P.underlying t=some (.struct fs)) (hone:oneCellFields P fs=true) (hC:P.cellsOf t=fs.size) (hk:b3N P fs.toList=some ks)
 (h:DataW.trod enc P w base spare held n t cs=some x):CellsOK ks cs:=by
 obtain ⟨xs,n',_,_,hlen,hxl,hf⟩:=DataW.trod_struct hs h
 refine a7v _ _ _ hk (by rw [hlen,hC];simp) λj f k hj hkf=>?_
 have hj':fs[j]?=some f:=by simpa using hj
 obtain ⟨ho,h1⟩:=hone_of hone j f hj'
 have hjl:j < fs.size:=(Array.getElem?_eq_some_iff.1 hj').1
 have h2:=hf j f hj'
 rw [ho,h1,List.getElem?_eq_getElem J] at h2
 obtain ⟨v,hv,hok⟩:=a4U hkf h2
 refine ⟨v,?_,hok⟩
 have:((cs.drop j).take 1)[0]?=some v:=by rw [hv];rfl
 simpa using this
theorem b1w {a:Addr} (h:w.cell? a=some v):a.block < w.heap.size:=by
 unfold World.cell? at h
 grind
inductive EK where
 | one (k:CK)
 | str (fs:Array Field) (ks:List CK)
def EK.sz:EK→Nat
 | .one _=>1
 | .str fs _=>fs.size
def EK.ks:EK→List CK
 | .one k=>[k]
 | .str _ ks=>ks
def EK.Fits (P:Program) (e:TypeId):EK→Prop
 | .one k=>b4w P e=some k/\P.cellsOf e=1
 | .str fs ks=>P.underlying e=some (.struct fs)/\oneCellFields P fs=true/\P.cellsOf e=fs.size/\b3N P fs.toList=some ks
theorem EK.Fits.cells {E:EK} (h:E.Fits P e):P.cellsOf e=E.sz:=by cases E<;>simp only [EK.Fits] at h;exact h.2;exact h.2.2.1
theorem EK.Fits.trod {E:EK} (h:E.Fits P e) {n:Nat} {cs:List Value} {x:DataW H×List MemPlace} (ht:DataW.trod enc P w base spare held n e cs=some x):CellsOK E.ks cs:=by
 cases E<;>simp only [EK.Fits] at h
 ·obtain ⟨v,rfl,hv⟩:=a4U h.1 ht;exact ⟨v,[],Z,hv,Z⟩
 ·exact a6K h.1 h.2.1 h.2.2.1 h.2.2.2 ht
theorem b0u {v:Value} {d:DataW H} {p:List MemPlace} {E:EK} (ht:P.underlying t=some (.slice e)) (hE:E.Fits P e) (hsz:E.sz≠0) (hv:∃a len cap,v=.slice a len cap) (h:DataW.Trod enc P w base spare held t v d p) :
 ∃ys,ReadsAt w E.sz ys v/\ys.length<=maxLen/\∀c∈ys,CellsOK E.ks c:=by
 obtain ⟨a,len,cap,rfl⟩:=hv
 obtain ⟨fuel,hf⟩:=h
 rcases open_slice ht hf with ⟨hcs,_⟩ | ⟨a',len',cap',m,n,D,Pl,hcs,hb,hl,hm,hmm,hx,hi⟩
 ·simp [Value.cells] at hcs
  obtain ⟨rfl,rfl,rfl⟩:=hcs
  exact ⟨[],⟨none,0,Z,Nat.le_refl _,by simp,by simp⟩,by simp,by simp⟩
 ·simp [Value.cells] at hcs
  obtain ⟨rfl,rfl,rfl⟩:=hcs
  have hlm:len<=m:=by rw [hmm];split<;>omega
  rw [hE.cells] at hi
  let ys:=(List.range len).map λi=>(w.cells? base (a'.add (i * E.sz)) E.sz).getD []
  have hget:∀i c,ys[i]?=some c→i < len/\w.cells? base (a'.add (i * E.sz)) E.sz=some c/\CellsOK E.ks c:=by
   intro i c hic
   simp only [ys,List.getElem?_map] at hic
   rcases Nat.lt_or_ge i len with hlt | hge
   ·obtain ⟨cs',h1,h2⟩:=hi i J
    rw [List.getElem?_range hlt] at hic
    simp [h1] at hic
    subst hic
    exact ⟨hlt,h1,hE.trod h2⟩
   grind
  have hlen:ys.length=len:=by simp [ys]
  refine ⟨ys,⟨some a',cap,by rw [hlen],by omega,λc hc=>?_,λh0=>⟨a',Z,?_,λi c hic j u hju=>?_⟩⟩,by omega,λc hc=>?_⟩
  ·obtain ⟨i,hic⟩:=List.getElem?_of_mem hc
   obtain ⟨_,h1,h2⟩:=hget i c hic
   exact ⟨(World.cells?_some h1).2.1,h2.len.2⟩
  ·obtain ⟨cs',h1,_⟩:=hi 0 J
   obtain ⟨_,h2,h3⟩:=World.cells?_some h1
   have h4:=h3 0 J
   rw [List.getElem?_eq_getElem J] at h4
   have:=b1w h4
   simpa [Addr.add] using this
  ·obtain ⟨_,h1,_⟩:=hget i c hic
   obtain ⟨_,h2,h3⟩:=World.cells?_some h1
   have hj:j < c.length:=(List.getElem?_eq_some_iff.1 hju).1
   rw [← hju,← h3 j J]
   rw [← Go.Deep.add_add]
  ·obtain ⟨i,hic⟩:=List.getElem?_of_mem hc
   exact (hget i c hic).2.2
end
theorem b3O:RelVs w noRho 0 [] []:=rfl
theorem b3P {sz:Nat} {ys:List (List Value)} {as:List AV} {vs:List Value} (hr:ReadsAt w sz ys v) (h:RelVs w noRho 0 as vs):RelVs w noRho 0 (.lst sz ys :: as) (v :: vs):=by
 grind [RelVs,RelV]
theorem Ctr.true {P:Program} [Env P] {f:FuncId} {args:List AV} (h:Ctr P f args (.one (.v (.bool Bool.true)))) {w:World} {vs:List Value} (hE:Env.E P w) (hv:RelVs w noRho 0 args vs) :
 Calls P f vs.toArray w λe w'=>e=.returned (.bool Bool.true)/\Below w.heap.size w w' :=
 (h.calls w vs hE hv).mono λe w' ⟨v,he,hr,hb⟩=>⟨by simp only [ResRel,RCRel] at hr;rw [he,hr],hb⟩
end Go.Rf
namespace Go.Rf
open Go
theorem b0v {α:Type} {f:α→List Value} {ks:List CK} {Q:α→Prop} (h:∀c,CellsOK ks c→∃x,c=f x/\Q x):∀(ys:List (List Value)),(∀c∈ys,CellsOK ks c)→∃xs:List α,ys=xs.map f/\∀x∈xs,Q x
 | [],_=>⟨[],Z,by simp⟩
 | c :: r,hc=>by
  obtain ⟨x,rfl,hx⟩:=h c (hc c (by simp))
  obtain ⟨xs,rfl,hxs⟩:=b0v h r (λc' h'=>hc c' (by simp [h']))
  exact ⟨x :: xs,Z,λy hy=>by rcases List.mem_cons.mp hy with rfl | hy;exact hx;exact hxs y hy⟩
end Go.Rf
namespace Go.Rf
open Go Go.RowKit
variable {M1 m:List (Nat×Option Row)} {P:Program} {S:St} {T1:List (Nat×AV)} {a:Act} {b:Int} {cs xs:List AV} {e id nx':Nat} {k:IntKind} {ms ts:List Nat} {rs:List ResultVar} {w w':World} {w0:Base} {x y:Operand} {ys:List (List Value)} {ρ ρ':Nat→Value}
def nq (K:St→Prop):Exit→St→Prop
 | .normal,S=>K S
 | _,_=>False
def a4f:Op→Bool
 | .load _ _=>true
 | .field _ _ _=>true
 | .fieldAddr _ _ _=>true
 | .index _ _ _=>true
 | .indexAddr _ _ _=>true
 | .move _=>true
 | .assign _=>true
 | .binOp _ _ _ _ _=>true
 | .unOp _ _ _=>true
 | .convert _ _ _=>true
 | .slice _ _ _ _ _=>true
 | .build _ _=>true
 | .extract _ _=>true
 | .pick _ _ _=>true
 | .makeFunc _ _ _=>true
 | .call { callee:=.builtin .len,args:=_,argTypes:=_ }=>true
 | .call { callee:=.builtin .min,args:=_,argTypes:=_ }=>true
 | .call { callee:=.builtin .max,args:=_,argTypes:=_ }=>true
 | _=>false
theorem a6p {x:Sem Value} {n:Next} (h:(do let v ← x;pure (Next.value v):Sem Next).run P w=.ok n w'):∃v,n=.value v:=by
 simp only [Sem.run_bind] at h
 cases hx:x.run P w with
 | ok v w1=>rw [hx] at h;simp at h;exact ⟨v,h.1.symm⟩
 | halt c w1=>rw [hx] at h;simp at h
theorem a5W {o:Oper} (hp:a4f o.op=true) {ρ:Operand→Value} {w w':World} {n:Next} (h:(execOp ρ o).run P w=.ok n w'):∃v,n=.value v:=by
 unfold execOp at h
 split at h<;>rename_i he<;>rw [he] at hp<;>first
  | (cases hp;done)
  | exact a6p h
  | (simp at h;exact ⟨_,h.1.symm⟩)
  | skip
 ·simp only [Sem.run_bind] at h
  rename_i c x y
  cases hx:(asBool (ρ c)).run P w with
  | ok v w1=>rw [hx] at h;simp at h;exact ⟨_,h.1.symm⟩
  | halt cc w1=>rw [hx] at h;simp at h
 ·rename_i c
  obtain ⟨cal,args,ts⟩:=c
  cases cal with
  | value f=>cases hp
  | invoke r nm=>cases hp
  | builtin b =>
   cases b<;>first
    | (cases hp;done)
    | (simp only [resolve,invoke,builtin,Sem.run_bind,Sem.run_pure,Result.andThen_ok] at h;exact a6p (by simpa only [Sem.run_bind,Sem.run_pure] using h))
section
variable {P:Program} [Env P] {b:Base} {ops:Array Oper} {o:Oper} {T:List (Nat×AV)} {m m0:List (Nat×Option Row)} {nx nt d i fuel:Nat} {listed:Array Bool} {r:AV} {K:St→Prop}
def Cls (b:Base) (m0:List (Nat×Option Row)) (w:World):Prop:=RelC b b.r0 m0 b.n0 w
theorem Inner.eq {w0':Base} (h:Inner w0 ρ m w) (hr:∀id r,mem m id=some r→ρ' id=ρ id) (hk:w0'.keep=w0.keep:=by rfl) (hw:w0'.w=w0.w:=by rfl):Inner w0' ρ' m w:=by
 intro id r hm p b hb
 rw [hr id r hm] at hb
 obtain ⟨g1,g2,g3,g4⟩:=h id r hm p b hb
 grind
theorem RelC.pinned (hC:RelC b ρ m nx w) (h:Cls b m0 w'):RelC b ρ m0 nx w':=by
 have hr:∀i,i < b.n0→ρ i=b.r0 i:=hC.pin.2
 refine ⟨λid r hm=>?_,λid id' r r' hm hm' hne bb hb=>?_,h.below,hC.pin,⟨h.kept.1,h.kept.2.1,λid r hm bb hb=>?_⟩,h.inner.eq λid r hm=>hr id (h.rows id r hm).1⟩
 ·obtain ⟨h1,h2⟩:=h.rows id r hm
  exact ⟨Nat.lt_of_lt_of_le h1 hC.pin.1,h2.mono hC.pin.1 hr h1⟩
 ·have h1:=(h.rows id r hm).1
  have h2:=(h.rows id' r' hm').1
  rw [hr id h1] at hb
  rw [hr id' h2]
  exact h.apart id id' r r' hm hm' hne bb hb
 ·rw [hr id (h.rows id r hm).1] at hb
  exact h.kept.2.2 id r hm bb hb
theorem RelC.cls {ρ:Nat→Value} {w:World} {ms:List Nat} (hC:RelC b ρ m nx w) (h:N6 b.n0 m ms []=some m0):Cls b m0 w:=by
 have hw:WeakM m b.n0 m0:=a0g h trivial
 have hr:∀i,i < b.n0→ρ i=b.r0 i:=hC.pin.2
 have h2:RelC b ρ m0 b.n0 w:=(Weak.rel (S:=⟨[],m,nx,0⟩) (S':=⟨[],m0,b.n0,0⟩) ⟨Z,trivial,hw⟩ (Nat.le_refl _) (ρ:=ρ) (a:=⟨#[],[]⟩) ⟨λt x hx=>(by cases hx),Z,Z⟩ hC).2
 refine ⟨λid r hm=>?_,λid id' r r' hm hm' hne bb hb=>?_,h2.below,⟨Nat.le_refl _,λ_ _=>Z⟩,⟨h2.kept.1,h2.kept.2.1,λid r hm bb hb=>?_⟩,h2.inner.eq λid r hm=>(hr id (h2.rows id r hm).1).symm⟩
 ·obtain ⟨g1,g2⟩:=h2.rows id r hm
  exact ⟨g1,g2.mono (Nat.le_refl _) (λj hj=>(hr j hj).symm) g1⟩
 ·have g1:=(h2.rows id r hm).1
  have g2:=(h2.rows id' r' hm').1
  rw [← hr id g1] at hb
  rw [← hr id' g2]
  exact h2.apart id id' r r' hm hm' hne bb hb
 ·rw [← hr id (h2.rows id r hm).1] at hb
  exact h2.kept.2.2 id r hm bb hb
def WA (P:Program) (b:Base) (ops:Array Oper) (m0:List (Nat×Option Row)) (fuel:Nat) (listed:Array Bool) (S:St) (K:St→Prop):Prop :=
 Region.noSelect ops=true→∀ρ a w,RelT b.w ρ S.T S.nx S.nt a→RelC b ρ S.m S.nx w→Cls b m0 w→wpAnyH P .any ops (a1V b (nq K)) (Cls b m0) fuel listed a w
theorem E3 {e:Exit} (h:a1V b (nq K) e a w):e=.normal:=by
 obtain ⟨ρ,S,h,_⟩:=h
 cases e<;>first | rfl | exact h.elim
theorem i9 [EnvAt P b] (i:Nat) (hi:ops[i]?=some o) (hf:Region.free .any ops listed i=true) (hr:(Region.ready .any ops listed).contains i=true) (hp:a4f o.op=true) (hg:o.guard=none)
 (hd:o.dst=some d) (hlt:Nat.blt d nt=true) (hq:QStep P o T m0 nx nt r) (hk:WA P b ops m0 fuel (listed.setIfInBounds i true) ⟨(d,r) :: T,m,nx,nt⟩ K):WA P b ops m0 (fuel+1) listed ⟨T,m,nx,nt⟩ K:=by
 intro hs ρ a w hT hC hS
 obtain ⟨y,hy,hq⟩:=hq b ρ a w hT (hC.pinned hS)
 refine wpAnyH_take hi hs hf hr (λc a w h=>absurd (E3 h) (by simp)) (v:=y) (.inl ⟨by simp [Region.wanted,hg],λw' hw'=>?_⟩) hS ?_
 ·have h1:=hq w' (hC.pinned hw')
  unfold Oper.quietAt at h1
  generalize hres:(execOp a.eval o).run P w'=res at *
  cases res with
  | ok n w'' =>
   obtain ⟨v,rfl⟩:=a5W hp hres
   simp only [Oper.quietUpon] at h1
   rw [h1.1,h1.2]
  | halt x w''=>simp only [Oper.quietUpon] at h1
 ·rw [hd]
  exact hk hs ρ _ w (hT.put hlt hy) hC hS
theorem b0w [EnvAt P b] (i:Nat) {j gd:Nat} {want:Bool} (hi:ops[i]?=some o) (hf:Region.free .any ops listed i=true) (hr:(Region.ready .any ops listed).contains i=true) (hp:a4f o.op=true) (hg:o.guard=some (j,want))
 (hj:(ops[j]?).bind (·.dst)=some gd) (hb:look gd T=some (.v (.bool want)))
 (hd:o.dst=some d) (hlt:Nat.blt d nt=true) (hq:QStep P o T m0 nx nt r) (hk:WA P b ops m0 fuel (listed.setIfInBounds i true) ⟨(d,r) :: T,m,nx,nt⟩ K):WA P b ops m0 (fuel+1) listed ⟨T,m,nx,nt⟩ K:=by
 intro hs ρ a w hT hC hS
 obtain ⟨y,hy,hq⟩:=hq b ρ a w hT (hC.pinned hS)
 refine wpAnyH_take hi hs hf hr (λc a w h=>absurd (E3 h) (by simp)) (v:=y) (.inl ⟨by rw [U0 hT hg hj hb];simp,λw' hw'=>?_⟩) hS ?_
 ·have h1:=hq w' (hC.pinned hw')
  unfold Oper.quietAt at h1
  generalize hres:(execOp a.eval o).run P w'=res at *
  cases res with
  | ok n w'' =>
   obtain ⟨v,rfl⟩:=a5W hp hres
   simp only [Oper.quietUpon] at h1
   rw [h1.1,h1.2]
  | halt x w''=>simp only [Oper.quietUpon] at h1
 ·rw [hd]
  exact hk hs ρ _ w (hT.put hlt hy) hC hS
theorem b6U (i:Nat) {j gd:Nat} {want bb:Bool} (hi:ops[i]?=some o) (hf:Region.free .any ops listed i=true) (hr:(Region.ready .any ops listed).contains i=true) (hg:o.guard=some (j,want))
 (hj:(ops[j]?).bind (·.dst)=some gd) (hb:look gd T=some (.v (.bool bb))) (hne:(bb==want)=false)
 (hd:o.dst=some d) (hlt:Nat.blt d nt=true) (hk:WA P b ops m0 fuel (listed.setIfInBounds i true) ⟨(d,.v undef) :: T,m,nx,nt⟩ K):WA P b ops m0 (fuel+1) listed ⟨T,m,nx,nt⟩ K:=by
 intro hs ρ a w hT hC hS
 refine wpAnyH_take hi hs hf hr (λc a w h=>absurd (E3 h) (by simp)) (v:=undef) (.inr ⟨by rw [U0 hT hg hj hb,hne],Z⟩) hS ?_
 rw [hd]
 exact hk hs ρ _ w (hT.put hlt (by simp [RelV])) hC hS
theorem b3Q (i:Nat) {j gd:Nat} {want:Bool} (hi:ops[i]?=some o) (hf:Region.free .any ops listed i=true) (hr:(Region.ready .any ops listed).contains i=true) (hg:o.guard=some (j,want))
 (hj:(ops[j]?).bind (·.dst)=some gd) (hb:look gd T=some (.v undef))
 (hd:o.dst=some d) (hlt:Nat.blt d nt=true) (hk:WA P b ops m0 fuel (listed.setIfInBounds i true) ⟨(d,.v undef) :: T,m,nx,nt⟩ K):WA P b ops m0 (fuel+1) listed ⟨T,m,nx,nt⟩ K:=by
 intro hs ρ a w hT hC hS
 refine wpAnyH_take hi hs hf hr (λc a w h=>absurd (E3 h) (by simp)) (v:=undef) (.inr ⟨a1X hT hg hj hb,Z⟩) hS ?_
 rw [hd]
 exact hk hs ρ _ w (hT.put hlt (by simp [RelV])) hC hS
theorem C4 {gd:Nat} {bb:Bool} (hb:look gd S.T=some (.v (.bool bb))) (h1:bb=true→WA P b ops m0 fuel listed S K) (h2:bb=false→WA P b ops m0 fuel listed S K):WA P b ops m0 fuel listed S K:=by
 grind
def WB (P:Program) (b:Base) (ops:Array Oper) (m0:List (Nat×Option Row)) (fuel:Nat) (listed:Array Bool) (i:Nat) (S:St) (K:St→Prop):Prop :=
 Region.noSelect ops=true→∀ρ a w,RelT b.w ρ S.T S.nx S.nt a→RelC b ρ S.m S.nx w→Cls b m0 w→wpOp P ops (a1V b (nq K)) i (λa' w'=>Cls b m0 w'/\wpAnyH P .any ops (a1V b (nq K)) (Cls b m0) fuel (listed.setIfInBounds i true) a' w') a w
def AllB (P:Program) (b:Base) (ops:Array Oper) (m0:List (Nat×Option Row)) (fuel:Nat) (listed:Array Bool) (S:St) (K:St→Prop):List Nat→Prop
 | []=>True
 | i :: r=>WB P b ops m0 fuel listed i S K/\AllB P b ops m0 fuel listed S K r
theorem AllB.get:∀{rs:List Nat},AllB P b ops m0 fuel listed S K rs→∀i∈rs,WB P b ops m0 fuel listed i S K
 | [],_,i,hi=>by cases hi
 | j :: r,h,i,hi=>by
  rcases List.mem_cons.1 hi with rfl | hi
  ·exact h.1
  ·exact AllB.get h.2 i hi
theorem AllB.nil:AllB P b ops m0 fuel listed S K []:=trivial
theorem AllB.cons {rs:List Nat} (h:WB P b ops m0 fuel listed i S K) (h':AllB P b ops m0 fuel listed S K rs):AllB P b ops m0 fuel listed S K (i :: rs):=⟨h,h'⟩
theorem b6 {S:St} {rs:List Nat} (hr:Region.ready .any ops listed=rs) (hne:rs.isEmpty=false) (h:AllB P b ops m0 fuel listed S K rs):WA P b ops m0 (fuel+1) listed S K :=
 λhs ρ a w hT hC hS=>wpAnyH_all hr (by rintro rfl;cases hne) λi hi=>h.get i hi hs ρ a w hT hC hS
theorem a4g (hr:Region.ready .any ops listed=[]) (h:K S):WA P b ops m0 fuel listed S K :=
 λhs ρ a w hT hC hS=>wpAnyH_done hr ⟨ρ,S,h,hT,hC⟩ fuel
theorem b2p {K':St→Prop} {n n':Act→World→Prop} (h:o.wp P a w n (a1V b (nq K))) (hn:∀a w,n a w→n' a w):o.wp P a w n' (a1V b (nq K')):=by
 unfold Oper.wp at *
 generalize (execOp a.eval o).run P w=r at *
 cases r with
 | ok x w' =>
  cases x<;>simp only [Oper.upon] at h ⊢<;>first
   | exact hn _ _ h
   | skip
  case enter f args =>
   refine h.mono λe w'' he=>?_
   cases e with
   | returned u=>exact hn _ _ he
   | panicked c=>exact absurd (E3 he) (by simp)
   | outgrown=>obtain ⟨a,w,he⟩:=he;exact absurd (E3 he) (by simp)
  case row row args=>exact Rows.mono h λu w'' he=>hn _ _ he
 | halt x w' =>
  cases x<;>simp only [Oper.upon] at h ⊢
  assumption
theorem c7 (ms:List Nat) {S:St} (hi:ops[i]?=some o) (hg:o.guard=none)
 (h:WX P b ops o [] S (nq (λS'=>N6 b.n0 S'.m ms []=some m0/\WA P b ops m0 fuel (listed.setIfInBounds i true) S' K))):WB P b ops m0 fuel listed i S K:=by
 intro hs ρ a w hT hC hS
 unfold wpOp
 simp only [hi]
 rw [if_pos (by simp [Region.wanted,hg])]
 refine .inl (b2p (h ρ a w hT hC) ?_)
 rintro a' w' ⟨ρ',S',⟨h1,h2⟩,hT',hC'⟩
 exact ⟨hC'.cls h1,h2 hs ρ' a' w' hT' hC' (hC'.cls h1)⟩
theorem a0L (ms:List Nat) {S:St} {j gd:Nat} {want:Bool} (hi:ops[i]?=some o) (hg:o.guard=some (j,want)) (hj:(ops[j]?).bind (·.dst)=some gd) (hb:look gd S.T=some (.v (.bool want)))
 (h:WX P b ops o [] S (nq (λS'=>N6 b.n0 S'.m ms []=some m0/\WA P b ops m0 fuel (listed.setIfInBounds i true) S' K))):WB P b ops m0 fuel listed i S K:=by
 intro hs ρ a w hT hC hS
 unfold wpOp
 simp only [hi]
 rw [if_pos (by rw [U0 hT hg hj hb];simp)]
 refine .inl (b2p (h ρ a w hT hC) ?_)
 rintro a' w' ⟨ρ',S',⟨h1,h2⟩,hT',hC'⟩
 exact ⟨hC'.cls h1,h2 hs ρ' a' w' hT' hC' (hC'.cls h1)⟩
theorem d7 (n:Nat) (ms:List Nat) {id:Nat} {l:List Oper} {Q:Exit→St→Prop} (hm:P.follows .mixedOrders=true) (hs:Region.noSelect l.toArray=true) (hn:l.toArray.size=n) (hK:N6 nx m ms []=some m0)
 (h:∀r0,WA P ⟨w0.w,nx,r0,w0.ws,w0.keep,w0.kb,w0.E,w0.hE⟩ l.toArray m0 n (Array.replicate n false) ⟨T,m,nx,nt⟩ K) (hq:∀S',K S'→Q .normal S'):W P w0 (.region id l.toArray true) ⟨T,m,nx,nt⟩ Q:=by
 intro ρ a w hT hC
 refine wp_region_held (S:=Cls ⟨w0.w,nx,ρ,w0.ws,w0.keep,w0.kb,w0.E,w0.hE⟩ m0) hm ?_
 have hC1:RelC ⟨w0.w,nx,ρ,w0.ws,w0.keep,w0.kb,w0.E,w0.hE⟩ ρ m nx w.drew:=let h:=hC.drew;⟨h.rows,h.apart,h.below,⟨Nat.le_refl _,λ_ _=>Z⟩,h.kept,h.inner⟩
 subst hn
 have h1:=h ρ hs ρ a w.drew hT hC1 (RelC.cls (ms:=ms) hC1 hK)
 refine mono (λa' w' hp=>?_) _ _ _ _ h1
 obtain ⟨ρ',S',h2,h3,h4⟩:=hp
 exact ⟨ρ',S',hq S' h2,h3,h4.rows,h4.apart,h4.below,⟨Nat.le_trans hC.pin.1 h4.pin.1,λi hi=>(h4.pin.2 i (Nat.lt_of_lt_of_le hi hC.pin.1)).trans (hC.pin.2 i hi)⟩,h4.kept,h4.inner⟩
where
 mono {b:Base} {S:World→Prop} {Q':Exit→Act→World→Prop} {ops:Array Oper} {K:St→Prop} (h:∀a w,a1V b (nq K) .normal a w→Q' .normal a w):∀(fuel:Nat) (listed:Array Bool) (a:Act) (w:World),wpAnyH P .any ops (a1V b (nq K)) S fuel listed a w→wpAnyH P .any ops Q' S fuel listed a w
  | 0,_,_,_,hh=>⟨hh.1,h _ _ hh.2⟩
  | fuel+1,listed,a,w,hh=>⟨λh0=>h _ _ (hh.1 h0),λi hi=>by
   have h3:=hh.2 i hi
   unfold wpOp at h3 ⊢
   cases ho:ops[i]? with
   | none=>simp only [ho] at h3;exact ⟨h3.1,mono h fuel _ _ _ h3.2⟩
   | some o =>
    simp only [ho] at h3 ⊢
    split
    ·rename_i hw
     rw [if_pos hw] at h3
     rcases h3 with h3 | ⟨_,a',w',h3⟩
     ·refine .inl (wp_any h3 λa w h4=>⟨h4.1,mono h fuel _ _ _ h4.2⟩)
     ·exact absurd (E3 h3) (by simp)
    ·rename_i hw
     rw [if_neg hw] at h3
     exact ⟨h3.1,mono h fuel _ _ _ h3.2⟩⟩
 wp_any {b:Base} {o:Oper} {K:St→Prop} {a:Act} {w:World} {n n':Act→World→Prop} {Q':Exit→Act→World→Prop} (h:o.wp P a w n (a1V b (nq K))) (hn:∀a w,n a w→n' a w):o.wp P a w n' Q':=by
  unfold Oper.wp at *
  generalize (execOp a.eval o).run P w=r at *
  cases r with
  | ok x w' =>
   cases x<;>simp only [Oper.upon] at h ⊢<;>first
    | exact hn _ _ h
    | skip
   case enter f args =>
    refine h.mono λe w'' he=>?_
    cases e with
    | returned u=>exact hn _ _ he
    | panicked c=>exact absurd (E3 he) (by simp)
    | outgrown=>obtain ⟨a,w,he⟩:=he;exact absurd (E3 he) (by simp)
   case row row args=>exact Rows.mono h λu w'' he=>hn _ _ he
  | halt x w' =>
   cases x<;>simp only [Oper.upon] at h ⊢
   case panic u=>exact absurd (E3 h) (by simp)
def Meet (ts ms:List Nat) (T1:List (Nat×AV)) (M1:List (Nat×Option Row)) (nx nt:Nat) (S:St):Prop :=
 a6n nx S.T ts []=some T1/\N6 nx S.m ms []=some M1/\S.nx=nx/\S.nt=nt
theorem Meet.mk (h1:a6n nx S.T ts []=some T1) (h2:N6 nx S.m ms []=some M1) (h3:S.nx=nx) (h4:S.nt=nt):Meet ts ms T1 M1 nx nt S:=⟨h1,h2,h3,h4⟩
theorem Meet.use {c:Code} {Q:Exit→St→Prop} (h:Meet ts ms T1 M1 nx nt S) (hk:W P w0 c ⟨T1,M1,nx,nt⟩ Q):W P w0 c S Q:=by
 obtain ⟨h1,h2,h3,h4⟩:=h
 exact c0P (S':=⟨T1,M1,nx,nt⟩) ⟨h4.symm,a17 h1 trivial,a0g h2 trivial⟩ h3.symm hk
theorem v8 (ts ms2:List Nat) (nx2 n:Nat) (ms:List Nat) {id:Nat} {l:List Oper} {y:Code} {Q Q':Exit→St→Prop} {T1:List (Nat×AV)} {M1:List (Nat×Option Row)} (hm:P.follows .mixedOrders=true) (hs:Region.noSelect l.toArray=true) (hn:l.toArray.size=n) (hK:N6 nx m ms []=some m0)
 (hq:∀S',W P w0 y S' Q'→Q .normal S') (h:∀r0,WA P ⟨w0.w,nx,r0,w0.ws,w0.keep,w0.kb,w0.E,w0.hE⟩ l.toArray m0 n (Array.replicate n false) ⟨T,m,nx,nt⟩ (Meet ts ms2 T1 M1 nx2 nt)) (h2:W P w0 y ⟨T1,M1,nx2,nt⟩ Q'):W P w0 (.region id l.toArray true) ⟨T,m,nx,nt⟩ Q :=
 d7 n ms hm hs hn hK h λS' hS=>hq S' (hS.use h2)
end
def evL (T:List (Nat×AV)):List Operand→List AV→Option (List AV)
 | [],acc=>a2x acc []
 | x :: xs,acc=>match ev T x with
  | some av=>evL T xs (av :: acc)
  | none=>none
mutual
def a3I (ids:List Nat):AV→AV
 | .own i=>.own (ids.getD i 0)
 | .sub i sz a n=>.sub (ids.getD i 0) sz a n
 | .ptr i o=>.ptr (ids.getD i 0) o
 | .rpt i sz a k=>.rpt (ids.getD i 0) sz a k
 | .agg cs=>.agg (renAs ids cs)
 | .tup cs=>.tup (renAs ids cs)
 | .fnc f cs=>.fnc f (renAs ids cs)
 | .v x=>.v x
 | .lst sz ys=>.lst sz ys
 | .pin z sz ys=>.pin z sz ys
 | .ept cs=>.ept cs
 | .nst z sz yss=>.nst z sz yss
 | .eptN cs=>.eptN (renAs ids cs)
 | .any=>.any
def renAs (ids:List Nat):List AV→List AV
 | []=>[]
 | c :: cs=>a3I ids c :: renAs ids cs
end
mutual
theorem RelV.ren {w0:World} {ρ:Nat→Value} {nx k:Nat} {ids:List Nat}:∀(x:AV) {y:Value},v2 k x=true→RelV w0 ρ nx (a3I ids x) y→RelV w0 (λj=>ρ (ids.getD j 0)) k x y
 | .v _,_,_,h=>by simpa only [a3I,RelV] using h
 | .lst _ _,_,_,h=>by simpa only [a3I,RelV] using h
 | .pin _ _ _,_,_,h=>by simpa only [a3I,RelV] using h
 | .ept _,_,_,h=>by simpa only [a3I,RelV] using h
 | .own i,_,hm,h=>by simp only [v2] at hm;simp only [a3I,RelV] at h ⊢;exact ⟨Nat.le_of_ble_eq_true hm,h.2⟩
 | .sub i _ _ _,_,hm,h=>by simp only [v2] at hm;simp only [a3I,RelV] at h ⊢;exact ⟨Nat.le_of_ble_eq_true hm,h.2⟩
 | .ptr i _,_,hm,h=>by simp only [v2] at hm;simp only [a3I,RelV] at h ⊢;exact ⟨Nat.le_of_ble_eq_true hm,h.2⟩
 | .rpt i _ _ _,_,hm,h=>by simp only [v2] at hm;simp only [a3I,RelV] at h ⊢;exact ⟨Nat.le_of_ble_eq_true hm,h.2⟩
 | .agg cs,_,hm,h=>by
  simp only [v2] at hm
  simp only [a3I,RelV] at h ⊢
  obtain ⟨ys,e,h⟩:=h
  exact ⟨ys,e,RelVs.ren cs hm h⟩
 | .tup cs,_,hm,h=>by
  simp only [v2] at hm
  simp only [a3I,RelV] at h ⊢
  obtain ⟨ys,e,h⟩:=h
  exact ⟨ys,e,RelVs.ren cs hm h⟩
 | .fnc _ cs,_,hm,h=>by
  simp only [v2] at hm
  simp only [a3I,RelV] at h ⊢
  obtain ⟨ys,e,h⟩:=h
  exact ⟨ys,e,RelVs.ren cs hm h⟩
 | .nst _ _ _,_,_,h=>by simpa only [a3I,RelV] using h
 | .any,_,_,_=>by simp only [RelV]
 | .eptN cs,_,hm,h=>by
  simp only [v2] at hm
  simp only [a3I,RelV] at h ⊢
  obtain ⟨ad,us,e,hb,h,h2⟩:=h
  exact ⟨ad,us,e,hb,RelVs.ren cs hm h,h2⟩
theorem RelVs.ren {w0:World} {ρ:Nat→Value} {nx k:Nat} {ids:List Nat}:∀(x:List AV) {y:List Value},F2 k x=true→RelVs w0 ρ nx (renAs ids x) y→RelVs w0 (λj=>ρ (ids.getD j 0)) k x y
 | [],_,_,h=>by simpa only [renAs,RelVs] using h
 | c :: cs,_,hm,h=>by
  simp only [F2,Bool.and_eq_true] at hm
  simp only [renAs,RelVs] at h ⊢
  obtain ⟨y,ys,e,h1,h2⟩:=h
  exact ⟨y,ys,e,RelV.ren c hm.1 h1,RelVs.ren cs hm.2 h2⟩
end
theorem RelVs.norefs {nx:Nat} (h0:F2 0 cs=true) {y:List Value} (h:RelVs w0 ρ nx cs y):RelVs w0 ρ' nx' cs y :=
 RelVs.mono (Nat.zero_le _) (λi hi=>by omega) cs (RelVs.less cs h0 h)
def a8k:List Row→Nat→List (Nat×Option Row)
 | [],_=>[]
 | r :: rs,k=>(k,some r) :: a8k rs (Nat.succ k)
theorem b0x:∀{rs:List Row} {k j:Nat} {row:Row},mem (a8k rs k) j=some row→k<=j/\rs[j - k]?=some row
 | [],k,j,row,h=>by simp [a8k,mem,look] at h
 | r :: rs,k,j,row,h=>by
  simp only [a8k] at h
  by_cases e:k=j
  ·subst e;rw [i8] at h;cases h;simp
  ·rw [d1 e] at h
   obtain ⟨h1,h2⟩:=b0x h
   grind
inductive RowsIn (m:List (Nat×Option Row)):List Nat→List Row→Prop
 | nil:RowsIn m [] []
 | cons {id:Nat} {ids:List Nat} {r:Row} {rs:List Row} (h:mem m id=some r) (h':RowsIn m ids rs):RowsIn m (id :: ids) (r :: rs)
theorem RowsIn.len:∀{ids:List Nat} {rs:List Row},RowsIn m ids rs→ids.length=rs.length
 | _,_,.nil=>rfl
 | _,_,.cons _ h=>by simp [h.len]
theorem RowsIn.get:∀{ids:List Nat} {rs:List Row},RowsIn m ids rs→∀{j:Nat} {r:Row},rs[j]?=some r→∃id,ids[j]?=some id/\mem m id=some r
 | _,_,.nil,_,_,h=>by simp at h
 | _,_,.cons h h',j,r,hj=>by
  match j with
  | 0=>simp at hj;subst hj;exact ⟨_,Z,h⟩
  | j+1=>simpa using h'.get (by simpa using hj)
def a1s:List Row→Bool
 | []=>true
 | r :: rs=>rowRefs 0 r && a1s rs
theorem a4V:∀{rs:List Row},a1s rs=true→∀{j:Nat} {r:Row},rs[j]?=some r→rowRefs 0 r=true
 | [],_,_,_,h=>by simp at h
 | r :: rs,h,j,r',hj=>by
  simp only [a1s,Bool.and_eq_true] at h
  match j with
  | 0=>simp at hj;subst hj;exact h.1
  | j+1=>exact a4V h.2 (by simpa using hj)
def aft:List Nat→List (Option Row)→List (Nat×Option Row)→List (Nat×Option Row)
 | id :: ids,r :: rs,m=>(id,r) :: aft ids rs m
 | _,_,m=>m
theorem a18:∀{ids:List Nat} {rs:List (Option Row)},ids.length=rs.length→∀{id:Nat} {r:Row},mem (aft ids rs m) id=some r→(∃j:Nat,ids[j]?=some id/\rs[j]?=some (some r))∨(id∉ids/\mem m id=some r)
 | [],[],_,id,r,h=>.inr ⟨by simp,h⟩
 | [],_ :: _,hl,_,_,_=>by simp at hl
 | _ :: _,[],hl,_,_,_=>by simp at hl
 | i :: ids,q :: rs,hl,id,r,h=>by
  simp only [aft] at h
  by_cases e:i=id
  ·subst e;rw [i8] at h;subst h;exact .inl ⟨0,Z,Z⟩
  ·rw [d1 e] at h
   rcases a18 (by simpa using hl) h with ⟨j,h1,h2⟩ | ⟨h1,h2⟩
   ·exact .inl ⟨j+1,by simpa using h1,by simpa using h2⟩
   grind
structure CtrM (P:Program) [Env P] (f:FuncId) (args:List AV) (rows:List Row) (res:Res) (after:List (Option Row)):Prop where
 callable:Callable P f
 calls:∀(w0:Base) [EnvAt P w0] ρ m nx (ids:List Nat) w vs,RowsIn m ids rows→nodupB ids=true→RelC w0 ρ m nx w→RelVs w0.w ρ nx (renAs ids args) vs →
  Calls P f vs.toArray w (λen w'=>∃v ρ',en=.returned v/\(∀i,i < nx→ρ' i=ρ i)/\nx<=(instR res nx (aft ids after m)).2.2/\RelV w0.w ρ' (instR res nx (aft ids after m)).2.2 (instR res nx (aft ids after m)).1 v /\
   RelC w0 ρ' (instR res nx (aft ids after m)).2.1 (instR res nx (aft ids after m)).2.2 w')
def b2q:List (Option Row)→Nat→Bool
 | [],_=>false
 | some _ :: _,0=>true
 | none :: _,0=>false
 | _ :: rs,n+1=>b2q rs n
theorem a8E:∀{rs:List (Option Row)} {j:Nat} {r:Row},rs[j]?=some (some r)→b2q rs j=true
 | [],_,_,h=>by simp at h
 | q :: rs,0,r,h=>by simp at h;subst h;rfl
 | q :: rs,j+1,r,h=>by cases q<;>exact a8E (rs:=rs) (by simpa using h)
def a0M (after:List (Option Row)):List AV→Bool
 | []=>true
 | .own i :: r=>!b2q after i && a0M after r
 | _ :: r=>a0M after r
theorem a8F {after:List (Option Row)}:∀{l:List AV},a0M after l=true→∀{i:Nat},.own i∈l→b2q after i=false
 | [],_,_,h=>by simp at h
 | x :: l,hd,i,h=>by
  rcases List.mem_cons.1 h with e | h
  ·subst e;simp only [a0M,Bool.and_eq_true,Bool.not_eq_true'] at hd;exact hd.1
  ·have h2:a0M after l=true:=by
    cases x<;>simp only [a0M] at hd
    case own j=>simp only [Bool.and_eq_true] at hd;exact hd.2
    all_goals exact hd
   exact a8F h2 h
inductive AftOK (m:List (Nat×Option Row)):Nat→List (Option Row)→Prop
 | nil {k:Nat}:AftOK m k []
 | gone {k:Nat} {rs:List (Option Row)} (h:AftOK m (Nat.succ k) rs):AftOK m k (none :: rs)
 | stays {k:Nat} {r r':Row} {rs:List (Option Row)} (h1:mem m k=some r') (e:r'=r) (h2:rowRefs 0 r=true) (h:AftOK m (Nat.succ k) rs):AftOK m k (some r :: rs)
theorem AftOK.get:∀{k:Nat} {rs:List (Option Row)},AftOK m k rs→∀{j:Nat} {r:Row},rs[j]?=some (some r)→mem m (k+j)=some r/\rowRefs 0 r=true
 | _,_,.nil,_,_,h=>by simp at h
 | k,_,.gone h,j,r,hj=>by
  match j with
  | 0=>simp at hj
  | j+1=>have:=h.get (j:=j) (by simpa using hj);rwa [show k.succ+j=k+(j+1) by omega] at this
 | k,_,.stays h1 e h2 h,j,r,hj=>by
  match j with
  | 0=>simp at hj;subst hj;subst e;exact ⟨h1,h2⟩
  | j+1=>have:=h.get (j:=j) (by simpa using hj);rwa [show k.succ+j=k+(j+1) by omega] at this
def b0y (tb:List (Nat×TyI)) (rs:List ResultVar) (res:Res) (after:List (Option Row)):Exit→St→Prop
 | .ret,S=>∃avs,T2 tb S rs []=some avs/\ResOK S.m avs res/\AftOK S.m 0 after/\a0M after (a15 res avs)=true
 | .normal,S=>∃avs,T2 tb S rs []=some avs/\ResOK S.m avs res/\AftOK S.m 0 after/\a0M after (a15 res avs)=true
 | _,_=>False
section
variable {P:Program} [Env P] {w0:Base} {ops:Array Oper} {tb:List (Nat×TyI)} {o:Oper} {rest:List Oper} {T:List (Nat×AV)} {m m':List (Nat×Option Row)} {nx nt d:Nat} {r:AV} {Q:Exit→St→Prop} {after:List (Option Row)}
theorem u6 {x:AV} {c:RC} (h:T2 tb S rs []=some [x]) (hx:RCOK S.m x c) (hd:a0M after [x]=true) (ha:AftOK S.m 0 after):b0y tb rs (.one c) after .ret S:=⟨_,h,⟨x,Z,hx⟩,ha,hd⟩
theorem a3r {cs:List RC} (h:T2 tb S rs []=some xs) (hl:Nat.beq xs.length 1=false) (hn:nodupB (P1 xs [])=true) (ho:b0t xs=true) (hx:RCOKs S.m xs cs) (hd:a0M after xs=true) (ha:AftOK S.m 0 after):b0y tb rs (.many cs) after .ret S:=⟨_,h,⟨hx,hl,hn,ho⟩,ha,hd⟩
theorem p9 {ls:List AV} {single:Bool} {sh:List (Option Nat)} {cs:List RC} (h:T2 tb S rs []=some xs) (hl:Nat.beq xs.length 1=single) (hf:flA sh xs []=some ls) (hn:nodupB (P1 ls [])=true) (hx:RCOKs S.m ls cs) (hd:a0M after ls=true) (ha:AftOK S.m 0 after):b0y tb rs (.shp single sh cs) after .ret S:=⟨_,h,⟨ls,hf,hx,hl,hn⟩,ha,by simpa only [a15,hf] using hd⟩
theorem a0h {k:Nat}:∀{l:List Nat},k∈l→has k l=true
 | [],h=>by cases h
 | x :: r,h=>by
  rcases List.mem_cons.1 h with rfl | h
  ·simp [has,Nat.beq_refl]
  ·simp [has,a0h h]
theorem a4h:∀{ids:List Nat},nodupB ids=true→∀{j j' id:Nat},ids[j]?=some id→ids[j']?=some id→j=j'
 | [],_,_,_,_,h,_=>by simp at h
 | x :: r,hn,j,j',id,h,h'=>by
  simp only [nodupB,Bool.and_eq_true,Bool.not_eq_true'] at hn
  match j,j' with
  | 0,0=>rfl
  | 0,j'+1 =>
   grind [a0h]
  | j+1,0 =>
   grind [a0h]
  | j+1,j'+1 =>
   have:=a4h hn.2 (j:=j) (j':=j') (id:=id) (by simpa using h) (by simpa using h')
   rw [this]
theorem RowRel.move {id':Nat} {row:Row} (h:RowRel w0.w ρ nx w id row) (hf:rowRefs 0 row=true) (he:ρ' id'=ρ id):RowRel w0.w ρ' nx' w id' row :=
 h.to he (λcs e l hl=>by subst e;exact RelVs.norefs (w0:=w0) hf hl) λe sz yss op e' q hq _=>by subst e';exact absurd (a4a hf q hq) (Nat.not_lt_zero _)
def KeepIs (ρ:Nat→Value) (ids:List Nat) (rows:List Row) (w:World) (K:Nat→Prop):Prop:=∀c,K c↔c < w.heap.size/\∀(j:Nat) id r,ids[j]?=some id→rows[j]?=some r→¬ O1 w (ρ id) r c
section
variable {ρ ρ':Nat→Value} {rows:List Row} {ids:List Nat} {nx2:Nat} {m2:List (Nat×Option Row)} {w w':World} {b:Base}
theorem KeepIs.other (hkeep:KeepIs ρ ids rows w b.keep) (hC:RelC w0 ρ m nx w) (hin:RowsIn m ids rows) {id:Nat} {r:Row} (hm:mem m id=some r) (hid:id∉ids) {c:Nat} (hf:O1 w (ρ id) r c):b.keep c:=by
 refine (hkeep c).2 ⟨hC.foot_lt hm hf,λj id' r' hj hr' hb=>?_⟩
 obtain ⟨id'',h3,h4⟩:=hin.get hr'
 rw [hj] at h3;cases h3
 exact hC.foot_apart h4 hm (λe=>hid (e▸List.mem_of_getElem? hj)) hb hf
theorem KeepIs.outer (hkeep:KeepIs ρ ids rows w b.keep) (hC:RelC w0 ρ m nx w) (hin:RowsIn m ids rows) {c:Nat} (hc:w0.keep c):b.keep c:=by
 refine (hkeep c).2 ⟨Nat.lt_of_lt_of_le (w0.kb c hc) hC.kept.1,λj id r hj hr hb=>?_⟩
 obtain ⟨id',h1,h2⟩:=hin.get hr
 rw [hj] at h1;cases h1
 rcases hb with hb | ⟨p,hb⟩
 ·exact hC.kept.2.2 id r h2 c hb hc
 ·exact (hC.inner id r h2 p c hb).1 hc
theorem KeepIs.back (hkeep:KeepIs ρ ids rows w b.keep) (hC:RelC w0 ρ m nx w) (hin:RowsIn m ids rows) (hws:b.ws=w) (hC':RelC b ρ' m2 nx2 w') {id:Nat} {r:Row} (hm:mem m id=some r) (hid:id∉ids):∀p,inn w' (ρ id) r p=inn w (ρ id) r p:=by
 refine U2 λc hc=>?_
 have:=hC'.kept.2.1 c (hkeep.other hC hin hm hid (.inl hc))
 rwa [hws] at this
theorem b1x (hC:RelC w0 ρ m nx w) (hin:RowsIn m ids rows) (hnd:nodupB ids=true) (hl:rows.length=after.length)
 (hbw:b.w=w0.w) (hws:b.ws=w) (hkeep:KeepIs ρ ids rows w b.keep) (hr0:∀(j:Nat) id,ids[j]?=some id→ρ' j=ρ id)
 (hC':RelC b ρ' m2 nx2 w') (ha:AftOK m2 0 after):RelC w0 ρ (aft ids after m) nx w':=by
 have hlen:ids.length=after.length:=hin.len.trans hl
 have was:∀id r,mem (aft ids after m) id=some r→∃r',mem m id=some r':=λid r hr=>by
  rcases a18 hlen hr with ⟨j,h1,h2⟩ | ⟨_,h2⟩
  ·have:j < rows.length:=by rw [← hin.len];exact (List.getElem?_eq_some_iff.1 h1).1
   obtain ⟨id',h3,h4⟩:=hin.get (List.getElem?_eq_getElem this)
   grind
  ·exact ⟨_,h2⟩
 have hsz:w.heap.size<=w'.heap.size:=by have:=hC'.kept.1;rwa [hws] at this
 have same:∀id r,mem m id=some r→id∉ids→∀c,O1 w (ρ id) r c→w'.heap[c]?=w.heap[c]?:=λid r hm hid c hf=>by
  have:=hC'.kept.2.1 c (hkeep.other hC hin hm hid hf)
  rwa [hws] at this
 refine ⟨λid r hr=>?_,λi i' r r' hr hr' hne c hc=>?_,by have:=hC'.below;rwa [hbw] at this,hC.pin,⟨Nat.le_trans hC.kept.1 hsz,λc hc=>?_,λid r hr c hc=>?_⟩,λid r hr p c hc=>?_⟩
 ·rcases a18 hlen hr with ⟨j,h1,h2⟩ | ⟨h1,h2⟩
  ·obtain ⟨r',h3⟩:=was id r hr
   refine ⟨(hC.rows id r' h3).1,?_⟩
   obtain ⟨h4,h5⟩:=ha.get h2
   have h6:=(hC'.rows _ _ h4).2
   rw [hbw] at h6
   exact h6.move h5 (by rw [Nat.zero_add];exact (hr0 j id h1).symm)
  ·obtain ⟨g1,g2⟩:=hC.rows id r h2
   exact ⟨g1,g2.frame (λc hc=>same id r h2 h1 c (.inl hc)) λp c hc=>same id r h2 h1 c (.inr ⟨p,hc⟩)⟩
 ·obtain ⟨r1,h1⟩:=was i r hr
  obtain ⟨r2,h2⟩:=was i' r' hr'
  exact hC.apart i i' r1 r2 h1 h2 hne c hc
 ·have:=hC'.kept.2.1 c (hkeep.outer hC hin hc)
  rw [hws] at this
  exact this.trans (hC.kept.2.1 c hc)
 ·obtain ⟨r',h1⟩:=was id r hr
  exact hC.kept.2.2 id r' h1 c hc
 ·rcases a18 hlen hr with ⟨j,h1,h2⟩ | ⟨h1,h2⟩
  ·obtain ⟨h4,h5⟩:=ha.get h2
   rw [Nat.zero_add] at h4
   rw [← hr0 j id h1] at hc
   obtain ⟨g1,g2,g3,g4⟩:=hC'.inner j r h4 p c hc
   rw [hbw] at g2
   refine ⟨λhk=>g1 (hkeep.outer hC hin hk),g2,g3,λid' r' hr'=>?_⟩
   rcases a18 hlen hr' with ⟨j',q1,q2⟩ | ⟨q1,q2⟩
   ·obtain ⟨q3,_⟩:=ha.get q2
    grind
   ·refine ⟨λhb=>g1 (hkeep.other hC hin q2 q1 (.inl hb)),λp' hp'=>?_⟩
    rw [hkeep.back hC hin hws hC' q2 q1] at hp'
    exact absurd (hkeep.other hC hin q2 q1 (.inr ⟨p',hp'⟩)) g1
  ·rw [hkeep.back hC hin hws hC' h2 h1] at hc
   obtain ⟨g1,g2,g3,g4⟩:=hC.inner id r h2 p c hc
   refine ⟨g1,g2,Nat.lt_of_lt_of_le g3 hsz,λid' r' hr'=>?_⟩
   rcases a18 hlen hr' with ⟨j',q1,q2⟩ | ⟨q1,q2⟩
   ·obtain ⟨r1,q5⟩:=was id' r' hr'
    refine ⟨(g4 id' r1 q5).1,λp' hp'=>?_⟩
    obtain ⟨q3,_⟩:=ha.get q2
    rw [Nat.zero_add] at q3
    rw [← hr0 j' id' q1] at hp'
    exact absurd (hkeep.other hC hin h2 h1 (.inr ⟨p,hc⟩)) (hC'.inner j' r' q3 p' c hp').1
   ·exact ⟨(g4 id' r' q2).1,λp' hp'=>(g4 id' r' q2).2 p' (by rwa [hkeep.back hC hin hws hC' q2 q1] at hp')⟩
theorem a8G (hC:RelC w0 ρ m nx w) (hin:RowsIn m ids rows) (hnd:nodupB ids=true) (hl:rows.length=after.length)
 (hbw:b.w=w0.w) (hws:b.ws=w) (hkeep:KeepIs ρ ids rows w b.keep) (hr0:∀(j:Nat) id,ids[j]?=some id→ρ' j=ρ id)
 (hC':RelC b ρ' m2 nx2 w') (ha:AftOK m2 0 after) {avs:List AV} {res:Res} (h2:ResOK m2 avs res) (h4:a0M after (a15 res avs)=true) {ys:List Value} (e2:RelVs b.w ρ' nx2 avs ys) :
 ∃ρ2,(∀i,i < nx→ρ2 i=ρ i)/\nx<=(instR res nx (aft ids after m)).2.2/\RelV w0.w ρ2 (instR res nx (aft ids after m)).2.2 (instR res nx (aft ids after m)).1 (if h:ys.toArray.size=1 then ys.toArray[0] else .tuple ys.toArray)/\RelC w0 ρ2 (instR res nx (aft ids after m)).2.1 (instR res nx (aft ids after m)).2.2 w':=by
 have hlen2:ids.length=after.length:=hin.len.trans hl
 have hA:=b1x hC hin hnd hl hbw hws hkeep hr0 hC' ha
 refine a7q (B:=w0.w.heap.size) hA (Nat.le_refl _) ?_
 have hp:=ResOK.parts hC' h2 e2
 rw [hbw] at hp
 refine hp.mono λrs ls _ hK c hc=>?_
 obtain ⟨i,row,hi,hm,hf⟩:=hK c hc
 have hnk:¬ b.keep c:=by
  rcases hf with hf | ⟨p,hf⟩
  ·exact hC'.kept.2.2 i row hm c hf
  ·exact (hC'.inner i row hm p c hf).1
 refine ⟨λid r hr hb=>?_,λhk=>hnk (hkeep.outer hC hin hk)⟩
 rcases a18 hlen2 hr with ⟨j,g1,g2⟩ | ⟨g1,g2⟩
 ·have hne:i≠j:=λe=>by
   have:=a8F h4 hi
   rw [e,a8E g2] at this
   cases this
  obtain ⟨g3,_⟩:=ha.get g2
  rw [Nat.zero_add] at g3
  rw [← hr0 j id g1] at hb
  exact hC'.foot_apart hm g3 hne hf hb
 ·refine hnk (hkeep.other hC hin g2 g1 ?_)
  rcases hb with hb | ⟨p,hb⟩
  ·exact .inl hb
  ·exact .inr ⟨p,by rwa [hkeep.back hC hin hws hC' g2 g1] at hb⟩
theorem a6q (hC:RelC w0 ρ m nx w) (hin:RowsIn m ids rows) (hnd:nodupB ids=true) (hfr:a1s rows=true) {k:Nat} (hk:rows.length=k) (hbw:b.w=w0.w) (hws:b.ws=w) (hn0:b.n0=k) (hr0:b.r0=λj=>ρ (ids.getD j 0)) (hkeep:KeepIs ρ ids rows w b.keep) :
 RelC b (λj=>ρ (ids.getD j 0)) (a8k rows 0) k w:=by
 have hrow:∀j row,mem (a8k rows 0) j=some row→∃id,ids[j]?=some id/\mem m id=some row/\ρ (ids.getD j 0)=ρ id/\rows[j]?=some row:=λj row hm=>by
  obtain ⟨_,h2⟩:=b0x hm
  rw [Nat.sub_zero] at h2
  obtain ⟨id,h3,h4⟩:=hin.get h2
  grind
 refine ⟨λj row hm=>?_,λj j' row row' hm hm' hne c hc=>?_,by rw [hbw];exact hC.below,⟨by rw [hn0];exact Nat.le_refl _,λi _=>by rw [hr0]⟩,⟨by rw [hws];exact Nat.le_refl _,λc _=>by rw [hws],λj row hm c hc hkc=>?_⟩,λj row hm p c hc=>?_⟩
 ·obtain ⟨id,h1,h2,h3,h4⟩:=hrow j row hm
  refine ⟨by rw [← hk];exact (List.getElem?_eq_some_iff.1 h4).1,?_⟩
  rw [hbw]
  exact RowRel.move (w0:=w0) (hC.rows id row h2).2 (a4V hfr h4) h3
 ·obtain ⟨id,h1,h2,h3,_⟩:=hrow j row hm
  obtain ⟨id',h1',h2',h3',_⟩:=hrow j' row' hm'
  simp only [h3] at hc
  simp only [h3']
  exact hC.apart id id' _ _ h2 h2' (λe=>hne (a4h hnd h1 (e▸h1'))) c hc
 ·obtain ⟨id,h1,h2,h3,h4⟩:=hrow j row hm
  simp only [h3] at hc
  exact ((hkeep c).1 hkc).2 j id row h1 h4 (.inl hc)
 ·obtain ⟨id,h1,h2,h3,h4⟩:=hrow j row hm
  simp only [h3] at hc
  obtain ⟨g1,g2,g3,g4⟩:=hC.inner id row h2 p c hc
  refine ⟨λhkc=>((hkeep c).1 hkc).2 j id row h1 h4 (.inr ⟨p,hc⟩),by rw [hbw];exact g2,g3,λj' row' hm'=>?_⟩
  obtain ⟨id',h1',h2',h3',_⟩:=hrow j' row' hm'
  simp only [h3']
  refine ⟨(g4 id' row' h2').1,λp' hp'=>?_⟩
  obtain ⟨e1,e2⟩:=(g4 id' row' h2').2 p' hp'
  subst e1
  exact ⟨a4h hnd h1 h1',e2⟩
theorem a4i {n k:Nat} {args:List AV} {vs:List Value} {fn:Func} (hrel:RelVs b.w ρ k args vs) (hlen:args.length<=n) (hn:fn.ntmps=n):RelT b ρ (a4T args 0) k n { tmps:=vs.toArray++Array.replicate (fn.ntmps - vs.toArray.size) undef,defers:=[] }:=by
 have hvl:=RelVs.length _ hrel
 refine ⟨λt x hx=>?_,by simp [hn];omega,Z⟩
 obtain ⟨u,_,h2,h3⟩:=a3q hrel t x hx
 have hlt:t < vs.length:=by
  grind
 have:(vs.toArray++Array.replicate (fn.ntmps - vs.toArray.size) undef).getD t undef=u:=by
  rw [Array.getD_eq_getD_getElem?,Array.getElem?_append_left (by simpa using hlt)]
  grind
 rw [this]
 exact h3
end
theorem CtrM.of (G:Good P tb) {f:FuncId} {fn:Func} {c:Code} {args:List AV} {rows:List Row} {res:Res} {l:List ResultVar} {n k:Nat} (hf:P.funcs[f]?=some fn) (hb:fn.body=some c) (hname:(fn.name == "runtime.NumGoroutine")=false) (hl:fn.results=l.toArray) (hn:fn.ntmps=n)
 (hlen:Nat.ble args.length n=true) (hk:rows.length=k) (haf:rows.length=after.length) (hrefs:F2 k args=true) (hfr:a1s rows=true)
 (h:∀b:Base,[EnvAt P b]→b.n0=k→W P b c ⟨a4T args 0,a8k rows 0,k,n⟩ (b0y tb l res after)):CtrM P f args rows res after:=by
 refine ⟨⟨fn,hf,hname,by rw [hb];rfl⟩,λw0 hw0 ρ m nx ids w vs hin hnd hC hrel=>?_⟩
 have hidl:ids.length=k:=hin.len.trans hk
 let ρc:Nat→Value:=λj=>ρ (ids.getD j 0)
 have hrel':RelVs w0.w ρc k args vs:=RelVs.ren args hrefs hrel
 have hlen':args.length<=n:=Nat.le_of_ble_eq_true hlen
 refine calls_of_wp hf hb ?_
 let b:Base:=⟨w0.w,k,ρc,w,λc=>c < w.heap.size/\∀(j:Nat) id r,ids[j]?=some id→rows[j]?=some r→¬ O1 w (ρ id) r c,λc hc=>hc.1,w0.E,w0.hE⟩
 have hen:EnvAt P b:=⟨hw0.e⟩
 have hkp:KeepIs ρ ids rows w b.keep:=λ_=>Iff.rfl
 have hCb:RelC b ρc (a8k rows 0) k w:=a6q (b:=b) hC hin hnd hfr hk Z Z Z Z hkp
 have hT:=a4i (b:=b) (fn:=fn) hrel' hlen' hn
 refine wp_mono (h b Z ρc _ w hT hCb) ?_
 have fin:∀(ρ':Nat→Value) (S:St) (a:Act) (w':World),(∃avs,T2 tb S l []=some avs/\ResOK S.m avs res/\AftOK S.m 0 after/\a0M after (a15 res avs)=true)→RelT b ρ' S.T S.nx S.nt a→RelC b ρ' S.m S.nx w' →
  a.defers=[]/\∃v,(results fn a.tmps).run P w'=.ok v w'/\∃u ρ',Ending.returned v=.returned u/\(∀i,i < nx→ρ' i=ρ i)/\nx<=(instR res nx (aft ids after m)).2.2/\RelV w0.w ρ' (instR res nx (aft ids after m)).2.2 (instR res nx (aft ids after m)).1 u /\
  RelC w0 ρ' (instR res nx (aft ids after m)).2.1 (instR res nx (aft ids after m)).2.2 w':=by
  intro ρ' S a w' ⟨avs,h1,h2,h3,h4⟩ hT' hC'
  obtain ⟨ys,avs',e1,e2,e3⟩:=a0f G hT' hC' h1
  simp at e1
  subst e1
  have hpin:∀j id,ids[j]?=some id→ρ' j=ρ id:=λj id hj=>by
   have hj':j < k:=by rw [← hidl];exact (List.getElem?_eq_some_iff.1 hj).1
   rw [hC'.pin.2 j hj']
   grind
  obtain ⟨ρ2,q1,q2,q3,q4⟩:=a8G (b:=b) hC hin hnd haf Z Z hkp hpin hC' h3 h2 h4 e2
  exact ⟨hT'.defers,_,V3 hl e3,_,ρ2,Z,q1,q2,q3,q4⟩
 rintro e a w' ⟨ρ',S,hq,hT',hC'⟩
 cases e<;>simp only [b0y] at hq
 case normal=>exact fin ρ' S a w' hq hT' hC'
 case ret=>exact fin ρ' S a w' hq hT' hC'
theorem a68 (hT:RelT w0 ρ T nx nt a):∀{xs:List Operand} {acc as:List AV},evL T xs acc=some as→∃bs,as=acc.reverse++bs/\RelVs w0 ρ nx bs (xs.map a.eval)
 | [],acc,as,h=>by simp [evL,E6] at h;exact ⟨[],by simp [h],by simp [RelVs]⟩
 | x :: xs,acc,as,h=>by
  simp only [evL] at h
  cases hx:ev T x with
  | none=>simp [hx] at h
  | some av =>
   simp only [hx] at h
   obtain ⟨bs,h1,h2⟩:=a68 hT h
   refine ⟨av :: bs,by simpa using h1,?_⟩
   simp only [List.map_cons,RelVs]
   exact ⟨_,_,Z,hT.ev hx,h2⟩
theorem H9 [EnvAt P w0] {f:FuncId} {as:Array Operand} {ts:Array TypeId} {args:List AV} {rows:List Row} {res:Res} {n1:Nat} (nx':Nat) (ids:List Nat) (hd:o.dst=some d) (hlt:Nat.blt d nt=true) (ho:o.op=.call { callee:=.value (.func f),args:=as,argTypes:=ts }) (hc:CtrM P f args rows res after)
 (ha:evL T as.toList []=some (renAs ids args)) (hr:RowsIn m ids rows) (hnd:nodupB ids=true) (hi:a6i res nx (aft ids after m)=some (r,m',n1)) (hn':Nat.beq nx' n1=true) (hk:WL P w0 ops rest ⟨(d,r) :: T,m',nx',nt⟩ Q):WX P w0 ops o rest ⟨T,m,nx,nt⟩ Q:=by
 have hn'':=Nat.eq_of_beq_eq_true hn'
 subst hn''
 have hi:=a11 hi
 intro ρ a w hT hC
 obtain ⟨bs,h1,h2⟩:=a68 hT ha
 simp at h1
 subst h1
 have hcalls:=hc.calls w0 ρ m nx ids w _ hr hnd hC h2
 have hrun:(execOp a.eval o).run P w=.ok (.enter f (as.toList.map a.eval).toArray) w:=by
  simp [execOp,ho,resolve,Deferred.ofValue,invoke,Act.eval,a0c hc.callable,← Array.toList_map]
 unfold Oper.wp
 rw [hrun,Oper.upon_enter]
 refine hcalls.mono λex w' ⟨v,ρ',he,q1,q2,q3,q4⟩=>?_
 subst he
 rw [hi] at q2 q3 q4
 refine hk ρ' _ w' ?_ q4
 rw [hd]
 have hT':RelT w0 ρ' T nx' nt a:=⟨λt x hx=>(hT.tmps t x hx).mono q2 q1,hT.size,hT.defers⟩
 exact hT'.put hlt q3
theorem RelC.sub (hC:RelC w0 ρ m nx w) (h:∀i r,mem m' i=some r→mem m i=some r):RelC w0 ρ m' nx w :=
 ⟨λi r hr=>hC.rows i r (h i r hr),λi i' r r' hr hr'=>hC.apart i i' r r' (h i r hr) (h i' r' hr'),hC.below,hC.pin,⟨hC.kept.1,hC.kept.2.1,λi r hr=>hC.kept.2.2 i r (h i r hr)⟩,
  hC.inner' (Nat.le_refl _) (λi r hr=>.inr ⟨r,h i r hr,λ_ _ h=>h⟩) (λi r hr b hb=>.inl ⟨i,r,h i r hr,hb⟩)⟩
theorem b1y {t sz n:Nat} (ht:look t T=some (.sub id sz 0 n)) (hm:mem m id=some (.row e sz ys)) {ρ:Nat→Value} {a:Act} {w:World} (hT:RelT w0.w ρ T nx nt a) (hC:RelC w0 ρ m nx w):∃ρ',RelT w0.w ρ' ((t,.own nx) :: T) (nx+1) nt a/\RelC w0 ρ' ((nx,some (.row e sz (ys.take n))) :: (id,none) :: m) (nx+1) w:=by
 have h1:=hT.tmps t _ ht
 simp only [RelV] at h1
 obtain ⟨hid,A,cap,he,hcap,_,h0⟩:=h1
 obtain ⟨l,hl,hnl⟩:=h0 trivial
 obtain ⟨hrow,hall⟩:=hC.row hm
 have hC2:RelC w0 ρ ((id,none) :: m) nx w:=by
  have hsub:∀i r,mem ((id,none) :: m) i=some r→mem m i=some r/\i≠id:=λi r hr=>by
   by_cases e:id=i
   ·subst e;rw [i8] at hr;cases hr
   ·rw [d1 e] at hr;exact ⟨hr,Ne.symm e⟩
  exact hC.sub λi r hr=>(hsub i r hr).1
 have hbk:∀b,blk (a.tmps.getD t undef)=some b→blk (ρ id)=some b:=by
  intro b hb
  rw [he] at hb
  rw [hl]
  cases A<;>first | exact hb | (simp [blk] at hb;done)
 have hllen:l=ys.length:=by
  rcases hrow.2 with ⟨h2,h3⟩ | ⟨g,cp,cur,h2,_⟩
  ·rw [hl] at h2;cases h2;exact h3.symm
  ·rw [hl] at h2;cases h2;rfl
 have hown:w.ownsRow w0.w.heap.size e sz (a.tmps.getD t undef) (ys.take n).length (ys.take n).flatten:=by
  have hnys:n<=ys.length:=by
   rcases hrow.2 with ⟨h2,h3⟩ | ⟨g,cp,cur,h2,_⟩
   ·rw [hl] at h2;cases h2;omega
   ·rw [hl] at h2;cases h2;omega
  have hft:(ys.take n).flatten=ys.flatten.take (n * sz):=by
   have h5:ys.flatten=(ys.take n).flatten++(ys.drop n).flatten:=by rw [← List.flatten_append,List.take_append_drop]
   have h6:=j9 (ys:=ys.take n) (sz:=sz) (λc hc=>(hall c (List.mem_of_mem_take hc)).1)
   have hlt:(ys.take n).length=n:=by rw [List.length_take];omega
   rw [hlt] at h6
   have h7:List.take (n * sz) ((ys.take n).flatten++(ys.drop n).flatten)=(ys.take n).flatten:=by
    rw [List.take_append_of_le_length J]
    exact List.take_of_length_le J
   rw [h5,h7]
  have hlt:(ys.take n).length=n:=by rw [List.length_take];omega
  rw [hlt]
  refine ⟨by rw [j9 (sz:=sz) (λc hc=>(hall c (List.mem_of_mem_take hc)).1),hlt],?_⟩
  rcases hrow.2 with ⟨h2,h3⟩ | ⟨g,cp,cur,h2,h3,h4,h5,h6,h7,h8⟩
  ·refine .inl ⟨?_,by omega⟩
   rw [hl] at h2
   rw [he]
   cases h2
   have:n=0:=by omega
   rw [this]
  ·refine .inr ⟨g,cp,cur,?_,h3,h4,by omega,h6,h7,?_⟩
   ·rw [hl] at h2;rw [he];cases h2;rfl
   ·rw [hft,← h8,List.take_take,Nat.min_eq_left (Nat.mul_le_mul_right _ J)]
 refine ⟨upd ρ nx (a.tmps.getD t undef),⟨λt' x hx=>?_,hT.size,hT.defers⟩,hC2.addP (λ_=>Z) ?_ ?_ ?_⟩
 ·by_cases e:t=t'
  ·subst e
   rw [m9] at hx
   cases hx
   simp only [RelV]
   exact ⟨by omega,(j4 _ _ _).symm⟩
  ·rw [j5 e] at hx
   exact (hT.tmps t' x hx).mono (Nat.le_succ _) (λi hi=>l7 ρ _ (Nat.ne_of_lt hi))
 ·refine ⟨?_,λc hc=>hall c (List.mem_of_mem_take hc)⟩
  rw [j4]
  exact hown
 ·intro i r hr b hb hy
  by_cases e:id=i
  ·subst e;rw [i8] at hr;cases hr
  ·rw [d1 e] at hr
   exact hC.foot_apart hr hm (Ne.symm e) hb (.inl (hbk b hy))
 ·intro b hb
  exact hC.kept.2.2 id _ hm b (hbk b hb)
theorem Y8 {sz n:Nat} {ys:List (List Value)} (hall:∀c∈ys,c.length=sz) (hn:n<=ys.length):(ys.take n).flatten=ys.flatten.take (n * sz):=by
 have h5:ys.flatten=(ys.take n).flatten++(ys.drop n).flatten:=by rw [← List.flatten_append,List.take_append_drop]
 have h6:=j9 (ys:=ys.take n) (sz:=sz) (λc hc=>hall c (List.mem_of_mem_take hc))
 grind
theorem Y9 {sz n:Nat} {ys:List (List Value)} (hall:∀c∈ys,c.length=sz) (hn:n<=ys.length):(ys.drop n).flatten=ys.flatten.drop (n * sz):=by
 have h5:ys.flatten=(ys.take n).flatten++(ys.drop n).flatten:=by rw [← List.flatten_append,List.take_append_drop]
 have h6:=j9 (ys:=ys.take n) (sz:=sz) (λc hc=>hall c (List.mem_of_mem_take hc))
 grind
theorem a8H {zs:List Value} (hpos:0 < zs.length) (n:Nat):(Builtin.zeroCells zs.toArray n).toList=(List.replicate n zs).flatten:=by
 apply List.ext_getElem?
 intro j
 by_cases hj:j < n * zs.length
 ·have hdiv:j / zs.length < n:=Nat.div_lt_of_lt_mul (by rw [Nat.mul_comm];exact hj)
  have hmod:j % zs.length < zs.length:=Nat.mod_lt _ hpos
  have h1:=J9 (ys:=List.replicate n zs) (sz:=zs.length) (λc hc=>by rw [(List.mem_replicate.1 hc).2]) (i:=j / zs.length) (c:=zs) (by simp [hdiv]) hmod
  have h2:j / zs.length * zs.length+j % zs.length=j:=by rw [Nat.mul_comm];exact Nat.div_add_mod j _
  rw [h2] at h1
  rw [h1]
  simp [Builtin.zeroCells,hj,hmod]
 ·rw [List.getElem?_eq_none (by simp [Builtin.zeroCells];omega),List.getElem?_eq_none (by rw [j9 (sz:=zs.length) (λc hc=>by rw [(List.mem_replicate.1 hc).2])];simp;omega)]
end
section
variable {P:Program} [Env P] {w0:Base} {ops:Array Oper} {tb:List (Nat×TyI)} {o:Oper} {T:List (Nat×AV)} {m:List (Nat×Option Row)} {nx nt:Nat} {Q:Exit→St→Prop} {c:Code}
theorem c2t {sz:Nat} (hm:mem m id=some (.box (.lst sz ys :: cs))) (h:∀y,W P w0 c ⟨T,(id,some (.box (.pin y sz ys :: cs))) :: m,nx,nt⟩ Q):W P w0 c ⟨T,m,nx,nt⟩ Q:=by
 intro ρ a w hT hC
 obtain ⟨b,cur,ty,hρ,hB,hb,hR,hone⟩:=hC.box hm
 have hR2:=hR
 simp only [RelVs] at hR2
 obtain ⟨y,r,e,h1,h2⟩:=hR2
 refine h y ρ a w hT (hC.change hm (by rw [hρ];rfl) ⟨Z,Z,Z,Nat.le_refl _,λ_ _ _=>Z⟩ hB ?_)
 refine ⟨b,cur,ty,hρ,hB,hb,?_,hone⟩
 simp only [RelVs]
 simp only [RelV] at h1
 exact ⟨y,r,e,by simp only [RelV];exact ⟨trivial,h1⟩,h2⟩
theorem a9m {t sz:Nat} (ht:look t T=some (.lst sz ys)) (h:∀y,W P w0 c ⟨(t,.pin y sz ys) :: T,m,nx,nt⟩ Q):W P w0 c ⟨T,m,nx,nt⟩ Q:=by
 intro ρ a w hT hC
 have h1:=hT.tmps t _ ht
 simp only [RelV] at h1
 refine h (a.tmps.getD t undef) ρ a w ⟨λi x hi=>?_,hT.size,hT.defers⟩ hC
 by_cases e:i=t
 ·grind [m9,RelV]
 ·rw [j5 (λe'=>e e'.symm)] at hi
  exact hT.tmps i x hi
theorem a3s {sz:Nat} {y:Value} (hm:mem m id=some (.box (.pin y sz ys :: cs))) (h:W P w0 c ⟨T,(id,some (.box (.lst sz ys :: cs))) :: m,nx,nt⟩ Q):W P w0 c ⟨T,m,nx,nt⟩ Q:=by
 intro ρ a w hT hC
 obtain ⟨b,cur,ty,hρ,hB,hb,hR,hone⟩:=hC.box hm
 have hR2:=hR
 simp only [RelVs] at hR2
 obtain ⟨y',r,e,h1,h2⟩:=hR2
 refine h ρ a w hT (hC.change hm (by rw [hρ];rfl) ⟨Z,Z,Z,Nat.le_refl _,λ_ _ _=>Z⟩ hB ?_)
 refine ⟨b,cur,ty,hρ,hB,hb,?_,hone⟩
 simp only [RelVs]
 simp only [RelV] at h1
 exact ⟨y',r,e,by simp only [RelV];exact h1.2,h2⟩
theorem a0N {t sz by_:Nat} {zs:List Value} {z:Value} {i:Int} {c:List Value} (G:Good P tb) (ho:o.op=.indexAddr t x y) (ht:look t tb=some (.slice e sz by_ zs)) (hx:ev T x=some (.pin z sz ys)) (hy:ev T y=some (.v (.int k i)))
 (h0:0<=i) (hc:ys[i.toNat]?=some c):QStep P o T m nx nt (.ept c) :=
 QStep.run λw0 ρ a w hT hC=>by
  have h:=hT.ev hx
  have h2:=hT.ev hy
  simp only [RelV] at h h2
  obtain ⟨_,A,cap,he,_,hall,hA⟩:=h
  have hlt:i.toNat < ys.length:=by
   grind
  obtain ⟨ad,rfl,hb,hcell⟩:=hA J
  refine ⟨.pointer (some (ad.add (i.toNat * sz))),by
   simp only [RelV]
   refine ⟨_,Z,by rw [A2];exact hb,(hall c (List.mem_of_getElem? hc)).2,λj u hj=>?_⟩
   rw [a1o]
   exact hcell _ _ hc j u hj,λw' hC'=>?_⟩
  simp only [execOp,ho,he,h2,Sem.run_bind,K0 (G t _ ht) (a:=ad) (len:=ys.length) (cap:=cap) (k:=k) (i:=i) h0 J,Result.andThen_ok,Sem.run_pure]
theorem b78 {t t':TypeId} {yk:IntKind} {a:Int} (ho:o.op=.binOp .shr t x y t') (hx:ev T x=some (.v (.int k a))) (hy:ev T y=some (.v (.int yk b))) (hb:¬ b < 0) :
 QStep P o T m nx nt (.v (.int k (a.fdiv (2 ^ (min b.toNat k.bits))))) :=
 QStep.val λw0 ρ ac hT w'=>by
  have h1:=hT.ev hx
  have h2:=hT.ev hy
  simp only [RelV] at h1 h2
  simp [execOp,ho,h1,h2,eqGuard,binOp,Op.shift,hb]
def b1z (k:IntKind) (a b:Int):Int:=k.wrap ((BitVec.ofInt k.bits a &&& BitVec.ofInt k.bits b).toNat:Nat)
theorem b79 {t t':TypeId} {a:Int} (ho:o.op=.binOp .and t x y t') (hx:ev T x=some (.v (.int k a))) (hy:ev T y=some (.v (.int k b))) :
 QStep P o T m nx nt (.v (.int k (b1z k a b))) :=
 QStep.val λw0 ρ ac hT w'=>by
  have h1:=hT.ev hx
  have h2:=hT.ev hy
  simp only [RelV] at h1 h2
  simp [execOp,ho,h1,h2,eqGuard,binOp,Op.intBits,b1z]
end
end Go.Rf
namespace Go.Rf
open Go
theorem Ctr.bool {P:Program} [Env P] {f:FuncId} {args:List AV} {a b:Bool} (h:Ctr P f args (.one (.v (.bool a)))) (e:a=b):Ctr P f args (.one (.v (.bool b))):=e▸h
def a0D (n:Nat) (f:Nat→Bool):Bool:=!(X7 n (λi=>!f i))
theorem b1A {n i:Nat} {f:Nat→Bool} (h:f i=true) (hi:i < n):a0D n f=true:=by
 rw [a0D,X8 (i:=i) (by simp [h]) hi];rfl
theorem b1B {n i:Nat} {f:Nat→Bool} (h:∀j,j < i→f j=false) (hi:n<=i):a0D n f=false:=by
 rw [a0D,a1a (i:=i) (λj hj=>by simp [h j hj]) hi];rfl
def I0 (f:Nat→Bool) (n:Nat):Int:=match (List.range n).find? f with
 | some i=>i
 | none=>-1
theorem V5 {f:Nat→Bool} {n i:Nat} (h:∀j,j < i→f j=false) (hi:n<=i):I0 f n=-1:=by
 grind [I0]
theorem L1 {f:Nat→Bool} {n i:Nat} (h:∀j,j < i→f j=false) (hi:i < n) (ht:f i=true):I0 f n=i:=by
 have:(List.range n).find? f=some i:=by
  simp_all
 rw [I0,this]
theorem a69 {f:Nat→Bool} {n:Nat}:decide (I0 f n≥0)=a0D n f:=by
 unfold I0
 cases hf:(List.range n).find? f with
 | none =>
  rw [List.find?_eq_none] at hf
  rw [b1B (i:=n) (λj hj=>by simpa using hf j (List.mem_range.mpr hj)) (Nat.le_refl _)]
  rfl
 | some i =>
  grind [b1A]
theorem a1t {α:Type} {xs:List α} {f:α→List Value} {i:Nat}:((xs.map f).drop ((0:Int)).toNat).take (((i:Int)).toNat - ((0:Int)).toNat)=(xs.take i).map f:=by
 simp [List.map_take]
end Go.Rf
namespace Go.Rf
open Go Go.RowKit
section
variable {α β:Type} [Inhabited α] {f:α→β} {g:Nat→α} {xs:List α} {i j:Nat}
def over (g:Nat→α) (xs:List α) (i:Nat):List α:=(List.range i).map g++xs.drop i
theorem b4x (h:i<=xs.length):(over g xs i).length=xs.length:=by simp [over];omega
theorem b4y (h:i < xs.length):((over g xs i).map f).set ((i:Int)).toNat (f (g i))=(over g xs (i+1)).map f:=by
 have:(over g xs i).set i (g i)=over g xs (i+1):=by
  rw [over,List.set_append_right _ _ (by simp),over,List.range_succ]
  have h2:xs.drop i=xs.getD i default :: xs.drop (i+1):=by rw [List.drop_eq_getElem_cons h];simp [h]
  rw [h2]
  simp
 have h3:((i:Int)).toNat=i:=rfl
 rw [h3,← this,List.map_set]
end
variable {P:Program} {ax ay:AV} {cs ds:List AV} {n:Int} {us vs:List Value} {y:Operand}
def l8 (n:Int):List Value:=[.int .i64 n]
def e7 (b:Bool):List Value:=[.bool b]
def B9 (n:Int):List Value:=[.int .u8 n]
structure Cur where
 c:List Int
 a:Int
 s:Int
variable {x:Cur}
def H5 (l:List Int):Prop:=l.length<=1048576/\∀j,0<=l.getD j default/\l.getD j default<=255
def nxB (x:Cur):Int:=if x.a < x.c.length then x.c.getD x.a.toNat default else 0
def nxS (x:Cur):Int:=IntKind.u64.wrap (IntKind.u64.wrap (IntKind.u64.wrap (x.s * 6364136223846793005)+IntKind.u64.wrap (nxB x))+843843)
def nxT (x:Cur):Int:=b1z .u64 ((nxS x).fdiv (2 ^ 40)) 255
def nxV (x:Cur):Int:=if x.a+1<=x.c.length then nxB x else nxT x
def nxC (x:Cur):Cur:=⟨x.c,x.a+1,nxS x⟩
theorem b8a (h:x.a < x.c.length):nxB x=x.c.getD x.a.toNat default:=if_pos h
theorem a8I (h:¬ x.a < x.c.length):nxB x=0:=if_neg h
theorem b4z (h:x.a+1<=x.c.length):nxV x=nxB x:=if_pos h
theorem a8J (h:¬ x.a+1<=x.c.length):nxV x=nxT x:=if_neg h
theorem M6 {a:Int}:0<=b1z .u64 a 255/\b1z .u64 a 255<=255:=by
 have h:(BitVec.ofInt IntKind.u64.bits a &&& BitVec.ofInt IntKind.u64.bits 255).toNat<=255:=by
  rw [BitVec.toNat_and]
  exact Nat.le_trans Nat.and_le_right (by decide)
 have hw:b1z .u64 a 255=((BitVec.ofInt IntKind.u64.bits a &&& BitVec.ofInt IntKind.u64.bits 255).toNat:Int):=by
  rw [b1z,IntKind.wrap_u64]
  omega
 rw [hw]
 omega
theorem b4A (h:H5 x.c):0<=nxB x/\nxB x<=255:=by
 unfold nxB
 split
 ·exact h.2 _
 ·omega
theorem a9n {x:Cur} (h:H5 x.c):0<=nxV x/\nxV x<=255:=by
 unfold nxV
 split
 ·exact b4A h
 ·exact M6
def pkV (x:Cur) (n:Int):Int:=if n<=1 then 0 else if 200 < n then (nxV x * 256+nxV (nxC x)) % n else nxV x % n
def pkC (x:Cur) (n:Int):Cur:=if n<=1 then x else if 200 < n then nxC (nxC x) else nxC x
theorem c2u {x:Cur} {n:Int} (h:n<=1):pkV x n=0/\pkC x n=x:=by rw [pkV,pkC,if_pos h,if_pos h];exact ⟨Z,Z⟩
theorem c2v {x:Cur} {n:Int} (h:¬ n<=1) (h2:¬ 200 < n):pkV x n=nxV x % n/\pkC x n=nxC x:=by rw [pkV,pkC,if_neg h,if_neg h,if_neg h2,if_neg h2];exact ⟨Z,Z⟩
theorem c2w {x:Cur} {n:Int} (h:¬ n<=1) (h2:200 < n):pkV x n=(nxV x * 256+nxV (nxC x)) % n/\pkC x n=nxC (nxC x):=by rw [pkV,pkC,if_neg h,if_neg h,if_pos h2,if_pos h2];exact ⟨Z,Z⟩
theorem b4B {x:Cur} {n:Int} (h:H5 x.c):0<=pkV x n/\(pkV x n < n∨(n<=1/\pkV x n=0)):=by
 by_cases h1:n<=1
 ·rw [(c2u h1).1];omega
 ·have e1:=a9n h
  have e2:=a9n (x:=nxC x) h
  by_cases h2:200 < n
  ·rw [(c2w h1 h2).1]
   exact ⟨Int.emod_nonneg _ J,Or.inl (Int.emod_lt_of_pos _ J)⟩
  ·rw [(c2v h1 h2).1]
   exact ⟨Int.emod_nonneg _ J,Or.inl (Int.emod_lt_of_pos _ J)⟩
theorem c4f {x:Cur} {n:Int}:(pkC x n).c=x.c/\x.a<=(pkC x n).a/\(pkC x n).a<=x.a+2:=by
 unfold pkC
 split
 ·grind
 ·split
  ·exact ⟨Z,by show x.a<=x.a+1+1;omega,by show x.a+1+1<=x.a+2;omega⟩
  ·exact ⟨Z,by show x.a<=x.a+1;omega,by show x.a+1<=x.a+2;omega⟩
structure CtrX (P:Program) [Env P] {α:Type} (f:FuncId) (args:List AV) (rows:List Row) (R:α→Prop) (res:α→Res) (after:α→List (Option Row)):Prop where
 callable:Callable P f
 calls:∀(w0:Base) [EnvAt P w0] ρ m nx (ids:List Nat) w vs,RowsIn m ids rows→nodupB ids=true→RelC w0 ρ m nx w→RelVs w0.w ρ nx (renAs ids args) vs →
  Calls P f vs.toArray w (λen w'=>∃x,R x/\∃v ρ',en=.returned v/\(∀i,i < nx→ρ' i=ρ i)/\nx<=(instR (res x) nx (aft ids (after x) m)).2.2/\RelV w0.w ρ' (instR (res x) nx (aft ids (after x) m)).2.2 (instR (res x) nx (aft ids (after x) m)).1 v /\
   RelC w0 ρ' (instR (res x) nx (aft ids (after x) m)).2.1 (instR (res x) nx (aft ids (after x) m)).2.2 w')
theorem CtrX.ofM [Env P] {α:Type} {f:FuncId} {args:List AV} {rows:List Row} {R:α→Prop} {res:α→Res} {after:α→List (Option Row)} {r:Res} {a:List (Option Row)} (x:α) (h:CtrM P f args rows r a) (hx:R x) (hr:res x=r) (ha:after x=a):CtrX P f args rows R res after:=by
 subst hr
 subst ha
 exact ⟨h.callable,λw0 hw ρ m nx ids w vs h1 h2 h3 h4=>(h.calls w0 ρ m nx ids w vs h1 h2 h3 h4).mono λen w' h=>⟨x,hx,h⟩⟩
theorem CtrX.weak [Env P] {α:Type} {f:FuncId} {args:List AV} {rows:List Row} {R R':α→Prop} {res:α→Res} {after:α→List (Option Row)} (h:CtrX P f args rows R res after) (hR:∀x,R x→R' x):CtrX P f args rows R' res after :=
 ⟨h.callable,λw0 hw ρ m nx ids w vs h1 h2 h3 h4=>(h.calls w0 ρ m nx ids w vs h1 h2 h3 h4).mono λen w' ⟨x,hx,h⟩=>⟨x,hR x hx,h⟩⟩
def c2x {α:Type} (tb:List (Nat×TyI)) (rs:List ResultVar) (R:α→Prop) (res:α→Res) (after:α→List (Option Row)) (e:Exit) (S:St):Prop:=∃x,R x/\b0y tb rs (res x) (after x) e S
theorem B6 {α:Type} {tb:List (Nat×TyI)} {rs:List ResultVar} {R:α→Prop} {res:α→Res} {after:α→List (Option Row)} {e:Exit} {S:St} (x:α) (h:b0y tb rs (res x) (after x) e S) (hx:R x):c2x tb rs R res after e S:=⟨x,hx,h⟩
section
variable {P:Program} [Env P] {w0:Base} {ops:Array Oper} {tb:List (Nat×TyI)} {o:Oper} {rest:List Oper} {T:List (Nat×AV)} {m:List (Nat×Option Row)} {nx nt d:Nat} {Q:Exit→St→Prop}
theorem CtrX.of {α:Type} {R:α→Prop} {res:α→Res} {after:α→List (Option Row)} (G:Good P tb) {f:FuncId} {fn:Func} {c:Code} {args:List AV} {rows:List Row} {l:List ResultVar} {n k:Nat} (hf:P.funcs[f]?=some fn) (hb:fn.body=some c) (hname:(fn.name == "runtime.NumGoroutine")=false) (hl:fn.results=l.toArray) (hn:fn.ntmps=n)
 (hlen:Nat.ble args.length n=true) (hk:rows.length=k) (haf:∀x,rows.length=(after x).length) (hrefs:F2 k args=true) (hfr:a1s rows=true)
 (h:∀b:Base,[EnvAt P b]→b.n0=k→W P b c ⟨a4T args 0,a8k rows 0,k,n⟩ (c2x tb l R res after)):CtrX P f args rows R res after:=by
 refine ⟨⟨fn,hf,hname,by rw [hb];rfl⟩,λw0 hw0 ρ m nx ids w vs hin hnd hC hrel=>?_⟩
 have hidl:ids.length=k:=hin.len.trans hk
 let ρc:Nat→Value:=λj=>ρ (ids.getD j 0)
 have hrel':RelVs w0.w ρc k args vs:=RelVs.ren args hrefs hrel
 have hlen':args.length<=n:=Nat.le_of_ble_eq_true hlen
 refine calls_of_wp hf hb ?_
 let b:Base:=⟨w0.w,k,ρc,w,λc=>c < w.heap.size/\∀(j:Nat) id r,ids[j]?=some id→rows[j]?=some r→¬ O1 w (ρ id) r c,λc hc=>hc.1,w0.E,w0.hE⟩
 have hen:EnvAt P b:=⟨hw0.e⟩
 have hkp:KeepIs ρ ids rows w b.keep:=λ_=>Iff.rfl
 have hCb:RelC b ρc (a8k rows 0) k w:=a6q (b:=b) hC hin hnd hfr hk Z Z Z Z hkp
 have hT:=a4i (b:=b) (fn:=fn) hrel' hlen' hn
 refine wp_mono (h b Z ρc _ w hT hCb) ?_
 have fin:∀(x:α) (ρ':Nat→Value) (S:St) (a:Act) (w':World),(∃avs,T2 tb S l []=some avs/\ResOK S.m avs (res x)/\AftOK S.m 0 (after x)/\a0M (after x) (a15 (res x) avs)=true)→RelT b ρ' S.T S.nx S.nt a→RelC b ρ' S.m S.nx w' →
  a.defers=[]/\∃v,(results fn a.tmps).run P w'=.ok v w'/\∃u ρ',Ending.returned v=.returned u/\(∀i,i < nx→ρ' i=ρ i)/\nx<=(instR (res x) nx (aft ids (after x) m)).2.2/\RelV w0.w ρ' (instR (res x) nx (aft ids (after x) m)).2.2 (instR (res x) nx (aft ids (after x) m)).1 u /\
  RelC w0 ρ' (instR (res x) nx (aft ids (after x) m)).2.1 (instR (res x) nx (aft ids (after x) m)).2.2 w':=by
  intro x ρ' S a w' ⟨avs,h1,h2,h3,h4⟩ hT' hC'
  obtain ⟨ys,avs',e1,e2,e3⟩:=a0f G hT' hC' h1
  simp at e1
  subst e1
  have hpin:∀j id,ids[j]?=some id→ρ' j=ρ id:=λj id hj=>by
   have hj':j < k:=by rw [← hidl];exact (List.getElem?_eq_some_iff.1 hj).1
   rw [hC'.pin.2 j hj']
   grind
  obtain ⟨ρ2,q1,q2,q3,q4⟩:=a8G (b:=b) hC hin hnd (haf x) Z Z hkp hpin hC' h3 h2 h4 e2
  exact ⟨hT'.defers,_,V3 hl e3,_,ρ2,Z,q1,q2,q3,q4⟩
 rintro e a w' ⟨ρ',S,⟨x,hx,hq⟩,hT',hC'⟩
 cases e<;>simp only [b0y] at hq
 case normal=>obtain ⟨g1,v,g2,g3⟩:=fin x ρ' S a w' hq hT' hC';exact ⟨g1,v,g2,x,hx,g3⟩
 case ret=>obtain ⟨g1,v,g2,g3⟩:=fin x ρ' S a w' hq hT' hC';exact ⟨g1,v,g2,x,hx,g3⟩
theorem c9 [EnvAt P w0] {α:Type} {R:α→Prop} {res:α→Res} {after:α→List (Option Row)} {f:FuncId} {as:Array Operand} {ts:Array TypeId} {args:List AV} {rows:List Row} {n1:Nat} (nx':Nat) (ids:List Nat) (hd:o.dst=some d) (hlt:Nat.blt d nt=true) (ho:o.op=.call { callee:=.value (.func f),args:=as,argTypes:=ts }) (hc:CtrX P f args rows R res after)
 (ha:evL T as.toList []=some (renAs ids args)) (hr:RowsIn m ids rows) (hnd:nodupB ids=true) {r:α→AV} {m':α→List (Nat×Option Row)} (hi:∀x,a6i (res x) nx (aft ids (after x) m)=some (r x,m' x,n1)) (hn':Nat.beq nx' n1=true) (hk:∀x,R x→WL P w0 ops rest ⟨(d,r x) :: T,m' x,nx',nt⟩ Q):WX P w0 ops o rest ⟨T,m,nx,nt⟩ Q:=by
 have hn'':=Nat.eq_of_beq_eq_true hn'
 subst hn''
 intro ρ a w hT hC
 obtain ⟨bs,h1,h2⟩:=a68 hT ha
 simp at h1
 subst h1
 have hcalls:=hc.calls w0 ρ m nx ids w _ hr hnd hC h2
 have hrun:(execOp a.eval o).run P w=.ok (.enter f (as.toList.map a.eval).toArray) w:=by
  simp [execOp,ho,resolve,Deferred.ofValue,invoke,Act.eval,a0c hc.callable,← Array.toList_map]
 unfold Oper.wp
 rw [hrun,Oper.upon_enter]
 refine hcalls.mono λex w' ⟨x,hx,v,ρ',he,q1,q2,q3,q4⟩=>?_
 subst he
 have hi:=hi x
 have hi:=a11 hi
 rw [hi] at q2 q3 q4
 refine hk x hx ρ' _ w' ?_ q4
 rw [hd]
 have hT':RelT w0 ρ' T nx' nt a:=⟨λt x hx=>(hT.tmps t x hx).mono q2 q1,hT.size,hT.defers⟩
 exact hT'.put hlt q3
end
inductive EF where
 | int (k:IntKind)
 | bool
 | str
def c0R (P:Program) (t:TypeId):Option EF:=match P.underlying t with
 | some (.int k)=>some (.int k)
 | some .bool=>some .bool
 | some .string=>some .str
 | _=>none
def efB:EF→EF→Bool
 | .int k,.int k'=>decide (k=k')
 | .bool,.bool=>true
 | .str,.str=>true
 | _,_=>false
theorem c0S {a b:EF} (h:efB a b=true):a=b:=by
 cases a<;>cases b<;>simp [efB] at h<;>first | rfl | (rw [h])
def b3R (P:Program):List Field→Nat→List EF→Bool
 | [],_,[]=>true
 | f :: fs,j,k :: ks=>(f.name != "_") && (f.offset==j) && (match c0R P f.type with | some k'=>efB k' k | none=>false) && b3R P fs (j+1) ks
 | _,_,_=>false
def M7 (P:Program) (t:TypeId) (ks:List EF):Bool :=
 (match P.underlying t with | some (.struct fs)=>b3R P fs.toList 0 ks | _=>false) && !P.stoodInHeld t && !P.eqGuardType P.depth t
def c4g:EF→Value→Prop
 | .int k,v=>∃a,v=.int k a
 | .bool,v=>∃a,v=.bool a
 | .str,v=>∃a,v=.string a
def a2T:List EF→List Value→Prop
 | [],us=>us=[]
 | k :: ks,us=>∃u r,us=u :: r/\c4g k u/\a2T ks r
def a1b:Value→Value→Bool
 | .int _ a,.int _ b=>decide (a=b)
 | .bool a,.bool b=>a==b
 | .string a,.string b=>decide (a=b)
 | _,_=>false
def E7:List Value→List Value→Bool
 | [],[]=>true
 | a :: r,b :: s=>a1b a b && E7 r s
 | _,_=>false
theorem a8l {a b:ByteArray}:(a.toList==b.toList)=decide (a=b):=by
 have e:(a.toList=b.toList)↔a=b:=by
  rw [ByteArray.toList_eq,ByteArray.toList_eq]
  obtain ⟨⟨x⟩⟩:=a
  obtain ⟨⟨y⟩⟩:=b
  simp
 grind
section
variable {P:Program} {w:World}
theorem a4W {d:Nat} {xs ys:Array Value}:∀{fs:List Field} {j:Nat} {ks:List EF},b3R P fs j ks=true→a2T ks (xs.toList.drop j)→a2T ks (ys.toList.drop j) →
 (Op.eqFields (d+1) xs ys fs).run P w=.ok (E7 (xs.toList.drop j) (ys.toList.drop j)) w
 | [],j,[],_,hx,hy=>by
  simp only [a2T] at hx hy
  rw [hx,hy]
  simp [Op.eqFields,E7]
 | [],_,_ :: _,h,_,_=>by simp [b3R] at h
 | _ :: _,_,[],h,_,_=>by simp [b3R] at h
 | f :: fs,j,k :: ks,h,hx,hy=>by
  simp only [b3R,Bool.and_eq_true] at h
  obtain ⟨⟨⟨h1,h2⟩,h3⟩,h4⟩:=h
  simp only [a2T] at hx hy
  obtain ⟨u,r,ex,hu,hr⟩:=hx
  obtain ⟨v,s,ey,hv,hs⟩:=hy
  have hj:f.offset=j:=by simpa using h2
  have gx:xs[j]?=some u:=by
   have:=congrArg (λl=>l[0]?) ex
   grind
  have gy:ys[j]?=some v:=by
   have:=congrArg (λl=>l[0]?) ey
   grind
  have dx:xs.toList.drop (j+1)=r:=by rw [← List.drop_drop,ex];rfl
  have dy:ys.toList.drop (j+1)=s:=by rw [← List.drop_drop,ey];rfl
  have hn:f.name ≠ "_" := by simpa using h1
  have ih:=a4W (d:=d) (xs:=xs) (ys:=ys) h4 (dx▸hr) (dy▸hs)
  rw [dx,dy] at ih
  have key:∀w,(part f.type xs f.offset).run P w=.ok u w/\(part f.type ys f.offset).run P w=.ok v w/\(Op.equalIn (d+1) f.type u v).run P w=.ok (a1b u v) w:=by
   intro w
   cases he:c0R P f.type with
   | none=>simp [he] at h3
   | some k' =>
    simp only [he] at h3
    obtain rfl:=c0S h3
    unfold c0R at he
    split at he<;>cases he
    ·next k ht =>
     obtain ⟨a,rfl⟩:=hu
     obtain ⟨b,rfl⟩:=hv
     refine ⟨by simp [part,isAgg,run_underlying ht,hj,gx],by simp [part,isAgg,run_underlying ht,hj,gy],?_⟩
     rw [run_equalIn_int w d _ k k a b ht]
     rfl
    ·next ht =>
     obtain ⟨a,rfl⟩:=hu
     obtain ⟨b,rfl⟩:=hv
     exact ⟨by simp [part,isAgg,run_underlying ht,hj,gx],by simp [part,isAgg,run_underlying ht,hj,gy],run_equalIn_bool' w d _ a b ht⟩
    ·next ht =>
     obtain ⟨a,rfl⟩:=hu
     obtain ⟨b,rfl⟩:=hv
     refine ⟨by simp [part,isAgg,run_underlying ht,hj,gx],by simp [part,isAgg,run_underlying ht,hj,gy],?_⟩
     rw [run_equalIn_string w d _ a b ht,a8l]
     rfl
  rw [ex,ey]
  simp only [Op.eqFields,if_pos hn,Sem.run_bind,(key w).1,(key w).2.1,(key w).2.2,Result.andThen_ok,E7]
  cases hc:a1b u v
  ·simp
  ·simpa using ih
theorem a4X {t:TypeId} {ks:List EF} (h:M7 P t ks=true) (hu:a2T ks us) (hv:a2T ks vs):(Op.equalIn 10000 t (.agg ⟨us⟩) (.agg ⟨vs⟩)).run P w=.ok (E7 us vs) w:=by
 simp only [M7,Bool.and_eq_true,Bool.not_eq_true'] at h
 obtain ⟨⟨h1,h2⟩,_⟩:=h
 split at h1
 ·next fs hfs =>
  have e:P.fieldsOf t=fs:=by simp [Program.fieldsOf,hfs]
  rw [show (10000:Nat)=9999+1 from rfl,run_equalIn_agg w 9999 t _ _ (by rw [e];exact hfs) h2,e]
  exact a4W (d:=9998) (xs:=⟨us⟩) (ys:=⟨vs⟩) h1 hu hv
 ·cases h1
end
section
variable {P:Program} [Env P] {w0:Base} {ops:Array Oper} {tb:List (Nat×TyI)} {o:Oper} {rest:List Oper} {T:List (Nat×AV)} {m:List (Nat×Option Row)} {nx nt d:Nat} {Q:Exit→St→Prop}
theorem a4Y {x:Operand} {w0:World} {ρ:Nat→Value} {a:Act} (hT:RelT w0 ρ T nx nt a) (hx:ev T x=some ax) (hc:A0 ax=some cs) (hu:vaR cs []=some us) (hax:ax=.agg cs∨ax=.v (.agg ⟨us⟩)):a.eval x=.agg ⟨us⟩:=by
 obtain ⟨us',h1,h2⟩:=V0 _ _ _ hu
 simp at h2
 subst h2
 have:=hT.ev hx
 rcases hax with rfl | rfl
 ·grind [RelV,RelVs.map_v_eq]
 assumption
theorem b8b {x:Operand} {t t':TypeId} (ks:List EF) (ho:o.op=.binOp .eql t x y t') (hx:ev T x=some ax) (hy:ev T y=some ay) (hc:A0 ax=some cs) (hd:A0 ay=some ds) (hu:vaR cs []=some us) (hv:vaR ds []=some vs)
 (hax:ax=.agg cs∨ax=.v (.agg ⟨us⟩)) (hay:ay=.agg ds∨ay=.v (.agg ⟨vs⟩)) (ht:M7 P t ks=true) (fu:a2T ks us) (fv:a2T ks vs):QStep P o T m nx nt (.v (.bool (E7 us vs))) :=
 QStep.val λw0 ρ a hT w'=>by
  have ex:=a4Y hT hx hc hu hax
  have ey:=a4Y hT hy hd hv hay
  have hg:P.eqGuardType P.depth t=false:=by simp only [M7,Bool.and_eq_true,Bool.not_eq_true'] at ht;exact ht.2
  simp [execOp,ho,ex,ey,run_eqGuard_agg w' .eql t x y _ _ hg,run_eql_struct,a4X ht fu fv]
theorem b0z {x:Operand} {t t':TypeId} (ks:List EF) (ho:o.op=.binOp .neq t x y t') (hx:ev T x=some ax) (hy:ev T y=some ay) (hc:A0 ax=some cs) (hd:A0 ay=some ds) (hu:vaR cs []=some us) (hv:vaR ds []=some vs)
 (hax:ax=.agg cs∨ax=.v (.agg ⟨us⟩)) (hay:ay=.agg ds∨ay=.v (.agg ⟨vs⟩)) (ht:M7 P t ks=true) (fu:a2T ks us) (fv:a2T ks vs):QStep P o T m nx nt (.v (.bool (!E7 us vs))) :=
 QStep.val λw0 ρ a hT w'=>by
  have ex:=a4Y hT hx hc hu hax
  have ey:=a4Y hT hy hd hv hay
  have hg:P.eqGuardType P.depth t=false:=by simp only [M7,Bool.and_eq_true,Bool.not_eq_true'] at ht;exact ht.2
  simp [execOp,ho,ex,ey,run_eqGuard_agg w' .neq t x y _ _ hg,run_neq_struct,a4X ht fu fv]
end
def okC (n:Int) (x:Cur):Prop:=H5 x.c/\0<=x.a/\x.a<=n
theorem okC.mono {n':Int} (h:okC n x) (hn:n<=n'):okC n' x:=⟨h.1,h.2.1,by have:=h.2.2;omega⟩
theorem okC.pk (h:okC n x) (k:Int):okC (n+2) (pkC x k):=by
 have:=c4f (x:=x) (n:=k)
 exact ⟨by rw [this.1];exact h.1,by have:=h.2.1;omega,by have:=h.2.2;omega⟩
theorem okC.big (h:okC n x) (hn:n<=1000000000000):0<=x.a/\x.a<=4611686018427387000:=⟨h.2.1,by have:=h.2.2;omega⟩
theorem b6V {l:List Int} {lo hi:Int} (hl:∀z∈l,lo<=z/\z<=hi) {i:Nat} (h0:i < l.length):lo<=l.getD i default/\l.getD i default<=hi:=by
 simp_all
theorem b4C {α:Type} [Inhabited α] {l:List α} {i:Nat} (h0:i < l.length):l.getD i default∈l:=by
 grind
end Go.Rf
namespace Go.Rf
end Go.Rf
namespace Go.Rf
open Go Go.RowKit
section
variable {P:Program} [Env P] {w0:Base} {T:List (Nat×AV)} {m:List (Nat×Option Row)} {nx nt:Nat} {Q:Exit→St→Prop} {c:Code}
theorem Ctr.eq {f:FuncId} {args:List AV} {res res':Res} (h:Ctr P f args res) (e:res=res'):Ctr P f args res':=e▸h
end
section
variable {P:Program} [Env P] {w0:Base} {T:List (Nat×AV)} {m:List (Nat×Option Row)} {nx nt:Nat} {Q:Exit→St→Prop} {c:Code}
end
end Go.Rf
namespace Go.Rf
open Go
theorem c2y:∀c,CellsOK [.int .u8] c→∃x:Int,c=B9 x/\(0<=x/\x<=255):=by
 intro c h
 simp only [CellsOK,CellOK] at h
 obtain ⟨_,r0,rfl,⟨n0,rfl,w⟩,h⟩:=h
 subst h
 refine ⟨n0,Z,?_⟩
 simp only [Lit.wf,IntKind.min,IntKind.max,Bool.and_eq_true,decide_eq_true_eq,IntKind.signed,IntKind.bits] at w
 simpa using w
theorem c0T {l:List Int} (h:∀x∈l,0<=x/\x<=255):∀j,0<=l.getD j default/\l.getD j default<=255:=λj=>by
 rcases Nat.lt_or_ge j l.length with hj | hj
 ·exact h _ (b4C hj)
 ·have e:l.getD j default=0:=by rw [List.getD_eq_getElem?_getD,List.getElem?_eq_none hj];rfl
  rw [e]
  omega
end Go.Rf
namespace Go.Rf
open Go Go.RowKit
section
variable {P:Program} [Env P] {w0:Base} {ops:Array Oper} {tb:List (Nat×TyI)} {o:Oper} {rest:List Oper} {T:List (Nat×AV)} {m:List (Nat×Option Row)} {nx nt d:Nat} {Q:Exit→St→Prop} {c:Code}
theorem RelC.spare {ρ:Nat→Value} {w:World} (hC:RelC w0 ρ m nx w) {id e sz:Nat} {ys gs:List (List Value)} (hm:mem m id=some (.spare e sz ys gs)):∃g cur,ρ id=.slice (some ⟨g,0,none⟩) ys.length (ys.length+gs.length)/\w0.w.heap.size<=g/\w.heap[g]?=some (.cells cur e (0,0))/\cur.toList=(ys++gs).flatten/\ys.length+gs.length<=maxLen/\∀c∈ys++gs,c.length=sz:=(hC.rows id _ hm).2
theorem RelC.retell {ρ:Nat→Value} {w:World} (hC:RelC w0 ρ m nx w) {id:Nat} {row row':Row} (hm:mem m id=some row) (hrow:RowRel w0.w ρ nx w id row') (hin:∀p b,inn w (ρ id) row' p=some b→inn w (ρ id) row p=some b:=by intro p b h;cases h):RelC w0 ρ ((id,some row') :: m) nx w:=by
 have hs:∀i r,mem ((id,some row') :: m) i=some r→(i=id/\r=row')∨(i≠id/\mem m i=some r):=λi r hr=>by
  by_cases e:id=i
  ·subst e;rw [i8] at hr;cases hr;exact .inl ⟨Z,Z⟩
  ·rw [d1 e] at hr;exact .inr ⟨Ne.symm e,hr⟩
 have was:∀i r,mem ((id,some row') :: m) i=some r→∃r',mem m i=some r':=λi r hr=>by
  rcases hs i r hr with ⟨rfl,rfl⟩ | ⟨_,h⟩
  ·exact ⟨_,hm⟩
  ·exact ⟨_,h⟩
 refine ⟨λi r hr=>?_,λi i' r r' hr hr'=>?_,hC.below,hC.pin,⟨hC.kept.1,hC.kept.2.1,λi r hr=>?_⟩,hC.inner' (Nat.le_refl _) (λi r hr=>?_) (λi r hr b hb=>?_)⟩
 ·rcases hs i r hr with ⟨rfl,rfl⟩ | ⟨_,h⟩
  ·exact ⟨(hC.rows _ _ hm).1,hrow⟩
  ·exact hC.rows i r h
 ·obtain ⟨r1,h1⟩:=was i r hr
  obtain ⟨r2,h2⟩:=was i' r' hr'
  exact hC.apart i i' r1 r2 h1 h2
 ·obtain ⟨r1,h1⟩:=was i r hr
  exact hC.kept.2.2 i r1 h1
 ·rcases hs i r hr with ⟨rfl,rfl⟩ | ⟨_,h⟩
  ·exact .inr ⟨row,hm,hin⟩
  ·exact .inr ⟨r,h,λ_ _ h=>h⟩
 ·obtain ⟨r1,h1⟩:=was i r hr
  exact .inl ⟨i,r1,h1,hb⟩
def a4Z (sz:Nat):Nat→List Value→List (List Value)
 | 0,_=>[]
 | n+1,l=>l.take sz :: a4Z sz n (l.drop sz)
theorem a8K {sz:Nat}:∀{n:Nat} {l:List Value},(a4Z sz n l).length=n
 | 0,_=>rfl
 | n+1,l=>by simp [a4Z,a8K]
theorem a7w {sz:Nat}:∀{n:Nat} {l:List Value},l.length=n * sz→(a4Z sz n l).flatten=l/\∀c∈a4Z sz n l,c.length=sz
 | 0,l,h=>by
  grind [a4Z]
 | n+1,l,h=>by
  rw [Nat.add_mul] at h
  obtain ⟨h1,h2⟩:=a7w (sz:=sz) (n:=n) (l:=l.drop sz) (by rw [List.length_drop];omega)
  simp only [a4Z,List.flatten_cons,h1,List.take_append_drop,true_and,List.mem_cons]
  grind
theorem c0U {x:Operand} {t id e sz e' sz' by_:Nat} {zs:List Value} {ys:List (List Value)} (G:Good P tb) (ht:look t tb=some (.slice e' sz' by_ zs)) (hd:o.dst=some d) (hlt:Nat.blt d nt=true) (ho:o.op=.call { callee:=.builtin .cap,args:=#[x],argTypes:=#[t] }) (hx:ev T x=some (.own id)) (hm:mem m id=some (.row e sz ys)) (hpos:0 < ys.length)
 (hk:∀gs:List (List Value),ys.length+gs.length<=9223372036854775807→(∀c∈ys,c.length=sz/\∀u∈c,u.oneCell'=true)→WL P w0 ops rest ⟨(d,.v (.int .i64 ((ys.length+gs.length:Nat):Int))) :: T,(id,some (.spare e sz ys gs)) :: m,nx,nt⟩ Q):WX P w0 ops o rest ⟨T,m,nx,nt⟩ Q:=by
 intro ρ a w hT hC
 have h:=hT.ev hx
 simp only [RelV] at h
 obtain ⟨hrow,hall⟩:=hC.row hm
 rcases hrow.2 with ⟨_,hz⟩ | ⟨g,cap,cur,hsl,hB,hb,hcap,hcapm,hcur,htake⟩
 ·omega
 ·have hdl:(cur.toList.drop (ys.length * sz)).length=(cap - ys.length) * sz:=by rw [List.length_drop,Nat.sub_mul];simp [hcur]
  obtain ⟨hf,hc⟩:=a7w hdl
  have hgl:(a4Z sz (cap - ys.length) (cur.toList.drop (ys.length * sz))).length=cap - ys.length:=a8K
  have hfin:=hk (a4Z sz (cap - ys.length) (cur.toList.drop (ys.length * sz))) (by rw [hgl];unfold maxLen at hcapm;omega) hall
  have e1:ys.length+(cap - ys.length)=cap:=by omega
  rw [hgl,e1] at hfin
  have hr:(execOp a.eval o).run P w=.ok (.value (.int .i64 cap)) w:=by
   simp [execOp,ho,resolve,invoke,builtin,h.2,hsl,goInt,Builtin.cap_,run_underlying (G t _ ht).1]
  unfold Oper.wp
  rw [hr,Oper.upon_value,hd]
  refine hfin ρ _ w (hT.put hlt (by simp only [RelV])) (hC.retell hm ?_)
  simp only [RowRel]
  refine ⟨g,cur,by rw [hgl,e1];exact hsl,hB,hb,?_,by rw [hgl,e1];exact hcapm,λc hc'=>?_⟩
  ·rw [List.flatten_append,hf,← htake,List.take_append_drop]
  grind
theorem V6 {t e e' sz by_ id:Nat} {zs:List Value} {ys gs:List (List Value)} {x:Operand} {lo hi:Option Operand} {l h:Int} (G:Good P tb) (ho:o.op=.slice t x lo hi none) (ht:look t tb=some (.slice e sz by_ zs)) (hx:ev T x=some (.own id)) (hm:mem m id=some (.spare e' sz ys gs))
 (hl:a5U T 0 lo=some l) (hh:a5U T ys.length hi=some h) (h0:0<=l) (h1:l<=h) (h2:h<=ys.length) (hpos:0 < ys.length):QStep P o T m nx nt (.sub id sz l.toNat (h.toNat - l.toNat)) :=
 QStep.run λw0 ρ a w hT hC=>by
  have hxe:=hT.ev hx
  simp only [RelV] at hxe
  obtain ⟨g,cur,he,_⟩:=hC.spare hm
  refine ⟨.slice (if ys.length+gs.length=l.toNat then some ⟨g,0,none⟩ else (some (⟨g,0,none⟩:Addr)).map (·.add (l.toNat * sz))) (h.toNat - l.toNat) (ys.length+gs.length - l.toNat),?_,λw' hC'=>?_⟩
  ·simp only [RelV]
   refine ⟨hxe.1,_,_,Z,by omega,λhp=>?_,λhl0=>⟨ys.length,?_,by omega⟩⟩
   ·rw [if_neg J]
    exact ⟨g,_,_,he,by simp [Addr.add_lit]⟩
   ·rw [he,hl0,if_neg J]
    simp [Addr.add_zero']
  ·have:=a67 (G t _ ht) hT (A:=some ⟨g,0,none⟩) hl hh h0 h1 h2 (by omega:ys.length<=ys.length+gs.length) w'
   simp only [execOp,ho,hxe.2,he,Option.map_none,this,Sem.run_bind,Result.andThen_ok,Sem.run_pure]
theorem b0A {t e sz by_:Nat} {zs:List Value} (G:TyOK P t (.slice e sz by_ zs)) {A:Addr} {n cap N:Nat} {k:IntKind} (hn:n<=cap) (hN:N<=cap) (hpos:0 < N) (w:World) :
 (Instr.sliceAt t (.slice (some A) n cap) none (some (.int k N)) none).run P w=.ok (.slice (some A) N cap) w:=by
 obtain ⟨hu,_,i,z,hi',hs,_⟩:=G
 have h1:¬ ((N:Int) < 0):=by omega
 have h2:(N:Int)<=cap:=by omega
 have h3:¬ cap=0:=by omega
 have hh1:(0:Int)<=(N:Int):=by omega
 have hcap2:(n:Int)<=(cap:Int):=by omega
 simp [Instr.sliceAt,Instr.slice,run_underlying hu,Instr.sliceBounds,Instr.sliceBound,asIntOf,sizeOf,typeInfo,hi',hs,h1,h2,h3,hh1,hcap2,Addr.add_zero']
 intro hlt
 omega
theorem b1C {t e e' sz by_ id N:Nat} {zs:List Value} {ys gs:List (List Value)} {x y:Operand} {k:IntKind} {h:Int} (G:Good P tb) (nx':Nat) (hn':Nat.beq nx' (Nat.succ nx)=true) (hd:o.dst=some d) (hlt:Nat.blt d nt=true) (ho:o.op=.slice t x none (some y) none) (ht:look t tb=some (.slice e sz by_ zs)) (hx:ev T x=some (.own id)) (hm:mem m id=some (.spare e' sz ys gs))
 (hy:ev T y=some (.v (.int k h))) (hN:h=(N:Int)) (hle:N<=ys.length+gs.length) (hpos:0 < N)
 (hk:WL P w0 ops rest ⟨(d,.own nx) :: T,(nx,some (.spare e' sz ((ys++gs).take N) ((ys++gs).drop N))) :: (id,none) :: m,nx',nt⟩ Q):WX P w0 ops o rest ⟨T,m,nx,nt⟩ Q:=by
 have hn'':=Nat.eq_of_beq_eq_true hn'
 subst hn''
 subst hN
 intro ρ a w hT hC
 have hxe:=hT.ev hx
 have hye:=hT.ev hy
 simp only [RelV] at hxe hye
 obtain ⟨g,cur,he,hB,hb,hcur,hmax,hall⟩:=hC.spare hm
 have hr:(execOp a.eval o).run P w=.ok (.value (.slice (some ⟨g,0,none⟩) N (ys.length+gs.length))) w:=by
  simp only [execOp,ho,hxe.2,he,Option.map_some,Option.map_none,hye,b0A (P:=P) (G t _ ht) (by omega:ys.length<=ys.length+gs.length) hle hpos w,Sem.run_bind,Result.andThen_ok,Sem.run_pure]
 have hsub:∀i r,mem ((id,none) :: m) i=some r→mem m i=some r/\i≠id:=λi r hr=>by
  grind [i8,d1]
 have hC2:RelC w0 ρ ((id,none) :: m) nx w:=hC.sub λi r hr=>(hsub i r hr).1
 have hbk:blk (ρ id)=some g:=by rw [he];rfl
 unfold Oper.wp
 rw [hr,Oper.upon_value,hd]
 refine hk (upd ρ nx (.slice (some ⟨g,0,none⟩) N (ys.length+gs.length))) _ w ((hT.add _).put hlt ?_) (hC2.addP (λ_=>Z) ?_ ?_ ?_)
 ·simp only [RelV]
  exact ⟨by omega,by rw [j4]⟩
 ·simp_all [RowRel,j4]
 ·intro i r hr b hbb hy'
  obtain ⟨h1,h2⟩:=hsub i r hr
  simp [blk] at hy'
  exact hC.foot_apart h1 hm h2 hbb (.inl (by rw [hbk,hy']))
 ·intro b hb'
  simp [blk] at hb'
  subst hb'
  exact hC.kept.2.2 id _ hm _ hbk
theorem c2z {id e sz:Nat} {ys gs:List (List Value)} (hm:mem m id=some (.spare e sz ys gs)) (hall:∀c∈ys,∀u∈c,u.oneCell'=true) (h:W P w0 c ⟨T,(id,some (.row e sz ys)) :: m,nx,nt⟩ Q):W P w0 c ⟨T,m,nx,nt⟩ Q:=by
 intro ρ a w hT hC
 obtain ⟨g,cur,he,hB,hb,hcur,hmax,hl⟩:=hC.spare hm
 refine h ρ a w hT (hC.retell hm ?_)
 have hly:∀c∈ys,c.length=sz:=λc hc=>hl c (List.mem_append_left _ hc)
 have hfl:=j9 (ys:=ys) (sz:=sz) hly
 have hfl2:=j9 (ys:=ys++gs) (sz:=sz) hl
 refine ⟨⟨hfl,.inr ⟨g,ys.length+gs.length,cur,he,hB,hb,by omega,hmax,?_,?_⟩⟩,λc hc=>⟨hly c hc,hall c hc⟩⟩
 ·have:=congrArg List.length hcur
  rw [hfl2,List.length_append] at this
  simpa using this
 ·rw [hcur,List.flatten_append,← hfl,List.take_append_of_le_length (Nat.le_refl _),List.take_length]
theorem a6r {dT sT ty e sz:Nat} {inf:TypeInfo} (hu:P.underlying dT=some (.slice e)) (hi:P.info? e=some inf) (hsz:inf.size=sz) {w:World} {g off dLen dCap:Nat} {a:Addr} {sLen sCap:Nat} {cur:Array Value} {t:TypeId} {vs:List (List Value)} (hg:w.heap[g]?=some (.cells cur t (0,0)))
 (hn:vs.length=Nat.min sLen dLen) (hl:∀c∈vs,c.length=sz/\∀u∈c,u.oneCell'=true) (hsrc:∀j v,vs.flatten[j]?=some v→w.cell? (a.add j)=some v) (hfit:off+vs.flatten.length<=cur.size) :
 (Builtin.copy_ #[dT,sT] ty #[.slice (some ⟨g,off,none⟩) dLen dCap,.slice (some a) sLen sCap]).run P w=.ok (goInt vs.length) (w.setRow g (cur.toList.take off++vs.flatten++cur.toList.drop (off+vs.flatten.length)).toArray):=by
 have hfl:=j9 (ys:=vs) (sz:=sz) (λc hc=>(hl c hc).1)
 have hf:=run_firstCells_some (P:=P) w sz vs.length a sLen sCap vs.flatten hfl hsrc
 have hst:=run_storeCells_at (P:=P) g off t vs.flatten 0 cur w hg (by simpa using hfit) (λu hu=>by
  obtain ⟨c,hc,hu⟩:=List.mem_flatten.1 hu
  exact (hl c hc).2 u hu)
 simp only [Nat.add_zero] at hst
 simp [Builtin.copy_,run_underlying hu,Builtin.lenOf,sizeOf,typeInfo,hi,hsz,← hn,hf,hst]
def SrcOK (m:List (Nat×Option Row)) (nx sz:Nat) (av:AV) (vs:List (List Value)):Prop :=
 ∀(w0:Base) ρ w y,RelC w0 ρ m nx w→RelV w0.w ρ nx av y→∃A cap,y=.slice A vs.length cap/\(0 < vs.length→∃ad,A=some ad/\∀j v,vs.flatten[j]?=some v→w.cell? (ad.add j)=some v)
theorem SrcOK.of {sz:Nat} {av:AV} {vs:List (List Value)} (hs:∀c∈vs,c.length=sz) (h:ArgOK m nx av (.lst sz vs)) (hpos:0 < sz):SrcOK m nx sz av vs:=by
 intro w0 ρ w y hC hy
 have hr:=h w0 ρ w y hC hy
 simp only [RelV] at hr
 obtain ⟨A,cap,he,_,hall,hA⟩:=hr
 refine ⟨A,cap,he,λh0=>?_⟩
 obtain ⟨ad,h1,_,h3⟩:=hA h0
 refine ⟨ad,h1,λj v hj=>?_⟩
 have hlt:j < vs.length * sz:=by rw [← j9 (sz:=sz) hs];exact (List.getElem?_eq_some_iff.1 hj).1
 have hdiv:j / sz < vs.length:=Nat.div_lt_of_lt_mul (by rw [Nat.mul_comm];exact hlt)
 have hmod:j % sz < sz:=Nat.mod_lt _ hpos
 have hc:vs[j / sz]?=some vs[j / sz]:=List.getElem?_eq_getElem hdiv
 have e1:j / sz * sz+j % sz=j:=by rw [Nat.mul_comm];exact Nat.div_add_mod j sz
 have h4:=J9 (ys:=vs) (sz:=sz) hs hc hmod
 grind
theorem SrcOK.spare {id e sz i n:Nat} {ys gs:List (List Value)} (hm:mem m id=some (.spare e sz ys gs)) (hle:i+n<=ys.length):SrcOK m nx sz (.sub id sz i n) ((ys.drop i).take n):=by
 intro w0 ρ w y hC hy
 simp only [RelV] at hy
 obtain ⟨hn,A,cap,rfl,hcap,hA,_⟩:=hy
 obtain ⟨g,cur,hρ,hB,hb,hcur,_,hall⟩:=hC.spare hm
 have hl:((ys.drop i).take n).length=n:=by rw [List.length_take,List.length_drop];omega
 refine ⟨A,cap,by rw [hl],λh0=>?_⟩
 rw [hl] at h0
 obtain ⟨g',l,c,hg,rfl⟩:=hA h0
 have hgg:g=g':=by rw [hρ] at hg;simp at hg;exact hg.1
 subst hgg
 refine ⟨_,Z,λj v hj=>?_⟩
 have hly:∀c∈ys,c.length=sz:=λc hc=>hall c (List.mem_append_left _ hc)
 have hd:(ys.drop i).flatten=ys.flatten.drop (i * sz):=Y9 hly J
 have hly2:∀c∈ys.drop i,c.length=sz:=λc hc=>hly c (List.mem_of_mem_drop hc)
 have ht:((ys.drop i).take n).flatten=(ys.drop i).flatten.take (n * sz):=Y8 hly2 (by rw [List.length_drop];omega)
 rw [ht,hd,List.getElem?_take] at hj
 split at hj
 ·rw [List.getElem?_drop] at hj
  rw [Addr.add_lit,P8 hb,hcur,List.flatten_append,List.getElem?_append_left (List.getElem?_eq_some_iff.1 hj).1]
  exact hj
 ·cases hj
theorem a6s {x y:Operand} {dT sT e sz by_ id n i:Nat} {zs:List Value} {ys vs:List (List Value)} {ay:AV} (G:Good P tb) (hd:o.dst=some d) (hlt:Nat.blt d nt=true) (ho:o.op=.call { callee:=.builtin .copy,args:=#[x,y],argTypes:=#[dT,sT] }) (ht:look dT tb=some (.slice e sz by_ zs))
 (hx:ev T x=some (.sub id sz i n)) (hm:mem m id=some (.row e sz ys)) (hy:ev T y=some ay) (hs:SrcOK m nx sz ay vs) (hvs:∀c∈vs,c.length=sz/\∀u∈c,u.oneCell'=true) (hn:vs.length<=n) (hle:i+n<=ys.length) (hpos:0 < vs.length)
 (hk:WL P w0 ops rest ⟨(d,.v (.int .i64 (vs.length:Int))) :: T,(id,some (.row e sz (ys.take i++vs++ys.drop (i+vs.length)))) :: m,nx,nt⟩ Q):WX P w0 ops o rest ⟨T,m,nx,nt⟩ Q:=by
 intro ρ a w hT hC
 obtain ⟨hu,_,inf,z,hi,hsz,_⟩:=G dT _ ht
 have hax:=hT.ev hx
 simp only [RelV] at hax
 obtain ⟨hid,A,cap,hex,hcap,hA,_⟩:=hax
 obtain ⟨g,l,c,hg,rfl⟩:=hA J
 obtain ⟨A',cap',hey,hsrc⟩:=hs w0 ρ w _ hC (hT.ev hy)
 obtain ⟨ad,rfl,hsrc2⟩:=hsrc hpos
 obtain ⟨hrow,hall⟩:=hC.row hm
 rcases hrow.2 with ⟨hnil,_⟩ | ⟨g',cp,cur,hsl,hB,hb,hcp,hcpm,hcur,htake⟩
 ·omega
 ·have hgg:g=g'/\l=ys.length/\c=cp:=by rw [hg] at hsl;simpa using hsl
  obtain ⟨rfl,rfl,rfl⟩:=hgg
  have hfl:=j9 (ys:=vs) (sz:=sz) (λc hc=>(hvs c hc).1)
  have hb1:(i+vs.length) * sz<=ys.length * sz:=Nat.mul_le_mul_right _ J
  have hb2:ys.length * sz<=cur.size:=by rw [hcur];exact Nat.mul_le_mul_right _ hcp
  rw [Nat.add_mul] at hb1
  have hrun:=a6r (P:=P) (sT:=sT) (ty:=o.type) (dLen:=n) (dCap:=cap) (sLen:=vs.length) (sCap:=cap') hu hi hsz hb (by simp only [Nat.min_def];split<;>omega) hvs hsrc2 (off:=i * sz) J
  have hr:(execOp a.eval o).run P w=.ok (.value (goInt vs.length)) (w.setRow g (cur.toList.take (i * sz)++vs.flatten++cur.toList.drop (i * sz+vs.flatten.length)).toArray):=by
   simp only [execOp,ho,resolve,invoke,builtin,Sem.run_bind,Sem.run_pure,Result.andThen_ok,List.map_toArray,List.map_cons,List.map_nil,hex,hey,hrun]
  unfold Oper.wp
  rw [hr,Oper.upon_value,hd]
  have hall':∀c∈ys.take i++vs++ys.drop (i+vs.length),c.length=sz/\∀u∈c,u.oneCell'=true:=by
   grind
  have hlen:(ys.take i++vs++ys.drop (i+vs.length)).length=ys.length:=by simp;omega
  refine hk ρ _ _ (hT.put hlt (by simp only [RelV];rfl)) (hC.change hm (by rw [hsl];rfl) (G0 w g _) hB ⟨⟨?_,.inr ⟨g,c,_,by rw [hlen];exact hsl,hB,setRow_heap w g cur _ e _ hb,by omega,hcpm,?_,?_⟩⟩,hall'⟩)
  ·rw [j9 (λc hc=>(hall' c hc).1)]
  ·simp [hfl];omega
  ·rw [hlen]
   simp only [List.flatten_append]
   rw [Y8 (λc hc=>(hall c hc).1) J,Y9 (λc hc=>(hall c hc).1) J,← htake,hfl]
   have hlt1:(List.take (i * sz) cur.toList).length=i * sz:=by rw [List.length_take];simp;omega
   simp only [List.take_append,List.take_take,List.drop_take,List.length_append,hlt1,hfl]
   rw [Nat.min_eq_left (by omega:i * sz<=ys.length * sz),Nat.min_eq_right (by omega:i * sz<=ys.length * sz)]
   rw [List.take_of_length_le (l:=vs.flatten) J,Nat.add_mul]
theorem a3V {x y:Operand} {dT sT e sz by_ id n i:Nat} {zs:List Value} {ys gs vs:List (List Value)} {ay:AV} (G:Good P tb) (hd:o.dst=some d) (hlt:Nat.blt d nt=true) (ho:o.op=.call { callee:=.builtin .copy,args:=#[x,y],argTypes:=#[dT,sT] }) (ht:look dT tb=some (.slice e sz by_ zs))
 (hx:ev T x=some (.sub id sz i n)) (hm:mem m id=some (.spare e sz ys gs)) (hy:ev T y=some ay) {L:Nat} {us:List (List Value)} (hs:SrcOK m nx sz ay us) (hL:Nat.min us.length n=L) (hvs:vs=us.take L) (hone:∀c∈vs,∀u∈c,u.oneCell'=true) (hszs:∀c∈vs,c.length=sz) (hle:i+n<=ys.length) (hpos:0 < L)
 (hk:WL P w0 ops rest ⟨(d,.v (.int .i64 (vs.length:Int))) :: T,(id,some (.spare e sz (ys.take i++vs++ys.drop (i+vs.length)) gs)) :: m,nx,nt⟩ Q):WX P w0 ops o rest ⟨T,m,nx,nt⟩ Q:=by
 intro ρ a w hT hC
 obtain ⟨hu,_,inf,z,hi,hsz,_⟩:=G dT _ ht
 have hax:=hT.ev hx
 simp only [RelV] at hax
 obtain ⟨hid,A,cap,hex,hcap,hA,_⟩:=hax
 have hmin:L<=us.length/\L<=n:=by simp only [Nat.min_def] at hL;split at hL<;>omega
 obtain ⟨g,l,c,hg,rfl⟩:=hA J
 obtain ⟨A',cap',hey,hsrc⟩:=hs w0 ρ w _ hC (hT.ev hy)
 obtain ⟨ad,rfl,hsrc2⟩:=hsrc J
 obtain ⟨g',cur,hsl,hB,hb,hcur,hmax,hall⟩:=hC.spare hm
 have hgg:g=g':=by rw [hg] at hsl;simp at hsl;exact hsl.1
 subst hgg
 have hvl:vs.length=L:=by rw [hvs,List.length_take];omega
 have hfl:=j9 (ys:=vs) (sz:=sz) hszs
 have hcl:cur.toList.length=(ys.length+gs.length) * sz:=by rw [hcur,j9 hall,List.length_append]
 have hcs:cur.size=(ys.length+gs.length) * sz:=by rw [← hcl];simp
 have hb1:(i+vs.length) * sz<=(ys.length+gs.length) * sz:=Nat.mul_le_mul_right _ J
 rw [Nat.add_mul] at hb1
 have hsrc':∀j v,vs.flatten[j]?=some v→w.cell? (ad.add j)=some v:=λj v hj=>by
  refine hsrc2 j v ?_
  have:us.flatten=vs.flatten++(us.drop L).flatten:=by rw [hvs,← List.flatten_append,List.take_append_drop]
  grind
 have hrun:=a6r (P:=P) (sT:=sT) (ty:=o.type) (dLen:=n) (dCap:=cap) (sLen:=us.length) (sCap:=cap') hu hi hsz hb (by rw [hvl,hL]) (λc hc=>⟨hszs c hc,hone c hc⟩) hsrc' (off:=i * sz) J
 have hr:(execOp a.eval o).run P w=.ok (.value (goInt vs.length)) (w.setRow g (cur.toList.take (i * sz)++vs.flatten++cur.toList.drop (i * sz+vs.flatten.length)).toArray):=by
  simp only [execOp,ho,resolve,invoke,builtin,Sem.run_bind,Sem.run_pure,Result.andThen_ok,List.map_toArray,List.map_cons,List.map_nil,hex,hey,hrun]
 unfold Oper.wp
 rw [hr,Oper.upon_value,hd]
 have hlen:(ys.take i++vs++ys.drop (i+vs.length)).length=ys.length:=by simp;omega
 have hly:∀c∈ys,c.length=sz:=λc hc=>hall c (List.mem_append_left _ hc)
 refine hk ρ _ _ (hT.put hlt (by simp only [RelV];rfl)) (hC.change hm (by rw [hsl];rfl) (G0 w g _) hB ?_)
 simp only [RowRel]
 refine ⟨g,_,by rw [hlen];exact hsl,hB,setRow_heap w g cur _ e _ hb,?_,by rw [hlen];exact hmax,λc hc=>?_⟩
 ·rw [hcur,List.flatten_append,hfl]
  have f1:=Y8 (ys:=ys) (sz:=sz) hly (by omega:i<=ys.length)
  have f2:=Y9 (ys:=ys) (sz:=sz) hly (by omega:i+vs.length<=ys.length)
  have fy:=j9 (ys:=ys) (sz:=sz) hly
  have hb3:(i+vs.length) * sz<=ys.length * sz:=Nat.mul_le_mul_right _ J
  rw [Nat.add_mul] at hb3
  rw [List.take_append_of_le_length J,List.drop_append_of_le_length J]
  simp only [List.flatten_append,f1,f2,Nat.add_mul,List.append_assoc]
 grind
theorem b0B {x y:Operand} {t tn tr e sz by_ id i k:Nat} {zs:List Value} {zn:Value} {ys gs:List (List Value)} {kk:IntKind} {q:Int} (G:Good P tb) (nx':Nat) (hn':Nat.beq nx' (Nat.succ nx)=true) (hd:o.dst=some d) (hlt:Nat.blt d nt=true) (ho:o.op=.call { callee:=.builtin .append,args:=#[x,y],argTypes:=#[t,tn] }) (ht:look t tb=some (.slice e sz by_ zs)) (htn:look tn tb=some (.flat (.int .i64) zn))
 (hx:ev T x=some (.sub id sz 0 i)) (hm:mem m id=some (.spare tr sz ys gs)) (hy:ev T y=some (.v (.int kk q))) (hq:q=(k:Int)) (hk0:0 < k) (hi:i<=ys.length) (hroom:ys.length+gs.length < i+k) (hbig:(i+k) * by_<=140737488355328) (hbig2:i+k<=9223372036854775807) (hone:∀c∈ys,∀u∈c,u.oneCell'=true) (hpos:0 < ys.length)
 (hk:WL P w0 ops rest ⟨(d,.own nx) :: T,(nx,some (.row e sz (ys.take i++List.replicate k zs))) :: m,nx',nt⟩ Q):WX P w0 ops o rest ⟨T,m,nx,nt⟩ Q:=by
 have hn'':=Nat.eq_of_beq_eq_true hn'
 subst hn''
 subst hq
 intro ρ a w hT hC
 obtain ⟨hu,_,inf,z,hinf,hsz,hby,hz,hzc,hzl,hzpos,hzone⟩:=G t _ ht
 have htn':P.underlying tn=some (.int .i64):=(G tn _ htn).1
 have hax:=hT.ev hx
 have hay:=hT.ev hy
 simp only [RelV] at hax hay
 obtain ⟨hid,A,cap,hex,hcap,hA,hA0⟩:=hax
 obtain ⟨l0,hl0,_⟩:=hA0 trivial
 obtain ⟨g,cur,hsl,hB,hb,hcur,hmax,hall⟩:=hC.spare hm
 have hAg:A=some ⟨g,0,none⟩/\cap=ys.length+gs.length:=by rw [hl0] at hsl;simp at hsl;exact ⟨hsl.1,hsl.2.2⟩
 obtain ⟨rfl,rfl⟩:=hAg
 have hly:∀c∈ys,c.length=sz:=λc hc=>hall c (List.mem_append_left _ hc)
 have hti:(ys.take i).length=i:=by rw [List.length_take];omega
 have hft:(ys.take i).flatten=ys.flatten.take (i * sz):=Y8 hly hi
 have hfl:(ys.take i).flatten.length=i * inf.size:=by rw [j9 (sz:=sz) (λc hc=>hly c (List.mem_of_mem_take hc)),hti,hsz]
 have hold:(Builtin.firstCells inf.size i (.slice (some ⟨g,0,none⟩) i (ys.length+gs.length))).run P w.drew=.ok (ys.take i).flatten.toArray w.drew :=
  run_firstCells_some w.drew inf.size i ⟨g,0,none⟩ i _ (ys.take i).flatten hfl (λj v hj=>by
   have hb':w.drew.heap[g]?=some (.cells cur tr (0,0)):=hb
   rw [Addr.add_lit,P8 hb',Nat.zero_add,hcur,List.flatten_append]
   rw [hft,List.getElem?_take] at hj
   split at hj
   ·rw [List.getElem?_append_left (List.getElem?_eq_some_iff.1 hj).1];exact hj
   ·cases hj)
 have hrun:=Lib.run_append_grow_zeros (P:=P) w t tn o.type e inf z kk .i64 hu htn' hinf hz (some ⟨g,0,none⟩) i (ys.length+gs.length) (ys.take i).flatten hold k hk0 J hroom J (by
  rw [hby]
  have:k * by_<=(i+k) * by_:=Nat.mul_le_mul_right _ J
  omega) (by rw [hby];exact growslice_fits hroom hbig)
 have hr:(execOp a.eval o).run P w=.ok (.value (.slice (some ⟨w.heap.size,0,none⟩) (i+k) (grownCap w (i+k) (ys.length+gs.length) e))) (w.drew.alloc (.cells ((ys.take i).flatten.toArray++Builtin.zeroCells z.cells k++Builtin.zeroCells z.cells (grownCap w (i+k) (ys.length+gs.length) e - (i+k))) e)):=by
  simp only [execOp,ho,resolve,invoke,builtin,Sem.run_bind,Sem.run_pure,Result.andThen_ok,List.map_toArray,List.map_cons,List.map_nil,hex,hay,hrun]
 unfold Oper.wp
 rw [hr,Oper.upon_value,hd]
 have hb2:Below w.heap.size w (w.drew.alloc (.cells ((ys.take i).flatten.toArray++Builtin.zeroCells z.cells k++Builtin.zeroCells z.cells (grownCap w (i+k) (ys.length+gs.length) e - (i+k))) e)):=((Below.refl _ _).drew).alloc (Nat.le_refl _) _
 have hge:=grownCap_ge w (i+k) (ys.length+gs.length) e
 have hle:=grownCap_le_maxLen w (i+k) (ys.length+gs.length) e (by unfold maxLen;omega)
 have hzf:(Builtin.zeroCells z.cells k).toList=(List.replicate k zs).flatten:=by rw [hzc];exact a8H J k
 have hzs:∀n,(Builtin.zeroCells z.cells n).size=n * sz:=λn=>by
  have h:=congrArg List.length (a8H (zs:=zs) J n)
  rw [j9 (sz:=zs.length) (λc hc=>by rw [(List.mem_replicate.1 hc).2]),List.length_replicate,hzl] at h
  rw [hzc]
  simpa using h
 refine hk (upd ρ nx (.slice (some ⟨w.heap.size,0,none⟩) (i+k) (grownCap w (i+k) (ys.length+gs.length) e))) _ _ ((hT.add _).put hlt ?_) (hC.addF hb2 (λ_=>Z) ?_ (λb hb=>(by simp [blk] at hb;subst hb;exact Nat.le_refl _)))
 ·simp only [RelV]
  exact ⟨by omega,by rw [j4]⟩
 ·have hlen:(ys.take i++List.replicate k zs).length=i+k:=by rw [List.length_append,hti,List.length_replicate]
  have hall':∀c∈ys.take i++List.replicate k zs,c.length=sz/\∀u∈c,u.oneCell'=true:=λc hc=>by
   rcases List.mem_append.1 hc with hc | hc
   ·exact ⟨hly c (List.mem_of_mem_take hc),hone c (List.mem_of_mem_take hc)⟩
   ·rw [(List.mem_replicate.1 hc).2];exact ⟨hzl,hzone⟩
  have hfl3:=j9 (ys:=ys.take i++List.replicate k zs) (sz:=sz) (λc hc=>(hall' c hc).1)
  refine ⟨⟨hfl3,.inr ⟨w.heap.size,_,_,by rw [j4,hlen],hC.below.size,heap_alloc_new w.drew _,by rw [hlen];exact hge,hle,?_,?_⟩⟩,hall'⟩
  ·simp only [Array.size_append,hzs,List.size_toArray,hfl,hsz]
   rw [← Nat.add_mul,← Nat.add_mul]
   congr 1
   omega
  ·rw [hlen] at hfl3 ⊢
   simp only [Array.toList_append]
   rw [List.take_append_of_le_length (by simp [hzs,hfl,hsz,Nat.add_mul]),hzf,← List.flatten_append,← hfl3,List.take_length]
theorem b1D {x y:Operand} {f:FuncId} {fn:Func} {ts:Array TypeId} {t tr e e' sz by_ id id' i n sz':Nat} {zs:List Value} {ys ys' gs':List (List Value)} (G:Good P tb) (hf:P.funcs[f]?=some fn) (hname:(fn.name == "runtime.NumGoroutine")=false) (hb:fn.body.isNone=true) (hn:Extern.findNext fn=none) (he:Extern.find fn=some (Extern.SlicesOverlaps.overlaps #[t,t] #[tr]))
 (ho:o.op=.call { callee:=.value (.func f),args:=#[x,y],argTypes:=ts }) (ht:look t tb=some (.slice e sz by_ zs)) (hx:ev T x=some (.own id)) (hm:mem m id=some (.row e' sz ys)) (hpos:0 < ys.length) (hy:ev T y=some (.sub id' sz' i n)) (hm':mem m id'=some (.spare e sz ys' gs')) (hne:Nat.beq id id'=false) (hn0:0 < n) (hsz:0 < sz) (hpos':0 < ys'.length):QStep P o T m nx nt (.v (.bool false)) :=
 QStep.run λw0 ρ a w hT hC=>by
  have h1:=hT.ev hx
  have h2:=hT.ev hy
  simp only [RelV] at h1 h2
  obtain ⟨hid',A,cap,hey,hcap,hA,_⟩:=h2
  obtain ⟨g',l,c,hg',rfl⟩:=hA hn0
  refine ⟨.bool false,by simp only [RelV],λw' hC'=>?_⟩
  obtain ⟨hrow,_⟩:=hC'.row hm
  obtain ⟨g2,cur',hsl',hB',hb',hcur',hmax',hall'⟩:=hC'.spare hm'
  have hgg:g'=g2:=by rw [hg'] at hsl';simp at hsl';exact hsl'.1
  subst hgg
  rcases hrow.2 with ⟨_,hz⟩ | ⟨g,cp,cur,hsl,hB,hbb,hcp,hcpm,hcur,_⟩
  ·omega
  ·have hgne:g≠g':=λe=>hC'.apart id id' _ _ hm hm' (J1 hne) g (by rw [hsl];rfl) (by rw [hsl',e];rfl)
   obtain ⟨_,_,inf,z,hinf,hs2,_⟩:=G t _ ht
   have hu:=(G t _ ht).1
   have hk:cur'.size≠0:=by
    have h3:=congrArg List.length hcur'
    rw [j9 hall',List.length_append] at h3
    simp at h3
    rw [h3]
    exact Nat.pos_iff_ne_zero.mp (Nat.mul_pos J hsz)
   have hrun:=Lib.run_overlaps_apart (P:=P) w' t tr e hu sz (λw=>by simp [Go.sizeOf,typeInfo,hinf,hs2]) ⟨g,0,none⟩ ⟨g',i * sz',none⟩ ys.length cp n cap hgne e' e cur.size cur'.size (by simp [World.shape?,hbb]) (by simp [World.shape?,hb']) hk (by simp [World.frozen?,hbb]) (by simp [World.frozen?,hbb])
   have hext:=run_callFunc_extern hf hname hb hn he #[a.eval x,a.eval y] w'
   rw [h1.2,hsl,hey] at hext
   have e1:(callFunc f #[a.eval x,a.eval y]).run P w'=.ok (.value (.bool false)) w':=by
    simp_all
   have e2:(execOp a.eval o).run P w'=(callFunc f #[a.eval x,a.eval y]).run P w':=by
    have hev:a.eval (.func f)=.func (.func f) #[] #[]:=rfl
    simp only [execOp,ho,resolve,hev,Deferred.ofValue,invoke,List.map_toArray,List.map_cons,List.map_nil]
    simp
   rw [e2,e1]
theorem b4D {α:Type} {l z:List α} {v:α} {i:Nat} (hi:i<=l.length) (hz:z.length=l.length+1 - i) :
 (((l.take i++z).take i++[v]++(l.take i++z).drop (i+1)).take (i+1)++l.drop i++((l.take i++z).take i++[v]++(l.take i++z).drop (i+1)).drop (i+1+(l.length - i)))=l.take i++[v]++l.drop i:=by
 have hti:(l.take i).length=i:=by rw [List.length_take];omega
 have e1:(l.take i++z).take i=l.take i:=by rw [List.take_append_of_le_length J,List.take_take,Nat.min_self]
 have hlen:(l.take i++[v]++(l.take i++z).drop (i+1)).length=l.length+1:=by simp;omega
 rw [e1]
 have e2:(l.take i++[v]++(l.take i++z).drop (i+1)).take (i+1)=l.take i++[v]:=by
  grind
 (simp_all;omega)
theorem b0C {α:Type} {l g:List α} {v:α} {i:Nat} (hi:i<=l.length) (hg:0 < g.length) :
 ((((l++g).take (l.length+1)).take (i+1)++l.drop i++((l++g).take (l.length+1)).drop (i+1+(l.length - i))).take i++[v]++(((l++g).take (l.length+1)).take (i+1)++l.drop i++((l++g).take (l.length+1)).drop (i+1+(l.length - i))).drop (i+1))=l.take i++[v]++l.drop i:=by
 have hY:((l++g).take (l.length+1)).length=l.length+1:=by simp;omega
 have e0:((l++g).take (l.length+1)).drop (i+1+(l.length - i))=[]:=List.drop_of_length_le J
 grind
theorem b6W {ρ:Nat→Value} {a:Act} {w:World} {tx id:Nat} {row:Row} {T':List (Nat×AV)} (hT:RelT w0.w ρ T nx nt a) (hC:RelC w0 ρ m nx w) (hx:look tx T=some (.own id)) (hm:mem m id=some row) (hf:rowRefs 0 row=true) (hT':a3U id T [] []=some T') :
 RelT w0.w (upd ρ nx (ρ id)) ((tx,.own nx) :: T') (nx+1) nt a/\RelC w0 (upd ρ nx (ρ id)) ((nx,some row) :: (id,none) :: m) (nx+1) w:=by
 have hxe:=hT.tmps _ _ hx
 simp only [RelV] at hxe
 have hsub:∀i r,mem ((id,none) :: m) i=some r→mem m i=some r/\i≠id:=λi r hr=>by
  grind [i8,d1]
 have hC2:RelC w0 ρ ((id,none) :: m) nx w:=hC.sub λi r hr=>(hsub i r hr).1
 refine ⟨⟨λt x hx'=>?_,hT.size,hT.defers⟩,hC2.add ?_ ?_ ?_⟩
 ·by_cases e:tx=t
  ·subst e
   simp [look] at hx'
   subst hx'
   simp only [RelV]
   exact ⟨by omega,by rw [j4];exact hxe.2⟩
  ·have hl:look t T'=some x:=by simpa [look,show tx.beq t=false from Bool.eq_false_iff.mpr (λh=>e (Nat.eq_of_beq_eq_true h))] using hx'
   rw [a4S] at hT'
   cases hT'
   rcases P0 _ _ _ _ _ hl (by simp) with h2 | ⟨_,h2,h3⟩
   ·simp [look] at h2
   ·exact (hT.add (ρ id)).tmps t x h2
 ·exact RowRel.move (w0:=w0) (hC.rows id _ hm).2 hf (j4 _ _ _)
 ·intro b hb
  refine ⟨λi r hr hb'=>?_,?_⟩
  ·obtain ⟨h1,h2⟩:=hsub i r hr
   exact hC.foot_apart h1 hm h2 hb' hb
  ·rcases hb with hb | ⟨p,hb⟩
   ·exact hC.kept.2.2 id _ hm _ hb
   ·exact (hC.inner id _ hm p b hb).1
 ·intro p b hb
  obtain ⟨_,_,_,g4⟩:=hC.inner id _ hm p b hb
  grind
theorem J2 {tx id:Nat} {row:Row} {T':List (Nat×AV)} (nx':Nat) (hn':Nat.beq nx' (Nat.succ nx)=true) (hx:look tx T=some (.own id)) (hm:mem m id=some row) (hT':a3U id T [] []=some T') (hf:rowRefs 0 row=true)
 (hk:WX P w0 ops o rest ⟨(tx,.own nx) :: T',(nx,some row) :: (id,none) :: m,nx',nt⟩ Q):WX P w0 ops o rest ⟨T,m,nx,nt⟩ Q:=by
 have hn'':=Nat.eq_of_beq_eq_true hn'
 subst hn''
 intro ρ a w hT hC
 obtain ⟨h1,h2⟩:=b6W hT hC hx hm hf hT'
 exact hk _ a w h1 h2
theorem c2A {α:Type} {L L0:List α} {p:α→Prop} (h:L=L0) (h0:∀c∈L0,p c):∀c∈L,p c:=h▸h0
theorem b6X {α:Type} {l g:List α} {i A B L N:Nat} (hi:i<=l.length) (hA:A=i) (hB:L<=B) (hL:L=l.length - i) (hN:N=l.length+1):l.drop i=((((l++g).take N).drop A).take B).take L:=by
 grind
end
end Go.Rf
namespace Go.Rf
open Go
section
variable {α:Type} [Inhabited α] {f:α→List Value} {g:Nat→α} {xs:List α} {i:Nat}
end
variable {f:Nat→Bool} {n:Nat}
theorem a1u (h:I0 f n≠-1):∃i:Nat,I0 f n=(i:Int)/\i < n/\(∀j,j < i→f j=false)/\f i=true:=by
 unfold I0 at h ⊢
 cases hf:(List.range n).find? f with
 | none=>simp [hf] at h
 | some i =>
  rw [List.find?_range_eq_some] at hf
  grind
theorem b2r (h:I0 f n=-1):∀i,i < n→f i=false:=by
 grind [I0]
section
variable {α:Type} [Inhabited α] {f:α→List Value} {p:α→Bool} {xs:List α} {j:Nat}
end
end Go.Rf
namespace Go.Rf
open Go Go.RowKit
section
variable {P:Program} [Env P] {w0:Base} {T:List (Nat×AV)} {m:List (Nat×Option Row)} {nx nt:Nat} {Q:Exit→St→Prop} {c:Code}
theorem b6Y {id e sz:Nat} {ys:List (List Value)} (ys':List (List Value)) (hm:mem m id=some (.row e sz ys)) (h:ys=ys') (hk:W P w0 c ⟨T,(id,some (.row e sz ys')) :: m,nx,nt⟩ Q):W P w0 c ⟨T,m,nx,nt⟩ Q:=by
 subst h
 intro ρ a w hT hC
 exact hk ρ a w hT (hC.retell hm (hC.rows id _ hm).2)
end
variable {S S':St} {id k:Nat}
theorem b1E {p:Nat→Prop} {i:Nat} (h:∀j,j < i→p j) (hi:p i):∀j,j < i+1→p j:=r5 h hi
def Gh (w0:Base) (S S':St):Prop:=∀ρ a w,RelT w0.w ρ S.T S.nx S.nt a→RelC w0 ρ S.m S.nx w→∃ρ',RelT w0.w ρ' S'.T S'.nx S'.nt a/\RelC w0 ρ' S'.m S'.nx w
section
variable {P:Program} [Env P] {w0:Base} {ops:Array Oper} {tb:List (Nat×TyI)} {o:Oper} {rest:List Oper} {T:List (Nat×AV)} {m m':List (Nat×Option Row)} {nx nt d:Nat} {Q:Exit→St→Prop} {c:Code}
theorem A7 (h:Gh w0 S S') (hk:W P w0 c S' Q):W P w0 c S Q:=λρ a w hT hC=>let ⟨ρ',h1,h2⟩:=h ρ a w hT hC;hk ρ' a w h1 h2
theorem m6 (h:Gh w0 S S') (hk:WL P w0 ops rest S' Q):WL P w0 ops rest S Q:=λρ a w hT hC=>let ⟨ρ',h1,h2⟩:=h ρ a w hT hC;hk ρ' a w h1 h2
theorem v6 (h:Gh w0 S S') (hk:WX P w0 ops o rest S' Q):WX P w0 ops o rest S Q:=λρ a w hT hC=>let ⟨ρ',h1,h2⟩:=h ρ a w hT hC;hk ρ' a w h1 h2
theorem a2q {m0:List (Nat×Option Row)} {fuel:Nat} {listed:Array Bool} {K:St→Prop} (h:Gh w0 S S') (hk:WA P w0 ops m0 fuel listed S' K):WA P w0 ops m0 fuel listed S K:=λhs ρ a w hT hC hS=>let ⟨ρ',h1,h2⟩:=h ρ a w hT hC;hk hs ρ' a w h1 h2 hS
theorem Gh.trans {S'':St} (h:Gh w0 S S') (h':Gh w0 S' S''):Gh w0 S S'':=λρ a w hT hC=>let ⟨ρ',h1,h2⟩:=h ρ a w hT hC;h' ρ' a w h1 h2
theorem b1F {α:Type} {c cs:List α} {j:Nat} (h:k+cs.length<=c.length):(c.take k++cs++c.drop (k+cs.length))[j]?=if k<=j/\j < k+cs.length then cs[j - k]? else c[j]?:=by
 have hk:(c.take k).length=k:=by rw [List.length_take];omega
 grind
theorem b1G {α:Type} {c cs:List α} (h:k+cs.length<=c.length):(c.take k++cs++c.drop (k+cs.length)).length=c.length:=by simp;omega
def a6t:List Nat→List (Nat×Option Row)→List (Nat×Option Row)
 | [],m=>m
 | i :: r,m=>(i,none) :: a6t r m
theorem a3t:∀{ids:List Nat} {id:Nat} {r:Row},mem (a6t ids m) id=some r→id∉ids/\mem m id=some r
 | [],_,_,h=>⟨by simp,h⟩
 | i :: ids,id,r,h=>by
  simp only [a6t] at h
  by_cases e:i=id
  ·subst e;rw [i8] at h;cases h
  ·rw [d1 e] at h
   obtain ⟨h1,h2⟩:=a3t h
   grind
theorem RelC.renest {ρ:Nat→Value} {w w':World} {ids:List Nat} {row row':Row} {v':Value} (hC:RelC w0 ρ m nx w) (hp:w0.n0<=id∨v'=ρ id) (hm:mem m id=some row) (hf:freeM id m=true∨v'=ρ id) (hob:blk (ρ id)=(ρ id).ownBlock) (hob':blk v'=v'.ownBlock) (hid:id∉ids)
 (hgr:w.grownBy w' (ρ id).ownBlock) (hat:v'.ownBlock=(ρ id).ownBlock∨v'.ownBlock=some w.heap.size) (hrow':RowRel w0 (upd ρ id v') nx w' id row')
 (hmem:∀p b,inn w' v' row' p=some b→(∃p0,inn w (ρ id) row p0=some b)∨∃id' r',id'∈ids/\mem m id'=some r'/\O1 w (ρ id') r' b) (hinj:∀p p' b,inn w' v' row' p=some b→inn w' v' row' p'=some b→p=p'):RelC w0 (upd ρ id v') (a6t ids ((id,some row') :: m)) nx w':=by
 have hs:∀i r,mem (a6t ids ((id,some row') :: m)) i=some r→(i=id/\r=row')∨(i≠id/\i∉ids/\mem m i=some r):=λi r hr=>by
  obtain ⟨h1,h2⟩:=a3t hr
  by_cases e:id=i
  ·subst e;rw [i8] at h2;cases h2;exact .inl ⟨Z,Z⟩
  ·rw [d1 e] at h2;exact .inr ⟨Ne.symm e,h1,h2⟩
 have hval:∀i,i≠id→upd ρ id v' i=ρ i:=λi hi=>l7 ρ _ hi
 have hBg:∀k,(ρ id).ownBlock=some k→w0.w.heap.size<=k:=λk hk=>((hC.rows id row hm).2.blk_lt (by rw [hob];exact hk)).1
 have hother:∀i r,mem m i=some r→i≠id→∀b,O1 w (ρ i) r b→w'.heap[b]?=w.heap[b]?:=λi r hr hne b hb=>by
  refine hgr.block b (hC.foot_lt hr hb) λe=>?_
  rw [← hob] at e
  exact hC.foot_apart hr hm hne hb (.inl e.symm)
 have hmain:∀b,blk v'=some b→blk (ρ id)=some b∨b=w.heap.size:=λb hb=>by
  grind
 have hinn:∀i r,mem m i=some r→i≠id→∀p,inn w' (ρ i) r p=inn w (ρ i) r p:=λi r hr hne=>U2 λb hb=>hother i r hr hne b (.inl hb)
 have hwas:∀p b,inn w' v' row' p=some b→∃i r,mem m i=some r/\(i=id∨i∈ids)/\O1 w (ρ i) r b/\(i=id→∃p0,inn w (ρ id) r p0=some b):=λp b hb=>by
  rcases hmem p b hb with ⟨p0,h⟩ | ⟨id',r',h1,h2,h3⟩
  ·exact ⟨id,row,hm,.inl Z,.inr ⟨p0,h⟩,λ_=>⟨p0,h⟩⟩
  grind
 refine ⟨λi r hr=>?_,λi i' r r' hr hr' hne b hb=>?_,hC.below.grown hgr hC.below.size hBg,⟨hC.pin.1,λi hi=>?_⟩,⟨Nat.le_trans hC.kept.1 hgr.size,λb hk=>(hgr.block b (Nat.lt_of_lt_of_le (w0.kb b hk) hC.kept.1) (λe=>hC.kept.2.2 id _ hm b (by rw [hob];exact e.symm) hk)).trans (hC.kept.2.1 b hk),λi r hr b hb hk=>?_⟩,λi r hr p b hb=>?_⟩
 ·rcases hs i r hr with ⟨rfl,rfl⟩ | ⟨h1,h2,h3⟩
  ·exact ⟨(hC.rows i row hm).1,hrow'⟩
  ·obtain ⟨h4,h5⟩:=hC.rows i r h3
   have h6:=h5.frame (λb hb=>hother i r h3 h1 b (.inl hb)) λp b hb=>hother i r h3 h1 b (.inr ⟨p,hb⟩)
   refine ⟨h4,?_⟩
   rcases hf with hf | hf
   ·exact h6.updRho hf h3 h1
   ·subst hf
    have e:upd ρ id (ρ id)=ρ:=by funext j;unfold upd;split<;>simp_all
    rw [e];exact h6
 ·rcases hs i r hr with ⟨rfl,rfl⟩ | ⟨h1,h2,h3⟩
  ·rcases hs i' r' hr' with ⟨rfl,rfl⟩ | ⟨g1,g2,g3⟩
   ·exact absurd Z hne
   ·rw [j4] at hb
    rw [hval i' g1]
    rcases hmain b hb with h | h
    ·exact hC.apart i i' _ _ hm g3 hne b h
    ·intro hb';have:=hC.lt g3 hb';omega
  ·rw [hval i h1] at hb
   rcases hs i' r' hr' with ⟨rfl,rfl⟩ | ⟨g1,g2,g3⟩
   ·rw [j4]
    intro hb'
    rcases hmain b hb' with h | h
    ·exact hC.apart i i' _ _ h3 hm hne b hb h
    ·have:=hC.lt h3 hb;omega
   ·rw [hval i' g1]
    exact hC.apart i i' _ _ h3 g3 hne b hb
 ·by_cases e:i=id
  ·subst e
   rcases hp with hp | hp
   ·omega
   ·rw [j4,hp];exact hC.pin.2 i hi
  ·rw [hval i e];exact hC.pin.2 i hi
 ·rcases hs i r hr with ⟨rfl,rfl⟩ | ⟨h1,h2,h3⟩
  ·rw [j4] at hb
   rcases hmain b hb with h | h
   ·exact hC.kept.2.2 i _ hm b h hk
   ·subst h;exact hC.fresh (Nat.le_refl _) hk
  ·rw [hval i h1] at hb
   exact hC.kept.2.2 i r h3 b hb hk
 ·rcases hs i r hr with ⟨rfl,rfl⟩ | ⟨h1,h2,h3⟩
  ·rw [j4] at hb
   obtain ⟨j,rj,g1,g2,g3,g3'⟩:=hwas p b hb
   refine ⟨?_,?_,Nat.lt_of_lt_of_le (hC.foot_lt g1 g3) hgr.size,λi' r' hr'=>?_⟩
   ·rcases g3 with g3 | ⟨p0,g3⟩
    ·exact hC.kept.2.2 j rj g1 b g3
    ·exact (hC.inner j rj g1 p0 b g3).1
   ·rcases g3 with g3 | ⟨p0,g3⟩
    ·exact ((hC.rows j rj g1).2.blk_lt g3).1
    ·exact (hC.inner j rj g1 p0 b g3).2.1
   ·rcases hs i' r' hr' with ⟨rfl,rfl⟩ | ⟨q1,q2,q3⟩
    ·rw [j4]
     refine ⟨λhb'=>?_,λp' hp'=>⟨Z,hinj p p' b hb hp'⟩⟩
     rcases hmain b hb' with h | h
     ·by_cases e:j=i'
      ·obtain ⟨p0,h0⟩:=g3' e
       subst e
       exact hC.blkne g1 hm h0 h
      ·exact hC.foot_apart g1 hm e g3 (.inl h)
     ·have:=hC.foot_lt g1 g3;omega
    ·rw [hval i' q1]
     have hji:j≠i':=λe=>by
      grind
     refine ⟨λhb'=>hC.foot_apart g1 q3 hji g3 (.inl hb'),λp' hp'=>?_⟩
     rw [hinn i' r' q3 q1] at hp'
     exact absurd (.inr ⟨p',hp'⟩) (hC.foot_apart g1 q3 hji g3)
  ·rw [hval i h1,hinn i r h3 h1] at hb
   obtain ⟨g1,g2,g3,g4⟩:=hC.inner i r h3 p b hb
   refine ⟨g1,g2,Nat.lt_of_lt_of_le g3 hgr.size,λi' r' hr'=>?_⟩
   rcases hs i' r' hr' with ⟨rfl,rfl⟩ | ⟨q1,q2,q3⟩
   ·rw [j4]
    refine ⟨λhb'=>?_,λp' hp'=>?_⟩
    ·grind
    ·obtain ⟨j,rj,k1,k2,k3,_⟩:=hwas p' b hp'
     have hij:i≠j:=λe=>by
      grind
     exact absurd k3 (hC.foot_apart h3 k1 hij (.inr ⟨p,hb⟩))
   grind
end
end Go.Rf
