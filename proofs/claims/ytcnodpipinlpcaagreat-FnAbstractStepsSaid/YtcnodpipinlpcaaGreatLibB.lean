/- Texts merged into one: RfG, RfH, RfM, RfN, RfO, RfP, RfS, RfJ, RfT, RfI, RfK, Rf9, RfU, RfW, Rf0, RfXA, RfXB, RfXD, RfXF, RfX, RfL. -/
import Derived.Test.YtcnodpipinlpcaaGreatLibA
import Derived.Deep.LoopGhost
import Derived.Deep.Slices
import Derived.Deep.Fields
import Derived.ChangeSame
import Derived.Lib.SmallJoins
import Derived.ChangeOld
import Derived.OrdersHeld
import Derived.Laws.StructEq
import Derived.Lib.AppendZerosOnto
import Derived.Lib.Overlaps
import Derived.Laws.Externs
set_option linter.unusedSectionVars false
set_option linter.unusedSimpArgs false
set_option linter.unusedVariables false
namespace Go.Rf
open Go Go.RowKit
section
variable {P:Program} [Env P] {w0:Base} {ops:Array Oper} {tb:List (Nat×TyI)} {o:Oper} {rest:List Oper} {T:List (Nat×AV)} {m:List (Nat×Option Row)} {nx nt d:Nat} {r:AV} {Q:Exit→St→Prop}
def a6m (T:List (Nat×AV)) (dflt:Int):Option Operand→Option Int
 | none=>some dflt
 | some x=>match ev T x with
  | some (.v (.int _ i))=>some i
  | _=>none
theorem a5T {w0:World} {ρ:Nat→Value} {a:Act} (hT:RelT w0 ρ T nx nt a) {dflt i:Int} {x:Option Operand} (h:a6m T dflt x=some i):(x.map a.eval=none∧i=dflt)∨∃ k,x.map a.eval=some (.int k i):=by
 cases x with
 | none=>simp [a6m] at h;exact .inl ⟨rfl,h.symm⟩
 | some x =>
  simp only [a6m] at h
  split at h
  ·rename_i k i' he
   cases h
   have:=hT.ev he
   simp only [RelV] at this
   exact .inr ⟨k,by simp [this]⟩
  ·cases h
theorem a8G {w0:World} {t e sz by_:Nat} {zs:List Value} (G:TyOK P t (.slice e sz by_ zs)) {ρ:Nat→Value} {a:Act} (hT:RelT w0 ρ T nx nt a) {lo hi:Option Operand} {l h:Int} {A:Option Addr} {n cap:Nat} (hl:a6m T 0 lo=some l) (hh:a6m T n hi=some h)
 (h0:0≤l) (h1:l≤h) (h2:h≤n) (hc:n≤cap) (w:World) :
 (Instr.sliceAt t (.slice A n cap) (lo.map a.eval) (hi.map a.eval) none).run P w=.ok (.slice (if cap=l.toNat then A else A.map (·.add (l.toNat * sz))) (h.toNat - l.toNat) (cap - l.toNat)) w:=by
 obtain ⟨hu,_,i,z,hi',hs,_⟩:=G
 have eh:(h.toNat:Int)=h:=Int.toNat_of_nonneg (by omega)
 have hh1:0≤h:=by omega
 have hl2:l≤(n:Int):=by omega
 have hcap:h≤(cap:Int):=by omega
 have hcap2:(n:Int)≤(cap:Int):=by omega
 rcases a5T hT hl with ⟨e1,rfl⟩ | ⟨k1,e1⟩<;>rcases a5T hT hh with ⟨e2,rfl⟩ | ⟨k2,e2⟩ <;>
  simp [e1,e2,Instr.sliceAt,Instr.slice,run_underlying hu,Instr.sliceBounds,Instr.sliceBound,asIntOf,sizeOf,typeInfo,hi',hs,h0,h1,h2,hh1,hl2,eh,hcap,hcap2]
theorem N0 {t e sz by_:Nat} {zs:List Value} {ys:List (List Value)} {x:Operand} {lo hi:Option Operand} {l h:Int} (G:Good P tb) (ho:o.op=.slice t x lo hi none) (ht:look t tb=some (.slice e sz by_ zs)) (hx:ev T x=some (.lst sz ys)) (hl:a6m T 0 lo=some l) (hh:a6m T ys.length hi=some h)
 (h0:0≤l) (h1:l≤h) (h2:h≤ys.length):QStep P o T m nx nt (.lst sz ((ys.drop l.toNat).take (h.toNat - l.toNat))) :=
 QStep.run fun w0 ρ a w hT hC=>by
  have hxe:=hT.ev hx
  simp only [RelV] at hxe
  obtain ⟨A,cap,he,hcap,hall,hA⟩:=hxe
  have hlen:((ys.drop l.toNat).take (h.toNat - l.toNat)).length=h.toNat - l.toNat:=by rw [List.length_take,List.length_drop];omega
  refine ⟨.slice (if cap=l.toNat then A else A.map (·.add (l.toNat * sz))) (h.toNat - l.toNat) (cap - l.toNat),?_,fun w' hC'=>?_⟩
  ·simp only [RelV]
   refine ⟨_,_,by rw [hlen],by rw [hlen];omega,fun c hc=>hall c (List.mem_of_mem_drop (List.mem_of_mem_take hc)),fun hpos=>?_⟩
   rw [hlen] at hpos
   have hpos2:0 < ys.length:=by omega
   obtain ⟨ad,rfl,hb,hcell⟩:=hA hpos2
   have hcl:cap≠l.toNat:=by omega
   rw [if_neg hcl]
   refine ⟨_,rfl,by rw [B9];exact hb,fun i c hi j u hj=>?_⟩
   have hi2:ys[l.toNat+i]?=some c:=by
    rw [List.getElem?_take] at hi
    split at hi
    ·rwa [List.getElem?_drop] at hi
    ·cases hi
   have:=hcell _ _ hi2 j u hj
   rw [Z8,← this]
   congr 2
   rw [Nat.add_mul]
   omega
  ·have:=a8G (G t _ ht) hT (A:=A) hl hh h0 h1 h2 hcap w'
   simp only [execOp,ho,he,Option.map_none,this,Sem.run_bind,Result.andThen_ok,Sem.run_pure]
theorem a1H {t e e' sz by_ id:Nat} {zs:List Value} {ys:List (List Value)} {x:Operand} {lo hi:Option Operand} {l h:Int} (G:Good P tb) (ho:o.op=.slice t x lo hi none) (ht:look t tb=some (.slice e sz by_ zs)) (hx:ev T x=some (.own id)) (hm:mem m id=some (.row e' sz ys))
 (hl:a6m T 0 lo=some l) (hh:a6m T ys.length hi=some h) (h0:0≤l) (h1:l≤h) (h2:h≤ys.length):QStep P o T m nx nt (.sub id sz l.toNat (h.toNat - l.toNat)) :=
 QStep.run fun w0 ρ a w hT hC=>by
  have hxe:=hT.ev hx
  simp only [RelV] at hxe
  obtain ⟨hrow,_⟩:=hC.row hm
  have hshape:∃ A cap,ρ id=.slice A ys.length cap∧ys.length≤cap∧(0 < ys.length→∃ g,A=some ⟨g,0,none⟩):=by
   rcases hrow.2 with ⟨e1,e2⟩ | ⟨g,cap,cur,e1,_,_,e2,_⟩
   ·exact ⟨none,0,by rw [e1,e2],by omega,fun h=>by omega⟩
   ·exact ⟨_,cap,e1,e2,fun _=>⟨g,rfl⟩⟩
  obtain ⟨A,cap,he,hcap,hA⟩:=hshape
  refine ⟨.slice (if cap=l.toNat then A else A.map (·.add (l.toNat * sz))) (h.toNat - l.toNat) (cap - l.toNat),?_,fun w' hC'=>?_⟩
  ·simp only [RelV]
   refine ⟨hxe.1,_,_,rfl,by omega,fun hpos=>?_,fun hl0=>⟨ys.length,?_,by omega⟩⟩
   have hpos2:0 < ys.length:=by omega
   obtain ⟨g,rfl⟩:=hA hpos2
   have hcl:cap≠l.toNat:=by omega
   rw [if_neg hcl]
   exact ⟨g,_,_,he,by simp [Addr.add_lit]⟩
   ·rw [he,hl0]
    have e:A.map (fun a=>a.add 0)=A:=by cases A<;>simp [Addr.add_zero']
    simp [e]
  ·have:=a8G (G t _ ht) hT (A:=A) hl hh h0 h1 h2 hcap w'
   simp only [execOp,ho,hxe.2,he,Option.map_none,this,Sem.run_bind,Result.andThen_ok,Sem.run_pure]
def evs (T:List (Nat×AV)):List Operand→List AV→Option (List AV)
 | [],acc=>a0Z acc []
 | x :: r,acc=>match ev T x with
  | some a=>evs T r (a :: acc)
  | none=>none
theorem a62 {ρ:Nat→Value} {a:Act} (hT:RelT w0 ρ T nx nt a):∀ {xs:List Operand} {acc rs:List AV} {acc':List Value},evs T xs acc=some rs→RelVs w0 ρ nx acc.reverse acc'→RelVs w0 ρ nx rs (acc'++xs.map a.eval)
 | [],acc,rs,acc',h,ha=>by simp [evs,E2] at h;subst h;simpa using ha
 | x :: xs,acc,rs,acc',h,ha=>by
  simp only [evs] at h
  cases h1:ev T x with
  | none=>simp [h1] at h
  | some av =>
   simp only [h1] at h
   have:=a62 hT h (acc':=acc'++[a.eval x]) (by
    rw [List.reverse_cons]
    refine RelVs.append _ ha ?_
    simp only [RelVs]
    exact ⟨_,_,rfl,hT.ev h1,rfl⟩)
   simpa using this
theorem a97 {f:FuncId} {caps:Array Operand} {cs:List AV} (ho:o.op=.makeFunc (.func f) #[] caps) (hc:evs T caps.toList []=some cs):QStep P o T m nx nt (.fnc f cs) :=
 QStep.run fun w0 ρ a w hT hC=>by
  have:=a62 hT hc (acc':=[]) (by simp [RelVs])
  refine ⟨.func (.func f) #[] (caps.map a.eval),?_,fun w' _=>by simp [execOp,ho,Instr.makeFunc]⟩
  simp only [RelV]
  exact ⟨caps.toList.map a.eval,by rw [← Array.toList_map],by simpa using this⟩
def a3x (n:Nat):List (Nat×Nat×Nat)→Bool
 | []=>true
 | q :: r=>Nat.blt q.2.2 n && a3x n r
theorem a17 {n:Nat}:∀ {op:List (Nat×Nat×Nat)},a3x n op=true→∀ q∈op,q.2.2 < n
 | [],_,q,hq=>by cases hq
 | p :: r,h,q,hq=>by
  simp only [a3x,Bool.and_eq_true] at h
  rcases List.mem_cons.1 hq with rfl | hq
  ·exact Nat.le_of_ble_eq_true h.1
  ·exact a17 h.2 q hq
def rowRefs (n:Nat):Row→Bool
 | .box cs=>F0 n cs
 | .row _ _ _ _=>true
 | .byt _=>true
 | .spare _ _ _ _=>true
 | .nest _ _ _ op=>a3x n op
def WeakT (T:List (Nat×AV)) (n:Nat):List (Nat×AV)→Prop
 | []=>True
 | (t,x) :: r=>(∃ x',look t T=some x'∧x'=x)∧v5 n x=true∧WeakT T n r
def WeakM (m:List (Nat×Option Row)) (n:Nat):List (Nat×Option Row)→Prop
 | []=>True
 | (id,none) :: r=>WeakM m n r
 | (id,some row) :: r=>(∃ row',mem m id=some row'∧row'=row)∧Nat.blt id n=true∧rowRefs n row=true∧WeakM m n r
theorem WeakT.get {n:Nat}:∀ {T':List (Nat×AV)},WeakT T n T'→∀ t x,(t,x)∈T'→look t T=some x∧v5 n x=true
 | [],_,_,_,h=>by simp at h
 | (t',x') :: r,hw,t,x,h=>by
  obtain ⟨⟨y,h1,h2⟩,h3,h4⟩:=hw
  rcases List.mem_cons.1 h with he | h
  ·cases he;subst h2;exact ⟨h1,h3⟩
  ·exact WeakT.get h4 t x h
theorem WeakM.get {n:Nat}:∀ {m':List (Nat×Option Row)},WeakM m n m'→∀ id row,(id,some row)∈m'→mem m id=some row∧id < n∧rowRefs n row=true
 | [],_,_,_,h=>by simp at h
 | (id',none) :: r,hw,id,row,h=>by
  rcases List.mem_cons.1 h with he | h
  ·cases he
  ·exact WeakM.get (m':=r) hw id row h
 | (id',some row') :: r,hw,id,row,h=>by
  obtain ⟨⟨y,h1,h2⟩,h3,h4,h5⟩:=hw
  rcases List.mem_cons.1 h with he | h
  ·cases he;subst h2;exact ⟨h1,Nat.le_of_ble_eq_true h3,h4⟩
  ·exact WeakM.get h5 id row h
structure Weak (S S':St):Prop where
 nt:S'.nt=S.nt
 T:WeakT S.T S'.nx S'.T
 m:WeakM S.m S'.nx S'.m
theorem a18 {id:Nat} {row:Row} (h:mem m id=some row):(id,some row)∈m:=by
 unfold mem at h
 cases hl:look id m with
 | none=>simp [hl] at h
 | some o=>cases o with
  | none=>simp [hl] at h
  | some row'=>simp [hl] at h;subst h;exact a2x hl
theorem Weak.rel {S S':St} (hw:Weak S S') (hn0:w0.n0≤S'.nx) {ρ:Nat→Value} {a:Act} {w:World} (hT:RelT w0 ρ S.T S.nx S.nt a) (hC:RelC w0 ρ S.m S.nx w):RelT w0 ρ S'.T S'.nx S'.nt a∧RelC w0 ρ S'.m S'.nx w:=by
 refine ⟨⟨fun t x hx=>?_,by rw [hw.nt];exact hT.size,hT.defers⟩,⟨fun id row hr=>?_,fun id id' r r' hr hr' hne=>?_,hC.below,⟨hn0,hC.pin.2⟩,⟨hC.kept.1,hC.kept.2.1,fun id r hr=>hC.kept.2.2 id r (hw.m.get id r (a18 hr)).1⟩,
  hC.inner' (Nat.le_refl _) (fun id r hr=>.inr ⟨r,(hw.m.get id r (a18 hr)).1,fun _ _ h=>h⟩) (fun id r hr b hb=>.inl ⟨id,r,(hw.m.get id r (a18 hr)).1,hb⟩)⟩⟩
 ·obtain ⟨h1,h2⟩:=hw.T.get t x (a2x hx)
  exact (hT.tmps t x h1).less x h2
 ·obtain ⟨h1,h2,h3⟩:=hw.m.get id row (a18 hr)
  obtain ⟨_,h4⟩:=hC.rows id row h1
  exact ⟨h2,h4.to rfl (fun cs e l hl=>by subst e;exact RelVs.less cs h3 hl) fun e sz yss op he q hq _=>by subst he;exact ⟨a17 h3 q hq,rfl⟩⟩
 ·exact hC.apart id id' r r' (hw.m.get id r (a18 hr)).1 (hw.m.get id' r' (a18 hr')).1 hne
theorem a98 {c:Code} {S S':St} (hw:Weak S S') (hnx:S'.nx=S.nx) (h:W P w0 c S' Q):W P w0 c S Q :=
 fun ρ a w hT hC=>let ⟨h1,h2⟩:=hw.rel (hnx▸hC.pin.1) hT hC;h ρ a w h1 h2
theorem b2F {α:Type} (st:α→St) (inv:α→Prop) (μ:α→Nat) {c:Code} {S:St} (x0:α) (h0:inv x0) (hw:Weak S (st x0)) (hnx:∀ x,(st x).nx=S.nx)
 (round:∀ x,inv x→W P w0 c (st x) (sq (fun S'=>∃ x',inv x'∧Weak S' (st x')∧μ x' < μ x) Q)):W P w0 (.loop c) S Q:=by
 intro ρ a w hT hC
 have hp:∀ x,w0.n0≤(st x).nx:=fun x=>by rw [hnx x];exact hC.pin.1
 obtain ⟨h1,h2⟩:=hw.rel (hp _) hT hC
 refine wp_loop_ghost (fun n a w=>∃ x,inv x∧μ x=n∧∃ ρ,RelT w0 ρ (st x).T (st x).nx (st x).nt a∧RelC w0 ρ (st x).m (st x).nx w) (μ x0) ⟨x0,h0,rfl,ρ,h1,h2⟩ ?_
 rintro n a w ⟨x,hi,rfl,ρ,hT,hC⟩
 refine wp_mono (round x hi ρ a w hT hC) ?_
 rintro e a w ⟨ρ',S',hq,hT',hC'⟩
 cases e
 case normal =>
  obtain ⟨x',hi',hw',hlt⟩:=hq
  obtain ⟨g1,g2⟩:=hw'.rel (hp _) hT' hC'
  exact ⟨μ x',hlt,x',hi',rfl,ρ',g1,g2⟩
 all_goals exact ⟨ρ',S',hq,hT',hC'⟩
def b1r (tb:List (Nat×TyI)) (S:St):ResultVar→Option AV
 | .tmp t=>look t S.T
 | .cell p ty=>match look p S.T with
  | some (.ptr id off)=>match mem S.m id with
   | some (.box cs)=>match look ty tb with
    | some (.struct _ zs)=>match a0W zs.length (R8 off cs) [] with
     | some rs=>some (.agg rs)
     | none=>none
    | some _=>nth cs off
    | none=>none
   | _=>none
  | _=>none
def O9 (tb:List (Nat×TyI)) (S:St):List ResultVar→List AV→Option (List AV)
 | [],acc=>a0Z acc []
 | x :: r,acc=>match b1r tb S x with
  | some a=>O9 tb S r (a :: acc)
  | none=>none
def a34:AV→Option Value
 | .v x=>some x
 | .pin z _ _=>some z
 | .nst (some z) _ _=>some z
 | .agg cs=>match vaR cs [] with
  | some xs=>some (.agg ⟨xs⟩)
  | none=>none
 | _=>none
def RCOK (m:List (Nat×Option Row)):AV→RC→Prop
 | x,.v u=>a34 x=some u
 | .own id,.fr e sz ys f=>∃ f0,mem m id=some (.row e sz ys f0)∧(f0=true→f=true)
 | .v x,.fr _ _ ys _=>x=.slice none 0 0∧ys=[]
 | .own id,.ne e sz yss=>mem m id=some (.nest e sz yss [])
 | .v x,.ne _ _ yss=>x=.slice none 0 0∧yss=[]
 | _,_=>False
def RCOKs (m:List (Nat×Option Row)):List AV→List RC→Prop
 | [],[]=>True
 | x :: xs,r :: rs=>RCOK m x r∧RCOKs m xs rs
 | _,_=>False
def L8:List AV→List Nat→List Nat
 | [],acc=>acc
 | .own i :: r,acc=>L8 r (i :: acc)
 | _ :: r,acc=>L8 r acc
def a63:List AV→Bool
 | []=>true
 | .v x :: r=>(blk x).isNone && a63 r
 | _ :: r=>a63 r
def nodupB:List Nat→Bool
 | []=>true
 | x :: r=>!has x r && nodupB r
def a99:AV→Option (List AV)
 | .agg cs=>some cs
 | .v (.agg ⟨l⟩)=>some (avR l [])
 | _=>none
theorem a9s {w0:World} {ρ:Nat→Value} {nx:Nat} {a:AV} {cs:List AV} (h:a99 a=some cs) {y:Value} (hy:RelV w0 ρ nx a y):∃ cvs:List Value,y=.agg cvs.toArray∧RelVs w0 ρ nx cs cvs:=by
 cases a<;>simp only [a99] at h<;>try cases h
 case agg.refl=>simpa only [RelV] using hy
 case v x =>
  cases x<;>simp only [a99] at h<;>try cases h
  rename_i l
  simp only [RelV] at hy
  subst hy
  exact ⟨l.toList,rfl,by rw [a07];simpa using RelVs.map_v l.toList⟩
def flA:List (Option Nat)→List AV→List AV→Option (List AV)
 | [],[],acc=>a0Z acc []
 | none :: sh,a :: as,acc=>flA sh as (a :: acc)
 | some n :: sh,a :: as,acc=>match a99 a with
  | some cs=>bif Nat.beq cs.length n then flA sh as (rev cs acc) else none
  | none=>none
 | _,_,_=>none
def a0C:Res→List AV→List AV
 | .shp _ sh _,avs=>match flA sh avs [] with
  | some ls=>ls
  | none=>[]
 | _,avs=>avs
def ResOK (m:List (Nat×Option Row)) (avs:List AV):Res→Prop
 | .one r=>∃ x,avs=[x]∧RCOK m x r
 | .many rs=>RCOKs m avs rs∧Nat.beq avs.length 1=false∧nodupB (L8 avs [])=true∧a63 avs=true
 | .shp single sh rs=>∃ ls,flA sh avs []=some ls∧RCOKs m ls rs∧Nat.beq avs.length 1=single∧nodupB (L8 ls [])=true
def Fin (tb:List (Nat×TyI)) (rs:List ResultVar) (res:Res):Exit→St→Prop
 | .ret,S=>∃ avs,O9 tb S rs []=some avs∧ResOK S.m avs res
 | .normal,S=>∃ avs,O9 tb S rs []=some avs∧ResOK S.m avs res
 | _,_=>False
def a19 (tmps:Array Value):ResultVar→Sem Value
 | .tmp t=>pure (tmps.getD t undef)
 | .cell a t=>do loadVar t (← asAddr (tmps.getD a undef))
theorem a9t (G:Good P tb) {S:St} {ρ:Nat→Value} {a:Act} {w:World} (hT:RelT w0 ρ S.T S.nx S.nt a) (hC:RelC w0 ρ S.m S.nx w) {x:ResultVar} {r:AV} (h:b1r tb S x=some r):∃ y,RelV w0 ρ S.nx r y∧(a19 a.tmps x).run P w=.ok y w:=by
 cases x with
 | tmp t=>exact ⟨_,hT.tmps t r h,rfl⟩
 | cell p ty =>
  simp only [b1r] at h
  cases h1:look p S.T with
  | none=>simp [h1] at h
  | some av =>
   cases av<;>simp only [h1] at h<;>try cases h
   rename_i id off
   cases h2:mem S.m id with
   | none=>simp [h2] at h
   | some row =>
    cases row with
    | row _ _ _=>simp [h2] at h
    | byt _=>simp [h2] at h
    | spare _ _ _ _=>simp [h2] at h
    | nest _ _ _ _=>simp [h2] at h
    | box cs =>
     simp only [h2] at h
     cases h3:look ty tb with
     | none=>simp [h3] at h
     | some i =>
      have hp:=hT.tmps p _ h1
      simp only [RelV] at hp
      obtain ⟨_,g,hg,he⟩:=hp
      obtain ⟨b,cur,ty',hρ,_,hb,hR,_⟩:=hC.box h2
      rw [hg] at hρ
      simp at hρ
      subst hρ
      have flat:∀ (hf:Q6 i=true) (hr:nth cs off=some r),∃ y,RelV w0 ρ S.nx r y∧(a19 a.tmps (.cell p ty)).run P w=.ok y w:=by
       intro hf hr
       rw [a06] at hr
       obtain ⟨u,hu,h4⟩:=RelVs.get _ hR off r hr
       refine ⟨u,h4,?_⟩
       have hc:w.cell? ⟨g,off,none⟩=some u:=by rw [P3 hb,hu]
       simp only [a19,he,asAddr,Sem.run_bind,Sem.run_pure,Result.andThen_ok,loadVar,(G ty i h3).run_isAgg w,hf,Bool.not_true,Bool.false_eq_true,if_false,run_load,hc]
      cases i with
      | flat fk z=>simp only [h3] at h;exact flat rfl h
      | slice e sz by_ zs=>simp only [h3] at h;exact flat rfl h
      | struct fs zs =>
       simp only [h3] at h
       cases h4:a0W zs.length (R8 off cs) [] with
       | none=>simp [h4] at h
       | some rs =>
        simp only [h4,Option.some.injEq] at h
        subst h
        obtain ⟨hrs,hlen⟩:=P1 _ _ _ _ h4
        rw [N6] at hrs hlen
        simp at hrs
        have hR2:RelVs w0 ρ S.nx rs ((cur.toList.drop off).take zs.length):=by rw [hrs];exact (RelVs.drop off _ hR).take _ _
        have hl:=RelVs.length _ hR2
        have hl2:rs.length=zs.length:=by rw [hrs,List.length_take];omega
        have:=E1 (G ty _ h3) (w:=w) (p:=⟨g,off,none⟩) (us:=(cur.toList.drop off).take zs.length) (by rw [hl,hl2]) (fun j u hj=>by
         rw [Addr.add_lit,P3 hb]
         rw [List.getElem?_take] at hj
         split at hj
         ·rw [List.getElem?_drop] at hj;exact hj
         ·cases hj)
        refine ⟨_,by simp only [RelV];exact ⟨_,rfl,hR2⟩,?_⟩
        simp only [Instr.loadAt,Instr.sureAddr,Sem.run_bind,Sem.run_pure,Result.andThen_ok] at this
        simp only [a19,he,asAddr,Sem.run_bind,Sem.run_pure,Result.andThen_ok]
        exact this
theorem U7 (G:Good P tb) {S:St} {ρ:Nat→Value} {a:Act} {w:World} (hT:RelT w0 ρ S.T S.nx S.nt a) (hC:RelC w0 ρ S.m S.nx w):∀ {xs:List ResultVar} {acc rs:List AV},O9 tb S xs acc=some rs →
 ∃ ys avs,rs=acc.reverse++avs∧RelVs w0 ρ S.nx avs ys∧(xs.mapM (a19 a.tmps)).run P w=.ok ys w
 | [],acc,rs,h=>by simp [O9,E2] at h;exact ⟨[],[],by simp [h],by simp [RelVs],rfl⟩
 | x :: xs,acc,rs,h=>by
  simp only [O9] at h
  cases h1:b1r tb S x with
  | none=>simp [h1] at h
  | some av =>
   simp only [h1] at h
   obtain ⟨y,h2,h3⟩:=a9t G hT hC h1
   obtain ⟨ys,avs,e1,e2,e3⟩:=U7 G hT hC h
   refine ⟨y :: ys,av :: avs,by simp [e1],by simp only [RelVs];exact ⟨_,_,rfl,h2,e2⟩,?_⟩
   simp [List.mapM_cons,h3,e3]
theorem a7T {ρ:Nat→Value} {x:AV} {u y:Value} (h:a34 x=some u) (hy:RelV w0 ρ nx x y):y=u:=by
 cases x<;>simp only [a34] at h<;>try cases h
 case v.refl=>simpa only [RelV] using hy
 case pin.refl=>simp only [RelV] at hy;exact hy.1
 case nst z _ _ =>
  cases z with
  | none=>simp [a34] at h
  | some z=>simp [a34] at h;subst h;simp only [RelV] at hy;exact hy.1 _ rfl
 case agg cs =>
  cases hv:vaR cs [] with
  | none=>simp [hv] at h
  | some xs =>
   simp [hv] at h
   obtain ⟨xs',h1,h2⟩:=Q5 _ _ _ hv
   simp at h2
   subst h2
   simp only [RelV] at hy
   obtain ⟨ys,rfl,h3⟩:=hy
   rw [h1] at h3
   rw [RelVs.map_v_eq _ h3,← h]
theorem a9u {B:Nat} {w:World} {e sz:Nat}:b2i B w (.slice none 0 0) e sz [] :=
 ⟨[],⟨World.ownsRow_nil _ _ _ _,rfl,by simp,by simp,fun i k c h=>by simp [z5] at h⟩,fun p b h=>by simp [B4,z5] at h⟩
theorem RCOK.rel {ρ:Nat→Value} {w:World} (hC:RelC w0 ρ m nx w) {x:AV} {c:RC} (h:RCOK m x c) {y:Value} (hy:RelV w0 ρ nx x y):RCRel w0.w.heap.size w c y:=by
 cases c with
 | v u =>
  have h':a34 x=some u:=by cases x<;>exact h
  simp only [RCRel]
  exact a7T h' hy
 | fr e sz ys =>
  cases x<;>simp only [RCOK] at h
  case own id =>
   simp only [RelV] at hy
   rw [hy.2]
   obtain ⟨f0,h,hf⟩:=h
   obtain ⟨h1,h2⟩:=hC.rowF h
   exact ⟨h1.up hf,h2⟩
  case v x =>
   obtain ⟨rfl,rfl⟩:=h
   simp only [RelV] at hy
   subst hy
   exact ⟨OwnR.nil,by simp⟩
 | ne e sz yss =>
  cases x<;>simp only [RCOK] at h
  case own id =>
   simp only [RelV] at hy
   rw [hy.2]
   obtain ⟨_,cells,h1,_⟩:=hC.rows id _ h
   exact ⟨cells,h1,fun p b hb=>⟨((hC.inner id _ h p b hb).2.2.2 id _ h).1,fun p' hp'=>(((hC.inner id _ h p b hb).2.2.2 id _ h).2 p' hp').2⟩⟩
  case v x =>
   obtain ⟨rfl,rfl⟩:=h
   simp only [RelV] at hy
   subst hy
   exact a9u
theorem RCOK.foot {ρ:Nat→Value} {w:World} {x:AV} {c:RC} (h:RCOK m x c) {y:Value} (hy:RelV w0 ρ nx x y) {b:Nat} (hb:a3X w c y b):∃ id row,x=.own id∧mem m id=some row∧J1 w (ρ id) row b:=by
 cases c with
 | v u=>exact hb.elim
 | fr e sz ys =>
  cases x<;>simp only [RCOK] at h
  case own id=>obtain ⟨f0,h,hf⟩:=h;simp only [RelV] at hy;exact ⟨id,_,rfl,h,.inl (by rw [← hy.2];exact hb)⟩
  case v x =>
   obtain ⟨rfl,rfl⟩:=h
   simp only [RelV] at hy
   subst hy
   simp [a3X,blk] at hb
 | ne e sz yss =>
  cases x<;>simp only [RCOK] at h
  case own id=>simp only [RelV] at hy;exact ⟨id,_,rfl,h,by rw [← hy.2];exact hb⟩
  case v x =>
   obtain ⟨rfl,rfl⟩:=h
   simp only [RelV] at hy
   subst hy
   simp [a3X,blk,B4,z5] at hb
theorem a2a:∀ (l:List AV) (acc:List Nat),nodupB (L8 l acc)=true→nodupB acc=true
 | [],acc,h=>h
 | x :: r,acc,h=>by
  cases x<;>simp only [L8] at h
  case own i =>
   have:=a2a r (i :: acc) h
   simp only [nodupB,Bool.and_eq_true] at this
   exact this.2
  all_goals exact a2a r acc h
theorem a1c:∀ (l:List AV) (acc:List Nat),nodupB (L8 l acc)=true→∀ i∈acc,AV.own i∉l
 | [],_,_,_,_=>by simp
 | x :: r,acc,h,i,hi=>by
  cases x<;>simp only [L8] at h
  case own j =>
   have h1:=a2a r (j :: acc) h
   simp only [nodupB,Bool.and_eq_true,Bool.not_eq_true'] at h1
   have h2:=a1c r (j :: acc) h i (by simp [hi])
   intro hm
   rcases List.mem_cons.1 hm with e | hm
   ·cases e
    exact U0 h1.1 i hi rfl
   ·exact h2 hm
  all_goals
   have h2:=a1c r acc h i hi
   intro hm
   rcases List.mem_cons.1 hm with e | hm
   ·cases e
   ·exact h2 hm
theorem RelC.foot_apart {ρ:Nat→Value} {w:World} (hC:RelC w0 ρ m nx w) {id id':Nat} {row row':Row} (hm:mem m id=some row) (hm':mem m id'=some row') (hne:id≠id') {b:Nat} (hb:J1 w (ρ id) row b):¬ J1 w (ρ id') row' b:=by
 rintro (hb' | ⟨p',hb'⟩)
 ·rcases hb with hb | ⟨p,hb⟩
  ·exact hC.apart id id' _ _ hm hm' hne b hb hb'
  ·exact hC.blkne hm hm' hb hb'
 ·rcases hb with hb | ⟨p,hb⟩
  ·exact hC.blkne hm' hm hb' hb
  ·exact hne (((hC.inner id row hm p b hb).2.2.2 id' row' hm').2 p' hb').1
theorem RCOKs.foots {ρ:Nat→Value} {w:World} {b:Nat}:∀ {xs:List AV} {rs:List RC},RCOKs m xs rs→∀ {ys:List Value},RelVs w0 ρ nx xs ys→a16 w rs ys b→∃ id row,.own id∈xs∧mem m id=some row∧J1 w (ρ id) row b
 | [],[],_,_,hy,hb=>by simp only [RelVs] at hy;subst hy;exact hb.elim
 | [],_ :: _,h,_,_,_=>h.elim
 | _ :: _,[],h,_,_,_=>h.elim
 | x :: xs,r :: rs,h,_,hy,hb=>by
  simp only [RelVs] at hy
  obtain ⟨y,ys,rfl,h1,h2⟩:=hy
  rcases hb with hb | hb
  ·obtain ⟨id,row,rfl,h3,h4⟩:=h.1.foot h1 hb
   exact ⟨id,row,by simp,h3,h4⟩
  ·obtain ⟨id,row,h3,h4⟩:=RCOKs.foots h.2 h2 hb
   exact ⟨id,row,List.mem_cons_of_mem _ h3,h4⟩
theorem RCOKs.rel {ρ:Nat→Value} {w:World} (hC:RelC w0 ρ m nx w):∀ {xs:List AV} {rs:List RC} {acc:List Nat},RCOKs m xs rs→nodupB (L8 xs acc)=true→∀ {ys:List Value},RelVs w0 ρ nx xs ys→RCRels w0.w.heap.size w rs ys
 | [],[],_,_,_,_,hy=>hy
 | [],_ :: _,_,h,_,_,_=>h.elim
 | _ :: _,[],_,h,_,_,_=>h.elim
 | x :: xs,r :: rs,acc,h,hn,_,hy=>by
  simp only [RelVs] at hy
  obtain ⟨y,ys,rfl,h1,h2⟩:=hy
  simp only [RCRels]
  have hn':∃ acc',nodupB (L8 xs acc')=true∧(∀ i,x=.own i→i∈acc'):=by
   cases x<;>simp only [L8] at hn
   case own i=>exact ⟨_,hn,fun j hj=>by cases hj;simp⟩
   all_goals exact ⟨_,hn,fun j hj=>by cases hj⟩
  obtain ⟨acc',hn1,hn2⟩:=hn'
  refine ⟨y,ys,rfl,h.1.rel hC h1,RCOKs.rel hC h.2 hn1 h2,fun b hb hb'=>?_⟩
  obtain ⟨id,row,rfl,h3,h4⟩:=h.1.foot h1 hb
  obtain ⟨id',row',h5,h6,h7⟩:=RCOKs.foots h.2 h2 hb'
  refine hC.foot_apart h3 h6 (fun e=>?_) h4 h7
  subst e
  exact a1c xs acc' hn1 id (hn2 id rfl) h5
theorem a6n {ρ:Nat→Value}:∀ {sh:List (Option Nat)} {as acc ls:List AV} {vs acc':List Value},flA sh as acc=some ls→RelVs w0 ρ nx as vs→RelVs w0 ρ nx acc.reverse acc'→∃ ys,RelVs w0 ρ nx ls (acc'++ys)∧a2z sh ys=some vs
 | [],[],acc,ls,vs,acc',h,hr,ha=>by
  simp [flA,E2] at h
  simp only [RelVs] at hr
  subst h;subst hr
  exact ⟨[],by simpa using ha,rfl⟩
 | [],_ :: _,_,_,_,_,h,_,_=>by simp [flA] at h
 | none :: sh,[],_,_,_,_,h,_,_=>by simp [flA] at h
 | none :: sh,a :: as,acc,ls,vs,acc',h,hr,ha=>by
  simp only [flA] at h
  simp only [RelVs] at hr
  obtain ⟨v,vs',rfl,h1,h2⟩:=hr
  obtain ⟨ys,h3,h4⟩:=a6n h h2 (acc':=acc'++[v]) (by
   rw [List.reverse_cons]
   refine RelVs.append _ ha ?_
   simp only [RelVs]
   exact ⟨_,_,rfl,h1,rfl⟩)
  exact ⟨v :: ys,by simpa using h3,by simp [a2z,h4]⟩
 | some n :: sh,as,acc,ls,vs,acc',h,hr,ha=>by
  have key:∀ (cs:List AV) (as':List AV) (cvs:List Value) (vs':List Value),cs.length=n→RelVs w0 ρ nx cs cvs→RelVs w0 ρ nx as' vs'→flA sh as' (rev cs acc)=some ls→∃ ys,RelVs w0 ρ nx ls (acc'++ys)∧a2z (some n :: sh) ys=some (.agg cvs.toArray :: vs'):=by
   intro cs as' cvs vs' hl h1 h2 h3
   obtain ⟨ys,h4,h5⟩:=a6n h3 h2 (acc':=acc'++cvs) (by
    rw [a0v,List.reverse_append,List.reverse_reverse]
    exact RelVs.append _ ha h1)
   have hcl:=RelVs.length _ h1
   refine ⟨cvs++ys,by simpa using h4,?_⟩
   have hcn:cvs.length=n:=by omega
   simp only [a2z]
   rw [if_pos (by rw [List.length_append];omega),← hcn,List.take_left,List.drop_left,h5]
   rfl
  cases as with
  | nil=>simp [flA] at h
  | cons a as =>
   simp only [RelVs] at hr
   obtain ⟨v,vs',rfl,h1,h2⟩:=hr
   simp only [flA] at h
   cases ha':a99 a with
   | none=>simp [ha'] at h
   | some cs =>
    simp only [ha'] at h
    cases hb:Nat.beq cs.length n with
    | false=>simp [hb] at h
    | true =>
     simp only [hb,cond_true] at h
     obtain ⟨cvs,rfl,h1'⟩:=a9s ha' h1
     exact key cs as cvs vs' (Nat.eq_of_beq_eq_true hb) h1' h2 h
theorem ResOK.parts {ρ:Nat→Value} {w:World} (hC:RelC w0 ρ m nx w) {avs:List AV} {res:Res} (h:ResOK m avs res) {ys:List Value} (hy:RelVs w0 ρ nx avs ys) :
 resParts w0.w.heap.size w res (if h:ys.toArray.size=1 then ys.toArray[0] else .tuple ys.toArray) (fun rs ls=>∀ b,a16 w rs ls b→∃ id row,.own id∈a0C res avs∧mem m id=some row∧J1 w (ρ id) row b):=by
 have hyl:=RelVs.length _ hy
 cases res with
 | one r =>
  obtain ⟨x,rfl,hx⟩:=h
  simp only [RelVs] at hy
  obtain ⟨y,_,rfl,g1,rfl⟩:=hy
  simp only [List.size_toArray,List.length_cons,List.length_nil,Nat.zero_add,dif_pos,List.getElem_toArray,List.getElem_cons_zero]
  refine ⟨hx.rel hC g1,fun b hb=>?_⟩
  rcases hb with hb | hb
  ·obtain ⟨id,row,rfl,h3,h4⟩:=hx.foot g1 hb
   exact ⟨id,row,by simp [a0C],h3,h4⟩
  ·exact hb.elim
 | many rs =>
  obtain ⟨h3,h4,h5,h6⟩:=h
  have hne:¬ ys.toArray.size=1:=by rw [List.size_toArray,hyl];exact H3 h4
  rw [dif_neg hne]
  exact ⟨ys,rfl,RCOKs.rel hC h3 h5 hy,fun b hb=>RCOKs.foots h3 hy hb⟩
 | shp single sh rs =>
  obtain ⟨ls,h1,h2,h3,h4⟩:=h
  obtain ⟨us,h5,h6⟩:=a6n (acc':=[]) h1 hy (by simp [RelVs])
  simp only [List.nil_append] at h5
  refine ⟨us,ys,RCOKs.rel hC h2 h4 h5,h6,?_,fun b hb=>by simpa only [a0C,h1] using RCOKs.foots h2 h5 hb⟩
  cases single with
  | true =>
   have h7:=Nat.eq_of_beq_eq_true h3
   rw [h7] at hyl
   match ys,hyl with
   | [y],_=>simp
  | false =>
   have hne:¬ ys.toArray.size=1:=by rw [List.size_toArray,hyl];exact H3 h3
   rw [dif_neg hne]
   simp
theorem resParts.rel {B:Nat} {w:World} {res:Res} {y:Value} {K:List RC→List Value→Prop} (h:resParts B w res y K):ResRel B w res y:=by
 cases res with
 | one r=>exact h.1
 | many rs=>obtain ⟨ys,h1,h2,_⟩:=h;exact ⟨ys,h1,h2⟩
 | shp single sh rs=>obtain ⟨ys,vs,h1,h2,h3,_⟩:=h;exact ⟨ys,vs,h1,h2,h3⟩
theorem resParts.mono {B:Nat} {w:World} {res:Res} {y:Value} {K K':List RC→List Value→Prop} (h:resParts B w res y K) (hk:∀ rs ys,RCRels B w rs ys→K rs ys→K' rs ys):resParts B w res y K':=by
 cases res with
 | one r=>exact ⟨h.1,hk _ _ ⟨y,[],rfl,h.1,rfl,fun _ _ h=>h⟩ h.2⟩
 | many rs=>obtain ⟨ys,h1,h2,h3⟩:=h;exact ⟨ys,h1,h2,hk _ _ h2 h3⟩
 | shp single sh rs=>obtain ⟨ys,vs,h1,h2,h3,h4⟩:=h;exact ⟨ys,vs,h1,h2,h3,hk _ _ h1 h4⟩
def a4h:List AV→Nat→List (Nat×AV)
 | [],_=>[]
 | a :: as,k=>(k,a) :: a4h as (Nat.succ k)
theorem a1I {w0:World} {ρ:Nat→Value}:∀ {as:List AV} {vs:List Value} {k:Nat},RelVs w0 ρ nx as vs→∀ t x,look t (a4h as k)=some x→∃ u,k≤t∧vs[t - k]?=some u∧RelV w0 ρ nx x u
 | [],_,_,_,_,_,h=>by simp [a4h,look] at h
 | a :: as,_,k,hr,t,x,h=>by
  simp only [RelVs] at hr
  obtain ⟨y,ys,rfl,h1,h2⟩:=hr
  by_cases e:k=t
  ·subst e
   simp only [a4h] at h
   rw [n9] at h
   cases h
   exact ⟨y,Nat.le_refl _,by simp,h1⟩
  ·simp only [a4h] at h
   rw [j7 e] at h
   obtain ⟨u,g1,g2,g3⟩:=a1I h2 t x h
   refine ⟨u,by omega,?_,g3⟩
   rw [show t - k=(t - (k+1))+1 by omega]
   simpa using g2
mutual
theorem RelV.outer {w:World} {ρ:Nat→Value}:∀ (x:AV) {y:Value},RelV w noRho 0 x y→RelV w ρ 0 x y
 | x,_,h=>h.mono (Nat.le_refl _) (fun i hi=>by omega)
end
theorem RelVs.outer {w:World} {ρ:Nat→Value} (x:List AV) {y:List Value} (h:RelVs w noRho 0 x y):RelVs w ρ 0 x y:=RelVs.mono (Nat.le_refl _) (fun i hi=>by omega) x h
theorem X6 {fn:Func} {l:List ResultVar} (hl:fn.results=l.toArray) {tmps:Array Value} {ys:List Value} {w:World} (h:(l.mapM (a19 tmps)).run P w=.ok ys w) :
 (results fn tmps).run P w=.ok (if h:ys.toArray.size=1 then ys.toArray[0] else .tuple ys.toArray) w:=by
 have he:results fn tmps=(do let vs ← fn.results.mapM (a19 tmps);pure (if h:vs.size=1 then vs[0] else .tuple vs)):=rfl
 rw [he,hl,List.mapM_toArray]
 simp only [Sem.run_bind,Sem.run_map,h,Result.andThen_ok,Sem.run_pure]
theorem Ctr.of (G:Good P tb) {f:FuncId} {fn:Func} {c:Code} {args:List AV} {res:Res} {l:List ResultVar} {n:Nat} (hf:P.funcs[f]?=some fn) (hb:fn.body=some c) (hname:(fn.name == "runtime.NumGoroutine")=false) (hl:fn.results=l.toArray) (hn:fn.ntmps=n)
 (hlen:Nat.ble args.length n=true) (h:∀ w0:Base,[NoPin w0]→[EnvAt P w0]→W P w0 c ⟨a4h args 0,[],0,n⟩ (Fin tb l res)):Ctr P f args res:=by
 refine ⟨⟨fn,hf,hname,by rw [hb];rfl⟩,fun w vs henv hrel=>?_⟩
 have hlen':args.length≤n:=Nat.le_of_ble_eq_true hlen
 have hvl:=RelVs.length _ hrel
 refine calls_of_wp hf hb ?_
 let b0:Base:=⟨w,0,noRho,w,fun _=>False,fun _ h=>h.elim,Env.E P,fun w' hb=>Env.mono henv hb⟩
 have hC:RelC b0 noRho [] 0 w:=⟨fun id r hr=>by simp [mem,look] at hr,fun id id' r r' hr=>by simp [mem,look] at hr,Below.refl _ _,⟨Nat.le_refl _,fun i hi=>by cases hi⟩,⟨Nat.le_refl _,fun b h=>h.elim,fun id r hr=>by simp [mem,look] at hr⟩,fun id r hr=>by simp [mem,look] at hr⟩
 have hnp:NoPin b0:=⟨rfl⟩
 have hen:EnvAt P b0:=⟨rfl⟩
 have hT:RelT w noRho (a4h args 0) 0 n { tmps:=vs.toArray++Array.replicate (fn.ntmps - vs.toArray.size) undef,defers:=[] }:=by
  refine ⟨fun t x hx=>?_,by simp [hn];omega,rfl⟩
  obtain ⟨u,_,h2,h3⟩:=a1I hrel t x hx
  have hlt:t < vs.length:=by
   rcases Nat.lt_or_ge t vs.length with hlt | hge
   ·exact hlt
   ·rw [Nat.sub_zero,List.getElem?_eq_none hge] at h2;cases h2
  have:(vs.toArray++Array.replicate (fn.ntmps - vs.toArray.size) undef).getD t undef=u:=by
   rw [Array.getD_eq_getD_getElem?,Array.getElem?_append_left (by simpa using hlt)]
   simp only [Nat.sub_zero] at h2
   simp [h2]
  rw [this]
  exact h3
 refine wp_mono (h b0 noRho _ w hT hC) ?_
 have fin:∀ (ρ:Nat→Value) (S:St) (a:Act) (w':World) (avs:List AV),O9 tb S l []=some avs→ResOK S.m avs res→RelT w ρ S.T S.nx S.nt a→RelC b0 ρ S.m S.nx w' →
  a.defers=[]∧∃ v,(results fn a.tmps).run P w'=.ok v w'∧∃ u,Ending.returned v=.returned u∧ResRel w.heap.size w' res u∧Below w.heap.size w w':=by
  intro ρ S a w' avs h1 h2 hT' hC'
  obtain ⟨ys,avs',e1,e2,e3⟩:=U7 G hT' hC' h1
  simp at e1
  subst e1
  exact ⟨hT'.defers,_,X6 hl e3,_,rfl,(ResOK.parts hC' h2 e2).rel,hC'.below⟩
 rintro e a w' ⟨ρ,S,hq,hT',hC'⟩
 cases e<;>simp only [Fin] at hq
 case normal=>obtain ⟨avs,h1,h2⟩:=hq;exact fin ρ S a w' avs h1 h2 hT' hC'
 case ret=>obtain ⟨avs,h1,h2⟩:=hq;exact fin ρ S a w' avs h1 h2 hT' hC'
end
section
variable {P:Program} [Env P] {w0:Base} {ops:Array Oper} {tb:List (Nat×TyI)} {o:Oper} {rest:List Oper} {T:List (Nat×AV)} {m:List (Nat×Option Row)} {nx nt d:Nat} {r:AV} {Q:Exit→St→Prop}
def b0a (tb:List (Nat×TyI)) (m:List (Nat×Option Row)) (T:List (Nat×AV)) (fs:List (Nat×Nat)):List (Nat×Operand)→List AV→Option (List AV)
 | [],cs=>some cs
 | (k,x) :: r,cs=>match nth fs k with
  | some (off,ft)=>match look ft tb,ev T x with
   | some i,some av=>match C6 av with
    | some vs=>bif (Nat.beq vs.length (N7 i) && Nat.ble (off+vs.length) cs.length) && X4 m vs then (match a3w cs off vs [] with | some cs'=>b0a tb m T fs r cs' | none=>none) else none
    | none=>none
   | _,_=>none
  | none=>none
theorem a5U (off:Nat):∀ (l:List Value) (j:Nat) (cs:Array Value),off+j+l.length≤cs.size→(l.zipIdx j).foldl (fun cs (p:Value×Nat)=>cs.setIfInBounds (off+p.2) p.1) cs=(cs.toList.take (off+j)++l++cs.toList.drop (off+j+l.length)).toArray
 | [],j,cs,_=>by simp
 | x :: l,j,cs,h=>by
  simp only [List.length_cons] at h
  simp only [List.zipIdx_cons,List.foldl_cons]
  rw [a5U off l (j+1) _ (by simp;omega)]
  congr 1
  have h2:off+j < cs.size:=by omega
  rw [Array.toList_setIfInBounds]
  have e1:(cs.toList.set (off+j) x).take (off+(j+1))=cs.toList.take (off+j)++[x]:=by
   rw [show off+(j+1)=off+j+1 by omega,List.take_succ_eq_append_getElem (by simpa using h2)]
   have:(cs.toList.set (off+j) x).take (off+j)=cs.toList.take (off+j):=by
    rw [List.take_set]
    exact List.set_eq_of_length_le (by rw [List.length_take];omega)
   simp [this]
  rw [e1,List.drop_set_of_lt (by omega)]
  simp
  congr 1
  omega
theorem a5V (G:Good P tb) {ρ:Nat→Value} {a:Act} {w:World} (hT:RelT w0 ρ T nx nt a) (hC:RelC w0 ρ m nx w) {fields:Array Field} {fs:List (Nat×Nat)}
 (hf:∀ (k off ft:Nat),fs[k]?=some (off,ft)→∃ (f:Field) (j:TypeInfo),fields[k]?=some f∧f.offset=off∧f.type=ft∧P.info? ft=some j∧j.size≠0) {places:Array (Nat×Nat)} (hp:∀ (k:Nat) (f:Field) (j:TypeInfo),fields[k]?=some f→P.info? f.type=some j→places[k]?=some (f.offset,j.size)) :
 ∀ {ps:List (Nat×Operand)} {cs rs:List AV},b0a tb m T fs ps cs=some rs→∀ (cells:Array Value),RelVs w0 ρ nx cs cells.toList →
 ∃ out:Array Value,Instr.fill (places[·]?) cells (ps.map fun p=>(p.1,a.eval p.2))=some out∧RelVs w0 ρ nx rs out.toList
 | [],cs,rs,h,cells,hr=>by simp [b0a] at h;subst h;exact ⟨cells,rfl,hr⟩
 | (k,x) :: ps,cs,rs,h,cells,hr=>by
  simp only [b0a] at h
  cases h1:nth fs k with
  | none=>simp [h1] at h
  | some p =>
   obtain ⟨off,ft⟩:=p
   simp only [h1] at h
   cases h2:look ft tb with
   | none=>simp [h2] at h
   | some i =>
    cases h3:ev T x with
    | none=>simp [h2,h3] at h
    | some av =>
     simp only [h2,h3] at h
     cases h4:C6 av with
     | none=>simp [h4] at h
     | some vs =>
      simp only [h4] at h
      cases h5:((Nat.beq vs.length (N7 i) && Nat.ble (off+vs.length) cs.length) && X4 m vs) with
      | false=>simp [h5] at h
      | true =>
       simp only [h5,cond_true,a0A] at h
       simp only [Bool.and_eq_true] at h5
       have hl:vs.length=N7 i:=Nat.eq_of_beq_eq_true h5.1.1
       have hfit:off+vs.length≤cs.length:=Nat.le_of_ble_eq_true h5.1.2
       rw [a06] at h1
       obtain ⟨f,j,g1,g2,g3,g4,g5⟩:=hf k off ft h1
       subst g2;subst g3
       have hplace:=hp k f j g1 g4
       have hsz:j.size=N7 i:=by
        have:=(G _ _ h2).run_sizeOf w
        simp [sizeOf,typeInfo,g4] at this
        exact this
       have hR:=(P4 hC h4 h5.2 (hT.ev h3)).1
       have hvl:=RelVs.length _ hR
       have hcl:=RelVs.length _ hr
       simp at hvl hcl
       have hfold:=a5U f.offset (a.eval x).cells.toList 0 cells (by simp;omega)
       have hfold2:(a.eval x).cells.zipIdx.foldl (fun cs (p:Value×Nat)=>cs.setIfInBounds (f.offset+p.2) p.1) cells=(cells.toList.take f.offset++(a.eval x).cells.toList++cells.toList.drop (f.offset+vs.length)).toArray:=by
        rw [← Array.foldl_toList]
        have e:(a.eval x).cells.zipIdx.toList=(a.eval x).cells.toList.zipIdx 0:=by simp
        rw [e,hfold]
        simp [hvl]
       have hfold3:(a.eval x).cells.zipIdx.foldl (fun cs (p:Value×Nat)=>match p with | (c,j)=>cs.setIfInBounds (f.offset+j) c) cells=(cells.toList.take f.offset++(a.eval x).cells.toList++cells.toList.drop (f.offset+vs.length)).toArray:=hfold2
       obtain ⟨out,e1,e2⟩:=a5V G hT hC hf hp h (cells.toList.take f.offset++(a.eval x).cells.toList++cells.toList.drop (f.offset+vs.length)).toArray (by
        rw [a0z _ _ _ _ hfit]
        simp only [List.reverse_nil,List.nil_append]
        exact RelVs.append _ (RelVs.append _ (RelVs.take _ _ hr) hR) (RelVs.drop _ _ hr))
       refine ⟨out,?_,e2⟩
       simp only [List.map_cons,Instr.fill,hplace]
       rw [if_neg (by simp [hvl,hl,hsz];omega),hfold3]
       exact e1
theorem a7U {fields:Array Field} {w:World} (hall:∀ f∈fields.toList,∃ j,P.info? f.type=some j):∃ places:Array (Nat×Nat),((fields.mapM fun f=>do pure (f.offset,← sizeOf f.type):Sem (Array (Nat×Nat)))).run P w=.ok places w ∧
 ∀ (k:Nat) (f:Field) (j:TypeInfo),fields[k]?=some f→P.info? f.type=some j→places[k]?=some (f.offset,j.size):=by
 obtain ⟨l⟩:=fields
 have key:∀ (l:List Field),(∀ f∈l,∃ j,P.info? f.type=some j)→∃ ps:List (Nat×Nat),((l.mapM fun f=>do pure (f.offset,← sizeOf f.type):Sem (List (Nat×Nat)))).run P w=.ok ps w∧∀ (k:Nat) (f:Field) (j:TypeInfo),l[k]?=some f→P.info? f.type=some j→ps[k]?=some (f.offset,j.size):=by
  intro l
  induction l with
  | nil=>intro _;exact ⟨[],by simp,by simp⟩
  | cons f l ih =>
   intro h
   obtain ⟨j,hj⟩:=h f (by simp)
   obtain ⟨ps,h1,h2⟩:=ih (fun f hf=>h f (by simp [hf]))
   refine ⟨(f.offset,j.size) :: ps,?_,?_⟩
   ·simp [List.mapM_cons,sizeOf,typeInfo,hj] at h1 ⊢
    rw [h1]
    rfl
   ·intro k f' j' hk hj'
    match k with
    | 0=>simp at hk;subst hk;rw [hj] at hj';cases hj';rfl
    | k+1=>simp at hk;simpa using h2 k f' j' hk hj'
 obtain ⟨ps,h1,h2⟩:=key l hall
 refine ⟨ps.toArray,?_,by simpa using h2⟩
 rw [List.mapM_toArray]
 simp only [Sem.run_map,h1,Result.andThen_ok]
theorem g0 {t:TypeId} {ps:Array (Nat×Operand)} {fs:List (Nat×Nat)} {zs:List Value} {rs:List AV} (G:Good P tb) (ho:o.op=.build t ps) (ht:look t tb=some (.struct fs zs)) (hb:b0a tb m T fs ps.toList (avR zs [])=some rs) (hd:a1X rs=true):QStep P o T m nx nt (.agg rs) :=
 QStep.run fun w0 ρ a w hT hC=>by
  obtain ⟨fields,i,hu,hi,hsz,hz,_,hlen,hf⟩:=G t _ ht
  have hall:∀ f∈fields.toList,∃ j,P.info? f.type=some j:=by
   intro f hm
   obtain ⟨k,hk,rfl⟩:=List.getElem_of_mem hm
   have hk':k < fs.length:=by rw [hlen];simpa using hk
   obtain ⟨f',j,g1,_,g3,g4,_⟩:=hf k fs[k].1 fs[k].2 (by rw [List.getElem?_eq_getElem hk'])
   have:fields[k]?=some (fields.toList[k]):=by simp at hk;simp [hk]
   rw [this] at g1
   cases g1
   exact ⟨j,by rw [g3];exact g4⟩
  have key:∀ w',RelC w0 ρ m nx w'→∃ ys:List Value,RelVs w0 ρ nx rs ys∧(execOp a.eval o).run P w'=.ok (.value (.agg ys.toArray)) w':=by
   intro w' hC'
   obtain ⟨places,hp1,hp2⟩:=a7U (P:=P) (w:=w') hall
   obtain ⟨out,e1,e2⟩:=a5V G hT hC' hf hp2 hb zs.toArray (by simpa [a07] using RelVs.map_v zs)
   refine ⟨out.toList,e2,?_⟩
   have hps:(ps.map fun (p:Nat×Operand)=>(p.1,a.eval p.2)).toList=ps.toList.map fun p=>(p.1,a.eval p.2):=by simp
   have hps':(Array.map (fun x=>match x with | (i,x)=>(i,a.eval x)) ps).toList=ps.toList.map fun p=>(p.1,a.eval p.2):=hps
   simp only [execOp,ho,Instr.build,Sem.run_bind,zeroValue,typeInfo,run_program,Result.andThen_ok,hi,Sem.run_pure,hz,run_underlying hu,hp1,Value.cells,hps',e1]
  obtain ⟨ys,h1,h2⟩:=key w hC
  refine ⟨.agg ys.toArray,by simp only [RelV];exact ⟨ys,rfl,h1⟩,fun w' hC'=>?_⟩
  obtain ⟨ys',h1',h2'⟩:=key w' hC'
  rw [a2y hd h1 h1'] at h2'
  exact h2'
theorem j4 {rs:List ResultVar} {S:St} {x:AV} {c:RC} (h:O9 tb S rs []=some [x]) (hx:RCOK S.m x c):Fin tb rs (.one c) .ret S:=⟨_,h,x,rfl,hx⟩
theorem v6 {rs:List ResultVar} {S:St} {xs:List AV} {cs:List RC} (h:O9 tb S rs []=some xs) (hl:Nat.beq xs.length 1=false) (hn:nodupB (L8 xs [])=true) (ho:a63 xs=true) (hx:RCOKs S.m xs cs):Fin tb rs (.many cs) .ret S:=⟨_,h,hx,hl,hn,ho⟩
theorem g9 {x u:Value} (h:x=u):RCOK m (.v x) (.v u):=by subst h;rfl
theorem A0 {cs:List AV} {xs:List Value} {u:Value} (h:vaR cs []=some xs) (hu:.agg ⟨xs⟩=u):RCOK m (.agg cs) (.v u):=by
 show a34 (.agg cs)=some u
 simp only [a34,h]
 rw [hu]
theorem b8 {id e sz:Nat} {ys ys':List (List Value)} {f f0:Bool} (h:mem m id=some (.row e sz ys' f0)) (hy:ys'=ys) (hf:(!f0 || f)=true:=by rfl):RCOK m (.own id) (.fr e sz ys f):=by subst hy;exact ⟨f0,h,fun e=>by subst e;simpa using hf⟩
theorem o7 {e sz:Nat} {ys:List (List Value)} {f:Bool} (h:[]=ys):RCOK m (.v (.slice none 0 0)) (.fr e sz ys f):=⟨rfl,h.symm⟩
theorem d4:RCOKs m [] []:=trivial
theorem a5 {x:AV} {xs:List AV} {r:RC} {rs:List RC} (h:RCOK m x r) (h':RCOKs m xs rs):RCOKs m (x :: xs) (r :: rs):=⟨h,h'⟩
theorem r4 {x:Operand} {t e sz by_ n n':Nat} {zs:List Value} {ax:AV} (G:Good P tb) (ho:o.op=.call { callee:=.builtin .len,args:=#[x],argTypes:=#[t] }) (ht:look t tb=some (.slice e sz by_ zs)) (hx:ev T x=some ax) (hn:a9o m ax=some n) (he:n=n') :
 QStep P o T m nx nt (.v (.int .i64 n')):=he▸t6 G ho ht hx hn
theorem C3 {α:Type} [Inhabited α] {l:List α} {f:α→List Value} {i:Int} (h0:0≤i) (h1:i < l.length):(l.map f)[i.toNat]?=some (f (l.getD i.toNat default)):=by
 have:i.toNat < l.length:=by omega
 simp [this]
theorem a0X {v v':Value} (h:QStep P o T m nx nt (.v v)) (e:v=v'):QStep P o T m nx nt (.v v'):=e▸h
def a2G (n:Nat) (T:List (Nat×AV)):List Nat→List (Nat×AV)→Option (List (Nat×AV))
 | [],acc=>some acc
 | t :: r,acc=>match look t T with
  | some x=>bif v5 n x then a2G n T r ((t,x) :: acc) else none
  | none=>none
def I7 (n:Nat) (m:List (Nat×Option Row)):List Nat→List (Nat×Option Row)→Option (List (Nat×Option Row))
 | [],acc=>some acc
 | i :: r,acc=>match mem m i with
  | some row=>bif Nat.blt i n && rowRefs n row then I7 n m r ((i,some row) :: acc) else none
  | none=>none
theorem U8 {n:Nat} {T:List (Nat×AV)}:∀ {ks:List Nat} {acc T0:List (Nat×AV)},a2G n T ks acc=some T0→WeakT T n acc→WeakT T n T0
 | [],acc,T0,h,ha=>by simp [a2G] at h;subst h;exact ha
 | t :: r,acc,T0,h,ha=>by
  simp only [a2G] at h
  cases h1:look t T with
  | none=>simp [h1] at h
  | some x =>
   simp only [h1] at h
   cases h2:v5 n x with
   | false=>simp [h2] at h
   | true =>
    simp only [h2,cond_true] at h
    exact U8 h ⟨⟨x,h1,rfl⟩,h2,ha⟩
theorem P5 {n:Nat} {m:List (Nat×Option Row)}:∀ {ks:List Nat} {acc M0:List (Nat×Option Row)},I7 n m ks acc=some M0→WeakM m n acc→WeakM m n M0
 | [],acc,M0,h,ha=>by simp [I7] at h;subst h;exact ha
 | t :: r,acc,M0,h,ha=>by
  simp only [I7] at h
  cases h1:mem m t with
  | none=>simp [h1] at h
  | some x =>
   simp only [h1] at h
   cases h2:(Nat.blt t n && rowRefs n x) with
   | false=>simp [h2] at h
   | true =>
    simp only [h2,cond_true] at h
    simp only [Bool.and_eq_true] at h2
    exact P5 h ⟨⟨x,h1,rfl⟩,h2.1,h2.2,ha⟩
theorem WeakT.append {n:Nat} {T:List (Nat×AV)}:∀ {a b:List (Nat×AV)},WeakT T n a→WeakT T n b→WeakT T n (a++b)
 | [],_,_,h=>h
 | (t,x) :: r,_,h,h'=>⟨h.1,h.2.1,WeakT.append h.2.2 h'⟩
theorem WeakM.append {n:Nat} {m:List (Nat×Option Row)}:∀ {a b:List (Nat×Option Row)},WeakM m n a→WeakM m n b→WeakM m n (a++b)
 | [],_,_,h=>h
 | (i,none) :: r,_,h,h'=>WeakM.append (a:=r) h h'
 | (i,some row) :: r,_,h,h'=>⟨h.1,h.2.1,h.2.2.1,WeakM.append h.2.2.2 h'⟩
theorem m4 {α:Type} {c:Code} (ks ms:List Nat) (mod:α→List (Nat×AV)) (mm:α→List (Nat×Option Row)) (inv:α→Prop) (μ:α→Nat) (x0:α) {T0:List (Nat×AV)} {M0:List (Nat×Option Row)}
 (hT:a2G nx T ks []=some T0) (hM:I7 nx m ms []=some M0) (h0:inv x0) (w1:WeakT T nx (mod x0)) (w2:WeakM m nx (mm x0))
 (round:∀ x,inv x→W P w0 c ⟨mod x++T0,mm x++M0,nx,nt⟩ (sq (fun S'=>∃ x',inv x'∧μ x' < μ x∧WeakT S'.T nx (mod x')∧WeakM S'.m nx (mm x')∧a2G nx S'.T ks []=some T0∧I7 nx S'.m ms []=some M0∧S'.nt=nt) Q)) :
 W P w0 (.loop c) ⟨T,m,nx,nt⟩ Q:=by
 refine b2F (fun x=>⟨mod x++T0,mm x++M0,nx,nt⟩) inv μ x0 h0 ⟨rfl,w1.append (U8 hT trivial),w2.append (P5 hM trivial)⟩ (fun _=>rfl) (fun x hx=>a7Q (round x hx) ?_)
 intro e S' hq
 cases e
 case normal =>
  obtain ⟨x',g1,g2,g3,g4,g5,g6,g7⟩:=hq
  exact ⟨x',g1,⟨g7.symm,g3.append (U8 g5 trivial),g4.append (P5 g6 trivial)⟩,g2⟩
 all_goals exact hq
end
end Go.Rf
namespace Go.Rf
open Go
def u4 (n l h:Int):Bool:=decide (n≥l) && decide (n≤h)
theorem p6 {n l h:Int}:u4 n l h=true↔l≤n∧n≤h:=by simp [u4]
variable {P:Program} [Env P] {tb:List (Nat×TyI)} {w0:Base} {T:List (Nat×AV)} {m:List (Nat×Option Row)} {nx nt:Nat} {o:Oper}
theorem b2G {x y:Operand} {ts:Array TypeId} {k:IntKind} {a b:Int} (ho:o.op=.call { callee:=.builtin .min,args:=#[x,y],argTypes:=ts }) (hx:ev T x=some (.v (.int k a))) (hy:ev T y=some (.v (.int k b))) :
 QStep P o T m nx nt (.v (.int k (min a b))):=by
 have:=b33 (P:=P) (m:=m) (nx:=nx) (nt:=nt) ho hx hy
 have e:(if b < a then b else a)=min a b:=by rw [Int.min_def];split<;>split<;>omega
 rwa [e] at this
section
variable {α β:Type} [Inhabited α] {f:α→β} {z:β} {xs ys:List α} {i:Nat}
def b5j (f:α→β) (z:β) (xs:List α) (i:Nat):List β:=(xs.take i).map f++List.replicate (xs.length - i) z
theorem C4 (h:i < xs.length):(xs.map f)[((i:Int)).toNat]?=some (f (xs.getD i default)):=by simp [h]
theorem t8 {j:Int} (h0:0≤j) (h:j.toNat < xs.length):(xs.map f)[j.toNat]?=some (f (xs.getD j.toNat default)):=by simp [h]
theorem a2b (hl:xs.length=ys.length) (h:∀ j,j < i→xs.getD j default=ys.getD j default) (hi:xs.length≤i):xs=ys:=by
 apply List.ext_getElem hl
 intro j h1 h2
 have:=h j (by omega)
 simpa [h1,h2] using this
theorem p7 {p:Nat→Prop} (h:∀ j,j < i→p j) (hi:p i):∀ j,j < i+1→p j:=fun j hj=>by
 rcases Nat.lt_or_ge j i with h1 | h1
 ·exact h j h1
 ·have:j=i:=by omega
  exact this▸hi
end
def I0 (n:Nat) (f:Nat→Bool):Bool:=(List.range n).all f
theorem P6 {n i:Nat} {f:Nat→Bool} (h:∀ j,j < i→f j=true) (hi:n≤i):I0 n f=true:=by
 simp only [I0,List.all_eq_true,List.mem_range]
 exact fun j hj=>h j (by omega)
theorem L9 {n i:Nat} {f:Nat→Bool} (h:f i=false) (hi:i < n):I0 n f=false:=by
 simp only [I0,List.all_eq_false,List.mem_range]
 exact ⟨i,hi,by simp [h]⟩
theorem w8 {n:Nat} {f:Nat→Bool}:I0 n f=true↔∀ j,j < n→f j=true:=by simp [I0]
theorem Ctr.int {P:Program} [Env P] {f:FuncId} {args:List AV} {a b:Int} (h:Ctr P f args (.one (.v (.int .i64 a)))) (e:a=b):Ctr P f args (.one (.v (.int .i64 b))):=e▸h
structure Setting where
 g:Int
 n:ByteArray
 c:Int
 f:Int
 w:Int
 k:Bool
instance:Inhabited Setting:=⟨⟨0,⟨#[]⟩,0,0,0,false⟩⟩
end Go.Rf
namespace Go.Rf
open Go Go.ChangeShapes Go.WideShapes Go.Deep Go.ChangeAt Go.RowKit
inductive CK where
 | int (k:IntKind)
 | bool
 | str
def CellOK:CK→Value→Prop
 | .int k,v=>∃ n,v=.int k n∧(Lit.int k n).wf=true
 | .bool,v=>∃ b,v=.bool b
 | .str,v=>∃ s,v=.string s∧s.size≤maxLen
def CellsOK:List CK→List Value→Prop
 | [],cs=>cs=[]
 | k :: ks,cs=>∃ v vs,cs=v :: vs∧CellOK k v∧CellsOK ks vs
def b0b (P:Program) (t:TypeId):Option CK:=match P.underlying t with
 | some (.int k)=>some (.int k)
 | some .bool=>some .bool
 | some .string=>some .str
 | _=>none
def a9v (P:Program):List Field→Option (List CK)
 | []=>some []
 | f :: r=>match b0b P f.type,a9v P r with
  | some k,some ks=>some (k :: ks)
  | _,_=>none
theorem CellOK.one {k:CK} {v:Value} (h:CellOK k v):v.oneCell'=true:=by
 cases k<;>simp only [CellOK] at h
 ·obtain ⟨n,rfl,_⟩:=h;rfl
 ·obtain ⟨n,rfl⟩:=h;rfl
 ·obtain ⟨n,rfl,_⟩:=h;rfl
theorem CellsOK.len:∀ {ks:List CK} {cs:List Value},CellsOK ks cs→cs.length=ks.length∧∀ u∈cs,u.oneCell'=true
 | [],cs,h=>by simp only [CellsOK] at h;subst h;simp
 | k :: ks,cs,h=>by
  simp only [CellsOK] at h
  obtain ⟨v,vs,rfl,h1,h2⟩:=h
  obtain ⟨a,b⟩:=CellsOK.len h2
  exact ⟨by simp [a],fun u hu=>by rcases List.mem_cons.mp hu with rfl | hu;exact h1.one;exact b u hu⟩
section
variable {H:Type} {enc:TypeId×Value→H} {P:Program} {w:World} {base:Nat} {spare:Nat→Bool} {held:Bool} {t e:TypeId}
theorem a2H {k:CK} {n:Nat} {cs:List Value} {x:DataW H×List MemPlace} (hk:b0b P t=some k) (h:DataW.trod enc P w base spare held n t cs=some x):∃ v,cs=[v]∧CellOK k v:=by
 unfold b0b at hk
 split at hk<;>cases hk
 ·next k ht=>obtain ⟨n,rfl,_,hw⟩:=DataW.trod_int ht h;exact ⟨_,rfl,n,rfl,hw⟩
 ·next ht=>obtain ⟨b,rfl,_⟩:=DataW.trod_bool ht h;exact ⟨_,rfl,b,rfl⟩
 ·next ht=>obtain ⟨s,rfl,_,hs⟩:=DataW.trod_string ht h;exact ⟨_,rfl,s,rfl,hs⟩
theorem a4W:∀ (l:List Field) (ks:List CK) (cs:List Value),a9v P l=some ks→cs.length=l.length→(∀ (j:Nat) (f:Field) (k:CK),l[j]?=some f→b0b P f.type=some k→∃ v,cs[j]?=some v∧CellOK k v)→CellsOK ks cs
 | [],ks,cs,hk,hl,_=>by simp [a9v] at hk;subst hk;simpa [CellsOK] using hl
 | f :: r,ks,cs,hk,hl,h=>by
  simp only [a9v] at hk
  split at hk
  ·next k ks' h1 h2 =>
   cases hk
   match cs,hl with
   | c :: cs,hl =>
    obtain ⟨v,hv,hok⟩:=h 0 f k rfl h1
    simp at hv
    subst hv
    exact ⟨c,cs,rfl,hok,a4W r ks' cs h2 (by simpa using hl) fun j f' k' hj hk'=>by simpa using h (j+1) f' k' (by simpa using hj) hk'⟩
  ·cases hk
theorem a4i {fs:Array Field} {ks:List CK} {n:Nat} {cs:List Value} {x:DataW H×List MemPlace} (hs:P.underlying t=some (.struct fs)) (hone:oneCellFields P fs=true) (hC:P.cellsOf t=fs.size) (hk:a9v P fs.toList=some ks)
 (h:DataW.trod enc P w base spare held n t cs=some x):CellsOK ks cs:=by
 obtain ⟨xs,n',_,_,hlen,hxl,hf⟩:=DataW.trod_struct hs h
 refine a4W _ _ _ hk (by rw [hlen,hC];simp) fun j f k hj hkf=>?_
 have hj':fs[j]?=some f:=by simpa using hj
 obtain ⟨ho,h1⟩:=hone_of hone j f hj'
 have hjl:j < fs.size:=(Array.getElem?_eq_some_iff.1 hj').1
 have h2:=hf j f hj'
 rw [ho,h1,List.getElem?_eq_getElem (by omega)] at h2
 obtain ⟨v,hv,hok⟩:=a2H hkf h2
 refine ⟨v,?_,hok⟩
 have:((cs.drop j).take 1)[0]?=some v:=by rw [hv];rfl
 simpa using this
theorem a7V {a:Addr} {v:Value} (h:w.cell? a=some v):a.block < w.heap.size:=by
 unfold World.cell? at h
 split at h
 ·next hb=>exact (Array.getElem?_eq_some_iff.1 hb).1
 ·cases h
inductive EK where
 | one (k:CK)
 | str (fs:Array Field) (ks:List CK)
def EK.sz:EK→Nat
 | .one _=>1
 | .str fs _=>fs.size
def EK.ks:EK→List CK
 | .one k=>[k]
 | .str _ ks=>ks
def EK.Fits (P:Program) (e:TypeId):EK→Prop
 | .one k=>b0b P e=some k∧P.cellsOf e=1
 | .str fs ks=>P.underlying e=some (.struct fs)∧oneCellFields P fs=true∧P.cellsOf e=fs.size∧a9v P fs.toList=some ks
theorem EK.Fits.cells {E:EK} (h:E.Fits P e):P.cellsOf e=E.sz:=by cases E<;>simp only [EK.Fits] at h;exact h.2;exact h.2.2.1
theorem EK.Fits.trod {E:EK} (h:E.Fits P e) {n:Nat} {cs:List Value} {x:DataW H×List MemPlace} (ht:DataW.trod enc P w base spare held n e cs=some x):CellsOK E.ks cs:=by
 cases E<;>simp only [EK.Fits] at h
 ·obtain ⟨v,rfl,hv⟩:=a2H h.1 ht;exact ⟨v,[],rfl,hv,rfl⟩
 ·exact a4i h.1 h.2.1 h.2.2.1 h.2.2.2 ht
theorem a64 {v:Value} {d:DataW H} {p:List MemPlace} {E:EK} (ht:P.underlying t=some (.slice e)) (hE:E.Fits P e) (hsz:E.sz≠0) (hv:∃ a len cap,v=.slice a len cap) (h:DataW.Trod enc P w base spare held t v d p) :
 ∃ ys,ReadsAt w E.sz ys v∧ys.length≤maxLen∧∀ c∈ys,CellsOK E.ks c:=by
 obtain ⟨a,len,cap,rfl⟩:=hv
 obtain ⟨fuel,hf⟩:=h
 rcases open_slice ht hf with ⟨hcs,_⟩ | ⟨a',len',cap',m,n,D,Pl,hcs,hb,hl,hm,hmm,hx,hi⟩
 ·simp [Value.cells] at hcs
  obtain ⟨rfl,rfl,rfl⟩:=hcs
  exact ⟨[],⟨none,0,rfl,Nat.le_refl _,by simp,by simp⟩,by simp,by simp⟩
 ·simp [Value.cells] at hcs
  obtain ⟨rfl,rfl,rfl⟩:=hcs
  have hlm:len≤m:=by rw [hmm];split<;>omega
  rw [hE.cells] at hi
  let ys:=(List.range len).map fun i=>(w.cells? base (a'.add (i * E.sz)) E.sz).getD []
  have hget:∀ i c,ys[i]?=some c→i < len∧w.cells? base (a'.add (i * E.sz)) E.sz=some c∧CellsOK E.ks c:=by
   intro i c hic
   simp only [ys,List.getElem?_map] at hic
   rcases Nat.lt_or_ge i len with hlt | hge
   ·obtain ⟨cs',h1,h2⟩:=hi i (by omega)
    rw [List.getElem?_range hlt] at hic
    simp [h1] at hic
    subst hic
    exact ⟨hlt,h1,hE.trod h2⟩
   ·rw [List.getElem?_eq_none (by simpa using hge)] at hic
    cases hic
  have hlen:ys.length=len:=by simp [ys]
  refine ⟨ys,⟨some a',cap,by rw [hlen],by omega,fun c hc=>?_,fun h0=>⟨a',rfl,?_,fun i c hic j u hju=>?_⟩⟩,by omega,fun c hc=>?_⟩
  ·obtain ⟨i,hic⟩:=List.getElem?_of_mem hc
   obtain ⟨_,h1,h2⟩:=hget i c hic
   exact ⟨(World.cells?_some h1).2.1,h2.len.2⟩
  ·obtain ⟨cs',h1,_⟩:=hi 0 (by omega)
   obtain ⟨_,h2,h3⟩:=World.cells?_some h1
   have h4:=h3 0 (by omega)
   rw [List.getElem?_eq_getElem (by omega)] at h4
   have:=a7V h4
   simpa [Addr.add] using this
  ·obtain ⟨_,h1,_⟩:=hget i c hic
   obtain ⟨_,h2,h3⟩:=World.cells?_some h1
   have hj:j < c.length:=(List.getElem?_eq_some_iff.1 hju).1
   rw [← hju,← h3 j (by omega)]
   rw [← Go.Deep.add_add]
  ·obtain ⟨i,hic⟩:=List.getElem?_of_mem hc
   exact (hget i c hic).2.2
end
theorem a9w {w:World}:RelVs w noRho 0 [] []:=rfl
theorem a9x {w:World} {sz:Nat} {ys:List (List Value)} {v:Value} {as:List AV} {vs:List Value} (hr:ReadsAt w sz ys v) (h:RelVs w noRho 0 as vs):RelVs w noRho 0 (.lst sz ys :: as) (v :: vs):=by
 simp only [RelVs];exact ⟨v,vs,rfl,by simpa only [RelV] using hr,h⟩
theorem Ctr.true {P:Program} [Env P] {f:FuncId} {args:List AV} (h:Ctr P f args (.one (.v (.bool Bool.true)))) {w:World} {vs:List Value} (hE:Env.E P w) (hv:RelVs w noRho 0 args vs) :
 Calls P f vs.toArray w fun e w'=>e=.returned (.bool Bool.true)∧Below w.heap.size w w' :=
 (h.calls w vs hE hv).mono fun e w' ⟨v,he,hr,hb⟩=>⟨by simp only [ResRel,RCRel] at hr;rw [he,hr],hb⟩
end Go.Rf
namespace Go.Rf
open Go
theorem a65 {α:Type} {f:α→List Value} {ks:List CK} {Q:α→Prop} (h:∀ c,CellsOK ks c→∃ x,c=f x∧Q x):∀ (ys:List (List Value)),(∀ c∈ys,CellsOK ks c)→∃ xs:List α,ys=xs.map f∧∀ x∈xs,Q x
 | [],_=>⟨[],rfl,by simp⟩
 | c :: r,hc=>by
  obtain ⟨x,rfl,hx⟩:=h c (hc c (by simp))
  obtain ⟨xs,rfl,hxs⟩:=a65 h r (fun c' h'=>hc c' (by simp [h']))
  exact ⟨x :: xs,rfl,fun y hy=>by rcases List.mem_cons.mp hy with rfl | hy;exact hx;exact hxs y hy⟩
end Go.Rf
namespace Go.Rf
open Go Go.RowKit
def nq (K:St→Prop):Exit→St→Prop
 | .normal,S=>K S
 | _,_=>False
def a2c:Op→Bool
 | .load _ _=>true
 | .field _ _ _=>true
 | .fieldAddr _ _ _=>true
 | .index _ _ _=>true
 | .indexAddr _ _ _=>true
 | .move _=>true
 | .assign _=>true
 | .binOp _ _ _ _ _=>true
 | .unOp _ _ _=>true
 | .convert _ _ _=>true
 | .slice _ _ _ _ _=>true
 | .build _ _=>true
 | .extract _ _=>true
 | .pick _ _ _=>true
 | .makeFunc _ _ _=>true
 | .call { callee:=.builtin .len,args:=_,argTypes:=_ }=>true
 | .call { callee:=.builtin .min,args:=_,argTypes:=_ }=>true
 | .call { callee:=.builtin .max,args:=_,argTypes:=_ }=>true
 | _=>false
theorem a35 {P:Program} {x:Sem Value} {w w':World} {n:Next} (h:(do let v ← x;pure (Next.value v):Sem Next).run P w=.ok n w'):∃ v,n=.value v:=by
 simp only [Sem.run_bind] at h
 cases hx:x.run P w with
 | ok v w1=>rw [hx] at h;simp at h;exact ⟨v,h.1.symm⟩
 | halt c w1=>rw [hx] at h;simp at h
theorem a3y {P:Program} {o:Oper} (hp:a2c o.op=true) {ρ:Operand→Value} {w w':World} {n:Next} (h:(execOp ρ o).run P w=.ok n w'):∃ v,n=.value v:=by
 unfold execOp at h
 split at h<;>rename_i he<;>rw [he] at hp<;>first
  | (cases hp;done)
  | exact a35 h
  | (simp at h;exact ⟨_,h.1.symm⟩)
  | skip
 ·simp only [Sem.run_bind] at h
  rename_i c x y
  cases hx:(asBool (ρ c)).run P w with
  | ok v w1=>rw [hx] at h;simp at h;exact ⟨_,h.1.symm⟩
  | halt cc w1=>rw [hx] at h;simp at h
 ·rename_i c
  obtain ⟨cal,args,ts⟩:=c
  cases cal with
  | value f=>cases hp
  | invoke r nm=>cases hp
  | builtin b =>
   cases b<;>first
    | (cases hp;done)
    | (simp only [resolve,invoke,builtin,Sem.run_bind,Sem.run_pure,Result.andThen_ok] at h;exact a35 (by simpa only [Sem.run_bind,Sem.run_pure] using h))
section
variable {P:Program} [Env P] {b:Base} {ops:Array Oper} {o:Oper} {T:List (Nat×AV)} {m m0:List (Nat×Option Row)} {nx nt d i fuel:Nat} {listed:Array Bool} {r:AV} {K:St→Prop}
def Cls (b:Base) (m0:List (Nat×Option Row)) (w:World):Prop:=RelC b b.r0 m0 b.n0 w
theorem Inner.eq {w0 w0':Base} {ρ ρ':Nat→Value} {m:List (Nat×Option Row)} {w:World} (h:Inner w0 ρ m w) (hr:∀ id r,mem m id=some r→ρ' id=ρ id) (hk:w0'.keep=w0.keep:=by rfl) (hw:w0'.w=w0.w:=by rfl):Inner w0' ρ' m w:=by
 intro id r hm p b hb
 rw [hr id r hm] at hb
 obtain ⟨g1,g2,g3,g4⟩:=h id r hm p b hb
 refine ⟨by rw [hk];exact g1,by rw [hw];exact g2,g3,fun id' r' hm'=>?_⟩
 rw [hr id' r' hm']
 exact g4 id' r' hm'
theorem RelC.pinned {ρ:Nat→Value} {w w':World} (hC:RelC b ρ m nx w) (h:Cls b m0 w'):RelC b ρ m0 nx w':=by
 have hr:∀ i,i < b.n0→ρ i=b.r0 i:=hC.pin.2
 refine ⟨fun id r hm=>?_,fun id id' r r' hm hm' hne bb hb=>?_,h.below,hC.pin,⟨h.kept.1,h.kept.2.1,fun id r hm bb hb=>?_⟩,h.inner.eq fun id r hm=>hr id (h.rows id r hm).1⟩
 ·obtain ⟨h1,h2⟩:=h.rows id r hm
  exact ⟨Nat.lt_of_lt_of_le h1 hC.pin.1,h2.mono hC.pin.1 hr h1⟩
 ·have h1:=(h.rows id r hm).1
  have h2:=(h.rows id' r' hm').1
  rw [hr id h1] at hb
  rw [hr id' h2]
  exact h.apart id id' r r' hm hm' hne bb hb
 ·rw [hr id (h.rows id r hm).1] at hb
  exact h.kept.2.2 id r hm bb hb
theorem RelC.cls {ρ:Nat→Value} {w:World} {ms:List Nat} (hC:RelC b ρ m nx w) (h:I7 b.n0 m ms []=some m0):Cls b m0 w:=by
 have hw:WeakM m b.n0 m0:=P5 h trivial
 have hr:∀ i,i < b.n0→ρ i=b.r0 i:=hC.pin.2
 have h2:RelC b ρ m0 b.n0 w:=(Weak.rel (S:=⟨[],m,nx,0⟩) (S':=⟨[],m0,b.n0,0⟩) ⟨rfl,trivial,hw⟩ (Nat.le_refl _) (ρ:=ρ) (a:=⟨#[],[]⟩) ⟨fun t x hx=>(by cases hx),rfl,rfl⟩ hC).2
 refine ⟨fun id r hm=>?_,fun id id' r r' hm hm' hne bb hb=>?_,h2.below,⟨Nat.le_refl _,fun _ _=>rfl⟩,⟨h2.kept.1,h2.kept.2.1,fun id r hm bb hb=>?_⟩,h2.inner.eq fun id r hm=>(hr id (h2.rows id r hm).1).symm⟩
 ·obtain ⟨g1,g2⟩:=h2.rows id r hm
  exact ⟨g1,g2.mono (Nat.le_refl _) (fun j hj=>(hr j hj).symm) g1⟩
 ·have g1:=(h2.rows id r hm).1
  have g2:=(h2.rows id' r' hm').1
  rw [← hr id g1] at hb
  rw [← hr id' g2]
  exact h2.apart id id' r r' hm hm' hne bb hb
 ·rw [← hr id (h2.rows id r hm).1] at hb
  exact h2.kept.2.2 id r hm bb hb
def WA (P:Program) (b:Base) (ops:Array Oper) (m0:List (Nat×Option Row)) (fuel:Nat) (listed:Array Bool) (S:St) (K:St→Prop):Prop :=
 Region.noSelect ops=true→∀ ρ a w,RelT b.w ρ S.T S.nx S.nt a→RelC b ρ S.m S.nx w→Cls b m0 w→wpAnyH P .any ops (a0t b (nq K)) (Cls b m0) fuel listed a w
theorem C0 {e:Exit} {a:Act} {w:World} (h:a0t b (nq K) e a w):e=.normal:=by
 obtain ⟨ρ,S,h,_⟩:=h
 cases e<;>first | rfl | exact h.elim
theorem b9 [EnvAt P b] (i:Nat) (hi:ops[i]?=some o) (hf:Region.free .any ops listed i=true) (hr:(Region.ready .any ops listed).contains i=true) (hp:a2c o.op=true) (hg:o.guard=none)
 (hd:o.dst=some d) (hlt:Nat.blt d nt=true) (hq:QStep P o T m0 nx nt r) (hk:WA P b ops m0 fuel (listed.setIfInBounds i true) ⟨(d,r) :: T,m,nx,nt⟩ K):WA P b ops m0 (fuel+1) listed ⟨T,m,nx,nt⟩ K:=by
 intro hs ρ a w hT hC hS
 obtain ⟨y,hy,hq⟩:=hq b ρ a w hT (hC.pinned hS)
 refine wpAnyH_take hi hs hf hr (fun c a w h=>absurd (C0 h) (by simp)) (v:=y) (.inl ⟨by simp [Region.wanted,hg],fun w' hw'=>?_⟩) hS ?_
 ·have h1:=hq w' (hC.pinned hw')
  unfold Oper.quietAt at h1
  generalize hres:(execOp a.eval o).run P w'=res at *
  cases res with
  | ok n w'' =>
   obtain ⟨v,rfl⟩:=a3y hp hres
   simp only [Oper.quietUpon] at h1
   rw [h1.1,h1.2]
  | halt x w''=>simp only [Oper.quietUpon] at h1
 ·rw [hd]
  exact hk hs ρ _ w (hT.put hlt hy) hC hS
theorem a66 [EnvAt P b] (i:Nat) {j gd:Nat} {want:Bool} (hi:ops[i]?=some o) (hf:Region.free .any ops listed i=true) (hr:(Region.ready .any ops listed).contains i=true) (hp:a2c o.op=true) (hg:o.guard=some (j,want))
 (hj:(ops[j]?).bind (·.dst)=some gd) (hb:look gd T=some (.v (.bool want)))
 (hd:o.dst=some d) (hlt:Nat.blt d nt=true) (hq:QStep P o T m0 nx nt r) (hk:WA P b ops m0 fuel (listed.setIfInBounds i true) ⟨(d,r) :: T,m,nx,nt⟩ K):WA P b ops m0 (fuel+1) listed ⟨T,m,nx,nt⟩ K:=by
 intro hs ρ a w hT hC hS
 obtain ⟨y,hy,hq⟩:=hq b ρ a w hT (hC.pinned hS)
 refine wpAnyH_take hi hs hf hr (fun c a w h=>absurd (C0 h) (by simp)) (v:=y) (.inl ⟨by rw [T8 hT hg hj hb];simp,fun w' hw'=>?_⟩) hS ?_
 ·have h1:=hq w' (hC.pinned hw')
  unfold Oper.quietAt at h1
  generalize hres:(execOp a.eval o).run P w'=res at *
  cases res with
  | ok n w'' =>
   obtain ⟨v,rfl⟩:=a3y hp hres
   simp only [Oper.quietUpon] at h1
   rw [h1.1,h1.2]
  | halt x w''=>simp only [Oper.quietUpon] at h1
 ·rw [hd]
  exact hk hs ρ _ w (hT.put hlt hy) hC hS
theorem b1s (i:Nat) {j gd:Nat} {want bb:Bool} (hi:ops[i]?=some o) (hf:Region.free .any ops listed i=true) (hr:(Region.ready .any ops listed).contains i=true) (hg:o.guard=some (j,want))
 (hj:(ops[j]?).bind (·.dst)=some gd) (hb:look gd T=some (.v (.bool bb))) (hne:(bb==want)=false)
 (hd:o.dst=some d) (hlt:Nat.blt d nt=true) (hk:WA P b ops m0 fuel (listed.setIfInBounds i true) ⟨(d,.v undef) :: T,m,nx,nt⟩ K):WA P b ops m0 (fuel+1) listed ⟨T,m,nx,nt⟩ K:=by
 intro hs ρ a w hT hC hS
 refine wpAnyH_take hi hs hf hr (fun c a w h=>absurd (C0 h) (by simp)) (v:=undef) (.inr ⟨by rw [T8 hT hg hj hb,hne],rfl⟩) hS ?_
 rw [hd]
 exact hk hs ρ _ w (hT.put hlt (by simp [RelV])) hC hS
theorem a9y (i:Nat) {j gd:Nat} {want:Bool} (hi:ops[i]?=some o) (hf:Region.free .any ops listed i=true) (hr:(Region.ready .any ops listed).contains i=true) (hg:o.guard=some (j,want))
 (hj:(ops[j]?).bind (·.dst)=some gd) (hb:look gd T=some (.v undef))
 (hd:o.dst=some d) (hlt:Nat.blt d nt=true) (hk:WA P b ops m0 fuel (listed.setIfInBounds i true) ⟨(d,.v undef) :: T,m,nx,nt⟩ K):WA P b ops m0 (fuel+1) listed ⟨T,m,nx,nt⟩ K:=by
 intro hs ρ a w hT hC hS
 refine wpAnyH_take hi hs hf hr (fun c a w h=>absurd (C0 h) (by simp)) (v:=undef) (.inr ⟨a0u hT hg hj hb,rfl⟩) hS ?_
 rw [hd]
 exact hk hs ρ _ w (hT.put hlt (by simp [RelV])) hC hS
def WB (P:Program) (b:Base) (ops:Array Oper) (m0:List (Nat×Option Row)) (fuel:Nat) (listed:Array Bool) (i:Nat) (S:St) (K:St→Prop):Prop :=
 Region.noSelect ops=true→∀ ρ a w,RelT b.w ρ S.T S.nx S.nt a→RelC b ρ S.m S.nx w→Cls b m0 w→wpOp P ops (a0t b (nq K)) i (fun a' w'=>Cls b m0 w'∧wpAnyH P .any ops (a0t b (nq K)) (Cls b m0) fuel (listed.setIfInBounds i true) a' w') a w
def AllB (P:Program) (b:Base) (ops:Array Oper) (m0:List (Nat×Option Row)) (fuel:Nat) (listed:Array Bool) (S:St) (K:St→Prop):List Nat→Prop
 | []=>True
 | i :: r=>WB P b ops m0 fuel listed i S K∧AllB P b ops m0 fuel listed S K r
theorem AllB.get {S:St}:∀ {rs:List Nat},AllB P b ops m0 fuel listed S K rs→∀ i∈rs,WB P b ops m0 fuel listed i S K
 | [],_,i,hi=>by cases hi
 | j :: r,h,i,hi=>by
  rcases List.mem_cons.1 hi with rfl | hi
  ·exact h.1
  ·exact AllB.get h.2 i hi
theorem AllB.nil {S:St}:AllB P b ops m0 fuel listed S K []:=trivial
theorem AllB.cons {S:St} {rs:List Nat} (h:WB P b ops m0 fuel listed i S K) (h':AllB P b ops m0 fuel listed S K rs):AllB P b ops m0 fuel listed S K (i :: rs):=⟨h,h'⟩
theorem a9 {S:St} {rs:List Nat} (hr:Region.ready .any ops listed=rs) (hne:rs.isEmpty=false) (h:AllB P b ops m0 fuel listed S K rs):WA P b ops m0 (fuel+1) listed S K :=
 fun hs ρ a w hT hC hS=>wpAnyH_all hr (by rintro rfl;cases hne) fun i hi=>h.get i hi hs ρ a w hT hC hS
theorem l9 {S:St} (hr:Region.ready .any ops listed=[]) (h:K S):WA P b ops m0 fuel listed S K :=
 fun hs ρ a w hT hC hS=>wpAnyH_done hr ⟨ρ,S,h,hT,hC⟩ fuel
theorem b0c {K':St→Prop} {a:Act} {w:World} {n n':Act→World→Prop} (h:o.wp P a w n (a0t b (nq K))) (hn:∀ a w,n a w→n' a w):o.wp P a w n' (a0t b (nq K')):=by
 unfold Oper.wp at *
 generalize (execOp a.eval o).run P w=r at *
 cases r with
 | ok x w' =>
  cases x<;>simp only [Oper.upon] at h ⊢<;>first
   | exact hn _ _ h
   | skip
  case enter f args =>
   refine h.mono fun e w'' he=>?_
   cases e with
   | returned u=>exact hn _ _ he
   | panicked c=>exact absurd (C0 he) (by simp)
   | outgrown=>obtain ⟨a,w,he⟩:=he;exact absurd (C0 he) (by simp)
  case row row args=>exact Rows.mono h fun u w'' he=>hn _ _ he
 | halt x w' =>
  cases x<;>simp only [Oper.upon] at h ⊢
  case panic u=>exact absurd (C0 h) (by simp)
theorem c7 (ms:List Nat) {S:St} (hi:ops[i]?=some o) (hg:o.guard=none)
 (h:WX P b ops o [] S (nq (fun S'=>I7 b.n0 S'.m ms []=some m0∧WA P b ops m0 fuel (listed.setIfInBounds i true) S' K))):WB P b ops m0 fuel listed i S K:=by
 intro hs ρ a w hT hC hS
 unfold wpOp
 simp only [hi]
 rw [if_pos (by simp [Region.wanted,hg])]
 refine .inl (b0c (h ρ a w hT hC) ?_)
 rintro a' w' ⟨ρ',S',⟨h1,h2⟩,hT',hC'⟩
 exact ⟨hC'.cls h1,h2 hs ρ' a' w' hT' hC' (hC'.cls h1)⟩
theorem j9 {w0:Base} (n:Nat) (ms:List Nat) {id:Nat} {l:List Oper} {Q:Exit→St→Prop} (hm:P.follows .mixedOrders=true) (hs:Region.noSelect l.toArray=true) (hn:l.toArray.size=n) (hK:I7 nx m ms []=some m0)
 (h:∀ r0,WA P ⟨w0.w,nx,r0,w0.ws,w0.keep,w0.kb,w0.E,w0.hE⟩ l.toArray m0 n (Array.replicate n false) ⟨T,m,nx,nt⟩ K) (hq:∀ S',K S'→Q .normal S'):W P w0 (.region id l.toArray true) ⟨T,m,nx,nt⟩ Q:=by
 intro ρ a w hT hC
 refine wp_region_held (S:=Cls ⟨w0.w,nx,ρ,w0.ws,w0.keep,w0.kb,w0.E,w0.hE⟩ m0) hm ?_
 have hC1:RelC ⟨w0.w,nx,ρ,w0.ws,w0.keep,w0.kb,w0.E,w0.hE⟩ ρ m nx w.drew:=let h:=hC.drew;⟨h.rows,h.apart,h.below,⟨Nat.le_refl _,fun _ _=>rfl⟩,h.kept,h.inner⟩
 subst hn
 have h1:=h ρ hs ρ a w.drew hT hC1 (RelC.cls (ms:=ms) hC1 hK)
 refine mono (fun a' w' hp=>?_) _ _ _ _ h1
 obtain ⟨ρ',S',h2,h3,h4⟩:=hp
 exact ⟨ρ',S',hq S' h2,h3,h4.rows,h4.apart,h4.below,⟨Nat.le_trans hC.pin.1 h4.pin.1,fun i hi=>(h4.pin.2 i (Nat.lt_of_lt_of_le hi hC.pin.1)).trans (hC.pin.2 i hi)⟩,h4.kept,h4.inner⟩
where
 mono {b:Base} {S:World→Prop} {Q':Exit→Act→World→Prop} {ops:Array Oper} {K:St→Prop} (h:∀ a w,a0t b (nq K) .normal a w→Q' .normal a w):∀ (fuel:Nat) (listed:Array Bool) (a:Act) (w:World),wpAnyH P .any ops (a0t b (nq K)) S fuel listed a w→wpAnyH P .any ops Q' S fuel listed a w
  | 0,_,_,_,hh=>⟨hh.1,h _ _ hh.2⟩
  | fuel+1,listed,a,w,hh=>⟨fun h0=>h _ _ (hh.1 h0),fun i hi=>by
   have h3:=hh.2 i hi
   unfold wpOp at h3 ⊢
   cases ho:ops[i]? with
   | none=>simp only [ho] at h3;exact ⟨h3.1,mono h fuel _ _ _ h3.2⟩
   | some o =>
    simp only [ho] at h3 ⊢
    split
    ·rename_i hw
     rw [if_pos hw] at h3
     rcases h3 with h3 | ⟨_,a',w',h3⟩
     ·refine .inl (wp_any h3 fun a w h4=>⟨h4.1,mono h fuel _ _ _ h4.2⟩)
     ·exact absurd (C0 h3) (by simp)
    ·rename_i hw
     rw [if_neg hw] at h3
     exact ⟨h3.1,mono h fuel _ _ _ h3.2⟩⟩
 wp_any {b:Base} {o:Oper} {K:St→Prop} {a:Act} {w:World} {n n':Act→World→Prop} {Q':Exit→Act→World→Prop} (h:o.wp P a w n (a0t b (nq K))) (hn:∀ a w,n a w→n' a w):o.wp P a w n' Q':=by
  unfold Oper.wp at *
  generalize (execOp a.eval o).run P w=r at *
  cases r with
  | ok x w' =>
   cases x<;>simp only [Oper.upon] at h ⊢<;>first
    | exact hn _ _ h
    | skip
   case enter f args =>
    refine h.mono fun e w'' he=>?_
    cases e with
    | returned u=>exact hn _ _ he
    | panicked c=>exact absurd (C0 he) (by simp)
    | outgrown=>obtain ⟨a,w,he⟩:=he;exact absurd (C0 he) (by simp)
   case row row args=>exact Rows.mono h fun u w'' he=>hn _ _ he
  | halt x w' =>
   cases x<;>simp only [Oper.upon] at h ⊢
   case panic u=>exact absurd (C0 h) (by simp)
def Meet (ts ms:List Nat) (T1:List (Nat×AV)) (M1:List (Nat×Option Row)) (nx nt:Nat) (S:St):Prop :=
 a2G nx S.T ts []=some T1∧I7 nx S.m ms []=some M1∧S.nx=nx∧S.nt=nt
theorem Meet.mk {ts ms:List Nat} {T1:List (Nat×AV)} {M1:List (Nat×Option Row)} {S:St} (h1:a2G nx S.T ts []=some T1) (h2:I7 nx S.m ms []=some M1) (h3:S.nx=nx) (h4:S.nt=nt):Meet ts ms T1 M1 nx nt S:=⟨h1,h2,h3,h4⟩
theorem Meet.use {w0:Base} {ts ms:List Nat} {T1:List (Nat×AV)} {M1:List (Nat×Option Row)} {S:St} {c:Code} {Q:Exit→St→Prop} (h:Meet ts ms T1 M1 nx nt S) (hk:W P w0 c ⟨T1,M1,nx,nt⟩ Q):W P w0 c S Q:=by
 obtain ⟨h1,h2,h3,h4⟩:=h
 exact a98 (S':=⟨T1,M1,nx,nt⟩) ⟨h4.symm,U8 h1 trivial,P5 h2 trivial⟩ h3.symm hk
theorem F4 {w0:Base} (ts ms2:List Nat) (nx2 n:Nat) (ms:List Nat) {id:Nat} {l:List Oper} {y:Code} {Q Q':Exit→St→Prop} {T1:List (Nat×AV)} {M1:List (Nat×Option Row)} (hm:P.follows .mixedOrders=true) (hs:Region.noSelect l.toArray=true) (hn:l.toArray.size=n) (hK:I7 nx m ms []=some m0)
 (hq:∀ S',W P w0 y S' Q'→Q .normal S') (h:∀ r0,WA P ⟨w0.w,nx,r0,w0.ws,w0.keep,w0.kb,w0.E,w0.hE⟩ l.toArray m0 n (Array.replicate n false) ⟨T,m,nx,nt⟩ (Meet ts ms2 T1 M1 nx2 nt)) (h2:W P w0 y ⟨T1,M1,nx2,nt⟩ Q'):W P w0 (.region id l.toArray true) ⟨T,m,nx,nt⟩ Q :=
 j9 n ms hm hs hn hK h fun S' hS=>hq S' (hS.use h2)
end
def evL (T:List (Nat×AV)):List Operand→List AV→Option (List AV)
 | [],acc=>a0Z acc []
 | x :: xs,acc=>match ev T x with
  | some av=>evL T xs (av :: acc)
  | none=>none
mutual
def a2d (ids:List Nat):AV→AV
 | .own i=>.own (ids.getD i 0)
 | .sub i sz a n=>.sub (ids.getD i 0) sz a n
 | .ptr i o=>.ptr (ids.getD i 0) o
 | .rpt i sz a k=>.rpt (ids.getD i 0) sz a k
 | .agg cs=>.agg (renAs ids cs)
 | .tup cs=>.tup (renAs ids cs)
 | .fnc f cs=>.fnc f (renAs ids cs)
 | .v x=>.v x
 | .lst sz ys=>.lst sz ys
 | .pin z sz ys=>.pin z sz ys
 | .ept cs=>.ept cs
 | .nst z sz yss=>.nst z sz yss
 | .eptN cs=>.eptN (renAs ids cs)
 | .any=>.any
def renAs (ids:List Nat):List AV→List AV
 | []=>[]
 | c :: cs=>a2d ids c :: renAs ids cs
end
mutual
theorem RelV.ren {w0:World} {ρ:Nat→Value} {nx k:Nat} {ids:List Nat}:∀ (x:AV) {y:Value},v5 k x=true→RelV w0 ρ nx (a2d ids x) y→RelV w0 (fun j=>ρ (ids.getD j 0)) k x y
 | .v _,_,_,h=>by simpa only [a2d,RelV] using h
 | .lst _ _,_,_,h=>by simpa only [a2d,RelV] using h
 | .pin _ _ _,_,_,h=>by simpa only [a2d,RelV] using h
 | .ept _,_,_,h=>by simpa only [a2d,RelV] using h
 | .own i,_,hm,h=>by simp only [v5] at hm;simp only [a2d,RelV] at h ⊢;exact ⟨Nat.le_of_ble_eq_true hm,h.2⟩
 | .sub i _ _ _,_,hm,h=>by simp only [v5] at hm;simp only [a2d,RelV] at h ⊢;exact ⟨Nat.le_of_ble_eq_true hm,h.2⟩
 | .ptr i _,_,hm,h=>by simp only [v5] at hm;simp only [a2d,RelV] at h ⊢;exact ⟨Nat.le_of_ble_eq_true hm,h.2⟩
 | .rpt i _ _ _,_,hm,h=>by simp only [v5] at hm;simp only [a2d,RelV] at h ⊢;exact ⟨Nat.le_of_ble_eq_true hm,h.2⟩
 | .agg cs,_,hm,h=>by
  simp only [v5] at hm
  simp only [a2d,RelV] at h ⊢
  obtain ⟨ys,e,h⟩:=h
  exact ⟨ys,e,RelVs.ren cs hm h⟩
 | .tup cs,_,hm,h=>by
  simp only [v5] at hm
  simp only [a2d,RelV] at h ⊢
  obtain ⟨ys,e,h⟩:=h
  exact ⟨ys,e,RelVs.ren cs hm h⟩
 | .fnc _ cs,_,hm,h=>by
  simp only [v5] at hm
  simp only [a2d,RelV] at h ⊢
  obtain ⟨ys,e,h⟩:=h
  exact ⟨ys,e,RelVs.ren cs hm h⟩
 | .nst _ _ _,_,_,h=>by simpa only [a2d,RelV] using h
 | .any,_,_,_=>by simp only [RelV]
 | .eptN cs,_,hm,h=>by
  simp only [v5] at hm
  simp only [a2d,RelV] at h ⊢
  obtain ⟨ad,us,e,hb,h,h2⟩:=h
  exact ⟨ad,us,e,hb,RelVs.ren cs hm h,h2⟩
theorem RelVs.ren {w0:World} {ρ:Nat→Value} {nx k:Nat} {ids:List Nat}:∀ (x:List AV) {y:List Value},F0 k x=true→RelVs w0 ρ nx (renAs ids x) y→RelVs w0 (fun j=>ρ (ids.getD j 0)) k x y
 | [],_,_,h=>by simpa only [renAs,RelVs] using h
 | c :: cs,_,hm,h=>by
  simp only [F0,Bool.and_eq_true] at hm
  simp only [renAs,RelVs] at h ⊢
  obtain ⟨y,ys,e,h1,h2⟩:=h
  exact ⟨y,ys,e,RelV.ren c hm.1 h1,RelVs.ren cs hm.2 h2⟩
end
theorem RelVs.norefs {w0:Base} {ρ ρ':Nat→Value} {nx nx':Nat} {cs:List AV} (h0:F0 0 cs=true) {y:List Value} (h:RelVs w0 ρ nx cs y):RelVs w0 ρ' nx' cs y :=
 RelVs.mono (Nat.zero_le _) (fun i hi=>by omega) cs (RelVs.less cs h0 h)
def a5F:List Row→Nat→List (Nat×Option Row)
 | [],_=>[]
 | r :: rs,k=>(k,some r) :: a5F rs (Nat.succ k)
theorem a67:∀ {rs:List Row} {k j:Nat} {row:Row},mem (a5F rs k) j=some row→k≤j∧rs[j - k]?=some row
 | [],k,j,row,h=>by simp [a5F,mem,look] at h
 | r :: rs,k,j,row,h=>by
  simp only [a5F] at h
  by_cases e:k=j
  ·subst e;rw [j8] at h;cases h;simp
  ·rw [d9 e] at h
   obtain ⟨h1,h2⟩:=a67 h
   refine ⟨by omega,?_⟩
   rw [show j - k=(j - (k+1))+1 by omega]
   simpa using h2
inductive RowsIn (m:List (Nat×Option Row)):List Nat→List Row→Prop
 | nil:RowsIn m [] []
 | cons {id:Nat} {ids:List Nat} {r:Row} {rs:List Row} (h:mem m id=some r) (h':RowsIn m ids rs):RowsIn m (id :: ids) (r :: rs)
theorem RowsIn.len {m:List (Nat×Option Row)}:∀ {ids:List Nat} {rs:List Row},RowsIn m ids rs→ids.length=rs.length
 | _,_,.nil=>rfl
 | _,_,.cons _ h=>by simp [h.len]
theorem RowsIn.get {m:List (Nat×Option Row)}:∀ {ids:List Nat} {rs:List Row},RowsIn m ids rs→∀ {j:Nat} {r:Row},rs[j]?=some r→∃ id,ids[j]?=some id∧mem m id=some r
 | _,_,.nil,_,_,h=>by simp at h
 | _,_,.cons h h',j,r,hj=>by
  match j with
  | 0=>simp at hj;subst hj;exact ⟨_,rfl,h⟩
  | j+1=>simpa using h'.get (by simpa using hj)
def a0c:List Row→Bool
 | []=>true
 | r :: rs=>rowRefs 0 r && a0c rs
theorem a2I:∀ {rs:List Row},a0c rs=true→∀ {j:Nat} {r:Row},rs[j]?=some r→rowRefs 0 r=true
 | [],_,_,_,h=>by simp at h
 | r :: rs,h,j,r',hj=>by
  simp only [a0c,Bool.and_eq_true] at h
  match j with
  | 0=>simp at hj;subst hj;exact h.1
  | j+1=>exact a2I h.2 (by simpa using hj)
def aft:List Nat→List (Option Row)→List (Nat×Option Row)→List (Nat×Option Row)
 | id :: ids,r :: rs,m=>(id,r) :: aft ids rs m
 | _,_,m=>m
theorem a0D {m:List (Nat×Option Row)}:∀ {ids:List Nat} {rs:List (Option Row)},ids.length=rs.length→∀ {id:Nat} {r:Row},mem (aft ids rs m) id=some r→(∃ j:Nat,ids[j]?=some id∧rs[j]?=some (some r))∨(id∉ids∧mem m id=some r)
 | [],[],_,id,r,h=>.inr ⟨by simp,h⟩
 | [],_ :: _,hl,_,_,_=>by simp at hl
 | _ :: _,[],hl,_,_,_=>by simp at hl
 | i :: ids,q :: rs,hl,id,r,h=>by
  simp only [aft] at h
  by_cases e:i=id
  ·subst e;rw [j8] at h;subst h;exact .inl ⟨0,rfl,rfl⟩
  ·rw [d9 e] at h
   rcases a0D (by simpa using hl) h with ⟨j,h1,h2⟩ | ⟨h1,h2⟩
   ·exact .inl ⟨j+1,by simpa using h1,by simpa using h2⟩
   ·exact .inr ⟨by simp [h1,Ne.symm e],h2⟩
structure CtrM (P:Program) [Env P] (f:FuncId) (args:List AV) (rows:List Row) (res:Res) (after:List (Option Row)):Prop where
 callable:Callable P f
 calls:∀ (w0:Base) [EnvAt P w0] ρ m nx (ids:List Nat) w vs,RowsIn m ids rows→nodupB ids=true→RelC w0 ρ m nx w→RelVs w0.w ρ nx (renAs ids args) vs →
  Calls P f vs.toArray w (fun en w'=>∃ v ρ',en=.returned v∧(∀ i,i < nx→ρ' i=ρ i)∧nx≤(instR res nx (aft ids after m)).2.2∧RelV w0.w ρ' (instR res nx (aft ids after m)).2.2 (instR res nx (aft ids after m)).1 v ∧
   RelC w0 ρ' (instR res nx (aft ids after m)).2.1 (instR res nx (aft ids after m)).2.2 w')
def a8H:List (Option Row)→Nat→Bool
 | [],_=>false
 | some _ :: _,0=>true
 | none :: _,0=>false
 | _ :: rs,n+1=>a8H rs n
theorem a5W:∀ {rs:List (Option Row)} {j:Nat} {r:Row},rs[j]?=some (some r)→a8H rs j=true
 | [],_,_,h=>by simp at h
 | q :: rs,0,r,h=>by simp at h;subst h;rfl
 | q :: rs,j+1,r,h=>by cases q<;>exact a5W (rs:=rs) (by simpa using h)
def X7 (after:List (Option Row)):List AV→Bool
 | []=>true
 | .own i :: r=>!a8H after i && X7 after r
 | _ :: r=>X7 after r
theorem a5X {after:List (Option Row)}:∀ {l:List AV},X7 after l=true→∀ {i:Nat},.own i∈l→a8H after i=false
 | [],_,_,h=>by simp at h
 | x :: l,hd,i,h=>by
  rcases List.mem_cons.1 h with e | h
  ·subst e;simp only [X7,Bool.and_eq_true,Bool.not_eq_true'] at hd;exact hd.1
  ·have h2:X7 after l=true:=by
    cases x<;>simp only [X7] at hd
    case own j=>simp only [Bool.and_eq_true] at hd;exact hd.2
    all_goals exact hd
   exact a5X h2 h
inductive AftOK (m:List (Nat×Option Row)):Nat→List (Option Row)→Prop
 | nil {k:Nat}:AftOK m k []
 | gone {k:Nat} {rs:List (Option Row)} (h:AftOK m (Nat.succ k) rs):AftOK m k (none :: rs)
 | stays {k:Nat} {r r':Row} {rs:List (Option Row)} (h1:mem m k=some r') (e:r'=r) (h2:rowRefs 0 r=true) (h:AftOK m (Nat.succ k) rs):AftOK m k (some r :: rs)
theorem AftOK.get {m:List (Nat×Option Row)}:∀ {k:Nat} {rs:List (Option Row)},AftOK m k rs→∀ {j:Nat} {r:Row},rs[j]?=some (some r)→mem m (k+j)=some r∧rowRefs 0 r=true
 | _,_,.nil,_,_,h=>by simp at h
 | k,_,.gone h,j,r,hj=>by
  match j with
  | 0=>simp at hj
  | j+1=>have:=h.get (j:=j) (by simpa using hj);rwa [show k.succ+j=k+(j+1) by omega] at this
 | k,_,.stays h1 e h2 h,j,r,hj=>by
  match j with
  | 0=>simp at hj;subst hj;subst e;exact ⟨h1,h2⟩
  | j+1=>have:=h.get (j:=j) (by simpa using hj);rwa [show k.succ+j=k+(j+1) by omega] at this
def a68 (tb:List (Nat×TyI)) (rs:List ResultVar) (res:Res) (after:List (Option Row)):Exit→St→Prop
 | .ret,S=>∃ avs,O9 tb S rs []=some avs∧ResOK S.m avs res∧AftOK S.m 0 after∧X7 after (a0C res avs)=true
 | .normal,S=>∃ avs,O9 tb S rs []=some avs∧ResOK S.m avs res∧AftOK S.m 0 after∧X7 after (a0C res avs)=true
 | _,_=>False
section
variable {P:Program} [Env P] {w0:Base} {ops:Array Oper} {tb:List (Nat×TyI)} {o:Oper} {rest:List Oper} {T:List (Nat×AV)} {m m':List (Nat×Option Row)} {nx nt d:Nat} {r:AV} {Q:Exit→St→Prop} {after:List (Option Row)}
theorem n7 {rs:List ResultVar} {S:St} {x:AV} {c:RC} (h:O9 tb S rs []=some [x]) (hx:RCOK S.m x c) (hd:X7 after [x]=true) (ha:AftOK S.m 0 after):a68 tb rs (.one c) after .ret S:=⟨_,h,⟨x,rfl,hx⟩,ha,hd⟩
theorem a3z {rs:List ResultVar} {S:St} {xs:List AV} {cs:List RC} (h:O9 tb S rs []=some xs) (hl:Nat.beq xs.length 1=false) (hn:nodupB (L8 xs [])=true) (ho:a63 xs=true) (hx:RCOKs S.m xs cs) (hd:X7 after xs=true) (ha:AftOK S.m 0 after):a68 tb rs (.many cs) after .ret S:=⟨_,h,⟨hx,hl,hn,ho⟩,ha,hd⟩
theorem q9 {rs:List ResultVar} {S:St} {xs ls:List AV} {single:Bool} {sh:List (Option Nat)} {cs:List RC} (h:O9 tb S rs []=some xs) (hl:Nat.beq xs.length 1=single) (hf:flA sh xs []=some ls) (hn:nodupB (L8 ls [])=true) (hx:RCOKs S.m ls cs) (hd:X7 after ls=true) (ha:AftOK S.m 0 after):a68 tb rs (.shp single sh cs) after .ret S:=⟨_,h,⟨ls,hf,hx,hl,hn⟩,ha,by simpa only [a0C,hf] using hd⟩
theorem U9 {k:Nat}:∀ {l:List Nat},k∈l→has k l=true
 | [],h=>by cases h
 | x :: r,h=>by
  rcases List.mem_cons.1 h with rfl | h
  ·simp [has,Nat.beq_refl]
  ·simp [has,U9 h]
theorem a2e:∀ {ids:List Nat},nodupB ids=true→∀ {j j' id:Nat},ids[j]?=some id→ids[j']?=some id→j=j'
 | [],_,_,_,_,h,_=>by simp at h
 | x :: r,hn,j,j',id,h,h'=>by
  simp only [nodupB,Bool.and_eq_true,Bool.not_eq_true'] at hn
  match j,j' with
  | 0,0=>rfl
  | 0,j'+1 =>
   simp at h h';subst h
   have:=U9 (List.mem_of_getElem? h')
   rw [hn.1] at this;cases this
  | j+1,0 =>
   simp at h h';subst h'
   have:=U9 (List.mem_of_getElem? h)
   rw [hn.1] at this;cases this
  | j+1,j'+1 =>
   have:=a2e hn.2 (j:=j) (j':=j') (id:=id) (by simpa using h) (by simpa using h')
   rw [this]
theorem a1d {ids:List Nat} {j id:Nat} (h:ids[j]?=some id):ids.getD j 0=id:=by
 rw [List.getD_eq_getElem?_getD,h];rfl
theorem RowRel.move {ρ ρ':Nat→Value} {nx nx':Nat} {w:World} {id id':Nat} {row:Row} (h:RowRel w0.w ρ nx w id row) (hf:rowRefs 0 row=true) (he:ρ' id'=ρ id):RowRel w0.w ρ' nx' w id' row :=
 h.to he (fun cs e l hl=>by subst e;exact RelVs.norefs (w0:=w0) hf hl) fun e sz yss op e' q hq _=>by subst e';exact absurd (a17 hf q hq) (Nat.not_lt_zero _)
def KeepIs (ρ:Nat→Value) (ids:List Nat) (rows:List Row) (w:World) (K:Nat→Prop):Prop:=∀ c,K c↔c < w.heap.size∧∀ (j:Nat) id r,ids[j]?=some id→rows[j]?=some r→¬ J1 w (ρ id) r c
section
variable {ρ ρ':Nat→Value} {rows:List Row} {ids:List Nat} {nx2:Nat} {m2:List (Nat×Option Row)} {w w':World} {b:Base}
theorem KeepIs.other (hkeep:KeepIs ρ ids rows w b.keep) (hC:RelC w0 ρ m nx w) (hin:RowsIn m ids rows) {id:Nat} {r:Row} (hm:mem m id=some r) (hid:id∉ids) {c:Nat} (hf:J1 w (ρ id) r c):b.keep c:=by
 refine (hkeep c).2 ⟨hC.foot_lt hm hf,fun j id' r' hj hr' hb=>?_⟩
 obtain ⟨id'',h3,h4⟩:=hin.get hr'
 rw [hj] at h3;cases h3
 exact hC.foot_apart h4 hm (fun e=>hid (e▸List.mem_of_getElem? hj)) hb hf
theorem KeepIs.outer (hkeep:KeepIs ρ ids rows w b.keep) (hC:RelC w0 ρ m nx w) (hin:RowsIn m ids rows) {c:Nat} (hc:w0.keep c):b.keep c:=by
 refine (hkeep c).2 ⟨Nat.lt_of_lt_of_le (w0.kb c hc) hC.kept.1,fun j id r hj hr hb=>?_⟩
 obtain ⟨id',h1,h2⟩:=hin.get hr
 rw [hj] at h1;cases h1
 rcases hb with hb | ⟨p,hb⟩
 ·exact hC.kept.2.2 id r h2 c hb hc
 ·exact (hC.inner id r h2 p c hb).1 hc
theorem KeepIs.back (hkeep:KeepIs ρ ids rows w b.keep) (hC:RelC w0 ρ m nx w) (hin:RowsIn m ids rows) (hws:b.ws=w) (hC':RelC b ρ' m2 nx2 w') {id:Nat} {r:Row} (hm:mem m id=some r) (hid:id∉ids):∀ p,inn w' (ρ id) r p=inn w (ρ id) r p:=by
 refine P2 fun c hc=>?_
 have:=hC'.kept.2.1 c (hkeep.other hC hin hm hid (.inl hc))
 rwa [hws] at this
theorem a7W (hC:RelC w0 ρ m nx w) (hin:RowsIn m ids rows) (hnd:nodupB ids=true) (hl:rows.length=after.length)
 (hbw:b.w=w0.w) (hws:b.ws=w) (hkeep:KeepIs ρ ids rows w b.keep) (hr0:∀ (j:Nat) id,ids[j]?=some id→ρ' j=ρ id)
 (hC':RelC b ρ' m2 nx2 w') (ha:AftOK m2 0 after):RelC w0 ρ (aft ids after m) nx w':=by
 have hlen:ids.length=after.length:=hin.len.trans hl
 have was:∀ id r,mem (aft ids after m) id=some r→∃ r',mem m id=some r':=fun id r hr=>by
  rcases a0D hlen hr with ⟨j,h1,h2⟩ | ⟨_,h2⟩
  ·have:j < rows.length:=by rw [← hin.len];exact (List.getElem?_eq_some_iff.1 h1).1
   obtain ⟨id',h3,h4⟩:=hin.get (List.getElem?_eq_getElem this)
   rw [h1] at h3;cases h3
   exact ⟨_,h4⟩
  ·exact ⟨_,h2⟩
 have hsz:w.heap.size≤w'.heap.size:=by have:=hC'.kept.1;rwa [hws] at this
 have same:∀ id r,mem m id=some r→id∉ids→∀ c,J1 w (ρ id) r c→w'.heap[c]?=w.heap[c]?:=fun id r hm hid c hf=>by
  have:=hC'.kept.2.1 c (hkeep.other hC hin hm hid hf)
  rwa [hws] at this
 refine ⟨fun id r hr=>?_,fun i i' r r' hr hr' hne c hc=>?_,by have:=hC'.below;rwa [hbw] at this,hC.pin,⟨Nat.le_trans hC.kept.1 hsz,fun c hc=>?_,fun id r hr c hc=>?_⟩,fun id r hr p c hc=>?_⟩
 ·rcases a0D hlen hr with ⟨j,h1,h2⟩ | ⟨h1,h2⟩
  ·obtain ⟨r',h3⟩:=was id r hr
   refine ⟨(hC.rows id r' h3).1,?_⟩
   obtain ⟨h4,h5⟩:=ha.get h2
   have h6:=(hC'.rows _ _ h4).2
   rw [hbw] at h6
   exact h6.move h5 (by rw [Nat.zero_add];exact (hr0 j id h1).symm)
  ·obtain ⟨g1,g2⟩:=hC.rows id r h2
   exact ⟨g1,g2.frame (fun c hc=>same id r h2 h1 c (.inl hc)) fun p c hc=>same id r h2 h1 c (.inr ⟨p,hc⟩)⟩
 ·obtain ⟨r1,h1⟩:=was i r hr
  obtain ⟨r2,h2⟩:=was i' r' hr'
  exact hC.apart i i' r1 r2 h1 h2 hne c hc
 ·have:=hC'.kept.2.1 c (hkeep.outer hC hin hc)
  rw [hws] at this
  exact this.trans (hC.kept.2.1 c hc)
 ·obtain ⟨r',h1⟩:=was id r hr
  exact hC.kept.2.2 id r' h1 c hc
 ·rcases a0D hlen hr with ⟨j,h1,h2⟩ | ⟨h1,h2⟩
  ·obtain ⟨h4,h5⟩:=ha.get h2
   rw [Nat.zero_add] at h4
   rw [← hr0 j id h1] at hc
   obtain ⟨g1,g2,g3,g4⟩:=hC'.inner j r h4 p c hc
   rw [hbw] at g2
   refine ⟨fun hk=>g1 (hkeep.outer hC hin hk),g2,g3,fun id' r' hr'=>?_⟩
   rcases a0D hlen hr' with ⟨j',q1,q2⟩ | ⟨q1,q2⟩
   ·obtain ⟨q3,_⟩:=ha.get q2
    rw [Nat.zero_add] at q3
    rw [← hr0 j' id' q1]
    refine ⟨(g4 j' r' q3).1,fun p' hp'=>?_⟩
    obtain ⟨e1,e2⟩:=(g4 j' r' q3).2 p' hp'
    subst e1
    rw [h1] at q1;cases q1
    exact ⟨rfl,e2⟩
   ·refine ⟨fun hb=>g1 (hkeep.other hC hin q2 q1 (.inl hb)),fun p' hp'=>?_⟩
    rw [hkeep.back hC hin hws hC' q2 q1] at hp'
    exact absurd (hkeep.other hC hin q2 q1 (.inr ⟨p',hp'⟩)) g1
  ·rw [hkeep.back hC hin hws hC' h2 h1] at hc
   obtain ⟨g1,g2,g3,g4⟩:=hC.inner id r h2 p c hc
   refine ⟨g1,g2,Nat.lt_of_lt_of_le g3 hsz,fun id' r' hr'=>?_⟩
   rcases a0D hlen hr' with ⟨j',q1,q2⟩ | ⟨q1,q2⟩
   ·obtain ⟨r1,q5⟩:=was id' r' hr'
    refine ⟨(g4 id' r1 q5).1,fun p' hp'=>?_⟩
    obtain ⟨q3,_⟩:=ha.get q2
    rw [Nat.zero_add] at q3
    rw [← hr0 j' id' q1] at hp'
    exact absurd (hkeep.other hC hin h2 h1 (.inr ⟨p,hc⟩)) (hC'.inner j' r' q3 p' c hp').1
   ·exact ⟨(g4 id' r' q2).1,fun p' hp'=>(g4 id' r' q2).2 p' (by rwa [hkeep.back hC hin hws hC' q2 q1] at hp')⟩
theorem a5Y (hC:RelC w0 ρ m nx w) (hin:RowsIn m ids rows) (hnd:nodupB ids=true) (hl:rows.length=after.length)
 (hbw:b.w=w0.w) (hws:b.ws=w) (hkeep:KeepIs ρ ids rows w b.keep) (hr0:∀ (j:Nat) id,ids[j]?=some id→ρ' j=ρ id)
 (hC':RelC b ρ' m2 nx2 w') (ha:AftOK m2 0 after) {avs:List AV} {res:Res} (h2:ResOK m2 avs res) (h4:X7 after (a0C res avs)=true) {ys:List Value} (e2:RelVs b.w ρ' nx2 avs ys) :
 ∃ ρ2,(∀ i,i < nx→ρ2 i=ρ i)∧nx≤(instR res nx (aft ids after m)).2.2∧RelV w0.w ρ2 (instR res nx (aft ids after m)).2.2 (instR res nx (aft ids after m)).1 (if h:ys.toArray.size=1 then ys.toArray[0] else .tuple ys.toArray)∧RelC w0 ρ2 (instR res nx (aft ids after m)).2.1 (instR res nx (aft ids after m)).2.2 w':=by
 have hlen2:ids.length=after.length:=hin.len.trans hl
 have hA:=a7W hC hin hnd hl hbw hws hkeep hr0 hC' ha
 refine a4R (B:=w0.w.heap.size) hA (Nat.le_refl _) ?_
 have hp:=ResOK.parts hC' h2 e2
 rw [hbw] at hp
 refine hp.mono fun rs ls _ hK c hc=>?_
 obtain ⟨i,row,hi,hm,hf⟩:=hK c hc
 have hnk:¬ b.keep c:=by
  rcases hf with hf | ⟨p,hf⟩
  ·exact hC'.kept.2.2 i row hm c hf
  ·exact (hC'.inner i row hm p c hf).1
 refine ⟨fun id r hr hb=>?_,fun hk=>hnk (hkeep.outer hC hin hk)⟩
 rcases a0D hlen2 hr with ⟨j,g1,g2⟩ | ⟨g1,g2⟩
 ·have hne:i≠j:=fun e=>by
   have:=a5X h4 hi
   rw [e,a5W g2] at this
   cases this
  obtain ⟨g3,_⟩:=ha.get g2
  rw [Nat.zero_add] at g3
  rw [← hr0 j id g1] at hb
  exact hC'.foot_apart hm g3 hne hf hb
 ·refine hnk (hkeep.other hC hin g2 g1 ?_)
  rcases hb with hb | ⟨p,hb⟩
  ·exact .inl hb
  ·exact .inr ⟨p,by rwa [hkeep.back hC hin hws hC' g2 g1] at hb⟩
theorem a36 (hC:RelC w0 ρ m nx w) (hin:RowsIn m ids rows) (hnd:nodupB ids=true) (hfr:a0c rows=true) {k:Nat} (hk:rows.length=k) (hbw:b.w=w0.w) (hws:b.ws=w) (hn0:b.n0=k) (hr0:b.r0=fun j=>ρ (ids.getD j 0)) (hkeep:KeepIs ρ ids rows w b.keep) :
 RelC b (fun j=>ρ (ids.getD j 0)) (a5F rows 0) k w:=by
 have hrow:∀ j row,mem (a5F rows 0) j=some row→∃ id,ids[j]?=some id∧mem m id=some row∧ρ (ids.getD j 0)=ρ id∧rows[j]?=some row:=fun j row hm=>by
  obtain ⟨_,h2⟩:=a67 hm
  rw [Nat.sub_zero] at h2
  obtain ⟨id,h3,h4⟩:=hin.get h2
  exact ⟨id,h3,h4,by rw [a1d h3],h2⟩
 refine ⟨fun j row hm=>?_,fun j j' row row' hm hm' hne c hc=>?_,by rw [hbw];exact hC.below,⟨by rw [hn0];exact Nat.le_refl _,fun i _=>by rw [hr0]⟩,⟨by rw [hws];exact Nat.le_refl _,fun c _=>by rw [hws],fun j row hm c hc hkc=>?_⟩,fun j row hm p c hc=>?_⟩
 ·obtain ⟨id,h1,h2,h3,h4⟩:=hrow j row hm
  refine ⟨by rw [← hk];exact (List.getElem?_eq_some_iff.1 h4).1,?_⟩
  rw [hbw]
  exact RowRel.move (w0:=w0) (hC.rows id row h2).2 (a2I hfr h4) h3
 ·obtain ⟨id,h1,h2,h3,_⟩:=hrow j row hm
  obtain ⟨id',h1',h2',h3',_⟩:=hrow j' row' hm'
  simp only [h3] at hc
  simp only [h3']
  exact hC.apart id id' _ _ h2 h2' (fun e=>hne (a2e hnd h1 (e▸h1'))) c hc
 ·obtain ⟨id,h1,h2,h3,h4⟩:=hrow j row hm
  simp only [h3] at hc
  exact ((hkeep c).1 hkc).2 j id row h1 h4 (.inl hc)
 ·obtain ⟨id,h1,h2,h3,h4⟩:=hrow j row hm
  simp only [h3] at hc
  obtain ⟨g1,g2,g3,g4⟩:=hC.inner id row h2 p c hc
  refine ⟨fun hkc=>((hkeep c).1 hkc).2 j id row h1 h4 (.inr ⟨p,hc⟩),by rw [hbw];exact g2,g3,fun j' row' hm'=>?_⟩
  obtain ⟨id',h1',h2',h3',_⟩:=hrow j' row' hm'
  simp only [h3']
  refine ⟨(g4 id' row' h2').1,fun p' hp'=>?_⟩
  obtain ⟨e1,e2⟩:=(g4 id' row' h2').2 p' hp'
  subst e1
  exact ⟨a2e hnd h1 h1',e2⟩
theorem a4X {n k:Nat} {args:List AV} {vs:List Value} {fn:Func} (hrel:RelVs b.w ρ k args vs) (hlen:args.length≤n) (hn:fn.ntmps=n):RelT b ρ (a4h args 0) k n { tmps:=vs.toArray++Array.replicate (fn.ntmps - vs.toArray.size) undef,defers:=[] }:=by
 have hvl:=RelVs.length _ hrel
 refine ⟨fun t x hx=>?_,by simp [hn];omega,rfl⟩
 obtain ⟨u,_,h2,h3⟩:=a1I hrel t x hx
 have hlt:t < vs.length:=by
  rcases Nat.lt_or_ge t vs.length with hlt | hge
  ·exact hlt
  ·rw [Nat.sub_zero,List.getElem?_eq_none hge] at h2;cases h2
 have:(vs.toArray++Array.replicate (fn.ntmps - vs.toArray.size) undef).getD t undef=u:=by
  rw [Array.getD_eq_getD_getElem?,Array.getElem?_append_left (by simpa using hlt)]
  simp only [Nat.sub_zero] at h2
  simp [h2]
 rw [this]
 exact h3
end
theorem CtrM.of (G:Good P tb) {f:FuncId} {fn:Func} {c:Code} {args:List AV} {rows:List Row} {res:Res} {l:List ResultVar} {n k:Nat} (hf:P.funcs[f]?=some fn) (hb:fn.body=some c) (hname:(fn.name == "runtime.NumGoroutine")=false) (hl:fn.results=l.toArray) (hn:fn.ntmps=n)
 (hlen:Nat.ble args.length n=true) (hk:rows.length=k) (haf:rows.length=after.length) (hrefs:F0 k args=true) (hfr:a0c rows=true)
 (h:∀ b:Base,[EnvAt P b]→b.n0=k→W P b c ⟨a4h args 0,a5F rows 0,k,n⟩ (a68 tb l res after)):CtrM P f args rows res after:=by
 refine ⟨⟨fn,hf,hname,by rw [hb];rfl⟩,fun w0 hw0 ρ m nx ids w vs hin hnd hC hrel=>?_⟩
 have hidl:ids.length=k:=hin.len.trans hk
 let ρc:Nat→Value:=fun j=>ρ (ids.getD j 0)
 have hrel':RelVs w0.w ρc k args vs:=RelVs.ren args hrefs hrel
 have hlen':args.length≤n:=Nat.le_of_ble_eq_true hlen
 refine calls_of_wp hf hb ?_
 let b:Base:=⟨w0.w,k,ρc,w,fun c=>c < w.heap.size∧∀ (j:Nat) id r,ids[j]?=some id→rows[j]?=some r→¬ J1 w (ρ id) r c,fun c hc=>hc.1,w0.E,w0.hE⟩
 have hen:EnvAt P b:=⟨hw0.e⟩
 have hkp:KeepIs ρ ids rows w b.keep:=fun _=>Iff.rfl
 have hCb:RelC b ρc (a5F rows 0) k w:=a36 (b:=b) hC hin hnd hfr hk rfl rfl rfl rfl hkp
 have hT:=a4X (b:=b) (fn:=fn) hrel' hlen' hn
 refine wp_mono (h b rfl ρc _ w hT hCb) ?_
 have fin:∀ (ρ':Nat→Value) (S:St) (a:Act) (w':World),(∃ avs,O9 tb S l []=some avs∧ResOK S.m avs res∧AftOK S.m 0 after∧X7 after (a0C res avs)=true)→RelT b ρ' S.T S.nx S.nt a→RelC b ρ' S.m S.nx w' →
  a.defers=[]∧∃ v,(results fn a.tmps).run P w'=.ok v w'∧∃ u ρ',Ending.returned v=.returned u∧(∀ i,i < nx→ρ' i=ρ i)∧nx≤(instR res nx (aft ids after m)).2.2∧RelV w0.w ρ' (instR res nx (aft ids after m)).2.2 (instR res nx (aft ids after m)).1 u ∧
  RelC w0 ρ' (instR res nx (aft ids after m)).2.1 (instR res nx (aft ids after m)).2.2 w':=by
  intro ρ' S a w' ⟨avs,h1,h2,h3,h4⟩ hT' hC'
  obtain ⟨ys,avs',e1,e2,e3⟩:=U7 G hT' hC' h1
  simp at e1
  subst e1
  have hpin:∀ j id,ids[j]?=some id→ρ' j=ρ id:=fun j id hj=>by
   have hj':j < k:=by rw [← hidl];exact (List.getElem?_eq_some_iff.1 hj).1
   rw [hC'.pin.2 j hj']
   show ρ (ids.getD j 0)=_
   rw [a1d hj]
  obtain ⟨ρ2,q1,q2,q3,q4⟩:=a5Y (b:=b) hC hin hnd haf rfl rfl hkp hpin hC' h3 h2 h4 e2
  exact ⟨hT'.defers,_,X6 hl e3,_,ρ2,rfl,q1,q2,q3,q4⟩
 rintro e a w' ⟨ρ',S,hq,hT',hC'⟩
 cases e<;>simp only [a68] at hq
 case normal=>exact fin ρ' S a w' hq hT' hC'
 case ret=>exact fin ρ' S a w' hq hT' hC'
theorem a6o {ρ:Nat→Value} {a:Act} (hT:RelT w0 ρ T nx nt a):∀ {xs:List Operand} {acc as:List AV},evL T xs acc=some as→∃ bs,as=acc.reverse++bs∧RelVs w0 ρ nx bs (xs.map a.eval)
 | [],acc,as,h=>by simp [evL,E2] at h;exact ⟨[],by simp [h],by simp [RelVs]⟩
 | x :: xs,acc,as,h=>by
  simp only [evL] at h
  cases hx:ev T x with
  | none=>simp [hx] at h
  | some av =>
   simp only [hx] at h
   obtain ⟨bs,h1,h2⟩:=a6o hT h
   refine ⟨av :: bs,by simpa using h1,?_⟩
   simp only [List.map_cons,RelVs]
   exact ⟨_,_,rfl,hT.ev hx,h2⟩
theorem a0d [EnvAt P w0] {f:FuncId} {as:Array Operand} {ts:Array TypeId} {args:List AV} {rows:List Row} {res:Res} {n1:Nat} (nx':Nat) (ids:List Nat) (hd:o.dst=some d) (hlt:Nat.blt d nt=true) (ho:o.op=.call { callee:=.value (.func f),args:=as,argTypes:=ts }) (hc:CtrM P f args rows res after)
 (ha:evL T as.toList []=some (renAs ids args)) (hr:RowsIn m ids rows) (hnd:nodupB ids=true) (hi:a30 res nx (aft ids after m)=some (r,m',n1)) (hn':Nat.beq nx' n1=true) (hk:WL P w0 ops rest ⟨(d,r) :: T,m',nx',nt⟩ Q):WX P w0 ops o rest ⟨T,m,nx,nt⟩ Q:=by
 have hn'':=Nat.eq_of_beq_eq_true hn'
 subst hn''
 have hi:=a0y hi
 intro ρ a w hT hC
 obtain ⟨bs,h1,h2⟩:=a6o hT ha
 simp at h1
 subst h1
 have hcalls:=hc.calls w0 ρ m nx ids w _ hr hnd hC h2
 have hrun:(execOp a.eval o).run P w=.ok (.enter f (as.toList.map a.eval).toArray) w:=by
  simp [execOp,ho,resolve,Deferred.ofValue,invoke,Act.eval,Z9 hc.callable,← Array.toList_map]
 unfold Oper.wp
 rw [hrun,Oper.upon_enter]
 refine hcalls.mono fun ex w' ⟨v,ρ',he,q1,q2,q3,q4⟩=>?_
 subst he
 rw [hi] at q2 q3 q4
 refine hk ρ' _ w' ?_ q4
 rw [hd]
 have hT':RelT w0 ρ' T nx' nt a:=⟨fun t x hx=>(hT.tmps t x hx).mono q2 q1,hT.size,hT.defers⟩
 exact hT'.put hlt q3
theorem RelC.sub {ρ:Nat→Value} {w:World} (hC:RelC w0 ρ m nx w) (h:∀ i r,mem m' i=some r→mem m i=some r):RelC w0 ρ m' nx w :=
 ⟨fun i r hr=>hC.rows i r (h i r hr),fun i i' r r' hr hr'=>hC.apart i i' r r' (h i r hr) (h i' r' hr'),hC.below,hC.pin,⟨hC.kept.1,hC.kept.2.1,fun i r hr=>hC.kept.2.2 i r (h i r hr)⟩,
  hC.inner' (Nat.le_refl _) (fun i r hr=>.inr ⟨r,h i r hr,fun _ _ h=>h⟩) (fun i r hr b hb=>.inl ⟨i,r,h i r hr,hb⟩)⟩
theorem a7X {t id e sz n:Nat} {ys:List (List Value)} (ht:look t T=some (.sub id sz 0 n)) (hm:mem m id=some (.row e sz ys)) {ρ:Nat→Value} {a:Act} {w:World} (hT:RelT w0.w ρ T nx nt a) (hC:RelC w0 ρ m nx w):∃ ρ',RelT w0.w ρ' ((t,.own nx) :: T) (nx+1) nt a∧RelC w0 ρ' ((nx,some (.row e sz (ys.take n))) :: (id,none) :: m) (nx+1) w:=by
 have h1:=hT.tmps t _ ht
 simp only [RelV] at h1
 obtain ⟨hid,A,cap,he,hcap,_,h0⟩:=h1
 obtain ⟨l,hl,hnl⟩:=h0 trivial
 obtain ⟨hrow,hall⟩:=hC.row hm
 have hC2:RelC w0 ρ ((id,none) :: m) nx w:=by
  have hsub:∀ i r,mem ((id,none) :: m) i=some r→mem m i=some r∧i≠id:=fun i r hr=>by
   by_cases e:id=i
   ·subst e;rw [j8] at hr;cases hr
   ·rw [d9 e] at hr;exact ⟨hr,Ne.symm e⟩
  exact hC.sub fun i r hr=>(hsub i r hr).1
 have hbk:∀ b,blk (a.tmps.getD t undef)=some b→blk (ρ id)=some b:=by
  intro b hb
  rw [he] at hb
  rw [hl]
  cases A<;>first | exact hb | (simp [blk] at hb;done)
 have hllen:l=ys.length:=by
  rcases hrow.2 with ⟨h2,h3⟩ | ⟨g,cp,cur,h2,_⟩
  ·rw [hl] at h2;cases h2;exact h3.symm
  ·rw [hl] at h2;cases h2;rfl
 have hown:w.ownsRow w0.w.heap.size e sz (a.tmps.getD t undef) (ys.take n).length (ys.take n).flatten:=by
  have hnys:n≤ys.length:=by
   rcases hrow.2 with ⟨h2,h3⟩ | ⟨g,cp,cur,h2,_⟩
   ·rw [hl] at h2;cases h2;omega
   ·rw [hl] at h2;cases h2;omega
  have hft:(ys.take n).flatten=ys.flatten.take (n * sz):=by
   have h5:ys.flatten=(ys.take n).flatten++(ys.drop n).flatten:=by rw [← List.flatten_append,List.take_append_drop]
   have h6:=t9 (ys:=ys.take n) (sz:=sz) (fun c hc=>(hall c (List.mem_of_mem_take hc)).1)
   have hlt:(ys.take n).length=n:=by rw [List.length_take];omega
   rw [hlt] at h6
   have h7:List.take (n * sz) ((ys.take n).flatten++(ys.drop n).flatten)=(ys.take n).flatten:=by
    rw [List.take_append_of_le_length (by omega)]
    exact List.take_of_length_le (by omega)
   rw [h5,h7]
  have hlt:(ys.take n).length=n:=by rw [List.length_take];omega
  rw [hlt]
  refine ⟨by rw [t9 (sz:=sz) (fun c hc=>(hall c (List.mem_of_mem_take hc)).1),hlt],?_⟩
  rcases hrow.2 with ⟨h2,h3⟩ | ⟨g,cp,cur,h2,h3,h4,h5,h6,h7,h8⟩
  ·refine .inl ⟨?_,by omega⟩
   rw [hl] at h2
   rw [he]
   cases h2
   have:n=0:=by omega
   rw [this]
  ·refine .inr ⟨g,cp,cur,?_,h3,h4,by omega,h6,h7,?_⟩
   ·rw [hl] at h2;rw [he];cases h2;rfl
   ·rw [hft,← h8,List.take_take,Nat.min_eq_left (Nat.mul_le_mul_right _ (by omega))]
 refine ⟨upd ρ nx (a.tmps.getD t undef),⟨fun t' x hx=>?_,hT.size,hT.defers⟩,hC2.addP (fun _=>rfl) ?_ ?_ ?_⟩
 ·by_cases e:t=t'
  ·subst e
   rw [n9] at hx
   cases hx
   simp only [RelV]
   exact ⟨by omega,(k9 _ _ _).symm⟩
  ·rw [j7 e] at hx
   exact (hT.tmps t' x hx).mono (Nat.le_succ _) (fun i hi=>l7 ρ _ (Nat.ne_of_lt hi))
 ·refine ⟨?_,fun c hc=>hall c (List.mem_of_mem_take hc)⟩
  rw [k9]
  exact hown
 ·intro i r hr b hb hy
  by_cases e:id=i
  ·subst e;rw [j8] at hr;cases hr
  ·rw [d9 e] at hr
   exact hC.foot_apart hr hm (Ne.symm e) hb (.inl (hbk b hy))
 ·intro b hb
  exact hC.kept.2.2 id _ hm b (hbk b hb)
theorem a6p {sz n:Nat} {ys:List (List Value)} (hall:∀ c∈ys,c.length=sz) (hn:n≤ys.length):(ys.take n).flatten=ys.flatten.take (n * sz):=by
 have h5:ys.flatten=(ys.take n).flatten++(ys.drop n).flatten:=by rw [← List.flatten_append,List.take_append_drop]
 have h6:=t9 (ys:=ys.take n) (sz:=sz) (fun c hc=>hall c (List.mem_of_mem_take hc))
 rw [List.length_take,Nat.min_eq_left hn] at h6
 have h7:List.take (n * sz) ((ys.take n).flatten++(ys.drop n).flatten)=(ys.take n).flatten:=by
  rw [List.take_append_of_le_length (by omega)]
  exact List.take_of_length_le (by omega)
 rw [h5,h7]
theorem a6q {sz n:Nat} {ys:List (List Value)} (hall:∀ c∈ys,c.length=sz) (hn:n≤ys.length):(ys.drop n).flatten=ys.flatten.drop (n * sz):=by
 have h5:ys.flatten=(ys.take n).flatten++(ys.drop n).flatten:=by rw [← List.flatten_append,List.take_append_drop]
 have h6:=t9 (ys:=ys.take n) (sz:=sz) (fun c hc=>hall c (List.mem_of_mem_take hc))
 rw [List.length_take,Nat.min_eq_left hn] at h6
 have h7:List.drop (n * sz) ((ys.take n).flatten++(ys.drop n).flatten)=(ys.drop n).flatten:=by
  rw [List.drop_append_of_le_length (by omega),List.drop_of_length_le (by omega),List.nil_append]
 rw [h5,h7]
end
section
variable {P:Program} [Env P] {w0:Base} {ops:Array Oper} {tb:List (Nat×TyI)} {o:Oper} {T:List (Nat×AV)} {m:List (Nat×Option Row)} {nx nt:Nat} {Q:Exit→St→Prop} {c:Code}
theorem b34 {id sz:Nat} {ys:List (List Value)} {cs:List AV} (hm:mem m id=some (.box (.lst sz ys :: cs))) (h:∀ y,W P w0 c ⟨T,(id,some (.box (.pin y sz ys :: cs))) :: m,nx,nt⟩ Q):W P w0 c ⟨T,m,nx,nt⟩ Q:=by
 intro ρ a w hT hC
 obtain ⟨b,cur,ty,hρ,hB,hb,hR,hone⟩:=hC.box hm
 have hR2:=hR
 simp only [RelVs] at hR2
 obtain ⟨y,r,e,h1,h2⟩:=hR2
 refine h y ρ a w hT (hC.change hm (by rw [hρ];rfl) ⟨rfl,rfl,rfl,Nat.le_refl _,fun _ _ _=>rfl⟩ hB ?_)
 refine ⟨b,cur,ty,hρ,hB,hb,?_,hone⟩
 simp only [RelVs]
 simp only [RelV] at h1
 exact ⟨y,r,e,by simp only [RelV];exact ⟨trivial,h1⟩,h2⟩
theorem a7Y {t sz:Nat} {ys:List (List Value)} (ht:look t T=some (.lst sz ys)) (h:∀ y,W P w0 c ⟨(t,.pin y sz ys) :: T,m,nx,nt⟩ Q):W P w0 c ⟨T,m,nx,nt⟩ Q:=by
 intro ρ a w hT hC
 have h1:=hT.tmps t _ ht
 simp only [RelV] at h1
 refine h (a.tmps.getD t undef) ρ a w ⟨fun i x hi=>?_,hT.size,hT.defers⟩ hC
 by_cases e:i=t
 ·subst e
  rw [n9] at hi
  cases hi
  simp only [RelV]
  exact ⟨trivial,h1⟩
 ·rw [j7 (fun e'=>e e'.symm)] at hi
  exact hT.tmps i x hi
theorem a0E {id sz:Nat} {ys:List (List Value)} {cs:List AV} {y:Value} (hm:mem m id=some (.box (.pin y sz ys :: cs))) (h:W P w0 c ⟨T,(id,some (.box (.lst sz ys :: cs))) :: m,nx,nt⟩ Q):W P w0 c ⟨T,m,nx,nt⟩ Q:=by
 intro ρ a w hT hC
 obtain ⟨b,cur,ty,hρ,hB,hb,hR,hone⟩:=hC.box hm
 have hR2:=hR
 simp only [RelVs] at hR2
 obtain ⟨y',r,e,h1,h2⟩:=hR2
 refine h ρ a w hT (hC.change hm (by rw [hρ];rfl) ⟨rfl,rfl,rfl,Nat.le_refl _,fun _ _ _=>rfl⟩ hB ?_)
 refine ⟨b,cur,ty,hρ,hB,hb,?_,hone⟩
 simp only [RelVs]
 simp only [RelV] at h1
 exact ⟨y',r,e,by simp only [RelV];exact h1.2,h2⟩
theorem X8 {x y:Operand} {t e sz by_:Nat} {zs:List Value} {z:Value} {ys:List (List Value)} {k:IntKind} {i:Int} {c:List Value} (G:Good P tb) (ho:o.op=.indexAddr t x y) (ht:look t tb=some (.slice e sz by_ zs)) (hx:ev T x=some (.pin z sz ys)) (hy:ev T y=some (.v (.int k i)))
 (h0:0≤i) (hc:ys[i.toNat]?=some c):QStep P o T m nx nt (.ept c) :=
 QStep.run fun w0 ρ a w hT hC=>by
  have h:=hT.ev hx
  have h2:=hT.ev hy
  simp only [RelV] at h h2
  obtain ⟨_,A,cap,he,_,hall,hA⟩:=h
  have hlt:i.toNat < ys.length:=by
   rcases Nat.lt_or_ge i.toNat ys.length with hlt | hge
   ·exact hlt
   ·rw [List.getElem?_eq_none hge] at hc;cases hc
  obtain ⟨ad,rfl,hb,hcell⟩:=hA (by omega)
  refine ⟨.pointer (some (ad.add (i.toNat * sz))),by
   simp only [RelV]
   refine ⟨_,rfl,by rw [B9];exact hb,(hall c (List.mem_of_getElem? hc)).2,fun j u hj=>?_⟩
   rw [Z8]
   exact hcell _ _ hc j u hj,fun w' hC'=>?_⟩
  simp only [execOp,ho,he,h2,Sem.run_bind,H2 (G t _ ht) (a:=ad) (len:=ys.length) (cap:=cap) (k:=k) (i:=i) h0 (by omega),Result.andThen_ok,Sem.run_pure]
theorem b2j {x y:Operand} {t t':TypeId} {k yk:IntKind} {a b:Int} (ho:o.op=.binOp .shr t x y t') (hx:ev T x=some (.v (.int k a))) (hy:ev T y=some (.v (.int yk b))) (hb:¬ b < 0) :
 QStep P o T m nx nt (.v (.int k (a.fdiv (2 ^ (min b.toNat k.bits))))) :=
 QStep.val fun w0 ρ ac hT w'=>by
  have h1:=hT.ev hx
  have h2:=hT.ev hy
  simp only [RelV] at h1 h2
  simp [execOp,ho,h1,h2,eqGuard,binOp,Op.shift,hb]
def a7Z (k:IntKind) (a b:Int):Int:=k.wrap ((BitVec.ofInt k.bits a &&& BitVec.ofInt k.bits b).toNat:Nat)
theorem b2k {x y:Operand} {t t':TypeId} {k:IntKind} {a b:Int} (ho:o.op=.binOp .and t x y t') (hx:ev T x=some (.v (.int k a))) (hy:ev T y=some (.v (.int k b))) :
 QStep P o T m nx nt (.v (.int k (a7Z k a b))) :=
 QStep.val fun w0 ρ ac hT w'=>by
  have h1:=hT.ev hx
  have h2:=hT.ev hy
  simp only [RelV] at h1 h2
  simp [execOp,ho,h1,h2,eqGuard,binOp,Op.intBits,a7Z]
end
end Go.Rf
namespace Go.Rf
open Go
theorem Ctr.bool {P:Program} [Env P] {f:FuncId} {args:List AV} {a b:Bool} (h:Ctr P f args (.one (.v (.bool a)))) (e:a=b):Ctr P f args (.one (.v (.bool b))):=e▸h
def a0F (n:Nat) (f:Nat→Bool):Bool:=!(I0 n (fun i=>!f i))
theorem a6r {n i:Nat} {f:Nat→Bool} (h:f i=true) (hi:i < n):a0F n f=true:=by
 rw [a0F,L9 (i:=i) (by simp [h]) hi];rfl
theorem a70 {n i:Nat} {f:Nat→Bool} (h:∀ j,j < i→f j=false) (hi:n≤i):a0F n f=false:=by
 rw [a0F,P6 (i:=i) (fun j hj=>by simp [h j hj]) hi];rfl
def S4 (f:Nat→Bool) (n:Nat):Int:=match (List.range n).find? f with
 | some i=>i
 | none=>-1
theorem Q8 {f:Nat→Bool} {n i:Nat} (h:∀ j,j < i→f j=false) (hi:n≤i):S4 f n=-1:=by
 have:(List.range n).find? f=none:=by
  rw [List.find?_eq_none]
  exact fun j hj=>by simp [h j (by have:=List.mem_range.mp hj;omega)]
 rw [S4,this]
theorem J2 {f:Nat→Bool} {n i:Nat} (h:∀ j,j < i→f j=false) (hi:i < n) (ht:f i=true):S4 f n=i:=by
 have:(List.range n).find? f=some i:=by
  rw [List.find?_range_eq_some]
  exact ⟨ht,List.mem_range.mpr hi,fun j hj=>by simp [h j hj]⟩
 rw [S4,this]
theorem a2J {f:Nat→Bool} {n:Nat}:decide (S4 f n≥0)=a0F n f:=by
 unfold S4
 cases hf:(List.range n).find? f with
 | none =>
  rw [List.find?_eq_none] at hf
  rw [a70 (i:=n) (fun j hj=>by simpa using hf j (List.mem_range.mpr hj)) (Nat.le_refl _)]
  rfl
 | some i =>
  have h1:=List.find?_some hf
  have h2:=List.mem_range.mp (List.mem_of_find?_eq_some hf)
  rw [a6r h1 h2]
  simp
theorem a2K {α:Type} {xs:List α} {f:α→List Value} {i:Nat}:((xs.map f).drop ((0:Int)).toNat).take (((i:Int)).toNat - ((0:Int)).toNat)=(xs.take i).map f:=by
 simp [List.map_take]
end Go.Rf
namespace Go.Rf
open Go Go.RowKit
section
variable {α β:Type} [Inhabited α] {f:α→β} {g:Nat→α} {xs:List α} {i j:Nat}
def over (g:Nat→α) (xs:List α) (i:Nat):List α:=(List.range i).map g++xs.drop i
end
def r5 (n:Int):List Value:=[.int .i64 n]
def l0 (b:Bool):List Value:=[.bool b]
def C5 (n:Int):List Value:=[.int .u8 n]
structure Cur where
 c:List Int
 a:Int
 s:Int
def L2 (l:List Int):Prop:=l.length≤1048576∧∀ j,0≤l.getD j default∧l.getD j default≤255
def nxB (x:Cur):Int:=if x.a < x.c.length then x.c.getD x.a.toNat default else 0
def nxS (x:Cur):Int:=IntKind.u64.wrap (IntKind.u64.wrap (IntKind.u64.wrap (x.s * 6364136223846793005)+IntKind.u64.wrap (nxB x))+843843)
def nxT (x:Cur):Int:=a7Z .u64 ((nxS x).fdiv (2 ^ 40)) 255
def nxV (x:Cur):Int:=if x.a+1≤x.c.length then nxB x else nxT x
def nxC (x:Cur):Cur:=⟨x.c,x.a+1,nxS x⟩
theorem b2l {x:Cur} (h:x.a < x.c.length):nxB x=x.c.getD x.a.toNat default:=if_pos h
theorem a37 {x:Cur} (h:¬ x.a < x.c.length):nxB x=0:=if_neg h
theorem a8I {x:Cur} (h:x.a+1≤x.c.length):nxV x=nxB x:=if_pos h
theorem a38 {x:Cur} (h:¬ x.a+1≤x.c.length):nxV x=nxT x:=if_neg h
theorem E3 {a:Int}:0≤a7Z .u64 a 255∧a7Z .u64 a 255≤255:=by
 have h:(BitVec.ofInt IntKind.u64.bits a &&& BitVec.ofInt IntKind.u64.bits 255).toNat≤255:=by
  rw [BitVec.toNat_and]
  exact Nat.le_trans Nat.and_le_right (by decide)
 have hw:a7Z .u64 a 255=((BitVec.ofInt IntKind.u64.bits a &&& BitVec.ofInt IntKind.u64.bits 255).toNat:Int):=by
  rw [a7Z,IntKind.wrap_u64]
  omega
 rw [hw]
 omega
theorem b0d {x:Cur} (h:L2 x.c):0≤nxB x∧nxB x≤255:=by
 unfold nxB
 split
 ·exact h.2 _
 ·omega
theorem a6s {x:Cur} (h:L2 x.c):0≤nxV x∧nxV x≤255:=by
 unfold nxV
 split
 ·exact b0d h
 ·exact E3
def pkV (x:Cur) (n:Int):Int:=if n≤1 then 0 else if 200 < n then (nxV x * 256+nxV (nxC x)) % n else nxV x % n
def pkC (x:Cur) (n:Int):Cur:=if n≤1 then x else if 200 < n then nxC (nxC x) else nxC x
theorem b35 {x:Cur} {n:Int} (h:n≤1):pkV x n=0∧pkC x n=x:=by rw [pkV,pkC,if_pos h,if_pos h];exact ⟨rfl,rfl⟩
theorem b36 {x:Cur} {n:Int} (h:¬ n≤1) (h2:¬ 200 < n):pkV x n=nxV x % n∧pkC x n=nxC x:=by rw [pkV,pkC,if_neg h,if_neg h,if_neg h2,if_neg h2];exact ⟨rfl,rfl⟩
theorem b37 {x:Cur} {n:Int} (h:¬ n≤1) (h2:200 < n):pkV x n=(nxV x * 256+nxV (nxC x)) % n∧pkC x n=nxC (nxC x):=by rw [pkV,pkC,if_neg h,if_neg h,if_pos h2,if_pos h2];exact ⟨rfl,rfl⟩
theorem b0e {x:Cur} {n:Int} (h:L2 x.c):0≤pkV x n∧(pkV x n < n∨(n≤1∧pkV x n=0)):=by
 by_cases h1:n≤1
 ·rw [(b35 h1).1];omega
 ·have e1:=a6s h
  have e2:=a6s (x:=nxC x) h
  by_cases h2:200 < n
  ·rw [(b37 h1 h2).1]
   exact ⟨Int.emod_nonneg _ (by omega),Or.inl (Int.emod_lt_of_pos _ (by omega))⟩
  ·rw [(b36 h1 h2).1]
   exact ⟨Int.emod_nonneg _ (by omega),Or.inl (Int.emod_lt_of_pos _ (by omega))⟩
theorem b48 {x:Cur} {n:Int}:(pkC x n).c=x.c∧x.a≤(pkC x n).a∧(pkC x n).a≤x.a+2:=by
 unfold pkC
 split
 ·exact ⟨rfl,by omega,by omega⟩
 ·split
  ·exact ⟨rfl,by show x.a≤x.a+1+1;omega,by show x.a+1+1≤x.a+2;omega⟩
  ·exact ⟨rfl,by show x.a≤x.a+1;omega,by show x.a+1≤x.a+2;omega⟩
structure CtrX (P:Program) [Env P] {α:Type} (f:FuncId) (args:List AV) (rows:List Row) (R:α→Prop) (res:α→Res) (after:α→List (Option Row)):Prop where
 callable:Callable P f
 calls:∀ (w0:Base) [EnvAt P w0] ρ m nx (ids:List Nat) w vs,RowsIn m ids rows→nodupB ids=true→RelC w0 ρ m nx w→RelVs w0.w ρ nx (renAs ids args) vs →
  Calls P f vs.toArray w (fun en w'=>∃ x,R x∧∃ v ρ',en=.returned v∧(∀ i,i < nx→ρ' i=ρ i)∧nx≤(instR (res x) nx (aft ids (after x) m)).2.2∧RelV w0.w ρ' (instR (res x) nx (aft ids (after x) m)).2.2 (instR (res x) nx (aft ids (after x) m)).1 v ∧
   RelC w0 ρ' (instR (res x) nx (aft ids (after x) m)).2.1 (instR (res x) nx (aft ids (after x) m)).2.2 w')
theorem CtrX.ofM {P:Program} [Env P] {α:Type} {f:FuncId} {args:List AV} {rows:List Row} {R:α→Prop} {res:α→Res} {after:α→List (Option Row)} {r:Res} {a:List (Option Row)} (x:α) (h:CtrM P f args rows r a) (hx:R x) (hr:res x=r) (ha:after x=a):CtrX P f args rows R res after:=by
 subst hr
 subst ha
 exact ⟨h.callable,fun w0 hw ρ m nx ids w vs h1 h2 h3 h4=>(h.calls w0 ρ m nx ids w vs h1 h2 h3 h4).mono fun en w' h=>⟨x,hx,h⟩⟩
theorem CtrX.weak {P:Program} [Env P] {α:Type} {f:FuncId} {args:List AV} {rows:List Row} {R R':α→Prop} {res:α→Res} {after:α→List (Option Row)} (h:CtrX P f args rows R res after) (hR:∀ x,R x→R' x):CtrX P f args rows R' res after :=
 ⟨h.callable,fun w0 hw ρ m nx ids w vs h1 h2 h3 h4=>(h.calls w0 ρ m nx ids w vs h1 h2 h3 h4).mono fun en w' ⟨x,hx,h⟩=>⟨x,hR x hx,h⟩⟩
def b38 {α:Type} (tb:List (Nat×TyI)) (rs:List ResultVar) (R:α→Prop) (res:α→Res) (after:α→List (Option Row)) (e:Exit) (S:St):Prop:=∃ x,R x∧a68 tb rs (res x) (after x) e S
theorem v7 {α:Type} {tb:List (Nat×TyI)} {rs:List ResultVar} {R:α→Prop} {res:α→Res} {after:α→List (Option Row)} {e:Exit} {S:St} (x:α) (h:a68 tb rs (res x) (after x) e S) (hx:R x):b38 tb rs R res after e S:=⟨x,hx,h⟩
section
variable {P:Program} [Env P] {w0:Base} {ops:Array Oper} {tb:List (Nat×TyI)} {o:Oper} {rest:List Oper} {T:List (Nat×AV)} {m:List (Nat×Option Row)} {nx nt d:Nat} {Q:Exit→St→Prop}
theorem CtrX.of {α:Type} {R:α→Prop} {res:α→Res} {after:α→List (Option Row)} (G:Good P tb) {f:FuncId} {fn:Func} {c:Code} {args:List AV} {rows:List Row} {l:List ResultVar} {n k:Nat} (hf:P.funcs[f]?=some fn) (hb:fn.body=some c) (hname:(fn.name == "runtime.NumGoroutine")=false) (hl:fn.results=l.toArray) (hn:fn.ntmps=n)
 (hlen:Nat.ble args.length n=true) (hk:rows.length=k) (haf:∀ x,rows.length=(after x).length) (hrefs:F0 k args=true) (hfr:a0c rows=true)
 (h:∀ b:Base,[EnvAt P b]→b.n0=k→W P b c ⟨a4h args 0,a5F rows 0,k,n⟩ (b38 tb l R res after)):CtrX P f args rows R res after:=by
 refine ⟨⟨fn,hf,hname,by rw [hb];rfl⟩,fun w0 hw0 ρ m nx ids w vs hin hnd hC hrel=>?_⟩
 have hidl:ids.length=k:=hin.len.trans hk
 let ρc:Nat→Value:=fun j=>ρ (ids.getD j 0)
 have hrel':RelVs w0.w ρc k args vs:=RelVs.ren args hrefs hrel
 have hlen':args.length≤n:=Nat.le_of_ble_eq_true hlen
 refine calls_of_wp hf hb ?_
 let b:Base:=⟨w0.w,k,ρc,w,fun c=>c < w.heap.size∧∀ (j:Nat) id r,ids[j]?=some id→rows[j]?=some r→¬ J1 w (ρ id) r c,fun c hc=>hc.1,w0.E,w0.hE⟩
 have hen:EnvAt P b:=⟨hw0.e⟩
 have hkp:KeepIs ρ ids rows w b.keep:=fun _=>Iff.rfl
 have hCb:RelC b ρc (a5F rows 0) k w:=a36 (b:=b) hC hin hnd hfr hk rfl rfl rfl rfl hkp
 have hT:=a4X (b:=b) (fn:=fn) hrel' hlen' hn
 refine wp_mono (h b rfl ρc _ w hT hCb) ?_
 have fin:∀ (x:α) (ρ':Nat→Value) (S:St) (a:Act) (w':World),(∃ avs,O9 tb S l []=some avs∧ResOK S.m avs (res x)∧AftOK S.m 0 (after x)∧X7 (after x) (a0C (res x) avs)=true)→RelT b ρ' S.T S.nx S.nt a→RelC b ρ' S.m S.nx w' →
  a.defers=[]∧∃ v,(results fn a.tmps).run P w'=.ok v w'∧∃ u ρ',Ending.returned v=.returned u∧(∀ i,i < nx→ρ' i=ρ i)∧nx≤(instR (res x) nx (aft ids (after x) m)).2.2∧RelV w0.w ρ' (instR (res x) nx (aft ids (after x) m)).2.2 (instR (res x) nx (aft ids (after x) m)).1 u ∧
  RelC w0 ρ' (instR (res x) nx (aft ids (after x) m)).2.1 (instR (res x) nx (aft ids (after x) m)).2.2 w':=by
  intro x ρ' S a w' ⟨avs,h1,h2,h3,h4⟩ hT' hC'
  obtain ⟨ys,avs',e1,e2,e3⟩:=U7 G hT' hC' h1
  simp at e1
  subst e1
  have hpin:∀ j id,ids[j]?=some id→ρ' j=ρ id:=fun j id hj=>by
   have hj':j < k:=by rw [← hidl];exact (List.getElem?_eq_some_iff.1 hj).1
   rw [hC'.pin.2 j hj']
   show ρ (ids.getD j 0)=_
   rw [a1d hj]
  obtain ⟨ρ2,q1,q2,q3,q4⟩:=a5Y (b:=b) hC hin hnd (haf x) rfl rfl hkp hpin hC' h3 h2 h4 e2
  exact ⟨hT'.defers,_,X6 hl e3,_,ρ2,rfl,q1,q2,q3,q4⟩
 rintro e a w' ⟨ρ',S,⟨x,hx,hq⟩,hT',hC'⟩
 cases e<;>simp only [a68] at hq
 case normal=>obtain ⟨g1,v,g2,g3⟩:=fin x ρ' S a w' hq hT' hC';exact ⟨g1,v,g2,x,hx,g3⟩
 case ret=>obtain ⟨g1,v,g2,g3⟩:=fin x ρ' S a w' hq hT' hC';exact ⟨g1,v,g2,x,hx,g3⟩
theorem d3 [EnvAt P w0] {α:Type} {R:α→Prop} {res:α→Res} {after:α→List (Option Row)} {f:FuncId} {as:Array Operand} {ts:Array TypeId} {args:List AV} {rows:List Row} {n1:Nat} (nx':Nat) (ids:List Nat) (hd:o.dst=some d) (hlt:Nat.blt d nt=true) (ho:o.op=.call { callee:=.value (.func f),args:=as,argTypes:=ts }) (hc:CtrX P f args rows R res after)
 (ha:evL T as.toList []=some (renAs ids args)) (hr:RowsIn m ids rows) (hnd:nodupB ids=true) {r:α→AV} {m':α→List (Nat×Option Row)} (hi:∀ x,a30 (res x) nx (aft ids (after x) m)=some (r x,m' x,n1)) (hn':Nat.beq nx' n1=true) (hk:∀ x,R x→WL P w0 ops rest ⟨(d,r x) :: T,m' x,nx',nt⟩ Q):WX P w0 ops o rest ⟨T,m,nx,nt⟩ Q:=by
 have hn'':=Nat.eq_of_beq_eq_true hn'
 subst hn''
 intro ρ a w hT hC
 obtain ⟨bs,h1,h2⟩:=a6o hT ha
 simp at h1
 subst h1
 have hcalls:=hc.calls w0 ρ m nx ids w _ hr hnd hC h2
 have hrun:(execOp a.eval o).run P w=.ok (.enter f (as.toList.map a.eval).toArray) w:=by
  simp [execOp,ho,resolve,Deferred.ofValue,invoke,Act.eval,Z9 hc.callable,← Array.toList_map]
 unfold Oper.wp
 rw [hrun,Oper.upon_enter]
 refine hcalls.mono fun ex w' ⟨x,hx,v,ρ',he,q1,q2,q3,q4⟩=>?_
 subst he
 have hi:=hi x
 have hi:=a0y hi
 rw [hi] at q2 q3 q4
 refine hk x hx ρ' _ w' ?_ q4
 rw [hd]
 have hT':RelT w0 ρ' T nx' nt a:=⟨fun t x hx=>(hT.tmps t x hx).mono q2 q1,hT.size,hT.defers⟩
 exact hT'.put hlt q3
end
inductive EF where
 | int (k:IntKind)
 | bool
 | str
def b2H (P:Program) (t:TypeId):Option EF:=match P.underlying t with
 | some (.int k)=>some (.int k)
 | some .bool=>some .bool
 | some .string=>some .str
 | _=>none
def efB:EF→EF→Bool
 | .int k,.int k'=>decide (k=k')
 | .bool,.bool=>true
 | .str,.str=>true
 | _,_=>false
theorem b2I {a b:EF} (h:efB a b=true):a=b:=by
 cases a<;>cases b<;>simp [efB] at h<;>first | rfl | (rw [h])
def a9z (P:Program):List Field→Nat→List EF→Bool
 | [],_,[]=>true
 | f :: fs,j,k :: ks=>(f.name != "_") && (f.offset==j) && (match b2H P f.type with | some k'=>efB k' k | none=>false) && a9z P fs (j+1) ks
 | _,_,_=>false
def a2L (P:Program) (t:TypeId) (ks:List EF):Bool :=
 (match P.underlying t with | some (.struct fs)=>a9z P fs.toList 0 ks | _=>false) && !P.stoodInHeld t && !P.eqGuardType P.depth t
def b49:EF→Value→Prop
 | .int k,v=>∃ a,v=.int k a
 | .bool,v=>∃ a,v=.bool a
 | .str,v=>∃ a,v=.string a
def a2M:List EF→List Value→Prop
 | [],us=>us=[]
 | k :: ks,us=>∃ u r,us=u :: r∧b49 k u∧a2M ks r
def r6:Value→Value→Bool
 | .int _ a,.int _ b=>decide (a=b)
 | .bool a,.bool b=>a==b
 | .string a,.string b=>decide (a=b)
 | _,_=>false
def m6:List Value→List Value→Bool
 | [],[]=>true
 | a :: r,b :: s=>r6 a b && m6 r s
 | _,_=>false
theorem a5G {a b:ByteArray}:(a.toList==b.toList)=decide (a=b):=by
 have e:(a.toList=b.toList)↔a=b:=by
  rw [ByteArray.toList_eq,ByteArray.toList_eq]
  obtain ⟨⟨x⟩⟩:=a
  obtain ⟨⟨y⟩⟩:=b
  simp
 rw [Bool.eq_iff_iff,beq_iff_eq,decide_eq_true_eq]
 exact e
section
variable {P:Program} {w:World}
theorem a2N {d:Nat} {xs ys:Array Value}:∀ {fs:List Field} {j:Nat} {ks:List EF},a9z P fs j ks=true→a2M ks (xs.toList.drop j)→a2M ks (ys.toList.drop j) →
 (Op.eqFields (d+1) xs ys fs).run P w=.ok (m6 (xs.toList.drop j) (ys.toList.drop j)) w
 | [],j,[],_,hx,hy=>by
  simp only [a2M] at hx hy
  rw [hx,hy]
  simp [Op.eqFields,m6]
 | [],_,_ :: _,h,_,_=>by simp [a9z] at h
 | _ :: _,_,[],h,_,_=>by simp [a9z] at h
 | f :: fs,j,k :: ks,h,hx,hy=>by
  simp only [a9z,Bool.and_eq_true] at h
  obtain ⟨⟨⟨h1,h2⟩,h3⟩,h4⟩:=h
  simp only [a2M] at hx hy
  obtain ⟨u,r,ex,hu,hr⟩:=hx
  obtain ⟨v,s,ey,hv,hs⟩:=hy
  have hj:f.offset=j:=by simpa using h2
  have gx:xs[j]?=some u:=by
   have:=congrArg (fun l=>l[0]?) ex
   simpa [List.getElem?_drop] using this
  have gy:ys[j]?=some v:=by
   have:=congrArg (fun l=>l[0]?) ey
   simpa [List.getElem?_drop] using this
  have dx:xs.toList.drop (j+1)=r:=by rw [← List.drop_drop,ex];rfl
  have dy:ys.toList.drop (j+1)=s:=by rw [← List.drop_drop,ey];rfl
  have hn:f.name ≠ "_" := by simpa using h1
  have ih:=a2N (d:=d) (xs:=xs) (ys:=ys) h4 (dx▸hr) (dy▸hs)
  rw [dx,dy] at ih
  have key:∀ w,(part f.type xs f.offset).run P w=.ok u w∧(part f.type ys f.offset).run P w=.ok v w∧(Op.equalIn (d+1) f.type u v).run P w=.ok (r6 u v) w:=by
   intro w
   cases he:b2H P f.type with
   | none=>simp [he] at h3
   | some k' =>
    simp only [he] at h3
    obtain rfl:=b2I h3
    unfold b2H at he
    split at he<;>cases he
    ·next k ht =>
     obtain ⟨a,rfl⟩:=hu
     obtain ⟨b,rfl⟩:=hv
     refine ⟨by simp [part,isAgg,run_underlying ht,hj,gx],by simp [part,isAgg,run_underlying ht,hj,gy],?_⟩
     rw [run_equalIn_int w d _ k k a b ht]
     rfl
    ·next ht =>
     obtain ⟨a,rfl⟩:=hu
     obtain ⟨b,rfl⟩:=hv
     exact ⟨by simp [part,isAgg,run_underlying ht,hj,gx],by simp [part,isAgg,run_underlying ht,hj,gy],run_equalIn_bool' w d _ a b ht⟩
    ·next ht =>
     obtain ⟨a,rfl⟩:=hu
     obtain ⟨b,rfl⟩:=hv
     refine ⟨by simp [part,isAgg,run_underlying ht,hj,gx],by simp [part,isAgg,run_underlying ht,hj,gy],?_⟩
     rw [run_equalIn_string w d _ a b ht,a5G]
     rfl
  rw [ex,ey]
  simp only [Op.eqFields,if_pos hn,Sem.run_bind,(key w).1,(key w).2.1,(key w).2.2,Result.andThen_ok,m6]
  cases hc:r6 u v
  ·simp
  ·simpa using ih
theorem a6t {t:TypeId} {ks:List EF} {us vs:List Value} (h:a2L P t ks=true) (hu:a2M ks us) (hv:a2M ks vs):(Op.equalIn 10000 t (.agg ⟨us⟩) (.agg ⟨vs⟩)).run P w=.ok (m6 us vs) w:=by
 simp only [a2L,Bool.and_eq_true,Bool.not_eq_true'] at h
 obtain ⟨⟨h1,h2⟩,_⟩:=h
 split at h1
 ·next fs hfs =>
  have e:P.fieldsOf t=fs:=by simp [Program.fieldsOf,hfs]
  rw [show (10000:Nat)=9999+1 from rfl,run_equalIn_agg w 9999 t _ _ (by rw [e];exact hfs) h2,e]
  exact a2N (d:=9998) (xs:=⟨us⟩) (ys:=⟨vs⟩) h1 hu hv
 ·cases h1
end
section
variable {P:Program} [Env P] {w0:Base} {ops:Array Oper} {tb:List (Nat×TyI)} {o:Oper} {rest:List Oper} {T:List (Nat×AV)} {m:List (Nat×Option Row)} {nx nt d:Nat} {Q:Exit→St→Prop}
theorem a69 {x:Operand} {ax:AV} {cs:List AV} {us:List Value} {w0:World} {ρ:Nat→Value} {a:Act} (hT:RelT w0 ρ T nx nt a) (hx:ev T x=some ax) (hc:C6 ax=some cs) (hu:vaR cs []=some us) (hax:ax=.agg cs∨ax=.v (.agg ⟨us⟩)):a.eval x=.agg ⟨us⟩:=by
 obtain ⟨us',h1,h2⟩:=Q5 _ _ _ hu
 simp at h2
 subst h2
 have:=hT.ev hx
 rcases hax with rfl | rfl
 ·simp only [RelV] at this
  obtain ⟨ys,e,hr⟩:=this
  rw [h1] at hr
  rw [e,RelVs.map_v_eq _ hr]
 ·simpa only [RelV] using this
theorem b39 {x y:Operand} {t t':TypeId} {ax ay:AV} {cs ds:List AV} {us vs:List Value} (ks:List EF) (ho:o.op=.binOp .eql t x y t') (hx:ev T x=some ax) (hy:ev T y=some ay) (hc:C6 ax=some cs) (hd:C6 ay=some ds) (hu:vaR cs []=some us) (hv:vaR ds []=some vs)
 (hax:ax=.agg cs∨ax=.v (.agg ⟨us⟩)) (hay:ay=.agg ds∨ay=.v (.agg ⟨vs⟩)) (ht:a2L P t ks=true) (fu:a2M ks us) (fv:a2M ks vs):QStep P o T m nx nt (.v (.bool (m6 us vs))) :=
 QStep.val fun w0 ρ a hT w'=>by
  have ex:=a69 hT hx hc hu hax
  have ey:=a69 hT hy hd hv hay
  have hg:P.eqGuardType P.depth t=false:=by simp only [a2L,Bool.and_eq_true,Bool.not_eq_true'] at ht;exact ht.2
  simp [execOp,ho,ex,ey,run_eqGuard_agg w' .eql t x y _ _ hg,run_eql_struct,a6t ht fu fv]
end
def okC (n:Int) (x:Cur):Prop:=L2 x.c∧0≤x.a∧x.a≤n
theorem okC.mono {n n':Int} {x:Cur} (h:okC n x) (hn:n≤n'):okC n' x:=⟨h.1,h.2.1,by have:=h.2.2;omega⟩
theorem okC.pk {n:Int} {x:Cur} (h:okC n x) (k:Int):okC (n+2) (pkC x k):=by
 have:=b48 (x:=x) (n:=k)
 exact ⟨by rw [this.1];exact h.1,by have:=h.2.1;omega,by have:=h.2.2;omega⟩
theorem okC.big {n:Int} {x:Cur} (h:okC n x) (hn:n≤1000000000000):0≤x.a∧x.a≤4611686018427387000:=⟨h.2.1,by have:=h.2.2;omega⟩
theorem b1t {l:List Int} {lo hi:Int} (hl:∀ z∈l,lo≤z∧z≤hi) {i:Nat} (h0:i < l.length):lo≤l.getD i default∧l.getD i default≤hi:=by
 have h:l.getD i default=l[i]:=by rw [List.getD_eq_getElem?_getD,List.getElem?_eq_getElem h0];rfl
 rw [h]
 exact hl _ (List.getElem_mem h0)
theorem b0f {α:Type} [Inhabited α] {l:List α} {i:Nat} (h0:i < l.length):l.getD i default∈l:=by
 have h:l.getD i default=l[i]:=by rw [List.getD_eq_getElem?_getD,List.getElem?_eq_getElem h0];rfl
 rw [h]
 exact List.getElem_mem h0
end Go.Rf
namespace Go.Rf
end Go.Rf
namespace Go.Rf
open Go Go.RowKit
section
variable {P:Program} [Env P] {w0:Base} {T:List (Nat×AV)} {m:List (Nat×Option Row)} {nx nt:Nat} {Q:Exit→St→Prop} {c:Code}
theorem b2J {N:Nat} (hn:nx≤N) (h:W P w0 c ⟨T,m,N,nt⟩ Q):W P w0 c ⟨T,m,nx,nt⟩ Q:=by
 intro ρ a w hT hC
 refine h ρ a w ⟨fun t x hx=>(hT.tmps t x hx).mono hn (fun _ _=>rfl),hT.size,hT.defers⟩ ⟨fun id r hr=>?_,hC.apart,hC.below,⟨Nat.le_trans hC.pin.1 hn,hC.pin.2⟩,hC.kept,hC.inner⟩
 obtain ⟨h1,h2⟩:=hC.rows id r hr
 exact ⟨Nat.lt_of_lt_of_le h1 hn,h2.mono hn (fun _ _=>rfl) h1⟩
theorem b0g {x y:Code} {S:St} {T1:List (Nat×AV)} {M1:List (Nat×Option Row)} (N:Nat) (ks ms:List Nat) (h:W P w0 x S (sq (fun S'=>a2G S'.nx S'.T ks []=some T1∧I7 S'.nx S'.m ms []=some M1∧Nat.ble S'.nx N=true∧S'.nt=nt) Q)) (h2:W P w0 y ⟨T1,M1,N,nt⟩ Q):W P w0 (.seq x y) S Q:=by
 refine b4 (fun K hK=>a7Q h ?_)
 intro e S hq
 cases e
 case normal =>
  obtain ⟨h3,h4,h5,h6⟩:=hq
  refine hK S ?_
  subst h6
  exact a98 (S':=⟨T1,M1,S.nx,S.nt⟩) ⟨rfl,U8 h3 trivial,P5 h4 trivial⟩ rfl (b2J (Nat.le_of_ble_eq_true h5) h2)
 all_goals exact hq
theorem Ctr.eq {f:FuncId} {args:List AV} {res res':Res} (h:Ctr P f args res) (e:res=res'):Ctr P f args res':=e▸h
end
section
variable {P:Program} [Env P] {w0:Base} {T:List (Nat×AV)} {m:List (Nat×Option Row)} {nx nt:Nat} {Q:Exit→St→Prop} {c:Code}
end
end Go.Rf
namespace Go.Rf
open Go
theorem b4a:∀ c,CellsOK [.int .u8] c→∃ x:Int,c=C5 x∧(0≤x∧x≤255):=by
 intro c h
 simp only [CellsOK,CellOK] at h
 obtain ⟨_,r0,rfl,⟨n0,rfl,w⟩,h⟩:=h
 subst h
 refine ⟨n0,rfl,?_⟩
 simp only [Lit.wf,IntKind.min,IntKind.max,Bool.and_eq_true,decide_eq_true_eq,IntKind.signed,IntKind.bits] at w
 simpa using w
theorem b2K {l:List Int} (h:∀ x∈l,0≤x∧x≤255):∀ j,0≤l.getD j default∧l.getD j default≤255:=fun j=>by
 rcases Nat.lt_or_ge j l.length with hj | hj
 ·exact h _ (b0f hj)
 ·have e:l.getD j default=0:=by rw [List.getD_eq_getElem?_getD,List.getElem?_eq_none hj];rfl
  rw [e]
  omega
end Go.Rf
namespace Go.Rf
open Go Go.RowKit
section
variable {P:Program} [Env P] {w0:Base} {ops:Array Oper} {tb:List (Nat×TyI)} {o:Oper} {rest:List Oper} {T:List (Nat×AV)} {m:List (Nat×Option Row)} {nx nt d:Nat} {Q:Exit→St→Prop} {c:Code}
theorem RelC.spare {ρ:Nat→Value} {w:World} (hC:RelC w0 ρ m nx w) {id e sz:Nat} {ys gs:List (List Value)} (hm:mem m id=some (.spare e sz ys gs)):∃ g cur,ρ id=.slice (some ⟨g,0,none⟩) ys.length (ys.length+gs.length)∧w0.w.heap.size≤g∧w.heap[g]?=some (.cells cur e (0,0))∧cur.toList=(ys++gs).flatten∧ys.length+gs.length≤maxLen∧∀ c∈ys++gs,c.length=sz:=(hC.rows id _ hm).2
theorem RelC.retell {ρ:Nat→Value} {w:World} (hC:RelC w0 ρ m nx w) {id:Nat} {row row':Row} (hm:mem m id=some row) (hrow:RowRel w0.w ρ nx w id row') (hin:∀ p b,inn w (ρ id) row' p=some b→inn w (ρ id) row p=some b:=by intro p b h;cases h):RelC w0 ρ ((id,some row') :: m) nx w:=by
 have hs:∀ i r,mem ((id,some row') :: m) i=some r→(i=id∧r=row')∨(i≠id∧mem m i=some r):=fun i r hr=>by
  by_cases e:id=i
  ·subst e;rw [j8] at hr;cases hr;exact .inl ⟨rfl,rfl⟩
  ·rw [d9 e] at hr;exact .inr ⟨Ne.symm e,hr⟩
 have was:∀ i r,mem ((id,some row') :: m) i=some r→∃ r',mem m i=some r':=fun i r hr=>by
  rcases hs i r hr with ⟨rfl,rfl⟩ | ⟨_,h⟩
  ·exact ⟨_,hm⟩
  ·exact ⟨_,h⟩
 refine ⟨fun i r hr=>?_,fun i i' r r' hr hr'=>?_,hC.below,hC.pin,⟨hC.kept.1,hC.kept.2.1,fun i r hr=>?_⟩,hC.inner' (Nat.le_refl _) (fun i r hr=>?_) (fun i r hr b hb=>?_)⟩
 ·rcases hs i r hr with ⟨rfl,rfl⟩ | ⟨_,h⟩
  ·exact ⟨(hC.rows _ _ hm).1,hrow⟩
  ·exact hC.rows i r h
 ·obtain ⟨r1,h1⟩:=was i r hr
  obtain ⟨r2,h2⟩:=was i' r' hr'
  exact hC.apart i i' r1 r2 h1 h2
 ·obtain ⟨r1,h1⟩:=was i r hr
  exact hC.kept.2.2 i r1 h1
 ·rcases hs i r hr with ⟨rfl,rfl⟩ | ⟨_,h⟩
  ·exact .inr ⟨row,hm,hin⟩
  ·exact .inr ⟨r,h,fun _ _ h=>h⟩
 ·obtain ⟨r1,h1⟩:=was i r hr
  exact .inl ⟨i,r1,h1,hb⟩
def SrcOK (m:List (Nat×Option Row)) (nx sz:Nat) (av:AV) (vs:List (List Value)):Prop :=
 ∀ (w0:Base) ρ w y,RelC w0 ρ m nx w→RelV w0.w ρ nx av y→∃ A cap,y=.slice A vs.length cap∧(0 < vs.length→∃ ad,A=some ad∧∀ j v,vs.flatten[j]?=some v→w.cell? (ad.add j)=some v)
theorem SrcOK.of {sz:Nat} {av:AV} {vs:List (List Value)} (hs:∀ c∈vs,c.length=sz) (h:ArgOK m nx av (.lst sz vs)) (hpos:0 < sz):SrcOK m nx sz av vs:=by
 intro w0 ρ w y hC hy
 have hr:=h w0 ρ w y hC hy
 simp only [RelV] at hr
 obtain ⟨A,cap,he,_,hall,hA⟩:=hr
 refine ⟨A,cap,he,fun h0=>?_⟩
 obtain ⟨ad,h1,_,h3⟩:=hA h0
 refine ⟨ad,h1,fun j v hj=>?_⟩
 have hlt:j < vs.length * sz:=by rw [← t9 (sz:=sz) hs];exact (List.getElem?_eq_some_iff.1 hj).1
 have hdiv:j / sz < vs.length:=Nat.div_lt_of_lt_mul (by rw [Nat.mul_comm];exact hlt)
 have hmod:j % sz < sz:=Nat.mod_lt _ hpos
 have hc:vs[j / sz]?=some vs[j / sz]:=List.getElem?_eq_getElem hdiv
 have e1:j / sz * sz+j % sz=j:=by rw [Nat.mul_comm];exact Nat.div_add_mod j sz
 have h4:=L6 (ys:=vs) (sz:=sz) hs hc hmod
 rw [e1,hj] at h4
 have:=h3 _ _ hc (j % sz) v h4.symm
 rwa [e1] at this
theorem SrcOK.spare {id e sz i n:Nat} {ys gs:List (List Value)} (hm:mem m id=some (.spare e sz ys gs)) (hle:i+n≤ys.length):SrcOK m nx sz (.sub id sz i n) ((ys.drop i).take n):=by
 intro w0 ρ w y hC hy
 simp only [RelV] at hy
 obtain ⟨hn,A,cap,rfl,hcap,hA,_⟩:=hy
 obtain ⟨g,cur,hρ,hB,hb,hcur,_,hall⟩:=hC.spare hm
 have hl:((ys.drop i).take n).length=n:=by rw [List.length_take,List.length_drop];omega
 refine ⟨A,cap,by rw [hl],fun h0=>?_⟩
 rw [hl] at h0
 obtain ⟨g',l,c,hg,rfl⟩:=hA h0
 have hgg:g=g':=by rw [hρ] at hg;simp at hg;exact hg.1
 subst hgg
 refine ⟨_,rfl,fun j v hj=>?_⟩
 have hly:∀ c∈ys,c.length=sz:=fun c hc=>hall c (List.mem_append_left _ hc)
 have hd:(ys.drop i).flatten=ys.flatten.drop (i * sz):=a6q hly (by omega)
 have hly2:∀ c∈ys.drop i,c.length=sz:=fun c hc=>hly c (List.mem_of_mem_drop hc)
 have ht:((ys.drop i).take n).flatten=(ys.drop i).flatten.take (n * sz):=a6p hly2 (by rw [List.length_drop];omega)
 rw [ht,hd,List.getElem?_take] at hj
 split at hj
 ·rw [List.getElem?_drop] at hj
  rw [Addr.add_lit,P3 hb,hcur,List.flatten_append,List.getElem?_append_left (List.getElem?_eq_some_iff.1 hj).1]
  exact hj
 ·cases hj
theorem b1u {ρ:Nat→Value} {a:Act} {w:World} {tx id:Nat} {row:Row} {T':List (Nat×AV)} (hT:RelT w0.w ρ T nx nt a) (hC:RelC w0 ρ m nx w) (hx:look tx T=some (.own id)) (hm:mem m id=some row) (hf:rowRefs 0 row=true) (hT':a1Y id T [] []=some T') :
 RelT w0.w (upd ρ nx (ρ id)) ((tx,.own nx) :: T') (nx+1) nt a∧RelC w0 (upd ρ nx (ρ id)) ((nx,some row) :: (id,none) :: m) (nx+1) w:=by
 have hxe:=hT.tmps _ _ hx
 simp only [RelV] at hxe
 have hsub:∀ i r,mem ((id,none) :: m) i=some r→mem m i=some r∧i≠id:=fun i r hr=>by
  by_cases e:id=i
  ·subst e;rw [j8] at hr;cases hr
  ·rw [d9 e] at hr;exact ⟨hr,Ne.symm e⟩
 have hC2:RelC w0 ρ ((id,none) :: m) nx w:=hC.sub fun i r hr=>(hsub i r hr).1
 refine ⟨⟨fun t x hx'=>?_,hT.size,hT.defers⟩,hC2.add ?_ ?_ ?_⟩
 ·by_cases e:tx=t
  ·subst e
   simp [look] at hx'
   subst hx'
   simp only [RelV]
   exact ⟨by omega,by rw [k9];exact hxe.2⟩
  ·have hl:look t T'=some x:=by simpa [look,show tx.beq t=false from Bool.eq_false_iff.mpr (fun h=>e (Nat.eq_of_beq_eq_true h))] using hx'
   rw [a2F] at hT'
   cases hT'
   rcases L7 _ _ _ _ _ hl (by simp) with h2 | ⟨_,h2,h3⟩
   ·simp [look] at h2
   ·exact (hT.add (ρ id)).tmps t x h2
 ·exact RowRel.move (w0:=w0) (hC.rows id _ hm).2 hf (k9 _ _ _)
 ·intro b hb
  refine ⟨fun i r hr hb'=>?_,?_⟩
  ·obtain ⟨h1,h2⟩:=hsub i r hr
   exact hC.foot_apart h1 hm h2 hb' hb
  ·rcases hb with hb | ⟨p,hb⟩
   ·exact hC.kept.2.2 id _ hm _ hb
   ·exact (hC.inner id _ hm p b hb).1
 ·intro p b hb
  obtain ⟨_,_,_,g4⟩:=hC.inner id _ hm p b hb
  exact ⟨(g4 id _ hm).1,fun p' hp'=>((g4 id _ hm).2 p' hp').2⟩
theorem y5 {tx id:Nat} {row:Row} {T':List (Nat×AV)} (nx':Nat) (hn':Nat.beq nx' (Nat.succ nx)=true) (hx:look tx T=some (.own id)) (hm:mem m id=some row) (hT':a1Y id T [] []=some T') (hf:rowRefs 0 row=true)
 (hk:WX P w0 ops o rest ⟨(tx,.own nx) :: T',(nx,some row) :: (id,none) :: m,nx',nt⟩ Q):WX P w0 ops o rest ⟨T,m,nx,nt⟩ Q:=by
 have hn'':=Nat.eq_of_beq_eq_true hn'
 subst hn''
 intro ρ a w hT hC
 obtain ⟨h1,h2⟩:=b1u hT hC hx hm hf hT'
 exact hk _ a w h1 h2
end
end Go.Rf
namespace Go.Rf
open Go
section
variable {α:Type} [Inhabited α] {f:α→List Value} {g:Nat→α} {xs:List α} {i:Nat}
end
theorem a1J {f:Nat→Bool} {n:Nat} (h:S4 f n≠-1):∃ i:Nat,S4 f n=(i:Int)∧i < n∧(∀ j,j < i→f j=false)∧f i=true:=by
 unfold S4 at h ⊢
 cases hf:(List.range n).find? f with
 | none=>simp [hf] at h
 | some i =>
  rw [List.find?_range_eq_some] at hf
  exact ⟨i,rfl,List.mem_range.mp hf.2.1,fun j hj=>by simpa using hf.2.2 j hj,hf.1⟩
theorem a8J {f:Nat→Bool} {n:Nat} (h:S4 f n=-1):∀ i,i < n→f i=false:=by
 unfold S4 at h
 cases hf:(List.range n).find? f with
 | none =>
  rw [List.find?_eq_none] at hf
  intro i hi
  simpa using hf i (List.mem_range.mpr hi)
 | some i=>simp [hf] at h
section
variable {α:Type} [Inhabited α] {f:α→List Value} {p:α→Bool} {xs:List α} {j:Nat}
end
end Go.Rf
