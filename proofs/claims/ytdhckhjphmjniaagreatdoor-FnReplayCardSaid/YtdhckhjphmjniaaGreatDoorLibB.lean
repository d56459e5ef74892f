/- Texts merged into one: RfG, RfH, RfM, RfN, RfO, RfP, RfS, RfJ, RfT, RfI, RfK, Rf9, RfU, RfW, Rf0, RfXA, RfXB, RfXD, RfX, RfL, RfR, RfV, Rf1, Rf2, Rf3, Rf4, Rf8, RfXH, RfXI. -/
import Derived.Test.YtdhckhjphmjniaaGreatDoorLibA
import Derived.Deep.LoopGhost
import Derived.Deep.Slices
import Derived.Deep.Fields
import Derived.ChangeSame
import Derived.Lib.SmallJoins
import Derived.ChangeOld
import Derived.OrdersHeld
import Derived.Laws.StructEq
import Derived.Laws.BytesArg
import Derived.Lib.LaidTab
import Derived.Lib.ItoaNum
import Derived.Lib.ItoaLen
import Derived.Sort.Grow
import Derived.Lib.IndexLaws
import Derived.Lib.IndexBytes
import Derived.Lib.IndexMore
import Derived.Lib.Atoi
import Derived.Lib.AtoiBound
import Derived.WideLaws
set_option linter.unusedSectionVars false
set_option linter.unusedSimpArgs false
set_option linter.unusedVariables false
namespace Go.Rf
open Go Go.RowKit
section
variable {P:Program} [Env P] {w0:Base} {ops:Array Oper} {tb:List (Nat×TyI)} {o:Oper} {rest:List Oper} {T:List (Nat×AV)} {m:List (Nat×Option Row)} {nx nt d:Nat} {r:AV} {Q:Exit→St→Prop}
def a6h (T:List (Nat×AV)) (dflt:Int):Option Operand→Option Int
 | none=>some dflt
 | some x=>match ev T x with
  | some (.v (.int _ i))=>some i
  | _=>none
theorem a5q {w0:World} {ρ:Nat→Value} {a:Act} (hT:RelT w0 ρ T nx nt a) {dflt i:Int} {x:Option Operand} (h:a6h T dflt x=some i):(x.map a.eval=none/\i=dflt)∨∃k,x.map a.eval=some (.int k i):=by
 cases x with
 | none=>simp [a6h] at h;exact .inl ⟨Z,h.symm⟩
 | some x =>
  simp only [a6h] at h
  split at h
  ·rename_i k i' he
   cases h
   have:=hT.ev he
   simp only [RelV] at this
   grind
  ·cases h
theorem z8 {t:Nat} {z:Value} {s:ByteArray} {x:Operand} {lo hi:Option Operand} {l h:Int} (G:Good P tb) (ho:o.op=.slice t x lo hi none) (ht:look t tb=some (.flat .str z)) (hx:ev T x=some (.v (.string s))) (hl:a6h T 0 lo=some l) (hh:a6h T s.size hi=some h)
 (h0:0<=l) (h1:l<=h) (h2:h<=s.size):QStep P o T m nx nt (.v (.string (s.extract l.toNat h.toNat))) :=
 QStep.val λw0 ρ a hT w'=>by
  have hxe:=hT.ev hx
  simp only [RelV] at hxe
  have hu:P.underlying t=some .string:=(G t _ ht).1
  have eh:(h.toNat:Int)=h:=Int.toNat_of_nonneg J
  have hh1:0<=h:=by omega
  have hl2:l<=(s.size:Int):=by omega
  rcases a5q hT hl with ⟨e1,rfl⟩ | ⟨k1,e1⟩<;>rcases a5q hT hh with ⟨e2,rfl⟩ | ⟨k2,e2⟩ <;>
   simp [execOp,ho,hxe,e1,e2,Instr.sliceAt,Instr.slice,run_underlying hu,Instr.sliceBounds,Instr.sliceBound,asIntOf,h0,h1,h2,hh1,hl2,eh]
theorem a94 {w0:World} {t e sz by_:Nat} {zs:List Value} (G:TyOK P t (.slice e sz by_ zs)) {ρ:Nat→Value} {a:Act} (hT:RelT w0 ρ T nx nt a) {lo hi:Option Operand} {l h:Int} {A:Option Addr} {n cap:Nat} (hl:a6h T 0 lo=some l) (hh:a6h T n hi=some h)
 (h0:0<=l) (h1:l<=h) (h2:h<=n) (hc:n<=cap) (w:World) :
 (Instr.sliceAt t (.slice A n cap) (lo.map a.eval) (hi.map a.eval) none).run P w=.ok (.slice (if cap=l.toNat then A else A.map (·.add (l.toNat * sz))) (h.toNat - l.toNat) (cap - l.toNat)) w:=by
 obtain ⟨hu,_,i,z,hi',hs,_⟩:=G
 have eh:(h.toNat:Int)=h:=Int.toNat_of_nonneg J
 have hh1:0<=h:=by omega
 have hl2:l<=(n:Int):=by omega
 have hcap:h<=(cap:Int):=by omega
 have hcap2:(n:Int)<=(cap:Int):=by omega
 rcases a5q hT hl with ⟨e1,rfl⟩ | ⟨k1,e1⟩<;>rcases a5q hT hh with ⟨e2,rfl⟩ | ⟨k2,e2⟩ <;>
  simp [e1,e2,Instr.sliceAt,Instr.slice,run_underlying hu,Instr.sliceBounds,Instr.sliceBound,asIntOf,sizeOf,typeInfo,hi',hs,h0,h1,h2,hh1,hl2,eh,hcap,hcap2]
theorem O0 {t e sz by_:Nat} {zs:List Value} {ys:List (List Value)} {x:Operand} {lo hi:Option Operand} {l h:Int} (G:Good P tb) (ho:o.op=.slice t x lo hi none) (ht:look t tb=some (.slice e sz by_ zs)) (hx:ev T x=some (.lst sz ys)) (hl:a6h T 0 lo=some l) (hh:a6h T ys.length hi=some h)
 (h0:0<=l) (h1:l<=h) (h2:h<=ys.length):QStep P o T m nx nt (.lst sz ((ys.drop l.toNat).take (h.toNat - l.toNat))) :=
 QStep.run λw0 ρ a w hT hC=>by
  have hxe:=hT.ev hx
  simp only [RelV] at hxe
  obtain ⟨A,cap,he,hcap,hall,hA⟩:=hxe
  have hlen:((ys.drop l.toNat).take (h.toNat - l.toNat)).length=h.toNat - l.toNat:=by rw [List.length_take,List.length_drop];omega
  refine ⟨.slice (if cap=l.toNat then A else A.map (·.add (l.toNat * sz))) (h.toNat - l.toNat) (cap - l.toNat),?_,λw' hC'=>?_⟩
  ·simp only [RelV]
   refine ⟨_,_,by rw [hlen],by rw [hlen];omega,λc hc=>hall c (List.mem_of_mem_drop (List.mem_of_mem_take hc)),λhpos=>?_⟩
   rw [hlen] at hpos
   have hpos2:0 < ys.length:=by omega
   obtain ⟨ad,rfl,hb,hcell⟩:=hA hpos2
   have hcl:cap≠l.toNat:=by omega
   rw [if_neg hcl]
   refine ⟨_,Z,by rw [E9];exact hb,λi c hi j u hj=>?_⟩
   have hi2:ys[l.toNat+i]?=some c:=by
    grind
   have:=hcell _ _ hi2 j u hj
   rw [a2R,← this]
   grind
  ·have:=a94 (G t _ ht) hT (A:=A) hl hh h0 h1 h2 hcap w'
   simp only [execOp,ho,he,Option.map_none,this,Sem.run_bind,Result.andThen_ok,Sem.run_pure]
theorem a2U {t e e' sz by_ id:Nat} {zs:List Value} {ys:List (List Value)} {x:Operand} {lo hi:Option Operand} {l h:Int} (G:Good P tb) (ho:o.op=.slice t x lo hi none) (ht:look t tb=some (.slice e sz by_ zs)) (hx:ev T x=some (.own id)) (hm:mem m id=some (.row e' sz ys))
 (hl:a6h T 0 lo=some l) (hh:a6h T ys.length hi=some h) (h0:0<=l) (h1:l<=h) (h2:h<=ys.length):QStep P o T m nx nt (.sub id sz l.toNat (h.toNat - l.toNat)) :=
 QStep.run λw0 ρ a w hT hC=>by
  have hxe:=hT.ev hx
  simp only [RelV] at hxe
  obtain ⟨hrow,_⟩:=hC.row hm
  have hshape:∃A cap,ρ id=.slice A ys.length cap/\ys.length<=cap/\(0 < ys.length→∃g,A=some ⟨g,0,none⟩):=by
   rcases hrow.2 with ⟨e1,e2⟩ | ⟨g,cap,cur,e1,_,_,e2,_⟩
   ·exact ⟨none,0,by rw [e1,e2],by omega,λh=>by omega⟩
   ·exact ⟨_,cap,e1,e2,λ_=>⟨g,Z⟩⟩
  obtain ⟨A,cap,he,hcap,hA⟩:=hshape
  refine ⟨.slice (if cap=l.toNat then A else A.map (·.add (l.toNat * sz))) (h.toNat - l.toNat) (cap - l.toNat),?_,λw' hC'=>?_⟩
  ·simp only [RelV]
   refine ⟨hxe.1,_,_,Z,by omega,λhpos=>?_,λhl0=>⟨ys.length,?_,by omega⟩⟩
   have hpos2:0 < ys.length:=by omega
   obtain ⟨g,rfl⟩:=hA hpos2
   have hcl:cap≠l.toNat:=by omega
   rw [if_neg hcl]
   exact ⟨g,_,_,he,by simp [Addr.add_lit]⟩
   ·rw [he,hl0]
    have e:A.map (λa=>a.add 0)=A:=by cases A<;>simp [Addr.add_zero']
    simp [e]
  ·have:=a94 (G t _ ht) hT (A:=A) hl hh h0 h1 h2 hcap w'
   simp only [execOp,ho,hxe.2,he,Option.map_none,this,Sem.run_bind,Result.andThen_ok,Sem.run_pure]
def evs (T:List (Nat×AV)):List Operand→List AV→Option (List AV)
 | [],acc=>a3A acc []
 | x :: r,acc=>match ev T x with
  | some a=>evs T r (a :: acc)
  | none=>none
theorem b4s {ρ:Nat→Value} {a:Act} (hT:RelT w0 ρ T nx nt a):∀{xs:List Operand} {acc rs:List AV} {acc':List Value},evs T xs acc=some rs→RelVs w0 ρ nx acc.reverse acc'→RelVs w0 ρ nx rs (acc'++xs.map a.eval)
 | [],acc,rs,acc',h,ha=>by simp [evs,H9] at h;subst h;simpa using ha
 | x :: xs,acc,rs,acc',h,ha=>by
  simp only [evs] at h
  cases h1:ev T x with
  | none=>simp [h1] at h
  | some av =>
   simp only [h1] at h
   have:=b4s hT h (acc':=acc'++[a.eval x]) (by
    rw [List.reverse_cons]
    refine RelVs.append _ ha ?_
    simp only [RelVs]
    exact ⟨_,_,Z,hT.ev h1,Z⟩)
   simpa using this
theorem b0s {f:FuncId} {caps:Array Operand} {cs:List AV} (ho:o.op=.makeFunc (.func f) #[] caps) (hc:evs T caps.toList []=some cs):QStep P o T m nx nt (.fnc f cs) :=
 QStep.run λw0 ρ a w hT hC=>by
  have:=b4s hT hc (acc':=[]) (by simp [RelVs])
  refine ⟨.func (.func f) #[] (caps.map a.eval),?_,λw' _=>by simp [execOp,ho,Instr.makeFunc]⟩
  simp only [RelV]
  exact ⟨caps.toList.map a.eval,by rw [← Array.toList_map],by simpa using this⟩
def a8x (n:Nat):List (Nat×Nat×Nat)→Bool
 | []=>true
 | q :: r=>Nat.blt q.2.2 n && a8x n r
theorem a6i {n:Nat}:∀{op:List (Nat×Nat×Nat)},a8x n op=true→∀q∈op,q.2.2 < n
 | [],_,q,hq=>by cases hq
 | p :: r,h,q,hq=>by
  simp only [a8x,Bool.and_eq_true] at h
  rcases List.mem_cons.1 hq with rfl | hq
  ·simp_all
  ·exact a6i h.2 q hq
def rowRefs (n:Nat):Row→Bool
 | .box cs=>J1 n cs
 | .row _ _ _ _=>true
 | .byt _=>true
 | .spare _ _ _ _=>true
 | .nest _ _ _ op=>a8x n op
def WeakT (T:List (Nat×AV)) (n:Nat):List (Nat×AV)→Prop
 | []=>True
 | (t,x) :: r=>(∃x',look t T=some x'/\x'=x)/\A6 n x=true/\WeakT T n r
def WeakM (m:List (Nat×Option Row)) (n:Nat):List (Nat×Option Row)→Prop
 | []=>True
 | (id,none) :: r=>WeakM m n r
 | (id,some row) :: r=>(∃row',mem m id=some row'/\row'=row)/\Nat.blt id n=true/\rowRefs n row=true/\WeakM m n r
theorem WeakT.get {n:Nat}:∀{T':List (Nat×AV)},WeakT T n T'→∀t x,(t,x)∈T'→look t T=some x/\A6 n x=true
 | [],_,_,_,h=>by simp at h
 | (t',x') :: r,hw,t,x,h=>by
  obtain ⟨⟨y,h1,h2⟩,h3,h4⟩:=hw
  rcases List.mem_cons.1 h with he | h
  ·grind
  ·exact WeakT.get h4 t x h
theorem WeakM.get {n:Nat}:∀{m':List (Nat×Option Row)},WeakM m n m'→∀id row,(id,some row)∈m'→mem m id=some row/\id < n/\rowRefs n row=true
 | [],_,_,_,h=>by simp at h
 | (id',none) :: r,hw,id,row,h=>by
  rcases List.mem_cons.1 h with he | h
  ·cases he
  ·exact WeakM.get (m':=r) hw id row h
 | (id',some row') :: r,hw,id,row,h=>by
  obtain ⟨⟨y,h1,h2⟩,h3,h4,h5⟩:=hw
  rcases List.mem_cons.1 h with he | h
  ·simp_all
  ·exact WeakM.get h5 id row h
structure Weak (S S':St):Prop where
 nt:S'.nt=S.nt
 T:WeakT S.T S'.nx S'.T
 m:WeakM S.m S'.nx S'.m
theorem a6j {id:Nat} {row:Row} (h:mem m id=some row):(id,some row)∈m:=by
 grind [mem,a6U]
theorem Weak.rel {S S':St} (hw:Weak S S') (hn0:w0.n0<=S'.nx) {ρ:Nat→Value} {a:Act} {w:World} (hT:RelT w0 ρ S.T S.nx S.nt a) (hC:RelC w0 ρ S.m S.nx w):RelT w0 ρ S'.T S'.nx S'.nt a/\RelC w0 ρ S'.m S'.nx w:=by
 refine ⟨⟨λt x hx=>?_,by rw [hw.nt];exact hT.size,hT.defers⟩,⟨λid row hr=>?_,λid id' r r' hr hr' hne=>?_,hC.below,⟨hn0,hC.pin.2⟩,⟨hC.kept.1,hC.kept.2.1,λid r hr=>hC.kept.2.2 id r (hw.m.get id r (a6j hr)).1⟩,
  hC.inner' (Nat.le_refl _) (λid r hr=>.inr ⟨r,(hw.m.get id r (a6j hr)).1,λ_ _ h=>h⟩) (λid r hr b hb=>.inl ⟨id,r,(hw.m.get id r (a6j hr)).1,hb⟩)⟩⟩
 ·obtain ⟨h1,h2⟩:=hw.T.get t x (a6U hx)
  exact (hT.tmps t x h1).less x h2
 ·obtain ⟨h1,h2,h3⟩:=hw.m.get id row (a6j hr)
  obtain ⟨_,h4⟩:=hC.rows id row h1
  exact ⟨h2,h4.to Z (λcs e l hl=>by subst e;exact RelVs.less cs h3 hl) λe sz yss op he q hq _=>by subst he;exact ⟨a6i h3 q hq,Z⟩⟩
 ·exact hC.apart id id' r r' (hw.m.get id r (a6j hr)).1 (hw.m.get id' r' (a6j hr')).1 hne
theorem b87 {c:Code} {S S':St} (hw:Weak S S') (hnx:S'.nx=S.nx) (h:W P w0 c S' Q):W P w0 c S Q :=
 λρ a w hT hC=>let ⟨h1,h2⟩:=hw.rel (hnx▸hC.pin.1) hT hC;h ρ a w h1 h2
theorem c6i {α:Type} (st:α→St) (inv:α→Prop) (μ:α→Nat) {c:Code} {S:St} (x0:α) (h0:inv x0) (hw:Weak S (st x0)) (hnx:∀x,(st x).nx=S.nx)
 (round:∀x,inv x→W P w0 c (st x) (sq (λS'=>∃x',inv x'/\Weak S' (st x')/\μ x' < μ x) Q)):W P w0 (.loop c) S Q:=by
 intro ρ a w hT hC
 have hp:∀x,w0.n0<=(st x).nx:=λx=>by rw [hnx x];exact hC.pin.1
 obtain ⟨h1,h2⟩:=hw.rel (hp _) hT hC
 refine wp_loop_ghost (λn a w=>∃x,inv x/\μ x=n/\∃ρ,RelT w0 ρ (st x).T (st x).nx (st x).nt a/\RelC w0 ρ (st x).m (st x).nx w) (μ x0) ⟨x0,h0,Z,ρ,h1,h2⟩ ?_
 rintro n a w ⟨x,hi,rfl,ρ,hT,hC⟩
 refine wp_mono (round x hi ρ a w hT hC) ?_
 rintro e a w ⟨ρ',S',hq,hT',hC'⟩
 cases e
 case normal =>
  obtain ⟨x',hi',hw',hlt⟩:=hq
  obtain ⟨g1,g2⟩:=hw'.rel (hp _) hT' hC'
  exact ⟨μ x',hlt,x',hi',Z,ρ',g1,g2⟩
 all_goals exact ⟨ρ',S',hq,hT',hC'⟩
def c1X (tb:List (Nat×TyI)) (S:St):ResultVar→Option AV
 | .tmp t=>look t S.T
 | .cell p ty=>match look p S.T with
  | some (.ptr id off)=>match mem S.m id with
   | some (.box cs)=>match look ty tb with
    | some (.struct _ zs)=>match a38 zs.length (a1c off cs) [] with
     | some rs=>some (.agg rs)
     | none=>none
    | some _=>nth cs off
    | none=>none
   | _=>none
  | _=>none
def X4 (tb:List (Nat×TyI)) (S:St):List ResultVar→List AV→Option (List AV)
 | [],acc=>a3A acc []
 | x :: r,acc=>match c1X tb S x with
  | some a=>X4 tb S r (a :: acc)
  | none=>none
def a9d:AV→Option Value
 | .v x=>some x
 | .pin z _ _=>some z
 | .nst (some z) _ _=>some z
 | .agg cs=>match vaR cs [] with
  | some xs=>some (.agg ⟨xs⟩)
  | none=>none
 | _=>none
def RCOK (m:List (Nat×Option Row)):AV→RC→Prop
 | x,.v u=>a9d x=some u
 | .own id,.fr e sz ys f=>∃f0,mem m id=some (.row e sz ys f0)/\(f0=true→f=true)
 | .v x,.fr _ _ ys _=>x=.slice none 0 0/\ys=[]
 | .own id,.ne e sz yss=>mem m id=some (.nest e sz yss [])
 | .v x,.ne _ _ yss=>x=.slice none 0 0/\yss=[]
 | _,_=>False
def RCOKs (m:List (Nat×Option Row)):List AV→List RC→Prop
 | [],[]=>True
 | x :: xs,r :: rs=>RCOK m x r/\RCOKs m xs rs
 | _,_=>False
def V5:List AV→List Nat→List Nat
 | [],acc=>acc
 | .own i :: r,acc=>V5 r (i :: acc)
 | _ :: r,acc=>V5 r acc
def b4t:List AV→Bool
 | []=>true
 | .v x :: r=>(blk x).isNone && b4t r
 | _ :: r=>b4t r
def nodupB:List Nat→Bool
 | []=>true
 | x :: r=>!has x r && nodupB r
def b88:AV→Option (List AV)
 | .agg cs=>some cs
 | .v (.agg ⟨l⟩)=>some (avR l [])
 | _=>none
theorem b8b {w0:World} {ρ:Nat→Value} {a:AV} {cs:List AV} (h:b88 a=some cs) {y:Value} (hy:RelV w0 ρ nx a y):∃cvs:List Value,y=.agg cvs.toArray/\RelVs w0 ρ nx cs cvs:=by
 cases a<;>simp only [b88] at h<;>try cases h
 case agg.refl=>simpa only [RelV] using hy
 case v x =>
  cases x<;>simp only [b88] at h<;>try cases h
  rename_i l
  simp only [RelV] at hy
  subst hy
  exact ⟨l.toList,Z,by rw [a4r];simpa using RelVs.map_v l.toList⟩
def flA:List (Option Nat)→List AV→List AV→Option (List AV)
 | [],[],acc=>a3A acc []
 | none :: sh,a :: as,acc=>flA sh as (a :: acc)
 | some n :: sh,a :: as,acc=>match b88 a with
  | some cs=>bif Nat.beq cs.length n then flA sh as (rev cs acc) else none
  | none=>none
 | _,_,_=>none
def a3H:Res→List AV→List AV
 | .shp _ sh _,avs=>match flA sh avs [] with
  | some ls=>ls
  | none=>[]
 | _,avs=>avs
def ResOK (m:List (Nat×Option Row)) (avs:List AV):Res→Prop
 | .one r=>∃x,avs=[x]/\RCOK m x r
 | .many rs=>RCOKs m avs rs/\Nat.beq avs.length 1=false/\nodupB (V5 avs [])=true/\b4t avs=true
 | .shp single sh rs=>∃ls,flA sh avs []=some ls/\RCOKs m ls rs/\Nat.beq avs.length 1=single/\nodupB (V5 ls [])=true
def Fin (tb:List (Nat×TyI)) (rs:List ResultVar) (res:Res):Exit→St→Prop
 | .ret,S=>∃avs,X4 tb S rs []=some avs/\ResOK S.m avs res
 | .normal,S=>∃avs,X4 tb S rs []=some avs/\ResOK S.m avs res
 | _,_=>False
def a6k (tmps:Array Value):ResultVar→Sem Value
 | .tmp t=>pure (tmps.getD t undef)
 | .cell a t=>do loadVar t (← asAddr (tmps.getD a undef))
theorem b8c (G:Good P tb) {S:St} {ρ:Nat→Value} {a:Act} {w:World} (hT:RelT w0 ρ S.T S.nx S.nt a) (hC:RelC w0 ρ S.m S.nx w) {x:ResultVar} {r:AV} (h:c1X tb S x=some r):∃y,RelV w0 ρ S.nx r y/\(a6k a.tmps x).run P w=.ok y w:=by
 cases x with
 | tmp t=>exact ⟨_,hT.tmps t r h,Z⟩
 | cell p ty =>
  simp only [c1X] at h
  cases h1:look p S.T with
  | none=>simp [h1] at h
  | some av =>
   cases av<;>simp only [h1] at h<;>try cases h
   rename_i id off
   cases h2:mem S.m id with
   | none=>simp [h2] at h
   | some row =>
    cases row with
    | row _ _ _=>simp [h2] at h
    | byt _=>simp [h2] at h
    | spare _ _ _ _=>simp [h2] at h
    | nest _ _ _ _=>simp [h2] at h
    | box cs =>
     simp only [h2] at h
     cases h3:look ty tb with
     | none=>simp [h3] at h
     | some i =>
      have hp:=hT.tmps p _ h1
      simp only [RelV] at hp
      obtain ⟨_,g,hg,he⟩:=hp
      obtain ⟨b,cur,ty',hρ,_,hb,hR,_⟩:=hC.box h2
      rw [hg] at hρ
      simp at hρ
      subst hρ
      have flat:∀(hf:a1e i=true) (hr:nth cs off=some r),∃y,RelV w0 ρ S.nx r y/\(a6k a.tmps (.cell p ty)).run P w=.ok y w:=by
       intro hf hr
       rw [a4q] at hr
       obtain ⟨u,hu,h4⟩:=RelVs.get _ hR off r hr
       refine ⟨u,h4,?_⟩
       have hc:w.cell? ⟨g,off,none⟩=some u:=by rw [S6 hb,hu]
       simp only [a6k,he,asAddr,Sem.run_bind,Sem.run_pure,Result.andThen_ok,loadVar,(G ty i h3).run_isAgg w,hf,Bool.not_true,Bool.false_eq_true,if_false,run_load,hc]
      cases i with
      | flat fk z=>simp only [h3] at h;exact flat Z h
      | slice e sz by_ zs=>simp only [h3] at h;exact flat Z h
      | struct fs zs =>
       simp only [h3] at h
       cases h4:a38 zs.length (a1c off cs) [] with
       | none=>simp [h4] at h
       | some rs =>
        simp only [h4,Option.some.injEq] at h
        subst h
        obtain ⟨hrs,hlen⟩:=a0n _ _ _ _ h4
        rw [Y7] at hrs hlen
        simp at hrs
        have hR2:RelVs w0 ρ S.nx rs ((cur.toList.drop off).take zs.length):=by rw [hrs];exact (RelVs.drop off _ hR).take _ _
        have hl:=RelVs.length _ hR2
        have hl2:rs.length=zs.length:=by rw [hrs,List.length_take];omega
        have:=I4 (G ty _ h3) (w:=w) (p:=⟨g,off,none⟩) (us:=(cur.toList.drop off).take zs.length) (by rw [hl,hl2]) (λj u hj=>by
         rw [Addr.add_lit,S6 hb]
         rw [List.getElem?_take] at hj
         split at hj
         ·rw [List.getElem?_drop] at hj;exact hj
         ·cases hj)
        refine ⟨_,by simp only [RelV];exact ⟨_,Z,hR2⟩,?_⟩
        simp only [Instr.loadAt,Instr.sureAddr,Sem.run_bind,Sem.run_pure,Result.andThen_ok] at this
        simp only [a6k,he,asAddr,Sem.run_bind,Sem.run_pure,Result.andThen_ok]
        exact this
theorem a0q (G:Good P tb) {S:St} {ρ:Nat→Value} {a:Act} {w:World} (hT:RelT w0 ρ S.T S.nx S.nt a) (hC:RelC w0 ρ S.m S.nx w):∀{xs:List ResultVar} {acc rs:List AV},X4 tb S xs acc=some rs →
 ∃ys avs,rs=acc.reverse++avs/\RelVs w0 ρ S.nx avs ys/\(xs.mapM (a6k a.tmps)).run P w=.ok ys w
 | [],acc,rs,h=>by simp [X4,H9] at h;exact ⟨[],[],by simp [h],by simp [RelVs],Z⟩
 | x :: xs,acc,rs,h=>by
  simp only [X4] at h
  cases h1:c1X tb S x with
  | none=>simp [h1] at h
  | some av =>
   simp only [h1] at h
   obtain ⟨y,h2,h3⟩:=b8c G hT hC h1
   obtain ⟨ys,avs,e1,e2,e3⟩:=a0q G hT hC h
   refine ⟨y :: ys,av :: avs,by simp [e1],by simp only [RelVs];exact ⟨_,_,Z,h2,e2⟩,?_⟩
   simp_all
theorem b5G {ρ:Nat→Value} {x:AV} {u y:Value} (h:a9d x=some u) (hy:RelV w0 ρ nx x y):y=u:=by
 cases x<;>simp only [a9d] at h<;>try cases h
 case v.refl=>simpa only [RelV] using hy
 case pin.refl=>simp only [RelV] at hy;exact hy.1
 case nst z _ _ =>
  cases z with
  | none=>simp [a9d] at h
  | some z=>simp [a9d] at h;subst h;simp only [RelV] at hy;exact hy.1 _ Z
 case agg cs =>
  cases hv:vaR cs [] with
  | none=>simp [hv] at h
  | some xs =>
   simp [hv] at h
   obtain ⟨xs',h1,h2⟩:=a0K _ _ _ hv
   simp at h2
   subst h2
   simp only [RelV] at hy
   obtain ⟨ys,rfl,h3⟩:=hy
   rw [h1] at h3
   rw [RelVs.map_v_eq _ h3,← h]
theorem b8d {B:Nat} {w:World} {e sz:Nat}:NestR B w (.slice none 0 0) e sz [] :=
 ⟨[],⟨World.ownsRow_nil _ _ _ _,Z,by simp,by simp,λi k c h=>by simp [D8] at h⟩,λp b h=>by simp [B5,D8] at h⟩
theorem RCOK.rel {ρ:Nat→Value} {w:World} (hC:RelC w0 ρ m nx w) {x:AV} {c:RC} (h:RCOK m x c) {y:Value} (hy:RelV w0 ρ nx x y):RCRel w0.w.heap.size w c y:=by
 cases c with
 | v u =>
  have h':a9d x=some u:=by cases x<;>exact h
  simp only [RCRel]
  exact b5G h' hy
 | fr e sz ys =>
  cases x<;>simp only [RCOK] at h
  case own id =>
   simp only [RelV] at hy
   rw [hy.2]
   obtain ⟨f0,h,hf⟩:=h
   obtain ⟨h1,h2⟩:=hC.rowF h
   exact ⟨h1.up hf,h2⟩
  case v x =>
   obtain ⟨rfl,rfl⟩:=h
   simp only [RelV] at hy
   subst hy
   exact ⟨OwnR.nil,by simp⟩
 | ne e sz yss =>
  cases x<;>simp only [RCOK] at h
  case own id =>
   simp only [RelV] at hy
   rw [hy.2]
   obtain ⟨_,cells,h1,_⟩:=hC.rows id _ h
   exact ⟨cells,h1,λp b hb=>⟨((hC.inner id _ h p b hb).2.2.2 id _ h).1,λp' hp'=>(((hC.inner id _ h p b hb).2.2.2 id _ h).2 p' hp').2⟩⟩
  case v x =>
   obtain ⟨rfl,rfl⟩:=h
   simp only [RelV] at hy
   subst hy
   exact b8d
theorem RCOK.foot {ρ:Nat→Value} {w:World} {x:AV} {c:RC} (h:RCOK m x c) {y:Value} (hy:RelV w0 ρ nx x y) {b:Nat} (hb:a4s w c y b):∃id row,x=.own id/\mem m id=some row/\U0 w (ρ id) row b:=by
 cases c with
 | v u=>exact hb.elim
 | fr e sz ys =>
  cases x<;>simp only [RCOK] at h
  case own id=>obtain ⟨f0,h,hf⟩:=h;simp only [RelV] at hy;exact ⟨id,_,Z,h,.inl (by rw [← hy.2];exact hb)⟩
  case v x =>
   obtain ⟨rfl,rfl⟩:=h
   simp only [RelV] at hy
   subst hy
   simp [a4s,blk] at hb
 | ne e sz yss =>
  cases x<;>simp only [RCOK] at h
  case own id=>simp only [RelV] at hy;exact ⟨id,_,Z,h,by rw [← hy.2];exact hb⟩
  case v x =>
   obtain ⟨rfl,rfl⟩:=h
   simp only [RelV] at hy
   subst hy
   simp [a4s,blk,B5,D8] at hb
theorem a6l:∀(l:List AV) (acc:List Nat),nodupB (V5 l acc)=true→nodupB acc=true
 | [],acc,h=>h
 | x :: r,acc,h=>by
  cases x<;>simp only [V5] at h
  case own i =>
   have:=a6l r (i :: acc) h
   simp only [nodupB,Bool.and_eq_true] at this
   exact this.2
  all_goals exact a6l r acc h
theorem a4w:∀(l:List AV) (acc:List Nat),nodupB (V5 l acc)=true→∀i∈acc,AV.own i∉l
 | [],_,_,_,_=>by simp
 | x :: r,acc,h,i,hi=>by
  cases x<;>simp only [V5] at h
  case own j =>
   have h1:=a6l r (j :: acc) h
   simp only [nodupB,Bool.and_eq_true,Bool.not_eq_true'] at h1
   have h2:=a4w r (j :: acc) h i (by simp [hi])
   intro hm
   rcases List.mem_cons.1 hm with e | hm
   ·cases e
    exact a1u h1.1 i hi Z
   ·exact h2 hm
  all_goals
   have h2:=a4w r acc h i hi
   intro hm
   rcases List.mem_cons.1 hm with e | hm
   ·cases e
   ·exact h2 hm
theorem RelC.foot_apart {ρ:Nat→Value} {w:World} (hC:RelC w0 ρ m nx w) {id id':Nat} {row row':Row} (hm:mem m id=some row) (hm':mem m id'=some row') (hne:id≠id') {b:Nat} (hb:U0 w (ρ id) row b):¬ U0 w (ρ id') row' b:=by
 rintro (hb' | ⟨p',hb'⟩)
 ·rcases hb with hb | ⟨p,hb⟩
  ·exact hC.apart id id' _ _ hm hm' hne b hb hb'
  ·exact hC.blkne hm hm' hb hb'
 ·rcases hb with hb | ⟨p,hb⟩
  ·exact hC.blkne hm' hm hb' hb
  ·exact hne (((hC.inner id row hm p b hb).2.2.2 id' row' hm').2 p' hb').1
theorem RCOKs.foots {ρ:Nat→Value} {w:World} {b:Nat}:∀{xs:List AV} {rs:List RC},RCOKs m xs rs→∀{ys:List Value},RelVs w0 ρ nx xs ys→a04 w rs ys b→∃id row,.own id∈xs/\mem m id=some row/\U0 w (ρ id) row b
 | [],[],_,_,hy,hb=>by simp only [RelVs] at hy;subst hy;exact hb.elim
 | [],_ :: _,h,_,_,_=>h.elim
 | _ :: _,[],h,_,_,_=>h.elim
 | x :: xs,r :: rs,h,_,hy,hb=>by
  simp only [RelVs] at hy
  obtain ⟨y,ys,rfl,h1,h2⟩:=hy
  rcases hb with hb | hb
  ·obtain ⟨id,row,rfl,h3,h4⟩:=h.1.foot h1 hb
   grind
  ·obtain ⟨id,row,h3,h4⟩:=RCOKs.foots h.2 h2 hb
   grind
theorem RCOKs.rel {ρ:Nat→Value} {w:World} (hC:RelC w0 ρ m nx w):∀{xs:List AV} {rs:List RC} {acc:List Nat},RCOKs m xs rs→nodupB (V5 xs acc)=true→∀{ys:List Value},RelVs w0 ρ nx xs ys→RCRels w0.w.heap.size w rs ys
 | [],[],_,_,_,_,hy=>hy
 | [],_ :: _,_,h,_,_,_=>h.elim
 | _ :: _,[],_,h,_,_,_=>h.elim
 | x :: xs,r :: rs,acc,h,hn,_,hy=>by
  simp only [RelVs] at hy
  obtain ⟨y,ys,rfl,h1,h2⟩:=hy
  simp only [RCRels]
  have hn':∃acc',nodupB (V5 xs acc')=true/\(∀i,x=.own i→i∈acc'):=by
   cases x<;>simp only [V5] at hn
   case own i=>exact ⟨_,hn,λj hj=>by cases hj;simp⟩
   all_goals exact ⟨_,hn,λj hj=>by cases hj⟩
  obtain ⟨acc',hn1,hn2⟩:=hn'
  refine ⟨y,ys,Z,h.1.rel hC h1,RCOKs.rel hC h.2 hn1 h2,λb hb hb'=>?_⟩
  obtain ⟨id,row,rfl,h3,h4⟩:=h.1.foot h1 hb
  obtain ⟨id',row',h5,h6,h7⟩:=RCOKs.foots h.2 h2 hb'
  refine hC.foot_apart h3 h6 (λe=>?_) h4 h7
  subst e
  exact a4w xs acc' hn1 id (hn2 id Z) h5
theorem b26 {ρ:Nat→Value}:∀{sh:List (Option Nat)} {as acc ls:List AV} {vs acc':List Value},flA sh as acc=some ls→RelVs w0 ρ nx as vs→RelVs w0 ρ nx acc.reverse acc'→∃ys,RelVs w0 ρ nx ls (acc'++ys)/\a6X sh ys=some vs
 | [],[],acc,ls,vs,acc',h,hr,ha=>by
  simp [flA,H9] at h
  simp only [RelVs] at hr
  subst h;subst hr
  exact ⟨[],by simpa using ha,Z⟩
 | [],_ :: _,_,_,_,_,h,_,_=>by simp [flA] at h
 | none :: sh,[],_,_,_,_,h,_,_=>by simp [flA] at h
 | none :: sh,a :: as,acc,ls,vs,acc',h,hr,ha=>by
  simp only [flA] at h
  simp only [RelVs] at hr
  obtain ⟨v,vs',rfl,h1,h2⟩:=hr
  obtain ⟨ys,h3,h4⟩:=b26 h h2 (acc':=acc'++[v]) (by
   rw [List.reverse_cons]
   refine RelVs.append _ ha ?_
   simp only [RelVs]
   exact ⟨_,_,Z,h1,Z⟩)
  exact ⟨v :: ys,by simpa using h3,by simp [a6X,h4]⟩
 | some n :: sh,as,acc,ls,vs,acc',h,hr,ha=>by
  have key:∀(cs:List AV) (as':List AV) (cvs:List Value) (vs':List Value),cs.length=n→RelVs w0 ρ nx cs cvs→RelVs w0 ρ nx as' vs'→flA sh as' (rev cs acc)=some ls→∃ys,RelVs w0 ρ nx ls (acc'++ys)/\a6X (some n :: sh) ys=some (.agg cvs.toArray :: vs'):=by
   intro cs as' cvs vs' hl h1 h2 h3
   obtain ⟨ys,h4,h5⟩:=b26 h3 h2 (acc':=acc'++cvs) (by
    rw [a3z,List.reverse_append,List.reverse_reverse]
    exact RelVs.append _ ha h1)
   have hcl:=RelVs.length _ h1
   refine ⟨cvs++ys,by simpa using h4,?_⟩
   have hcn:cvs.length=n:=by omega
   simp only [a6X]
   rw [if_pos (by rw [List.length_append];omega),← hcn,List.take_left,List.drop_left,h5]
   rfl
  cases as with
  | nil=>simp [flA] at h
  | cons a as =>
   simp only [RelVs] at hr
   obtain ⟨v,vs',rfl,h1,h2⟩:=hr
   simp only [flA] at h
   cases ha':b88 a with
   | none=>simp [ha'] at h
   | some cs =>
    simp only [ha'] at h
    cases hb:Nat.beq cs.length n with
    | false=>simp [hb] at h
    | true =>
     simp only [hb,cond_true] at h
     obtain ⟨cvs,rfl,h1'⟩:=b8b ha' h1
     exact key cs as cvs vs' (Nat.eq_of_beq_eq_true hb) h1' h2 h
theorem ResOK.parts {ρ:Nat→Value} {w:World} (hC:RelC w0 ρ m nx w) {avs:List AV} {res:Res} (h:ResOK m avs res) {ys:List Value} (hy:RelVs w0 ρ nx avs ys) :
 resParts w0.w.heap.size w res (if h:ys.toArray.size=1 then ys.toArray[0] else .tuple ys.toArray) (λrs ls=>∀b,a04 w rs ls b→∃id row,.own id∈a3H res avs/\mem m id=some row/\U0 w (ρ id) row b):=by
 have hyl:=RelVs.length _ hy
 cases res with
 | one r =>
  obtain ⟨x,rfl,hx⟩:=h
  simp only [RelVs] at hy
  obtain ⟨y,_,rfl,g1,rfl⟩:=hy
  simp only [List.size_toArray,List.length_cons,List.length_nil,Nat.zero_add,dif_pos,List.getElem_toArray,List.getElem_cons_zero]
  refine ⟨hx.rel hC g1,λb hb=>?_⟩
  rcases hb with hb | hb
  ·obtain ⟨id,row,rfl,h3,h4⟩:=hx.foot g1 hb
   exact ⟨id,row,by simp [a3H],h3,h4⟩
  ·exact hb.elim
 | many rs =>
  obtain ⟨h3,h4,h5,h6⟩:=h
  have hne:¬ ys.toArray.size=1:=by rw [List.size_toArray,hyl];exact O3 h4
  rw [dif_neg hne]
  exact ⟨ys,Z,RCOKs.rel hC h3 h5 hy,λb hb=>RCOKs.foots h3 hy hb⟩
 | shp single sh rs =>
  obtain ⟨ls,h1,h2,h3,h4⟩:=h
  obtain ⟨us,h5,h6⟩:=b26 (acc':=[]) h1 hy (by simp [RelVs])
  simp only [List.nil_append] at h5
  refine ⟨us,ys,RCOKs.rel hC h2 h4 h5,h6,?_,λb hb=>by simpa only [a3H,h1] using RCOKs.foots h2 h5 hb⟩
  cases single with
  | true =>
   have h7:=Nat.eq_of_beq_eq_true h3
   rw [h7] at hyl
   match ys,hyl with
   | [y],_=>simp
  | false =>
   grind [O3]
theorem resParts.rel {B:Nat} {w:World} {res:Res} {y:Value} {K:List RC→List Value→Prop} (h:resParts B w res y K):ResRel B w res y:=by
 cases res with
 | one r=>exact h.1
 | many rs=>obtain ⟨ys,h1,h2,_⟩:=h;exact ⟨ys,h1,h2⟩
 | shp single sh rs=>obtain ⟨ys,vs,h1,h2,h3,_⟩:=h;exact ⟨ys,vs,h1,h2,h3⟩
theorem resParts.mono {B:Nat} {w:World} {res:Res} {y:Value} {K K':List RC→List Value→Prop} (h:resParts B w res y K) (hk:∀rs ys,RCRels B w rs ys→K rs ys→K' rs ys):resParts B w res y K':=by
 cases res with
 | one r=>exact ⟨h.1,hk _ _ ⟨y,[],Z,h.1,Z,λ_ _ h=>h⟩ h.2⟩
 | many rs=>obtain ⟨ys,h1,h2,h3⟩:=h;exact ⟨ys,h1,h2,hk _ _ h2 h3⟩
 | shp single sh rs=>obtain ⟨ys,vs,h1,h2,h3,h4⟩:=h;exact ⟨ys,vs,h1,h2,h3,hk _ _ h1 h4⟩
def a6m:List AV→Nat→List (Nat×AV)
 | [],_=>[]
 | a :: as,k=>(k,a) :: a6m as (Nat.succ k)
theorem a5r {w0:World} {ρ:Nat→Value}:∀{as:List AV} {vs:List Value} {k:Nat},RelVs w0 ρ nx as vs→∀t x,look t (a6m as k)=some x→∃u,k<=t/\vs[t - k]?=some u/\RelV w0 ρ nx x u
 | [],_,_,_,_,_,h=>by simp [a6m,look] at h
 | a :: as,_,k,hr,t,x,h=>by
  simp only [RelVs] at hr
  obtain ⟨y,ys,rfl,h1,h2⟩:=hr
  by_cases e:k=t
  ·grind [a6m,r9]
  ·simp only [a6m] at h
   rw [l5 e] at h
   obtain ⟨u,g1,g2,g3⟩:=a5r h2 t x h
   grind
mutual
theorem RelV.outer {w:World} {ρ:Nat→Value}:∀(x:AV) {y:Value},RelV w noRho 0 x y→RelV w ρ 0 x y
 | x,_,h=>h.mono (Nat.le_refl _) (λi hi=>by omega)
end
theorem RelVs.outer {w:World} {ρ:Nat→Value} (x:List AV) {y:List Value} (h:RelVs w noRho 0 x y):RelVs w ρ 0 x y:=RelVs.mono (Nat.le_refl _) (λi hi=>by omega) x h
theorem X5 {fn:Func} {l:List ResultVar} (hl:fn.results=l.toArray) {tmps:Array Value} {ys:List Value} {w:World} (h:(l.mapM (a6k tmps)).run P w=.ok ys w) :
 (results fn tmps).run P w=.ok (if h:ys.toArray.size=1 then ys.toArray[0] else .tuple ys.toArray) w:=by
 have he:results fn tmps=(do let vs ← fn.results.mapM (a6k tmps);pure (if h:vs.size=1 then vs[0] else .tuple vs)):=rfl
 simp_all
theorem Ctr.of (G:Good P tb) {f:FuncId} {fn:Func} {c:Code} {args:List AV} {res:Res} {l:List ResultVar} {n:Nat} (hf:P.funcs[f]?=some fn) (hb:fn.body=some c) (hname:(fn.name == "runtime.NumGoroutine")=false) (hl:fn.results=l.toArray) (hn:fn.ntmps=n)
 (hlen:Nat.ble args.length n=true) (h:∀w0:Base,[NoPin w0]→[EnvAt P w0]→W P w0 c ⟨a6m args 0,[],0,n⟩ (Fin tb l res)):Ctr P f args res:=by
 refine ⟨⟨fn,hf,hname,by rw [hb];rfl⟩,λw vs henv hrel=>?_⟩
 have hlen':args.length<=n:=Nat.le_of_ble_eq_true hlen
 have hvl:=RelVs.length _ hrel
 refine calls_of_wp hf hb ?_
 let b0:Base:=⟨w,0,noRho,w,λ_=>False,λ_ h=>h.elim,Env.E P,λw' hb=>Env.mono henv hb⟩
 have hC:RelC b0 noRho [] 0 w:=⟨λid r hr=>by simp [mem,look] at hr,λid id' r r' hr=>by simp [mem,look] at hr,Below.refl _ _,⟨Nat.le_refl _,λi hi=>by cases hi⟩,⟨Nat.le_refl _,λb h=>h.elim,λid r hr=>by simp [mem,look] at hr⟩,λid r hr=>by simp [mem,look] at hr⟩
 have hnp:NoPin b0:=⟨Z⟩
 have hen:EnvAt P b0:=⟨Z⟩
 have hT:RelT w noRho (a6m args 0) 0 n { tmps:=vs.toArray++Array.replicate (fn.ntmps - vs.toArray.size) undef,defers:=[] }:=by
  refine ⟨λt x hx=>?_,by simp [hn];omega,Z⟩
  obtain ⟨u,_,h2,h3⟩:=a5r hrel t x hx
  have hlt:t < vs.length:=by
   grind
  have:(vs.toArray++Array.replicate (fn.ntmps - vs.toArray.size) undef).getD t undef=u:=by
   rw [Array.getD_eq_getD_getElem?,Array.getElem?_append_left (by simpa using hlt)]
   grind
  rw [this]
  exact h3
 refine wp_mono (h b0 noRho _ w hT hC) ?_
 have fin:∀(ρ:Nat→Value) (S:St) (a:Act) (w':World) (avs:List AV),X4 tb S l []=some avs→ResOK S.m avs res→RelT w ρ S.T S.nx S.nt a→RelC b0 ρ S.m S.nx w' →
  a.defers=[]/\∃v,(results fn a.tmps).run P w'=.ok v w'/\∃u,Ending.returned v=.returned u/\ResRel w.heap.size w' res u/\Below w.heap.size w w':=by
  intro ρ S a w' avs h1 h2 hT' hC'
  obtain ⟨ys,avs',e1,e2,e3⟩:=a0q G hT' hC' h1
  simp at e1
  subst e1
  exact ⟨hT'.defers,_,X5 hl e3,_,Z,(ResOK.parts hC' h2 e2).rel,hC'.below⟩
 rintro e a w' ⟨ρ,S,hq,hT',hC'⟩
 cases e<;>simp only [Fin] at hq
 case normal=>obtain ⟨avs,h1,h2⟩:=hq;exact fin ρ S a w' avs h1 h2 hT' hC'
 case ret=>obtain ⟨avs,h1,h2⟩:=hq;exact fin ρ S a w' avs h1 h2 hT' hC'
end
section
variable {P:Program} [Env P] {w0:Base} {ops:Array Oper} {tb:List (Nat×TyI)} {o:Oper} {rest:List Oper} {T:List (Nat×AV)} {m:List (Nat×Option Row)} {nx nt d:Nat} {r:AV} {Q:Exit→St→Prop}
def b89 (tb:List (Nat×TyI)) (m:List (Nat×Option Row)) (T:List (Nat×AV)) (fs:List (Nat×Nat)):List (Nat×Operand)→List AV→Option (List AV)
 | [],cs=>some cs
 | (k,x) :: r,cs=>match nth fs k with
  | some (off,ft)=>match look ft tb,ev T x with
   | some i,some av=>match E8 av with
    | some vs=>bif (Nat.beq vs.length (Y8 i) && Nat.ble (off+vs.length) cs.length) && a19 m vs then (match a8w cs off vs [] with | some cs'=>b89 tb m T fs r cs' | none=>none) else none
    | none=>none
   | _,_=>none
  | none=>none
theorem b12 (off:Nat):∀(l:List Value) (j:Nat) (cs:Array Value),off+j+l.length<=cs.size→(l.zipIdx j).foldl (λcs (p:Value×Nat)=>cs.setIfInBounds (off+p.2) p.1) cs=(cs.toList.take (off+j)++l++cs.toList.drop (off+j+l.length)).toArray
 | [],j,cs,_=>by simp
 | x :: l,j,cs,h=>by
  simp only [List.length_cons] at h
  simp only [List.zipIdx_cons,List.foldl_cons]
  rw [b12 off l (j+1) _ (by simp;omega)]
  congr 1
  have h2:off+j < cs.size:=by omega
  rw [Array.toList_setIfInBounds]
  have e1:(cs.toList.set (off+j) x).take (off+(j+1))=cs.toList.take (off+j)++[x]:=by
   rw [show off+(j+1)=off+j+1 by omega,List.take_succ_eq_append_getElem (by simpa using h2)]
   have:(cs.toList.set (off+j) x).take (off+j)=cs.toList.take (off+j):=by
    rw [List.take_set]
    exact List.set_eq_of_length_le (by rw [List.length_take];omega)
   simp [this]
  rw [e1,List.drop_set_of_lt J]
  simp
  congr 1
  omega
theorem b13 (G:Good P tb) {ρ:Nat→Value} {a:Act} {w:World} (hT:RelT w0 ρ T nx nt a) (hC:RelC w0 ρ m nx w) {fields:Array Field} {fs:List (Nat×Nat)}
 (hf:∀(k off ft:Nat),fs[k]?=some (off,ft)→∃(f:Field) (j:TypeInfo),fields[k]?=some f/\f.offset=off/\f.type=ft/\P.info? ft=some j/\j.size≠0) {places:Array (Nat×Nat)} (hp:∀(k:Nat) (f:Field) (j:TypeInfo),fields[k]?=some f→P.info? f.type=some j→places[k]?=some (f.offset,j.size)) :
 ∀{ps:List (Nat×Operand)} {cs rs:List AV},b89 tb m T fs ps cs=some rs→∀(cells:Array Value),RelVs w0 ρ nx cs cells.toList →
 ∃out:Array Value,Instr.fill (places[·]?) cells (ps.map λp=>(p.1,a.eval p.2))=some out/\RelVs w0 ρ nx rs out.toList
 | [],cs,rs,h,cells,hr=>by simp [b89] at h;subst h;exact ⟨cells,Z,hr⟩
 | (k,x) :: ps,cs,rs,h,cells,hr=>by
  simp only [b89] at h
  cases h1:nth fs k with
  | none=>simp [h1] at h
  | some p =>
   obtain ⟨off,ft⟩:=p
   simp only [h1] at h
   cases h2:look ft tb with
   | none=>simp [h2] at h
   | some i =>
    cases h3:ev T x with
    | none=>simp [h2,h3] at h
    | some av =>
     simp only [h2,h3] at h
     cases h4:E8 av with
     | none=>simp [h4] at h
     | some vs =>
      simp only [h4] at h
      cases h5:((Nat.beq vs.length (Y8 i) && Nat.ble (off+vs.length) cs.length) && a19 m vs) with
      | false=>simp [h5] at h
      | true =>
       simp only [h5,cond_true,a3F] at h
       simp only [Bool.and_eq_true] at h5
       have hl:vs.length=Y8 i:=Nat.eq_of_beq_eq_true h5.1.1
       have hfit:off+vs.length<=cs.length:=Nat.le_of_ble_eq_true h5.1.2
       rw [a4q] at h1
       obtain ⟨f,j,g1,g2,g3,g4,g5⟩:=hf k off ft h1
       subst g2;subst g3
       have hplace:=hp k f j g1 g4
       have hsz:j.size=Y8 i:=by
        have:=(G _ _ h2).run_sizeOf w
        simp [sizeOf,typeInfo,g4] at this
        exact this
       have hR:=(a0p hC h4 h5.2 (hT.ev h3)).1
       have hvl:=RelVs.length _ hR
       have hcl:=RelVs.length _ hr
       simp at hvl hcl
       have hfold:=b12 f.offset (a.eval x).cells.toList 0 cells (by simp;omega)
       have hfold2:(a.eval x).cells.zipIdx.foldl (λcs (p:Value×Nat)=>cs.setIfInBounds (f.offset+p.2) p.1) cells=(cells.toList.take f.offset++(a.eval x).cells.toList++cells.toList.drop (f.offset+vs.length)).toArray:=by
        rw [← Array.foldl_toList]
        have e:(a.eval x).cells.zipIdx.toList=(a.eval x).cells.toList.zipIdx 0:=by simp
        rw [e,hfold]
        simp [hvl]
       have hfold3:(a.eval x).cells.zipIdx.foldl (λcs (p:Value×Nat)=>match p with | (c,j)=>cs.setIfInBounds (f.offset+j) c) cells=(cells.toList.take f.offset++(a.eval x).cells.toList++cells.toList.drop (f.offset+vs.length)).toArray:=hfold2
       obtain ⟨out,e1,e2⟩:=b13 G hT hC hf hp h (cells.toList.take f.offset++(a.eval x).cells.toList++cells.toList.drop (f.offset+vs.length)).toArray (by
        rw [a3E _ _ _ _ hfit]
        simp only [List.reverse_nil,List.nil_append]
        exact RelVs.append _ (RelVs.append _ (RelVs.take _ _ hr) hR) (RelVs.drop _ _ hr))
       refine ⟨out,?_,e2⟩
       simp only [List.map_cons,Instr.fill,hplace]
       rw [if_neg (by simp [hvl,hl,hsz];omega),hfold3]
       exact e1
theorem b5H {fields:Array Field} {w:World} (hall:∀f∈fields.toList,∃j,P.info? f.type=some j):∃places:Array (Nat×Nat),((fields.mapM λf=>do pure (f.offset,← sizeOf f.type):Sem (Array (Nat×Nat)))).run P w=.ok places w /\
 ∀(k:Nat) (f:Field) (j:TypeInfo),fields[k]?=some f→P.info? f.type=some j→places[k]?=some (f.offset,j.size):=by
 obtain ⟨l⟩:=fields
 have key:∀(l:List Field),(∀f∈l,∃j,P.info? f.type=some j)→∃ps:List (Nat×Nat),((l.mapM λf=>do pure (f.offset,← sizeOf f.type):Sem (List (Nat×Nat)))).run P w=.ok ps w/\∀(k:Nat) (f:Field) (j:TypeInfo),l[k]?=some f→P.info? f.type=some j→ps[k]?=some (f.offset,j.size):=by
  intro l
  induction l with
  | nil=>intro _;exact ⟨[],by simp,by simp⟩
  | cons f l ih =>
   intro h
   obtain ⟨j,hj⟩:=h f (by simp)
   obtain ⟨ps,h1,h2⟩:=ih (λf hf=>h f (by simp [hf]))
   refine ⟨(f.offset,j.size) :: ps,?_,?_⟩
   ·simp [List.mapM_cons,sizeOf,typeInfo,hj] at h1 ⊢
    rw [h1]
    rfl
   grind
 obtain ⟨ps,h1,h2⟩:=key l hall
 simp_all
theorem u3 {t:TypeId} {ps:Array (Nat×Operand)} {fs:List (Nat×Nat)} {zs:List Value} {rs:List AV} (G:Good P tb) (ho:o.op=.build t ps) (ht:look t tb=some (.struct fs zs)) (hb:b89 tb m T fs ps.toList (avR zs [])=some rs) (hd:a50 rs=true):QStep P o T m nx nt (.agg rs) :=
 QStep.run λw0 ρ a w hT hC=>by
  obtain ⟨fields,i,hu,hi,hsz,hz,_,hlen,hf⟩:=G t _ ht
  have hall:∀f∈fields.toList,∃j,P.info? f.type=some j:=by
   intro f hm
   obtain ⟨k,hk,rfl⟩:=List.getElem_of_mem hm
   have hk':k < fs.length:=by rw [hlen];simpa using hk
   obtain ⟨f',j,g1,_,g3,g4,_⟩:=hf k fs[k].1 fs[k].2 (by rw [List.getElem?_eq_getElem hk'])
   grind
  have key:∀w',RelC w0 ρ m nx w'→∃ys:List Value,RelVs w0 ρ nx rs ys/\(execOp a.eval o).run P w'=.ok (.value (.agg ys.toArray)) w':=by
   intro w' hC'
   obtain ⟨places,hp1,hp2⟩:=b5H (P:=P) (w:=w') hall
   obtain ⟨out,e1,e2⟩:=b13 G hT hC' hf hp2 hb zs.toArray (by simpa [a4r] using RelVs.map_v zs)
   refine ⟨out.toList,e2,?_⟩
   have hps:(ps.map λ(p:Nat×Operand)=>(p.1,a.eval p.2)).toList=ps.toList.map λp=>(p.1,a.eval p.2):=by simp
   have hps':(Array.map (λx=>match x with | (i,x)=>(i,a.eval x)) ps).toList=ps.toList.map λp=>(p.1,a.eval p.2):=hps
   simp only [execOp,ho,Instr.build,Sem.run_bind,zeroValue,typeInfo,run_program,Result.andThen_ok,hi,Sem.run_pure,hz,run_underlying hu,hp1,Value.cells,hps',e1]
  obtain ⟨ys,h1,h2⟩:=key w hC
  refine ⟨.agg ys.toArray,by simp only [RelV];exact ⟨ys,Z,h1⟩,λw' hC'=>?_⟩
  obtain ⟨ys',h1',h2'⟩:=key w' hC'
  rw [a6V hd h1 h1'] at h2'
  exact h2'
theorem P3 {rs:List ResultVar} {S:St} {x:AV} {c:RC} (h:X4 tb S rs []=some [x]) (hx:RCOK S.m x c):Fin tb rs (.one c) .ret S:=⟨_,h,x,Z,hx⟩
theorem s1 {rs:List ResultVar} {S:St} {xs:List AV} {cs:List RC} (h:X4 tb S rs []=some xs) (hl:Nat.beq xs.length 1=false) (hn:nodupB (V5 xs [])=true) (ho:b4t xs=true) (hx:RCOKs S.m xs cs):Fin tb rs (.many cs) .ret S:=⟨_,h,hx,hl,hn,ho⟩
theorem i8 {x u:Value} (h:x=u):RCOK m (.v x) (.v u):=by subst h;rfl
theorem A8 {cs:List AV} {xs:List Value} {u:Value} (h:vaR cs []=some xs) (hu:.agg ⟨xs⟩=u):RCOK m (.agg cs) (.v u):=by
 show a9d (.agg cs)=some u
 simp only [a9d,h]
 rw [hu]
theorem c7 {id e sz:Nat} {ys ys':List (List Value)} {f f0:Bool} (h:mem m id=some (.row e sz ys' f0)) (hy:ys'=ys) (hf:(!f0 || f)=true:=by rfl):RCOK m (.own id) (.fr e sz ys f):=by subst hy;exact ⟨f0,h,λe=>by subst e;simpa using hf⟩
theorem C6 {e sz:Nat} {ys:List (List Value)} {f:Bool} (h:[]=ys):RCOK m (.v (.slice none 0 0)) (.fr e sz ys f):=⟨Z,h.symm⟩
theorem d9:RCOKs m [] []:=trivial
theorem b3 {x:AV} {xs:List AV} {r:RC} {rs:List RC} (h:RCOK m x r) (h':RCOKs m xs rs):RCOKs m (x :: xs) (r :: rs):=⟨h,h'⟩
theorem V6 {x:Operand} {t e sz by_ n n':Nat} {zs:List Value} {ax:AV} (G:Good P tb) (ho:o.op=.call { callee:=.builtin .len,args:=#[x],argTypes:=#[t] }) (ht:look t tb=some (.slice e sz by_ zs)) (hx:ev T x=some ax) (hn:b77 m ax=some n) (he:n=n') :
 QStep P o T m nx nt (.v (.int .i64 n')):=he▸a1y G ho ht hx hn
theorem C3 {α:Type} [Inhabited α] {l:List α} {f:α→List Value} {i:Int} (h0:0<=i) (h1:i < l.length):(l.map f)[i.toNat]?=some (f (l.getD i.toNat default)):=by
 grind
theorem a1B {v v':Value} (h:QStep P o T m nx nt (.v v)) (e:v=v'):QStep P o T m nx nt (.v v'):=e▸h
def a64 (n:Nat) (T:List (Nat×AV)):List Nat→List (Nat×AV)→Option (List (Nat×AV))
 | [],acc=>some acc
 | t :: r,acc=>match look t T with
  | some x=>bif A6 n x then a64 n T r ((t,x) :: acc) else none
  | none=>none
def R0 (n:Nat) (m:List (Nat×Option Row)):List Nat→List (Nat×Option Row)→Option (List (Nat×Option Row))
 | [],acc=>some acc
 | i :: r,acc=>match mem m i with
  | some row=>bif Nat.blt i n && rowRefs n row then R0 n m r ((i,some row) :: acc) else none
  | none=>none
theorem a1C {n:Nat}:∀{ks:List Nat} {acc T0:List (Nat×AV)},a64 n T ks acc=some T0→WeakT T n acc→WeakT T n T0
 | [],acc,T0,h,ha=>by simp [a64] at h;subst h;exact ha
 | t :: r,acc,T0,h,ha=>by
  simp only [a64] at h
  cases h1:look t T with
  | none=>simp [h1] at h
  | some x =>
   simp only [h1] at h
   cases h2:A6 n x with
   | false=>simp [h2] at h
   | true =>
    simp only [h2,cond_true] at h
    exact a1C h ⟨⟨x,h1,Z⟩,h2,ha⟩
theorem a0r {n:Nat}:∀{ks:List Nat} {acc M0:List (Nat×Option Row)},R0 n m ks acc=some M0→WeakM m n acc→WeakM m n M0
 | [],acc,M0,h,ha=>by simp [R0] at h;subst h;exact ha
 | t :: r,acc,M0,h,ha=>by
  simp only [R0] at h
  cases h1:mem m t with
  | none=>simp [h1] at h
  | some x =>
   simp only [h1] at h
   cases h2:(Nat.blt t n && rowRefs n x) with
   | false=>simp [h2] at h
   | true =>
    simp only [h2,cond_true] at h
    simp only [Bool.and_eq_true] at h2
    exact a0r h ⟨⟨x,h1,Z⟩,h2.1,h2.2,ha⟩
theorem WeakT.append {n:Nat}:∀{a b:List (Nat×AV)},WeakT T n a→WeakT T n b→WeakT T n (a++b)
 | [],_,_,h=>h
 | (t,x) :: r,_,h,h'=>⟨h.1,h.2.1,WeakT.append h.2.2 h'⟩
theorem WeakM.append {n:Nat} {m:List (Nat×Option Row)}:∀{a b:List (Nat×Option Row)},WeakM m n a→WeakM m n b→WeakM m n (a++b)
 | [],_,_,h=>h
 | (i,none) :: r,_,h,h'=>WeakM.append (a:=r) h h'
 | (i,some row) :: r,_,h,h'=>⟨h.1,h.2.1,h.2.2.1,WeakM.append h.2.2.2 h'⟩
theorem i6 {α:Type} {c:Code} (ks ms:List Nat) (mod:α→List (Nat×AV)) (mm:α→List (Nat×Option Row)) (inv:α→Prop) (μ:α→Nat) (x0:α) {T0:List (Nat×AV)} {M0:List (Nat×Option Row)}
 (hT:a64 nx T ks []=some T0) (hM:R0 nx m ms []=some M0) (h0:inv x0) (w1:WeakT T nx (mod x0)) (w2:WeakM m nx (mm x0))
 (round:∀x,inv x→W P w0 c ⟨mod x++T0,mm x++M0,nx,nt⟩ (sq (λS'=>∃x',inv x'/\μ x' < μ x/\WeakT S'.T nx (mod x')/\WeakM S'.m nx (mm x')/\a64 nx S'.T ks []=some T0/\R0 nx S'.m ms []=some M0/\S'.nt=nt) Q)) :
 W P w0 (.loop c) ⟨T,m,nx,nt⟩ Q:=by
 refine c6i (λx=>⟨mod x++T0,mm x++M0,nx,nt⟩) inv μ x0 h0 ⟨Z,w1.append (a1C hT trivial),w2.append (a0r hM trivial)⟩ (λ_=>Z) (λx hx=>b5C (round x hx) ?_)
 intro e S' hq
 cases e
 case normal =>
  obtain ⟨x',g1,g2,g3,g4,g5,g6,g7⟩:=hq
  exact ⟨x',g1,⟨g7.symm,g3.append (a1C g5 trivial),g4.append (a0r g6 trivial)⟩,g2⟩
 all_goals exact hq
end
end Go.Rf
namespace Go.Rf
open Go
variable {h l n:Int}
def o8 (n l h:Int):Bool:=decide (n≥l) && decide (n<=h)
theorem v6:o8 n l h=true↔l<=n/\n<=h:=by simp [o8]
theorem b0t:o8 n l h=false↔n < l∨h < n:=by
 grind [o8]
variable {P:Program} [Env P] {tb:List (Nat×TyI)} {w0:Base} {T:List (Nat×AV)} {m:List (Nat×Option Row)} {nx nt:Nat} {o:Oper}
theorem b9a {x y:Operand} {ts:Array TypeId} {k:IntKind} {a b:Int} (ho:o.op=.call { callee:=.builtin .min,args:=#[x,y],argTypes:=ts }) (hx:ev T x=some (.v (.int k a))) (hy:ev T y=some (.v (.int k b))) :
 QStep P o T m nx nt (.v (.int k (min a b))):=by
 have:=c8H (P:=P) (m:=m) (nx:=nx) (nt:=nt) ho hx hy
 grind
section
variable {α β:Type} [Inhabited α] {f:α→β} {z:β} {xs ys:List α} {i:Nat}
def d1j (f:α→β) (z:β) (xs:List α) (i:Nat):List β:=(xs.take i).map f++List.replicate (xs.length - i) z
theorem a2z (h:i < xs.length):(xs.map f)[((i:Int)).toNat]?=some (f (xs.getD i default)):=by simp [h]
theorem H1 {j:Int} (h0:0<=j) (h:j.toNat < xs.length):(xs.map f)[j.toNat]?=some (f (xs.getD j.toNat default)):=by simp [h]
theorem b0u (hl:xs.length=ys.length) (h:∀j,j < i→xs.getD j default=ys.getD j default) (hi:xs.length<=i):xs=ys:=by
 apply List.ext_getElem hl
 intro j h1 h2
 have:=h j J
 simpa [h1,h2] using this
theorem b4u (h:xs.getD i default≠ys.getD i default):xs≠ys:=λe=>h (by rw [e])
theorem s4 {p:Nat→Prop} (h:∀j,j < i→p j) (hi:p i):∀j,j < i+1→p j:=λj hj=>by
 grind
end
def a2A (n:Nat) (f:Nat→Bool):Bool:=(List.range n).all f
theorem a3I {n i:Nat} {f:Nat→Bool} (h:∀j,j < i→f j=true) (hi:n<=i):a2A n f=true:=by
 grind [a2A]
theorem a1D {n i:Nat} {f:Nat→Bool} (h:f i=false) (hi:i < n):a2A n f=false:=by
 grind [a2A]
theorem E3 {n:Nat} {f:Nat→Bool}:a2A n f=true↔∀j,j < n→f j=true:=by simp [a2A]
def b9b {β:Type} (f:Nat→β→β) (b:β):Nat→β
 | 0=>b
 | n+1=>f n (b9b f b n)
theorem Ctr.int [Env P] {f:FuncId} {args:List AV} {a b:Int} (h:Ctr P f args (.one (.v (.int .i64 a)))) (e:a=b):Ctr P f args (.one (.v (.int .i64 b))):=e▸h
def s9 (s:ByteArray) (i:Nat):Int:=(s.data.toList.getD i 0).toNat
structure Setting where
 g:Int
 n:ByteArray
 c:Int
 f:Int
 w:Int
 k:Bool
instance:Inhabited Setting:=⟨⟨0,⟨#[]⟩,0,0,0,false⟩⟩
theorem a4x {a b:ByteArray} (h:a.toList=b.toList):a=b:=by
 rw [Go.ByteArray.toList_eq,Go.ByteArray.toList_eq] at h
 exact ByteArray.ext (Array.ext' h)
end Go.Rf
namespace Go.Rf
open Go Go.ChangeShapes Go.WideShapes Go.Deep Go.ChangeAt Go.RowKit
variable {cs:List Value} {n:Nat} {v:Value} {w:World}
inductive CK where
 | int (k:IntKind)
 | bool
 | str
variable {k:CK}
def CellOK:CK→Value→Prop
 | .int k,v=>∃n,v=.int k n/\(Lit.int k n).wf=true
 | .bool,v=>∃b,v=.bool b
 | .str,v=>∃s,v=.string s/\s.size<=maxLen
def CellsOK:List CK→List Value→Prop
 | [],cs=>cs=[]
 | k :: ks,cs=>∃v vs,cs=v :: vs/\CellOK k v/\CellsOK ks vs
def b9c (P:Program) (t:TypeId):Option CK:=match P.underlying t with
 | some (.int k)=>some (.int k)
 | some .bool=>some .bool
 | some .string=>some .str
 | _=>none
def b8e (P:Program):List Field→Option (List CK)
 | []=>some []
 | f :: r=>match b9c P f.type,b8e P r with
  | some k,some ks=>some (k :: ks)
  | _,_=>none
theorem CellOK.one (h:CellOK k v):v.oneCell'=true:=by
 cases k<;>simp only [CellOK] at h
 ·obtain ⟨n,rfl,_⟩:=h;rfl
 ·obtain ⟨n,rfl⟩:=h;rfl
 ·obtain ⟨n,rfl,_⟩:=h;rfl
theorem CellsOK.len:∀{ks:List CK} {cs:List Value},CellsOK ks cs→cs.length=ks.length/\∀u∈cs,u.oneCell'=true
 | [],cs,h=>by simp only [CellsOK] at h;subst h;simp
 | k :: ks,cs,h=>by
  simp only [CellsOK] at h
  obtain ⟨v,vs,rfl,h1,h2⟩:=h
  obtain ⟨a,b⟩:=CellsOK.len h2
  exact ⟨by simp [a],λu hu=>by rcases List.mem_cons.mp hu with rfl | hu;exact h1.one;exact b u hu⟩
section
variable {H:Type} {enc:TypeId×Value→H} {P:Program} {w:World} {base:Nat} {spare:Nat→Bool} {held:Bool} {t e:TypeId}
theorem a65 {x:DataW H×List MemPlace} (hk:b9c P t=some k) (h:DataW.trod enc P w base spare held n t cs=some x):∃v,cs=[v]/\CellOK k v:=by
 unfold b9c at hk
 split at hk<;>cases hk
 ·next k ht=>obtain ⟨n,rfl,_,hw⟩:=DataW.trod_int ht h;exact ⟨_,Z,n,Z,hw⟩
 ·next ht=>obtain ⟨b,rfl,_⟩:=DataW.trod_bool ht h;exact ⟨_,Z,b,Z⟩
 ·next ht=>obtain ⟨s,rfl,_,hs⟩:=DataW.trod_string ht h;exact ⟨_,Z,s,Z,hs⟩
theorem b0v:∀(l:List Field) (ks:List CK) (cs:List Value),b8e P l=some ks→cs.length=l.length→(∀(j:Nat) (f:Field) (k:CK),l[j]?=some f→b9c P f.type=some k→∃v,cs[j]?=some v/\CellOK k v)→CellsOK ks cs
 | [],ks,cs,hk,hl,_=>by simp [b8e] at hk;subst hk;simpa [CellsOK] using hl
 | f :: r,ks,cs,hk,hl,h=>by
  simp only [b8e] at hk
  split at hk
  ·next k ks' h1 h2 =>
   cases hk
   match cs,hl with
   | c :: cs,hl =>
    obtain ⟨v,hv,hok⟩:=h 0 f k Z h1
    simp at hv
    subst hv
    exact ⟨c,cs,Z,hok,b0v r ks' cs h2 (by simpa using hl) λj f' k' hj hk'=>by simpa using h (j+1) f' k' (by simpa using hj) hk'⟩
  ·cases hk
theorem a9u {fs:Array Field} {ks:List CK} {x:DataW H×List MemPlace} (hs:P.underlying t=some (.struct fs)) (hone:oneCellFields P fs=true) (hC:P.cellsOf t=fs.size) (hk:b8e P fs.toList=some ks)
 (h:DataW.trod enc P w base spare held n t cs=some x):CellsOK ks cs:=by
 obtain ⟨xs,n',_,_,hlen,hxl,hf⟩:=DataW.trod_struct hs h
 refine b0v _ _ _ hk (by rw [hlen,hC];simp) λj f k hj hkf=>?_
 have hj':fs[j]?=some f:=by simpa using hj
 obtain ⟨ho,h1⟩:=hone_of hone j f hj'
 have hjl:j < fs.size:=(Array.getElem?_eq_some_iff.1 hj').1
 have h2:=hf j f hj'
 rw [ho,h1,List.getElem?_eq_getElem J] at h2
 obtain ⟨v,hv,hok⟩:=a65 hkf h2
 refine ⟨v,?_,hok⟩
 have:((cs.drop j).take 1)[0]?=some v:=by rw [hv];rfl
 simpa using this
theorem b5I {a:Addr} (h:w.cell? a=some v):a.block < w.heap.size:=by
 unfold World.cell? at h
 grind
inductive EK where
 | one (k:CK)
 | str (fs:Array Field) (ks:List CK)
def EK.sz:EK→Nat
 | .one _=>1
 | .str fs _=>fs.size
def EK.ks:EK→List CK
 | .one k=>[k]
 | .str _ ks=>ks
def EK.Fits (P:Program) (e:TypeId):EK→Prop
 | .one k=>b9c P e=some k/\P.cellsOf e=1
 | .str fs ks=>P.underlying e=some (.struct fs)/\oneCellFields P fs=true/\P.cellsOf e=fs.size/\b8e P fs.toList=some ks
theorem EK.Fits.cells {E:EK} (h:E.Fits P e):P.cellsOf e=E.sz:=by cases E<;>simp only [EK.Fits] at h;exact h.2;exact h.2.2.1
theorem EK.Fits.trod {E:EK} (h:E.Fits P e) {n:Nat} {cs:List Value} {x:DataW H×List MemPlace} (ht:DataW.trod enc P w base spare held n e cs=some x):CellsOK E.ks cs:=by
 cases E<;>simp only [EK.Fits] at h
 ·obtain ⟨v,rfl,hv⟩:=a65 h.1 ht;exact ⟨v,[],Z,hv,Z⟩
 ·exact a9u h.1 h.2.1 h.2.2.1 h.2.2.2 ht
theorem b4v {v:Value} {d:DataW H} {p:List MemPlace} {E:EK} (ht:P.underlying t=some (.slice e)) (hE:E.Fits P e) (hsz:E.sz≠0) (hv:∃a len cap,v=.slice a len cap) (h:DataW.Trod enc P w base spare held t v d p) :
 ∃ys,ReadsAt w E.sz ys v/\ys.length<=maxLen/\∀c∈ys,CellsOK E.ks c:=by
 obtain ⟨a,len,cap,rfl⟩:=hv
 obtain ⟨fuel,hf⟩:=h
 rcases open_slice ht hf with ⟨hcs,_⟩ | ⟨a',len',cap',m,n,D,Pl,hcs,hb,hl,hm,hmm,hx,hi⟩
 ·simp [Value.cells] at hcs
  obtain ⟨rfl,rfl,rfl⟩:=hcs
  exact ⟨[],⟨none,0,Z,Nat.le_refl _,by simp,by simp⟩,by simp,by simp⟩
 ·simp [Value.cells] at hcs
  obtain ⟨rfl,rfl,rfl⟩:=hcs
  have hlm:len<=m:=by rw [hmm];split<;>omega
  rw [hE.cells] at hi
  let ys:=(List.range len).map λi=>(w.cells? base (a'.add (i * E.sz)) E.sz).getD []
  have hget:∀i c,ys[i]?=some c→i < len/\w.cells? base (a'.add (i * E.sz)) E.sz=some c/\CellsOK E.ks c:=by
   intro i c hic
   simp only [ys,List.getElem?_map] at hic
   rcases Nat.lt_or_ge i len with hlt | hge
   ·obtain ⟨cs',h1,h2⟩:=hi i J
    rw [List.getElem?_range hlt] at hic
    simp [h1] at hic
    subst hic
    exact ⟨hlt,h1,hE.trod h2⟩
   grind
  have hlen:ys.length=len:=by simp [ys]
  refine ⟨ys,⟨some a',cap,by rw [hlen],by omega,λc hc=>?_,λh0=>⟨a',Z,?_,λi c hic j u hju=>?_⟩⟩,by omega,λc hc=>?_⟩
  ·obtain ⟨i,hic⟩:=List.getElem?_of_mem hc
   obtain ⟨_,h1,h2⟩:=hget i c hic
   exact ⟨(World.cells?_some h1).2.1,h2.len.2⟩
  ·obtain ⟨cs',h1,_⟩:=hi 0 J
   obtain ⟨_,h2,h3⟩:=World.cells?_some h1
   have h4:=h3 0 J
   rw [List.getElem?_eq_getElem J] at h4
   have:=b5I h4
   simpa [Addr.add] using this
  ·obtain ⟨_,h1,_⟩:=hget i c hic
   obtain ⟨_,h2,h3⟩:=World.cells?_some h1
   have hj:j < c.length:=(List.getElem?_eq_some_iff.1 hju).1
   rw [← hju,← h3 j J]
   rw [← Go.Deep.add_add]
  ·obtain ⟨i,hic⟩:=List.getElem?_of_mem hc
   exact (hget i c hic).2.2
end
theorem b8f:RelVs w noRho 0 [] []:=rfl
theorem b8g {sz:Nat} {ys:List (List Value)} {as:List AV} {vs:List Value} (hr:ReadsAt w sz ys v) (h:RelVs w noRho 0 as vs):RelVs w noRho 0 (.lst sz ys :: as) (v :: vs):=by
 grind [RelVs,RelV]
theorem Ctr.true {P:Program} [Env P] {f:FuncId} {args:List AV} (h:Ctr P f args (.one (.v (.bool Bool.true)))) {w:World} {vs:List Value} (hE:Env.E P w) (hv:RelVs w noRho 0 args vs) :
 Calls P f vs.toArray w λe w'=>e=.returned (.bool Bool.true)/\Below w.heap.size w w' :=
 (h.calls w vs hE hv).mono λe w' ⟨v,he,hr,hb⟩=>⟨by simp only [ResRel,RCRel] at hr;rw [he,hr],hb⟩
end Go.Rf
namespace Go.Rf
open Go
theorem b4w {α:Type} {f:α→List Value} {ks:List CK} {Q:α→Prop} (h:∀c,CellsOK ks c→∃x,c=f x/\Q x):∀(ys:List (List Value)),(∀c∈ys,CellsOK ks c)→∃xs:List α,ys=xs.map f/\∀x∈xs,Q x
 | [],_=>⟨[],Z,by simp⟩
 | c :: r,hc=>by
  obtain ⟨x,rfl,hx⟩:=h c (hc c (by simp))
  obtain ⟨xs,rfl,hxs⟩:=b4w h r (λc' h'=>hc c' (by simp [h']))
  exact ⟨x :: xs,Z,λy hy=>by rcases List.mem_cons.mp hy with rfl | hy;exact hx;exact hxs y hy⟩
end Go.Rf
namespace Go.Rf
open Go Go.RowKit
variable {M1 m:List (Nat×Option Row)} {P:Program} {S:St} {T1:List (Nat×AV)} {a:Act} {b:Int} {c:Code} {cs xs:List AV} {e id n nx':Nat} {k:IntKind} {ms ts:List Nat} {rs:List ResultVar} {w w':World} {w0:Base} {x y:Operand} {ys:List (List Value)} {ρ ρ':Nat→Value}
def nq (K:St→Prop):Exit→St→Prop
 | .normal,S=>K S
 | _,_=>False
def a6n:Op→Bool
 | .load _ _=>true
 | .field _ _ _=>true
 | .fieldAddr _ _ _=>true
 | .index _ _ _=>true
 | .indexAddr _ _ _=>true
 | .move _=>true
 | .assign _=>true
 | .binOp _ _ _ _ _=>true
 | .unOp _ _ _=>true
 | .convert _ _ _=>true
 | .slice _ _ _ _ _=>true
 | .build _ _=>true
 | .extract _ _=>true
 | .pick _ _ _=>true
 | .makeFunc _ _ _=>true
 | .call { callee:=.builtin .len,args:=_,argTypes:=_ }=>true
 | .call { callee:=.builtin .min,args:=_,argTypes:=_ }=>true
 | .call { callee:=.builtin .max,args:=_,argTypes:=_ }=>true
 | _=>false
theorem a9e {x:Sem Value} {n:Next} (h:(do let v ← x;pure (Next.value v):Sem Next).run P w=.ok n w'):∃v,n=.value v:=by
 simp only [Sem.run_bind] at h
 cases hx:x.run P w with
 | ok v w1=>rw [hx] at h;simp at h;exact ⟨v,h.1.symm⟩
 | halt c w1=>rw [hx] at h;simp at h
theorem a8y {o:Oper} (hp:a6n o.op=true) {ρ:Operand→Value} {w w':World} {n:Next} (h:(execOp ρ o).run P w=.ok n w'):∃v,n=.value v:=by
 unfold execOp at h
 split at h<;>rename_i he<;>rw [he] at hp<;>first
  | (cases hp;done)
  | exact a9e h
  | (simp at h;exact ⟨_,h.1.symm⟩)
  | skip
 ·simp only [Sem.run_bind] at h
  rename_i c x y
  cases hx:(asBool (ρ c)).run P w with
  | ok v w1=>rw [hx] at h;simp at h;exact ⟨_,h.1.symm⟩
  | halt cc w1=>rw [hx] at h;simp at h
 ·rename_i c
  obtain ⟨cal,args,ts⟩:=c
  cases cal with
  | value f=>cases hp
  | invoke r nm=>cases hp
  | builtin b =>
   cases b<;>first
    | (cases hp;done)
    | (simp only [resolve,invoke,builtin,Sem.run_bind,Sem.run_pure,Result.andThen_ok] at h;exact a9e (by simpa only [Sem.run_bind,Sem.run_pure] using h))
section
variable {P:Program} [Env P] {b:Base} {ops:Array Oper} {o:Oper} {T:List (Nat×AV)} {m m0:List (Nat×Option Row)} {nx nt d i fuel:Nat} {listed:Array Bool} {r:AV} {K:St→Prop}
def Cls (b:Base) (m0:List (Nat×Option Row)) (w:World):Prop:=RelC b b.r0 m0 b.n0 w
theorem Inner.eq {w0':Base} (h:Inner w0 ρ m w) (hr:∀id r,mem m id=some r→ρ' id=ρ id) (hk:w0'.keep=w0.keep:=by rfl) (hw:w0'.w=w0.w:=by rfl):Inner w0' ρ' m w:=by
 intro id r hm p b hb
 rw [hr id r hm] at hb
 obtain ⟨g1,g2,g3,g4⟩:=h id r hm p b hb
 grind
theorem RelC.pinned (hC:RelC b ρ m nx w) (h:Cls b m0 w'):RelC b ρ m0 nx w':=by
 have hr:∀i,i < b.n0→ρ i=b.r0 i:=hC.pin.2
 refine ⟨λid r hm=>?_,λid id' r r' hm hm' hne bb hb=>?_,h.below,hC.pin,⟨h.kept.1,h.kept.2.1,λid r hm bb hb=>?_⟩,h.inner.eq λid r hm=>hr id (h.rows id r hm).1⟩
 ·obtain ⟨h1,h2⟩:=h.rows id r hm
  exact ⟨Nat.lt_of_lt_of_le h1 hC.pin.1,h2.mono hC.pin.1 hr h1⟩
 ·have h1:=(h.rows id r hm).1
  have h2:=(h.rows id' r' hm').1
  rw [hr id h1] at hb
  rw [hr id' h2]
  exact h.apart id id' r r' hm hm' hne bb hb
 ·rw [hr id (h.rows id r hm).1] at hb
  exact h.kept.2.2 id r hm bb hb
theorem RelC.cls {ρ:Nat→Value} {w:World} {ms:List Nat} (hC:RelC b ρ m nx w) (h:R0 b.n0 m ms []=some m0):Cls b m0 w:=by
 have hw:WeakM m b.n0 m0:=a0r h trivial
 have hr:∀i,i < b.n0→ρ i=b.r0 i:=hC.pin.2
 have h2:RelC b ρ m0 b.n0 w:=(Weak.rel (S:=⟨[],m,nx,0⟩) (S':=⟨[],m0,b.n0,0⟩) ⟨Z,trivial,hw⟩ (Nat.le_refl _) (ρ:=ρ) (a:=⟨#[],[]⟩) ⟨λt x hx=>(by cases hx),Z,Z⟩ hC).2
 refine ⟨λid r hm=>?_,λid id' r r' hm hm' hne bb hb=>?_,h2.below,⟨Nat.le_refl _,λ_ _=>Z⟩,⟨h2.kept.1,h2.kept.2.1,λid r hm bb hb=>?_⟩,h2.inner.eq λid r hm=>(hr id (h2.rows id r hm).1).symm⟩
 ·obtain ⟨g1,g2⟩:=h2.rows id r hm
  exact ⟨g1,g2.mono (Nat.le_refl _) (λj hj=>(hr j hj).symm) g1⟩
 ·have g1:=(h2.rows id r hm).1
  have g2:=(h2.rows id' r' hm').1
  rw [← hr id g1] at hb
  rw [← hr id' g2]
  exact h2.apart id id' r r' hm hm' hne bb hb
 ·rw [← hr id (h2.rows id r hm).1] at hb
  exact h2.kept.2.2 id r hm bb hb
def WA (P:Program) (b:Base) (ops:Array Oper) (m0:List (Nat×Option Row)) (fuel:Nat) (listed:Array Bool) (S:St) (K:St→Prop):Prop :=
 Region.noSelect ops=true→∀ρ a w,RelT b.w ρ S.T S.nx S.nt a→RelC b ρ S.m S.nx w→Cls b m0 w→wpAnyH P .any ops (a3x b (nq K)) (Cls b m0) fuel listed a w
theorem I5 {e:Exit} (h:a3x b (nq K) e a w):e=.normal:=by
 obtain ⟨ρ,S,h,_⟩:=h
 cases e<;>first | rfl | exact h.elim
theorem c8 [EnvAt P b] (i:Nat) (hi:ops[i]?=some o) (hf:Region.free .any ops listed i=true) (hr:(Region.ready .any ops listed).contains i=true) (hp:a6n o.op=true) (hg:o.guard=none)
 (hd:o.dst=some d) (hlt:Nat.blt d nt=true) (hq:QStep P o T m0 nx nt r) (hk:WA P b ops m0 fuel (listed.setIfInBounds i true) ⟨(d,r) :: T,m,nx,nt⟩ K):WA P b ops m0 (fuel+1) listed ⟨T,m,nx,nt⟩ K:=by
 intro hs ρ a w hT hC hS
 obtain ⟨y,hy,hq⟩:=hq b ρ a w hT (hC.pinned hS)
 refine wpAnyH_take hi hs hf hr (λc a w h=>absurd (I5 h) (by simp)) (v:=y) (.inl ⟨by simp [Region.wanted,hg],λw' hw'=>?_⟩) hS ?_
 ·have h1:=hq w' (hC.pinned hw')
  unfold Oper.quietAt at h1
  generalize hres:(execOp a.eval o).run P w'=res at *
  cases res with
  | ok n w'' =>
   obtain ⟨v,rfl⟩:=a8y hp hres
   simp only [Oper.quietUpon] at h1
   rw [h1.1,h1.2]
  | halt x w''=>simp only [Oper.quietUpon] at h1
 ·rw [hd]
  exact hk hs ρ _ w (hT.put hlt hy) hC hS
theorem X6 [EnvAt P b] (i:Nat) {j gd:Nat} {want:Bool} (hi:ops[i]?=some o) (hf:Region.free .any ops listed i=true) (hr:(Region.ready .any ops listed).contains i=true) (hp:a6n o.op=true) (hg:o.guard=some (j,want))
 (hj:(ops[j]?).bind (·.dst)=some gd) (hb:look gd T=some (.v (.bool want)))
 (hd:o.dst=some d) (hlt:Nat.blt d nt=true) (hq:QStep P o T m0 nx nt r) (hk:WA P b ops m0 fuel (listed.setIfInBounds i true) ⟨(d,r) :: T,m,nx,nt⟩ K):WA P b ops m0 (fuel+1) listed ⟨T,m,nx,nt⟩ K:=by
 intro hs ρ a w hT hC hS
 obtain ⟨y,hy,hq⟩:=hq b ρ a w hT (hC.pinned hS)
 refine wpAnyH_take hi hs hf hr (λc a w h=>absurd (I5 h) (by simp)) (v:=y) (.inl ⟨by rw [a0m hT hg hj hb];simp,λw' hw'=>?_⟩) hS ?_
 ·have h1:=hq w' (hC.pinned hw')
  unfold Oper.quietAt at h1
  generalize hres:(execOp a.eval o).run P w'=res at *
  cases res with
  | ok n w'' =>
   obtain ⟨v,rfl⟩:=a8y hp hres
   simp only [Oper.quietUpon] at h1
   rw [h1.1,h1.2]
  | halt x w''=>simp only [Oper.quietUpon] at h1
 ·rw [hd]
  exact hk hs ρ _ w (hT.put hlt hy) hC hS
theorem a3J (i:Nat) {j gd:Nat} {want bb:Bool} (hi:ops[i]?=some o) (hf:Region.free .any ops listed i=true) (hr:(Region.ready .any ops listed).contains i=true) (hg:o.guard=some (j,want))
 (hj:(ops[j]?).bind (·.dst)=some gd) (hb:look gd T=some (.v (.bool bb))) (hne:(bb==want)=false)
 (hd:o.dst=some d) (hlt:Nat.blt d nt=true) (hk:WA P b ops m0 fuel (listed.setIfInBounds i true) ⟨(d,.v undef) :: T,m,nx,nt⟩ K):WA P b ops m0 (fuel+1) listed ⟨T,m,nx,nt⟩ K:=by
 intro hs ρ a w hT hC hS
 refine wpAnyH_take hi hs hf hr (λc a w h=>absurd (I5 h) (by simp)) (v:=undef) (.inr ⟨by rw [a0m hT hg hj hb,hne],Z⟩) hS ?_
 rw [hd]
 exact hk hs ρ _ w (hT.put hlt (by simp [RelV])) hC hS
theorem b8h (i:Nat) {j gd:Nat} {want:Bool} (hi:ops[i]?=some o) (hf:Region.free .any ops listed i=true) (hr:(Region.ready .any ops listed).contains i=true) (hg:o.guard=some (j,want))
 (hj:(ops[j]?).bind (·.dst)=some gd) (hb:look gd T=some (.v undef))
 (hd:o.dst=some d) (hlt:Nat.blt d nt=true) (hk:WA P b ops m0 fuel (listed.setIfInBounds i true) ⟨(d,.v undef) :: T,m,nx,nt⟩ K):WA P b ops m0 (fuel+1) listed ⟨T,m,nx,nt⟩ K:=by
 intro hs ρ a w hT hC hS
 refine wpAnyH_take hi hs hf hr (λc a w h=>absurd (I5 h) (by simp)) (v:=undef) (.inr ⟨a3y hT hg hj hb,Z⟩) hS ?_
 rw [hd]
 exact hk hs ρ _ w (hT.put hlt (by simp [RelV])) hC hS
theorem c1Y {S:St} {gd:Nat} {bb:Bool} (hb:look gd S.T=some (.v (.bool bb))) (h1:bb=true→WA P b ops m0 fuel listed S K) (h2:bb=false→WA P b ops m0 fuel listed S K):WA P b ops m0 fuel listed S K:=by
 grind
def WB (P:Program) (b:Base) (ops:Array Oper) (m0:List (Nat×Option Row)) (fuel:Nat) (listed:Array Bool) (i:Nat) (S:St) (K:St→Prop):Prop :=
 Region.noSelect ops=true→∀ρ a w,RelT b.w ρ S.T S.nx S.nt a→RelC b ρ S.m S.nx w→Cls b m0 w→wpOp P ops (a3x b (nq K)) i (λa' w'=>Cls b m0 w'/\wpAnyH P .any ops (a3x b (nq K)) (Cls b m0) fuel (listed.setIfInBounds i true) a' w') a w
def AllB (P:Program) (b:Base) (ops:Array Oper) (m0:List (Nat×Option Row)) (fuel:Nat) (listed:Array Bool) (S:St) (K:St→Prop):List Nat→Prop
 | []=>True
 | i :: r=>WB P b ops m0 fuel listed i S K/\AllB P b ops m0 fuel listed S K r
theorem AllB.get:∀{rs:List Nat},AllB P b ops m0 fuel listed S K rs→∀i∈rs,WB P b ops m0 fuel listed i S K
 | [],_,i,hi=>by cases hi
 | j :: r,h,i,hi=>by
  rcases List.mem_cons.1 hi with rfl | hi
  ·exact h.1
  ·exact AllB.get h.2 i hi
theorem AllB.nil:AllB P b ops m0 fuel listed S K []:=trivial
theorem AllB.cons {rs:List Nat} (h:WB P b ops m0 fuel listed i S K) (h':AllB P b ops m0 fuel listed S K rs):AllB P b ops m0 fuel listed S K (i :: rs):=⟨h,h'⟩
theorem b7 {S:St} {rs:List Nat} (hr:Region.ready .any ops listed=rs) (hne:rs.isEmpty=false) (h:AllB P b ops m0 fuel listed S K rs):WA P b ops m0 (fuel+1) listed S K :=
 λhs ρ a w hT hC hS=>wpAnyH_all hr (by rintro rfl;cases hne) λi hi=>h.get i hi hs ρ a w hT hC hS
theorem z7 (hr:Region.ready .any ops listed=[]) (h:K S):WA P b ops m0 fuel listed S K :=
 λhs ρ a w hT hC hS=>wpAnyH_done hr ⟨ρ,S,h,hT,hC⟩ fuel
theorem b6M {K':St→Prop} {n n':Act→World→Prop} (h:o.wp P a w n (a3x b (nq K))) (hn:∀a w,n a w→n' a w):o.wp P a w n' (a3x b (nq K')):=by
 unfold Oper.wp at *
 generalize (execOp a.eval o).run P w=r at *
 cases r with
 | ok x w' =>
  cases x<;>simp only [Oper.upon] at h ⊢<;>first
   | exact hn _ _ h
   | skip
  case enter f args =>
   refine h.mono λe w'' he=>?_
   cases e with
   | returned u=>exact hn _ _ he
   | panicked c=>exact absurd (I5 he) (by simp)
   | outgrown=>obtain ⟨a,w,he⟩:=he;exact absurd (I5 he) (by simp)
  case row row args=>exact Rows.mono h λu w'' he=>hn _ _ he
 | halt x w' =>
  cases x<;>simp only [Oper.upon] at h ⊢
  assumption
theorem e9 (ms:List Nat) {S:St} (hi:ops[i]?=some o) (hg:o.guard=none)
 (h:WX P b ops o [] S (nq (λS'=>R0 b.n0 S'.m ms []=some m0/\WA P b ops m0 fuel (listed.setIfInBounds i true) S' K))):WB P b ops m0 fuel listed i S K:=by
 intro hs ρ a w hT hC hS
 unfold wpOp
 simp only [hi]
 rw [if_pos (by simp [Region.wanted,hg])]
 refine .inl (b6M (h ρ a w hT hC) ?_)
 rintro a' w' ⟨ρ',S',⟨h1,h2⟩,hT',hC'⟩
 exact ⟨hC'.cls h1,h2 hs ρ' a' w' hT' hC' (hC'.cls h1)⟩
theorem c1Z (ms:List Nat) {S:St} {j gd:Nat} {want:Bool} (hi:ops[i]?=some o) (hg:o.guard=some (j,want)) (hj:(ops[j]?).bind (·.dst)=some gd) (hb:look gd S.T=some (.v (.bool want)))
 (h:WX P b ops o [] S (nq (λS'=>R0 b.n0 S'.m ms []=some m0/\WA P b ops m0 fuel (listed.setIfInBounds i true) S' K))):WB P b ops m0 fuel listed i S K:=by
 intro hs ρ a w hT hC hS
 unfold wpOp
 simp only [hi]
 rw [if_pos (by rw [a0m hT hg hj hb];simp)]
 refine .inl (b6M (h ρ a w hT hC) ?_)
 rintro a' w' ⟨ρ',S',⟨h1,h2⟩,hT',hC'⟩
 exact ⟨hC'.cls h1,h2 hs ρ' a' w' hT' hC' (hC'.cls h1)⟩
theorem j7 (n:Nat) (ms:List Nat) {id:Nat} {l:List Oper} {Q:Exit→St→Prop} (hm:P.follows .mixedOrders=true) (hs:Region.noSelect l.toArray=true) (hn:l.toArray.size=n) (hK:R0 nx m ms []=some m0)
 (h:∀r0,WA P ⟨w0.w,nx,r0,w0.ws,w0.keep,w0.kb,w0.E,w0.hE⟩ l.toArray m0 n (Array.replicate n false) ⟨T,m,nx,nt⟩ K) (hq:∀S',K S'→Q .normal S'):W P w0 (.region id l.toArray true) ⟨T,m,nx,nt⟩ Q:=by
 intro ρ a w hT hC
 refine wp_region_held (S:=Cls ⟨w0.w,nx,ρ,w0.ws,w0.keep,w0.kb,w0.E,w0.hE⟩ m0) hm ?_
 have hC1:RelC ⟨w0.w,nx,ρ,w0.ws,w0.keep,w0.kb,w0.E,w0.hE⟩ ρ m nx w.drew:=let h:=hC.drew;⟨h.rows,h.apart,h.below,⟨Nat.le_refl _,λ_ _=>Z⟩,h.kept,h.inner⟩
 subst hn
 have h1:=h ρ hs ρ a w.drew hT hC1 (RelC.cls (ms:=ms) hC1 hK)
 refine mono (λa' w' hp=>?_) _ _ _ _ h1
 obtain ⟨ρ',S',h2,h3,h4⟩:=hp
 exact ⟨ρ',S',hq S' h2,h3,h4.rows,h4.apart,h4.below,⟨Nat.le_trans hC.pin.1 h4.pin.1,λi hi=>(h4.pin.2 i (Nat.lt_of_lt_of_le hi hC.pin.1)).trans (hC.pin.2 i hi)⟩,h4.kept,h4.inner⟩
where
 mono {b:Base} {S:World→Prop} {Q':Exit→Act→World→Prop} {ops:Array Oper} {K:St→Prop} (h:∀a w,a3x b (nq K) .normal a w→Q' .normal a w):∀(fuel:Nat) (listed:Array Bool) (a:Act) (w:World),wpAnyH P .any ops (a3x b (nq K)) S fuel listed a w→wpAnyH P .any ops Q' S fuel listed a w
  | 0,_,_,_,hh=>⟨hh.1,h _ _ hh.2⟩
  | fuel+1,listed,a,w,hh=>⟨λh0=>h _ _ (hh.1 h0),λi hi=>by
   have h3:=hh.2 i hi
   unfold wpOp at h3 ⊢
   cases ho:ops[i]? with
   | none=>simp only [ho] at h3;exact ⟨h3.1,mono h fuel _ _ _ h3.2⟩
   | some o =>
    simp only [ho] at h3 ⊢
    split
    ·rename_i hw
     rw [if_pos hw] at h3
     rcases h3 with h3 | ⟨_,a',w',h3⟩
     ·refine .inl (wp_any h3 λa w h4=>⟨h4.1,mono h fuel _ _ _ h4.2⟩)
     ·exact absurd (I5 h3) (by simp)
    ·rename_i hw
     rw [if_neg hw] at h3
     exact ⟨h3.1,mono h fuel _ _ _ h3.2⟩⟩
 wp_any {b:Base} {o:Oper} {K:St→Prop} {a:Act} {w:World} {n n':Act→World→Prop} {Q':Exit→Act→World→Prop} (h:o.wp P a w n (a3x b (nq K))) (hn:∀a w,n a w→n' a w):o.wp P a w n' Q':=by
  unfold Oper.wp at *
  generalize (execOp a.eval o).run P w=r at *
  cases r with
  | ok x w' =>
   cases x<;>simp only [Oper.upon] at h ⊢<;>first
    | exact hn _ _ h
    | skip
   case enter f args =>
    refine h.mono λe w'' he=>?_
    cases e with
    | returned u=>exact hn _ _ he
    | panicked c=>exact absurd (I5 he) (by simp)
    | outgrown=>obtain ⟨a,w,he⟩:=he;exact absurd (I5 he) (by simp)
   case row row args=>exact Rows.mono h λu w'' he=>hn _ _ he
  | halt x w' =>
   cases x<;>simp only [Oper.upon] at h ⊢
   case panic u=>exact absurd (I5 h) (by simp)
def Meet (ts ms:List Nat) (T1:List (Nat×AV)) (M1:List (Nat×Option Row)) (nx nt:Nat) (S:St):Prop :=
 a64 nx S.T ts []=some T1/\R0 nx S.m ms []=some M1/\S.nx=nx/\S.nt=nt
theorem Meet.mk (h1:a64 nx S.T ts []=some T1) (h2:R0 nx S.m ms []=some M1) (h3:S.nx=nx) (h4:S.nt=nt):Meet ts ms T1 M1 nx nt S:=⟨h1,h2,h3,h4⟩
theorem Meet.use {Q:Exit→St→Prop} (h:Meet ts ms T1 M1 nx nt S) (hk:W P w0 c ⟨T1,M1,nx,nt⟩ Q):W P w0 c S Q:=by
 obtain ⟨h1,h2,h3,h4⟩:=h
 exact b87 (S':=⟨T1,M1,nx,nt⟩) ⟨h4.symm,a1C h1 trivial,a0r h2 trivial⟩ h3.symm hk
theorem C4 (ts ms2:List Nat) (nx2 n:Nat) (ms:List Nat) {id:Nat} {l:List Oper} {y:Code} {Q Q':Exit→St→Prop} {T1:List (Nat×AV)} {M1:List (Nat×Option Row)} (hm:P.follows .mixedOrders=true) (hs:Region.noSelect l.toArray=true) (hn:l.toArray.size=n) (hK:R0 nx m ms []=some m0)
 (hq:∀S',W P w0 y S' Q'→Q .normal S') (h:∀r0,WA P ⟨w0.w,nx,r0,w0.ws,w0.keep,w0.kb,w0.E,w0.hE⟩ l.toArray m0 n (Array.replicate n false) ⟨T,m,nx,nt⟩ (Meet ts ms2 T1 M1 nx2 nt)) (h2:W P w0 y ⟨T1,M1,nx2,nt⟩ Q'):W P w0 (.region id l.toArray true) ⟨T,m,nx,nt⟩ Q :=
 j7 n ms hm hs hn hK h λS' hS=>hq S' (hS.use h2)
end
def evL (T:List (Nat×AV)):List Operand→List AV→Option (List AV)
 | [],acc=>a3A acc []
 | x :: xs,acc=>match ev T x with
  | some av=>evL T xs (av :: acc)
  | none=>none
mutual
def a4y (ids:List Nat):AV→AV
 | .own i=>.own (ids.getD i 0)
 | .sub i sz a n=>.sub (ids.getD i 0) sz a n
 | .ptr i o=>.ptr (ids.getD i 0) o
 | .rpt i sz a k=>.rpt (ids.getD i 0) sz a k
 | .agg cs=>.agg (renAs ids cs)
 | .tup cs=>.tup (renAs ids cs)
 | .fnc f cs=>.fnc f (renAs ids cs)
 | .v x=>.v x
 | .lst sz ys=>.lst sz ys
 | .pin z sz ys=>.pin z sz ys
 | .ept cs=>.ept cs
 | .nst z sz yss=>.nst z sz yss
 | .eptN cs=>.eptN (renAs ids cs)
 | .any=>.any
def renAs (ids:List Nat):List AV→List AV
 | []=>[]
 | c :: cs=>a4y ids c :: renAs ids cs
end
mutual
theorem RelV.ren {w0:World} {ρ:Nat→Value} {nx k:Nat} {ids:List Nat}:∀(x:AV) {y:Value},A6 k x=true→RelV w0 ρ nx (a4y ids x) y→RelV w0 (λj=>ρ (ids.getD j 0)) k x y
 | .v _,_,_,h=>by simpa only [a4y,RelV] using h
 | .lst _ _,_,_,h=>by simpa only [a4y,RelV] using h
 | .pin _ _ _,_,_,h=>by simpa only [a4y,RelV] using h
 | .ept _,_,_,h=>by simpa only [a4y,RelV] using h
 | .own i,_,hm,h=>by simp only [A6] at hm;simp only [a4y,RelV] at h ⊢;exact ⟨Nat.le_of_ble_eq_true hm,h.2⟩
 | .sub i _ _ _,_,hm,h=>by simp only [A6] at hm;simp only [a4y,RelV] at h ⊢;exact ⟨Nat.le_of_ble_eq_true hm,h.2⟩
 | .ptr i _,_,hm,h=>by simp only [A6] at hm;simp only [a4y,RelV] at h ⊢;exact ⟨Nat.le_of_ble_eq_true hm,h.2⟩
 | .rpt i _ _ _,_,hm,h=>by simp only [A6] at hm;simp only [a4y,RelV] at h ⊢;exact ⟨Nat.le_of_ble_eq_true hm,h.2⟩
 | .agg cs,_,hm,h=>by
  simp only [A6] at hm
  simp only [a4y,RelV] at h ⊢
  obtain ⟨ys,e,h⟩:=h
  exact ⟨ys,e,RelVs.ren cs hm h⟩
 | .tup cs,_,hm,h=>by
  simp only [A6] at hm
  simp only [a4y,RelV] at h ⊢
  obtain ⟨ys,e,h⟩:=h
  exact ⟨ys,e,RelVs.ren cs hm h⟩
 | .fnc _ cs,_,hm,h=>by
  simp only [A6] at hm
  simp only [a4y,RelV] at h ⊢
  obtain ⟨ys,e,h⟩:=h
  exact ⟨ys,e,RelVs.ren cs hm h⟩
 | .nst _ _ _,_,_,h=>by simpa only [a4y,RelV] using h
 | .any,_,_,_=>by simp only [RelV]
 | .eptN cs,_,hm,h=>by
  simp only [A6] at hm
  simp only [a4y,RelV] at h ⊢
  obtain ⟨ad,us,e,hb,h,h2⟩:=h
  exact ⟨ad,us,e,hb,RelVs.ren cs hm h,h2⟩
theorem RelVs.ren {w0:World} {ρ:Nat→Value} {nx k:Nat} {ids:List Nat}:∀(x:List AV) {y:List Value},J1 k x=true→RelVs w0 ρ nx (renAs ids x) y→RelVs w0 (λj=>ρ (ids.getD j 0)) k x y
 | [],_,_,h=>by simpa only [renAs,RelVs] using h
 | c :: cs,_,hm,h=>by
  simp only [J1,Bool.and_eq_true] at hm
  simp only [renAs,RelVs] at h ⊢
  obtain ⟨y,ys,e,h1,h2⟩:=h
  exact ⟨y,ys,e,RelV.ren c hm.1 h1,RelVs.ren cs hm.2 h2⟩
end
theorem RelVs.norefs {nx:Nat} (h0:J1 0 cs=true) {y:List Value} (h:RelVs w0 ρ nx cs y):RelVs w0 ρ' nx' cs y :=
 RelVs.mono (Nat.zero_le _) (λi hi=>by omega) cs (RelVs.less cs h0 h)
def b1C:List Row→Nat→List (Nat×Option Row)
 | [],_=>[]
 | r :: rs,k=>(k,some r) :: b1C rs (Nat.succ k)
theorem b4x:∀{rs:List Row} {k j:Nat} {row:Row},mem (b1C rs k) j=some row→k<=j/\rs[j - k]?=some row
 | [],k,j,row,h=>by simp [b1C,mem,look] at h
 | r :: rs,k,j,row,h=>by
  simp only [b1C] at h
  by_cases e:k=j
  ·subst e;rw [l4] at h;cases h;simp
  ·rw [f7 e] at h
   obtain ⟨h1,h2⟩:=b4x h
   grind
inductive RowsIn (m:List (Nat×Option Row)):List Nat→List Row→Prop
 | nil:RowsIn m [] []
 | cons {id:Nat} {ids:List Nat} {r:Row} {rs:List Row} (h:mem m id=some r) (h':RowsIn m ids rs):RowsIn m (id :: ids) (r :: rs)
theorem RowsIn.len:∀{ids:List Nat} {rs:List Row},RowsIn m ids rs→ids.length=rs.length
 | _,_,.nil=>rfl
 | _,_,.cons _ h=>by simp [h.len]
theorem RowsIn.get:∀{ids:List Nat} {rs:List Row},RowsIn m ids rs→∀{j:Nat} {r:Row},rs[j]?=some r→∃id,ids[j]?=some id/\mem m id=some r
 | _,_,.nil,_,_,h=>by simp at h
 | _,_,.cons h h',j,r,hj=>by
  match j with
  | 0=>simp at hj;subst hj;exact ⟨_,Z,h⟩
  | j+1=>simpa using h'.get (by simpa using hj)
def a2V:List Row→Bool
 | []=>true
 | r :: rs=>rowRefs 0 r && a2V rs
theorem a66:∀{rs:List Row},a2V rs=true→∀{j:Nat} {r:Row},rs[j]?=some r→rowRefs 0 r=true
 | [],_,_,_,h=>by simp at h
 | r :: rs,h,j,r',hj=>by
  simp only [a2V,Bool.and_eq_true] at h
  match j with
  | 0=>simp at hj;subst hj;exact h.1
  | j+1=>exact a66 h.2 (by simpa using hj)
def aft:List Nat→List (Option Row)→List (Nat×Option Row)→List (Nat×Option Row)
 | id :: ids,r :: rs,m=>(id,r) :: aft ids rs m
 | _,_,m=>m
theorem a3K:∀{ids:List Nat} {rs:List (Option Row)},ids.length=rs.length→∀{id:Nat} {r:Row},mem (aft ids rs m) id=some r→(∃j:Nat,ids[j]?=some id/\rs[j]?=some (some r))∨(id∉ids/\mem m id=some r)
 | [],[],_,id,r,h=>.inr ⟨by simp,h⟩
 | [],_ :: _,hl,_,_,_=>by simp at hl
 | _ :: _,[],hl,_,_,_=>by simp at hl
 | i :: ids,q :: rs,hl,id,r,h=>by
  simp only [aft] at h
  by_cases e:i=id
  ·subst e;rw [l4] at h;subst h;exact .inl ⟨0,Z,Z⟩
  ·rw [f7 e] at h
   rcases a3K (by simpa using hl) h with ⟨j,h1,h2⟩ | ⟨h1,h2⟩
   ·exact .inl ⟨j+1,by simpa using h1,by simpa using h2⟩
   grind
structure CtrM (P:Program) [Env P] (f:FuncId) (args:List AV) (rows:List Row) (res:Res) (after:List (Option Row)):Prop where
 callable:Callable P f
 calls:∀(w0:Base) [EnvAt P w0] ρ m nx (ids:List Nat) w vs,RowsIn m ids rows→nodupB ids=true→RelC w0 ρ m nx w→RelVs w0.w ρ nx (renAs ids args) vs →
  Calls P f vs.toArray w (λen w'=>∃v ρ',en=.returned v/\(∀i,i < nx→ρ' i=ρ i)/\nx<=(instR res nx (aft ids after m)).2.2/\RelV w0.w ρ' (instR res nx (aft ids after m)).2.2 (instR res nx (aft ids after m)).1 v /\
   RelC w0 ρ' (instR res nx (aft ids after m)).2.1 (instR res nx (aft ids after m)).2.2 w')
def b6N:List (Option Row)→Nat→Bool
 | [],_=>false
 | some _ :: _,0=>true
 | none :: _,0=>false
 | _ :: rs,n+1=>b6N rs n
theorem b14:∀{rs:List (Option Row)} {j:Nat} {r:Row},rs[j]?=some (some r)→b6N rs j=true
 | [],_,_,h=>by simp at h
 | q :: rs,0,r,h=>by simp at h;subst h;rfl
 | q :: rs,j+1,r,h=>by cases q<;>exact b14 (rs:=rs) (by simpa using h)
def a2b (after:List (Option Row)):List AV→Bool
 | []=>true
 | .own i :: r=>!b6N after i && a2b after r
 | _ :: r=>a2b after r
theorem b15 {after:List (Option Row)}:∀{l:List AV},a2b after l=true→∀{i:Nat},.own i∈l→b6N after i=false
 | [],_,_,h=>by simp at h
 | x :: l,hd,i,h=>by
  rcases List.mem_cons.1 h with e | h
  ·subst e;simp only [a2b,Bool.and_eq_true,Bool.not_eq_true'] at hd;exact hd.1
  ·have h2:a2b after l=true:=by
    cases x<;>simp only [a2b] at hd
    case own j=>simp only [Bool.and_eq_true] at hd;exact hd.2
    all_goals exact hd
   exact b15 h2 h
inductive AftOK (m:List (Nat×Option Row)):Nat→List (Option Row)→Prop
 | nil {k:Nat}:AftOK m k []
 | gone {k:Nat} {rs:List (Option Row)} (h:AftOK m (Nat.succ k) rs):AftOK m k (none :: rs)
 | stays {k:Nat} {r r':Row} {rs:List (Option Row)} (h1:mem m k=some r') (e:r'=r) (h2:rowRefs 0 r=true) (h:AftOK m (Nat.succ k) rs):AftOK m k (some r :: rs)
theorem AftOK.get:∀{k:Nat} {rs:List (Option Row)},AftOK m k rs→∀{j:Nat} {r:Row},rs[j]?=some (some r)→mem m (k+j)=some r/\rowRefs 0 r=true
 | _,_,.nil,_,_,h=>by simp at h
 | k,_,.gone h,j,r,hj=>by
  match j with
  | 0=>simp at hj
  | j+1=>have:=h.get (j:=j) (by simpa using hj);rwa [show k.succ+j=k+(j+1) by omega] at this
 | k,_,.stays h1 e h2 h,j,r,hj=>by
  match j with
  | 0=>simp at hj;subst hj;subst e;exact ⟨h1,h2⟩
  | j+1=>have:=h.get (j:=j) (by simpa using hj);rwa [show k.succ+j=k+(j+1) by omega] at this
def b4y (tb:List (Nat×TyI)) (rs:List ResultVar) (res:Res) (after:List (Option Row)):Exit→St→Prop
 | .ret,S=>∃avs,X4 tb S rs []=some avs/\ResOK S.m avs res/\AftOK S.m 0 after/\a2b after (a3H res avs)=true
 | .normal,S=>∃avs,X4 tb S rs []=some avs/\ResOK S.m avs res/\AftOK S.m 0 after/\a2b after (a3H res avs)=true
 | _,_=>False
section
variable {P:Program} [Env P] {w0:Base} {ops:Array Oper} {tb:List (Nat×TyI)} {o:Oper} {rest:List Oper} {T:List (Nat×AV)} {m m':List (Nat×Option Row)} {nx nt d:Nat} {r:AV} {Q:Exit→St→Prop} {after:List (Option Row)}
theorem o9 {x:AV} {c:RC} (h:X4 tb S rs []=some [x]) (hx:RCOK S.m x c) (hd:a2b after [x]=true) (ha:AftOK S.m 0 after):b4y tb rs (.one c) after .ret S:=⟨_,h,⟨x,Z,hx⟩,ha,hd⟩
theorem X7 {cs:List RC} (h:X4 tb S rs []=some xs) (hl:Nat.beq xs.length 1=false) (hn:nodupB (V5 xs [])=true) (ho:b4t xs=true) (hx:RCOKs S.m xs cs) (hd:a2b after xs=true) (ha:AftOK S.m 0 after):b4y tb rs (.many cs) after .ret S:=⟨_,h,⟨hx,hl,hn,ho⟩,ha,hd⟩
theorem w5 {ls:List AV} {single:Bool} {sh:List (Option Nat)} {cs:List RC} (h:X4 tb S rs []=some xs) (hl:Nat.beq xs.length 1=single) (hf:flA sh xs []=some ls) (hn:nodupB (V5 ls [])=true) (hx:RCOKs S.m ls cs) (hd:a2b after ls=true) (ha:AftOK S.m 0 after):b4y tb rs (.shp single sh cs) after .ret S:=⟨_,h,⟨ls,hf,hx,hl,hn⟩,ha,by simpa only [a3H,hf] using hd⟩
theorem a1E {k:Nat}:∀{l:List Nat},k∈l→has k l=true
 | [],h=>by cases h
 | x :: r,h=>by
  rcases List.mem_cons.1 h with rfl | h
  ·simp [has,Nat.beq_refl]
  ·simp [has,a1E h]
theorem a6o:∀{ids:List Nat},nodupB ids=true→∀{j j' id:Nat},ids[j]?=some id→ids[j']?=some id→j=j'
 | [],_,_,_,_,h,_=>by simp at h
 | x :: r,hn,j,j',id,h,h'=>by
  simp only [nodupB,Bool.and_eq_true,Bool.not_eq_true'] at hn
  match j,j' with
  | 0,0=>rfl
  | 0,j'+1 =>
   grind [a1E]
  | j+1,0 =>
   grind [a1E]
  | j+1,j'+1 =>
   have:=a6o hn.2 (j:=j) (j':=j') (id:=id) (by simpa using h) (by simpa using h')
   rw [this]
theorem RowRel.move {id':Nat} {row:Row} (h:RowRel w0.w ρ nx w id row) (hf:rowRefs 0 row=true) (he:ρ' id'=ρ id):RowRel w0.w ρ' nx' w id' row :=
 h.to he (λcs e l hl=>by subst e;exact RelVs.norefs (w0:=w0) hf hl) λe sz yss op e' q hq _=>by subst e';exact absurd (a6i hf q hq) (Nat.not_lt_zero _)
def KeepIs (ρ:Nat→Value) (ids:List Nat) (rows:List Row) (w:World) (K:Nat→Prop):Prop:=∀c,K c↔c < w.heap.size/\∀(j:Nat) id r,ids[j]?=some id→rows[j]?=some r→¬ U0 w (ρ id) r c
section
variable {ρ ρ':Nat→Value} {rows:List Row} {ids:List Nat} {nx2:Nat} {m2:List (Nat×Option Row)} {w w':World} {b:Base}
theorem KeepIs.other (hkeep:KeepIs ρ ids rows w b.keep) (hC:RelC w0 ρ m nx w) (hin:RowsIn m ids rows) {id:Nat} {r:Row} (hm:mem m id=some r) (hid:id∉ids) {c:Nat} (hf:U0 w (ρ id) r c):b.keep c:=by
 refine (hkeep c).2 ⟨hC.foot_lt hm hf,λj id' r' hj hr' hb=>?_⟩
 obtain ⟨id'',h3,h4⟩:=hin.get hr'
 rw [hj] at h3;cases h3
 exact hC.foot_apart h4 hm (λe=>hid (e▸List.mem_of_getElem? hj)) hb hf
theorem KeepIs.outer (hkeep:KeepIs ρ ids rows w b.keep) (hC:RelC w0 ρ m nx w) (hin:RowsIn m ids rows) {c:Nat} (hc:w0.keep c):b.keep c:=by
 refine (hkeep c).2 ⟨Nat.lt_of_lt_of_le (w0.kb c hc) hC.kept.1,λj id r hj hr hb=>?_⟩
 obtain ⟨id',h1,h2⟩:=hin.get hr
 rw [hj] at h1;cases h1
 rcases hb with hb | ⟨p,hb⟩
 ·exact hC.kept.2.2 id r h2 c hb hc
 ·exact (hC.inner id r h2 p c hb).1 hc
theorem KeepIs.back (hkeep:KeepIs ρ ids rows w b.keep) (hC:RelC w0 ρ m nx w) (hin:RowsIn m ids rows) (hws:b.ws=w) (hC':RelC b ρ' m2 nx2 w') {id:Nat} {r:Row} (hm:mem m id=some r) (hid:id∉ids):∀p,inn w' (ρ id) r p=inn w (ρ id) r p:=by
 refine a0o λc hc=>?_
 have:=hC'.kept.2.1 c (hkeep.other hC hin hm hid (.inl hc))
 rwa [hws] at this
theorem b5J (hC:RelC w0 ρ m nx w) (hin:RowsIn m ids rows) (hnd:nodupB ids=true) (hl:rows.length=after.length)
 (hbw:b.w=w0.w) (hws:b.ws=w) (hkeep:KeepIs ρ ids rows w b.keep) (hr0:∀(j:Nat) id,ids[j]?=some id→ρ' j=ρ id)
 (hC':RelC b ρ' m2 nx2 w') (ha:AftOK m2 0 after):RelC w0 ρ (aft ids after m) nx w':=by
 have hlen:ids.length=after.length:=hin.len.trans hl
 have was:∀id r,mem (aft ids after m) id=some r→∃r',mem m id=some r':=λid r hr=>by
  rcases a3K hlen hr with ⟨j,h1,h2⟩ | ⟨_,h2⟩
  ·have:j < rows.length:=by rw [← hin.len];exact (List.getElem?_eq_some_iff.1 h1).1
   obtain ⟨id',h3,h4⟩:=hin.get (List.getElem?_eq_getElem this)
   grind
  ·exact ⟨_,h2⟩
 have hsz:w.heap.size<=w'.heap.size:=by have:=hC'.kept.1;rwa [hws] at this
 have same:∀id r,mem m id=some r→id∉ids→∀c,U0 w (ρ id) r c→w'.heap[c]?=w.heap[c]?:=λid r hm hid c hf=>by
  have:=hC'.kept.2.1 c (hkeep.other hC hin hm hid hf)
  rwa [hws] at this
 refine ⟨λid r hr=>?_,λi i' r r' hr hr' hne c hc=>?_,by have:=hC'.below;rwa [hbw] at this,hC.pin,⟨Nat.le_trans hC.kept.1 hsz,λc hc=>?_,λid r hr c hc=>?_⟩,λid r hr p c hc=>?_⟩
 ·rcases a3K hlen hr with ⟨j,h1,h2⟩ | ⟨h1,h2⟩
  ·obtain ⟨r',h3⟩:=was id r hr
   refine ⟨(hC.rows id r' h3).1,?_⟩
   obtain ⟨h4,h5⟩:=ha.get h2
   have h6:=(hC'.rows _ _ h4).2
   rw [hbw] at h6
   exact h6.move h5 (by rw [Nat.zero_add];exact (hr0 j id h1).symm)
  ·obtain ⟨g1,g2⟩:=hC.rows id r h2
   exact ⟨g1,g2.frame (λc hc=>same id r h2 h1 c (.inl hc)) λp c hc=>same id r h2 h1 c (.inr ⟨p,hc⟩)⟩
 ·obtain ⟨r1,h1⟩:=was i r hr
  obtain ⟨r2,h2⟩:=was i' r' hr'
  exact hC.apart i i' r1 r2 h1 h2 hne c hc
 ·have:=hC'.kept.2.1 c (hkeep.outer hC hin hc)
  rw [hws] at this
  exact this.trans (hC.kept.2.1 c hc)
 ·obtain ⟨r',h1⟩:=was id r hr
  exact hC.kept.2.2 id r' h1 c hc
 ·rcases a3K hlen hr with ⟨j,h1,h2⟩ | ⟨h1,h2⟩
  ·obtain ⟨h4,h5⟩:=ha.get h2
   rw [Nat.zero_add] at h4
   rw [← hr0 j id h1] at hc
   obtain ⟨g1,g2,g3,g4⟩:=hC'.inner j r h4 p c hc
   rw [hbw] at g2
   refine ⟨λhk=>g1 (hkeep.outer hC hin hk),g2,g3,λid' r' hr'=>?_⟩
   rcases a3K hlen hr' with ⟨j',q1,q2⟩ | ⟨q1,q2⟩
   ·obtain ⟨q3,_⟩:=ha.get q2
    grind
   ·refine ⟨λhb=>g1 (hkeep.other hC hin q2 q1 (.inl hb)),λp' hp'=>?_⟩
    rw [hkeep.back hC hin hws hC' q2 q1] at hp'
    exact absurd (hkeep.other hC hin q2 q1 (.inr ⟨p',hp'⟩)) g1
  ·rw [hkeep.back hC hin hws hC' h2 h1] at hc
   obtain ⟨g1,g2,g3,g4⟩:=hC.inner id r h2 p c hc
   refine ⟨g1,g2,Nat.lt_of_lt_of_le g3 hsz,λid' r' hr'=>?_⟩
   rcases a3K hlen hr' with ⟨j',q1,q2⟩ | ⟨q1,q2⟩
   ·obtain ⟨r1,q5⟩:=was id' r' hr'
    refine ⟨(g4 id' r1 q5).1,λp' hp'=>?_⟩
    obtain ⟨q3,_⟩:=ha.get q2
    rw [Nat.zero_add] at q3
    rw [← hr0 j' id' q1] at hp'
    exact absurd (hkeep.other hC hin h2 h1 (.inr ⟨p,hc⟩)) (hC'.inner j' r' q3 p' c hp').1
   ·exact ⟨(g4 id' r' q2).1,λp' hp'=>(g4 id' r' q2).2 p' (by rwa [hkeep.back hC hin hws hC' q2 q1] at hp')⟩
theorem b16 (hC:RelC w0 ρ m nx w) (hin:RowsIn m ids rows) (hnd:nodupB ids=true) (hl:rows.length=after.length)
 (hbw:b.w=w0.w) (hws:b.ws=w) (hkeep:KeepIs ρ ids rows w b.keep) (hr0:∀(j:Nat) id,ids[j]?=some id→ρ' j=ρ id)
 (hC':RelC b ρ' m2 nx2 w') (ha:AftOK m2 0 after) {avs:List AV} {res:Res} (h2:ResOK m2 avs res) (h4:a2b after (a3H res avs)=true) {ys:List Value} (e2:RelVs b.w ρ' nx2 avs ys) :
 ∃ρ2,(∀i,i < nx→ρ2 i=ρ i)/\nx<=(instR res nx (aft ids after m)).2.2/\RelV w0.w ρ2 (instR res nx (aft ids after m)).2.2 (instR res nx (aft ids after m)).1 (if h:ys.toArray.size=1 then ys.toArray[0] else .tuple ys.toArray)/\RelC w0 ρ2 (instR res nx (aft ids after m)).2.1 (instR res nx (aft ids after m)).2.2 w':=by
 have hlen2:ids.length=after.length:=hin.len.trans hl
 have hA:=b5J hC hin hnd hl hbw hws hkeep hr0 hC' ha
 refine b0n (B:=w0.w.heap.size) hA (Nat.le_refl _) ?_
 have hp:=ResOK.parts hC' h2 e2
 rw [hbw] at hp
 refine hp.mono λrs ls _ hK c hc=>?_
 obtain ⟨i,row,hi,hm,hf⟩:=hK c hc
 have hnk:¬ b.keep c:=by
  rcases hf with hf | ⟨p,hf⟩
  ·exact hC'.kept.2.2 i row hm c hf
  ·exact (hC'.inner i row hm p c hf).1
 refine ⟨λid r hr hb=>?_,λhk=>hnk (hkeep.outer hC hin hk)⟩
 rcases a3K hlen2 hr with ⟨j,g1,g2⟩ | ⟨g1,g2⟩
 ·have hne:i≠j:=λe=>by
   have:=b15 h4 hi
   rw [e,b14 g2] at this
   cases this
  obtain ⟨g3,_⟩:=ha.get g2
  rw [Nat.zero_add] at g3
  rw [← hr0 j id g1] at hb
  exact hC'.foot_apart hm g3 hne hf hb
 ·refine hnk (hkeep.other hC hin g2 g1 ?_)
  rcases hb with hb | ⟨p,hb⟩
  ·exact .inl hb
  ·exact .inr ⟨p,by rwa [hkeep.back hC hin hws hC' g2 g1] at hb⟩
theorem a9f (hC:RelC w0 ρ m nx w) (hin:RowsIn m ids rows) (hnd:nodupB ids=true) (hfr:a2V rows=true) {k:Nat} (hk:rows.length=k) (hbw:b.w=w0.w) (hws:b.ws=w) (hn0:b.n0=k) (hr0:b.r0=λj=>ρ (ids.getD j 0)) (hkeep:KeepIs ρ ids rows w b.keep) :
 RelC b (λj=>ρ (ids.getD j 0)) (b1C rows 0) k w:=by
 have hrow:∀j row,mem (b1C rows 0) j=some row→∃id,ids[j]?=some id/\mem m id=some row/\ρ (ids.getD j 0)=ρ id/\rows[j]?=some row:=λj row hm=>by
  obtain ⟨_,h2⟩:=b4x hm
  rw [Nat.sub_zero] at h2
  obtain ⟨id,h3,h4⟩:=hin.get h2
  grind
 refine ⟨λj row hm=>?_,λj j' row row' hm hm' hne c hc=>?_,by rw [hbw];exact hC.below,⟨by rw [hn0];exact Nat.le_refl _,λi _=>by rw [hr0]⟩,⟨by rw [hws];exact Nat.le_refl _,λc _=>by rw [hws],λj row hm c hc hkc=>?_⟩,λj row hm p c hc=>?_⟩
 ·obtain ⟨id,h1,h2,h3,h4⟩:=hrow j row hm
  refine ⟨by rw [← hk];exact (List.getElem?_eq_some_iff.1 h4).1,?_⟩
  rw [hbw]
  exact RowRel.move (w0:=w0) (hC.rows id row h2).2 (a66 hfr h4) h3
 ·obtain ⟨id,h1,h2,h3,_⟩:=hrow j row hm
  obtain ⟨id',h1',h2',h3',_⟩:=hrow j' row' hm'
  simp only [h3] at hc
  simp only [h3']
  exact hC.apart id id' _ _ h2 h2' (λe=>hne (a6o hnd h1 (e▸h1'))) c hc
 ·obtain ⟨id,h1,h2,h3,h4⟩:=hrow j row hm
  simp only [h3] at hc
  exact ((hkeep c).1 hkc).2 j id row h1 h4 (.inl hc)
 ·obtain ⟨id,h1,h2,h3,h4⟩:=hrow j row hm
  simp only [h3] at hc
  obtain ⟨g1,g2,g3,g4⟩:=hC.inner id row h2 p c hc
  refine ⟨λhkc=>((hkeep c).1 hkc).2 j id row h1 h4 (.inr ⟨p,hc⟩),by rw [hbw];exact g2,g3,λj' row' hm'=>?_⟩
  obtain ⟨id',h1',h2',h3',_⟩:=hrow j' row' hm'
  simp only [h3']
  refine ⟨(g4 id' row' h2').1,λp' hp'=>?_⟩
  obtain ⟨e1,e2⟩:=(g4 id' row' h2').2 p' hp'
  subst e1
  exact ⟨a6o hnd h1 h1',e2⟩
theorem a3L {n k:Nat} {args:List AV} {vs:List Value} {fn:Func} (hrel:RelVs b.w ρ k args vs) (hlen:args.length<=n) (hn:fn.ntmps=n):RelT b ρ (a6m args 0) k n { tmps:=vs.toArray++Array.replicate (fn.ntmps - vs.toArray.size) undef,defers:=[] }:=by
 have hvl:=RelVs.length _ hrel
 refine ⟨λt x hx=>?_,by simp [hn];omega,Z⟩
 obtain ⟨u,_,h2,h3⟩:=a5r hrel t x hx
 have hlt:t < vs.length:=by
  grind
 have:(vs.toArray++Array.replicate (fn.ntmps - vs.toArray.size) undef).getD t undef=u:=by
  rw [Array.getD_eq_getD_getElem?,Array.getElem?_append_left (by simpa using hlt)]
  grind
 rw [this]
 exact h3
end
theorem CtrM.of (G:Good P tb) {f:FuncId} {fn:Func} {c:Code} {args:List AV} {rows:List Row} {res:Res} {l:List ResultVar} {n k:Nat} (hf:P.funcs[f]?=some fn) (hb:fn.body=some c) (hname:(fn.name == "runtime.NumGoroutine")=false) (hl:fn.results=l.toArray) (hn:fn.ntmps=n)
 (hlen:Nat.ble args.length n=true) (hk:rows.length=k) (haf:rows.length=after.length) (hrefs:J1 k args=true) (hfr:a2V rows=true)
 (h:∀b:Base,[EnvAt P b]→b.n0=k→W P b c ⟨a6m args 0,b1C rows 0,k,n⟩ (b4y tb l res after)):CtrM P f args rows res after:=by
 refine ⟨⟨fn,hf,hname,by rw [hb];rfl⟩,λw0 hw0 ρ m nx ids w vs hin hnd hC hrel=>?_⟩
 have hidl:ids.length=k:=hin.len.trans hk
 let ρc:Nat→Value:=λj=>ρ (ids.getD j 0)
 have hrel':RelVs w0.w ρc k args vs:=RelVs.ren args hrefs hrel
 have hlen':args.length<=n:=Nat.le_of_ble_eq_true hlen
 refine calls_of_wp hf hb ?_
 let b:Base:=⟨w0.w,k,ρc,w,λc=>c < w.heap.size/\∀(j:Nat) id r,ids[j]?=some id→rows[j]?=some r→¬ U0 w (ρ id) r c,λc hc=>hc.1,w0.E,w0.hE⟩
 have hen:EnvAt P b:=⟨hw0.e⟩
 have hkp:KeepIs ρ ids rows w b.keep:=λ_=>Iff.rfl
 have hCb:RelC b ρc (b1C rows 0) k w:=a9f (b:=b) hC hin hnd hfr hk Z Z Z Z hkp
 have hT:=a3L (b:=b) (fn:=fn) hrel' hlen' hn
 refine wp_mono (h b Z ρc _ w hT hCb) ?_
 have fin:∀(ρ':Nat→Value) (S:St) (a:Act) (w':World),(∃avs,X4 tb S l []=some avs/\ResOK S.m avs res/\AftOK S.m 0 after/\a2b after (a3H res avs)=true)→RelT b ρ' S.T S.nx S.nt a→RelC b ρ' S.m S.nx w' →
  a.defers=[]/\∃v,(results fn a.tmps).run P w'=.ok v w'/\∃u ρ',Ending.returned v=.returned u/\(∀i,i < nx→ρ' i=ρ i)/\nx<=(instR res nx (aft ids after m)).2.2/\RelV w0.w ρ' (instR res nx (aft ids after m)).2.2 (instR res nx (aft ids after m)).1 u /\
  RelC w0 ρ' (instR res nx (aft ids after m)).2.1 (instR res nx (aft ids after m)).2.2 w':=by
  intro ρ' S a w' ⟨avs,h1,h2,h3,h4⟩ hT' hC'
  obtain ⟨ys,avs',e1,e2,e3⟩:=a0q G hT' hC' h1
  simp at e1
  subst e1
  have hpin:∀j id,ids[j]?=some id→ρ' j=ρ id:=λj id hj=>by
   have hj':j < k:=by rw [← hidl];exact (List.getElem?_eq_some_iff.1 hj).1
   rw [hC'.pin.2 j hj']
   grind
  obtain ⟨ρ2,q1,q2,q3,q4⟩:=b16 (b:=b) hC hin hnd haf Z Z hkp hpin hC' h3 h2 h4 e2
  exact ⟨hT'.defers,_,X5 hl e3,_,ρ2,Z,q1,q2,q3,q4⟩
 rintro e a w' ⟨ρ',S,hq,hT',hC'⟩
 cases e<;>simp only [b4y] at hq
 case normal=>exact fin ρ' S a w' hq hT' hC'
 case ret=>exact fin ρ' S a w' hq hT' hC'
theorem a67 (hT:RelT w0 ρ T nx nt a):∀{xs:List Operand} {acc as:List AV},evL T xs acc=some as→∃bs,as=acc.reverse++bs/\RelVs w0 ρ nx bs (xs.map a.eval)
 | [],acc,as,h=>by simp [evL,H9] at h;exact ⟨[],by simp [h],by simp [RelVs]⟩
 | x :: xs,acc,as,h=>by
  simp only [evL] at h
  cases hx:ev T x with
  | none=>simp [hx] at h
  | some av =>
   simp only [hx] at h
   obtain ⟨bs,h1,h2⟩:=a67 hT h
   refine ⟨av :: bs,by simpa using h1,?_⟩
   simp only [List.map_cons,RelVs]
   exact ⟨_,_,Z,hT.ev hx,h2⟩
theorem N1 [EnvAt P w0] {f:FuncId} {as:Array Operand} {ts:Array TypeId} {args:List AV} {rows:List Row} {res:Res} {n1:Nat} (nx':Nat) (ids:List Nat) (hd:o.dst=some d) (hlt:Nat.blt d nt=true) (ho:o.op=.call { callee:=.value (.func f),args:=as,argTypes:=ts }) (hc:CtrM P f args rows res after)
 (ha:evL T as.toList []=some (renAs ids args)) (hr:RowsIn m ids rows) (hnd:nodupB ids=true) (hi:a89 res nx (aft ids after m)=some (r,m',n1)) (hn':Nat.beq nx' n1=true) (hk:WL P w0 ops rest ⟨(d,r) :: T,m',nx',nt⟩ Q):WX P w0 ops o rest ⟨T,m,nx,nt⟩ Q:=by
 have hn'':=Nat.eq_of_beq_eq_true hn'
 subst hn''
 have hi:=a3D hi
 intro ρ a w hT hC
 obtain ⟨bs,h1,h2⟩:=a67 hT ha
 simp at h1
 subst h1
 have hcalls:=hc.calls w0 ρ m nx ids w _ hr hnd hC h2
 have hrun:(execOp a.eval o).run P w=.ok (.enter f (as.toList.map a.eval).toArray) w:=by
  simp [execOp,ho,resolve,Deferred.ofValue,invoke,Act.eval,a0L hc.callable,← Array.toList_map]
 unfold Oper.wp
 rw [hrun,Oper.upon_enter]
 refine hcalls.mono λex w' ⟨v,ρ',he,q1,q2,q3,q4⟩=>?_
 subst he
 rw [hi] at q2 q3 q4
 refine hk ρ' _ w' ?_ q4
 rw [hd]
 have hT':RelT w0 ρ' T nx' nt a:=⟨λt x hx=>(hT.tmps t x hx).mono q2 q1,hT.size,hT.defers⟩
 exact hT'.put hlt q3
theorem RelC.sub (hC:RelC w0 ρ m nx w) (h:∀i r,mem m' i=some r→mem m i=some r):RelC w0 ρ m' nx w :=
 ⟨λi r hr=>hC.rows i r (h i r hr),λi i' r r' hr hr'=>hC.apart i i' r r' (h i r hr) (h i' r' hr'),hC.below,hC.pin,⟨hC.kept.1,hC.kept.2.1,λi r hr=>hC.kept.2.2 i r (h i r hr)⟩,
  hC.inner' (Nat.le_refl _) (λi r hr=>.inr ⟨r,h i r hr,λ_ _ h=>h⟩) (λi r hr b hb=>.inl ⟨i,r,h i r hr,hb⟩)⟩
theorem b5K {t sz:Nat} (ht:look t T=some (.sub id sz 0 n)) (hm:mem m id=some (.row e sz ys)) {ρ:Nat→Value} {a:Act} {w:World} (hT:RelT w0.w ρ T nx nt a) (hC:RelC w0 ρ m nx w):∃ρ',RelT w0.w ρ' ((t,.own nx) :: T) (nx+1) nt a/\RelC w0 ρ' ((nx,some (.row e sz (ys.take n))) :: (id,none) :: m) (nx+1) w:=by
 have h1:=hT.tmps t _ ht
 simp only [RelV] at h1
 obtain ⟨hid,A,cap,he,hcap,_,h0⟩:=h1
 obtain ⟨l,hl,hnl⟩:=h0 trivial
 obtain ⟨hrow,hall⟩:=hC.row hm
 have hC2:RelC w0 ρ ((id,none) :: m) nx w:=by
  have hsub:∀i r,mem ((id,none) :: m) i=some r→mem m i=some r/\i≠id:=λi r hr=>by
   by_cases e:id=i
   ·subst e;rw [l4] at hr;cases hr
   ·rw [f7 e] at hr;exact ⟨hr,Ne.symm e⟩
  exact hC.sub λi r hr=>(hsub i r hr).1
 have hbk:∀b,blk (a.tmps.getD t undef)=some b→blk (ρ id)=some b:=by
  intro b hb
  rw [he] at hb
  rw [hl]
  cases A<;>first | exact hb | (simp [blk] at hb;done)
 have hllen:l=ys.length:=by
  rcases hrow.2 with ⟨h2,h3⟩ | ⟨g,cp,cur,h2,_⟩
  ·rw [hl] at h2;cases h2;exact h3.symm
  ·rw [hl] at h2;cases h2;rfl
 have hown:w.ownsRow w0.w.heap.size e sz (a.tmps.getD t undef) (ys.take n).length (ys.take n).flatten:=by
  have hnys:n<=ys.length:=by
   rcases hrow.2 with ⟨h2,h3⟩ | ⟨g,cp,cur,h2,_⟩
   ·rw [hl] at h2;cases h2;omega
   ·rw [hl] at h2;cases h2;omega
  have hft:(ys.take n).flatten=ys.flatten.take (n * sz):=by
   have h5:ys.flatten=(ys.take n).flatten++(ys.drop n).flatten:=by rw [← List.flatten_append,List.take_append_drop]
   have h6:=m3 (ys:=ys.take n) (sz:=sz) (λc hc=>(hall c (List.mem_of_mem_take hc)).1)
   have hlt:(ys.take n).length=n:=by rw [List.length_take];omega
   rw [hlt] at h6
   have h7:List.take (n * sz) ((ys.take n).flatten++(ys.drop n).flatten)=(ys.take n).flatten:=by
    rw [List.take_append_of_le_length J]
    exact List.take_of_length_le J
   rw [h5,h7]
  have hlt:(ys.take n).length=n:=by rw [List.length_take];omega
  rw [hlt]
  refine ⟨by rw [m3 (sz:=sz) (λc hc=>(hall c (List.mem_of_mem_take hc)).1),hlt],?_⟩
  rcases hrow.2 with ⟨h2,h3⟩ | ⟨g,cp,cur,h2,h3,h4,h5,h6,h7,h8⟩
  ·refine .inl ⟨?_,by omega⟩
   rw [hl] at h2
   rw [he]
   cases h2
   have:n=0:=by omega
   rw [this]
  ·refine .inr ⟨g,cp,cur,?_,h3,h4,by omega,h6,h7,?_⟩
   ·rw [hl] at h2;rw [he];cases h2;rfl
   ·rw [hft,← h8,List.take_take,Nat.min_eq_left (Nat.mul_le_mul_right _ J)]
 refine ⟨upd ρ nx (a.tmps.getD t undef),⟨λt' x hx=>?_,hT.size,hT.defers⟩,hC2.addP (λ_=>Z) ?_ ?_ ?_⟩
 ·by_cases e:t=t'
  ·subst e
   rw [r9] at hx
   cases hx
   simp only [RelV]
   exact ⟨by omega,(l3 _ _ _).symm⟩
  ·rw [l5 e] at hx
   exact (hT.tmps t' x hx).mono (Nat.le_succ _) (λi hi=>m4 ρ _ (Nat.ne_of_lt hi))
 ·refine ⟨?_,λc hc=>hall c (List.mem_of_mem_take hc)⟩
  rw [l3]
  exact hown
 ·intro i r hr b hb hy
  by_cases e:id=i
  ·subst e;rw [l4] at hr;cases hr
  ·rw [f7 e] at hr
   exact hC.foot_apart hr hm (Ne.symm e) hb (.inl (hbk b hy))
 ·intro b hb
  exact hC.kept.2.2 id _ hm b (hbk b hb)
theorem b9d {t sz:Nat} (nx':Nat) (hn':Nat.beq nx' (Nat.succ nx)=true) (ht:look t T=some (.sub id sz 0 n)) (hm:mem m id=some (.row e sz ys)) (hk:W P w0 c ⟨(t,.own nx) :: T,(nx,some (.row e sz (ys.take n))) :: (id,none) :: m,nx',nt⟩ Q):W P w0 c ⟨T,m,nx,nt⟩ Q:=by
 have hn'':=Nat.eq_of_beq_eq_true hn'
 subst hn''
 intro ρ a w hT hC
 obtain ⟨ρ',h1,h2⟩:=b5K ht hm hT hC
 exact hk ρ' a w h1 h2
theorem a1l {sz n:Nat} {ys:List (List Value)} (hall:∀c∈ys,c.length=sz) (hn:n<=ys.length):(ys.take n).flatten=ys.flatten.take (n * sz):=by
 have h5:ys.flatten=(ys.take n).flatten++(ys.drop n).flatten:=by rw [← List.flatten_append,List.take_append_drop]
 have h6:=m3 (ys:=ys.take n) (sz:=sz) (λc hc=>hall c (List.mem_of_mem_take hc))
 grind
theorem a1m {sz n:Nat} {ys:List (List Value)} (hall:∀c∈ys,c.length=sz) (hn:n<=ys.length):(ys.drop n).flatten=ys.flatten.drop (n * sz):=by
 have h5:ys.flatten=(ys.take n).flatten++(ys.drop n).flatten:=by rw [← List.flatten_append,List.take_append_drop]
 have h6:=m3 (ys:=ys.take n) (sz:=sz) (λc hc=>hall c (List.mem_of_mem_take hc))
 grind
theorem b17 {zs:List Value} (hpos:0 < zs.length) (n:Nat):(Builtin.zeroCells zs.toArray n).toList=(List.replicate n zs).flatten:=by
 apply List.ext_getElem?
 intro j
 by_cases hj:j < n * zs.length
 ·have hdiv:j / zs.length < n:=Nat.div_lt_of_lt_mul (by rw [Nat.mul_comm];exact hj)
  have hmod:j % zs.length < zs.length:=Nat.mod_lt _ hpos
  have h1:=Q0 (ys:=List.replicate n zs) (sz:=zs.length) (λc hc=>by rw [(List.mem_replicate.1 hc).2]) (i:=j / zs.length) (c:=zs) (by simp [hdiv]) hmod
  have h2:j / zs.length * zs.length+j % zs.length=j:=by rw [Nat.mul_comm];exact Nat.div_add_mod j _
  rw [h2] at h1
  rw [h1]
  simp [Builtin.zeroCells,hj,hmod]
 ·rw [List.getElem?_eq_none (by simp [Builtin.zeroCells];omega),List.getElem?_eq_none (by rw [m3 (sz:=zs.length) (λc hc=>by rw [(List.mem_replicate.1 hc).2])];simp;omega)]
theorem RelC.again {row:Row} (hC:RelC w0 ρ m nx w) (hm:mem m id=some row):RelC w0 ρ ((id,some row) :: m) nx w:=by
 have hs:∀i,mem ((id,some row) :: m) i=mem m i:=λi=>by
  by_cases e:id=i
  ·subst e;rw [l4,hm]
  ·rw [f7 e]
 exact hC.sub λi r hr=>by rw [← hs];exact hr
end
section
variable {P:Program} [Env P] {w0:Base} {ops:Array Oper} {tb:List (Nat×TyI)} {o:Oper} {T:List (Nat×AV)} {m:List (Nat×Option Row)} {nx nt:Nat} {Q:Exit→St→Prop} {c:Code}
theorem c8I {sz:Nat} (hm:mem m id=some (.box (.lst sz ys :: cs))) (h:∀y,W P w0 c ⟨T,(id,some (.box (.pin y sz ys :: cs))) :: m,nx,nt⟩ Q):W P w0 c ⟨T,m,nx,nt⟩ Q:=by
 intro ρ a w hT hC
 obtain ⟨b,cur,ty,hρ,hB,hb,hR,hone⟩:=hC.box hm
 have hR2:=hR
 simp only [RelVs] at hR2
 obtain ⟨y,r,e,h1,h2⟩:=hR2
 refine h y ρ a w hT (hC.change hm (by rw [hρ];rfl) ⟨Z,Z,Z,Nat.le_refl _,λ_ _ _=>Z⟩ hB ?_)
 refine ⟨b,cur,ty,hρ,hB,hb,?_,hone⟩
 simp only [RelVs]
 simp only [RelV] at h1
 exact ⟨y,r,e,by simp only [RelV];exact ⟨trivial,h1⟩,h2⟩
theorem b5L {t sz:Nat} (ht:look t T=some (.lst sz ys)) (h:∀y,W P w0 c ⟨(t,.pin y sz ys) :: T,m,nx,nt⟩ Q):W P w0 c ⟨T,m,nx,nt⟩ Q:=by
 intro ρ a w hT hC
 have h1:=hT.tmps t _ ht
 simp only [RelV] at h1
 refine h (a.tmps.getD t undef) ρ a w ⟨λi x hi=>?_,hT.size,hT.defers⟩ hC
 by_cases e:i=t
 ·grind [r9,RelV]
 ·rw [l5 (λe'=>e e'.symm)] at hi
  exact hT.tmps i x hi
theorem a68 {sz:Nat} {y:Value} (hm:mem m id=some (.box (.pin y sz ys :: cs))) (h:W P w0 c ⟨T,(id,some (.box (.lst sz ys :: cs))) :: m,nx,nt⟩ Q):W P w0 c ⟨T,m,nx,nt⟩ Q:=by
 intro ρ a w hT hC
 obtain ⟨b,cur,ty,hρ,hB,hb,hR,hone⟩:=hC.box hm
 have hR2:=hR
 simp only [RelVs] at hR2
 obtain ⟨y',r,e,h1,h2⟩:=hR2
 refine h ρ a w hT (hC.change hm (by rw [hρ];rfl) ⟨Z,Z,Z,Nat.le_refl _,λ_ _ _=>Z⟩ hB ?_)
 refine ⟨b,cur,ty,hρ,hB,hb,?_,hone⟩
 simp only [RelVs]
 simp only [RelV] at h1
 exact ⟨y',r,e,by simp only [RelV];exact h1.2,h2⟩
theorem a2c {t sz by_:Nat} {zs:List Value} {z:Value} {i:Int} {c:List Value} (G:Good P tb) (ho:o.op=.indexAddr t x y) (ht:look t tb=some (.slice e sz by_ zs)) (hx:ev T x=some (.pin z sz ys)) (hy:ev T y=some (.v (.int k i)))
 (h0:0<=i) (hc:ys[i.toNat]?=some c):QStep P o T m nx nt (.ept c) :=
 QStep.run λw0 ρ a w hT hC=>by
  have h:=hT.ev hx
  have h2:=hT.ev hy
  simp only [RelV] at h h2
  obtain ⟨_,A,cap,he,_,hall,hA⟩:=h
  have hlt:i.toNat < ys.length:=by
   grind
  obtain ⟨ad,rfl,hb,hcell⟩:=hA J
  refine ⟨.pointer (some (ad.add (i.toNat * sz))),by
   simp only [RelV]
   refine ⟨_,Z,by rw [E9];exact hb,(hall c (List.mem_of_getElem? hc)).2,λj u hj=>?_⟩
   rw [a2R]
   exact hcell _ _ hc j u hj,λw' hC'=>?_⟩
  simp only [execOp,ho,he,h2,Sem.run_bind,J5 (G t _ ht) (a:=ad) (len:=ys.length) (cap:=cap) (k:=k) (i:=i) h0 J,Result.andThen_ok,Sem.run_pure]
theorem c3K {t t':TypeId} {yk:IntKind} {a:Int} (ho:o.op=.binOp .shr t x y t') (hx:ev T x=some (.v (.int k a))) (hy:ev T y=some (.v (.int yk b))) (hb:¬ b < 0) :
 QStep P o T m nx nt (.v (.int k (a.fdiv (2 ^ (min b.toNat k.bits))))) :=
 QStep.val λw0 ρ ac hT w'=>by
  have h1:=hT.ev hx
  have h2:=hT.ev hy
  simp only [RelV] at h1 h2
  simp [execOp,ho,h1,h2,eqGuard,binOp,Op.shift,hb]
def b5M (k:IntKind) (a b:Int):Int:=k.wrap ((BitVec.ofInt k.bits a &&& BitVec.ofInt k.bits b).toNat:Nat)
theorem c3L {t t':TypeId} {a:Int} (ho:o.op=.binOp .and t x y t') (hx:ev T x=some (.v (.int k a))) (hy:ev T y=some (.v (.int k b))) :
 QStep P o T m nx nt (.v (.int k (b5M k a b))) :=
 QStep.val λw0 ρ ac hT w'=>by
  have h1:=hT.ev hx
  have h2:=hT.ev hy
  simp only [RelV] at h1 h2
  simp [execOp,ho,h1,h2,eqGuard,binOp,Op.intBits,b5M]
end
end Go.Rf
namespace Go.Rf
open Go
theorem Ctr.bool {P:Program} [Env P] {f:FuncId} {args:List AV} {a b:Bool} (h:Ctr P f args (.one (.v (.bool a)))) (e:a=b):Ctr P f args (.one (.v (.bool b))):=e▸h
def a0M (n:Nat) (f:Nat→Bool):Bool:=!(a2A n (λi=>!f i))
theorem V7 {n i:Nat} {f:Nat→Bool} (h:f i=true) (hi:i < n):a0M n f=true:=by
 rw [a0M,a1D (i:=i) (by simp [h]) hi];rfl
theorem a2B {n i:Nat} {f:Nat→Bool} (h:∀j,j < i→f j=false) (hi:n<=i):a0M n f=false:=by
 rw [a0M,a3I (i:=i) (λj hj=>by simp [h j hj]) hi];rfl
def O4 (f:Nat→Bool) (n:Nat):Int:=match (List.range n).find? f with
 | some i=>i
 | none=>-1
theorem a0N {f:Nat→Bool} {n i:Nat} (h:∀j,j < i→f j=false) (hi:n<=i):O4 f n=-1:=by
 grind [O4]
theorem R3 {f:Nat→Bool} {n i:Nat} (h:∀j,j < i→f j=false) (hi:i < n) (ht:f i=true):O4 f n=i:=by
 have:(List.range n).find? f=some i:=by
  simp_all
 rw [O4,this]
theorem a5s {f:Nat→Bool} {n:Nat}:decide (O4 f n≥0)=a0M n f:=by
 unfold O4
 cases hf:(List.range n).find? f with
 | none =>
  rw [List.find?_eq_none] at hf
  rw [a2B (i:=n) (λj hj=>by simpa using hf j (List.mem_range.mpr hj)) (Nat.le_refl _)]
  rfl
 | some i =>
  grind [V7]
theorem a2W {α:Type} {xs:List α} {f:α→List Value} {i:Nat}:((xs.map f).drop ((0:Int)).toNat).take (((i:Int)).toNat - ((0:Int)).toNat)=(xs.take i).map f:=by
 simp [List.map_take]
end Go.Rf
namespace Go.Rf
open Go Go.RowKit
section
variable {α β:Type} [Inhabited α] {f:α→β} {g:Nat→α} {xs:List α} {i j:Nat}
def over (g:Nat→α) (xs:List α) (i:Nat):List α:=(List.range i).map g++xs.drop i
end
variable {P:Program} {ax ay:AV} {cs ds:List AV} {n:Int} {us vs:List Value} {y:Operand}
def s3 (n:Int):List Value:=[.int .i64 n]
def m9 (b:Bool):List Value:=[.bool b]
def B1 (n:Int):List Value:=[.int .u8 n]
structure Cur where
 c:List Int
 a:Int
 s:Int
variable {x:Cur}
def U9 (l:List Int):Prop:=l.length<=1048576/\∀j,0<=l.getD j default/\l.getD j default<=255
def nxB (x:Cur):Int:=if x.a < x.c.length then x.c.getD x.a.toNat default else 0
def nxS (x:Cur):Int:=IntKind.u64.wrap (IntKind.u64.wrap (IntKind.u64.wrap (x.s * 6364136223846793005)+IntKind.u64.wrap (nxB x))+843843)
def nxT (x:Cur):Int:=b5M .u64 ((nxS x).fdiv (2 ^ 40)) 255
def nxV (x:Cur):Int:=if x.a+1<=x.c.length then nxB x else nxT x
def nxC (x:Cur):Cur:=⟨x.c,x.a+1,nxS x⟩
theorem c3M (h:x.a < x.c.length):nxB x=x.c.getD x.a.toNat default:=if_pos h
theorem b18 (h:¬ x.a < x.c.length):nxB x=0:=if_neg h
theorem b9e (h:x.a+1<=x.c.length):nxV x=nxB x:=if_pos h
theorem b19 (h:¬ x.a+1<=x.c.length):nxV x=nxT x:=if_neg h
theorem S7 {a:Int}:0<=b5M .u64 a 255/\b5M .u64 a 255<=255:=by
 have h:(BitVec.ofInt IntKind.u64.bits a &&& BitVec.ofInt IntKind.u64.bits 255).toNat<=255:=by
  rw [BitVec.toNat_and]
  exact Nat.le_trans Nat.and_le_right (by decide)
 have hw:b5M .u64 a 255=((BitVec.ofInt IntKind.u64.bits a &&& BitVec.ofInt IntKind.u64.bits 255).toNat:Int):=by
  rw [b5M,IntKind.wrap_u64]
  omega
 rw [hw]
 omega
theorem b9f (h:U9 x.c):0<=nxB x/\nxB x<=255:=by
 unfold nxB
 split
 ·exact h.2 _
 ·omega
theorem b27 {x:Cur} (h:U9 x.c):0<=nxV x/\nxV x<=255:=by
 unfold nxV
 split
 ·exact b9f h
 ·exact S7
def pkV (x:Cur) (n:Int):Int:=if n<=1 then 0 else if 200 < n then (nxV x * 256+nxV (nxC x)) % n else nxV x % n
def pkC (x:Cur) (n:Int):Cur:=if n<=1 then x else if 200 < n then nxC (nxC x) else nxC x
theorem c8J {x:Cur} {n:Int} (h:n<=1):pkV x n=0/\pkC x n=x:=by rw [pkV,pkC,if_pos h,if_pos h];exact ⟨Z,Z⟩
theorem c8K {x:Cur} {n:Int} (h:¬ n<=1) (h2:¬ 200 < n):pkV x n=nxV x % n/\pkC x n=nxC x:=by rw [pkV,pkC,if_neg h,if_neg h,if_neg h2,if_neg h2];exact ⟨Z,Z⟩
theorem c8L {x:Cur} {n:Int} (h:¬ n<=1) (h2:200 < n):pkV x n=(nxV x * 256+nxV (nxC x)) % n/\pkC x n=nxC (nxC x):=by rw [pkV,pkC,if_neg h,if_neg h,if_pos h2,if_pos h2];exact ⟨Z,Z⟩
theorem b4z {x:Cur} {n:Int} (h:U9 x.c):0<=pkV x n/\(pkV x n < n∨(n<=1/\pkV x n=0)):=by
 by_cases h1:n<=1
 ·rw [(c8J h1).1];omega
 ·have e1:=b27 h
  have e2:=b27 (x:=nxC x) h
  by_cases h2:200 < n
  ·rw [(c8L h1 h2).1]
   exact ⟨Int.emod_nonneg _ J,Or.inl (Int.emod_lt_of_pos _ J)⟩
  ·rw [(c8K h1 h2).1]
   exact ⟨Int.emod_nonneg _ J,Or.inl (Int.emod_lt_of_pos _ J)⟩
theorem d0Z {x:Cur} {n:Int}:(pkC x n).c=x.c/\x.a<=(pkC x n).a/\(pkC x n).a<=x.a+2:=by
 unfold pkC
 split
 ·grind
 ·split
  ·exact ⟨Z,by show x.a<=x.a+1+1;omega,by show x.a+1+1<=x.a+2;omega⟩
  ·exact ⟨Z,by show x.a<=x.a+1;omega,by show x.a+1<=x.a+2;omega⟩
structure CtrX (P:Program) [Env P] {α:Type} (f:FuncId) (args:List AV) (rows:List Row) (R:α→Prop) (res:α→Res) (after:α→List (Option Row)):Prop where
 callable:Callable P f
 calls:∀(w0:Base) [EnvAt P w0] ρ m nx (ids:List Nat) w vs,RowsIn m ids rows→nodupB ids=true→RelC w0 ρ m nx w→RelVs w0.w ρ nx (renAs ids args) vs →
  Calls P f vs.toArray w (λen w'=>∃x,R x/\∃v ρ',en=.returned v/\(∀i,i < nx→ρ' i=ρ i)/\nx<=(instR (res x) nx (aft ids (after x) m)).2.2/\RelV w0.w ρ' (instR (res x) nx (aft ids (after x) m)).2.2 (instR (res x) nx (aft ids (after x) m)).1 v /\
   RelC w0 ρ' (instR (res x) nx (aft ids (after x) m)).2.1 (instR (res x) nx (aft ids (after x) m)).2.2 w')
theorem CtrX.ofM [Env P] {α:Type} {f:FuncId} {args:List AV} {rows:List Row} {R:α→Prop} {res:α→Res} {after:α→List (Option Row)} {r:Res} {a:List (Option Row)} (x:α) (h:CtrM P f args rows r a) (hx:R x) (hr:res x=r) (ha:after x=a):CtrX P f args rows R res after:=by
 subst hr
 subst ha
 exact ⟨h.callable,λw0 hw ρ m nx ids w vs h1 h2 h3 h4=>(h.calls w0 ρ m nx ids w vs h1 h2 h3 h4).mono λen w' h=>⟨x,hx,h⟩⟩
theorem CtrX.weak [Env P] {α:Type} {f:FuncId} {args:List AV} {rows:List Row} {R R':α→Prop} {res:α→Res} {after:α→List (Option Row)} (h:CtrX P f args rows R res after) (hR:∀x,R x→R' x):CtrX P f args rows R' res after :=
 ⟨h.callable,λw0 hw ρ m nx ids w vs h1 h2 h3 h4=>(h.calls w0 ρ m nx ids w vs h1 h2 h3 h4).mono λen w' ⟨x,hx,h⟩=>⟨x,hR x hx,h⟩⟩
def c8M {α:Type} (tb:List (Nat×TyI)) (rs:List ResultVar) (R:α→Prop) (res:α→Res) (after:α→List (Option Row)) (e:Exit) (S:St):Prop:=∃x,R x/\b4y tb rs (res x) (after x) e S
theorem A3 {α:Type} {tb:List (Nat×TyI)} {rs:List ResultVar} {R:α→Prop} {res:α→Res} {after:α→List (Option Row)} {e:Exit} {S:St} (x:α) (h:b4y tb rs (res x) (after x) e S) (hx:R x):c8M tb rs R res after e S:=⟨x,hx,h⟩
section
variable {P:Program} [Env P] {w0:Base} {ops:Array Oper} {tb:List (Nat×TyI)} {o:Oper} {rest:List Oper} {T:List (Nat×AV)} {m:List (Nat×Option Row)} {nx nt d:Nat} {Q:Exit→St→Prop}
theorem CtrX.of {α:Type} {R:α→Prop} {res:α→Res} {after:α→List (Option Row)} (G:Good P tb) {f:FuncId} {fn:Func} {c:Code} {args:List AV} {rows:List Row} {l:List ResultVar} {n k:Nat} (hf:P.funcs[f]?=some fn) (hb:fn.body=some c) (hname:(fn.name == "runtime.NumGoroutine")=false) (hl:fn.results=l.toArray) (hn:fn.ntmps=n)
 (hlen:Nat.ble args.length n=true) (hk:rows.length=k) (haf:∀x,rows.length=(after x).length) (hrefs:J1 k args=true) (hfr:a2V rows=true)
 (h:∀b:Base,[EnvAt P b]→b.n0=k→W P b c ⟨a6m args 0,b1C rows 0,k,n⟩ (c8M tb l R res after)):CtrX P f args rows R res after:=by
 refine ⟨⟨fn,hf,hname,by rw [hb];rfl⟩,λw0 hw0 ρ m nx ids w vs hin hnd hC hrel=>?_⟩
 have hidl:ids.length=k:=hin.len.trans hk
 let ρc:Nat→Value:=λj=>ρ (ids.getD j 0)
 have hrel':RelVs w0.w ρc k args vs:=RelVs.ren args hrefs hrel
 have hlen':args.length<=n:=Nat.le_of_ble_eq_true hlen
 refine calls_of_wp hf hb ?_
 let b:Base:=⟨w0.w,k,ρc,w,λc=>c < w.heap.size/\∀(j:Nat) id r,ids[j]?=some id→rows[j]?=some r→¬ U0 w (ρ id) r c,λc hc=>hc.1,w0.E,w0.hE⟩
 have hen:EnvAt P b:=⟨hw0.e⟩
 have hkp:KeepIs ρ ids rows w b.keep:=λ_=>Iff.rfl
 have hCb:RelC b ρc (b1C rows 0) k w:=a9f (b:=b) hC hin hnd hfr hk Z Z Z Z hkp
 have hT:=a3L (b:=b) (fn:=fn) hrel' hlen' hn
 refine wp_mono (h b Z ρc _ w hT hCb) ?_
 have fin:∀(x:α) (ρ':Nat→Value) (S:St) (a:Act) (w':World),(∃avs,X4 tb S l []=some avs/\ResOK S.m avs (res x)/\AftOK S.m 0 (after x)/\a2b (after x) (a3H (res x) avs)=true)→RelT b ρ' S.T S.nx S.nt a→RelC b ρ' S.m S.nx w' →
  a.defers=[]/\∃v,(results fn a.tmps).run P w'=.ok v w'/\∃u ρ',Ending.returned v=.returned u/\(∀i,i < nx→ρ' i=ρ i)/\nx<=(instR (res x) nx (aft ids (after x) m)).2.2/\RelV w0.w ρ' (instR (res x) nx (aft ids (after x) m)).2.2 (instR (res x) nx (aft ids (after x) m)).1 u /\
  RelC w0 ρ' (instR (res x) nx (aft ids (after x) m)).2.1 (instR (res x) nx (aft ids (after x) m)).2.2 w':=by
  intro x ρ' S a w' ⟨avs,h1,h2,h3,h4⟩ hT' hC'
  obtain ⟨ys,avs',e1,e2,e3⟩:=a0q G hT' hC' h1
  simp at e1
  subst e1
  have hpin:∀j id,ids[j]?=some id→ρ' j=ρ id:=λj id hj=>by
   have hj':j < k:=by rw [← hidl];exact (List.getElem?_eq_some_iff.1 hj).1
   rw [hC'.pin.2 j hj']
   grind
  obtain ⟨ρ2,q1,q2,q3,q4⟩:=b16 (b:=b) hC hin hnd (haf x) Z Z hkp hpin hC' h3 h2 h4 e2
  exact ⟨hT'.defers,_,X5 hl e3,_,ρ2,Z,q1,q2,q3,q4⟩
 rintro e a w' ⟨ρ',S,⟨x,hx,hq⟩,hT',hC'⟩
 cases e<;>simp only [b4y] at hq
 case normal=>obtain ⟨g1,v,g2,g3⟩:=fin x ρ' S a w' hq hT' hC';exact ⟨g1,v,g2,x,hx,g3⟩
 case ret=>obtain ⟨g1,v,g2,g3⟩:=fin x ρ' S a w' hq hT' hC';exact ⟨g1,v,g2,x,hx,g3⟩
theorem d4 [EnvAt P w0] {α:Type} {R:α→Prop} {res:α→Res} {after:α→List (Option Row)} {f:FuncId} {as:Array Operand} {ts:Array TypeId} {args:List AV} {rows:List Row} {n1:Nat} (nx':Nat) (ids:List Nat) (hd:o.dst=some d) (hlt:Nat.blt d nt=true) (ho:o.op=.call { callee:=.value (.func f),args:=as,argTypes:=ts }) (hc:CtrX P f args rows R res after)
 (ha:evL T as.toList []=some (renAs ids args)) (hr:RowsIn m ids rows) (hnd:nodupB ids=true) {r:α→AV} {m':α→List (Nat×Option Row)} (hi:∀x,a89 (res x) nx (aft ids (after x) m)=some (r x,m' x,n1)) (hn':Nat.beq nx' n1=true) (hk:∀x,R x→WL P w0 ops rest ⟨(d,r x) :: T,m' x,nx',nt⟩ Q):WX P w0 ops o rest ⟨T,m,nx,nt⟩ Q:=by
 have hn'':=Nat.eq_of_beq_eq_true hn'
 subst hn''
 intro ρ a w hT hC
 obtain ⟨bs,h1,h2⟩:=a67 hT ha
 simp at h1
 subst h1
 have hcalls:=hc.calls w0 ρ m nx ids w _ hr hnd hC h2
 have hrun:(execOp a.eval o).run P w=.ok (.enter f (as.toList.map a.eval).toArray) w:=by
  simp [execOp,ho,resolve,Deferred.ofValue,invoke,Act.eval,a0L hc.callable,← Array.toList_map]
 unfold Oper.wp
 rw [hrun,Oper.upon_enter]
 refine hcalls.mono λex w' ⟨x,hx,v,ρ',he,q1,q2,q3,q4⟩=>?_
 subst he
 have hi:=hi x
 have hi:=a3D hi
 rw [hi] at q2 q3 q4
 refine hk x hx ρ' _ w' ?_ q4
 rw [hd]
 have hT':RelT w0 ρ' T nx' nt a:=⟨λt x hx=>(hT.tmps t x hx).mono q2 q1,hT.size,hT.defers⟩
 exact hT'.put hlt q3
end
inductive EF where
 | int (k:IntKind)
 | bool
 | str
def c6j (P:Program) (t:TypeId):Option EF:=match P.underlying t with
 | some (.int k)=>some (.int k)
 | some .bool=>some .bool
 | some .string=>some .str
 | _=>none
def efB:EF→EF→Bool
 | .int k,.int k'=>decide (k=k')
 | .bool,.bool=>true
 | .str,.str=>true
 | _,_=>false
theorem c6k {a b:EF} (h:efB a b=true):a=b:=by
 cases a<;>cases b<;>simp [efB] at h<;>first | rfl | (rw [h])
def b8i (P:Program):List Field→Nat→List EF→Bool
 | [],_,[]=>true
 | f :: fs,j,k :: ks=>(f.name != "_") && (f.offset==j) && (match c6j P f.type with | some k'=>efB k' k | none=>false) && b8i P fs (j+1) ks
 | _,_,_=>false
def S8 (P:Program) (t:TypeId) (ks:List EF):Bool :=
 (match P.underlying t with | some (.struct fs)=>b8i P fs.toList 0 ks | _=>false) && !P.stoodInHeld t && !P.eqGuardType P.depth t
def d00:EF→Value→Prop
 | .int k,v=>∃a,v=.int k a
 | .bool,v=>∃a,v=.bool a
 | .str,v=>∃a,v=.string a
def a4z:List EF→List Value→Prop
 | [],us=>us=[]
 | k :: ks,us=>∃u r,us=u :: r/\d00 k u/\a4z ks r
def Y9:Value→Value→Bool
 | .int _ a,.int _ b=>decide (a=b)
 | .bool a,.bool b=>a==b
 | .string a,.string b=>decide (a=b)
 | _,_=>false
def E0:List Value→List Value→Bool
 | [],[]=>true
 | a :: r,b :: s=>Y9 a b && E0 r s
 | _,_=>false
theorem b1D {a b:ByteArray}:(a.toList==b.toList)=decide (a=b):=by
 have e:(a.toList=b.toList)↔a=b:=by
  rw [ByteArray.toList_eq,ByteArray.toList_eq]
  obtain ⟨⟨x⟩⟩:=a
  obtain ⟨⟨y⟩⟩:=b
  simp
 grind
section
variable {P:Program} {w:World}
theorem a69 {d:Nat} {xs ys:Array Value}:∀{fs:List Field} {j:Nat} {ks:List EF},b8i P fs j ks=true→a4z ks (xs.toList.drop j)→a4z ks (ys.toList.drop j) →
 (Op.eqFields (d+1) xs ys fs).run P w=.ok (E0 (xs.toList.drop j) (ys.toList.drop j)) w
 | [],j,[],_,hx,hy=>by
  simp only [a4z] at hx hy
  rw [hx,hy]
  simp [Op.eqFields,E0]
 | [],_,_ :: _,h,_,_=>by simp [b8i] at h
 | _ :: _,_,[],h,_,_=>by simp [b8i] at h
 | f :: fs,j,k :: ks,h,hx,hy=>by
  simp only [b8i,Bool.and_eq_true] at h
  obtain ⟨⟨⟨h1,h2⟩,h3⟩,h4⟩:=h
  simp only [a4z] at hx hy
  obtain ⟨u,r,ex,hu,hr⟩:=hx
  obtain ⟨v,s,ey,hv,hs⟩:=hy
  have hj:f.offset=j:=by simpa using h2
  have gx:xs[j]?=some u:=by
   have:=congrArg (λl=>l[0]?) ex
   grind
  have gy:ys[j]?=some v:=by
   have:=congrArg (λl=>l[0]?) ey
   grind
  have dx:xs.toList.drop (j+1)=r:=by rw [← List.drop_drop,ex];rfl
  have dy:ys.toList.drop (j+1)=s:=by rw [← List.drop_drop,ey];rfl
  have hn:f.name ≠ "_" := by simpa using h1
  have ih:=a69 (d:=d) (xs:=xs) (ys:=ys) h4 (dx▸hr) (dy▸hs)
  rw [dx,dy] at ih
  have key:∀w,(part f.type xs f.offset).run P w=.ok u w/\(part f.type ys f.offset).run P w=.ok v w/\(Op.equalIn (d+1) f.type u v).run P w=.ok (Y9 u v) w:=by
   intro w
   cases he:c6j P f.type with
   | none=>simp [he] at h3
   | some k' =>
    simp only [he] at h3
    obtain rfl:=c6k h3
    unfold c6j at he
    split at he<;>cases he
    ·next k ht =>
     obtain ⟨a,rfl⟩:=hu
     obtain ⟨b,rfl⟩:=hv
     refine ⟨by simp [part,isAgg,run_underlying ht,hj,gx],by simp [part,isAgg,run_underlying ht,hj,gy],?_⟩
     rw [run_equalIn_int w d _ k k a b ht]
     rfl
    ·next ht =>
     obtain ⟨a,rfl⟩:=hu
     obtain ⟨b,rfl⟩:=hv
     exact ⟨by simp [part,isAgg,run_underlying ht,hj,gx],by simp [part,isAgg,run_underlying ht,hj,gy],run_equalIn_bool' w d _ a b ht⟩
    ·next ht =>
     obtain ⟨a,rfl⟩:=hu
     obtain ⟨b,rfl⟩:=hv
     refine ⟨by simp [part,isAgg,run_underlying ht,hj,gx],by simp [part,isAgg,run_underlying ht,hj,gy],?_⟩
     rw [run_equalIn_string w d _ a b ht,b1D]
     rfl
  rw [ex,ey]
  simp only [Op.eqFields,if_pos hn,Sem.run_bind,(key w).1,(key w).2.1,(key w).2.2,Result.andThen_ok,E0]
  cases hc:Y9 u v
  ·simp
  ·simpa using ih
theorem a7a {t:TypeId} {ks:List EF} (h:S8 P t ks=true) (hu:a4z ks us) (hv:a4z ks vs):(Op.equalIn 10000 t (.agg ⟨us⟩) (.agg ⟨vs⟩)).run P w=.ok (E0 us vs) w:=by
 simp only [S8,Bool.and_eq_true,Bool.not_eq_true'] at h
 obtain ⟨⟨h1,h2⟩,_⟩:=h
 split at h1
 ·next fs hfs =>
  have e:P.fieldsOf t=fs:=by simp [Program.fieldsOf,hfs]
  rw [show (10000:Nat)=9999+1 from rfl,run_equalIn_agg w 9999 t _ _ (by rw [e];exact hfs) h2,e]
  exact a69 (d:=9998) (xs:=⟨us⟩) (ys:=⟨vs⟩) h1 hu hv
 ·cases h1
end
section
variable {P:Program} [Env P] {w0:Base} {ops:Array Oper} {tb:List (Nat×TyI)} {o:Oper} {rest:List Oper} {T:List (Nat×AV)} {m:List (Nat×Option Row)} {nx nt d:Nat} {Q:Exit→St→Prop}
theorem a7b {x:Operand} {w0:World} {ρ:Nat→Value} {a:Act} (hT:RelT w0 ρ T nx nt a) (hx:ev T x=some ax) (hc:E8 ax=some cs) (hu:vaR cs []=some us) (hax:ax=.agg cs∨ax=.v (.agg ⟨us⟩)):a.eval x=.agg ⟨us⟩:=by
 obtain ⟨us',h1,h2⟩:=a0K _ _ _ hu
 simp at h2
 subst h2
 have:=hT.ev hx
 rcases hax with rfl | rfl
 ·grind [RelV,RelVs.map_v_eq]
 assumption
theorem c3N {x:Operand} {t t':TypeId} (ks:List EF) (ho:o.op=.binOp .eql t x y t') (hx:ev T x=some ax) (hy:ev T y=some ay) (hc:E8 ax=some cs) (hd:E8 ay=some ds) (hu:vaR cs []=some us) (hv:vaR ds []=some vs)
 (hax:ax=.agg cs∨ax=.v (.agg ⟨us⟩)) (hay:ay=.agg ds∨ay=.v (.agg ⟨vs⟩)) (ht:S8 P t ks=true) (fu:a4z ks us) (fv:a4z ks vs):QStep P o T m nx nt (.v (.bool (E0 us vs))) :=
 QStep.val λw0 ρ a hT w'=>by
  have ex:=a7b hT hx hc hu hax
  have ey:=a7b hT hy hd hv hay
  have hg:P.eqGuardType P.depth t=false:=by simp only [S8,Bool.and_eq_true,Bool.not_eq_true'] at ht;exact ht.2
  simp [execOp,ho,ex,ey,run_eqGuard_agg w' .eql t x y _ _ hg,run_eql_struct,a7a ht fu fv]
theorem b4A {x:Operand} {t t':TypeId} (ks:List EF) (ho:o.op=.binOp .neq t x y t') (hx:ev T x=some ax) (hy:ev T y=some ay) (hc:E8 ax=some cs) (hd:E8 ay=some ds) (hu:vaR cs []=some us) (hv:vaR ds []=some vs)
 (hax:ax=.agg cs∨ax=.v (.agg ⟨us⟩)) (hay:ay=.agg ds∨ay=.v (.agg ⟨vs⟩)) (ht:S8 P t ks=true) (fu:a4z ks us) (fv:a4z ks vs):QStep P o T m nx nt (.v (.bool (!E0 us vs))) :=
 QStep.val λw0 ρ a hT w'=>by
  have ex:=a7b hT hx hc hu hax
  have ey:=a7b hT hy hd hv hay
  have hg:P.eqGuardType P.depth t=false:=by simp only [S8,Bool.and_eq_true,Bool.not_eq_true'] at ht;exact ht.2
  simp [execOp,ho,ex,ey,run_eqGuard_agg w' .neq t x y _ _ hg,run_neq_struct,a7a ht fu fv]
end
def okC (n:Int) (x:Cur):Prop:=U9 x.c/\0<=x.a/\x.a<=n
theorem okC.mono {n':Int} (h:okC n x) (hn:n<=n'):okC n' x:=⟨h.1,h.2.1,by have:=h.2.2;omega⟩
theorem okC.pk (h:okC n x) (k:Int):okC (n+2) (pkC x k):=by
 have:=d0Z (x:=x) (n:=k)
 exact ⟨by rw [this.1];exact h.1,by have:=h.2.1;omega,by have:=h.2.2;omega⟩
theorem okC.big (h:okC n x) (hn:n<=1000000000000):0<=x.a/\x.a<=4611686018427387000:=⟨h.2.1,by have:=h.2.2;omega⟩
theorem c10 {l:List Int} {lo hi:Int} (hl:∀z∈l,lo<=z/\z<=hi) {i:Nat} (h0:i < l.length):lo<=l.getD i default/\l.getD i default<=hi:=by
 simp_all
theorem b4B {α:Type} [Inhabited α] {l:List α} {i:Nat} (h0:i < l.length):l.getD i default∈l:=by
 grind
end Go.Rf
namespace Go.Rf
end Go.Rf
namespace Go.Rf
open Go Go.RowKit
section
variable {P:Program} [Env P] {w0:Base} {T:List (Nat×AV)} {m:List (Nat×Option Row)} {nx nt:Nat} {Q:Exit→St→Prop} {c:Code}
theorem c6l {N:Nat} (hn:nx<=N) (h:W P w0 c ⟨T,m,N,nt⟩ Q):W P w0 c ⟨T,m,nx,nt⟩ Q:=by
 intro ρ a w hT hC
 refine h ρ a w ⟨λt x hx=>(hT.tmps t x hx).mono hn (λ_ _=>Z),hT.size,hT.defers⟩ ⟨λid r hr=>?_,hC.apart,hC.below,⟨Nat.le_trans hC.pin.1 hn,hC.pin.2⟩,hC.kept,hC.inner⟩
 obtain ⟨h1,h2⟩:=hC.rows id r hr
 exact ⟨Nat.lt_of_lt_of_le h1 hn,h2.mono hn (λ_ _=>Z) h1⟩
theorem Ctr.eq {f:FuncId} {args:List AV} {res res':Res} (h:Ctr P f args res) (e:res=res'):Ctr P f args res':=e▸h
end
section
variable {P:Program} [Env P] {w0:Base} {T:List (Nat×AV)} {m:List (Nat×Option Row)} {nx nt:Nat} {Q:Exit→St→Prop} {c:Code}
theorem c11 {α:Type} {x y:Code} {S:St} (T1:α→List (Nat×AV)) (M1:α→List (Nat×Option Row)) (inv:α→Prop) (N:Nat) (ks ms:List Nat) (h:W P w0 x S (sq (λS'=>∃a,inv a/\a64 S'.nx S'.T ks []=some (T1 a)/\R0 S'.nx S'.m ms []=some (M1 a)/\Nat.ble S'.nx N=true/\S'.nt=nt) Q)) (h2:∀a,inv a→W P w0 y ⟨T1 a,M1 a,N,nt⟩ Q):W P w0 (.seq x y) S Q:=by
 refine c1 (λK hK=>b5C h ?_)
 intro e S hq
 cases e
 case normal =>
  obtain ⟨a,ha,h3,h4,h5,h6⟩:=hq
  refine hK S ?_
  subst h6
  exact b87 (S':=⟨T1 a,M1 a,S.nx,S.nt⟩) ⟨Z,a1C h3 trivial,a0r h4 trivial⟩ Z (c6l (Nat.le_of_ble_eq_true h5) (h2 a ha))
 all_goals exact hq
end
end Go.Rf
namespace Go.Rf
open Go
variable {f:Nat→Bool} {n:Nat}
theorem c8N:∀c,CellsOK [.int .u8] c→∃x:Int,c=B1 x/\(0<=x/\x<=255):=by
 intro c h
 simp only [CellsOK,CellOK] at h
 obtain ⟨_,r0,rfl,⟨n0,rfl,w⟩,h⟩:=h
 subst h
 refine ⟨n0,Z,?_⟩
 simp only [Lit.wf,IntKind.min,IntKind.max,Bool.and_eq_true,decide_eq_true_eq,IntKind.signed,IntKind.bits] at w
 simpa using w
theorem c6m {l:List Int} (h:∀x∈l,0<=x/\x<=255):∀j,0<=l.getD j default/\l.getD j default<=255:=λj=>by
 rcases Nat.lt_or_ge j l.length with hj | hj
 ·exact h _ (b4B hj)
 ·have e:l.getD j default=0:=by rw [List.getD_eq_getElem?_getD,List.getElem?_eq_none hj];rfl
  rw [e]
  omega
section
variable {α:Type} [Inhabited α] {f:α→List Value} {g:Nat→α} {xs:List α} {i:Nat}
def pre (g:Nat→α) (i:Nat):List α:=(List.range i).map g
theorem G5:(pre g i).length=i:=by simp [pre]
theorem a4A:(pre g i).map f++[f (g i)]=(pre g (i+1)).map f:=by simp [pre,List.range_succ]
end
theorem a2X (h:O4 f n≠-1):∃i:Nat,O4 f n=(i:Int)/\i < n/\(∀j,j < i→f j=false)/\f i=true:=by
 unfold O4 at h ⊢
 cases hf:(List.range n).find? f with
 | none=>simp [hf] at h
 | some i =>
  rw [List.find?_range_eq_some] at hf
  grind
theorem b6O (h:O4 f n=-1):∀i,i < n→f i=false:=by
 grind [O4]
section
variable {α:Type} [Inhabited α] {f:α→List Value} {p:α→Bool} {xs:List α} {j:Nat}
end
end Go.Rf
namespace Go.Rf
open Go Go.RowKit
variable {by_ dst e src:Nat} {z z0:Value} {zs:List Value}
def u8s:List (List Value)→List Int→Option (List Int)
 | [],acc=>a3A acc []
 | [.int .u8 n] :: r,acc=>u8s r (n :: acc)
 | _ :: _,_=>none
theorem b4C:∀{ys:List (List Value)} {acc ns:List Int},u8s ys acc=some ns→∃xs,ns=acc.reverse++xs/\ys=xs.map λn=>[.int .u8 n]
 | [],acc,ns,h=>by simp [u8s,H9] at h;exact ⟨[],by simp [h],Z⟩
 | c :: r,acc,ns,h=>by
  have hc:∃n,c=[.int .u8 n]/\u8s r (n :: acc)=some ns:=by
   cases c with
   | nil=>simp [u8s] at h
   | cons v c2 =>
    cases c2 with
    | cons u c3=>cases v<;>first | (simp [u8s] at h;done) | (rename_i k _;cases k<;>simp [u8s] at h)
    | nil =>
     cases v<;>try (simp [u8s] at h;done)
     rename_i k n
     cases k<;>try (simp [u8s] at h;done)
     exact ⟨n,Z,by simpa only [u8s] using h⟩
  obtain ⟨n,rfl,h'⟩:=hc
  obtain ⟨xs,h1,h2⟩:=b4C h'
  exact ⟨n :: xs,by simp [h1],by simp [h2]⟩
section
variable {P:Program} [Env P] {tb:List (Nat×TyI)} {o:Oper} {T:List (Nat×AV)} {m:List (Nat×Option Row)} {nx nt:Nat}
theorem b6P (G:Good P tb) (hs:look src tb=some (.slice e 1 by_ zs)) (he:look e tb=some (.flat (.int .u8) z0)) (hd:look dst tb=some (.flat .str z)) {w:World} {ns:List Int} {y:Value} (h:ReadsAt w 1 (ns.map λn=>[.int .u8 n]) y) :
 (convert src dst y).run P w=.ok (.string (strOfNums ns)) w:=by
 obtain ⟨A,cap,rfl,_,_,hA⟩:=h
 have hs':=(G _ _ hs).1
 have he':P.underlying e=some (.int .u8):=(G _ _ he).1
 have hd':P.underlying dst=some .string:=(G _ _ hd).1
 cases A with
 | none =>
  have h0:ns=[]:=by
   cases ns with
   | nil=>rfl
   | cons n r=>obtain ⟨ad,h1,_⟩:=hA (by simp);cases h1
  subst h0
  exact run_convert_bytes_nil w src e hs' he' _ _ dst hd'
 | some ad =>
  have hl:(loadCells ad (ns.map λn=>[Value.int .u8 n]).length).run P w=.ok (ns.map (Value.int .u8)).toArray w:=by
   have:=run_loadCells_list (P:=P) w ad (ns.map (Value.int .u8)) (λj v hj=>by
    have hjl:j < ns.length:=by
     rcases Nat.lt_or_ge j ns.length with h | h
     ·exact h
     ·simp [List.getElem?_eq_none (show (ns.map (Value.int .u8)).length<=j by simpa using h)] at hj
    obtain ⟨ad',h1,_,h2⟩:=hA (by simp;omega)
    cases h1
    have:=h2 j [.int .u8 ns[j]] (by simp [hjl]) 0 _ Z
    simp [hjl] at hj
    subst hj
    simpa using this)
   simpa using this
  rw [run_convert_bytes_string w src dst e _ _ cap hs' he' hd',run_bytesToString w _ _ cap ns hl,foldl_push_bytes]
  simp [strOfNums,ByteArray.empty,ByteArray.emptyWithCapacity]
  rfl
theorem c8O {x:Operand} {ax:AV} {ys:List (List Value)} {ns:List Int} (G:Good P tb) (ho:o.op=.convert src dst x) (hs:look src tb=some (.slice e 1 by_ zs)) (he:look e tb=some (.flat (.int .u8) z0)) (hd:look dst tb=some (.flat .str z))
 (hx:ev T x=some ax) (hl:a3B m ax=some (.lst 1 ys)) (hu:u8s ys []=some ns):QStep P o T m nx nt (.v (.string (strOfNums ns))) :=
 QStep.run λw0 ρ a w hT hC=>by
  obtain ⟨xs,h1,h2⟩:=b4C hu
  simp at h1
  subst h1
  refine ⟨.string (strOfNums ns),by simp only [RelV],λw' hC'=>?_⟩
  have hr:=ArgOK.of1 (nx:=nx) hl w0 ρ w' _ hC' (hT.ev hx)
  simp only [RelV] at hr
  rw [h2] at hr
  simp [execOp,ho,b6P G hs he hd hr]
end
end Go.Rf
namespace Go.Rf
open Go Go.RowKit Go.Sort
variable {n:Nat}
theorem b8j {P:Program} {w w':World} {n:String} {k:IntKind} {zs:List Int} (h:Lib.TabIs P w n k zs) (hb:Below w.heap.size w w'):Lib.TabIs P w' n k zs:=by
 unfold Lib.TabIs World.var? at h ⊢
 cases hg:P.globalNamed n with
 | none=>simp [hg] at h
 | some g =>
  simp only [hg,Option.bind_some] at h ⊢
  have hlt:g < w.heap.size:=by
   grind
  rw [hb.block g hlt]
  exact h
theorem b5N (w:World) (k:Nat) (os:Array Obj):Below w.heap.size w (grow (w.drewN k) os) :=
 ⟨Z,Z,Z,by simp [grow,World.drewN],λi hi=>by
  show (w.heap++os)[i]?=w.heap[i]?
  rw [Array.getElem?_append_left hi]⟩
theorem Ctr.lib {P:Program} [Env P] {f:FuncId} {xs:List Value} {v:Value} (hc:Callable P f) (h:∀w,Env.E P w→Calls P f xs.toArray w λe w'=>e=.returned v/\Below w.heap.size w w'):Ctr P f (xs.map .v) (.one (.v v)) :=
 ⟨hc,λw vs he hv=>by
  rw [RelVs.map_v_eq (w0:=w) xs hv]
  exact (h w he).mono λe w' ⟨h1,h2⟩=>⟨v,h1,by simp [ResRel,RCRel],h2⟩⟩
def u7 (n:Int):ByteArray:=⟨(Lib.itoa n).toArray⟩
theorem a2Y (h:n < 10):(⟨#[48,49,50,51,52,53,54,55,56,57]⟩:ByteArray).extract n (n+1)=⟨#[UInt8.ofNat (48+n)]⟩:=by
 rcases n with _ | _ | _ | _ | _ | _ | _ | _ | _ | _ | n<;>first | rfl | omega
theorem a4B {n:Int} (h:n < 0):u7 n=(⟨#[45]⟩:ByteArray)++u7 (-n):=by
 have e1:Lib.itoa n=45 :: Lib.decDigits n.natAbs:=by rw [Lib.itoa,if_pos h]
 have e2:Lib.itoa (-n)=Lib.decDigits n.natAbs:=by
  rw [Lib.itoa,if_neg J]
  congr 1
  omega
 rw [u7,u7,e1,e2]
 rfl
theorem a3M (h:n < 10):u7 n=⟨#[UInt8.ofNat (48+n)]⟩:=by
 rw [u7,Lib.itoa,if_neg J,Lib.decDigits]
 simp [h]
theorem a5t (h:10<=n):u7 n=u7 ((n / 10:Nat):Int)++⟨#[UInt8.ofNat (48+n % 10)]⟩:=by
 have e1:Lib.itoa (n:Int)=Lib.decDigits (n / 10)++[UInt8.ofNat (48+n % 10)]:=by
  rw [Lib.itoa,if_neg J,Lib.decDigits]
  grind
 have e2:Lib.itoa ((n / 10:Nat):Int)=Lib.decDigits (n / 10):=by
  rfl
 rw [u7,u7,e1,e2]
 rfl
theorem A0 {n:Int} (h0:-9223372036854775808<=n) (h1:n<=9223372036854775807):(u7 n).size<=21:=by
 have:=Lib.itoa_length_le n h0 h1
 assumption
end Go.Rf
namespace Go.Rf
open Go Go.RowKit
variable {D P a z:ByteArray} {b c k:Int} {d i n:Nat}
theorem b0w {w w':World} {a:Addr} {v:Value} (h:w.cell? a=some v) (hb:Below w.heap.size w w'):w'.cell? a=some v:=by
 have hlt:a.block < w.heap.size:=by
  unfold World.cell? at h
  grind
 exact (hb.cell hlt).trans h
section
variable {P:Program} [Env P] {tb:List (Nat×TyI)} {o:Oper} {T:List (Nat×AV)} {m:List (Nat×Option Row)} {nx nt:Nat}
theorem a8z {src dst:TypeId} {x:Operand} {k':IntKind} {n:Int} {z z':Value} {fk:FK} (G:Good P tb) (ho:o.op=.convert src dst x) (hs:look src tb=some (.flat fk z')) (ht:look dst tb=some (.flat (.int .i64) z)) (hx:ev T x=some (.v (.int k' n)))
 (h0:-9223372036854775808<=n) (h1:n<=9223372036854775807):QStep P o T m nx nt (.v (.int .i64 n)):=by
 have:=a2y (m:=m) (nx:=nx) (nt:=nt) G ho hs ht hx
 rwa [P0 h0 h1] at this
end
theorem a7c (s:ByteArray) (i:Nat):0<=s9 s i/\s9 s i<=255:=by
 unfold s9
 have:=(s.data.toList.getD i 0).toNat_lt
 omega
structure Rec where
 c:ByteArray
 r:ByteArray
instance:Inhabited Rec:=⟨⟨⟨#[]⟩,⟨#[]⟩⟩⟩
variable {x:Rec}
def a54 (x:Rec):List Value:=[.string x.c,.string x.r]
def b28 (x:Rec):Value:=.agg ⟨a54 x⟩
def a4C (s:ByteArray) (i:Nat):Bool:=decide (32<=s9 s i) && decide (s9 s i<=126) && !(s9 s i==35)
def Z0 (s:ByteArray):Bool:=a2A s.size (a4C s)
def n7 (s:ByteArray) (b:Int):Bool:=a0M s.size (λi=>s9 s i==b)
def C9 (x:Rec):Bool:=o8 x.c.size 1 160 && decide ((x.r.size:Int)<=200) && Z0 x.c && Z0 x.r && !(n7 x.c 64)
theorem C2 (s:ByteArray):s.data.toList.length=s.size:=by rw [Array.length_toList];rfl
theorem a3N {s:ByteArray} {c:UInt8}:decide (0<=Lib.indexByte s.data.toList c)=n7 s c.toNat:=by
 have hge:=Lib.indexByte_ge s.data.toList c
 by_cases h:Lib.indexByte s.data.toList c=-1
 ·have h1:=Lib.indexByte_none h
  rw [h]
  symm
  rw [n7]
  exact a2B (i:=s.size) (λj hj=>by
   have h2:=h1 j
   have hjl:j < s.data.toList.length:=by rw [C2];exact hj
   rw [List.getElem?_eq_getElem hjl] at h2
   simp only [beq_eq_false_iff_ne,ne_eq,s9,List.getD_eq_getElem?_getD,List.getElem?_eq_getElem hjl,Option.getD_some]
   intro he
   apply h2
   congr 1
   exact UInt8.toNat_inj.mp (by exact_mod_cast he)) (Nat.le_refl _)
 ·obtain ⟨o,ho⟩:∃o:Nat,Lib.indexByte s.data.toList c=o:=⟨(Lib.indexByte s.data.toList c).toNat,by omega⟩
  obtain ⟨h1,_⟩:=Lib.indexByte_some ho
  have hol:o < s.data.toList.length:=(List.getElem?_eq_some_iff.1 h1).1
  rw [ho,decide_eq_true J]
  symm
  rw [n7]
  exact V7 (i:=o) (by
   simp only [beq_iff_eq,s9,List.getD_eq_getElem?_getD,h1,Option.getD_some]) (by rw [← C2];exact hol)
theorem b8k {s:ByteArray}:(s.toList==(⟨#[]⟩:ByteArray).toList)=decide (s.size=0):=by
 rw [ByteArray.toList_eq,ByteArray.toList_eq,← C2]
 grind
theorem b5O {s:ByteArray}:s.toList=(⟨#[]⟩:ByteArray).toList↔s.size=0:=by
 grind [b8k]
theorem n6 (a:Array UInt8):(⟨a⟩:ByteArray).size=a.size:=rfl
def a8A (s:ByteArray) (i:Nat):Int:=b9b (λi n=>(41 * n+s9 s i+1) % 999979) 7 i
theorem b8l {s:ByteArray}:a8A s (i+1)=(41 * a8A s i+s9 s i+1) % 999979:=rfl
theorem a7d (s:ByteArray):∀i,0<=a8A s i/\a8A s i<=999978
 | 0=>by simp [a8A,b9b]
 | i+1=>by rw [b8l];omega
def U1 (s:ByteArray):ByteArray:=s++(⟨#[35]⟩:ByteArray)++u7 (a8A s s.size)
theorem a3O {s:ByteArray}:n7 s b=true↔∃x∈s.data.toList,(x.toNat:Int)=b:=by
 constructor
 ·grind [n7,a0M,a2A,C2,s9]
 ·rintro ⟨x,hx,h⟩
  obtain ⟨i,hil,rfl⟩:=List.getElem_of_mem hx
  exact V7 (i:=i) (by simp only [s9,List.getD_eq_getElem?_getD,List.getElem?_eq_getElem hil,Option.getD_some,h,beq_self_eq_true]) (by rw [← C2];exact hil)
theorem J2 {s t:ByteArray} (h1:n7 s b=false) (h2:n7 t b=false):n7 (s++t) b=false:=by
 cases h:n7 (s++t) b with
 | false=>rfl
 | true =>
  obtain ⟨x,hx,he⟩:=a3O.mp h
  rw [ByteArray.data_append,Array.toList_append,List.mem_append] at hx
  rcases hx with hx | hx
  ·have:=a3O.mpr ⟨x,hx,he⟩
   grind
  ·have:=a3O.mpr ⟨x,hx,he⟩
   grind
theorem a1v {s:ByteArray} (h:∀x∈s.data.toList,(x.toNat:Int)≠b):n7 s b=false:=by
 grind [a3O]
theorem a7e {s:ByteArray} (h:Z0 s=true):n7 s 35=false :=
 a2B (i:=s.size) (λj hj=>by
  have:=E3.mp h j hj
  simp only [a4C,Bool.and_eq_true,Bool.not_eq_true'] at this
  exact this.2) (Nat.le_refl _)
theorem b4D:∀(u:Nat),∀x∈Lib.decDigits u,48<=x.toNat/\x.toNat<=57:=by
 intro u
 induction u using Nat.strongRecOn with
 | ind u ih =>
  intro x hx
  rw [Lib.decDigits] at hx
  by_cases h:u < 10
  ·(simp_all;omega)
  ·rw [dif_neg h] at hx
   rcases List.mem_append.1 hx with hx | hx
   ·grind
   (simp_all;omega)
theorem a8B {n:Int} (h:0<=n):∀x∈(u7 n).data.toList,48<=x.toNat/\x.toNat<=57:=by
 intro x hx
 have e:(u7 n).data.toList=Lib.decDigits n.toNat:=by
  rw [u7,Lib.itoa,if_neg J]
 rw [e] at hx
 exact b4D _ x hx
theorem a3P {n:Int} (h:0<=n) {b:Int} (hb:b < 48∨57 < b):n7 (u7 n) b=false :=
 a1v λx hx=>by have:=a8B h x hx;omega
def F9 (k:Int) (x:Rec):ByteArray:=u7 k++(⟨#[32]⟩:ByteArray)++x.c++(⟨#[64]⟩:ByteArray)++x.r
def F2 (k:Int) (x:Rec):ByteArray:=U1 (F9 k x)++(⟨#[10]⟩:ByteArray)
theorem a0O (h:C9 x=true):(1<=x.c.size/\x.c.size<=160)/\x.r.size<=200/\Z0 x.c=true/\Z0 x.r=true/\n7 x.c 64=false:=by
 grind [C9,o8]
theorem a4D (hk:0<=k) (h:C9 x=true):n7 (F9 k x) 35=false:=by
 obtain ⟨_,_,h1,h2,_⟩:=a0O h
 unfold F9
 exact J2 (J2 (J2 (J2 (a3P hk J) (a1v (by decide))) (a7e h1)) (a1v (by decide))) (a7e h2)
theorem a5u (hk:0<=k) (hk2:k<=9223372036854775807) (h:C9 x=true):(F9 k x).size<=400:=by
 grind [a0O,A0,F9,n6]
theorem a2Z {s:ByteArray}:(U1 s).size<=s.size+22:=by
 have h:=a7d s s.size
 have:=A0 (n:=a8A s s.size) J J
 unfold U1
 simp only [ByteArray.size_append,n6,List.size_toArray,List.length_cons,List.length_nil]
 omega
theorem a05 {b:ByteArray} (h:a.data.toList=b.data.toList):a=b:=ByteArray.ext (Array.ext' h)
theorem N2 (s:ByteArray) (a b:Nat):(s.extract a b).data.toList=(s.data.toList.drop a).take (b - a):=by
 simp
theorem N3 (a b:ByteArray):(a++b).data.toList=a.data.toList++b.data.toList:=by rw [ByteArray.data_append,Array.toList_append]
theorem V8 (s:ByteArray) (i:Nat):s9 s i=((s.data.toList.getD i 0).toNat:Int):=rfl
theorem a2d {b:ByteArray} (h:i < a.size):s9 (a++b) i=s9 a i:=by
 grind [V8,N3,C2]
theorem b4E {a b:ByteArray} {i:Nat}:s9 (a++b) (a.size+i)=s9 b i:=by
 grind [V8,N3,C2]
theorem b8m {s:ByteArray} {a b:Nat} (h:i < b - a):s9 (s.extract a b) i=s9 s (a+i):=by
 grind [V8,N2]
theorem U2 {s:ByteArray} {a b:Nat} (h:b<=s.size):(s.extract a b).size=b - a:=by
 simp_all
def O5 (s:ByteArray) (c:Int):Nat:=((List.range s.size).find? (λi=>s9 s i==c)).getD s.size
theorem a5v {s:ByteArray} (h:∀j,j < i→(s9 s j==c)=false) (hi:i < s.size) (ht:s9 s i=c):O5 s c=i:=by
 have:(List.range s.size).find? (λi=>s9 s i==c)=some i:=by
  simp_all
 rw [O5,this];rfl
theorem a8C {s:ByteArray} (h:n7 s c=false):O5 s c=s.size:=by
 have:(List.range s.size).find? (λi=>s9 s i==c)=none:=by
  grind [n7,V7]
 rw [O5,this];rfl
theorem H2 {s:ByteArray} (h:n7 s c=true):O5 s c < s.size/\s9 s (O5 s c)=c/\∀j,j < O5 s c→(s9 s j==c)=false:=by
 cases hf:(List.range s.size).find? (λi=>s9 s i==c) with
 | none =>
  rw [List.find?_eq_none] at hf
  have:n7 s c=false:=a2B (i:=s.size) (λj hj=>by simpa using hf j (List.mem_range.mpr hj)) (Nat.le_refl _)
  rw [this] at h;cases h
 | some i =>
  have e:O5 s c=i:=by rw [O5,hf];rfl
  simp_all
theorem a7f {s:ByteArray} {c:Int}:O5 s c<=s.size:=by
 cases h:n7 s c
 ·rw [a8C h];exact Nat.le_refl _
 ·exact Nat.le_of_lt (H2 h).1
def m5 (s:ByteArray) (c:Int):ByteArray:=s.extract 0 (O5 s c)
def v1 (s:ByteArray) (c:Int):ByteArray:=if n7 s c then s.extract (O5 s c+1) s.size else ⟨#[]⟩
theorem X8 {s:ByteArray} {c:Int}:(m5 s c).size=O5 s c:=by
 rw [m5,U2 a7f];rfl
theorem b0x {a z:ByteArray} {u:UInt8} (h:n7 a u.toNat=false):O5 (a++⟨#[u]⟩++z) u.toNat=a.size/\n7 (a++⟨#[u]⟩++z) u.toNat=true:=by
 have hsz:a.size < (a++(⟨#[u]⟩:ByteArray)++z).size:=by simp only [ByteArray.size_append,n6,List.size_toArray,List.length_cons,List.length_nil];omega
 have hb:s9 (a++(⟨#[u]⟩:ByteArray)++z) a.size=u.toNat:=by
  rw [ByteArray.append_assoc]
  have:=b4E (a:=a) (b:=(⟨#[u]⟩:ByteArray)++z) (i:=0)
  assumption
 refine ⟨a5v (λj hj=>?_) hsz hb,V7 (i:=a.size) (by simpa using hb) hsz⟩
 rw [ByteArray.append_assoc,a2d hj]
 cases hq:(s9 a j==(u.toNat:Int)) with
 | false=>rfl
 | true =>
  grind [n7,V7]
theorem a5w {a z:ByteArray} {u:UInt8} (h:n7 a u.toNat=false):m5 (a++⟨#[u]⟩++z) u.toNat=a:=by
 grind [m5,b0x,a05,N2,N3,C2]
theorem b2a {a z:ByteArray} {u:UInt8} (h:n7 a u.toNat=false):v1 (a++⟨#[u]⟩++z) u.toNat=z:=by
 grind [b0x,v1,a05,C2,N2,N3]
theorem b0y {b c:ByteArray} (h:a++c=b++c):a=b:=by
 simp_all
def R4 (k:Int):ByteArray:=u7 k++(⟨#[32]⟩:ByteArray)
def F3 (s:ByteArray) (k:Int):ByteArray:=(m5 s 35).extract (R4 k).size (m5 s 35).size
def b6Q:Rec:=⟨⟨#[]⟩,⟨#[]⟩⟩
def rdA (s:ByteArray) (k:Int):Bool:=decide ((R4 k).size<=(m5 s 35).size) && ((m5 s 35).extract 0 (R4 k).size).toList==(R4 k).toList
def rdB (s:ByteArray) (k:Int):Bool:=rdA s k && !decide ((m5 (F3 s k) 64).size=(F3 s k).size)
def rdX (s:ByteArray) (k:Int):Rec:=⟨m5 (F3 s k) 64,(F3 s k).extract ((m5 (F3 s k) 64).size+1) (F3 s k).size⟩
def rdE (s:ByteArray) (k:Int):Rec:=if rdB s k then rdX s k else b6Q
def rdK (s:ByteArray) (k:Int):Bool:=rdB s k && C9 (rdE s k) && (F2 k (rdE s k)).toList==(s++(⟨#[10]⟩:ByteArray)).toList
theorem a6p {b:ByteArray}:(a.toList==b.toList)=true↔a=b:=by
 grind [a4x]
theorem a6q:F9 k x=R4 k++(x.c++(⟨#[64]⟩:ByteArray)++x.r):=by
 unfold F9 R4
 simp only [ByteArray.append_assoc]
theorem b8n {b:ByteArray}:(a++b).extract 0 a.size=a:=by
 grind [a05,N2,N3,C2]
theorem a5x {a b:ByteArray}:(a++b).extract a.size (a++b).size=b:=by
 grind [a05,N2,N3,C2]
theorem b0z (hk:0<=k) (h:C9 x=true):m5 (U1 (F9 k x)) 35=F9 k x:=a5w (u:=35) (a4D hk h)
theorem c12 (hk:0<=k) (h:C9 x=true):rdB (U1 (F9 k x)) k=true/\rdE (U1 (F9 k x)) k=x:=by
 obtain ⟨_,_,_,_,h5⟩:=a0O h
 have hf:=b0z hk h
 have hr:F3 (U1 (F9 k x)) k=x.c++(⟨#[64]⟩:ByteArray)++x.r:=by
  rw [F3,hf,a6q,a5x]
 have h64:m5 (x.c++(⟨#[64]⟩:ByteArray)++x.r) 64=x.c:=a5w (u:=64) h5
 have ha:rdA (U1 (F9 k x)) k=true:=by
  rw [rdA,hf,a6q,b8n,a6p.mpr Z,ByteArray.size_append]
  simp
 have hb:rdB (U1 (F9 k x)) k=true:=by
  grind [rdB,n6]
 refine ⟨hb,?_⟩
 rw [rdE,if_pos hb,rdX,hr,h64]
 have h6:(x.c++(⟨#[64]⟩:ByteArray)++x.r).extract (x.c.size+1) (x.c++(⟨#[64]⟩:ByteArray)++x.r).size=x.r:=by
  have:=a5x (a:=x.c++(⟨#[64]⟩:ByteArray)) (b:=x.r)
  have e:(x.c++(⟨#[64]⟩:ByteArray)).size=x.c.size+1:=by rw [ByteArray.size_append];rfl
  rwa [e] at this
 rw [h6]
theorem b9g {s:ByteArray} {k:Int} {x:Rec} (hk:0<=k) (h:C9 x=true) (hl:F2 k x=s++(⟨#[10]⟩:ByteArray)):rdK s k=true/\rdE s k=x:=by
 grind [b0y,c12,F2,rdK]
theorem b9h {s:ByteArray} (h:rdK s k=true):C9 (rdE s k)=true/\F2 k (rdE s k)=s++(⟨#[10]⟩:ByteArray):=by
 grind [rdK,a6p]
theorem c6n {s:ByteArray} (h:rdB s k=false):rdE s k=b6Q/\rdK s k=false:=by
 refine ⟨?_,?_⟩
 ·rw [rdE,h];rfl
 ·rw [rdK,h];rfl
theorem c6o {s:ByteArray} {k:Int} (h:(m5 s 35).size < (R4 k).size):rdB s k=false:=by
 rw [rdB,rdA,decide_eq_false J];rfl
theorem c6p {s:ByteArray} {k:Int} (h:¬ ((m5 s 35).extract 0 (R4 k).size).toList=(R4 k).toList):rdB s k=false:=by
 rw [rdB,rdA,beq_eq_false_iff_ne.mpr h,Bool.and_false];rfl
theorem c8P {s:ByteArray} {k:Int} (h:(R4 k).size<=(m5 s 35).size) (h2:((m5 s 35).extract 0 (R4 k).size).toList=(R4 k).toList):rdA s k=true:=by
 rw [rdA,h2,decide_eq_true h,beq_self_eq_true];rfl
theorem c6q {s:ByteArray} {k:Int} (h:(m5 (F3 s k) 64).size=(F3 s k).size):rdB s k=false:=by
 rw [rdB,decide_eq_true h,Bool.not_true,Bool.and_false]
theorem c8Q {s:ByteArray} (ha:rdA s k=true) (h:¬ (m5 (F3 s k) 64).size=(F3 s k).size):rdB s k=true/\rdE s k=rdX s k:=by
 grind [rdB,rdE]
theorem b9i {s:ByteArray} {k:Int}:(rdX s k).c.size<=(F3 s k).size/\(rdX s k).r.size<=(F3 s k).size:=by
 have h1:=X8 (s:=F3 s k) (c:=64)
 have h2:=a7f (s:=F3 s k) (c:=64)
 refine ⟨?_,?_⟩
 ·show (m5 (F3 s k) 64).size<=_
  omega
 ·show ((F3 s k).extract ((m5 (F3 s k) 64).size+1) (F3 s k).size).size<=_
  simp
theorem b2b {s:ByteArray} (h:rdB s k=true/\rdE s k=rdX s k):rdK s k=(C9 (rdX s k) && (F2 k (rdX s k)).toList==(s++(⟨#[10]⟩:ByteArray)).toList):=by
 rw [rdK,h.1,h.2,Bool.true_and]
def riE (s:ByteArray):Rec:=⟨m5 (v1 (m5 s 35) 32) 64,v1 (v1 (m5 s 35) 32) 64⟩
def riK (s:ByteArray) (k:Int):Bool:=C9 (riE s) && (F2 k (riE s)).toList==(s++(⟨#[10]⟩:ByteArray)).toList
theorem c13 (hk:0<=k) (h:C9 x=true):riE (U1 (F9 k x))=x:=by
 obtain ⟨_,_,_,_,h5⟩:=a0O h
 have hf:=b0z hk h
 have hb:F9 k x=u7 k++(⟨#[32]⟩:ByteArray)++(x.c++(⟨#[64]⟩:ByteArray)++x.r):=by rw [a6q];rfl
 have h1:v1 (F9 k x) 32=x.c++(⟨#[64]⟩:ByteArray)++x.r:=by
  rw [hb]
  exact b2a (u:=32) (a3P (b:=32) hk J)
 have h2:m5 (x.c++(⟨#[64]⟩:ByteArray)++x.r) 64=x.c:=a5w (u:=64) h5
 have h3:v1 (x.c++(⟨#[64]⟩:ByteArray)++x.r) 64=x.r:=b2a (u:=64) h5
 rw [riE,hf,h1,h2,h3]
theorem c3O {s:ByteArray} (hk:0<=k):riK s k=rdK s k/\(rdK s k=true→riE s=rdE s k):=by
 grind [F2,b0y,c13,b9h,riK,b9g,a6p]
theorem c14 {s:ByteArray} {c:UInt8}:(⟨(Lib.cut s.data.toList (⟨#[c]⟩:ByteArray).data.toList).1.toArray⟩:ByteArray)=m5 s c.toNat/\(⟨(Lib.cut s.data.toList (⟨#[c]⟩:ByteArray).data.toList).2.1.toArray⟩:ByteArray)=v1 s c.toNat/\(Lib.cut s.data.toList (⟨#[c]⟩:ByteArray).data.toList).2.2=n7 s c.toNat:=by
 have h1:(⟨#[c]⟩:ByteArray).data.toList=[c]:=rfl
 rw [h1,Lib.cut,Lib.index_one]
 have hst:=a3N (s:=s) (c:=c)
 have hge:=Lib.indexByte_ge s.data.toList c
 cases h:n7 s c.toNat
 ·rw [h] at hst
  have hn:¬ 0<=Lib.indexByte s.data.toList c:=by simpa using hst
  rw [if_neg hn]
  refine ⟨?_,?_,Z⟩
  ·simp_all [m5,a8C]
  ·rw [v1,h];rfl
 ·rw [h] at hst
  have hn:0<=Lib.indexByte s.data.toList c:=by simpa using hst
  obtain ⟨o,ho⟩:∃o:Nat,Lib.indexByte s.data.toList c=o:=⟨(Lib.indexByte s.data.toList c).toNat,by omega⟩
  obtain ⟨g1,g2⟩:=Lib.indexByte_some ho
  have hlt:o < s.data.toList.length:=by
   grind
  have hi:O5 s c.toNat=o:=by
   refine a5v (λj hj=>?_) (by rw [← C2];exact hlt) ?_
   ·have g3:=g2 j hj
    have hjl:j < s.data.toList.length:=by omega
    rw [List.getElem?_eq_getElem hjl] at g3
    rw [V8,List.getD_eq_getElem?_getD,List.getElem?_eq_getElem hjl]
    simp only [Option.getD_some,beq_eq_false_iff_ne,ne_eq]
    intro e
    exact g3 (congrArg some (Lib.byte_eq_of_toNat e))
   ·rw [V8,List.getD_eq_getElem?_getD,g1];rfl
  rw [if_pos hn,ho]
  refine ⟨?_,?_,Z⟩
  ·apply a05
   rw [m5,hi,N2]
   simp
  ·apply a05
   rw [v1,h,if_pos Z,hi,N2,List.take_of_length_le (l:=s.data.toList.drop (o+1)) (i:=s.size - (o+1)) (by rw [List.length_drop,C2];exact Nat.le_refl _)]
   simp
def a4g (s:ByteArray):List Value:=[.string s]
def spO (s:ByteArray) (b:Int):Nat→List ByteArray×Nat
 | 0=>([],0)
 | i+1=>if s9 s i==b then ((spO s b i).1++[s.extract (spO s b i).2 i],i+1) else spO s b i
theorem b5P {s:ByteArray} {b:Int} {i:Nat}:(spO s b i).2<=i/\(spO s b i).1.length<=i:=by
 induction i with
 | zero=>exact ⟨Nat.le_refl _,Nat.le_refl _⟩
 | succ i ih =>
  unfold spO
  grind
theorem a1g {s:ByteArray} (h:s9 s i=b):spO s b (i+1)=((spO s b i).1++[s.extract (spO s b i).2 i],i+1):=by
 show (if s9 s i==b then _ else _)=_
 grind
theorem a39 {s:ByteArray} (h:¬ s9 s i=b):spO s b (i+1)=spO s b i:=by
 show (if s9 s i==b then _ else _)=_
 grind
theorem a95 {s:ByteArray} (h:∀j,j < i→(s9 s j==b)=false):spO s b i=([],0):=by
 induction i with
 | zero=>rfl
 | succ i ih=>rw [a39 (by simpa using h i (Nat.lt_succ_self i)),ih (λj hj=>h j J)]
def g8 (s:ByteArray) (b:Int):List ByteArray:=(spO s b s.size).1++[s.extract (spO s b s.size).2 s.size]
theorem V9 {s:ByteArray} {b:Int}:1<=(g8 s b).length/\(g8 s b).length<=s.size+1:=by
 grind [b5P,g8]
theorem b8o {s:ByteArray} (h:n7 s b=true) {i:Nat} (hi:O5 s b < i):∃t,(spO s b i).1=m5 s b :: t:=by
 obtain ⟨h1,h2,h3⟩:=H2 h
 induction i with
 | zero=>omega
 | succ i ih =>
  by_cases hb:s9 s i=b
  ·rw [a1g hb]
   by_cases he:i=O5 s b
   ·subst he
    rw [a95 h3]
    exact ⟨[],Z⟩
   grind
  ·grind [a39]
theorem Z1 {s:ByteArray} {b:Int}:(g8 s b).getD 0 default=m5 s b/\decide ((g8 s b).length < 2)=!n7 s b:=by
 cases h:n7 s b
 ·grind [a95,n7,V7,g8,m5,a8C]
 ·obtain ⟨t,ht⟩:=b8o h (H2 h).1
  rw [g8,ht]
  refine ⟨Z,?_⟩
  simp
def okL (s:ByteArray) (k:Int):Bool:=n7 s 10 && decide (k < 60) && rdK (m5 s 10) k
theorem a4E {s:ByteArray} {c:Int}:(v1 s c).size<=s.size:=by
 unfold v1
 split
 ·simp
 ·exact Nat.zero_le _
theorem a1w {s:ByteArray} {c:Int}:(m5 s c).size<=s.size:=by
 rw [X8];exact a7f
theorem b9j {s:ByteArray}:(riE s).c.size<=s.size/\(riE s).r.size<=s.size:=by
 grind [a1w,a4E,riE]
theorem c8R {s:ByteArray}:(riE s).c=m5 (v1 (m5 s 35) 32) 64:=by dsimp only [riE]
theorem c8S {s:ByteArray}:(riE s).r=v1 (v1 (m5 s 35) 32) 64:=by dsimp only [riE]
theorem b4F {s:ByteArray} (hk:0<=k):okL s k=(n7 s 10 && decide (k < 60) && riK (m5 s 10) k):=by
 rw [okL,(c3O hk).1]
def rrE (s:ByteArray) (k:Int):Rec:=if okL s k then rdE (m5 s 10) k else b6Q
def rrN (s:ByteArray) (k:Int):Int:=if okL s k then (m5 s 10).size+1 else 0
theorem b6R {s:ByteArray} {k:Int} (h:okL s k=false):rrE s k=b6Q/\rrN s k=0/\okL s k=false:=by
 rw [rrE,rrN,h];exact ⟨Z,Z,Z⟩
theorem c8T {s:ByteArray} {k:Int} (hk:0<=k) (h:okL s k=true):rrE s k=riE (m5 s 10)/\rrN s k=(m5 s 10).size+1/\okL s k=true:=by
 have h2:rdK (m5 s 10) k=true:=by
  simp only [okL,Bool.and_eq_true] at h
  exact h.2
 rw [rrE,rrN,h,(c3O hk).2 h2];exact ⟨Z,Z,Z⟩
def w4 (s:ByteArray):Nat→Nat
 | 0=>0
 | n+1=>w4 s n+(m5 (s.extract (w4 s n) s.size) 10).size+1
def H7 (s:ByteArray) (n:Nat):ByteArray:=s.extract (w4 s n) s.size
def N4 (s:ByteArray) (n:Nat):ByteArray:=m5 (H7 s n) 10
def okN (s:ByteArray) (n:Nat):Bool:=okL (H7 s n) n
def U3 (s:ByteArray) (n:Nat):Rec:=rdE (N4 s n) n
def J3 (s:ByteArray) (n:Nat):Int:=w4 s n
theorem a0s {s:ByteArray}:w4 s (n+1)=w4 s n+(N4 s n).size+1:=rfl
theorem b29 {s:ByteArray} (h:okN s n=true):n < 60:=by
 grind [okN,okL]
theorem b0A {s:ByteArray} {n:Nat}:(H7 s n).size=s.size - w4 s n:=by
 rw [H7,U2 (Nat.le_refl _)]
theorem a3Q {s:ByteArray} (h:okN s n=true):n7 (H7 s n) 10=true:=by
 simp only [okN,okL,Bool.and_eq_true] at h
 exact h.1.1
theorem a7g {s:ByteArray} (h:okN s n=true):w4 s n < s.size/\w4 s (n+1)<=s.size:=by
 have h1:=(H2 (a3Q h)).1
 have h2:=b0A (s:=s) (n:=n)
 rw [a0s,N4,X8]
 omega
theorem b3a {s:ByteArray} (h:∀j,j < n→okN s j=true):n<=w4 s n/\w4 s n<=s.size/\n<=60:=by
 induction n with
 | zero=>exact ⟨Nat.le_refl _,Nat.zero_le _,Nat.zero_le _⟩
 | succ n ih =>
  have h1:=ih (λj hj=>h j J)
  have h2:=a7g (h n (Nat.lt_succ_self n))
  have h3:=b29 (h n (Nat.lt_succ_self n))
  have h4:w4 s (n+1)=w4 s n+(N4 s n).size+1:=rfl
  omega
def l9 (s:ByteArray):Nat:=((List.range 60).find? (λn=>!okN s n)).getD 60
theorem a0F {s:ByteArray} (h:∀j,j < n→okN s j=true) (hn:okN s n=false):l9 s=n:=by
 have h60:n<=60:=(b3a h).2.2
 rcases Nat.lt_or_ge n 60 with h1 | h1
 ·have:(List.range 60).find? (λn=>!okN s n)=some n:=by
   simp_all
  rw [l9,this];rfl
 ·have he:n=60:=by omega
  subst he
  have:(List.range 60).find? (λn=>!okN s n)=none:=by
   grind
  rw [l9,this];rfl
theorem S9 {s:ByteArray}:(∀j,j < l9 s→okN s j=true)/\okN s (l9 s)=false:=by
 have key:∀n,(∀j,j < n→okN s j=true)∨∃m,m < n/\(∀j,j < m→okN s j=true)/\okN s m=false:=λn=>by
  induction n with
  | zero=>exact .inl (λj hj=>by omega)
  | succ n ih =>
   grind
 rcases key 61 with h | ⟨m,h1,h2,h3⟩
 ·exact absurd (b29 (h 60 J)) J
 ·rw [a0F h2 h3];exact ⟨h2,h3⟩
theorem b0B {s:ByteArray} (h:s.size<=w4 s n):okN s n=false:=by
 cases he:okN s n with
 | false=>rfl
 | true=>exact absurd (a7g he).1 J
theorem c6r {s:ByteArray} (h:60<=n):okN s n=false:=by
 cases he:okN s n with
 | false=>rfl
 | true=>exact absurd (b29 he) J
theorem c6s {s:ByteArray} (h:(g8 (H7 s n) 10).length < 2):okN s n=false:=by
 grind [Z1,okN,okL]
theorem b9k {s:ByteArray} (h:rdK (N4 s n) n=false):okN s n=false:=by
 rw [N4] at h
 rw [okN,okL,h,Bool.and_false]
theorem c8U {s:ByteArray} {n:Nat} (h:n < 60) (h2:¬ (g8 (H7 s n) 10).length < 2) (h3:rdK (N4 s n) n=true):okN s n=true:=by
 grind [Z1,N4,okN,okL]
theorem a2C {s:ByteArray} {a b:Nat}:(s.extract a b).size<=s.size:=by
 (simp_all;omega)
theorem b4G {s:ByteArray}:s.extract (J3 s n).toNat ((s.size:Int)).toNat=H7 s n:=by
 simp [H7,J3]
theorem b2c {s:ByteArray} {n:Nat}:J3 s n+((N4 s n).size:Int)+1=J3 s (n+1):=by
 simp [J3,a0s]
theorem a1F {s:ByteArray} {n:Nat}:J3 s n+(((N4 s n).size:Int)+1)=J3 s (n+1):=by
 simp [J3,a0s]
 omega
theorem c6t {s:ByteArray} (h:okN s n=true):rrE (H7 s n) n=U3 s n/\rrN (H7 s n) n=(N4 s n).size+1:=by
 rw [okN] at h
 rw [rrE,rrN,h]
 exact ⟨Z,Z⟩
theorem c15 {s:ByteArray} {k:Int} (h0:0<=k) (h1:k<=60) (h:rdK s k=true):s.size<=422:=by
 obtain ⟨h2,h3⟩:=b9h h
 have hb:=a5u h0 J h2
 have hs:=a2Z (s:=F9 k (rdE s k))
 have he:=congrArg ByteArray.size h3
 rw [F2,ByteArray.size_append,ByteArray.size_append] at he
 omega
theorem a7h {p:Nat} (h:p<=D.size):(D++P).extract p (D++P).size=D.extract p D.size++P:=by
 grind [a05,N2,N3,C2]
theorem b3b (h:i<=a.size):(a++z).extract 0 i=a.extract 0 i:=by
 grind [a05,N2,N3,C2]
theorem b8p {a z:ByteArray} {b:Int} (h:n7 a b=true):O5 (a++z) b=O5 a b/\n7 (a++z) b=true/\m5 (a++z) b=m5 a b:=by
 obtain ⟨h1,h2,h3⟩:=H2 h
 have hs:O5 a b < (a++z).size:=by rw [ByteArray.size_append];omega
 have hb:s9 (a++z) (O5 a b)=b:=by rw [a2d h1];exact h2
 have hi:O5 (a++z) b=O5 a b:=a5v (λj hj=>by rw [a2d J];exact h3 j hj) hs hb
 refine ⟨hi,V7 (i:=O5 a b) (by simpa using hb) hs,?_⟩
 rw [m5,m5,hi,b3b (Nat.le_of_lt h1)]
theorem b5Q (h:n7 (a++z) b=true) (hi:O5 (a++z) b < a.size):n7 a b=true:=by
 have h2:=(H2 h).2.1
 rw [a2d hi] at h2
 exact V7 (i:=O5 (a++z) b) (by simpa using h2) hi
theorem b3c (hp:w4 (D++P) n=w4 D n) (hs:n7 (H7 D n) 10=true) (hl:w4 D n<=D.size):okN (D++P) n=okN D n/\N4 (D++P) n=N4 D n:=by
 have hr:H7 (D++P) n=H7 D n++P:=by rw [H7,hp,a7h hl];rfl
 obtain ⟨h1,h2,h3⟩:=b8p (z:=P) hs
 refine ⟨?_,?_⟩
 ·rw [okN,okN,okL,okL,hr,h2,h3,hs]
 ·rw [N4,N4,hr,h3]
theorem b3d {D P:ByteArray} {n:Nat} (h:∀j,j < n→okN D j=true):(∀j,j < n→okN (D++P) j=true)/\w4 (D++P) n=w4 D n:=by
 induction n with
 | zero=>exact ⟨λj hj=>by omega,Z⟩
 | succ n ih =>
  obtain ⟨h1,h2⟩:=ih (λj hj=>h j J)
  have h3:=h n (Nat.lt_succ_self n)
  obtain ⟨h4,h5⟩:=b3c h2 (a3Q h3) (Nat.le_of_lt (a7g h3).1)
  refine ⟨s4 h1 (by rw [h4];exact h3),?_⟩
  rw [a0s,a0s,h2,h5]
theorem b0C {D P:ByteArray} {n:Nat} (h:∀j,j < n→okN (D++P) j=true) (hp:w4 (D++P) n<=D.size):(∀j,j < n→okN D j=true)/\w4 (D++P) n=w4 D n:=by
 induction n with
 | zero=>exact ⟨λj hj=>by omega,Z⟩
 | succ n ih =>
  have e:w4 (D++P) (n+1)=w4 (D++P) n+(N4 (D++P) n).size+1:=rfl
  obtain ⟨h1,h2⟩:=ih (λj hj=>h j J) J
  have h3:=h n (Nat.lt_succ_self n)
  have hr:H7 (D++P) n=H7 D n++P:=by rw [H7,a7h J,h2];rfl
  have h4:=a3Q h3
  have h5:(N4 (D++P) n).size=O5 (H7 (D++P) n) 10:=X8
  have h6:=b0A (s:=D) (n:=n)
  rw [hr] at h4 h5
  have h7:=b5Q h4 J
  obtain ⟨h8,h9⟩:=b3c h2 h7 J
  refine ⟨s4 h1 (by rw [← h8];exact h3),?_⟩
  rw [e,a0s,h2,h9]
theorem b9l {s:ByteArray} (h:∀j,j < n→okN s j=true):w4 s n<=423 * n:=by
 induction n with
 | zero=>exact Nat.le_refl _
 | succ n ih =>
  have h1:=ih (λj hj=>h j J)
  have h2:=h n (Nat.lt_succ_self n)
  have h3:=b29 h2
  simp only [okN,okL,Bool.and_eq_true] at h2
  have h4:=c15 (k:=(n:Int)) J J h2.2
  have e:w4 s (n+1)=w4 s n+(N4 s n).size+1:=rfl
  have e2:N4 s n=m5 (H7 s n) 10:=rfl
  rw [e2] at e
  omega
structure Lg where
 d:ByteArray
 p:ByteArray
 n:Int
instance:Inhabited Lg:=⟨⟨⟨#[]⟩,⟨#[]⟩,0⟩⟩
def c8V (x:Lg):List Value:=[.string x.d,.string x.p,.int .i64 x.n]
def a4F (x:Lg):Value:=.agg ⟨c8V x⟩
def okLg (x:Lg):Bool:=decide (x.d.size+x.p.size<=30000) && decide (w4 (x.d++x.p) (l9 (x.d++x.p))=x.d.size+x.p.size) && decide (w4 x.d (l9 x.d)=x.d.size) && decide ((l9 (x.d++x.p):Int)=x.n)
def b0D (s:ByteArray):Bool:=decide (1 < s.size) && s9 s 0==45
def r8 (s:ByteArray):ByteArray:=if b0D s then s.extract 1 s.size else s
def a1G (t:ByteArray) (j:Nat):Bool:=decide (48<=s9 t j) && decide (s9 t j<=57)
def dV (t:ByteArray):Nat→Int
 | 0=>0
 | i+1=>10 * dV t i+(s9 t i - 48)
theorem c3P {t:ByteArray} {i:Nat} (h:∀j,j < i→a1G t j=true):0<=dV t i/\(i<=6→dV t i<=999999)/\dV t i<=10 ^ i - 1:=by
 have key:0<=dV t i/\dV t i<=10 ^ i - 1:=by
  induction i with
  | zero=>exact ⟨Int.le_refl _,Int.le_refl _⟩
  | succ i ih =>
   have h1:=ih (λj hj=>h j J)
   have h2:=h i (Nat.lt_succ_self i)
   simp only [a1G,Bool.and_eq_true,decide_eq_true_eq] at h2
   have e:dV t (i+1)=10 * dV t i+(s9 t i - 48):=rfl
   omega
 refine ⟨key.1,λhi=>?_,key.2⟩
 have h3:i=0∨i=1∨i=2∨i=3∨i=4∨i=5∨i=6:=by omega
 grind
def nV (s:ByteArray):Int:=if b0D s then -(dV (r8 s) (r8 s).size) else dV (r8 s) (r8 s).size
def nmA (s:ByteArray):Bool:=o8 (r8 s).size 1 6 && a2A (r8 s).size (a1G (r8 s))
def nmK (s:ByteArray):Bool:=nmA s && (u7 (nV s)).toList==s.toList
def nmN (s:ByteArray):Int:=if nmK s then nV s else 0
theorem b5R {s:ByteArray} (h:nmK s=false):nmN s=0/\nmK s=false:=by rw [nmN,h];exact ⟨Z,Z⟩
theorem c8W {s:ByteArray} (h:nmK s=true):nmN s=nV s/\nmK s=true:=by rw [nmN,h];exact ⟨Z,Z⟩
theorem c3Q {s:ByteArray} (h:o8 (r8 s).size 1 6=false):nmK s=false:=by rw [nmK,nmA,h];rfl
theorem c8X {s:ByteArray} (hi:i < (r8 s).size) (h:a1G (r8 s) i=false):nmK s=false:=by
 rw [nmK,nmA,a1D (i:=i) h hi,Bool.and_false];rfl
theorem a22 {b:ByteArray} {j:Nat}:s9 (a++b) j=if j < a.size then s9 a j else s9 b (j - a.size):=by
 have hs:a.data.toList.length=a.size:=rfl
 simp only [s9,ByteArray.data_append,Array.toList_append,List.getD_eq_getElem?_getD,List.getElem?_append,hs]
 split<;>rfl
theorem b9m {b:ByteArray}:∀i,i<=a.size→dV (a++b) i=dV a i
 | 0,_=>rfl
 | i+1,h=>by
  simp only [dV]
  rw [b9m i J,a22,if_pos J]
theorem b2d (h:d < 10):s9 ⟨#[UInt8.ofNat (48+d)]⟩ 0=48+d:=by
 rcases d with _ | _ | _ | _ | _ | _ | _ | _ | _ | _ | d<;>first | rfl | omega
theorem a23 {u:UInt8}:(⟨#[u]⟩:ByteArray).size=1:=rfl
theorem a6r:∀n:Nat,1<=(u7 n).size/\(∀j,j < (u7 n).size→a1G (u7 n) j=true)/\dV (u7 n) (u7 n).size=n/\∀k,n < 10 ^ (k+1)→(u7 n).size<=k+1:=by
 intro n
 induction n using Nat.strongRecOn with
 | _ n ih =>
  rcases Nat.lt_or_ge n 10 with h | h
  ·rw [a3M h]
   have hb:=b2d h
   refine ⟨Nat.le_refl _,λj hj=>?_,?_,λk _=>by rw [a23];omega⟩
   ·rw [a23] at hj
    obtain rfl:j=0:=by omega
    simp only [a1G,hb,Bool.and_eq_true,decide_eq_true_eq]
    omega
   ·rw [a23]
    simp only [dV,hb]
    omega
  ·obtain ⟨h1,h2,h3,h4⟩:=ih (n / 10) J
   rw [a5t h]
   have hd:n % 10 < 10:=Nat.mod_lt _ (by decide)
   have hb:=b2d hd
   have hsz:(u7 ((n / 10:Nat):Int)++(⟨#[UInt8.ofNat (48+n % 10)]⟩:ByteArray)).size=(u7 ((n / 10:Nat):Int)).size+1:=by rw [ByteArray.size_append,a23]
   rw [hsz]
   refine ⟨by omega,λj hj=>?_,?_,λk hk=>?_⟩
   ·rcases Nat.lt_or_ge j (u7 ((n / 10:Nat):Int)).size with h5 | h5
    ·grind [a1G,a22]
    ·have e:j - (u7 ((n / 10:Nat):Int)).size=0:=by omega
     simp only [a1G,a22,if_neg (show ¬ j < (u7 ((n / 10:Nat):Int)).size by omega),e,hb,Bool.and_eq_true,decide_eq_true_eq]
     omega
   ·grind [dV,b9m,a22]
   ·cases k with
    | zero=>simp at hk;omega
    | succ k =>
     have:=h4 k (by rw [Nat.pow_succ] at hk;omega)
     omega
theorem c16 {n:Int} (h0:-999999<=n) (h1:n<=999999):b0D (u7 n)=decide (n < 0)/\r8 (u7 n)=u7 (n.natAbs:Int):=by
 rcases Int.lt_or_le n 0 with h | h
 ·obtain ⟨k,rfl⟩:∃k:Nat,n=-(k:Int):=⟨n.natAbs,by omega⟩
  obtain ⟨g1,g2,g3,g4⟩:=a6r k
  have e:u7 (-(k:Int))=(⟨#[45]⟩:ByteArray)++u7 (k:Int):=by rw [a4B h,Int.neg_neg]
  have hn:b0D (u7 (-(k:Int)))=true:=by
   rw [e]
   simp only [b0D,a22,ByteArray.size_append,a23,Bool.and_eq_true,decide_eq_true_eq,beq_iff_eq]
   exact ⟨by omega,Z⟩
  refine ⟨by rw [hn,decide_eq_true h],?_⟩
  rw [r8,if_pos hn,e]
  have e2:=a5x (a:=(⟨#[45]⟩:ByteArray)) (b:=u7 (k:Int))
  rw [a23] at e2
  rw [e2]
  congr 1
  omega
 ·obtain ⟨k,rfl⟩:∃k:Nat,n=(k:Int):=⟨n.natAbs,by omega⟩
  obtain ⟨g1,g2,g3,g4⟩:=a6r k
  have hn:b0D (u7 (k:Int))=false:=by
   grind [a1G,b0D]
  refine ⟨by rw [hn,decide_eq_false J],?_⟩
  rw [r8,hn]
  rfl
theorem c6u {n:Int} (h0:-999999<=n) (h1:n<=999999):nmK (u7 n)=true/\nmN (u7 n)=n:=by
 obtain ⟨e1,e2⟩:=c16 h0 h1
 obtain ⟨g1,g2,g3,g4⟩:=a6r n.natAbs
 have hs:(u7 (n.natAbs:Int)).size<=6:=g4 5 (by have:(10:Nat) ^ (5+1)=1000000:=Z;omega)
 have hv:nV (u7 n)=n:=by
  rw [nV,e1,e2,g3]
  grind
 have hk:nmK (u7 n)=true:=by
  grind [nmK,nmA,o8,E3]
 exact ⟨hk,by rw [nmN,if_pos hk,hv]⟩
theorem b9n {s:ByteArray} (h:nmK s=true):u7 (nmN s)=s/\-999999<=nmN s/\nmN s<=999999:=by
 have h0:=h
 rw [nmK,Bool.and_eq_true] at h0
 have h1:=h0.1
 rw [nmA,Bool.and_eq_true] at h1
 have h2:=h1.1
 simp only [o8,Bool.and_eq_true,decide_eq_true_eq] at h2
 have h3:=c3P (t:=r8 s) (i:=(r8 s).size) (λj hj=>E3.mp h1.2 j hj)
 have h4:=h3.2.1 J
 rw [(c8W h).1]
 refine ⟨a4x (by simpa using h0.2),?_,?_⟩<;>(unfold nV;split<;>omega)
theorem a7i {b:UInt8}:∀{l:List UInt8} {acc:Nat},Lib.decFrom acc (l++[b])=(Lib.decFrom acc l).bind (λm=>(Lib.digitVal b).map (λd=>m * 10+d))
 | [],acc=>by
  simp only [List.nil_append,Lib.decFrom]
  grind
 | x :: r,acc=>by
  simp only [List.cons_append,Lib.decFrom]
  cases Lib.digitVal x with
  | none=>rfl
  | some d=>exact a7i
theorem a9g (h:d < 10):Lib.digitVal (UInt8.ofNat (48+d))=some d:=by
 rcases d with _ | _ | _ | _ | _ | _ | _ | _ | _ | _ | d<;>first | rfl | omega
theorem b0E:∀n:Nat,Lib.decFrom 0 (Lib.decDigits n)=some n/\Lib.decDigits n≠[]/\∃d,d < 10/\(Lib.decDigits n)[0]?=some (UInt8.ofNat (48+d)):=by
 intro n
 induction n using Nat.strongRecOn with
 | _ n ih =>
  rw [Lib.decDigits]
  split
  ·rename_i h
   exact ⟨by simp only [Lib.decFrom];rw [a9g h];simp,by simp,n,h,Z⟩
  ·rename_i h
   obtain ⟨h1,h2,d,h3,h4⟩:=ih (n / 10) J
   refine ⟨?_,by simp,d,h3,?_⟩
   ·grind [a7i,a9g]
   grind
theorem b9o {n:Int}:Lib.atoi (u7 n).data.toList=some n:=by
 have e:(u7 n).data.toList=Lib.itoa n:=by simp [u7]
 rw [e,Lib.itoa]
 split
 ·rename_i h
  obtain ⟨h1,h2,_⟩:=b0E n.natAbs
  simp only [Lib.atoi,beq_self_eq_true,if_true,Lib.decNat]
  grind
 ·rename_i h
  obtain ⟨h1,h2,d,h3,h4⟩:=b0E n.toNat
  cases hq:Lib.decDigits n.toNat with
  | nil=>exact absurd hq h2
  | cons x r =>
   rw [hq] at h1 h4
   have hx:x=UInt8.ofNat (48+d):=by simpa using h4
   have hx1:(x==45)=false:=by
    subst hx
    rcases d with _ | _ | _ | _ | _ | _ | _ | _ | _ | _ | d<;>first | rfl | omega
   have hx2:(x==43)=false:=by
    subst hx
    rcases d with _ | _ | _ | _ | _ | _ | _ | _ | _ | _ | d<;>first | rfl | omega
   simp only [Lib.atoi,hx1,hx2,Bool.false_eq_true,if_false,Lib.decNat,List.isEmpty_cons,h1,Option.map_some]
   congr 1
   omega
def b0F (s:ByteArray):Bool:=match Lib.atoi s.data.toList with | none=>false | some n=>o8 n (-999999) 999999 && (u7 n).toList==s.toList
theorem b3e {s:ByteArray} (h:s.size<=7):b0F s=nmK s/\(b0F s=true→(Lib.atoi s.data.toList).getD 0=nmN s):=by
 grind [b9n,b9o,b0F,o8,a4x,c6u]
theorem b6S {s:ByteArray} (h:7 < s.size):nmK s=false/\nmN s=0:=by
 have hb:7<=(r8 s).size:=by
  unfold r8
  split
  ·rw [ByteArray.size_extract];omega
  ·omega
 have hk:nmK s=false:=c3Q (by simp only [o8,Bool.and_eq_false_iff,decide_eq_false_iff_not];omega)
 exact ⟨hk,(b5R hk).1⟩
def nnB:Value→Bool
 | .nilIface=>false
 | _=>true
def c3R (e:Value):Prop:=e=.nilIface∨∃t p,e=.iface t (.pointer p)
theorem b6T {ids:List Nat}:∀{xs:List Value},renAs ids (xs.map AV.v)=xs.map AV.v
 | []=>rfl
 | x :: r=>by simp [renAs,a4y,b6T (xs:=r)]
section
variable {P:Program} [Env P] {w0:Base} {ops:Array Oper} {o:Oper} {T:List (Nat×AV)} {m:List (Nat×Option Row)} {nx nt d:Nat}
theorem d01 {x:Operand} {t t':TypeId} {e:Value} (hu:P.underlying t=some (.interface (P.methodsAt t))) (ho:o.op=.binOp .neq t x (.const .nilIface) t') (hx:ev T x=some (.v e)) (he:c3R e):QStep P o T m nx nt (.v (.bool (nnB e))) :=
 QStep.val λw0 ρ ac hT w'=>by
  have h1:=hT.ev hx
  simp only [RelV] at h1
  have h2:ac.eval (.const .nilIface)=.nilIface:=rfl
  rcases he with rfl | ⟨te,pe,rfl⟩
  ·simp [execOp,ho,h1,h2,eqGuard,run_neq_nil_nil w' t hu,nnB]
  ·simp [execOp,ho,h1,h2,eqGuard,run_neq_held_nil w' t te _ hu,nnB]
theorem CtrX.lib {α:Type} {R:α→Prop} {f:FuncId} {xs:List Value} {A B:α→Value} (hc:Callable P f)
 (h:∀w,Env.E P w→Calls P f xs.toArray w λe w'=>∃x,R x/\e=.returned (.tuple #[A x,B x])/\Below w.heap.size w w'):CtrX P f (xs.map .v) [] R (λx=>.many [.v (A x),.v (B x)]) (λ_=>[]):=by
 refine ⟨hc,λw0 hw ρ m nx ids w vs hin _ hC hv=>?_⟩
 have hid:ids=[]:=List.eq_nil_of_length_eq_zero (by simpa using hin.len)
 subst hid
 rw [b6T] at hv
 rw [RelVs.map_v_eq (w0:=w0.w) xs hv]
 refine (h w (hC.env P)).mono λe w' ⟨x,hx,he,hb⟩=>?_
 refine ⟨x,hx,_,ρ,he,λ_ _=>Z,Nat.le_refl _,?_,hC.trans hb⟩
 show RelV w0.w ρ nx (.tup [.v (A x),.v (B x)]) _
 simp [RelV,RelVs]
end
theorem c17 {s:ByteArray} (h:s.size<=7):-1000000000000000000 < (Lib.atoi s.data.toList).getD 0/\(Lib.atoi s.data.toList).getD 0 < 1000000000000000000:=by
 cases ha:Lib.atoi s.data.toList with
 | none=>simp
 | some n=>exact Lib.atoi_bound ha (by show s.size<=18;omega)
theorem a24 {s:ByteArray} (h:7 < s.size):nmN s=0/\nmK s=false:=⟨(b6S h).2,(b6S h).1⟩
theorem a5y {s:ByteArray} (h:s.size<=7) (ha:(Lib.atoi s.data.toList).isNone=true):nmN s=0/\nmK s=false:=by
 have h1:b0F s=false:=by unfold b0F;rw [Option.isNone_iff_eq_none.mp ha]
 have:=(b3e h).1
 rw [h1] at this
 exact ⟨(b5R this.symm).1,this.symm⟩
theorem a8D {s:ByteArray} (h:s.size<=7) (hi:o8 ((Lib.atoi s.data.toList).getD 0) (-999999) 999999=false):nmN s=0/\nmK s=false:=by
 have h1:b0F s=false:=by
  grind [b0F]
 have:=(b3e h).1
 rw [h1] at this
 exact ⟨(b5R this.symm).1,this.symm⟩
theorem b2e {s:ByteArray} (h:s.size<=7) (ha:(Lib.atoi s.data.toList).isNone=false) (hi:¬ (u7 ((Lib.atoi s.data.toList).getD 0)).toList=s.toList):nmN s=0/\nmK s=false:=by
 have h1:b0F s=false:=by
  grind [b0F]
 have:=(b3e h).1
 rw [h1] at this
 exact ⟨(b5R this.symm).1,this.symm⟩
theorem a8E {s:ByteArray} (h:s.size<=7) (ha:(Lib.atoi s.data.toList).isNone=false) (hi:o8 ((Lib.atoi s.data.toList).getD 0) (-999999) 999999=true) (he:(u7 ((Lib.atoi s.data.toList).getD 0)).toList=s.toList):nmN s=(Lib.atoi s.data.toList).getD 0/\nmK s=true:=by
 have h1:b0F s=true:=by
  grind [b0F]
 obtain ⟨h2,h3⟩:=b3e h
 grind
theorem b9p {s:ByteArray}:(r8 s).size < s.size↔b0D s=true:=by
 unfold r8
 split
 ·rename_i h
  have h2:=h
  simp only [b0D,Bool.and_eq_true,decide_eq_true_eq] at h2
  (simp_all;omega)
 grind
theorem c6v {s:ByteArray}:(r8 s).size<=s.size:=by
 unfold r8
 split
 ·rw [ByteArray.size_extract];omega
 ·exact Nat.le_refl _
theorem c8Y {s:ByteArray} (h1:1 < s.size) (h2:s9 s 0=45):s.extract 1 s.size=r8 s:=by
 rw [r8,if_pos (by simp [b0D,h1,h2])]
theorem c3S {s:ByteArray} (h:¬ (1 < s.size/\s9 s 0=45)):s=r8 s:=by
 grind [r8,b0D]
theorem a25 {s:ByteArray} (h:(r8 s).size < s.size):nV s=-(dV (r8 s) (r8 s).size):=by rw [nV,if_pos (b9p.mp h)]
theorem a26 {s:ByteArray} (h:¬ (r8 s).size < s.size):nV s=dV (r8 s) (r8 s).size:=by rw [nV,if_neg (λg=>h (b9p.mpr g))]
theorem b1E {s:ByteArray} (h:o8 (r8 s).size 1 6=false):nmN s=0/\nmK s=false:=b5R (c3Q h)
theorem b1F {s:ByteArray} {i:Nat} (hi:i < (r8 s).size) (h:a1G (r8 s) i=false):nmN s=0/\nmK s=false:=b5R (c8X hi h)
theorem a27 {s:ByteArray} {n:Int} (e:nV s=n) (h:¬ (u7 n).toList=s.toList):nmN s=0/\nmK s=false:=b5R (by rw [nmK,e];simp [h])
theorem a29 {s:ByteArray} {n:Int} {i:Nat} (h1:o8 (r8 s).size 1 6=true) (hi:(r8 s).size<=i) (h2:∀j,j < i→a1G (r8 s) j=true) (e:nV s=n) (h:(u7 n).toList=s.toList):nmN s=n/\nmK s=true:=by
 grind [nmK,nmA,E3,c8W]
theorem b6U {t:ByteArray} {i:Nat} (h1:48<=s9 t i) (h2:s9 t i<=57) (h3:0<=dV t i) (h4:dV t i<=999999):IntKind.i64.wrap (10 * dV t i+IntKind.i64.wrap (IntKind.u8.wrap (s9 t i - 48)))=dV t (i+1):=by
 have e1:IntKind.u8.wrap (s9 t i - 48)=s9 t i - 48:=by
  show Int.emod _ 256=_
  exact Int.emod_eq_of_lt J J
 have e2:IntKind.i64.wrap (s9 t i - 48)=s9 t i - 48:=P0 J J
 rw [e1,e2,P0 J J]
 rfl
end Go.Rf
