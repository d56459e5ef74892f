/- Texts merged into one: RfG, RfH, RfM, RfN, RfO, RfP, RfS, RfJ, RfT, RfI, RfK, Rf9, RfU, RfW, Rf0, RfXA, RfXB, RfXD, RfX, RfL, RfR, RfV, Rf1, Rf2, Rf3, Rf4, Rf8, RfXH, RfXI. -/
import Derived.Test.YtdhckhjphmjniaaGreatDoorLibA
import Derived.Deep.LoopGhost
import Derived.Deep.Slices
import Derived.Deep.Fields
import Derived.ChangeSame
import Derived.Lib.SmallJoins
import Derived.ChangeOld
import Derived.OrdersHeld
import Derived.Laws.StructEq
import Derived.Laws.BytesArg
import Derived.Lib.LaidTab
import Derived.Lib.ItoaNum
import Derived.Lib.ItoaLen
import Derived.Sort.Grow
import Derived.Lib.IndexLaws
import Derived.Lib.IndexBytes
import Derived.Lib.IndexMore
import Derived.Lib.Atoi
import Derived.Lib.AtoiBound
import Derived.WideLaws
set_option linter.unusedSectionVars false
set_option linter.unusedSimpArgs false
set_option linter.unusedVariables false
namespace Go.Rf
open Go Go.RowKit
section
variable {P:Program} [Env P] {w0:Base} {ops:Array Oper} {tb:List (Nat×TyI)} {o:Oper} {rest:List Oper} {T:List (Nat×AV)} {m:List (Nat×Option Row)} {nx nt d:Nat} {r:AV} {Q:Exit→St→Prop}
def a5P (T:List (Nat×AV)) (dflt:Int):Option Operand→Option Int
 | none=>some dflt
 | some x=>match ev T x with
  | some (.v (.int _ i))=>some i
  | _=>none
theorem a4V {w0:World} {ρ:Nat→Value} {a:Act} (hT:RelT w0 ρ T nx nt a) {dflt i:Int} {x:Option Operand} (h:a5P T dflt x=some i):(x.map a.eval=none/\i=dflt)∨∃k,x.map a.eval=some (.int k i):=by
 cases x with
 | none=>simp [a5P] at h;exact .inl ⟨Z,h.symm⟩
 | some x =>
  simp only [a5P] at h
  split at h
  ·rename_i k i' he
   cases h
   have:=hT.ev he
   simp only [RelV] at this
   grind
  ·cases h
theorem z6 {t:Nat} {z:Value} {s:ByteArray} {x:Operand} {lo hi:Option Operand} {l h:Int} (G:Good P tb) (ho:o.op=.slice t x lo hi none) (ht:look t tb=some (.flat .str z)) (hx:ev T x=some (.v (.string s))) (hl:a5P T 0 lo=some l) (hh:a5P T s.size hi=some h)
 (h0:0<=l) (h1:l<=h) (h2:h<=s.size):QStep P o T m nx nt (.v (.string (s.extract l.toNat h.toNat))) :=
 QStep.val λw0 ρ a hT w'=>by
  have hxe:=hT.ev hx
  simp only [RelV] at hxe
  have hu:P.underlying t=some .string:=(G t _ ht).1
  have eh:(h.toNat:Int)=h:=Int.toNat_of_nonneg J
  have hh1:0<=h:=by omega
  have hl2:l<=(s.size:Int):=by omega
  rcases a4V hT hl with ⟨e1,rfl⟩ | ⟨k1,e1⟩<;>rcases a4V hT hh with ⟨e2,rfl⟩ | ⟨k2,e2⟩ <;>
   simp [execOp,ho,hxe,e1,e2,Instr.sliceAt,Instr.slice,run_underlying hu,Instr.sliceBounds,Instr.sliceBound,asIntOf,h0,h1,h2,hh1,hl2,eh]
theorem a9u {w0:World} {t e sz by_:Nat} {zs:List Value} (G:TyOK P t (.slice e sz by_ zs)) {ρ:Nat→Value} {a:Act} (hT:RelT w0 ρ T nx nt a) {lo hi:Option Operand} {l h:Int} {A:Option Addr} {n cap:Nat} (hl:a5P T 0 lo=some l) (hh:a5P T n hi=some h)
 (h0:0<=l) (h1:l<=h) (h2:h<=n) (hc:n<=cap) (w:World) :
 (Instr.sliceAt t (.slice A n cap) (lo.map a.eval) (hi.map a.eval) none).run P w=.ok (.slice (if cap=l.toNat then A else A.map (·.add (l.toNat * sz))) (h.toNat - l.toNat) (cap - l.toNat)) w:=by
 obtain ⟨hu,_,i,z,hi',hs,_⟩:=G
 have eh:(h.toNat:Int)=h:=Int.toNat_of_nonneg J
 have hh1:0<=h:=by omega
 have hl2:l<=(n:Int):=by omega
 have hcap:h<=(cap:Int):=by omega
 have hcap2:(n:Int)<=(cap:Int):=by omega
 rcases a4V hT hl with ⟨e1,rfl⟩ | ⟨k1,e1⟩<;>rcases a4V hT hh with ⟨e2,rfl⟩ | ⟨k2,e2⟩ <;>
  simp [e1,e2,Instr.sliceAt,Instr.slice,run_underlying hu,Instr.sliceBounds,Instr.sliceBound,asIntOf,sizeOf,typeInfo,hi',hs,h0,h1,h2,hh1,hl2,eh,hcap,hcap2]
theorem N3 {t e sz by_:Nat} {zs:List Value} {ys:List (List Value)} {x:Operand} {lo hi:Option Operand} {l h:Int} (G:Good P tb) (ho:o.op=.slice t x lo hi none) (ht:look t tb=some (.slice e sz by_ zs)) (hx:ev T x=some (.lst sz ys)) (hl:a5P T 0 lo=some l) (hh:a5P T ys.length hi=some h)
 (h0:0<=l) (h1:l<=h) (h2:h<=ys.length):QStep P o T m nx nt (.lst sz ((ys.drop l.toNat).take (h.toNat - l.toNat))) :=
 QStep.run λw0 ρ a w hT hC=>by
  have hxe:=hT.ev hx
  simp only [RelV] at hxe
  obtain ⟨A,cap,he,hcap,hall,hA⟩:=hxe
  have hlen:((ys.drop l.toNat).take (h.toNat - l.toNat)).length=h.toNat - l.toNat:=by rw [List.length_take,List.length_drop];omega
  refine ⟨.slice (if cap=l.toNat then A else A.map (·.add (l.toNat * sz))) (h.toNat - l.toNat) (cap - l.toNat),?_,λw' hC'=>?_⟩
  ·simp only [RelV]
   refine ⟨_,_,by rw [hlen],by rw [hlen];omega,λc hc=>hall c (List.mem_of_mem_drop (List.mem_of_mem_take hc)),λhpos=>?_⟩
   rw [hlen] at hpos
   have hpos2:0 < ys.length:=by omega
   obtain ⟨ad,rfl,hb,hcell⟩:=hA hpos2
   have hcl:cap≠l.toNat:=by omega
   rw [if_neg hcl]
   refine ⟨_,Z,by rw [D0];exact hb,λi c hi j u hj=>?_⟩
   have hi2:ys[l.toNat+i]?=some c:=by
    grind
   have:=hcell _ _ hi2 j u hj
   rw [a2t,← this]
   grind
  ·have:=a9u (G t _ ht) hT (A:=A) hl hh h0 h1 h2 hcap w'
   simp only [execOp,ho,he,Option.map_none,this,Sem.run_bind,Result.andThen_ok,Sem.run_pure]
theorem a4W {t e e' sz by_ id:Nat} {zs:List Value} {ys:List (List Value)} {x:Operand} {lo hi:Option Operand} {l h:Int} (G:Good P tb) (ho:o.op=.slice t x lo hi none) (ht:look t tb=some (.slice e sz by_ zs)) (hx:ev T x=some (.own id)) (hm:mem m id=some (.row e' sz ys))
 (hl:a5P T 0 lo=some l) (hh:a5P T ys.length hi=some h) (h0:0<=l) (h1:l<=h) (h2:h<=ys.length):QStep P o T m nx nt (.sub id sz l.toNat (h.toNat - l.toNat)) :=
 QStep.run λw0 ρ a w hT hC=>by
  have hxe:=hT.ev hx
  simp only [RelV] at hxe
  obtain ⟨hrow,_⟩:=hC.row hm
  have hshape:∃A cap,ρ id=.slice A ys.length cap/\ys.length<=cap/\(0 < ys.length→∃g,A=some ⟨g,0,none⟩):=by
   rcases hrow.2 with ⟨e1,e2⟩ | ⟨g,cap,cur,e1,_,_,e2,_⟩
   ·exact ⟨none,0,by rw [e1,e2],by omega,λh=>by omega⟩
   ·exact ⟨_,cap,e1,e2,λ_=>⟨g,Z⟩⟩
  obtain ⟨A,cap,he,hcap,hA⟩:=hshape
  refine ⟨.slice (if cap=l.toNat then A else A.map (·.add (l.toNat * sz))) (h.toNat - l.toNat) (cap - l.toNat),?_,λw' hC'=>?_⟩
  ·simp only [RelV]
   refine ⟨hxe.1,_,_,Z,by omega,λhpos=>?_,λhl0=>⟨ys.length,?_,by omega⟩⟩
   have hpos2:0 < ys.length:=by omega
   obtain ⟨g,rfl⟩:=hA hpos2
   have hcl:cap≠l.toNat:=by omega
   rw [if_neg hcl]
   exact ⟨g,_,_,he,by simp [Addr.add_lit]⟩
   ·rw [he,hl0]
    have e:A.map (λa=>a.add 0)=A:=by cases A<;>simp [Addr.add_zero']
    simp [e]
  ·have:=a9u (G t _ ht) hT (A:=A) hl hh h0 h1 h2 hcap w'
   simp only [execOp,ho,hxe.2,he,Option.map_none,this,Sem.run_bind,Result.andThen_ok,Sem.run_pure]
def evs (T:List (Nat×AV)):List Operand→List AV→Option (List AV)
 | [],acc=>a3a acc []
 | x :: r,acc=>match ev T x with
  | some a=>evs T r (a :: acc)
  | none=>none
theorem b3t {ρ:Nat→Value} {a:Act} (hT:RelT w0 ρ T nx nt a):∀{xs:List Operand} {acc rs:List AV} {acc':List Value},evs T xs acc=some rs→RelVs w0 ρ nx acc.reverse acc'→RelVs w0 ρ nx rs (acc'++xs.map a.eval)
 | [],acc,rs,acc',h,ha=>by simp [evs,F9] at h;subst h;simpa using ha
 | x :: xs,acc,rs,acc',h,ha=>by
  simp only [evs] at h
  cases h1:ev T x with
  | none=>simp [h1] at h
  | some av =>
   simp only [h1] at h
   have:=b3t hT h (acc':=acc'++[a.eval x]) (by
    rw [List.reverse_cons]
    refine RelVs.append _ ha ?_
    simp only [RelVs]
    exact ⟨_,_,Z,hT.ev h1,Z⟩)
   simpa using this
theorem a9U {f:FuncId} {caps:Array Operand} {cs:List AV} (ho:o.op=.makeFunc (.func f) #[] caps) (hc:evs T caps.toList []=some cs):QStep P o T m nx nt (.fnc f cs) :=
 QStep.run λw0 ρ a w hT hC=>by
  have:=b3t hT hc (acc':=[]) (by simp [RelVs])
  refine ⟨.func (.func f) #[] (caps.map a.eval),?_,λw' _=>by simp [execOp,ho,Instr.makeFunc]⟩
  simp only [RelV]
  exact ⟨caps.toList.map a.eval,by rw [← Array.toList_map],by simpa using this⟩
def a7U (n:Nat):List (Nat×Nat×Nat)→Bool
 | []=>true
 | q :: r=>Nat.blt q.2.2 n && a7U n r
theorem a5Q {n:Nat}:∀{op:List (Nat×Nat×Nat)},a7U n op=true→∀q∈op,q.2.2 < n
 | [],_,q,hq=>by cases hq
 | p :: r,h,q,hq=>by
  simp only [a7U,Bool.and_eq_true] at h
  rcases List.mem_cons.1 hq with rfl | hq
  ·simp_all
  ·exact a5Q h.2 q hq
def rowRefs (n:Nat):Row→Bool
 | .box cs=>H7 n cs
 | .row _ _ _ _=>true
 | .byt _=>true
 | .spare _ _ _ _=>true
 | .nest _ _ _ op=>a7U n op
def WeakT (T:List (Nat×AV)) (n:Nat):List (Nat×AV)→Prop
 | []=>True
 | (t,x) :: r=>(∃x',look t T=some x'/\x'=x)/\z7 n x=true/\WeakT T n r
def WeakM (m:List (Nat×Option Row)) (n:Nat):List (Nat×Option Row)→Prop
 | []=>True
 | (id,none) :: r=>WeakM m n r
 | (id,some row) :: r=>(∃row',mem m id=some row'/\row'=row)/\Nat.blt id n=true/\rowRefs n row=true/\WeakM m n r
theorem WeakT.get {n:Nat}:∀{T':List (Nat×AV)},WeakT T n T'→∀t x,(t,x)∈T'→look t T=some x/\z7 n x=true
 | [],_,_,_,h=>by simp at h
 | (t',x') :: r,hw,t,x,h=>by
  obtain ⟨⟨y,h1,h2⟩,h3,h4⟩:=hw
  rcases List.mem_cons.1 h with he | h
  ·grind
  ·exact WeakT.get h4 t x h
theorem WeakM.get {n:Nat}:∀{m':List (Nat×Option Row)},WeakM m n m'→∀id row,(id,some row)∈m'→mem m id=some row/\id < n/\rowRefs n row=true
 | [],_,_,_,h=>by simp at h
 | (id',none) :: r,hw,id,row,h=>by
  rcases List.mem_cons.1 h with he | h
  ·cases he
  ·exact WeakM.get (m':=r) hw id row h
 | (id',some row') :: r,hw,id,row,h=>by
  obtain ⟨⟨y,h1,h2⟩,h3,h4,h5⟩:=hw
  rcases List.mem_cons.1 h with he | h
  ·simp_all
  ·exact WeakM.get h5 id row h
structure Weak (S S':St):Prop where
 nt:S'.nt=S.nt
 T:WeakT S.T S'.nx S'.T
 m:WeakM S.m S'.nx S'.m
theorem a5R {id:Nat} {row:Row} (h:mem m id=some row):(id,some row)∈m:=by
 grind [mem,a6y]
theorem Weak.rel {S S':St} (hw:Weak S S') (hn0:w0.n0<=S'.nx) {ρ:Nat→Value} {a:Act} {w:World} (hT:RelT w0 ρ S.T S.nx S.nt a) (hC:RelC w0 ρ S.m S.nx w):RelT w0 ρ S'.T S'.nx S'.nt a/\RelC w0 ρ S'.m S'.nx w:=by
 refine ⟨⟨λt x hx=>?_,by rw [hw.nt];exact hT.size,hT.defers⟩,⟨λid row hr=>?_,λid id' r r' hr hr' hne=>?_,hC.below,⟨hn0,hC.pin.2⟩,⟨hC.kept.1,hC.kept.2.1,λid r hr=>hC.kept.2.2 id r (hw.m.get id r (a5R hr)).1⟩,
  hC.inner' (Nat.le_refl _) (λid r hr=>.inr ⟨r,(hw.m.get id r (a5R hr)).1,λ_ _ h=>h⟩) (λid r hr b hb=>.inl ⟨id,r,(hw.m.get id r (a5R hr)).1,hb⟩)⟩⟩
 ·obtain ⟨h1,h2⟩:=hw.T.get t x (a6y hx)
  exact (hT.tmps t x h1).less x h2
 ·obtain ⟨h1,h2,h3⟩:=hw.m.get id row (a5R hr)
  obtain ⟨_,h4⟩:=hC.rows id row h1
  exact ⟨h2,h4.to Z (λcs e l hl=>by subst e;exact RelVs.less cs h3 hl) λe sz yss op he q hq _=>by subst he;exact ⟨a5Q h3 q hq,Z⟩⟩
 ·exact hC.apart id id' r r' (hw.m.get id r (a5R hr)).1 (hw.m.get id' r' (a5R hr')).1 hne
theorem b7S {c:Code} {S S':St} (hw:Weak S S') (hnx:S'.nx=S.nx) (h:W P w0 c S' Q):W P w0 c S Q :=
 λρ a w hT hC=>let ⟨h1,h2⟩:=hw.rel (hnx▸hC.pin.1) hT hC;h ρ a w h1 h2
theorem c4P {α:Type} (st:α→St) (inv:α→Prop) (μ:α→Nat) {c:Code} {S:St} (x0:α) (h0:inv x0) (hw:Weak S (st x0)) (hnx:∀x,(st x).nx=S.nx)
 (round:∀x,inv x→W P w0 c (st x) (sq (λS'=>∃x',inv x'/\Weak S' (st x')/\μ x' < μ x) Q)):W P w0 (.loop c) S Q:=by
 intro ρ a w hT hC
 have hp:∀x,w0.n0<=(st x).nx:=λx=>by rw [hnx x];exact hC.pin.1
 obtain ⟨h1,h2⟩:=hw.rel (hp _) hT hC
 refine wp_loop_ghost (λn a w=>∃x,inv x/\μ x=n/\∃ρ,RelT w0 ρ (st x).T (st x).nx (st x).nt a/\RelC w0 ρ (st x).m (st x).nx w) (μ x0) ⟨x0,h0,Z,ρ,h1,h2⟩ ?_
 rintro n a w ⟨x,hi,rfl,ρ,hT,hC⟩
 refine wp_mono (round x hi ρ a w hT hC) ?_
 rintro e a w ⟨ρ',S',hq,hT',hC'⟩
 cases e
 case normal =>
  obtain ⟨x',hi',hw',hlt⟩:=hq
  obtain ⟨g1,g2⟩:=hw'.rel (hp _) hT' hC'
  exact ⟨μ x',hlt,x',hi',Z,ρ',g1,g2⟩
 all_goals exact ⟨ρ',S',hq,hT',hC'⟩
def c0F (tb:List (Nat×TyI)) (S:St):ResultVar→Option AV
 | .tmp t=>look t S.T
 | .cell p ty=>match look p S.T with
  | some (.ptr id off)=>match mem S.m id with
   | some (.box cs)=>match look ty tb with
    | some (.struct _ zs)=>match a3N zs.length (a0S off cs) [] with
     | some rs=>some (.agg rs)
     | none=>none
    | some _=>nth cs off
    | none=>none
   | _=>none
  | _=>none
def V5 (tb:List (Nat×TyI)) (S:St):List ResultVar→List AV→Option (List AV)
 | [],acc=>a3a acc []
 | x :: r,acc=>match c0F tb S x with
  | some a=>V5 tb S r (a :: acc)
  | none=>none
def a8I:AV→Option Value
 | .v x=>some x
 | .pin z _ _=>some z
 | .nst (some z) _ _=>some z
 | .agg cs=>match vaR cs [] with
  | some xs=>some (.agg ⟨xs⟩)
  | none=>none
 | _=>none
def RCOK (m:List (Nat×Option Row)):AV→RC→Prop
 | x,.v u=>a8I x=some u
 | .own id,.fr e sz ys f=>∃f0,mem m id=some (.row e sz ys f0)/\(f0=true→f=true)
 | .v x,.fr _ _ ys _=>x=.slice none 0 0/\ys=[]
 | .own id,.ne e sz yss=>mem m id=some (.nest e sz yss [])
 | .v x,.ne _ _ yss=>x=.slice none 0 0/\yss=[]
 | _,_=>False
def RCOKs (m:List (Nat×Option Row)):List AV→List RC→Prop
 | [],[]=>True
 | x :: xs,r :: rs=>RCOK m x r/\RCOKs m xs rs
 | _,_=>False
def U6:List AV→List Nat→List Nat
 | [],acc=>acc
 | .own i :: r,acc=>U6 r (i :: acc)
 | _ :: r,acc=>U6 r acc
def b3u:List AV→Bool
 | []=>true
 | .v x :: r=>(blk x).isNone && b3u r
 | _ :: r=>b3u r
def nodupB:List Nat→Bool
 | []=>true
 | x :: r=>!has x r && nodupB r
def b7T:AV→Option (List AV)
 | .agg cs=>some cs
 | .v (.agg ⟨l⟩)=>some (avR l [])
 | _=>none
theorem b6W {w0:World} {ρ:Nat→Value} {a:AV} {cs:List AV} (h:b7T a=some cs) {y:Value} (hy:RelV w0 ρ nx a y):∃cvs:List Value,y=.agg cvs.toArray/\RelVs w0 ρ nx cs cvs:=by
 cases a<;>simp only [b7T] at h<;>try cases h
 case agg.refl=>simpa only [RelV] using hy
 case v x =>
  cases x<;>simp only [b7T] at h<;>try cases h
  rename_i l
  simp only [RelV] at hy
  subst hy
  exact ⟨l.toList,Z,by rw [a33];simpa using RelVs.map_v l.toList⟩
def flA:List (Option Nat)→List AV→List AV→Option (List AV)
 | [],[],acc=>a3a acc []
 | none :: sh,a :: as,acc=>flA sh as (a :: acc)
 | some n :: sh,a :: as,acc=>match b7T a with
  | some cs=>bif Nat.beq cs.length n then flA sh as (rev cs acc) else none
  | none=>none
 | _,_,_=>none
def a3h:Res→List AV→List AV
 | .shp _ sh _,avs=>match flA sh avs [] with
  | some ls=>ls
  | none=>[]
 | _,avs=>avs
def ResOK (m:List (Nat×Option Row)) (avs:List AV):Res→Prop
 | .one r=>∃x,avs=[x]/\RCOK m x r
 | .many rs=>RCOKs m avs rs/\Nat.beq avs.length 1=false/\nodupB (U6 avs [])=true/\b3u avs=true
 | .shp single sh rs=>∃ls,flA sh avs []=some ls/\RCOKs m ls rs/\Nat.beq avs.length 1=single/\nodupB (U6 ls [])=true
def Fin (tb:List (Nat×TyI)) (rs:List ResultVar) (res:Res):Exit→St→Prop
 | .ret,S=>∃avs,V5 tb S rs []=some avs/\ResOK S.m avs res
 | .normal,S=>∃avs,V5 tb S rs []=some avs/\ResOK S.m avs res
 | _,_=>False
def a5S (tmps:Array Value):ResultVar→Sem Value
 | .tmp t=>pure (tmps.getD t undef)
 | .cell a t=>do loadVar t (← asAddr (tmps.getD a undef))
theorem b6X (G:Good P tb) {S:St} {ρ:Nat→Value} {a:Act} {w:World} (hT:RelT w0 ρ S.T S.nx S.nt a) (hC:RelC w0 ρ S.m S.nx w) {x:ResultVar} {r:AV} (h:c0F tb S x=some r):∃y,RelV w0 ρ S.nx r y/\(a5S a.tmps x).run P w=.ok y w:=by
 cases x with
 | tmp t=>exact ⟨_,hT.tmps t r h,Z⟩
 | cell p ty =>
  simp only [c0F] at h
  cases h1:look p S.T with
  | none=>simp [h1] at h
  | some av =>
   cases av<;>simp only [h1] at h<;>try cases h
   rename_i id off
   cases h2:mem S.m id with
   | none=>simp [h2] at h
   | some row =>
    cases row with
    | row _ _ _=>simp [h2] at h
    | byt _=>simp [h2] at h
    | spare _ _ _ _=>simp [h2] at h
    | nest _ _ _ _=>simp [h2] at h
    | box cs =>
     simp only [h2] at h
     cases h3:look ty tb with
     | none=>simp [h3] at h
     | some i =>
      have hp:=hT.tmps p _ h1
      simp only [RelV] at hp
      obtain ⟨_,g,hg,he⟩:=hp
      obtain ⟨b,cur,ty',hρ,_,hb,hR,_⟩:=hC.box h2
      rw [hg] at hρ
      simp at hρ
      subst hρ
      have flat:∀(hf:a0T i=true) (hr:nth cs off=some r),∃y,RelV w0 ρ S.nx r y/\(a5S a.tmps (.cell p ty)).run P w=.ok y w:=by
       intro hf hr
       rw [a32] at hr
       obtain ⟨u,hu,h4⟩:=RelVs.get _ hR off r hr
       refine ⟨u,h4,?_⟩
       have hc:w.cell? ⟨g,off,none⟩=some u:=by rw [V2 hb,hu]
       simp only [a5S,he,asAddr,Sem.run_bind,Sem.run_pure,Result.andThen_ok,loadVar,(G ty i h3).run_isAgg w,hf,Bool.not_true,Bool.false_eq_true,if_false,run_load,hc]
      cases i with
      | flat fk z=>simp only [h3] at h;exact flat Z h
      | slice e sz by_ zs=>simp only [h3] at h;exact flat Z h
      | struct fs zs =>
       simp only [h3] at h
       cases h4:a3N zs.length (a0S off cs) [] with
       | none=>simp [h4] at h
       | some rs =>
        simp only [h4,Option.some.injEq] at h
        subst h
        obtain ⟨hrs,hlen⟩:=Z6 _ _ _ _ h4
        rw [X1] at hrs hlen
        simp at hrs
        have hR2:RelVs w0 ρ S.nx rs ((cur.toList.drop off).take zs.length):=by rw [hrs];exact (RelVs.drop off _ hR).take _ _
        have hl:=RelVs.length _ hR2
        have hl2:rs.length=zs.length:=by rw [hrs,List.length_take];omega
        have:=G9 (G ty _ h3) (w:=w) (p:=⟨g,off,none⟩) (us:=(cur.toList.drop off).take zs.length) (by rw [hl,hl2]) (λj u hj=>by
         rw [Addr.add_lit,V2 hb]
         rw [List.getElem?_take] at hj
         split at hj
         ·rw [List.getElem?_drop] at hj;exact hj
         ·cases hj)
        refine ⟨_,by simp only [RelV];exact ⟨_,Z,hR2⟩,?_⟩
        simp only [Instr.loadAt,Instr.sureAddr,Sem.run_bind,Sem.run_pure,Result.andThen_ok] at this
        simp only [a5S,he,asAddr,Sem.run_bind,Sem.run_pure,Result.andThen_ok]
        exact this
theorem Z9 (G:Good P tb) {S:St} {ρ:Nat→Value} {a:Act} {w:World} (hT:RelT w0 ρ S.T S.nx S.nt a) (hC:RelC w0 ρ S.m S.nx w):∀{xs:List ResultVar} {acc rs:List AV},V5 tb S xs acc=some rs →
 ∃ys avs,rs=acc.reverse++avs/\RelVs w0 ρ S.nx avs ys/\(xs.mapM (a5S a.tmps)).run P w=.ok ys w
 | [],acc,rs,h=>by simp [V5,F9] at h;exact ⟨[],[],by simp [h],by simp [RelVs],Z⟩
 | x :: xs,acc,rs,h=>by
  simp only [V5] at h
  cases h1:c0F tb S x with
  | none=>simp [h1] at h
  | some av =>
   simp only [h1] at h
   obtain ⟨y,h2,h3⟩:=b6X G hT hC h1
   obtain ⟨ys,avs,e1,e2,e3⟩:=Z9 G hT hC h
   refine ⟨y :: ys,av :: avs,by simp [e1],by simp only [RelVs];exact ⟨_,_,Z,h2,e2⟩,?_⟩
   simp_all
theorem b4E {ρ:Nat→Value} {x:AV} {u y:Value} (h:a8I x=some u) (hy:RelV w0 ρ nx x y):y=u:=by
 cases x<;>simp only [a8I] at h<;>try cases h
 case v.refl=>simpa only [RelV] using hy
 case pin.refl=>simp only [RelV] at hy;exact hy.1
 case nst z _ _ =>
  cases z with
  | none=>simp [a8I] at h
  | some z=>simp [a8I] at h;subst h;simp only [RelV] at hy;exact hy.1 _ Z
 case agg cs =>
  cases hv:vaR cs [] with
  | none=>simp [hv] at h
  | some xs =>
   simp [hv] at h
   obtain ⟨xs',h1,h2⟩:=a0r _ _ _ hv
   simp at h2
   subst h2
   simp only [RelV] at hy
   obtain ⟨ys,rfl,h3⟩:=hy
   rw [h1] at h3
   rw [RelVs.map_v_eq _ h3,← h]
theorem b6Y {B:Nat} {w:World} {e sz:Nat}:NestR B w (.slice none 0 0) e sz [] :=
 ⟨[],⟨World.ownsRow_nil _ _ _ _,Z,by simp,by simp,λi k c h=>by simp [C0] at h⟩,λp b h=>by simp [A3,C0] at h⟩
theorem RCOK.rel {ρ:Nat→Value} {w:World} (hC:RelC w0 ρ m nx w) {x:AV} {c:RC} (h:RCOK m x c) {y:Value} (hy:RelV w0 ρ nx x y):RCRel w0.w.heap.size w c y:=by
 cases c with
 | v u =>
  have h':a8I x=some u:=by cases x<;>exact h
  simp only [RCRel]
  exact b4E h' hy
 | fr e sz ys =>
  cases x<;>simp only [RCOK] at h
  case own id =>
   simp only [RelV] at hy
   rw [hy.2]
   obtain ⟨f0,h,hf⟩:=h
   obtain ⟨h1,h2⟩:=hC.rowF h
   exact ⟨h1.up hf,h2⟩
  case v x =>
   obtain ⟨rfl,rfl⟩:=h
   simp only [RelV] at hy
   subst hy
   exact ⟨OwnR.nil,by simp⟩
 | ne e sz yss =>
  cases x<;>simp only [RCOK] at h
  case own id =>
   simp only [RelV] at hy
   rw [hy.2]
   obtain ⟨_,cells,h1,_⟩:=hC.rows id _ h
   exact ⟨cells,h1,λp b hb=>⟨((hC.inner id _ h p b hb).2.2.2 id _ h).1,λp' hp'=>(((hC.inner id _ h p b hb).2.2.2 id _ h).2 p' hp').2⟩⟩
  case v x =>
   obtain ⟨rfl,rfl⟩:=h
   simp only [RelV] at hy
   subst hy
   exact b6Y
theorem RCOK.foot {ρ:Nat→Value} {w:World} {x:AV} {c:RC} (h:RCOK m x c) {y:Value} (hy:RelV w0 ρ nx x y) {b:Nat} (hb:a35 w c y b):∃id row,x=.own id/\mem m id=some row/\S8 w (ρ id) row b:=by
 cases c with
 | v u=>exact hb.elim
 | fr e sz ys =>
  cases x<;>simp only [RCOK] at h
  case own id=>obtain ⟨f0,h,hf⟩:=h;simp only [RelV] at hy;exact ⟨id,_,Z,h,.inl (by rw [← hy.2];exact hb)⟩
  case v x =>
   obtain ⟨rfl,rfl⟩:=h
   simp only [RelV] at hy
   subst hy
   simp [a35,blk] at hb
 | ne e sz yss =>
  cases x<;>simp only [RCOK] at h
  case own id=>simp only [RelV] at hy;exact ⟨id,_,Z,h,by rw [← hy.2];exact hb⟩
  case v x =>
   obtain ⟨rfl,rfl⟩:=h
   simp only [RelV] at hy
   subst hy
   simp [a35,blk,A3,C0] at hb
theorem a5T:∀(l:List AV) (acc:List Nat),nodupB (U6 l acc)=true→nodupB acc=true
 | [],acc,h=>h
 | x :: r,acc,h=>by
  cases x<;>simp only [U6] at h
  case own i =>
   have:=a5T r (i :: acc) h
   simp only [nodupB,Bool.and_eq_true] at this
   exact this.2
  all_goals exact a5T r acc h
theorem a4a:∀(l:List AV) (acc:List Nat),nodupB (U6 l acc)=true→∀i∈acc,AV.own i∉l
 | [],_,_,_,_=>by simp
 | x :: r,acc,h,i,hi=>by
  cases x<;>simp only [U6] at h
  case own j =>
   have h1:=a5T r (j :: acc) h
   simp only [nodupB,Bool.and_eq_true,Bool.not_eq_true'] at h1
   have h2:=a4a r (j :: acc) h i (by simp [hi])
   intro hm
   rcases List.mem_cons.1 hm with e | hm
   ·cases e
    exact a1b h1.1 i hi Z
   ·exact h2 hm
  all_goals
   have h2:=a4a r acc h i hi
   intro hm
   rcases List.mem_cons.1 hm with e | hm
   ·cases e
   ·exact h2 hm
theorem RelC.foot_apart {ρ:Nat→Value} {w:World} (hC:RelC w0 ρ m nx w) {id id':Nat} {row row':Row} (hm:mem m id=some row) (hm':mem m id'=some row') (hne:id≠id') {b:Nat} (hb:S8 w (ρ id) row b):¬ S8 w (ρ id') row' b:=by
 rintro (hb' | ⟨p',hb'⟩)
 ·rcases hb with hb | ⟨p,hb⟩
  ·exact hC.apart id id' _ _ hm hm' hne b hb hb'
  ·exact hC.blkne hm hm' hb hb'
 ·rcases hb with hb | ⟨p,hb⟩
  ·exact hC.blkne hm' hm hb' hb
  ·exact hne (((hC.inner id row hm p b hb).2.2.2 id' row' hm').2 p' hb').1
theorem RCOKs.foots {ρ:Nat→Value} {w:World} {b:Nat}:∀{xs:List AV} {rs:List RC},RCOKs m xs rs→∀{ys:List Value},RelVs w0 ρ nx xs ys→a0K w rs ys b→∃id row,.own id∈xs/\mem m id=some row/\S8 w (ρ id) row b
 | [],[],_,_,hy,hb=>by simp only [RelVs] at hy;subst hy;exact hb.elim
 | [],_ :: _,h,_,_,_=>h.elim
 | _ :: _,[],h,_,_,_=>h.elim
 | x :: xs,r :: rs,h,_,hy,hb=>by
  simp only [RelVs] at hy
  obtain ⟨y,ys,rfl,h1,h2⟩:=hy
  rcases hb with hb | hb
  ·obtain ⟨id,row,rfl,h3,h4⟩:=h.1.foot h1 hb
   grind
  ·obtain ⟨id,row,h3,h4⟩:=RCOKs.foots h.2 h2 hb
   grind
theorem RCOKs.rel {ρ:Nat→Value} {w:World} (hC:RelC w0 ρ m nx w):∀{xs:List AV} {rs:List RC} {acc:List Nat},RCOKs m xs rs→nodupB (U6 xs acc)=true→∀{ys:List Value},RelVs w0 ρ nx xs ys→RCRels w0.w.heap.size w rs ys
 | [],[],_,_,_,_,hy=>hy
 | [],_ :: _,_,h,_,_,_=>h.elim
 | _ :: _,[],_,h,_,_,_=>h.elim
 | x :: xs,r :: rs,acc,h,hn,_,hy=>by
  simp only [RelVs] at hy
  obtain ⟨y,ys,rfl,h1,h2⟩:=hy
  simp only [RCRels]
  have hn':∃acc',nodupB (U6 xs acc')=true/\(∀i,x=.own i→i∈acc'):=by
   cases x<;>simp only [U6] at hn
   case own i=>exact ⟨_,hn,λj hj=>by cases hj;simp⟩
   all_goals exact ⟨_,hn,λj hj=>by cases hj⟩
  obtain ⟨acc',hn1,hn2⟩:=hn'
  refine ⟨y,ys,Z,h.1.rel hC h1,RCOKs.rel hC h.2 hn1 h2,λb hb hb'=>?_⟩
  obtain ⟨id,row,rfl,h3,h4⟩:=h.1.foot h1 hb
  obtain ⟨id',row',h5,h6,h7⟩:=RCOKs.foots h.2 h2 hb'
  refine hC.foot_apart h3 h6 (λe=>?_) h4 h7
  subst e
  exact a4a xs acc' hn1 id (hn2 id Z) h5
theorem b2l {ρ:Nat→Value}:∀{sh:List (Option Nat)} {as acc ls:List AV} {vs acc':List Value},flA sh as acc=some ls→RelVs w0 ρ nx as vs→RelVs w0 ρ nx acc.reverse acc'→∃ys,RelVs w0 ρ nx ls (acc'++ys)/\a6A sh ys=some vs
 | [],[],acc,ls,vs,acc',h,hr,ha=>by
  simp [flA,F9] at h
  simp only [RelVs] at hr
  subst h;subst hr
  exact ⟨[],by simpa using ha,Z⟩
 | [],_ :: _,_,_,_,_,h,_,_=>by simp [flA] at h
 | none :: sh,[],_,_,_,_,h,_,_=>by simp [flA] at h
 | none :: sh,a :: as,acc,ls,vs,acc',h,hr,ha=>by
  simp only [flA] at h
  simp only [RelVs] at hr
  obtain ⟨v,vs',rfl,h1,h2⟩:=hr
  obtain ⟨ys,h3,h4⟩:=b2l h h2 (acc':=acc'++[v]) (by
   rw [List.reverse_cons]
   refine RelVs.append _ ha ?_
   simp only [RelVs]
   exact ⟨_,_,Z,h1,Z⟩)
  exact ⟨v :: ys,by simpa using h3,by simp [a6A,h4]⟩
 | some n :: sh,as,acc,ls,vs,acc',h,hr,ha=>by
  have key:∀(cs:List AV) (as':List AV) (cvs:List Value) (vs':List Value),cs.length=n→RelVs w0 ρ nx cs cvs→RelVs w0 ρ nx as' vs'→flA sh as' (rev cs acc)=some ls→∃ys,RelVs w0 ρ nx ls (acc'++ys)/\a6A (some n :: sh) ys=some (.agg cvs.toArray :: vs'):=by
   intro cs as' cvs vs' hl h1 h2 h3
   obtain ⟨ys,h4,h5⟩:=b2l h3 h2 (acc':=acc'++cvs) (by
    rw [a29,List.reverse_append,List.reverse_reverse]
    exact RelVs.append _ ha h1)
   have hcl:=RelVs.length _ h1
   refine ⟨cvs++ys,by simpa using h4,?_⟩
   have hcn:cvs.length=n:=by omega
   simp only [a6A]
   rw [if_pos (by rw [List.length_append];omega),← hcn,List.take_left,List.drop_left,h5]
   rfl
  cases as with
  | nil=>simp [flA] at h
  | cons a as =>
   simp only [RelVs] at hr
   obtain ⟨v,vs',rfl,h1,h2⟩:=hr
   simp only [flA] at h
   cases ha':b7T a with
   | none=>simp [ha'] at h
   | some cs =>
    simp only [ha'] at h
    cases hb:Nat.beq cs.length n with
    | false=>simp [hb] at h
    | true =>
     simp only [hb,cond_true] at h
     obtain ⟨cvs,rfl,h1'⟩:=b6W ha' h1
     exact key cs as cvs vs' (Nat.eq_of_beq_eq_true hb) h1' h2 h
theorem ResOK.parts {ρ:Nat→Value} {w:World} (hC:RelC w0 ρ m nx w) {avs:List AV} {res:Res} (h:ResOK m avs res) {ys:List Value} (hy:RelVs w0 ρ nx avs ys) :
 resParts w0.w.heap.size w res (if h:ys.toArray.size=1 then ys.toArray[0] else .tuple ys.toArray) (λrs ls=>∀b,a0K w rs ls b→∃id row,.own id∈a3h res avs/\mem m id=some row/\S8 w (ρ id) row b):=by
 have hyl:=RelVs.length _ hy
 cases res with
 | one r =>
  obtain ⟨x,rfl,hx⟩:=h
  simp only [RelVs] at hy
  obtain ⟨y,_,rfl,g1,rfl⟩:=hy
  simp only [List.size_toArray,List.length_cons,List.length_nil,Nat.zero_add,dif_pos,List.getElem_toArray,List.getElem_cons_zero]
  refine ⟨hx.rel hC g1,λb hb=>?_⟩
  rcases hb with hb | hb
  ·obtain ⟨id,row,rfl,h3,h4⟩:=hx.foot g1 hb
   exact ⟨id,row,by simp [a3h],h3,h4⟩
  ·exact hb.elim
 | many rs =>
  obtain ⟨h3,h4,h5,h6⟩:=h
  have hne:¬ ys.toArray.size=1:=by rw [List.size_toArray,hyl];exact N6 h4
  rw [dif_neg hne]
  exact ⟨ys,Z,RCOKs.rel hC h3 h5 hy,λb hb=>RCOKs.foots h3 hy hb⟩
 | shp single sh rs =>
  obtain ⟨ls,h1,h2,h3,h4⟩:=h
  obtain ⟨us,h5,h6⟩:=b2l (acc':=[]) h1 hy (by simp [RelVs])
  simp only [List.nil_append] at h5
  refine ⟨us,ys,RCOKs.rel hC h2 h4 h5,h6,?_,λb hb=>by simpa only [a3h,h1] using RCOKs.foots h2 h5 hb⟩
  cases single with
  | true =>
   have h7:=Nat.eq_of_beq_eq_true h3
   rw [h7] at hyl
   match ys,hyl with
   | [y],_=>simp
  | false =>
   grind [N6]
theorem resParts.rel {B:Nat} {w:World} {res:Res} {y:Value} {K:List RC→List Value→Prop} (h:resParts B w res y K):ResRel B w res y:=by
 cases res with
 | one r=>exact h.1
 | many rs=>obtain ⟨ys,h1,h2,_⟩:=h;exact ⟨ys,h1,h2⟩
 | shp single sh rs=>obtain ⟨ys,vs,h1,h2,h3,_⟩:=h;exact ⟨ys,vs,h1,h2,h3⟩
theorem resParts.mono {B:Nat} {w:World} {res:Res} {y:Value} {K K':List RC→List Value→Prop} (h:resParts B w res y K) (hk:∀rs ys,RCRels B w rs ys→K rs ys→K' rs ys):resParts B w res y K':=by
 cases res with
 | one r=>exact ⟨h.1,hk _ _ ⟨y,[],Z,h.1,Z,λ_ _ h=>h⟩ h.2⟩
 | many rs=>obtain ⟨ys,h1,h2,h3⟩:=h;exact ⟨ys,h1,h2,hk _ _ h2 h3⟩
 | shp single sh rs=>obtain ⟨ys,vs,h1,h2,h3,h4⟩:=h;exact ⟨ys,vs,h1,h2,h3,hk _ _ h1 h4⟩
def a5U:List AV→Nat→List (Nat×AV)
 | [],_=>[]
 | a :: as,k=>(k,a) :: a5U as (Nat.succ k)
theorem a4X {w0:World} {ρ:Nat→Value}:∀{as:List AV} {vs:List Value} {k:Nat},RelVs w0 ρ nx as vs→∀t x,look t (a5U as k)=some x→∃u,k<=t/\vs[t - k]?=some u/\RelV w0 ρ nx x u
 | [],_,_,_,_,_,h=>by simp [a5U,look] at h
 | a :: as,_,k,hr,t,x,h=>by
  simp only [RelVs] at hr
  obtain ⟨y,ys,rfl,h1,h2⟩:=hr
  by_cases e:k=t
  ·grind [a5U,r3]
  ·simp only [a5U] at h
   rw [l6 e] at h
   obtain ⟨u,g1,g2,g3⟩:=a4X h2 t x h
   grind
mutual
theorem RelV.outer {w:World} {ρ:Nat→Value}:∀(x:AV) {y:Value},RelV w noRho 0 x y→RelV w ρ 0 x y
 | x,_,h=>h.mono (Nat.le_refl _) (λi hi=>by omega)
end
theorem RelVs.outer {w:World} {ρ:Nat→Value} (x:List AV) {y:List Value} (h:RelVs w noRho 0 x y):RelVs w ρ 0 x y:=RelVs.mono (Nat.le_refl _) (λi hi=>by omega) x h
theorem V6 {fn:Func} {l:List ResultVar} (hl:fn.results=l.toArray) {tmps:Array Value} {ys:List Value} {w:World} (h:(l.mapM (a5S tmps)).run P w=.ok ys w) :
 (results fn tmps).run P w=.ok (if h:ys.toArray.size=1 then ys.toArray[0] else .tuple ys.toArray) w:=by
 have he:results fn tmps=(do let vs ← fn.results.mapM (a5S tmps);pure (if h:vs.size=1 then vs[0] else .tuple vs)):=rfl
 simp_all
theorem Ctr.of (G:Good P tb) {f:FuncId} {fn:Func} {c:Code} {args:List AV} {res:Res} {l:List ResultVar} {n:Nat} (hf:P.funcs[f]?=some fn) (hb:fn.body=some c) (hname:(fn.name == "runtime.NumGoroutine")=false) (hl:fn.results=l.toArray) (hn:fn.ntmps=n)
 (hlen:Nat.ble args.length n=true) (h:∀w0:Base,[NoPin w0]→[EnvAt P w0]→W P w0 c ⟨a5U args 0,[],0,n⟩ (Fin tb l res)):Ctr P f args res:=by
 refine ⟨⟨fn,hf,hname,by rw [hb];rfl⟩,λw vs henv hrel=>?_⟩
 have hlen':args.length<=n:=Nat.le_of_ble_eq_true hlen
 have hvl:=RelVs.length _ hrel
 refine calls_of_wp hf hb ?_
 let b0:Base:=⟨w,0,noRho,w,λ_=>False,λ_ h=>h.elim,Env.E P,λw' hb=>Env.mono henv hb⟩
 have hC:RelC b0 noRho [] 0 w:=⟨λid r hr=>by simp [mem,look] at hr,λid id' r r' hr=>by simp [mem,look] at hr,Below.refl _ _,⟨Nat.le_refl _,λi hi=>by cases hi⟩,⟨Nat.le_refl _,λb h=>h.elim,λid r hr=>by simp [mem,look] at hr⟩,λid r hr=>by simp [mem,look] at hr⟩
 have hnp:NoPin b0:=⟨Z⟩
 have hen:EnvAt P b0:=⟨Z⟩
 have hT:RelT w noRho (a5U args 0) 0 n { tmps:=vs.toArray++Array.replicate (fn.ntmps - vs.toArray.size) undef,defers:=[] }:=by
  refine ⟨λt x hx=>?_,by simp [hn];omega,Z⟩
  obtain ⟨u,_,h2,h3⟩:=a4X hrel t x hx
  have hlt:t < vs.length:=by
   grind
  have:(vs.toArray++Array.replicate (fn.ntmps - vs.toArray.size) undef).getD t undef=u:=by
   rw [Array.getD_eq_getD_getElem?,Array.getElem?_append_left (by simpa using hlt)]
   grind
  rw [this]
  exact h3
 refine wp_mono (h b0 noRho _ w hT hC) ?_
 have fin:∀(ρ:Nat→Value) (S:St) (a:Act) (w':World) (avs:List AV),V5 tb S l []=some avs→ResOK S.m avs res→RelT w ρ S.T S.nx S.nt a→RelC b0 ρ S.m S.nx w' →
  a.defers=[]/\∃v,(results fn a.tmps).run P w'=.ok v w'/\∃u,Ending.returned v=.returned u/\ResRel w.heap.size w' res u/\Below w.heap.size w w':=by
  intro ρ S a w' avs h1 h2 hT' hC'
  obtain ⟨ys,avs',e1,e2,e3⟩:=Z9 G hT' hC' h1
  simp at e1
  subst e1
  exact ⟨hT'.defers,_,V6 hl e3,_,Z,(ResOK.parts hC' h2 e2).rel,hC'.below⟩
 rintro e a w' ⟨ρ,S,hq,hT',hC'⟩
 cases e<;>simp only [Fin] at hq
 case normal=>obtain ⟨avs,h1,h2⟩:=hq;exact fin ρ S a w' avs h1 h2 hT' hC'
 case ret=>obtain ⟨avs,h1,h2⟩:=hq;exact fin ρ S a w' avs h1 h2 hT' hC'
end
section
variable {P:Program} [Env P] {w0:Base} {ops:Array Oper} {tb:List (Nat×TyI)} {o:Oper} {rest:List Oper} {T:List (Nat×AV)} {m:List (Nat×Option Row)} {nx nt d:Nat} {r:AV} {Q:Exit→St→Prop}
def b7U (tb:List (Nat×TyI)) (m:List (Nat×Option Row)) (T:List (Nat×AV)) (fs:List (Nat×Nat)):List (Nat×Operand)→List AV→Option (List AV)
 | [],cs=>some cs
 | (k,x) :: r,cs=>match nth fs k with
  | some (off,ft)=>match look ft tb,ev T x with
   | some i,some av=>match C9 av with
    | some vs=>bif (Nat.beq vs.length (X2 i) && Nat.ble (off+vs.length) cs.length) && a1D m vs then (match a7T cs off vs [] with | some cs'=>b7U tb m T fs r cs' | none=>none) else none
    | none=>none
   | _,_=>none
  | none=>none
theorem b1f (off:Nat):∀(l:List Value) (j:Nat) (cs:Array Value),off+j+l.length<=cs.size→(l.zipIdx j).foldl (λcs (p:Value×Nat)=>cs.setIfInBounds (off+p.2) p.1) cs=(cs.toList.take (off+j)++l++cs.toList.drop (off+j+l.length)).toArray
 | [],j,cs,_=>by simp
 | x :: l,j,cs,h=>by
  simp only [List.length_cons] at h
  simp only [List.zipIdx_cons,List.foldl_cons]
  rw [b1f off l (j+1) _ (by simp;omega)]
  congr 1
  have h2:off+j < cs.size:=by omega
  rw [Array.toList_setIfInBounds]
  have e1:(cs.toList.set (off+j) x).take (off+(j+1))=cs.toList.take (off+j)++[x]:=by
   rw [show off+(j+1)=off+j+1 by omega,List.take_succ_eq_append_getElem (by simpa using h2)]
   have:(cs.toList.set (off+j) x).take (off+j)=cs.toList.take (off+j):=by
    rw [List.take_set]
    exact List.set_eq_of_length_le (by rw [List.length_take];omega)
   simp [this]
  rw [e1,List.drop_set_of_lt J]
  simp
  congr 1
  omega
theorem b1g (G:Good P tb) {ρ:Nat→Value} {a:Act} {w:World} (hT:RelT w0 ρ T nx nt a) (hC:RelC w0 ρ m nx w) {fields:Array Field} {fs:List (Nat×Nat)}
 (hf:∀(k off ft:Nat),fs[k]?=some (off,ft)→∃(f:Field) (j:TypeInfo),fields[k]?=some f/\f.offset=off/\f.type=ft/\P.info? ft=some j/\j.size≠0) {places:Array (Nat×Nat)} (hp:∀(k:Nat) (f:Field) (j:TypeInfo),fields[k]?=some f→P.info? f.type=some j→places[k]?=some (f.offset,j.size)) :
 ∀{ps:List (Nat×Operand)} {cs rs:List AV},b7U tb m T fs ps cs=some rs→∀(cells:Array Value),RelVs w0 ρ nx cs cells.toList →
 ∃out:Array Value,Instr.fill (places[·]?) cells (ps.map λp=>(p.1,a.eval p.2))=some out/\RelVs w0 ρ nx rs out.toList
 | [],cs,rs,h,cells,hr=>by simp [b7U] at h;subst h;exact ⟨cells,Z,hr⟩
 | (k,x) :: ps,cs,rs,h,cells,hr=>by
  simp only [b7U] at h
  cases h1:nth fs k with
  | none=>simp [h1] at h
  | some p =>
   obtain ⟨off,ft⟩:=p
   simp only [h1] at h
   cases h2:look ft tb with
   | none=>simp [h2] at h
   | some i =>
    cases h3:ev T x with
    | none=>simp [h2,h3] at h
    | some av =>
     simp only [h2,h3] at h
     cases h4:C9 av with
     | none=>simp [h4] at h
     | some vs =>
      simp only [h4] at h
      cases h5:((Nat.beq vs.length (X2 i) && Nat.ble (off+vs.length) cs.length) && a1D m vs) with
      | false=>simp [h5] at h
      | true =>
       simp only [h5,cond_true,a3f] at h
       simp only [Bool.and_eq_true] at h5
       have hl:vs.length=X2 i:=Nat.eq_of_beq_eq_true h5.1.1
       have hfit:off+vs.length<=cs.length:=Nat.le_of_ble_eq_true h5.1.2
       rw [a32] at h1
       obtain ⟨f,j,g1,g2,g3,g4,g5⟩:=hf k off ft h1
       subst g2;subst g3
       have hplace:=hp k f j g1 g4
       have hsz:j.size=X2 i:=by
        have:=(G _ _ h2).run_sizeOf w
        simp [sizeOf,typeInfo,g4] at this
        exact this
       have hR:=(Z8 hC h4 h5.2 (hT.ev h3)).1
       have hvl:=RelVs.length _ hR
       have hcl:=RelVs.length _ hr
       simp at hvl hcl
       have hfold:=b1f f.offset (a.eval x).cells.toList 0 cells (by simp;omega)
       have hfold2:(a.eval x).cells.zipIdx.foldl (λcs (p:Value×Nat)=>cs.setIfInBounds (f.offset+p.2) p.1) cells=(cells.toList.take f.offset++(a.eval x).cells.toList++cells.toList.drop (f.offset+vs.length)).toArray:=by
        rw [← Array.foldl_toList]
        have e:(a.eval x).cells.zipIdx.toList=(a.eval x).cells.toList.zipIdx 0:=by simp
        rw [e,hfold]
        simp [hvl]
       have hfold3:(a.eval x).cells.zipIdx.foldl (λcs (p:Value×Nat)=>match p with | (c,j)=>cs.setIfInBounds (f.offset+j) c) cells=(cells.toList.take f.offset++(a.eval x).cells.toList++cells.toList.drop (f.offset+vs.length)).toArray:=hfold2
       obtain ⟨out,e1,e2⟩:=b1g G hT hC hf hp h (cells.toList.take f.offset++(a.eval x).cells.toList++cells.toList.drop (f.offset+vs.length)).toArray (by
        rw [a3e _ _ _ _ hfit]
        simp only [List.reverse_nil,List.nil_append]
        exact RelVs.append _ (RelVs.append _ (RelVs.take _ _ hr) hR) (RelVs.drop _ _ hr))
       refine ⟨out,?_,e2⟩
       simp only [List.map_cons,Instr.fill,hplace]
       rw [if_neg (by simp [hvl,hl,hsz];omega),hfold3]
       exact e1
theorem b4F {fields:Array Field} {w:World} (hall:∀f∈fields.toList,∃j,P.info? f.type=some j):∃places:Array (Nat×Nat),((fields.mapM λf=>do pure (f.offset,← sizeOf f.type):Sem (Array (Nat×Nat)))).run P w=.ok places w /\
 ∀(k:Nat) (f:Field) (j:TypeInfo),fields[k]?=some f→P.info? f.type=some j→places[k]?=some (f.offset,j.size):=by
 obtain ⟨l⟩:=fields
 have key:∀(l:List Field),(∀f∈l,∃j,P.info? f.type=some j)→∃ps:List (Nat×Nat),((l.mapM λf=>do pure (f.offset,← sizeOf f.type):Sem (List (Nat×Nat)))).run P w=.ok ps w/\∀(k:Nat) (f:Field) (j:TypeInfo),l[k]?=some f→P.info? f.type=some j→ps[k]?=some (f.offset,j.size):=by
  intro l
  induction l with
  | nil=>intro _;exact ⟨[],by simp,by simp⟩
  | cons f l ih =>
   intro h
   obtain ⟨j,hj⟩:=h f (by simp)
   obtain ⟨ps,h1,h2⟩:=ih (λf hf=>h f (by simp [hf]))
   refine ⟨(f.offset,j.size) :: ps,?_,?_⟩
   ·simp [List.mapM_cons,sizeOf,typeInfo,hj] at h1 ⊢
    rw [h1]
    rfl
   grind
 obtain ⟨ps,h1,h2⟩:=key l hall
 simp_all
theorem w9 {t:TypeId} {ps:Array (Nat×Operand)} {fs:List (Nat×Nat)} {zs:List Value} {rs:List AV} (G:Good P tb) (ho:o.op=.build t ps) (ht:look t tb=some (.struct fs zs)) (hb:b7U tb m T fs ps.toList (avR zs [])=some rs) (hd:a5y rs=true):QStep P o T m nx nt (.agg rs) :=
 QStep.run λw0 ρ a w hT hC=>by
  obtain ⟨fields,i,hu,hi,hsz,hz,_,hlen,hf⟩:=G t _ ht
  have hall:∀f∈fields.toList,∃j,P.info? f.type=some j:=by
   intro f hm
   obtain ⟨k,hk,rfl⟩:=List.getElem_of_mem hm
   have hk':k < fs.length:=by rw [hlen];simpa using hk
   obtain ⟨f',j,g1,_,g3,g4,_⟩:=hf k fs[k].1 fs[k].2 (by rw [List.getElem?_eq_getElem hk'])
   grind
  have key:∀w',RelC w0 ρ m nx w'→∃ys:List Value,RelVs w0 ρ nx rs ys/\(execOp a.eval o).run P w'=.ok (.value (.agg ys.toArray)) w':=by
   intro w' hC'
   obtain ⟨places,hp1,hp2⟩:=b4F (P:=P) (w:=w') hall
   obtain ⟨out,e1,e2⟩:=b1g G hT hC' hf hp2 hb zs.toArray (by simpa [a33] using RelVs.map_v zs)
   refine ⟨out.toList,e2,?_⟩
   have hps:(ps.map λ(p:Nat×Operand)=>(p.1,a.eval p.2)).toList=ps.toList.map λp=>(p.1,a.eval p.2):=by simp
   have hps':(Array.map (λx=>match x with | (i,x)=>(i,a.eval x)) ps).toList=ps.toList.map λp=>(p.1,a.eval p.2):=hps
   simp only [execOp,ho,Instr.build,Sem.run_bind,zeroValue,typeInfo,run_program,Result.andThen_ok,hi,Sem.run_pure,hz,run_underlying hu,hp1,Value.cells,hps',e1]
  obtain ⟨ys,h1,h2⟩:=key w hC
  refine ⟨.agg ys.toArray,by simp only [RelV];exact ⟨ys,Z,h1⟩,λw' hC'=>?_⟩
  obtain ⟨ys',h1',h2'⟩:=key w' hC'
  rw [a6z hd h1 h1'] at h2'
  exact h2'
theorem O3 {rs:List ResultVar} {S:St} {x:AV} {c:RC} (h:V5 tb S rs []=some [x]) (hx:RCOK S.m x c):Fin tb rs (.one c) .ret S:=⟨_,h,x,Z,hx⟩
theorem r4 {rs:List ResultVar} {S:St} {xs:List AV} {cs:List RC} (h:V5 tb S rs []=some xs) (hl:Nat.beq xs.length 1=false) (hn:nodupB (U6 xs [])=true) (ho:b3u xs=true) (hx:RCOKs S.m xs cs):Fin tb rs (.many cs) .ret S:=⟨_,h,hx,hl,hn,ho⟩
theorem j8 {x u:Value} (h:x=u):RCOK m (.v x) (.v u):=by subst h;rfl
theorem C2 {cs:List AV} {xs:List Value} {u:Value} (h:vaR cs []=some xs) (hu:.agg ⟨xs⟩=u):RCOK m (.agg cs) (.v u):=by
 show a8I (.agg cs)=some u
 simp only [a8I,h]
 rw [hu]
theorem c8 {id e sz:Nat} {ys ys':List (List Value)} {f f0:Bool} (h:mem m id=some (.row e sz ys' f0)) (hy:ys'=ys) (hf:(!f0 || f)=true:=by rfl):RCOK m (.own id) (.fr e sz ys f):=by subst hy;exact ⟨f0,h,λe=>by subst e;simpa using hf⟩
theorem H8 {e sz:Nat} {ys:List (List Value)} {f:Bool} (h:[]=ys):RCOK m (.v (.slice none 0 0)) (.fr e sz ys f):=⟨Z,h.symm⟩
theorem d9:RCOKs m [] []:=trivial
theorem b3 {x:AV} {xs:List AV} {r:RC} {rs:List RC} (h:RCOK m x r) (h':RCOKs m xs rs):RCOKs m (x :: xs) (r :: rs):=⟨h,h'⟩
theorem E1 {x:Operand} {t e sz by_ n n':Nat} {zs:List Value} {ax:AV} (G:Good P tb) (ho:o.op=.call { callee:=.builtin .len,args:=#[x],argTypes:=#[t] }) (ht:look t tb=some (.slice e sz by_ zs)) (hx:ev T x=some ax) (hn:b6S m ax=some n) (he:n=n') :
 QStep P o T m nx nt (.v (.int .i64 n')):=he▸K0 G ho ht hx hn
theorem A1 {α:Type} [Inhabited α] {l:List α} {f:α→List Value} {i:Int} (h0:0<=i) (h1:i < l.length):(l.map f)[i.toNat]?=some (f (l.getD i.toNat default)):=by
 grind
theorem a5A {v v':Value} (h:QStep P o T m nx nt (.v v)) (e:v=v'):QStep P o T m nx nt (.v v'):=e▸h
def a6H (n:Nat) (T:List (Nat×AV)):List Nat→List (Nat×AV)→Option (List (Nat×AV))
 | [],acc=>some acc
 | t :: r,acc=>match look t T with
  | some x=>bif z7 n x then a6H n T r ((t,x) :: acc) else none
  | none=>none
def S0 (n:Nat) (m:List (Nat×Option Row)):List Nat→List (Nat×Option Row)→Option (List (Nat×Option Row))
 | [],acc=>some acc
 | i :: r,acc=>match mem m i with
  | some row=>bif Nat.blt i n && rowRefs n row then S0 n m r ((i,some row) :: acc) else none
  | none=>none
theorem a1h {n:Nat}:∀{ks:List Nat} {acc T0:List (Nat×AV)},a6H n T ks acc=some T0→WeakT T n acc→WeakT T n T0
 | [],acc,T0,h,ha=>by simp [a6H] at h;subst h;exact ha
 | t :: r,acc,T0,h,ha=>by
  simp only [a6H] at h
  cases h1:look t T with
  | none=>simp [h1] at h
  | some x =>
   simp only [h1] at h
   cases h2:z7 n x with
   | false=>simp [h2] at h
   | true =>
    simp only [h2,cond_true] at h
    exact a1h h ⟨⟨x,h1,Z⟩,h2,ha⟩
theorem a0a {n:Nat}:∀{ks:List Nat} {acc M0:List (Nat×Option Row)},S0 n m ks acc=some M0→WeakM m n acc→WeakM m n M0
 | [],acc,M0,h,ha=>by simp [S0] at h;subst h;exact ha
 | t :: r,acc,M0,h,ha=>by
  simp only [S0] at h
  cases h1:mem m t with
  | none=>simp [h1] at h
  | some x =>
   simp only [h1] at h
   cases h2:(Nat.blt t n && rowRefs n x) with
   | false=>simp [h2] at h
   | true =>
    simp only [h2,cond_true] at h
    simp only [Bool.and_eq_true] at h2
    exact a0a h ⟨⟨x,h1,Z⟩,h2.1,h2.2,ha⟩
theorem WeakT.append {n:Nat}:∀{a b:List (Nat×AV)},WeakT T n a→WeakT T n b→WeakT T n (a++b)
 | [],_,_,h=>h
 | (t,x) :: r,_,h,h'=>⟨h.1,h.2.1,WeakT.append h.2.2 h'⟩
theorem WeakM.append {n:Nat} {m:List (Nat×Option Row)}:∀{a b:List (Nat×Option Row)},WeakM m n a→WeakM m n b→WeakM m n (a++b)
 | [],_,_,h=>h
 | (i,none) :: r,_,h,h'=>WeakM.append (a:=r) h h'
 | (i,some row) :: r,_,h,h'=>⟨h.1,h.2.1,h.2.2.1,WeakM.append h.2.2.2 h'⟩
theorem i7 {α:Type} {c:Code} (ks ms:List Nat) (mod:α→List (Nat×AV)) (mm:α→List (Nat×Option Row)) (inv:α→Prop) (μ:α→Nat) (x0:α) {T0:List (Nat×AV)} {M0:List (Nat×Option Row)}
 (hT:a6H nx T ks []=some T0) (hM:S0 nx m ms []=some M0) (h0:inv x0) (w1:WeakT T nx (mod x0)) (w2:WeakM m nx (mm x0))
 (round:∀x,inv x→W P w0 c ⟨mod x++T0,mm x++M0,nx,nt⟩ (sq (λS'=>∃x',inv x'/\μ x' < μ x/\WeakT S'.T nx (mod x')/\WeakM S'.m nx (mm x')/\a6H nx S'.T ks []=some T0/\S0 nx S'.m ms []=some M0/\S'.nt=nt) Q)) :
 W P w0 (.loop c) ⟨T,m,nx,nt⟩ Q:=by
 refine c4P (λx=>⟨mod x++T0,mm x++M0,nx,nt⟩) inv μ x0 h0 ⟨Z,w1.append (a1h hT trivial),w2.append (a0a hM trivial)⟩ (λ_=>Z) (λx hx=>b4A (round x hx) ?_)
 intro e S' hq
 cases e
 case normal =>
  obtain ⟨x',g1,g2,g3,g4,g5,g6,g7⟩:=hq
  exact ⟨x',g1,⟨g7.symm,g3.append (a1h g5 trivial),g4.append (a0a g6 trivial)⟩,g2⟩
 all_goals exact hq
end
end Go.Rf
namespace Go.Rf
open Go
variable {h l n:Int}
def n7 (n l h:Int):Bool:=decide (n≥l) && decide (n<=h)
theorem v8:n7 n l h=true↔l<=n/\n<=h:=by simp [n7]
theorem a9V:n7 n l h=false↔n < l∨h < n:=by
 grind [n7]
variable {P:Program} [Env P] {tb:List (Nat×TyI)} {w0:Base} {T:List (Nat×AV)} {m:List (Nat×Option Row)} {nx nt:Nat} {o:Oper}
theorem b7V {x y:Operand} {ts:Array TypeId} {k:IntKind} {a b:Int} (ho:o.op=.call { callee:=.builtin .min,args:=#[x,y],argTypes:=ts }) (hx:ev T x=some (.v (.int k a))) (hy:ev T y=some (.v (.int k b))) :
 QStep P o T m nx nt (.v (.int k (min a b))):=by
 have:=c69 (P:=P) (m:=m) (nx:=nx) (nt:=nt) ho hx hy
 grind
section
variable {α β:Type} [Inhabited α] {f:α→β} {z:β} {xs ys:List α} {i:Nat}
def c9P (f:α→β) (z:β) (xs:List α) (i:Nat):List β:=(xs.take i).map f++List.replicate (xs.length - i) z
theorem R1 (h:i < xs.length):(xs.map f)[((i:Int)).toNat]?=some (f (xs.getD i default)):=by simp [h]
theorem A7 {j:Int} (h0:0<=j) (h:j.toNat < xs.length):(xs.map f)[j.toNat]?=some (f (xs.getD j.toNat default)):=by simp [h]
theorem b4G (hl:xs.length=ys.length) (h:∀j,j < i→xs.getD j default=ys.getD j default) (hi:xs.length<=i):xs=ys:=by
 apply List.ext_getElem hl
 intro j h1 h2
 have:=h j J
 simpa [h1,h2] using this
theorem b3v (h:xs.getD i default≠ys.getD i default):xs≠ys:=λe=>h (by rw [e])
theorem s4 {p:Nat→Prop} (h:∀j,j < i→p j) (hi:p i):∀j,j < i+1→p j:=λj hj=>by
 grind
end
def a18 (n:Nat) (f:Nat→Bool):Bool:=(List.range n).all f
theorem a3i {n i:Nat} {f:Nat→Bool} (h:∀j,j < i→f j=true) (hi:n<=i):a18 n f=true:=by
 grind [a18]
theorem a1i {n i:Nat} {f:Nat→Bool} (h:f i=false) (hi:i < n):a18 n f=false:=by
 grind [a18]
theorem F6 {n:Nat} {f:Nat→Bool}:a18 n f=true↔∀j,j < n→f j=true:=by simp [a18]
def b7W {β:Type} (f:Nat→β→β) (b:β):Nat→β
 | 0=>b
 | n+1=>f n (b7W f b n)
theorem Ctr.int [Env P] {f:FuncId} {args:List AV} {a b:Int} (h:Ctr P f args (.one (.v (.int .i64 a)))) (e:a=b):Ctr P f args (.one (.v (.int .i64 b))):=e▸h
def s2 (s:ByteArray) (i:Nat):Int:=(s.data.toList.getD i 0).toNat
structure Setting where
 g:Int
 n:ByteArray
 c:Int
 f:Int
 w:Int
 k:Bool
instance:Inhabited Setting:=⟨⟨0,⟨#[]⟩,0,0,0,false⟩⟩
theorem a4b {a b:ByteArray} (h:a.toList=b.toList):a=b:=by
 rw [Go.ByteArray.toList_eq,Go.ByteArray.toList_eq] at h
 exact ByteArray.ext (Array.ext' h)
end Go.Rf
namespace Go.Rf
open Go Go.ChangeShapes Go.WideShapes Go.Deep Go.ChangeAt Go.RowKit
variable {cs:List Value} {n:Nat} {v:Value} {w:World}
inductive CK where
 | int (k:IntKind)
 | bool
 | str
variable {k:CK}
def CellOK:CK→Value→Prop
 | .int k,v=>∃n,v=.int k n/\(Lit.int k n).wf=true
 | .bool,v=>∃b,v=.bool b
 | .str,v=>∃s,v=.string s/\s.size<=maxLen
def CellsOK:List CK→List Value→Prop
 | [],cs=>cs=[]
 | k :: ks,cs=>∃v vs,cs=v :: vs/\CellOK k v/\CellsOK ks vs
def b7X (P:Program) (t:TypeId):Option CK:=match P.underlying t with
 | some (.int k)=>some (.int k)
 | some .bool=>some .bool
 | some .string=>some .str
 | _=>none
def b6Z (P:Program):List Field→Option (List CK)
 | []=>some []
 | f :: r=>match b7X P f.type,b6Z P r with
  | some k,some ks=>some (k :: ks)
  | _,_=>none
theorem CellOK.one (h:CellOK k v):v.oneCell'=true:=by
 cases k<;>simp only [CellOK] at h
 ·obtain ⟨n,rfl,_⟩:=h;rfl
 ·obtain ⟨n,rfl⟩:=h;rfl
 ·obtain ⟨n,rfl,_⟩:=h;rfl
theorem CellsOK.len:∀{ks:List CK} {cs:List Value},CellsOK ks cs→cs.length=ks.length/\∀u∈cs,u.oneCell'=true
 | [],cs,h=>by simp only [CellsOK] at h;subst h;simp
 | k :: ks,cs,h=>by
  simp only [CellsOK] at h
  obtain ⟨v,vs,rfl,h1,h2⟩:=h
  obtain ⟨a,b⟩:=CellsOK.len h2
  exact ⟨by simp [a],λu hu=>by rcases List.mem_cons.mp hu with rfl | hu;exact h1.one;exact b u hu⟩
section
variable {H:Type} {enc:TypeId×Value→H} {P:Program} {w:World} {base:Nat} {spare:Nat→Bool} {held:Bool} {t e:TypeId}
theorem a6I {x:DataW H×List MemPlace} (hk:b7X P t=some k) (h:DataW.trod enc P w base spare held n t cs=some x):∃v,cs=[v]/\CellOK k v:=by
 unfold b7X at hk
 split at hk<;>cases hk
 ·next k ht=>obtain ⟨n,rfl,_,hw⟩:=DataW.trod_int ht h;exact ⟨_,Z,n,Z,hw⟩
 ·next ht=>obtain ⟨b,rfl,_⟩:=DataW.trod_bool ht h;exact ⟨_,Z,b,Z⟩
 ·next ht=>obtain ⟨s,rfl,_,hs⟩:=DataW.trod_string ht h;exact ⟨_,Z,s,Z,hs⟩
theorem a9W:∀(l:List Field) (ks:List CK) (cs:List Value),b6Z P l=some ks→cs.length=l.length→(∀(j:Nat) (f:Field) (k:CK),l[j]?=some f→b7X P f.type=some k→∃v,cs[j]?=some v/\CellOK k v)→CellsOK ks cs
 | [],ks,cs,hk,hl,_=>by simp [b6Z] at hk;subst hk;simpa [CellsOK] using hl
 | f :: r,ks,cs,hk,hl,h=>by
  simp only [b6Z] at hk
  split at hk
  ·next k ks' h1 h2 =>
   cases hk
   match cs,hl with
   | c :: cs,hl =>
    obtain ⟨v,hv,hok⟩:=h 0 f k Z h1
    simp at hv
    subst hv
    exact ⟨c,cs,Z,hok,a9W r ks' cs h2 (by simpa using hl) λj f' k' hj hk'=>by simpa using h (j+1) f' k' (by simpa using hj) hk'⟩
  ·cases hk
theorem a8Y {fs:Array Field} {ks:List CK} {x:DataW H×List MemPlace} (hs:P.underlying t=some (.struct fs)) (hone:oneCellFields P fs=true) (hC:P.cellsOf t=fs.size) (hk:b6Z P fs.toList=some ks)
 (h:DataW.trod enc P w base spare held n t cs=some x):CellsOK ks cs:=by
 obtain ⟨xs,n',_,_,hlen,hxl,hf⟩:=DataW.trod_struct hs h
 refine a9W _ _ _ hk (by rw [hlen,hC];simp) λj f k hj hkf=>?_
 have hj':fs[j]?=some f:=by simpa using hj
 obtain ⟨ho,h1⟩:=hone_of hone j f hj'
 have hjl:j < fs.size:=(Array.getElem?_eq_some_iff.1 hj').1
 have h2:=hf j f hj'
 rw [ho,h1,List.getElem?_eq_getElem J] at h2
 obtain ⟨v,hv,hok⟩:=a6I hkf h2
 refine ⟨v,?_,hok⟩
 have:((cs.drop j).take 1)[0]?=some v:=by rw [hv];rfl
 simpa using this
theorem b4H {a:Addr} (h:w.cell? a=some v):a.block < w.heap.size:=by
 unfold World.cell? at h
 grind
inductive EK where
 | one (k:CK)
 | str (fs:Array Field) (ks:List CK)
def EK.sz:EK→Nat
 | .one _=>1
 | .str fs _=>fs.size
def EK.ks:EK→List CK
 | .one k=>[k]
 | .str _ ks=>ks
def EK.Fits (P:Program) (e:TypeId):EK→Prop
 | .one k=>b7X P e=some k/\P.cellsOf e=1
 | .str fs ks=>P.underlying e=some (.struct fs)/\oneCellFields P fs=true/\P.cellsOf e=fs.size/\b6Z P fs.toList=some ks
theorem EK.Fits.cells {E:EK} (h:E.Fits P e):P.cellsOf e=E.sz:=by cases E<;>simp only [EK.Fits] at h;exact h.2;exact h.2.2.1
theorem EK.Fits.trod {E:EK} (h:E.Fits P e) {n:Nat} {cs:List Value} {x:DataW H×List MemPlace} (ht:DataW.trod enc P w base spare held n e cs=some x):CellsOK E.ks cs:=by
 cases E<;>simp only [EK.Fits] at h
 ·obtain ⟨v,rfl,hv⟩:=a6I h.1 ht;exact ⟨v,[],Z,hv,Z⟩
 ·exact a8Y h.1 h.2.1 h.2.2.1 h.2.2.2 ht
theorem b3w {v:Value} {d:DataW H} {p:List MemPlace} {E:EK} (ht:P.underlying t=some (.slice e)) (hE:E.Fits P e) (hsz:E.sz≠0) (hv:∃a len cap,v=.slice a len cap) (h:DataW.Trod enc P w base spare held t v d p) :
 ∃ys,ReadsAt w E.sz ys v/\ys.length<=maxLen/\∀c∈ys,CellsOK E.ks c:=by
 obtain ⟨a,len,cap,rfl⟩:=hv
 obtain ⟨fuel,hf⟩:=h
 rcases open_slice ht hf with ⟨hcs,_⟩ | ⟨a',len',cap',m,n,D,Pl,hcs,hb,hl,hm,hmm,hx,hi⟩
 ·simp [Value.cells] at hcs
  obtain ⟨rfl,rfl,rfl⟩:=hcs
  exact ⟨[],⟨none,0,Z,Nat.le_refl _,by simp,by simp⟩,by simp,by simp⟩
 ·simp [Value.cells] at hcs
  obtain ⟨rfl,rfl,rfl⟩:=hcs
  have hlm:len<=m:=by rw [hmm];split<;>omega
  rw [hE.cells] at hi
  let ys:=(List.range len).map λi=>(w.cells? base (a'.add (i * E.sz)) E.sz).getD []
  have hget:∀i c,ys[i]?=some c→i < len/\w.cells? base (a'.add (i * E.sz)) E.sz=some c/\CellsOK E.ks c:=by
   intro i c hic
   simp only [ys,List.getElem?_map] at hic
   rcases Nat.lt_or_ge i len with hlt | hge
   ·obtain ⟨cs',h1,h2⟩:=hi i J
    rw [List.getElem?_range hlt] at hic
    simp [h1] at hic
    subst hic
    exact ⟨hlt,h1,hE.trod h2⟩
   grind
  have hlen:ys.length=len:=by simp [ys]
  refine ⟨ys,⟨some a',cap,by rw [hlen],by omega,λc hc=>?_,λh0=>⟨a',Z,?_,λi c hic j u hju=>?_⟩⟩,by omega,λc hc=>?_⟩
  ·obtain ⟨i,hic⟩:=List.getElem?_of_mem hc
   obtain ⟨_,h1,h2⟩:=hget i c hic
   exact ⟨(World.cells?_some h1).2.1,h2.len.2⟩
  ·obtain ⟨cs',h1,_⟩:=hi 0 J
   obtain ⟨_,h2,h3⟩:=World.cells?_some h1
   have h4:=h3 0 J
   rw [List.getElem?_eq_getElem J] at h4
   have:=b4H h4
   simpa [Addr.add] using this
  ·obtain ⟨_,h1,_⟩:=hget i c hic
   obtain ⟨_,h2,h3⟩:=World.cells?_some h1
   have hj:j < c.length:=(List.getElem?_eq_some_iff.1 hju).1
   rw [← hju,← h3 j J]
   rw [← Go.Deep.add_add]
  ·obtain ⟨i,hic⟩:=List.getElem?_of_mem hc
   exact (hget i c hic).2.2
end
theorem b60:RelVs w noRho 0 [] []:=rfl
theorem b61 {sz:Nat} {ys:List (List Value)} {as:List AV} {vs:List Value} (hr:ReadsAt w sz ys v) (h:RelVs w noRho 0 as vs):RelVs w noRho 0 (.lst sz ys :: as) (v :: vs):=by
 grind [RelVs,RelV]
theorem Ctr.true {P:Program} [Env P] {f:FuncId} {args:List AV} (h:Ctr P f args (.one (.v (.bool Bool.true)))) {w:World} {vs:List Value} (hE:Env.E P w) (hv:RelVs w noRho 0 args vs) :
 Calls P f vs.toArray w λe w'=>e=.returned (.bool Bool.true)/\Below w.heap.size w w' :=
 (h.calls w vs hE hv).mono λe w' ⟨v,he,hr,hb⟩=>⟨by simp only [ResRel,RCRel] at hr;rw [he,hr],hb⟩
end Go.Rf
namespace Go.Rf
open Go
theorem b3x {α:Type} {f:α→List Value} {ks:List CK} {Q:α→Prop} (h:∀c,CellsOK ks c→∃x,c=f x/\Q x):∀(ys:List (List Value)),(∀c∈ys,CellsOK ks c)→∃xs:List α,ys=xs.map f/\∀x∈xs,Q x
 | [],_=>⟨[],Z,by simp⟩
 | c :: r,hc=>by
  obtain ⟨x,rfl,hx⟩:=h c (hc c (by simp))
  obtain ⟨xs,rfl,hxs⟩:=b3x h r (λc' h'=>hc c' (by simp [h']))
  exact ⟨x :: xs,Z,λy hy=>by rcases List.mem_cons.mp hy with rfl | hy;exact hx;exact hxs y hy⟩
end Go.Rf
namespace Go.Rf
open Go Go.RowKit
variable {M1 m:List (Nat×Option Row)} {P:Program} {S:St} {T1:List (Nat×AV)} {a:Act} {b:Int} {cs xs:List AV} {id nx':Nat} {k:IntKind} {ms ts:List Nat} {rs:List ResultVar} {w w':World} {w0:Base} {x y:Operand} {ys:List (List Value)} {ρ ρ':Nat→Value}
def nq (K:St→Prop):Exit→St→Prop
 | .normal,S=>K S
 | _,_=>False
def a5V:Op→Bool
 | .load _ _=>true
 | .field _ _ _=>true
 | .fieldAddr _ _ _=>true
 | .index _ _ _=>true
 | .indexAddr _ _ _=>true
 | .move _=>true
 | .assign _=>true
 | .binOp _ _ _ _ _=>true
 | .unOp _ _ _=>true
 | .convert _ _ _=>true
 | .slice _ _ _ _ _=>true
 | .build _ _=>true
 | .extract _ _=>true
 | .pick _ _ _=>true
 | .makeFunc _ _ _=>true
 | .call { callee:=.builtin .len,args:=_,argTypes:=_ }=>true
 | .call { callee:=.builtin .min,args:=_,argTypes:=_ }=>true
 | .call { callee:=.builtin .max,args:=_,argTypes:=_ }=>true
 | _=>false
theorem a8J {x:Sem Value} {n:Next} (h:(do let v ← x;pure (Next.value v):Sem Next).run P w=.ok n w'):∃v,n=.value v:=by
 simp only [Sem.run_bind] at h
 cases hx:x.run P w with
 | ok v w1=>rw [hx] at h;simp at h;exact ⟨v,h.1.symm⟩
 | halt c w1=>rw [hx] at h;simp at h
theorem a7V {o:Oper} (hp:a5V o.op=true) {ρ:Operand→Value} {w w':World} {n:Next} (h:(execOp ρ o).run P w=.ok n w'):∃v,n=.value v:=by
 unfold execOp at h
 split at h<;>rename_i he<;>rw [he] at hp<;>first
  | (cases hp;done)
  | exact a8J h
  | (simp at h;exact ⟨_,h.1.symm⟩)
  | skip
 ·simp only [Sem.run_bind] at h
  rename_i c x y
  cases hx:(asBool (ρ c)).run P w with
  | ok v w1=>rw [hx] at h;simp at h;exact ⟨_,h.1.symm⟩
  | halt cc w1=>rw [hx] at h;simp at h
 ·rename_i c
  obtain ⟨cal,args,ts⟩:=c
  cases cal with
  | value f=>cases hp
  | invoke r nm=>cases hp
  | builtin b =>
   cases b<;>first
    | (cases hp;done)
    | (simp only [resolve,invoke,builtin,Sem.run_bind,Sem.run_pure,Result.andThen_ok] at h;exact a8J (by simpa only [Sem.run_bind,Sem.run_pure] using h))
section
variable {P:Program} [Env P] {b:Base} {ops:Array Oper} {o:Oper} {T:List (Nat×AV)} {m m0:List (Nat×Option Row)} {nx nt d i fuel:Nat} {listed:Array Bool} {r:AV} {K:St→Prop}
def Cls (b:Base) (m0:List (Nat×Option Row)) (w:World):Prop:=RelC b b.r0 m0 b.n0 w
theorem Inner.eq {w0':Base} (h:Inner w0 ρ m w) (hr:∀id r,mem m id=some r→ρ' id=ρ id) (hk:w0'.keep=w0.keep:=by rfl) (hw:w0'.w=w0.w:=by rfl):Inner w0' ρ' m w:=by
 intro id r hm p b hb
 rw [hr id r hm] at hb
 obtain ⟨g1,g2,g3,g4⟩:=h id r hm p b hb
 grind
theorem RelC.pinned (hC:RelC b ρ m nx w) (h:Cls b m0 w'):RelC b ρ m0 nx w':=by
 have hr:∀i,i < b.n0→ρ i=b.r0 i:=hC.pin.2
 refine ⟨λid r hm=>?_,λid id' r r' hm hm' hne bb hb=>?_,h.below,hC.pin,⟨h.kept.1,h.kept.2.1,λid r hm bb hb=>?_⟩,h.inner.eq λid r hm=>hr id (h.rows id r hm).1⟩
 ·obtain ⟨h1,h2⟩:=h.rows id r hm
  exact ⟨Nat.lt_of_lt_of_le h1 hC.pin.1,h2.mono hC.pin.1 hr h1⟩
 ·have h1:=(h.rows id r hm).1
  have h2:=(h.rows id' r' hm').1
  rw [hr id h1] at hb
  rw [hr id' h2]
  exact h.apart id id' r r' hm hm' hne bb hb
 ·rw [hr id (h.rows id r hm).1] at hb
  exact h.kept.2.2 id r hm bb hb
theorem RelC.cls {ρ:Nat→Value} {w:World} {ms:List Nat} (hC:RelC b ρ m nx w) (h:S0 b.n0 m ms []=some m0):Cls b m0 w:=by
 have hw:WeakM m b.n0 m0:=a0a h trivial
 have hr:∀i,i < b.n0→ρ i=b.r0 i:=hC.pin.2
 have h2:RelC b ρ m0 b.n0 w:=(Weak.rel (S:=⟨[],m,nx,0⟩) (S':=⟨[],m0,b.n0,0⟩) ⟨Z,trivial,hw⟩ (Nat.le_refl _) (ρ:=ρ) (a:=⟨#[],[]⟩) ⟨λt x hx=>(by cases hx),Z,Z⟩ hC).2
 refine ⟨λid r hm=>?_,λid id' r r' hm hm' hne bb hb=>?_,h2.below,⟨Nat.le_refl _,λ_ _=>Z⟩,⟨h2.kept.1,h2.kept.2.1,λid r hm bb hb=>?_⟩,h2.inner.eq λid r hm=>(hr id (h2.rows id r hm).1).symm⟩
 ·obtain ⟨g1,g2⟩:=h2.rows id r hm
  exact ⟨g1,g2.mono (Nat.le_refl _) (λj hj=>(hr j hj).symm) g1⟩
 ·have g1:=(h2.rows id r hm).1
  have g2:=(h2.rows id' r' hm').1
  rw [← hr id g1] at hb
  rw [← hr id' g2]
  exact h2.apart id id' r r' hm hm' hne bb hb
 ·rw [← hr id (h2.rows id r hm).1] at hb
  exact h2.kept.2.2 id r hm bb hb
def WA (P:Program) (b:Base) (ops:Array Oper) (m0:List (Nat×Option Row)) (fuel:Nat) (listed:Array Bool) (S:St) (K:St→Prop):Prop :=
 Region.noSelect ops=true→∀ρ a w,RelT b.w ρ S.T S.nx S.nt a→RelC b ρ S.m S.nx w→Cls b m0 w→wpAnyH P .any ops (a25 b (nq K)) (Cls b m0) fuel listed a w
theorem H0 {e:Exit} (h:a25 b (nq K) e a w):e=.normal:=by
 obtain ⟨ρ,S,h,_⟩:=h
 cases e<;>first | rfl | exact h.elim
theorem d5 [EnvAt P b] (i:Nat) (hi:ops[i]?=some o) (hf:Region.free .any ops listed i=true) (hr:(Region.ready .any ops listed).contains i=true) (hp:a5V o.op=true) (hg:o.guard=none)
 (hd:o.dst=some d) (hlt:Nat.blt d nt=true) (hq:QStep P o T m0 nx nt r) (hk:WA P b ops m0 fuel (listed.setIfInBounds i true) ⟨(d,r) :: T,m,nx,nt⟩ K):WA P b ops m0 (fuel+1) listed ⟨T,m,nx,nt⟩ K:=by
 intro hs ρ a w hT hC hS
 obtain ⟨y,hy,hq⟩:=hq b ρ a w hT (hC.pinned hS)
 refine wpAnyH_take hi hs hf hr (λc a w h=>absurd (H0 h) (by simp)) (v:=y) (.inl ⟨by simp [Region.wanted,hg],λw' hw'=>?_⟩) hS ?_
 ·have h1:=hq w' (hC.pinned hw')
  unfold Oper.quietAt at h1
  generalize hres:(execOp a.eval o).run P w'=res at *
  cases res with
  | ok n w'' =>
   obtain ⟨v,rfl⟩:=a7V hp hres
   simp only [Oper.quietUpon] at h1
   rw [h1.1,h1.2]
  | halt x w''=>simp only [Oper.quietUpon] at h1
 ·rw [hd]
  exact hk hs ρ _ w (hT.put hlt hy) hC hS
theorem V7 [EnvAt P b] (i:Nat) {j gd:Nat} {want:Bool} (hi:ops[i]?=some o) (hf:Region.free .any ops listed i=true) (hr:(Region.ready .any ops listed).contains i=true) (hp:a5V o.op=true) (hg:o.guard=some (j,want))
 (hj:(ops[j]?).bind (·.dst)=some gd) (hb:look gd T=some (.v (.bool want)))
 (hd:o.dst=some d) (hlt:Nat.blt d nt=true) (hq:QStep P o T m0 nx nt r) (hk:WA P b ops m0 fuel (listed.setIfInBounds i true) ⟨(d,r) :: T,m,nx,nt⟩ K):WA P b ops m0 (fuel+1) listed ⟨T,m,nx,nt⟩ K:=by
 intro hs ρ a w hT hC hS
 obtain ⟨y,hy,hq⟩:=hq b ρ a w hT (hC.pinned hS)
 refine wpAnyH_take hi hs hf hr (λc a w h=>absurd (H0 h) (by simp)) (v:=y) (.inl ⟨by rw [Z5 hT hg hj hb];simp,λw' hw'=>?_⟩) hS ?_
 ·have h1:=hq w' (hC.pinned hw')
  unfold Oper.quietAt at h1
  generalize hres:(execOp a.eval o).run P w'=res at *
  cases res with
  | ok n w'' =>
   obtain ⟨v,rfl⟩:=a7V hp hres
   simp only [Oper.quietUpon] at h1
   rw [h1.1,h1.2]
  | halt x w''=>simp only [Oper.quietUpon] at h1
 ·rw [hd]
  exact hk hs ρ _ w (hT.put hlt hy) hC hS
theorem a3j (i:Nat) {j gd:Nat} {want bb:Bool} (hi:ops[i]?=some o) (hf:Region.free .any ops listed i=true) (hr:(Region.ready .any ops listed).contains i=true) (hg:o.guard=some (j,want))
 (hj:(ops[j]?).bind (·.dst)=some gd) (hb:look gd T=some (.v (.bool bb))) (hne:(bb==want)=false)
 (hd:o.dst=some d) (hlt:Nat.blt d nt=true) (hk:WA P b ops m0 fuel (listed.setIfInBounds i true) ⟨(d,.v undef) :: T,m,nx,nt⟩ K):WA P b ops m0 (fuel+1) listed ⟨T,m,nx,nt⟩ K:=by
 intro hs ρ a w hT hC hS
 refine wpAnyH_take hi hs hf hr (λc a w h=>absurd (H0 h) (by simp)) (v:=undef) (.inr ⟨by rw [Z5 hT hg hj hb,hne],Z⟩) hS ?_
 rw [hd]
 exact hk hs ρ _ w (hT.put hlt (by simp [RelV])) hC hS
theorem b62 (i:Nat) {j gd:Nat} {want:Bool} (hi:ops[i]?=some o) (hf:Region.free .any ops listed i=true) (hr:(Region.ready .any ops listed).contains i=true) (hg:o.guard=some (j,want))
 (hj:(ops[j]?).bind (·.dst)=some gd) (hb:look gd T=some (.v undef))
 (hd:o.dst=some d) (hlt:Nat.blt d nt=true) (hk:WA P b ops m0 fuel (listed.setIfInBounds i true) ⟨(d,.v undef) :: T,m,nx,nt⟩ K):WA P b ops m0 (fuel+1) listed ⟨T,m,nx,nt⟩ K:=by
 intro hs ρ a w hT hC hS
 refine wpAnyH_take hi hs hf hr (λc a w h=>absurd (H0 h) (by simp)) (v:=undef) (.inr ⟨a26 hT hg hj hb,Z⟩) hS ?_
 rw [hd]
 exact hk hs ρ _ w (hT.put hlt (by simp [RelV])) hC hS
theorem c0G {S:St} {gd:Nat} {bb:Bool} (hb:look gd S.T=some (.v (.bool bb))) (h1:bb=true→WA P b ops m0 fuel listed S K) (h2:bb=false→WA P b ops m0 fuel listed S K):WA P b ops m0 fuel listed S K:=by
 grind
def WB (P:Program) (b:Base) (ops:Array Oper) (m0:List (Nat×Option Row)) (fuel:Nat) (listed:Array Bool) (i:Nat) (S:St) (K:St→Prop):Prop :=
 Region.noSelect ops=true→∀ρ a w,RelT b.w ρ S.T S.nx S.nt a→RelC b ρ S.m S.nx w→Cls b m0 w→wpOp P ops (a25 b (nq K)) i (λa' w'=>Cls b m0 w'/\wpAnyH P .any ops (a25 b (nq K)) (Cls b m0) fuel (listed.setIfInBounds i true) a' w') a w
def AllB (P:Program) (b:Base) (ops:Array Oper) (m0:List (Nat×Option Row)) (fuel:Nat) (listed:Array Bool) (S:St) (K:St→Prop):List Nat→Prop
 | []=>True
 | i :: r=>WB P b ops m0 fuel listed i S K/\AllB P b ops m0 fuel listed S K r
theorem AllB.get:∀{rs:List Nat},AllB P b ops m0 fuel listed S K rs→∀i∈rs,WB P b ops m0 fuel listed i S K
 | [],_,i,hi=>by cases hi
 | j :: r,h,i,hi=>by
  rcases List.mem_cons.1 hi with rfl | hi
  ·exact h.1
  ·exact AllB.get h.2 i hi
theorem AllB.nil:AllB P b ops m0 fuel listed S K []:=trivial
theorem AllB.cons {rs:List Nat} (h:WB P b ops m0 fuel listed i S K) (h':AllB P b ops m0 fuel listed S K rs):AllB P b ops m0 fuel listed S K (i :: rs):=⟨h,h'⟩
theorem b7 {S:St} {rs:List Nat} (hr:Region.ready .any ops listed=rs) (hne:rs.isEmpty=false) (h:AllB P b ops m0 fuel listed S K rs):WA P b ops m0 (fuel+1) listed S K :=
 λhs ρ a w hT hC hS=>wpAnyH_all hr (by rintro rfl;cases hne) λi hi=>h.get i hi hs ρ a w hT hC hS
theorem C3 (hr:Region.ready .any ops listed=[]) (h:K S):WA P b ops m0 fuel listed S K :=
 λhs ρ a w hT hC hS=>wpAnyH_done hr ⟨ρ,S,h,hT,hC⟩ fuel
theorem b5C {K':St→Prop} {n n':Act→World→Prop} (h:o.wp P a w n (a25 b (nq K))) (hn:∀a w,n a w→n' a w):o.wp P a w n' (a25 b (nq K')):=by
 unfold Oper.wp at *
 generalize (execOp a.eval o).run P w=r at *
 cases r with
 | ok x w' =>
  cases x<;>simp only [Oper.upon] at h ⊢<;>first
   | exact hn _ _ h
   | skip
  case enter f args =>
   refine h.mono λe w'' he=>?_
   cases e with
   | returned u=>exact hn _ _ he
   | panicked c=>exact absurd (H0 he) (by simp)
   | outgrown=>obtain ⟨a,w,he⟩:=he;exact absurd (H0 he) (by simp)
  case row row args=>exact Rows.mono h λu w'' he=>hn _ _ he
 | halt x w' =>
  cases x<;>simp only [Oper.upon] at h ⊢
  assumption
theorem f9 (ms:List Nat) {S:St} (hi:ops[i]?=some o) (hg:o.guard=none)
 (h:WX P b ops o [] S (nq (λS'=>S0 b.n0 S'.m ms []=some m0/\WA P b ops m0 fuel (listed.setIfInBounds i true) S' K))):WB P b ops m0 fuel listed i S K:=by
 intro hs ρ a w hT hC hS
 unfold wpOp
 simp only [hi]
 rw [if_pos (by simp [Region.wanted,hg])]
 refine .inl (b5C (h ρ a w hT hC) ?_)
 rintro a' w' ⟨ρ',S',⟨h1,h2⟩,hT',hC'⟩
 exact ⟨hC'.cls h1,h2 hs ρ' a' w' hT' hC' (hC'.cls h1)⟩
theorem c0H (ms:List Nat) {S:St} {j gd:Nat} {want:Bool} (hi:ops[i]?=some o) (hg:o.guard=some (j,want)) (hj:(ops[j]?).bind (·.dst)=some gd) (hb:look gd S.T=some (.v (.bool want)))
 (h:WX P b ops o [] S (nq (λS'=>S0 b.n0 S'.m ms []=some m0/\WA P b ops m0 fuel (listed.setIfInBounds i true) S' K))):WB P b ops m0 fuel listed i S K:=by
 intro hs ρ a w hT hC hS
 unfold wpOp
 simp only [hi]
 rw [if_pos (by rw [Z5 hT hg hj hb];simp)]
 refine .inl (b5C (h ρ a w hT hC) ?_)
 rintro a' w' ⟨ρ',S',⟨h1,h2⟩,hT',hC'⟩
 exact ⟨hC'.cls h1,h2 hs ρ' a' w' hT' hC' (hC'.cls h1)⟩
theorem l2 (n:Nat) (ms:List Nat) {id:Nat} {l:List Oper} {Q:Exit→St→Prop} (hm:P.follows .mixedOrders=true) (hs:Region.noSelect l.toArray=true) (hn:l.toArray.size=n) (hK:S0 nx m ms []=some m0)
 (h:∀r0,WA P ⟨w0.w,nx,r0,w0.ws,w0.keep,w0.kb,w0.E,w0.hE⟩ l.toArray m0 n (Array.replicate n false) ⟨T,m,nx,nt⟩ K) (hq:∀S',K S'→Q .normal S'):W P w0 (.region id l.toArray true) ⟨T,m,nx,nt⟩ Q:=by
 intro ρ a w hT hC
 refine wp_region_held (S:=Cls ⟨w0.w,nx,ρ,w0.ws,w0.keep,w0.kb,w0.E,w0.hE⟩ m0) hm ?_
 have hC1:RelC ⟨w0.w,nx,ρ,w0.ws,w0.keep,w0.kb,w0.E,w0.hE⟩ ρ m nx w.drew:=let h:=hC.drew;⟨h.rows,h.apart,h.below,⟨Nat.le_refl _,λ_ _=>Z⟩,h.kept,h.inner⟩
 subst hn
 have h1:=h ρ hs ρ a w.drew hT hC1 (RelC.cls (ms:=ms) hC1 hK)
 refine mono (λa' w' hp=>?_) _ _ _ _ h1
 obtain ⟨ρ',S',h2,h3,h4⟩:=hp
 exact ⟨ρ',S',hq S' h2,h3,h4.rows,h4.apart,h4.below,⟨Nat.le_trans hC.pin.1 h4.pin.1,λi hi=>(h4.pin.2 i (Nat.lt_of_lt_of_le hi hC.pin.1)).trans (hC.pin.2 i hi)⟩,h4.kept,h4.inner⟩
where
 mono {b:Base} {S:World→Prop} {Q':Exit→Act→World→Prop} {ops:Array Oper} {K:St→Prop} (h:∀a w,a25 b (nq K) .normal a w→Q' .normal a w):∀(fuel:Nat) (listed:Array Bool) (a:Act) (w:World),wpAnyH P .any ops (a25 b (nq K)) S fuel listed a w→wpAnyH P .any ops Q' S fuel listed a w
  | 0,_,_,_,hh=>⟨hh.1,h _ _ hh.2⟩
  | fuel+1,listed,a,w,hh=>⟨λh0=>h _ _ (hh.1 h0),λi hi=>by
   have h3:=hh.2 i hi
   unfold wpOp at h3 ⊢
   cases ho:ops[i]? with
   | none=>simp only [ho] at h3;exact ⟨h3.1,mono h fuel _ _ _ h3.2⟩
   | some o =>
    simp only [ho] at h3 ⊢
    split
    ·rename_i hw
     rw [if_pos hw] at h3
     rcases h3 with h3 | ⟨_,a',w',h3⟩
     ·refine .inl (wp_any h3 λa w h4=>⟨h4.1,mono h fuel _ _ _ h4.2⟩)
     ·exact absurd (H0 h3) (by simp)
    ·rename_i hw
     rw [if_neg hw] at h3
     exact ⟨h3.1,mono h fuel _ _ _ h3.2⟩⟩
 wp_any {b:Base} {o:Oper} {K:St→Prop} {a:Act} {w:World} {n n':Act→World→Prop} {Q':Exit→Act→World→Prop} (h:o.wp P a w n (a25 b (nq K))) (hn:∀a w,n a w→n' a w):o.wp P a w n' Q':=by
  unfold Oper.wp at *
  generalize (execOp a.eval o).run P w=r at *
  cases r with
  | ok x w' =>
   cases x<;>simp only [Oper.upon] at h ⊢<;>first
    | exact hn _ _ h
    | skip
   case enter f args =>
    refine h.mono λe w'' he=>?_
    cases e with
    | returned u=>exact hn _ _ he
    | panicked c=>exact absurd (H0 he) (by simp)
    | outgrown=>obtain ⟨a,w,he⟩:=he;exact absurd (H0 he) (by simp)
   case row row args=>exact Rows.mono h λu w'' he=>hn _ _ he
  | halt x w' =>
   cases x<;>simp only [Oper.upon] at h ⊢
   case panic u=>exact absurd (H0 h) (by simp)
def Meet (ts ms:List Nat) (T1:List (Nat×AV)) (M1:List (Nat×Option Row)) (nx nt:Nat) (S:St):Prop :=
 a6H nx S.T ts []=some T1/\S0 nx S.m ms []=some M1/\S.nx=nx/\S.nt=nt
theorem Meet.mk (h1:a6H nx S.T ts []=some T1) (h2:S0 nx S.m ms []=some M1) (h3:S.nx=nx) (h4:S.nt=nt):Meet ts ms T1 M1 nx nt S:=⟨h1,h2,h3,h4⟩
theorem Meet.use {c:Code} {Q:Exit→St→Prop} (h:Meet ts ms T1 M1 nx nt S) (hk:W P w0 c ⟨T1,M1,nx,nt⟩ Q):W P w0 c S Q:=by
 obtain ⟨h1,h2,h3,h4⟩:=h
 exact b7S (S':=⟨T1,M1,nx,nt⟩) ⟨h4.symm,a1h h1 trivial,a0a h2 trivial⟩ h3.symm hk
theorem C4 (ts ms2:List Nat) (nx2 n:Nat) (ms:List Nat) {id:Nat} {l:List Oper} {y:Code} {Q Q':Exit→St→Prop} {T1:List (Nat×AV)} {M1:List (Nat×Option Row)} (hm:P.follows .mixedOrders=true) (hs:Region.noSelect l.toArray=true) (hn:l.toArray.size=n) (hK:S0 nx m ms []=some m0)
 (hq:∀S',W P w0 y S' Q'→Q .normal S') (h:∀r0,WA P ⟨w0.w,nx,r0,w0.ws,w0.keep,w0.kb,w0.E,w0.hE⟩ l.toArray m0 n (Array.replicate n false) ⟨T,m,nx,nt⟩ (Meet ts ms2 T1 M1 nx2 nt)) (h2:W P w0 y ⟨T1,M1,nx2,nt⟩ Q'):W P w0 (.region id l.toArray true) ⟨T,m,nx,nt⟩ Q :=
 l2 n ms hm hs hn hK h λS' hS=>hq S' (hS.use h2)
end
def evL (T:List (Nat×AV)):List Operand→List AV→Option (List AV)
 | [],acc=>a3a acc []
 | x :: xs,acc=>match ev T x with
  | some av=>evL T xs (av :: acc)
  | none=>none
mutual
def a4c (ids:List Nat):AV→AV
 | .own i=>.own (ids.getD i 0)
 | .sub i sz a n=>.sub (ids.getD i 0) sz a n
 | .ptr i o=>.ptr (ids.getD i 0) o
 | .rpt i sz a k=>.rpt (ids.getD i 0) sz a k
 | .agg cs=>.agg (renAs ids cs)
 | .tup cs=>.tup (renAs ids cs)
 | .fnc f cs=>.fnc f (renAs ids cs)
 | .v x=>.v x
 | .lst sz ys=>.lst sz ys
 | .pin z sz ys=>.pin z sz ys
 | .ept cs=>.ept cs
 | .nst z sz yss=>.nst z sz yss
 | .eptN cs=>.eptN (renAs ids cs)
 | .any=>.any
def renAs (ids:List Nat):List AV→List AV
 | []=>[]
 | c :: cs=>a4c ids c :: renAs ids cs
end
mutual
theorem RelV.ren {w0:World} {ρ:Nat→Value} {nx k:Nat} {ids:List Nat}:∀(x:AV) {y:Value},z7 k x=true→RelV w0 ρ nx (a4c ids x) y→RelV w0 (λj=>ρ (ids.getD j 0)) k x y
 | .v _,_,_,h=>by simpa only [a4c,RelV] using h
 | .lst _ _,_,_,h=>by simpa only [a4c,RelV] using h
 | .pin _ _ _,_,_,h=>by simpa only [a4c,RelV] using h
 | .ept _,_,_,h=>by simpa only [a4c,RelV] using h
 | .own i,_,hm,h=>by simp only [z7] at hm;simp only [a4c,RelV] at h ⊢;exact ⟨Nat.le_of_ble_eq_true hm,h.2⟩
 | .sub i _ _ _,_,hm,h=>by simp only [z7] at hm;simp only [a4c,RelV] at h ⊢;exact ⟨Nat.le_of_ble_eq_true hm,h.2⟩
 | .ptr i _,_,hm,h=>by simp only [z7] at hm;simp only [a4c,RelV] at h ⊢;exact ⟨Nat.le_of_ble_eq_true hm,h.2⟩
 | .rpt i _ _ _,_,hm,h=>by simp only [z7] at hm;simp only [a4c,RelV] at h ⊢;exact ⟨Nat.le_of_ble_eq_true hm,h.2⟩
 | .agg cs,_,hm,h=>by
  simp only [z7] at hm
  simp only [a4c,RelV] at h ⊢
  obtain ⟨ys,e,h⟩:=h
  exact ⟨ys,e,RelVs.ren cs hm h⟩
 | .tup cs,_,hm,h=>by
  simp only [z7] at hm
  simp only [a4c,RelV] at h ⊢
  obtain ⟨ys,e,h⟩:=h
  exact ⟨ys,e,RelVs.ren cs hm h⟩
 | .fnc _ cs,_,hm,h=>by
  simp only [z7] at hm
  simp only [a4c,RelV] at h ⊢
  obtain ⟨ys,e,h⟩:=h
  exact ⟨ys,e,RelVs.ren cs hm h⟩
 | .nst _ _ _,_,_,h=>by simpa only [a4c,RelV] using h
 | .any,_,_,_=>by simp only [RelV]
 | .eptN cs,_,hm,h=>by
  simp only [z7] at hm
  simp only [a4c,RelV] at h ⊢
  obtain ⟨ad,us,e,hb,h,h2⟩:=h
  exact ⟨ad,us,e,hb,RelVs.ren cs hm h,h2⟩
theorem RelVs.ren {w0:World} {ρ:Nat→Value} {nx k:Nat} {ids:List Nat}:∀(x:List AV) {y:List Value},H7 k x=true→RelVs w0 ρ nx (renAs ids x) y→RelVs w0 (λj=>ρ (ids.getD j 0)) k x y
 | [],_,_,h=>by simpa only [renAs,RelVs] using h
 | c :: cs,_,hm,h=>by
  simp only [H7,Bool.and_eq_true] at hm
  simp only [renAs,RelVs] at h ⊢
  obtain ⟨y,ys,e,h1,h2⟩:=h
  exact ⟨y,ys,e,RelV.ren c hm.1 h1,RelVs.ren cs hm.2 h2⟩
end
theorem RelVs.norefs {nx:Nat} (h0:H7 0 cs=true) {y:List Value} (h:RelVs w0 ρ nx cs y):RelVs w0 ρ' nx' cs y :=
 RelVs.mono (Nat.zero_le _) (λi hi=>by omega) cs (RelVs.less cs h0 h)
def b0T:List Row→Nat→List (Nat×Option Row)
 | [],_=>[]
 | r :: rs,k=>(k,some r) :: b0T rs (Nat.succ k)
theorem b3y:∀{rs:List Row} {k j:Nat} {row:Row},mem (b0T rs k) j=some row→k<=j/\rs[j - k]?=some row
 | [],k,j,row,h=>by simp [b0T,mem,look] at h
 | r :: rs,k,j,row,h=>by
  simp only [b0T] at h
  by_cases e:k=j
  ·subst e;rw [l5] at h;cases h;simp
  ·rw [e7 e] at h
   obtain ⟨h1,h2⟩:=b3y h
   grind
inductive RowsIn (m:List (Nat×Option Row)):List Nat→List Row→Prop
 | nil:RowsIn m [] []
 | cons {id:Nat} {ids:List Nat} {r:Row} {rs:List Row} (h:mem m id=some r) (h':RowsIn m ids rs):RowsIn m (id :: ids) (r :: rs)
theorem RowsIn.len:∀{ids:List Nat} {rs:List Row},RowsIn m ids rs→ids.length=rs.length
 | _,_,.nil=>rfl
 | _,_,.cons _ h=>by simp [h.len]
theorem RowsIn.get:∀{ids:List Nat} {rs:List Row},RowsIn m ids rs→∀{j:Nat} {r:Row},rs[j]?=some r→∃id,ids[j]?=some id/\mem m id=some r
 | _,_,.nil,_,_,h=>by simp at h
 | _,_,.cons h h',j,r,hj=>by
  match j with
  | 0=>simp at hj;subst hj;exact ⟨_,Z,h⟩
  | j+1=>simpa using h'.get (by simpa using hj)
def a2w:List Row→Bool
 | []=>true
 | r :: rs=>rowRefs 0 r && a2w rs
theorem a6J:∀{rs:List Row},a2w rs=true→∀{j:Nat} {r:Row},rs[j]?=some r→rowRefs 0 r=true
 | [],_,_,_,h=>by simp at h
 | r :: rs,h,j,r',hj=>by
  simp only [a2w,Bool.and_eq_true] at h
  match j with
  | 0=>simp at hj;subst hj;exact h.1
  | j+1=>exact a6J h.2 (by simpa using hj)
def aft:List Nat→List (Option Row)→List (Nat×Option Row)→List (Nat×Option Row)
 | id :: ids,r :: rs,m=>(id,r) :: aft ids rs m
 | _,_,m=>m
theorem a3k:∀{ids:List Nat} {rs:List (Option Row)},ids.length=rs.length→∀{id:Nat} {r:Row},mem (aft ids rs m) id=some r→(∃j:Nat,ids[j]?=some id/\rs[j]?=some (some r))∨(id∉ids/\mem m id=some r)
 | [],[],_,id,r,h=>.inr ⟨by simp,h⟩
 | [],_ :: _,hl,_,_,_=>by simp at hl
 | _ :: _,[],hl,_,_,_=>by simp at hl
 | i :: ids,q :: rs,hl,id,r,h=>by
  simp only [aft] at h
  by_cases e:i=id
  ·subst e;rw [l5] at h;subst h;exact .inl ⟨0,Z,Z⟩
  ·rw [e7 e] at h
   rcases a3k (by simpa using hl) h with ⟨j,h1,h2⟩ | ⟨h1,h2⟩
   ·exact .inl ⟨j+1,by simpa using h1,by simpa using h2⟩
   grind
structure CtrM (P:Program) [Env P] (f:FuncId) (args:List AV) (rows:List Row) (res:Res) (after:List (Option Row)):Prop where
 callable:Callable P f
 calls:∀(w0:Base) [EnvAt P w0] ρ m nx (ids:List Nat) w vs,RowsIn m ids rows→nodupB ids=true→RelC w0 ρ m nx w→RelVs w0.w ρ nx (renAs ids args) vs →
  Calls P f vs.toArray w (λen w'=>∃v ρ',en=.returned v/\(∀i,i < nx→ρ' i=ρ i)/\nx<=(instR res nx (aft ids after m)).2.2/\RelV w0.w ρ' (instR res nx (aft ids after m)).2.2 (instR res nx (aft ids after m)).1 v /\
   RelC w0 ρ' (instR res nx (aft ids after m)).2.1 (instR res nx (aft ids after m)).2.2 w')
def b5D:List (Option Row)→Nat→Bool
 | [],_=>false
 | some _ :: _,0=>true
 | none :: _,0=>false
 | _ :: rs,n+1=>b5D rs n
theorem b1h:∀{rs:List (Option Row)} {j:Nat} {r:Row},rs[j]?=some (some r)→b5D rs j=true
 | [],_,_,h=>by simp at h
 | q :: rs,0,r,h=>by simp at h;subst h;rfl
 | q :: rs,j+1,r,h=>by cases q<;>exact b1h (rs:=rs) (by simpa using h)
def a1F (after:List (Option Row)):List AV→Bool
 | []=>true
 | .own i :: r=>!b5D after i && a1F after r
 | _ :: r=>a1F after r
theorem b1i {after:List (Option Row)}:∀{l:List AV},a1F after l=true→∀{i:Nat},.own i∈l→b5D after i=false
 | [],_,_,h=>by simp at h
 | x :: l,hd,i,h=>by
  rcases List.mem_cons.1 h with e | h
  ·subst e;simp only [a1F,Bool.and_eq_true,Bool.not_eq_true'] at hd;exact hd.1
  ·have h2:a1F after l=true:=by
    cases x<;>simp only [a1F] at hd
    case own j=>simp only [Bool.and_eq_true] at hd;exact hd.2
    all_goals exact hd
   exact b1i h2 h
inductive AftOK (m:List (Nat×Option Row)):Nat→List (Option Row)→Prop
 | nil {k:Nat}:AftOK m k []
 | gone {k:Nat} {rs:List (Option Row)} (h:AftOK m (Nat.succ k) rs):AftOK m k (none :: rs)
 | stays {k:Nat} {r r':Row} {rs:List (Option Row)} (h1:mem m k=some r') (e:r'=r) (h2:rowRefs 0 r=true) (h:AftOK m (Nat.succ k) rs):AftOK m k (some r :: rs)
theorem AftOK.get:∀{k:Nat} {rs:List (Option Row)},AftOK m k rs→∀{j:Nat} {r:Row},rs[j]?=some (some r)→mem m (k+j)=some r/\rowRefs 0 r=true
 | _,_,.nil,_,_,h=>by simp at h
 | k,_,.gone h,j,r,hj=>by
  match j with
  | 0=>simp at hj
  | j+1=>have:=h.get (j:=j) (by simpa using hj);rwa [show k.succ+j=k+(j+1) by omega] at this
 | k,_,.stays h1 e h2 h,j,r,hj=>by
  match j with
  | 0=>simp at hj;subst hj;subst e;exact ⟨h1,h2⟩
  | j+1=>have:=h.get (j:=j) (by simpa using hj);rwa [show k.succ+j=k+(j+1) by omega] at this
def b3z (tb:List (Nat×TyI)) (rs:List ResultVar) (res:Res) (after:List (Option Row)):Exit→St→Prop
 | .ret,S=>∃avs,V5 tb S rs []=some avs/\ResOK S.m avs res/\AftOK S.m 0 after/\a1F after (a3h res avs)=true
 | .normal,S=>∃avs,V5 tb S rs []=some avs/\ResOK S.m avs res/\AftOK S.m 0 after/\a1F after (a3h res avs)=true
 | _,_=>False
section
variable {P:Program} [Env P] {w0:Base} {ops:Array Oper} {tb:List (Nat×TyI)} {o:Oper} {rest:List Oper} {T:List (Nat×AV)} {m m':List (Nat×Option Row)} {nx nt d:Nat} {r:AV} {Q:Exit→St→Prop} {after:List (Option Row)}
theorem n9 {x:AV} {c:RC} (h:V5 tb S rs []=some [x]) (hx:RCOK S.m x c) (hd:a1F after [x]=true) (ha:AftOK S.m 0 after):b3z tb rs (.one c) after .ret S:=⟨_,h,⟨x,Z,hx⟩,ha,hd⟩
theorem a4Y {cs:List RC} (h:V5 tb S rs []=some xs) (hl:Nat.beq xs.length 1=false) (hn:nodupB (U6 xs [])=true) (ho:b3u xs=true) (hx:RCOKs S.m xs cs) (hd:a1F after xs=true) (ha:AftOK S.m 0 after):b3z tb rs (.many cs) after .ret S:=⟨_,h,⟨hx,hl,hn,ho⟩,ha,hd⟩
theorem v6 {ls:List AV} {single:Bool} {sh:List (Option Nat)} {cs:List RC} (h:V5 tb S rs []=some xs) (hl:Nat.beq xs.length 1=single) (hf:flA sh xs []=some ls) (hn:nodupB (U6 ls [])=true) (hx:RCOKs S.m ls cs) (hd:a1F after ls=true) (ha:AftOK S.m 0 after):b3z tb rs (.shp single sh cs) after .ret S:=⟨_,h,⟨ls,hf,hx,hl,hn⟩,ha,by simpa only [a3h,hf] using hd⟩
theorem a1j {k:Nat}:∀{l:List Nat},k∈l→has k l=true
 | [],h=>by cases h
 | x :: r,h=>by
  rcases List.mem_cons.1 h with rfl | h
  ·simp [has,Nat.beq_refl]
  ·simp [has,a1j h]
theorem a5W:∀{ids:List Nat},nodupB ids=true→∀{j j' id:Nat},ids[j]?=some id→ids[j']?=some id→j=j'
 | [],_,_,_,_,h,_=>by simp at h
 | x :: r,hn,j,j',id,h,h'=>by
  simp only [nodupB,Bool.and_eq_true,Bool.not_eq_true'] at hn
  match j,j' with
  | 0,0=>rfl
  | 0,j'+1 =>
   grind [a1j]
  | j+1,0 =>
   grind [a1j]
  | j+1,j'+1 =>
   have:=a5W hn.2 (j:=j) (j':=j') (id:=id) (by simpa using h) (by simpa using h')
   rw [this]
theorem RowRel.move {id':Nat} {row:Row} (h:RowRel w0.w ρ nx w id row) (hf:rowRefs 0 row=true) (he:ρ' id'=ρ id):RowRel w0.w ρ' nx' w id' row :=
 h.to he (λcs e l hl=>by subst e;exact RelVs.norefs (w0:=w0) hf hl) λe sz yss op e' q hq _=>by subst e';exact absurd (a5Q hf q hq) (Nat.not_lt_zero _)
def KeepIs (ρ:Nat→Value) (ids:List Nat) (rows:List Row) (w:World) (K:Nat→Prop):Prop:=∀c,K c↔c < w.heap.size/\∀(j:Nat) id r,ids[j]?=some id→rows[j]?=some r→¬ S8 w (ρ id) r c
section
variable {ρ ρ':Nat→Value} {rows:List Row} {ids:List Nat} {nx2:Nat} {m2:List (Nat×Option Row)} {w w':World} {b:Base}
theorem KeepIs.other (hkeep:KeepIs ρ ids rows w b.keep) (hC:RelC w0 ρ m nx w) (hin:RowsIn m ids rows) {id:Nat} {r:Row} (hm:mem m id=some r) (hid:id∉ids) {c:Nat} (hf:S8 w (ρ id) r c):b.keep c:=by
 refine (hkeep c).2 ⟨hC.foot_lt hm hf,λj id' r' hj hr' hb=>?_⟩
 obtain ⟨id'',h3,h4⟩:=hin.get hr'
 rw [hj] at h3;cases h3
 exact hC.foot_apart h4 hm (λe=>hid (e▸List.mem_of_getElem? hj)) hb hf
theorem KeepIs.outer (hkeep:KeepIs ρ ids rows w b.keep) (hC:RelC w0 ρ m nx w) (hin:RowsIn m ids rows) {c:Nat} (hc:w0.keep c):b.keep c:=by
 refine (hkeep c).2 ⟨Nat.lt_of_lt_of_le (w0.kb c hc) hC.kept.1,λj id r hj hr hb=>?_⟩
 obtain ⟨id',h1,h2⟩:=hin.get hr
 rw [hj] at h1;cases h1
 rcases hb with hb | ⟨p,hb⟩
 ·exact hC.kept.2.2 id r h2 c hb hc
 ·exact (hC.inner id r h2 p c hb).1 hc
theorem KeepIs.back (hkeep:KeepIs ρ ids rows w b.keep) (hC:RelC w0 ρ m nx w) (hin:RowsIn m ids rows) (hws:b.ws=w) (hC':RelC b ρ' m2 nx2 w') {id:Nat} {r:Row} (hm:mem m id=some r) (hid:id∉ids):∀p,inn w' (ρ id) r p=inn w (ρ id) r p:=by
 refine Z7 λc hc=>?_
 have:=hC'.kept.2.1 c (hkeep.other hC hin hm hid (.inl hc))
 rwa [hws] at this
theorem b4I (hC:RelC w0 ρ m nx w) (hin:RowsIn m ids rows) (hnd:nodupB ids=true) (hl:rows.length=after.length)
 (hbw:b.w=w0.w) (hws:b.ws=w) (hkeep:KeepIs ρ ids rows w b.keep) (hr0:∀(j:Nat) id,ids[j]?=some id→ρ' j=ρ id)
 (hC':RelC b ρ' m2 nx2 w') (ha:AftOK m2 0 after):RelC w0 ρ (aft ids after m) nx w':=by
 have hlen:ids.length=after.length:=hin.len.trans hl
 have was:∀id r,mem (aft ids after m) id=some r→∃r',mem m id=some r':=λid r hr=>by
  rcases a3k hlen hr with ⟨j,h1,h2⟩ | ⟨_,h2⟩
  ·have:j < rows.length:=by rw [← hin.len];exact (List.getElem?_eq_some_iff.1 h1).1
   obtain ⟨id',h3,h4⟩:=hin.get (List.getElem?_eq_getElem this)
   grind
  ·exact ⟨_,h2⟩
 have hsz:w.heap.size<=w'.heap.size:=by have:=hC'.kept.1;rwa [hws] at this
 have same:∀id r,mem m id=some r→id∉ids→∀c,S8 w (ρ id) r c→w'.heap[c]?=w.heap[c]?:=λid r hm hid c hf=>by
  have:=hC'.kept.2.1 c (hkeep.other hC hin hm hid hf)
  rwa [hws] at this
 refine ⟨λid r hr=>?_,λi i' r r' hr hr' hne c hc=>?_,by have:=hC'.below;rwa [hbw] at this,hC.pin,⟨Nat.le_trans hC.kept.1 hsz,λc hc=>?_,λid r hr c hc=>?_⟩,λid r hr p c hc=>?_⟩
 ·rcases a3k hlen hr with ⟨j,h1,h2⟩ | ⟨h1,h2⟩
  ·obtain ⟨r',h3⟩:=was id r hr
   refine ⟨(hC.rows id r' h3).1,?_⟩
   obtain ⟨h4,h5⟩:=ha.get h2
   have h6:=(hC'.rows _ _ h4).2
   rw [hbw] at h6
   exact h6.move h5 (by rw [Nat.zero_add];exact (hr0 j id h1).symm)
  ·obtain ⟨g1,g2⟩:=hC.rows id r h2
   exact ⟨g1,g2.frame (λc hc=>same id r h2 h1 c (.inl hc)) λp c hc=>same id r h2 h1 c (.inr ⟨p,hc⟩)⟩
 ·obtain ⟨r1,h1⟩:=was i r hr
  obtain ⟨r2,h2⟩:=was i' r' hr'
  exact hC.apart i i' r1 r2 h1 h2 hne c hc
 ·have:=hC'.kept.2.1 c (hkeep.outer hC hin hc)
  rw [hws] at this
  exact this.trans (hC.kept.2.1 c hc)
 ·obtain ⟨r',h1⟩:=was id r hr
  exact hC.kept.2.2 id r' h1 c hc
 ·rcases a3k hlen hr with ⟨j,h1,h2⟩ | ⟨h1,h2⟩
  ·obtain ⟨h4,h5⟩:=ha.get h2
   rw [Nat.zero_add] at h4
   rw [← hr0 j id h1] at hc
   obtain ⟨g1,g2,g3,g4⟩:=hC'.inner j r h4 p c hc
   rw [hbw] at g2
   refine ⟨λhk=>g1 (hkeep.outer hC hin hk),g2,g3,λid' r' hr'=>?_⟩
   rcases a3k hlen hr' with ⟨j',q1,q2⟩ | ⟨q1,q2⟩
   ·obtain ⟨q3,_⟩:=ha.get q2
    grind
   ·refine ⟨λhb=>g1 (hkeep.other hC hin q2 q1 (.inl hb)),λp' hp'=>?_⟩
    rw [hkeep.back hC hin hws hC' q2 q1] at hp'
    exact absurd (hkeep.other hC hin q2 q1 (.inr ⟨p',hp'⟩)) g1
  ·rw [hkeep.back hC hin hws hC' h2 h1] at hc
   obtain ⟨g1,g2,g3,g4⟩:=hC.inner id r h2 p c hc
   refine ⟨g1,g2,Nat.lt_of_lt_of_le g3 hsz,λid' r' hr'=>?_⟩
   rcases a3k hlen hr' with ⟨j',q1,q2⟩ | ⟨q1,q2⟩
   ·obtain ⟨r1,q5⟩:=was id' r' hr'
    refine ⟨(g4 id' r1 q5).1,λp' hp'=>?_⟩
    obtain ⟨q3,_⟩:=ha.get q2
    rw [Nat.zero_add] at q3
    rw [← hr0 j' id' q1] at hp'
    exact absurd (hkeep.other hC hin h2 h1 (.inr ⟨p,hc⟩)) (hC'.inner j' r' q3 p' c hp').1
   ·exact ⟨(g4 id' r' q2).1,λp' hp'=>(g4 id' r' q2).2 p' (by rwa [hkeep.back hC hin hws hC' q2 q1] at hp')⟩
theorem b1j (hC:RelC w0 ρ m nx w) (hin:RowsIn m ids rows) (hnd:nodupB ids=true) (hl:rows.length=after.length)
 (hbw:b.w=w0.w) (hws:b.ws=w) (hkeep:KeepIs ρ ids rows w b.keep) (hr0:∀(j:Nat) id,ids[j]?=some id→ρ' j=ρ id)
 (hC':RelC b ρ' m2 nx2 w') (ha:AftOK m2 0 after) {avs:List AV} {res:Res} (h2:ResOK m2 avs res) (h4:a1F after (a3h res avs)=true) {ys:List Value} (e2:RelVs b.w ρ' nx2 avs ys) :
 ∃ρ2,(∀i,i < nx→ρ2 i=ρ i)/\nx<=(instR res nx (aft ids after m)).2.2/\RelV w0.w ρ2 (instR res nx (aft ids after m)).2.2 (instR res nx (aft ids after m)).1 (if h:ys.toArray.size=1 then ys.toArray[0] else .tuple ys.toArray)/\RelC w0 ρ2 (instR res nx (aft ids after m)).2.1 (instR res nx (aft ids after m)).2.2 w':=by
 have hlen2:ids.length=after.length:=hin.len.trans hl
 have hA:=b4I hC hin hnd hl hbw hws hkeep hr0 hC' ha
 refine a9P (B:=w0.w.heap.size) hA (Nat.le_refl _) ?_
 have hp:=ResOK.parts hC' h2 e2
 rw [hbw] at hp
 refine hp.mono λrs ls _ hK c hc=>?_
 obtain ⟨i,row,hi,hm,hf⟩:=hK c hc
 have hnk:¬ b.keep c:=by
  rcases hf with hf | ⟨p,hf⟩
  ·exact hC'.kept.2.2 i row hm c hf
  ·exact (hC'.inner i row hm p c hf).1
 refine ⟨λid r hr hb=>?_,λhk=>hnk (hkeep.outer hC hin hk)⟩
 rcases a3k hlen2 hr with ⟨j,g1,g2⟩ | ⟨g1,g2⟩
 ·have hne:i≠j:=λe=>by
   have:=b1i h4 hi
   rw [e,b1h g2] at this
   cases this
  obtain ⟨g3,_⟩:=ha.get g2
  rw [Nat.zero_add] at g3
  rw [← hr0 j id g1] at hb
  exact hC'.foot_apart hm g3 hne hf hb
 ·refine hnk (hkeep.other hC hin g2 g1 ?_)
  rcases hb with hb | ⟨p,hb⟩
  ·exact .inl hb
  ·exact .inr ⟨p,by rwa [hkeep.back hC hin hws hC' g2 g1] at hb⟩
theorem a8K (hC:RelC w0 ρ m nx w) (hin:RowsIn m ids rows) (hnd:nodupB ids=true) (hfr:a2w rows=true) {k:Nat} (hk:rows.length=k) (hbw:b.w=w0.w) (hws:b.ws=w) (hn0:b.n0=k) (hr0:b.r0=λj=>ρ (ids.getD j 0)) (hkeep:KeepIs ρ ids rows w b.keep) :
 RelC b (λj=>ρ (ids.getD j 0)) (b0T rows 0) k w:=by
 have hrow:∀j row,mem (b0T rows 0) j=some row→∃id,ids[j]?=some id/\mem m id=some row/\ρ (ids.getD j 0)=ρ id/\rows[j]?=some row:=λj row hm=>by
  obtain ⟨_,h2⟩:=b3y hm
  rw [Nat.sub_zero] at h2
  obtain ⟨id,h3,h4⟩:=hin.get h2
  grind
 refine ⟨λj row hm=>?_,λj j' row row' hm hm' hne c hc=>?_,by rw [hbw];exact hC.below,⟨by rw [hn0];exact Nat.le_refl _,λi _=>by rw [hr0]⟩,⟨by rw [hws];exact Nat.le_refl _,λc _=>by rw [hws],λj row hm c hc hkc=>?_⟩,λj row hm p c hc=>?_⟩
 ·obtain ⟨id,h1,h2,h3,h4⟩:=hrow j row hm
  refine ⟨by rw [← hk];exact (List.getElem?_eq_some_iff.1 h4).1,?_⟩
  rw [hbw]
  exact RowRel.move (w0:=w0) (hC.rows id row h2).2 (a6J hfr h4) h3
 ·obtain ⟨id,h1,h2,h3,_⟩:=hrow j row hm
  obtain ⟨id',h1',h2',h3',_⟩:=hrow j' row' hm'
  simp only [h3] at hc
  simp only [h3']
  exact hC.apart id id' _ _ h2 h2' (λe=>hne (a5W hnd h1 (e▸h1'))) c hc
 ·obtain ⟨id,h1,h2,h3,h4⟩:=hrow j row hm
  simp only [h3] at hc
  exact ((hkeep c).1 hkc).2 j id row h1 h4 (.inl hc)
 ·obtain ⟨id,h1,h2,h3,h4⟩:=hrow j row hm
  simp only [h3] at hc
  obtain ⟨g1,g2,g3,g4⟩:=hC.inner id row h2 p c hc
  refine ⟨λhkc=>((hkeep c).1 hkc).2 j id row h1 h4 (.inr ⟨p,hc⟩),by rw [hbw];exact g2,g3,λj' row' hm'=>?_⟩
  obtain ⟨id',h1',h2',h3',_⟩:=hrow j' row' hm'
  simp only [h3']
  refine ⟨(g4 id' row' h2').1,λp' hp'=>?_⟩
  obtain ⟨e1,e2⟩:=(g4 id' row' h2').2 p' hp'
  subst e1
  exact ⟨a5W hnd h1 h1',e2⟩
theorem a3l {n k:Nat} {args:List AV} {vs:List Value} {fn:Func} (hrel:RelVs b.w ρ k args vs) (hlen:args.length<=n) (hn:fn.ntmps=n):RelT b ρ (a5U args 0) k n { tmps:=vs.toArray++Array.replicate (fn.ntmps - vs.toArray.size) undef,defers:=[] }:=by
 have hvl:=RelVs.length _ hrel
 refine ⟨λt x hx=>?_,by simp [hn];omega,Z⟩
 obtain ⟨u,_,h2,h3⟩:=a4X hrel t x hx
 have hlt:t < vs.length:=by
  grind
 have:(vs.toArray++Array.replicate (fn.ntmps - vs.toArray.size) undef).getD t undef=u:=by
  rw [Array.getD_eq_getD_getElem?,Array.getElem?_append_left (by simpa using hlt)]
  grind
 rw [this]
 exact h3
end
theorem CtrM.of (G:Good P tb) {f:FuncId} {fn:Func} {c:Code} {args:List AV} {rows:List Row} {res:Res} {l:List ResultVar} {n k:Nat} (hf:P.funcs[f]?=some fn) (hb:fn.body=some c) (hname:(fn.name == "runtime.NumGoroutine")=false) (hl:fn.results=l.toArray) (hn:fn.ntmps=n)
 (hlen:Nat.ble args.length n=true) (hk:rows.length=k) (haf:rows.length=after.length) (hrefs:H7 k args=true) (hfr:a2w rows=true)
 (h:∀b:Base,[EnvAt P b]→b.n0=k→W P b c ⟨a5U args 0,b0T rows 0,k,n⟩ (b3z tb l res after)):CtrM P f args rows res after:=by
 refine ⟨⟨fn,hf,hname,by rw [hb];rfl⟩,λw0 hw0 ρ m nx ids w vs hin hnd hC hrel=>?_⟩
 have hidl:ids.length=k:=hin.len.trans hk
 let ρc:Nat→Value:=λj=>ρ (ids.getD j 0)
 have hrel':RelVs w0.w ρc k args vs:=RelVs.ren args hrefs hrel
 have hlen':args.length<=n:=Nat.le_of_ble_eq_true hlen
 refine calls_of_wp hf hb ?_
 let b:Base:=⟨w0.w,k,ρc,w,λc=>c < w.heap.size/\∀(j:Nat) id r,ids[j]?=some id→rows[j]?=some r→¬ S8 w (ρ id) r c,λc hc=>hc.1,w0.E,w0.hE⟩
 have hen:EnvAt P b:=⟨hw0.e⟩
 have hkp:KeepIs ρ ids rows w b.keep:=λ_=>Iff.rfl
 have hCb:RelC b ρc (b0T rows 0) k w:=a8K (b:=b) hC hin hnd hfr hk Z Z Z Z hkp
 have hT:=a3l (b:=b) (fn:=fn) hrel' hlen' hn
 refine wp_mono (h b Z ρc _ w hT hCb) ?_
 have fin:∀(ρ':Nat→Value) (S:St) (a:Act) (w':World),(∃avs,V5 tb S l []=some avs/\ResOK S.m avs res/\AftOK S.m 0 after/\a1F after (a3h res avs)=true)→RelT b ρ' S.T S.nx S.nt a→RelC b ρ' S.m S.nx w' →
  a.defers=[]/\∃v,(results fn a.tmps).run P w'=.ok v w'/\∃u ρ',Ending.returned v=.returned u/\(∀i,i < nx→ρ' i=ρ i)/\nx<=(instR res nx (aft ids after m)).2.2/\RelV w0.w ρ' (instR res nx (aft ids after m)).2.2 (instR res nx (aft ids after m)).1 u /\
  RelC w0 ρ' (instR res nx (aft ids after m)).2.1 (instR res nx (aft ids after m)).2.2 w':=by
  intro ρ' S a w' ⟨avs,h1,h2,h3,h4⟩ hT' hC'
  obtain ⟨ys,avs',e1,e2,e3⟩:=Z9 G hT' hC' h1
  simp at e1
  subst e1
  have hpin:∀j id,ids[j]?=some id→ρ' j=ρ id:=λj id hj=>by
   have hj':j < k:=by rw [← hidl];exact (List.getElem?_eq_some_iff.1 hj).1
   rw [hC'.pin.2 j hj']
   grind
  obtain ⟨ρ2,q1,q2,q3,q4⟩:=b1j (b:=b) hC hin hnd haf Z Z hkp hpin hC' h3 h2 h4 e2
  exact ⟨hT'.defers,_,V6 hl e3,_,ρ2,Z,q1,q2,q3,q4⟩
 rintro e a w' ⟨ρ',S,hq,hT',hC'⟩
 cases e<;>simp only [b3z] at hq
 case normal=>exact fin ρ' S a w' hq hT' hC'
 case ret=>exact fin ρ' S a w' hq hT' hC'
theorem a6K (hT:RelT w0 ρ T nx nt a):∀{xs:List Operand} {acc as:List AV},evL T xs acc=some as→∃bs,as=acc.reverse++bs/\RelVs w0 ρ nx bs (xs.map a.eval)
 | [],acc,as,h=>by simp [evL,F9] at h;exact ⟨[],by simp [h],by simp [RelVs]⟩
 | x :: xs,acc,as,h=>by
  simp only [evL] at h
  cases hx:ev T x with
  | none=>simp [hx] at h
  | some av =>
   simp only [hx] at h
   obtain ⟨bs,h1,h2⟩:=a6K hT h
   refine ⟨av :: bs,by simpa using h1,?_⟩
   simp only [List.map_cons,RelVs]
   exact ⟨_,_,Z,hT.ev hx,h2⟩
theorem L8 [EnvAt P w0] {f:FuncId} {as:Array Operand} {ts:Array TypeId} {args:List AV} {rows:List Row} {res:Res} {n1:Nat} (nx':Nat) (ids:List Nat) (hd:o.dst=some d) (hlt:Nat.blt d nt=true) (ho:o.op=.call { callee:=.value (.func f),args:=as,argTypes:=ts }) (hc:CtrM P f args rows res after)
 (ha:evL T as.toList []=some (renAs ids args)) (hr:RowsIn m ids rows) (hnd:nodupB ids=true) (hi:a8E res nx (aft ids after m)=some (r,m',n1)) (hn':Nat.beq nx' n1=true) (hk:WL P w0 ops rest ⟨(d,r) :: T,m',nx',nt⟩ Q):WX P w0 ops o rest ⟨T,m,nx,nt⟩ Q:=by
 have hn'':=Nat.eq_of_beq_eq_true hn'
 subst hn''
 have hi:=a3d hi
 intro ρ a w hT hC
 obtain ⟨bs,h1,h2⟩:=a6K hT ha
 simp at h1
 subst h1
 have hcalls:=hc.calls w0 ρ m nx ids w _ hr hnd hC h2
 have hrun:(execOp a.eval o).run P w=.ok (.enter f (as.toList.map a.eval).toArray) w:=by
  simp [execOp,ho,resolve,Deferred.ofValue,invoke,Act.eval,a0s hc.callable,← Array.toList_map]
 unfold Oper.wp
 rw [hrun,Oper.upon_enter]
 refine hcalls.mono λex w' ⟨v,ρ',he,q1,q2,q3,q4⟩=>?_
 subst he
 rw [hi] at q2 q3 q4
 refine hk ρ' _ w' ?_ q4
 rw [hd]
 have hT':RelT w0 ρ' T nx' nt a:=⟨λt x hx=>(hT.tmps t x hx).mono q2 q1,hT.size,hT.defers⟩
 exact hT'.put hlt q3
theorem RelC.sub (hC:RelC w0 ρ m nx w) (h:∀i r,mem m' i=some r→mem m i=some r):RelC w0 ρ m' nx w :=
 ⟨λi r hr=>hC.rows i r (h i r hr),λi i' r r' hr hr'=>hC.apart i i' r r' (h i r hr) (h i' r' hr'),hC.below,hC.pin,⟨hC.kept.1,hC.kept.2.1,λi r hr=>hC.kept.2.2 i r (h i r hr)⟩,
  hC.inner' (Nat.le_refl _) (λi r hr=>.inr ⟨r,h i r hr,λ_ _ h=>h⟩) (λi r hr b hb=>.inl ⟨i,r,h i r hr,hb⟩)⟩
theorem a00 {sz n:Nat} {ys:List (List Value)} (hall:∀c∈ys,c.length=sz) (hn:n<=ys.length):(ys.take n).flatten=ys.flatten.take (n * sz):=by
 have h5:ys.flatten=(ys.take n).flatten++(ys.drop n).flatten:=by rw [← List.flatten_append,List.take_append_drop]
 have h6:=m6 (ys:=ys.take n) (sz:=sz) (λc hc=>hall c (List.mem_of_mem_take hc))
 grind
theorem a01 {sz n:Nat} {ys:List (List Value)} (hall:∀c∈ys,c.length=sz) (hn:n<=ys.length):(ys.drop n).flatten=ys.flatten.drop (n * sz):=by
 have h5:ys.flatten=(ys.take n).flatten++(ys.drop n).flatten:=by rw [← List.flatten_append,List.take_append_drop]
 have h6:=m6 (ys:=ys.take n) (sz:=sz) (λc hc=>hall c (List.mem_of_mem_take hc))
 grind
theorem b1k {zs:List Value} (hpos:0 < zs.length) (n:Nat):(Builtin.zeroCells zs.toArray n).toList=(List.replicate n zs).flatten:=by
 apply List.ext_getElem?
 intro j
 by_cases hj:j < n * zs.length
 ·have hdiv:j / zs.length < n:=Nat.div_lt_of_lt_mul (by rw [Nat.mul_comm];exact hj)
  have hmod:j % zs.length < zs.length:=Nat.mod_lt _ hpos
  have h1:=O7 (ys:=List.replicate n zs) (sz:=zs.length) (λc hc=>by rw [(List.mem_replicate.1 hc).2]) (i:=j / zs.length) (c:=zs) (by simp [hdiv]) hmod
  have h2:j / zs.length * zs.length+j % zs.length=j:=by rw [Nat.mul_comm];exact Nat.div_add_mod j _
  rw [h2] at h1
  rw [h1]
  simp [Builtin.zeroCells,hj,hmod]
 ·rw [List.getElem?_eq_none (by simp [Builtin.zeroCells];omega),List.getElem?_eq_none (by rw [m6 (sz:=zs.length) (λc hc=>by rw [(List.mem_replicate.1 hc).2])];simp;omega)]
theorem RelC.again {row:Row} (hC:RelC w0 ρ m nx w) (hm:mem m id=some row):RelC w0 ρ ((id,some row) :: m) nx w:=by
 have hs:∀i,mem ((id,some row) :: m) i=mem m i:=λi=>by
  by_cases e:id=i
  ·subst e;rw [l5,hm]
  ·rw [e7 e]
 exact hC.sub λi r hr=>by rw [← hs];exact hr
end
section
variable {P:Program} [Env P] {w0:Base} {ops:Array Oper} {tb:List (Nat×TyI)} {o:Oper} {T:List (Nat×AV)} {m:List (Nat×Option Row)} {nx nt:Nat} {Q:Exit→St→Prop} {c:Code}
theorem c7a {sz:Nat} (hm:mem m id=some (.box (.lst sz ys :: cs))) (h:∀y,W P w0 c ⟨T,(id,some (.box (.pin y sz ys :: cs))) :: m,nx,nt⟩ Q):W P w0 c ⟨T,m,nx,nt⟩ Q:=by
 intro ρ a w hT hC
 obtain ⟨b,cur,ty,hρ,hB,hb,hR,hone⟩:=hC.box hm
 have hR2:=hR
 simp only [RelVs] at hR2
 obtain ⟨y,r,e,h1,h2⟩:=hR2
 refine h y ρ a w hT (hC.change hm (by rw [hρ];rfl) ⟨Z,Z,Z,Nat.le_refl _,λ_ _ _=>Z⟩ hB ?_)
 refine ⟨b,cur,ty,hρ,hB,hb,?_,hone⟩
 simp only [RelVs]
 simp only [RelV] at h1
 exact ⟨y,r,e,by simp only [RelV];exact ⟨trivial,h1⟩,h2⟩
theorem b7Y {t sz:Nat} (ht:look t T=some (.lst sz ys)) (h:∀y,W P w0 c ⟨(t,.pin y sz ys) :: T,m,nx,nt⟩ Q):W P w0 c ⟨T,m,nx,nt⟩ Q:=by
 intro ρ a w hT hC
 have h1:=hT.tmps t _ ht
 simp only [RelV] at h1
 refine h (a.tmps.getD t undef) ρ a w ⟨λi x hi=>?_,hT.size,hT.defers⟩ hC
 by_cases e:i=t
 ·grind [r3,RelV]
 ·rw [l6 (λe'=>e e'.symm)] at hi
  exact hT.tmps i x hi
theorem a9v {sz:Nat} {y:Value} (hm:mem m id=some (.box (.pin y sz ys :: cs))) (h:W P w0 c ⟨T,(id,some (.box (.lst sz ys :: cs))) :: m,nx,nt⟩ Q):W P w0 c ⟨T,m,nx,nt⟩ Q:=by
 intro ρ a w hT hC
 obtain ⟨b,cur,ty,hρ,hB,hb,hR,hone⟩:=hC.box hm
 have hR2:=hR
 simp only [RelVs] at hR2
 obtain ⟨y',r,e,h1,h2⟩:=hR2
 refine h ρ a w hT (hC.change hm (by rw [hρ];rfl) ⟨Z,Z,Z,Nat.le_refl _,λ_ _ _=>Z⟩ hB ?_)
 refine ⟨b,cur,ty,hρ,hB,hb,?_,hone⟩
 simp only [RelVs]
 simp only [RelV] at h1
 exact ⟨y',r,e,by simp only [RelV];exact h1.2,h2⟩
theorem a1G {t e sz by_:Nat} {zs:List Value} {z:Value} {i:Int} {c:List Value} (G:Good P tb) (ho:o.op=.indexAddr t x y) (ht:look t tb=some (.slice e sz by_ zs)) (hx:ev T x=some (.pin z sz ys)) (hy:ev T y=some (.v (.int k i)))
 (h0:0<=i) (hc:ys[i.toNat]?=some c):QStep P o T m nx nt (.ept c) :=
 QStep.run λw0 ρ a w hT hC=>by
  have h:=hT.ev hx
  have h2:=hT.ev hy
  simp only [RelV] at h h2
  obtain ⟨_,A,cap,he,_,hall,hA⟩:=h
  have hlt:i.toNat < ys.length:=by
   grind
  obtain ⟨ad,rfl,hb,hcell⟩:=hA J
  refine ⟨.pointer (some (ad.add (i.toNat * sz))),by
   simp only [RelV]
   refine ⟨_,Z,by rw [D0];exact hb,(hall c (List.mem_of_getElem? hc)).2,λj u hj=>?_⟩
   rw [a2t]
   exact hcell _ _ hc j u hj,λw' hC'=>?_⟩
  simp only [execOp,ho,he,h2,Sem.run_bind,I5 (G t _ ht) (a:=ad) (len:=ys.length) (cap:=cap) (k:=k) (i:=i) h0 J,Result.andThen_ok,Sem.run_pure]
theorem c2j {t t':TypeId} {yk:IntKind} {a:Int} (ho:o.op=.binOp .shr t x y t') (hx:ev T x=some (.v (.int k a))) (hy:ev T y=some (.v (.int yk b))) (hb:¬ b < 0) :
 QStep P o T m nx nt (.v (.int k (a.fdiv (2 ^ (min b.toNat k.bits))))) :=
 QStep.val λw0 ρ ac hT w'=>by
  have h1:=hT.ev hx
  have h2:=hT.ev hy
  simp only [RelV] at h1 h2
  simp [execOp,ho,h1,h2,eqGuard,binOp,Op.shift,hb]
def b4J (k:IntKind) (a b:Int):Int:=k.wrap ((BitVec.ofInt k.bits a &&& BitVec.ofInt k.bits b).toNat:Nat)
theorem c2k {t t':TypeId} {a:Int} (ho:o.op=.binOp .and t x y t') (hx:ev T x=some (.v (.int k a))) (hy:ev T y=some (.v (.int k b))) :
 QStep P o T m nx nt (.v (.int k (b4J k a b))) :=
 QStep.val λw0 ρ ac hT w'=>by
  have h1:=hT.ev hx
  have h2:=hT.ev hy
  simp only [RelV] at h1 h2
  simp [execOp,ho,h1,h2,eqGuard,binOp,Op.intBits,b4J]
end
end Go.Rf
namespace Go.Rf
open Go
theorem Ctr.bool {P:Program} [Env P] {f:FuncId} {args:List AV} {a b:Bool} (h:Ctr P f args (.one (.v (.bool a)))) (e:a=b):Ctr P f args (.one (.v (.bool b))):=e▸h
def a0t (n:Nat) (f:Nat→Bool):Bool:=!(a18 n (λi=>!f i))
theorem S5 {n i:Nat} {f:Nat→Bool} (h:f i=true) (hi:i < n):a0t n f=true:=by
 rw [a0t,a1i (i:=i) (by simp [h]) hi];rfl
theorem a19 {n i:Nat} {f:Nat→Bool} (h:∀j,j < i→f j=false) (hi:n<=i):a0t n f=false:=by
 rw [a0t,a3i (i:=i) (λj hj=>by simp [h j hj]) hi];rfl
def P0 (f:Nat→Bool) (n:Nat):Int:=match (List.range n).find? f with
 | some i=>i
 | none=>-1
theorem a1k {f:Nat→Bool} {n i:Nat} (h:∀j,j < i→f j=false) (hi:n<=i):P0 f n=-1:=by
 grind [P0]
theorem S9 {f:Nat→Bool} {n i:Nat} (h:∀j,j < i→f j=false) (hi:i < n) (ht:f i=true):P0 f n=i:=by
 have:(List.range n).find? f=some i:=by
  simp_all
 rw [P0,this]
theorem a4Z {f:Nat→Bool} {n:Nat}:decide (P0 f n≥0)=a0t n f:=by
 unfold P0
 cases hf:(List.range n).find? f with
 | none =>
  rw [List.find?_eq_none] at hf
  rw [a19 (i:=n) (λj hj=>by simpa using hf j (List.mem_range.mpr hj)) (Nat.le_refl _)]
  rfl
 | some i =>
  grind [S5]
theorem a2x {α:Type} {xs:List α} {f:α→List Value} {i:Nat}:((xs.map f).drop ((0:Int)).toNat).take (((i:Int)).toNat - ((0:Int)).toNat)=(xs.take i).map f:=by
 simp [List.map_take]
end Go.Rf
namespace Go.Rf
open Go Go.RowKit
section
variable {α β:Type} [Inhabited α] {f:α→β} {g:Nat→α} {xs:List α} {i j:Nat}
def over (g:Nat→α) (xs:List α) (i:Nat):List α:=(List.range i).map g++xs.drop i
end
variable {P:Program} {ax ay:AV} {cs ds:List AV} {n:Int} {us vs:List Value} {y:Operand}
def r7 (n:Int):List Value:=[.int .i64 n]
def m8 (b:Bool):List Value:=[.bool b]
def B4 (n:Int):List Value:=[.int .u8 n]
structure Cur where
 c:List Int
 a:Int
 s:Int
variable {x:Cur}
def X3 (l:List Int):Prop:=l.length<=1048576/\∀j,0<=l.getD j default/\l.getD j default<=255
def nxB (x:Cur):Int:=if x.a < x.c.length then x.c.getD x.a.toNat default else 0
def nxS (x:Cur):Int:=IntKind.u64.wrap (IntKind.u64.wrap (IntKind.u64.wrap (x.s * 6364136223846793005)+IntKind.u64.wrap (nxB x))+843843)
def nxT (x:Cur):Int:=b4J .u64 ((nxS x).fdiv (2 ^ 40)) 255
def nxV (x:Cur):Int:=if x.a+1<=x.c.length then nxB x else nxT x
def nxC (x:Cur):Cur:=⟨x.c,x.a+1,nxS x⟩
theorem c2l (h:x.a < x.c.length):nxB x=x.c.getD x.a.toNat default:=if_pos h
theorem b1l (h:¬ x.a < x.c.length):nxB x=0:=if_neg h
theorem b7Z (h:x.a+1<=x.c.length):nxV x=nxB x:=if_pos h
theorem b1m (h:¬ x.a+1<=x.c.length):nxV x=nxT x:=if_neg h
theorem R2 {a:Int}:0<=b4J .u64 a 255/\b4J .u64 a 255<=255:=by
 have h:(BitVec.ofInt IntKind.u64.bits a &&& BitVec.ofInt IntKind.u64.bits 255).toNat<=255:=by
  rw [BitVec.toNat_and]
  exact Nat.le_trans Nat.and_le_right (by decide)
 have hw:b4J .u64 a 255=((BitVec.ofInt IntKind.u64.bits a &&& BitVec.ofInt IntKind.u64.bits 255).toNat:Int):=by
  rw [b4J,IntKind.wrap_u64]
  omega
 rw [hw]
 omega
theorem b70 (h:X3 x.c):0<=nxB x/\nxB x<=255:=by
 unfold nxB
 split
 ·exact h.2 _
 ·omega
theorem b2m {x:Cur} (h:X3 x.c):0<=nxV x/\nxV x<=255:=by
 unfold nxV
 split
 ·exact b70 h
 ·exact R2
def pkV (x:Cur) (n:Int):Int:=if n<=1 then 0 else if 200 < n then (nxV x * 256+nxV (nxC x)) % n else nxV x % n
def pkC (x:Cur) (n:Int):Cur:=if n<=1 then x else if 200 < n then nxC (nxC x) else nxC x
theorem c7b {x:Cur} {n:Int} (h:n<=1):pkV x n=0/\pkC x n=x:=by rw [pkV,pkC,if_pos h,if_pos h];exact ⟨Z,Z⟩
theorem c7c {x:Cur} {n:Int} (h:¬ n<=1) (h2:¬ 200 < n):pkV x n=nxV x % n/\pkC x n=nxC x:=by rw [pkV,pkC,if_neg h,if_neg h,if_neg h2,if_neg h2];exact ⟨Z,Z⟩
theorem c7d {x:Cur} {n:Int} (h:¬ n<=1) (h2:200 < n):pkV x n=(nxV x * 256+nxV (nxC x)) % n/\pkC x n=nxC (nxC x):=by rw [pkV,pkC,if_neg h,if_neg h,if_pos h2,if_pos h2];exact ⟨Z,Z⟩
theorem b3A {x:Cur} {n:Int} (h:X3 x.c):0<=pkV x n/\(pkV x n < n∨(n<=1/\pkV x n=0)):=by
 by_cases h1:n<=1
 ·rw [(c7b h1).1];omega
 ·have e1:=b2m h
  have e2:=b2m (x:=nxC x) h
  by_cases h2:200 < n
  ·rw [(c7d h1 h2).1]
   exact ⟨Int.emod_nonneg _ J,Or.inl (Int.emod_lt_of_pos _ J)⟩
  ·rw [(c7c h1 h2).1]
   exact ⟨Int.emod_nonneg _ J,Or.inl (Int.emod_lt_of_pos _ J)⟩
theorem c9t {x:Cur} {n:Int}:(pkC x n).c=x.c/\x.a<=(pkC x n).a/\(pkC x n).a<=x.a+2:=by
 unfold pkC
 split
 ·grind
 ·split
  ·exact ⟨Z,by show x.a<=x.a+1+1;omega,by show x.a+1+1<=x.a+2;omega⟩
  ·exact ⟨Z,by show x.a<=x.a+1;omega,by show x.a+1<=x.a+2;omega⟩
structure CtrX (P:Program) [Env P] {α:Type} (f:FuncId) (args:List AV) (rows:List Row) (R:α→Prop) (res:α→Res) (after:α→List (Option Row)):Prop where
 callable:Callable P f
 calls:∀(w0:Base) [EnvAt P w0] ρ m nx (ids:List Nat) w vs,RowsIn m ids rows→nodupB ids=true→RelC w0 ρ m nx w→RelVs w0.w ρ nx (renAs ids args) vs →
  Calls P f vs.toArray w (λen w'=>∃x,R x/\∃v ρ',en=.returned v/\(∀i,i < nx→ρ' i=ρ i)/\nx<=(instR (res x) nx (aft ids (after x) m)).2.2/\RelV w0.w ρ' (instR (res x) nx (aft ids (after x) m)).2.2 (instR (res x) nx (aft ids (after x) m)).1 v /\
   RelC w0 ρ' (instR (res x) nx (aft ids (after x) m)).2.1 (instR (res x) nx (aft ids (after x) m)).2.2 w')
theorem CtrX.ofM [Env P] {α:Type} {f:FuncId} {args:List AV} {rows:List Row} {R:α→Prop} {res:α→Res} {after:α→List (Option Row)} {r:Res} {a:List (Option Row)} (x:α) (h:CtrM P f args rows r a) (hx:R x) (hr:res x=r) (ha:after x=a):CtrX P f args rows R res after:=by
 subst hr
 subst ha
 exact ⟨h.callable,λw0 hw ρ m nx ids w vs h1 h2 h3 h4=>(h.calls w0 ρ m nx ids w vs h1 h2 h3 h4).mono λen w' h=>⟨x,hx,h⟩⟩
theorem CtrX.weak [Env P] {α:Type} {f:FuncId} {args:List AV} {rows:List Row} {R R':α→Prop} {res:α→Res} {after:α→List (Option Row)} (h:CtrX P f args rows R res after) (hR:∀x,R x→R' x):CtrX P f args rows R' res after :=
 ⟨h.callable,λw0 hw ρ m nx ids w vs h1 h2 h3 h4=>(h.calls w0 ρ m nx ids w vs h1 h2 h3 h4).mono λen w' ⟨x,hx,h⟩=>⟨x,hR x hx,h⟩⟩
def c7e {α:Type} (tb:List (Nat×TyI)) (rs:List ResultVar) (R:α→Prop) (res:α→Res) (after:α→List (Option Row)) (e:Exit) (S:St):Prop:=∃x,R x/\b3z tb rs (res x) (after x) e S
theorem A2 {α:Type} {tb:List (Nat×TyI)} {rs:List ResultVar} {R:α→Prop} {res:α→Res} {after:α→List (Option Row)} {e:Exit} {S:St} (x:α) (h:b3z tb rs (res x) (after x) e S) (hx:R x):c7e tb rs R res after e S:=⟨x,hx,h⟩
section
variable {P:Program} [Env P] {w0:Base} {ops:Array Oper} {tb:List (Nat×TyI)} {o:Oper} {rest:List Oper} {T:List (Nat×AV)} {m:List (Nat×Option Row)} {nx nt d:Nat} {Q:Exit→St→Prop}
theorem CtrX.of {α:Type} {R:α→Prop} {res:α→Res} {after:α→List (Option Row)} (G:Good P tb) {f:FuncId} {fn:Func} {c:Code} {args:List AV} {rows:List Row} {l:List ResultVar} {n k:Nat} (hf:P.funcs[f]?=some fn) (hb:fn.body=some c) (hname:(fn.name == "runtime.NumGoroutine")=false) (hl:fn.results=l.toArray) (hn:fn.ntmps=n)
 (hlen:Nat.ble args.length n=true) (hk:rows.length=k) (haf:∀x,rows.length=(after x).length) (hrefs:H7 k args=true) (hfr:a2w rows=true)
 (h:∀b:Base,[EnvAt P b]→b.n0=k→W P b c ⟨a5U args 0,b0T rows 0,k,n⟩ (c7e tb l R res after)):CtrX P f args rows R res after:=by
 refine ⟨⟨fn,hf,hname,by rw [hb];rfl⟩,λw0 hw0 ρ m nx ids w vs hin hnd hC hrel=>?_⟩
 have hidl:ids.length=k:=hin.len.trans hk
 let ρc:Nat→Value:=λj=>ρ (ids.getD j 0)
 have hrel':RelVs w0.w ρc k args vs:=RelVs.ren args hrefs hrel
 have hlen':args.length<=n:=Nat.le_of_ble_eq_true hlen
 refine calls_of_wp hf hb ?_
 let b:Base:=⟨w0.w,k,ρc,w,λc=>c < w.heap.size/\∀(j:Nat) id r,ids[j]?=some id→rows[j]?=some r→¬ S8 w (ρ id) r c,λc hc=>hc.1,w0.E,w0.hE⟩
 have hen:EnvAt P b:=⟨hw0.e⟩
 have hkp:KeepIs ρ ids rows w b.keep:=λ_=>Iff.rfl
 have hCb:RelC b ρc (b0T rows 0) k w:=a8K (b:=b) hC hin hnd hfr hk Z Z Z Z hkp
 have hT:=a3l (b:=b) (fn:=fn) hrel' hlen' hn
 refine wp_mono (h b Z ρc _ w hT hCb) ?_
 have fin:∀(x:α) (ρ':Nat→Value) (S:St) (a:Act) (w':World),(∃avs,V5 tb S l []=some avs/\ResOK S.m avs (res x)/\AftOK S.m 0 (after x)/\a1F (after x) (a3h (res x) avs)=true)→RelT b ρ' S.T S.nx S.nt a→RelC b ρ' S.m S.nx w' →
  a.defers=[]/\∃v,(results fn a.tmps).run P w'=.ok v w'/\∃u ρ',Ending.returned v=.returned u/\(∀i,i < nx→ρ' i=ρ i)/\nx<=(instR (res x) nx (aft ids (after x) m)).2.2/\RelV w0.w ρ' (instR (res x) nx (aft ids (after x) m)).2.2 (instR (res x) nx (aft ids (after x) m)).1 u /\
  RelC w0 ρ' (instR (res x) nx (aft ids (after x) m)).2.1 (instR (res x) nx (aft ids (after x) m)).2.2 w':=by
  intro x ρ' S a w' ⟨avs,h1,h2,h3,h4⟩ hT' hC'
  obtain ⟨ys,avs',e1,e2,e3⟩:=Z9 G hT' hC' h1
  simp at e1
  subst e1
  have hpin:∀j id,ids[j]?=some id→ρ' j=ρ id:=λj id hj=>by
   have hj':j < k:=by rw [← hidl];exact (List.getElem?_eq_some_iff.1 hj).1
   rw [hC'.pin.2 j hj']
   grind
  obtain ⟨ρ2,q1,q2,q3,q4⟩:=b1j (b:=b) hC hin hnd (haf x) Z Z hkp hpin hC' h3 h2 h4 e2
  exact ⟨hT'.defers,_,V6 hl e3,_,ρ2,Z,q1,q2,q3,q4⟩
 rintro e a w' ⟨ρ',S,⟨x,hx,hq⟩,hT',hC'⟩
 cases e<;>simp only [b3z] at hq
 case normal=>obtain ⟨g1,v,g2,g3⟩:=fin x ρ' S a w' hq hT' hC';exact ⟨g1,v,g2,x,hx,g3⟩
 case ret=>obtain ⟨g1,v,g2,g3⟩:=fin x ρ' S a w' hq hT' hC';exact ⟨g1,v,g2,x,hx,g3⟩
theorem d6 [EnvAt P w0] {α:Type} {R:α→Prop} {res:α→Res} {after:α→List (Option Row)} {f:FuncId} {as:Array Operand} {ts:Array TypeId} {args:List AV} {rows:List Row} {n1:Nat} (nx':Nat) (ids:List Nat) (hd:o.dst=some d) (hlt:Nat.blt d nt=true) (ho:o.op=.call { callee:=.value (.func f),args:=as,argTypes:=ts }) (hc:CtrX P f args rows R res after)
 (ha:evL T as.toList []=some (renAs ids args)) (hr:RowsIn m ids rows) (hnd:nodupB ids=true) {r:α→AV} {m':α→List (Nat×Option Row)} (hi:∀x,a8E (res x) nx (aft ids (after x) m)=some (r x,m' x,n1)) (hn':Nat.beq nx' n1=true) (hk:∀x,R x→WL P w0 ops rest ⟨(d,r x) :: T,m' x,nx',nt⟩ Q):WX P w0 ops o rest ⟨T,m,nx,nt⟩ Q:=by
 have hn'':=Nat.eq_of_beq_eq_true hn'
 subst hn''
 intro ρ a w hT hC
 obtain ⟨bs,h1,h2⟩:=a6K hT ha
 simp at h1
 subst h1
 have hcalls:=hc.calls w0 ρ m nx ids w _ hr hnd hC h2
 have hrun:(execOp a.eval o).run P w=.ok (.enter f (as.toList.map a.eval).toArray) w:=by
  simp [execOp,ho,resolve,Deferred.ofValue,invoke,Act.eval,a0s hc.callable,← Array.toList_map]
 unfold Oper.wp
 rw [hrun,Oper.upon_enter]
 refine hcalls.mono λex w' ⟨x,hx,v,ρ',he,q1,q2,q3,q4⟩=>?_
 subst he
 have hi:=hi x
 have hi:=a3d hi
 rw [hi] at q2 q3 q4
 refine hk x hx ρ' _ w' ?_ q4
 rw [hd]
 have hT':RelT w0 ρ' T nx' nt a:=⟨λt x hx=>(hT.tmps t x hx).mono q2 q1,hT.size,hT.defers⟩
 exact hT'.put hlt q3
end
inductive EF where
 | int (k:IntKind)
 | bool
 | str
def c4Q (P:Program) (t:TypeId):Option EF:=match P.underlying t with
 | some (.int k)=>some (.int k)
 | some .bool=>some .bool
 | some .string=>some .str
 | _=>none
def efB:EF→EF→Bool
 | .int k,.int k'=>decide (k=k')
 | .bool,.bool=>true
 | .str,.str=>true
 | _,_=>false
theorem c4R {a b:EF} (h:efB a b=true):a=b:=by
 cases a<;>cases b<;>simp [efB] at h<;>first | rfl | (rw [h])
def b63 (P:Program):List Field→Nat→List EF→Bool
 | [],_,[]=>true
 | f :: fs,j,k :: ks=>(f.name != "_") && (f.offset==j) && (match c4Q P f.type with | some k'=>efB k' k | none=>false) && b63 P fs (j+1) ks
 | _,_,_=>false
def a02 (P:Program) (t:TypeId) (ks:List EF):Bool :=
 (match P.underlying t with | some (.struct fs)=>b63 P fs.toList 0 ks | _=>false) && !P.stoodInHeld t && !P.eqGuardType P.depth t
def c9u:EF→Value→Prop
 | .int k,v=>∃a,v=.int k a
 | .bool,v=>∃a,v=.bool a
 | .str,v=>∃a,v=.string a
def a4d:List EF→List Value→Prop
 | [],us=>us=[]
 | k :: ks,us=>∃u r,us=u :: r/\c9u k u/\a4d ks r
def a3m:Value→Value→Bool
 | .int _ a,.int _ b=>decide (a=b)
 | .bool a,.bool b=>a==b
 | .string a,.string b=>decide (a=b)
 | _,_=>false
def I3:List Value→List Value→Bool
 | [],[]=>true
 | a :: r,b :: s=>a3m a b && I3 r s
 | _,_=>false
theorem b0U {a b:ByteArray}:(a.toList==b.toList)=decide (a=b):=by
 have e:(a.toList=b.toList)↔a=b:=by
  rw [ByteArray.toList_eq,ByteArray.toList_eq]
  obtain ⟨⟨x⟩⟩:=a
  obtain ⟨⟨y⟩⟩:=b
  simp
 grind
section
variable {P:Program} {w:World}
theorem a6L {d:Nat} {xs ys:Array Value}:∀{fs:List Field} {j:Nat} {ks:List EF},b63 P fs j ks=true→a4d ks (xs.toList.drop j)→a4d ks (ys.toList.drop j) →
 (Op.eqFields (d+1) xs ys fs).run P w=.ok (I3 (xs.toList.drop j) (ys.toList.drop j)) w
 | [],j,[],_,hx,hy=>by
  simp only [a4d] at hx hy
  rw [hx,hy]
  simp [Op.eqFields,I3]
 | [],_,_ :: _,h,_,_=>by simp [b63] at h
 | _ :: _,_,[],h,_,_=>by simp [b63] at h
 | f :: fs,j,k :: ks,h,hx,hy=>by
  simp only [b63,Bool.and_eq_true] at h
  obtain ⟨⟨⟨h1,h2⟩,h3⟩,h4⟩:=h
  simp only [a4d] at hx hy
  obtain ⟨u,r,ex,hu,hr⟩:=hx
  obtain ⟨v,s,ey,hv,hs⟩:=hy
  have hj:f.offset=j:=by simpa using h2
  have gx:xs[j]?=some u:=by
   have:=congrArg (λl=>l[0]?) ex
   grind
  have gy:ys[j]?=some v:=by
   have:=congrArg (λl=>l[0]?) ey
   grind
  have dx:xs.toList.drop (j+1)=r:=by rw [← List.drop_drop,ex];rfl
  have dy:ys.toList.drop (j+1)=s:=by rw [← List.drop_drop,ey];rfl
  have hn:f.name ≠ "_" := by simpa using h1
  have ih:=a6L (d:=d) (xs:=xs) (ys:=ys) h4 (dx▸hr) (dy▸hs)
  rw [dx,dy] at ih
  have key:∀w,(part f.type xs f.offset).run P w=.ok u w/\(part f.type ys f.offset).run P w=.ok v w/\(Op.equalIn (d+1) f.type u v).run P w=.ok (a3m u v) w:=by
   intro w
   cases he:c4Q P f.type with
   | none=>simp [he] at h3
   | some k' =>
    simp only [he] at h3
    obtain rfl:=c4R h3
    unfold c4Q at he
    split at he<;>cases he
    ·next k ht =>
     obtain ⟨a,rfl⟩:=hu
     obtain ⟨b,rfl⟩:=hv
     refine ⟨by simp [part,isAgg,run_underlying ht,hj,gx],by simp [part,isAgg,run_underlying ht,hj,gy],?_⟩
     rw [run_equalIn_int w d _ k k a b ht]
     rfl
    ·next ht =>
     obtain ⟨a,rfl⟩:=hu
     obtain ⟨b,rfl⟩:=hv
     exact ⟨by simp [part,isAgg,run_underlying ht,hj,gx],by simp [part,isAgg,run_underlying ht,hj,gy],run_equalIn_bool' w d _ a b ht⟩
    ·next ht =>
     obtain ⟨a,rfl⟩:=hu
     obtain ⟨b,rfl⟩:=hv
     refine ⟨by simp [part,isAgg,run_underlying ht,hj,gx],by simp [part,isAgg,run_underlying ht,hj,gy],?_⟩
     rw [run_equalIn_string w d _ a b ht,b0U]
     rfl
  rw [ex,ey]
  simp only [Op.eqFields,if_pos hn,Sem.run_bind,(key w).1,(key w).2.1,(key w).2.2,Result.andThen_ok,I3]
  cases hc:a3m u v
  ·simp
  ·simpa using ih
theorem a6M {t:TypeId} {ks:List EF} (h:a02 P t ks=true) (hu:a4d ks us) (hv:a4d ks vs):(Op.equalIn 10000 t (.agg ⟨us⟩) (.agg ⟨vs⟩)).run P w=.ok (I3 us vs) w:=by
 simp only [a02,Bool.and_eq_true,Bool.not_eq_true'] at h
 obtain ⟨⟨h1,h2⟩,_⟩:=h
 split at h1
 ·next fs hfs =>
  have e:P.fieldsOf t=fs:=by simp [Program.fieldsOf,hfs]
  rw [show (10000:Nat)=9999+1 from rfl,run_equalIn_agg w 9999 t _ _ (by rw [e];exact hfs) h2,e]
  exact a6L (d:=9998) (xs:=⟨us⟩) (ys:=⟨vs⟩) h1 hu hv
 ·cases h1
end
section
variable {P:Program} [Env P] {w0:Base} {ops:Array Oper} {tb:List (Nat×TyI)} {o:Oper} {rest:List Oper} {T:List (Nat×AV)} {m:List (Nat×Option Row)} {nx nt d:Nat} {Q:Exit→St→Prop}
theorem a6N {x:Operand} {w0:World} {ρ:Nat→Value} {a:Act} (hT:RelT w0 ρ T nx nt a) (hx:ev T x=some ax) (hc:C9 ax=some cs) (hu:vaR cs []=some us) (hax:ax=.agg cs∨ax=.v (.agg ⟨us⟩)):a.eval x=.agg ⟨us⟩:=by
 obtain ⟨us',h1,h2⟩:=a0r _ _ _ hu
 simp at h2
 subst h2
 have:=hT.ev hx
 rcases hax with rfl | rfl
 ·grind [RelV,RelVs.map_v_eq]
 assumption
theorem c7f {x:Operand} {t t':TypeId} (ks:List EF) (ho:o.op=.binOp .eql t x y t') (hx:ev T x=some ax) (hy:ev T y=some ay) (hc:C9 ax=some cs) (hd:C9 ay=some ds) (hu:vaR cs []=some us) (hv:vaR ds []=some vs)
 (hax:ax=.agg cs∨ax=.v (.agg ⟨us⟩)) (hay:ay=.agg ds∨ay=.v (.agg ⟨vs⟩)) (ht:a02 P t ks=true) (fu:a4d ks us) (fv:a4d ks vs):QStep P o T m nx nt (.v (.bool (I3 us vs))) :=
 QStep.val λw0 ρ a hT w'=>by
  have ex:=a6N hT hx hc hu hax
  have ey:=a6N hT hy hd hv hay
  have hg:P.eqGuardType P.depth t=false:=by simp only [a02,Bool.and_eq_true,Bool.not_eq_true'] at ht;exact ht.2
  simp [execOp,ho,ex,ey,run_eqGuard_agg w' .eql t x y _ _ hg,run_eql_struct,a6M ht fu fv]
theorem c2m {x:Operand} {t t':TypeId} (ks:List EF) (ho:o.op=.binOp .neq t x y t') (hx:ev T x=some ax) (hy:ev T y=some ay) (hc:C9 ax=some cs) (hd:C9 ay=some ds) (hu:vaR cs []=some us) (hv:vaR ds []=some vs)
 (hax:ax=.agg cs∨ax=.v (.agg ⟨us⟩)) (hay:ay=.agg ds∨ay=.v (.agg ⟨vs⟩)) (ht:a02 P t ks=true) (fu:a4d ks us) (fv:a4d ks vs):QStep P o T m nx nt (.v (.bool (!I3 us vs))) :=
 QStep.val λw0 ρ a hT w'=>by
  have ex:=a6N hT hx hc hu hax
  have ey:=a6N hT hy hd hv hay
  have hg:P.eqGuardType P.depth t=false:=by simp only [a02,Bool.and_eq_true,Bool.not_eq_true'] at ht;exact ht.2
  simp [execOp,ho,ex,ey,run_eqGuard_agg w' .neq t x y _ _ hg,run_neq_struct,a6M ht fu fv]
end
def okC (n:Int) (x:Cur):Prop:=X3 x.c/\0<=x.a/\x.a<=n
theorem okC.mono {n':Int} (h:okC n x) (hn:n<=n'):okC n' x:=⟨h.1,h.2.1,by have:=h.2.2;omega⟩
theorem okC.pk (h:okC n x) (k:Int):okC (n+2) (pkC x k):=by
 have:=c9t (x:=x) (n:=k)
 exact ⟨by rw [this.1];exact h.1,by have:=h.2.1;omega,by have:=h.2.2;omega⟩
theorem okC.big (h:okC n x) (hn:n<=1000000000000):0<=x.a/\x.a<=4611686018427387000:=⟨h.2.1,by have:=h.2.2;omega⟩
theorem c0I {l:List Int} {lo hi:Int} (hl:∀z∈l,lo<=z/\z<=hi) {i:Nat} (h0:i < l.length):lo<=l.getD i default/\l.getD i default<=hi:=by
 simp_all
theorem b3B {α:Type} [Inhabited α] {l:List α} {i:Nat} (h0:i < l.length):l.getD i default∈l:=by
 grind
end Go.Rf
namespace Go.Rf
end Go.Rf
namespace Go.Rf
open Go Go.RowKit
section
variable {P:Program} [Env P] {w0:Base} {T:List (Nat×AV)} {m:List (Nat×Option Row)} {nx nt:Nat} {Q:Exit→St→Prop} {c:Code}
theorem c4S {N:Nat} (hn:nx<=N) (h:W P w0 c ⟨T,m,N,nt⟩ Q):W P w0 c ⟨T,m,nx,nt⟩ Q:=by
 intro ρ a w hT hC
 refine h ρ a w ⟨λt x hx=>(hT.tmps t x hx).mono hn (λ_ _=>Z),hT.size,hT.defers⟩ ⟨λid r hr=>?_,hC.apart,hC.below,⟨Nat.le_trans hC.pin.1 hn,hC.pin.2⟩,hC.kept,hC.inner⟩
 obtain ⟨h1,h2⟩:=hC.rows id r hr
 exact ⟨Nat.lt_of_lt_of_le h1 hn,h2.mono hn (λ_ _=>Z) h1⟩
theorem Ctr.eq {f:FuncId} {args:List AV} {res res':Res} (h:Ctr P f args res) (e:res=res'):Ctr P f args res':=e▸h
end
section
variable {P:Program} [Env P] {w0:Base} {T:List (Nat×AV)} {m:List (Nat×Option Row)} {nx nt:Nat} {Q:Exit→St→Prop} {c:Code}
theorem c0J {α:Type} {x y:Code} {S:St} (T1:α→List (Nat×AV)) (M1:α→List (Nat×Option Row)) (inv:α→Prop) (N:Nat) (ks ms:List Nat) (h:W P w0 x S (sq (λS'=>∃a,inv a/\a6H S'.nx S'.T ks []=some (T1 a)/\S0 S'.nx S'.m ms []=some (M1 a)/\Nat.ble S'.nx N=true/\S'.nt=nt) Q)) (h2:∀a,inv a→W P w0 y ⟨T1 a,M1 a,N,nt⟩ Q):W P w0 (.seq x y) S Q:=by
 refine c1 (λK hK=>b4A h ?_)
 intro e S hq
 cases e
 case normal =>
  obtain ⟨a,ha,h3,h4,h5,h6⟩:=hq
  refine hK S ?_
  subst h6
  exact b7S (S':=⟨T1 a,M1 a,S.nx,S.nt⟩) ⟨Z,a1h h3 trivial,a0a h4 trivial⟩ Z (c4S (Nat.le_of_ble_eq_true h5) (h2 a ha))
 all_goals exact hq
end
end Go.Rf
namespace Go.Rf
open Go
variable {f:Nat→Bool} {n:Nat}
theorem c7g:∀c,CellsOK [.int .u8] c→∃x:Int,c=B4 x/\(0<=x/\x<=255):=by
 intro c h
 simp only [CellsOK,CellOK] at h
 obtain ⟨_,r0,rfl,⟨n0,rfl,w⟩,h⟩:=h
 subst h
 refine ⟨n0,Z,?_⟩
 simp only [Lit.wf,IntKind.min,IntKind.max,Bool.and_eq_true,decide_eq_true_eq,IntKind.signed,IntKind.bits] at w
 simpa using w
theorem c4T {l:List Int} (h:∀x∈l,0<=x/\x<=255):∀j,0<=l.getD j default/\l.getD j default<=255:=λj=>by
 rcases Nat.lt_or_ge j l.length with hj | hj
 ·exact h _ (b3B hj)
 ·have e:l.getD j default=0:=by rw [List.getD_eq_getElem?_getD,List.getElem?_eq_none hj];rfl
  rw [e]
  omega
section
variable {α:Type} [Inhabited α] {f:α→List Value} {g:Nat→α} {xs:List α} {i:Nat}
def pre (g:Nat→α) (i:Nat):List α:=(List.range i).map g
theorem U1:(pre g i).length=i:=by simp [pre]
theorem a4e:(pre g i).map f++[f (g i)]=(pre g (i+1)).map f:=by simp [pre,List.range_succ]
end
theorem a2y (h:P0 f n≠-1):∃i:Nat,P0 f n=(i:Int)/\i < n/\(∀j,j < i→f j=false)/\f i=true:=by
 unfold P0 at h ⊢
 cases hf:(List.range n).find? f with
 | none=>simp [hf] at h
 | some i =>
  rw [List.find?_range_eq_some] at hf
  grind
theorem b5E (h:P0 f n=-1):∀i,i < n→f i=false:=by
 grind [P0]
section
variable {α:Type} [Inhabited α] {f:α→List Value} {p:α→Bool} {xs:List α} {j:Nat}
end
end Go.Rf
namespace Go.Rf
open Go Go.RowKit
variable {by_ dst e src:Nat} {z z0:Value} {zs:List Value}
def u8s:List (List Value)→List Int→Option (List Int)
 | [],acc=>a3a acc []
 | [.int .u8 n] :: r,acc=>u8s r (n :: acc)
 | _ :: _,_=>none
theorem b3C:∀{ys:List (List Value)} {acc ns:List Int},u8s ys acc=some ns→∃xs,ns=acc.reverse++xs/\ys=xs.map λn=>[.int .u8 n]
 | [],acc,ns,h=>by simp [u8s,F9] at h;exact ⟨[],by simp [h],Z⟩
 | c :: r,acc,ns,h=>by
  have hc:∃n,c=[.int .u8 n]/\u8s r (n :: acc)=some ns:=by
   cases c with
   | nil=>simp [u8s] at h
   | cons v c2 =>
    cases c2 with
    | cons u c3=>cases v<;>first | (simp [u8s] at h;done) | (rename_i k _;cases k<;>simp [u8s] at h)
    | nil =>
     cases v<;>try (simp [u8s] at h;done)
     rename_i k n
     cases k<;>try (simp [u8s] at h;done)
     exact ⟨n,Z,by simpa only [u8s] using h⟩
  obtain ⟨n,rfl,h'⟩:=hc
  obtain ⟨xs,h1,h2⟩:=b3C h'
  exact ⟨n :: xs,by simp [h1],by simp [h2]⟩
section
variable {P:Program} [Env P] {tb:List (Nat×TyI)} {o:Oper} {T:List (Nat×AV)} {m:List (Nat×Option Row)} {nx nt:Nat}
theorem c0K (G:Good P tb) (hs:look src tb=some (.slice e 1 by_ zs)) (he:look e tb=some (.flat (.int .u8) z0)) (hd:look dst tb=some (.flat .str z)) {w:World} {ns:List Int} {y:Value} (h:ReadsAt w 1 (ns.map λn=>[.int .u8 n]) y) :
 (convert src dst y).run P w=.ok (.string (strOfNums ns)) w:=by
 obtain ⟨A,cap,rfl,_,_,hA⟩:=h
 have hs':=(G _ _ hs).1
 have he':P.underlying e=some (.int .u8):=(G _ _ he).1
 have hd':P.underlying dst=some .string:=(G _ _ hd).1
 cases A with
 | none =>
  have h0:ns=[]:=by
   cases ns with
   | nil=>rfl
   | cons n r=>obtain ⟨ad,h1,_⟩:=hA (by simp);cases h1
  subst h0
  exact run_convert_bytes_nil w src e hs' he' _ _ dst hd'
 | some ad =>
  have hl:(loadCells ad (ns.map λn=>[Value.int .u8 n]).length).run P w=.ok (ns.map (Value.int .u8)).toArray w:=by
   have:=run_loadCells_list (P:=P) w ad (ns.map (Value.int .u8)) (λj v hj=>by
    have hjl:j < ns.length:=by
     rcases Nat.lt_or_ge j ns.length with h | h
     ·exact h
     ·simp [List.getElem?_eq_none (show (ns.map (Value.int .u8)).length<=j by simpa using h)] at hj
    obtain ⟨ad',h1,_,h2⟩:=hA (by simp;omega)
    cases h1
    have:=h2 j [.int .u8 ns[j]] (by simp [hjl]) 0 _ Z
    simp [hjl] at hj
    subst hj
    simpa using this)
   simpa using this
  rw [run_convert_bytes_string w src dst e _ _ cap hs' he' hd',run_bytesToString w _ _ cap ns hl,foldl_push_bytes]
  simp [strOfNums,ByteArray.empty,ByteArray.emptyWithCapacity]
  rfl
theorem c7h {x:Operand} {ax:AV} {ys:List (List Value)} {ns:List Int} (G:Good P tb) (ho:o.op=.convert src dst x) (hs:look src tb=some (.slice e 1 by_ zs)) (he:look e tb=some (.flat (.int .u8) z0)) (hd:look dst tb=some (.flat .str z))
 (hx:ev T x=some ax) (hl:a3b m ax=some (.lst 1 ys)) (hu:u8s ys []=some ns):QStep P o T m nx nt (.v (.string (strOfNums ns))) :=
 QStep.run λw0 ρ a w hT hC=>by
  obtain ⟨xs,h1,h2⟩:=b3C hu
  simp at h1
  subst h1
  refine ⟨.string (strOfNums ns),by simp only [RelV],λw' hC'=>?_⟩
  have hr:=ArgOK.of1 (nx:=nx) hl w0 ρ w' _ hC' (hT.ev hx)
  simp only [RelV] at hr
  rw [h2] at hr
  simp [execOp,ho,c0K G hs he hd hr]
end
end Go.Rf
namespace Go.Rf
open Go Go.RowKit Go.Sort
variable {n:Nat}
theorem b64 {P:Program} {w w':World} {n:String} {k:IntKind} {zs:List Int} (h:Lib.TabIs P w n k zs) (hb:Below w.heap.size w w'):Lib.TabIs P w' n k zs:=by
 unfold Lib.TabIs World.var? at h ⊢
 cases hg:P.globalNamed n with
 | none=>simp [hg] at h
 | some g =>
  simp only [hg,Option.bind_some] at h ⊢
  have hlt:g < w.heap.size:=by
   grind
  rw [hb.block g hlt]
  exact h
theorem b4K (w:World) (k:Nat) (os:Array Obj):Below w.heap.size w (grow (w.drewN k) os) :=
 ⟨Z,Z,Z,by simp [grow,World.drewN],λi hi=>by
  show (w.heap++os)[i]?=w.heap[i]?
  rw [Array.getElem?_append_left hi]⟩
theorem Ctr.lib {P:Program} [Env P] {f:FuncId} {xs:List Value} {v:Value} (hc:Callable P f) (h:∀w,Env.E P w→Calls P f xs.toArray w λe w'=>e=.returned v/\Below w.heap.size w w'):Ctr P f (xs.map .v) (.one (.v v)) :=
 ⟨hc,λw vs he hv=>by
  rw [RelVs.map_v_eq (w0:=w) xs hv]
  exact (h w he).mono λe w' ⟨h1,h2⟩=>⟨v,h1,by simp [ResRel,RCRel],h2⟩⟩
def s5 (n:Int):ByteArray:=⟨(Lib.itoa n).toArray⟩
theorem a2z (h:n < 10):(⟨#[48,49,50,51,52,53,54,55,56,57]⟩:ByteArray).extract n (n+1)=⟨#[UInt8.ofNat (48+n)]⟩:=by
 rcases n with _ | _ | _ | _ | _ | _ | _ | _ | _ | _ | n<;>first | rfl | omega
theorem a6O {n:Int} (h:n < 0):s5 n=(⟨#[45]⟩:ByteArray)++s5 (-n):=by
 have e1:Lib.itoa n=45 :: Lib.decDigits n.natAbs:=by rw [Lib.itoa,if_pos h]
 have e2:Lib.itoa (-n)=Lib.decDigits n.natAbs:=by
  rw [Lib.itoa,if_neg J]
  congr 1
  omega
 rw [s5,s5,e1,e2]
 rfl
theorem a3n (h:n < 10):s5 n=⟨#[UInt8.ofNat (48+n)]⟩:=by
 rw [s5,Lib.itoa,if_neg J,Lib.decDigits]
 simp [h]
theorem a40 (h:10<=n):s5 n=s5 ((n / 10:Nat):Int)++⟨#[UInt8.ofNat (48+n % 10)]⟩:=by
 have e1:Lib.itoa (n:Int)=Lib.decDigits (n / 10)++[UInt8.ofNat (48+n % 10)]:=by
  rw [Lib.itoa,if_neg J,Lib.decDigits]
  grind
 have e2:Lib.itoa ((n / 10:Nat):Int)=Lib.decDigits (n / 10):=by
  rfl
 rw [s5,s5,e1,e2]
 rfl
theorem w8 {n:Int} (h0:-9223372036854775808<=n) (h1:n<=9223372036854775807):(s5 n).size<=21:=by
 have:=Lib.itoa_length_le n h0 h1
 assumption
end Go.Rf
namespace Go.Rf
open Go Go.RowKit
variable {D P a z:ByteArray} {b c k:Int} {d i n:Nat} {u:UInt8}
theorem a9X {w w':World} {a:Addr} {v:Value} (h:w.cell? a=some v) (hb:Below w.heap.size w w'):w'.cell? a=some v:=by
 have hlt:a.block < w.heap.size:=by
  unfold World.cell? at h
  grind
 exact (hb.cell hlt).trans h
section
variable {P:Program} [Env P] {tb:List (Nat×TyI)} {o:Oper} {T:List (Nat×AV)} {m:List (Nat×Option Row)} {nx nt:Nat}
theorem a7W {src dst:TypeId} {x:Operand} {k':IntKind} {n:Int} {z z':Value} {fk:FK} (G:Good P tb) (ho:o.op=.convert src dst x) (hs:look src tb=some (.flat fk z')) (ht:look dst tb=some (.flat (.int .i64) z)) (hx:ev T x=some (.v (.int k' n)))
 (h0:-9223372036854775808<=n) (h1:n<=9223372036854775807):QStep P o T m nx nt (.v (.int .i64 n)):=by
 have:=a17 (m:=m) (nx:=nx) (nt:=nt) G ho hs ht hx
 rwa [O2 h0 h1] at this
end
theorem a6P (s:ByteArray) (i:Nat):0<=s2 s i/\s2 s i<=255:=by
 unfold s2
 have:=(s.data.toList.getD i 0).toNat_lt
 omega
structure Rec where
 c:ByteArray
 r:ByteArray
instance:Inhabited Rec:=⟨⟨⟨#[]⟩,⟨#[]⟩⟩⟩
variable {x:Rec}
def a8L (x:Rec):List Value:=[.string x.c,.string x.r]
def b2n (x:Rec):Value:=.agg ⟨a8L x⟩
def a7X (s:ByteArray) (i:Nat):Bool:=decide (32<=s2 s i) && decide (s2 s i<=126) && !(s2 s i==35)
def a0L (s:ByteArray):Bool:=a18 s.size (a7X s)
def m4 (s:ByteArray) (b:Int):Bool:=a0t s.size (λi=>s2 s i==b)
def I7 (x:Rec):Bool:=n7 x.c.size 1 160 && decide ((x.r.size:Int)<=200) && a0L x.c && a0L x.r && !(m4 x.c 64)
theorem B1 (s:ByteArray):s.data.toList.length=s.size:=by rw [Array.length_toList];rfl
theorem a3o {s:ByteArray} {c:UInt8}:decide (0<=Lib.indexByte s.data.toList c)=m4 s c.toNat:=by
 have hge:=Lib.indexByte_ge s.data.toList c
 by_cases h:Lib.indexByte s.data.toList c=-1
 ·have h1:=Lib.indexByte_none h
  rw [h]
  symm
  rw [m4]
  exact a19 (i:=s.size) (λj hj=>by
   have h2:=h1 j
   have hjl:j < s.data.toList.length:=by rw [B1];exact hj
   rw [List.getElem?_eq_getElem hjl] at h2
   simp only [beq_eq_false_iff_ne,ne_eq,s2,List.getD_eq_getElem?_getD,List.getElem?_eq_getElem hjl,Option.getD_some]
   intro he
   apply h2
   congr 1
   exact UInt8.toNat_inj.mp (by exact_mod_cast he)) (Nat.le_refl _)
 ·obtain ⟨o,ho⟩:∃o:Nat,Lib.indexByte s.data.toList c=o:=⟨(Lib.indexByte s.data.toList c).toNat,by omega⟩
  obtain ⟨h1,_⟩:=Lib.indexByte_some ho
  have hol:o < s.data.toList.length:=(List.getElem?_eq_some_iff.1 h1).1
  rw [ho,decide_eq_true J]
  symm
  rw [m4]
  exact S5 (i:=o) (by
   simp only [beq_iff_eq,s2,List.getD_eq_getElem?_getD,h1,Option.getD_some]) (by rw [← B1];exact hol)
theorem b65 {s:ByteArray}:(s.toList==(⟨#[]⟩:ByteArray).toList)=decide (s.size=0):=by
 rw [ByteArray.toList_eq,ByteArray.toList_eq,← B1]
 grind
theorem b4L {s:ByteArray}:s.toList=(⟨#[]⟩:ByteArray).toList↔s.size=0:=by
 grind [b65]
theorem i8 (a:Array UInt8):(⟨a⟩:ByteArray).size=a.size:=rfl
def a7Y (s:ByteArray) (i:Nat):Int:=b7W (λi n=>(41 * n+s2 s i+1) % 999979) 7 i
theorem b66 {s:ByteArray}:a7Y s (i+1)=(41 * a7Y s i+s2 s i+1) % 999979:=rfl
theorem a9w (s:ByteArray):∀i,0<=a7Y s i/\a7Y s i<=999978
 | 0=>by simp [a7Y,b7W]
 | i+1=>by rw [b66];omega
def a1H (s:ByteArray):ByteArray:=s++(⟨#[35]⟩:ByteArray)++s5 (a7Y s s.size)
theorem a3p {s:ByteArray}:m4 s b=true↔∃x∈s.data.toList,(x.toNat:Int)=b:=by
 constructor
 ·grind [m4,a0t,a18,B1,s2]
 ·rintro ⟨x,hx,h⟩
  obtain ⟨i,hil,rfl⟩:=List.getElem_of_mem hx
  exact S5 (i:=i) (by simp only [s2,List.getD_eq_getElem?_getD,List.getElem?_eq_getElem hil,Option.getD_some,h,beq_self_eq_true]) (by rw [← B1];exact hil)
theorem a3q {s t:ByteArray} (h1:m4 s b=false) (h2:m4 t b=false):m4 (s++t) b=false:=by
 cases h:m4 (s++t) b with
 | false=>rfl
 | true =>
  obtain ⟨x,hx,he⟩:=a3p.mp h
  rw [ByteArray.data_append,Array.toList_append,List.mem_append] at hx
  rcases hx with hx | hx
  ·have:=a3p.mpr ⟨x,hx,he⟩
   grind
  ·have:=a3p.mpr ⟨x,hx,he⟩
   grind
theorem a7Z {s:ByteArray} (h:∀x∈s.data.toList,(x.toNat:Int)≠b):m4 s b=false:=by
 grind [a3p]
theorem a6Q {s:ByteArray} (h:a0L s=true):m4 s 35=false :=
 a19 (i:=s.size) (λj hj=>by
  have:=F6.mp h j hj
  simp only [a7X,Bool.and_eq_true,Bool.not_eq_true'] at this
  exact this.2) (Nat.le_refl _)
theorem b3D:∀(u:Nat),∀x∈Lib.decDigits u,48<=x.toNat/\x.toNat<=57:=by
 intro u
 induction u using Nat.strongRecOn with
 | ind u ih =>
  intro x hx
  rw [Lib.decDigits] at hx
  by_cases h:u < 10
  ·(simp_all;omega)
  ·rw [dif_neg h] at hx
   rcases List.mem_append.1 hx with hx | hx
   ·grind
   (simp_all;omega)
theorem b67 {n:Int} (h:0<=n):∀x∈(s5 n).data.toList,48<=x.toNat/\x.toNat<=57:=by
 intro x hx
 have e:(s5 n).data.toList=Lib.decDigits n.toNat:=by
  rw [s5,Lib.itoa,if_neg J]
 rw [e] at hx
 exact b3D _ x hx
theorem a9Y {n:Int} (h:0<=n) {b:Int} (hb:b < 48∨57 < b):m4 (s5 n) b=false :=
 a7Z λx hx=>by have:=b67 h x hx;omega
def P3 (k:Int) (x:Rec):ByteArray:=s5 k++(⟨#[32]⟩:ByteArray)++x.c++(⟨#[64]⟩:ByteArray)++x.r
def a1I (k:Int) (x:Rec):ByteArray:=a1H (P3 k x)++(⟨#[10]⟩:ByteArray)
theorem a2A (h:I7 x=true):(1<=x.c.size/\x.c.size<=160)/\x.r.size<=200/\a0L x.c=true/\a0L x.r=true/\m4 x.c 64=false:=by
 grind [I7,n7]
theorem a4f (hk:0<=k) (h:I7 x=true):m4 (P3 k x) 35=false:=by
 obtain ⟨_,_,h1,h2,_⟩:=a2A h
 unfold P3
 exact a3q (a3q (a3q (a3q (a9Y hk J) (a7Z (by decide))) (a6Q h1)) (a7Z (by decide))) (a6Q h2)
theorem a41 (hk:0<=k) (hk2:k<=9223372036854775807) (h:I7 x=true):(P3 k x).size<=400:=by
 grind [a2A,w8,P3,i8]
theorem a2B {s:ByteArray}:(a1H s).size<=s.size+22:=by
 have h:=a9w s s.size
 have:=w8 (n:=a7Y s s.size) J J
 unfold a1H
 simp only [ByteArray.size_append,i8,List.size_toArray,List.length_cons,List.length_nil]
 omega
theorem a3r {b:ByteArray} (h:a.data.toList=b.data.toList):a=b:=ByteArray.ext (Array.ext' h)
theorem X4 (s:ByteArray) (a b:Nat):(s.extract a b).data.toList=(s.data.toList.drop a).take (b - a):=by
 simp
theorem a0u (a b:ByteArray):(a++b).data.toList=a.data.toList++b.data.toList:=by rw [ByteArray.data_append,Array.toList_append]
theorem U7 (s:ByteArray) (i:Nat):s2 s i=((s.data.toList.getD i 0).toNat:Int):=rfl
theorem a1J {b:ByteArray} (h:i < a.size):s2 (a++b) i=s2 a i:=by
 grind [U7,a0u,B1]
theorem b3E {a b:ByteArray} {i:Nat}:s2 (a++b) (a.size+i)=s2 b i:=by
 grind [U7,a0u,B1]
theorem b1n {s:ByteArray} {a b i:Nat} (h:i < b - a):s2 (s.extract a b) i=s2 s (a+i):=by
 grind [U7,X4]
theorem a2C {s:ByteArray} {a b:Nat} (h:b<=s.size):(s.extract a b).size=b - a:=by
 simp_all
def J5 (s:ByteArray) (c:Int):Nat:=((List.range s.size).find? (λi=>s2 s i==c)).getD s.size
theorem a42 {s:ByteArray} (h:∀j,j < i→(s2 s j==c)=false) (hi:i < s.size) (ht:s2 s i=c):J5 s c=i:=by
 have:(List.range s.size).find? (λi=>s2 s i==c)=some i:=by
  simp_all
 rw [J5,this];rfl
theorem a43 {s:ByteArray} (h:m4 s c=false):J5 s c=s.size:=by
 have:(List.range s.size).find? (λi=>s2 s i==c)=none:=by
  grind [m4,S5]
 rw [J5,this];rfl
theorem C5 {s:ByteArray} (h:m4 s c=true):J5 s c < s.size/\s2 s (J5 s c)=c/\∀j,j < J5 s c→(s2 s j==c)=false:=by
 cases hf:(List.range s.size).find? (λi=>s2 s i==c) with
 | none =>
  rw [List.find?_eq_none] at hf
  have:m4 s c=false:=a19 (i:=s.size) (λj hj=>by simpa using hf j (List.mem_range.mpr hj)) (Nat.le_refl _)
  rw [this] at h;cases h
 | some i =>
  have e:J5 s c=i:=by rw [J5,hf];rfl
  simp_all
theorem a6R {s:ByteArray} {c:Int}:J5 s c<=s.size:=by
 cases h:m4 s c
 ·rw [a43 h];exact Nat.le_refl _
 ·exact Nat.le_of_lt (C5 h).1
def l9 (s:ByteArray) (c:Int):ByteArray:=s.extract 0 (J5 s c)
def u4 (s:ByteArray) (c:Int):ByteArray:=if m4 s c then s.extract (J5 s c+1) s.size else ⟨#[]⟩
theorem P4 {s:ByteArray} {c:Int}:(l9 s c).size=J5 s c:=by
 rw [l9,a2C a6R];rfl
theorem b3F (h:m4 a u.toNat=false):J5 (a++⟨#[u]⟩++z) u.toNat=a.size/\m4 (a++⟨#[u]⟩++z) u.toNat=true:=by
 have hsz:a.size < (a++(⟨#[u]⟩:ByteArray)++z).size:=by simp only [ByteArray.size_append,i8,List.size_toArray,List.length_cons,List.length_nil];omega
 have hb:s2 (a++(⟨#[u]⟩:ByteArray)++z) a.size=u.toNat:=by
  rw [ByteArray.append_assoc]
  have:=b3E (a:=a) (b:=(⟨#[u]⟩:ByteArray)++z) (i:=0)
  assumption
 refine ⟨a42 (λj hj=>?_) hsz hb,S5 (i:=a.size) (by simpa using hb) hsz⟩
 rw [ByteArray.append_assoc,a1J hj]
 cases hq:(s2 a j==(u.toNat:Int)) with
 | false=>rfl
 | true =>
  grind [m4,S5]
theorem a71 {a z:ByteArray} {u:UInt8} (h:m4 a u.toNat=false):l9 (a++⟨#[u]⟩++z) u.toNat=a:=by
 grind [l9,b3F,a3r,X4,a0u,B1]
theorem b1o {a z:ByteArray} {u:UInt8} (h:m4 a u.toNat=false):u4 (a++⟨#[u]⟩++z) u.toNat=z:=by
 grind [b3F,u4,a3r,B1,X4,a0u]
theorem a9Z {b c:ByteArray} (h:a++c=b++c):a=b:=by
 simp_all
def P5 (k:Int):ByteArray:=s5 k++(⟨#[32]⟩:ByteArray)
def D9 (s:ByteArray) (k:Int):ByteArray:=(l9 s 35).extract (P5 k).size (l9 s 35).size
def b5F:Rec:=⟨⟨#[]⟩,⟨#[]⟩⟩
def rdA (s:ByteArray) (k:Int):Bool:=decide ((P5 k).size<=(l9 s 35).size) && ((l9 s 35).extract 0 (P5 k).size).toList==(P5 k).toList
def rdB (s:ByteArray) (k:Int):Bool:=rdA s k && !decide ((l9 (D9 s k) 64).size=(D9 s k).size)
def rdX (s:ByteArray) (k:Int):Rec:=⟨l9 (D9 s k) 64,(D9 s k).extract ((l9 (D9 s k) 64).size+1) (D9 s k).size⟩
def rdE (s:ByteArray) (k:Int):Rec:=if rdB s k then rdX s k else b5F
def rdK (s:ByteArray) (k:Int):Bool:=rdB s k && I7 (rdE s k) && (a1I k (rdE s k)).toList==(s++(⟨#[10]⟩:ByteArray)).toList
theorem a5X {b:ByteArray}:(a.toList==b.toList)=true↔a=b:=by
 grind [a4b]
theorem a5Y:P3 k x=P5 k++(x.c++(⟨#[64]⟩:ByteArray)++x.r):=by
 unfold P3 P5
 simp only [ByteArray.append_assoc]
theorem b68 {b:ByteArray}:(a++b).extract 0 a.size=a:=by
 grind [a3r,X4,a0u,B1]
theorem a73 {a b:ByteArray}:(a++b).extract a.size (a++b).size=b:=by
 grind [a3r,X4,a0u,B1]
theorem a90 (hk:0<=k) (h:I7 x=true):l9 (a1H (P3 k x)) 35=P3 k x:=a71 (u:=35) (a4f hk h)
theorem c0L (hk:0<=k) (h:I7 x=true):rdB (a1H (P3 k x)) k=true/\rdE (a1H (P3 k x)) k=x:=by
 obtain ⟨_,_,_,_,h5⟩:=a2A h
 have hf:=a90 hk h
 have hr:D9 (a1H (P3 k x)) k=x.c++(⟨#[64]⟩:ByteArray)++x.r:=by
  rw [D9,hf,a5Y,a73]
 have h64:l9 (x.c++(⟨#[64]⟩:ByteArray)++x.r) 64=x.c:=a71 (u:=64) h5
 have ha:rdA (a1H (P3 k x)) k=true:=by
  rw [rdA,hf,a5Y,b68,a5X.mpr Z,ByteArray.size_append]
  simp
 have hb:rdB (a1H (P3 k x)) k=true:=by
  grind [rdB,i8]
 refine ⟨hb,?_⟩
 rw [rdE,if_pos hb,rdX,hr,h64]
 have h6:(x.c++(⟨#[64]⟩:ByteArray)++x.r).extract (x.c.size+1) (x.c++(⟨#[64]⟩:ByteArray)++x.r).size=x.r:=by
  have:=a73 (a:=x.c++(⟨#[64]⟩:ByteArray)) (b:=x.r)
  have e:(x.c++(⟨#[64]⟩:ByteArray)).size=x.c.size+1:=by rw [ByteArray.size_append];rfl
  rwa [e] at this
 rw [h6]
theorem c4U {s:ByteArray} (hk:0<=k) (h:I7 x=true) (hl:a1I k x=s++(⟨#[10]⟩:ByteArray)):rdK s k=true/\rdE s k=x:=by
 grind [a9Z,c0L,a1I,rdK]
theorem b71 {s:ByteArray} (h:rdK s k=true):I7 (rdE s k)=true/\a1I k (rdE s k)=s++(⟨#[10]⟩:ByteArray):=by
 grind [rdK,a5X]
theorem c4V {s:ByteArray} (h:rdB s k=false):rdE s k=b5F/\rdK s k=false:=by
 refine ⟨?_,?_⟩
 ·rw [rdE,h];rfl
 ·rw [rdK,h];rfl
theorem c4W {s:ByteArray} {k:Int} (h:(l9 s 35).size < (P5 k).size):rdB s k=false:=by
 rw [rdB,rdA,decide_eq_false J];rfl
theorem c4X {s:ByteArray} {k:Int} (h:¬ ((l9 s 35).extract 0 (P5 k).size).toList=(P5 k).toList):rdB s k=false:=by
 rw [rdB,rdA,beq_eq_false_iff_ne.mpr h,Bool.and_false];rfl
theorem c7i {s:ByteArray} {k:Int} (h:(P5 k).size<=(l9 s 35).size) (h2:((l9 s 35).extract 0 (P5 k).size).toList=(P5 k).toList):rdA s k=true:=by
 rw [rdA,h2,decide_eq_true h,beq_self_eq_true];rfl
theorem c4Y {s:ByteArray} {k:Int} (h:(l9 (D9 s k) 64).size=(D9 s k).size):rdB s k=false:=by
 rw [rdB,decide_eq_true h,Bool.not_true,Bool.and_false]
theorem c7j {s:ByteArray} (ha:rdA s k=true) (h:¬ (l9 (D9 s k) 64).size=(D9 s k).size):rdB s k=true/\rdE s k=rdX s k:=by
 grind [rdB,rdE]
theorem b72 {s:ByteArray} {k:Int}:(rdX s k).c.size<=(D9 s k).size/\(rdX s k).r.size<=(D9 s k).size:=by
 have h1:=P4 (s:=D9 s k) (c:=64)
 have h2:=a6R (s:=D9 s k) (c:=64)
 refine ⟨?_,?_⟩
 ·show (l9 (D9 s k) 64).size<=_
  omega
 ·show ((D9 s k).extract ((l9 (D9 s k) 64).size+1) (D9 s k).size).size<=_
  simp
theorem b1p {s:ByteArray} (h:rdB s k=true/\rdE s k=rdX s k):rdK s k=(I7 (rdX s k) && (a1I k (rdX s k)).toList==(s++(⟨#[10]⟩:ByteArray)).toList):=by
 rw [rdK,h.1,h.2,Bool.true_and]
def riE (s:ByteArray):Rec:=⟨l9 (u4 (l9 s 35) 32) 64,u4 (u4 (l9 s 35) 32) 64⟩
def riK (s:ByteArray) (k:Int):Bool:=I7 (riE s) && (a1I k (riE s)).toList==(s++(⟨#[10]⟩:ByteArray)).toList
theorem c0M (hk:0<=k) (h:I7 x=true):riE (a1H (P3 k x))=x:=by
 obtain ⟨_,_,_,_,h5⟩:=a2A h
 have hf:=a90 hk h
 have hb:P3 k x=s5 k++(⟨#[32]⟩:ByteArray)++(x.c++(⟨#[64]⟩:ByteArray)++x.r):=by rw [a5Y];rfl
 have h1:u4 (P3 k x) 32=x.c++(⟨#[64]⟩:ByteArray)++x.r:=by
  rw [hb]
  exact b1o (u:=32) (a9Y (b:=32) hk J)
 have h2:l9 (x.c++(⟨#[64]⟩:ByteArray)++x.r) 64=x.c:=a71 (u:=64) h5
 have h3:u4 (x.c++(⟨#[64]⟩:ByteArray)++x.r) 64=x.r:=b1o (u:=64) h5
 rw [riE,hf,h1,h2,h3]
theorem c2n {s:ByteArray} (hk:0<=k):riK s k=rdK s k/\(rdK s k=true→riE s=rdE s k):=by
 grind [a1I,a9Z,c0M,b71,riK,c4U,a5X]
theorem c0N {s:ByteArray} {c:UInt8}:(⟨(Lib.cut s.data.toList (⟨#[c]⟩:ByteArray).data.toList).1.toArray⟩:ByteArray)=l9 s c.toNat/\(⟨(Lib.cut s.data.toList (⟨#[c]⟩:ByteArray).data.toList).2.1.toArray⟩:ByteArray)=u4 s c.toNat/\(Lib.cut s.data.toList (⟨#[c]⟩:ByteArray).data.toList).2.2=m4 s c.toNat:=by
 have h1:(⟨#[c]⟩:ByteArray).data.toList=[c]:=rfl
 rw [h1,Lib.cut,Lib.index_one]
 have hst:=a3o (s:=s) (c:=c)
 have hge:=Lib.indexByte_ge s.data.toList c
 cases h:m4 s c.toNat
 ·rw [h] at hst
  have hn:¬ 0<=Lib.indexByte s.data.toList c:=by simpa using hst
  rw [if_neg hn]
  refine ⟨?_,?_,Z⟩
  ·simp_all [l9,a43]
  ·rw [u4,h];rfl
 ·rw [h] at hst
  have hn:0<=Lib.indexByte s.data.toList c:=by simpa using hst
  obtain ⟨o,ho⟩:∃o:Nat,Lib.indexByte s.data.toList c=o:=⟨(Lib.indexByte s.data.toList c).toNat,by omega⟩
  obtain ⟨g1,g2⟩:=Lib.indexByte_some ho
  have hlt:o < s.data.toList.length:=by
   grind
  have hi:J5 s c.toNat=o:=by
   refine a42 (λj hj=>?_) (by rw [← B1];exact hlt) ?_
   ·have g3:=g2 j hj
    have hjl:j < s.data.toList.length:=by omega
    rw [List.getElem?_eq_getElem hjl] at g3
    rw [U7,List.getD_eq_getElem?_getD,List.getElem?_eq_getElem hjl]
    simp only [Option.getD_some,beq_eq_false_iff_ne,ne_eq]
    intro e
    exact g3 (congrArg some (Lib.byte_eq_of_toNat e))
   ·rw [U7,List.getD_eq_getElem?_getD,g1];rfl
  rw [if_pos hn,ho]
  refine ⟨?_,?_,Z⟩
  ·apply a3r
   rw [l9,hi,X4]
   simp
  ·apply a3r
   rw [u4,h,if_pos Z,hi,X4,List.take_of_length_le (l:=s.data.toList.drop (o+1)) (i:=s.size - (o+1)) (by rw [List.length_drop,B1];exact Nat.le_refl _)]
   simp
def a0M (s:ByteArray):List Value:=[.string s]
def spO (s:ByteArray) (b:Int):Nat→List ByteArray×Nat
 | 0=>([],0)
 | i+1=>if s2 s i==b then ((spO s b i).1++[s.extract (spO s b i).2 i],i+1) else spO s b i
theorem b4M {s:ByteArray} {b:Int} {i:Nat}:(spO s b i).2<=i/\(spO s b i).1.length<=i:=by
 induction i with
 | zero=>exact ⟨Nat.le_refl _,Nat.le_refl _⟩
 | succ i ih =>
  unfold spO
  grind
theorem a0V {s:ByteArray} (h:s2 s i=b):spO s b (i+1)=((spO s b i).1++[s.extract (spO s b i).2 i],i+1):=by
 show (if s2 s i==b then _ else _)=_
 grind
theorem a3O {s:ByteArray} (h:¬ s2 s i=b):spO s b (i+1)=spO s b i:=by
 show (if s2 s i==b then _ else _)=_
 grind
theorem a9x {s:ByteArray} (h:∀j,j < i→(s2 s j==b)=false):spO s b i=([],0):=by
 induction i with
 | zero=>rfl
 | succ i ih=>rw [a3O (by simpa using h i (Nat.lt_succ_self i)),ih (λj hj=>h j J)]
def i6 (s:ByteArray) (b:Int):List ByteArray:=(spO s b s.size).1++[s.extract (spO s b s.size).2 s.size]
theorem F7 {s:ByteArray} {b:Int}:1<=(i6 s b).length/\(i6 s b).length<=s.size+1:=by
 grind [b4M,i6]
theorem b69 {s:ByteArray} (h:m4 s b=true) {i:Nat} (hi:J5 s b < i):∃t,(spO s b i).1=l9 s b :: t:=by
 obtain ⟨h1,h2,h3⟩:=C5 h
 induction i with
 | zero=>omega
 | succ i ih =>
  by_cases hb:s2 s i=b
  ·rw [a0V hb]
   by_cases he:i=J5 s b
   ·subst he
    rw [a9x h3]
    exact ⟨[],Z⟩
   grind
  ·grind [a3O]
theorem R3 {s:ByteArray} {b:Int}:(i6 s b).getD 0 default=l9 s b/\decide ((i6 s b).length < 2)=!m4 s b:=by
 cases h:m4 s b
 ·grind [a9x,m4,S5,i6,l9,a43]
 ·obtain ⟨t,ht⟩:=b69 h (C5 h).1
  rw [i6,ht]
  refine ⟨Z,?_⟩
  simp
def okL (s:ByteArray) (k:Int):Bool:=m4 s 10 && decide (k < 60) && rdK (l9 s 10) k
theorem a4g {s:ByteArray} {c:Int}:(u4 s c).size<=s.size:=by
 unfold u4
 split
 ·simp
 ·exact Nat.zero_le _
theorem a1c {s:ByteArray} {c:Int}:(l9 s c).size<=s.size:=by
 rw [P4];exact a6R
theorem b73 {s:ByteArray}:(riE s).c.size<=s.size/\(riE s).r.size<=s.size:=by
 grind [a1c,a4g,riE]
theorem c7k {s:ByteArray}:(riE s).c=l9 (u4 (l9 s 35) 32) 64:=by dsimp only [riE]
theorem c7l {s:ByteArray}:(riE s).r=u4 (u4 (l9 s 35) 32) 64:=by dsimp only [riE]
theorem b3G {s:ByteArray} (hk:0<=k):okL s k=(m4 s 10 && decide (k < 60) && riK (l9 s 10) k):=by
 rw [okL,(c2n hk).1]
def rrE (s:ByteArray) (k:Int):Rec:=if okL s k then rdE (l9 s 10) k else b5F
def rrN (s:ByteArray) (k:Int):Int:=if okL s k then (l9 s 10).size+1 else 0
theorem b5G {s:ByteArray} {k:Int} (h:okL s k=false):rrE s k=b5F/\rrN s k=0/\okL s k=false:=by
 rw [rrE,rrN,h];exact ⟨Z,Z,Z⟩
theorem c7m {s:ByteArray} {k:Int} (hk:0<=k) (h:okL s k=true):rrE s k=riE (l9 s 10)/\rrN s k=(l9 s 10).size+1/\okL s k=true:=by
 have h2:rdK (l9 s 10) k=true:=by
  simp only [okL,Bool.and_eq_true] at h
  exact h.2
 rw [rrE,rrN,h,(c2n hk).2 h2];exact ⟨Z,Z,Z⟩
def E2 (s:ByteArray):Nat→Nat
 | 0=>0
 | n+1=>E2 s n+(l9 (s.extract (E2 s n) s.size) 10).size+1
def H4 (s:ByteArray) (n:Nat):ByteArray:=s.extract (E2 s n) s.size
def S2 (s:ByteArray) (n:Nat):ByteArray:=l9 (H4 s n) 10
def okN (s:ByteArray) (n:Nat):Bool:=okL (H4 s n) n
def a6S (s:ByteArray) (n:Nat):Rec:=rdE (S2 s n) n
def W9 (s:ByteArray) (n:Nat):Int:=E2 s n
theorem a1d {s:ByteArray}:E2 s (n+1)=E2 s n+(S2 s n).size+1:=rfl
theorem b2o {s:ByteArray} (h:okN s n=true):n < 60:=by
 grind [okN,okL]
theorem a91 {s:ByteArray} {n:Nat}:(H4 s n).size=s.size - E2 s n:=by
 rw [H4,a2C (Nat.le_refl _)]
theorem a5Z {s:ByteArray} (h:okN s n=true):m4 (H4 s n) 10=true:=by
 simp only [okN,okL,Bool.and_eq_true] at h
 exact h.1.1
theorem a9y {s:ByteArray} (h:okN s n=true):E2 s n < s.size/\E2 s (n+1)<=s.size:=by
 have h1:=(C5 (a5Z h)).1
 have h2:=a91 (s:=s) (n:=n)
 rw [a1d,S2,P4]
 omega
theorem b2p {s:ByteArray} (h:∀j,j < n→okN s j=true):n<=E2 s n/\E2 s n<=s.size/\n<=60:=by
 induction n with
 | zero=>exact ⟨Nat.le_refl _,Nat.zero_le _,Nat.zero_le _⟩
 | succ n ih =>
  have h1:=ih (λj hj=>h j J)
  have h2:=a9y (h n (Nat.lt_succ_self n))
  have h3:=b2o (h n (Nat.lt_succ_self n))
  have h4:E2 s (n+1)=E2 s n+(S2 s n).size+1:=rfl
  omega
def z8 (s:ByteArray):Nat:=((List.range 60).find? (λn=>!okN s n)).getD 60
theorem a3s {s:ByteArray} (h:∀j,j < n→okN s j=true) (hn:okN s n=false):z8 s=n:=by
 have h60:n<=60:=(b2p h).2.2
 rcases Nat.lt_or_ge n 60 with h1 | h1
 ·have:(List.range 60).find? (λn=>!okN s n)=some n:=by
   simp_all
  rw [z8,this];rfl
 ·have he:n=60:=by omega
  subst he
  have:(List.range 60).find? (λn=>!okN s n)=none:=by
   grind
  rw [z8,this];rfl
theorem a6T {s:ByteArray}:(∀j,j < z8 s→okN s j=true)/\okN s (z8 s)=false:=by
 have key:∀n,(∀j,j < n→okN s j=true)∨∃m,m < n/\(∀j,j < m→okN s j=true)/\okN s m=false:=λn=>by
  induction n with
  | zero=>exact .inl (λj hj=>by omega)
  | succ n ih =>
   grind
 rcases key 61 with h | ⟨m,h1,h2,h3⟩
 ·exact absurd (b2o (h 60 J)) J
 ·rw [a3s h2 h3];exact ⟨h2,h3⟩
theorem b74 {s:ByteArray} (h:s.size<=E2 s n):okN s n=false:=by
 cases he:okN s n with
 | false=>rfl
 | true=>exact absurd (a9y he).1 J
theorem c4Z {s:ByteArray} (h:60<=n):okN s n=false:=by
 cases he:okN s n with
 | false=>rfl
 | true=>exact absurd (b2o he) J
theorem c40 {s:ByteArray} (h:(i6 (H4 s n) 10).length < 2):okN s n=false:=by
 grind [R3,okN,okL]
theorem c41 {s:ByteArray} (h:rdK (S2 s n) n=false):okN s n=false:=by
 rw [S2] at h
 rw [okN,okL,h,Bool.and_false]
theorem c7n {s:ByteArray} {n:Nat} (h:n < 60) (h2:¬ (i6 (H4 s n) 10).length < 2) (h3:rdK (S2 s n) n=true):okN s n=true:=by
 grind [R3,S2,okN,okL]
theorem a3t {s:ByteArray} {a b:Nat}:(s.extract a b).size<=s.size:=by
 (simp_all;omega)
theorem b3H {s:ByteArray}:s.extract (W9 s n).toNat ((s.size:Int)).toNat=H4 s n:=by
 simp [H4,W9]
theorem b1q {s:ByteArray} {n:Nat}:W9 s n+((S2 s n).size:Int)+1=W9 s (n+1):=by
 simp [W9,a1d]
theorem a1l {s:ByteArray} {n:Nat}:W9 s n+(((S2 s n).size:Int)+1)=W9 s (n+1):=by
 simp [W9,a1d]
 omega
theorem c42 {s:ByteArray} (h:okN s n=true):rrE (H4 s n) n=a6S s n/\rrN (H4 s n) n=(S2 s n).size+1:=by
 rw [okN] at h
 rw [rrE,rrN,h]
 exact ⟨Z,Z⟩
theorem c0O {s:ByteArray} {k:Int} (h0:0<=k) (h1:k<=60) (h:rdK s k=true):s.size<=422:=by
 obtain ⟨h2,h3⟩:=b71 h
 have hb:=a41 h0 J h2
 have hs:=a2B (s:=P3 k (rdE s k))
 have he:=congrArg ByteArray.size h3
 rw [a1I,ByteArray.size_append,ByteArray.size_append] at he
 omega
theorem a6U {p:Nat} (h:p<=D.size):(D++P).extract p (D++P).size=D.extract p D.size++P:=by
 grind [a3r,X4,a0u,B1]
theorem b2q (h:i<=a.size):(a++z).extract 0 i=a.extract 0 i:=by
 grind [a3r,X4,a0u,B1]
theorem b7a {a z:ByteArray} {b:Int} (h:m4 a b=true):J5 (a++z) b=J5 a b/\m4 (a++z) b=true/\l9 (a++z) b=l9 a b:=by
 obtain ⟨h1,h2,h3⟩:=C5 h
 have hs:J5 a b < (a++z).size:=by rw [ByteArray.size_append];omega
 have hb:s2 (a++z) (J5 a b)=b:=by rw [a1J h1];exact h2
 have hi:J5 (a++z) b=J5 a b:=a42 (λj hj=>by rw [a1J J];exact h3 j hj) hs hb
 refine ⟨hi,S5 (i:=J5 a b) (by simpa using hb) hs,?_⟩
 rw [l9,l9,hi,b2q (Nat.le_of_lt h1)]
theorem b4N (h:m4 (a++z) b=true) (hi:J5 (a++z) b < a.size):m4 a b=true:=by
 have h2:=(C5 h).2.1
 rw [a1J hi] at h2
 exact S5 (i:=J5 (a++z) b) (by simpa using h2) hi
theorem b5H (hp:E2 (D++P) n=E2 D n) (hs:m4 (H4 D n) 10=true) (hl:E2 D n<=D.size):okN (D++P) n=okN D n/\S2 (D++P) n=S2 D n:=by
 have hr:H4 (D++P) n=H4 D n++P:=by rw [H4,hp,a6U hl];rfl
 obtain ⟨h1,h2,h3⟩:=b7a (z:=P) hs
 refine ⟨?_,?_⟩
 ·rw [okN,okN,okL,okL,hr,h2,h3,hs]
 ·rw [S2,S2,hr,h3]
theorem c43 {D P:ByteArray} {n:Nat} (h:∀j,j < n→okN D j=true):(∀j,j < n→okN (D++P) j=true)/\E2 (D++P) n=E2 D n:=by
 induction n with
 | zero=>exact ⟨λj hj=>by omega,Z⟩
 | succ n ih =>
  obtain ⟨h1,h2⟩:=ih (λj hj=>h j J)
  have h3:=h n (Nat.lt_succ_self n)
  obtain ⟨h4,h5⟩:=b5H h2 (a5Z h3) (Nat.le_of_lt (a9y h3).1)
  refine ⟨s4 h1 (by rw [h4];exact h3),?_⟩
  rw [a1d,a1d,h2,h5]
theorem b75 {D P:ByteArray} {n:Nat} (h:∀j,j < n→okN (D++P) j=true) (hp:E2 (D++P) n<=D.size):(∀j,j < n→okN D j=true)/\E2 (D++P) n=E2 D n:=by
 induction n with
 | zero=>exact ⟨λj hj=>by omega,Z⟩
 | succ n ih =>
  have e:E2 (D++P) (n+1)=E2 (D++P) n+(S2 (D++P) n).size+1:=rfl
  obtain ⟨h1,h2⟩:=ih (λj hj=>h j J) J
  have h3:=h n (Nat.lt_succ_self n)
  have hr:H4 (D++P) n=H4 D n++P:=by rw [H4,a6U J,h2];rfl
  have h4:=a5Z h3
  have h5:(S2 (D++P) n).size=J5 (H4 (D++P) n) 10:=P4
  have h6:=a91 (s:=D) (n:=n)
  rw [hr] at h4 h5
  have h7:=b4N h4 J
  obtain ⟨h8,h9⟩:=b5H h2 h7 J
  refine ⟨s4 h1 (by rw [← h8];exact h3),?_⟩
  rw [e,a1d,h2,h9]
theorem b76 {s:ByteArray} (h:∀j,j < n→okN s j=true):E2 s n<=423 * n:=by
 induction n with
 | zero=>exact Nat.le_refl _
 | succ n ih =>
  have h1:=ih (λj hj=>h j J)
  have h2:=h n (Nat.lt_succ_self n)
  have h3:=b2o h2
  simp only [okN,okL,Bool.and_eq_true] at h2
  have h4:=c0O (k:=(n:Int)) J J h2.2
  have e:E2 s (n+1)=E2 s n+(S2 s n).size+1:=rfl
  have e2:S2 s n=l9 (H4 s n) 10:=rfl
  rw [e2] at e
  omega
structure Lg where
 d:ByteArray
 p:ByteArray
 n:Int
instance:Inhabited Lg:=⟨⟨⟨#[]⟩,⟨#[]⟩,0⟩⟩
def c7o (x:Lg):List Value:=[.string x.d,.string x.p,.int .i64 x.n]
def b0V (x:Lg):Value:=.agg ⟨c7o x⟩
def okLg (x:Lg):Bool:=decide (x.d.size+x.p.size<=30000) && decide (E2 (x.d++x.p) (z8 (x.d++x.p))=x.d.size+x.p.size) && decide (E2 x.d (z8 x.d)=x.d.size) && decide ((z8 (x.d++x.p):Int)=x.n)
def a92 (s:ByteArray):Bool:=decide (1 < s.size) && s2 s 0==45
def p4 (s:ByteArray):ByteArray:=if a92 s then s.extract 1 s.size else s
def a1m (t:ByteArray) (j:Nat):Bool:=decide (48<=s2 t j) && decide (s2 t j<=57)
def dV (t:ByteArray):Nat→Int
 | 0=>0
 | i+1=>10 * dV t i+(s2 t i - 48)
theorem c2o {t:ByteArray} {i:Nat} (h:∀j,j < i→a1m t j=true):0<=dV t i/\(i<=6→dV t i<=999999)/\dV t i<=10 ^ i - 1:=by
 have key:0<=dV t i/\dV t i<=10 ^ i - 1:=by
  induction i with
  | zero=>exact ⟨Int.le_refl _,Int.le_refl _⟩
  | succ i ih =>
   have h1:=ih (λj hj=>h j J)
   have h2:=h i (Nat.lt_succ_self i)
   simp only [a1m,Bool.and_eq_true,decide_eq_true_eq] at h2
   have e:dV t (i+1)=10 * dV t i+(s2 t i - 48):=rfl
   omega
 refine ⟨key.1,λhi=>?_,key.2⟩
 have h3:i=0∨i=1∨i=2∨i=3∨i=4∨i=5∨i=6:=by omega
 grind
def nV (s:ByteArray):Int:=if a92 s then -(dV (p4 s) (p4 s).size) else dV (p4 s) (p4 s).size
def nmA (s:ByteArray):Bool:=n7 (p4 s).size 1 6 && a18 (p4 s).size (a1m (p4 s))
def nmK (s:ByteArray):Bool:=nmA s && (s5 (nV s)).toList==s.toList
def nmN (s:ByteArray):Int:=if nmK s then nV s else 0
theorem b4O {s:ByteArray} (h:nmK s=false):nmN s=0/\nmK s=false:=by rw [nmN,h];exact ⟨Z,Z⟩
theorem c7p {s:ByteArray} (h:nmK s=true):nmN s=nV s/\nmK s=true:=by rw [nmN,h];exact ⟨Z,Z⟩
theorem c2p {s:ByteArray} (h:n7 (p4 s).size 1 6=false):nmK s=false:=by rw [nmK,nmA,h];rfl
theorem c7q {s:ByteArray} (hi:i < (p4 s).size) (h:a1m (p4 s) i=false):nmK s=false:=by
 rw [nmK,nmA,a1i (i:=i) h hi,Bool.and_false];rfl
theorem a2D {b:ByteArray} {j:Nat}:s2 (a++b) j=if j < a.size then s2 a j else s2 b (j - a.size):=by
 have hs:a.data.toList.length=a.size:=rfl
 simp only [s2,ByteArray.data_append,Array.toList_append,List.getD_eq_getElem?_getD,List.getElem?_append,hs]
 split<;>rfl
theorem b77 {b:ByteArray}:∀i,i<=a.size→dV (a++b) i=dV a i
 | 0,_=>rfl
 | i+1,h=>by
  simp only [dV]
  rw [b77 i J,a2D,if_pos J]
theorem b1r (h:d < 10):s2 ⟨#[UInt8.ofNat (48+d)]⟩ 0=48+d:=by
 rcases d with _ | _ | _ | _ | _ | _ | _ | _ | _ | _ | d<;>first | rfl | omega
theorem a2E:(⟨#[u]⟩:ByteArray).size=1:=rfl
theorem a50:∀n:Nat,1<=(s5 n).size/\(∀j,j < (s5 n).size→a1m (s5 n) j=true)/\dV (s5 n) (s5 n).size=n/\∀k,n < 10 ^ (k+1)→(s5 n).size<=k+1:=by
 intro n
 induction n using Nat.strongRecOn with
 | _ n ih =>
  rcases Nat.lt_or_ge n 10 with h | h
  ·rw [a3n h]
   have hb:=b1r h
   refine ⟨Nat.le_refl _,λj hj=>?_,?_,λk _=>by rw [a2E];omega⟩
   ·rw [a2E] at hj
    obtain rfl:j=0:=by omega
    simp only [a1m,hb,Bool.and_eq_true,decide_eq_true_eq]
    omega
   ·rw [a2E]
    simp only [dV,hb]
    omega
  ·obtain ⟨h1,h2,h3,h4⟩:=ih (n / 10) J
   rw [a40 h]
   have hd:n % 10 < 10:=Nat.mod_lt _ (by decide)
   have hb:=b1r hd
   have hsz:(s5 ((n / 10:Nat):Int)++(⟨#[UInt8.ofNat (48+n % 10)]⟩:ByteArray)).size=(s5 ((n / 10:Nat):Int)).size+1:=by rw [ByteArray.size_append,a2E]
   rw [hsz]
   refine ⟨by omega,λj hj=>?_,?_,λk hk=>?_⟩
   ·rcases Nat.lt_or_ge j (s5 ((n / 10:Nat):Int)).size with h5 | h5
    ·grind [a1m,a2D]
    ·have e:j - (s5 ((n / 10:Nat):Int)).size=0:=by omega
     simp only [a1m,a2D,if_neg (show ¬ j < (s5 ((n / 10:Nat):Int)).size by omega),e,hb,Bool.and_eq_true,decide_eq_true_eq]
     omega
   ·grind [dV,b77,a2D]
   ·cases k with
    | zero=>simp at hk;omega
    | succ k =>
     have:=h4 k (by rw [Nat.pow_succ] at hk;omega)
     omega
theorem c0P {n:Int} (h0:-999999<=n) (h1:n<=999999):a92 (s5 n)=decide (n < 0)/\p4 (s5 n)=s5 (n.natAbs:Int):=by
 rcases Int.lt_or_le n 0 with h | h
 ·obtain ⟨k,rfl⟩:∃k:Nat,n=-(k:Int):=⟨n.natAbs,by omega⟩
  obtain ⟨g1,g2,g3,g4⟩:=a50 k
  have e:s5 (-(k:Int))=(⟨#[45]⟩:ByteArray)++s5 (k:Int):=by rw [a6O h,Int.neg_neg]
  have hn:a92 (s5 (-(k:Int)))=true:=by
   rw [e]
   simp only [a92,a2D,ByteArray.size_append,a2E,Bool.and_eq_true,decide_eq_true_eq,beq_iff_eq]
   exact ⟨by omega,Z⟩
  refine ⟨by rw [hn,decide_eq_true h],?_⟩
  rw [p4,if_pos hn,e]
  have e2:=a73 (a:=(⟨#[45]⟩:ByteArray)) (b:=s5 (k:Int))
  rw [a2E] at e2
  rw [e2]
  congr 1
  omega
 ·obtain ⟨k,rfl⟩:∃k:Nat,n=(k:Int):=⟨n.natAbs,by omega⟩
  obtain ⟨g1,g2,g3,g4⟩:=a50 k
  have hn:a92 (s5 (k:Int))=false:=by
   grind [a1m,a92]
  refine ⟨by rw [hn,decide_eq_false J],?_⟩
  rw [p4,hn]
  rfl
theorem c44 {n:Int} (h0:-999999<=n) (h1:n<=999999):nmK (s5 n)=true/\nmN (s5 n)=n:=by
 obtain ⟨e1,e2⟩:=c0P h0 h1
 obtain ⟨g1,g2,g3,g4⟩:=a50 n.natAbs
 have hs:(s5 (n.natAbs:Int)).size<=6:=g4 5 (by have:(10:Nat) ^ (5+1)=1000000:=Z;omega)
 have hv:nV (s5 n)=n:=by
  rw [nV,e1,e2,g3]
  grind
 have hk:nmK (s5 n)=true:=by
  grind [nmK,nmA,n7,F6]
 exact ⟨hk,by rw [nmN,if_pos hk,hv]⟩
theorem b78 {s:ByteArray} (h:nmK s=true):s5 (nmN s)=s/\-999999<=nmN s/\nmN s<=999999:=by
 have h0:=h
 rw [nmK,Bool.and_eq_true] at h0
 have h1:=h0.1
 rw [nmA,Bool.and_eq_true] at h1
 have h2:=h1.1
 simp only [n7,Bool.and_eq_true,decide_eq_true_eq] at h2
 have h3:=c2o (t:=p4 s) (i:=(p4 s).size) (λj hj=>F6.mp h1.2 j hj)
 have h4:=h3.2.1 J
 rw [(c7p h).1]
 refine ⟨a4b (by simpa using h0.2),?_,?_⟩<;>(unfold nV;split<;>omega)
theorem a6V {b:UInt8}:∀{l:List UInt8} {acc:Nat},Lib.decFrom acc (l++[b])=(Lib.decFrom acc l).bind (λm=>(Lib.digitVal b).map (λd=>m * 10+d))
 | [],acc=>by
  simp only [List.nil_append,Lib.decFrom]
  grind
 | x :: r,acc=>by
  simp only [List.cons_append,Lib.decFrom]
  cases Lib.digitVal x with
  | none=>rfl
  | some d=>exact a6V
theorem a8M (h:d < 10):Lib.digitVal (UInt8.ofNat (48+d))=some d:=by
 rcases d with _ | _ | _ | _ | _ | _ | _ | _ | _ | _ | d<;>first | rfl | omega
theorem a93:∀n:Nat,Lib.decFrom 0 (Lib.decDigits n)=some n/\Lib.decDigits n≠[]/\∃d,d < 10/\(Lib.decDigits n)[0]?=some (UInt8.ofNat (48+d)):=by
 intro n
 induction n using Nat.strongRecOn with
 | _ n ih =>
  rw [Lib.decDigits]
  split
  ·rename_i h
   exact ⟨by simp only [Lib.decFrom];rw [a8M h];simp,by simp,n,h,Z⟩
  ·rename_i h
   obtain ⟨h1,h2,d,h3,h4⟩:=ih (n / 10) J
   refine ⟨?_,by simp,d,h3,?_⟩
   ·grind [a6V,a8M]
   grind
theorem b79 {n:Int}:Lib.atoi (s5 n).data.toList=some n:=by
 have e:(s5 n).data.toList=Lib.itoa n:=by simp [s5]
 rw [e,Lib.itoa]
 split
 ·rename_i h
  obtain ⟨h1,h2,_⟩:=a93 n.natAbs
  simp only [Lib.atoi,beq_self_eq_true,if_true,Lib.decNat]
  grind
 ·rename_i h
  obtain ⟨h1,h2,d,h3,h4⟩:=a93 n.toNat
  cases hq:Lib.decDigits n.toNat with
  | nil=>exact absurd hq h2
  | cons x r =>
   rw [hq] at h1 h4
   have hx:x=UInt8.ofNat (48+d):=by simpa using h4
   have hx1:(x==45)=false:=by
    subst hx
    rcases d with _ | _ | _ | _ | _ | _ | _ | _ | _ | _ | d<;>first | rfl | omega
   have hx2:(x==43)=false:=by
    subst hx
    rcases d with _ | _ | _ | _ | _ | _ | _ | _ | _ | _ | d<;>first | rfl | omega
   simp only [Lib.atoi,hx1,hx2,Bool.false_eq_true,if_false,Lib.decNat,List.isEmpty_cons,h1,Option.map_some]
   congr 1
   omega
def a94 (s:ByteArray):Bool:=match Lib.atoi s.data.toList with | none=>false | some n=>n7 n (-999999) 999999 && (s5 n).toList==s.toList
theorem b2r {s:ByteArray} (h:s.size<=7):a94 s=nmK s/\(a94 s=true→(Lib.atoi s.data.toList).getD 0=nmN s):=by
 grind [b78,b79,a94,n7,a4b,c44]
theorem b5I {s:ByteArray} (h:7 < s.size):nmK s=false/\nmN s=0:=by
 have hb:7<=(p4 s).size:=by
  unfold p4
  split
  ·rw [ByteArray.size_extract];omega
  ·omega
 have hk:nmK s=false:=c2p (by simp only [n7,Bool.and_eq_false_iff,decide_eq_false_iff_not];omega)
 exact ⟨hk,(b4O hk).1⟩
def nnB:Value→Bool
 | .nilIface=>false
 | _=>true
def c2q (e:Value):Prop:=e=.nilIface∨∃t p,e=.iface t (.pointer p)
theorem b5J {ids:List Nat}:∀{xs:List Value},renAs ids (xs.map AV.v)=xs.map AV.v
 | []=>rfl
 | x :: r=>by simp [renAs,a4c,b5J (xs:=r)]
section
variable {P:Program} [Env P] {w0:Base} {ops:Array Oper} {o:Oper} {T:List (Nat×AV)} {m:List (Nat×Option Row)} {nx nt d:Nat}
theorem c9v {x:Operand} {t t':TypeId} {e:Value} (hu:P.underlying t=some (.interface (P.methodsAt t))) (ho:o.op=.binOp .neq t x (.const .nilIface) t') (hx:ev T x=some (.v e)) (he:c2q e):QStep P o T m nx nt (.v (.bool (nnB e))) :=
 QStep.val λw0 ρ ac hT w'=>by
  have h1:=hT.ev hx
  simp only [RelV] at h1
  have h2:ac.eval (.const .nilIface)=.nilIface:=rfl
  rcases he with rfl | ⟨te,pe,rfl⟩
  ·simp [execOp,ho,h1,h2,eqGuard,run_neq_nil_nil w' t hu,nnB]
  ·simp [execOp,ho,h1,h2,eqGuard,run_neq_held_nil w' t te _ hu,nnB]
theorem CtrX.lib {α:Type} {R:α→Prop} {f:FuncId} {xs:List Value} {A B:α→Value} (hc:Callable P f)
 (h:∀w,Env.E P w→Calls P f xs.toArray w λe w'=>∃x,R x/\e=.returned (.tuple #[A x,B x])/\Below w.heap.size w w'):CtrX P f (xs.map .v) [] R (λx=>.many [.v (A x),.v (B x)]) (λ_=>[]):=by
 refine ⟨hc,λw0 hw ρ m nx ids w vs hin _ hC hv=>?_⟩
 have hid:ids=[]:=List.eq_nil_of_length_eq_zero (by simpa using hin.len)
 subst hid
 rw [b5J] at hv
 rw [RelVs.map_v_eq (w0:=w0.w) xs hv]
 refine (h w (hC.env P)).mono λe w' ⟨x,hx,he,hb⟩=>?_
 refine ⟨x,hx,_,ρ,he,λ_ _=>Z,Nat.le_refl _,?_,hC.trans hb⟩
 show RelV w0.w ρ nx (.tup [.v (A x),.v (B x)]) _
 simp [RelV,RelVs]
end
theorem c0Q {s:ByteArray} (h:s.size<=7):-1000000000000000000 < (Lib.atoi s.data.toList).getD 0/\(Lib.atoi s.data.toList).getD 0 < 1000000000000000000:=by
 cases ha:Lib.atoi s.data.toList with
 | none=>simp
 | some n=>exact Lib.atoi_bound ha (by show s.size<=18;omega)
theorem a2F {s:ByteArray} (h:7 < s.size):nmN s=0/\nmK s=false:=⟨(b5I h).2,(b5I h).1⟩
theorem a44 {s:ByteArray} (h:s.size<=7) (ha:(Lib.atoi s.data.toList).isNone=true):nmN s=0/\nmK s=false:=by
 have h1:a94 s=false:=by unfold a94;rw [Option.isNone_iff_eq_none.mp ha]
 have:=(b2r h).1
 rw [h1] at this
 exact ⟨(b4O this.symm).1,this.symm⟩
theorem a74 {s:ByteArray} (h:s.size<=7) (hi:n7 ((Lib.atoi s.data.toList).getD 0) (-999999) 999999=false):nmN s=0/\nmK s=false:=by
 have h1:a94 s=false:=by
  grind [a94]
 have:=(b2r h).1
 rw [h1] at this
 exact ⟨(b4O this.symm).1,this.symm⟩
theorem b1s {s:ByteArray} (h:s.size<=7) (ha:(Lib.atoi s.data.toList).isNone=false) (hi:¬ (s5 ((Lib.atoi s.data.toList).getD 0)).toList=s.toList):nmN s=0/\nmK s=false:=by
 have h1:a94 s=false:=by
  grind [a94]
 have:=(b2r h).1
 rw [h1] at this
 exact ⟨(b4O this.symm).1,this.symm⟩
theorem a77 {s:ByteArray} (h:s.size<=7) (ha:(Lib.atoi s.data.toList).isNone=false) (hi:n7 ((Lib.atoi s.data.toList).getD 0) (-999999) 999999=true) (he:(s5 ((Lib.atoi s.data.toList).getD 0)).toList=s.toList):nmN s=(Lib.atoi s.data.toList).getD 0/\nmK s=true:=by
 have h1:a94 s=true:=by
  grind [a94]
 obtain ⟨h2,h3⟩:=b2r h
 grind
theorem b8a {s:ByteArray}:(p4 s).size < s.size↔a92 s=true:=by
 unfold p4
 split
 ·rename_i h
  have h2:=h
  simp only [a92,Bool.and_eq_true,decide_eq_true_eq] at h2
  (simp_all;omega)
 grind
theorem c45 {s:ByteArray}:(p4 s).size<=s.size:=by
 unfold p4
 split
 ·rw [ByteArray.size_extract];omega
 ·exact Nat.le_refl _
theorem c7r {s:ByteArray} (h1:1 < s.size) (h2:s2 s 0=45):s.extract 1 s.size=p4 s:=by
 rw [p4,if_pos (by simp [a92,h1,h2])]
theorem c2r {s:ByteArray} (h:¬ (1 < s.size/\s2 s 0=45)):s=p4 s:=by
 grind [p4,a92]
theorem a2G {s:ByteArray} (h:(p4 s).size < s.size):nV s=-(dV (p4 s) (p4 s).size):=by rw [nV,if_pos (b8a.mp h)]
theorem a2H {s:ByteArray} (h:¬ (p4 s).size < s.size):nV s=dV (p4 s) (p4 s).size:=by rw [nV,if_neg (λg=>h (b8a.mpr g))]
theorem b0W {s:ByteArray} (h:n7 (p4 s).size 1 6=false):nmN s=0/\nmK s=false:=b4O (c2p h)
theorem b0X {s:ByteArray} {i:Nat} (hi:i < (p4 s).size) (h:a1m (p4 s) i=false):nmN s=0/\nmK s=false:=b4O (c7q hi h)
theorem a2I {s:ByteArray} {n:Int} (e:nV s=n) (h:¬ (s5 n).toList=s.toList):nmN s=0/\nmK s=false:=b4O (by rw [nmK,e];simp [h])
theorem a2J {s:ByteArray} {n:Int} {i:Nat} (h1:n7 (p4 s).size 1 6=true) (hi:(p4 s).size<=i) (h2:∀j,j < i→a1m (p4 s) j=true) (e:nV s=n) (h:(s5 n).toList=s.toList):nmN s=n/\nmK s=true:=by
 grind [nmK,nmA,F6,c7p]
theorem b5K {t:ByteArray} {i:Nat} (h1:48<=s2 t i) (h2:s2 t i<=57) (h3:0<=dV t i) (h4:dV t i<=999999):IntKind.i64.wrap (10 * dV t i+IntKind.i64.wrap (IntKind.u8.wrap (s2 t i - 48)))=dV t (i+1):=by
 have e1:IntKind.u8.wrap (s2 t i - 48)=s2 t i - 48:=by
  show Int.emod _ 256=_
  exact Int.emod_eq_of_lt J J
 have e2:IntKind.i64.wrap (s2 t i - 48)=s2 t i - 48:=O2 J J
 rw [e1,e2,O2 J J]
 rfl
end Go.Rf
