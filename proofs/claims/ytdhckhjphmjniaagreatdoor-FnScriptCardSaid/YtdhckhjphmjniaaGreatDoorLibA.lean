/- Texts merged into one: RfA, RfB, RfC, RfD, RfE, RfF. -/
import Derived.WalkKit
import Derived.Deep.QuietTactic
import Derived.BigQuiet
import Derived.Maps.AppendAt
import Derived.Laws.CopyOwn
import Derived.Lib.Hide
import Derived.WalkLawsBesides
set_option linter.unusedSectionVars false
set_option linter.unusedSimpArgs false
set_option linter.unusedVariables false
namespace Go.Rf
open Go Go.RowKit
variable {B B' a0 by_ e e' ft gd id j k n nt nx':Nat} {P:Program} {a:Act} {b f want:Bool} {c c' us vs xs zs:List Value} {fs:List (Nat×Nat)} {l:List Oper} {op:List (Nat×Nat×Nat)} {u v z:Value} {w w' w0:World} {x y:Operand} {ys:List (List Value)} {ρ ρ':Nat→Value}
theorem Z.{u} {α:Sort u} {a:α}:a=a:=rfl
theorem J {p:Prop} (h:p:=by omega):p:=h
inductive CI where
 | v (x:Value)
 | l (e sz:Nat) (ys:List (List Value)) (f:Bool:=false)
 | x
variable {yss:List (List CI)}
inductive AV where
 | v (x:Value)
 | lst (sz:Nat) (ys:List (List Value))
 | own (id:Nat)
 | sub (id sz i n:Nat)
 | ptr (id off:Nat)
 | rpt (id sz i k:Nat)
 | ept (cs:List Value)
 | agg (cs:List AV)
 | tup (vs:List AV)
 | fnc (f:FuncId) (caps:List AV)
 | pin (y:Value) (sz:Nat) (ys:List (List Value))
 | nst (z:Option Value) (sz:Nat) (yss:List (List CI))
 | eptN (cs:List AV)
 | any
variable {T:List (Nat×AV)} {args as cs rs:List AV} {ax ay:AV}
inductive Row where
 | box (cs:List AV)
 | row (e sz:Nat) (ys:List (List Value)) (f:Bool:=false)
 | byt (bs:List Int)
 | spare (e sz:Nat) (ys gs:List (List Value))
 | nest (e sz:Nat) (yss:List (List CI)) (op:List (Nat×Nat×Nat))
variable {m:List (Nat×Option Row)}
structure St where
 T:List (Nat×AV)
 m:List (Nat×Option Row)
 nx:Nat
 nt:Nat
variable {S:St}
def look {α:Type} (k:Nat):List (Nat×α)→Option α
 | []=>none
 | (i,x) :: r=>bif Nat.beq i k then some x else look k r
def mem (m:List (Nat×Option Row)) (id:Nat):Option Row :=
 match look id m with
 | some (some r)=>some r
 | _=>none
def blk:Value→Option Nat
 | .pointer (some a)=>some a.block
 | .slice (some a) _ _=>some a.block
 | _=>none
def ReadsAt (w0:World) (sz:Nat) (ys:List (List Value)) (y:Value):Prop :=
 ∃A cap,y=.slice A ys.length cap/\ys.length<=cap/\(∀c∈ys,c.length=sz/\∀u∈c,u.oneCell'=true) /\
  (0 < ys.length→∃ad,A=some ad/\ad.block < w0.heap.size/\∀i c,ys[i]?=some c→∀j u,c[j]?=some u→w0.cell? (ad.add (i * sz+j))=some u)
def PointsAt (w0:World) (cs:List Value) (y:Value):Prop :=
 ∃ad,y=.pointer (some ad)/\ad.block < w0.heap.size/\(∀u∈cs,u.oneCell'=true)/\∀j u,cs[j]?=some u→w0.cell? (ad.add j)=some u
def C0 {α:Type} (l:List (List α)) (i k:Nat):Option α:=l[i]?.bind (·[k]?)
def CIReads (w:World):CI→Value→Prop
 | .v x,u=>u=x
 | .l _ sz ys _,u=>ReadsAt w sz ys u
 | .x,_=>True
def NReadsAt (w0:World) (sz:Nat) (yss:List (List CI)) (y:Value):Prop :=
 ∃A cap,y=.slice A yss.length cap/\yss.length<=cap/\(∀cs∈yss,cs.length=sz) /\
  (0 < yss.length→∃ad,A=some ad/\ad.block < w0.heap.size/\∀i k c,C0 yss i k=some c→∃u,w0.cell? (ad.add (i * sz+k))=some u/\u.oneCell'=true/\CIReads w0 c u)
mutual
def RelV (w0:World) (ρ:Nat→Value) (nx:Nat):AV→Value→Prop
 | .v x,y=>y=x
 | .lst sz ys,y=>ReadsAt w0 sz ys y
 | .pin z sz ys,y=>y=z/\ReadsAt w0 sz ys y
 | .own id,y=>id < nx/\y=ρ id
 | .sub id sz i n,y=>id < nx/\∃A cap,y=.slice A n cap/\n<=cap/\(0 < n→∃g l c,ρ id=.slice (some ⟨g,0,none⟩) l c/\A=some ⟨g,i * sz,none⟩)/\(i=0→∃l,ρ id=.slice A l cap/\n<=l)
 | .ptr id off,y=>id < nx/\∃g,ρ id=.pointer (some ⟨g,0,none⟩)/\y=.pointer (some ⟨g,off,none⟩)
 | .rpt id sz i k,y=>id < nx/\∃g o l c,ρ id=.slice (some ⟨g,o,none⟩) l c/\y=.pointer (some ⟨g,o+(i * sz+k),none⟩)
 | .ept cs,y=>PointsAt w0 cs y
 | .agg cs,y=>∃ys:List Value,y=.agg ys.toArray/\RelVs w0 ρ nx cs ys
 | .tup cs,y=>∃ys:List Value,y=.tuple ys.toArray/\RelVs w0 ρ nx cs ys
 | .fnc f caps,y=>∃ys:List Value,y=.func (.func f) #[] ys.toArray/\RelVs w0 ρ nx caps ys
 | .nst z sz yss,y=>(∀v,z=some v→y=v)/\NReadsAt w0 sz yss y
 | .eptN cs,y=>∃(ad:Addr) (us:List Value),y=.pointer (some ad)/\ad.block < w0.heap.size/\RelVs w0 ρ nx cs us/\∀j u,us[j]?=some u→w0.cell? (ad.add j)=some u/\u.oneCell'=true
 | .any,_=>True
def RelVs (w0:World) (ρ:Nat→Value) (nx:Nat):List AV→List Value→Prop
 | [],ys=>ys=[]
 | c :: cs,ys=>∃y ys',ys=y :: ys'/\RelV w0 ρ nx c y/\RelVs w0 ρ nx cs ys'
end
section
variable {w0:World} {ρ ρ':Nat→Value} {nx nx':Nat}
mutual
theorem RelV.mono (hn:nx<=nx') (hr:∀i,i < nx→ρ' i=ρ i):∀(x:AV) {y:Value},RelV w0 ρ nx x y→RelV w0 ρ' nx' x y
 | .v _,_,h=>h
 | .lst _ _,_,h=>h
 | .pin _ _ _,_,h=>h
 | .ept _,_,h=>h
 | .own id,_,h=>by
  grind [RelV]
 | .sub id _ _ _,_,h=>by
  grind [RelV]
 | .ptr id _,_,h=>by
  grind [RelV]
 | .rpt id _ _ _,_,h=>by
  grind [RelV]
 | .agg cs,_,h=>by
  simp only [RelV] at h ⊢
  obtain ⟨ys,e,h⟩:=h
  exact ⟨ys,e,RelVs.mono hn hr cs h⟩
 | .tup cs,_,h=>by
  simp only [RelV] at h ⊢
  obtain ⟨ys,e,h⟩:=h
  exact ⟨ys,e,RelVs.mono hn hr cs h⟩
 | .fnc f cs,_,h=>by
  simp only [RelV] at h ⊢
  obtain ⟨ys,e,h⟩:=h
  exact ⟨ys,e,RelVs.mono hn hr cs h⟩
 | .nst _ _ _,_,h=>h
 | .any,_,h=>h
 | .eptN cs,_,h=>by
  simp only [RelV] at h ⊢
  obtain ⟨ad,us,e,hb,h,h2⟩:=h
  exact ⟨ad,us,e,hb,RelVs.mono hn hr cs h,h2⟩
theorem RelVs.mono (hn:nx<=nx') (hr:∀i,i < nx→ρ' i=ρ i):∀(x:List AV) {y:List Value},RelVs w0 ρ nx x y→RelVs w0 ρ' nx' x y
 | [],_,h=>h
 | c :: cs,_,h=>by
  simp only [RelVs] at h ⊢
  obtain ⟨y,ys,e,h1,h2⟩:=h
  exact ⟨y,ys,e,RelV.mono hn hr c h1,RelVs.mono hn hr cs h2⟩
end
theorem RelVs.length:∀(x:List AV) {y:List Value},RelVs w0 ρ nx x y→y.length=x.length
 | [],_,h=>by simp only [RelVs] at h;subst h;rfl
 | c :: cs,_,h=>by
  simp only [RelVs] at h
  obtain ⟨y,ys,rfl,h1,h2⟩:=h
  simp [RelVs.length cs h2]
theorem RelVs.get:∀(x:List AV) {y:List Value},RelVs w0 ρ nx x y→∀(i:Nat) (a:AV),x[i]?=some a→∃u,y[i]?=some u/\RelV w0 ρ nx a u
 | [],_,_,_,_,h=>by simp at h
 | c :: cs,_,h,i,a,hi=>by
  simp only [RelVs] at h
  obtain ⟨y,ys,rfl,h1,h2⟩:=h
  match i with
  | 0=>simp at hi;subst hi;exact ⟨y,by simp,h1⟩
  | i+1 =>
   simp at hi
   obtain ⟨u,hu,hr⟩:=RelVs.get cs h2 i a hi
   grind
theorem RelVs.set:∀(x:List AV) {y:List Value},RelVs w0 ρ nx x y→∀(i:Nat) (a:AV) (u:Value),RelV w0 ρ nx a u→RelVs w0 ρ nx (x.set i a) (y.set i u)
 | [],_,h,_,_,_,_=>by simp only [RelVs] at h;subst h;simp [RelVs]
 | c :: cs,_,h,i,a,u,hu=>by
  simp only [RelVs] at h
  obtain ⟨y,ys,rfl,h1,h2⟩:=h
  match i with
  | 0=>simp only [List.set_cons_zero,RelVs];exact ⟨_,_,Z,hu,h2⟩
  | i+1=>simp only [List.set_cons_succ,RelVs];exact ⟨_,_,Z,h1,RelVs.set cs h2 i a u hu⟩
theorem RelVs.drop:∀(k:Nat) (x:List AV) {y:List Value},RelVs w0 ρ nx x y→RelVs w0 ρ nx (x.drop k) (y.drop k)
 | 0,_,_,h=>h
 | k+1,[],_,h=>by simp only [RelVs] at h;subst h;simp [RelVs]
 | k+1,c :: cs,_,h=>by
  simp only [RelVs] at h
  obtain ⟨y,ys,rfl,h1,h2⟩:=h
  simpa using RelVs.drop k cs h2
theorem RelVs.take:∀(k:Nat) (x:List AV) {y:List Value},RelVs w0 ρ nx x y→RelVs w0 ρ nx (x.take k) (y.take k)
 | 0,_,_,_=>by simp [RelVs]
 | k+1,[],_,h=>by simp only [RelVs] at h;subst h;simp [RelVs]
 | k+1,c :: cs,_,h=>by
  simp only [RelVs] at h
  obtain ⟨y,ys,rfl,h1,h2⟩:=h
  simp only [List.take_succ_cons,RelVs]
  exact ⟨_,_,Z,h1,RelVs.take k cs h2⟩
theorem RelVs.append:∀(x:List AV) {y:List Value} {x':List AV} {y':List Value},RelVs w0 ρ nx x y→RelVs w0 ρ nx x' y'→RelVs w0 ρ nx (x++x') (y++y')
 | [],_,_,_,h,h'=>by simp only [RelVs] at h;subst h;simpa using h'
 | c :: cs,_,_,_,h,h'=>by
  simp only [RelVs] at h
  obtain ⟨y,ys,rfl,h1,h2⟩:=h
  simp only [List.cons_append,RelVs]
  exact ⟨_,_,Z,h1,RelVs.append cs h2 h'⟩
theorem RelVs.map_v:∀(xs:List Value),RelVs w0 ρ nx (xs.map .v) xs
 | []=>by simp [RelVs]
 | x :: xs=>by
  simp only [List.map_cons,RelVs]
  exact ⟨_,_,Z,by simp [RelV],RelVs.map_v xs⟩
theorem RelVs.map_v_eq:∀(xs:List Value) {ys:List Value},RelVs w0 ρ nx (xs.map .v) ys→ys=xs
 | [],_,h=>by simpa [RelVs] using h
 | x :: xs,_,h=>by
  simp only [List.map_cons,RelVs] at h
  obtain ⟨y,ys,rfl,h1,h2⟩:=h
  simp only [RelV] at h1
  rw [h1,RelVs.map_v_eq xs h2]
end
def TlR (w:World) (B e sz:Nat) (v:Value) (ys:List (List Value)):Prop :=
 (v=.slice none 0 0/\ys=[])∨∃g o cap cur,v=.slice (some ⟨g,o,none⟩) ys.length cap/\B<=g/\w.heap[g]?=some (.cells cur e (0,0))/\ys.length<=cap/\o<=cur.size/\(cur.toList.drop o).take (ys.length * sz)=ys.flatten
def OwnR (w:World) (B e sz:Nat):Bool→Value→List (List Value)→Prop
 | false,v,ys=>w.ownsRow B e sz v ys.length ys.flatten
 | true,v,ys=>TlR w B e sz v ys
def CIRel (B:Nat) (w:World):CI→Value→Prop
 | .v x,u=>u=x
 | .l e sz ys f,u=>OwnR w B e sz f u ys/\∀c∈ys,c.length=sz/\∀v∈c,v.oneCell'=true
 | .x,_=>True
def NestC (B:Nat) (w:World) (y:Value) (e sz:Nat) (yss:List (List CI)) (cells:List (List Value)):Prop :=
 w.ownsRow B e sz y yss.length cells.flatten/\cells.length=yss.length/\(∀c∈cells,c.length=sz/\∀u∈c,u.oneCell'=true)/\(∀cs∈yss,cs.length=sz) /\
  ∀i k c,C0 yss i k=some c→∃u,C0 cells i k=some u/\CIRel B w c u
def A3 (w:World) (y:Value) (sz:Nat) (yss:List (List CI)) (p:Nat×Nat):Option Nat :=
 match C0 yss p.1 p.2 with
 | some (.l _ _ _ _)=>match y with
  | .slice (some a) _ _=>(w.cell? (a.add (p.1 * sz+p.2))).bind blk
  | _=>none
 | _=>none
def inn (w:World) (y:Value):Row→Nat×Nat→Option Nat
 | .nest _ sz yss _,p=>A3 w y sz yss p
 | _,_=>none
def RowRel (w0:World) (ρ:Nat→Value) (nx:Nat) (w:World) (id:Nat):Row→Prop
 | .box cs=>∃b cur ty,ρ id=.pointer (some ⟨b,0,none⟩)/\w0.heap.size<=b/\w.heap[b]?=some (.cells cur ty (0,0))/\RelVs w0 ρ nx cs cur.toList/\∀u∈cur.toList,u.oneCell'=true
 | .row e sz ys f=>OwnR w w0.heap.size e sz f (ρ id) ys/\∀c∈ys,c.length=sz/\∀u∈c,u.oneCell'=true
 | .byt bs=>∃g cap cur e fz,ρ id=.slice (some ⟨g,0,none⟩) bs.length cap/\w0.heap.size<=g/\w.heap[g]?=some (.cells cur e fz)/\bs.length<=cap/\bs.length<=fz.1/\cur.toList.take bs.length=bs.map (Value.int .u8)
 | .spare e sz ys gs=>∃g cur,ρ id=.slice (some ⟨g,0,none⟩) ys.length (ys.length+gs.length)/\w0.heap.size<=g/\w.heap[g]?=some (.cells cur e (0,0))/\cur.toList=(ys++gs).flatten/\ys.length+gs.length<=maxLen/\∀c∈ys++gs,c.length=sz
 | .nest e sz yss op=>∃cells,NestC w0.heap.size w (ρ id) e sz yss cells/\∀q∈op,q.2.2 < nx/\C0 yss q.1 q.2.1=some .x/\C0 cells q.1 q.2.1=some (ρ q.2.2)
structure RelT (w0:World) (ρ:Nat→Value) (T:List (Nat×AV)) (nx nt:Nat) (a:Act):Prop where
 tmps:∀t x,look t T=some x→RelV w0 ρ nx x (a.tmps.getD t undef)
 size:a.tmps.size=nt
 defers:a.defers=[]
structure Base where
 w:World
 n0:Nat
 r0:Nat→Value
 ws:World
 keep:Nat→Prop
 kb:∀b,keep b→b < ws.heap.size
 E:World→Prop
 hE:∀w',Below w.heap.size w w'→E w'
instance:Coe Base World:=⟨Base.w⟩
class Env (P:Program) where
 E:World→Prop
 mono:∀{w w':World},E w→Below w.heap.size w w'→E w'
class EnvAt (P:Program) [Env P] (w0:Base):Prop where
 e:w0.E=Env.E P
instance envAt_of {P:Program} [Env P] {w0:Base} [h:EnvAt P w0] {n:Nat} {r0:Nat→Value} {ws:World} {keep:Nat→Prop} {kb:∀b,keep b→b < ws.heap.size}:EnvAt P ⟨w0.w,n,r0,ws,keep,kb,w0.E,w0.hE⟩:=⟨h.e⟩
class NoPin (b:Base):Prop where
 no:b.n0=0
theorem np {b:Base} [h:NoPin b] {id:Nat}:b.n0<=id:=by rw [h.no];exact Nat.zero_le _
def Inner (w0:Base) (ρ:Nat→Value) (m:List (Nat×Option Row)) (w:World):Prop :=
 ∀id r,mem m id=some r→∀p b,inn w (ρ id) r p=some b→¬ w0.keep b/\w0.w.heap.size<=b/\b < w.heap.size/\∀id' r',mem m id'=some r'→blk (ρ id')≠some b/\∀p',inn w (ρ id') r' p'=some b→id=id'/\p=p'
structure RelC (w0:Base) (ρ:Nat→Value) (m:List (Nat×Option Row)) (nx:Nat) (w:World):Prop where
 rows:∀id r,mem m id=some r→id < nx/\RowRel w0.w ρ nx w id r
 apart:∀id id' r r',mem m id=some r→mem m id'=some r'→id≠id'→∀b,blk (ρ id)=some b→blk (ρ id')≠some b
 below:Below w0.w.heap.size w0.w w
 pin:w0.n0<=nx/\∀i,i < w0.n0→ρ i=w0.r0 i
 kept:w0.ws.heap.size<=w.heap.size/\(∀b,w0.keep b→w.heap[b]?=w0.ws.heap[b]?)/\∀id r,mem m id=some r→∀b,blk (ρ id)=some b→¬ w0.keep b
 inner:Inner w0 ρ m w
theorem RelC.fresh {w0:Base} {nx:Nat} (h:RelC w0 ρ m nx w) {b:Nat} (hb:w.heap.size<=b):¬ w0.keep b:=λhk=>by
 have:=w0.kb b hk
 have:=h.kept.1
 omega
theorem RelC.env (P:Program) [Env P] {w0:Base} [EnvAt P w0] {ρ:Nat→Value} {m:List (Nat×Option Row)} {nx:Nat} {w:World} (h:RelC w0 ρ m nx w):Env.E P w:=by
 rw [← EnvAt.e (P:=P) (w0:=w0)]
 exact w0.hE w h.below
def a25 (w0:Base) (Q:Exit→St→Prop) (e:Exit) (a:Act) (w:World):Prop :=
 ∃ρ S,Q e S/\RelT w0.w ρ S.T S.nx S.nt a/\RelC w0 ρ S.m S.nx w
def W (P:Program) (w0:Base) (c:Code) (S:St) (Q:Exit→St→Prop):Prop :=
 ∀ρ a w,RelT w0.w ρ S.T S.nx S.nt a→RelC w0 ρ S.m S.nx w→c.wp P (a25 w0 Q) a w
def WL (P:Program) (w0:Base) (ops:Array Oper) (l:List Oper) (S:St) (Q:Exit→St→Prop):Prop :=
 ∀ρ a w,RelT w0.w ρ S.T S.nx S.nt a→RelC w0 ρ S.m S.nx w→wpList P ops (a25 w0 Q) l a w
def WX (P:Program) (w0:Base) (ops:Array Oper) (o:Oper) (l:List Oper) (S:St) (Q:Exit→St→Prop):Prop :=
 ∀ρ a w,RelT w0.w ρ S.T S.nx S.nt a→RelC w0 ρ S.m S.nx w→o.wp P a w (wpList P ops (a25 w0 Q) l) (a25 w0 Q)
def c2f (w0:Base) (ρ:Nat→Value) (m:List (Nat×Option Row)) (nx nt:Nat) (K:List (Nat×AV)→Prop) (a:Act):Prop :=
 ∃T,K T/\RelT w0 ρ T nx nt a
def QL (P:Program) (w0:Base) (ops:Array Oper) (l:List Oper) (T:List (Nat×AV)) (m:List (Nat×Option Row)) (nx nt:Nat) (K:List (Nat×AV)→Prop):Prop :=
 ∀ρ a w,RelT w0.w ρ T nx nt a→RelC w0 ρ m nx w→wpQuiet P ops (RelC w0 ρ m nx) (c2f w0 ρ m nx nt K) l a
def QX (P:Program) (w0:Base) (ops:Array Oper) (o:Oper) (l:List Oper) (T:List (Nat×AV)) (m:List (Nat×Option Row)) (nx nt:Nat) (K:List (Nat×AV)→Prop):Prop :=
 ∀ρ a w,RelT w0.w ρ T nx nt a→RelC w0 ρ m nx w→o.quiet P a (RelC w0 ρ m nx) (wpQuiet P ops (RelC w0 ρ m nx) (c2f w0 ρ m nx nt K) l)
def ev (T:List (Nat×AV)):Operand→Option AV
 | .tmp t=>look t T
 | .const v=>some (.v v)
 | .func f=>some (.v (.func (.func f) #[] #[]))
 | .global _=>none
theorem RelT.ev {nx:Nat} (h:RelT w0 ρ T nx nt a) {x:Operand} {r:AV} (hx:ev T x=some r):RelV w0 ρ nx r (a.eval x):=by
 cases x with
 | tmp t=>exact h.tmps t r hx
 | const v=>simp [Rf.ev] at hx;subst hx;simp [RelV,Act.eval]
 | func f=>simp [Rf.ev] at hx;subst hx;simp [RelV,Act.eval]
 | global g=>simp [Rf.ev] at hx
def QStep (P:Program) [Env P] (o:Oper) (T:List (Nat×AV)) (m:List (Nat×Option Row)) (nx nt:Nat) (r:AV):Prop :=
 ∀(w0:Base) [EnvAt P w0] ρ a w,RelT w0.w ρ T nx nt a→RelC w0 ρ m nx w→∃y,RelV w0 ρ nx r y/\∀w',RelC w0 ρ m nx w'→o.quietAt P a (RelC w0 ρ m nx) w' y
theorem r3 {α:Type} (k:Nat) (x:α) (l:List (Nat×α)):look k ((k,x) :: l)=some x:=by
 have:Nat.beq k k=true:=Nat.beq_refl k
 simp [look,this]
theorem l6 {α:Type} {i:Nat} (h:i≠k) (x:α) (l:List (Nat×α)):look k ((i,x) :: l)=look k l:=by
 have:Nat.beq i k=false:=by
  cases hb:Nat.beq i k with
  | false=>rfl
  | true=>exact absurd (Nat.eq_of_beq_eq_true hb) h
 simp [look,this]
theorem RelT.put {nx d:Nat} {r:AV} {y:Value} (h:RelT w0 ρ T nx nt a) (hd:Nat.blt d nt=true) (hr:RelV w0 ρ nx r y) :
 RelT w0 ρ ((d,r) :: T) nx nt (a.put (some d) y):=by
 have hd':d < a.tmps.size:=by rw [h.size];exact Nat.le_of_ble_eq_true hd
 refine ⟨λt x hx=>?_,by simp [Act.put,h.size],by simp [Act.put,h.defers]⟩
 by_cases e:d=t
 ·subst e
  rw [r3] at hx
  cases hx
  simpa [Act.put,hd'] using hr
 ·rw [l6 e] at hx
  have:=h.tmps t x hx
  simpa [Act.put,Array.getD_eq_getD_getElem?,Array.getElem?_setIfInBounds_ne e] using this
theorem RelT.put_none {nx:Nat} {y:Value} (h:RelT w0 ρ T nx nt a):RelT w0 ρ T nx nt (a.put none y):=h
section rules
variable {P:Program} {w0:Base} {ops:Array Oper} {o:Oper} {rest:List Oper} {T:List (Nat×AV)} {m:List (Nat×Option Row)} {nx nt d:Nat} {r:AV} {Q:Exit→St→Prop} {K:List (Nat×AV)→Prop}
theorem b5 [Env P] [EnvAt P w0] (hd:o.dst=some d) (hlt:Nat.blt d nt=true) (h:QStep P o T m nx nt r) (hk:WL P w0 ops rest ⟨(d,r) :: T,m,nx,nt⟩ Q):WX P w0 ops o rest ⟨T,m,nx,nt⟩ Q:=by
 intro ρ a w hT hC
 obtain ⟨y,hy,hq⟩:=h w0 ρ a w hT hC
 have h1:=hq w hC
 unfold Oper.quietAt at h1
 unfold Oper.wp
 have key:∀w',RelC w0 ρ m nx w'→wpList P ops (a25 w0 Q) rest (a.put o.dst y) w':=λw' hC'=>hk ρ _ w' (by rw [hd];exact hT.put hlt hy) hC'
 generalize (execOp a.eval o).run P w=res at *
 cases res with
 | ok n w' =>
  cases n<;>simp only [Oper.quietUpon] at h1<;>simp only [Oper.upon]
  case value u=>obtain ⟨e1,e2⟩:=h1;rw [e1,e2];exact key _ hC
  case skip=>obtain ⟨e1,e2⟩:=h1;rw [e1,← e2];exact key _ hC
  case enter f args =>
   obtain ⟨e1,hc⟩:=h1
   rw [e1]
   exact hc.mono λe w'' ⟨he,hw''⟩=>by subst he;exact key _ hw''
 | halt x w'=>simp only [Oper.quietUpon] at h1
theorem g8 [Env P] [EnvAt P w0] (hd:o.dst=some d) (hlt:Nat.blt d nt=true) (h:QStep P o T m nx nt r) (hk:QL P w0 ops rest ((d,r) :: T) m nx nt K):QX P w0 ops o rest T m nx nt K:=by
 intro ρ a w hT hC
 obtain ⟨y,hy,hq⟩:=h w0 ρ a w hT hC
 exact ⟨y,hq,hk ρ _ w (by rw [hd];exact hT.put hlt hy) hC⟩
theorem b4 (h:Q .normal S):WL P w0 ops [] S Q:=λρ a w hT hC=>wpList_nil ⟨ρ,S,h,hT,hC⟩
theorem S4 (h:K T):QL P w0 ops [] T m nx nt K:=λρ a w hT hC=>wpQuiet_nil ⟨T,h,hT⟩
theorem a7 (hg:o.guard=none) (h:WX P w0 ops o rest S Q):WL P w0 ops (o :: rest) S Q:=by
 intro ρ a w hT hC
 unfold wpList
 rw [if_pos (by simp [Region.wanted,hg])]
 exact .inl (h ρ a w hT hC)
theorem c6 (hg:o.guard=none) (h:QX P w0 ops o rest T m nx nt K):QL P w0 ops (o :: rest) T m nx nt K:=by
 intro ρ a w hT hC
 unfold wpQuiet
 rw [if_pos (by simp [Region.wanted,hg])]
 exact h ρ a w hT hC
theorem Z5 (hT:RelT w0 ρ T nx nt a) (hg:o.guard=some (j,want)) (hj:(ops[j]?).bind (·.dst)=some gd) (hb:look gd T=some (.v (.bool b))) :
 Region.wanted o (yielded ops a.tmps)=(b==want):=by
 have h1:=hT.tmps gd _ hb
 simp only [RelV] at h1
 have h2:a.tmps[gd]?=some (.bool b):=by
  rcases Nat.lt_or_ge gd a.tmps.size with hlt | hge
  ·simp_all
  ·simp [Array.getElem?_eq_none hge,undef] at h1
 simp [Region.wanted,hg,yielded,hj,h2]
theorem o9 (hg:o.guard=some (j,want)) (hj:(ops[j]?).bind (·.dst)=some gd) (hb:look gd S.T=some (.v (.bool want)))
 (h:WX P w0 ops o rest S Q):WL P w0 ops (o :: rest) S Q:=by
 intro ρ a w hT hC
 unfold wpList
 rw [if_pos (by rw [Z5 hT hg hj hb];simp)]
 exact .inl (h ρ a w hT hC)
theorem E9 (hg:o.guard=some (j,want)) (hj:(ops[j]?).bind (·.dst)=some gd) (hb:look gd T=some (.v (.bool want)))
 (h:QX P w0 ops o rest T m nx nt K):QL P w0 ops (o :: rest) T m nx nt K:=by
 intro ρ a w hT hC
 unfold wpQuiet
 rw [if_pos (by rw [Z5 hT hg hj hb];simp)]
 exact h ρ a w hT hC
theorem l7 (hg:o.guard=some (j,want)) (hj:(ops[j]?).bind (·.dst)=some gd) (hb:look gd T=some (.v (.bool b))) (hne:(b==want)=false)
 (hd:o.dst=some d) (hlt:Nat.blt d nt=true) (h:WL P w0 ops rest ⟨(d,.v undef) :: T,m,nx,nt⟩ Q):WL P w0 ops (o :: rest) ⟨T,m,nx,nt⟩ Q:=by
 intro ρ a w hT hC
 unfold wpList
 rw [if_neg (by rw [Z5 hT hg hj hb,hne];simp),hd]
 exact h ρ _ w (hT.put hlt (by simp [RelV])) hC
theorem b2e (hg:o.guard=some (j,want)) (hj:(ops[j]?).bind (·.dst)=some gd) (hb:look gd T=some (.v (.bool b))) (hne:(b==want)=false)
 (hd:o.dst=some d) (hlt:Nat.blt d nt=true) (h:QL P w0 ops rest ((d,.v undef) :: T) m nx nt K):QL P w0 ops (o :: rest) T m nx nt K:=by
 intro ρ a w hT hC
 unfold wpQuiet
 rw [if_neg (by rw [Z5 hT hg hj hb,hne];simp),hd]
 exact h ρ _ w (hT.put hlt (by simp [RelV])) hC
theorem a26 (hT:RelT w0 ρ T nx nt a) (hg:o.guard=some (j,want)) (hj:(ops[j]?).bind (·.dst)=some gd) (hb:look gd T=some (.v undef)) :
 Region.wanted o (yielded ops a.tmps)=false:=by
 have h1:=hT.tmps gd _ hb
 simp only [RelV] at h1
 have h2:a.tmps[gd]?=some undef∨a.tmps[gd]?=none:=by
  rcases Nat.lt_or_ge gd a.tmps.size with hlt | hge
  ·simp [hlt] at h1 ⊢;exact h1
  ·exact .inr (Array.getElem?_eq_none hge)
 rcases h2 with h2 | h2<;>simp [Region.wanted,hg,yielded,hj,h2,undef]
theorem a7M (hg:o.guard=some (j,want)) (hj:(ops[j]?).bind (·.dst)=some gd) (hb:look gd T=some (.v undef))
 (hd:o.dst=some d) (hlt:Nat.blt d nt=true) (h:WL P w0 ops rest ⟨(d,.v undef) :: T,m,nx,nt⟩ Q):WL P w0 ops (o :: rest) ⟨T,m,nx,nt⟩ Q:=by
 intro ρ a w hT hC
 unfold wpList
 rw [if_neg (by rw [a26 hT hg hj hb];simp),hd]
 exact h ρ _ w (hT.put hlt (by simp [RelV])) hC
theorem a7N (hg:o.guard=some (j,want)) (hj:(ops[j]?).bind (·.dst)=some gd) (hb:look gd T=some (.v undef))
 (hd:o.dst=some d) (hlt:Nat.blt d nt=true) (h:QL P w0 ops rest ((d,.v undef) :: T) m nx nt K):QL P w0 ops (o :: rest) T m nx nt K:=by
 intro ρ a w hT hC
 unfold wpQuiet
 rw [if_neg (by rw [a26 hT hg hj hb];simp),hd]
 exact h ρ _ w (hT.put hlt (by simp [RelV])) hC
theorem A5 (hg:o.guard=some (j,want)) (hj:(ops[j]?).bind (·.dst)=some gd) (hb:look gd T=some (.v (.bool b)))
 (h1:b=true→WL P w0 ops (o :: rest) ⟨T,m,nx,nt⟩ Q) (h2:b=false→WL P w0 ops (o :: rest) ⟨T,m,nx,nt⟩ Q):WL P w0 ops (o :: rest) ⟨T,m,nx,nt⟩ Q:=by
 grind
theorem b2f (hg:o.guard=some (j,want)) (hj:(ops[j]?).bind (·.dst)=some gd) (hb:look gd T=some (.v (.bool b)))
 (h1:b=true→QL P w0 ops (o :: rest) T m nx nt K) (h2:b=false→QL P w0 ops (o :: rest) T m nx nt K):QL P w0 ops (o :: rest) T m nx nt K:=by
 grind
def sq (K:St→Prop) (Q:Exit→St→Prop):Exit→St→Prop
 | .normal,S=>K S
 | e,S=>Q e S
def bq (id:Nat) (Q:Exit→St→Prop):Exit→St→Prop
 | .exit i,S=>bif Nat.beq i id then Q .normal S else Q (.exit i) S
 | e,S=>Q e S
theorem b4A {c:Code} {Q':Exit→St→Prop} (h:W P w0 c S Q') (hq:∀e S,Q' e S→Q e S):W P w0 c S Q :=
 λρ a w hT hC=>wp_mono (h ρ a w hT hC) λe a w ⟨ρ,S,q,h1,h2⟩=>⟨ρ,S,hq _ _ q,h1,h2⟩
theorem c1 {x y:Code} (h:∀K:St→Prop,(∀S,W P w0 y S Q→K S)→W P w0 x S (sq K Q)):W P w0 (.seq x y) S Q:=by
 intro ρ a w hT hC
 refine wp_seq (wp_mono (h (λS=>W P w0 y S Q) (λ_ h=>h) ρ a w hT hC) ?_)
 rintro e a w ⟨ρ,S,q,h1,h2⟩
 cases e
 case normal=>exact q ρ a w h1 h2
 all_goals exact ⟨ρ,S,q,h1,h2⟩
theorem p8 (h:Q .normal S):W P w0 .skip S Q:=λρ a w hT hC=>wp_skip ⟨ρ,S,h,hT,hC⟩
theorem d8 (h:Q .ret S):W P w0 .ret S Q:=λρ a w hT hC=>wp_ret ⟨ρ,S,h,hT,hC⟩
theorem G2 (h:Q (.exit id) S):W P w0 (.exit id) S Q:=λρ a w hT hC=>wp_exit ⟨ρ,S,h,hT,hC⟩
theorem o7 {c:Code} (h:W P w0 c S (bq id Q)):W P w0 (.block id c) S Q:=by
 intro ρ a w hT hC
 refine wp_block (wp_mono (h ρ a w hT hC) ?_)
 rintro e a w ⟨ρ,S,q,h1,h2⟩
 cases e
 case exit i =>
  simp only [bq] at q
  by_cases hi:i=id
  ·subst hi
   rw [Nat.beq_refl] at q
   simp only [Exit.inBlock,if_true]
   exact ⟨ρ,S,q,h1,h2⟩
  ·have hb:Nat.beq i id=false:=by
    cases hb:Nat.beq i id with
    | false=>rfl
    | true=>exact absurd (Nat.eq_of_beq_eq_true hb) hi
   rw [hb] at q
   simp only [Exit.inBlock,hi,if_false]
   exact ⟨ρ,S,q,h1,h2⟩
 all_goals exact ⟨ρ,S,q,h1,h2⟩
theorem l4 {c:Operand} {x y:Code} (hc:ev S.T c=some (.v (.bool b))) (h1:b=true→W P w0 x S Q) (h2:b=false→W P w0 y S Q):W P w0 (.cond c x y) S Q:=by
 intro ρ a w hT hC
 have he:=hT.ev hc
 simp only [RelV] at he
 refine wp_cond_split he (λh=>h1 h ρ a w hT hC) (λh=>h2 h ρ a w hT hC)
theorem J4 {c:Operand} {x y:Code} (hc:ev S.T c=some (.v (.bool true))) (h1:W P w0 x S Q):W P w0 (.cond c x y) S Q:=l4 hc (λ_=>h1) (λh=>by cases h)
theorem a27 {c:Operand} {x y:Code} (hc:ev S.T c=some (.v (.bool false))) (h1:W P w0 y S Q):W P w0 (.cond c x y) S Q:=l4 hc (λh=>by cases h) (λ_=>h1)
theorem b6 (h:WL P w0 l.toArray l S Q):W P w0 (.region id l.toArray false) S Q :=
 λρ a w hT hC=>wp_region_lit (h ρ a w hT hC)
theorem RelC.drew (h:RelC w0 ρ m nx w):RelC w0 ρ m nx w.drew:=by
 refine ⟨λid r hr=>?_,h.apart,h.below.drew,h.pin,h.kept,h.inner⟩
 obtain ⟨h1,h2⟩:=h.rows id r hr
 refine ⟨h1,?_⟩
 assumption
theorem I2 (hm:P.follows .mixedOrders=true) (hB:Region.lexB .any l.toArray=true)
 (h:QL P w0 l.toArray l T m nx nt (λT'=>Q .normal ⟨T',m,nx,nt⟩)):W P w0 (.region id l.toArray true) ⟨T,m,nx,nt⟩ Q:=by
 intro ρ a w hT hC
 refine wp_region_quiet (C:=RelC w0 ρ m nx) hm hB hC.drew ?_
 have:=h ρ a w hT hC
 refine wpQuiet_mono ?_ _ _ this
 rintro a' ⟨T',hK,hT'⟩ w' hC'
 exact ⟨ρ,⟨T',m,nx,nt⟩,hK,hT',hC'⟩
where
 wpQuiet_mono {C:World→Prop} {ops:Array Oper} {K K':Act→Prop} (h:∀a,K a→K' a):∀(l:List Oper) (a:Act),wpQuiet P ops C K l a→wpQuiet P ops C K' l a
  | [],a,hh=>h a hh
  | o :: l,a,hh=>by
   unfold wpQuiet at hh ⊢
   split
   ·rename_i hw
    rw [if_pos hw] at hh
    exact Oper.quiet_mono (wpQuiet_mono h l) hh
   ·rename_i hw
    rw [if_neg hw] at hh
    exact wpQuiet_mono h l _ hh
end rules
inductive FK where
 | bool | str | int (k:IntKind) | other
inductive TyI where
 | flat (fk:FK) (zero:Value)
 | slice (e sz bytes:Nat) (zs:List Value)
 | struct (fs:List (Nat×Nat)) (zs:List Value)
variable {i:TyI}
def c4O (P:Program) (t:TypeId):FK→Prop
 | .bool=>P.underlying t=some .bool
 | .str=>P.underlying t=some .string
 | .int k=>P.underlying t=some (.int k)
 | .other=>True
def TyOK (P:Program) (t:TypeId):TyI→Prop
 | .flat fk z=>c4O P t fk/\(∃d,P.underlying t=some d/\(∀fs,d≠.struct fs)/\∀n e,d≠.array n e)/\∃i,P.info? t=some i/\i.zero=some z/\i.size=1/\z.oneCell'=true
 | .slice e sz by_ zs=>P.underlying t=some (.slice e)/\(∃i,P.info? t=some i/\i.zero=some (.slice none 0 0)/\i.size=1) /\
  ∃i z,P.info? e=some i/\i.size=sz/\i.bytes=by_/\i.zero=some z/\z.cells=zs.toArray/\zs.length=sz/\0 < sz/\∀u∈zs,u.oneCell'=true
 | .struct fs zs=>∃fields i,P.underlying t=some (.struct fields)/\P.info? t=some i/\i.size=zs.length/\i.zero=some (.agg zs.toArray)/\(∀u∈zs,u.oneCell'=true)/\fs.length=fields.size /\
  ∀(k off ft:Nat),fs[k]?=some (off,ft)→∃(f:Field) (j:TypeInfo),fields[k]?=some f/\f.offset=off/\f.type=ft/\P.info? ft=some j/\j.size≠0
def Good (P:Program) (tb:List (Nat×TyI)):Prop:=∀t i,look t tb=some i→TyOK P t i
def veq:Value→Value→Bool
 | .bool a,.bool b=>a==b
 | .int k a,.int k' b=>decide (k=k') && decide (a=b)
 | .string a,.string b=>a.data.toList==b.data.toList
 | .pointer none,.pointer none=>true
 | .slice none a b,.slice none c d=>a==c && b==d
 | .nilFunc,.nilFunc=>true
 | .map none,.map none=>true
 | .nilIface,.nilIface=>true
 | _,_=>false
theorem b4B {a b:Value} (h:veq a b=true):a=b:=by
 cases a<;>cases b<;>simp [veq] at h
 case bool.bool=>rw [h]
 case int.int=>rw [h.1,h.2]
 case string.string x y =>
  obtain ⟨x⟩:=x
  obtain ⟨y⟩:=y
  simp at h
  rw [h]
 case pointer.pointer x y=>cases x<;>cases y<;>simp [veq] at h<;>rfl
 case slice.slice x _ _ y _ _=>cases x<;>cases y<;>simp [veq] at h;rw [h.1,h.2]
 case map.map x y=>cases x<;>cases y<;>simp [veq] at h<;>rfl
 all_goals rfl
theorem b5y {a b:Value} (h:veq a b=true):a.oneCell'=true:=by
 cases a<;>first | rfl | (cases b<;>simp [veq] at h)
def a9J:List Value→List Value→Bool
 | [],[]=>true
 | a :: as,b :: bs=>veq a b && a9J as bs
 | _,_=>false
theorem b2g:∀{a b:List Value},a9J a b=true→a=b
 | [],[],_=>rfl
 | [],_ :: _,h=>by simp [a9J] at h
 | _ :: _,[],h=>by simp [a9J] at h
 | a :: as,b :: bs,h=>by
  simp only [a9J,Bool.and_eq_true] at h
  rw [b4B h.1,b2g h.2]
theorem a9K:∀{a b:List Value},a9J a b=true→∀u∈a,u.oneCell'=true
 | [],[],_,u,hu=>by simp at hu
 | [],_ :: _,h,_,_=>by simp [a9J] at h
 | _ :: _,[],h,_,_=>by simp [a9J] at h
 | a :: as,b :: bs,h,u,hu=>by
  simp only [a9J,Bool.and_eq_true] at h
  rcases List.mem_cons.1 hu with rfl | hu
  ·exact b5y h.1
  ·exact a9K h.2 u hu
def a9s (P:Program) (fields:Array Field):Nat→List (Nat×Nat)→Bool
 | _,[]=>true
 | k,(off,ft) :: r=>(match fields[k]? with
  | some f=>f.offset==off && f.type==ft && (match P.info? ft with | some j=>j.size != 0 | none=>false)
  | none=>false) && a9s P fields (k+1) r
theorem a6x {fields:Array Field}:∀{fs:List (Nat×Nat)} {n:Nat},a9s P fields n fs=true→∀(k off ft:Nat),fs[k]?=some (off,ft) →
 ∃(f:Field) (j:TypeInfo),fields[n+k]?=some f/\f.offset=off/\f.type=ft/\P.info? ft=some j/\j.size≠0
 | [],_,_,k,_,_,h=>by simp at h
 | (o,t) :: r,n,h,k,off,ft,hk=>by
  simp only [a9s,Bool.and_eq_true] at h
  match k with
  | 0 =>
   grind
  | k+1 =>
   have:=a6x h.2 k off ft (by simpa using hk)
   grind
def fkB (P:Program) (t:TypeId):FK→Bool
 | .bool=>match P.underlying t with | some .bool=>true | _=>false
 | .str=>match P.underlying t with | some .string=>true | _=>false
 | .int k=>match P.underlying t with | some (.int k')=>decide (k'=k) | _=>false
 | .other=>true
theorem b7O {t:TypeId} {fk:FK} (h:fkB P t fk=true):c4O P t fk:=by
 cases fk<;>simp only [fkB,c4O] at h ⊢
 all_goals
  cases hu:P.underlying t with
  | none=>simp [hu] at h
  | some d=>cases d<;>simp [hu] at h ⊢<;>exact h
def tyB (P:Program) (t:TypeId):TyI→Bool
 | .flat fk z=>fkB P t fk && (match P.underlying t with | some (.struct _) | some (.array _ _) | none=>false | some _=>true) && (match P.info? t with | some i=>i.size==1 && (match i.zero with | some z'=>veq z' z | none=>false) | none=>false)
 | .slice e sz by_ zs=>(match P.underlying t with | some (.slice e')=>e'==e | _=>false) && (match P.info? t with | some i=>i.size==1 && (match i.zero with | some z'=>veq z' (.slice none 0 0) | none=>false) | none=>false) &&
  (match P.info? e with | some i=>i.size==sz && i.bytes==by_ && (match i.zero with | some z=>a9J z.cells.toList zs | none=>false) | none=>false) && zs.length==sz && Nat.blt 0 sz
 | .struct fs zs=>match P.underlying t,P.info? t with
  | some (.struct fields),some i=>i.size==zs.length && (match i.zero with | some (.agg cs)=>a9J cs.toList zs | _=>false) && Nat.beq fs.length fields.size && a9s P fields 0 fs
  | _,_=>false
theorem b7P {t:TypeId} (h:tyB P t i=true):TyOK P t i:=by
 cases i with
 | flat fk z =>
  simp only [tyB,Bool.and_eq_true] at h
  obtain ⟨⟨h0,h1⟩,h2⟩:=h
  refine ⟨b7O h0,?_,?_⟩
  ·grind
  ·grind [b4B,b5y]
 | slice e sz by_ zs =>
  simp only [tyB,Bool.and_eq_true,beq_iff_eq] at h
  obtain ⟨⟨⟨⟨h1,h2⟩,h3⟩,h4⟩,h5⟩:=h
  refine ⟨?_,?_,?_⟩
  ·grind
  ·grind [b4B]
  ·cases hi:P.info? e with
   | none=>simp [hi] at h3
   | some i =>
    simp only [hi,Bool.and_eq_true,beq_iff_eq] at h3
    cases hz:i.zero with
    | none=>simp [hz] at h3
    | some z =>
     simp only [hz] at h3
     have he:=b2g h3.2
     exact ⟨i,z,Z,h3.1.1,h3.1.2,hz,by rw [← he],h4,Nat.le_of_ble_eq_true h5,by rw [← he];exact a9K h3.2⟩
 | struct fs zs =>
  simp only [tyB] at h
  cases hu:P.underlying t with
  | none=>simp [hu] at h
  | some d =>
   cases hi:P.info? t with
   | none=>simp [hu,hi] at h
   | some i =>
    simp only [hu,hi] at h
    cases d<;>simp at h
    rename_i fields
    obtain ⟨⟨⟨h1,h2⟩,h4⟩,h3⟩:=h
    cases hz:i.zero with
    | none=>simp [hz] at h2
    | some z =>
     simp only [hz] at h2
     cases z<;>simp at h2
     rename_i cs
     have he:=b2g h2
     refine ⟨fields,i,hu,hi,h1,by rw [hz,← he],by rw [← he];exact a9K h2,h4,λk off ft hk=>?_⟩
     have:=a6x h3 k off ft hk
     grind
def c0z (P:Program):List (Nat×TyI)→Bool
 | []=>true
 | (t,i) :: r=>tyB P t i && c0z P r
theorem a6y {α:Type} {x:α}:∀{l:List (Nat×α)},look k l=some x→(k,x)∈l
 | [],h=>by simp [look] at h
 | (i,y) :: r,h=>by
  by_cases e:i=k
  ·subst e
   rw [r3] at h
   cases h
   simp
  ·rw [l6 e] at h
   exact List.mem_cons_of_mem _ (a6y h)
theorem b1a:∀{tb:List (Nat×TyI)},c0z P tb=true→∀t i,(t,i)∈tb→TyOK P t i
 | [],_,_,_,h=>by simp at h
 | (t',i') :: r,h,t,i,hm=>by
  simp only [c0z,Bool.and_eq_true] at h
  rcases List.mem_cons.1 hm with he | hm
  ·cases he;exact b7P h.1
  ·exact b1a h.2 t i hm
theorem Good.of {tb:List (Nat×TyI)} (h:c0z P tb=true):Good P tb:=λt i hl=>b1a h t i (a6y hl)
def nth {α:Type}:List α→Nat→Option α
 | [],_=>none
 | x :: _,0=>some x
 | _ :: r,k+1=>nth r k
theorem a32 {α:Type}:∀(l:List α) (k:Nat),nth l k=l[k]?
 | [],_=>by simp [nth]
 | _ :: _,0=>by simp [nth]
 | _ :: r,k+1=>by simp [nth,a32 r k]
def rev {α:Type}:List α→List α→List α
 | [],acc=>acc
 | x :: r,acc=>rev r (x :: acc)
theorem a29 {α:Type}:∀(l acc:List α),rev l acc=l.reverse++acc
 | [],_=>rfl
 | x :: r,acc=>by simp [rev,a29 r]
def a3a {α:Type}:List α→List α→Option (List α)
 | [],acc=>some acc
 | x :: r,acc=>a3a r (x :: acc)
theorem F9 {α:Type}:∀(l acc:List α),a3a l acc=some (l.reverse++acc)
 | [],_=>rfl
 | x :: r,acc=>by simp [a3a,F9 r]
def a3N {α:Type}:Nat→List α→List α→Option (List α)
 | 0,_,acc=>a3a acc []
 | _+1,[],_=>none
 | n+1,x :: r,acc=>a3N n r (x :: acc)
theorem Z6 {α:Type}:∀(n:Nat) (l acc r:List α),a3N n l acc=some r→r=acc.reverse++l.take n/\n<=l.length
 | 0,_,acc,r,h=>by simp [a3N,F9] at h;simp [h]
 | _+1,[],_,_,h=>by simp [a3N] at h
 | n+1,x :: l,acc,r,h=>by
  have:=Z6 n l (x :: acc) r h
  simp [this]
def a0S {α:Type}:Nat→List α→List α
 | 0,l=>l
 | _+1,[]=>[]
 | n+1,_ :: r=>a0S n r
theorem X1 {α:Type}:∀(n:Nat) (l:List α),a0S n l=l.drop n
 | 0,_=>rfl
 | _+1,[]=>rfl
 | n+1,_ :: r=>by simp [a0S,X1 n r]
def avO:List Value→List AV→Option (List AV)
 | [],acc=>some acc
 | x :: r,acc=>avO r (.v x :: acc)
theorem b7Q:∀(l:List Value) (acc:List AV),avO l acc=some ((l.map .v).reverse++acc)
 | [],_=>rfl
 | x :: r,acc=>by simp [avO,b7Q r]
def avR:List Value→List AV→List AV
 | [],acc=>rev acc []
 | x :: r,acc=>avR r (.v x :: acc)
theorem a33:∀(l:List Value) (acc:List AV),avR l acc=acc.reverse++l.map .v
 | [],acc=>by simp [avR,a29]
 | x :: r,acc=>by simp [avR,a33 r]
def vaR:List AV→List Value→Option (List Value)
 | [],acc=>a3a acc []
 | .v x :: r,acc=>vaR r (x :: acc)
 | _ :: _,_=>none
theorem a0r:∀(l:List AV) (acc r:List Value),vaR l acc=some r→∃xs,l=xs.map .v/\r=acc.reverse++xs
 | [],acc,r,h=>by simp [vaR,F9] at h;exact ⟨[],Z,by simp [h]⟩
 | .v x :: l,acc,r,h=>by
  obtain ⟨xs,h1,h2⟩:=a0r l (x :: acc) r h
  exact ⟨x :: xs,by simp [h1],by simp [h2]⟩
 | .lst _ _ :: _,_,_,h=>by simp [vaR] at h
 | .pin _ _ _ :: _,_,_,h=>by simp [vaR] at h
 | .own _ :: _,_,_,h=>by simp [vaR] at h
 | .sub _ _ _ _ :: _,_,_,h=>by simp [vaR] at h
 | .ptr _ _ :: _,_,_,h=>by simp [vaR] at h
 | .rpt _ _ _ _ :: _,_,_,h=>by simp [vaR] at h
 | .ept _ :: _,_,_,h=>by simp [vaR] at h
 | .agg _ :: _,_,_,h=>by simp [vaR] at h
 | .tup _ :: _,_,_,h=>by simp [vaR] at h
 | .fnc _ _ :: _,_,_,h=>by simp [vaR] at h
 | .nst _ _ _ :: _,_,_,h=>by simp [vaR] at h
 | .any :: _,_,_,h=>by simp [vaR] at h
 | .eptN _ :: _,_,_,h=>by simp [vaR] at h
def C9:AV→Option (List AV)
 | .agg cs=>some cs
 | .v (.agg ⟨l⟩)=>avO (rev l []) []
 | .v (.tuple _)=>none
 | .tup _=>none
 | x=>some [x]
section
variable {P:Program} [Env P] {tb:List (Nat×TyI)} {o:Oper} {T:List (Nat×AV)} {m:List (Nat×Option Row)} {nx nt:Nat} {r:AV}
theorem QStep.run (h:∀(w0:Base) ρ a w,RelT w0 ρ T nx nt a→RelC w0 ρ m nx w→∃y,RelV w0 ρ nx r y/\∀w',RelC w0 ρ m nx w'→(execOp a.eval o).run P w'=.ok (.value y) w'):QStep P o T m nx nt r:=by
 intro w0 _ ρ a w hT hC
 obtain ⟨y,hy,hr⟩:=h w0 ρ a w hT hC
 refine ⟨y,hy,λw' hC'=>?_⟩
 unfold Oper.quietAt
 rw [hr w' hC']
 exact ⟨Z,Z⟩
theorem QStep.val {x:Value} (h:∀w0 ρ a,RelT w0 ρ T nx nt a→∀w',(execOp a.eval o).run P w'=.ok (.value x) w'):QStep P o T m nx nt (.v x) :=
 QStep.run λw0 ρ a w hT hC=>⟨x,by simp only [RelV],λw' _=>h w0 ρ a hT w'⟩
theorem b9 (ho:o.op=.move x) (hx:ev T x=some r):QStep P o T m nx nt r :=
 QStep.run λw0 ρ a w hT hC=>⟨a.eval x,hT.ev hx,λw' _=>by simp [execOp,ho]⟩
theorem b8 (ho:o.op=.assign x) (hx:ev T x=some r):QStep P o T m nx nt r :=
 QStep.run λw0 ρ a w hT hC=>⟨a.eval x,hT.ev hx,λw' _=>by simp [execOp,ho]⟩
theorem w5 {c:Operand} (ho:o.op=.pick c x y) (hc:ev T c=some (.v (.bool true))) (hx:ev T x=some r):QStep P o T m nx nt r :=
 QStep.run λw0 ρ a w hT hC=>⟨a.eval x,hT.ev hx,λw' _=>by
  have h:=hT.ev hc
  simp only [RelV] at h
  simp [execOp,ho,h,asBool]⟩
theorem A6 {c:Operand} (ho:o.op=.pick c x y) (hc:ev T c=some (.v (.bool false))) (hx:ev T y=some r):QStep P o T m nx nt r :=
 QStep.run λw0 ρ a w hT hC=>⟨a.eval y,hT.ev hx,λw' _=>by
  have h:=hT.ev hc
  simp only [RelV] at h
  simp [execOp,ho,h,asBool]⟩
theorem i1 {vs:List AV} (ho:o.op=.extract x k) (hx:ev T x=some (.tup vs)) (hk:nth vs k=some r):QStep P o T m nx nt r :=
 QStep.run λw0 ρ a w hT hC=>by
  have h:=hT.ev hx
  simp only [RelV] at h
  obtain ⟨ys,he,hr⟩:=h
  rw [a32] at hk
  obtain ⟨u,hu,h1⟩:=RelVs.get vs hr k r hk
  refine ⟨u,h1,λw' _=>?_⟩
  simp [execOp,ho,he,Instr.extract,hu]
theorem a1z {t:TypeId} (ho:o.op=.unOp .not t x) (hx:ev T x=some (.v (.bool b))):QStep P o T m nx nt (.v (.bool !b)) :=
 QStep.val λw0 ρ a hT w'=>by
  have h:=hT.ev hx
  simp only [RelV] at h
  simp [execOp,ho,h,Op.unary]
theorem c0A {t:TypeId} (ho:o.op=.unOp .not t x) (hx:ev T x=some (.v (.bool true))):QStep P o T m nx nt (.v (.bool false)):=a1z ho hx
theorem c0B {t:TypeId} (ho:o.op=.unOp .not t x) (hx:ev T x=some (.v (.bool false))):QStep P o T m nx nt (.v (.bool true)):=a1z ho hx
def c66:BinOp→Int→Int→Option Bool
 | .eql,a,b=>some (a==b)
 | .neq,a,b=>some (a != b)
 | .lss,a,b=>some (decide (a < b))
 | .leq,a,b=>some (decide (a<=b))
 | .gtr,a,b=>some (decide (a > b))
 | .geq,a,b=>some (decide (a≥b))
 | _,_,_=>none
theorem t8 {op:BinOp} {t t':TypeId} {k:IntKind} {a b:Int} {c:Bool} (ho:o.op=.binOp op t x y t') (hx:ev T x=some (.v (.int k a))) (hy:ev T y=some (.v (.int k b))) (hc:c66 op a b=some c) :
 QStep P o T m nx nt (.v (.bool c)) :=
 QStep.val λw0 ρ ac hT w'=>by
  have h1:=hT.ev hx
  have h2:=hT.ev hy
  simp only [RelV] at h1 h2
  cases op<;>simp [c66] at hc<;>subst hc<;>simp [execOp,ho,h1,h2,eqGuard_at_int,binOp_eql,binOp_neq,binOp_lss,binOp_leq,binOp_gtr,binOp_geq]
def arI:BinOp→Int→Int→Option Int
 | .add,a,b=>some (a+b)
 | .sub,a,b=>some (a - b)
 | .mul,a,b=>some (a * b)
 | _,_,_=>none
theorem s3 {op:BinOp} {x y:Operand} {t t':TypeId} {k:IntKind} {a b c:Int} (ho:o.op=.binOp op t x y t') (hx:ev T x=some (.v (.int k a))) (hy:ev T y=some (.v (.int k b))) (hc:arI op a b=some c) :
 QStep P o T m nx nt (.v (.int k (k.wrap c))) :=
 QStep.val λw0 ρ ac hT w'=>by
  have h1:=hT.ev hx
  have h2:=hT.ev hy
  simp only [RelV] at h1 h2
  cases op<;>simp [arI] at hc<;>subst hc<;>simp [execOp,ho,h1,h2,eqGuard,binOp,Op.intArith]
theorem O2 {n:Int} (h1:-9223372036854775808<=n) (h2:n<=9223372036854775807):IntKind.i64.wrap n=n:=by
 rw [IntKind.wrap_i64];omega
theorem p5 {op:BinOp} {t t':TypeId} {a b c:Int} (ho:o.op=.binOp op t x y t') (hx:ev T x=some (.v (.int .i64 a))) (hy:ev T y=some (.v (.int .i64 b))) (hc:arI op a b=some c)
 (h1:-9223372036854775808<=c) (h2:c<=9223372036854775807):QStep P o T m nx nt (.v (.int .i64 c)):=by
 have:=s3 (P:=P) (m:=m) (nx:=nx) (nt:=nt) ho hx hy hc
 rwa [O2 h1 h2] at this
theorem c2g {x y:Operand} {t t':TypeId} {k:IntKind} {a b:Int} (ho:o.op=.binOp .quo t x y t') (hx:ev T x=some (.v (.int k a))) (hy:ev T y=some (.v (.int k b))) (hb:b≠0) :
 QStep P o T m nx nt (.v (.int k (k.wrap (a.tdiv b)))) :=
 QStep.val λw0 ρ ac hT w'=>by
  have h1:=hT.ev hx
  have h2:=hT.ev hy
  simp only [RelV] at h1 h2
  simp [execOp,ho,h1,h2,eqGuard,binOp,Op.intDiv,hb]
theorem b5z {x y:Operand} {t t':TypeId} {k:IntKind} {a b:Int} (ho:o.op=.binOp .rem t x y t') (hx:ev T x=some (.v (.int k a))) (hy:ev T y=some (.v (.int k b))) (hb:b≠0) :
 QStep P o T m nx nt (.v (.int k (a.tmod b))) :=
 QStep.val λw0 ρ ac hT w'=>by
  have h1:=hT.ev hx
  have h2:=hT.ev hy
  simp only [RelV] at h1 h2
  simp [execOp,ho,h1,h2,eqGuard,binOp,Op.intDiv,hb]
theorem b6Q {t t':TypeId} {a b:Int} (ho:o.op=.binOp .quo t x y t') (hx:ev T x=some (.v (.int .i64 a))) (hy:ev T y=some (.v (.int .i64 b))) (ha:0<=a) (ha2:a<=9223372036854775807) (hb:0 < b) :
 QStep P o T m nx nt (.v (.int .i64 (a / b))):=by
 have:=c2g (P:=P) (m:=m) (nx:=nx) (nt:=nt) ho hx hy J
 rw [Int.tdiv_eq_ediv_of_nonneg ha] at this
 have h1:0<=a / b:=Int.ediv_nonneg ha J
 have h2:a / b<=a:=Int.ediv_le_self _ ha
 rwa [O2 J J] at this
theorem a7O {t t':TypeId} {a b:Int} (ho:o.op=.binOp .rem t x y t') (hx:ev T x=some (.v (.int .i64 a))) (hy:ev T y=some (.v (.int .i64 b))) (ha:0<=a) (hb:0 < b) :
 QStep P o T m nx nt (.v (.int .i64 (a % b))):=by
 have:=b5z (P:=P) (m:=m) (nx:=nx) (nt:=nt) ho hx hy J
 grind
theorem c2h {t t':TypeId} {a:Bool} (ht:P.underlying t=some .bool) (ho:o.op=.binOp .eql t x y t') (hx:ev T x=some (.v (.bool a))) (hy:ev T y=some (.v (.bool b))) :
 QStep P o T m nx nt (.v (.bool (a==b))) :=
 QStep.val λw0 ρ ac hT w'=>by
  have h1:=hT.ev hx
  have h2:=hT.ev hy
  simp only [RelV] at h1 h2
  simp [execOp,ho,h1,h2,eqGuard_at_bool,run_eql_bool w' t a b ht,run_neq_bool w' t a b ht]
theorem c67 {t t':TypeId} {a:Bool} (ht:P.underlying t=some .bool) (ho:o.op=.binOp .neq t x y t') (hx:ev T x=some (.v (.bool a))) (hy:ev T y=some (.v (.bool b))) :
 QStep P o T m nx nt (.v (.bool (!(a==b)))) :=
 QStep.val λw0 ρ ac hT w'=>by
  have h1:=hT.ev hx
  have h2:=hT.ev hy
  simp only [RelV] at h1 h2
  simp [execOp,ho,h1,h2,eqGuard_at_bool,run_eql_bool w' t a b ht,run_neq_bool w' t a b ht]
end
section
variable {w0:Base} {ρ:Nat→Value} {m:List (Nat×Option Row)} {nx:Nat}
theorem D0 (a:Addr) (n:Nat):(a.add n).block=a.block:=by unfold Addr.add;split<;>rfl
theorem a2t (a:Addr) (i j:Nat):(a.add i).add j=a.add (i+j):=by
 unfold Addr.add
 grind
theorem RelC.old (h:RelC w0 ρ m nx w) {p:Addr} (hp:p.block < w0.w.heap.size):w.cell? p=w0.w.cell? p:=h.below.cell hp
theorem RelC.box (h:RelC w0 ρ m nx w) {id:Nat} {cs:List AV} (hm:mem m id=some (.box cs)):∃b cur ty,ρ id=.pointer (some ⟨b,0,none⟩)/\w0.w.heap.size<=b/\w.heap[b]?=some (.cells cur ty (0,0))/\RelVs w0 ρ nx cs cur.toList/\∀u∈cur.toList,u.oneCell'=true :=
 (h.rows id _ hm).2
theorem RelC.row (h:RelC w0 ρ m nx w) {id e sz:Nat} {ys:List (List Value)} (hm:mem m id=some (.row e sz ys)):w.ownsRow w0.w.heap.size e sz (ρ id) ys.length ys.flatten/\∀c∈ys,c.length=sz/\∀u∈c,u.oneCell'=true :=
 (h.rows id _ hm).2
theorem O7 {ys:List (List Value)} {sz:Nat}:(∀c∈ys,c.length=sz)→∀{i:Nat} {c:List Value},ys[i]?=some c→∀{j:Nat},j < sz→ys.flatten[i * sz+j]?=c[j]?:=by
 induction ys with
 | nil=>intro _ i c h;simp at h
 | cons y ys ih =>
  intro hall i c hi j hj
  have hy:y.length=sz:=hall y (by simp)
  match i with
  | 0 =>
   grind
  | i+1 =>
   simp at hi
   have:=ih (λc hc=>hall c (by simp [hc])) hi hj
   grind
theorem m6 {ys:List (List Value)} {sz:Nat} (h:∀c∈ys,c.length=sz):ys.flatten.length=ys.length * sz:=by
 induction ys with
 | nil=>simp
 | cons y ys ih=>simp [ih (λc hc=>h c (by simp [hc])),h y (by simp),Nat.add_mul,Nat.add_comm]
theorem RelC.rowCell0 (h:RelC w0 ρ m nx w) {id e sz:Nat} {ys:List (List Value)} (hm:mem m id=some (.row e sz ys)) {g l c:Nat} (hρ:ρ id=.slice (some ⟨g,0,none⟩) l c)
 {i:Nat} {cs:List Value} (hi:ys[i]?=some cs) {j:Nat} {u:Value} (hj:cs[j]?=some u):w.cell? ⟨g,i * sz+j,none⟩=some u:=by
 obtain ⟨h1,h2⟩:=h.row hm
 rw [hρ] at h1
 have hlen:cs.length=sz:=(h2 cs (List.mem_of_getElem? hi)).1
 have hjl:j < sz:=by
  grind
 have hil:i < ys.length:=by
  grind
 have hf:=O7 (sz:=sz) (λc hc=>(h2 c hc).1) hi hjl
 have:=h1.cells (g:=g) Z (i * sz+j) u (by rw [hf,hj])
 simpa [Addr.add_lit] using this
theorem TlR.of {sz:Nat} (h:w.ownsRow B e sz v ys.length ys.flatten):TlR w B e sz v ys:=by
 rcases h.2 with ⟨h1,h2⟩ | ⟨g,cap,cur,h1,h2,h3,h4,h5,h6,h7⟩
 ·exact .inl ⟨h1,List.eq_nil_of_length_eq_zero h2⟩
 ·exact .inr ⟨g,0,cap,cur,h1,h2,h3,h4,Nat.zero_le _,h7⟩
theorem OwnR.no {sz:Nat}:OwnR w B e sz false v ys=w.ownsRow B e sz v ys.length ys.flatten:=rfl
theorem OwnR.nil {sz:Nat}:OwnR w B e sz f (.slice none 0 0) []:=by
 cases f
 ·exact World.ownsRow_nil _ _ _ _
 ·exact .inl ⟨Z,Z⟩
theorem OwnR.gen {sz:Nat} (h:OwnR w B e sz f v ys):TlR w B e sz v ys:=by
 cases f
 ·exact TlR.of h
 ·exact h
theorem OwnR.up {sz:Nat} {f':Bool} (h:OwnR w B e sz f v ys) (hf:f=true→f'=true):OwnR w B e sz f' v ys:=by
 cases f'
 ·grind
 ·exact h.gen
theorem TlR.cell {sz:Nat} (h:TlR w B e sz v ys) (hall:∀c∈ys,c.length=sz) {g o l c:Nat} (hv:v=.slice (some ⟨g,o,none⟩) l c) {i:Nat} {cs:List Value} (hi:ys[i]?=some cs) {j:Nat} {u:Value} (hj:cs[j]?=some u):w.cell? ⟨g,o+(i * sz+j),none⟩=some u:=by
 rcases h with ⟨h1,_⟩ | ⟨g',o',cap,cur,h1,h2,h3,h4,_,h5⟩
 ·rw [hv] at h1;cases h1
 ·rw [hv] at h1
  simp at h1
  obtain ⟨⟨rfl,rfl⟩,_,_⟩:=h1
  have hjl:j < sz:=by rw [← hall cs (List.mem_of_getElem? hi)];exact (List.getElem?_eq_some_iff.1 hj).1
  have hil:i < ys.length:=(List.getElem?_eq_some_iff.1 hi).1
  have hf:=O7 (sz:=sz) hall hi hjl
  rw [hj,← h5,List.getElem?_take] at hf
  split at hf
  ·rw [List.getElem?_drop] at hf
   simp only [World.cell?,h3]
   simpa using hf
  ·cases hf
theorem RelC.rowF (h:RelC w0 ρ m nx w) {id e sz:Nat} {ys:List (List Value)} {f:Bool} (hm:mem m id=some (.row e sz ys f)):OwnR w w0.w.heap.size e sz f (ρ id) ys/\∀c∈ys,c.length=sz/\∀u∈c,u.oneCell'=true:=(h.rows id _ hm).2
theorem RelC.rowCell (h:RelC w0 ρ m nx w) {id e sz:Nat} {ys:List (List Value)} {f:Bool} (hm:mem m id=some (.row e sz ys f)) {g o l c:Nat} (hρ:ρ id=.slice (some ⟨g,o,none⟩) l c)
 {i:Nat} {cs:List Value} (hi:ys[i]?=some cs) {j:Nat} {u:Value} (hj:cs[j]?=some u):w.cell? ⟨g,o+(i * sz+j),none⟩=some u:=by
 obtain ⟨h1,h2⟩:=h.rowF hm
 exact h1.gen.cell (λc hc=>(h2 c hc).1) hρ hi hj
theorem OwnR.blk_lt {sz:Nat} (h:OwnR w B e sz f v ys) {b:Nat} (hb:blk v=some b):B<=b/\b < w.heap.size:=by
 rcases h.gen with ⟨h1,_⟩ | ⟨g,o,cap,cur,h1,h2,h3,_⟩
 ·rw [h1] at hb;cases hb
 ·grind [blk]
theorem OwnR.blkOwn {sz:Nat} (h:OwnR w B e sz f v ys):blk v=v.ownBlock:=by
 rcases h.gen with ⟨h1,_⟩ | ⟨g,o,cap,cur,h1,h2,h3,_⟩
 ·rw [h1];rfl
 ·rw [h1];rfl
theorem OwnR.slice {sz:Nat} (h:OwnR w B e sz f v ys):∃A cap,v=.slice A ys.length cap/\ys.length<=cap:=by
 rcases h.gen with ⟨h1,rfl⟩ | ⟨g,o,cap,cur,h1,_,_,h4,_⟩
 ·exact ⟨_,_,h1,Nat.zero_le _⟩
 ·exact ⟨_,_,h1,h4⟩
theorem OwnR.slice0 {sz:Nat} (h:OwnR w B e sz f v ys) (h0:0 < ys.length):∃g o cap,v=.slice (some ⟨g,o,none⟩) ys.length cap/\B<=g/\g < w.heap.size/\ys.length<=cap:=by
 rcases h.gen with ⟨h1,rfl⟩ | ⟨g,o,cap,cur,h1,h2,h3,h4,_⟩
 ·simp at h0
 ·exact ⟨g,o,cap,h1,h2,(Array.getElem?_eq_some_iff.1 h3).1,h4⟩
theorem Z7 {y:Value} {r:Row} (h:∀b,blk y=some b→w'.heap[b]?=w.heap[b]?):∀p,inn w' y r p=inn w y r p:=by
 intro p
 cases r<;>try rfl
 rename_i e sz yss op
 simp only [inn,A3]
 split
 ·cases y<;>try rfl
  rename_i A l c
  cases A with
  | none=>rfl
  | some a =>
   simp only
   rw [World.cell?_of_block (w:=w) (w':=w') (by rw [D0];exact h a.block Z)]
 ·rfl
theorem a5x {sz:Nat} {y:Value} (h:w.ownsRow B e sz y n xs) (hb:∀b,blk y=some b→w'.heap[b]?=w.heap[b]?):w'.ownsRow B e sz y n xs:=by
 refine ⟨h.1,?_⟩
 rcases h.2 with h1 | ⟨g,cap,cur,h1,h2,h3,h4⟩
 ·exact .inl h1
 ·exact .inr ⟨g,cap,cur,h1,h2,by rw [hb g (by rw [h1];rfl)];exact h3,h4⟩
theorem OwnR.frame {sz:Nat} {y:Value} (h:OwnR w B e sz f y ys) (hb:∀b,blk y=some b→w'.heap[b]?=w.heap[b]?):OwnR w' B e sz f y ys:=by
 cases f
 ·exact a5x h hb
 ·rcases h with h1 | ⟨g,o,cap,cur,h1,h2,h3,h4⟩
  ·exact .inl h1
  ·exact .inr ⟨g,o,cap,cur,h1,h2,by rw [hb g (by rw [h1];rfl)];exact h3,h4⟩
theorem CIRel.frame {c:CI} (h:CIRel B w c u) (hb:(∃e sz ys f,c=.l e sz ys f)→∀b,blk u=some b→w'.heap[b]?=w.heap[b]?):CIRel B w' c u:=by
 cases c with
 | v x=>exact h
 | x=>exact h
 | l e sz ys f=>exact ⟨h.1.frame (hb ⟨_,_,_,_,Z⟩),h.2⟩
theorem D8 {α:Type} {l:List (List α)} {i:Nat} {x:α}:C0 l i k=some x↔∃c,l[i]?=some c/\c[k]?=some x:=by
 simp only [C0,Option.bind_eq_some_iff]
theorem b6R {l:List (List Value)} {sz i:Nat} (hall:∀c∈l,c.length=sz) (h:C0 l i k=some u):l.flatten[i * sz+k]?=some u:=by
 grind [D8,O7]
theorem NestC.cell {y:Value} {sz:Nat} {cells:List (List Value)} (h:NestC B w y e sz yss cells) {g l c:Nat} (hy:y=.slice (some ⟨g,0,none⟩) l c) {i k:Nat} {u:Value} (hu:C0 cells i k=some u):w.cell? ⟨g,i * sz+k,none⟩=some u:=by
 have:=h.1.cells (g:=g) (by rw [hy];rfl) _ u (b6R (λc hc=>(h.2.2.1 c hc).1) hu)
 simpa [Addr.add_lit] using this
theorem NestC.shape {y:Value} {sz:Nat} {cells:List (List Value)} (h:NestC B w y e sz yss cells):(y=.slice none 0 0/\yss=[])∨∃g cap,y=.slice (some ⟨g,0,none⟩) yss.length cap/\B<=g/\g < w.heap.size/\yss.length<=cap:=by
 rcases h.1.2 with ⟨h1,h2⟩ | ⟨g,cap,cur,h1,h2,h3,h4,_⟩
 ·exact .inl ⟨h1,List.eq_nil_of_length_eq_zero h2⟩
 ·exact .inr ⟨g,cap,h1,h2,(Array.getElem?_eq_some_iff.1 h3).1,h4⟩
theorem NestC.off {y:Value} {sz:Nat} {cells:List (List Value)} (h:NestC B w y e sz yss cells) {g o l c:Nat} (hy:y=.slice (some ⟨g,o,none⟩) l c):o=0:=by
 rcases h.shape with ⟨h1,_⟩ | ⟨g',cap,h1,_⟩
 ·rw [hy] at h1;cases h1
 ·rw [hy] at h1;simp at h1;exact h1.1.2
theorem NestC.at {y:Value} {sz:Nat} {cells:List (List Value)} (h:NestC B w y e sz yss cells) {i k e' sz':Nat} {ys:List (List Value)} {f:Bool} (hc:C0 yss i k=some (.l e' sz' ys f)) :
 ∃u,C0 cells i k=some u/\(OwnR w B e' sz' f u ys/\∀c∈ys,c.length=sz'/\∀v∈c,v.oneCell'=true)/\A3 w y sz yss (i,k)=blk u:=by
 obtain ⟨u,h1,h2⟩:=h.2.2.2.2 i k _ hc
 refine ⟨u,h1,h2,?_⟩
 simp only [A3,hc]
 rcases h.shape with ⟨_,h3⟩ | ⟨g,cap,h3,_⟩
 ·subst h3;simp [C0] at hc
 ·subst h3
  simp only
  rw [Addr.add_lit,Nat.zero_add,h.cell Z h1]
  rfl
theorem NestC.inn {y:Value} {sz:Nat} {cells:List (List Value)} (h:NestC B w y e sz yss cells) {p:Nat×Nat} {b:Nat} (hb:A3 w y sz yss p=some b) :
 ∃e' sz' ys f u,C0 yss p.1 p.2=some (.l e' sz' ys f)/\C0 cells p.1 p.2=some u/\blk u=some b/\B<=b/\b < w.heap.size:=by
 unfold A3 at hb
 split at hb
 ·rename_i e' sz' ys f hc
  obtain ⟨u,h1,h2,h3⟩:=h.at hc
  simp only [A3,hc] at h3
  rw [h3] at hb
  exact ⟨e',sz',ys,f,u,hc,h1,hb,h2.1.blk_lt hb⟩
 ·cases hb
theorem NestC.frame {y:Value} {sz:Nat} {cells:List (List Value)} (h:NestC B w y e sz yss cells) (hb:∀b,blk y=some b→w'.heap[b]?=w.heap[b]?) (hi:∀p b,A3 w y sz yss p=some b→w'.heap[b]?=w.heap[b]?):NestC B w' y e sz yss cells:=by
 refine ⟨a5x h.1 hb,h.2.1,h.2.2.1,h.2.2.2.1,λi k c hc=>?_⟩
 obtain ⟨u,h1,h2⟩:=h.2.2.2.2 i k c hc
 refine ⟨u,h1,h2.frame ?_⟩
 rintro ⟨e',sz',ys,f,rfl⟩ b hbu
 obtain ⟨u',g1,_,g3⟩:=h.at hc
 grind
theorem RowRel.frame {w0:World} {row:Row} (h:RowRel w0 ρ nx w id row) (hb:∀b,blk (ρ id)=some b→w'.heap[b]?=w.heap[b]?) (hi:∀p b,inn w (ρ id) row p=some b→w'.heap[b]?=w.heap[b]?):RowRel w0 ρ nx w' id row:=by
 cases row with
 | box cs =>
  obtain ⟨b,cur,ty,h3,h4,h5,h6⟩:=h
  exact ⟨b,cur,ty,h3,h4,by rw [hb b (by rw [h3];rfl)];exact h5,h6⟩
 | spare e sz ys gs =>
  obtain ⟨g,cur,h3,h4,h5,h6⟩:=h
  exact ⟨g,cur,h3,h4,by rw [hb g (by rw [h3];rfl)];exact h5,h6⟩
 | byt bs =>
  obtain ⟨g,cap,cur,e,fz,h3,h4,h5,h6⟩:=h
  exact ⟨g,cap,cur,e,fz,h3,h4,by rw [hb g (by rw [h3];rfl)];exact h5,h6⟩
 | row e sz ys f=>exact ⟨h.1.frame hb,h.2⟩
 | nest e sz yss op =>
  obtain ⟨cells,h1,h2⟩:=h
  exact ⟨cells,h1.frame hb hi,h2⟩
theorem RowRel.to {w0:World} {id':Nat} {row:Row} (h:RowRel w0 ρ nx w id row) (he:ρ' id'=ρ id) (hbox:∀cs,row=.box cs→∀l,RelVs w0 ρ nx cs l→RelVs w0 ρ' nx' cs l)
 (hop:∀e sz yss op,row=.nest e sz yss op→∀q∈op,q.2.2 < nx→q.2.2 < nx'/\ρ' q.2.2=ρ q.2.2):RowRel w0 ρ' nx' w id' row:=by
 cases row with
 | box cs =>
  obtain ⟨b,cur,ty,h3,h4,h5,h6,h7⟩:=h
  exact ⟨b,cur,ty,by rw [he];exact h3,h4,h5,hbox _ Z _ h6,h7⟩
 | spare e sz ys gs=>simp only [RowRel] at h ⊢;rw [he];exact h
 | byt bs=>simp only [RowRel] at h ⊢;rw [he];exact h
 | row e sz ys f=>simp only [RowRel] at h ⊢;rw [he];exact h
 | nest e sz yss op =>
  obtain ⟨cells,h1,h2⟩:=h
  refine ⟨cells,by rw [he];exact h1,λq hq=>?_⟩
  grind
theorem RowRel.blk_lt {w0:World} {row:Row} (h:RowRel w0 ρ nx w id row) {b:Nat} (hb:blk (ρ id)=some b):w0.heap.size<=b/\b < w.heap.size:=by
 have own:∀{e sz n:Nat} {xs:List Value},w.ownsRow w0.heap.size e sz (ρ id) n xs→w0.heap.size<=b/\b < w.heap.size:=λh=>by
  rcases h.2 with ⟨h1,_⟩ | ⟨g,cap,cur,h1,h2,h3,_⟩
  ·rw [h1] at hb;simp [blk] at hb
  ·grind [blk]
 cases row with
 | box cs =>
  obtain ⟨b',cur,ty,h1,h2,h3,_⟩:=h
  rw [h1] at hb
  simp [blk] at hb
  grind
 | spare e sz ys gs =>
  obtain ⟨g,cur,h1,h2,h3,_⟩:=h
  rw [h1] at hb
  simp [blk] at hb
  grind
 | byt bs =>
  obtain ⟨g,cap,cur,e,fz,h1,h2,h3,_⟩:=h
  rw [h1] at hb
  simp [blk] at hb
  grind
 | row e sz ys f=>exact h.1.blk_lt hb
 | nest e sz yss op=>obtain ⟨cells,h1,_⟩:=h;exact own h1.1
theorem RelC.inner' {m':List (Nat×Option Row)} (hC:RelC w0 ρ m nx w) (hs:w.heap.size<=w'.heap.size) (hrows:∀id r,mem m' id=some r→(∀p,inn w' (ρ' id) r p=none)∨∃r0,mem m id=some r0/\∀p b,inn w' (ρ' id) r p=some b→inn w (ρ id) r0 p=some b)
 (hblk:∀id r,mem m' id=some r→∀b,blk (ρ' id)=some b→(∃id0 r0,mem m id0=some r0/\blk (ρ id0)=some b)∨w.heap.size<=b):Inner w0 ρ' m' w':=by
 intro id r hr p b hb
 rcases hrows id r hr with h | ⟨r0,h1,h2⟩
 ·rw [h p] at hb;cases hb
 ·have hb2:=h2 p b hb
  obtain ⟨g1,g2,g3,g4⟩:=hC.inner id r0 h1 p b hb2
  grind
theorem RelC.blkne (hC:RelC w0 ρ m nx w) {id id':Nat} {r r':Row} (hm:mem m id=some r) (hm':mem m id'=some r') {p:Nat×Nat} {b:Nat} (hb:inn w (ρ id) r p=some b):blk (ρ id')≠some b:=((hC.inner id r hm p b hb).2.2.2 id' r' hm').1
end
section
variable {P:Program} [Env P] {tb:List (Nat×TyI)} {o:Oper} {T:List (Nat×AV)} {m:List (Nat×Option Row)} {nx nt:Nat} {r:AV}
def a0T:TyI→Bool
 | .struct _ _=>false
 | _=>true
theorem TyOK.run_isAgg {t:TypeId} (h:TyOK P t i) (w:World):(isAgg t).run P w=.ok (!a0T i) w:=by
 unfold isAgg
 cases i with
 | flat fk z =>
  obtain ⟨_,⟨d,hd,h1,h2⟩,_⟩:=h
  simp only [Sem.run_bind,run_underlying hd,Result.andThen_ok,a0T]
  cases d<;>simp_all
 | slice e sz by_ zs =>
  simp only [Sem.run_bind,run_underlying h.1,Result.andThen_ok,a0T]
  simp
 | struct fs zs =>
  obtain ⟨fields,i,hu,_⟩:=h
  simp only [Sem.run_bind,run_underlying hu,Result.andThen_ok,a0T]
  simp
def X2:TyI→Nat
 | .struct _ zs=>zs.length
 | _=>1
theorem TyOK.run_sizeOf {t:TypeId} (h:TyOK P t i) (w:World):(sizeOf t).run P w=.ok (X2 i) w:=by
 cases i with
 | flat fk z=>obtain ⟨_,_,i,hi,_,h1,_⟩:=h;simp [sizeOf,typeInfo,hi,h1,X2]
 | slice e sz by_ zs=>obtain ⟨_,⟨i,hi,_,h1⟩,_⟩:=h;simp [sizeOf,typeInfo,hi,h1,X2]
 | struct fs zs=>obtain ⟨fields,i,hu,hi,h1,_⟩:=h;simp [sizeOf,typeInfo,hi,h1,X2]
theorem S7 {t:TypeId} (G:TyOK P t i) (hf:a0T i=true) {w:World} {p:Addr} {u:Value} (h:w.cell? p=some u):(Instr.loadAt t (.pointer (some p))).run P w=.ok u w:=by
 simp [Instr.loadAt,Instr.sureAddr,loadVar,G.run_isAgg w,hf,h]
theorem G9 {t:TypeId} (G:TyOK P t (.struct fs zs)) {w:World} {p:Addr} {us:List Value} (hl:us.length=zs.length) (h:∀j u,us[j]?=some u→w.cell? (p.add j)=some u) :
 (Instr.loadAt t (.pointer (some p))).run P w=.ok (.agg us.toArray) w:=by
 have h1:=run_loadCells_list (P:=P) w p us h
 rw [hl] at h1
 simp [Instr.loadAt,Instr.sureAddr,loadVar,G.run_isAgg w,a0T,G.run_sizeOf w,X2,h1]
theorem V2 {b:Nat} {cur:Array Value} {ty:TypeId} {fr:Nat×Nat} (h:w.heap[b]?=some (.cells cur ty fr)) (i:Nat):w.cell? ⟨b,i,none⟩=cur.toList[i]?:=by
 simp [World.cell?,h]
def b2h:AV→Bool
 | .v _=>true
 | .own _=>true
 | .ptr _ _=>true
 | .rpt _ _ _ _=>true
 | .pin _ _ _=>true
 | .nst (some _) _ _=>true
 | _=>false
theorem b2i {c:AV} (hd:b2h c=true) {y y':Value} (h:RelV w0 ρ nx c y) (h':RelV w0 ρ nx c y'):y'=y:=by
 cases c<;>simp [b2h] at hd<;>simp only [RelV] at h h'
 case nst z _ _ =>
  cases z with
  | none=>simp [b2h] at hd
  | some v=>rw [h.1 v Z,h'.1 v Z]
 case v=>rw [h,h']
 case own=>rw [h.2,h'.2]
 case pin=>rw [h.1,h'.1]
 case ptr =>
  obtain ⟨_,g,h1,rfl⟩:=h
  obtain ⟨_,g',h1',rfl⟩:=h'
  rw [h1] at h1'
  simp at h1'
  rw [h1']
 case rpt =>
  obtain ⟨_,g,o,l,c,h1,rfl⟩:=h
  obtain ⟨_,g',o',l',c',h1',rfl⟩:=h'
  rw [h1] at h1'
  simp at h1'
  rw [h1'.1.1,h1'.1.2]
def a5y:List AV→Bool
 | []=>true
 | c :: cs=>b2h c && a5y cs
theorem a6z:∀{cs:List AV},a5y cs=true→∀{y y':List Value},RelVs w0 ρ nx cs y→RelVs w0 ρ nx cs y'→y'=y
 | [],_,_,_,h,h'=>by simp only [RelVs] at h h';rw [h,h']
 | c :: cs,hd,_,_,h,h'=>by
  simp only [RelVs] at h h'
  simp only [a5y,Bool.and_eq_true] at hd
  obtain ⟨y,ys,rfl,h1,h2⟩:=h
  obtain ⟨y',ys',rfl,h1',h2'⟩:=h'
  rw [b2i hd.1 h1 h1',a6z hd.2 h2 h2']
theorem f7 {t:TypeId} {off:Nat} (G:Good P tb) (ho:o.op=.load t x) (ht:look t tb=some i) (hf:a0T i=true) (hx:ev T x=some (.ptr id off)) (hm:mem m id=some (.box cs))
 (hr:nth cs off=some r) (hd:b2h r=true):QStep P o T m nx nt r :=
 QStep.run λw0 ρ a w hT hC=>by
  have h:=hT.ev hx
  simp only [RelV] at h
  obtain ⟨_,g,hg,he⟩:=h
  rw [a32] at hr
  obtain ⟨b,cur,ty,hρ,_,hb,hR,_⟩:=hC.box hm
  rw [hg] at hρ
  simp at hρ
  subst hρ
  obtain ⟨u,hu,h1⟩:=RelVs.get _ hR off r hr
  refine ⟨u,h1,λw' hC'=>?_⟩
  obtain ⟨b',cur',ty',hρ',_,hb',hR',_⟩:=hC'.box hm
  rw [hg] at hρ'
  simp at hρ'
  subst hρ'
  obtain ⟨u',hu',h1'⟩:=RelVs.get _ hR' off r hr
  have:=b2i hd h1 h1'
  subst this
  have hc:w'.cell? ⟨g,off,none⟩=some u':=by rw [V2 hb',hu']
  simp [execOp,ho,he,S7 (G t i ht) hf hc]
theorem d1 {t:TypeId} {off:Nat} (G:Good P tb) (ho:o.op=.load t x) (ht:look t tb=some (.struct fs zs)) (hx:ev T x=some (.ptr id off)) (hm:mem m id=some (.box cs))
 (hr:a3N zs.length (a0S off cs) []=some rs) (hd:a5y rs=true):QStep P o T m nx nt (.agg rs) :=
 QStep.run λw0 ρ a w hT hC=>by
  have h:=hT.ev hx
  simp only [RelV] at h
  obtain ⟨_,g,hg,he⟩:=h
  obtain ⟨hrs,hlen⟩:=Z6 _ _ _ _ hr
  rw [X1] at hrs hlen
  simp at hrs
  have key:∀w',RelC w0 ρ m nx w'→∃ys:List Value,RelVs w0 ρ nx rs ys/\(execOp a.eval o).run P w'=.ok (.value (.agg ys.toArray)) w':=by
   intro w' hC'
   obtain ⟨b,cur,ty,hρ,_,hb,hR,_⟩:=hC'.box hm
   rw [hg] at hρ
   simp at hρ
   subst hρ
   have hR2:RelVs w0 ρ nx rs ((cur.toList.drop off).take zs.length):=by rw [hrs];exact (RelVs.drop off _ hR).take _ _
   refine ⟨_,hR2,?_⟩
   have hl:=RelVs.length _ hR2
   have hl2:rs.length=zs.length:=by rw [hrs,List.length_take];omega
   have:=G9 (G t _ ht) (w:=w') (p:=⟨g,off,none⟩) (us:=(cur.toList.drop off).take zs.length) (by rw [hl,hl2]) (λj u hj=>by
    rw [Addr.add_lit,V2 hb]
    rw [List.getElem?_take] at hj
    split at hj
    ·rw [List.getElem?_drop] at hj;exact hj
    ·cases hj)
   simp [execOp,ho,he,this]
  obtain ⟨ys,h1,h2⟩:=key w hC
  refine ⟨.agg ys.toArray,by simp only [RelV];exact ⟨ys,Z,h1⟩,λw' hC'=>?_⟩
  obtain ⟨ys',h1',h2'⟩:=key w' hC'
  rw [a6z hd h1 h1'] at h2'
  exact h2'
theorem a5O {t:TypeId} (G:Good P tb) (ho:o.op=.load t x) (ht:look t tb=some i) (hf:a0T i=true) (hx:ev T x=some (.ept c)) (hr:nth c 0=some u):QStep P o T m nx nt (.v u) :=
 QStep.run λw0 ρ a w hT hC=>by
  have h:=hT.ev hx
  simp only [RelV] at h
  obtain ⟨ad,he,hb,_,hc⟩:=h
  rw [a32] at hr
  refine ⟨u,by simp only [RelV],λw' hC'=>?_⟩
  have h0:=hc 0 u hr
  rw [Addr.add_zero'] at h0
  simp [execOp,ho,he,S7 (G t i ht) hf ((hC'.old hb).trans h0)]
theorem a1A {t:TypeId} (G:Good P tb) (ho:o.op=.load t x) (ht:look t tb=some (.struct fs zs)) (hx:ev T x=some (.ept c)) (hr:a3N zs.length c []=some us) :
 QStep P o T m nx nt (.agg (avR us [])) :=
 QStep.run λw0 ρ a w hT hC=>by
  have h:=hT.ev hx
  simp only [RelV] at h
  obtain ⟨ad,he,hb,_,hc⟩:=h
  obtain ⟨hus,hlen⟩:=Z6 _ _ _ _ hr
  simp at hus
  refine ⟨.agg us.toArray,by simp only [RelV];exact ⟨us,Z,by rw [a33];exact RelVs.map_v us⟩,λw' hC'=>?_⟩
  have:=G9 (G t _ ht) (w:=w') (p:=ad) (us:=us) (by rw [hus,List.length_take];omega) (λj u hj=>by
   rw [hC'.old (by rw [D0];exact hb)]
   refine hc j u ?_
   rw [hus,List.getElem?_take] at hj
   split at hj
   ·exact hj
   ·cases hj)
  simp [execOp,ho,he,this]
theorem f8 {t:TypeId} {sz:Nat} (G:Good P tb) (ho:o.op=.load t x) (ht:look t tb=some i) (hf:a0T i=true) (hx:ev T x=some (.rpt id sz j k)) (hm:mem m id=some (.row e sz ys f))
 (hc:ys[j]?=some c) (hr:nth c k=some u):QStep P o T m nx nt (.v u) :=
 QStep.run λw0 ρ a w hT hC=>by
  have h:=hT.ev hx
  simp only [RelV] at h
  obtain ⟨_,g,o',l,cp,hg,he⟩:=h
  rw [a32] at hr
  refine ⟨u,by simp only [RelV],λw' hC'=>?_⟩
  simp [execOp,ho,he,S7 (G t i ht) hf (hC'.rowCell hm hg hc hr)]
theorem f6 {t:TypeId} {sz:Nat} (G:Good P tb) (ho:o.op=.load t x) (ht:look t tb=some (.struct fs zs)) (hx:ev T x=some (.rpt id sz j k)) (hm:mem m id=some (.row e sz ys f))
 (hc:ys[j]?=some c) (hr:a3N zs.length (a0S k c) []=some us):QStep P o T m nx nt (.agg (avR us [])) :=
 QStep.run λw0 ρ a w hT hC=>by
  have h:=hT.ev hx
  simp only [RelV] at h
  obtain ⟨_,g,o',l,cp,hg,he⟩:=h
  obtain ⟨hus,hlen⟩:=Z6 _ _ _ _ hr
  rw [X1] at hus hlen
  simp at hus
  refine ⟨.agg us.toArray,by simp only [RelV];exact ⟨us,Z,by rw [a33];exact RelVs.map_v us⟩,λw' hC'=>?_⟩
  have:=G9 (G t _ ht) (w:=w') (p:=⟨g,o'+(j * sz+k),none⟩) (us:=us) (by rw [hus,List.length_take];omega) (λq u hj=>by
   rw [Addr.add_lit,Nat.add_assoc,Nat.add_assoc]
   refine hC'.rowCell hm hg hc ?_
   rw [hus,List.getElem?_take] at hj
   split at hj
   ·rw [List.getElem?_drop] at hj;exact hj
   ·cases hj)
  simp [execOp,ho,he,this]
theorem a1B {t:TypeId} (G:TyOK P t (.struct fs zs)) {k off ft:Nat} (hk:nth fs k=some (off,ft)) (p:Addr) (w:World) :
 (Instr.fieldAt t (.pointer (some p)) k).run P w=.ok (.pointer (some (p.add off))) w:=by
 obtain ⟨fields,i,hu,_,_,_,_,_,hf⟩:=G
 rw [a32] at hk
 obtain ⟨f,j,h1,rfl,rfl,hj,hne⟩:=hf k off ft hk
 simp [Instr.fieldAt,run_underlying hu,h1,Instr.sureAddr,fieldPlace,sizeOf,typeInfo,hj,hne]
theorem d3 {t:TypeId} {off:Nat} (G:Good P tb) (ho:o.op=.fieldAddr t x k) (ht:look t tb=some (.struct fs zs)) (hk:nth fs k=some (off,ft)) (hx:ev T x=some (.ptr id a0)) :
 QStep P o T m nx nt (.ptr id (Nat.add a0 off)) :=
 QStep.run λw0 ρ a w hT hC=>by
  have h:=hT.ev hx
  simp only [RelV] at h
  obtain ⟨hn,g,hg,he⟩:=h
  refine ⟨.pointer (some ⟨g,a0+off,none⟩),by simp only [RelV];exact ⟨hn,g,hg,Z⟩,λw' hC'=>?_⟩
  simp only [execOp,ho,he,Sem.run_bind,a1B (G t _ ht) hk,Addr.add_lit,Result.andThen_ok,Sem.run_pure]
theorem a34 {t:TypeId} {off sz i:Nat} (G:Good P tb) (ho:o.op=.fieldAddr t x k) (ht:look t tb=some (.struct fs zs)) (hk:nth fs k=some (off,ft)) (hx:ev T x=some (.rpt id sz i a0)) :
 QStep P o T m nx nt (.rpt id sz i (Nat.add a0 off)) :=
 QStep.run λw0 ρ a w hT hC=>by
  have h:=hT.ev hx
  simp only [RelV] at h
  obtain ⟨hn,g,o',l,c,hg,he⟩:=h
  refine ⟨.pointer (some ⟨g,o'+(i * sz+a0)+off,none⟩),by simp only [RelV];exact ⟨hn,g,o',l,c,hg,by rw [Nat.add_assoc,Nat.add_assoc];rfl⟩,λw' hC'=>?_⟩
  simp only [execOp,ho,he,Sem.run_bind,a1B (G t _ ht) hk,Addr.add_lit,Result.andThen_ok,Sem.run_pure]
theorem a8B {t:TypeId} {off:Nat} (G:Good P tb) (ho:o.op=.fieldAddr t x k) (ht:look t tb=some (.struct fs zs)) (hk:nth fs k=some (off,ft)) (hx:ev T x=some (.ept c)) :
 QStep P o T m nx nt (.ept (a0S off c)) :=
 QStep.run λw0 ρ a w hT hC=>by
  have h:=hT.ev hx
  simp only [RelV] at h
  obtain ⟨ad,he,hb,h1,hc⟩:=h
  refine ⟨.pointer (some (ad.add off)),by
   simp only [RelV]
   refine ⟨_,Z,by rw [D0];exact hb,λu hu=>h1 u (by rw [X1] at hu;exact List.mem_of_mem_drop hu),λj u hj=>?_⟩
   rw [X1,List.getElem?_drop] at hj
   rw [a2t]
   exact hc _ _ hj,λw' hC'=>?_⟩
  simp only [execOp,ho,he,Sem.run_bind,a1B (G t _ ht) hk,Result.andThen_ok,Sem.run_pure]
theorem s8 {off:Nat} (ho:o.op=.nilCheck x) (hx:ev T x=some (.ptr id off)):QStep P o T m nx nt (.ptr id off) :=
 QStep.run λw0 ρ a w hT hC=>by
  have h0:=hT.ev hx
  have h:=h0
  simp only [RelV] at h
  obtain ⟨hn,g,hg,he⟩:=h
  exact ⟨_,h0,λw' _=>by simp [execOp,ho,he]⟩
theorem a7P {sz i off:Nat} (ho:o.op=.nilCheck x) (hx:ev T x=some (.rpt id sz i off)):QStep P o T m nx nt (.rpt id sz i off) :=
 QStep.run λw0 ρ a w hT hC=>by
  have h0:=hT.ev hx
  have h:=h0
  simp only [RelV] at h
  obtain ⟨hn,g,l,c,hg,he⟩:=h
  exact ⟨_,h0,λw' _=>by simp [execOp,ho,he]⟩
def b4C:Value→Option Nat
 | .slice none 0 0=>some 0
 | _=>none
theorem b3m {x:Value} (h:b4C x=some n):x=.slice none 0 0/\n=0:=by
 grind [b4C]
def b6S (m:List (Nat×Option Row)):AV→Option Nat
 | .lst _ ys=>some ys.length
 | .pin _ _ ys=>some ys.length
 | .nst _ _ yss=>some yss.length
 | .own id=>match mem m id with
  | some (.row _ _ ys _)=>some ys.length
  | some (.nest _ _ yss _)=>some yss.length
  | _=>none
 | .sub _ _ _ n=>some n
 | .v x=>b4C x
 | _=>none
theorem b6T {w0:Base} (hC:RelC w0 ρ m nx w) {x:AV} {n:Nat} (h:b6S m x=some n) {y:Value} (hy:RelV w0 ρ nx x y):∃A c,y=.slice A n c:=by
 cases x<;>simp only [b6S] at h
 case lst sz ys =>
  cases h
  simp only [RelV] at hy
  obtain ⟨A,cap,rfl,_⟩:=hy
  exact ⟨A,cap,Z⟩
 case pin z sz ys =>
  cases h
  simp only [RelV] at hy
  obtain ⟨_,A,cap,rfl,_⟩:=hy
  exact ⟨A,cap,Z⟩
 case nst z sz yss =>
  cases h
  simp only [RelV] at hy
  obtain ⟨_,A,cap,rfl,_⟩:=hy
  exact ⟨A,cap,Z⟩
 case own id =>
  simp only [RelV] at hy
  cases hm:mem m id with
  | none=>simp [hm] at h
  | some r =>
   cases r with
   | box cs=>simp [hm] at h
   | byt bs=>simp [hm] at h
   | spare _ _ _ _=>simp [hm] at h
   | nest e sz yss op =>
    simp [hm] at h
    subst h
    obtain ⟨_,cells,h1,_⟩:=hC.rows id _ hm
    rw [hy.2]
    rcases h1.shape with ⟨h2,h3⟩ | ⟨g,cap,h2,_⟩
    ·rw [h2,h3];exact ⟨_,_,Z⟩
    ·rw [h2];exact ⟨_,_,Z⟩
   | row e sz ys f =>
    simp [hm] at h
    subst h
    obtain ⟨h1,_⟩:=hC.rowF hm
    rw [hy.2]
    obtain ⟨A,cap,h2,_⟩:=h1.slice
    exact ⟨A,cap,h2⟩
 case sub id sz i n' =>
  cases h
  simp only [RelV] at hy
  obtain ⟨_,A,cap,rfl,_⟩:=hy
  exact ⟨A,cap,Z⟩
 case v x =>
  simp only [RelV] at hy
  obtain ⟨rfl,rfl⟩:=b3m h
  exact ⟨_,_,hy⟩
 all_goals cases h
theorem K0 {t sz:Nat} (G:Good P tb) (ho:o.op=.call { callee:=.builtin .len,args:=#[x],argTypes:=#[t] }) (ht:look t tb=some (.slice e sz by_ zs)) (hx:ev T x=some ax) (hn:b6S m ax=some n) :
 QStep P o T m nx nt (.v (.int .i64 n)) :=
 QStep.run λw0 ρ a w hT hC=>by
  obtain ⟨A,c,he⟩:=b6T hC hn (hT.ev hx)
  refine ⟨.int .i64 n,by simp only [RelV],λw' hC'=>?_⟩
  simp [execOp,ho,resolve,invoke,builtin,he,Builtin.len_,run_underlying (G t _ ht).1,goInt]
theorem r5 {t:Nat} {s:ByteArray} (G:Good P tb) (ho:o.op=.call { callee:=.builtin .len,args:=#[x],argTypes:=#[t] }) (ht:look t tb=some (.flat .str z)) (hx:ev T x=some (.v (.string s))) :
 QStep P o T m nx nt (.v (.int .i64 s.size)) :=
 QStep.run λw0 ρ a w hT hC=>by
  have h:=hT.ev hx
  simp only [RelV] at h
  have hu:P.underlying t=some .string:=(G t _ ht).1
  refine ⟨.int .i64 s.size,by simp only [RelV],λw' hC'=>?_⟩
  simp [execOp,ho,resolve,invoke,builtin,h,Builtin.len_,run_underlying hu,goInt]
theorem I5 {t sz:Nat} (G:TyOK P t (.slice e sz by_ zs)) {a:Addr} {len cap:Nat} {k:IntKind} {i:Int} (h0:0<=i) (h1:i < len) (w:World) :
 (Instr.indexAt t (.slice (some a) len cap) (.int k i)).run P w=.ok (.pointer (some (a.add (i.toNat * sz)))) w:=by
 obtain ⟨hu,_,j,z,hj,hs,_⟩:=G
 simp [Instr.indexAt,run_underlying hu,asIntOf,h0,h1,sizeOf,typeInfo,hj,hs]
theorem O8 {t sz:Nat} {k:IntKind} {i:Int} (G:Good P tb) (ho:o.op=.indexAddr t x y) (ht:look t tb=some (.slice e sz by_ zs)) (hx:ev T x=some (.lst sz ys)) (hy:ev T y=some (.v (.int k i)))
 (h0:0<=i) (hc:ys[i.toNat]?=some c):QStep P o T m nx nt (.ept c) :=
 QStep.run λw0 ρ a w hT hC=>by
  have h:=hT.ev hx
  have h2:=hT.ev hy
  simp only [RelV] at h h2
  obtain ⟨A,cap,he,_,hall,hA⟩:=h
  have hlt:i.toNat < ys.length:=by
   rcases Nat.lt_or_ge i.toNat ys.length with hlt | hge
   ·exact hlt
   ·rw [List.getElem?_eq_none hge] at hc;cases hc
  obtain ⟨ad,rfl,hb,hcell⟩:=hA J
  refine ⟨.pointer (some (ad.add (i.toNat * sz))),by
   simp only [RelV]
   refine ⟨_,Z,by rw [D0];exact hb,(hall c (List.mem_of_getElem? hc)).2,λj u hj=>?_⟩
   rw [a2t]
   exact hcell _ _ hc j u hj,λw' hC'=>?_⟩
  simp only [execOp,ho,he,h2,Sem.run_bind,I5 (G t _ ht) (a:=ad) (len:=ys.length) (cap:=cap) (k:=k) (i:=i) h0 J,Result.andThen_ok,Sem.run_pure]
theorem c7 {t sz:Nat} {k:IntKind} {i:Int} (G:Good P tb) (ho:o.op=.indexAddr t x y) (ht:look t tb=some (.slice e sz by_ zs)) (hx:ev T x=some (.own id)) (hm:mem m id=some (.row e' sz ys f)) (hy:ev T y=some (.v (.int k i)))
 (h0:0<=i) (h1:i < ys.length):QStep P o T m nx nt (.rpt id sz i.toNat 0) :=
 QStep.run λw0 ρ a w hT hC=>by
  have h:=hT.ev hx
  have h2:=hT.ev hy
  simp only [RelV] at h h2
  obtain ⟨hrow,_⟩:=hC.rowF hm
  obtain ⟨g,o',cap,hg,_,_,hc⟩:=hrow.slice0 J
  refine ⟨.pointer (some ⟨g,o'+i.toNat * sz,none⟩),by simp only [RelV];exact ⟨h.1,g,o',_,_,hg,by simp⟩,λw' hC'=>?_⟩
  have:=I5 (G t _ ht) (a:=⟨g,o',none⟩) (len:=ys.length) (cap:=cap) (k:=k) (i:=i) h0 h1 w'
  simp [execOp,ho,h.2,hg,h2,this,Addr.add_lit]
theorem b3n {t sz:Nat} {k:IntKind} {i:Int} (G:Good P tb) (ho:o.op=.indexAddr t x y) (ht:look t tb=some (.slice e sz by_ zs)) (hx:ev T x=some (.sub id sz j n)) (hm:mem m id=some (.row e' sz ys)) (hy:ev T y=some (.v (.int k i)))
 (h0:0<=i) (h1:i < n):QStep P o T m nx nt (.rpt id sz (j+i.toNat) 0) :=
 QStep.run λw0 ρ a w hT hC=>by
  have h:=hT.ev hx
  have h2:=hT.ev hy
  simp only [RelV] at h h2
  obtain ⟨hn,A,cap,he,_,hA⟩:=h
  obtain ⟨g,l,c,hg,rfl⟩:=hA.1 J
  refine ⟨.pointer (some ⟨g,(j+i.toNat) * sz,none⟩),by simp only [RelV];exact ⟨hn,g,0,_,_,hg,by simp⟩,λw' hC'=>?_⟩
  have:=I5 (G t _ ht) (a:=⟨g,j * sz,none⟩) (len:=n) (cap:=cap) (k:=k) (i:=i) h0 h1 w'
  simp [execOp,ho,he,h2,this,Addr.add_lit,Nat.add_mul]
def a9L:List CI→List AV→Option (List AV)
 | [],acc=>a3a acc []
 | .v x :: r,acc=>a9L r (.v x :: acc)
 | .l _ sz ys _ :: r,acc=>a9L r (.lst sz ys :: acc)
 | .x :: _,_=>none
theorem a9M {w0:World} {ρ:Nat→Value} {nx:Nat}:∀{cs:List CI} {acc as:List AV},a9L cs acc=some as→∀{acc' us:List Value},RelVs w0 ρ nx acc.reverse acc'→us.length=cs.length→(∀(k:Nat) (c:CI),cs[k]?=some c→∃u,us[k]?=some u/\CIReads w0 c u)→RelVs w0 ρ nx as (acc'++us)
 | [],acc,as,h,acc',us,ha,hl,_=>by
  grind [a9L,F9]
 | c :: cs,acc,as,h,acc',us,ha,hl,hr=>by
  match us,hl with
  | u :: us,hl =>
   obtain ⟨u',h1,h2⟩:=hr 0 c Z
   simp at h1
   subst h1
   have step:∀a,RelV w0 ρ nx a u→RelVs w0 ρ nx (a :: acc).reverse (acc'++[u]):=λa hu=>by
    grind [RelVs.append,RelVs]
   have key:∀a,RelV w0 ρ nx a u→a9L cs (a :: acc)=some as→RelVs w0 ρ nx as (acc'++u :: us):=λa hu h'=>by
    have:=a9M h' (step a hu) (us:=us) (by simpa using hl) (λk c hk=>by simpa using hr (k+1) c (by simpa using hk))
    simpa using this
   cases c with
   | v x=>exact key (.v x) (by simpa only [RelV,CIReads] using h2) h
   | l e sz ys f=>exact key (.lst sz ys) (by simpa only [RelV,CIReads] using h2) h
   | x=>simp [a9L] at h
theorem y7 {t sz:Nat} {z:Option Value} {k:IntKind} {i:Int} {c:List CI} (G:Good P tb) (ho:o.op=.indexAddr t x y) (ht:look t tb=some (.slice e sz by_ zs)) (hx:ev T x=some (.nst z sz yss)) (hy:ev T y=some (.v (.int k i)))
 (h0:0<=i) (hc:yss[i.toNat]?=some c) (ha:a9L c []=some as):QStep P o T m nx nt (.eptN as) :=
 QStep.run λw0 ρ a w hT hC=>by
  have h:=hT.ev hx
  have h2:=hT.ev hy
  simp only [RelV] at h h2
  obtain ⟨_,A,cap,he,_,hall,hA⟩:=h
  have hlt:i.toNat < yss.length:=(List.getElem?_eq_some_iff.1 hc).1
  obtain ⟨ad,rfl,hb,hcell⟩:=hA J
  have hcl:c.length=sz:=hall c (List.mem_of_getElem? hc)
  let us:=(List.range sz).map λj=>(w0.w.cell? (ad.add (i.toNat * sz+j))).getD undef
  have hus:∀j u,us[j]?=some u→∃c',c[j]?=some c'/\w0.w.cell? (ad.add (i.toNat * sz+j))=some u/\u.oneCell'=true/\CIReads w0 c' u:=by
   intro j u hj
   have hjl:j < sz:=by
    have:=(List.getElem?_eq_some_iff.1 hj).1
    simpa [us] using this
   have hc':c[j]?=some c[j]:=List.getElem?_eq_getElem J
   obtain ⟨u',g1,g2,g3⟩:=hcell i.toNat j _ (D8.2 ⟨c,hc,hc'⟩)
   simp [us,hjl,g1] at hj
   subst hj
   exact ⟨_,hc',g1,g2,g3⟩
  refine ⟨.pointer (some (ad.add (i.toNat * sz))),by
   simp only [RelV]
   refine ⟨_,us,Z,by rw [D0];exact hb,?_,λj u hj=>?_⟩
   ·have:=a9M (ρ:=ρ) (nx:=nx) ha (acc':=[]) (us:=us) (by simp [RelVs]) (by simp [us,hcl]) (λj c' hj=>by
     have hjl:j < us.length:=by have:=(List.getElem?_eq_some_iff.1 hj).1;simp [us];omega
     obtain ⟨c'',g1,_,_,g4⟩:=hus j _ (List.getElem?_eq_getElem hjl)
     rw [hj] at g1
     cases g1
     exact ⟨_,List.getElem?_eq_getElem hjl,g4⟩)
    simpa using this
   ·obtain ⟨c',_,g2,g3,_⟩:=hus j u hj
    exact ⟨by rw [a2t];exact g2,g3⟩,λw' hC'=>?_⟩
  simp only [execOp,ho,he,h2,Sem.run_bind,I5 (G t _ ht) (a:=ad) (len:=yss.length) (cap:=cap) (k:=k) (i:=i) h0 J,Result.andThen_ok,Sem.run_pure]
theorem V3 {t:TypeId} {c:AV} (G:Good P tb) (ho:o.op=.load t x) (ht:look t tb=some i) (hf:a0T i=true) (hx:ev T x=some (.eptN (c :: cs))):QStep P o T m nx nt c :=
 QStep.run λw0 ρ a w hT hC=>by
  have h:=hT.ev hx
  simp only [RelV,RelVs] at h
  obtain ⟨ad,us,he,hb,⟨u,us',rfl,h1,_⟩,hc⟩:=h
  refine ⟨u,h1,λw' hC'=>?_⟩
  have h2:w'.cell? ad=some u:=by rw [hC'.old hb];simpa [Addr.add_zero'] using (hc 0 u Z).1
  simp [execOp,ho,he,S7 (G t i ht) hf h2]
theorem F5 {t:TypeId} (G:Good P tb) (ho:o.op=.load t x) (ht:look t tb=some (.struct fs zs)) (hx:ev T x=some (.eptN cs)) (hr:a3N zs.length cs []=some rs):QStep P o T m nx nt (.agg rs) :=
 QStep.run λw0 ρ a w hT hC=>by
  have h:=hT.ev hx
  simp only [RelV] at h
  obtain ⟨ad,us,he,hb,h1,hc⟩:=h
  obtain ⟨hrs,hlen⟩:=Z6 _ _ _ _ hr
  simp at hrs
  have hl:=RelVs.length _ h1
  have h2:RelVs w0 ρ nx rs (us.take zs.length):=by rw [hrs];exact RelVs.take _ _ h1
  refine ⟨.agg (us.take zs.length).toArray,by simp only [RelV];exact ⟨_,Z,h2⟩,λw' hC'=>?_⟩
  have:=G9 (G t _ ht) (w:=w') (p:=ad) (us:=us.take zs.length) (by rw [List.length_take];omega) (λj u hj=>by
   rw [List.getElem?_take] at hj
   split at hj
   ·rw [hC'.old (by rw [D0];exact hb)];exact (hc j u hj).1
   ·cases hj)
  simp only [execOp,ho,he,this,Sem.run_bind,Result.andThen_ok,Sem.run_pure]
theorem a0Y {t:TypeId} {off:Nat} {c:List AV} (G:Good P tb) (ho:o.op=.fieldAddr t x k) (ht:look t tb=some (.struct fs zs)) (hk:nth fs k=some (off,ft)) (hx:ev T x=some (.eptN c)) :
 QStep P o T m nx nt (.eptN (a0S off c)) :=
 QStep.run λw0 ρ a w hT hC=>by
  have h:=hT.ev hx
  simp only [RelV] at h
  obtain ⟨ad,us,he,hb,h1,hc⟩:=h
  refine ⟨.pointer (some (ad.add off)),by
   simp only [RelV]
   refine ⟨_,us.drop off,Z,by rw [D0];exact hb,by rw [X1];exact RelVs.drop off _ h1,λj u hj=>?_⟩
   rw [List.getElem?_drop] at hj
   rw [a2t]
   exact hc _ _ hj,λw' hC'=>?_⟩
  simp only [execOp,ho,he,Sem.run_bind,a1B (G t _ ht) hk,Result.andThen_ok,Sem.run_pure]
theorem u5 {t sz:Nat} {k:IntKind} {i:Int} (G:Good P tb) (ho:o.op=.indexAddr t x y) (ht:look t tb=some (.slice e sz by_ zs)) (hx:ev T x=some (.own id)) (hm:mem m id=some (.nest e' sz yss op)) (hy:ev T y=some (.v (.int k i)))
 (h0:0<=i) (h1:i < yss.length):QStep P o T m nx nt (.rpt id sz i.toNat 0) :=
 QStep.run λw0 ρ a w hT hC=>by
  have h:=hT.ev hx
  have h2:=hT.ev hy
  simp only [RelV] at h h2
  obtain ⟨_,cells,hrow,_⟩:=hC.rows id _ hm
  rcases hrow.shape with ⟨_,hn⟩ | ⟨g,cap,hg,_⟩
  ·grind
  refine ⟨.pointer (some ⟨g,i.toNat * sz,none⟩),by simp only [RelV];exact ⟨h.1,g,0,_,_,hg,by simp⟩,λw' hC'=>?_⟩
  have:=I5 (G t _ ht) (a:=⟨g,0,none⟩) (len:=yss.length) (cap:=cap) (k:=k) (i:=i) h0 h1 w'
  simp [execOp,ho,h.2,hg,h2,this,Addr.add_lit]
inductive CellsA (op:List (Nat×Nat×Nat)) (i:Nat):Nat→List CI→List AV→Prop
 | nil {k:Nat}:CellsA op i k [] []
 | v {k:Nat} {x:Value} {cs:List CI} {as:List AV} (h:CellsA op i (k+1) cs as):CellsA op i k (.v x :: cs) (.v x :: as)
 | own {k id:Nat} {cs:List CI} {as:List AV} (hq:(i,k,id)∈op) (h:CellsA op i (k+1) cs as):CellsA op i k (.x :: cs) (.own id :: as)
theorem CellsA.rel {sz:Nat} {y:Value} {cells:List (List Value)} (hN:NestC B w y e sz yss cells) (hop:∀q∈op,q.2.2 < nx/\C0 yss q.1 q.2.1=some .x/\C0 cells q.1 q.2.1=some (ρ q.2.2)) {i:Nat} :
 ∀{k:Nat} {cs:List CI} {as:List AV},CellsA op i k cs as→(∀j c,cs[j]?=some c→C0 yss i (k+j)=some c)→∃us:List Value,RelVs w0 ρ nx as us/\us.length=cs.length/\∀j u,us[j]?=some u→C0 cells i (k+j)=some u
 | _,_,_,.nil,_=>⟨[],by simp [RelVs],Z,by simp⟩
 | k,_,_,.v (x:=x) h,hc=>by
  obtain ⟨us,h1,hl,h2⟩:=h.rel hN hop (λj c hj=>by have:=hc (j+1) c (by simpa using hj);rwa [show k+(j+1)=k+1+j by omega] at this)
  obtain ⟨u,h3,h4⟩:=hN.2.2.2.2 i k _ (hc 0 _ Z)
  simp only [CIRel] at h4
  subst h4
  refine ⟨u :: us,by simp only [RelVs];exact ⟨_,_,Z,by simp only [RelV],h1⟩,by simp [hl],λj u' hj=>?_⟩
  grind
 | k,_,_,.own (id:=id) hq h,hc=>by
  obtain ⟨us,h1,hl,h2⟩:=h.rel hN hop (λj c hj=>by have:=hc (j+1) c (by simpa using hj);rwa [show k+(j+1)=k+1+j by omega] at this)
  obtain ⟨h3,_,h4⟩:=hop _ hq
  refine ⟨ρ id :: us,by simp only [RelVs,RelV];exact ⟨_,_,Z,⟨h3,Z⟩,h1⟩,by simp [hl],λj u' hj=>?_⟩
  grind
theorem CellsA.det:∀{op:List (Nat×Nat×Nat)} {i k:Nat} {cs:List CI} {as:List AV},CellsA op i k cs as→a5y as=true
 | _,_,_,_,_,.nil=>rfl
 | _,_,_,_,_,.v h=>by simp only [a5y,b2h,Bool.true_and];exact h.det
 | _,_,_,_,_,.own _ h=>by simp only [a5y,b2h,Bool.true_and];exact h.det
theorem NestC.size {y:Value} {sz:Nat} {cells:List (List Value)} (h:NestC B w y e sz yss cells) {i k:Nat} {c:CI} (hc:C0 yss i k=some c):k < sz:=by
 obtain ⟨cs,h1,h2⟩:=D8.1 hc
 rw [← h.2.2.2.1 cs (List.mem_of_getElem? h1)]
 grind
theorem b3o {t:TypeId} {ti:TyI} {sz i:Nat} {c:CI} {av:AV} (G:Good P tb) (ho:o.op=.load t x) (ht:look t tb=some ti) (hf:a0T ti=true) (hx:ev T x=some (.rpt id sz i k)) (hm:mem m id=some (.nest e sz yss op))
 (hc:C0 yss i k=some c) (ha:CellsA op i k [c] [av]):QStep P o T m nx nt av :=
 QStep.run λw0 ρ a w hT hC=>by
  have h:=hT.ev hx
  simp only [RelV] at h
  obtain ⟨_,g,o',l,cp,hg,he⟩:=h
  have key:∀w',RelC w0 ρ m nx w'→∃u,RelV w0 ρ nx av u/\(execOp a.eval o).run P w'=.ok (.value u) w':=λw' hC'=>by
   obtain ⟨_,cells,hN,hop⟩:=hC'.rows id _ hm
   obtain rfl:=hN.off hg
   rw [Nat.zero_add] at he
   obtain ⟨us,h1,hl,h2⟩:=ha.rel (w0:=w0.w) hN hop (λj c' hj=>by
    cases j with
    | zero=>simp at hj;subst hj;exact hc
    | succ j=>simp at hj)
   match us,hl with
   | [u],_ =>
    simp only [RelVs] at h1
    obtain ⟨_,_,e1,h3,_⟩:=h1
    simp at e1
    obtain ⟨rfl,_⟩:=e1
    have h4:=hN.cell hg (h2 0 u Z)
    rw [Nat.add_zero] at h4
    exact ⟨u,h3,by simp [execOp,ho,he,S7 (G t ti ht) hf h4]⟩
  obtain ⟨u,h1,h2⟩:=key w hC
  refine ⟨u,h1,λw' hC'=>?_⟩
  obtain ⟨u',h1',h2'⟩:=key w' hC'
  have hd:=ha.det
  simp only [a5y,Bool.and_true] at hd
  rw [b2i hd h1 h1'] at h2'
  exact h2'
theorem U4 {t:TypeId} {sz i:Nat} {cs:List CI} (G:Good P tb) (ho:o.op=.load t x) (ht:look t tb=some (.struct fs zs)) (hx:ev T x=some (.rpt id sz i 0)) (hm:mem m id=some (.nest e sz yss op))
 (hc:yss[i]?=some cs) (hl:Nat.beq zs.length sz=true) (ha:CellsA op i 0 cs as):QStep P o T m nx nt (.agg as) :=
 QStep.run λw0 ρ a w hT hC=>by
  have h:=hT.ev hx
  simp only [RelV] at h
  obtain ⟨_,g,o',l,cp,hg,he⟩:=h
  have hl:=Nat.eq_of_beq_eq_true hl
  have key:∀w',RelC w0 ρ m nx w'→∃us:List Value,RelVs w0 ρ nx as us/\(execOp a.eval o).run P w'=.ok (.value (.agg us.toArray)) w':=λw' hC'=>by
   obtain ⟨_,cells,hN,hop⟩:=hC'.rows id _ hm
   obtain rfl:=hN.off hg
   rw [Nat.zero_add] at he
   obtain ⟨us,h1,hl1,h2⟩:=ha.rel (w0:=w0.w) hN hop (λj c' hj=>D8.2 ⟨cs,hc,by simpa using hj⟩)
   have hcl:=hN.2.2.2.1 cs (List.mem_of_getElem? hc)
   have:=G9 (G t _ ht) (w:=w') (p:=⟨g,i * sz,none⟩) (us:=us) J (λj u hj=>by
    rw [Addr.add_lit]
    have:=hN.cell hg (h2 j u hj)
    simpa using this)
   refine ⟨us,h1,?_⟩
   simp only [execOp,ho,he,Nat.add_zero,this,Sem.run_bind,Result.andThen_ok,Sem.run_pure]
  obtain ⟨us,h1,h2⟩:=key w hC
  refine ⟨.agg us.toArray,by simp only [RelV];exact ⟨us,Z,h1⟩,λw' hC'=>?_⟩
  obtain ⟨us',h1',h2'⟩:=key w' hC'
  rw [a6z ha.det h1 h1'] at h2'
  exact h2'
theorem O9 {t:Nat} {s:ByteArray} {k:IntKind} {i:Int} (G:Good P tb) (ho:o.op=.index t x y) (ht:look t tb=some (.flat .str z)) (hx:ev T x=some (.v (.string s))) (hy:ev T y=some (.v (.int k i)))
 (h0:0<=i) (h1:i < s.size):QStep P o T m nx nt (.v (.int .u8 (s.data.toList.getD i.toNat 0).toNat)) :=
 QStep.run λw0 ρ a w hT hC=>by
  have h:=hT.ev hx
  have h2:=hT.ev hy
  simp only [RelV] at h h2
  have hu:P.underlying t=some .string:=(G t _ ht).1
  refine ⟨.int .u8 (s.data.toList.getD i.toNat 0).toNat,by simp only [RelV],λw' hC'=>?_⟩
  have hr:=run_index_string (P:=P) w' t s k i hu
  rw [dif_pos ⟨h0,h1⟩] at hr
  have hb:s[i.toNat]' J=s.data.toList.getD i.toNat 0:=by
   have:i.toNat < s.data.toList.length:=by simp;have:s.data.size=s.size:=rfl;omega
   rw [List.getD_eq_getElem?_getD,List.getElem?_eq_getElem this]
   rfl
  rw [hb] at hr
  simp [execOp,ho,h,h2,hr]
def c68:BinOp→List UInt8→List UInt8→Option Bool
 | .eql,a,b=>some (a==b)
 | .neq,a,b=>some (!(a==b))
 | .lss,a,b=>some (Op.bytesLess a b)
 | _,_,_=>none
theorem w7 {op:BinOp} {t t':TypeId} {a b:ByteArray} {c:Bool} (ho:o.op=.binOp op t x y t') (hx:ev T x=some (.v (.string a))) (hy:ev T y=some (.v (.string b))) (hc:c68 op a.toList b.toList=some c) :
 QStep P o T m nx nt (.v (.bool c)) :=
 QStep.val λw0 ρ ac hT w'=>by
  have h1:=hT.ev hx
  have h2:=hT.ev hy
  simp only [RelV] at h1 h2
  cases op<;>simp only [c68,Option.some.injEq,reduceCtorEq] at hc<;>subst hc<;>simp [execOp,ho,h1,h2,eqGuard,binOp,Op.stringOp]
theorem s6 {t t':TypeId} {a b:ByteArray} (ho:o.op=.binOp .add t x y t') (hx:ev T x=some (.v (.string a))) (hy:ev T y=some (.v (.string b))) (hs:a.size+b.size<=9223372036854775807) :
 QStep P o T m nx nt (.v (.string (a++b))) :=
 QStep.val λw0 ρ ac hT w'=>by
  have h1:=hT.ev hx
  have h2:=hT.ev hy
  simp only [RelV] at h1 h2
  have:¬ (IntKind.i64.max < ((a.size+b.size:Nat):Int)):=by rw [IntKind.max_i64];omega
  simp only [execOp,ho,h1,h2,eqGuard,binOp,Op.stringOp]
  simp_all
theorem a17 {src dst:TypeId} {x:Operand} {k k':IntKind} {n:Int} {z z':Value} {fk:FK} (G:Good P tb) (ho:o.op=.convert src dst x) (hs:look src tb=some (.flat fk z')) (ht:look dst tb=some (.flat (.int k) z)) (hx:ev T x=some (.v (.int k' n))) :
 QStep P o T m nx nt (.v (.int k (k.wrap n))) :=
 QStep.val λw0 ρ ac hT w'=>by
  have h1:=hT.ev hx
  simp only [RelV] at h1
  have hu:P.underlying dst=some (.int k):=(G dst _ ht).1
  obtain ⟨_,⟨d,hd,_⟩,_⟩:=G src _ hs
  simp [execOp,ho,h1,convert,run_underlying hu,run_underlying hd,Conv.intToInt]
theorem c69 {x y:Operand} {ts:Array TypeId} {k:IntKind} {a b:Int} (ho:o.op=.call { callee:=.builtin .min,args:=#[x,y],argTypes:=ts }) (hx:ev T x=some (.v (.int k a))) (hy:ev T y=some (.v (.int k b))) :
 QStep P o T m nx nt (.v (.int k (if b < a then b else a))) :=
 QStep.val λw0 ρ ac hT w'=>by
  have h1:=hT.ev hx
  have h2:=hT.ev hy
  simp only [RelV] at h1 h2
  simp [execOp,ho,resolve,invoke,builtin,h1,h2,run_min_int2]
theorem c2i {t:TypeId} {a:Int} (ho:o.op=.unOp .neg t x) (hx:ev T x=some (.v (.int .i64 a))) (h1:-9223372036854775807<=a) (h2:a<=9223372036854775807):QStep P o T m nx nt (.v (.int .i64 (-a))) :=
 QStep.val λw0 ρ ac hT w'=>by
  have h:=hT.ev hx
  simp only [RelV] at h
  have:=O2 (n:=-a) J J
  simp [execOp,ho,h,Op.unary,Op.intArith,this]
end
section
variable {w0:Base} {nx:Nat}
mutual
def z7 (n:Nat):AV→Bool
 | .own i=>Nat.blt i n
 | .sub i _ _ _=>Nat.blt i n
 | .ptr i _=>Nat.blt i n
 | .rpt i _ _ _=>Nat.blt i n
 | .agg cs=>H7 n cs
 | .tup cs=>H7 n cs
 | .fnc _ cs=>H7 n cs
 | .eptN cs=>H7 n cs
 | _=>true
def H7 (n:Nat):List AV→Bool
 | []=>true
 | c :: cs=>z7 n c && H7 n cs
end
mutual
theorem RelV.less {ρ:Nat→Value} {n:Nat}:∀(x:AV) {y:Value},z7 n x=true→RelV w0 ρ nx x y→RelV w0 ρ n x y
 | .v _,_,_,h=>h
 | .lst _ _,_,_,h=>h
 | .pin _ _ _,_,_,h=>h
 | .ept _,_,_,h=>h
 | .own i,_,hm,h=>by simp only [z7] at hm;simp only [RelV] at h ⊢;exact ⟨Nat.le_of_ble_eq_true hm,h.2⟩
 | .sub i _ _ _,_,hm,h=>by simp only [z7] at hm;simp only [RelV] at h ⊢;exact ⟨Nat.le_of_ble_eq_true hm,h.2⟩
 | .ptr i _,_,hm,h=>by simp only [z7] at hm;simp only [RelV] at h ⊢;exact ⟨Nat.le_of_ble_eq_true hm,h.2⟩
 | .rpt i _ _ _,_,hm,h=>by simp only [z7] at hm;simp only [RelV] at h ⊢;exact ⟨Nat.le_of_ble_eq_true hm,h.2⟩
 | .agg cs,_,hm,h=>by
  simp only [z7] at hm
  simp only [RelV] at h ⊢
  obtain ⟨ys,e,h⟩:=h
  exact ⟨ys,e,RelVs.less cs hm h⟩
 | .tup cs,_,hm,h=>by
  simp only [z7] at hm
  simp only [RelV] at h ⊢
  obtain ⟨ys,e,h⟩:=h
  exact ⟨ys,e,RelVs.less cs hm h⟩
 | .fnc _ cs,_,hm,h=>by
  simp only [z7] at hm
  simp only [RelV] at h ⊢
  obtain ⟨ys,e,h⟩:=h
  exact ⟨ys,e,RelVs.less cs hm h⟩
 | .nst _ _ _,_,_,h=>h
 | .any,_,_,h=>h
 | .eptN cs,_,hm,h=>by
  simp only [z7] at hm
  simp only [RelV] at h ⊢
  obtain ⟨ad,us,e,hb,h,h2⟩:=h
  exact ⟨ad,us,e,hb,RelVs.less cs hm h,h2⟩
theorem RelVs.less {ρ:Nat→Value} {n:Nat}:∀(x:List AV) {y:List Value},H7 n x=true→RelVs w0 ρ nx x y→RelVs w0 ρ n x y
 | [],_,_,h=>h
 | c :: cs,_,hm,h=>by
  simp only [H7,Bool.and_eq_true] at hm
  simp only [RelVs] at h ⊢
  obtain ⟨y,ys,e,h1,h2⟩:=h
  exact ⟨y,ys,e,RelV.less c hm.1 h1,RelVs.less cs hm.2 h2⟩
end
end
inductive RC where
 | v (x:Value)
 | fr (e sz:Nat) (ys:List (List Value)) (f:Bool:=false)
 | ne (e sz:Nat) (yss:List (List CI))
inductive Res where
 | one (r:RC)
 | many (rs:List RC)
 | shp (single:Bool) (sh:List (Option Nat)) (rs:List RC)
variable {res:Res}
def NestR (B:Nat) (w:World) (y:Value) (e sz:Nat) (yss:List (List CI)):Prop :=
 ∃cells,NestC B w y e sz yss cells/\∀p b,A3 w y sz yss p=some b→blk y≠some b/\∀p',A3 w y sz yss p'=some b→p=p'
def RCRel (B:Nat) (w:World):RC→Value→Prop
 | .v x,y=>y=x
 | .fr e sz ys f,y=>OwnR w B e sz f y ys/\∀c∈ys,c.length=sz/\∀u∈c,u.oneCell'=true
 | .ne e sz yss,y=>NestR B w y e sz yss
def a35 (w:World):RC→Value→Nat→Prop
 | .v _,_,_=>False
 | .fr _ _ _ _,y,b=>blk y=some b
 | .ne _ sz yss,y,b=>blk y=some b∨∃p,A3 w y sz yss p=some b
def a0K (w:World):List RC→List Value→Nat→Prop
 | r :: rs,y :: ys,b=>a35 w r y b∨a0K w rs ys b
 | _,_,_=>False
def RCRels (B:Nat) (w:World):List RC→List Value→Prop
 | [],ys=>ys=[]
 | r :: rs,ys=>∃y ys',ys=y :: ys'/\RCRel B w r y/\RCRels B w rs ys'/\∀b,a35 w r y b→¬ a0K w rs ys' b
def a6A:List (Option Nat)→List Value→Option (List Value)
 | [],[]=>some []
 | [],_ :: _=>none
 | none :: sh,v :: vs=>(a6A sh vs).map (v :: ·)
 | none :: _,[]=>none
 | some n :: sh,vs=>if n<=vs.length then (a6A sh (vs.drop n)).map (.agg (vs.take n).toArray :: ·) else none
def ResRel (B:Nat) (w:World):Res→Value→Prop
 | .one r,y=>RCRel B w r y
 | .many rs,y=>∃ys:List Value,y=.tuple ys.toArray/\RCRels B w rs ys
 | .shp single sh rs,y=>∃ys vs:List Value,RCRels B w rs ys/\a6A sh ys=some vs/\(if single then vs=[y] else y=.tuple vs.toArray)
def noRho:Nat→Value:=λ_=>undef
def Callable (P:Program) (f:FuncId):Prop:=∃fn,P.funcs[f]?=some fn/\(fn.name == "runtime.NumGoroutine")=false/\fn.body.isNone=false
structure Ctr (P:Program) [Env P] (f:FuncId) (args:List AV) (res:Res):Prop where
 callable:Callable P f
 calls:∀w vs,Env.E P w→RelVs w noRho 0 args vs→Calls P f vs.toArray w λe w'=>∃v,e=.returned v/\ResRel w.heap.size w' res v/\Below w.heap.size w w'
theorem a0s {f:FuncId} (h:Callable P f) (args:Array Value) (w:World):(callFunc f args).run P w=.ok (.enter f args) w:=by
 obtain ⟨fn,h1,h2,h3⟩:=h
 have h2':¬ fn.name = "runtime.NumGoroutine" := by simpa using h2
 have h3':¬ fn.body=none:=by intro h;rw [h] at h3;cases h3
 simp [callFunc,h1,h2',h3']
def a3b (m:List (Nat×Option Row)):AV→Option AV
 | .v x=>some (.v x)
 | .lst sz ys=>some (.lst sz ys)
 | .pin _ sz ys=>some (.lst sz ys)
 | .ept c=>some (.ept c)
 | .nst _ sz yss=>some (.nst none sz yss)
 | .eptN cs=>bif H7 0 cs then some (.eptN cs) else none
 | .any=>some .any
 | .agg cs=>match vaR cs [] with
  | some xs=>some (.v (.agg ⟨xs⟩))
  | none=>none
 | .own id=>match mem m id with
  | some (.row _ sz ys _)=>some (.lst sz ys)
  | some (.nest _ sz yss [])=>some (.nst none sz yss)
  | _=>none
 | .ptr id off=>match mem m id with
  | some (.box cs)=>match vaR (a0S off cs) [] with
   | some xs=>some (.ept xs)
   | none=>none
  | _=>none
 | _=>none
def a1C (m:List (Nat×Option Row)):List AV→List AV→Option (List AV)
 | [],acc=>a3a acc []
 | x :: r,acc=>match a3b m x with
  | some y=>a1C m r (y :: acc)
  | none=>none
def a7Q (m:List (Nat×Option Row)):AV→Option AV
 | .agg cs=>match vaR cs [] with
  | some xs=>some (.v (.agg ⟨xs⟩))
  | none=>match a1C m cs [] with
   | some as=>some (.agg as)
   | none=>none
 | .ptr id off=>match mem m id with
  | some (.box cs)=>match vaR (a0S off cs) [] with
   | some xs=>some (.ept xs)
   | none=>match a1C m (a0S off cs) [] with
    | some as=>some (.eptN as)
    | none=>none
  | _=>none
 | x=>a3b m x
def a3c (m:List (Nat×Option Row)):List AV→List AV→Option (List AV)
 | [],acc=>a3a acc []
 | x :: r,acc=>match a7Q m x with
  | some y=>a3c m r (y :: acc)
  | none=>none
def b5A (m:List (Nat×Option Row)):AV→Option AV
 | .fnc f caps=>match a3c m caps [] with
  | some cs=>some (.fnc f cs)
  | none=>none
 | x=>a7Q m x
def ArgOK (m:List (Nat×Option Row)) (nx:Nat) (av arg:AV):Prop :=
 ∀(w0:Base) ρ w y,RelC w0 ρ m nx w→RelV w0 ρ nx av y→RelV w noRho 0 arg y
theorem ReadsAt.later (hb:Below w0.heap.size w0 w) {sz:Nat} {ys:List (List Value)} {y:Value} (h:ReadsAt w0 sz ys y):ReadsAt w sz ys y:=by
 obtain ⟨A,cap,he,hc,hall,hA⟩:=h
 refine ⟨A,cap,he,hc,hall,λh0=>?_⟩
 obtain ⟨ad,h1,h2,h3⟩:=hA h0
 exact ⟨ad,h1,Nat.lt_of_lt_of_le h2 hb.size,λi c hi j u hj=>(hb.cell (by rw [D0];exact h2)).trans (h3 i c hi j u hj)⟩
theorem PointsAt.later (hb:Below w0.heap.size w0 w) {cs:List Value} {y:Value} (h:PointsAt w0 cs y):PointsAt w cs y:=by
 obtain ⟨ad,h1,h2,h3,h4⟩:=h
 exact ⟨ad,h1,Nat.lt_of_lt_of_le h2 hb.size,h3,λj u hj=>(hb.cell (by rw [D0];exact h2)).trans (h4 j u hj)⟩
theorem b4D {base sz:Nat} (h:w.ownsRow base e sz v ys.length ys.flatten) (hall:∀c∈ys,c.length=sz/\∀u∈c,u.oneCell'=true):ReadsAt w sz ys v:=by
 rcases h.2 with ⟨h1,h2⟩ | ⟨g,cap,cur,h1,h2,h3,h4,_⟩
 ·exact ⟨none,0,by rw [h1,h2],by omega,hall,λh0=>by omega⟩
 ·refine ⟨_,cap,h1,h4,hall,λh0=>⟨_,Z,(Array.getElem?_eq_some_iff.1 h3).1,λi c hi j u hj=>?_⟩⟩
  have hl:=(hall c (List.mem_of_getElem? hi)).1
  have hjl:j < sz:=by
   grind
  exact h.cells (g:=g) (by rw [h1];rfl) _ u (by rw [O7 (sz:=sz) (λc hc=>(hall c hc).1) hi hjl,hj])
theorem TlR.reads {sz:Nat} (h:TlR w B e sz v ys) (hall:∀c∈ys,c.length=sz/\∀u∈c,u.oneCell'=true):ReadsAt w sz ys v:=by
 have h':=h
 rcases h with ⟨h1,rfl⟩ | ⟨g,o,cap,cur,h1,h2,h3,h4,_⟩
 ·exact ⟨none,0,by rw [h1];rfl,Nat.le_refl _,hall,λh0=>by simp at h0⟩
 ·refine ⟨_,cap,h1,h4,hall,λh0=>⟨_,Z,(Array.getElem?_eq_some_iff.1 h3).1,λi c hi j u hj=>?_⟩⟩
  rw [Addr.add_lit]
  exact h'.cell (λc hc=>(hall c hc).1) h1 hi hj
theorem CIReads.later (hb:Below w0.heap.size w0 w) {c:CI} {u:Value} (h:CIReads w0 c u):CIReads w c u:=by
 cases c<;>simp only [CIReads] at h ⊢
 ·exact h
 ·exact h.later hb
theorem NReadsAt.later (hb:Below w0.heap.size w0 w) {sz:Nat} {yss:List (List CI)} {y:Value} (h:NReadsAt w0 sz yss y):NReadsAt w sz yss y:=by
 obtain ⟨A,cap,he,hc,hall,hA⟩:=h
 refine ⟨A,cap,he,hc,hall,λh0=>?_⟩
 obtain ⟨ad,h1,h2,h3⟩:=hA h0
 refine ⟨ad,h1,Nat.lt_of_lt_of_le h2 hb.size,λi k c hc=>?_⟩
 obtain ⟨u,g1,g2,g3⟩:=h3 i k c hc
 exact ⟨u,(hb.cell (by rw [D0];exact h2)).trans g1,g2,g3.later hb⟩
mutual
theorem RelV.later {w0 w:World} {ρ:Nat→Value} {nx:Nat} (hb:Below w0.heap.size w0 w):∀(x:AV) {y:Value},z7 0 x=true→RelV w0 ρ nx x y→RelV w noRho 0 x y
 | .v _,_,_,h=>by simpa only [RelV] using h
 | .lst _ _,_,_,h=>by simp only [RelV] at h ⊢;exact h.later hb
 | .pin _ _ _,_,_,h=>by simp only [RelV] at h ⊢;exact ⟨h.1,h.2.later hb⟩
 | .ept _,_,_,h=>by simp only [RelV] at h ⊢;exact h.later hb
 | .own i,_,hm,_=>by simp only [z7] at hm;exact absurd (Nat.le_of_ble_eq_true hm) (Nat.not_lt_zero i)
 | .sub i _ _ _,_,hm,_=>by simp only [z7] at hm;exact absurd (Nat.le_of_ble_eq_true hm) (Nat.not_lt_zero i)
 | .ptr i _,_,hm,_=>by simp only [z7] at hm;exact absurd (Nat.le_of_ble_eq_true hm) (Nat.not_lt_zero i)
 | .rpt i _ _ _,_,hm,_=>by simp only [z7] at hm;exact absurd (Nat.le_of_ble_eq_true hm) (Nat.not_lt_zero i)
 | .agg cs,_,hm,h=>by
  simp only [z7] at hm
  simp only [RelV] at h ⊢
  obtain ⟨ys,e,h⟩:=h
  exact ⟨ys,e,RelVs.later hb cs hm h⟩
 | .tup cs,_,hm,h=>by
  simp only [z7] at hm
  simp only [RelV] at h ⊢
  obtain ⟨ys,e,h⟩:=h
  exact ⟨ys,e,RelVs.later hb cs hm h⟩
 | .fnc _ cs,_,hm,h=>by
  simp only [z7] at hm
  simp only [RelV] at h ⊢
  obtain ⟨ys,e,h⟩:=h
  exact ⟨ys,e,RelVs.later hb cs hm h⟩
 | .nst _ _ _,_,_,h=>by simp only [RelV] at h ⊢;exact ⟨h.1,h.2.later hb⟩
 | .any,_,_,_=>by simp only [RelV]
 | .eptN cs,_,hm,h=>by
  simp only [z7] at hm
  simp only [RelV] at h ⊢
  obtain ⟨ad,us,e,hlt,h,h2⟩:=h
  exact ⟨ad,us,e,Nat.lt_of_lt_of_le hlt hb.size,RelVs.later hb cs hm h,λj u hj=>⟨(hb.cell (by rw [D0];exact hlt)).trans (h2 j u hj).1,(h2 j u hj).2⟩⟩
theorem RelVs.later {w0 w:World} {ρ:Nat→Value} {nx:Nat} (hb:Below w0.heap.size w0 w):∀(x:List AV) {y:List Value},H7 0 x=true→RelVs w0 ρ nx x y→RelVs w noRho 0 x y
 | [],_,_,h=>by simpa only [RelVs] using h
 | c :: cs,_,hm,h=>by
  simp only [H7,Bool.and_eq_true] at hm
  simp only [RelVs] at h ⊢
  obtain ⟨y,ys,e,h1,h2⟩:=h
  exact ⟨y,ys,e,RelV.later hb c hm.1 h1,RelVs.later hb cs hm.2 h2⟩
end
theorem CIRel.reads {c:CI} (h:CIRel B w c u):CIReads w c u:=by
 cases c with
 | v x=>exact h
 | x=>trivial
 | l e sz ys f=>exact h.1.gen.reads h.2
theorem NestC.reads {y:Value} {sz:Nat} {cells:List (List Value)} (h:NestC B w y e sz yss cells):NReadsAt w sz yss y:=by
 rcases h.shape with ⟨h1,h2⟩ | ⟨g,cap,h1,h2,h3,h4⟩
 ·subst h2
  exact ⟨none,0,h1,Nat.le_refl _,by simp,by simp⟩
 ·refine ⟨_,cap,h1,h4,h.2.2.2.1,λ_=>⟨_,Z,h3,λi k c hc=>?_⟩⟩
  obtain ⟨u,g1,g2⟩:=h.2.2.2.2 i k c hc
  obtain ⟨cs,q1,q2⟩:=D8.1 g1
  refine ⟨u,?_,(h.2.2.1 cs (List.mem_of_getElem? q1)).2 u (List.mem_of_getElem? q2),g2.reads⟩
  rw [Addr.add_lit,Nat.zero_add]
  exact h.cell h1 g1
theorem ArgOK.of1 {m:List (Nat×Option Row)} {nx:Nat} {av arg:AV} (h:a3b m av=some arg):ArgOK m nx av arg:=by
 intro w0 ρ w y hC hy
 cases av<;>simp only [a3b] at h
 case v x=>cases h;simpa only [RelV] using hy
 case lst sz ys=>cases h;simp only [RelV] at hy ⊢;exact hy.later hC.below
 case pin z sz ys=>cases h;simp only [RelV] at hy ⊢;exact hy.2.later hC.below
 case ept c=>cases h;simp only [RelV] at hy ⊢;exact hy.later hC.below
 case nst z sz yss=>cases h;simp only [RelV] at hy ⊢;exact ⟨λ_ h=>(by cases h),hy.2.later hC.below⟩
 case any=>cases h;simp only [RelV]
 case eptN cs =>
  cases hr:H7 0 cs with
  | false=>simp [hr] at h
  | true=>simp [hr] at h;subst h;exact RelV.later hC.below _ (by simpa only [z7] using hr) hy
 case agg cs =>
  cases hv:vaR cs [] with
  | none=>simp [hv] at h
  | some xs =>
   simp [hv] at h
   subst h
   obtain ⟨xs',h1,h2⟩:=a0r _ _ _ hv
   simp at h2
   subst h2
   simp only [RelV] at hy ⊢
   obtain ⟨ys,rfl,h3⟩:=hy
   rw [h1] at h3
   rw [RelVs.map_v_eq _ h3]
 case own id =>
  cases hm:mem m id with
  | none=>simp [hm] at h
  | some r =>
   cases r with
   | box cs=>simp [hm] at h
   | byt bs=>simp [hm] at h
   | spare _ _ _ _=>simp [hm] at h
   | nest e sz yss op =>
    cases op with
    | cons _ _=>simp [hm] at h
    | nil =>
     simp [hm] at h
     subst h
     simp only [RelV] at hy ⊢
     obtain ⟨_,cells,h1,_⟩:=hC.rows id _ hm
     rw [hy.2]
     exact ⟨λ_ h=>(by cases h),h1.reads⟩
   | row e sz ys f =>
    simp [hm] at h
    subst h
    simp only [RelV] at hy ⊢
    obtain ⟨h1,h2⟩:=hC.rowF hm
    rw [hy.2]
    exact h1.gen.reads h2
 case ptr id off =>
  cases hm:mem m id with
  | none=>simp [hm] at h
  | some r =>
   cases r with
   | row e sz ys f=>simp [hm] at h
   | byt bs=>simp [hm] at h
   | spare _ _ _ _=>simp [hm] at h
   | nest _ _ _ _=>simp [hm] at h
   | box cs =>
    simp only [hm] at h
    cases hv:vaR (a0S off cs) [] with
    | none=>simp [hv] at h
    | some xs =>
     simp [hv] at h
     subst h
     obtain ⟨xs',h1,h2⟩:=a0r _ _ _ hv
     simp at h2
     subst h2
     simp only [RelV] at hy ⊢
     obtain ⟨hn,g,hg,rfl⟩:=hy
     obtain ⟨b,cur,ty,hρ,hB,hb,hR,h1c⟩:=hC.box hm
     rw [hg] at hρ
     simp at hρ
     subst hρ
     have hR2:=RelVs.drop off _ hR
     rw [← X1,h1] at hR2
     have he:=RelVs.map_v_eq _ hR2
     refine ⟨_,Z,(Array.getElem?_eq_some_iff.1 hb).1,λu hu=>h1c u ?_,λj u hj=>?_⟩
     ·rw [← he] at hu;exact List.mem_of_mem_drop hu
     ·rw [Addr.add_lit,V2 hb,← hj,← he,List.getElem?_drop]
 all_goals cases h
theorem RelVs.rev_args {nx:Nat} {w0:Base} (hC:RelC w0 ρ m nx w):∀(x acc r:List AV) {y acc':List Value},a1C m x acc=some r→RelVs w0 ρ nx x y→RelVs w noRho 0 acc.reverse acc'→RelVs w noRho 0 r (acc'++y)
 | [],acc,r,_,_,h,hx,ha=>by
  simp [a1C,F9] at h
  simp only [RelVs] at hx
  subst h;subst hx
  simpa using ha
 | c :: cs,acc,r,_,acc',h,hx,ha=>by
  simp only [RelVs] at hx
  obtain ⟨y,ys,rfl,h1,h2⟩:=hx
  simp only [a1C] at h
  cases ht:a3b m c with
  | none=>simp [ht] at h
  | some c' =>
   simp only [ht] at h
   have h3:=ArgOK.of1 (nx:=nx) ht w0 ρ w y hC h1
   have:=RelVs.rev_args hC cs (c' :: acc) r h h2 (acc':=acc'++[y]) (by
    rw [List.reverse_cons]
    refine RelVs.append _ ha ?_
    simp only [RelVs]
    exact ⟨_,_,Z,h3,Z⟩)
   simpa using this
theorem ArgOK.of2 {m:List (Nat×Option Row)} {nx:Nat} {av arg:AV} (h:a7Q m av=some arg):ArgOK m nx av arg:=by
 cases av
 case agg cs =>
  simp only [a7Q] at h
  cases hv:vaR cs [] with
  | some xs=>exact ArgOK.of1 (by simp only [a3b,hv];simpa [hv] using h)
  | none =>
   simp only [hv] at h
   cases hc:a1C m cs [] with
   | none=>simp [hc] at h
   | some as =>
    simp [hc] at h
    subst h
    intro w0 ρ w y hC hy
    simp only [RelV] at hy ⊢
    obtain ⟨ys,rfl,h1⟩:=hy
    exact ⟨ys,Z,by simpa using RelVs.rev_args hC cs [] as hc h1 (acc':=[]) (by simp [RelVs])⟩
 case ptr id off =>
  simp only [a7Q] at h
  cases hm:mem m id with
  | none=>simp [hm] at h
  | some r =>
   cases r with
   | row e sz ys f=>simp [hm] at h
   | byt bs=>simp [hm] at h
   | spare _ _ _ _=>simp [hm] at h
   | nest _ _ _ _=>simp [hm] at h
   | box cs =>
    simp only [hm] at h
    cases hv:vaR (a0S off cs) [] with
    | some xs=>exact ArgOK.of1 (by simp only [a3b,hm,hv];simpa [hv] using h)
    | none =>
     simp only [hv] at h
     cases hc:a1C m (a0S off cs) [] with
     | none=>simp [hc] at h
     | some as =>
      simp [hc] at h
      subst h
      intro w0 ρ w y hC hy
      simp only [RelV] at hy ⊢
      obtain ⟨hn,g,hg,rfl⟩:=hy
      obtain ⟨b,cur,ty,hρ,hB,hb,hR,h1c⟩:=hC.box hm
      rw [hg] at hρ
      simp at hρ
      subst hρ
      have hR2:=RelVs.drop off _ hR
      rw [← X1] at hR2
      have hR3:=RelVs.rev_args hC _ [] as hc hR2 (acc':=[]) (by simp [RelVs])
      refine ⟨_,cur.toList.drop off,Z,(Array.getElem?_eq_some_iff.1 hb).1,by simpa using hR3,λj u hj=>⟨?_,h1c u (List.mem_of_mem_drop (List.mem_of_getElem? hj))⟩⟩
      rw [Addr.add_lit,V2 hb,← hj,List.getElem?_drop]
 all_goals exact ArgOK.of1 h
theorem RelVs.rev_args2 {nx:Nat} {w0:Base} (hC:RelC w0 ρ m nx w):∀(x acc r:List AV) {y acc':List Value},a3c m x acc=some r→RelVs w0 ρ nx x y→RelVs w noRho 0 acc.reverse acc'→RelVs w noRho 0 r (acc'++y)
 | [],acc,r,_,_,h,hx,ha=>by
  simp [a3c,F9] at h
  simp only [RelVs] at hx
  subst h;subst hx
  simpa using ha
 | c :: cs,acc,r,_,acc',h,hx,ha=>by
  simp only [RelVs] at hx
  obtain ⟨y,ys,rfl,h1,h2⟩:=hx
  simp only [a3c] at h
  cases ht:a7Q m c with
  | none=>simp [ht] at h
  | some c' =>
   simp only [ht] at h
   have h3:=ArgOK.of2 (nx:=nx) ht w0 ρ w y hC h1
   have:=RelVs.rev_args2 hC cs (c' :: acc) r h h2 (acc':=acc'++[y]) (by
    rw [List.reverse_cons]
    refine RelVs.append _ ha ?_
    simp only [RelVs]
    exact ⟨_,_,Z,h3,Z⟩)
   simpa using this
theorem ArgOK.of {nx:Nat} {av arg:AV} (h:b5A m av=some arg):ArgOK m nx av arg:=by
 cases av
 case fnc f caps =>
  simp only [b5A] at h
  cases hc:a3c m caps [] with
  | none=>simp [hc] at h
  | some cs =>
   simp [hc] at h
   subst h
   intro w0 ρ w y hC hy
   simp only [RelV] at hy ⊢
   obtain ⟨ys,rfl,h1⟩:=hy
   exact ⟨ys,Z,by simpa using RelVs.rev_args2 hC caps [] cs hc h1 (acc':=[]) (by simp [RelVs])⟩
 all_goals exact ArgOK.of2 h
theorem ArgOK.sub {nx sz i:Nat} (hm:mem m id=some (.row e sz ys)) (hle:i+n<=ys.length):ArgOK m nx (.sub id sz i n) (.lst sz ((ys.drop i).take n)):=by
 intro w0 ρ w y hC hy
 simp only [RelV] at hy ⊢
 obtain ⟨hn,A,cap,rfl,hcap,hA⟩:=hy
 obtain ⟨h1,h2⟩:=hC.row hm
 have hl:((ys.drop i).take n).length=n:=by rw [List.length_take,List.length_drop];omega
 refine ⟨A,cap,by rw [hl],by omega,λc hc=>h2 c (List.mem_of_mem_drop (List.mem_of_mem_take hc)),λh0=>?_⟩
 rw [hl] at h0
 obtain ⟨g,l,c,hg,rfl⟩:=hA.1 h0
 have hblk:=h1.lt g (by rw [hg];rfl)
 refine ⟨_,Z,hblk.2,λk cs hk j u hj=>?_⟩
 have hk2:ys[i+k]?=some cs:=by
  grind
 have:=hC.rowCell0 hm hg hk2 hj
 rw [Addr.add_lit,← this]
 grind
def ArgsOK (T:List (Nat×AV)) (m:List (Nat×Option Row)) (nx:Nat):List Operand→List AV→Prop
 | [],as=>as=[]
 | x :: xs,as=>∃av a as',as=a :: as'/\ev T x=some av/\ArgOK m nx av a/\ArgsOK T m nx xs as'
theorem ArgsOK.rel {w0:Base} {nx:Nat} (hT:RelT w0 ρ T nx nt a) (hC:RelC w0 ρ m nx w) :
 ∀{xs:List Operand} {as:List AV},ArgsOK T m nx xs as→RelVs w noRho 0 as (xs.map a.eval)
 | [],_,h=>by simp only [ArgsOK] at h;subst h;simp [RelVs]
 | x :: xs,_,h=>by
  simp only [ArgsOK] at h
  obtain ⟨av,a',as',rfl,h1,h2,h3⟩:=h
  simp only [List.map_cons,RelVs]
  exact ⟨_,_,Z,h2 w0 ρ w _ hC (hT.ev h1),ArgsOK.rel hT hC h3⟩
def a9N (T:List (Nat×AV)) (m:List (Nat×Option Row)):List Operand→List AV→Option (List AV)
 | [],acc=>a3a acc []
 | x :: xs,acc=>match ev T x with
  | some av=>match b5A m av with
   | some a=>a9N T m xs (a :: acc)
   | none=>none
  | none=>none
theorem a8C {T:List (Nat×AV)} {m:List (Nat×Option Row)} {nx:Nat}:∀{xs:List Operand} {acc r:List AV},a9N T m xs acc=some r→∃as,r=acc.reverse++as/\ArgsOK T m nx xs as
 | [],acc,r,h=>by simp [a9N,F9] at h;exact ⟨[],by simp [h],Z⟩
 | x :: xs,acc,r,h=>by
  simp only [a9N] at h
  cases h1:ev T x with
  | none=>simp [h1] at h
  | some av =>
   simp only [h1] at h
   cases h2:b5A m av with
   | none=>simp [h2] at h
   | some a =>
    simp only [h2] at h
    obtain ⟨as,h3,h4⟩:=a8C (nx:=nx) h
    exact ⟨a :: as,by simp [h3],av,a,as,Z,h1,ArgOK.of h2,h4⟩
theorem ArgsOK.of {nx:Nat} {xs:List Operand} {r:List AV} (h:a9N T m xs []=some r):ArgsOK T m nx xs r:=by
 obtain ⟨as,h1,h2⟩:=a8C (nx:=nx) h
 grind
section
variable {P:Program} [Env P] {w0:Base} {ops:Array Oper} {tb:List (Nat×TyI)} {o:Oper} {rest:List Oper} {T:List (Nat×AV)} {m:List (Nat×Option Row)} {nx nt d:Nat} {r:AV} {Q:Exit→St→Prop}
theorem RelC.lt (hC:RelC w0 ρ m nx w) {id:Nat} {row:Row} (hm:mem m id=some row) {b:Nat} (hb:blk (ρ id)=some b):b < w.heap.size:=((hC.rows id row hm).2.blk_lt hb).2
theorem RelC.trans (hC:RelC w0 ρ m nx w) (hb:Below w.heap.size w w'):RelC w0 ρ m nx w':=by
 have hsz:w0.w.heap.size<=w.heap.size:=hC.below.size
 have hf:∀id r,mem m id=some r→∀p,inn w' (ρ id) r p=inn w (ρ id) r p:=λid r hr=>Z7 λb hbb=>hb.block b (hC.lt hr hbb)
 refine ⟨λid r hr=>?_,hC.apart,hC.below.trans (hb.mono hsz),hC.pin,⟨Nat.le_trans hC.kept.1 hb.size,λb hk=>(hb.block b (Nat.lt_of_lt_of_le (w0.kb b hk) hC.kept.1)).trans (hC.kept.2.1 b hk),hC.kept.2.2⟩,
  hC.inner' hb.size (λid r hr=>.inr ⟨r,hr,λp b h=>by rw [← hf id r hr];exact h⟩) (λid r hr b h=>.inl ⟨id,r,hr,h⟩)⟩
 obtain ⟨h1,h2⟩:=hC.rows id r hr
 exact ⟨h1,h2.frame (λb hbb=>hb.block b (hC.lt hr hbb)) λp b hbb=>hb.block b (hC.inner id r hr p b hbb).2.2.1⟩
def b2j:List AV→List AV→List Value→Option (AV×Value)
 | [],as,vs=>some (.tup as,.tuple ⟨rev vs []⟩)
 | x :: r,as,vs=>b2j r (x :: as) vs
theorem b1b:∀(l as:List AV) (vs:List Value),b2j l as vs=some (.tup (l.reverse++as),.tuple ⟨rev vs []⟩)
 | [],_,_=>rfl
 | x :: r,as,vs=>by simp [b2j,b1b r]
def a4T:List RC→List AV→List Value→Option (AV×Value)
 | [],as,vs=>b2j as [] vs
 | .v x :: r,as,vs=>a4T r (.v x :: as) (x :: vs)
 | .fr _ _ _ _ :: _,_,_=>none
 | .ne _ _ _ :: _,_,_=>none
def a36:Res→Option (AV×Value)
 | .one (.v x)=>some (.v x,x)
 | .one (.fr _ _ _ _)=>none
 | .one (.ne _ _ _)=>none
 | .many rs=>a4T rs [] []
 | .shp _ _ _=>none
theorem a6B:∀{rs:List RC} {as:List AV} {vs:List Value} {r:AV} {y:Value},a4T rs as vs=some (r,y)→∃xs:List Value,rs=xs.map .v/\r=.tup (as.reverse++xs.map .v)/\y=.tuple (vs.reverse++xs).toArray
 | [],as,vs,r,y,h=>by simp [a4T,b1b,a29] at h;exact ⟨[],Z,by simp [h.1],by simp [← h.2]⟩
 | .v x :: rs,as,vs,r,y,h=>by
  obtain ⟨xs,h1,h2,h3⟩:=a6B (rs:=rs) h
  exact ⟨x :: xs,by simp [h1],by simp [h2],by simp [h3]⟩
 | .fr _ _ _ _ :: _,_,_,_,_,h=>by simp [a4T] at h
 | .ne _ _ _ :: _,_,_,_,_,h=>by simp [a4T] at h
theorem RCRels.plain:∀{xs ys:List Value},RCRels B w (xs.map .v) ys→ys=xs
 | [],_,h=>by simpa [RCRels] using h
 | x :: xs,_,h=>by
  simp only [List.map_cons,RCRels] at h
  obtain ⟨y,ys,rfl,h1,h2,_⟩:=h
  simp only [RCRel] at h1
  rw [h1,RCRels.plain h2]
theorem a8D {ρ:Nat→Value} {res:Res} {r:AV} {y:Value} (h:a36 res=some (r,y)):RelV w0 ρ nx r y/\∀B w v,ResRel B w res v→v=y:=by
 cases res with
 | one c =>
  cases c with
  | v x=>simp [a36] at h;obtain ⟨rfl,rfl⟩:=h;exact ⟨by simp [RelV],λB w v h=>by simpa [ResRel,RCRel] using h⟩
  | fr _ _ _=>simp [a36] at h
  | ne _ _ _=>simp [a36] at h
 | shp _ _ _=>simp [a36] at h
 | many rs =>
  grind [a36,a6B,RelV,RelVs.map_v,ResRel,RCRels.plain]
theorem j4 {f:FuncId} {as:Array Operand} {ts:Array TypeId} {y:Value} (ho:o.op=.call { callee:=.value (.func f),args:=as,argTypes:=ts }) (ha:ArgsOK T m nx as.toList args) (hc:Ctr P f args res) (hp:a36 res=some (r,y)) :
 QStep P o T m nx nt r:=by
 intro w0 _ ρ a w hT hC
 obtain ⟨h1,h2⟩:=a8D (w0:=w0) (ρ:=ρ) (nx:=nx) hp
 refine ⟨y,h1,λw' hC'=>?_⟩
 have hrel:=ha.rel hT hC'
 have hcalls:=hc.calls w' _ (hC'.env P) hrel
 have hrun:(execOp a.eval o).run P w'=.ok (.enter f (as.toList.map a.eval).toArray) w':=by
  simp [execOp,ho,resolve,Deferred.ofValue,invoke,Act.eval,a0s hc.callable,← Array.toList_map]
 unfold Oper.quietAt
 rw [hrun]
 exact ⟨Z,hcalls.mono λe w'' ⟨v,he,hr,hb⟩=>⟨by rw [he,h2 _ _ _ hr],hC'.trans hb⟩⟩
theorem b2k {t:Nat} {f:FuncId} {as:Array Operand} {ts:Array TypeId} {caps cargs:List AV} {res:Res} {y:Value} (ho:o.op=.call { callee:=.value (.tmp t),args:=as,argTypes:=ts }) (hf:look t T=some (.fnc f caps)) (ha:ArgsOK T m nx as.toList args)
 (hcap:a3c m caps []=some cargs) (hc:Ctr P f (args++cargs) res) (hp:a36 res=some (r,y)) :
 QStep P o T m nx nt r:=by
 intro w0 _ ρ a w hT hC
 obtain ⟨h1,h2⟩:=a8D (w0:=w0) (ρ:=ρ) (nx:=nx) hp
 refine ⟨y,h1,λw' hC'=>?_⟩
 have hrel:=ha.rel hT hC'
 have hfn:=hT.tmps t _ hf
 simp only [RelV] at hfn
 obtain ⟨cs,hfe,hcs⟩:=hfn
 have hcs2:RelVs w' noRho 0 cargs cs:=by simpa using RelVs.rev_args2 hC' caps [] cargs hcap hcs (acc':=[]) (by simp [RelVs])
 have hcalls:=hc.calls w' _ (hC'.env P) (RelVs.append _ hrel hcs2)
 have hrun:(execOp a.eval o).run P w'=.ok (.enter f (as.toList.map a.eval++cs).toArray) w':=by
  simp [execOp,ho,resolve,Deferred.ofValue,invoke,Act.eval,hfe,a0s hc.callable,← Array.toList_map]
 unfold Oper.quietAt
 rw [hrun]
 exact ⟨Z,hcalls.mono λe w'' ⟨v,he,hr,hb⟩=>⟨by rw [he,h2 _ _ _ hr],hC'.trans hb⟩⟩
def upd (ρ:Nat→Value) (id:Nat) (y:Value):Nat→Value:=λi=>if i=id then y else ρ i
theorem l3 (ρ:Nat→Value) (id:Nat) (y:Value):upd ρ id y id=y:=by simp [upd]
theorem m3 (ρ:Nat→Value) {id i:Nat} (y:Value) (h:i≠id):upd ρ id y i=ρ i:=by simp [upd,h]
theorem l5 (id:Nat) (r:Option Row) (m:List (Nat×Option Row)):mem ((id,r) :: m) id=r:=by
 unfold mem
 rw [r3]
 cases r<;>rfl
theorem e7 {i:Nat} (h:id≠i) (r:Option Row) (m:List (Nat×Option Row)):mem ((id,r) :: m) i=mem m i:=by
 unfold mem
 rw [l6 h]
theorem RowRel.mono {row:Row} (hn:nx<=nx') (hr:∀i,i < nx→ρ' i=ρ i) (hid:id < nx) (h:RowRel w0 ρ nx w id row):RowRel w0 ρ' nx' w id row :=
 h.to (hr id hid) (λcs _ l hl=>RelVs.mono hn hr cs hl) λe sz yss op _ q _ hq=>⟨Nat.lt_of_lt_of_le hq hn,hr _ hq⟩
def S8 (w:World) (y:Value) (row:Row) (b:Nat):Prop:=blk y=some b∨∃p,inn w y row p=some b
theorem RowRel.inn_lt {row:Row} (h:RowRel w0 ρ nx w id row) {p:Nat×Nat} {b:Nat} (hb:inn w (ρ id) row p=some b):w0.w.heap.size<=b/\b < w.heap.size:=by
 cases row<;>simp only [inn] at hb<;>try cases hb
 obtain ⟨cells,h1,_⟩:=h
 obtain ⟨_,_,_,_,_,_,_,_,h2,h3⟩:=h1.inn hb
 exact ⟨h2,h3⟩
theorem RelC.add (hC:RelC w0 ρ m nx w) {row:Row} {y:Value} (hrow:RowRel w0 (upd ρ nx y) (nx+1) w nx row)
 (hap:∀b,S8 w y row b→(∀id r,mem m id=some r→¬ S8 w (ρ id) r b)/\¬ w0.keep b) (hself:∀p b,inn w y row p=some b→blk y≠some b/\∀p',inn w y row p'=some b→p=p'):RelC w0 (upd ρ nx y) ((nx,some row) :: m) (nx+1) w:=by
 have hkeep:∀i,i < nx→upd ρ nx y i=ρ i:=λi hi=>m3 ρ y J
 refine ⟨λid r hr=>?_,λid id' r r' hr hr' hne b hb=>?_,hC.below,⟨by have:=hC.pin.1;omega,λi hi=>(m3 ρ y (by have:=hC.pin.1;omega)).trans (hC.pin.2 i hi)⟩,⟨hC.kept.1,hC.kept.2.1,λid r hr b hb=>?_⟩,λid r hr p b hb=>?_⟩
 ·by_cases e:nx=id
  ·subst e
   rw [l5] at hr
   grind
  ·rw [e7 e] at hr
   obtain ⟨h1,h2⟩:=hC.rows id r hr
   exact ⟨by omega,h2.mono J hkeep h1⟩
 ·by_cases e:nx=id
  ·subst e
   have e':nx≠id':=hne
   rw [e7 e'] at hr'
   rw [l3] at hb
   rw [m3 _ _ (Ne.symm e')]
   intro hb'
   exact (hap b (.inl hb)).1 id' r' hr' (.inl hb')
  ·rw [e7 e] at hr
   rw [m3 _ _ (Ne.symm e)] at hb
   by_cases e':nx=id'
   ·subst e'
    rw [l3]
    exact λhb'=>(hap b (.inl hb')).1 id r hr (.inl hb)
   ·rw [e7 e'] at hr'
    rw [m3 _ _ (Ne.symm e')]
    exact hC.apart id id' r r' hr hr' hne b hb
 ·by_cases e:nx=id
  ·subst e
   rw [l3] at hb
   exact (hap b (.inl hb)).2
  ·rw [e7 e] at hr
   rw [m3 _ _ (Ne.symm e)] at hb
   exact hC.kept.2.2 id r hr b hb
 ·by_cases e:nx=id
  ·subst e
   rw [l5] at hr
   cases hr
   have hlt:=hrow.inn_lt hb
   rw [l3] at hb
   obtain ⟨g1,g2⟩:=hap b (.inr ⟨p,hb⟩)
   refine ⟨g2,hlt.1,hlt.2,λid' r' hr'=>?_⟩
   by_cases e':nx=id'
   ·grind [l5,l3]
   ·rw [e7 e'] at hr'
    rw [m3 _ _ (Ne.symm e')]
    exact ⟨λhb'=>g1 id' r' hr' (.inl hb'),λp' hp'=>absurd (.inr ⟨p',hp'⟩) (g1 id' r' hr')⟩
  ·rw [e7 e] at hr
   rw [m3 _ _ (Ne.symm e)] at hb
   obtain ⟨g1,g2,g3,g4⟩:=hC.inner id r hr p b hb
   refine ⟨g1,g2,g3,λid' r' hr'=>?_⟩
   by_cases e':nx=id'
   ·subst e'
    rw [l5] at hr'
    cases hr'
    rw [l3]
    exact ⟨λhb'=>(hap b (.inl hb')).1 id r hr (.inr ⟨p,hb⟩),λp' hp'=>absurd (.inr ⟨p,hb⟩) ((hap b (.inr ⟨p',hp'⟩)).1 id r hr)⟩
   ·rw [e7 e'] at hr'
    rw [m3 _ _ (Ne.symm e')]
    exact g4 id' r' hr'
theorem RelC.addP (hC:RelC w0 ρ m nx w) {row:Row} {y:Value} (hnone:∀p,inn w y row p=none) (hrow:RowRel w0 (upd ρ nx y) (nx+1) w nx row)
 (hap:∀id r,mem m id=some r→∀b,S8 w (ρ id) r b→blk y≠some b) (hk:∀b,blk y=some b→¬ w0.keep b):RelC w0 (upd ρ nx y) ((nx,some row) :: m) (nx+1) w :=
 hC.add hrow (λb hb=>by
  rcases hb with hb | ⟨p,hb⟩
  ·exact ⟨λid r hr hf=>hap id r hr b hf hb,hk b hb⟩
  ·rw [hnone p] at hb;cases hb) λp b hb=>by rw [hnone p] at hb;cases hb
theorem RelC.addF (hC:RelC w0 ρ m nx w) (hb:Below w.heap.size w w') {row:Row} {y:Value} (hnone:∀p,inn w' y row p=none) (hrow:RowRel w0 (upd ρ nx y) (nx+1) w' nx row) (hy:∀b,blk y=some b→w.heap.size<=b):RelC w0 (upd ρ nx y) ((nx,some row) :: m) (nx+1) w' :=
 (hC.trans hb).addP hnone hrow (λid r hr b hf hby=>by
  have h1:=hy b hby
  rcases hf with hf | ⟨p,hf⟩
  ·have:=hC.lt hr hf;omega
  ·rw [Z7 λb hbb=>hb.block b (hC.lt hr hbb)] at hf
   have:=(hC.inner id r hr p b hf).2.2.1
   omega) λb hby=>hC.fresh (hy b hby)
theorem RelT.add (hT:RelT w0 ρ T nx nt a) (y:Value):RelT w0 (upd ρ nx y) T (nx+1) nt a :=
 ⟨λt x hx=>(hT.tmps t x hx).mono J (λi hi=>m3 ρ y J),hT.size,hT.defers⟩
theorem a6C {sz:Nat} (h:w.ownsRow B e sz v n xs) (hB:B'<=B):w.ownsRow B' e sz v n xs:=by
 refine ⟨h.1,?_⟩
 rcases h.2 with h1 | ⟨g,cap,cur,h1,h2,h3⟩
 ·exact .inl h1
 ·exact .inr ⟨g,cap,cur,h1,by omega,h3⟩
theorem OwnR.base {sz:Nat} (h:OwnR w B e sz f v ys) (hB:B'<=B):OwnR w B' e sz f v ys:=by
 cases f
 ·exact a6C h hB
 ·rcases h with h1 | ⟨g,o,cap,cur,h1,h2,h3⟩
  ·exact .inl h1
  ·exact .inr ⟨g,o,cap,cur,h1,by omega,h3⟩
theorem CIRel.base {c:CI} (h:CIRel B w c u) (hB:B'<=B):CIRel B' w c u:=by
 cases c with
 | v x=>exact h
 | x=>exact h
 | l e sz ys f=>exact ⟨h.1.base hB,h.2⟩
theorem NestC.base {y:Value} {sz:Nat} {cells:List (List Value)} (h:NestC B w y e sz yss cells) (hB:B'<=B):NestC B' w y e sz yss cells :=
 ⟨a6C h.1 hB,h.2.1,h.2.2.1,h.2.2.2.1,λi k c hc=>let ⟨u,h1,h2⟩:=h.2.2.2.2 i k c hc;⟨u,h1,h2.base hB⟩⟩
theorem RCRel.foot_ge {r:RC} {y:Value} (h:RCRel B w r y) {b:Nat} (hb:a35 w r y b):B<=b/\b < w.heap.size:=by
 have own:∀{e sz n:Nat} {xs:List Value},w.ownsRow B e sz y n xs→blk y=some b→B<=b/\b < w.heap.size:=λh hb=>by
  rcases h.2 with ⟨h1,_⟩ | ⟨g,cap,cur,h1,h2,h3,_⟩
  ·rw [h1] at hb;simp [blk] at hb
  ·grind [blk]
 cases r with
 | v x=>exact hb.elim
 | fr e sz ys f=>exact h.1.blk_lt hb
 | ne e sz yss =>
  obtain ⟨cells,h1,_⟩:=h
  rcases hb with hb | ⟨p,hb⟩
  ·exact own h1.1 hb
  ·obtain ⟨_,_,_,_,_,_,_,_,h2,h3⟩:=h1.inn hb
   exact ⟨h2,h3⟩
theorem RCRels.foot_ge:∀{rs:List RC} {ys:List Value},RCRels B w rs ys→∀{b:Nat},a0K w rs ys b→B<=b/\b < w.heap.size
 | [],_,h,_,hb=>by simp only [RCRels] at h;subst h;exact hb.elim
 | r :: rs,_,h,b,hb=>by
  simp only [RCRels] at h
  obtain ⟨y,ys,rfl,h1,h2,_⟩:=h
  rcases hb with hb | hb
  ·exact h1.foot_ge hb
  ·exact RCRels.foot_ge h2 hb
def Y9:List RC→Nat→List (Nat×Option Row)→List AV→List AV×List (Nat×Option Row)×Nat
 | [],nx,m,acc=>(rev acc [],m,nx)
 | .v x :: r,nx,m,acc=>Y9 r nx m (.v x :: acc)
 | .fr e sz ys f :: r,nx,m,acc=>Y9 r (Nat.succ nx) ((nx,some (.row e sz ys f)) :: m) (.own nx :: acc)
 | .ne e sz yss :: r,nx,m,acc=>Y9 r (Nat.succ nx) ((nx,some (.nest e sz yss [])) :: m) (.own nx :: acc)
theorem RCRel.fr_row {sz:Nat} {y:Value} (h:RCRel B w (.fr e sz ys f) y) (hB:w0.w.heap.size<=B):RowRel w0 (upd ρ nx y) (nx+1) w nx (.row e sz ys f):=by
 simp only [RowRel]
 rw [l3]
 exact ⟨h.1.base hB,h.2⟩
theorem RCRel.ne_row {sz:Nat} {y:Value} (h:RCRel B w (.ne e sz yss) y) (hB:w0.w.heap.size<=B):RowRel w0 (upd ρ nx y) (nx+1) w nx (.nest e sz yss []):=by
 obtain ⟨cells,h1,_⟩:=h
 refine ⟨cells,?_,λq hq=>by cases hq⟩
 rw [l3]
 exact h1.base hB
theorem a1a {w:World} {B:Nat}:∀(rs:List RC) (ys:List Value) (ρ:Nat→Value) (nx:Nat) (m:List (Nat×Option Row)) (acc:List AV) (acc':List Value),RelC w0 ρ m nx w→w0.w.heap.size<=B→RCRels B w rs ys →
 (∀b,a0K w rs ys b→(∀id r,mem m id=some r→¬ S8 w (ρ id) r b)/\¬ w0.keep b)→RelVs w0 ρ nx acc.reverse acc' →
 ∃ρ',(∀i,i < nx→ρ' i=ρ i)/\nx<=(Y9 rs nx m acc).2.2/\RelVs w0 ρ' (Y9 rs nx m acc).2.2 (Y9 rs nx m acc).1 (acc'++ys)/\RelC w0 ρ' (Y9 rs nx m acc).2.1 (Y9 rs nx m acc).2.2 w
 | [],ys,ρ,nx,m,acc,acc',hC,hB,hr,_,ha=>by
  simp only [RCRels] at hr
  subst hr
  exact ⟨ρ,λ_ _=>Z,Nat.le_refl _,by simpa [Y9,a29] using ha,hC⟩
 | .v x :: rs,_,ρ,nx,m,acc,acc',hC,hB,hr,hap,ha=>by
  simp only [RCRels,RCRel] at hr
  obtain ⟨y,ys,rfl,rfl,hr,_⟩:=hr
  have:=a1a rs ys ρ nx m (.v y :: acc) (acc'++[y]) hC hB hr (λb hb=>hap b (.inr hb)) (by
   rw [List.reverse_cons]
   refine RelVs.append _ ha ?_
   simp only [RelVs,RelV]
   exact ⟨_,_,Z,Z,Z⟩)
  simpa [Y9] using this
 | .fr e sz zs f :: rs,_,ρ,nx,m,acc,acc',hC,hB,hr,hap,ha=>by
  simp only [RCRels] at hr
  obtain ⟨y,ys,rfl,h1,hr,hd⟩:=hr
  have hkeep:∀i,i < nx→upd ρ nx y i=ρ i:=λi hi=>m3 ρ y J
  have hft:∀b,S8 w y (.row e sz zs f) b→a35 w (.fr e sz zs f) y b:=λb hb=>by
   rcases hb with hb | ⟨p,hb⟩
   ·exact hb
   ·cases hb
  have hC':RelC w0 (upd ρ nx y) ((nx,some (.row e sz zs f)) :: m) (nx+1) w:=hC.add (h1.fr_row hB) (λb hb=>hap b (.inl (hft b hb))) (λp b hb=>by cases hb)
  have:=a1a rs ys (upd ρ nx y) (nx+1) ((nx,some (.row e sz zs f)) :: m) (.own nx :: acc) (acc'++[y]) hC' hB hr (λb hb=>⟨λid r hr hf=>by
   by_cases e':nx=id
   ·subst e'
    rw [l5] at hr
    cases hr
    rw [l3] at hf
    exact hd b (hft b hf) hb
   ·rw [e7 e'] at hr
    rw [m3 _ _ (Ne.symm e')] at hf
    exact (hap b (.inr hb)).1 id r hr hf,(hap b (.inr hb)).2⟩) (by
   rw [List.reverse_cons]
   refine RelVs.append _ (RelVs.mono J hkeep _ ha) ?_
   simp only [RelVs,RelV]
   exact ⟨_,_,Z,⟨by omega,by rw [l3]⟩,Z⟩)
  obtain ⟨ρ',g1,g2,g3,g4⟩:=this
  refine ⟨ρ',λi hi=>?_,?_,?_,?_⟩
  ·rw [g1 i J];exact hkeep i hi
  ·simp only [Y9];exact Nat.le_trans J g2
  ·simpa [Y9] using g3
  ·simpa [Y9] using g4
 | .ne e sz zs :: rs,_,ρ,nx,m,acc,acc',hC,hB,hr,hap,ha=>by
  simp only [RCRels] at hr
  obtain ⟨y,ys,rfl,h1,hr,hd⟩:=hr
  have hkeep:∀i,i < nx→upd ρ nx y i=ρ i:=λi hi=>m3 ρ y J
  have hft:∀b,S8 w y (.nest e sz zs []) b→a35 w (.ne e sz zs) y b:=λb hb=>hb
  have hC':RelC w0 (upd ρ nx y) ((nx,some (.nest e sz zs [])) :: m) (nx+1) w:=hC.add (h1.ne_row hB) (λb hb=>hap b (.inl (hft b hb))) (by obtain ⟨cells,_,h2⟩:=h1;exact h2)
  have:=a1a rs ys (upd ρ nx y) (nx+1) ((nx,some (.nest e sz zs [])) :: m) (.own nx :: acc) (acc'++[y]) hC' hB hr (λb hb=>⟨λid r hr hf=>by
   by_cases e':nx=id
   ·subst e'
    rw [l5] at hr
    cases hr
    rw [l3] at hf
    exact hd b (hft b hf) hb
   ·rw [e7 e'] at hr
    rw [m3 _ _ (Ne.symm e')] at hf
    exact (hap b (.inr hb)).1 id r hr hf,(hap b (.inr hb)).2⟩) (by
   rw [List.reverse_cons]
   refine RelVs.append _ (RelVs.mono J hkeep _ ha) ?_
   simp only [RelVs,RelV]
   exact ⟨_,_,Z,⟨by omega,by rw [l3]⟩,Z⟩)
  obtain ⟨ρ',g1,g2,g3,g4⟩:=this
  refine ⟨ρ',λi hi=>?_,?_,?_,?_⟩
  ·rw [g1 i J];exact hkeep i hi
  ·simp only [Y9];exact Nat.le_trans J g2
  ·simpa [Y9] using g3
  ·simpa [Y9] using g4
def a8W:List (Option Nat)→List AV→Option (List AV)
 | [],[]=>some []
 | [],_ :: _=>none
 | none :: sh,a :: as=>(a8W sh as).map (a :: ·)
 | none :: _,[]=>none
 | some n :: sh,as=>if n<=as.length then (a8W sh (as.drop n)).map (.agg (as.take n) :: ·) else none
theorem a9O:∀{sh:List (Option Nat)} {as:List AV} {ys vs:List Value},RelVs w0 ρ nx as ys→a6A sh ys=some vs→∃l,a8W sh as=some l/\RelVs w0 ρ nx l vs
 | [],as,ys,vs,hr,hv=>by
  cases ys with
  | nil =>
   have:=RelVs.length _ hr
   have:as=[]:=List.eq_nil_of_length_eq_zero (by simpa using this.symm)
   subst this
   simp [a6A] at hv
   subst hv
   exact ⟨[],Z,by simp [RelVs]⟩
  | cons _ _=>simp [a6A] at hv
 | none :: sh,as,ys,vs,hr,hv=>by
  cases ys with
  | nil=>simp [a6A] at hv
  | cons v ys =>
   cases as with
   | nil=>simp [RelVs] at hr
   | cons a as =>
    simp only [RelVs] at hr
    obtain ⟨y',ys',e,h1,h2⟩:=hr
    simp at e
    obtain ⟨rfl,rfl⟩:=e
    simp only [a6A,Option.map_eq_some_iff] at hv
    obtain ⟨vs',h3,rfl⟩:=hv
    obtain ⟨l,h4,h5⟩:=a9O h2 h3
    exact ⟨a :: l,by simp [a8W,h4],by simp only [RelVs];exact ⟨_,_,Z,h1,h5⟩⟩
 | some n :: sh,as,ys,vs,hr,hv=>by
  simp only [a6A] at hv
  split at hv
  ·rename_i hn
   simp only [Option.map_eq_some_iff] at hv
   obtain ⟨vs',h3,rfl⟩:=hv
   have hl:=RelVs.length _ hr
   obtain ⟨l,h4,h5⟩:=a9O (RelVs.drop n _ hr) h3
   refine ⟨.agg (as.take n) :: l,by simp [a8W,h4,show n<=as.length by omega],?_⟩
   simp only [RelVs,RelV]
   exact ⟨_,_,Z,⟨_,Z,RelVs.take n _ hr⟩,h5⟩
  ·cases hv
def b7R (single:Bool) (sh:List (Option Nat)) (as:List AV):AV :=
 match single,a8W sh as with
 | true,some [a]=>a
 | false,some l=>.tup l
 | _,_=>.any
def instR:Res→Nat→List (Nat×Option Row)→AV×List (Nat×Option Row)×Nat
 | .one (.v x),nx,m=>(.v x,m,nx)
 | .one (.fr e sz ys f),nx,m=>(.own nx,(nx,some (.row e sz ys f)) :: m,Nat.succ nx)
 | .one (.ne e sz yss),nx,m=>(.own nx,(nx,some (.nest e sz yss [])) :: m,Nat.succ nx)
 | .many rs,nx,m=>match Y9 rs nx m [] with
  | (as,m',nx')=>(.tup as,m',nx')
 | .shp single sh rs,nx,m=>match Y9 rs nx m [] with
  | (as,m',nx')=>(b7R single sh as,m',nx')
def resParts (B:Nat) (w:World):Res→Value→(List RC→List Value→Prop)→Prop
 | .one r,y,K=>RCRel B w r y/\K [r] [y]
 | .many rs,y,K=>∃ys:List Value,y=.tuple ys.toArray/\RCRels B w rs ys/\K rs ys
 | .shp single sh rs,y,K=>∃ys vs:List Value,RCRels B w rs ys/\a6A sh ys=some vs/\(if single then vs=[y] else y=.tuple vs.toArray)/\K rs ys
theorem b3p {y:Value} {K:List RC→List Value→Prop} (h:ResRel B w res y) (hk:∀rs ys,RCRels B w rs ys→K rs ys):resParts B w res y K:=by
 cases res with
 | one r=>exact ⟨h,hk _ _ ⟨y,[],Z,h,Z,λ_ _ h=>h⟩⟩
 | many rs=>obtain ⟨ys,h1,h2⟩:=h;exact ⟨ys,h1,h2,hk _ _ h2⟩
 | shp single sh rs=>obtain ⟨ys,vs,h1,h2,h3⟩:=h;exact ⟨ys,vs,h1,h2,h3,hk _ _ h1⟩
theorem a9P {y:Value} (hC:RelC w0 ρ m nx w) (hB:w0.w.heap.size<=B) (hr:resParts B w res y λrs ys=>∀b,a0K w rs ys b→(∀id r,mem m id=some r→¬ S8 w (ρ id) r b)/\¬ w0.keep b) :
 ∃ρ',(∀i,i < nx→ρ' i=ρ i)/\nx<=(instR res nx m).2.2/\RelV w0 ρ' (instR res nx m).2.2 (instR res nx m).1 y/\RelC w0 ρ' (instR res nx m).2.1 (instR res nx m).2.2 w:=by
 cases res with
 | one c =>
  obtain ⟨h1,h2⟩:=hr
  obtain ⟨ρ',g1,g2,g3,g4⟩:=a1a (w0:=w0) [c] [y] ρ nx m [] [] hC hB ⟨y,[],Z,h1,Z,λ_ _ h=>h⟩ h2 (by simp [RelVs])
  cases c with
  | v x =>
   simp only [Y9,rev,List.nil_append,RelVs] at g2 g3 g4
   obtain ⟨_,_,e,g3,_⟩:=g3
   simp at e
   obtain ⟨rfl,_⟩:=e
   exact ⟨ρ',g1,g2,g3,g4⟩
  | fr e sz ys =>
   simp only [Y9,rev,List.nil_append,RelVs] at g2 g3 g4
   obtain ⟨_,_,e,g3,_⟩:=g3
   simp at e
   obtain ⟨rfl,_⟩:=e
   exact ⟨ρ',g1,g2,g3,g4⟩
  | ne e sz ys =>
   simp only [Y9,rev,List.nil_append,RelVs] at g2 g3 g4
   obtain ⟨_,_,e,g3,_⟩:=g3
   simp at e
   obtain ⟨rfl,_⟩:=e
   exact ⟨ρ',g1,g2,g3,g4⟩
 | many rs =>
  obtain ⟨ys,rfl,h1,h2⟩:=hr
  obtain ⟨ρ',g1,g2,g3,g4⟩:=a1a (w0:=w0) rs ys ρ nx m [] [] hC hB h1 h2 (by simp [RelVs])
  refine ⟨ρ',g1,?_,?_,?_⟩
  ·simpa [instR] using g2
  ·simp only [instR,RelV]
   grind
  ·simpa [instR] using g4
 | shp single sh rs =>
  obtain ⟨ys,vs,h1,h2,h3,h4⟩:=hr
  obtain ⟨ρ',g1,g2,g3,g4⟩:=a1a (w0:=w0) rs ys ρ nx m [] [] hC hB h1 h4 (by simp [RelVs])
  simp only [List.nil_append] at g3
  obtain ⟨l,h5,h6⟩:=a9O g3 h2
  refine ⟨ρ',g1,?_,?_,?_⟩
  ·simpa [instR] using g2
  ·simp only [instR]
   cases single with
   | true =>
    simp only [if_true] at h3
    subst h3
    have hl:=RelVs.length _ h6
    match l,hl with
    | [a],_ =>
     simp_all [RelVs,b7R]
   | false =>
    simp_all [b7R,RelV]
  ·simpa [instR] using g4
theorem a9Q {w:World} {B:Nat} {ρ:Nat→Value} {res:Res} {y:Value} (hC:RelC w0 ρ m nx w) (hB:w0.w.heap.size<=B/\w0.ws.heap.size<=B) (hr:ResRel B w res y) (hlt:∀id r,mem m id=some r→∀b,S8 w (ρ id) r b→b < B) :
 ∃ρ',(∀i,i < nx→ρ' i=ρ i)/\nx<=(instR res nx m).2.2/\RelV w0 ρ' (instR res nx m).2.2 (instR res nx m).1 y/\RelC w0 ρ' (instR res nx m).2.1 (instR res nx m).2.2 w :=
 a9P hC hB.1 (b3p hr λrs ys h b hb=>by
  have:=(h.foot_ge hb).1
  refine ⟨λid r hm hf=>?_,λhk=>?_⟩
  ·grind
  ·have:=w0.kb b hk;have:=hB.2;omega)
def b3q {α β:Type}:List α→List α→(List α→β)→β
 | [],acc,k=>k acc
 | x :: r,acc,k=>b3q r (x :: acc) k
theorem a4U {α β:Type}:∀(l acc:List α) (k:List α→β),b3q l acc k=k (l.reverse++acc)
 | [],_,_=>rfl
 | x :: r,acc,k=>by simp [b3q,a4U r]
def b1c {α β:Type}:Nat→List α→List α→(List α→List α→Option β)→Option β
 | 0,l,acc,k=>b3q acc [] (λg=>k g l)
 | _+1,[],_,_=>none
 | n+1,a :: l,acc,k=>b1c n l (a :: acc) k
theorem b3r {α β:Type}:∀(n:Nat) (l acc:List α) (k:List α→List α→Option β),b1c n l acc k=if n<=l.length then k (acc.reverse++l.take n) (l.drop n) else none
 | 0,l,acc,k=>by simp [b1c,a4U]
 | _+1,[],_,_=>by simp [b1c]
 | n+1,a :: l,acc,k=>by simp [b1c,b3r n]
def b0Q {β:Type}:List (Option Nat)→List AV→List AV→(List AV→Option β)→Option β
 | [],[],acc,k=>b3q acc [] k
 | [],_ :: _,_,_=>none
 | none :: sh,a :: l,acc,k=>b0Q sh l (a :: acc) k
 | none :: _,[],_,_=>none
 | some n :: sh,l,acc,k=>b1c n l [] (λg l'=>b0Q sh l' (.agg g :: acc) k)
theorem a9t {β:Type}:∀(sh:List (Option Nat)) (l acc:List AV) (k:List AV→Option β),b0Q sh l acc k=(a8W sh l).bind (λr=>k (acc.reverse++r))
 | [],[],acc,k=>by simp [b0Q,a8W,a4U]
 | [],_ :: _,_,_=>by simp [b0Q,a8W]
 | none :: sh,a :: l,acc,k=>by simp [b0Q,a8W,a9t sh,Option.bind_map,Function.comp_def]
 | none :: _,[],_,_=>by simp [b0Q,a8W]
 | some n :: sh,l,acc,k=>by
  simp only [b0Q,b3r,a8W,List.reverse_nil,List.nil_append]
  split
  ·simp [a9t sh,Option.bind_map,Function.comp_def]
  ·rfl
def a38 {β:Type}:List RC→Nat→List (Nat×Option Row)→List AV→(List AV→List (Nat×Option Row)→Nat→Option β)→Option β
 | [],nx,m,acc,k=>b3q acc [] (λas=>k as m nx)
 | .v x :: r,nx,m,acc,k=>a38 r nx m (.v x :: acc) k
 | .fr e sz ys f :: r,nx,m,acc,k=>a38 r (Nat.succ nx) ((nx,some (.row e sz ys f)) :: m) (.own nx :: acc) k
 | .ne e sz yss :: r,nx,m,acc,k=>a38 r (Nat.succ nx) ((nx,some (.nest e sz yss [])) :: m) (.own nx :: acc) k
theorem a2u {β:Type}:∀(rs:List RC) (nx:Nat) (m:List (Nat×Option Row)) (acc:List AV) (k:List AV→List (Nat×Option Row)→Nat→Option β),a38 rs nx m acc k=k (Y9 rs nx m acc).1 (Y9 rs nx m acc).2.1 (Y9 rs nx m acc).2.2
 | [],nx,m,acc,k=>by simp [a38,Y9,a4U,a29]
 | .v x :: r,nx,m,acc,k=>by simp [a38,Y9,a2u r]
 | .fr e sz ys f :: r,nx,m,acc,k=>by simp [a38,Y9,a2u r]
 | .ne e sz ys :: r,nx,m,acc,k=>by simp [a38,Y9,a2u r]
def c0C (m:List (Nat×Option Row)) (nx:Nat):List AV→Option (AV×List (Nat×Option Row)×Nat)
 | [a]=>some (a,m,nx)
 | _=>none
def a8E:Res→Nat→List (Nat×Option Row)→Option (AV×List (Nat×Option Row)×Nat)
 | .one (.v x),nx,m=>some (.v x,m,nx)
 | .one (.fr e sz ys f),nx,m=>some (.own nx,(nx,some (.row e sz ys f)) :: m,Nat.succ nx)
 | .one (.ne e sz ys),nx,m=>some (.own nx,(nx,some (.nest e sz ys [])) :: m,Nat.succ nx)
 | .many rs,nx,m=>a38 rs nx m [] (λas m' nx'=>some (.tup as,m',nx'))
 | .shp true sh rs,nx,m=>a38 rs nx m [] (λas m' nx'=>b0Q sh as [] (c0C m' nx'))
 | .shp false sh rs,nx,m=>a38 rs nx m [] (λas m' nx'=>b0Q sh as [] (λl=>some (.tup l,m',nx')))
theorem a3d {q:AV×List (Nat×Option Row)×Nat} (h:a8E res nx m=some q):instR res nx m=q:=by
 cases res with
 | one c=>cases c<;>exact Option.some.inj h
 | many rs=>simp only [a8E,a2u,Option.some.injEq] at h;exact h
 | shp single sh rs =>
  cases single
  ·simp only [a8E,a2u,a9t,List.reverse_nil,List.nil_append,Option.bind_eq_some_iff] at h
   obtain ⟨l,h1,h2⟩:=h
   simp only [Option.some.injEq] at h2
   subst h2
   simp only [instR,b7R,h1]
  ·simp only [a8E,a2u,a9t,List.reverse_nil,List.nil_append,Option.bind_eq_some_iff] at h
   obtain ⟨l,h1,h2⟩:=h
   match l,h2 with
   | [a],h2 =>
    simp_all [c0C,instR,b7R]
   | [],h2=>simp [c0C] at h2
   | _ :: _ :: _,h2=>simp [c0C] at h2
theorem RelC.foot_lt (hC:RelC w0 ρ m nx w) {id:Nat} {row:Row} (hm:mem m id=some row) {b:Nat} (hb:S8 w (ρ id) row b):b < w.heap.size:=by
 rcases hb with hb | ⟨p,hb⟩
 ·exact hC.lt hm hb
 ·exact (hC.inner id row hm p b hb).2.2.1
theorem RelC.foot_trans (hC:RelC w0 ρ m nx w) (hb:Below w.heap.size w w') {id:Nat} {row:Row} (hm:mem m id=some row) {b:Nat} (h:S8 w' (ρ id) row b):S8 w (ρ id) row b:=by
 rcases h with h | ⟨p,h⟩
 ·exact .inl h
 ·exact .inr ⟨p,by rwa [Z7 λb hbb=>hb.block b (hC.lt hm hbb)] at h⟩
theorem d4 [EnvAt P w0] {f:FuncId} {as:Array Operand} {ts:Array TypeId} {args:List AV} {res:Res} {m':List (Nat×Option Row)} {n1:Nat} (nx':Nat) (hd:o.dst=some d) (hlt:Nat.blt d nt=true) (ho:o.op=.call { callee:=.value (.func f),args:=as,argTypes:=ts }) (ha:ArgsOK T m nx as.toList args) (hc:Ctr P f args res)
 (hi:a8E res nx m=some (r,m',n1)) (hn':Nat.beq nx' n1=true) (hk:WL P w0 ops rest ⟨(d,r) :: T,m',nx',nt⟩ Q):WX P w0 ops o rest ⟨T,m,nx,nt⟩ Q:=by
 have hn'':=Nat.eq_of_beq_eq_true hn'
 subst hn''
 have hi:=a3d hi
 intro ρ a w hT hC
 have hrel:=ha.rel hT hC
 have hcalls:=hc.calls w _ (hC.env P) hrel
 have hrun:(execOp a.eval o).run P w=.ok (.enter f (as.toList.map a.eval).toArray) w:=by
  simp [execOp,ho,resolve,Deferred.ofValue,invoke,Act.eval,a0s hc.callable,← Array.toList_map]
 unfold Oper.wp
 rw [hrun,Oper.upon_enter]
 refine hcalls.mono λe w' ⟨v,he,hr,hb'⟩=>?_
 subst he
 have hC':=hC.trans hb'
 obtain ⟨ρ',g1,g2,g3,g4⟩:=a9Q (m:=m) (nx:=nx) hC' ⟨hC.below.size,hC.kept.1⟩ hr (λid r hm b hb=>hC.foot_lt hm (hC.foot_trans hb' hm hb))
 rw [hi] at g2 g3 g4
 refine hk ρ' _ w' ?_ g4
 rw [hd]
 have hT':RelT w0 ρ' T nx' nt a:=⟨λt x hx=>(hT.tmps t x hx).mono g2 g1,hT.size,hT.defers⟩
 exact hT'.put hlt g3
end
section
variable {P:Program} [Env P] {w0:Base} {ops:Array Oper} {tb:List (Nat×TyI)} {o:Oper} {rest:List Oper} {T:List (Nat×AV)} {m:List (Nat×Option Row)} {nx nt d:Nat} {r:AV} {Q:Exit→St→Prop}
def c0D (m:List (Nat×Option Row)):AV→Bool
 | .v x=>x.oneCell'
 | .lst _ _=>true
 | .pin _ _ _=>true
 | .own id=>match mem m id with
  | some _=>true
  | none=>false
 | .sub _ _ _ _=>true
 | .ptr _ _=>true
 | .rpt _ _ _ _=>true
 | .ept _=>true
 | .fnc _ _=>true
 | .nst _ _ _=>true
 | .eptN _=>true
 | _=>false
theorem a7R (hC:RelC w0 ρ m nx w) {x:AV} (h:c0D m x=true) {y:Value} (hy:RelV w0 ρ nx x y):y.oneCell'=true:=by
 cases x<;>simp only [c0D] at h
 case v x=>simp only [RelV] at hy;subst hy;exact h
 case lst=>simp only [RelV] at hy;obtain ⟨_,_,rfl,_⟩:=hy;rfl
 case pin=>simp only [RelV] at hy;obtain ⟨_,_,_,rfl,_⟩:=hy;rfl
 case own id =>
  simp only [RelV] at hy
  cases hm:mem m id with
  | none=>simp [hm] at h
  | some row =>
   obtain ⟨_,h2⟩:=hC.rows id row hm
   rw [hy.2]
   cases row with
   | box cs=>obtain ⟨b,cur,ty,h3,_⟩:=h2;rw [h3];rfl
   | byt bs=>obtain ⟨g,cap,cur,e,fz,h3,_⟩:=h2;rw [h3];rfl
   | spare _ _ _ _=>obtain ⟨g,cur,h3,_⟩:=h2;rw [h3];rfl
   | nest e sz yss op =>
    obtain ⟨cells,h3,_⟩:=h2
    rcases h3.shape with ⟨h4,_⟩ | ⟨g,cap,h4,_⟩<;>rw [h4]<;>rfl
   | row e sz ys f =>
    obtain ⟨A,cap,h3,_⟩:=h2.1.slice
    rw [h3];rfl
 case sub=>simp only [RelV] at hy;obtain ⟨_,_,_,rfl,_⟩:=hy;rfl
 case ptr=>simp only [RelV] at hy;obtain ⟨_,_,_,rfl⟩:=hy;rfl
 case rpt=>simp only [RelV] at hy;obtain ⟨_,_,_,_,_,_,rfl⟩:=hy;rfl
 case ept=>simp only [RelV] at hy;obtain ⟨_,rfl,_⟩:=hy;rfl
 case fnc=>simp only [RelV] at hy;obtain ⟨_,rfl,_⟩:=hy;rfl
 case nst=>simp only [RelV] at hy;obtain ⟨_,_,_,rfl,_⟩:=hy;rfl
 case eptN=>simp only [RelV] at hy;obtain ⟨_,_,rfl,_⟩:=hy;rfl
 all_goals cases h
def a1D (m:List (Nat×Option Row)):List AV→Bool
 | []=>true
 | c :: cs=>c0D m c && a1D m cs
theorem a9R (hC:RelC w0 ρ m nx w):∀{x:List AV},a1D m x=true→∀{y:List Value},RelVs w0 ρ nx x y→∀u∈y,u.oneCell'=true
 | [],_,_,hy,u,hu=>by simp only [RelVs] at hy;subst hy;simp at hu
 | c :: cs,h,_,hy,u,hu=>by
  simp only [RelVs] at hy
  simp only [a1D,Bool.and_eq_true] at h
  obtain ⟨y,ys,rfl,h1,h2⟩:=hy
  rcases List.mem_cons.1 hu with rfl | hu
  ·exact a7R hC h.1 h1
  ·exact a9R hC h.2 h2 u hu
theorem a6D {x:AV} (h:C9 x=some cs) {y:Value} (hy:RelV w0 ρ nx x y) (h1:∀u,y.cells.toList=[u]→True):RelVs w0 ρ nx cs y.cells.toList∨(cs=[x]/\∃l,y=.agg l):=by
 cases x<;>simp only [C9] at h
 case agg cs' =>
  cases h
  simp only [RelV] at hy
  obtain ⟨ys,rfl,h2⟩:=hy
  exact .inl (by simpa [Value.cells] using h2)
 case v x =>
  simp only [RelV] at hy
  subst hy
  cases y<;>simp only [C9] at h<;>try cases h
  case agg l=>rw [b7Q,a29] at h;simp at h;subst h;exact .inl (by simpa [Value.cells] using RelVs.map_v l.toList)
  all_goals exact .inl (by simp only [Value.cells,RelVs];exact ⟨_,_,Z,by simp only [RelV],Z⟩)
 case tup=>cases h
 all_goals
  cases h
  cases y
  case agg l=>exact .inr ⟨Z,l,Z⟩
  all_goals exact .inl (by simp only [Value.cells,RelVs];exact ⟨_,_,Z,hy,Z⟩)
theorem Z8 (hC:RelC w0 ρ m nx w) {x:AV} {cs:List AV} (h:C9 x=some cs) (ho:a1D m cs=true) {y:Value} (hy:RelV w0 ρ nx x y):RelVs w0 ρ nx cs y.cells.toList/\∀u∈y.cells.toList,u.oneCell'=true:=by
 rcases a6D h hy (λ_ _=>trivial) with h2 | ⟨rfl,l,rfl⟩
 ·exact ⟨h2,a9R hC ho h2⟩
 ·simp only [a1D,Bool.and_eq_true] at ho
  have:=a7R hC ho.1 hy
  simp [Value.oneCell'] at this
theorem RelC.alloc (hC:RelC w0 ρ m nx w) (ob:Obj):RelC w0 ρ m nx (w.alloc ob):=hC.trans ((Below.refl _ _).alloc (Nat.le_refl _) ob)
theorem a8F {t:TypeId} (nx':Nat) (hn':Nat.beq nx' (Nat.succ nx)=true) (hd:o.dst=some d) (hlt:Nat.blt d nt=true)
 (hrun:∀ρ a w,RelT w0 ρ T nx nt a→RelC w0 ρ m nx w→∃l:List Value,RelVs w0 ρ nx cs l/\(∀u∈l,u.oneCell'=true)/\(execOp a.eval o).run P w=.ok (.value (.pointer (some ⟨w.heap.size,0,none⟩))) (w.alloc (.cells l.toArray t)))
 (hk:WL P w0 ops rest ⟨(d,.ptr nx 0) :: T,(nx,some (.box cs)) :: m,nx',nt⟩ Q):WX P w0 ops o rest ⟨T,m,nx,nt⟩ Q:=by
 intro ρ a w hT hC
 have hn'':=Nat.eq_of_beq_eq_true hn'
 subst hn''
 obtain ⟨l,hl,h1,hr⟩:=hrun ρ a w hT hC
 unfold Oper.wp
 rw [hr,Oper.upon_value,hd]
 have hkeep:∀i,i < nx→upd ρ nx (.pointer (some ⟨w.heap.size,0,none⟩)) i=ρ i:=λi hi=>m3 ρ _ J
 refine hk (upd ρ nx (.pointer (some ⟨w.heap.size,0,none⟩))) _ _ ((hT.add _).put hlt ?_) (hC.addF ((Below.refl _ _).alloc (Nat.le_refl _) _) (λ_=>Z) ?_ (λb hb=>(by simp [blk] at hb;subst hb;exact Nat.le_refl _)))
 ·simp only [RelV]
  exact ⟨by omega,_,l3 _ _ _,Z⟩
 ·refine ⟨w.heap.size,l.toArray,t,l3 _ _ _,hC.below.size,?_,?_,by simpa using h1⟩
  ·exact Go.heap_alloc_new w _
  ·simpa using RelVs.mono J hkeep _ hl
theorem B3 {t:TypeId} (nx':Nat) (hn':Nat.beq nx' (Nat.succ nx)=true) (hd:o.dst=some d) (hlt:Nat.blt d nt=true) (ho:o.op=.box t x) (hx:ev T x=some ax) (hc:C9 ax=some cs) (h1:a1D m cs=true)
 (hk:WL P w0 ops rest ⟨(d,.ptr nx 0) :: T,(nx,some (.box cs)) :: m,nx',nt⟩ Q):WX P w0 ops o rest ⟨T,m,nx,nt⟩ Q:=by
 refine a8F (t:=t) nx' hn' hd hlt (λρ a w hT hC=>?_) hk
 obtain ⟨h2,h3⟩:=Z8 hC hc h1 (hT.ev hx)
 refine ⟨_,h2,h3,?_⟩
 simp [execOp,ho,Instr.box,newVar,newRow]
theorem d7 {t:TypeId} (G:Good P tb) (nx':Nat) (hn':Nat.beq nx' (Nat.succ nx)=true) (hd:o.dst=some d) (hlt:Nat.blt d nt=true) (ho:o.op=.alloc t) (ht:look t tb=some (.struct fs zs))
 (hk:WL P w0 ops rest ⟨(d,.ptr nx 0) :: T,(nx,some (.box (avR zs []))) :: m,nx',nt⟩ Q):WX P w0 ops o rest ⟨T,m,nx,nt⟩ Q:=by
 refine a8F (t:=t) nx' hn' hd hlt (λρ a w hT hC=>?_) hk
 obtain ⟨fields,i,_,hi,_,hz,h1,_⟩:=G t _ ht
 refine ⟨zs,by rw [a33];exact RelVs.map_v zs,h1,?_⟩
 simp [execOp,ho,Instr.alloc,zeroValue,typeInfo,hi,hz,newVar,newRow,Value.cells]
theorem RelC.change (hC:RelC w0 ρ m nx w) {id:Nat} {row row':Row} (hm:mem m id=some row) {g:Nat} (hg:blk (ρ id)=some g) (hgr:w.grownBy w' (some g)) (hB:w0.w.heap.size<=g)
 (hrow':RowRel w0 ρ nx w' id row') (hin:∀p b,inn w' (ρ id) row' p=some b→inn w (ρ id) row p=some b:=by intro p b h;cases h):RelC w0 ρ ((id,some row') :: m) nx w':=by
 have hother:∀i r,mem m i=some r→i≠id→∀b,S8 w (ρ i) r b→w'.heap[b]?=w.heap[b]?:=λi r hr hne b hb=>by
  refine hgr.block b (hC.foot_lt hr hb) λe=>?_
  cases e
  rcases hb with hb | ⟨p,hb⟩
  ·exact hC.apart i id _ _ hr hm hne _ hb hg
  ·exact hC.blkne hr hm hb hg
 refine ⟨λi r hr=>?_,λi i' r r' hr hr' hne b hb=>?_,hC.below.grown hgr hC.below.size (λk hk=>by cases hk;exact hB),hC.pin,⟨Nat.le_trans hC.kept.1 hgr.size,λb hk=>(hgr.block b (Nat.lt_of_lt_of_le (w0.kb b hk) hC.kept.1) (λe=>(by cases e;exact hC.kept.2.2 id row hm _ hg hk))).trans (hC.kept.2.1 b hk),λi r hr b hb=>?_⟩,
  hC.inner' hgr.size (λi r hr=>?_) (λi r hr b hb=>?_)⟩
 ·by_cases e:id=i
  ·subst e
   rw [l5] at hr
   cases hr
   exact ⟨(hC.rows id _ hm).1,hrow'⟩
  ·rw [e7 e] at hr
   obtain ⟨h1,h2⟩:=hC.rows i r hr
   exact ⟨h1,h2.frame (λb hb=>hother i r hr (Ne.symm e) b (.inl hb)) λp b hb=>hother i r hr (Ne.symm e) b (.inr ⟨p,hb⟩)⟩
 ·have hold:∀i r,mem ((id,some row') :: m) i=some r→∃r',mem m i=some r':=λi r hr=>by
   grind [e7]
  obtain ⟨r1,h1⟩:=hold i r hr
  obtain ⟨r2,h2⟩:=hold i' r' hr'
  exact hC.apart i i' r1 r2 h1 h2 hne b hb
 ·by_cases e:id=i
  ·subst e;exact hC.kept.2.2 _ row hm b hb
  ·rw [e7 e] at hr;exact hC.kept.2.2 i r hr b hb
 ·by_cases e:id=i
  ·subst e
   rw [l5] at hr
   grind
  ·rw [e7 e] at hr
   exact .inr ⟨r,hr,λp b hb=>by rwa [Z7 λb hbb=>hother i r hr (Ne.symm e) b (.inl hbb)] at hb⟩
 ·grind [e7]
theorem I6 (w:World) (g:Nat) (cs:Array Value):w.grownBy (w.setRow g cs) (some g) :=
 ⟨Z,Z,Z,by simp [World.setRow],λk _ hk=>setRow_other w g k cs (λe=>hk (by rw [e]))⟩
def a7S {α:Type}:List α→Nat→List α→List α→List α
 | [],_,_,acc=>rev acc []
 | x :: r,0,[],acc=>a7S r 0 [] (x :: acc)
 | _ :: r,0,y :: ys,acc=>a7S r 0 ys (y :: acc)
 | x :: r,n+1,ys,acc=>a7S r n ys (x :: acc)
theorem a3e {α:Type}:∀(l:List α) (off:Nat) (ys acc:List α),off+ys.length<=l.length→a7S l off ys acc=acc.reverse++(l.take off++ys++l.drop (off+ys.length))
 | [],off,ys,acc,h=>by
  have h1:off=0:=by simp at h;omega
  have h2:ys=[]:=by cases ys with | nil=>rfl | cons _ _=>simp at h
  subst h1;subst h2
  simp [a7S,a29]
 | x :: r,0,[],acc,h=>by simp [a7S,a3e r 0 [] (x :: acc) (by simp)]
 | _ :: r,0,y :: ys,acc,h=>by
  have:=a3e r 0 ys (y :: acc) (by simp at h ⊢;omega)
  simp [a7S,this]
 | x :: r,n+1,ys,acc,h=>by
  have:=a3e r n ys (x :: acc) (by simp at h ⊢;omega)
  simp only [a7S,this]
  have e:n+1+ys.length=(n+ys.length)+1:=by omega
  simp [e]
def a7T {α:Type}:List α→Nat→List α→List α→Option (List α)
 | [],_,_,acc=>a3a acc []
 | x :: r,0,[],acc=>a7T r 0 [] (x :: acc)
 | _ :: r,0,y :: ys,acc=>a7T r 0 ys (y :: acc)
 | x :: r,n+1,ys,acc=>a7T r n ys (x :: acc)
theorem a3f {α:Type}:∀(l:List α) (off:Nat) (ys acc:List α),a7T l off ys acc=some (a7S l off ys acc)
 | [],_,_,acc=>by simp [a7T,a7S,F9,a29]
 | x :: r,0,[],acc=>by simp [a7T,a7S,a3f r]
 | _ :: r,0,y :: ys,acc=>by simp [a7T,a7S,a3f r]
 | x :: r,n+1,ys,acc=>by simp [a7T,a7S,a3f r]
theorem a0Z {t:TypeId} {i:TyI} (G:TyOK P t i) {w:World} {g off:Nat} {cur:Array Value} {ty:TypeId} (hg:w.heap[g]?=some (.cells cur ty (0,0))) {v:Value} (hl:v.cells.size=X2 i) (h1:∀u∈v.cells.toList,u.oneCell'=true) (hfit:off+v.cells.size<=cur.size) :
 (Instr.storeAt t (.pointer (some ⟨g,off,none⟩)) v).run P w=.ok () (w.setRow g (cur.toList.take off++v.cells.toList++cur.toList.drop (off+v.cells.size)).toArray):=by
 have:=run_storeCells_at (P:=P) g off ty v.cells.toList 0 cur w hg (by simpa using hfit) h1
 simp [Instr.storeAt,Instr.sureAddr,storeVar,G.run_sizeOf w,hl] at this ⊢
 rw [this]
theorem e9 {t:TypeId} {off:Nat} {vs cs':List AV} (G:Good P tb) (hd:o.dst=none) (ho:o.op=.store t x y) (ht:look t tb=some i) (hx:ev T x=some (.ptr id off)) (hm:mem m id=some (.box cs))
 (hy:ev T y=some ay) (hv:C9 ay=some vs) (h1:a1D m vs=true) (hl:Nat.beq vs.length (X2 i)=true) (hfit:Nat.ble (off+vs.length) cs.length=true) (hs:a7T cs off vs []=some cs')
 (hk:WL P w0 ops rest ⟨T,(id,some (.box cs')) :: m,nx,nt⟩ Q):WX P w0 ops o rest ⟨T,m,nx,nt⟩ Q:=by
 intro ρ a w hT hC
 have hax:=hT.ev hx
 simp only [RelV] at hax
 obtain ⟨hn,g,hg,he⟩:=hax
 obtain ⟨b,cur,ty,hρ,hB,hb,hR,hone⟩:=hC.box hm
 have hgb:g=b:=by rw [hg] at hρ;simpa using hρ
 subst hgb
 obtain ⟨h2,h3⟩:=Z8 hC hv h1 (hT.ev hy)
 have hlen:=RelVs.length _ h2
 have hlen2:=RelVs.length _ hR
 simp at hlen hlen2
 have hl':vs.length=X2 i:=Nat.eq_of_beq_eq_true hl
 have hfit':off+vs.length<=cs.length:=Nat.le_of_ble_eq_true hfit
 have hrun:=a0Z (P:=P) (G t i ht) hb (off:=off) (v:=a.eval y) J h3 J
 unfold Oper.wp
 have hr:(execOp a.eval o).run P w=.ok .skip (w.setRow g (cur.toList.take off++(a.eval y).cells.toList++cur.toList.drop (off+(a.eval y).cells.size)).toArray):=by
  simp only [execOp,ho,he,Sem.run_bind,hrun,Result.andThen_ok,Sem.run_pure]
 rw [hr,Oper.upon_skip,hd]
 refine hk ρ _ _ hT.put_none (hC.change hm (by rw [hg];rfl) (I6 w g _) hB ?_)
 refine ⟨g,_,ty,hg,hB,setRow_heap w g cur _ ty _ hb,?_,?_⟩
 ·grind [a3f,a3e,RelVs.append,RelVs.take,RelVs.drop]
 grind
theorem a1E {sz:Nat}:∀{ys:List (List Value)},(∀c∈ys,c.length=sz)→∀{i:Nat} {c c':List Value} {k:Nat} {vs:List Value},ys[i]?=some c→k+vs.length<=sz→c'=c.take k++vs++c.drop (k+vs.length) →
 (ys.set i c').flatten=ys.flatten.take (i * sz+k)++vs++ys.flatten.drop (i * sz+k+vs.length)
 | [],_,i,c,_,_,_,h,_,_=>by simp at h
 | y :: ys,hall,i,c,c',k,vs,hi,hk,hc=>by
  have hy:y.length=sz:=hall y (by simp)
  match i with
  | 0 =>
   grind
  | i+1 =>
   simp at hi
   have ih:=a1E (λc hc=>hall c (by simp [hc])) hi hk hc
   simp only [List.set_cons_succ,List.flatten_cons]
   rw [ih]
   have e1:(i+1) * sz+k=y.length+(i * sz+k):=by rw [hy,Nat.add_mul];omega
   rw [e1,List.take_length_add_append,Nat.add_assoc y.length,List.drop_length_add_append]
   simp
theorem b0R {t:TypeId} {sz:Nat} (G:Good P tb) (hd:o.dst=none) (ho:o.op=.store t x y) (ht:look t tb=some i) (hx:ev T x=some (.rpt id sz j k)) (hm:mem m id=some (.row e sz ys))
 (hc:ys[j]?=some c) (hy:ev T y=some ay) (hv:C9 ay=some cs) (hv2:vaR cs []=some vs) (h1:a1D m cs=true) (hl:Nat.beq vs.length (X2 i)=true) (hfit:k+vs.length<=c.length) (hs:a7T c k vs []=some c')
 (hk:WL P w0 ops rest ⟨T,(id,some (.row e sz (ys.set j c'))) :: m,nx,nt⟩ Q):WX P w0 ops o rest ⟨T,m,nx,nt⟩ Q:=by
 intro ρ a w hT hC
 have hax:=hT.ev hx
 simp only [RelV] at hax
 obtain ⟨hn,g,o',l,cp,hg,he⟩:=hax
 obtain ⟨hrow,hall⟩:=hC.row hm
 obtain ⟨vs',hcs,hvs⟩:=a0r _ _ _ hv2
 simp at hvs
 subst hvs
 obtain ⟨h2,h3⟩:=Z8 hC hv h1 (hT.ev hy)
 rw [hcs] at h2
 have hcells:=RelVs.map_v_eq _ h2
 have hl':vs.length=X2 i:=Nat.eq_of_beq_eq_true hl
 have hsz:(a.eval y).cells.size=vs.length:=by rw [← hcells];simp
 rcases hrow.2 with ⟨hnil,_⟩ | ⟨g',cap,cur,hsl,hB,hb,hcap,hcapm,hcur,htake⟩
 ·grind
 ·have hgg:(g=g'/\o'=0)/\l=ys.length/\cp=cap:=by rw [hg] at hsl;simpa using hsl
  obtain ⟨⟨rfl,rfl⟩,rfl,rfl⟩:=hgg
  rw [Nat.zero_add] at he
  have hjl:j < ys.length:=by
   grind
  have hcl:c.length=sz:=(hall c (List.mem_of_getElem? hc)).1
  have hbd:j * sz+k+vs.length<=ys.length * sz:=by
   have:(j+1) * sz<=ys.length * sz:=Nat.mul_le_mul_right _ hjl
   grind
  have hbd2:ys.length * sz<=cur.size:=by rw [hcur];exact Nat.mul_le_mul_right _ hcap
  have hrun:=a0Z (P:=P) (G t i ht) hb (off:=j * sz+k) (v:=a.eval y) J h3 J
  unfold Oper.wp
  have hr:(execOp a.eval o).run P w=.ok .skip (w.setRow g (cur.toList.take (j * sz+k)++(a.eval y).cells.toList++cur.toList.drop (j * sz+k+(a.eval y).cells.size)).toArray):=by
   simp only [execOp,ho,he,Sem.run_bind,hrun,Result.andThen_ok,Sem.run_pure]
  rw [hr,Oper.upon_skip,hd]
  have hc':c'=c.take k++vs++c.drop (k+vs.length):=by rw [a3f] at hs;cases hs;rw [a3e _ _ _ _ hfit];simp
  have hlen':∀c''∈ys.set j c',c''.length=sz/\∀u∈c'',u.oneCell'=true:=by
   grind
  refine hk ρ _ _ hT.put_none (hC.change hm (by rw [hg];rfl) (I6 w g _) hB ⟨⟨?_,.inr ⟨g,cp,_,by rw [hg];simp,hB,setRow_heap w g cur _ e _ hb,by simpa using hcap,hcapm,?_,?_⟩⟩,hlen'⟩)
  ·rw [m6 (λc hc=>(hlen' c hc).1)]
  ·simp [hsz];omega
  ·rw [a1E (λc hc=>(hall c hc).1) hc J hc',hcells,hsz,← htake]
   simp only [List.length_set]
   have hlt1:(List.take (j * sz+k) cur.toList).length=j * sz+k:=by rw [List.length_take];simp;omega
   simp only [List.take_append,List.take_take,List.drop_take,List.length_append,hlt1]
   rw [Nat.min_eq_left (by omega:j * sz+k<=ys.length * sz),Nat.min_eq_right (by omega:j * sz+k<=ys.length * sz)]
   rw [List.take_of_length_le (l:=vs) J]
theorem b6U {α:Type} {l F:List α} {o:Nat} (h:(l.drop o).take n=F) (hF:F.length=n) (ho:o<=l.length):l=l.take o++F++l.drop (o+n):=by
 subst h
 rw [List.append_assoc,show l.drop (o+n)=(l.drop o).drop n by rw [List.drop_drop],List.take_append_drop,List.take_append_drop]
theorem b6V {α:Type} {l F V:List α} {o p:Nat} (h:(l.drop o).take n=F) (hF:F.length=n) (ho:o<=l.length) (hp:p+V.length<=n) :
 ((l.take (o+p)++V++l.drop (o+p+V.length)).drop o).take n=F.take p++V++F.drop (p+V.length):=by
 have e:=b6U h hF ho
 have hA:(l.take o).length=o:=by rw [List.length_take];omega
 generalize hA':l.take o=A at *
 generalize l.drop (o+n)=C at *
 subst e
 have e1:(A++F++C).take (o+p)=A++F.take p:=by
  grind
 have e2:(A++F++C).drop (o+p+V.length)=F.drop (p+V.length)++C:=by
  rw [List.append_assoc,← hA,Nat.add_assoc,List.drop_length_add_append,List.drop_append_of_le_length J]
 rw [e1,e2,show A++F.take p++V++(F.drop (p+V.length)++C)=A++((F.take p++V++F.drop (p+V.length))++C) by simp [List.append_assoc],← hA,List.drop_left]
 refine List.take_left' ?_
 simp;omega
theorem b0S {t:TypeId} {sz:Nat} (G:Good P tb) (hd:o.dst=none) (ho:o.op=.store t x y) (ht:look t tb=some i) (hx:ev T x=some (.rpt id sz j k)) (hm:mem m id=some (.row e sz ys true))
 (hc:ys[j]?=some c) (hy:ev T y=some ay) (hv:C9 ay=some cs) (hv2:vaR cs []=some vs) (h1:a1D m cs=true) (hl:Nat.beq vs.length (X2 i)=true) (hfit:k+vs.length<=c.length) (hs:a7T c k vs []=some c')
 (hk:WL P w0 ops rest ⟨T,(id,some (.row e sz (ys.set j c') true)) :: m,nx,nt⟩ Q):WX P w0 ops o rest ⟨T,m,nx,nt⟩ Q:=by
 intro ρ a w hT hC
 have hax:=hT.ev hx
 simp only [RelV] at hax
 obtain ⟨hn,g,o',l,cp,hg,he⟩:=hax
 obtain ⟨hrow,hall⟩:=hC.rowF hm
 obtain ⟨vs',hcs,hvs⟩:=a0r _ _ _ hv2
 simp at hvs
 subst hvs
 obtain ⟨h2,h3⟩:=Z8 hC hv h1 (hT.ev hy)
 rw [hcs] at h2
 have hcells:=RelVs.map_v_eq _ h2
 have hl':vs.length=X2 i:=Nat.eq_of_beq_eq_true hl
 have hsz:(a.eval y).cells.size=vs.length:=by rw [← hcells];simp
 have hrow:TlR w w0.w.heap.size e sz (ρ id) ys:=hrow
 rcases hrow with ⟨hnil,_⟩ | ⟨g',o2,cap,cur,hsl,hB,hb,hcap,hoc,htake⟩
 ·grind
 ·have hgg:(g=g'/\o'=o2)/\l=ys.length/\cp=cap:=by rw [hg] at hsl;simpa using hsl
  obtain ⟨⟨rfl,rfl⟩,rfl,rfl⟩:=hgg
  have hjl:j < ys.length:=(List.getElem?_eq_some_iff.1 hc).1
  have hcl:c.length=sz:=(hall c (List.mem_of_getElem? hc)).1
  have hbd:j * sz+k+vs.length<=ys.length * sz:=by
   have:(j+1) * sz<=ys.length * sz:=Nat.mul_le_mul_right _ hjl
   grind
  have hFl:=m6 (λc hc=>(hall c hc).1)
  have hlen0:((cur.toList.drop o').take (ys.length * sz)).length=ys.length * sz:=by rw [htake];exact hFl
  have hbd2:o'+ys.length * sz<=cur.size:=by
   grind
  have hrun:=a0Z (P:=P) (G t i ht) hb (off:=o'+(j * sz+k)) (v:=a.eval y) J h3 J
  unfold Oper.wp
  have hr:(execOp a.eval o).run P w=.ok .skip (w.setRow g (cur.toList.take (o'+(j * sz+k))++(a.eval y).cells.toList++cur.toList.drop (o'+(j * sz+k)+(a.eval y).cells.size)).toArray):=by
   simp only [execOp,ho,he,Sem.run_bind,hrun,Result.andThen_ok,Sem.run_pure]
  rw [hr,Oper.upon_skip,hd]
  have hc':c'=c.take k++vs++c.drop (k+vs.length):=by rw [a3f] at hs;cases hs;rw [a3e _ _ _ _ hfit];simp
  have hlen':∀c''∈ys.set j c',c''.length=sz/\∀u∈c'',u.oneCell'=true:=by
   grind
  refine hk ρ _ _ hT.put_none (hC.change hm (by rw [hg];rfl) (I6 w g _) hB ⟨.inr ⟨g,o',cp,_,by rw [hg];simp,hB,setRow_heap w g cur _ e _ hb,by simpa using hcap,by simp [hsz];omega,?_⟩,hlen'⟩)
  rw [a1E (λc hc=>(hall c hc).1) hc J hc',hcells,hsz]
  simp only [List.length_set]
  have hcc:cur.toList.length=cur.size:=by simp
  exact b6V htake hFl J J
theorem l8 {t:TypeId} {sz:Nat} (G:Good P tb) (hd:o.dst=none) (ho:o.op=.store t x y) (ht:look t tb=some i) (hx:ev T x=some (.rpt id sz j k)) (hm:mem m id=some (.row e sz ys f))
 (hc:ys[j]?=some c) (hy:ev T y=some ay) (hv:C9 ay=some cs) (hv2:vaR cs []=some vs) (h1:a1D m cs=true) (hl:Nat.beq vs.length (X2 i)=true) (hfit:k+vs.length<=c.length) (hs:a7T c k vs []=some c')
 (hk:WL P w0 ops rest ⟨T,(id,some (.row e sz (ys.set j c') f)) :: m,nx,nt⟩ Q):WX P w0 ops o rest ⟨T,m,nx,nt⟩ Q:=by
 cases f
 ·exact b0R G hd ho ht hx hm hc hy hv hv2 h1 hl hfit hs hk
 ·exact b0S G hd ho ht hx hm hc hy hv hv2 h1 hl hfit hs hk
def a8X:List Value→Nat→List Value→List Value
 | l,_,[]=>l
 | l,off,x :: r=>a8X (l.set off x) (off+1) r
theorem a8G:∀(l:List Value) (off:Nat) (r:List Value),(a8X l off r).length=l.length
 | l,_,[]=>rfl
 | l,off,x :: r=>by simp [a8X,a8G]
theorem b5B:∀(l:List Value) (off:Nat) (r:List Value),off+r.length<=l.length→a8X l off r=l.take off++r++l.drop (off+r.length)
 | l,off,[],_=>by simp [a8X]
 | l,off,x :: r,h=>by
  have ih:=b5B (l.set off x) (off+1) r (by simp at h ⊢;omega)
  rw [a8X,ih]
  have h2:off < l.length:=by simp at h;omega
  have e1:(l.set off x).take (off+1)=l.take off++[x]:=by
   rw [List.take_succ_eq_append_getElem (by simpa using h2)]
   have:(l.set off x).take off=l.take off:=by
    rw [List.take_set]
    exact List.set_eq_of_length_le (by rw [List.length_take];omega)
   simp [this]
  have e2:(l.set off x).drop (off+1+r.length)=l.drop (off+(x :: r).length):=by
   rw [List.drop_set_of_lt J]
   congr 1
   simp;omega
  rw [e1,e2]
  simp
theorem b1d {sz:Nat}:∀(vs:List Value) (k:Nat) (cells:Array Value),(∀v∈vs,v.cells.size=sz)→(k+vs.length) * sz=cells.size →
 Instr.fill (λi=>some (i * sz,sz)) cells ((vs.zipIdx k).map λp=>(p.2,p.1))=some (cells.toList.take (k * sz)++(vs.map (·.cells.toList)).flatten).toArray
 | [],k,cells,_,hl=>by
  have:cells.toList.take (k * sz)=cells.toList:=List.take_of_length_le (by simp at hl ⊢;omega)
  simp [Instr.fill,this]
 | v :: vs,k,cells,hall,hl=>by
  have hv:v.cells.size=sz:=hall v (by simp)
  have hfold:∀(l:List Value) (j:Nat) (cs:Array Value),(l.zipIdx j).foldl (λcs (p:Value×Nat)=>cs.setIfInBounds (k * sz+p.2) p.1) cs=(a8X cs.toList (k * sz+j) l).toArray:=by
   intro l
   induction l with
   | nil=>intro j cs;simp [a8X]
   | cons x l ih =>
    intro j cs
    simp only [List.zipIdx_cons,List.foldl_cons,ih]
    simp [a8X,Nat.add_assoc]
  have hsz2:k * sz+sz<=cells.size:=by
   rw [← hl]
   simp only [List.length_cons,Nat.add_mul]
   omega
  simp only [List.zipIdx_cons,List.map_cons,Instr.fill]
  rw [if_neg (by simp [hv];omega)]
  have e1:v.cells.zipIdx.foldl (λcs (x:Value×Nat)=>cs.setIfInBounds (k * sz+x.2) x.1) cells=(a8X cells.toList (k * sz) v.cells.toList).toArray:=by
   have:=hfold v.cells.toList 0 cells
   rw [← Array.foldl_toList]
   simpa using this
  have e2:(v.cells.zipIdx.foldl (λcs (x:Value×Nat)=>match x with | (c,j)=>cs.setIfInBounds (k * sz+j) c) cells)=(a8X cells.toList (k * sz) v.cells.toList).toArray:=e1
  rw [e2]
  have ih:=b1d vs (k+1) (a8X cells.toList (k * sz) v.cells.toList).toArray (λv hv=>hall v (by simp [hv])) (by
   simp only [List.length_cons] at hl
   simp [a8G]
   rw [← hl];congr 1;omega)
  rw [ih]
  have e3:=b5B cells.toList (k * sz) v.cells.toList (by simp;omega)
  simp only [e3]
  congr 1
  congr 1
  have hl1:(List.take (k * sz) cells.toList++v.cells.toList).length=(k+1) * sz:=by
   simp [Nat.add_mul];omega
  rw [List.take_append_of_le_length J,List.take_of_length_le J]
  simp
end
section
variable {P:Program} [Env P] {w0:Base} {ops:Array Oper} {tb:List (Nat×TyI)} {o:Oper} {rest:List Oper} {T:List (Nat×AV)} {m:List (Nat×Option Row)} {nx nt d:Nat} {r:AV} {Q:Exit→St→Prop}
def b3s:List Value→Bool
 | []=>true
 | u :: us=>u.oneCell' && b3s us
theorem a9S:∀{us:List Value},b3s us=true→∀u∈us,u.oneCell'=true
 | [],_,u,hu=>by simp at hu
 | x :: us,h,u,hu=>by
  simp only [b3s,Bool.and_eq_true] at h
  rcases List.mem_cons.1 hu with rfl | hu
  ·exact h.1
  ·exact a9S h.2 u hu
def a6E (T:List (Nat×AV)) (sz:Nat):List (Nat×Operand)→Nat→List (List Value)→Option (List (List Value))
 | [],_,acc=>a3a acc []
 | (i,x) :: r,k,acc=>bif Nat.beq i k then
  match ev T x with
  | some av=>match C9 av with
   | some cs=>match vaR cs [] with
    | some vs=>bif Nat.beq vs.length sz && b3s vs then a6E T sz r (Nat.succ k) (vs :: acc) else none
    | none=>none
   | none=>none
  | none=>none
  else none
theorem a6F (hT:RelT w0 ρ T nx nt a) (hC:RelC w0 ρ m nx w) {sz:Nat}:∀{ps:List (Nat×Operand)} {k:Nat} {acc ys:List (List Value)},a6E T sz ps k acc=some ys →
 ∃(vals:List Value) (zs:List (List Value)),ys=acc.reverse++zs/\(ps.map λp=>(p.1,a.eval p.2))=(vals.zipIdx k).map (λp=>(p.2,p.1))/\vals.map (·.cells.toList)=zs/\vals.length=ps.length/\∀c∈zs,c.length=sz/\∀u∈c,u.oneCell'=true
 | [],k,acc,ys,h=>by simp [a6E,F9] at h;exact ⟨[],[],by simp [h],by simp,Z,Z,by simp⟩
 | (i,x) :: r,k,acc,ys,h=>by
  simp only [a6E] at h
  cases hi:Nat.beq i k with
  | false=>simp [hi] at h
  | true =>
   simp only [hi,cond_true] at h
   have hik:i=k:=Nat.eq_of_beq_eq_true hi
   subst hik
   cases h1:ev T x with
   | none=>simp [h1] at h
   | some av =>
    simp only [h1] at h
    cases h2:C9 av with
    | none=>simp [h2] at h
    | some cs =>
     simp only [h2] at h
     cases h3:vaR cs [] with
     | none=>simp [h3] at h
     | some vs =>
      simp only [h3] at h
      cases h4:(Nat.beq vs.length sz && b3s vs) with
      | false=>simp [h4] at h
      | true =>
       simp only [h4,cond_true] at h
       obtain ⟨vals,zs,e1,e2,e3,e4,e5⟩:=a6F hT hC h
       obtain ⟨vs',hcs,hvs⟩:=a0r _ _ _ h3
       simp at hvs
       subst hvs
       simp only [Bool.and_eq_true] at h4
       have hone:=a9S h4.2
       have hcells:(a.eval x).cells.toList=vs:=by
        rcases a6D h2 (hT.ev h1) (λ_ _=>trivial) with hr | ⟨hr,l,hl⟩
        ·rw [hcs] at hr;exact RelVs.map_v_eq _ hr
        ·rw [hcs] at hr
         cases vs with
         | nil=>simp at hr
         | cons u us =>
          simp at hr
          obtain ⟨hr1,hr2⟩:=hr
          have:=hT.ev h1
          rw [← hr1] at this
          simp only [RelV] at this
          have h5:=hone u (by simp)
          rw [hl] at this
          rw [← this] at h5
          cases h5
       refine ⟨a.eval x :: vals,vs :: zs,by simp [e1],by simp [e2],by simp [hcells,e3],by simp [e4],?_⟩
       intro c hc
       rcases List.mem_cons.1 hc with rfl | hc
       ·simp_all
       ·exact e5 c hc
theorem a1f {t sz:Nat} (G:TyOK P t (.slice e sz by_ zs)) (vals:List Value) (hall:∀v∈vals,v.cells.size=sz) (hbig:vals.length * sz<=16777216) (w:World) :
 (Instr.buildSlice t vals.length ((vals.zipIdx 0).map λp=>(p.2,p.1)).toArray).run P w =
  .ok (.slice (some ⟨w.heap.size,0,none⟩) vals.length vals.length) (w.alloc (.cells (vals.map (·.cells.toList)).flatten.toArray e)):=by
 obtain ⟨hu,_,i,z,hi,hs,_,hz,hzc,hzl,hpos,_⟩:=G
 have hsize:∀(z0:Array Value),((Array.range (vals.length * sz)).map (λj=>z0[j % z0.size]!)).size=vals.length * sz:=by intro z0;simp
 have hfill:=λ(z0:Array Value)=>b1d (sz:=sz) vals 0 ((Array.range (vals.length * sz)).map (λj=>z0[j % z0.size]!)) hall (by rw [hsize];simp)
 have h24:¬ (2 ^ 24 < vals.length * sz):=by omega
 by_cases h0:vals.length * sz=0
 ·simp [Instr.buildSlice,run_underlying hu,sizeOf,typeInfo,hi,hs,h24,h0,newRow]
  have:=hfill #[]
  simp_all
 ·simp [Instr.buildSlice,run_underlying hu,sizeOf,typeInfo,zeroValue,hi,hs,h24,h0,hz,newRow]
  have:=hfill z.cells
  simp_all
theorem m5 {t sz:Nat} {ps:Array (Nat×Operand)} (G:Good P tb) (nx':Nat) (hn':Nat.beq nx' (Nat.succ nx)=true) (hd:o.dst=some d) (hlt:Nat.blt d nt=true) (ho:o.op=.buildSlice t n ps) (ht:look t tb=some (.slice e sz by_ zs))
 (hp:a6E T sz ps.toList 0 []=some ys) (hn:Nat.beq ps.toList.length n=true) (hbig:Nat.ble (n * sz) 16777216=true)
 (hk:WL P w0 ops rest ⟨(d,.own nx) :: T,(nx,some (.row e sz ys)) :: m,nx',nt⟩ Q):WX P w0 ops o rest ⟨T,m,nx,nt⟩ Q:=by
 have hn'':=Nat.eq_of_beq_eq_true hn'
 subst hn''
 intro ρ a w hT hC
 obtain ⟨vals,zs',e1,e2,e3,e4,e5⟩:=a6F hT hC hp
 simp at e1
 subst e1
 have hn':vals.length=n:=by rw [e4];exact Nat.eq_of_beq_eq_true hn
 have hall:∀v∈vals,v.cells.size=sz:=by
  intro v hv
  have:v.cells.toList∈ys:=by rw [← e3];exact List.mem_map.2 ⟨v,hv,Z⟩
  grind
 have hrun:=a1f (G t _ ht) vals hall (by rw [hn'];exact Nat.le_of_ble_eq_true hbig) w
 have hr:(execOp a.eval o).run P w=.ok (.value (.slice (some ⟨w.heap.size,0,none⟩) n n)) (w.alloc (.cells ys.flatten.toArray e)):=by
  have hps:(ps.map λ(p:Nat×Operand)=>(p.1,a.eval p.2))=((vals.zipIdx 0).map λp=>(p.2,p.1)).toArray:=by
   grind
  have hps':(Array.map (λx=>match x with | (i,x)=>(i,a.eval x)) ps)=((vals.zipIdx 0).map λp=>(p.2,p.1)).toArray:=hps
  rw [hn',e3] at hrun
  simp only [execOp,ho,hps',hrun,Sem.run_bind,Result.andThen_ok,Sem.run_pure]
 unfold Oper.wp
 rw [hr,Oper.upon_value,hd]
 have hkeep:∀i,i < nx→upd ρ nx (.slice (some ⟨w.heap.size,0,none⟩) n n) i=ρ i:=λi hi=>m3 ρ _ J
 have hyl:ys.length=n:=by rw [← e3,List.length_map,hn']
 refine hk (upd ρ nx (.slice (some ⟨w.heap.size,0,none⟩) n n)) _ _ ((hT.add _).put hlt ?_) (hC.addF ((Below.refl _ _).alloc (Nat.le_refl _) _) (λ_=>Z) ?_ (λb hb=>(by simp [blk] at hb;subst hb;exact Nat.le_refl _)))
 ·simp only [RelV]
  exact ⟨by omega,by rw [l3]⟩
 ·refine ⟨?_,e5⟩
  rw [l3,OwnR.no,hyl]
  have hbig':=Nat.le_of_ble_eq_true hbig
  obtain ⟨_,_,i,z,_,_,_,_,_,_,hpos,_⟩:=G t _ ht
  have hnle:n<=n * sz:=Nat.le_mul_of_pos_right n hpos
  have:=World.ownsRow_lit (base:=w0.w.heap.size) (e:=e) (size:=sz) w ys.flatten.toArray n hC.below.size (by unfold maxLen;omega) (by simpa [hyl] using m6 (λc hc=>(e5 c hc).1))
  simpa using this
theorem b1e (hpos:0 < zs.length) (n:Nat):(madeCells zs.toArray (n * zs.length)).toList=(List.replicate n zs).flatten:=by
 apply List.ext_getElem?
 intro j
 by_cases hj:j < n * zs.length
 ·have hdiv:j / zs.length < n:=Nat.div_lt_of_lt_mul (by rw [Nat.mul_comm];exact hj)
  have hmod:j % zs.length < zs.length:=Nat.mod_lt _ hpos
  have h1:=O7 (ys:=List.replicate n zs) (sz:=zs.length) (λc hc=>by rw [(List.mem_replicate.1 hc).2]) (i:=j / zs.length) (c:=zs) (by simp [hdiv]) hmod
  have h2:j / zs.length * zs.length+j % zs.length=j:=by rw [Nat.mul_comm];exact Nat.div_add_mod j _
  rw [h2] at h1
  rw [h1]
  simp [madeCells,hj,hmod]
 ·rw [List.getElem?_eq_none (by simp [madeCells];omega),List.getElem?_eq_none (by rw [m6 (sz:=zs.length) (λc hc=>by rw [(List.mem_replicate.1 hc).2])];simp;omega)]
theorem c0E {t e sz by_ n:Nat} {zs:List Value} {x y:Operand} {kl kc:IntKind} {i j:Int} (G:Good P tb) (nx':Nat) (hn':Nat.beq nx' (Nat.succ nx)=true) (hd:o.dst=some d) (hlt:Nat.blt d nt=true) (ho:o.op=.makeSlice t x y) (ht:look t tb=some (.slice e sz by_ zs))
 (hx:ev T x=some (.v (.int kl i))) (hy:ev T y=some (.v (.int kc j))) (hi:i=(n:Int)) (hj:j=(n:Int)) (hb:by_ * n<=281474976710656) (hn:n<=9223372036854775807)
 (hk:WL P w0 ops rest ⟨(d,.own nx) :: T,(nx,some (.row e sz (List.replicate n zs))) :: m,nx',nt⟩ Q):WX P w0 ops o rest ⟨T,m,nx,nt⟩ Q:=by
 have hn'':=Nat.eq_of_beq_eq_true hn'
 subst hn''
 subst hi;subst hj
 intro ρ a w hT hC
 have h1:=hT.ev hx
 have h2:=hT.ev hy
 simp only [RelV] at h1 h2
 obtain ⟨hu,_,i,z,hi,hs,hby,hz,hzc,hzl,hpos,hone⟩:=G t _ ht
 subst hby;subst hs
 obtain ⟨w',hr,hown,hgr⟩:=run_make_full (P:=P) w w0.w.heap.size t e i z i.size hu hi hz Z kl kc n hb (by unfold maxLen;exact hn) hC.below.size
 have hr2:(execOp a.eval o).run P w=.ok (.value (.slice (some ⟨w.heap.size,0,none⟩) n n)) w':=by
  simp only [execOp,ho,h1,h2,hr,Sem.run_bind,Result.andThen_ok,Sem.run_pure]
 unfold Oper.wp
 rw [hr2,Oper.upon_value,hd]
 have hb2:Below w.heap.size w w':=(Below.refl _ _).grown hgr (Nat.le_refl _) (by simp)
 refine hk (upd ρ nx (.slice (some ⟨w.heap.size,0,none⟩) n n)) _ _ ((hT.add _).put hlt ?_) (hC.addF hb2 (λ_=>Z) ?_ (λb hb=>(by simp [blk] at hb;subst hb;exact Nat.le_refl _)))
 ·simp only [RelV]
  exact ⟨by omega,by rw [l3]⟩
 ·refine ⟨?_,λc hc=>by rw [(List.mem_replicate.1 hc).2];exact ⟨hzl,hone⟩⟩
  rw [l3,OwnR.no,List.length_replicate]
  rw [hzc,← hzl,b1e J] at hown
  grind
mutual
def ment (id:Nat):AV→Bool
 | .own i=>Nat.beq i id
 | .sub i _ _ _=>Nat.beq i id
 | .ptr i _=>Nat.beq i id
 | .rpt i _ _ _=>Nat.beq i id
 | .agg cs=>a0U id cs
 | .tup cs=>a0U id cs
 | .fnc _ cs=>a0U id cs
 | .eptN cs=>a0U id cs
 | _=>false
def a0U (id:Nat):List AV→Bool
 | []=>false
 | c :: cs=>ment id c || a0U id cs
end
theorem N6 {a b:Nat} (h:Nat.beq a b=false):a≠b:=by rintro rfl;rw [Nat.beq_refl] at h;cases h
mutual
theorem RelV.upd {ρ:Nat→Value} {id:Nat} {y':Value}:∀(x:AV) {y:Value},ment id x=false→RelV w0 ρ nx x y→RelV w0 (upd ρ id y') nx x y
 | .v _,_,_,h=>h
 | .lst _ _,_,_,h=>h
 | .pin _ _ _,_,_,h=>h
 | .ept _,_,_,h=>h
 | .own i,_,hm,h=>by simp only [ment] at hm;simp only [RelV] at h ⊢;rw [m3 _ _ (N6 hm)];exact h
 | .sub i _ _ _,_,hm,h=>by simp only [ment] at hm;simp only [RelV] at h ⊢;rw [m3 _ _ (N6 hm)];exact h
 | .ptr i _,_,hm,h=>by simp only [ment] at hm;simp only [RelV] at h ⊢;rw [m3 _ _ (N6 hm)];exact h
 | .rpt i _ _ _,_,hm,h=>by simp only [ment] at hm;simp only [RelV] at h ⊢;rw [m3 _ _ (N6 hm)];exact h
 | .agg cs,_,hm,h=>by
  simp only [ment] at hm
  simp only [RelV] at h ⊢
  obtain ⟨ys,e,h⟩:=h
  exact ⟨ys,e,RelVs.upd cs hm h⟩
 | .tup cs,_,hm,h=>by
  simp only [ment] at hm
  simp only [RelV] at h ⊢
  obtain ⟨ys,e,h⟩:=h
  exact ⟨ys,e,RelVs.upd cs hm h⟩
 | .fnc _ cs,_,hm,h=>by
  simp only [ment] at hm
  simp only [RelV] at h ⊢
  obtain ⟨ys,e,h⟩:=h
  exact ⟨ys,e,RelVs.upd cs hm h⟩
 | .nst _ _ _,_,_,h=>h
 | .any,_,_,h=>h
 | .eptN cs,_,hm,h=>by
  simp only [ment] at hm
  simp only [RelV] at h ⊢
  obtain ⟨ad,us,e,hb,h,h2⟩:=h
  exact ⟨ad,us,e,hb,RelVs.upd cs hm h,h2⟩
theorem RelVs.upd {ρ:Nat→Value} {id:Nat} {y':Value}:∀(x:List AV) {y:List Value},a0U id x=false→RelVs w0 ρ nx x y→RelVs w0 (upd ρ id y') nx x y
 | [],_,_,h=>h
 | c :: cs,_,hm,h=>by
  simp only [a0U,Bool.or_eq_false_iff] at hm
  simp only [RelVs] at h ⊢
  obtain ⟨y,ys,e,h1,h2⟩:=h
  exact ⟨y,ys,e,RelV.upd c hm.1 h1,RelVs.upd cs hm.2 h2⟩
end
def a39 (id:Nat):List (Nat×Nat×Nat)→Bool
 | []=>false
 | q :: r=>Nat.beq q.2.2 id || a39 id r
theorem a1g {id:Nat}:∀{op:List (Nat×Nat×Nat)},a39 id op=false→∀q∈op,q.2.2≠id
 | [],_,q,hq=>by cases hq
 | p :: r,h,q,hq=>by
  simp only [a39,Bool.or_eq_false_iff] at h
  rcases List.mem_cons.1 hq with rfl | hq
  ·exact N6 h.1
  ·exact a1g h.2 q hq
def freeM (id:Nat):List (Nat×Option Row)→Bool
 | []=>true
 | (_,some (.box cs)) :: r=>!a0U id cs && freeM id r
 | (_,some (.nest _ _ _ op)) :: r=>!a39 id op && freeM id r
 | _ :: r=>freeM id r
theorem V4:∀{m:List (Nat×Option Row)},freeM id m=true→∀{i:Nat} {row:Row},mem m i=some row→(∀cs,row=.box cs→a0U id cs=false)/\∀e sz yss op,row=.nest e sz yss op→a39 id op=false
 | [],_,_,_,h=>by simp [mem,look] at h
 | (j,row) :: r,h,i,row',hm=>by
  by_cases e:j=i
  ·grind [l5,freeM]
  ·rw [e7 e] at hm
   refine V4 (m:=r) ?_ hm
   cases row with
   | none=>simpa [freeM] using h
   | some row=>cases row with
    | box cs'=>simp only [freeM,Bool.and_eq_true] at h;exact h.2
    | nest _ _ _ _=>simp only [freeM,Bool.and_eq_true] at h;exact h.2
    | row _ _ _=>simpa [freeM] using h
    | byt _=>simpa [freeM] using h
    | spare _ _ _ _=>simpa [freeM] using h
theorem RowRel.updRho {i:Nat} {y':Value} {row:Row} (h:RowRel w0 ρ nx w i row) (hf:freeM id m=true) (hm:mem m i=some row) (hne:i≠id):RowRel w0 (upd ρ id y') nx w i row :=
 h.to (m3 ρ y' hne) (λcs e l hl=>RelVs.upd cs ((V4 hf hm).1 cs e) hl) λe sz yss op he q hq hlt=>⟨hlt,m3 ρ y' (a1g ((V4 hf hm).2 _ _ _ _ he) q hq)⟩
def has (k:Nat):List Nat→Bool
 | []=>false
 | x :: r=>Nat.beq x k || has k r
theorem a1b:∀{l:List Nat},has k l=false→∀x∈l,x≠k
 | [],_,x,hx=>by simp at hx
 | y :: l,h,x,hx=>by
  simp only [has,Bool.or_eq_false_iff] at h
  rcases List.mem_cons.1 hx with rfl | hx
  ·exact N6 h.1
  ·exact a1b h.2 x hx
def a8H (id:Nat):List (Nat×AV)→List Nat→List (Nat×AV)→List (Nat×AV)
 | [],_,acc=>acc
 | (t,x) :: r,seen,acc=>bif has t seen then a8H id r seen acc else bif ment id x then a8H id r (t :: seen) acc else a8H id r (t :: seen) ((t,x) :: acc)
theorem U5:∀(l:List (Nat×AV)) (seen:List Nat) (acc:List (Nat×AV)) (t:Nat) (x:AV),look t (a8H id l seen acc)=some x→(∀p∈acc,p.1∈seen) →
 (look t acc=some x)∨(t∉seen/\look t l=some x/\ment id x=false)
 | [],seen,acc,t,x,h,_=>.inl (by simpa [a8H] using h)
 | (t',x') :: r,seen,acc,t,x,h,hs=>by
  simp only [a8H] at h
  cases h1:has t' seen with
  | true =>
   simp only [h1,cond_true] at h
   rcases U5 r seen acc t x h hs with h2 | ⟨h2,h3,h4⟩
   ·exact .inl h2
   ·refine .inr ⟨h2,?_,h4⟩
    have hne:t'≠t:=λe=>by
     subst e
     exact h2 (has_mem h1)
    rw [l6 hne];exact h3
  | false =>
   simp only [h1,cond_false] at h
   have hns:t'∉seen:=λhm=>a1b h1 t' hm Z
   cases h2:ment id x' with
   | true =>
    simp only [h2,cond_true] at h
    rcases U5 r (t' :: seen) acc t x h (λp hp=>List.mem_cons_of_mem _ (hs p hp)) with h3 | ⟨h3,h4,h5⟩
    ·exact .inl h3
    ·simp at h3
     refine .inr ⟨h3.2,?_,h5⟩
     rw [l6 (λe=>h3.1 e.symm)];exact h4
   | false =>
    simp only [h2,cond_false] at h
    rcases U5 r (t' :: seen) ((t',x') :: acc) t x h (λp hp=>by
     rcases List.mem_cons.1 hp with rfl | hp
     ·simp
     ·exact List.mem_cons_of_mem _ (hs p hp)) with h3 | ⟨h3,h4,h5⟩
    ·by_cases e:t'=t
     ·subst e
      rw [r3] at h3
      cases h3
      exact .inr ⟨hns,r3 _ _ _,h2⟩
     ·rw [l6 e] at h3
      exact .inl h3
    ·simp at h3
     refine .inr ⟨h3.2,?_,h5⟩
     rw [l6 (λe=>h3.1 e.symm)];exact h4
where
 has_mem {k:Nat}:∀{l:List Nat},has k l=true→k∈l
  | [],h=>by cases h
  | y :: l,h=>by
   simp only [has,Bool.or_eq_true] at h
   rcases h with h | h
   ·rw [Nat.eq_of_beq_eq_true h];simp
   ·exact List.mem_cons_of_mem _ (has_mem h)
def a5z (id:Nat):List (Nat×AV)→List Nat→List (Nat×AV)→Option (List (Nat×AV))
 | [],_,acc=>some acc
 | (t,x) :: r,seen,acc=>bif has t seen then a5z id r seen acc else bif ment id x then a5z id r (t :: seen) acc else a5z id r (t :: seen) ((t,x) :: acc)
theorem a6G:∀(l:List (Nat×AV)) (seen:List Nat) (acc:List (Nat×AV)),a5z id l seen acc=some (a8H id l seen acc)
 | [],_,_=>rfl
 | (t,x) :: r,seen,acc=>by
  simp only [a5z,a8H]
  cases has t seen<;>cases ment id x<;>simp [a6G r]
theorem a2v {t ty e sz by_:Nat} {zs:List Value} (G:TyOK P t (.slice e sz by_ zs)) {w:World} {base:Nat} {v:Value} {n:Nat} {xs:List Value} (hown:w.ownsRow base e sz v n xs) {ys:List (List Value)} {y:Value} (hr:ReadsAt w sz ys y)
 (hbytes:(n+ys.length) * by_<=140737488355328) (hby:0 < by_) (hbase:base<=w.heap.size) :
 ∃v' w',(Builtin.append_ #[t,t] ty #[v,y]).run P w=.ok v' w'/\w'.ownsRow base e sz v' (n+ys.length) (xs++ys.flatten)/\w.grownBy w' v.ownBlock/\(v'.ownBlock=v.ownBlock∨v'.ownBlock=some w.heap.size):=by
 obtain ⟨hu,_,i,z,hi,hs,hb,hz,hzc,hzl,hpos,_⟩:=G
 obtain ⟨A,cap,rfl,hcap,hall,hA⟩:=hr
 have hmax:n+ys.length<=maxLen:=by
  have:n+ys.length<=(n+ys.length) * by_:=Nat.le_mul_of_pos_right _ hby
  unfold maxLen
  omega
 have hzs:z.cells.size=sz:=by rw [hzc];simpa using hzl
 cases A with
 | none =>
  have h0:ys.length=0:=by
   rcases Nat.eq_zero_or_pos ys.length with h0 | h0
   ·exact h0
   ·obtain ⟨ad,h,_⟩:=hA h0;cases h
  have hy:ys=[]:=List.eq_nil_of_length_eq_zero h0
  subst hy
  refine ⟨v,w,?_,by simpa using hown,⟨Z,Z,Z,Nat.le_refl _,λ_ _ _=>Z⟩,.inl Z⟩
  rcases hown.2 with ⟨rfl,rfl⟩ | ⟨g,cap',cur,rfl,_,_,hnc,_⟩
  ·simp [Builtin.append_,run_underlying hu,sizeOf,typeInfo,hi,Builtin.lenOf,Builtin.firstCells]
  ·simp [Builtin.append_,run_underlying hu,sizeOf,typeInfo,hi,Builtin.lenOf,Builtin.firstCells,hnc,storeCells]
 | some ad =>
  obtain ⟨v',w',h1,h2,h3,_,h4⟩:=run_append_own_at (P:=P) w base t ty e i z sz by_ hu hi hz hs hb hzs hpos v n xs hown ad ys.length cap ys.flatten (m6 (λc hc=>(hall c hc).1)) (λj u hj=>by
   have hjl:j < ys.flatten.length:=by
    rcases Nat.lt_or_ge j ys.flatten.length with hlt | hge
    ·exact hlt
    ·rw [List.getElem?_eq_none hge] at hj;cases hj
   rw [m6 (λc hc=>(hall c hc).1)] at hjl
   have hdiv:j / sz < ys.length:=Nat.div_lt_of_lt_mul (by rw [Nat.mul_comm];exact hjl)
   obtain ⟨ad',e1,_,hcell⟩:=hA (Nat.lt_of_le_of_lt (Nat.zero_le _) hdiv)
   cases e1
   have hq:j / sz * sz+j % sz=j:=by rw [Nat.mul_comm];exact Nat.div_add_mod j _
   have:=O7 (sz:=sz) (λc hc=>(hall c hc).1) (List.getElem?_eq_getElem hdiv) (Nat.mod_lt j hpos)
   rw [hq,hj] at this
   have:=hcell _ _ (List.getElem?_eq_getElem hdiv) _ _ this.symm
   rwa [hq] at this) (λu hu=>by
   obtain ⟨c,hc,huc⟩:=List.mem_flatten.1 hu
   exact (hall c hc).2 u huc) hmax hbytes hbase
  exact ⟨v',w',h1,h2,h3,h4⟩
theorem a3g {base sz:Nat} (h:w.ownsRow base e sz v n xs):blk v=v.ownBlock:=by
 rcases h.2 with ⟨rfl,_⟩ | ⟨g,cap,cur,rfl,_⟩<;>rfl
theorem RelC.grow {row row':Row} {v':Value} (hC:RelC w0 ρ m nx w) (hp:w0.n0<=id) (hm:mem m id=some row) (hf:freeM id m=true) (hob:blk (ρ id)=(ρ id).ownBlock) (hob':blk v'=v'.ownBlock)
 (hgr:w.grownBy w' (ρ id).ownBlock) (hat:v'.ownBlock=(ρ id).ownBlock∨v'.ownBlock=some w.heap.size) (hrow':RowRel w0 (upd ρ id v') nx w' id row') (hin:∀p b,inn w' v' row' p=some b→inn w (ρ id) row p=some b:=by intro p b h;cases h):RelC w0 (upd ρ id v') ((id,some row') :: m) nx w':=by
 have hBg:∀k,(ρ id).ownBlock=some k→w0.w.heap.size<=k:=λk hk=>((hC.rows id row hm).2.blk_lt (by rw [hob];exact hk)).1
 have hother:∀i r,mem m i=some r→i≠id→∀b,S8 w (ρ i) r b→w'.heap[b]?=w.heap[b]?:=λi r hr hne b hb=>by
  refine hgr.block b (hC.foot_lt hr hb) λe=>?_
  rw [← hob] at e
  rcases hb with hb | ⟨p,hb⟩
  ·exact hC.apart i id _ _ hr hm hne b hb e.symm
  ·exact hC.blkne hr hm hb e.symm
 have hapn:∀i r,mem m i=some r→i≠id→∀b,blk (ρ i)=some b→blk v'≠some b:=by
  intro i r hr hne b hb hv
  rw [hob'] at hv
  rcases hat with h | h
  ·rw [h,← hob] at hv
   exact hC.apart i id _ _ hr hm hne b hb hv
  ·rw [h] at hv
   cases hv
   have:=hC.lt hr hb
   omega
 refine ⟨λi r hr=>?_,λi i' r r' hr hr' hne b hb=>?_,hC.below.grown hgr hC.below.size hBg,⟨hC.pin.1,λi hi=>(m3 ρ v' J).trans (hC.pin.2 i hi)⟩,⟨Nat.le_trans hC.kept.1 hgr.size,λb hk=>(hgr.block b (Nat.lt_of_lt_of_le (w0.kb b hk) hC.kept.1) (λe=>hC.kept.2.2 id _ hm b (by rw [hob];exact e.symm) hk)).trans (hC.kept.2.1 b hk),λi r hr b hb hk=>?_⟩,
  hC.inner' hgr.size (λi r hr=>?_) (λi r hr b hb=>?_)⟩
 ·by_cases e':id=i
  ·subst e'
   rw [l5] at hr
   cases hr
   exact ⟨(hC.rows id row hm).1,hrow'⟩
  ·rw [e7 e'] at hr
   obtain ⟨h1,h2⟩:=hC.rows i r hr
   exact ⟨h1,(h2.frame (λb hb=>hother i r hr (Ne.symm e') b (.inl hb)) λp b hb=>hother i r hr (Ne.symm e') b (.inr ⟨p,hb⟩)).updRho hf hr (Ne.symm e')⟩
 ·by_cases e1:id=i
  ·grind [e7,l3,m3]
  ·rw [e7 e1] at hr
   rw [m3 _ _ (Ne.symm e1)] at hb
   by_cases e2:id=i'
   ·subst e2
    rw [l3]
    grind
   ·rw [e7 e2] at hr'
    rw [m3 _ _ (Ne.symm e2)]
    exact hC.apart i i' r r' hr hr' hne b hb
 ·by_cases e':id=i
  ·subst e'
   rw [l3,hob'] at hb
   rcases hat with h | h
   ·rw [h,← hob] at hb;exact hC.kept.2.2 id _ hm b hb hk
   ·rw [h] at hb;cases hb;exact hC.fresh (Nat.le_refl _) hk
  ·rw [e7 e'] at hr
   rw [m3 _ _ (Ne.symm e')] at hb
   exact hC.kept.2.2 i r hr b hb hk
 ·by_cases e':id=i
  ·grind [l5,l3]
  ·rw [e7 e'] at hr
   rw [m3 _ _ (Ne.symm e')]
   exact .inr ⟨r,hr,λp b hb=>by rwa [Z7 λb hbb=>hother i r hr (Ne.symm e') b (.inl hbb)] at hb⟩
 ·grind [l3,e7,m3]
theorem a9T {t e sz by_:Nat} {zs:List Value} {ys us:List (List Value)} {ay:AV} {T':List (Nat×AV)} (G:Good P tb) (hp:w0.n0<=id) (hd:o.dst=some d) (hlt:Nat.blt d nt=true) (ho:o.op=.call { callee:=.builtin .append,args:=#[x,y],argTypes:=#[t,t] })
 (ht:look t tb=some (.slice e sz by_ zs)) (hx:ev T x=some (.own id)) (hm:mem m id=some (.row e sz ys)) (hy:ev T y=some ay) (ha:ArgOK m nx ay (.lst sz us)) (hby:Nat.blt 0 by_=true) (hbytes:(ys.length+us.length) * by_<=140737488355328)
 (hf:freeM id m=true) (hT':a5z id T [] []=some T')
 (hk:WL P w0 ops rest ⟨(d,.own id) :: T',(id,some (.row e sz (ys++us))) :: m,nx,nt⟩ Q):WX P w0 ops o rest ⟨T,m,nx,nt⟩ Q:=by
 intro ρ a w hT hC
 have h1:=hT.ev hx
 simp only [RelV] at h1
 obtain ⟨hrow,hall⟩:=hC.row hm
 have hr:=ha w0 ρ w _ hC (hT.ev hy)
 simp only [RelV] at hr
 have hus:∀c∈us,c.length=sz/\∀u∈c,u.oneCell'=true:=by obtain ⟨_,_,_,_,hus,_⟩:=hr;exact hus
 obtain ⟨v',w',hrun,hown,hgr,hat⟩:=a2v (ty:=o.type) (G t _ ht) hrow hr hbytes (Nat.le_of_ble_eq_true hby) hC.below.size
 have hr2:(execOp a.eval o).run P w=.ok (.value v') w':=by
  simp only [execOp,ho,resolve,invoke,builtin,Sem.run_bind,Sem.run_pure,Result.andThen_ok,List.map_toArray,List.map_cons,List.map_nil,h1.2,hrun]
 unfold Oper.wp
 rw [hr2,Oper.upon_value,hd]
 refine hk (upd ρ id v') _ _ ?_ (hC.grow hp hm hf (a3g hrow) (a3g hown) hgr hat ?_)
 ·refine RelT.put ⟨λt' x' hx'=>?_,hT.size,hT.defers⟩ hlt ?_
  ·rw [a6G] at hT'
   cases hT'
   rcases U5 _ _ _ _ _ hx' (by simp) with h2 | ⟨_,h2,h3⟩
   ·simp [look] at h2
   ·exact RelV.upd _ h3 (hT.tmps t' x' h2)
  ·simp only [RelV]
   exact ⟨h1.1,by rw [l3]⟩
 ·refine ⟨?_,?_⟩
  ·grind [l3,OwnR.no]
  grind
theorem l1 {t e sz by_:Nat} {zs:List Value} {ys us:List (List Value)} {ay:AV} {T':List (Nat×AV)} (G:Good P tb) (hp:w0.n0<=id) (hd:o.dst=some d) (hlt:Nat.blt d nt=true) (ho:o.op=.call { callee:=.builtin .append,args:=#[x,y],argTypes:=#[t,t] })
 (ht:look t tb=some (.slice e sz by_ zs)) (hx:ev T x=some (.own id)) (hm:mem m id=some (.row e sz ys)) (hy:ev T y=some ay) (ha:a3b m ay=some (.lst sz us)) (hby:Nat.blt 0 by_=true) (hbytes:(ys.length+us.length) * by_<=140737488355328)
 (hf:freeM id m=true) (hT':a5z id T [] []=some T')
 (hk:WL P w0 ops rest ⟨(d,.own id) :: T',(id,some (.row e sz (ys++us))) :: m,nx,nt⟩ Q):WX P w0 ops o rest ⟨T,m,nx,nt⟩ Q :=
 a9T G hp hd hlt ho ht hx hm hy (ArgOK.of1 ha) hby hbytes hf hT' hk
end
end Go.Rf
