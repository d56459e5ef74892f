/- Texts merged into one: RfSR. -/
import Derived.Test.YtcnodpipinlpcaaGreatLibD
import Derived.KernelRfl
set_option linter.unusedSectionVars false
set_option linter.unusedSimpArgs false
set_option linter.unusedVariables false
namespace Go.Rf
open Go Go.RowKit
section
variable {P:Program} [Env P] {w0:Base} {ops:Array Oper} {tb:List (Nat×TyI)} {o:Oper} {T:List (Nat×AV)} {m m0:List (Nat×Option Row)} {nx nt d fuel:Nat} {Q:Exit→St→Prop} {S:St} {A K:St→Prop} {c:Code} {listed:Array Bool} {b:Base} {r:AV} {id:Nat}
theorem b1a {t:TypeId} {x:Operand} {k off ft id a0:Nat} {fs:List (Nat×Nat)} {zs:List Value} (G:Good P tb) (ho:o.op=.fieldAddr t x k) (hx:ev T x=some (.ptr id a0)) (ht:look t tb=some (.struct fs zs)) (hk:nth fs k=some (off,ft)):QStep P o T m nx nt (.ptr id (Nat.add a0 off)):=m4 G ho ht hk hx
theorem b2h {t:TypeId} {x:Operand} {i:TyI} {id off:Nat} {cs:List AV} (G:Good P tb) (ho:o.op=.load t x) (hx:ev T x=some (.ptr id off)) (hm:mem m id=some (.box cs)) (hr:nth cs off=some r) (ht:look t tb=some i) (hf:V2 i=true) (hd:a9h r=true):QStep P o T m nx nt r:=o9 G ho ht hf hx hm hr hd
theorem c26 {t:TypeId} {x:Operand} {i:TyI} {id off sz:Nat} {cs:List AV} {z:Value} {ys:List (List Value)} (G:Good P tb) (ho:o.op=.load t x) (hx:ev T x=some (.ptr id off)) (hm:mem m id=some (.box cs)) (hr:nth cs off=some (.pin z sz ys)) (ht:look t tb=some i) (hf:V2 i=true):QStep P o T m nx nt (.lst sz ys):=b4E (o9 G ho ht hf hx hm hr Z)
theorem c27 {t:TypeId} {x:Operand} {i:TyI} {id off sz:Nat} {cs:List AV} {z:Option Value} {yss:List (List CI)} (G:Good P tb) (ho:o.op=.load t x) (hx:ev T x=some (.ptr id off)) (hm:mem m id=some (.box cs)) (hr:nth cs off=some (.nst z sz yss)) (hd:a9h (.nst z sz yss)=true) (ht:look t tb=some i) (hf:V2 i=true):QStep P o T m nx nt (.nst none sz yss):=c2B (o9 G ho ht hf hx hm hr hd)
theorem a5y {t:TypeId} {x:Operand} {fs:List (Nat×Nat)} {zs:List Value} {id off:Nat} {cs rs:List AV} (G:Good P tb) (ho:o.op=.load t x) (hx:ev T x=some (.ptr id off)) (hm:mem m id=some (.box cs)) (ht:look t tb=some (.struct fs zs)) (hr:a2o zs.length (Y3 off cs) []=some rs) (hd:a3T rs=true):QStep P o T m nx nt (.agg rs):=c5 G ho ht hx hm hr hd
theorem b2i {t:TypeId} {x:Operand} {i:TyI} {c:List Value} {u:Value} (G:Good P tb) (ho:o.op=.load t x) (hx:ev T x=some (.ept c)) (hr:nth c 0=some u) (ht:look t tb=some i) (hf:V2 i=true):QStep P o T m nx nt (.v u):=a7k G ho ht hf hx hr
theorem a5z {t:TypeId} {x:Operand} {fs:List (Nat×Nat)} {zs:List Value} {c us:List Value} (G:Good P tb) (ho:o.op=.load t x) (hx:ev T x=some (.ept c)) (ht:look t tb=some (.struct fs zs)) (hr:a2o zs.length c []=some us):QStep P o T m nx nt (.agg (avR us [])):=a4L G ho ht hx hr
theorem c28 {x:Operand} {t e sz by_ n:Nat} {zs:List Value} {ax:AV} (G:Good P tb) (ho:o.op=.call { callee:=.builtin .len,args:=#[x],argTypes:=#[t] }) (hx:ev T x=some ax) (hn:b3G m ax=some n) (ht:look t tb=some (.slice e sz by_ zs)):QStep P o T m nx nt (.v (.int .i64 n)):=a7l G ho ht hx hn
theorem c1N {x:Operand} {t e sz by_ n n':Nat} {zs:List Value} {ax:AV} (G:Good P tb) (ho:o.op=.call { callee:=.builtin .len,args:=#[x],argTypes:=#[t] }) (hx:ev T x=some ax) (hn:b3G m ax=some n) (he:n=n') (ht:look t tb=some (.slice e sz by_ zs)):QStep P o T m nx nt (.v (.int .i64 n')):=a4e G ho ht hx hn he
theorem a3a {x y:Operand} {t e sz by_:Nat} {zs:List Value} {ys:List (List Value)} {k:IntKind} {i:Int} {c:List Value} (G:Good P tb) (ho:o.op=.indexAddr t x y) (hx:ev T x=some (.lst sz ys)) (hy:ev T y=some (.v (.int k i))) (h0:0<=i) (hc:ys[i.toNat]?=some c) (ht:look t tb=some (.slice e sz by_ zs)):QStep P o T m nx nt (.ept c):=b0m G ho ht hx hy h0 hc
def Ph (n:Nat) (p:Prop):Prop:=p
structure Hd (q:Prop):Prop where o:q
structure Sg (P:Program) [Env P] (o:Oper) (T:List (Nat×AV)) (m:List (Nat×Option Row)) (nx nt:Nat) (K:AV→Prop):Prop where o:∃r,QStep P o T m nx nt r/\K r
theorem Sg.of {K:AV→Prop} (h:QStep P o T m nx nt r) (k:K r):Sg P o T m nx nt K:=⟨r,h,k⟩
theorem a98 [EnvAt P w0] {l:List Oper} {Q:Exit→St→Prop} (hd:o.dst=some d) (hlt:Nat.blt d nt=true) (h:Sg P o T m nx nt (λr=>WL P w0 ops l ⟨(d,r) :: T,m,nx,nt⟩ Q)):WX P w0 ops o l ⟨T,m,nx,nt⟩ Q:=h.o.elim λ_ h=>b7 hd hlt h.1 h.2
theorem a99 [EnvAt P w0] {l:List Oper} {K:List (Nat×AV)→Prop} (hd:o.dst=some d) (hlt:Nat.blt d nt=true) (h:Sg P o T m nx nt (λr=>QL P w0 ops l ((d,r) :: T) m nx nt K)):QX P w0 ops o l T m nx nt K:=h.o.elim λ_ h=>r9 hd hlt h.1 h.2
theorem c29 [EnvAt P b] {o1:Option Nat} {o2:Op} {o3:TypeId} {o4:String} {o5:Array Edge} {o6:Option (Nat×Bool)} {i:Nat} (hi:ops[i]?=some ⟨o1,o2,o3,o4,o5,o6⟩) (hg:o6=none) (hd:o1=some d) (hlt:Nat.blt d nt=true) (hf:Region.free .any ops listed i=true) (hr:(Region.ready .any ops listed).contains i=true) (hp:a4f o2=true) (h:Sg P ⟨o1,o2,o3,o4,o5,o6⟩ T m0 nx nt (λr=>WA P b ops m0 fuel (listed.setIfInBounds i true) ⟨(d,r) :: T,m,nx,nt⟩ A)):Ph i (WA P b ops m0 (fuel+1) listed ⟨T,m,nx,nt⟩ A):=h.o.elim λ_ h=>i9 i hi hf hr hp hg hd hlt h.1 h.2
theorem c3a [EnvAt P b] {o1:Option Nat} {o2:Op} {o3:TypeId} {o4:String} {o5:Array Edge} {o6:Option (Nat×Bool)} {i j gd:Nat} {want:Bool} (hi:ops[i]?=some ⟨o1,o2,o3,o4,o5,o6⟩) (hg:o6=some (j,want)) (hj:(ops[j]?).bind (·.dst)=some gd) (hb:look gd T=some (.v (.bool want))) (hd:o1=some d) (hlt:Nat.blt d nt=true) (hf:Region.free .any ops listed i=true) (hr:(Region.ready .any ops listed).contains i=true) (hp:a4f o2=true) (h:Sg P ⟨o1,o2,o3,o4,o5,o6⟩ T m0 nx nt (λr=>WA P b ops m0 fuel (listed.setIfInBounds i true) ⟨(d,r) :: T,m,nx,nt⟩ A)):Ph i (WA P b ops m0 (fuel+1) listed ⟨T,m,nx,nt⟩ A):=h.o.elim λ_ h=>b0w i hi hf hr hp hg hj hb hd hlt h.1 h.2
theorem c8 (ms:List Nat) {o1:Option Nat} {o2:Op} {o3:TypeId} {o4:String} {o5:Array Edge} {o6:Option (Nat×Bool)} {i:Nat} {S:St} (hi:ops[i]?=some ⟨o1,o2,o3,o4,o5,o6⟩) (hg:o6=none) (h:WX P b ops ⟨o1,o2,o3,o4,o5,o6⟩ [] S (nq (λS'=>N6 b.n0 S'.m ms []=some m0/\WA P b ops m0 fuel (listed.setIfInBounds i true) S' A))):WB P b ops m0 fuel listed i S A:=c7 ms hi hg h
theorem c3b {i j gd:Nat} {want bb:Bool} (hi:ops[i]?=some o) (hg:o.guard=some (j,want)) (hj:(ops[j]?).bind (·.dst)=some gd) (hb:look gd T=some (.v (.bool bb))) (hne:(bb==want)=false) (hf:Region.free .any ops listed i=true) (hr:(Region.ready .any ops listed).contains i=true) (hd:o.dst=some d) (hlt:Nat.blt d nt=true) (hk:WA P b ops m0 fuel (listed.setIfInBounds i true) ⟨(d,.v undef) :: T,m,nx,nt⟩ A):Ph i (WA P b ops m0 (fuel+1) listed ⟨T,m,nx,nt⟩ A):=b6U i hi hf hr hg hj hb hne hd hlt hk
theorem c3c {i j gd:Nat} {want:Bool} (hi:ops[i]?=some o) (hg:o.guard=some (j,want)) (hj:(ops[j]?).bind (·.dst)=some gd) (hb:look gd T=some (.v undef)) (hf:Region.free .any ops listed i=true) (hr:(Region.ready .any ops listed).contains i=true) (hd:o.dst=some d) (hlt:Nat.blt d nt=true) (hk:WA P b ops m0 fuel (listed.setIfInBounds i true) ⟨(d,.v undef) :: T,m,nx,nt⟩ A):Ph i (WA P b ops m0 (fuel+1) listed ⟨T,m,nx,nt⟩ A):=b3Q i hi hf hr hg hj hb hd hlt hk
theorem b7J {x:Operand} {o1:Option Nat} {o3:TypeId} {o4:String} {o5:Array Edge} {o6:Option (Nat×Bool)} {K:AV→Prop} (h:Sg P ⟨o1,.move x,o3,o4,o5,o6⟩ T m nx nt K):Sg P ⟨o1,.move x,o3,o4,o5,o6⟩ T m nx nt K:=h
theorem b36 {x:Operand} {o1:Option Nat} {o3:TypeId} {o4:String} {o5:Array Edge} {o6:Option (Nat×Bool)} {K:AV→Prop} (h:Sg P ⟨o1,.assign x,o3,o4,o5,o6⟩ T m nx nt K):Sg P ⟨o1,.assign x,o3,o4,o5,o6⟩ T m nx nt K:=h
theorem b59 {t:TypeId} {x:Operand} {k:Nat} {o1:Option Nat} {o3:TypeId} {o4:String} {o5:Array Edge} {o6:Option (Nat×Bool)} {K:AV→Prop} (h:Sg P ⟨o1,.fieldAddr t x k,o3,o4,o5,o6⟩ T m nx nt K):Sg P ⟨o1,.fieldAddr t x k,o3,o4,o5,o6⟩ T m nx nt K:=h
theorem b7K {t:TypeId} {x:Operand} {o1:Option Nat} {o3:TypeId} {o4:String} {o5:Array Edge} {o6:Option (Nat×Bool)} {K:AV→Prop} (h:Sg P ⟨o1,.load t x,o3,o4,o5,o6⟩ T m nx nt K):Sg P ⟨o1,.load t x,o3,o4,o5,o6⟩ T m nx nt K:=h
theorem c1O {u:BinOp} {t t2:TypeId} {x y:Operand} {o1:Option Nat} {o3:TypeId} {o4:String} {o5:Array Edge} {o6:Option (Nat×Bool)} {K:AV→Prop} (h:Sg P ⟨o1,.binOp u t x y t2,o3,o4,o5,o6⟩ T m nx nt K):Sg P ⟨o1,.binOp u t x y t2,o3,o4,o5,o6⟩ T m nx nt K:=h
theorem b7L {c x y:Operand} {o1:Option Nat} {o3:TypeId} {o4:String} {o5:Array Edge} {o6:Option (Nat×Bool)} {K:AV→Prop} (h:Sg P ⟨o1,.pick c x y,o3,o4,o5,o6⟩ T m nx nt K):Sg P ⟨o1,.pick c x y,o3,o4,o5,o6⟩ T m nx nt K:=h
theorem b2j {x:Operand} {k:Nat} {o1:Option Nat} {o3:TypeId} {o4:String} {o5:Array Edge} {o6:Option (Nat×Bool)} {K:AV→Prop} (h:Sg P ⟨o1,.extract x k,o3,o4,o5,o6⟩ T m nx nt K):Sg P ⟨o1,.extract x k,o3,o4,o5,o6⟩ T m nx nt K:=h
theorem c1P {t:TypeId} {x:Operand} {o1:Option Nat} {o3:TypeId} {o4:String} {o5:Array Edge} {o6:Option (Nat×Bool)} {K:AV→Prop} (h:Sg P ⟨o1,.unOp .not t x,o3,o4,o5,o6⟩ T m nx nt K):Sg P ⟨o1,.unOp .not t x,o3,o4,o5,o6⟩ T m nx nt K:=h
theorem b6a {t:TypeId} {l:Array (Nat×Operand)} {o1:Option Nat} {o3:TypeId} {o4:String} {o5:Array Edge} {o6:Option (Nat×Bool)} {K:AV→Prop} (h:Sg P ⟨o1,.build t l,o3,o4,o5,o6⟩ T m nx nt K):Sg P ⟨o1,.build t l,o3,o4,o5,o6⟩ T m nx nt K:=h
theorem b6b {t:TypeId} {x y:Operand} {o1:Option Nat} {o3:TypeId} {o4:String} {o5:Array Edge} {o6:Option (Nat×Bool)} {K:AV→Prop} (h:Sg P ⟨o1,.indexAddr t x y,o3,o4,o5,o6⟩ T m nx nt K):Sg P ⟨o1,.indexAddr t x y,o3,o4,o5,o6⟩ T m nx nt K:=h
theorem c1Q {c:Call} {o1:Option Nat} {o3:TypeId} {o4:String} {o5:Array Edge} {o6:Option (Nat×Bool)} {K:AV→Prop} (h:Sg P ⟨o1,.call c,o3,o4,o5,o6⟩ T m nx nt K):Sg P ⟨o1,.call c,o3,o4,o5,o6⟩ T m nx nt K:=h
theorem p7 {x y:Code} {S:St} {Q:Exit→St→Prop} (h:W P w0 x S (sq (λS=>W P w0 y S Q) Q)):W P w0 (.seq x y) S Q:=n9 λK hK=>b4o h λe S' q=>by cases e<;>first | exact hK _ q | exact q
theorem aW {S:St} {Q:Exit→St→Prop} {c:Code} (h:W P w0 c S Q):W P w0 c S Q:=h
theorem aWL {S:St} {Q:Exit→St→Prop} {l:List Oper} (h:WL P w0 ops l S Q):WL P w0 ops l S Q:=h
theorem aWX {S:St} {Q:Exit→St→Prop} {l:List Oper} (h:WX P w0 ops o l S Q):WX P w0 ops o l S Q:=h
theorem aQX {K:List (Nat×AV)→Prop} {l:List Oper} (h:QX P w0 ops o l T m nx nt K):QX P w0 ops o l T m nx nt K:=h
theorem aQL {K:List (Nat×AV)→Prop} {l:List Oper} (h:QL P w0 ops l T m nx nt K):QL P w0 ops l T m nx nt K:=h
end
section
variable {K:St→Prop} {Q:Exit→St→Prop} {S:St} {i id:Nat}
theorem c1R (h:K S):sq K Q .normal S:=h
theorem c1S (h:K S):nq K .normal S:=h
theorem c1T (h:Q (.exit i) S):sq K Q (.exit i) S:=h
theorem c1U (h:Q .ret S):sq K Q .ret S:=h
theorem c1V (h:Q .normal S):bq id Q .normal S:=h
theorem c1W (h:Q .ret S):bq id Q .ret S:=h
theorem c1X (h:Q .normal S):bq id Q (.exit id) S:=by simp only [bq,Nat.beq_refl,cond_true];exact h
theorem c1Y (h:Q (.exit i) S) (e:Nat.beq i id=false:=by rfl):bq id Q (.exit i) S:=by simp only [bq,e,cond_false];exact h
end
theorem zq {p q:Prop} (k:q) (h:Hd q→p:=by
 intro kk
 first
  | (with_reducible refine b7J ?_;first | refine Sg.of (d3 Z Z) ?_)
  | (with_reducible refine b36 ?_;first | refine Sg.of (o8 Z Z) ?_)
  | (with_reducible refine b59 ?_;first | refine Sg.of (b1a G Z Z Z Z) ?_ | refine Sg.of (b0k G Z Z Z Z) ?_)
  | (with_reducible refine b7K ?_;first | refine Sg.of (c26 G Z Z Z Z Z Z) ?_ | refine Sg.of (c27 G Z Z Z Z Z Z) ?_ | refine Sg.of (b2h G Z Z Z Z Z Z Z) ?_ | refine Sg.of (a5y G Z Z Z Z Z Z) ?_ | refine Sg.of (b2i G Z Z Z Z Z) ?_ | refine Sg.of (a5z G Z Z Z Z) ?_ | refine Sg.of (a38 G Z Z Z Z) ?_)
  | (with_reducible refine c1O ?_;first | refine Sg.of (a2p Z Z Z Z) ?_ | refine Sg.of (C3 Z Z Z Z J J) ?_)
  | (with_reducible refine b7L ?_;first | refine Sg.of (z6 Z Z Z) ?_ | refine Sg.of (a1n Z Z Z) ?_)
  | (with_reducible refine b2j ?_;first | refine Sg.of (d4 Z Z Z) ?_)
  | (with_reducible refine c1P ?_;first | refine Sg.of (O9 Z Z) ?_ | refine Sg.of (b6Q Z Z) ?_ | refine Sg.of (b0j Z Z) ?_)
  | (with_reducible refine b6a ?_;first | refine Sg.of (y9 G Z Z Z Z) ?_)
  | (with_reducible refine b6b ?_;first | refine Sg.of (a3a G Z Z Z J (a2S J) Z) ?_ | refine Sg.of (a3a G Z Z Z J (C7 J J) Z) ?_ | refine Sg.of (a3a G Z Z Z J (w9 J J) Z) ?_ | refine Sg.of (a2L G Z Z Z Z J (a2S J) Z) ?_ | refine Sg.of (a2L G Z Z Z Z J (C7 J J) Z) ?_ | refine Sg.of (a2L G Z Z Z Z J (w9 J J) Z) ?_)
  | (with_reducible refine c1Q ?_;first | refine Sg.of (c1N G Z Z Z (List.length_map _) Z) ?_ | refine Sg.of (c28 G Z Z Z Z) ?_)
 exact kk.o):p:=h ⟨k⟩
theorem zgo {p q:Prop} (k:q) (h:Hd q→p:=by
 intro kk
 first | (with_reducible refine aWX ?_;first | (refine a98 Z Z ?_;refine zq ?_) | refine l5 G Z Z Z Z Z Z Z Z Z Z Z ?_) | (with_reducible refine aQX ?_;first | (refine a99 Z Z ?_;refine zq ?_)) | skip
 repeat (first
  | (with_reducible refine aW ?_;with_reducible first | refine p7 ?_ | refine e9 ?_ | refine r7 ?_ | refine F9 ?_ | refine a9f ?_)
  | (with_reducible refine aWL ?_;first | (refine b5 Z ?_;first | (refine a98 Z Z ?_;refine zq ?_) | refine l5 G Z Z Z Z Z Z Z Z Z Z Z ?_) | (refine m7 Z Z Z ?_;first | (refine a98 Z Z ?_;refine zq ?_) | refine l5 G Z Z Z Z Z Z Z Z Z Z Z ?_) | refine a1W Z Z Z Z Z Z ?_ | refine a5M Z Z Z Z Z ?_ | with_reducible refine a8 ?_)
  | (with_reducible refine aQL ?_;first | (refine j7 Z ?_;first | (refine a99 Z Z ?_;refine zq ?_)) | (refine a2H Z Z Z ?_;first | (refine a99 Z Z ?_;refine zq ?_)) | refine a9e Z Z Z Z Z Z ?_ | refine a5N Z Z Z Z Z ?_ | with_reducible refine a5L ?_)
  | (with_reducible first | refine c1R ?_ | refine c1S ?_ | refine c1V ?_ | refine c1T ?_ | refine c1X ?_ | refine c1U ?_ | refine c1W ?_ | (refine c1Y ?_ ?_;rotate_left)))
 exact kk.o):p:=h ⟨k⟩
theorem zgn {p q:Prop} (k:q) (h:Hd q→p:=by
 intro kk
 repeat (with_reducible first | refine p7 ?_ | refine e9 ?_ | refine r7 ?_)
 first | (with_reducible refine aWX ?_;first | (refine a98 Z Z ?_;refine zq ?_) | refine l5 G Z Z Z Z Z Z Z Z Z Z Z ?_) | (with_reducible refine aQX ?_;first | (refine a99 Z Z ?_;refine zq ?_)) | skip
 repeat (first
  | (with_reducible refine aWL ?_;first | (refine b5 Z ?_;first | (refine a98 Z Z ?_;refine zq ?_) | refine l5 G Z Z Z Z Z Z Z Z Z Z Z ?_) | (refine m7 Z Z Z ?_;first | (refine a98 Z Z ?_;refine zq ?_) | refine l5 G Z Z Z Z Z Z Z Z Z Z Z ?_) | refine a1W Z Z Z Z Z Z ?_ | refine a5M Z Z Z Z Z ?_)
  | (with_reducible refine aQL ?_;first | (refine j7 Z ?_;first | (refine a99 Z Z ?_;refine zq ?_)) | (refine a2H Z Z Z ?_;first | (refine a99 Z Z ?_;refine zq ?_)) | refine a9e Z Z Z Z Z Z ?_ | refine a5N Z Z Z Z Z ?_))
 with_reducible first | refine a8 ?_ | refine a5L ?_ | refine F9 ?_ | refine a9f ?_
 repeat (with_reducible first | refine c1R ?_ | refine c1S ?_ | refine c1V ?_ | refine c1T ?_ | refine c1X ?_ | refine c1U ?_ | refine c1W ?_ | (refine c1Y ?_ ?_;rotate_left))
 exact kk.o):p:=h ⟨k⟩
theorem znk {p q:Prop} (k:q) (h:Hd q→p:=by
 intro kk
 repeat (with_reducible first | refine c1R ?_ | refine c1S ?_ | refine c1V ?_ | refine c1T ?_ | refine c1X ?_ | refine c1U ?_ | refine c1W ?_ | (refine c1Y ?_ ?_;rotate_left))
 exact kk.o):p:=h ⟨k⟩
theorem zst {p q:Prop} (k:q) (h:Hd q→p:=by
 intro kk
 first
  | (with_reducible refine aWX ?_;first | (refine a98 Z Z ?_;refine zq ?_) | refine l5 G Z Z Z Z Z Z Z Z Z Z Z ?_)
  | (with_reducible refine aQX ?_;first | (refine a99 Z Z ?_;refine zq ?_))
  | (with_reducible refine aWL ?_;first | (refine b5 Z ?_;first | (refine a98 Z Z ?_;refine zq ?_) | refine l5 G Z Z Z Z Z Z Z Z Z Z Z ?_) | (refine m7 Z Z Z ?_;first | (refine a98 Z Z ?_;refine zq ?_) | refine l5 G Z Z Z Z Z Z Z Z Z Z Z ?_) | refine a1W Z Z Z Z Z Z ?_ | refine a5M Z Z Z Z Z ?_)
  | (with_reducible refine aQL ?_;first | (refine j7 Z ?_;first | (refine a99 Z Z ?_;refine zq ?_)) | (refine a2H Z Z Z ?_;first | (refine a99 Z Z ?_;refine zq ?_)) | refine a9e Z Z Z Z Z Z ?_ | refine a5N Z Z Z Z Z ?_)
 exact kk.o):p:=h ⟨k⟩
theorem zgd {p q:Prop} (k:q) (h:Hd q→p:=by
 intro kk
 refine zgo ?_
 refine a1Y mixed (by kernel_rfl) ?_
 exact kk.o):p:=h ⟨k⟩
theorem zcd {p a b:Prop} {q1:a→Prop} {q2:b→Prop} (k1:∀h,q1 h) (k2:∀h,q2 h) (h:Hd (∀h,q1 h)→Hd (∀h,q2 h)→p:=by
 intro k1 k2
 refine zgo ?_
 first | refine o7 Z (λhc=>?_) (λhc=>?_) | refine B3 Z Z Z (λhc=>?_) (λhc=>?_) | refine Q6 Z Z Z (λhc=>?_) (λhc=>?_)
 ·(try rw [hc]);(try simp only [rfb] at hc);exact k1.o hc
 ·(try rw [hc]);(try simp only [rfb] at hc);exact k2.o hc):p:=h ⟨k1⟩ ⟨k2⟩
theorem zwt {p q:Prop} (k:q) (h:Hd q→p:=by
 intro kk
 refine zgo ?_
 refine a09 Z ?_
 exact kk.o):p:=h ⟨k⟩
theorem zwf {p q:Prop} (k:q) (h:Hd q→p:=by
 intro kk
 refine zgo ?_
 refine C2 Z ?_
 exact kk.o):p:=h ⟨k⟩
theorem zf1 {p q:Prop} (k:q) (h:Hd q→p:=by
 intro kk
 refine zgo ?_
 refine g8 (R0 Z (p5 ?_))
 exact kk.o):p:=h ⟨k⟩
theorem zfo {p q:Prop} (k:q) (h:Hd q→p:=by
 intro kk
 refine zgo ?_
 refine g8 (R0 Z (b8 Z ?_))
 exact kk.o):p:=h ⟨k⟩
theorem zcl {p q c:Prop} (x:c) (k:q) (h:c→Hd q→p:=by
 intro x kk
 refine zgo ?_
 first | exact b5 Z (b7 Z Z (l9 Z (ArgsOK.of Z) x Z) kk.o) | exact m7 Z Z Z (b7 Z Z (l9 Z (ArgsOK.of Z) x Z) kk.o) | exact j7 Z (r9 Z Z (l9 Z (ArgsOK.of Z) x Z) kk.o) | exact a2H Z Z Z (r9 Z Z (l9 Z (ArgsOK.of Z) x Z) kk.o)):p:=h x ⟨k⟩
theorem zsa (n:Nat) {p q:Prop} (k:q) (h:Hd q→Ph n p:=by
 intro kk
 first
 | (refine c29 Z Z Z Z (by kernel_rfl) (by kernel_rfl) Z ?_;refine zq ?_)
 | (refine c3a Z Z Z Z Z Z (by kernel_rfl) (by kernel_rfl) Z ?_;refine zq ?_)
 | refine c3b Z Z Z Z Z (by kernel_rfl) (by kernel_rfl) Z Z ?_
 | refine c3c Z Z Z Z (by kernel_rfl) (by kernel_rfl) Z Z ?_
 exact kk.o):p:=h ⟨k⟩
theorem X {p:Prop} (h:p:=by kernel_rfl):p:=h
end Go.Rf
