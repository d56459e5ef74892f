/- Texts merged into one: RfNT, RfMA, RfNV, RfMB, RfMC, RfMD, RfNU, RfME, RfMF, RfMG, RfMH, RfMI, RfMJ, RfNX, Rf5, Rf6, RfNP, RfMK, RfMQ, RfNY, RfML, RfMO, RfMP, RfCA, RfCB, RfCC, RfNO. -/
import Derived.Test.YtdhckhjphmjniaaGreatDoorLibC
import Derived.Lib.Join
set_option linter.unusedSectionVars false
set_option linter.unusedSimpArgs false
set_option linter.unusedVariables false
namespace Go.Rf
open Go
section
variable {k:Int} {xss:List (List Int)}
end
end Go.Rf
namespace Go.Rf
end Go.Rf
namespace Go.Rf
open Go
variable {f:Nat→Bool} {i n:Nat} {most:Bool}
structure Slot where
 s:Int
 q:Int
 p:Int
 deriving Inhabited,DecidableEq
variable {sl:List Slot} {x:Slot}
def j5 (x:Slot):List Value:=[.int .i64 x.s,.int .i64 x.q,.int .i64 x.p]
def a8S (x:Slot):Value:=.agg ⟨j5 x⟩
structure Wtr where
 q:Int
 p:Int
 deriving Inhabited,DecidableEq
variable {a b:Wtr}
def j9 (x:Wtr):List Value:=[.int .i64 x.q,.int .i64 x.p]
def a5C (x:Wtr):Value:=.agg ⟨j9 x⟩
structure Que where
 sl:List Slot
 wa:List Wtr
 deriving Inhabited,DecidableEq
structure Ifc where
 ma:Int
 st:List Int
 qu:Que
 deriving Inhabited,DecidableEq
structure Mach where
 rs:List Route
 en:List Bool
 ra:List Bool
 cp:List Ifc
 deriving Inhabited,DecidableEq
def zSl:Slot:=⟨0,0,0⟩
def wOf (x:Slot):Wtr:=⟨x.q,x.p⟩
def fdP (irq:Int) (x:Slot):Bool:=!(decide (x.s=0)) && decide (x.q=irq)
def p7 (sl:List Slot) (irq:Int):Int:=P0 (λi=>fdP irq (sl.getD i default)) sl.length
def emP (x:Slot):Bool:=decide (x.s=0)
def freS (sl:List Slot):Int:=P0 (λi=>emP (sl.getD i default)) sl.length
def b0h (x:Slot):Bool:=n7 x.s 1 3 && (n7 x.q 0 7 && n7 x.p 0 15)
def J3 (sl:List Slot) (i:Nat):Bool:=if (sl.getD i default).s=0 then decide (sl.getD i default=zSl) else b0h (sl.getD i default) && !(a0t i (λj=>fdP (sl.getD i default).q (sl.getD j default)))
def a55 (sl:List Slot):Bool:=decide (sl.length=4) && a18 sl.length (J3 sl)
def a56 (x y:Int):Int:=if x < y then -1 else if y < x then 1 else 0
def urg (a b:Wtr):Int:=if a56 a.p b.p=0 then a56 a.q b.q else a56 a.p b.p
def lessW (a b:Wtr):Bool:=decide (a.p < b.p) || (decide (a.p=b.p) && decide (a.q < b.q))
theorem W0:lessW a b=true↔a.p < b.p∨(a.p=b.p/\a.q < b.q):=by simp [lessW]
theorem b8m:lessW a b=false↔¬ (a.p < b.p∨(a.p=b.p/\a.q < b.q)):=by rw [← Bool.not_eq_true,W0]
theorem a1N:urg a b < 0↔lessW a b=true:=by
 grind [W0,urg,a56]
theorem c03:0 < urg a b↔lessW b a=true:=by
 grind [W0,urg,a56]
theorem b4Z (h:lessW a b=true):lessW b a=false:=by rw [W0] at h;rw [b8m];omega
theorem P6 {c:Wtr} (h:lessW a b=true) (h':lessW b c=true):lessW a c=true:=by rw [W0] at *;omega
theorem a1e (h:a.q≠b.q):lessW a b=!(lessW b a):=by
 grind [W0]
def a4k (sl:List Slot) (most:Bool) (b:Int) (i:Nat):Bool:=decide ((sl.getD i default).s=1) && (decide (b < 0) || (if most then lessW (wOf (sl.getD i default)) (wOf (sl.getD b.toNat default)) else lessW (wOf (sl.getD b.toNat default)) (wOf (sl.getD i default))))
def E6 (sl:List Slot) (most:Bool):Nat→Int
 | 0=>-1
 | i+1=>if a4k sl most (E6 sl most i) i then (i:Int) else E6 sl most i
theorem a2N:E6 sl most (i+1)=if a4k sl most (E6 sl most i) i then (i:Int) else E6 sl most i:=rfl
theorem a2b (h:a4k sl most (E6 sl most i) i=true):E6 sl most (i+1)=(i:Int):=by rw [a2N,if_pos h]
theorem a2c (h:a4k sl most (E6 sl most i) i=false):E6 sl most (i+1)=E6 sl most i:=by rw [a2N,if_neg (by rw [h];decide)]
theorem a03 {sl:List Slot} {most:Bool}:∀i,-1<=E6 sl most i/\E6 sl most i < i
 | 0=>by simp [E6]
 | i+1=>by
  have:=@a03 sl most i
  rw [a2N]
  split<;>omega
theorem a2O {sl:List Slot} {most:Bool}:∀i,0<=E6 sl most i→(sl.getD (E6 sl most i).toNat default).s=1
 | 0=>by simp [E6]
 | i+1=>by
  have ih:=@a2O sl most i
  rw [a2N]
  split
  ·grind [a4k]
  ·exact ih
theorem b0i {sl:List Slot} {most:Bool}:∀i,E6 sl most i < 0↔∀j,j < i→(sl.getD j default).s≠1
 | 0=>by simp [E6]
 | i+1=>by
  have ih:=@b0i sl most i
  rw [a2N]
  constructor
  ·grind [a4k]
  ·grind [a4k]
def bstS (sl:List Slot) (most:Bool):Int:=E6 sl most sl.length
def b8n (sl:List Slot):Prop:=∀i j,i < j→j < sl.length→(sl.getD i default).s=1→(sl.getD j default).s=1→(sl.getD i default).q≠(sl.getD j default).q
theorem c04 (hd:b8n sl) (hi:i < sl.length) (h1:(sl.getD i default).s=1) (hb:0<=E6 sl most i):(if most then lessW (wOf (sl.getD i default)) (wOf (sl.getD (E6 sl most i).toNat default)) else lessW (wOf (sl.getD (E6 sl most i).toNat default)) (wOf (sl.getD i default)))=(decide (urg (wOf (sl.getD i default)) (wOf (sl.getD (E6 sl most i).toNat default)) < 0)==most):=by
 have hbl:=@a03 sl most i
 have hne:=hd (E6 sl most i).toNat i J hi (a2O i hb) h1
 have hne':(wOf (sl.getD i default)).q≠(wOf (sl.getD (E6 sl most i).toNat default)).q:=λe=>hne e.symm
 have e:decide (urg (wOf (sl.getD i default)) (wOf (sl.getD (E6 sl most i).toNat default)) < 0)=lessW (wOf (sl.getD i default)) (wOf (sl.getD (E6 sl most i).toNat default)):=by
  rw [Bool.eq_iff_iff,decide_eq_true_iff];exact a1N
 rw [e]
 cases most
 ·grind [a1e]
 ·simp
theorem b3U:a55 sl=true↔sl.length=4/\∀i,i < 4→J3 sl i=true:=by
 grind [a55,F6]
theorem a4l:b0h x=true↔(1<=x.s/\x.s<=3)/\(0<=x.q/\x.q<=7)/\0<=x.p/\x.p<=15:=by simp only [b0h,Bool.and_eq_true,v8]
theorem a3y {irq:Int}:fdP irq x=true↔x.s≠0/\x.q=irq:=by simp [fdP]
theorem b0j:a0t n f=true↔∃i,i < n/\f i=true:=by
 grind [a0t,a18]
theorem a1O:a0t n f=false↔∀i,i < n→f i=false:=by
 constructor
 ·intro h i hi
  cases hf:f i
  ·rfl
  ·rw [S5 hf hi] at h;cases h
 ·exact λh=>a19 h (Nat.le_refl _)
structure SlF (sl:List Slot):Prop where
 len:sl.length=4
 z:∀i,i < 4→(sl.getD i default).s=0→sl.getD i default=zSl
 ok:∀i,i < 4→(sl.getD i default).s≠0→(1<=(sl.getD i default).s/\(sl.getD i default).s<=3)/\(0<=(sl.getD i default).q/\(sl.getD i default).q<=7)/\0<=(sl.getD i default).p/\(sl.getD i default).p<=15
 dif:∀i j,i < j→j < 4→(sl.getD i default).s≠0→(sl.getD j default).s≠0→(sl.getD i default).q≠(sl.getD j default).q
theorem slF:a55 sl=true↔SlF sl:=by
 rw [b3U]
 constructor
 ·rintro ⟨h1,h2⟩
  refine ⟨h1,λi hi hz=>?_,λi hi hz=>?_,λi j hij hj hi0 hj0=>?_⟩
  ·grind [J3]
  ·grind [J3,a4l]
  ·grind [J3,a1O,a3y]
 ·rintro ⟨h1,h2,h3,h4⟩
  refine ⟨h1,λi hi=>?_⟩
  unfold J3
  split
  ·grind
  ·grind [a1O,a4l,a3y]
theorem SlF.difS (h:SlF sl):b8n sl:=λi j hij hj h1 h2=>h.dif i j hij (by rw [← h.len];exact hj) J J
theorem b1y {sl:List Slot} {irq:Int}:(p7 sl irq=-1/\∀i,i < sl.length→fdP irq (sl.getD i default)=false)∨∃i:Nat,p7 sl irq=i/\i < sl.length/\(sl.getD i default).s≠0/\(sl.getD i default).q=irq:=by
 grind [p7,b5E,a2y,a3y]
theorem b1z {sl:List Slot}:(freS sl=-1/\∀i,i < sl.length→(sl.getD i default).s≠0)∨∃i:Nat,freS sl=i/\i < sl.length/\(sl.getD i default).s=0:=by
 grind [freS,b5E,emP,a2y]
theorem b3V (hi:i < sl.length) (h0:(sl.getD i default).s≠0):p7 sl (sl.getD i default).q=i↔a0t i (λj=>fdP (sl.getD i default).q (sl.getD j default))=false:=by
 grind [a2y,p7,a1O,S9,a3y]
end Go.Rf
namespace Go.Rf
open Go Go.RowKit
section
variable {P:Program} [Env P] {w0:Base} {ops:Array Oper} {tb:List (Nat×TyI)} {o:Oper} {rest:List Oper} {T:List (Nat×AV)} {m m':List (Nat×Option Row)} {nx nt d:Nat} {Q:Exit→St→Prop} {c:Code} {r:AV}
theorem Gh.tl {id e sz:Nat} {ys:List (List Value)} {f:Bool} (hm:mem m id=some (.row e sz ys f)):Gh w0 ⟨T,m,nx,nt⟩ ⟨T,(id,some (.row e sz ys true)) :: m,nx,nt⟩:=by
 intro ρ a w hT hC
 obtain ⟨h1,h2⟩:=hC.rowF hm
 exact ⟨ρ,hT,hC.retell hm (row':=.row e sz ys true) ⟨h1.gen,h2⟩ λp b hb=>by cases hb⟩
theorem c05 {t e e' sz by_ id:Nat} {zs:List Value} {ys:List (List Value)} {f:Bool} {x lo:Operand} {k:IntKind} {l:Int} (G:Good P tb) (nx':Nat) (hn':Nat.beq nx' (Nat.succ nx)=true) (hd:o.dst=some d) (hlt:Nat.blt d nt=true) (ho:o.op=.slice t x (some lo) none none) (ht:look t tb=some (.slice e sz by_ zs)) (hx:ev T x=some (.own id)) (hm:mem m id=some (.row e' sz ys f))
 (hl:ev T lo=some (.v (.int k l))) (h0:0<=l) (h1:l<=ys.length)
 (hk:WL P w0 ops rest ⟨(d,.own nx) :: T,(nx,some (.row e' sz (ys.drop l.toNat) true)) :: (id,none) :: m,nx',nt⟩ Q):WX P w0 ops o rest ⟨T,m,nx,nt⟩ Q:=by
 have hn'':=Nat.eq_of_beq_eq_true hn'
 subst hn''
 intro ρ a w hT hC
 have hxe:=hT.ev hx
 simp only [RelV] at hxe
 obtain ⟨hrow,hall⟩:=hC.rowF hm
 obtain ⟨A,cap,he,hcap⟩:=hrow.slice
 have hrun:=a9u (G t _ ht) hT (A:=A) (lo:=some lo) (hi:=none) (l:=l) (h:=ys.length) (n:=ys.length) (cap:=cap) (by simp only [a5P,hl]) (by simp [a5P]) h0 h1 (Int.le_refl _) hcap w
 have hr:(execOp a.eval o).run P w=.ok (.value (.slice (if cap=l.toNat then A else A.map (·.add (l.toNat * sz))) (ys.length - l.toNat) (cap - l.toNat))) w:=by
  simp only [Option.map_none,Option.map_some,Int.toNat_natCast] at hrun
  simp only [execOp,ho,hxe.2,he,Option.map_none,Option.map_some,hrun,Sem.run_bind,Result.andThen_ok,Sem.run_pure]
 unfold Oper.wp
 rw [hr,Oper.upon_value,hd]
 generalize hv:(Value.slice (if cap=l.toNat then A else A.map (·.add (l.toNat * sz))) (ys.length - l.toNat) (cap - l.toNat))=v
 have hdl:(ys.drop l.toNat).length=ys.length - l.toNat:=List.length_drop
 have hbk:∀b,blk v=some b→blk (ρ id)=some b:=by
  intro b hb
  rw [he]
  rw [← hv] at hb
  cases A with
  | none=>split at hb<;>simp [blk] at hb
  | some ad =>
   grind [blk,D0]
 have hown:TlR w w0.w.heap.size e' sz v (ys.drop l.toNat):=by
  rcases hrow.gen with ⟨g1,rfl⟩ | ⟨g,o',cap',cur,g1,g2,g3,g4,g5,g6⟩
  ·refine .inl ⟨?_,by simp⟩
   grind
  ·rw [he] at g1
   cases g1
   have hF:=m6 (λc hc=>(hall c hc).1)
   by_cases hc:cap=l.toNat
   ·have hz:ys.length - l.toNat=0:=by omega
    have hnil:ys.drop l.toNat=[]:=List.drop_eq_nil_of_le J
    rw [if_pos hc] at hv
    exact .inr ⟨g,o',cap - l.toNat,cur,by rw [← hv,hdl],g2,g3,by rw [hdl];omega,g5,by rw [hnil];simp⟩
   ·rw [if_neg hc] at hv
    have hcc:cur.toList.length=cur.size:=by simp
    have hlen0:((cur.toList.drop o').take (ys.length * sz)).length=ys.length * sz:=by rw [g6];exact hF
    have hle:l.toNat * sz<=ys.length * sz:=Nat.mul_le_mul_right _ J
    rw [List.length_take,List.length_drop,hcc] at hlen0
    refine .inr ⟨g,o'+l.toNat * sz,cap - l.toNat,cur,by rw [← hv,hdl];simp [Addr.add_lit],g2,g3,by rw [hdl];omega,by omega,?_⟩
    rw [hdl,a01 (λc hc=>(hall c hc).1) J,← g6,Nat.sub_mul,List.drop_take,List.drop_drop]
 have hC2:RelC w0 ρ ((id,none) :: m) nx w:=hC.sub λi r hr=>by
  grind [l5,e7]
 refine hk (upd ρ nx v) _ _ ((hT.add v).put hlt (by simp only [RelV];exact ⟨by omega,(l3 _ _ _).symm⟩)) (hC2.addP (λ_=>Z) ?_ ?_ ?_)
 ·refine ⟨?_,λc hc=>hall c (List.mem_of_mem_drop hc)⟩
  rw [l3]
  exact hown
 ·intro i r hr b hb hy
  by_cases e:id=i
  ·subst e;rw [l5] at hr;cases hr
  ·rw [e7 e] at hr
   exact hC.foot_apart hr hm (Ne.symm e) hb (.inl (hbk b hy))
 ·intro b hb
  exact hC.kept.2.2 id _ hm b (hbk b hb)
end
variable {T:List (Nat×AV)} {a b c d e:Int} {f:FuncId} {m:List (Nat×Option Row)} {x:Operand} {xs:List Operand} {ys:List (List Value)} {z:Value}
theorem ArgOK.fn {nx:Nat} {av:AV} (h:ArgOK m nx av (.v (.func (.func f) #[] #[]))):ArgOK m nx av (.fnc f []):=λw0 ρ w y hC hy=>by
 have:=h w0 ρ w y hC hy
 simp only [RelV] at this ⊢
 exact ⟨[],this,by simp [RelVs]⟩
theorem ArgsOK.fn2 {nx:Nat} {a:AV} (h:ArgsOK T m nx xs [a,.v (.func (.func f) #[] #[])]):ArgsOK T m nx xs [a,.fnc f []]:=by
 match xs,h with
 | x :: xs,⟨av,_,_,e,h1,h2,h3⟩ =>
  cases e
  match xs,h3 with
  | y :: ys,⟨av',_,_,e',g1,g2,g3⟩ =>
   cases e'
   exact ⟨av,_,_,Z,h1,h2,av',_,_,Z,g1,g2.fn,g3⟩
theorem ec3 {f:Int}:I3 [.int .i64 a,.int .i64 b,.int .i64 c] [.int .i64 d,.int .i64 e,.int .i64 f]=true↔a=d/\b=e/\c=f:=by
 simp [I3,a3m]
theorem ec2:I3 [.int .i64 a,.int .i64 b] [.int .i64 d,.int .i64 e]=true↔a=d/\b=e:=by
 simp [I3,a3m]
theorem c9y {f:Int} (h:I3 [.int .i64 a,.int .i64 b,.int .i64 c] [.int .i64 d,.int .i64 e,.int .i64 f]=false):¬ (a=d/\b=e/\c=f):=λg=>by rw [ec3.mpr g] at h;cases h
theorem ArgOK.pin {nx:Nat} {sz:Nat}:ArgOK m nx (.pin z sz ys) (.pin z sz ys):=λw0 ρ w y hC hy=>by
 simp only [RelV] at hy ⊢
 exact ⟨hy.1,hy.2.later hC.below⟩
theorem ArgsOK.pin1 {nx:Nat} {sz:Nat} {as:List AV} (hx:ev T x=some (.pin z sz ys)) (h:ArgsOK T m nx (x :: xs) (.lst sz ys :: as)):ArgsOK T m nx (x :: xs) (.pin z sz ys :: as):=by
 obtain ⟨av,a,as',e,h1,h2,h3⟩:=h
 cases e
 exact ⟨_,_,_,Z,hx,ArgOK.pin,h3⟩
section
variable {w0:Base} {T:List (Nat×AV)} {m:List (Nat×Option Row)} {nx nt:Nat}
theorem Gh.asPin {d t:Nat} {z:Value} {sz:Nat} {ys:List (List Value)} (hd:look d T=some (.v z)) (ht:look t T=some (.pin z sz ys)):Gh w0 ⟨T,m,nx,nt⟩ ⟨(d,.pin z sz ys) :: T,m,nx,nt⟩:=by
 intro ρ a w hT hC
 refine ⟨ρ,⟨λi x hi=>?_,hT.size,hT.defers⟩,hC⟩
 by_cases e:d=i
 ·subst e
  rw [r3] at hi
  cases hi
  have h1:=hT.tmps d _ hd
  have h2:=hT.tmps t _ ht
  simp only [RelV] at h1 h2 ⊢
  grind
 ·rw [l6 e] at hi
  exact hT.tmps i x hi
end
end Go.Rf
namespace Go.Rf
open Go
variable {f:Nat→Bool} {i n:Nat}
def orI (l:List Int):Int:=if P0 (λi=>!decide (l.getD i default=0)) l.length=-1 then 0 else l.getD (P0 (λi=>!decide (l.getD i default=0)) l.length).toNat default
theorem b8o {l:List Int} (h:∀j,j < i→l.getD j default=0) (hi:i < l.length) (h0:¬ l.getD i default=0):orI l=l.getD i default:=by
 grind [orI,S9]
theorem c2t {l:List Int} {i:Nat} (h:∀j,j < i→l.getD j default=0) (hi:l.length<=i):orI l=0:=by
 grind [orI,a1k]
theorem c06 {a b:Wtr}:orI [a56 a.p b.p,a56 a.q b.q]=urg a b:=by
 unfold urg
 by_cases h:a56 a.p b.p=0
 ·rw [if_pos h]
  by_cases h2:a56 a.q b.q=0
  ·have e:orI [a56 a.p b.p,a56 a.q b.q]=0:=c2t (i:=2) (λj hj=>by
    match j,hj with
    | 0,_=>exact h
    | 1,_=>exact h2) (by simp)
   rw [e];exact h2.symm
  ·exact b8o (i:=1) (λj hj=>by
    match j,hj with
    | 0,_=>exact h) (by simp) h2
 ·rw [if_neg h]
  exact b8o (i:=0) (λj hj=>by omega) (by simp) h
theorem b1A {g:Nat→Bool} (h:∀j,j < n→f j=g j):P0 f n=P0 g n:=by
 grind [a2y,S9]
theorem a8a {α:Type} [Inhabited α] {l:List α} {i j:Nat} (h:j < i):(l.take i).getD j default=l.getD j default:=by
 grind
theorem b8p {sl:List Slot} {q:Int} (hi:i<=sl.length):p7 (sl.take i) q=P0 (λj=>fdP q (sl.getD j default)) i:=by
 grind [p7,b1A]
theorem b40:0<=P0 f n↔a0t n f=true:=by
 have:=a4Z (f:=f) (n:=n)
 rw [← this];simp
theorem a9B:P0 f n < 0↔a0t n f=false:=by
 have:=a4Z (f:=f) (n:=n)
 rw [← this];simp
theorem b41 {f:Nat→Bool} {n:Nat}:-1<=P0 f n/\P0 f n < n∨(P0 f n=-1):=by
 grind [a2y]
theorem a1q {sl:List Slot} {q:Int}:-1<=p7 sl q/\p7 sl q < sl.length:=by
 have:=@b41 (λi=>fdP q (sl.getD i default)) sl.length
 unfold p7
 omega
theorem b42 {sl:List Slot}:-1<=freS sl/\freS sl < sl.length:=by
 have:=@b41 (λi=>emP (sl.getD i default)) sl.length
 unfold freS
 omega
section
variable {sl:List Slot} {i:Nat}
theorem c2u (h0:(sl.getD i default).s=0) (h:sl.getD i default=zSl):J3 sl i=true:=by unfold J3;rw [if_pos h0];exact decide_eq_true h
theorem b8q (h0:(sl.getD i default).s=0) (h:¬ sl.getD i default=zSl):J3 sl i=false:=by unfold J3;rw [if_pos h0];exact decide_eq_false h
theorem c2v (h0:¬ (sl.getD i default).s=0) (h1:b0h (sl.getD i default)=true) (h2:a0t i (λj=>fdP (sl.getD i default).q (sl.getD j default))=false):J3 sl i=true:=by unfold J3;rw [if_neg h0,h1,h2];rfl
theorem b43 (h0:¬ (sl.getD i default).s=0) (h1:b0h (sl.getD i default)=false):J3 sl i=false:=by unfold J3;rw [if_neg h0,h1];rfl
theorem b8r (h0:¬ (sl.getD i default).s=0) (h2:a0t i (λj=>fdP (sl.getD i default).q (sl.getD j default))=true):J3 sl i=false:=by unfold J3;rw [if_neg h0,h2,Bool.not_true,Bool.and_false]
theorem b44 (h:J3 sl i=false) (hi:i < sl.length):a55 sl=false:=by unfold a55;rw [a1i h hi,Bool.and_false]
theorem b45 (h:sl.length≠4):a55 sl=false:=by unfold a55;rw [decide_eq_false h,Bool.false_and]
theorem b8s (hl:sl.length=4) (h:∀j,j < i→J3 sl j=true) (hi:4<=i):a55 sl=true:=b3U.mpr ⟨hl,λj hj=>h j J⟩
theorem b0k {x:Slot}:x=zSl↔x.s=0/\x.q=0/\x.p=0:=by cases x;simp [zSl]
theorem b8t (h1:¬ ((0<=(sl.getD i default).s/\(sl.getD i default).s<=3)/\(0<=(sl.getD i default).q/\(sl.getD i default).q<=7)/\0<=(sl.getD i default).p/\(sl.getD i default).p<=15)):J3 sl i=false:=by
 grind [J3,zSl,a4l]
theorem c07 (hi:i < sl.length) (h1:(0<=(sl.getD i default).s/\(sl.getD i default).s<=3)/\(0<=(sl.getD i default).q/\(sl.getD i default).q<=7)/\0<=(sl.getD i default).p/\(sl.getD i default).p<=15)
 (h2:¬ ((sl.getD i default).s=0/\((sl.getD i default).q≠0∨(sl.getD i default).p≠0))) (h3:(sl.getD i default).s≠0→p7 sl (sl.getD i default).q=i):J3 sl i=true:=by
 grind [c2u,b0k,c2v,a4l,b3V]
theorem c08 (h0:(sl.getD i default).s=0) (h:(sl.getD i default).q≠0∨(sl.getD i default).p≠0):J3 sl i=false:=b8q h0 (λe=>by rw [e] at h;simp [zSl] at h)
theorem c09 (hi:i < sl.length) (h0:(sl.getD i default).s≠0) (h:p7 sl (sl.getD i default).q≠i):J3 sl i=false:=b8r h0 (by
 rw [← Bool.not_eq_false];exact λg=>h ((b3V hi h0).mpr g))
end
end Go.Rf
namespace Go.Rf
variable {b:Int} {i:Nat} {sl:List Slot} {w:Wtr} {wa:List Wtr} {x:Slot}
theorem c5d (h:n7 x.s 1 3=false):b0h x=false:=by simp only [b0h,h,Bool.false_and]
theorem c5e (h:n7 x.q 0 7=false):b0h x=false:=by simp only [b0h,h,Bool.false_and,Bool.and_false]
theorem c5f (h:n7 x.p 0 15=false):b0h x=false:=by simp only [b0h,h,Bool.and_false]
theorem b8u (h:∀j,j < i→J3 sl j=true) (hi:sl.length<=i):((sl.length:Int)==4)=a55 sl:=by
 by_cases hl:sl.length=4
 ·rw [b8s hl h J];simp [hl]
 ·rw [b45 hl]
  grind
section
variable {sl:List Slot} {most:Bool} {i:Nat}
theorem a5b (h:¬ (sl.getD i default).s=1):a4k sl most b i=false:=by simp only [a4k,decide_eq_false h,Bool.false_and]
theorem a5c (h:(sl.getD i default).s=1) (hb:b < 0):a4k sl most b i=true:=by simp only [a4k,decide_eq_true h,decide_eq_true hb,Bool.true_or,Bool.true_and]
theorem b2D (hd:b8n sl) (hi:i < sl.length) (h:(sl.getD i default).s=1) (hb:0<=E6 sl most i):a4k sl most (E6 sl most i) i=(decide (urg (wOf (sl.getD i default)) (wOf (sl.getD (E6 sl most i).toNat default)) < 0)==most):=by
 grind [c04,a4k]
theorem a4m (h:(sl.getD i default).s=1) (hb:¬ b < 0):a4k sl most b i=(if most then lessW (wOf (sl.getD i default)) (wOf (sl.getD b.toNat default)) else lessW (wOf (sl.getD b.toNat default)) (wOf (sl.getD i default))):=by
 grind [a4k]
theorem a3W {α:Type} {f:α→List Value} {l:List α} {i:Nat} {x:α}:(l.map f).set i (f x)=(l.set i x).map f:=by rw [List.map_set]
end
def b46 (wa:List Wtr) (w:Wtr):Nat:=(wa.takeWhile (λx=>lessW x w)).length
theorem c1a (h:∀j,j < i→lessW (wa.getD j default) w=true) (hi:i<=wa.length) (he:i=wa.length∨(i < wa.length/\lessW (wa.getD i default) w=false)):b46 wa w=i:=by
 unfold b46
 induction wa generalizing i with
 | nil=>simp at hi;simp [hi]
 | cons x wa ih =>
  cases i with
  | zero =>
   simp_all
  | succ i =>
   have h0:lessW x w=true:=h 0 J
   rw [List.takeWhile_cons,if_pos h0,List.length_cons]
   grind
theorem c1b {wa:List Wtr} {w:Wtr}:b46 wa w<=wa.length:=(List.takeWhile_sublist _).length_le
def insW (wa:List Wtr) (w:Wtr):List Wtr:=wa.take (b46 wa w)++[w]++wa.drop (b46 wa w)
theorem a66:(insW wa w).length=wa.length+1:=by
 have:=@c1b wa w
 simp [insW];omega
theorem a67 {wa:List Wtr} {w:Wtr} {i:Nat} (h:∀j,j < i→lessW (wa.getD j default) w=true) (hi:i<=wa.length) (he:i=wa.length∨(i < wa.length/\lessW (wa.getD i default) w=false)):insW wa w=wa.take i++[w]++wa.drop i:=by
 unfold insW
 rw [c1a h hi he]
def inW (wa:List Wtr) (q:Int):Int:=P0 (λj=>decide ((wa.getD j default).q=q)) wa.length
theorem c5g {wa:List Wtr} {q:Int}:-1<=inW wa q/\inW wa q < wa.length:=by
 have:=@b41 (λj=>decide ((wa.getD j default).q=q)) wa.length
 unfold inW
 omega
theorem b8v {q:Int} (hi:i<=wa.length):inW (wa.take i) q=P0 (λj=>decide ((wa.getD j default).q=q)) i:=by
 grind [inW,b1A]
def setd (q:Que):Bool:=decide (q.wa.length=0) || (decide (freS q.sl < 0) && (decide (bstS q.sl false < 0) || lessW (wOf (q.sl.getD (bstS q.sl false).toNat default)) (q.wa.getD 0 default)))
def oneWa (sl:List Slot) (wa:List Wtr) (i:Nat):Bool:=n7 (wa.getD i default).q 0 7 && (n7 (wa.getD i default).p 0 15 && (decide (p7 sl (wa.getD i default).q < 0) && (!(a0t i (λj=>decide ((wa.getD j default).q=(wa.getD i default).q))) && (decide (i=0) || lessW (wa.getD (i - 1) default) (wa.getD i default)))))
def c1c (sl:List Slot) (wa:List Wtr):Bool:=a18 wa.length (oneWa sl wa)
def a8Z (q:Que):Bool:=a55 q.sl && c1c q.sl q.wa
def b0Y (q:Que):Bool:=a8Z q && setd q
theorem R6:oneWa sl wa i=true↔(0<=(wa.getD i default).q/\(wa.getD i default).q<=7)/\(0<=(wa.getD i default).p/\(wa.getD i default).p<=15)/\p7 sl (wa.getD i default).q < 0/\(∀j,j < i→(wa.getD j default).q≠(wa.getD i default).q)/\(i=0∨lessW (wa.getD (i - 1) default) (wa.getD i default)=true):=by
 grind [oneWa,v8,a1O]
theorem b5U (h:¬ ((0<=(wa.getD i default).q/\(wa.getD i default).q<=7)/\(0<=(wa.getD i default).p/\(wa.getD i default).p<=15)/\p7 sl (wa.getD i default).q < 0/\(∀j,j < i→(wa.getD j default).q≠(wa.getD i default).q)/\(i=0∨lessW (wa.getD (i - 1) default) (wa.getD i default)=true))):oneWa sl wa i=false:=by
 rw [← Bool.not_eq_true,R6];exact h
theorem b8w {q:Que} (h:a55 q.sl=false):a8Z q=false:=by unfold a8Z;rw [h,Bool.false_and]
theorem b8x {q:Que} {i:Nat} (h:oneWa q.sl q.wa i=false) (hi:i < q.wa.length):a8Z q=false:=by unfold a8Z c1c;rw [a1i h hi,Bool.and_false]
theorem b8y {q:Que} {i:Nat} (h1:a55 q.sl=true) (h:∀j,j < i→oneWa q.sl q.wa j=true) (hi:q.wa.length<=i):a8Z q=true:=by unfold a8Z c1c;rw [h1,a3i h hi];rfl
theorem b47:∀(n:Nat) (f:Nat→Int) (k:Nat),(∀i,i < n→0<=f i/\f i < k)→(∀i j,i < j→j < n→f i≠f j)→n<=k
 | n,f,0,h,_=>by
  rcases Nat.eq_zero_or_pos n with h0 | h0
  ·omega
  ·have:=h 0 h0;omega
 | n,f,k+1,h,hd=>by
  by_cases hx:∃i,i < n/\f i=k
  ·obtain ⟨i,hi,hk⟩:=hx
   have:=b47 (n - 1) (λj=>if j < i then f j else f (j+1)) k (λj hj=>by
    split
    ·next hlt=>have:=h j J;have:=hd j i hlt hi;omega
    ·next hge=>have:=h (j+1) J;have:=hd i (j+1) J J;omega) (λa b hab hb=>by
    split
    ·next h1 =>
     split
     ·exact hd a b hab J
     ·exact hd a (b+1) J J
    ·next h1 =>
     rw [if_neg J]
     exact hd (a+1) (b+1) J J)
   omega
  ·have:=b47 n f k (λi hi=>by
    have h1:=h i hi
    have h2:f i≠k:=λe=>hx ⟨i,hi,e⟩
    omega) hd
   omega
theorem b2E {n:Nat} (h:∀j,j < n→oneWa sl wa j=true):n<=8 :=
 b47 n (λi=>(wa.getD i default).q) 8 (λi hi=>by have:=(R6.mp (h i hi)).1;omega) (λi j hij hj=>(R6.mp (h j hj)).2.2.2.1 i hij)
structure PaF (q:Que):Prop where
 sl:SlF q.sl
 wn:q.wa.length<=8
 wa:∀i,i < q.wa.length→oneWa q.sl q.wa i=true
theorem paF {q:Que}:a8Z q=true↔PaF q:=by
 unfold a8Z c1c
 rw [Bool.and_eq_true,F6]
 exact ⟨λh=>⟨slF.mp h.1,b2E h.2,h.2⟩,λh=>⟨slF.mpr h.sl,h.wa⟩⟩
theorem b0l (w:Wtr):∀u∈j9 w,u.oneCell'=true:=by intro u hu;simp [j9] at hu;rcases hu with rfl | rfl<;>rfl
theorem b0m {α:Type} {xs:List α} {f:α→List Value}:((xs.map f).drop ((i:Int)).toNat).take (((xs.map f).length:Int).toNat - ((i:Int)).toNat)=(xs.drop i).map f:=by
 rw [Int.toNat_natCast,Int.toNat_natCast,List.take_of_length_le (by rw [List.length_drop];exact Nat.le_refl _),List.map_drop]
theorem b48 {q:Que} (h:q.wa.length=0):setd q=true:=by unfold setd;rw [decide_eq_true h,Bool.true_or]
theorem b49 {q:Que} (h:¬ q.wa.length=0) (h2:0<=freS q.sl):setd q=false:=by unfold setd;rw [decide_eq_false h,decide_eq_false J];rfl
theorem b5a {q:Que} (h2:freS q.sl < 0) (h3:bstS q.sl false < 0):setd q=true:=by unfold setd;rw [decide_eq_true h2,decide_eq_true h3];simp
theorem b2F {q:Que} (h:¬ q.wa.length=0) (h2:freS q.sl < 0) (h3:¬ bstS q.sl false < 0):setd q=lessW (wOf (q.sl.getD (bstS q.sl false).toNat default)) (q.wa.getD 0 default):=by unfold setd;rw [decide_eq_false h,decide_eq_true h2,decide_eq_false h3];simp
theorem a04 {sl:List Slot} {most:Bool}:-1<=bstS sl most/\bstS sl most < sl.length:=a03 _
theorem b2G {most:Bool} (h:sl.length=i):E6 sl most i=bstS sl most:=by subst h;rfl
theorem b8z (hs:a55 sl=true) (h:∀j,j < i→oneWa sl wa j=true) (hi:wa.length<=i∨8 < i) (hn:i<=wa.length):decide ((wa.length:Int)<=8)=a8Z ⟨sl,wa⟩:=by
 have h8:=b2E h
 rw [b8y (q:=⟨sl,wa⟩) hs h (show wa.length<=i by omega)]
 simp;omega
end Go.Rf
namespace Go.Rf
open Go
variable {irq:Int} {sl:List Slot} {w:Wtr} {wa:List Wtr}
def a0d (sl:List Slot) (lim:Int):Bool:=decide (0<=bstS sl true) && decide ((sl.getD (bstS sl true).toNat default).p < lim)
def tkS (sl:List Slot):List Slot:=sl.set (bstS sl true).toNat ⟨2,(sl.getD (bstS sl true).toNat default).q,(sl.getD (bstS sl true).toNat default).p⟩
def tkI (sl:List Slot):Int:=(sl.getD (bstS sl true).toNat default).q
def tkT (sl:List Slot) (lim:Int):List Slot×Int×Bool:=if a0d sl lim then (tkS sl,tkI sl,true) else ([],0,false)
section
variable {sl:List Slot} {lim irq p:Int}
theorem b5V (h:a0d sl lim=true):tkT sl lim=(tkS sl,tkI sl,true):=by unfold tkT;rw [h];rfl
theorem b8A (h:a0d sl lim=false):tkT sl lim=([],0,false):=by unfold tkT;rw [h];rfl
theorem L9:a0d sl lim=true↔0<=bstS sl true/\(sl.getD (bstS sl true).toNat default).p < lim:=by simp [a0d]
theorem a5d:a0d sl lim=false↔¬ (0<=bstS sl true/\(sl.getD (bstS sl true).toNat default).p < lim):=by rw [← Bool.not_eq_true,L9]
def ptS (sl:List Slot) (irq:Int):List Slot:=sl.set (p7 sl irq).toNat ⟨if (sl.getD (p7 sl irq).toNat default).s=2 then 3 else (sl.getD (p7 sl irq).toNat default).s,(sl.getD (p7 sl irq).toNat default).q,(sl.getD (p7 sl irq).toNat default).p⟩
def edX (sl:List Slot) (irq:Int):Slot:=if (sl.getD (p7 sl irq).toNat default).s=3 then ⟨1,irq,(sl.getD (p7 sl irq).toNat default).p⟩ else zSl
def edS (sl:List Slot) (irq:Int):List Slot:=sl.set (p7 sl irq).toNat (edX sl irq)
def R7 (x:Slot):Bool:=decide (x.s=2) || decide (x.s=3)
theorem u3 {x:Slot}:R7 x=true↔x.s=2∨x.s=3:=by simp [R7]
theorem c7A (h:0<=p7 sl irq):(sl.getD (p7 sl irq).toNat default).q=irq/\(sl.getD (p7 sl irq).toNat default).s≠0:=by
 grind [b1y]
end
def stK (q:Que):Nat:=if freS q.sl < 0 then (bstS q.sl false).toNat else (freS q.sl).toNat
def stW (q:Que):List Wtr:=if freS q.sl < 0 then insW (q.wa.drop 1) (wOf (q.sl.getD (bstS q.sl false).toNat default)) else q.wa.drop 1
def stQ (q:Que):Que:=⟨q.sl.set (stK q) ⟨1,(q.wa.getD 0 default).q,(q.wa.getD 0 default).p⟩,stW q⟩
def wtS (x:Slot):Nat:=if x.s=0 then 2000 else if x.s=1 then (8 * x.p+x.q).toNat else 0
def phi (q:Que):Nat:=(q.sl.map wtS).sum
def a8b:Nat→Que→Que
 | 0,q=>q
 | n+1,q=>if setd q then q else a8b n (stQ q)
def a2P (q:Que):Que:=a8b (phi q+1) q
def ltW (a b:Wtr):Prop:=lessW a b=true/\a.q≠b.q
structure QF (q:Que):Prop where
 sl:SlF q.sl
 wn:q.wa.length<=9
 wa:∀w∈q.wa,(0<=w.q/\w.q<=7)/\(0<=w.p/\w.p<=15)/\∀x∈q.sl,x.s≠0→x.q≠w.q
 pw:q.wa.Pairwise ltW
theorem j6 {α:Type} [Inhabited α] {l:List α} {x:α}:x∈l↔∃i,i < l.length/\l.getD i default=x:=by
 constructor
 ·intro h
  obtain ⟨i,hi,e⟩:=List.getElem_of_mem h
  exact ⟨i,hi,by rw [List.getD_eq_getElem?_getD,List.getElem?_eq_getElem hi];exact e⟩
 grind
theorem a5e {α:Type} [Inhabited α] {l:List α} {R:α→α→Prop}:l.Pairwise R↔∀i j,i < j→j < l.length→R (l.getD i default) (l.getD j default):=by
 rw [List.pairwise_iff_getElem]
 grind
theorem c1d:p7 sl irq < 0↔∀j,j < sl.length→¬ ((sl.getD j default).s≠0/\(sl.getD j default).q=irq):=by
 grind [p7,a9B,a1O,a3y]
theorem a68:p7 sl irq < 0↔∀x∈sl,x.s≠0→x.q≠irq:=by
 grind [c1d,j6]
theorem PaF.q {q:Que} (h:PaF q):QF q:=by
 refine ⟨h.sl,Nat.le_succ_of_le h.wn,λw hw=>?_,a5e.mpr ?_⟩
 ·obtain ⟨i,hi,rfl⟩:=j6.mp hw
  obtain ⟨h1,h2,h3,_⟩:=R6.mp (h.wa i hi)
  exact ⟨h1,h2,a68.mp h3⟩
 ·intro i j hij hj
  refine ⟨?_,(R6.mp (h.wa j hj)).2.2.2.1 i hij⟩
  induction j with
  | zero=>omega
  | succ j ih =>
   have hlast:lessW (q.wa.getD j default) (q.wa.getD (j+1) default)=true:=by
    rcases (R6.mp (h.wa (j+1) hj)).2.2.2.2 with g | g
    ·omega
    ·exact g
   by_cases e:i=j
   ·subst e;exact hlast
   ·exact P6 (ih J J) hlast
theorem QF.pa {q:Que} (h:QF q):PaF q:=by
 have hp:=a5e.mp h.pw
 have h8:∀i,i < q.wa.length→oneWa q.sl q.wa i=true:=λi hi=>by
  obtain ⟨h1,h2,h3⟩:=h.wa _ (j6.mpr ⟨i,hi,Z⟩)
  refine R6.mpr ⟨h1,h2,a68.mpr h3,λj hj=>(hp j i hj hi).2,?_⟩
  rcases Nat.eq_zero_or_pos i with g | g
  ·exact .inl g
  ·exact .inr (hp (i - 1) i J hi).1
 exact ⟨h.sl,b2E h8,h8⟩
theorem QF.wn8 {q:Que} (h:QF q):q.wa.length<=8:=h.pa.wn
theorem M6 {α:Type} [Inhabited α] {l:List α} {i j:Nat} {x:α} (hi:i < l.length):(l.set i x).getD j default=if i=j then x else l.getD j default:=by
 grind
theorem SlF.set (h:SlF sl) {k:Nat} {x:Slot} (hk:k < 4) (hx:(1<=x.s/\x.s<=3)/\(0<=x.q/\x.q<=7)/\0<=x.p/\x.p<=15) (hq:∀j,j < 4→j≠k→(sl.getD j default).s≠0→(sl.getD j default).q≠x.q):SlF (sl.set k x):=by
 have hl:k < sl.length:=by rw [h.len];exact hk
 refine ⟨by rw [List.length_set];exact h.len,λi hi=>?_,λi hi=>?_,λi j hij hj=>?_⟩
 ·rw [M6 hl];split
  ·intro e;omega
  ·exact h.z i hi
 ·rw [M6 hl];split
  ·intro _;exact hx
  ·exact h.ok i hi
 ·rw [M6 hl,M6 hl]
  by_cases e1:k=i
  ·grind
  ·rw [if_neg e1]
   by_cases e2:k=j
   ·grind
   ·rw [if_neg e2];exact h.dif i j hij hj
theorem SlF.setZ (h:SlF sl) {k:Nat} (hk:k < 4):SlF (sl.set k zSl):=by
 have hl:k < sl.length:=by rw [h.len];exact hk
 refine ⟨by rw [List.length_set];exact h.len,λi hi=>?_,λi hi=>?_,λi j hij hj=>?_⟩
 ·rw [M6 hl];split
  ·intro _;rfl
  ·exact h.z i hi
 ·rw [M6 hl];split
  ·intro e;exact absurd Z e
  ·exact h.ok i hi
 ·rw [M6 hl,M6 hl]
  split
  ·intro e;exact absurd Z e
  ·split
   ·intro _ e;exact absurd Z e
   ·exact h.dif i j hij hj
theorem b8B {α:Type} {p:α→Bool} {x:α}:∀{l:List α},x∈l.takeWhile p→p x=true
 | [],h=>by simp at h
 | y :: l,h=>by
  rw [List.takeWhile_cons] at h
  split at h
  ·next hy =>
   rcases List.mem_cons.mp h with rfl | h
   ·exact hy
   ·exact b8B h
  ·cases h
theorem b5W:insW wa w=wa.takeWhile (λx=>lessW x w)++[w]++wa.dropWhile (λx=>lessW x w):=by
 have h:=List.takeWhile_append_dropWhile (p:=λx=>lessW x w) (l:=wa)
 unfold insW b46
 grind
theorem a4n {x:Wtr}:x∈insW wa w↔x=w∨x∈wa:=by
 have h:=List.takeWhile_append_dropWhile (p:=λx=>lessW x w) (l:=wa)
 rw [b5W]
 grind
theorem b2H (h:wa.Pairwise ltW) (hd:∀x∈wa,x.q≠w.q):(insW wa w).Pairwise ltW:=by
 rw [b5W]
 have hs:=List.takeWhile_append_dropWhile (p:=λx=>lessW x w) (l:=wa)
 have hp:(wa.takeWhile (λx=>lessW x w)++wa.dropWhile (λx=>lessW x w)).Pairwise ltW:=by rw [hs];exact h
 obtain ⟨p1,p2,p3⟩:=List.pairwise_append.mp hp
 have t1:∀x∈wa.takeWhile (λx=>lessW x w),ltW x w:=λx hx=>by
  refine ⟨?_,hd x (by rw [← hs];exact List.mem_append_left _ hx)⟩
  exact b8B (p:=λx=>lessW x w) hx
 have t2:∀x∈wa.dropWhile (λx=>lessW x w),ltW w x:=by
  cases hdw:wa.dropWhile (λx=>lessW x w) with
  | nil=>intro x hx;cases hx
  | cons y r =>
   have hy:lessW y w=false:=by
    have:=List.head?_dropWhile_not (λx=>lessW x w) wa
    grind
   have hyq:y.q≠w.q:=hd y (by rw [← hs,hdw];simp)
   have hwy:ltW w y:=⟨by rw [a1e (Ne.symm hyq),hy];rfl,Ne.symm hyq⟩
   rw [hdw] at p2
   intro x hx
   rcases List.mem_cons.mp hx with rfl | hx
   ·exact hwy
   ·have:=(List.pairwise_cons.mp p2).1 x hx
    exact ⟨P6 hwy.1 this.1,Ne.symm (hd x (by rw [← hs,hdw];simp [hx]))⟩
 grind
theorem b5X {α:Type} [Inhabited α] {f:α→Nat} {x:α}:∀{l:List α} {k:Nat},k < l.length→((l.set k x).map f).sum+f (l.getD k default)=(l.map f).sum+f x
 | [],k,h=>by simp at h
 | y :: l,0,_=>by simp;omega
 | y :: l,k+1,h=>by
  have:=b5X (f:=f) (x:=x) (l:=l) (k:=k) (by simpa using h)
  grind
theorem a5f {α:Type} [Inhabited α] {l:List α} {k:Nat} {x y:α} (hk:k < l.length) (h:y∈l.set k x):y=x∨∃j,j < l.length/\j≠k/\l.getD j default=y:=by
 grind [j6,M6]
theorem H2 {most:Bool} (h:0<=bstS sl most):∃k:Nat,bstS sl most=k/\k < sl.length/\(sl.getD k default).s=1:=by
 have hb:=@a04 sl most
 refine ⟨(bstS sl most).toNat,by omega,by omega,a2O _ h⟩
structure NotSet (q:Que) (k:Nat) (w:Wtr) (r:List Wtr):Prop where
 wa:q.wa=w :: r
 kn:stK q=k
 kl:k < 4
 st:(freS q.sl=k/\(q.sl.getD k default).s=0/\stW q=r)∨(freS q.sl < 0/\bstS q.sl false=k/\(q.sl.getD k default).s=1/\lessW w (wOf (q.sl.getD k default))=true/\stW q=insW r (wOf (q.sl.getD k default)))
theorem b5b {q:Que} (h:QF q) (hs:setd q=false):∃k w r,NotSet q k w r:=by
 have h0:q.wa.length≠0:=λe=>by rw [b48 e] at hs;cases hs
 obtain ⟨w,r,hw⟩:∃w r,q.wa=w :: r:=by
  cases hq:q.wa with
  | nil=>rw [hq] at h0;exact absurd Z h0
  | cons w r=>exact ⟨w,r,Z⟩
 rcases @b1z q.sl with ⟨f1,f2⟩ | ⟨i,f1,f2,f3⟩
 ·have hb:0<=bstS q.sl false:=by
   grind [b5a]
  rw [b2F h0 J J] at hs
  obtain ⟨k,hk,hkl,hk1⟩:=H2 hb
  have hkn:(bstS q.sl false).toNat=k:=by omega
  rw [hkn,hw] at hs
  have hs:lessW (wOf (q.sl.getD k default)) w=false:=hs
  have hne:(wOf (q.sl.getD k default)).q≠w.q:=(h.wa w (by rw [hw];simp)).2.2 _ (j6.mpr ⟨k,hkl,Z⟩) J
  refine ⟨k,w,r,hw,by unfold stK;rw [if_pos J,hkn],by rw [← h.sl.len];exact hkl,.inr ⟨by omega,hk,hk1,?_,?_⟩⟩
  ·rw [a1e (Ne.symm hne),hs];rfl
  ·unfold stW;rw [if_pos J,hkn,hw];rfl
 ·exact ⟨i,w,r,hw,by unfold stK;rw [if_neg J,f1];rfl,by rw [← h.sl.len];exact f2,.inl ⟨f1,f3,by unfold stW;rw [if_neg J,hw];rfl⟩⟩
theorem NotSet.eq {q:Que} {k:Nat} {r:List Wtr} (n:NotSet q k w r):stQ q=⟨q.sl.set k ⟨1,w.q,w.p⟩,stW q⟩:=by
 unfold stQ;rw [n.kn,n.wa];rfl
theorem b1B {q:Que} (h:QF q) (hs:setd q=false):QF (stQ q)/\phi (stQ q) < phi q:=by
 obtain ⟨k,w,r,n⟩:=b5b h hs
 rw [n.eq]
 have hl:k < q.sl.length:=by rw [h.sl.len];exact n.kl
 obtain ⟨hw1,hw2,hw3⟩:=h.wa w (by rw [n.wa];simp)
 have hpw:=h.pw
 rw [n.wa] at hpw
 obtain ⟨hp1,hp2⟩:=List.pairwise_cons.mp hpw
 have hrm:∀v∈r,v∈q.wa:=λv hv=>by rw [n.wa];simp [hv]
 have hsum:=b5X (f:=wtS) (x:=(⟨1,w.q,w.p⟩:Slot)) hl
 have hwt:wtS ⟨1,w.q,w.p⟩=(8 * w.p+w.q).toNat:=rfl
 have hsl:SlF (q.sl.set k ⟨1,w.q,w.p⟩):=h.sl.set n.kl ⟨⟨by show (1:Int)<=1;omega,by show (1:Int)<=3;omega⟩,hw1,hw2⟩ (λj hj hjk h0=>hw3 _ (j6.mpr ⟨j,by rw [h.sl.len];exact hj,Z⟩) h0)
 rcases n.st with ⟨f1,f2,f3⟩ | ⟨f0,f1,f2,f3,f4⟩
 ·rw [f3]
  refine ⟨⟨hsl,by have:=h.wn;rw [n.wa] at this;simp at this;show r.length<=9;omega,λv hv=>?_,hp2⟩,?_⟩
  ·obtain ⟨g1,g2,g3⟩:=h.wa v (hrm v hv)
   refine ⟨g1,g2,λx hx h0=>?_⟩
   rcases a5f hl hx with rfl | ⟨j,hj,_,rfl⟩
   ·exact (hp1 v hv).2
   grind
  ·have:wtS (q.sl.getD k default)=2000:=by unfold wtS;rw [if_pos f2]
   show ((q.sl.set k ⟨1,w.q,w.p⟩).map wtS).sum < (q.sl.map wtS).sum
   omega
 ·rw [f4]
  have hb:=h.sl.ok k n.kl J
  refine ⟨⟨hsl,?_,λv hv=>?_,b2H hp2 λx hx=>?_⟩,?_⟩
  ·have:=h.wn;rw [n.wa] at this;simp at this
   show (insW r _).length<=9
   rw [a66];omega
  ·rcases a4n.mp hv with rfl | hv
   ·refine ⟨hb.2.1,hb.2.2,λx hx h0=>?_⟩
    rcases a5f hl hx with rfl | ⟨j,hj,hjk,rfl⟩
    ·exact λe=>hw3 _ (j6.mpr ⟨k,hl,Z⟩) J e.symm
    ·intro e
     have h4:=h.sl.len
     rcases Nat.lt_or_ge j k with g | g
     ·exact h.sl.dif j k g n.kl h0 J e
     ·exact h.sl.dif k j J J J h0 e.symm
   ·obtain ⟨g1,g2,g3⟩:=h.wa v (hrm v hv)
    refine ⟨g1,g2,λx hx h0=>?_⟩
    rcases a5f hl hx with rfl | ⟨j,hj,_,rfl⟩
    ·exact (hp1 v hv).2
    grind
  ·exact λe=>(h.wa x (hrm x hx)).2.2 _ (j6.mpr ⟨k,hl,Z⟩) J e.symm
  ·have:wtS (q.sl.getD k default)=(8 * (q.sl.getD k default).p+(q.sl.getD k default).q).toNat:=by unfold wtS;rw [if_neg J,if_pos f2]
   rw [W0] at f3
   have f3:w.p < (q.sl.getD k default).p∨(w.p=(q.sl.getD k default).p/\w.q < (q.sl.getD k default).q):=f3
   show ((q.sl.set k ⟨1,w.q,w.p⟩).map wtS).sum < (q.sl.map wtS).sum
   omega
theorem b1C:∀{n m:Nat} {q:Que},QF q→phi q < n→phi q < m→a8b n q=a8b m q
 | n+1,m+1,q,h,h1,h2=>by
  unfold a8b
  cases hs:setd q
  ·obtain ⟨g1,g2⟩:=b1B h hs
   simp only [Bool.false_eq_true,if_false]
   exact b1C g1 J J
  ·rfl
theorem b1D {q:Que} (h:QF q) (hs:setd q=false):a2P q=a2P (stQ q):=by
 grind [b1B,a2P,a8b,b1C]
theorem b1E {q:Que} (hs:setd q=true):a2P q=q:=by unfold a2P a8b;rw [hs];rfl
theorem b5Y:∀{n:Nat} {q:Que},QF q→phi q < n→QF (a8b n q)/\setd (a8b n q)=true
 | n+1,q,h,h1=>by
  unfold a8b
  cases hs:setd q
  ·obtain ⟨g1,g2⟩:=b1B h hs
   simp only [Bool.false_eq_true,if_false]
   exact b5Y g1 J
  grind
theorem b5Z {q:Que} (h:QF q):QF (a2P q)/\setd (a2P q)=true:=b5Y h (Nat.lt_succ_self _)
theorem a69 {q:Que}:b0Y q=true↔QF q/\setd q=true:=by
 unfold b0Y
 rw [Bool.and_eq_true,paF]
 exact ⟨λh=>⟨h.1.q,h.2⟩,λh=>⟨h.1.pa,h.2⟩⟩
def actL (sl:List Slot):List Wtr:=(sl.filter R7).map wOf
theorem b3W:∀{k:Nat} {x:Slot},k < sl.length→R7 x=R7 (sl.getD k default)→(R7 x=true→wOf x=wOf (sl.getD k default))→actL (sl.set k x)=actL sl:=by
 unfold actL
 induction sl with
 | nil=>intro k x hk;simp at hk
 | cons y sl ih =>
  intro k x hk h1 h2
  cases k with
  | zero =>
   grind
  | succ k =>
   grind
theorem C6:w∈actL sl↔∃x∈sl,R7 x=true/\wOf x=w:=by
 simp [actL,and_assoc]
theorem c1e {q:Que} (h:QF q) (hs:setd q=false):actL (stQ q).sl=actL q.sl:=by
 obtain ⟨k,w,r,n⟩:=b5b h hs
 rw [n.eq]
 have hl:k < q.sl.length:=by rw [h.sl.len];exact n.kl
 refine b3W hl ?_ (λg=>?_)
 ·have:R7 (q.sl.getD k default)=false:=by
   rcases n.st with ⟨_,f,_⟩ | ⟨_,_,f,_⟩<;>rw [← Bool.not_eq_true,u3]<;>omega
  rw [this];rfl
 ·cases g
theorem b3X:∀{n:Nat} {q:Que},QF q→actL (a8b n q).sl=actL q.sl
 | 0,q,_=>rfl
 | n+1,q,h=>by
  unfold a8b
  cases hs:setd q
  ·simp_all [b3X,b1B,c1e]
  ·rfl
theorem b3Y {q:Que} (h:QF q):actL (a2P q).sl=actL q.sl:=b3X h
def a57 (q:Que) (irq p:Int):Que:=if 0<=p7 q.sl irq then ⟨ptS q.sl irq,q.wa⟩ else if 0<=inW q.wa irq then q else ⟨q.sl,insW q.wa ⟨irq,p⟩⟩
def a2Q (q:Que) (irq p:Int):Que:=a2P (a57 q irq p)
theorem a4o (h:0<=p7 sl irq):∃k:Nat,p7 sl irq=k/\k < sl.length/\(sl.getD k default).s≠0/\(sl.getD k default).q=irq:=by
 rcases @b1y sl irq with ⟨g,_⟩ | g
 ·omega
 ·exact g
theorem SlF.upd (h:SlF sl) {k:Nat} (hk:k < 4) {s':Int} (h0:(sl.getD k default).s≠0) (hs:1<=s'/\s'<=3):SlF (sl.set k ⟨s',(sl.getD k default).q,(sl.getD k default).p⟩):=by
 refine h.set hk ⟨hs,(h.ok k hk h0).2⟩ (λj hj hjk g=>?_)
 rcases Nat.lt_or_ge j k with e | e
 ·exact h.dif j k e hk g h0
 ·exact λe'=>h.dif k j J hj h0 g e'.symm
theorem QF.slUpd {q:Que} (h:QF q) {k:Nat} (hk:k < 4) {s':Int} (h0:(q.sl.getD k default).s≠0) (hs:1<=s'/\s'<=3):QF ⟨q.sl.set k ⟨s',(q.sl.getD k default).q,(q.sl.getD k default).p⟩,q.wa⟩:=by
 refine ⟨h.sl.upd hk h0 hs,h.wn,λw hw=>?_,h.pw⟩
 obtain ⟨g1,g2,g3⟩:=h.wa w hw
 refine ⟨g1,g2,λx hx g=>?_⟩
 have hl:k < q.sl.length:=by rw [h.sl.len];exact hk
 grind
theorem b50 {q:Int}:inW wa q < 0↔∀w∈wa,w.q≠q:=by
 grind [inW,a9B,a1O,j6]
theorem b5c {q:Que} {irq p:Int} (h:QF q) (hi:0<=irq/\irq<=7) (hp:0<=p/\p<=15):QF (a57 q irq p)/\actL (a57 q irq p).sl=actL q.sl:=by
 unfold a57
 split
 ·next h1 =>
  obtain ⟨k,e1,e2,e3,e4⟩:=a4o h1
  have hk:k < 4:=by rw [← h.sl.len];exact e2
  unfold ptS
  rw [e1]
  simp only [Int.toNat_natCast]
  have hb:=(h.sl.ok k hk e3).1
  refine ⟨h.slUpd hk e3 ?_,b3W e2 ?_ (λ_=>Z)⟩
  ·split<;>omega
  ·grind [u3]
 split
 ·exact ⟨h,Z⟩
 ·next h1 h2 =>
  have g1:=a68.mp (show p7 q.sl irq < 0 by omega)
  have g2:=b50.mp (show inW q.wa irq < 0 by omega)
  refine ⟨⟨h.sl,?_,λw hw=>?_,b2H h.pw g2⟩,Z⟩
  ·show (insW q.wa _).length<=9
   rw [a66];have:=h.wn8;omega
  ·rcases a4n.mp hw with rfl | hw
   ·exact ⟨hi,hp,g1⟩
   ·exact h.wa w hw
theorem a58 {q:Que} {p:Int} (h:QF q) (hi:0<=irq/\irq<=7) (hp:0<=p/\p<=15):QF (a2Q q irq p)/\setd (a2Q q irq p)=true/\actL (a2Q q irq p).sl=actL q.sl:=by
 grind [b5c,b5Z,a2Q,b3Y]
def a4p (q:Que):Que:=⟨tkS q.sl,q.wa⟩
theorem b5d {q:Que} (h:QF q) (hb:0<=bstS q.sl true):QF (a4p q):=by
 obtain ⟨k,e1,e2,e3⟩:=H2 hb
 have hk:k < 4:=by rw [← h.sl.len];exact e2
 unfold a4p tkS
 rw [e1]
 exact h.slUpd hk (by (omega)) (by (omega))
def a6a (q:Que) (irq:Int):Que:=a2P ⟨edS q.sl irq,q.wa⟩
theorem a9C {q:Que} (h:QF q) (hf:0<=p7 q.sl irq):QF ⟨edS q.sl irq,q.wa⟩:=by
 obtain ⟨k,e1,e2,e3,e4⟩:=a4o hf
 have hk:k < 4:=by rw [← h.sl.len];exact e2
 have e5:edX q.sl irq=if (q.sl.getD k default).s=3 then ⟨1,irq,(q.sl.getD k default).p⟩ else zSl:=by unfold edX;rw [e1];rfl
 unfold edS
 rw [e1,e5]
 split
 ·rw [← e4];exact h.slUpd hk e3 J
 ·refine ⟨h.sl.setZ hk,h.wn,λw hw=>?_,h.pw⟩
  obtain ⟨g1,g2,g3⟩:=h.wa w hw
  refine ⟨g1,g2,λx hx g=>?_⟩
  rcases a5f e2 hx with rfl | ⟨j,hj,_,rfl⟩
  ·exact absurd Z g
  grind
theorem b8C {q:Que} (h:QF q) (hf:0<=p7 q.sl irq):QF (a6a q irq)/\setd (a6a q irq)=true:=b5Z (a9C h hf)
theorem s1 {q:Que} (h:0<=freS q.sl):stQ q=⟨q.sl.set (freS q.sl).toNat ⟨1,(q.wa.getD 0 default).q,(q.wa.getD 0 default).p⟩,q.wa.drop 1⟩:=by
 unfold stQ stK stW
 grind
theorem u9 {q:Que} (h:freS q.sl < 0):stQ q=⟨q.sl.set (bstS q.sl false).toNat ⟨1,(q.wa.getD 0 default).q,(q.wa.getD 0 default).p⟩,insW (q.wa.drop 1) (wOf (q.sl.getD (bstS q.sl false).toNat default))⟩:=by
 unfold stQ stK stW
 rw [if_pos h,if_pos h]
theorem b51 {q:Que} (h:QF q) (hs:setd q=false):0 < q.wa.length/\(freS q.sl < 0→0<=bstS q.sl false):=by
 obtain ⟨k,w,r,n⟩:=b5b h hs
 refine ⟨by rw [n.wa];simp,λg=>?_⟩
 rcases n.st with ⟨f,_⟩ | ⟨_,f,_⟩<;>omega
end Go.Rf
namespace Go.Rf
theorem c7B {xs:List Wtr}:((xs.map j9).drop (1:Int).toNat).take (((xs.map j9).length:Int).toNat - (1:Int).toNat)=(xs.drop 1).map j9:=by
 have h1:(1:Int).toNat=1:=rfl
 have h2:(((xs.map j9).length:Int)).toNat=(xs.map j9).length:=Int.toNat_natCast _
 rw [h1,h2,List.take_of_length_le (by rw [List.length_drop];exact Nat.le_refl _),List.map_drop]
theorem c7C {xs:List Wtr}:(xs.map j9).drop (1:Int).toNat=(xs.drop 1).map j9:=List.map_drop.symm
end Go.Rf
namespace Go.Rf
open Go
section
variable {rs:List Route} {a:Abs} {ss:List MStep}
end
end Go.Rf
namespace Go.Rf
end Go.Rf
namespace Go.Rf
open Go
variable {j:Nat} {l:List Int} {m:Mach} {rs:List Route} {x:Ifc}
def r6 (eS eW:Nat) (x:Ifc):List CI:=[.v (.int .i64 x.ma),.l 3 1 (x.st.map r7),.l eS 3 (x.qu.sl.map j5),.l eW 2 (x.qu.wa.map j9)]
structure BigI (x:Ifc):Prop where
 st:x.st.length<=9223372036854775807
 sl:x.qu.sl.length<=9223372036854775807
 wa:x.qu.wa.length<=9223372036854775807
structure BigM (m:Mach):Prop where
 rs:m.rs.length<=9223372036854775807
 en:m.en.length<=9223372036854775807
 ra:m.ra.length<=9223372036854775807
 cp:m.cp.length<=9223372036854775807
 all:∀i,i < m.cp.length→BigI (m.cp.getD i default)
def szI (x:Ifc):Int:=x.st.length+x.qu.sl.length+x.qu.wa.length
def sumI (xs:List Ifc):Nat→Int
 | 0=>0
 | i+1=>sumI xs i+szI (xs.getD i default)
theorem a2R {xs:List Ifc} {i:Nat}:sumI xs (i+1)=sumI xs i+szI (xs.getD i default):=rfl
theorem b8D {x:Ifc}:0<=szI x:=by unfold szI;omega
theorem b52 {xs:List Ifc}:∀i,0<=sumI xs i
 | 0=>Int.le_refl _
 | i+1=>by have:=@b52 xs i;have:=@b8D (xs.getD i default);rw [a2R];omega
theorem b7i {xs:List Ifc} {i j:Nat} (h:i<=j):sumI xs i<=sumI xs j:=by
 induction h with
 | refl=>exact Int.le_refl _
 | step _ ih=>rename_i m _;have:=@b8D (xs.getD m default);rw [a2R];omega
theorem b8E {xs:List Ifc} {i n:Nat} (h:i < n):szI (xs.getD i default)<=sumI xs n:=by
 have h1:=b7i (xs:=xs) (show i+1<=n from h)
 have h2:=@b52 xs i
 rw [a2R] at h1
 omega
structure SmallM (m:Mach):Prop where
 rs:m.rs.length<=1048576
 en:m.en.length<=1048576
 ra:m.ra.length<=1048576
 cp:m.cp.length<=1048576
 sum:sumI m.cp m.cp.length<=1048576
theorem SmallM.allI (h:SmallM m) {i:Nat} (hi:i < m.cp.length):szI (m.cp.getD i default)<=1048576:=by
 have:=b8E (xs:=m.cp) hi
 have:=h.sum
 omega
theorem SmallM.big (h:SmallM m):BigM m:=by
 refine ⟨by have:=h.rs;omega,by have:=h.en;omega,by have:=h.ra;omega,by have:=h.cp;omega,λi hi=>?_⟩
 have:=h.allI hi
 unfold szI at this
 exact ⟨by omega,by omega,by omega⟩
section
variable {k:Int} {xs:List Ifc} {eS eW:Nat}
end
def noM:Mach:=⟨[],[],[],[]⟩
def b7j:Ifc:=⟨16,[],⟨[zSl,zSl,zSl,zSl],[]⟩⟩
def b3Z (rs:List Route) (c:Nat):Mach:=⟨rs,List.replicate 8 false,List.replicate 8 false,List.replicate c b7j⟩
def a7a (rs:List Route) (c:Int):Mach×Bool:=if okRts rs c then (b3Z rs c.toNat,true) else (noM,false)
theorem b53 {rs:List Route} {c:Int} (h:okRts rs c=true):a7a rs c=(b3Z rs c.toNat,true):=by unfold a7a;rw [h];rfl
theorem c1f {rs:List Route} {c:Int} (h:okRts rs c=false):a7a rs c=(noM,false):=by unfold a7a;rw [h];rfl
def lvl (sl:List Slot) (q:Int):Int:=(sl.getD (p7 sl q).toNat default).p
def a7b (x:Ifc):Int:=if x.st.length=0 then 16 else lvl x.qu.sl (x.st.getD (x.st.length - 1) default)
theorem c5h (h:x.st.length=0):a7b x=16:=by unfold a7b;rw [if_pos h]
theorem b8F (h:¬ x.st.length=0):a7b x=lvl x.qu.sl (x.st.getD (x.st.length - 1) default):=by unfold a7b;rw [if_neg h]
def a6b (x:Ifc) (q p:Int):Ifc:=⟨x.ma,x.st,a2Q x.qu q p⟩
def a3z (x:Ifc):Ifc:=⟨x.ma,x.st++[tkI x.qu.sl],a4p x.qu⟩
structure IfF (x:Ifc):Prop where
 qu:QF x.qu
 sn:x.st.length<=4
 st:∀q∈x.st,∃w∈actL x.qu.sl,w.q=q
theorem a3A {sl:List Slot} {q:Int} (h:∃w∈actL sl,w.q=q):0<=p7 sl q:=by
 obtain ⟨w,hw,e⟩:=h
 obtain ⟨x,h1,h2,rfl⟩:=C6.mp hw
 rcases Int.lt_or_le (p7 sl q) 0 with g | g
 ·refine absurd e (a68.mp g x h1 ?_)
  rcases u3.mp h2 with g | g<;>omega
 ·exact g
theorem IfF.top (h:IfF x) {i:Nat} (hi:i < x.st.length):0<=p7 x.qu.sl (x.st.getD i default):=a3A (h.st _ (j6.mpr ⟨i,hi,Z⟩))
theorem b8G {q p:Int} (h:IfF x) (hq:0<=q/\q<=7) (hp:0<=p/\p<=15):IfF (a6b x q p):=by
 obtain ⟨h1,h2,h3⟩:=a58 h.qu hq hp
 exact ⟨h1,h.sn,λy hy=>by show ∃w∈actL (a2Q x.qu q p).sl,w.q=y;rw [h3];exact h.st y hy⟩
theorem b54 {α:Type} [Inhabited α] {l:List α} {k:Nat} {x y:α} (h:x∈l) (hne:x≠l.getD k default):x∈l.set k y:=by
 grind [j6]
theorem c5i (h:IfF x) (hb:0<=bstS x.qu.sl true) (hn:x.st.length < 4):IfF (a3z x):=by
 obtain ⟨k,e1,e2,e3⟩:=H2 hb
 refine ⟨b5d h.qu hb,by show (x.st++[tkI x.qu.sl]).length<=4;rw [List.length_append,List.length_cons,List.length_nil];omega,λq hq=>?_⟩
 show ∃w∈actL (tkS x.qu.sl),w.q=q
 unfold tkS
 rw [e1,Int.toNat_natCast]
 rcases List.mem_append.mp hq with hq | hq
 ·obtain ⟨w,hw,e⟩:=h.st q hq
  obtain ⟨y,y1,y2,y3⟩:=C6.mp hw
  refine ⟨w,C6.mpr ⟨y,b54 y1 (λe'=>?_),y2,y3⟩,e⟩
  rw [e'] at y2
  rcases u3.mp y2 with g | g<;>omega
 ·rw [List.mem_singleton.mp hq]
  refine ⟨⟨(x.qu.sl.getD k default).q,(x.qu.sl.getD k default).p⟩,C6.mpr ⟨⟨2,(x.qu.sl.getD k default).q,(x.qu.sl.getD k default).p⟩,List.mem_iff_getElem.mpr ⟨k,by rw [List.length_set];exact e2,by simp⟩,Z,Z⟩,?_⟩
  show (x.qu.sl.getD k default).q=tkI x.qu.sl
  unfold tkI
  grind
def S6 (rs:List Route) (l:List Int):List Slot:=(l.map λq=>⟨2,q,prI rs q⟩)++List.replicate (4 - l.length) zSl
def a7c (rs:List Route) (l:List Int):Ifc:=⟨16,l,⟨S6 rs l,[]⟩⟩
def a0e (rs:List Route) (l:List Int) (q:Int):List Slot:=(l.map λq=>⟨2,q,prI rs q⟩)++(⟨1,q,prI rs q⟩ :: List.replicate (3 - l.length) zSl)
section
variable {rs:List Route} {l:List Int} {q:Int}
theorem b1F {α:Type} [Inhabited α] {a b:List α} {j:Nat} (h:j < a.length):(a++b).getD j default=a.getD j default:=by
 grind
theorem b1G {α:Type} [Inhabited α] {a b:List α} {j:Nat} (h:a.length<=j):(a++b).getD j default=b.getD (j - a.length) default:=by
 grind
theorem a0f {α β:Type} [Inhabited α] [Inhabited β] {f:α→β} {a:List α} {j:Nat} (h:j < a.length):(a.map f).getD j default=f (a.getD j default):=by
 grind
theorem b8H {α:Type} [Inhabited α] {x:α} {n j:Nat} (h:j < n):(List.replicate n x).getD j default=x:=by
 grind
theorem a4q (h:l.length<=4):(S6 rs l).length=4:=by unfold S6;simp;omega
theorem b30 (h:l.length < 4):(a0e rs l q).length=4:=by unfold a0e;simp;omega
theorem a3B (h:j < l.length):(S6 rs l).getD j default=⟨2,l.getD j default,prI rs (l.getD j default)⟩:=by
 unfold S6
 grind
theorem a7d (h:l.length<=j) (h4:j < 4):(S6 rs l).getD j default=zSl:=by
 unfold S6
 grind
theorem b2I (h:j < l.length):(a0e rs l q).getD j default=⟨2,l.getD j default,prI rs (l.getD j default)⟩:=by
 unfold a0e
 grind
theorem b2J:(a0e rs l q).getD l.length default=⟨1,q,prI rs q⟩:=by
 unfold a0e
 rw [b1G (by simp)]
 simp
theorem c1g (h:l.length < j) (h4:j < 4):(a0e rs l q).getD j default=zSl:=by
 grind [a0e]
theorem c1h {α:Type} {a b:List α} {x:α}:(a++b).set a.length x=a++b.set 0 x:=by
 simp
theorem b8I (h:l.length < 4):(S6 rs l).set l.length ⟨1,q,prI rs q⟩=a0e rs l q:=by
 unfold S6 a0e
 have e:=@c1h _ (l.map λq=>(⟨2,q,prI rs q⟩:Slot)) (List.replicate (4 - l.length) zSl) ⟨1,q,prI rs q⟩
 rw [List.length_map] at e
 rw [e,show 4 - l.length=(3 - l.length)+1 by omega,List.replicate_succ,List.set_cons_zero]
theorem b8J (h:l.length < 4):(a0e rs l q).set l.length ⟨2,q,prI rs q⟩=S6 rs (l++[q]):=by
 grind [S6,a0e]
theorem b0n (h:l.length < 4):freS (S6 rs l)=l.length:=by
 unfold freS
 refine S9 (λj hj=>?_) (by rw [a4q J];exact h) ?_
 ·rw [a3B hj];rfl
 ·rw [a7d (Nat.le_refl _) h];rfl
theorem b8K (h:l.length<=4) (hq:∀j,j < l.length→l.getD j default≠q):p7 (S6 rs l) q=-1:=by
 unfold p7
 refine a1k (i:=4) (λj hj=>?_) (by rw [a4q h];exact Nat.le_refl _)
 rw [← Bool.not_eq_true,a3y]
 rcases Nat.lt_or_ge j l.length with g | g
 ·rw [a3B g];exact λe=>hq j g e.2
 ·rw [a7d g hj];exact λe=>e.1 Z
theorem b8L (h:l.length < 4) (hj:j < l.length) (hd:∀i,i < j→l.getD i default≠l.getD j default):p7 (a0e rs l q) (l.getD j default)=j:=by
 grind [p7,S9,b30,a3y,b2I]
theorem b31 (h:l.length < 4):bstS (a0e rs l q) true=l.length:=by
 have hl:(a0e rs l q).length=4:=b30 h
 have hneg:¬ E6 (a0e rs l q) true 4 < 0:=by
  grind [b0i,b2J]
 have hb:=@a03 (a0e rs l q) true 4
 have h1:=a2O (sl:=a0e rs l q) (most:=true) 4 J
 unfold bstS
 rw [hl]
 rcases Nat.lt_trichotomy (E6 (a0e rs l q) true 4).toNat l.length with g | g | g
 ·rw [b2I g] at h1;exact absurd h1 (by show ¬ (2:Int)=1;decide)
 ·omega
 ·rw [c1g g J] at h1;exact absurd h1 (by show ¬ (0:Int)=1;decide)
theorem b55 {α:Type} {f:α→Nat} {x:α}:∀{l:List α},x∈l→f x<=(l.map f).sum
 | y :: l,h=>by
  rw [List.map_cons,List.sum_cons]
  rcases List.mem_cons.mp h with rfl | h
  ·omega
  ·have:=b55 (f:=f) h;omega
theorem b7k (h:l.length < 4) (hq:∀j,j < l.length→l.getD j default≠q):a6b (a7c rs l) q (prI rs q)=⟨16,l,⟨a0e rs l q,[]⟩⟩:=by
 have h1:a57 (a7c rs l).qu q (prI rs q)=⟨S6 rs l,[⟨q,prI rs q⟩]⟩:=by
  unfold a57
  rw [if_neg (by show ¬ 0<=p7 (S6 rs l) q;rw [b8K J hq];decide),if_neg (by have:=@c5g ([]:List Wtr) q;show ¬ 0<=inW [] q;simp at this;omega)]
  rfl
 have h2:setd ⟨S6 rs l,[⟨q,prI rs q⟩]⟩=false:=b49 (by show ¬ 1=0;decide) (by show 0<=freS (S6 rs l);rw [b0n h];omega)
 have h3:stQ ⟨S6 rs l,[⟨q,prI rs q⟩]⟩=⟨a0e rs l q,[]⟩:=by
  rw [s1 (by show 0<=freS (S6 rs l);rw [b0n h];omega)]
  show (⟨(S6 rs l).set (freS (S6 rs l)).toNat ⟨1,q,prI rs q⟩,[]⟩:Que)=_
  rw [b0n h,Int.toNat_natCast,b8I h]
 have h4:a2P ⟨S6 rs l,[⟨q,prI rs q⟩]⟩=⟨a0e rs l q,[]⟩:=by
  unfold a2P
  have hp:0 < phi ⟨S6 rs l,[⟨q,prI rs q⟩]⟩:=by
   have hm:zSl∈S6 rs l:=j6.mpr ⟨l.length,by rw [a4q J];exact h,a7d (Nat.le_refl _) h⟩
   have:wtS zSl<=((S6 rs l).map wtS).sum:=b55 hm
   have e:wtS zSl=2000:=rfl
   show 0 < ((S6 rs l).map wtS).sum
   omega
  obtain ⟨n,hn⟩:∃n,phi ⟨S6 rs l,[⟨q,prI rs q⟩]⟩=n+1:=⟨_,(Nat.sub_add_cancel hp).symm⟩
  rw [hn]
  unfold a8b
  rw [h2]
  simp only [Bool.false_eq_true,if_false]
  rw [h3]
  rfl
 unfold a6b a2Q
 rw [h1,h4]
 rfl
theorem c1i (h:l.length < 4) (hd:∀i j,i < j→j < l.length→l.getD i default≠l.getD j default):a7b ⟨16,l,⟨a0e rs l q,[]⟩⟩=if l.length=0 then 16 else prI rs (l.getD (l.length - 1) default):=by
 grind [a7b,lvl,b8L,b2I]
theorem b8M (h:l.length < 4):a3z ⟨16,l,⟨a0e rs l q,[]⟩⟩=a7c rs (l++[q]):=by
 grind [a3z,a7c,a4p,tkS,tkI,b31,b2J,b8J]
theorem c5j (h:l.length<=4) (hr:∀j,j < l.length→(0<=l.getD j default/\l.getD j default<=7)/\0<=prI rs (l.getD j default)/\prI rs (l.getD j default)<=15) (hd:∀i j,i < j→j < l.length→l.getD i default≠l.getD j default):IfF (a7c rs l):=by
 have key:∀i,i < 4→((S6 rs l).getD i default).s≠0→i < l.length:=λi hi h0=>by
  rcases Nat.lt_or_ge i l.length with g | g
  ·exact g
  ·rw [a7d g hi] at h0;exact absurd Z h0
 refine ⟨⟨⟨a4q h,λi hi h0=>?_,λi hi h0=>?_,λi j hij hj h1 h2=>?_⟩,Nat.zero_le _,λw hw=>(by cases hw),List.Pairwise.nil⟩,h,λq hq=>?_⟩
 ·show (S6 rs l).getD i default=zSl
  have h0:((S6 rs l).getD i default).s=0:=h0
  rcases Nat.lt_or_ge i l.length with g | g
  ·rw [a3B g] at h0;exact absurd h0 (by show ¬ (2:Int)=0;decide)
  ·exact a7d g hi
 ·grind [a7c,a3B]
 ·have g1:=key i J h1
  have g2:=key j hj h2
  show ((S6 rs l).getD i default).q≠((S6 rs l).getD j default).q
  rw [a3B g1,a3B g2]
  exact hd i j hij g2
 ·obtain ⟨i,hi,rfl⟩:=j6.mp hq
  have hi:i < l.length:=hi
  refine ⟨⟨l.getD i default,prI rs (l.getD i default)⟩,C6.mpr ⟨⟨2,l.getD i default,prI rs (l.getD i default)⟩,j6.mpr ⟨i,by show i < (S6 rs l).length;rw [a4q h];omega,a3B hi⟩,Z,Z⟩,Z⟩
end
section
variable {rs:List Route} {po:List Bool} {k:Nat} {x:Ifc}
end
structure StkF (rs:List Route) (l:List Int):Prop where
 n:l.length<=4
 el:∀j,j < l.length→(0<=l.getD j default/\l.getD j default<=7)/\0<=prI rs (l.getD j default)/\prI rs (l.getD j default)<=15
 dn:∀j,0 < j→j < l.length→prI rs (l.getD j default) < prI rs (l.getD (j - 1) default)
theorem StkF.lt (h:StkF rs l) {i:Nat}:∀{j:Nat},i < j→j < l.length→prI rs (l.getD j default) < prI rs (l.getD i default)
 | j+1,hij,hj=>by
  have:=h.dn (j+1) J hj
  by_cases e:i=j
  ·subst e;exact this
  ·have:=StkF.lt h (show i < j by omega) J
   grind
theorem StkF.dif (h:StkF rs l) {i j:Nat} (hij:i < j) (hj:j < l.length):l.getD i default≠l.getD j default:=λe=>by
 have:=h.lt hij hj
 rw [e] at this
 omega
theorem StkF.take (h:StkF rs l) {n:Nat} (hn:n<=l.length):IfF (a7c rs (l.take n)):=by
 have hl:(l.take n).length=n:=by rw [List.length_take];omega
 have hg:∀j,j < n→(l.take n).getD j default=l.getD j default:=λj hj=>a8a hj
 refine c5j (by rw [hl];have:=h.n;omega) (λj hj=>?_) (λi j hij hj=>?_)
 ·rw [hg j J];exact h.el j J
 ·rw [hg i J,hg j J];exact h.dif hij J
theorem StkF.step (h:StkF rs l) {i:Nat} (hi:i < l.length) :
 IfF (a6b (a7c rs (l.take i)) (l.getD i default) (prI rs (l.getD i default)))/\(a6b (a7c rs (l.take i)) (l.getD i default) (prI rs (l.getD i default))).st.length < 4 /\
 a0d (a6b (a7c rs (l.take i)) (l.getD i default) (prI rs (l.getD i default))).qu.sl (min (a6b (a7c rs (l.take i)) (l.getD i default) (prI rs (l.getD i default))).ma (a7b (a6b (a7c rs (l.take i)) (l.getD i default) (prI rs (l.getD i default)))))=true /\
 a3z (a6b (a7c rs (l.take i)) (l.getD i default) (prI rs (l.getD i default)))=a7c rs (l.take (i+1)):=by
 have hn:=h.n
 have hl:(l.take i).length=i:=by rw [List.length_take];omega
 have hg:∀j,j < i→(l.take i).getD j default=l.getD j default:=λj hj=>a8a hj
 have hr:=b7k (rs:=rs) (l:=l.take i) (q:=l.getD i default) J (λj hj=>by rw [hg j J];exact h.dif J hi)
 refine ⟨b8G (h.take J) (h.el i hi).1 (h.el i hi).2,?_,?_,?_⟩
 ·grind
 ·rw [hr,c1i J (λa b hab hb=>by rw [hg a J,hg b J];exact h.dif hab J)]
  rw [L9]
  show 0<=bstS (a0e rs (l.take i) (l.getD i default)) true/\((a0e rs (l.take i) (l.getD i default)).getD (bstS (a0e rs (l.take i) (l.getD i default)) true).toNat default).p < min 16 _
  rw [b31 J,Int.toNat_natCast,b2J]
  have h15:=(h.el i hi).2.2
  refine ⟨by omega,?_⟩
  show prI rs (l.getD i default) < _
  rw [hl]
  split
  ·omega
  ·next h0 =>
   rw [hg (i - 1) J]
   have:=h.dn i J hi
   omega
 ·rw [hr,b8M J]
  simp_all
end Go.Rf
namespace Go.Rf
section
variable {q:Que} {irq p lim:Int} {x:Ifc}
theorem b5e (h:0<=p7 q.sl irq):a57 q irq p=⟨ptS q.sl irq,q.wa⟩:=by unfold a57;rw [if_pos h]
theorem b5f (h:p7 q.sl irq < 0) (h2:inW q.wa irq < 0):a57 q irq p=⟨q.sl,insW q.wa ⟨irq,p⟩⟩:=by unfold a57;rw [if_neg J,if_neg J]
theorem b5g (h:p7 q.sl irq < 0) (h2:0<=inW q.wa irq):a57 q irq p=q:=by unfold a57;rw [if_neg J,if_pos h2]
def b2K (q:Que) (lim:Int):Que×Int×Bool:=if a0d q.sl lim then (a4p q,tkI q.sl,true) else (⟨[],[]⟩,0,false)
theorem b5h (h:a0d q.sl lim=true):b2K q lim=(a4p q,tkI q.sl,true):=by unfold b2K;rw [h];rfl
theorem b8N (h:a0d q.sl lim=false):b2K q lim=(⟨[],[]⟩,0,false):=by unfold b2K;rw [h];rfl
theorem c2w {sl:List Slot}:(tkT sl lim).2.2=a0d sl lim:=by
 cases h:a0d sl lim
 ·rw [b8A h]
 ·rw [b5V h]
theorem b8O:(b2K q lim).2.2=a0d q.sl lim:=by
 cases h:a0d q.sl lim
 ·rw [b8N h]
 ·rw [b5h h]
def b7l (x:Ifc):Int:=min x.ma (a7b x)
def okT (x:Ifc):Bool:=a0d x.qu.sl (b7l x)
def noI:Ifc:=⟨0,[],⟨[],[]⟩⟩
def X7 (x:Ifc):Ifc×Int×Bool:=if okT x then (a3z x,tkI x.qu.sl,true) else (noI,0,false)
theorem b56 (h:okT x=true):X7 x=(a3z x,tkI x.qu.sl,true):=by unfold X7;rw [h];rfl
theorem b57 (h:okT x=false):X7 x=(noI,0,false):=by unfold X7;rw [h];rfl
theorem b5i {sl:List Slot} (h:SlF sl) (hb:0<=bstS sl true):0<=tkI sl/\tkI sl<=7:=by
 obtain ⟨k,e1,e2,e3⟩:=H2 hb
 unfold tkI
 rw [e1,Int.toNat_natCast]
 exact (h.ok k (by rw [← h.len];exact e2) J).2.1
theorem b58 {sl:List Slot} (h:(sl.getD (p7 sl irq).toNat default).s=2):ptS sl irq=sl.set (p7 sl irq).toNat ⟨3,(sl.getD (p7 sl irq).toNat default).q,(sl.getD (p7 sl irq).toNat default).p⟩:=by unfold ptS;rw [if_pos h]
theorem b32 {sl:List Slot} (h:¬ (sl.getD (p7 sl irq).toNat default).s=2):ptS sl irq=sl.set (p7 sl irq).toNat ⟨(sl.getD (p7 sl irq).toNat default).s,(sl.getD (p7 sl irq).toNat default).q,(sl.getD (p7 sl irq).toNat default).p⟩:=by unfold ptS;rw [if_neg h]
end
end Go.Rf
namespace Go.Rf
open Go
theorem b8P {α β:Type} {f:α→β} {k:Nat} {x:α} {y:β} (h:f x=y):(List.replicate k x).map f++[y]=(List.replicate (k+1) x).map f:=by
 subst h
 rw [List.replicate_succ',List.map_append]
 rfl
end Go.Rf
namespace Go.Rf
end Go.Rf
namespace Go.Rf
open Go
variable {l:List Wtr} {x:Wtr}
def srtW (l:List Wtr):List Wtr:=l.foldl insW []
def b33 (l:List Wtr):Prop:=l.Pairwise (λa b=>a.q≠b.q)
theorem b1H:srtW (l++[x])=insW (srtW l) x:=by simp [srtW,List.foldl_append]
theorem b1I:∀{l acc:List Wtr},x∈l.foldl insW acc↔x∈acc∨x∈l
 | [],acc=>by simp
 | y :: l,acc=>by
  rw [List.foldl_cons,b1I,a4n,List.mem_cons]
  grind
theorem b1J:∀{l acc:List Wtr},(l.foldl insW acc).length=acc.length+l.length
 | [],acc=>by simp
 | y :: l,acc=>by rw [List.foldl_cons,b1J,a66,List.length_cons];omega
theorem b34:∀{l acc:List Wtr},acc.Pairwise ltW→b33 l→(∀a∈acc,∀b∈l,a.q≠b.q)→(l.foldl insW acc).Pairwise ltW
 | [],acc,h,_,_=>h
 | y :: l,acc,h,hd,hx=>by
  obtain ⟨h1,h2⟩:=List.pairwise_cons.mp hd
  rw [List.foldl_cons]
  refine b34 (b2H h λa ha=>hx a ha y (by simp)) h2 λa ha b hb=>?_
  rcases a4n.mp ha with rfl | ha
  ·exact h1 b hb
  ·exact hx a ha b (by simp [hb])
theorem b35:(srtW l).length=l.length:=by unfold srtW;rw [b1J];simp
theorem b36:x∈srtW l↔x∈l:=by unfold srtW;rw [b1I];simp
theorem c1j (h:b33 l):(srtW l).Pairwise ltW:=b34 List.Pairwise.nil h (λa ha=>by cases ha)
theorem b8Q {acc:List Wtr} {w:Wtr} (h:∀a∈acc,lessW a w=true):insW acc w=acc++[w]:=by
 rw [a67 (i:=acc.length) (λj hj=>h _ (j6.mpr ⟨j,hj,Z⟩)) (Nat.le_refl _) (.inl Z)]
 simp
theorem a7e:∀{l acc:List Wtr},(acc++l).Pairwise ltW→l.foldl insW acc=acc++l
 | [],acc,_=>by simp
 | y :: l,acc,h=>by
  rw [List.foldl_cons,b8Q (λa ha=>((List.pairwise_append.mp h).2.2 a ha y (by simp)).1)]
  rw [a7e (by simpa using h)]
  simp
theorem b37 (h:l.Pairwise ltW):srtW l=l:=by unfold srtW;rw [a7e (by simpa using h)];rfl
def a3C (P:List Wtr) (x:Wtr) (R:List Wtr) (j:Nat):List Wtr:=P.take j++x :: (P.drop j++R)
section
variable {P R:List Wtr} {x:Wtr} {j:Nat}
theorem a4r (h:j<=P.length):(a3C P x R j).length=P.length+1+R.length:=by
 unfold a3C
 simp
 omega
theorem c1k (h:j<=P.length):(a3C P x R j).getD j default=x:=by
 grind [a3C]
theorem b8R {t:Nat} (h:t < j) (hj:j<=P.length):(a3C P x R j).getD t default=P.getD t default:=by
 unfold a3C
 grind
theorem b8S:a3C P x R P.length=P++x :: R:=by unfold a3C;simp
theorem b7m {β:Type} {f:Wtr→β} (h0:0 < j) (hj:j<=P.length):(((a3C P x R j).map f).set j (f (P.getD (j - 1) default))).set (j - 1) (f x)=(a3C P x R (j - 1)).map f:=by
 have hlt:j - 1 < P.length:=by omega
 have h1:P.take j=P.take (j - 1)++[P.getD (j - 1) default]:=by
  (simp_all;omega)
 have h2:P.drop (j - 1)=P.getD (j - 1) default :: P.drop j:=by
  rw [List.drop_eq_getElem_cons hlt,show j - 1+1=j by omega,List.getD_eq_getElem?_getD,List.getElem?_eq_getElem hlt]
  rfl
 rw [← List.map_set,← List.map_set]
 congr 1
 unfold a3C
 grind
theorem b38 (hj:j<=P.length) (hs:P.Pairwise ltW) (hd:∀p∈P,p.q≠x.q) (h1:∀t,j<=t→t < P.length→lessW x (P.getD t default)=true) (h2:j=0∨lessW x (P.getD (j - 1) default)=false):a3C P x R j=insW P x++R:=by
 have hp:=a5e.mp hs
 have hh:∀t,t < j→lessW (P.getD t default) x=true:=λt ht=>by
  have hl:lessW (P.getD (j - 1) default) x=true:=by
   grind [a1e]
  rcases Nat.lt_or_ge t (j - 1) with g | g
  ·exact P6 (hp t (j - 1) g J).1 hl
  grind
 have he:j=P.length∨(j < P.length/\lessW (P.getD j default) x=false):=by
  grind [b4Z]
 rw [a67 hh hj he]
 unfold a3C;simp
end
def a81 (d:List Wtr) (i:Nat):List Wtr:=srtW (d.take i)++d.drop i
section
variable {d:List Wtr} {i:Nat}
theorem c5k (h:0 < d.length):a81 d 1=d:=by
 match d,h with
 | x :: d,_=>simp [a81,srtW,insW,b46]
theorem c5l (h:d.length=0):a81 d 1=d:=by
 match d,h with
 | [],_=>rfl
theorem c5m:a81 d 1=d:=by
 grind [c5l,c5k]
theorem b8T (h:d.length<=i):a81 d i=srtW d:=by unfold a81;rw [List.take_of_length_le h,List.drop_of_length_le h,List.append_nil]
theorem b8U (h:i < d.length):a81 d i=a3C (srtW (d.take i)) (d.getD i default) (d.drop (i+1)) i:=by
 have hl:(srtW (d.take i)).length=i:=by rw [b35,List.length_take];omega
 conv=>rhs;rw [← hl]
 unfold a81
 rw [hl]
 have e:=@b8S (srtW (d.take i)) (d.drop (i+1)) (d.getD i default)
 simp_all
theorem b1K (h:i < d.length):a81 d (i+1)=insW (srtW (d.take i)) (d.getD i default)++d.drop (i+1):=by
 unfold a81
 rw [List.take_add_one,List.getElem?_eq_getElem h,List.getD_eq_getElem?_getD,List.getElem?_eq_getElem h]
 show srtW (d.take i++[d[i]])++_=_
 rw [b1H]
 rfl
structure MovF (d:List Wtr) (i:Nat):Prop where
 len:(srtW (d.take i)).length=i
 pw:(srtW (d.take i)).Pairwise ltW
 dif:∀p∈srtW (d.take i),p.q≠(d.getD i default).q
theorem c9z (hd:b33 d) (h:i < d.length):MovF d i:=by
 refine ⟨by rw [b35,List.length_take];omega,c1j (List.Pairwise.sublist (List.take_sublist _ _) hd),λp hp=>?_⟩
 obtain ⟨t,ht,rfl⟩:=j6.mp (b36.mp hp)
 rw [List.length_take] at ht
 rw [a8a J]
 exact (a5e.mp hd) t i J h
end
def pnP (x:Slot):Bool:=decide (x.s=1) || decide (x.s=3)
theorem J7 {x:Slot}:pnP x=true↔x.s=1∨x.s=3:=by simp [pnP]
def pnL (q:Que):Nat→List Wtr
 | 0=>q.wa
 | i+1=>if pnP (q.sl.getD i default) then pnL q i++[wOf (q.sl.getD i default)] else pnL q i
def pnS (q:Que):Nat→List Wtr
 | 0=>q.wa
 | i+1=>if pnP (q.sl.getD i default) then insW (pnS q i) (wOf (q.sl.getD i default)) else pnS q i
section
variable {q:Que} {i:Nat}
theorem b8V (h:(q.sl.getD i default).s=1∨(q.sl.getD i default).s=3):pnL q (i+1)=pnL q i++[wOf (q.sl.getD i default)]:=by
 show (if pnP _ then _ else _)=_
 rw [if_pos (J7.mpr h)]
theorem c7D (h:¬ ((q.sl.getD i default).s=1∨(q.sl.getD i default).s=3)):pnL q (i+1)=pnL q i:=by
 show (if pnP _ then _ else _)=_
 rw [if_neg (λg=>h (J7.mp g))]
theorem b1L (h:(q.sl.getD i default).s=1∨(q.sl.getD i default).s=3):pnS q (i+1)=insW (pnS q i) (wOf (q.sl.getD i default)):=by
 show (if pnP _ then _ else _)=_
 rw [if_pos (J7.mpr h)]
theorem c2x (h:¬ ((q.sl.getD i default).s=1∨(q.sl.getD i default).s=3)):pnS q (i+1)=pnS q i:=by
 show (if pnP _ then _ else _)=_
 rw [if_neg (λg=>h (J7.mp g))]
theorem b5j (h:QF q):∀i,srtW (pnL q i)=pnS q i
 | 0=>b37 h.pw
 | i+1=>by
  have ih:=b5j h i
  show srtW (if pnP _ then _ else _)=(if pnP _ then _ else _)
  split
  ·rw [b1H,ih]
  ·exact ih
theorem b2L:∀i,(pnL q i).length<=q.wa.length+i
 | 0=>Nat.le_refl _
 | i+1=>by
  have ih:=@b2L i
  show (if pnP _ then _ else _:List Wtr).length<=_
  split
  ·rw [List.length_append,List.length_cons,List.length_nil];omega
  ·omega
theorem a7f:∀i,(pnS q i).length<=q.wa.length+i
 | 0=>Nat.le_refl _
 | i+1=>by
  have ih:=@a7f i
  show (if pnP _ then _ else _:List Wtr).length<=_
  split
  ·rw [a66];omega
  ·omega
theorem a9D:∀i,x∈pnL q i→x∈q.wa∨∃j,j < i/\(q.sl.getD j default).s≠0/\x=wOf (q.sl.getD j default)
 | 0,h=>.inl h
 | i+1,h=>by
  change x∈(if pnP _ then _ else _:List Wtr) at h
  split at h
  ·next hp =>
   rcases List.mem_append.mp h with h | h
   ·rcases a9D i h with g | ⟨j,g1,g2,g3⟩
    ·exact .inl g
    ·exact .inr ⟨j,by omega,g2,g3⟩
   ·refine .inr ⟨i,by omega,?_,List.mem_singleton.mp h⟩
    rcases J7.mp hp with g | g<;>omega
  ·rcases a9D i h with g | ⟨j,g1,g2,g3⟩
   ·exact .inl g
   ·exact .inr ⟨j,by omega,g2,g3⟩
theorem b59 (h:QF q):∀i,i<=4→b33 (pnL q i)
 | 0,_=>h.pw.imp λh=>h.2
 | i+1,hi=>by
  have ih:=b59 h i J
  show b33 (if pnP _ then _ else _)
  split
  ·next hp =>
   have h0:(q.sl.getD i default).s≠0:=by rcases J7.mp hp with g | g<;>omega
   refine List.pairwise_append.mpr ⟨ih,List.pairwise_singleton _ _,λa ha b hb=>?_⟩
   rw [List.mem_singleton.mp hb]
   show a.q≠(q.sl.getD i default).q
   rcases a9D i ha with g | ⟨j,g1,g2,rfl⟩
   ·exact λe=>(h.wa a g).2.2 _ (j6.mpr ⟨i,by rw [h.sl.len];omega,Z⟩) h0 e.symm
   ·exact h.sl.dif j i g1 J g2 h0
  ·exact ih
theorem b2M (h:QF q) {x:Wtr}:x∈pnS q i↔x∈pnL q i:=by rw [← b5j h,b36]
theorem c7E (h:QF q) {x:Wtr} (hi:i<=4) (hx:x∈pnL q i):0<=x.q/\x.q<=7:=by
 rcases a9D i hx with g | ⟨j,g1,g2,rfl⟩
 ·exact (h.wa x g).1
 ·exact (h.sl.ok j J g2).2.1
end
def C7 (q:Que):List Int:=(pnS q 4).map (·.q)
theorem a9E {q:Que} (h:QF q) {i:Nat} (hi:i < (C7 q).length):0<=(C7 q).getD i default/\(C7 q).getD i default<=7:=by
 unfold C7 at hi ⊢
 rw [List.length_map] at hi
 rw [a0f hi]
 exact c7E h (Nat.le_refl _) ((b2M h).mp (j6.mpr ⟨i,hi,Z⟩))
theorem a2S {q:Que} (h:QF q):(C7 q).length<=12:=by
 unfold C7
 rw [List.length_map]
 have:=@a7f q 4
 have:=h.wn8
 omega
end Go.Rf
namespace Go.Rf
section
variable {P R:List Wtr} {x:Wtr} {j:Nat} {β:Type} {f:Wtr→β} {c:β}
theorem c1l {α:Type} [Inhabited α] {g:α→β} {l:List α} {i:Nat} (h:i < l.length):(l.map g)[i]?=some (g (l.getD i default)):=by
 grind
theorem a0y (h:j<=P.length):((a3C P x R j).map f)[((j:Int)).toNat]?=some (f x):=by
 grind [a4r,c1k]
theorem a05 (h0:0 < j) (h:j<=P.length):((a3C P x R j).map f)[((j:Int) - 1).toNat]?=some (f (P.getD (j - 1) default)):=by
 rw [show ((j:Int) - 1).toNat=j - 1 by omega]
 rw [c1l (by rw [a4r h];omega),b8R J h]
theorem a1P (h0:0 < j) (h:j<=P.length):(((a3C P x R j).map f).set ((j:Int)).toNat c)[((j:Int) - 1).toNat]?=some (f (P.getD (j - 1) default)):=by
 rw [← a05 (f:=f) (x:=x) (R:=R) h0 h]
 show (((a3C P x R j).map f).set j c)[((j:Int) - 1).toNat]?=_
 rw [List.getElem?_set_ne J]
end
variable {i:Nat}
theorem b1M {α β:Type} [Inhabited α] {f:α→β} {l:List α} {i:Nat} {y:β} (h:i < l.length) (hy:y=f (l.getD i default)):(l.take i).map f++[y]=(l.take (i+1)).map f:=by
 subst hy
 rw [List.take_add_one,List.getElem?_eq_getElem h,List.map_append,List.getD_eq_getElem?_getD,List.getElem?_eq_getElem h]
 rfl
theorem c5n {q:Que} (h:i < (pnS q 4).length):(C7 q).getD i default=((pnS q 4).getD i default).q:=by unfold C7;rw [a0f h]
theorem b6a {q:Que}:(C7 q).length=(pnS q 4).length:=by unfold C7;rw [List.length_map]
theorem b8W {q:Que} (h:i < (pnS q 4).length):((C7 q).take i).map r7++[[Value.int .i64 ((pnS q 4).getD i default).q]]=((C7 q).take (i+1)).map r7:=b1M (by rw [b6a];exact h) (by rw [c5n h];rfl)
theorem b6b {q:Que} (h:(pnS q 4).length<=i):(C7 q).take i=C7 q:=List.take_of_length_le (by rw [b6a];exact h)
end Go.Rf
namespace Go.Rf
open Go
variable {l:List Int} {n x:Int} {w:Wtr}
theorem a1Q {a b:List Int}:srtI a=srtI b↔a.Perm b:=by
 constructor
 ·intro h
  exact (a48 a).symm.trans (h▸a48 b)
 ·intro h
  have hp:∀l:List Int,(srtI l).Pairwise (λx y=>decide (x<=y)=true):=λl=>List.pairwise_mergeSort (λa b c h1 h2=>by simp at *;omega) (λa b=>by simp;omega) l
  exact List.Perm.eq_of_pairwise (λx y _ _ h1 h2=>by simp at *;omega) (hp a) (hp b) ((a48 a).trans (h.trans (a48 b).symm))
theorem b2N {α:Type} [BEq α] [LawfulBEq α]:∀{a b:List α},a.Nodup→(∀x∈a,x∈b)→b.length<=a.length→a.Perm b
 | [],b,_,_,hl=>by
  have:b=[]:=List.eq_nil_of_length_eq_zero (by simpa using hl)
  rw [this]
 | x :: a,b,hn,hs,hl=>by
  obtain ⟨h1,h2⟩:=List.nodup_cons.mp hn
  have hx:x∈b:=hs x (by simp)
  refine List.Perm.trans ?_ (List.perm_cons_erase hx).symm
  refine List.Perm.cons x (b2N h2 (λy hy=>?_) ?_)
  ·have hne:y≠x:=λe=>h1 (e▸hy)
   exact (List.mem_erase_of_ne hne).mpr (hs y (by simp [hy]))
  ·rw [List.length_erase_of_mem hx]
   simp only [List.length_cons] at hl
   omega
def actN (sl:List Slot):Nat→List Int
 | 0=>[]
 | i+1=>if R7 (sl.getD i default) then actN sl i++[(sl.getD i default).q] else actN sl i
def b2O (l:List Int) (n:Int):List Int:=l.takeWhile (λx=>decide (x < n))++[n]++l.dropWhile (λx=>decide (x < n))
def a8c (sl:List Slot):Nat→List Int
 | 0=>[]
 | i+1=>if R7 (sl.getD i default) then b2O (a8c sl i) (sl.getD i default).q else a8c sl i
section
variable {sl:List Slot} {i:Nat}
theorem b8X (h:R7 (sl.getD i default)=true):actN sl (i+1)=actN sl i++[(sl.getD i default).q]:=by show (if _ then _ else _)=_;rw [if_pos h]
theorem c5o (h:R7 (sl.getD i default)=false):actN sl (i+1)=actN sl i:=by show (if _ then _ else _)=_;rw [if_neg (by rw [h];decide)]
theorem b8Y (h:(sl.getD i default).s=2∨(sl.getD i default).s=3):a8c sl (i+1)=b2O (a8c sl i) (sl.getD i default).q:=by show (if _ then _ else _)=_;rw [if_pos (u3.mpr h)]
theorem b8Z (h:¬ ((sl.getD i default).s=2∨(sl.getD i default).s=3)):a8c sl (i+1)=a8c sl i:=by show (if _ then _ else _)=_;rw [if_neg (λg=>h (u3.mp g))]
theorem a0z:∀i,(actN sl i).length<=i
 | 0=>Nat.le_refl _
 | i+1=>by
  have ih:=@a0z i
  show (if _ then _ else _:List Int).length<=_
  split
  ·rw [List.length_append,List.length_cons,List.length_nil];omega
  ·omega
theorem b80:x∈b2O l n↔x=n∨x∈l:=by
 have h:=List.takeWhile_append_dropWhile (p:=λx=>decide (x < n)) (l:=l)
 have:x∈l↔x∈l.takeWhile (λx=>decide (x < n))∨x∈l.dropWhile (λx=>decide (x < n)):=by
  grind
 unfold b2O
 grind
theorem b81:(b2O l n).length=l.length+1:=by
 have h:=congrArg List.length (List.takeWhile_append_dropWhile (p:=λx=>decide (x < n)) (l:=l))
 unfold b2O
 grind
theorem c1m {k:Nat} (h:∀j,j < k→l.getD j default < n) (hk:k<=l.length) (he:k=l.length∨(k < l.length/\¬ l.getD k default < n)):b2O l n=l.take k++[n]++l.drop k:=by
 have key:l.takeWhile (λx=>decide (x < n))=l.take k/\l.dropWhile (λx=>decide (x < n))=l.drop k:=by
  induction l generalizing k with
  | nil=>simp at hk;subst hk;exact ⟨Z,Z⟩
  | cons x l ih =>
   cases k with
   | zero =>
    rcases he with he | ⟨_,he⟩
    ·simp at he
    ·have he:¬ x < n:=he
     simp [he]
   | succ k =>
    have h0:x < n:=h 0 J
    obtain ⟨e1,e2⟩:=ih (k:=k) (λj hj=>by simpa using h (j+1) J) (by simpa using hk) (by
     rcases he with he | ⟨g1,g2⟩
     ·left;simpa using he
     ·right;exact ⟨by simpa using g1,by simpa using g2⟩)
    simp [h0,e1,e2]
 unfold b2O
 rw [key.1,key.2]
theorem a7g {x:Int}:∀i,x∈a8c sl i↔x∈actN sl i
 | 0=>Iff.rfl
 | i+1=>by
  have ih:=@a7g x i
  show x∈(if _ then _ else _:List Int)↔x∈(if _ then _ else _:List Int)
  split
  ·rw [b80,List.mem_append,List.mem_singleton,ih];exact Or.comm
  ·exact ih
theorem a7h:∀i,(a8c sl i).length=(actN sl i).length
 | 0=>rfl
 | i+1=>by
  have ih:=@a7h i
  show (if _ then _ else _:List Int).length=(if _ then _ else _:List Int).length
  split
  ·rw [b81,List.length_append,ih];rfl
  ·exact ih
theorem M7 {x:Int}:∀i,x∈actN sl i↔∃j,j < i/\R7 (sl.getD j default)=true/\(sl.getD j default).q=x
 | 0=>by simp [actN]
 | i+1=>by
  have ih:=@M7 x i
  show x∈(if _ then _ else _:List Int)↔_
  split
  ·next h =>
   rw [List.mem_append,List.mem_singleton,ih]
   constructor
   ·rintro (⟨j,h1,h2⟩ | rfl)
    ·exact ⟨j,by omega,h2⟩
    ·exact ⟨i,by omega,h,Z⟩
   ·rintro ⟨j,h1,h2,h3⟩
    by_cases e:j=i
    ·subst e;exact .inr h3.symm
    ·exact .inl ⟨j,by omega,h2,h3⟩
  ·next h =>
   rw [ih]
   constructor
   ·rintro ⟨j,h1,h2⟩;exact ⟨j,by omega,h2⟩
   ·rintro ⟨j,h1,h2,h3⟩
    by_cases e:j=i
    ·subst e;exact absurd h2 h
    ·exact ⟨j,by omega,h2,h3⟩
theorem a5g (h:SlF sl):∀i,i<=4→(actN sl i).Nodup
 | 0,_=>List.nodup_nil
 | i+1,hi=>by
  have ih:=a5g h i J
  show (if _ then _ else _:List Int).Nodup
  split
  ·next ha =>
   refine List.nodup_append.mpr ⟨ih,List.nodup_cons.mpr ⟨by simp,List.nodup_nil⟩,λx hx y hy e=>?_⟩
   rw [List.mem_singleton.mp hy] at e
   obtain ⟨j,h1,h2,h3⟩:=(M7 i).mp hx
   refine h.dif j i h1 J ?_ ?_ (h3.trans e)
   ·rcases u3.mp h2 with g | g<;>omega
   ·rcases u3.mp ha with g | g<;>omega
  ·exact ih
theorem c1n (h:SlF sl) (hi:i < 4) (ha:R7 (sl.getD i default)=true) {x:Int} (hx:x∈a8c sl i):x≠(sl.getD i default).q:=λe=>by
 obtain ⟨j,h1,h2,h3⟩:=(M7 i).mp ((a7g i).mp hx)
 refine h.dif j i h1 hi ?_ ?_ (h3.trans e)
 ·rcases u3.mp h2 with g | g<;>omega
 ·rcases u3.mp ha with g | g<;>omega
end
def lvD (sl:List Slot) (st:List Int) (i:Nat):Bool:=decide (i=0) || decide (lvl sl (st.getD i default) < lvl sl (st.getD (i - 1) default))
def a5o (sl:List Slot) (st:List Int):Bool:=decide (srtI st=srtI (actN sl 4)) && a18 st.length (lvD sl st)
def a2d (x:Ifc):Bool:=n7 x.ma 0 16 && (b0Y x.qu && a5o x.qu.sl x.st)
section
variable {sl:List Slot} {st:List Int} {i:Nat}
theorem b2P (h:¬ srtI st=srtI (actN sl 4)):a5o sl st=false:=by unfold a5o;rw [decide_eq_false h,Bool.false_and]
theorem b82 (h:lvD sl st i=false) (hi:i < st.length):a5o sl st=false:=by unfold a5o;rw [a1i h hi,Bool.and_false]
theorem b83 (h:srtI st=srtI (actN sl 4)) (h2:∀j,j < i→lvD sl st j=true) (hi:st.length<=i):a5o sl st=true:=by unfold a5o;rw [decide_eq_true h,a3i h2 hi];rfl
theorem b84:lvD sl st 0=true:=rfl
theorem b85 (h:lvl sl (st.getD i default) < lvl sl (st.getD (i - 1) default)):lvD sl st i=true:=by unfold lvD;rw [decide_eq_true h,Bool.or_true]
theorem c2y (h0:i≠0) (h:¬ lvl sl (st.getD i default) < lvl sl (st.getD (i - 1) default)):lvD sl st i=false:=by unfold lvD;rw [decide_eq_false h,decide_eq_false h0];rfl
theorem b5k (h:x∈actN sl 4) (hl:sl.length=4):0<=p7 sl x:=by
 obtain ⟨j,h1,h2,h3⟩:=(M7 4).mp h
 refine a3A ⟨wOf (sl.getD j default),C6.mpr ⟨sl.getD j default,j6.mpr ⟨j,by omega,Z⟩,h2,Z⟩,h3⟩
theorem b5l (h:srtI st=srtI (actN sl 4)) {x:Int} (hx:x∈st):x∈actN sl 4:=(a1Q.mp h).mem_iff.mp hx
structure StP (sl:List Slot) (st:List Int) (i:Nat):Prop where
 inn:∀j,j < i→st.getD j default∈actN sl 4
 dif:∀k j,k < j→j < i→st.getD k default≠st.getD j default
 lev:∀j,j < i→lvD sl st j=true
theorem c7F:StP sl st 0:=⟨λj h=>by omega,λk j _ h=>by omega,λj h=>by omega⟩
theorem StP.succ (h:StP sl st i) (h1:st.getD i default∈actN sl 4) (h2:∀k,k < i→st.getD k default≠st.getD i default) (h3:lvD sl st i=true):StP sl st (i+1):=by
 refine ⟨λj hj=>?_,λk j hk hj=>?_,λj hj=>?_⟩
 ·by_cases e:j=i
  ·subst e;exact h1
  ·exact h.inn j J
 ·by_cases e:j=i
  ·subst e;exact h2 k hk
  ·exact h.dif k j hk J
 ·by_cases e:j=i
  ·subst e;exact h3
  ·exact h.lev j J
theorem b2Q:l.Nodup↔∀k j,k < j→j < l.length→l.getD k default≠l.getD j default:=a5e
theorem StP.fin (hF:SlF sl) (h:StP sl st st.length):a5o sl st=decide (st.length=(actN sl 4).length):=by
 by_cases hl:st.length=(actN sl 4).length
 ·rw [decide_eq_true hl]
  have hn:st.Nodup:=b2Q.mpr h.dif
  have hp:=b2N hn (λx hx=>by obtain ⟨j,hj,rfl⟩:=j6.mp hx;exact h.inn j hj) J
  exact b83 (a1Q.mpr hp) h.lev (Nat.le_refl _)
 ·rw [decide_eq_false hl]
  exact b2P λe=>hl (a1Q.mp e).length_eq
theorem c1o (hi:i < st.length) (h:¬ st.getD i default∈actN sl 4):a5o sl st=false:=b2P λe=>h (b5l e (j6.mpr ⟨i,hi,Z⟩))
theorem b86 (hF:SlF sl) {k:Nat} (hk:k < i) (hi:i < st.length) (h:st.getD k default=st.getD i default):a5o sl st=false:=b2P λe=>by
 have hn:st.Nodup:=(a1Q.mp e).nodup_iff.mpr (a5g hF 4 (Nat.le_refl _))
 exact b2Q.mp hn k i hk hi h
end
theorem b2R {x:Ifc} (h:a2d x=true):IfF x/\setd x.qu=true/\(0<=x.ma/\x.ma<=16)/\srtI x.st=srtI (actN x.qu.sl 4):=by
 simp only [a2d,a5o,Bool.and_eq_true,decide_eq_true_eq] at h
 obtain ⟨h1,h2,h3,h4⟩:=h
 obtain ⟨g1,g2⟩:=a69.mp h2
 refine ⟨⟨g1,?_,λq hq=>?_⟩,g2,v8.mp h1,h3⟩
 ·rw [(a1Q.mp h3).length_eq];exact a0z 4
 ·obtain ⟨j,h1,h2,h3⟩:=(M7 4).mp (b5l h3 hq)
  exact ⟨wOf (x.qu.sl.getD j default),C6.mpr ⟨_,j6.mpr ⟨j,by rw [g1.sl.len];exact h1,Z⟩,h2,Z⟩,h3⟩
def rtW (rs:List Route) (k:Nat) (w:Wtr):Bool:=decide (tgI rs w.q=k) && decide (prI rs w.q=w.p)
def rtS (rs:List Route) (k:Nat) (x:Slot):Bool:=!decide (x.s=3) && (decide (x.s=0) || rtW rs k (wOf x))
def okRq (rs:List Route) (q:Que) (k:Nat):Bool:=a18 4 (λi=>rtS rs k (q.sl.getD i default)) && a18 q.wa.length (λi=>rtW rs k (q.wa.getD i default))
def a7i (m:Mach) (k:Nat):Bool:=a2d (m.cp.getD k default) && okRq m.rs (m.cp.getD k default).qu k
def a0A (m:Mach):Bool:=okRts m.rs m.cp.length && (decide (m.en.length=8) && (decide (m.ra.length=8) && a18 m.cp.length (a7i m)))
section
variable {rs:List Route} {q:Que} {k i:Nat} {m:Mach}
theorem a1R:rtW rs k w=true↔tgI rs w.q=k/\prI rs w.q=w.p:=by simp [rtW]
theorem c5p:rtW rs k w=false↔¬ (tgI rs w.q=k/\prI rs w.q=w.p):=by rw [← Bool.not_eq_true,a1R]
theorem a5h {x:Slot}:rtS rs k x=true↔x.s≠3/\(x.s=0∨(tgI rs x.q=k/\prI rs x.q=x.p)):=by
 grind [rtS,a1R,wOf]
theorem b87 {x:Slot}:rtS rs k x=false↔¬ (x.s≠3/\(x.s=0∨(tgI rs x.q=k/\prI rs x.q=x.p))):=by rw [← Bool.not_eq_true,a5h]
theorem b88 (h:rtS rs k (q.sl.getD i default)=false) (hi:i < 4):okRq rs q k=false:=by unfold okRq;rw [a1i h hi,Bool.false_and]
theorem c5q (h:rtW rs k (q.wa.getD i default)=false) (hi:i < q.wa.length):okRq rs q k=false:=by unfold okRq;rw [a1i h hi,Bool.and_false]
theorem b89 {j:Nat} (h:∀t,t < i→rtS rs k (q.sl.getD t default)=true) (hi:4<=i) (h2:∀t,t < j→rtW rs k (q.wa.getD t default)=true) (hj:q.wa.length<=j):okRq rs q k=true:=by unfold okRq;rw [a3i h hi,a3i h2 hj];rfl
theorem c5r (h:okRts m.rs m.cp.length=false):a0A m=false:=by unfold a0A;rw [h,Bool.false_and]
theorem c5s (h:¬ (m.en.length=8/\m.ra.length=8)):a0A m=false:=by
 grind [a0A]
theorem b9a (h:a7i m k=false) (hk:k < m.cp.length):a0A m=false:=by unfold a0A;rw [a1i h hk];simp
theorem c5t (h1:okRts m.rs m.cp.length=true) (h2:m.en.length=8) (h3:m.ra.length=8) (h4:∀j,j < k→a7i m j=true) (hk:m.cp.length<=k):a0A m=true:=by unfold a0A;rw [h1,decide_eq_true h2,decide_eq_true h3,a3i h4 hk];rfl
theorem c5u (h:a2d (m.cp.getD k default)=false):a7i m k=false:=by unfold a7i;rw [h,Bool.false_and]
theorem c5v (h:okRq m.rs (m.cp.getD k default).qu k=false):a7i m k=false:=by unfold a7i;rw [h,Bool.and_false]
theorem c5w (h1:a2d (m.cp.getD k default)=true) (h2:okRq m.rs (m.cp.getD k default).qu k=true):a7i m k=true:=by unfold a7i;rw [h1,h2];rfl
end
def ftL (q:Que):Nat→List Wtr
 | 0=>q.wa
 | i+1=>if (q.sl.getD i default).s=0 then ftL q i else ftL q i++[wOf (q.sl.getD i default)]
section
variable {rs:List Route} {q:Que} {k i:Nat}
theorem c7G (h:(q.sl.getD i default).s=0):ftL q (i+1)=ftL q i:=by show (if _ then _ else _)=_;rw [if_pos h]
theorem c7H (h:¬ (q.sl.getD i default).s=0):ftL q (i+1)=ftL q i++[wOf (q.sl.getD i default)]:=by show (if _ then _ else _)=_;rw [if_neg h]
theorem b2S:∀i,(ftL q i).length<=q.wa.length+i
 | 0=>Nat.le_refl _
 | i+1=>by
  have ih:=@b2S i
  show (if _ then _ else _:List Wtr).length<=_
  split
  ·omega
  ·rw [List.length_append,List.length_cons,List.length_nil];omega
theorem a7j {x:Wtr}:∀i,x∈ftL q i↔x∈q.wa∨∃j,j < i/\(q.sl.getD j default).s≠0/\x=wOf (q.sl.getD j default)
 | 0=>by simp [ftL]
 | i+1=>by
  have ih:=@a7j x i
  show x∈(if _ then _ else _:List Wtr)↔_
  split
  ·next h =>
   rw [ih]
   constructor
   ·rintro (h1 | ⟨j,h1,h2⟩)
    ·exact .inl h1
    ·exact .inr ⟨j,by omega,h2⟩
   ·rintro (h1 | ⟨j,h1,h2,h3⟩)
    ·exact .inl h1
    ·by_cases e:j=i
     ·subst e;exact absurd h h2
     ·exact .inr ⟨j,by omega,h2,h3⟩
  ·next h =>
   rw [List.mem_append,List.mem_singleton,ih]
   constructor
   ·rintro ((h1 | ⟨j,h1,h2⟩) | rfl)
    ·exact .inl h1
    ·exact .inr ⟨j,by omega,h2⟩
    ·exact .inr ⟨i,by omega,h,Z⟩
   ·rintro (h1 | ⟨j,h1,h2,h3⟩)
    ·exact .inl (.inl h1)
    ·by_cases e:j=i
     ·subst e;exact .inr h3
     ·exact .inl (.inr ⟨j,by omega,h2,h3⟩)
theorem c5x (h:QF q) {x:Wtr} (hi:i<=4) (hx:x∈ftL q i):0<=x.q/\x.q<=7:=by
 rcases (a7j i).mp hx with g | ⟨j,g1,g2,rfl⟩
 ·exact (h.wa x g).1
 ·exact (h.sl.ok j J g2).2.1
theorem c7I (h3:∀j,j < 4→(q.sl.getD j default).s≠3):(!(a0t (ftL q 4).length (λi=>!rtW rs k ((ftL q 4).getD i default))))=okRq rs q k:=by
 rw [Bool.eq_iff_iff,Bool.not_eq_true',a1O]
 constructor
 ·intro h
  have hm:∀x∈ftL q 4,rtW rs k x=true:=λx hx=>by
   obtain ⟨i,hi,rfl⟩:=j6.mp hx
   simpa using h i hi
  refine b89 (i:=4) (j:=q.wa.length) (λt ht=>a5h.mpr ⟨h3 t ht,?_⟩) (Nat.le_refl _) (λt ht=>hm _ ((a7j 4).mpr (.inl (j6.mpr ⟨t,ht,Z⟩)))) (Nat.le_refl _)
  by_cases h0:(q.sl.getD t default).s=0
  ·exact .inl h0
  ·exact .inr (a1R.mp (hm _ ((a7j 4).mpr (.inr ⟨t,ht,h0,Z⟩))))
 ·intro h i hi
  have hx:(ftL q 4).getD i default∈ftL q 4:=j6.mpr ⟨i,hi,Z⟩
  simp only [okRq,Bool.and_eq_true,F6] at h
  rw [Bool.not_eq_false']
  rcases (a7j 4).mp hx with g | ⟨j,g1,g2,g3⟩
  ·obtain ⟨t,ht,e⟩:=j6.mp g
   rw [← e];exact h.2 t ht
  ·rw [g3]
   rcases (a5h.mp (h.1 j g1)).2 with e | e
   ·exact absurd e g2
   ·exact a1R.mpr e
end
end Go.Rf
namespace Go.Rf
section
variable {x:Ifc}
theorem b9b (h:n7 x.ma 0 16=false):a2d x=false:=by unfold a2d;rw [h,Bool.false_and]
theorem b9c (h:b0Y x.qu=false):a2d x=false:=by unfold a2d;rw [h,Bool.false_and,Bool.and_false]
theorem b0o (h:a5o x.qu.sl x.st=false):a2d x=false:=by unfold a2d;rw [h,Bool.and_false,Bool.and_false]
theorem c5y (h1:n7 x.ma 0 16=true) (h2:b0Y x.qu=true) (h3:a5o x.qu.sl x.st=true):a2d x=true:=by unfold a2d;rw [h1,h2,h3];rfl
theorem c5z (h1:n7 x.ma 0 16=true) (h2:b0Y x.qu=true):a2d x=a5o x.qu.sl x.st:=by unfold a2d;rw [h1,h2];rfl
end
end Go.Rf
namespace Go.Rf
open Go
variable {i k:Nat} {l:List Int} {m:Mach} {v:Int}
theorem b0p:b0g l v=true↔v∈l:=by
 grind [b0g,b0j,j6]
theorem b6c:b0g l v=false↔v∉l:=by rw [← Bool.not_eq_true,b0p]
theorem b0q (hi:i<=l.length) {v:Int}:v∈l.take i↔∃k,k < i/\l.getD k default=v:=by
 grind [j6]
theorem c9A {a b:Nat}:((a:Int)==(b:Int))=decide (a=b):=by
 grind
def b2T (po:List Bool) (l:List Int):Nat→List Bool
 | 0=>po
 | i+1=>(b2T po l i).set (l.getD i default).toNat true
theorem a0g {po:List Bool}:b2T po l (i+1)=(b2T po l i).set (l.getD i default).toNat true:=rfl
theorem I8 {po:List Bool} {l:List Int}:∀i,(b2T po l i).length=po.length
 | 0=>rfl
 | i+1=>by rw [a0g,List.length_set,I8 i]
def poN (m:Mach):Nat→List Bool
 | 0=>List.replicate 8 false
 | k+1=>b2T (poN m k) (C7 (m.cp.getD k default).qu) (C7 (m.cp.getD k default).qu).length
theorem b39:poN m (k+1)=b2T (poN m k) (C7 (m.cp.getD k default).qu) (C7 (m.cp.getD k default).qu).length:=rfl
theorem J8 {m:Mach}:∀k,(poN m k).length=8
 | 0=>rfl
 | k+1=>by rw [b39,I8,J8 k]
def R8 (m:Mach):Abs:=⟨m.en,m.ra,poN m m.cp.length,m.cp.map (·.ma),m.cp.map (·.st)⟩
structure MaF (m:Mach):Prop where
 rt:okRts m.rs m.cp.length=true
 n:1<=m.cp.length/\m.cp.length<=2
 rn:m.rs.length=8
 en:m.en.length=8
 ra:m.ra.length=8
 ok:∀k,k < m.cp.length→IfF (m.cp.getD k default)/\setd (m.cp.getD k default).qu=true/\(0<=(m.cp.getD k default).ma/\(m.cp.getD k default).ma<=16)/\srtI (m.cp.getD k default).st=srtI (actN (m.cp.getD k default).qu.sl 4)
 rq:∀k,k < m.cp.length→okRq m.rs (m.cp.getD k default).qu k=true
theorem maF (h:a0A m=true):MaF m:=by
 simp only [a0A,a7i,Bool.and_eq_true,decide_eq_true_eq,F6] at h
 obtain ⟨h1,h2,h3,h4⟩:=h
 have hr:=H1.mp h1
 exact ⟨h1,by omega,hr.2.1,h2,h3,λk hk=>b2R (h4 k hk).1,λk hk=>(h4 k hk).2⟩
theorem a1S (h:k < m.cp.length):((m.cp.map (·.ma)).take k).map r7++[[Value.int .i64 (m.cp.getD k default).ma]]=((m.cp.map (·.ma)).take (k+1)).map r7:=b1M (by rw [List.length_map];exact h) (by rw [a0f h];rfl)
theorem a1T (h:k < m.cp.length) {y:List CI} (hy:y=a65 (m.cp.getD k default).st):((m.cp.map (·.st)).take k).map a65++[y]=((m.cp.map (·.st)).take (k+1)).map a65:=b1M (by rw [List.length_map];exact h) (by rw [a0f h];exact hy)
theorem b4a {α β:Type} {l:List α} {f:α→β} (h:l.length<=k):(l.map f).take k=l.map f:=List.take_of_length_le (by rw [List.length_map];exact h)
end Go.Rf
namespace Go.Rf
end Go.Rf
namespace Go.Rf
open Go Go.RowKit
variable {i:Nat} {l:List Int} {r:Rec} {sl:List Slot} {ws:List ByteArray} {x:Lg}
def spB:ByteArray:=⟨#[32]⟩
def jnS (ws:List ByteArray):Nat→ByteArray
 | 0=>⟨#[]⟩
 | n+1=>(if n=0 then ⟨#[]⟩ else jnS ws n++spB)++ws.getD n ⟨#[]⟩
theorem b6d:jnS ws 1=ws.getD 0 ⟨#[]⟩:=by
 rfl
theorem a7k {n:Nat} (h:0 < n):jnS ws (n+1)=jnS ws n++spB++ws.getD n ⟨#[]⟩:=by
 show (if n=0 then _ else _)++_=_
 rw [if_neg J]
theorem b0r {ws:List ByteArray} {b:Nat} (h:∀i,i < ws.length→(ws.getD i ⟨#[]⟩).size<=b):∀n,n<=ws.length→(jnS ws n).size<=n * (b+1)
 | 0,_=>Nat.zero_le _
 | n+1,hn=>by
  have ih:=b0r h n J
  have hb:=h n J
  have e:(n+1) * (b+1)=n * (b+1)+(b+1):=Nat.succ_mul _ _
  have hsp:spB.size=1:=rfl
  by_cases h0:n=0
  ·subst h0
   rw [b6d]
   omega
  ·rw [a7k J,ByteArray.size_append,ByteArray.size_append]
   omega
theorem b0s (sep x:List UInt8):∀(l:List (List UInt8)),l≠[]→sep.intercalate (l++[x])=sep.intercalate l++sep++x
 | [],h=>absurd Z h
 | [y],_=>by simp [List.intercalate]
 | y :: z :: r,_=>by
  have ih:=b0s sep x (z :: r) (by simp)
  simp_all
theorem b6e {ws:List ByteArray}:∀n,n<=ws.length→(⟨(Lib.join ((ws.take n).map (·.data.toList)) [32]).toArray⟩:ByteArray)=jnS ws n
 | 0,_=>rfl
 | n+1,hn=>by
  have ih:=b6e (ws:=ws) n J
  have hx:ws[n]?=some (ws.getD n ⟨#[]⟩):=by rw [List.getD_eq_getElem?_getD,List.getElem?_eq_getElem J];rfl
  rw [List.take_add_one,hx,Option.toList_some,List.map_append,List.map_cons,List.map_nil]
  by_cases h0:n=0
  ·subst h0
   rw [b6d,List.take_zero,List.map_nil,List.nil_append,Lib.join_one]
  ·rw [a7k J,← ih,Lib.join,b0s _ _ _ (by intro e;have:=congrArg List.length e;rw [List.length_map,List.length_take,Nat.min_eq_left J] at this;exact h0 this)]
   rfl
def jnA (ws:List ByteArray):ByteArray:=jnS ws ws.length
theorem c2z {ws:List ByteArray}:(⟨(Lib.join (ws.map (·.data.toList)) spB.data.toList).toArray⟩:ByteArray)=jnA ws:=by
 have h:=b6e (ws:=ws) ws.length (Nat.le_refl _)
 rw [List.take_length] at h
 exact h
theorem Ctr.join {P:Program} [Env P] {f:FuncId} (hc:Callable P f) {ws:List ByteArray} (hl:ws.length<=1048576) (hs:(jnA ws).size<=140737488355328)
 (h:∀(bk o c:Nat) (w:World),(∀(j:Nat) x,ws[j]?=some x→w.cell? ⟨bk,o+j,none⟩=some (.string x))→bk < w.heap.size→ws.length<=140737488355328→ws.length<=c→(Lib.join (ws.map (·.data.toList)) spB.data.toList).length<=140737488355328 →
  Calls P f #[.slice (some ⟨bk,o,none⟩) ws.length c,.string spB] w λe w'=>e=.returned (.string ⟨(Lib.join (ws.map (·.data.toList)) spB.data.toList).toArray⟩)/\Below w.heap.size w w')
 (h0:∀(a:Option Addr) (c:Nat) (w:World),Calls P f #[.slice a 0 c,.string spB] w λe w'=>e=.returned (.string ⟨#[]⟩)/\w'=w) :
 Ctr P f [.lst 1 (ws.map a0M),.v (.string ⟨#[32]⟩)] (.one (.v (.string (jnA ws)))):=by
 refine ⟨hc,λw vs he hv=>?_⟩
 simp only [RelVs] at hv
 obtain ⟨y,_,rfl,hy,_,_,rfl,hv2,rfl⟩:=hv
 simp only [RelV] at hy hv2
 subst hv2
 obtain ⟨A,cap,rfl,hcap,hall,hcell⟩:=hy
 rw [List.length_map] at hcap hcell ⊢
 by_cases hz:ws.length=0
 ·have e0:ws=[]:=List.eq_nil_of_length_eq_zero hz
  subst e0
  exact (h0 A cap w).mono λe w' ⟨h1,h2⟩=>⟨_,h1,by simp only [ResRel,RCRel];rfl,h2▸Below.refl _ _⟩
 ·obtain ⟨ad,rfl,hb,hr⟩:=hcell J
  have hat:∀j x,ws[j]?=some x→w.cell? (ad.add (j * 1+0))=some (.string x):=λj x hj=>hr j (a0M x) (by rw [List.getElem?_map,hj];rfl) 0 _ Z
  have hsp:ad.spot=none:=by
   have h1:=hat 0 (ws.getD 0 ⟨#[]⟩) (by rw [List.getD_eq_getElem?_getD,List.getElem?_eq_getElem J];rfl)
   have h1:w.cell? ad=some (.string (ws.getD 0 ⟨#[]⟩)):=h1
   cases hsp:ad.spot with
   | none=>rfl
   | some s =>
    exfalso
    unfold World.cell? at h1
    grind
  obtain ⟨bk,o,sp⟩:=ad
  simp only at hsp hb
  subst hsp
  refine (h bk o cap w (λj x hj=>?_) hb J hcap (by have:=congrArg ByteArray.size (c2z (ws:=ws));simp only [ByteArray.size,List.size_toArray] at this hs;omega)).mono λe w' ⟨h1,h2⟩=>⟨.string (jnA ws),h1.trans (by rw [c2z]),by simp only [ResRel,RCRel],h2⟩
  have:=hat j x hj
  rw [Nat.mul_one,Nat.add_zero] at this
  by_cases hj0:j=0
  ·subst hj0;exact this
  ·rw [Addr.add,if_neg hj0] at this;exact this
def b4b:ByteArray:=⟨#[110,111,110,101]⟩
def b2U (l:List Int):List ByteArray:=l.map s5
theorem a0B:(b2U l).length=l.length:=List.length_map _
theorem a2T (h:i < l.length):(b2U l).getD i ⟨#[]⟩=s5 (l.getD i default):=by
 grind [b2U]
def a3D (l:List Int):ByteArray:=if l.length=0 then b4b else jnA (b2U l)
def X8 (n:Int):Prop:=-9223372036854775807<=n/\n<=9223372036854775807
theorem a8d (h:∀i,i < l.length→X8 (l.getD i default)) (n:Nat) (hn:n<=l.length):(jnS (b2U l) n).size<=n * 22 :=
 b0r (b:=21) (λi hi=>by rw [a0B] at hi;rw [a2T hi];have:=h i hi;exact w8 (by have:=this.1;omega) this.2) n (by rw [a0B];exact hn)
theorem b9d {l:List Int} (h:l.length=0):a3D l=b4b:=if_pos h
theorem b5m {l:List Int} (h:0 < l.length):a3D l=jnS (b2U l) l.length:=by rw [a3D,if_neg J,jnA,a0B]
theorem b7n (h:∀i,i < l.length→X8 (l.getD i default)):(a3D l).size<=l.length * 22+4:=by
 by_cases h0:l.length=0
 ·rw [b9d h0];show (4:Nat)<=_;omega
 ·rw [b5m J];have:=a8d h l.length (Nat.le_refl _);omega
def a7l (k:Int):ByteArray:=(⟨#[45,112,97,98]⟩:ByteArray).extract k.toNat (k+1).toNat
theorem a8e {k:Int}:(a7l k).size<=4:=by
 rw [a7l,ByteArray.size_extract]
 omega
def b5n (x:Slot):ByteArray:=if x.s=0 then a7l x.s else a7l x.s++(s5 x.q++⟨#[58]⟩++s5 x.p)
def a3E (sl:List Slot):List ByteArray:=sl.map b5n
theorem a0C:(a3E sl).length=sl.length:=List.length_map _
theorem b0t {l:List Slot} (h:i < l.length):(a3E l).getD i ⟨#[]⟩=b5n (l.getD i default):=by
 grind [a3E]
def a1U (sl:List Slot):ByteArray:=jnA (a3E sl)
theorem b2V {x:Slot} (h:x.s=0):b5n x=a7l x.s:=if_pos h
theorem b2W {x:Slot} (h:x.s≠0):b5n x=a7l x.s++(s5 x.q++⟨#[58]⟩++s5 x.p):=if_neg h
theorem b7o {x:Slot} (h:x.s≠0→X8 x.q/\X8 x.p):(b5n x).size<=47:=by
 have hb:=@a8e x.s
 by_cases h0:x.s=0
 ·rw [b2V h0];omega
 ·obtain ⟨⟨a1,a2⟩,b1,b2⟩:=h h0
  have n1:=w8 (n:=x.q) J a2
  have n2:=w8 (n:=x.p) J b2
  rw [b2W h0,ByteArray.size_append,ByteArray.size_append,ByteArray.size_append]
  have:(⟨#[58]⟩:ByteArray).size=1:=rfl
  omega
theorem a8f (h:∀i,i < sl.length→(sl.getD i default).s≠0→X8 (sl.getD i default).q/\X8 (sl.getD i default).p) (n:Nat) (hn:n<=sl.length):(jnS (a3E sl) n).size<=n * 48 :=
 b0r (b:=47) (λi hi=>by rw [a0C] at hi;rw [b0t hi];exact b7o (h i hi)) n (by rw [a0C];exact hn)
theorem b6f (hi:i < sl.length):jnS (a3E sl) (i+1)=(if i=0 then ⟨#[]⟩ else jnS (a3E sl) i++spB)++b5n (sl.getD i default):=by
 show (if i=0 then _ else _)++(a3E sl).getD i ⟨#[]⟩=_
 rw [b0t hi]
theorem SlF.s03 (h:SlF sl) {i:Nat} (hi:i < 4):0<=(sl.getD i default).s/\(sl.getD i default).s<=3:=by
 rcases Decidable.em ((sl.getD i default).s=0) with g | g
 ·omega
 ·have:=h.ok i hi g;omega
theorem SlF.nums (h:SlF sl) {i:Nat} (hi:i < 4) (hs:(sl.getD i default).s≠0):(0<=(sl.getD i default).q/\(sl.getD i default).q<=7)/\(0<=(sl.getD i default).p/\(sl.getD i default).p<=15)/\(s5 (sl.getD i default).q).size<=21/\(s5 (sl.getD i default).p).size<=21:=by
 have:=h.ok i hi hs
 exact ⟨this.2.1,this.2.2,w8 J J,w8 J J⟩
theorem b9e (h:SlF sl):∀i,i < sl.length→(sl.getD i default).s≠0→X8 (sl.getD i default).q/\X8 (sl.getD i default).p:=λi hi hs=>by
 have:=h.ok i (by have:=h.len;omega) hs
 exact ⟨⟨by omega,by omega⟩,by omega,by omega⟩
def b0u (l:List Int) (i:Nat):List ByteArray:=(b2U l).take i
theorem b7p (h:i < l.length):b0u l (i+1)=b0u l i++[s5 (l.getD i default)]:=by
 rw [b0u,List.take_add_one,← a2T h,List.getD_eq_getElem?_getD,List.getElem?_eq_getElem (by rw [a0B];exact h)]
 rfl
theorem b4c:b0u l l.length=b2U l:=by rw [b0u,← a0B,List.take_length]
theorem b4d {l:List Int} {i:Nat}:(b0u l i).length<=l.length:=by rw [b0u,List.length_take,a0B];omega
theorem c1p (hl:l.length<=1048576) (h:∀i,i < l.length→X8 (l.getD i default)):(jnA (b0u l l.length)).size<=140737488355328:=by
 have:=a8d h l.length (Nat.le_refl _)
 rw [b4c,jnA,a0B];omega
theorem c5A {l:List Int} (h:0 < l.length):jnA (b0u l l.length)=a3D l:=by rw [b5m h,b4c,jnA,a0B]
def a7m (l:List Slot) (i:Nat):List ByteArray:=(a3E l).take i
theorem b4e {l:List Slot} {i:Nat}:(a7m l i).length<=l.length:=by rw [a7m,List.length_take,a0C];omega
theorem b1N {l:List Slot} (h:i < l.length):a7m l (i+1)=a7m l i++[b5n (l.getD i default)]:=by
 rw [a7m,List.take_add_one,← b0t h,List.getD_eq_getElem?_getD,List.getElem?_eq_getElem (by rw [a0C];exact h)]
 rfl
theorem c5B {l:List Slot} (h:i < l.length) (hs:(l.getD i default).s=0):a7m l (i+1)=a7m l i++[a7l (l.getD i default).s]:=by rw [b1N h,b2V hs]
theorem c5C {l:List Slot} (h:i < l.length) (hs:(l.getD i default).s≠0):a7m l (i+1)=a7m l i++[a7l (l.getD i default).s++(s5 (l.getD i default).q++⟨#[58]⟩++s5 (l.getD i default).p)]:=by rw [b1N h,b2W hs]
theorem b9f {l:List Slot}:jnA (a7m l l.length)=a1U l:=by rw [a1U,a7m,← a0C,List.take_length]
theorem c1q (hl:sl.length<=1048576) (h:∀i,i < sl.length→(sl.getD i default).s≠0→X8 (sl.getD i default).q/\X8 (sl.getD i default).p):(jnA (a7m sl sl.length)).size<=140737488355328:=by
 grind [a8f,b9f,a1U,jnA,a0C]
theorem c7J (hi:i < sl.length) (h0:i=0) (hs:(sl.getD i default).s=0):jnS (a3E sl) (i+1)=jnS (a3E sl) i++a7l (sl.getD i default).s:=by
 rw [b6f hi,if_pos h0,b2V hs];subst h0;rfl
theorem c7K (hi:i < sl.length) (h0:i≠0) (hs:(sl.getD i default).s=0):jnS (a3E sl) (i+1)=jnS (a3E sl) i++spB++a7l (sl.getD i default).s:=by
 rw [b6f hi,if_neg h0,b2V hs]
theorem c7L (hi:i < sl.length) (h0:i=0) (hs:(sl.getD i default).s≠0):jnS (a3E sl) (i+1)=jnS (a3E sl) i++a7l (sl.getD i default).s++s5 (sl.getD i default).q++⟨#[58]⟩++s5 (sl.getD i default).p:=by
 rw [b6f hi,if_pos h0,b2W hs]
 simp only [ByteArray.append_assoc]
 subst h0;rfl
theorem c7M (hi:i < sl.length) (h0:i≠0) (hs:(sl.getD i default).s≠0):jnS (a3E sl) (i+1)=jnS (a3E sl) i++spB++a7l (sl.getD i default).s++s5 (sl.getD i default).q++⟨#[58]⟩++s5 (sl.getD i default).p:=by
 rw [b6f hi,if_neg h0,b2W hs]
 simp only [ByteArray.append_assoc]
theorem a5i {s:ByteArray}:z8 s<=60/\E2 s (z8 s)<=s.size/\E2 s (z8 s)<=25380:=by
 have h:=b2p (a6T (s:=s)).1
 have h2:=b76 (a6T (s:=s)).1
 omega
theorem b6g {s:ByteArray}:(pre (W9 s) (z8 s+1)).getD (((pre (a6S s) (z8 s)).length:Int)).toNat default=W9 s (z8 s):=by
 rw [U1]
 exact b3T (Nat.lt_succ_self _)
theorem b4f {s:ByteArray}:((pre (a6S s) (z8 s)).length:Int)=z8 s:=by rw [U1]
def c2A:Lg:=⟨⟨#[]⟩,⟨#[]⟩,0⟩
theorem c1r {x:Lg} (h:30000 < x.d.size+x.p.size):okLg x=false:=by
 rw [okLg,decide_eq_false J];rfl
theorem b6h {x:Lg} (h:¬ E2 (x.d++x.p) (z8 (x.d++x.p))=x.d.size+x.p.size):okLg x=false:=by
 rw [okLg,decide_eq_false h,Bool.and_false];rfl
theorem c1s {x:Lg} (h:¬ E2 x.d (z8 x.d)=x.d.size):okLg x=false:=by
 rw [okLg,decide_eq_false h,Bool.and_false];rfl
theorem c1t {x:Lg} (h:¬ (z8 (x.d++x.p):Int)=x.n):okLg x=false:=by
 rw [okLg,decide_eq_false h,Bool.and_false]
theorem c5D (h0:x.d.size+x.p.size<=30000) (h1:E2 (x.d++x.p) (z8 (x.d++x.p))=x.d.size+x.p.size) (h2:E2 x.d (z8 x.d)=x.d.size) (h3:(z8 (x.d++x.p):Int)=x.n):okLg x=true:=by
 grind [okLg]
theorem c5E {x:Lg} (h0:x.d.size+x.p.size<=30000) (h1:E2 (x.d++x.p) (z8 (x.d++x.p))=x.d.size+x.p.size) (h2:E2 x.d (z8 x.d)=x.d.size):okLg x=decide ((z8 (x.d++x.p):Int)=x.n):=by
 grind [okLg]
theorem a3F {x:Lg} (h:okLg x=true):x.d.size+x.p.size<=30000/\E2 x.d (z8 x.d)=x.d.size/\0<=x.n/\x.n<=60:=by
 grind [okLg,a5i]
theorem b7q {x:Lg} {j:Nat} (h1:E2 (x.d++x.p) (z8 (x.d++x.p))=x.d.size+x.p.size) (h2:(z8 (x.d++x.p):Int)=x.n) (hj:j<=z8 (x.d++x.p)) (hp:E2 (x.d++x.p) j=x.d.size):okLg x=true:=by
 have hl:=a5i (s:=x.d++x.p)
 obtain ⟨h3,h4⟩:=b75 (D:=x.d) (P:=x.p) (n:=j) (λi hi=>a6T.1 i J) J
 have h5:z8 x.d=j:=a3s h3 (b74 J)
 exact c5D J h1 (by rw [h5];omega) h2
theorem b7r {x:Lg} (h:∀j,j < z8 (x.d++x.p)+1→¬ E2 (x.d++x.p) j=x.d.size):okLg x=false:=by
 cases he:okLg x with
 | false=>rfl
 | true =>
  exfalso
  have h2:=(a3F he).2.1
  obtain ⟨h3,h4⟩:=c43 (D:=x.d) (P:=x.p) (n:=z8 x.d) a6T.1
  refine h (z8 x.d) ?_ J
  rcases Nat.lt_or_ge (z8 x.d) (z8 (x.d++x.p)+1) with h5 | h5
  ·exact h5
  ·have h6:=h3 (z8 (x.d++x.p)) J
   rw [a6T.2] at h6
   cases h6
def syE (x:Lg):Lg:=if okLg x then ⟨x.d++x.p,⟨#[]⟩,x.n⟩ else c2A
theorem c9B (h:okLg x=false):syE x=c2A/\okLg x=false:=by rw [syE,h];exact ⟨Z,Z⟩
theorem c9C (h:okLg x=true):syE x=⟨x.d++x.p,⟨#[]⟩,x.n⟩/\okLg x=true:=by rw [syE,h];exact ⟨Z,Z⟩
def apG (x:Lg) (r:Rec):Bool:=okLg x && I7 r
def apE (x:Lg) (r:Rec):Lg:=if apG x r && decide (x.n≠60) then ⟨x.d,x.p++a1I x.n r,x.n+1⟩ else x
def apN (x:Lg) (r:Rec):Int:=if apG x r then (if x.n=60 then 2 else 0) else 1
theorem c1u {x:Lg} {r:Rec} (h:apG x r=false):apE x r=x/\apN x r=1:=by rw [apE,apN,h];exact ⟨Z,Z⟩
theorem c2B (h:okLg x=false):apG x r=false:=by rw [apG,h];rfl
theorem c2C (h:I7 r=false):apG x r=false:=by rw [apG,h,Bool.and_false]
theorem c7N {x:Lg} {r:Rec} (h:okLg x=true) (h2:I7 r=true) (h3:x.n=60):apE x r=x/\apN x r=2:=by
 rw [apE,apN,apG,h,h2,if_pos h3]
 simp [h3]
theorem c7O {x:Lg} {r:Rec} (h:okLg x=true) (h2:I7 r=true) (h3:¬ x.n=60):apE x r=⟨x.d,x.p++a1I x.n r,x.n+1⟩/\apN x r=0:=by
 rw [apE,apN,apG,h,h2,if_neg h3]
 simp [h3]
theorem a5j {k:Int} {x:Rec} (h0:0<=k) (h1:k<=9223372036854775807) (h:I7 x=true):(a1I k x).size<=423:=by
 have hb:=a41 h0 h1 h
 have hs:=a2B (s:=P3 k x)
 have e1:(⟨#[10]⟩:ByteArray).size=1:=rfl
 rw [a1I,ByteArray.size_append]
 omega
end Go.Rf
namespace Go.Rf
open Go Go.ChangeShapes Go.WideShapes Go.Deep Go.ChangeAt Go.RowKit
section
variable {H:Type} {enc:TypeId×Value→H} {P:Program} {w:World} {base:Nat} {spare:Nat→Bool} {held:Bool} {t e e2:TypeId}
end
section
variable {H:Type} {enc:TypeId×Value→H} {P:Program} {w:World} {base:Nat} {spare:Nat→Bool} {held:Bool}
end
section
variable {H:Type} {enc:TypeId×Value→H} {P:Program} {w:World} {base:Nat} {spare:Nat→Bool} {held:Bool}
end
end Go.Rf
namespace Go.Rf
open Go Go.RowKit
variable {i k:Nat} {m:Mach} {x:Lg}
def okCo (m:Mach) (x:Lg):Bool:=a0A m && okLg x
theorem c5F (h:a0A m=false):okCo m x=false:=by rw [okCo,h];rfl
theorem c5G (h:a0A m=true):okCo m x=okLg x:=by rw [okCo,h];rfl
def wqS (q:Que) (i:Nat):List Int:=(q.wa.take i).map (λw=>w.q)
def wqL (q:Que):List Int:=q.wa.map (λw=>w.q)
theorem b9g {q:Que} (h:i < q.wa.length):wqS q (i+1)=wqS q i++[(q.wa.getD i default).q]:=by
 rw [wqS,wqS,List.take_add_one,List.getElem?_eq_getElem h,List.getD_eq_getElem?_getD,List.getElem?_eq_getElem h,Option.toList_some,List.map_append]
 rfl
theorem a1V {q:Que} (h:q.wa.length<=i):wqS q i=wqL q:=by rw [wqS,List.take_of_length_le h];rfl
theorem a9F {q:Que} {i:Nat}:(wqS q i).length<=q.wa.length:=by rw [wqS,List.length_map,List.length_take];omega
theorem b6i {q:Que}:(wqL q).length=q.wa.length:=List.length_map _
theorem c1v {q:Que} (h:i < q.wa.length):(wqL q).getD i default=(q.wa.getD i default).q:=by
 grind [wqL]
theorem b9h {q:Que} (h:QF q):∀i,i < (wqL q).length→X8 ((wqL q).getD i default):=λi hi=>by
 rw [b6i] at hi
 rw [c1v hi]
 have:=(h.wa _ (j6.mpr ⟨i,hi,Z⟩)).1
 exact ⟨by omega,by omega⟩
def sC0:ByteArray:=⟨#[99,112,117,32]⟩
def sC1:ByteArray:=⟨#[58,32,109,97,115,107,32]⟩
def sC2:ByteArray:=⟨#[44,32,115,108,111,116,115,32]⟩
def sC3:ByteArray:=⟨#[44,32,119,97,105,116,105,110,103,32]⟩
def sC4:ByteArray:=⟨#[10]⟩
def sC5:ByteArray:=⟨#[114,101,99,111,114,100,115,32]⟩
def b0v (k:Nat) (x:Ifc):ByteArray:=sC0++s5 (k:Int)++sC1++s5 x.ma++sC2++a1U x.qu.sl++sC3++a3D (wqL x.qu)++sC4
def b0Z (m:Mach):Nat→ByteArray
 | 0=>⟨#[]⟩
 | k+1=>b0Z m k++b0v k (m.cp.getD k default)
theorem a5k:b0Z m (k+1)=b0Z m k++b0v k (m.cp.getD k default):=rfl
theorem b1O:b0Z m (k+1)=b0Z m k++sC0++s5 (k:Int)++sC1++s5 (m.cp.getD k default).ma++sC2++a1U (m.cp.getD k default).qu.sl++sC3++a3D (wqL (m.cp.getD k default).qu)++sC4:=by
 rw [a5k,b0v]
 simp only [ByteArray.append_assoc]
theorem a8g {sl:List Slot} (h:SlF sl):(a1U sl).size<=192:=by
 have:=a8f (b9e h) sl.length (Nat.le_refl _)
 rw [a1U,jnA,a0C]
 have:=h.len
 omega
theorem b2X {q:Que} (h:QF q):(a3D (wqL q)).size<=202:=by
 have:=b7n (b9h h)
 rw [b6i] at this
 have:=h.wn
 omega
theorem b4g {n:Int} (h:X8 n):(s5 n).size<=21:=w8 (by have:=h.1;omega) h.2
theorem b5o {k:Nat} {x:Ifc} (hk:k<=1048576) (hx:IfF x) (hm:X8 x.ma):(b0v k x).size<=600:=by
 have h1:=b4g (n:=(k:Int)) ⟨by omega,by omega⟩
 have h2:=b4g hm
 have h3:=a8g hx.qu.sl
 have h4:=b2X hx.qu
 have e0:sC0.size=4:=rfl
 have e1:sC1.size=7:=rfl
 have e2:sC2.size=8:=rfl
 have e3:sC3.size=10:=rfl
 have e4:sC4.size=1:=rfl
 simp only [b0v,ByteArray.size_append]
 omega
theorem a2U (h:MaF m):∀k,k<=m.cp.length→(b0Z m k).size<=k * 600
 | 0,_=>Nat.zero_le _
 | k+1,hk=>by
  have ih:=a2U h k J
  obtain ⟨hI,_,hm,_⟩:=h.ok k J
  have hn:=h.n
  have hl:=b5o (k:=k) J hI ⟨by omega,by omega⟩
  rw [a5k,ByteArray.size_append]
  omega
def b7s (m:Mach) (x:Lg):ByteArray×Bool:=if okCo m x then (b0Z m m.cp.length++sC5++s5 x.n++sC4,true) else (⟨#[]⟩,false)
theorem b9i (h:okCo m x=true):b7s m x=(b0Z m m.cp.length++sC5++s5 x.n++sC4,true):=if_pos h
theorem c5H (h:okCo m x=false):b7s m x=(⟨#[]⟩,false):=if_neg (by rw [h];exact Bool.false_ne_true)
theorem a8h (h:okCo m x=true):a0A m=true/\okLg x=true:=by
 rw [okCo,Bool.and_eq_true] at h;exact h
end Go.Rf
namespace Go.Rf
open Go
variable {i k:Nat} {l:List Int} {m:Mach} {p:Nat→Bool} {sl:List Slot} {w:ByteArray} {x:Ifc}
theorem a5l {α:Type} [BEq α] [LawfulBEq α]:∀{a b:List α},a.Nodup→(∀x∈a,x∈b)→a.length<=b.length
 | [],b,_,_=>Nat.zero_le _
 | x :: a,b,hn,hs=>by
  obtain ⟨h1,h2⟩:=List.nodup_cons.mp hn
  have hx:x∈b:=hs x (by simp)
  have:=a5l (b:=b.erase x) h2 (λy hy=>(List.mem_erase_of_ne (λe:y=x=>h1 (e▸hy))).mpr (hs y (by simp [hy])))
  grind
theorem b6j {sl:List Slot} {k:Nat} (h:R7 (sl.getD k default)=false):∀i,k < i→(actN sl i).length < i
 | i+1,hk=>by
  have hl:=@a0z sl i
  show (if _ then _ else _:List Int).length < _
  split
  ·next ha =>
   rw [List.length_append,List.length_cons,List.length_nil]
   have hne:k≠i:=λe=>by subst e;rw [h] at ha;cases ha
   have:=b6j h i J
   omega
  ·omega
theorem a0o (hl:sl.length=4) {q:Int}:(∃w∈actL sl,w.q=q)↔q∈actN sl 4:=by
 rw [M7]
 constructor
 ·rintro ⟨w,hw,e⟩
  obtain ⟨x,h1,h2,rfl⟩:=C6.mp hw
  obtain ⟨j,hj,rfl⟩:=j6.mp h1
  exact ⟨j,by omega,h2,e⟩
 ·rintro ⟨j,h1,h2,h3⟩
  exact ⟨wOf (sl.getD j default),C6.mpr ⟨_,j6.mpr ⟨j,by omega,Z⟩,h2,Z⟩,h3⟩
structure IfG (x:Ifc):Prop where
 f:IfF x
 nd:x.st.Nodup
theorem IfG.lt (h:IfG x) (hb:0<=bstS x.qu.sl true):x.st.length < 4:=by
 obtain ⟨k,e1,e2,e3⟩:=H2 hb
 have hl:=h.f.qu.sl.len
 have h1:=a5l h.nd (λq hq=>(a0o hl).mp (h.f.st q hq))
 have h2:=b6j (sl:=x.qu.sl) (k:=k) (by rw [← Bool.not_eq_true,u3];omega) 4 J
 omega
theorem b9j {q p:Int} (h:IfG x) (hq:0<=q/\q<=7) (hp:0<=p/\p<=15):IfG (a6b x q p):=⟨b8G h.f hq hp,h.nd⟩
theorem c1w (h:IfG x) (hk:okT x=true):IfG (a3z x):=by
 have hb:=(L9.mp hk).1
 refine ⟨c5i h.f hb (h.lt hb),?_⟩
 obtain ⟨k,e1,e2,e3⟩:=H2 hb
 refine List.nodup_append.mpr ⟨h.nd,List.nodup_cons.mpr ⟨by simp,List.nodup_nil⟩,λa ha b hb e=>?_⟩
 rw [List.mem_singleton.mp hb] at e
 obtain ⟨j,h1,h2,h3⟩:=(M7 4).mp ((a0o h.f.qu.sl.len).mp (h.f.st a ha))
 have hkq:tkI x.qu.sl=(x.qu.sl.getD k default).q:=by unfold tkI;rw [e1];rfl
 have hne:j≠k:=λee=>by subst ee;rcases u3.mp h2 with g | g<;>omega
 have hj0:(x.qu.sl.getD j default).s≠0:=by rcases u3.mp h2 with g | g<;>omega
 have hl:=h.f.qu.sl.len
 rcases Nat.lt_or_ge j k with g | g
 ·exact h.f.qu.sl.dif j k g J hj0 J (by rw [h3,e,hkq])
 ·exact h.f.qu.sl.dif k j J h1 J hj0 (by rw [h3,e,hkq])
def S3 (x:Ifc):Int:=x.st.getD (x.st.length - 1) default
def a6c (x:Ifc):Ifc:=⟨x.ma,x.st.take (x.st.length - 1),a6a x.qu (S3 x)⟩
theorem a5m (h:x.st.length≠0):S3 x∈x.st:=j6.mpr ⟨x.st.length - 1,by omega,Z⟩
theorem c1x {q:Int} (h:SlF sl) (ha:∃w∈actL sl,w.q=q):R7 (sl.getD (p7 sl q).toNat default)=true:=by
 obtain ⟨k,e1,e2,e3,e4⟩:=a4o (a3A ha)
 obtain ⟨j,h1,h2,h3⟩:=(M7 4).mp ((a0o h.len).mp ha)
 have hl:=h.len
 have hj0:(sl.getD j default).s≠0:=by rcases u3.mp h2 with g | g<;>omega
 have:j=k:=by
  rcases Nat.lt_trichotomy j k with g | g | g
  ·exact absurd (h3.trans e4.symm) (h.dif j k g J hj0 e3)
  ·exact g
  ·exact absurd (e4.trans h3.symm) (h.dif k j g h1 e3 hj0)
 grind
theorem c7P (h:IfG x) (h0:x.st.length≠0):IfG (a6c x):=by
 have hf:=a3A (h.f.st _ (a5m h0))
 have hQ0:=a9C h.f.qu hf
 obtain ⟨k,e1,e2,e3,e4⟩:=a4o hf
 have hnl:∀y∈x.st.take (x.st.length - 1),y≠S3 x:=λy hy e=>by
  obtain ⟨i,hi,e5⟩:=(b0q J).mp hy
  exact b2Q.mp h.nd i (x.st.length - 1) hi J (e5.trans e)
 refine ⟨⟨(b8C h.f.qu hf).1,by show (x.st.take (x.st.length - 1)).length<=4;have:=h.f.sn;rw [List.length_take];omega,λy hy=>?_⟩,List.Pairwise.sublist (List.take_sublist _ _) h.nd⟩
 show ∃w∈actL (a6a x.qu (S3 x)).sl,w.q=y
 unfold a6a
 rw [b3Y hQ0]
 show ∃w∈actL (edS x.qu.sl (S3 x)),w.q=y
 obtain ⟨w,hw,e⟩:=h.f.st y (List.mem_of_mem_take hy)
 obtain ⟨z,z1,z2,z3⟩:=C6.mp hw
 refine ⟨w,C6.mpr ⟨z,?_,z2,z3⟩,e⟩
 unfold edS
 rw [e1,Int.toNat_natCast]
 refine b54 z1 λe'=>hnl y hy ?_
 rw [← e,← z3,e']
 exact e4
structure MaG (m:Mach):Prop where
 rt:okRts m.rs m.cp.length=true
 n:1<=m.cp.length/\m.cp.length<=2
 rn:m.rs.length=8
 en:m.en.length=8
 ra:m.ra.length=8
 ok:∀k,k < m.cp.length→IfG (m.cp.getD k default)
theorem MaF.g (h:MaF m):MaG m:=⟨h.rt,h.n,h.rn,h.en,h.ra,λk hk=>⟨(h.ok k hk).1,(a1Q.mp (h.ok k hk).2.2.2).nodup_iff.mpr (a5g (h.ok k hk).1.qu.sl 4 (Nat.le_refl _))⟩⟩
theorem MaG.tg (h:MaG m) {i:Nat} (hi:i < 8):(0<=(m.rs.getD i default).t/\(m.rs.getD i default).t<=1)/\(m.rs.getD i default).t.toNat < m.cp.length/\(0<=(m.rs.getD i default).p/\(m.rs.getD i default).p<=15):=by
 have:=(H1.mp h.rt).2.2 i hi
 have:=h.n
 omega
def tgM (m:Mach) (i:Nat):Nat:=(m.rs.getD i default).t.toNat
def a7n (m:Mach) (i:Nat):Bool:=m.en.getD i default && (m.ra.getD i default && !b0g (m.cp.getD (tgM m i) default).st i)
def a82 (m:Mach):Nat→List Bool
 | 0=>m.ra
 | i+1=>if a7n m i then (a82 m i).set i false else a82 m i
def a2e (m:Mach):Nat→List Ifc
 | 0=>m.cp
 | i+1=>if a7n m i then (a2e m i).set (tgM m i) (a6b ((a2e m i).getD (tgM m i) default) i (m.rs.getD i default).p) else a2e m i
def b5p (m:Mach):Mach:=⟨m.rs,m.en,a82 m 8,a2e m 8⟩
section
variable {m:Mach} {i:Nat}
theorem a2f (h:a7n m i=true):a82 m (i+1)=(a82 m i).set i false:=by show (if _ then _ else _)=_;rw [if_pos h]
theorem a2g (h:a7n m i=false):a82 m (i+1)=a82 m i:=by show (if _ then _ else _)=_;rw [if_neg (by rw [h];decide)]
theorem a2h (h:a7n m i=true):a2e m (i+1)=(a2e m i).set (tgM m i) (a6b ((a2e m i).getD (tgM m i) default) i (m.rs.getD i default).p):=by show (if _ then _ else _)=_;rw [if_pos h]
theorem a2i (h:a7n m i=false):a2e m (i+1)=a2e m i:=by show (if _ then _ else _)=_;rw [if_neg (by rw [h];decide)]
theorem a7o:∀i,(a82 m i).length=m.ra.length
 | 0=>rfl
 | i+1=>by
  have ih:=@a7o i
  show (if _ then _ else _:List Bool).length=_
  split
  ·rw [List.length_set];exact ih
  ·exact ih
theorem T3:∀i,(a2e m i).length=m.cp.length
 | 0=>rfl
 | i+1=>by
  have ih:=@T3 i
  show (if _ then _ else _:List Ifc).length=_
  split
  ·rw [List.length_set];exact ih
  ·exact ih
theorem a9G:∀{i j:Nat},i<=j→(a82 m i).getD j default=m.ra.getD j default
 | 0,_,_=>rfl
 | i+1,j,h=>by
  show (if _ then _ else _:List Bool).getD j default=_
  split
  ·rw [List.getD_eq_getElem?_getD,List.getElem?_set_ne J,← List.getD_eq_getElem?_getD];exact a9G J
  ·exact a9G J
theorem a7p (hM:MaG m):∀{i k:Nat},i<=8→k < m.cp.length→((a2e m i).getD k default).st=(m.cp.getD k default).st/\IfG ((a2e m i).getD k default)
 | 0,k,_,hk=>⟨Z,hM.ok k hk⟩
 | i+1,k,hi,hk=>by
  have ih:=@a7p hM i k J hk
  obtain ⟨_,h2,h3⟩:=hM.tg (i:=i) J
  show ((if _ then _ else _:List Ifc).getD k default).st=_/\IfG ((if _ then _ else _:List Ifc).getD k default)
  split
  ·rw [M6 (by rw [T3];exact h2)]
   by_cases e:tgM m i=k
   ·rw [if_pos e]
    subst e
    have ih2:=@a7p hM i (tgM m i) J h2
    exact ⟨ih2.1,b9j ih2.2 J h3⟩
   ·rw [if_neg e];exact ih
  ·exact ih
theorem c5I (hM:MaG m):MaG (b5p m):=by
 refine ⟨?_,by show 1<=(a2e m 8).length/\_;rw [T3];exact ⟨hM.n.1,by show (a2e m 8).length<=2;rw [T3];exact hM.n.2⟩,hM.rn,hM.en,by show (a82 m 8).length=8;rw [a7o];exact hM.ra,λk hk=>?_⟩
 ·show okRts m.rs (a2e m 8).length=true
  rw [T3];exact hM.rt
 ·have hk:k < (a2e m 8).length:=hk
  rw [T3] at hk
  exact (a7p hM (Nat.le_refl _) hk).2
end
def stM (m:Mach) (s:MStep):Mach×Int×Bool :=
 if s.k=1 then (⟨m.rs,m.en,m.ra.set s.q.toNat true,m.cp⟩,-1,!(m.ra.getD s.q.toNat default))
 else if s.k=2 then (b5p m,-1,true)
 else if s.k=3 then (if okT (m.cp.getD s.c.toNat default) then (⟨m.rs,m.en,m.ra,m.cp.set s.c.toNat (a3z (m.cp.getD s.c.toNat default))⟩,tkI (m.cp.getD s.c.toNat default).qu.sl,true) else (⟨m.rs,m.en,m.ra,m.cp.set s.c.toNat noI⟩,0,false))
 else if s.k=4 then (if (m.cp.getD s.c.toNat default).st.length=0 then (⟨m.rs,m.en,m.ra,m.cp.set s.c.toNat noI⟩,0,false) else (⟨m.rs,m.en,m.ra,m.cp.set s.c.toNat (a6c (m.cp.getD s.c.toNat default))⟩,S3 (m.cp.getD s.c.toNat default),true))
 else if s.k=5 then (⟨m.rs,m.en,m.ra,m.cp.set s.c.toNat ⟨s.v,(m.cp.getD s.c.toNat default).st,(m.cp.getD s.c.toNat default).qu⟩⟩,-1,true)
 else (⟨m.rs,m.en.set s.q.toNat (decide (s.v=1)),m.ra,m.cp⟩,-1,true)
def b00 (m:Mach) (s:MStep):Prop:=(s.k=3/\okT (m.cp.getD s.c.toNat default)=false)∨(s.k=4/\(m.cp.getD s.c.toNat default).st.length=0)
theorem b9k (h:MaG m):AbsF m.rs (R8 m):=by
 have hl:(m.cp.map (λx:Ifc=>x.ma)).length=m.cp.length:=List.length_map _
 have hl2:(m.cp.map (λx:Ifc=>x.st)).length=m.cp.length:=List.length_map _
 have hg:∀c,c < m.cp.length→(m.cp.map (λx:Ifc=>x.st)).getD c default=(m.cp.getD c default).st:=λc hc=>a0f (f:=λx:Ifc=>x.st) hc
 refine ⟨by show 1<=(m.cp.map (λx:Ifc=>x.ma)).length/\(m.cp.map (λx:Ifc=>x.ma)).length<=2;rw [hl];exact h.n,h.rn,by show (m.cp.map (λx:Ifc=>x.st)).length=(m.cp.map (λx:Ifc=>x.ma)).length;rw [hl,hl2],h.en,h.ra,J8 _,λi hi=>?_,λc hc=>?_,λc hc i hi=>?_⟩
 ·show 0<=(m.rs.getD i default).t/\(m.rs.getD i default).t < (m.cp.map (λx:Ifc=>x.ma)).length
  rw [hl]
  have:=(H1.mp h.rt).2.2 i hi
  omega
 ·have hc:c < (m.cp.map (λx:Ifc=>x.ma)).length:=hc
  rw [hl] at hc
  show ((m.cp.map (λx:Ifc=>x.st)).getD c default).length<=4
  rw [hg c hc]
  exact (h.ok c hc).f.sn
 ·have hc:c < (m.cp.map (λx:Ifc=>x.ma)).length:=hc
  rw [hl] at hc
  have hi:i < ((m.cp.map (λx:Ifc=>x.st)).getD c default).length:=hi
  show 0<=((m.cp.map (λx:Ifc=>x.st)).getD c default).getD i default/\((m.cp.map (λx:Ifc=>x.st)).getD c default).getD i default<=7
  rw [hg c hc] at hi ⊢
  have hI:=(h.ok c hc).f
  obtain ⟨j,h1,h2,h3⟩:=(M7 4).mp ((a0o hI.qu.sl.len).mp (hI.st _ (j6.mpr ⟨i,hi,Z⟩)))
  rw [← h3]
  exact (hI.qu.sl.ok j h1 (by rcases u3.mp h2 with g | g<;>omega)).2.1
theorem MaG.put (h:MaG m) {c:Nat} {x:Ifc} (hx:IfG x):MaG ⟨m.rs,m.en,m.ra,m.cp.set c x⟩:=by
 refine ⟨by show okRts m.rs (m.cp.set c x).length=true;rw [List.length_set];exact h.rt,by show 1<=(m.cp.set c x).length/\(m.cp.set c x).length<=2;rw [List.length_set];exact h.n,h.rn,h.en,h.ra,λk hk=>?_⟩
 have hk:k < (m.cp.set c x).length:=hk
 rw [List.length_set] at hk
 show IfG ((m.cp.set c x).getD k default)
 by_cases e:c=k
 ·grind
 ·rw [List.getD_eq_getElem?_getD,List.getElem?_set_ne e,← List.getD_eq_getElem?_getD];exact h.ok k hk
theorem c2D {s:MStep} (h:MaG m) (hv:V9 m.cp.length s=true) (hk:(stM m s).2.2=true):MaG (stM m s).1/\(stM m s).1.rs=m.rs/\(stM m s).1.cp.length=m.cp.length:=by
 obtain ⟨sk,sq,sc,sv⟩:=s
 have hc:=λhk=>b2C (n:=m.cp.length) (k:=sk) (q:=sq) (c:=sc) (v:=sv) hv hk
 unfold stM at hk ⊢
 dsimp only at hk ⊢
 by_cases h1:sk=1
 ·simp only [h1,if_true]
  exact ⟨⟨h.rt,h.n,h.rn,h.en,by show (m.ra.set sq.toNat true).length=8;rw [List.length_set];exact h.ra,h.ok⟩,trivial,trivial⟩
 by_cases h2:sk=2
 ·rw [if_neg h1,if_pos h2]
  exact ⟨c5I h,Z,T3 8⟩
 by_cases h3:sk=3
 ·have hcc:=hc (.inl h3)
  rw [if_neg h1,if_neg h2,if_pos h3] at hk ⊢
  by_cases ho:okT (m.cp.getD sc.toNat default)=true
  ·rw [if_pos ho]
   exact ⟨h.put (c1w (h.ok _ J) ho),Z,List.length_set⟩
  grind
 by_cases h4:sk=4
 ·have hcc:=hc (.inr (.inl h4))
  rw [if_neg h1,if_neg h2,if_neg h3,if_pos h4] at hk ⊢
  by_cases ho:(m.cp.getD sc.toNat default).st.length=0
  ·grind
  ·rw [if_neg ho]
   exact ⟨h.put (c7P (h.ok _ J) ho),Z,List.length_set⟩
 by_cases h5:sk=5
 ·have hcc:=hc (.inr (.inr h5))
  rw [if_neg h1,if_neg h2,if_neg h3,if_neg h4,if_pos h5]
  have hI:=h.ok sc.toNat J
  exact ⟨h.put ⟨⟨hI.f.qu,hI.f.sn,hI.f.st⟩,hI.nd⟩,Z,List.length_set⟩
 ·rw [if_neg h1,if_neg h2,if_neg h3,if_neg h4,if_neg h5]
  exact ⟨⟨h.rt,h.n,h.rn,by show (m.en.set sq.toNat _).length=8;rw [List.length_set];exact h.en,h.ra,h.ok⟩,Z,Z⟩
section
variable {p:Mach×Abs} {s:MStep}
end
section
variable {m:Mach} {sk sq sc sv:Int} {q c:Nat}
theorem sm1 (h:sk=1):stM m ⟨sk,(q:Int),sc,sv⟩=(⟨m.rs,m.en,m.ra.set q true,m.cp⟩,-1,!(m.ra.getD q default)):=by subst h;rfl
theorem sm2 (h:sk=2):stM m ⟨sk,sq,sc,sv⟩=(b5p m,-1,true):=by subst h;rfl
theorem sm3 (h:sk=3) (hk:okT (m.cp.getD c default)=true):stM m ⟨sk,sq,(c:Int),sv⟩=(⟨m.rs,m.en,m.ra,m.cp.set c (a3z (m.cp.getD c default))⟩,tkI (m.cp.getD c default).qu.sl,true):=by
 subst h
 show (if okT (m.cp.getD c default) then _ else _:Mach×Int×Bool)=_
 rw [hk];rfl
theorem c9D (h:sk=3) (hk:okT (m.cp.getD c default)=false):stM m ⟨sk,sq,(c:Int),sv⟩=(⟨m.rs,m.en,m.ra,m.cp.set c noI⟩,0,false):=by
 subst h
 show (if okT (m.cp.getD c default) then _ else _:Mach×Int×Bool)=_
 rw [hk];rfl
theorem sm4 (h:sk=4) (hk:¬ (m.cp.getD c default).st.length=0):stM m ⟨sk,sq,(c:Int),sv⟩=(⟨m.rs,m.en,m.ra,m.cp.set c (a6c (m.cp.getD c default))⟩,S3 (m.cp.getD c default),true):=by
 subst h
 show (if (m.cp.getD c default).st.length=0 then _ else _:Mach×Int×Bool)=_
 rw [if_neg hk];rfl
theorem c9E (h:sk=4) (hk:(m.cp.getD c default).st.length=0):stM m ⟨sk,sq,(c:Int),sv⟩=(⟨m.rs,m.en,m.ra,m.cp.set c noI⟩,0,false):=by
 subst h
 show (if (m.cp.getD c default).st.length=0 then _ else _:Mach×Int×Bool)=_
 rw [if_pos hk];rfl
theorem sm5 (h:sk=5):stM m ⟨sk,sq,(c:Int),sv⟩=(⟨m.rs,m.en,m.ra,m.cp.set c ⟨sv,(m.cp.getD c default).st,(m.cp.getD c default).qu⟩⟩,-1,true):=by subst h;rfl
theorem sm6 (h:sk=6):stM m ⟨sk,(q:Int),sc,sv⟩=(⟨m.rs,m.en.set q (decide (sv=1)),m.ra,m.cp⟩,-1,true):=by subst h;rfl
theorem b5q (h:b00 m ⟨sk,sq,sc,sv⟩):sk=3∨sk=4:=by
 rcases h with ⟨h,_⟩ | ⟨h,_⟩
 ·exact .inl h
 ·exact .inr h
theorem c5J (h:b00 m ⟨sk,sq,(c:Int),sv⟩) (h3:sk=3):okT (m.cp.getD c default)=false:=by
 rcases h with ⟨_,h⟩ | ⟨h,_⟩
 ·exact h
 ·have h':sk=4:=h
  omega
theorem c5K (h:b00 m ⟨sk,sq,(c:Int),sv⟩) (h4:sk=4):(m.cp.getD c default).st.length=0:=by
 rcases h with ⟨h,_⟩ | ⟨_,h⟩
 ·have h':sk=3:=h
  omega
 ·exact h
theorem c9F (h:¬ b00 m ⟨sk,sq,(c:Int),sv⟩) (h3:sk=3):okT (m.cp.getD c default)=true:=by
 cases ho:okT (m.cp.getD c default)
 ·exact absurd (Or.inl ⟨h3,ho⟩) h
 ·rfl
theorem c9G (h:¬ b00 m ⟨sk,sq,(c:Int),sv⟩) (h4:sk=4):¬ (m.cp.getD c default).st.length=0:=λe=>h (Or.inr ⟨h4,e⟩)
theorem c5L {s:MStep} (h:b00 m s):(stM m s).2.2=false:=by
 obtain ⟨sk,sq,sc,sv⟩:=s
 rcases h with ⟨h1,h2⟩ | ⟨h1,h2⟩
 ·have h1:sk=3:=h1
  subst h1
  show (if okT (m.cp.getD sc.toNat default) then _ else _:Mach×Int×Bool).2.2=false
  grind
 ·have h1:sk=4:=h1
  subst h1
  show (if (m.cp.getD sc.toNat default).st.length=0 then _ else _:Mach×Int×Bool).2.2=false
  grind
end
theorem MaG.lens (h:MaG m) {k:Nat} (hk:k < m.cp.length):(m.cp.getD k default).st.length<=4/\(m.cp.getD k default).qu.sl.length=4/\(m.cp.getD k default).qu.wa.length<=8:=⟨(h.ok k hk).f.sn,(h.ok k hk).f.qu.sl.len,(h.ok k hk).f.qu.wn8⟩
theorem MaG.small (h:MaG m):SmallM m:=by
 have h1:=h.n
 refine ⟨by rw [h.rn];decide,by rw [h.en];decide,by rw [h.ra];decide,by omega,?_⟩
 have key:∀i,i<=m.cp.length→sumI m.cp i<=16 * i:=by
  intro i
  induction i with
  | zero=>intro _;exact Int.le_refl _
  | succ i ih =>
   intro hi
   rw [a2R]
   have:=ih J
   obtain ⟨q1,q2,q3⟩:=h.lens (show i < m.cp.length by omega)
   have:szI (m.cp.getD i default)<=16:=by unfold szI;omega
   push_cast
   omega
 grind
theorem b9l {m:Mach} {i:Nat} (h1:m.en.getD i default=true) (h2:m.ra.getD i default=true) (h3:b0g (m.cp.getD (tgM m i) default).st i=false):a7n m i=true:=by unfold a7n;rw [h1,h2,h3];rfl
theorem b9m {m:Mach} {i:Nat} (h1:m.en.getD i default=false):a7n m i=false:=by unfold a7n;rw [h1,Bool.false_and]
theorem b9n {m:Mach} {i:Nat} (h2:m.ra.getD i default=false):a7n m i=false:=by unfold a7n;rw [h2,Bool.false_and,Bool.and_false]
theorem b9o {m:Mach} {i:Nat} (h3:b0g (m.cp.getD (tgM m i) default).st i=true):a7n m i=false:=by unfold a7n;rw [h3];simp
theorem b9p {q:Int} (h:(sl.getD (p7 sl q).toNat default).s=3):edS sl q=sl.set (p7 sl q).toNat ⟨1,q,(sl.getD (p7 sl q).toNat default).p⟩:=by unfold edS edX;rw [if_pos h]
theorem c2E {q:Int} (h:¬ (sl.getD (p7 sl q).toNat default).s=3):edS sl q=sl.set (p7 sl q).toNat zSl:=by unfold edS edX;rw [if_neg h]
def m9 (w:ByteArray):Nat :=
 if w.data.toList=[115,121,110,99] then 0
 else if w.data.toList=[114,97,105,115,101,100] then 1
 else if w.data.toList=[105,100,108,101] then 2
 else if w.data.toList=[114,97,105,115,101] then 3
 else if w.data.toList=[101,110,97,98,108,101] then 4
 else if w.data.toList=[100,105,115,97,98,108,101] then 5
 else if w.data.toList=[116,97,107,101] then 6
 else if w.data.toList=[108,101,97,118,101] then 7
 else if w.data.toList=[112,101,110,100,105,110,103] then 8
 else if w.data.toList=[115,116,97,99,107] then 9
 else if w.data.toList=[110,101,120,116] then 10
 else if w.data.toList=[115,108,111,116,115] then 11
 else if w.data.toList=[109,97,115,107] then 12
 else 13
theorem a0h {l:Array UInt8}:w.toList=(⟨l⟩:ByteArray).toList↔w.data.toList=l.toList:=by rw [Go.ByteArray.toList_eq,Go.ByteArray.toList_eq]
theorem U8 {c:Prop} [Decidable c] {a b k:Nat} (h:(if c then a else b)=k) (hak:a≠k):b=k:=by
 grind
theorem a0i {l:List UInt8} (h:w.data.toList=l):m9 w=m9 ⟨⟨l⟩⟩:=by unfold m9;simp only [h]
theorem b1P:w.toList=(⟨#[115,121,110,99]⟩:ByteArray).toList↔m9 w=0:=by
 rw [a0h]
 show w.data.toList=[115,121,110,99]↔_
 constructor
 ·intro h;exact (a0i h).trans (by decide)
 ·intro h
  unfold m9 at h
  refine Decidable.byContradiction λhn=>?_
  rw [if_neg hn] at h
  iterate 12 have h:=U8 h (by decide)
  cases h
theorem b1Q:w.toList=(⟨#[114,97,105,115,101,100]⟩:ByteArray).toList↔m9 w=1:=by
 rw [a0h]
 show w.data.toList=[114,97,105,115,101,100]↔_
 constructor
 ·intro h;exact (a0i h).trans (by decide)
 ·intro h
  unfold m9 at h
  refine Decidable.byContradiction λhn=>?_
  have h:=U8 h (by decide)
  rw [if_neg hn] at h
  iterate 11 have h:=U8 h (by decide)
  cases h
theorem b1R:w.toList=(⟨#[105,100,108,101]⟩:ByteArray).toList↔m9 w=2:=by
 rw [a0h]
 show w.data.toList=[105,100,108,101]↔_
 constructor
 ·intro h;exact (a0i h).trans (by decide)
 ·intro h
  unfold m9 at h
  refine Decidable.byContradiction λhn=>?_
  iterate 2 have h:=U8 h (by decide)
  rw [if_neg hn] at h
  iterate 10 have h:=U8 h (by decide)
  cases h
theorem b1S:w.toList=(⟨#[114,97,105,115,101]⟩:ByteArray).toList↔m9 w=3:=by
 rw [a0h]
 show w.data.toList=[114,97,105,115,101]↔_
 constructor
 ·intro h;exact (a0i h).trans (by decide)
 ·intro h
  unfold m9 at h
  refine Decidable.byContradiction λhn=>?_
  iterate 3 have h:=U8 h (by decide)
  grind
theorem b1T:w.toList=(⟨#[101,110,97,98,108,101]⟩:ByteArray).toList↔m9 w=4:=by
 rw [a0h]
 show w.data.toList=[101,110,97,98,108,101]↔_
 constructor
 ·intro h;exact (a0i h).trans (by decide)
 ·intro h
  unfold m9 at h
  refine Decidable.byContradiction λhn=>?_
  iterate 4 have h:=U8 h (by decide)
  grind
theorem b1U:w.toList=(⟨#[100,105,115,97,98,108,101]⟩:ByteArray).toList↔m9 w=5:=by
 rw [a0h]
 show w.data.toList=[100,105,115,97,98,108,101]↔_
 constructor
 ·intro h;exact (a0i h).trans (by decide)
 ·intro h
  unfold m9 at h
  refine Decidable.byContradiction λhn=>?_
  iterate 5 have h:=U8 h (by decide)
  grind
theorem b1V:w.toList=(⟨#[116,97,107,101]⟩:ByteArray).toList↔m9 w=6:=by
 rw [a0h]
 show w.data.toList=[116,97,107,101]↔_
 constructor
 ·intro h;exact (a0i h).trans (by decide)
 ·intro h
  unfold m9 at h
  refine Decidable.byContradiction λhn=>?_
  iterate 6 have h:=U8 h (by decide)
  grind
theorem b1W:w.toList=(⟨#[108,101,97,118,101]⟩:ByteArray).toList↔m9 w=7:=by
 rw [a0h]
 show w.data.toList=[108,101,97,118,101]↔_
 constructor
 ·intro h;exact (a0i h).trans (by decide)
 ·intro h
  unfold m9 at h
  refine Decidable.byContradiction λhn=>?_
  iterate 7 have h:=U8 h (by decide)
  grind
theorem b1X:w.toList=(⟨#[112,101,110,100,105,110,103]⟩:ByteArray).toList↔m9 w=8:=by
 rw [a0h]
 show w.data.toList=[112,101,110,100,105,110,103]↔_
 constructor
 ·intro h;exact (a0i h).trans (by decide)
 ·intro h
  unfold m9 at h
  refine Decidable.byContradiction λhn=>?_
  iterate 8 have h:=U8 h (by decide)
  grind
theorem b1Y:w.toList=(⟨#[115,116,97,99,107]⟩:ByteArray).toList↔m9 w=9:=by
 rw [a0h]
 show w.data.toList=[115,116,97,99,107]↔_
 constructor
 ·intro h;exact (a0i h).trans (by decide)
 ·intro h
  unfold m9 at h
  refine Decidable.byContradiction λhn=>?_
  iterate 9 have h:=U8 h (by decide)
  grind
theorem b2Y:w.toList=(⟨#[110,101,120,116]⟩:ByteArray).toList↔m9 w=10:=by
 rw [a0h]
 show w.data.toList=[110,101,120,116]↔_
 constructor
 ·intro h;exact (a0i h).trans (by decide)
 ·intro h
  unfold m9 at h
  refine Decidable.byContradiction λhn=>?_
  iterate 10 have h:=U8 h (by decide)
  grind
theorem a8i:w.toList=(⟨#[115,108,111,116,115]⟩:ByteArray).toList↔m9 w=11:=by
 rw [a0h]
 show w.data.toList=[115,108,111,116,115]↔_
 constructor
 ·intro h;exact (a0i h).trans (by decide)
 ·intro h
  unfold m9 at h
  refine Decidable.byContradiction λhn=>?_
  iterate 11 have h:=U8 h (by decide)
  grind
theorem a8j:w.toList=(⟨#[109,97,115,107]⟩:ByteArray).toList↔m9 w=12:=by
 rw [a0h]
 show w.data.toList=[109,97,115,107]↔_
 constructor
 ·intro h;exact (a0i h).trans (by decide)
 ·intro h
  unfold m9 at h
  refine Decidable.byContradiction λhn=>?_
  iterate 12 have h:=U8 h (by decide)
  grind
theorem b2Z {w:ByteArray}:m9 w<=13:=by
 have h:∀(c:Prop) [Decidable c] (a b:Nat),a<=13→b<=13→(if c then a else b)<=13:=λc _ a b h1 h2=>by by_cases hc:c<;>simp [hc,h1,h2]
 unfold m9
 iterate 13 refine h _ _ _ (by decide) ?_
 decide
def a2j (k:Nat):Int:=if k<=2 then 0 else if k<=11 then 1 else if k=12 then 2 else -1
theorem a4s (h:k<=2):a2j k=0:=by unfold a2j;rw [if_pos h]
theorem a0N {k:Nat} (h:3<=k/\k<=11):a2j k=1:=by unfold a2j;rw [if_neg J,if_pos J]
theorem a8k {k:Nat} (h:k=12):a2j k=2:=by unfold a2j;rw [if_neg J,if_neg J,if_pos h]
theorem a6d (h:13<=k):a2j k=-1:=by unfold a2j;rw [if_neg J,if_neg J,if_neg J]
def a0D (k:Nat) (l:List Int):MStep×Bool :=
 if k=3 then (⟨1,l.getD 0 default,0,0⟩,true)
 else if k=4 then (⟨6,l.getD 0 default,0,1⟩,true)
 else if k=5 then (⟨6,l.getD 0 default,0,0⟩,true)
 else if k=0 then (⟨2,0,0,0⟩,true)
 else if k=6 then (⟨3,0,l.getD 0 default,0⟩,true)
 else if k=7 then (⟨4,0,l.getD 0 default,0⟩,true)
 else if k=12 then (⟨5,0,l.getD 0 default,l.getD 1 default⟩,true)
 else (⟨0,0,0,0⟩,false)
def b7t (m:Mach) (s:MStep):Bool:=a0A m && V9 m.cp.length s && (stM m s).2.2
def smT (m:Mach) (s:MStep):Mach×Int×Bool:=if b7t m s then ((stM m s).1,(stM m s).2.1,true) else (⟨[],[],[],[]⟩,0,false)
theorem b1Z {m:Mach} {s:MStep} (h:a0A m=false∨V9 m.cp.length s=false∨(stM m s).2.2=false):smT m s=(⟨[],[],[],[]⟩,0,false):=by
 unfold smT b7t
 grind
theorem c2F {s:MStep} (h1:a0A m=true) (h2:V9 m.cp.length s=true) (h3:(stM m s).2.2=true):smT m s=((stM m s).1,(stM m s).2.1,true):=by
 unfold smT b7t
 grind
def whN (p:Nat→Bool):Nat→List Int
 | 0=>[]
 | i+1=>if p i then whN p i++[(i:Int)] else whN p i
theorem c7Q (h:p i=true):whN p (i+1)=whN p i++[(i:Int)]:=by rw [whN,if_pos h]
theorem c7R (h:p i=false):whN p (i+1)=whN p i:=by rw [whN,if_neg (by simp [h])]
theorem a7q {p:Nat→Bool}:∀{i:Nat},(whN p i).length<=i
 | 0=>Nat.le_refl _
 | i+1=>by
  have:=a7q (p:=p) (i:=i)
  rw [whN]
  grind
theorem b20:∀{i:Nat} {x:Int},x∈whN p i→0<=x/\x < i
 | 0,x,h=>by cases h
 | i+1,x,h=>by
  rw [whN] at h
  split at h
  ·rcases List.mem_append.1 h with h | h
   ·have:=b20 h;omega
   grind
  ·have:=b20 h;omega
theorem b9q {n:Nat} (hn:n<=1000):∀i,i < (whN p n).length→X8 ((whN p n).getD i default):=λi hi=>by
 have hm:(whN p n).getD i default∈whN p n:=by rw [List.getD_eq_getElem?_getD,List.getElem?_eq_getElem hi];exact List.getElem_mem hi
 have:=b20 hm
 exact ⟨by omega,by omega⟩
def raN (m:Mach):List Int:=whN (λi=>m.ra.getD i default) 8
def a2V (x:Ifc):Bool:=decide ((x.st.length:Int) > 0) || decide (((C7 x.qu).length:Int) > 0)
theorem b6k (h:(x.st.length:Int) > 0):a2V x=true:=by unfold a2V;rw [decide_eq_true h];rfl
theorem a9H (h:¬ (x.st.length:Int) > 0):a2V x=decide (((C7 x.qu).length:Int) > 0):=by unfold a2V;rw [decide_eq_false h];rfl
theorem c1y (h:¬ (x.st.length:Int) > 0) (h2:((C7 x.qu).length:Int) > 0):a2V x=true:=by rw [a9H h,decide_eq_true h2]
theorem c1z (h:¬ (x.st.length:Int) > 0) (h2:¬ ((C7 x.qu).length:Int) > 0):a2V x=false:=by rw [a9H h,decide_eq_false h2]
def a83 (m:Mach) (i:Nat):Bool:=m.ra.getD i default && m.en.getD i default
def a8l (m:Mach):Bool:=!a0t 8 (a83 m) && !a0t m.cp.length (λk=>a2V (m.cp.getD k default))
theorem b9r {m:Mach} {i:Nat} (hi:i < 8) (h1:m.ra.getD i default=true) (h2:m.en.getD i default=true):a8l m=false:=by
 unfold a8l
 rw [S5 (i:=i) (show a83 m i=true by unfold a83;rw [h1,h2];rfl) hi]
 rfl
theorem b5r (h:∀j,j < i→a83 m j=false) (hi:8<=i):a8l m=!a0t m.cp.length (λk=>a2V (m.cp.getD k default)):=by
 unfold a8l
 rw [a19 h hi]
 simp
theorem c5M {m:Mach} {i k:Nat} (h:∀j,j < i→a83 m j=false) (hi:8<=i) (hk:k < m.cp.length) (hb:a2V (m.cp.getD k default)=true):a8l m=false:=by
 rw [b5r h hi,S5 (i:=k) hb hk]
 rfl
theorem c5N (h:∀j,j < i→a83 m j=false) (hi:8<=i) (hk:m.cp.length<=k) (hb:∀j,j < k→a2V (m.cp.getD j default)=false):a8l m=true:=by
 rw [b5r h hi,a19 hb hk]
 rfl
theorem c5O (h:m.ra.getD i default=false):a83 m i=false:=by unfold a83;rw [h];rfl
theorem c5P (h:m.en.getD i default=false):a83 m i=false:=by unfold a83;rw [h,Bool.and_false]
theorem c5Q {w:World} {ρ:Nat→Value} {nx:Nat} {a:AV} {f:FuncId}:∀vs,RelVs w ρ nx [a,.v (.func (.func f) #[] #[])] vs→RelVs w ρ nx [a,.fnc f []] vs:=by
 grind [RelVs,RelV]
def Z0 (m:Mach) (k:Nat) (c:Int):ByteArray×Bool :=
 if n7 c 0 ((m.cp.length:Int) - 1)=false then (⟨#[]⟩,false)
 else if k=8 then (a3D (C7 (m.cp.getD c.toNat default).qu),true)
 else if k=9 then (a3D (m.cp.getD c.toNat default).st,true)
 else if k=11 then (a1U (m.cp.getD c.toNat default).qu.sl,true)
 else if k=10 then (if B8 m.rs (R8 m) c.toNat=-1 then b4b else s5 (B8 m.rs (R8 m) c.toNat),true)
 else (⟨#[]⟩,false)
abbrev c5R:ByteArray:=⟨#[121,101,115]⟩
abbrev noB:ByteArray:=⟨#[110,111]⟩
abbrev okB:ByteArray:=⟨#[111,107]⟩
abbrev qmB:ByteArray:=⟨#[63]⟩
def a6e (m:Mach) (k:Nat) (l:List Int):ByteArray×Bool :=
 if k=1 then (a3D (raN m),true) else if k=2 then (if a8l m then c5R else noB,true) else Z0 m k (l.getD 0 default)
section
variable {m:Mach} {k:Nat} {c:Int} {l:List Int}
theorem b9s (h:k=1):a6e m k l=(a3D (raN m),true):=by unfold a6e;rw [if_pos h]
theorem b6l (h:k=2) (hi:a8l m=true):a6e m k l=(c5R,true):=by unfold a6e;rw [if_neg J,if_pos h,if_pos hi]
theorem b6m (h:k=2) (hi:a8l m=false):a6e m k l=(noB,true):=by unfold a6e;rw [if_neg J,if_pos h,if_neg (by simp [hi])]
theorem b9t (h1:k≠1) (h2:k≠2):a6e m k l=Z0 m k (l.getD 0 default):=by unfold a6e;rw [if_neg h1,if_neg h2]
theorem b6n (h:n7 c 0 ((m.cp.length:Int) - 1)=false):Z0 m k c=(⟨#[]⟩,false):=by unfold Z0;rw [if_pos h]
theorem b6o (h:n7 c 0 ((m.cp.length:Int) - 1)=true) (hk:k=8):Z0 m k c=(a3D (C7 (m.cp.getD c.toNat default).qu),true):=by unfold Z0;rw [if_neg (by simp [h]),if_pos hk]
theorem b6p (h:n7 c 0 ((m.cp.length:Int) - 1)=true) (hk:k=9):Z0 m k c=(a3D (m.cp.getD c.toNat default).st,true):=by unfold Z0;rw [if_neg (by simp [h]),if_neg J,if_pos hk]
theorem b4h (h:n7 c 0 ((m.cp.length:Int) - 1)=true) (hk:k=11):Z0 m k c=(a1U (m.cp.getD c.toNat default).qu.sl,true):=by unfold Z0;rw [if_neg (by simp [h]),if_neg J,if_neg J,if_pos hk]
theorem b10 (h:n7 c 0 ((m.cp.length:Int) - 1)=true) (hk:k=10) (hn:B8 m.rs (R8 m) c.toNat=-1):Z0 m k c=(b4b,true):=by unfold Z0;rw [if_neg (by simp [h]),if_neg J,if_neg J,if_neg J,if_pos hk,if_pos hn]
theorem b11 (h:n7 c 0 ((m.cp.length:Int) - 1)=true) (hk:k=10) (hn:¬ B8 m.rs (R8 m) c.toNat=-1):Z0 m k c=(s5 (B8 m.rs (R8 m) c.toNat),true):=by unfold Z0;rw [if_neg (by simp [h]),if_neg J,if_neg J,if_neg J,if_pos hk,if_neg hn]
theorem c1A (h1:k≠8) (h2:k≠9) (h3:k≠11) (h4:k≠10):Z0 m k c=(⟨#[]⟩,false):=by
 grind [Z0]
end
theorem c5S (h:(a0D k l).2=false):k≠0/\k≠3/\k≠4/\k≠5/\k≠6/\k≠7/\k≠12:=by
 refine ⟨?_,?_,?_,?_,?_,?_,?_⟩<;>(rintro rfl;simp [a0D] at h)
theorem c1B (hl:a2j (m9 w)=l.length) (h1:¬ m9 w=1) (h2:¬ m9 w=2) (h:m9 w≠0/\m9 w≠3/\m9 w≠4/\m9 w≠5/\m9 w≠6/\m9 w≠7/\m9 w≠12):l.length=1:=by
 grind [a6d,a0N]
theorem c1C (hl:a2j (m9 w)=l.length) (h1:¬ m9 w=1) (h2:¬ m9 w=2) (h:m9 w≠0/\m9 w≠3/\m9 w≠4/\m9 w≠5/\m9 w≠6/\m9 w≠7/\m9 w≠12) (h5:¬ m9 w=8) (h6:¬ m9 w=9) (h7:¬ m9 w=11):m9 w=10:=by
 grind [a6d]
theorem b9u {q:Que} (h:QF q):∀i,i < (C7 q).length→X8 ((C7 q).getD i default):=λi hi=>by have:=a9E h hi;exact ⟨by omega,by omega⟩
theorem b9v (h:IfF x):∀i,i < x.st.length→X8 (x.st.getD i default):=λi hi=>by
 have hm:x.st.getD i default∈x.st:=by rw [List.getD_eq_getElem?_getD,List.getElem?_eq_getElem hi];exact List.getElem_mem hi
 obtain ⟨j,h1,h2,h3⟩:=(M7 4).mp ((a0o h.qu.sl.len).mp (h.st _ hm))
 have hl:=h.qu.sl.len
 have:=h.qu.sl.nums (i:=j) J (by rcases u3.mp h2 with g | g<;>omega)
 exact ⟨by omega,by omega⟩
theorem b6q:(R8 m).ma.length=m.cp.length:=by unfold R8;simp
end Go.Rf
namespace Go.Rf
open Go Go.RowKit
section
variable {P:Program} [Env P] {w0:Base} {ops:Array Oper} {tb:List (Nat×TyI)} {o:Oper} {rest:List Oper} {T:List (Nat×AV)} {m m1:List (Nat×Option Row)} {nx nt d n1:Nat} {Q:Exit→St→Prop}
def c7S (m1:List (Nat×Option Row)) (n1:Nat) (e:Exit) (S:St):Prop:=(e=.normal∨e=.ret)/\S.m=m1/\S.nx=n1
theorem c5T [EnvAt P w0] {f:FuncId} {fn:Func} {c:Code} {as:Array Operand} {ts:Array TypeId} {args:List AV} {n:Nat} (m1:List (Nat×Option Row)) (n1:Nat) (hd:o.dst=some d) (hlt:Nat.blt d nt=true) (ho:o.op=.call { callee:=.value (.func f),args:=as,argTypes:=ts })
 (hf:P.funcs[f]?=some fn) (hb:fn.body=some c) (hname:(fn.name == "runtime.NumGoroutine")=false) (hl:fn.results=#[]) (hn:fn.ntmps=n) (hlen:Nat.ble args.length n=true) (ha:evL T as.toList []=some args) (hle:Nat.ble nx n1=true)
 (h:∀b:Base,[EnvAt P b]→b.n0=nx→W P b c ⟨a5U args 0,m,nx,n⟩ (c7S m1 n1)) (hk:WL P w0 ops rest ⟨(d,.tup []) :: T,m1,n1,nt⟩ Q):WX P w0 ops o rest ⟨T,m,nx,nt⟩ Q:=by
 rename_i hw0
 intro ρ a w hT hC
 obtain ⟨bs,h1,h2⟩:=a6K hT ha
 simp at h1
 subst h1
 have hcal:Callable P f:=⟨fn,hf,hname,by rw [hb];rfl⟩
 have hrun:(execOp a.eval o).run P w=.ok (.enter f (as.toList.map a.eval).toArray) w:=by
  simp [execOp,ho,resolve,Deferred.ofValue,invoke,Act.eval,a0s hcal,← Array.toList_map]
 unfold Oper.wp
 rw [hrun,Oper.upon_enter]
 let b:Base:=⟨w0.w,nx,ρ,w,w0.keep,λc hc=>Nat.lt_of_lt_of_le (w0.kb c hc) hC.kept.1,w0.E,w0.hE⟩
 have hen:EnvAt P b:=⟨hw0.e⟩
 have hCb:RelC b ρ m nx w:=⟨hC.rows,hC.apart,hC.below,⟨Nat.le_refl _,λ_ _=>Z⟩,⟨Nat.le_refl _,λ_ _=>Z,hC.kept.2.2⟩,hC.inner⟩
 have hlen':args.length<=n:=Nat.le_of_ble_eq_true hlen
 have hTb:=a3l (b:=b) (fn:=fn) (show RelVs b.w ρ nx args (as.toList.map a.eval) from h2) hlen' hn
 have hcalls:Calls P f (as.toList.map a.eval).toArray w (λen w'=>∃ρ',en=.returned (.tuple #[])/\(∀i,i < nx→ρ' i=ρ i)/\RelC b ρ' m1 n1 w'):=by
  refine calls_of_wp hf hb ?_
  refine wp_mono (h b Z ρ _ w hTb hCb) ?_
  have fin:∀(ρ':Nat→Value) (S:St) (a':Act) (w':World),S.m=m1→S.nx=n1→RelT b ρ' S.T S.nx S.nt a'→RelC b ρ' S.m S.nx w' →
   a'.defers=[]/\∃v,(results fn a'.tmps).run P w'=.ok v w'/\∃ρ',Ending.returned v=.returned (.tuple #[])/\(∀i,i < nx→ρ' i=ρ i)/\RelC b ρ' m1 n1 w':=by
   intro ρ' S a' w' e1 e2 hT' hC'
   refine ⟨hT'.defers,.tuple #[],?_,ρ',Z,λi hi=>hC'.pin.2 i hi,by rw [← e1,← e2];exact hC'⟩
   have:=V6 (P:=P) (fn:=fn) (l:=[]) (ys:=[]) (tmps:=a'.tmps) (w:=w') (by rw [hl]) (by simp)
   simpa using this
  rintro e a' w' ⟨ρ',S,⟨hq,e1,e2⟩,hT',hC'⟩
  rcases hq with rfl | rfl
  ·exact fin ρ' S a' w' e1 e2 hT' hC'
  ·exact fin ρ' S a' w' e1 e2 hT' hC'
 refine hcalls.mono λex w' ⟨ρ',he,q1,q2⟩=>?_
 subst he
 have hn1:=Nat.le_of_ble_eq_true hle
 refine hk ρ' _ w' ?_ ⟨q2.rows,q2.apart,q2.below,⟨Nat.le_trans hC.pin.1 hn1,λi hi=>by rw [q1 i (Nat.lt_of_lt_of_le hi hC.pin.1)];exact hC.pin.2 i hi⟩,⟨Nat.le_trans hC.kept.1 q2.kept.1,λc hc=>(q2.kept.2.1 c hc).trans (hC.kept.2.1 c hc),q2.kept.2.2⟩,q2.inner⟩
 rw [hd]
 have hT':RelT w0 ρ' T n1 nt a:=⟨λt x hx=>(hT.tmps t x hx).mono hn1 q1,hT.size,hT.defers⟩
 exact hT'.put hlt (by simp only [RelV];exact ⟨[],Z,by simp only [RelVs]⟩)
end
end Go.Rf
