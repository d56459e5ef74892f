/- Texts merged into one: RfNT, RfMA, RfNV, RfMB, RfMC, RfMD, RfNU, RfME, RfMF, RfMG, RfMH, RfMI, RfMJ, RfNX, Rf5, Rf6, RfNP, RfMK, RfMQ, RfNY, RfML, RfMO, RfMP, RfCA, RfCB, RfCC, RfNO. -/
import Derived.Test.YtdhckhjphmjniaaGreatDoorLibC
import Derived.Lib.Join
set_option linter.unusedSectionVars false
set_option linter.unusedSimpArgs false
set_option linter.unusedVariables false
namespace Go.Rf
open Go
section
variable {k:Int} {xss:List (List Int)}
end
end Go.Rf
namespace Go.Rf
end Go.Rf
namespace Go.Rf
open Go
variable {f:Nat→Bool} {i n:Nat} {most:Bool}
structure Slot where
 s:Int
 q:Int
 p:Int
 deriving Inhabited,DecidableEq
variable {sl:List Slot} {x:Slot}
def g8 (x:Slot):List Value:=[.int .i64 x.s,.int .i64 x.q,.int .i64 x.p]
def a8T (x:Slot):Value:=.agg ⟨g8 x⟩
structure Wtr where
 q:Int
 p:Int
 deriving Inhabited,DecidableEq
variable {a b:Wtr}
def j6 (x:Wtr):List Value:=[.int .i64 x.q,.int .i64 x.p]
def a5M (x:Wtr):Value:=.agg ⟨j6 x⟩
structure Que where
 sl:List Slot
 wa:List Wtr
 deriving Inhabited,DecidableEq
structure Ifc where
 ma:Int
 st:List Int
 qu:Que
 deriving Inhabited,DecidableEq
structure Mach where
 rs:List Route
 en:List Bool
 ra:List Bool
 cp:List Ifc
 deriving Inhabited,DecidableEq
def zSl:Slot:=⟨0,0,0⟩
def wOf (x:Slot):Wtr:=⟨x.q,x.p⟩
def fdP (irq:Int) (x:Slot):Bool:=!(decide (x.s=0)) && decide (x.q=irq)
def o9 (sl:List Slot) (irq:Int):Int:=P3 (λi=>fdP irq (sl.getD i default)) sl.length
def emP (x:Slot):Bool:=decide (x.s=0)
def freS (sl:List Slot):Int:=P3 (λi=>emP (sl.getD i default)) sl.length
def b0n (x:Slot):Bool:=n8 x.s 1 3 && (n8 x.q 0 7 && n8 x.p 0 15)
def J3 (sl:List Slot) (i:Nat):Bool:=if (sl.getD i default).s=0 then decide (sl.getD i default=zSl) else b0n (sl.getD i default) && !(a0x i (λj=>fdP (sl.getD i default).q (sl.getD j default)))
def a6e (sl:List Slot):Bool:=decide (sl.length=4) && a2h sl.length (J3 sl)
def a6f (x y:Int):Int:=if x < y then -1 else if y < x then 1 else 0
def urg (a b:Wtr):Int:=if a6f a.p b.p=0 then a6f a.q b.q else a6f a.p b.p
def lessW (a b:Wtr):Bool:=decide (a.p < b.p) || (decide (a.p=b.p) && decide (a.q < b.q))
theorem V6:lessW a b=true↔a.p < b.p∨(a.p=b.p/\a.q < b.q):=by simp [lessW]
theorem b8O:lessW a b=false↔¬ (a.p < b.p∨(a.p=b.p/\a.q < b.q)):=by rw [← Bool.not_eq_true,V6]
theorem a1Z:urg a b < 0↔lessW a b=true:=by
 grind [V6,urg,a6f]
theorem c1s:0 < urg a b↔lessW b a=true:=by
 grind [V6,urg,a6f]
theorem b5m (h:lessW a b=true):lessW b a=false:=by rw [V6] at h;rw [b8O];omega
theorem P5 {c:Wtr} (h:lessW a b=true) (h':lessW b c=true):lessW a c=true:=by rw [V6] at *;omega
theorem a1d (h:a.q≠b.q):lessW a b=!(lessW b a):=by
 grind [V6]
def a4x (sl:List Slot) (most:Bool) (b:Int) (i:Nat):Bool:=decide ((sl.getD i default).s=1) && (decide (b < 0) || (if most then lessW (wOf (sl.getD i default)) (wOf (sl.getD b.toNat default)) else lessW (wOf (sl.getD b.toNat default)) (wOf (sl.getD i default))))
def F2 (sl:List Slot) (most:Bool):Nat→Int
 | 0=>-1
 | i+1=>if a4x sl most (F2 sl most i) i then (i:Int) else F2 sl most i
theorem a2U:F2 sl most (i+1)=if a4x sl most (F2 sl most i) i then (i:Int) else F2 sl most i:=rfl
theorem a2l (h:a4x sl most (F2 sl most i) i=true):F2 sl most (i+1)=(i:Int):=by rw [a2U,if_pos h]
theorem a2m (h:a4x sl most (F2 sl most i) i=false):F2 sl most (i+1)=F2 sl most i:=by rw [a2U,if_neg (by rw [h];decide)]
theorem a03 {sl:List Slot} {most:Bool}:∀i,-1<=F2 sl most i/\F2 sl most i < i
 | 0=>by simp [F2]
 | i+1=>by
  have:=@a03 sl most i
  rw [a2U]
  split<;>omega
theorem a2V {sl:List Slot} {most:Bool}:∀i,0<=F2 sl most i→(sl.getD (F2 sl most i).toNat default).s=1
 | 0=>by simp [F2]
 | i+1=>by
  have ih:=@a2V sl most i
  rw [a2U]
  split
  ·grind [a4x]
  ·exact ih
theorem b0o {sl:List Slot} {most:Bool}:∀i,F2 sl most i < 0↔∀j,j < i→(sl.getD j default).s≠1
 | 0=>by simp [F2]
 | i+1=>by
  have ih:=@b0o sl most i
  rw [a2U]
  constructor
  ·grind [a4x]
  ·grind [a4x]
def bstS (sl:List Slot) (most:Bool):Int:=F2 sl most sl.length
def b8P (sl:List Slot):Prop:=∀i j,i < j→j < sl.length→(sl.getD i default).s=1→(sl.getD j default).s=1→(sl.getD i default).q≠(sl.getD j default).q
theorem c1t (hd:b8P sl) (hi:i < sl.length) (h1:(sl.getD i default).s=1) (hb:0<=F2 sl most i):(if most then lessW (wOf (sl.getD i default)) (wOf (sl.getD (F2 sl most i).toNat default)) else lessW (wOf (sl.getD (F2 sl most i).toNat default)) (wOf (sl.getD i default)))=(decide (urg (wOf (sl.getD i default)) (wOf (sl.getD (F2 sl most i).toNat default)) < 0)==most):=by
 have hbl:=@a03 sl most i
 have hne:=hd (F2 sl most i).toNat i J hi (a2V i hb) h1
 have hne':(wOf (sl.getD i default)).q≠(wOf (sl.getD (F2 sl most i).toNat default)).q:=λe=>hne e.symm
 have e:decide (urg (wOf (sl.getD i default)) (wOf (sl.getD (F2 sl most i).toNat default)) < 0)=lessW (wOf (sl.getD i default)) (wOf (sl.getD (F2 sl most i).toNat default)):=by
  rw [Bool.eq_iff_iff,decide_eq_true_iff];exact a1Z
 rw [e]
 cases most
 ·grind [a1d]
 ·simp
theorem b4d:a6e sl=true↔sl.length=4/\∀i,i < 4→J3 sl i=true:=by
 grind [a6e,C5]
theorem a4y:b0n x=true↔(1<=x.s/\x.s<=3)/\(0<=x.q/\x.q<=7)/\0<=x.p/\x.p<=15:=by simp only [b0n,Bool.and_eq_true,v7]
theorem a3C {irq:Int}:fdP irq x=true↔x.s≠0/\x.q=irq:=by simp [fdP]
theorem b0p:a0x n f=true↔∃i,i < n/\f i=true:=by
 grind [a0x,a2h]
theorem a10:a0x n f=false↔∀i,i < n→f i=false:=by
 constructor
 ·intro h i hi
  cases hf:f i
  ·rfl
  ·rw [U1 hf hi] at h;cases h
 ·exact λh=>a2i h (Nat.le_refl _)
structure SlF (sl:List Slot):Prop where
 len:sl.length=4
 z:∀i,i < 4→(sl.getD i default).s=0→sl.getD i default=zSl
 ok:∀i,i < 4→(sl.getD i default).s≠0→(1<=(sl.getD i default).s/\(sl.getD i default).s<=3)/\(0<=(sl.getD i default).q/\(sl.getD i default).q<=7)/\0<=(sl.getD i default).p/\(sl.getD i default).p<=15
 dif:∀i j,i < j→j < 4→(sl.getD i default).s≠0→(sl.getD j default).s≠0→(sl.getD i default).q≠(sl.getD j default).q
theorem slF:a6e sl=true↔SlF sl:=by
 rw [b4d]
 constructor
 ·rintro ⟨h1,h2⟩
  refine ⟨h1,λi hi hz=>?_,λi hi hz=>?_,λi j hij hj hi0 hj0=>?_⟩
  ·grind [J3]
  ·grind [J3,a4y]
  ·grind [J3,a10,a3C]
 ·rintro ⟨h1,h2,h3,h4⟩
  refine ⟨h1,λi hi=>?_⟩
  unfold J3
  split
  ·grind
  ·grind [a10,a4y,a3C]
theorem SlF.difS (h:SlF sl):b8P sl:=λi j hij hj h1 h2=>h.dif i j hij (by rw [← h.len];exact hj) J J
theorem b1K {sl:List Slot} {irq:Int}:(o9 sl irq=-1/\∀i,i < sl.length→fdP irq (sl.getD i default)=false)∨∃i:Nat,o9 sl irq=i/\i < sl.length/\(sl.getD i default).s≠0/\(sl.getD i default).q=irq:=by
 grind [o9,b57,a2G,a3C]
theorem b1L {sl:List Slot}:(freS sl=-1/\∀i,i < sl.length→(sl.getD i default).s≠0)∨∃i:Nat,freS sl=i/\i < sl.length/\(sl.getD i default).s=0:=by
 grind [freS,b57,emP,a2G]
theorem b4e (hi:i < sl.length) (h0:(sl.getD i default).s≠0):o9 sl (sl.getD i default).q=i↔a0x i (λj=>fdP (sl.getD i default).q (sl.getD j default))=false:=by
 grind [a2G,o9,a10,S3,a3C]
end Go.Rf
namespace Go.Rf
open Go Go.RowKit
section
variable {P:Program} [Env P] {w0:Base} {ops:Array Oper} {tb:List (Nat×TyI)} {o:Oper} {rest:List Oper} {T:List (Nat×AV)} {m m':List (Nat×Option Row)} {nx nt d:Nat} {Q:Exit→St→Prop} {c:Code} {r:AV}
theorem Gh.tl {id e sz:Nat} {ys:List (List Value)} {f:Bool} (hm:mem m id=some (.row e sz ys f)):Gh w0 ⟨T,m,nx,nt⟩ ⟨T,(id,some (.row e sz ys true)) :: m,nx,nt⟩:=by
 intro ρ a w hT hC
 obtain ⟨h1,h2⟩:=hC.rowF hm
 exact ⟨ρ,hT,hC.retell hm (row':=.row e sz ys true) ⟨h1.gen,h2⟩ λp b hb=>by cases hb⟩
theorem c1u {t e e' sz by_ id:Nat} {zs:List Value} {ys:List (List Value)} {f:Bool} {x lo:Operand} {k:IntKind} {l:Int} (G:Good P tb) (nx':Nat) (hn':Nat.beq nx' (Nat.succ nx)=true) (hd:o.dst=some d) (hlt:Nat.blt d nt=true) (ho:o.op=.slice t x (some lo) none none) (ht:look t tb=some (.slice e sz by_ zs)) (hx:ev T x=some (.own id)) (hm:mem m id=some (.row e' sz ys f))
 (hl:ev T lo=some (.v (.int k l))) (h0:0<=l) (h1:l<=ys.length)
 (hk:WL P w0 ops rest ⟨(d,.own nx) :: T,(nx,some (.row e' sz (ys.drop l.toNat) true)) :: (id,none) :: m,nx',nt⟩ Q):WX P w0 ops o rest ⟨T,m,nx,nt⟩ Q:=by
 have hn'':=Nat.eq_of_beq_eq_true hn'
 subst hn''
 intro ρ a w hT hC
 have hxe:=hT.ev hx
 simp only [RelV] at hxe
 obtain ⟨hrow,hall⟩:=hC.rowF hm
 obtain ⟨A,cap,he,hcap⟩:=hrow.slice
 have hrun:=a9B (G t _ ht) hT (A:=A) (lo:=some lo) (hi:=none) (l:=l) (h:=ys.length) (n:=ys.length) (cap:=cap) (by simp only [a5Y,hl]) (by simp [a5Y]) h0 h1 (Int.le_refl _) hcap w
 have hr:(execOp a.eval o).run P w=.ok (.value (.slice (if cap=l.toNat then A else A.map (·.add (l.toNat * sz))) (ys.length - l.toNat) (cap - l.toNat))) w:=by
  simp only [Option.map_none,Option.map_some,Int.toNat_natCast] at hrun
  simp only [execOp,ho,hxe.2,he,Option.map_none,Option.map_some,hrun,Sem.run_bind,Result.andThen_ok,Sem.run_pure]
 unfold Oper.wp
 rw [hr,Oper.upon_value,hd]
 generalize hv:(Value.slice (if cap=l.toNat then A else A.map (·.add (l.toNat * sz))) (ys.length - l.toNat) (cap - l.toNat))=v
 have hdl:(ys.drop l.toNat).length=ys.length - l.toNat:=List.length_drop
 have hbk:∀b,blk v=some b→blk (ρ id)=some b:=by
  intro b hb
  rw [he]
  rw [← hv] at hb
  cases A with
  | none=>split at hb<;>simp [blk] at hb
  | some ad =>
   grind [blk,E0]
 have hown:TlR w w0.w.heap.size e' sz v (ys.drop l.toNat):=by
  rcases hrow.gen with ⟨g1,rfl⟩ | ⟨g,o',cap',cur,g1,g2,g3,g4,g5,g6⟩
  ·refine .inl ⟨?_,by simp⟩
   grind
  ·rw [he] at g1
   cases g1
   have hF:=m6 (λc hc=>(hall c hc).1)
   by_cases hc:cap=l.toNat
   ·have hz:ys.length - l.toNat=0:=by omega
    have hnil:ys.drop l.toNat=[]:=List.drop_eq_nil_of_le J
    rw [if_pos hc] at hv
    exact .inr ⟨g,o',cap - l.toNat,cur,by rw [← hv,hdl],g2,g3,by rw [hdl];omega,g5,by rw [hnil];simp⟩
   ·rw [if_neg hc] at hv
    have hcc:cur.toList.length=cur.size:=by simp
    have hlen0:((cur.toList.drop o').take (ys.length * sz)).length=ys.length * sz:=by rw [g6];exact hF
    have hle:l.toNat * sz<=ys.length * sz:=Nat.mul_le_mul_right _ J
    rw [List.length_take,List.length_drop,hcc] at hlen0
    refine .inr ⟨g,o'+l.toNat * sz,cap - l.toNat,cur,by rw [← hv,hdl];simp [Addr.add_lit],g2,g3,by rw [hdl];omega,by omega,?_⟩
    rw [hdl,a02 (λc hc=>(hall c hc).1) J,← g6,Nat.sub_mul,List.drop_take,List.drop_drop]
 have hC2:RelC w0 ρ ((id,none) :: m) nx w:=hC.sub λi r hr=>by
  grind [l5,e7]
 refine hk (upd ρ nx v) _ _ ((hT.add v).put hlt (by simp only [RelV];exact ⟨by omega,(l3 _ _ _).symm⟩)) (hC2.addP (λ_=>Z) ?_ ?_ ?_)
 ·refine ⟨?_,λc hc=>hall c (List.mem_of_mem_drop hc)⟩
  rw [l3]
  exact hown
 ·intro i r hr b hb hy
  by_cases e:id=i
  ·subst e;rw [l5] at hr;cases hr
  ·rw [e7 e] at hr
   exact hC.foot_apart hr hm (Ne.symm e) hb (.inl (hbk b hy))
 ·intro b hb
  exact hC.kept.2.2 id _ hm b (hbk b hb)
end
variable {T:List (Nat×AV)} {a b c d e:Int} {f:FuncId} {m:List (Nat×Option Row)} {x:Operand} {xs:List Operand} {ys:List (List Value)} {z:Value}
theorem ArgOK.fn {nx:Nat} {av:AV} (h:ArgOK m nx av (.v (.func (.func f) #[] #[]))):ArgOK m nx av (.fnc f []):=λw0 ρ w y hC hy=>by
 have:=h w0 ρ w y hC hy
 simp only [RelV] at this ⊢
 exact ⟨[],this,by simp [RelVs]⟩
theorem ArgsOK.fn2 {nx:Nat} {a:AV} (h:ArgsOK T m nx xs [a,.v (.func (.func f) #[] #[])]):ArgsOK T m nx xs [a,.fnc f []]:=by
 match xs,h with
 | x :: xs,⟨av,_,_,e,h1,h2,h3⟩ =>
  cases e
  match xs,h3 with
  | y :: ys,⟨av',_,_,e',g1,g2,g3⟩ =>
   cases e'
   exact ⟨av,_,_,Z,h1,h2,av',_,_,Z,g1,g2.fn,g3⟩
theorem ec3 {f:Int}:B3 [.int .i64 a,.int .i64 b,.int .i64 c] [.int .i64 d,.int .i64 e,.int .i64 f]=true↔a=d/\b=e/\c=f:=by
 simp [B3,X2]
theorem ec2:B3 [.int .i64 a,.int .i64 b] [.int .i64 d,.int .i64 e]=true↔a=d/\b=e:=by
 simp [B3,X2]
theorem c9W {f:Int} (h:B3 [.int .i64 a,.int .i64 b,.int .i64 c] [.int .i64 d,.int .i64 e,.int .i64 f]=false):¬ (a=d/\b=e/\c=f):=λg=>by rw [ec3.mpr g] at h;cases h
theorem ArgOK.pin {nx:Nat} {sz:Nat}:ArgOK m nx (.pin z sz ys) (.pin z sz ys):=λw0 ρ w y hC hy=>by
 simp only [RelV] at hy ⊢
 exact ⟨hy.1,hy.2.later hC.below⟩
theorem ArgsOK.pin1 {nx:Nat} {sz:Nat} {as:List AV} (hx:ev T x=some (.pin z sz ys)) (h:ArgsOK T m nx (x :: xs) (.lst sz ys :: as)):ArgsOK T m nx (x :: xs) (.pin z sz ys :: as):=by
 obtain ⟨av,a,as',e,h1,h2,h3⟩:=h
 cases e
 exact ⟨_,_,_,Z,hx,ArgOK.pin,h3⟩
section
variable {w0:Base} {T:List (Nat×AV)} {m:List (Nat×Option Row)} {nx nt:Nat}
theorem Gh.asPin {d t:Nat} {z:Value} {sz:Nat} {ys:List (List Value)} (hd:look d T=some (.v z)) (ht:look t T=some (.pin z sz ys)):Gh w0 ⟨T,m,nx,nt⟩ ⟨(d,.pin z sz ys) :: T,m,nx,nt⟩:=by
 intro ρ a w hT hC
 refine ⟨ρ,⟨λi x hi=>?_,hT.size,hT.defers⟩,hC⟩
 by_cases e:d=i
 ·subst e
  rw [p9] at hi
  cases hi
  have h1:=hT.tmps d _ hd
  have h2:=hT.tmps t _ ht
  simp only [RelV] at h1 h2 ⊢
  grind
 ·rw [l6 e] at hi
  exact hT.tmps i x hi
end
end Go.Rf
namespace Go.Rf
open Go
variable {f:Nat→Bool} {i n:Nat}
def orI (l:List Int):Int:=if P3 (λi=>!decide (l.getD i default=0)) l.length=-1 then 0 else l.getD (P3 (λi=>!decide (l.getD i default=0)) l.length).toNat default
theorem b8Q {l:List Int} (h:∀j,j < i→l.getD j default=0) (hi:i < l.length) (h0:¬ l.getD i default=0):orI l=l.getD i default:=by
 grind [orI,S3]
theorem c2X {l:List Int} {i:Nat} (h:∀j,j < i→l.getD j default=0) (hi:l.length<=i):orI l=0:=by
 grind [orI,a1j]
theorem c1v {a b:Wtr}:orI [a6f a.p b.p,a6f a.q b.q]=urg a b:=by
 unfold urg
 by_cases h:a6f a.p b.p=0
 ·rw [if_pos h]
  by_cases h2:a6f a.q b.q=0
  ·have e:orI [a6f a.p b.p,a6f a.q b.q]=0:=c2X (i:=2) (λj hj=>by
    match j,hj with
    | 0,_=>exact h
    | 1,_=>exact h2) (by simp)
   rw [e];exact h2.symm
  ·exact b8Q (i:=1) (λj hj=>by
    match j,hj with
    | 0,_=>exact h) (by simp) h2
 ·rw [if_neg h]
  exact b8Q (i:=0) (λj hj=>by omega) (by simp) h
theorem b1M {g:Nat→Bool} (h:∀j,j < n→f j=g j):P3 f n=P3 g n:=by
 grind [a2G,S3]
theorem a2W {α:Type} [Inhabited α] {l:List α} {i j:Nat} (h:j < i):(l.take i).getD j default=l.getD j default:=by
 grind
theorem b8R {sl:List Slot} {q:Int} (hi:i<=sl.length):o9 (sl.take i) q=P3 (λj=>fdP q (sl.getD j default)) i:=by
 grind [o9,b1M]
theorem b5n:0<=P3 f n↔a0x n f=true:=by
 have:=a5d (f:=f) (n:=n)
 rw [← this];simp
theorem a9G:P3 f n < 0↔a0x n f=false:=by
 have:=a5d (f:=f) (n:=n)
 rw [← this];simp
theorem b5o {f:Nat→Bool} {n:Nat}:-1<=P3 f n/\P3 f n < n∨(P3 f n=-1):=by
 grind [a2G]
theorem a1r {sl:List Slot} {q:Int}:-1<=o9 sl q/\o9 sl q < sl.length:=by
 have:=@b5o (λi=>fdP q (sl.getD i default)) sl.length
 unfold o9
 omega
theorem b5p {sl:List Slot}:-1<=freS sl/\freS sl < sl.length:=by
 have:=@b5o (λi=>emP (sl.getD i default)) sl.length
 unfold freS
 omega
section
variable {sl:List Slot} {i:Nat}
theorem c2Y (h0:(sl.getD i default).s=0) (h:sl.getD i default=zSl):J3 sl i=true:=by unfold J3;rw [if_pos h0];exact decide_eq_true h
theorem b8S (h0:(sl.getD i default).s=0) (h:¬ sl.getD i default=zSl):J3 sl i=false:=by unfold J3;rw [if_pos h0];exact decide_eq_false h
theorem c2Z (h0:¬ (sl.getD i default).s=0) (h1:b0n (sl.getD i default)=true) (h2:a0x i (λj=>fdP (sl.getD i default).q (sl.getD j default))=false):J3 sl i=true:=by unfold J3;rw [if_neg h0,h1,h2];rfl
theorem b5q (h0:¬ (sl.getD i default).s=0) (h1:b0n (sl.getD i default)=false):J3 sl i=false:=by unfold J3;rw [if_neg h0,h1];rfl
theorem b8T (h0:¬ (sl.getD i default).s=0) (h2:a0x i (λj=>fdP (sl.getD i default).q (sl.getD j default))=true):J3 sl i=false:=by unfold J3;rw [if_neg h0,h2,Bool.not_true,Bool.and_false]
theorem b5r (h:J3 sl i=false) (hi:i < sl.length):a6e sl=false:=by unfold a6e;rw [a1h h hi,Bool.and_false]
theorem b5s (h:sl.length≠4):a6e sl=false:=by unfold a6e;rw [decide_eq_false h,Bool.false_and]
theorem b8U (hl:sl.length=4) (h:∀j,j < i→J3 sl j=true) (hi:4<=i):a6e sl=true:=b4d.mpr ⟨hl,λj hj=>h j J⟩
theorem b0q {x:Slot}:x=zSl↔x.s=0/\x.q=0/\x.p=0:=by cases x;simp [zSl]
theorem b8V (h1:¬ ((0<=(sl.getD i default).s/\(sl.getD i default).s<=3)/\(0<=(sl.getD i default).q/\(sl.getD i default).q<=7)/\0<=(sl.getD i default).p/\(sl.getD i default).p<=15)):J3 sl i=false:=by
 grind [J3,zSl,a4y]
theorem c1w (hi:i < sl.length) (h1:(0<=(sl.getD i default).s/\(sl.getD i default).s<=3)/\(0<=(sl.getD i default).q/\(sl.getD i default).q<=7)/\0<=(sl.getD i default).p/\(sl.getD i default).p<=15)
 (h2:¬ ((sl.getD i default).s=0/\((sl.getD i default).q≠0∨(sl.getD i default).p≠0))) (h3:(sl.getD i default).s≠0→o9 sl (sl.getD i default).q=i):J3 sl i=true:=by
 grind [c2Y,b0q,c2Z,a4y,b4e]
theorem c1x (h0:(sl.getD i default).s=0) (h:(sl.getD i default).q≠0∨(sl.getD i default).p≠0):J3 sl i=false:=b8S h0 (λe=>by rw [e] at h;simp [zSl] at h)
theorem c1y (hi:i < sl.length) (h0:(sl.getD i default).s≠0) (h:o9 sl (sl.getD i default).q≠i):J3 sl i=false:=b8T h0 (by
 rw [← Bool.not_eq_false];exact λg=>h ((b4e hi h0).mpr g))
end
end Go.Rf
namespace Go.Rf
variable {b:Int} {i:Nat} {sl:List Slot} {w:Wtr} {wa:List Wtr} {x:Slot}
theorem c5B (h:n8 x.s 1 3=false):b0n x=false:=by simp only [b0n,h,Bool.false_and]
theorem c5C (h:n8 x.q 0 7=false):b0n x=false:=by simp only [b0n,h,Bool.false_and,Bool.and_false]
theorem c5D (h:n8 x.p 0 15=false):b0n x=false:=by simp only [b0n,h,Bool.and_false]
theorem b8W (h:∀j,j < i→J3 sl j=true) (hi:sl.length<=i):((sl.length:Int)==4)=a6e sl:=by
 by_cases hl:sl.length=4
 ·rw [b8U hl h J];simp [hl]
 ·rw [b5s hl]
  grind
section
variable {sl:List Slot} {most:Bool} {i:Nat}
theorem a5p (h:¬ (sl.getD i default).s=1):a4x sl most b i=false:=by simp only [a4x,decide_eq_false h,Bool.false_and]
theorem a5q (h:(sl.getD i default).s=1) (hb:b < 0):a4x sl most b i=true:=by simp only [a4x,decide_eq_true h,decide_eq_true hb,Bool.true_or,Bool.true_and]
theorem b2Q (hd:b8P sl) (hi:i < sl.length) (h:(sl.getD i default).s=1) (hb:0<=F2 sl most i):a4x sl most (F2 sl most i) i=(decide (urg (wOf (sl.getD i default)) (wOf (sl.getD (F2 sl most i).toNat default)) < 0)==most):=by
 grind [c1t,a4x]
theorem a4z (h:(sl.getD i default).s=1) (hb:¬ b < 0):a4x sl most b i=(if most then lessW (wOf (sl.getD i default)) (wOf (sl.getD b.toNat default)) else lessW (wOf (sl.getD b.toNat default)) (wOf (sl.getD i default))):=by
 grind [a4x]
theorem a32 {α:Type} {f:α→List Value} {l:List α} {i:Nat} {x:α}:(l.map f).set i (f x)=(l.set i x).map f:=by rw [List.map_set]
end
def b5t (wa:List Wtr) (w:Wtr):Nat:=(wa.takeWhile (λx=>lessW x w)).length
theorem c1z (h:∀j,j < i→lessW (wa.getD j default) w=true) (hi:i<=wa.length) (he:i=wa.length∨(i < wa.length/\lessW (wa.getD i default) w=false)):b5t wa w=i:=by
 unfold b5t
 induction wa generalizing i with
 | nil=>simp at hi;simp [hi]
 | cons x wa ih =>
  cases i with
  | zero =>
   simp_all
  | succ i =>
   have h0:lessW x w=true:=h 0 J
   rw [List.takeWhile_cons,if_pos h0,List.length_cons]
   grind
theorem c1A {wa:List Wtr} {w:Wtr}:b5t wa w<=wa.length:=(List.takeWhile_sublist _).length_le
def insW (wa:List Wtr) (w:Wtr):List Wtr:=wa.take (b5t wa w)++[w]++wa.drop (b5t wa w)
theorem a7b:(insW wa w).length=wa.length+1:=by
 have:=@c1A wa w
 simp [insW];omega
theorem a7c {wa:List Wtr} {w:Wtr} {i:Nat} (h:∀j,j < i→lessW (wa.getD j default) w=true) (hi:i<=wa.length) (he:i=wa.length∨(i < wa.length/\lessW (wa.getD i default) w=false)):insW wa w=wa.take i++[w]++wa.drop i:=by
 unfold insW
 rw [c1z h hi he]
def inW (wa:List Wtr) (q:Int):Int:=P3 (λj=>decide ((wa.getD j default).q=q)) wa.length
theorem c5E {wa:List Wtr} {q:Int}:-1<=inW wa q/\inW wa q < wa.length:=by
 have:=@b5o (λj=>decide ((wa.getD j default).q=q)) wa.length
 unfold inW
 omega
theorem b8X {q:Int} (hi:i<=wa.length):inW (wa.take i) q=P3 (λj=>decide ((wa.getD j default).q=q)) i:=by
 grind [inW,b1M]
def setd (q:Que):Bool:=decide (q.wa.length=0) || (decide (freS q.sl < 0) && (decide (bstS q.sl false < 0) || lessW (wOf (q.sl.getD (bstS q.sl false).toNat default)) (q.wa.getD 0 default)))
def oneWa (sl:List Slot) (wa:List Wtr) (i:Nat):Bool:=n8 (wa.getD i default).q 0 7 && (n8 (wa.getD i default).p 0 15 && (decide (o9 sl (wa.getD i default).q < 0) && (!(a0x i (λj=>decide ((wa.getD j default).q=(wa.getD i default).q))) && (decide (i=0) || lessW (wa.getD (i - 1) default) (wa.getD i default)))))
def c1B (sl:List Slot) (wa:List Wtr):Bool:=a2h wa.length (oneWa sl wa)
def a84 (q:Que):Bool:=a6e q.sl && c1B q.sl q.wa
def b09 (q:Que):Bool:=a84 q && setd q
theorem R1:oneWa sl wa i=true↔(0<=(wa.getD i default).q/\(wa.getD i default).q<=7)/\(0<=(wa.getD i default).p/\(wa.getD i default).p<=15)/\o9 sl (wa.getD i default).q < 0/\(∀j,j < i→(wa.getD j default).q≠(wa.getD i default).q)/\(i=0∨lessW (wa.getD (i - 1) default) (wa.getD i default)=true):=by
 grind [oneWa,v7,a10]
theorem b6m (h:¬ ((0<=(wa.getD i default).q/\(wa.getD i default).q<=7)/\(0<=(wa.getD i default).p/\(wa.getD i default).p<=15)/\o9 sl (wa.getD i default).q < 0/\(∀j,j < i→(wa.getD j default).q≠(wa.getD i default).q)/\(i=0∨lessW (wa.getD (i - 1) default) (wa.getD i default)=true))):oneWa sl wa i=false:=by
 rw [← Bool.not_eq_true,R1];exact h
theorem b8Y {q:Que} (h:a6e q.sl=false):a84 q=false:=by unfold a84;rw [h,Bool.false_and]
theorem b8Z {q:Que} {i:Nat} (h:oneWa q.sl q.wa i=false) (hi:i < q.wa.length):a84 q=false:=by unfold a84 c1B;rw [a1h h hi,Bool.and_false]
theorem b80 {q:Que} {i:Nat} (h1:a6e q.sl=true) (h:∀j,j < i→oneWa q.sl q.wa j=true) (hi:q.wa.length<=i):a84 q=true:=by unfold a84 c1B;rw [h1,a3o h hi];rfl
theorem b5u:∀(n:Nat) (f:Nat→Int) (k:Nat),(∀i,i < n→0<=f i/\f i < k)→(∀i j,i < j→j < n→f i≠f j)→n<=k
 | n,f,0,h,_=>by
  rcases Nat.eq_zero_or_pos n with h0 | h0
  ·omega
  ·have:=h 0 h0;omega
 | n,f,k+1,h,hd=>by
  by_cases hx:∃i,i < n/\f i=k
  ·obtain ⟨i,hi,hk⟩:=hx
   have:=b5u (n - 1) (λj=>if j < i then f j else f (j+1)) k (λj hj=>by
    split
    ·next hlt=>have:=h j J;have:=hd j i hlt hi;omega
    ·next hge=>have:=h (j+1) J;have:=hd i (j+1) J J;omega) (λa b hab hb=>by
    split
    ·next h1 =>
     split
     ·exact hd a b hab J
     ·exact hd a (b+1) J J
    ·next h1 =>
     rw [if_neg J]
     exact hd (a+1) (b+1) J J)
   omega
  ·have:=b5u n f k (λi hi=>by
    have h1:=h i hi
    have h2:f i≠k:=λe=>hx ⟨i,hi,e⟩
    omega) hd
   omega
theorem b2R {n:Nat} (h:∀j,j < n→oneWa sl wa j=true):n<=8 :=
 b5u n (λi=>(wa.getD i default).q) 8 (λi hi=>by have:=(R1.mp (h i hi)).1;omega) (λi j hij hj=>(R1.mp (h j hj)).2.2.2.1 i hij)
structure PaF (q:Que):Prop where
 sl:SlF q.sl
 wn:q.wa.length<=8
 wa:∀i,i < q.wa.length→oneWa q.sl q.wa i=true
theorem paF {q:Que}:a84 q=true↔PaF q:=by
 unfold a84 c1B
 rw [Bool.and_eq_true,C5]
 exact ⟨λh=>⟨slF.mp h.1,b2R h.2,h.2⟩,λh=>⟨slF.mpr h.sl,h.wa⟩⟩
theorem b0r (w:Wtr):∀u∈j6 w,u.oneCell'=true:=by intro u hu;simp [j6] at hu;rcases hu with rfl | rfl<;>rfl
theorem b0s {α:Type} {xs:List α} {f:α→List Value}:((xs.map f).drop ((i:Int)).toNat).take (((xs.map f).length:Int).toNat - ((i:Int)).toNat)=(xs.drop i).map f:=by
 rw [Int.toNat_natCast,Int.toNat_natCast,List.take_of_length_le (by rw [List.length_drop];exact Nat.le_refl _),List.map_drop]
theorem b5v {q:Que} (h:q.wa.length=0):setd q=true:=by unfold setd;rw [decide_eq_true h,Bool.true_or]
theorem b5w {q:Que} (h:¬ q.wa.length=0) (h2:0<=freS q.sl):setd q=false:=by unfold setd;rw [decide_eq_false h,decide_eq_false J];rfl
theorem b5x {q:Que} (h2:freS q.sl < 0) (h3:bstS q.sl false < 0):setd q=true:=by unfold setd;rw [decide_eq_true h2,decide_eq_true h3];simp
theorem b2S {q:Que} (h:¬ q.wa.length=0) (h2:freS q.sl < 0) (h3:¬ bstS q.sl false < 0):setd q=lessW (wOf (q.sl.getD (bstS q.sl false).toNat default)) (q.wa.getD 0 default):=by unfold setd;rw [decide_eq_false h,decide_eq_true h2,decide_eq_false h3];simp
theorem a04 {sl:List Slot} {most:Bool}:-1<=bstS sl most/\bstS sl most < sl.length:=a03 _
theorem b2T {most:Bool} (h:sl.length=i):F2 sl most i=bstS sl most:=by subst h;rfl
theorem b81 (hs:a6e sl=true) (h:∀j,j < i→oneWa sl wa j=true) (hi:wa.length<=i∨8 < i) (hn:i<=wa.length):decide ((wa.length:Int)<=8)=a84 ⟨sl,wa⟩:=by
 have h8:=b2R h
 rw [b80 (q:=⟨sl,wa⟩) hs h (show wa.length<=i by omega)]
 simp;omega
end Go.Rf
namespace Go.Rf
open Go
variable {irq:Int} {sl:List Slot} {w:Wtr} {wa:List Wtr}
def a0h (sl:List Slot) (lim:Int):Bool:=decide (0<=bstS sl true) && decide ((sl.getD (bstS sl true).toNat default).p < lim)
def tkS (sl:List Slot):List Slot:=sl.set (bstS sl true).toNat ⟨2,(sl.getD (bstS sl true).toNat default).q,(sl.getD (bstS sl true).toNat default).p⟩
def tkI (sl:List Slot):Int:=(sl.getD (bstS sl true).toNat default).q
def tkT (sl:List Slot) (lim:Int):List Slot×Int×Bool:=if a0h sl lim then (tkS sl,tkI sl,true) else ([],0,false)
section
variable {sl:List Slot} {lim irq p:Int}
theorem b6n (h:a0h sl lim=true):tkT sl lim=(tkS sl,tkI sl,true):=by unfold tkT;rw [h];rfl
theorem b82 (h:a0h sl lim=false):tkT sl lim=([],0,false):=by unfold tkT;rw [h];rfl
theorem I8:a0h sl lim=true↔0<=bstS sl true/\(sl.getD (bstS sl true).toNat default).p < lim:=by simp [a0h]
theorem a5r:a0h sl lim=false↔¬ (0<=bstS sl true/\(sl.getD (bstS sl true).toNat default).p < lim):=by rw [← Bool.not_eq_true,I8]
def ptS (sl:List Slot) (irq:Int):List Slot:=sl.set (o9 sl irq).toNat ⟨if (sl.getD (o9 sl irq).toNat default).s=2 then 3 else (sl.getD (o9 sl irq).toNat default).s,(sl.getD (o9 sl irq).toNat default).q,(sl.getD (o9 sl irq).toNat default).p⟩
def edX (sl:List Slot) (irq:Int):Slot:=if (sl.getD (o9 sl irq).toNat default).s=3 then ⟨1,irq,(sl.getD (o9 sl irq).toNat default).p⟩ else zSl
def edS (sl:List Slot) (irq:Int):List Slot:=sl.set (o9 sl irq).toNat (edX sl irq)
def R2 (x:Slot):Bool:=decide (x.s=2) || decide (x.s=3)
theorem s8 {x:Slot}:R2 x=true↔x.s=2∨x.s=3:=by simp [R2]
theorem c7W (h:0<=o9 sl irq):(sl.getD (o9 sl irq).toNat default).q=irq/\(sl.getD (o9 sl irq).toNat default).s≠0:=by
 grind [b1K]
end
def stK (q:Que):Nat:=if freS q.sl < 0 then (bstS q.sl false).toNat else (freS q.sl).toNat
def stW (q:Que):List Wtr:=if freS q.sl < 0 then insW (q.wa.drop 1) (wOf (q.sl.getD (bstS q.sl false).toNat default)) else q.wa.drop 1
def stQ (q:Que):Que:=⟨q.sl.set (stK q) ⟨1,(q.wa.getD 0 default).q,(q.wa.getD 0 default).p⟩,stW q⟩
def wtS (x:Slot):Nat:=if x.s=0 then 2000 else if x.s=1 then (8 * x.p+x.q).toNat else 0
def phi (q:Que):Nat:=(q.sl.map wtS).sum
def a6g:Nat→Que→Que
 | 0,q=>q
 | n+1,q=>if setd q then q else a6g n (stQ q)
def a1L (q:Que):Que:=a6g (phi q+1) q
def ltW (a b:Wtr):Prop:=lessW a b=true/\a.q≠b.q
structure QF (q:Que):Prop where
 sl:SlF q.sl
 wn:q.wa.length<=9
 wa:∀w∈q.wa,(0<=w.q/\w.q<=7)/\(0<=w.p/\w.p<=15)/\∀x∈q.sl,x.s≠0→x.q≠w.q
 pw:q.wa.Pairwise ltW
theorem i6 {α:Type} [Inhabited α] {l:List α} {x:α}:x∈l↔∃i,i < l.length/\l.getD i default=x:=by
 constructor
 ·intro h
  obtain ⟨i,hi,e⟩:=List.getElem_of_mem h
  exact ⟨i,hi,by rw [List.getD_eq_getElem?_getD,List.getElem?_eq_getElem hi];exact e⟩
 grind
theorem a5s {α:Type} [Inhabited α] {l:List α} {R:α→α→Prop}:l.Pairwise R↔∀i j,i < j→j < l.length→R (l.getD i default) (l.getD j default):=by
 rw [List.pairwise_iff_getElem]
 grind
theorem c1C:o9 sl irq < 0↔∀j,j < sl.length→¬ ((sl.getD j default).s≠0/\(sl.getD j default).q=irq):=by
 grind [o9,a9G,a10,a3C]
theorem a7d:o9 sl irq < 0↔∀x∈sl,x.s≠0→x.q≠irq:=by
 grind [c1C,i6]
theorem PaF.q {q:Que} (h:PaF q):QF q:=by
 refine ⟨h.sl,Nat.le_succ_of_le h.wn,λw hw=>?_,a5s.mpr ?_⟩
 ·obtain ⟨i,hi,rfl⟩:=i6.mp hw
  obtain ⟨h1,h2,h3,_⟩:=R1.mp (h.wa i hi)
  exact ⟨h1,h2,a7d.mp h3⟩
 ·intro i j hij hj
  refine ⟨?_,(R1.mp (h.wa j hj)).2.2.2.1 i hij⟩
  induction j with
  | zero=>omega
  | succ j ih =>
   have hlast:lessW (q.wa.getD j default) (q.wa.getD (j+1) default)=true:=by
    rcases (R1.mp (h.wa (j+1) hj)).2.2.2.2 with g | g
    ·omega
    ·exact g
   by_cases e:i=j
   ·subst e;exact hlast
   ·exact P5 (ih J J) hlast
theorem QF.pa {q:Que} (h:QF q):PaF q:=by
 have hp:=a5s.mp h.pw
 have h8:∀i,i < q.wa.length→oneWa q.sl q.wa i=true:=λi hi=>by
  obtain ⟨h1,h2,h3⟩:=h.wa _ (i6.mpr ⟨i,hi,Z⟩)
  refine R1.mpr ⟨h1,h2,a7d.mpr h3,λj hj=>(hp j i hj hi).2,?_⟩
  rcases Nat.eq_zero_or_pos i with g | g
  ·exact .inl g
  ·exact .inr (hp (i - 1) i J hi).1
 exact ⟨h.sl,b2R h8,h8⟩
theorem QF.wn8 {q:Que} (h:QF q):q.wa.length<=8:=h.pa.wn
theorem C8 {α:Type} [Inhabited α] {l:List α} {i j:Nat} {x:α} (hi:i < l.length):(l.set i x).getD j default=if i=j then x else l.getD j default:=by
 grind
theorem SlF.set (h:SlF sl) {k:Nat} {x:Slot} (hk:k < 4) (hx:(1<=x.s/\x.s<=3)/\(0<=x.q/\x.q<=7)/\0<=x.p/\x.p<=15) (hq:∀j,j < 4→j≠k→(sl.getD j default).s≠0→(sl.getD j default).q≠x.q):SlF (sl.set k x):=by
 have hl:k < sl.length:=by rw [h.len];exact hk
 refine ⟨by rw [List.length_set];exact h.len,λi hi=>?_,λi hi=>?_,λi j hij hj=>?_⟩
 ·rw [C8 hl];split
  ·intro e;omega
  ·exact h.z i hi
 ·rw [C8 hl];split
  ·intro _;exact hx
  ·exact h.ok i hi
 ·rw [C8 hl,C8 hl]
  by_cases e1:k=i
  ·grind
  ·rw [if_neg e1]
   by_cases e2:k=j
   ·grind
   ·rw [if_neg e2];exact h.dif i j hij hj
theorem SlF.setZ (h:SlF sl) {k:Nat} (hk:k < 4):SlF (sl.set k zSl):=by
 have hl:k < sl.length:=by rw [h.len];exact hk
 refine ⟨by rw [List.length_set];exact h.len,λi hi=>?_,λi hi=>?_,λi j hij hj=>?_⟩
 ·rw [C8 hl];split
  ·intro _;rfl
  ·exact h.z i hi
 ·rw [C8 hl];split
  ·intro e;exact absurd Z e
  ·exact h.ok i hi
 ·rw [C8 hl,C8 hl]
  split
  ·intro e;exact absurd Z e
  ·split
   ·intro _ e;exact absurd Z e
   ·exact h.dif i j hij hj
theorem b83 {α:Type} {p:α→Bool} {x:α}:∀{l:List α},x∈l.takeWhile p→p x=true
 | [],h=>by simp at h
 | y :: l,h=>by
  rw [List.takeWhile_cons] at h
  split at h
  ·next hy =>
   rcases List.mem_cons.mp h with rfl | h
   ·exact hy
   ·exact b83 h
  ·cases h
theorem b6o:insW wa w=wa.takeWhile (λx=>lessW x w)++[w]++wa.dropWhile (λx=>lessW x w):=by
 have h:=List.takeWhile_append_dropWhile (p:=λx=>lessW x w) (l:=wa)
 unfold insW b5t
 grind
theorem a2X {x:Wtr}:x∈insW wa w↔x=w∨x∈wa:=by
 have h:=List.takeWhile_append_dropWhile (p:=λx=>lessW x w) (l:=wa)
 rw [b6o]
 grind
theorem b2U (h:wa.Pairwise ltW) (hd:∀x∈wa,x.q≠w.q):(insW wa w).Pairwise ltW:=by
 rw [b6o]
 have hs:=List.takeWhile_append_dropWhile (p:=λx=>lessW x w) (l:=wa)
 have hp:(wa.takeWhile (λx=>lessW x w)++wa.dropWhile (λx=>lessW x w)).Pairwise ltW:=by rw [hs];exact h
 obtain ⟨p1,p2,p3⟩:=List.pairwise_append.mp hp
 have t1:∀x∈wa.takeWhile (λx=>lessW x w),ltW x w:=λx hx=>by
  refine ⟨?_,hd x (by rw [← hs];exact List.mem_append_left _ hx)⟩
  exact b83 (p:=λx=>lessW x w) hx
 have t2:∀x∈wa.dropWhile (λx=>lessW x w),ltW w x:=by
  cases hdw:wa.dropWhile (λx=>lessW x w) with
  | nil=>intro x hx;cases hx
  | cons y r =>
   have hy:lessW y w=false:=by
    have:=List.head?_dropWhile_not (λx=>lessW x w) wa
    grind
   have hyq:y.q≠w.q:=hd y (by rw [← hs,hdw];simp)
   have hwy:ltW w y:=⟨by rw [a1d (Ne.symm hyq),hy];rfl,Ne.symm hyq⟩
   rw [hdw] at p2
   intro x hx
   rcases List.mem_cons.mp hx with rfl | hx
   ·exact hwy
   ·have:=(List.pairwise_cons.mp p2).1 x hx
    exact ⟨P5 hwy.1 this.1,Ne.symm (hd x (by rw [← hs,hdw];simp [hx]))⟩
 grind
theorem b6p {α:Type} [Inhabited α] {f:α→Nat} {x:α}:∀{l:List α} {k:Nat},k < l.length→((l.set k x).map f).sum+f (l.getD k default)=(l.map f).sum+f x
 | [],k,h=>by simp at h
 | y :: l,0,_=>by simp;omega
 | y :: l,k+1,h=>by
  have:=b6p (f:=f) (x:=x) (l:=l) (k:=k) (by simpa using h)
  grind
theorem a3D {α:Type} [Inhabited α] {l:List α} {k:Nat} {x y:α} (hk:k < l.length) (h:y∈l.set k x):y=x∨∃j,j < l.length/\j≠k/\l.getD j default=y:=by
 grind [i6,C8]
theorem F7 {most:Bool} (h:0<=bstS sl most):∃k:Nat,bstS sl most=k/\k < sl.length/\(sl.getD k default).s=1:=by
 have hb:=@a04 sl most
 refine ⟨(bstS sl most).toNat,by omega,by omega,a2V _ h⟩
structure NotSet (q:Que) (k:Nat) (w:Wtr) (r:List Wtr):Prop where
 wa:q.wa=w :: r
 kn:stK q=k
 kl:k < 4
 st:(freS q.sl=k/\(q.sl.getD k default).s=0/\stW q=r)∨(freS q.sl < 0/\bstS q.sl false=k/\(q.sl.getD k default).s=1/\lessW w (wOf (q.sl.getD k default))=true/\stW q=insW r (wOf (q.sl.getD k default)))
theorem b2V {q:Que} (h:QF q) (hs:setd q=false):∃k w r,NotSet q k w r:=by
 have h0:q.wa.length≠0:=λe=>by rw [b5v e] at hs;cases hs
 obtain ⟨w,r,hw⟩:∃w r,q.wa=w :: r:=by
  cases hq:q.wa with
  | nil=>rw [hq] at h0;exact absurd Z h0
  | cons w r=>exact ⟨w,r,Z⟩
 rcases @b1L q.sl with ⟨f1,f2⟩ | ⟨i,f1,f2,f3⟩
 ·have hb:0<=bstS q.sl false:=by
   grind [b5x]
  rw [b2S h0 J J] at hs
  obtain ⟨k,hk,hkl,hk1⟩:=F7 hb
  have hkn:(bstS q.sl false).toNat=k:=by omega
  rw [hkn,hw] at hs
  have hs:lessW (wOf (q.sl.getD k default)) w=false:=hs
  have hne:(wOf (q.sl.getD k default)).q≠w.q:=(h.wa w (by rw [hw];simp)).2.2 _ (i6.mpr ⟨k,hkl,Z⟩) J
  refine ⟨k,w,r,hw,by unfold stK;rw [if_pos J,hkn],by rw [← h.sl.len];exact hkl,.inr ⟨by omega,hk,hk1,?_,?_⟩⟩
  ·rw [a1d (Ne.symm hne),hs];rfl
  ·unfold stW;rw [if_pos J,hkn,hw];rfl
 ·exact ⟨i,w,r,hw,by unfold stK;rw [if_neg J,f1];rfl,by rw [← h.sl.len];exact f2,.inl ⟨f1,f3,by unfold stW;rw [if_neg J,hw];rfl⟩⟩
theorem NotSet.eq {q:Que} {k:Nat} {r:List Wtr} (n:NotSet q k w r):stQ q=⟨q.sl.set k ⟨1,w.q,w.p⟩,stW q⟩:=by
 unfold stQ;rw [n.kn,n.wa];rfl
theorem b0t {q:Que} (h:QF q) (hs:setd q=false):QF (stQ q)/\phi (stQ q) < phi q:=by
 obtain ⟨k,w,r,n⟩:=b2V h hs
 rw [n.eq]
 have hl:k < q.sl.length:=by rw [h.sl.len];exact n.kl
 obtain ⟨hw1,hw2,hw3⟩:=h.wa w (by rw [n.wa];simp)
 have hpw:=h.pw
 rw [n.wa] at hpw
 obtain ⟨hp1,hp2⟩:=List.pairwise_cons.mp hpw
 have hrm:∀v∈r,v∈q.wa:=λv hv=>by rw [n.wa];simp [hv]
 have hsum:=b6p (f:=wtS) (x:=(⟨1,w.q,w.p⟩:Slot)) hl
 have hwt:wtS ⟨1,w.q,w.p⟩=(8 * w.p+w.q).toNat:=rfl
 have hsl:SlF (q.sl.set k ⟨1,w.q,w.p⟩):=h.sl.set n.kl ⟨⟨by show (1:Int)<=1;omega,by show (1:Int)<=3;omega⟩,hw1,hw2⟩ (λj hj hjk h0=>hw3 _ (i6.mpr ⟨j,by rw [h.sl.len];exact hj,Z⟩) h0)
 rcases n.st with ⟨f1,f2,f3⟩ | ⟨f0,f1,f2,f3,f4⟩
 ·rw [f3]
  refine ⟨⟨hsl,by have:=h.wn;rw [n.wa] at this;simp at this;show r.length<=9;omega,λv hv=>?_,hp2⟩,?_⟩
  ·obtain ⟨g1,g2,g3⟩:=h.wa v (hrm v hv)
   refine ⟨g1,g2,λx hx h0=>?_⟩
   rcases a3D hl hx with rfl | ⟨j,hj,_,rfl⟩
   ·exact (hp1 v hv).2
   grind
  ·have:wtS (q.sl.getD k default)=2000:=by unfold wtS;rw [if_pos f2]
   show ((q.sl.set k ⟨1,w.q,w.p⟩).map wtS).sum < (q.sl.map wtS).sum
   omega
 ·rw [f4]
  have hb:=h.sl.ok k n.kl J
  refine ⟨⟨hsl,?_,λv hv=>?_,b2U hp2 λx hx=>?_⟩,?_⟩
  ·have:=h.wn;rw [n.wa] at this;simp at this
   show (insW r _).length<=9
   rw [a7b];omega
  ·rcases a2X.mp hv with rfl | hv
   ·refine ⟨hb.2.1,hb.2.2,λx hx h0=>?_⟩
    rcases a3D hl hx with rfl | ⟨j,hj,hjk,rfl⟩
    ·exact λe=>hw3 _ (i6.mpr ⟨k,hl,Z⟩) J e.symm
    ·intro e
     have h4:=h.sl.len
     rcases Nat.lt_or_ge j k with g | g
     ·exact h.sl.dif j k g n.kl h0 J e
     ·exact h.sl.dif k j J J J h0 e.symm
   ·obtain ⟨g1,g2,g3⟩:=h.wa v (hrm v hv)
    refine ⟨g1,g2,λx hx h0=>?_⟩
    rcases a3D hl hx with rfl | ⟨j,hj,_,rfl⟩
    ·exact (hp1 v hv).2
    grind
  ·exact λe=>(h.wa x (hrm x hx)).2.2 _ (i6.mpr ⟨k,hl,Z⟩) J e.symm
  ·have:wtS (q.sl.getD k default)=(8 * (q.sl.getD k default).p+(q.sl.getD k default).q).toNat:=by unfold wtS;rw [if_neg J,if_pos f2]
   rw [V6] at f3
   have f3:w.p < (q.sl.getD k default).p∨(w.p=(q.sl.getD k default).p/\w.q < (q.sl.getD k default).q):=f3
   show ((q.sl.set k ⟨1,w.q,w.p⟩).map wtS).sum < (q.sl.map wtS).sum
   omega
theorem b1N:∀{n m:Nat} {q:Que},QF q→phi q < n→phi q < m→a6g n q=a6g m q
 | n+1,m+1,q,h,h1,h2=>by
  unfold a6g
  cases hs:setd q
  ·obtain ⟨g1,g2⟩:=b0t h hs
   simp only [Bool.false_eq_true,if_false]
   exact b1N g1 J J
  ·rfl
theorem b1O {q:Que} (h:QF q) (hs:setd q=false):a1L q=a1L (stQ q):=by
 grind [b0t,a1L,a6g,b1N]
theorem b1P {q:Que} (hs:setd q=true):a1L q=q:=by unfold a1L a6g;rw [hs];rfl
theorem b6q:∀{n:Nat} {q:Que},QF q→phi q < n→QF (a6g n q)/\setd (a6g n q)=true
 | n+1,q,h,h1=>by
  unfold a6g
  cases hs:setd q
  ·obtain ⟨g1,g2⟩:=b0t h hs
   simp only [Bool.false_eq_true,if_false]
   exact b6q g1 J
  grind
theorem b6r {q:Que} (h:QF q):QF (a1L q)/\setd (a1L q)=true:=b6q h (Nat.lt_succ_self _)
theorem a7e {q:Que}:b09 q=true↔QF q/\setd q=true:=by
 unfold b09
 rw [Bool.and_eq_true,paF]
 exact ⟨λh=>⟨h.1.q,h.2⟩,λh=>⟨h.1.pa,h.2⟩⟩
def actL (sl:List Slot):List Wtr:=(sl.filter R2).map wOf
theorem b4f:∀{k:Nat} {x:Slot},k < sl.length→R2 x=R2 (sl.getD k default)→(R2 x=true→wOf x=wOf (sl.getD k default))→actL (sl.set k x)=actL sl:=by
 unfold actL
 induction sl with
 | nil=>intro k x hk;simp at hk
 | cons y sl ih =>
  intro k x hk h1 h2
  cases k with
  | zero =>
   grind
  | succ k =>
   grind
theorem A6:w∈actL sl↔∃x∈sl,R2 x=true/\wOf x=w:=by
 simp [actL,and_assoc]
theorem c1D {q:Que} (h:QF q) (hs:setd q=false):actL (stQ q).sl=actL q.sl:=by
 obtain ⟨k,w,r,n⟩:=b2V h hs
 rw [n.eq]
 have hl:k < q.sl.length:=by rw [h.sl.len];exact n.kl
 refine b4f hl ?_ (λg=>?_)
 ·have:R2 (q.sl.getD k default)=false:=by
   rcases n.st with ⟨_,f,_⟩ | ⟨_,_,f,_⟩<;>rw [← Bool.not_eq_true,s8]<;>omega
  rw [this];rfl
 ·cases g
theorem b4g:∀{n:Nat} {q:Que},QF q→actL (a6g n q).sl=actL q.sl
 | 0,q,_=>rfl
 | n+1,q,h=>by
  unfold a6g
  cases hs:setd q
  ·simp_all [b4g,b0t,c1D]
  ·rfl
theorem b0u {q:Que} (h:QF q):actL (a1L q).sl=actL q.sl:=b4g h
def a6h (q:Que) (irq p:Int):Que:=if 0<=o9 q.sl irq then ⟨ptS q.sl irq,q.wa⟩ else if 0<=inW q.wa irq then q else ⟨q.sl,insW q.wa ⟨irq,p⟩⟩
def a1s (q:Que) (irq p:Int):Que:=a1L (a6h q irq p)
theorem a1t (h:0<=o9 sl irq):∃k:Nat,o9 sl irq=k/\k < sl.length/\(sl.getD k default).s≠0/\(sl.getD k default).q=irq:=by
 rcases @b1K sl irq with ⟨g,_⟩ | g
 ·omega
 ·exact g
theorem SlF.upd (h:SlF sl) {k:Nat} (hk:k < 4) {s':Int} (h0:(sl.getD k default).s≠0) (hs:1<=s'/\s'<=3):SlF (sl.set k ⟨s',(sl.getD k default).q,(sl.getD k default).p⟩):=by
 refine h.set hk ⟨hs,(h.ok k hk h0).2⟩ (λj hj hjk g=>?_)
 rcases Nat.lt_or_ge j k with e | e
 ·exact h.dif j k e hk g h0
 ·exact λe'=>h.dif k j J hj h0 g e'.symm
theorem QF.slUpd {q:Que} (h:QF q) {k:Nat} (hk:k < 4) {s':Int} (h0:(q.sl.getD k default).s≠0) (hs:1<=s'/\s'<=3):QF ⟨q.sl.set k ⟨s',(q.sl.getD k default).q,(q.sl.getD k default).p⟩,q.wa⟩:=by
 refine ⟨h.sl.upd hk h0 hs,h.wn,λw hw=>?_,h.pw⟩
 obtain ⟨g1,g2,g3⟩:=h.wa w hw
 refine ⟨g1,g2,λx hx g=>?_⟩
 have hl:k < q.sl.length:=by rw [h.sl.len];exact hk
 grind
theorem b6s {q:Int}:inW wa q < 0↔∀w∈wa,w.q≠q:=by
 grind [inW,a9G,a10,i6]
theorem b2W {q:Que} {irq p:Int} (h:QF q) (hi:0<=irq/\irq<=7) (hp:0<=p/\p<=15):QF (a6h q irq p)/\actL (a6h q irq p).sl=actL q.sl:=by
 unfold a6h
 split
 ·next h1 =>
  obtain ⟨k,e1,e2,e3,e4⟩:=a1t h1
  have hk:k < 4:=by rw [← h.sl.len];exact e2
  unfold ptS
  rw [e1]
  simp only [Int.toNat_natCast]
  have hb:=(h.sl.ok k hk e3).1
  refine ⟨h.slUpd hk e3 ?_,b4f e2 ?_ (λ_=>Z)⟩
  ·split<;>omega
  ·grind [s8]
 split
 ·exact ⟨h,Z⟩
 ·next h1 h2 =>
  have g1:=a7d.mp (show o9 q.sl irq < 0 by omega)
  have g2:=b6s.mp (show inW q.wa irq < 0 by omega)
  refine ⟨⟨h.sl,?_,λw hw=>?_,b2U h.pw g2⟩,Z⟩
  ·show (insW q.wa _).length<=9
   rw [a7b];have:=h.wn8;omega
  ·rcases a2X.mp hw with rfl | hw
   ·exact ⟨hi,hp,g1⟩
   ·exact h.wa w hw
theorem a4A {q:Que} {p:Int} (h:QF q) (hi:0<=irq/\irq<=7) (hp:0<=p/\p<=15):QF (a1s q irq p)/\setd (a1s q irq p)=true/\actL (a1s q irq p).sl=actL q.sl:=by
 grind [b2W,b6r,a1s,b0u]
def a4B (q:Que):Que:=⟨tkS q.sl,q.wa⟩
theorem b5y {q:Que} (h:QF q) (hb:0<=bstS q.sl true):QF (a4B q):=by
 obtain ⟨k,e1,e2,e3⟩:=F7 hb
 have hk:k < 4:=by rw [← h.sl.len];exact e2
 unfold a4B tkS
 rw [e1]
 exact h.slUpd hk (by (omega)) (by (omega))
def a4C (q:Que) (irq:Int):Que:=a1L ⟨edS q.sl irq,q.wa⟩
theorem a7f {q:Que} (h:QF q) (hf:0<=o9 q.sl irq):QF ⟨edS q.sl irq,q.wa⟩:=by
 obtain ⟨k,e1,e2,e3,e4⟩:=a1t hf
 have hk:k < 4:=by rw [← h.sl.len];exact e2
 have e5:edX q.sl irq=if (q.sl.getD k default).s=3 then ⟨1,irq,(q.sl.getD k default).p⟩ else zSl:=by unfold edX;rw [e1];rfl
 unfold edS
 rw [e1,e5]
 split
 ·rw [← e4];exact h.slUpd hk e3 J
 ·refine ⟨h.sl.setZ hk,h.wn,λw hw=>?_,h.pw⟩
  obtain ⟨g1,g2,g3⟩:=h.wa w hw
  refine ⟨g1,g2,λx hx g=>?_⟩
  rcases a3D e2 hx with rfl | ⟨j,hj,_,rfl⟩
  ·exact absurd Z g
  grind
theorem b5z {q:Que} (h:QF q) (hf:0<=o9 q.sl irq):QF (a4C q irq)/\setd (a4C q irq)=true:=b6r (a7f h hf)
theorem s3 {q:Que} (h:0<=freS q.sl):stQ q=⟨q.sl.set (freS q.sl).toNat ⟨1,(q.wa.getD 0 default).q,(q.wa.getD 0 default).p⟩,q.wa.drop 1⟩:=by
 unfold stQ stK stW
 grind
theorem v1 {q:Que} (h:freS q.sl < 0):stQ q=⟨q.sl.set (bstS q.sl false).toNat ⟨1,(q.wa.getD 0 default).q,(q.wa.getD 0 default).p⟩,insW (q.wa.drop 1) (wOf (q.sl.getD (bstS q.sl false).toNat default))⟩:=by
 unfold stQ stK stW
 rw [if_pos h,if_pos h]
theorem b6t {q:Que} (h:QF q) (hs:setd q=false):0 < q.wa.length/\(freS q.sl < 0→0<=bstS q.sl false):=by
 obtain ⟨k,w,r,n⟩:=b2V h hs
 refine ⟨by rw [n.wa];simp,λg=>?_⟩
 rcases n.st with ⟨f,_⟩ | ⟨_,f,_⟩<;>omega
end Go.Rf
namespace Go.Rf
theorem c7X {xs:List Wtr}:((xs.map j6).drop (1:Int).toNat).take (((xs.map j6).length:Int).toNat - (1:Int).toNat)=(xs.drop 1).map j6:=by
 have h1:(1:Int).toNat=1:=rfl
 have h2:(((xs.map j6).length:Int)).toNat=(xs.map j6).length:=Int.toNat_natCast _
 rw [h1,h2,List.take_of_length_le (by rw [List.length_drop];exact Nat.le_refl _),List.map_drop]
theorem c7Y {xs:List Wtr}:(xs.map j6).drop (1:Int).toNat=(xs.drop 1).map j6:=List.map_drop.symm
end Go.Rf
namespace Go.Rf
open Go
section
variable {rs:List Route} {a:Abs} {ss:List MStep}
end
end Go.Rf
namespace Go.Rf
end Go.Rf
namespace Go.Rf
open Go
variable {j:Nat} {l:List Int} {m:Mach} {rs:List Route} {x:Ifc}
def r4 (eS eW:Nat) (x:Ifc):List CI:=[.v (.int .i64 x.ma),.l 3 1 (x.st.map r5),.l eS 3 (x.qu.sl.map g8),.l eW 2 (x.qu.wa.map j6)]
structure BigI (x:Ifc):Prop where
 st:x.st.length<=9223372036854775807
 sl:x.qu.sl.length<=9223372036854775807
 wa:x.qu.wa.length<=9223372036854775807
structure BigM (m:Mach):Prop where
 rs:m.rs.length<=9223372036854775807
 en:m.en.length<=9223372036854775807
 ra:m.ra.length<=9223372036854775807
 cp:m.cp.length<=9223372036854775807
 all:∀i,i < m.cp.length→BigI (m.cp.getD i default)
def szI (x:Ifc):Int:=x.st.length+x.qu.sl.length+x.qu.wa.length
def sumI (xs:List Ifc):Nat→Int
 | 0=>0
 | i+1=>sumI xs i+szI (xs.getD i default)
theorem a2Y {xs:List Ifc} {i:Nat}:sumI xs (i+1)=sumI xs i+szI (xs.getD i default):=rfl
theorem b84 {x:Ifc}:0<=szI x:=by unfold szI;omega
theorem b6u {xs:List Ifc}:∀i,0<=sumI xs i
 | 0=>Int.le_refl _
 | i+1=>by have:=@b6u xs i;have:=@b84 (xs.getD i default);rw [a2Y];omega
theorem b7L {xs:List Ifc} {i j:Nat} (h:i<=j):sumI xs i<=sumI xs j:=by
 induction h with
 | refl=>exact Int.le_refl _
 | step _ ih=>rename_i m _;have:=@b84 (xs.getD m default);rw [a2Y];omega
theorem b85 {xs:List Ifc} {i n:Nat} (h:i < n):szI (xs.getD i default)<=sumI xs n:=by
 have h1:=b7L (xs:=xs) (show i+1<=n from h)
 have h2:=@b6u xs i
 rw [a2Y] at h1
 omega
structure SmallM (m:Mach):Prop where
 rs:m.rs.length<=1048576
 en:m.en.length<=1048576
 ra:m.ra.length<=1048576
 cp:m.cp.length<=1048576
 sum:sumI m.cp m.cp.length<=1048576
theorem SmallM.allI (h:SmallM m) {i:Nat} (hi:i < m.cp.length):szI (m.cp.getD i default)<=1048576:=by
 have:=b85 (xs:=m.cp) hi
 have:=h.sum
 omega
theorem SmallM.big (h:SmallM m):BigM m:=by
 refine ⟨by have:=h.rs;omega,by have:=h.en;omega,by have:=h.ra;omega,by have:=h.cp;omega,λi hi=>?_⟩
 have:=h.allI hi
 unfold szI at this
 exact ⟨by omega,by omega,by omega⟩
section
variable {k:Int} {xs:List Ifc} {eS eW:Nat}
end
def noM:Mach:=⟨[],[],[],[]⟩
def b7M:Ifc:=⟨16,[],⟨[zSl,zSl,zSl,zSl],[]⟩⟩
def b4h (rs:List Route) (c:Nat):Mach:=⟨rs,List.replicate 8 false,List.replicate 8 false,List.replicate c b7M⟩
def a7g (rs:List Route) (c:Int):Mach×Bool:=if okRts rs c then (b4h rs c.toNat,true) else (noM,false)
theorem b6v {rs:List Route} {c:Int} (h:okRts rs c=true):a7g rs c=(b4h rs c.toNat,true):=by unfold a7g;rw [h];rfl
theorem c1E {rs:List Route} {c:Int} (h:okRts rs c=false):a7g rs c=(noM,false):=by unfold a7g;rw [h];rfl
def lvl (sl:List Slot) (q:Int):Int:=(sl.getD (o9 sl q).toNat default).p
def a7h (x:Ifc):Int:=if x.st.length=0 then 16 else lvl x.qu.sl (x.st.getD (x.st.length - 1) default)
theorem c5F (h:x.st.length=0):a7h x=16:=by unfold a7h;rw [if_pos h]
theorem b86 (h:¬ x.st.length=0):a7h x=lvl x.qu.sl (x.st.getD (x.st.length - 1) default):=by unfold a7h;rw [if_neg h]
def a4D (x:Ifc) (q p:Int):Ifc:=⟨x.ma,x.st,a1s x.qu q p⟩
def a2Z (x:Ifc):Ifc:=⟨x.ma,x.st++[tkI x.qu.sl],a4B x.qu⟩
structure IfF (x:Ifc):Prop where
 qu:QF x.qu
 sn:x.st.length<=4
 st:∀q∈x.st,∃w∈actL x.qu.sl,w.q=q
theorem a3E {sl:List Slot} {q:Int} (h:∃w∈actL sl,w.q=q):0<=o9 sl q:=by
 obtain ⟨w,hw,e⟩:=h
 obtain ⟨x,h1,h2,rfl⟩:=A6.mp hw
 rcases Int.lt_or_le (o9 sl q) 0 with g | g
 ·refine absurd e (a7d.mp g x h1 ?_)
  rcases s8.mp h2 with g | g<;>omega
 ·exact g
theorem IfF.top (h:IfF x) {i:Nat} (hi:i < x.st.length):0<=o9 x.qu.sl (x.st.getD i default):=a3E (h.st _ (i6.mpr ⟨i,hi,Z⟩))
theorem b5A {q p:Int} (h:IfF x) (hq:0<=q/\q<=7) (hp:0<=p/\p<=15):IfF (a4D x q p):=by
 obtain ⟨h1,h2,h3⟩:=a4A h.qu hq hp
 exact ⟨h1,h.sn,λy hy=>by show ∃w∈actL (a1s x.qu q p).sl,w.q=y;rw [h3];exact h.st y hy⟩
theorem b6w {α:Type} [Inhabited α] {l:List α} {k:Nat} {x y:α} (h:x∈l) (hne:x≠l.getD k default):x∈l.set k y:=by
 grind [i6]
theorem c5G (h:IfF x) (hb:0<=bstS x.qu.sl true) (hn:x.st.length < 4):IfF (a2Z x):=by
 obtain ⟨k,e1,e2,e3⟩:=F7 hb
 refine ⟨b5y h.qu hb,by show (x.st++[tkI x.qu.sl]).length<=4;rw [List.length_append,List.length_cons,List.length_nil];omega,λq hq=>?_⟩
 show ∃w∈actL (tkS x.qu.sl),w.q=q
 unfold tkS
 rw [e1,Int.toNat_natCast]
 rcases List.mem_append.mp hq with hq | hq
 ·obtain ⟨w,hw,e⟩:=h.st q hq
  obtain ⟨y,y1,y2,y3⟩:=A6.mp hw
  refine ⟨w,A6.mpr ⟨y,b6w y1 (λe'=>?_),y2,y3⟩,e⟩
  rw [e'] at y2
  rcases s8.mp y2 with g | g<;>omega
 ·rw [List.mem_singleton.mp hq]
  refine ⟨⟨(x.qu.sl.getD k default).q,(x.qu.sl.getD k default).p⟩,A6.mpr ⟨⟨2,(x.qu.sl.getD k default).q,(x.qu.sl.getD k default).p⟩,List.mem_iff_getElem.mpr ⟨k,by rw [List.length_set];exact e2,by simp⟩,Z,Z⟩,?_⟩
  show (x.qu.sl.getD k default).q=tkI x.qu.sl
  unfold tkI
  grind
def R8 (rs:List Route) (l:List Int):List Slot:=(l.map λq=>⟨2,q,prI rs q⟩)++List.replicate (4 - l.length) zSl
def a7i (rs:List Route) (l:List Int):Ifc:=⟨16,l,⟨R8 rs l,[]⟩⟩
def a0i (rs:List Route) (l:List Int) (q:Int):List Slot:=(l.map λq=>⟨2,q,prI rs q⟩)++(⟨1,q,prI rs q⟩ :: List.replicate (3 - l.length) zSl)
section
variable {rs:List Route} {l:List Int} {q:Int}
theorem b1Q {α:Type} [Inhabited α] {a b:List α} {j:Nat} (h:j < a.length):(a++b).getD j default=a.getD j default:=by
 grind
theorem b1R {α:Type} [Inhabited α] {a b:List α} {j:Nat} (h:a.length<=j):(a++b).getD j default=b.getD (j - a.length) default:=by
 grind
theorem a0j {α β:Type} [Inhabited α] [Inhabited β] {f:α→β} {a:List α} {j:Nat} (h:j < a.length):(a.map f).getD j default=f (a.getD j default):=by
 grind
theorem b87 {α:Type} [Inhabited α] {x:α} {n j:Nat} (h:j < n):(List.replicate n x).getD j default=x:=by
 grind
theorem a4E (h:l.length<=4):(R8 rs l).length=4:=by unfold R8;simp;omega
theorem b4i (h:l.length < 4):(a0i rs l q).length=4:=by unfold a0i;simp;omega
theorem a3F (h:j < l.length):(R8 rs l).getD j default=⟨2,l.getD j default,prI rs (l.getD j default)⟩:=by
 unfold R8
 grind
theorem a7j (h:l.length<=j) (h4:j < 4):(R8 rs l).getD j default=zSl:=by
 unfold R8
 grind
theorem b2X (h:j < l.length):(a0i rs l q).getD j default=⟨2,l.getD j default,prI rs (l.getD j default)⟩:=by
 unfold a0i
 grind
theorem b2Y:(a0i rs l q).getD l.length default=⟨1,q,prI rs q⟩:=by
 unfold a0i
 rw [b1R (by simp)]
 simp
theorem c1F (h:l.length < j) (h4:j < 4):(a0i rs l q).getD j default=zSl:=by
 grind [a0i]
theorem c1G {α:Type} {a b:List α} {x:α}:(a++b).set a.length x=a++b.set 0 x:=by
 simp
theorem b88 (h:l.length < 4):(R8 rs l).set l.length ⟨1,q,prI rs q⟩=a0i rs l q:=by
 unfold R8 a0i
 have e:=@c1G _ (l.map λq=>(⟨2,q,prI rs q⟩:Slot)) (List.replicate (4 - l.length) zSl) ⟨1,q,prI rs q⟩
 rw [List.length_map] at e
 rw [e,show 4 - l.length=(3 - l.length)+1 by omega,List.replicate_succ,List.set_cons_zero]
theorem b89 (h:l.length < 4):(a0i rs l q).set l.length ⟨2,q,prI rs q⟩=R8 rs (l++[q]):=by
 grind [R8,a0i]
theorem b0v (h:l.length < 4):freS (R8 rs l)=l.length:=by
 unfold freS
 refine S3 (λj hj=>?_) (by rw [a4E J];exact h) ?_
 ·rw [a3F hj];rfl
 ·rw [a7j (Nat.le_refl _) h];rfl
theorem b9a (h:l.length<=4) (hq:∀j,j < l.length→l.getD j default≠q):o9 (R8 rs l) q=-1:=by
 unfold o9
 refine a1j (i:=4) (λj hj=>?_) (by rw [a4E h];exact Nat.le_refl _)
 rw [← Bool.not_eq_true,a3C]
 rcases Nat.lt_or_ge j l.length with g | g
 ·rw [a3F g];exact λe=>hq j g e.2
 ·rw [a7j g hj];exact λe=>e.1 Z
theorem b9b (h:l.length < 4) (hj:j < l.length) (hd:∀i,i < j→l.getD i default≠l.getD j default):o9 (a0i rs l q) (l.getD j default)=j:=by
 grind [o9,S3,b4i,a3C,b2X]
theorem b4j (h:l.length < 4):bstS (a0i rs l q) true=l.length:=by
 have hl:(a0i rs l q).length=4:=b4i h
 have hneg:¬ F2 (a0i rs l q) true 4 < 0:=by
  grind [b0o,b2Y]
 have hb:=@a03 (a0i rs l q) true 4
 have h1:=a2V (sl:=a0i rs l q) (most:=true) 4 J
 unfold bstS
 rw [hl]
 rcases Nat.lt_trichotomy (F2 (a0i rs l q) true 4).toNat l.length with g | g | g
 ·rw [b2X g] at h1;exact absurd h1 (by show ¬ (2:Int)=1;decide)
 ·omega
 ·rw [c1F g J] at h1;exact absurd h1 (by show ¬ (0:Int)=1;decide)
theorem b6x {α:Type} {f:α→Nat} {x:α}:∀{l:List α},x∈l→f x<=(l.map f).sum
 | y :: l,h=>by
  rw [List.map_cons,List.sum_cons]
  rcases List.mem_cons.mp h with rfl | h
  ·omega
  ·have:=b6x (f:=f) h;omega
theorem b7N (h:l.length < 4) (hq:∀j,j < l.length→l.getD j default≠q):a4D (a7i rs l) q (prI rs q)=⟨16,l,⟨a0i rs l q,[]⟩⟩:=by
 have h1:a6h (a7i rs l).qu q (prI rs q)=⟨R8 rs l,[⟨q,prI rs q⟩]⟩:=by
  unfold a6h
  rw [if_neg (by show ¬ 0<=o9 (R8 rs l) q;rw [b9a J hq];decide),if_neg (by have:=@c5E ([]:List Wtr) q;show ¬ 0<=inW [] q;simp at this;omega)]
  rfl
 have h2:setd ⟨R8 rs l,[⟨q,prI rs q⟩]⟩=false:=b5w (by show ¬ 1=0;decide) (by show 0<=freS (R8 rs l);rw [b0v h];omega)
 have h3:stQ ⟨R8 rs l,[⟨q,prI rs q⟩]⟩=⟨a0i rs l q,[]⟩:=by
  rw [s3 (by show 0<=freS (R8 rs l);rw [b0v h];omega)]
  show (⟨(R8 rs l).set (freS (R8 rs l)).toNat ⟨1,q,prI rs q⟩,[]⟩:Que)=_
  rw [b0v h,Int.toNat_natCast,b88 h]
 have h4:a1L ⟨R8 rs l,[⟨q,prI rs q⟩]⟩=⟨a0i rs l q,[]⟩:=by
  unfold a1L
  have hp:0 < phi ⟨R8 rs l,[⟨q,prI rs q⟩]⟩:=by
   have hm:zSl∈R8 rs l:=i6.mpr ⟨l.length,by rw [a4E J];exact h,a7j (Nat.le_refl _) h⟩
   have:wtS zSl<=((R8 rs l).map wtS).sum:=b6x hm
   have e:wtS zSl=2000:=rfl
   show 0 < ((R8 rs l).map wtS).sum
   omega
  obtain ⟨n,hn⟩:∃n,phi ⟨R8 rs l,[⟨q,prI rs q⟩]⟩=n+1:=⟨_,(Nat.sub_add_cancel hp).symm⟩
  rw [hn]
  unfold a6g
  rw [h2]
  simp only [Bool.false_eq_true,if_false]
  rw [h3]
  rfl
 unfold a4D a1s
 rw [h1,h4]
 rfl
theorem c1H (h:l.length < 4) (hd:∀i j,i < j→j < l.length→l.getD i default≠l.getD j default):a7h ⟨16,l,⟨a0i rs l q,[]⟩⟩=if l.length=0 then 16 else prI rs (l.getD (l.length - 1) default):=by
 grind [a7h,lvl,b9b,b2X]
theorem b9c (h:l.length < 4):a2Z ⟨16,l,⟨a0i rs l q,[]⟩⟩=a7i rs (l++[q]):=by
 grind [a2Z,a7i,a4B,tkS,tkI,b4j,b2Y,b89]
theorem c5H (h:l.length<=4) (hr:∀j,j < l.length→(0<=l.getD j default/\l.getD j default<=7)/\0<=prI rs (l.getD j default)/\prI rs (l.getD j default)<=15) (hd:∀i j,i < j→j < l.length→l.getD i default≠l.getD j default):IfF (a7i rs l):=by
 have key:∀i,i < 4→((R8 rs l).getD i default).s≠0→i < l.length:=λi hi h0=>by
  rcases Nat.lt_or_ge i l.length with g | g
  ·exact g
  ·rw [a7j g hi] at h0;exact absurd Z h0
 refine ⟨⟨⟨a4E h,λi hi h0=>?_,λi hi h0=>?_,λi j hij hj h1 h2=>?_⟩,Nat.zero_le _,λw hw=>(by cases hw),List.Pairwise.nil⟩,h,λq hq=>?_⟩
 ·show (R8 rs l).getD i default=zSl
  have h0:((R8 rs l).getD i default).s=0:=h0
  rcases Nat.lt_or_ge i l.length with g | g
  ·rw [a3F g] at h0;exact absurd h0 (by show ¬ (2:Int)=0;decide)
  ·exact a7j g hi
 ·grind [a7i,a3F]
 ·have g1:=key i J h1
  have g2:=key j hj h2
  show ((R8 rs l).getD i default).q≠((R8 rs l).getD j default).q
  rw [a3F g1,a3F g2]
  exact hd i j hij g2
 ·obtain ⟨i,hi,rfl⟩:=i6.mp hq
  have hi:i < l.length:=hi
  refine ⟨⟨l.getD i default,prI rs (l.getD i default)⟩,A6.mpr ⟨⟨2,l.getD i default,prI rs (l.getD i default)⟩,i6.mpr ⟨i,by show i < (R8 rs l).length;rw [a4E h];omega,a3F hi⟩,Z,Z⟩,Z⟩
end
section
variable {rs:List Route} {po:List Bool} {k:Nat} {x:Ifc}
end
structure StkF (rs:List Route) (l:List Int):Prop where
 n:l.length<=4
 el:∀j,j < l.length→(0<=l.getD j default/\l.getD j default<=7)/\0<=prI rs (l.getD j default)/\prI rs (l.getD j default)<=15
 dn:∀j,0 < j→j < l.length→prI rs (l.getD j default) < prI rs (l.getD (j - 1) default)
theorem StkF.lt (h:StkF rs l) {i:Nat}:∀{j:Nat},i < j→j < l.length→prI rs (l.getD j default) < prI rs (l.getD i default)
 | j+1,hij,hj=>by
  have:=h.dn (j+1) J hj
  by_cases e:i=j
  ·subst e;exact this
  ·have:=StkF.lt h (show i < j by omega) J
   grind
theorem StkF.dif (h:StkF rs l) {i j:Nat} (hij:i < j) (hj:j < l.length):l.getD i default≠l.getD j default:=λe=>by
 have:=h.lt hij hj
 rw [e] at this
 omega
theorem StkF.take (h:StkF rs l) {n:Nat} (hn:n<=l.length):IfF (a7i rs (l.take n)):=by
 have hl:(l.take n).length=n:=by rw [List.length_take];omega
 have hg:∀j,j < n→(l.take n).getD j default=l.getD j default:=λj hj=>a2W hj
 refine c5H (by rw [hl];have:=h.n;omega) (λj hj=>?_) (λi j hij hj=>?_)
 ·rw [hg j J];exact h.el j J
 ·rw [hg i J,hg j J];exact h.dif hij J
theorem StkF.step (h:StkF rs l) {i:Nat} (hi:i < l.length) :
 IfF (a4D (a7i rs (l.take i)) (l.getD i default) (prI rs (l.getD i default)))/\(a4D (a7i rs (l.take i)) (l.getD i default) (prI rs (l.getD i default))).st.length < 4 /\
 a0h (a4D (a7i rs (l.take i)) (l.getD i default) (prI rs (l.getD i default))).qu.sl (min (a4D (a7i rs (l.take i)) (l.getD i default) (prI rs (l.getD i default))).ma (a7h (a4D (a7i rs (l.take i)) (l.getD i default) (prI rs (l.getD i default)))))=true /\
 a2Z (a4D (a7i rs (l.take i)) (l.getD i default) (prI rs (l.getD i default)))=a7i rs (l.take (i+1)):=by
 have hn:=h.n
 have hl:(l.take i).length=i:=by rw [List.length_take];omega
 have hg:∀j,j < i→(l.take i).getD j default=l.getD j default:=λj hj=>a2W hj
 have hr:=b7N (rs:=rs) (l:=l.take i) (q:=l.getD i default) J (λj hj=>by rw [hg j J];exact h.dif J hi)
 refine ⟨b5A (h.take J) (h.el i hi).1 (h.el i hi).2,?_,?_,?_⟩
 ·grind
 ·rw [hr,c1H J (λa b hab hb=>by rw [hg a J,hg b J];exact h.dif hab J)]
  rw [I8]
  show 0<=bstS (a0i rs (l.take i) (l.getD i default)) true/\((a0i rs (l.take i) (l.getD i default)).getD (bstS (a0i rs (l.take i) (l.getD i default)) true).toNat default).p < min 16 _
  rw [b4j J,Int.toNat_natCast,b2Y]
  have h15:=(h.el i hi).2.2
  refine ⟨by omega,?_⟩
  show prI rs (l.getD i default) < _
  rw [hl]
  split
  ·omega
  ·next h0 =>
   rw [hg (i - 1) J]
   have:=h.dn i J hi
   omega
 ·rw [hr,b9c J]
  simp_all
end Go.Rf
namespace Go.Rf
section
variable {q:Que} {irq p lim:Int} {x:Ifc}
theorem b5B (h:0<=o9 q.sl irq):a6h q irq p=⟨ptS q.sl irq,q.wa⟩:=by unfold a6h;rw [if_pos h]
theorem b5C (h:o9 q.sl irq < 0) (h2:inW q.wa irq < 0):a6h q irq p=⟨q.sl,insW q.wa ⟨irq,p⟩⟩:=by unfold a6h;rw [if_neg J,if_neg J]
theorem b5D (h:o9 q.sl irq < 0) (h2:0<=inW q.wa irq):a6h q irq p=q:=by unfold a6h;rw [if_neg J,if_pos h2]
def b2Z (q:Que) (lim:Int):Que×Int×Bool:=if a0h q.sl lim then (a4B q,tkI q.sl,true) else (⟨[],[]⟩,0,false)
theorem b5E (h:a0h q.sl lim=true):b2Z q lim=(a4B q,tkI q.sl,true):=by unfold b2Z;rw [h];rfl
theorem b9d (h:a0h q.sl lim=false):b2Z q lim=(⟨[],[]⟩,0,false):=by unfold b2Z;rw [h];rfl
theorem c22 {sl:List Slot}:(tkT sl lim).2.2=a0h sl lim:=by
 cases h:a0h sl lim
 ·rw [b82 h]
 ·rw [b6n h]
theorem b9e:(b2Z q lim).2.2=a0h q.sl lim:=by
 cases h:a0h q.sl lim
 ·rw [b9d h]
 ·rw [b5E h]
def b7O (x:Ifc):Int:=min x.ma (a7h x)
def okT (x:Ifc):Bool:=a0h x.qu.sl (b7O x)
def noI:Ifc:=⟨0,[],⟨[],[]⟩⟩
def X7 (x:Ifc):Ifc×Int×Bool:=if okT x then (a2Z x,tkI x.qu.sl,true) else (noI,0,false)
theorem b6y (h:okT x=true):X7 x=(a2Z x,tkI x.qu.sl,true):=by unfold X7;rw [h];rfl
theorem b6z (h:okT x=false):X7 x=(noI,0,false):=by unfold X7;rw [h];rfl
theorem b5F {sl:List Slot} (h:SlF sl) (hb:0<=bstS sl true):0<=tkI sl/\tkI sl<=7:=by
 obtain ⟨k,e1,e2,e3⟩:=F7 hb
 unfold tkI
 rw [e1,Int.toNat_natCast]
 exact (h.ok k (by rw [← h.len];exact e2) J).2.1
theorem b6A {sl:List Slot} (h:(sl.getD (o9 sl irq).toNat default).s=2):ptS sl irq=sl.set (o9 sl irq).toNat ⟨3,(sl.getD (o9 sl irq).toNat default).q,(sl.getD (o9 sl irq).toNat default).p⟩:=by unfold ptS;rw [if_pos h]
theorem b4k {sl:List Slot} (h:¬ (sl.getD (o9 sl irq).toNat default).s=2):ptS sl irq=sl.set (o9 sl irq).toNat ⟨(sl.getD (o9 sl irq).toNat default).s,(sl.getD (o9 sl irq).toNat default).q,(sl.getD (o9 sl irq).toNat default).p⟩:=by unfold ptS;rw [if_neg h]
end
end Go.Rf
namespace Go.Rf
open Go
theorem b9f {α β:Type} {f:α→β} {k:Nat} {x:α} {y:β} (h:f x=y):(List.replicate k x).map f++[y]=(List.replicate (k+1) x).map f:=by
 subst h
 rw [List.replicate_succ',List.map_append]
 rfl
end Go.Rf
namespace Go.Rf
end Go.Rf
namespace Go.Rf
open Go
variable {l:List Wtr} {x:Wtr}
def srtW (l:List Wtr):List Wtr:=l.foldl insW []
def b4l (l:List Wtr):Prop:=l.Pairwise (λa b=>a.q≠b.q)
theorem b1S:srtW (l++[x])=insW (srtW l) x:=by simp [srtW,List.foldl_append]
theorem b1T:∀{l acc:List Wtr},x∈l.foldl insW acc↔x∈acc∨x∈l
 | [],acc=>by simp
 | y :: l,acc=>by
  rw [List.foldl_cons,b1T,a2X,List.mem_cons]
  grind
theorem b1U:∀{l acc:List Wtr},(l.foldl insW acc).length=acc.length+l.length
 | [],acc=>by simp
 | y :: l,acc=>by rw [List.foldl_cons,b1U,a7b,List.length_cons];omega
theorem b4m:∀{l acc:List Wtr},acc.Pairwise ltW→b4l l→(∀a∈acc,∀b∈l,a.q≠b.q)→(l.foldl insW acc).Pairwise ltW
 | [],acc,h,_,_=>h
 | y :: l,acc,h,hd,hx=>by
  obtain ⟨h1,h2⟩:=List.pairwise_cons.mp hd
  rw [List.foldl_cons]
  refine b4m (b2U h λa ha=>hx a ha y (by simp)) h2 λa ha b hb=>?_
  rcases a2X.mp ha with rfl | ha
  ·exact h1 b hb
  ·exact hx a ha b (by simp [hb])
theorem b4n:(srtW l).length=l.length:=by unfold srtW;rw [b1U];simp
theorem b4o:x∈srtW l↔x∈l:=by unfold srtW;rw [b1T];simp
theorem c1I (h:b4l l):(srtW l).Pairwise ltW:=b4m List.Pairwise.nil h (λa ha=>by cases ha)
theorem b9g {acc:List Wtr} {w:Wtr} (h:∀a∈acc,lessW a w=true):insW acc w=acc++[w]:=by
 rw [a7c (i:=acc.length) (λj hj=>h _ (i6.mpr ⟨j,hj,Z⟩)) (Nat.le_refl _) (.inl Z)]
 simp
theorem a7k:∀{l acc:List Wtr},(acc++l).Pairwise ltW→l.foldl insW acc=acc++l
 | [],acc,_=>by simp
 | y :: l,acc,h=>by
  rw [List.foldl_cons,b9g (λa ha=>((List.pairwise_append.mp h).2.2 a ha y (by simp)).1)]
  rw [a7k (by simpa using h)]
  simp
theorem b4p (h:l.Pairwise ltW):srtW l=l:=by unfold srtW;rw [a7k (by simpa using h)];rfl
def a3G (P:List Wtr) (x:Wtr) (R:List Wtr) (j:Nat):List Wtr:=P.take j++x :: (P.drop j++R)
section
variable {P R:List Wtr} {x:Wtr} {j:Nat}
theorem a4F (h:j<=P.length):(a3G P x R j).length=P.length+1+R.length:=by
 unfold a3G
 simp
 omega
theorem c1J (h:j<=P.length):(a3G P x R j).getD j default=x:=by
 grind [a3G]
theorem b9h {t:Nat} (h:t < j) (hj:j<=P.length):(a3G P x R j).getD t default=P.getD t default:=by
 unfold a3G
 grind
theorem b9i:a3G P x R P.length=P++x :: R:=by unfold a3G;simp
theorem b7P {β:Type} {f:Wtr→β} (h0:0 < j) (hj:j<=P.length):(((a3G P x R j).map f).set j (f (P.getD (j - 1) default))).set (j - 1) (f x)=(a3G P x R (j - 1)).map f:=by
 have hlt:j - 1 < P.length:=by omega
 have h1:P.take j=P.take (j - 1)++[P.getD (j - 1) default]:=by
  (simp_all;omega)
 have h2:P.drop (j - 1)=P.getD (j - 1) default :: P.drop j:=by
  rw [List.drop_eq_getElem_cons hlt,show j - 1+1=j by omega,List.getD_eq_getElem?_getD,List.getElem?_eq_getElem hlt]
  rfl
 rw [← List.map_set,← List.map_set]
 congr 1
 unfold a3G
 grind
theorem b4q (hj:j<=P.length) (hs:P.Pairwise ltW) (hd:∀p∈P,p.q≠x.q) (h1:∀t,j<=t→t < P.length→lessW x (P.getD t default)=true) (h2:j=0∨lessW x (P.getD (j - 1) default)=false):a3G P x R j=insW P x++R:=by
 have hp:=a5s.mp hs
 have hh:∀t,t < j→lessW (P.getD t default) x=true:=λt ht=>by
  have hl:lessW (P.getD (j - 1) default) x=true:=by
   grind [a1d]
  rcases Nat.lt_or_ge t (j - 1) with g | g
  ·exact P5 (hp t (j - 1) g J).1 hl
  grind
 have he:j=P.length∨(j < P.length/\lessW (P.getD j default) x=false):=by
  grind [b5m]
 rw [a7c hh hj he]
 unfold a3G;simp
end
def a86 (d:List Wtr) (i:Nat):List Wtr:=srtW (d.take i)++d.drop i
section
variable {d:List Wtr} {i:Nat}
theorem c5I (h:0 < d.length):a86 d 1=d:=by
 match d,h with
 | x :: d,_=>simp [a86,srtW,insW,b5t]
theorem c5J (h:d.length=0):a86 d 1=d:=by
 match d,h with
 | [],_=>rfl
theorem c5K:a86 d 1=d:=by
 grind [c5J,c5I]
theorem b9j (h:d.length<=i):a86 d i=srtW d:=by unfold a86;rw [List.take_of_length_le h,List.drop_of_length_le h,List.append_nil]
theorem b9k (h:i < d.length):a86 d i=a3G (srtW (d.take i)) (d.getD i default) (d.drop (i+1)) i:=by
 have hl:(srtW (d.take i)).length=i:=by rw [b4n,List.length_take];omega
 conv=>rhs;rw [← hl]
 unfold a86
 rw [hl]
 have e:=@b9i (srtW (d.take i)) (d.drop (i+1)) (d.getD i default)
 simp_all
theorem b1V (h:i < d.length):a86 d (i+1)=insW (srtW (d.take i)) (d.getD i default)++d.drop (i+1):=by
 unfold a86
 rw [List.take_add_one,List.getElem?_eq_getElem h,List.getD_eq_getElem?_getD,List.getElem?_eq_getElem h]
 show srtW (d.take i++[d[i]])++_=_
 rw [b1S]
 rfl
structure MovF (d:List Wtr) (i:Nat):Prop where
 len:(srtW (d.take i)).length=i
 pw:(srtW (d.take i)).Pairwise ltW
 dif:∀p∈srtW (d.take i),p.q≠(d.getD i default).q
theorem c9X (hd:b4l d) (h:i < d.length):MovF d i:=by
 refine ⟨by rw [b4n,List.length_take];omega,c1I (List.Pairwise.sublist (List.take_sublist _ _) hd),λp hp=>?_⟩
 obtain ⟨t,ht,rfl⟩:=i6.mp (b4o.mp hp)
 rw [List.length_take] at ht
 rw [a2W J]
 exact (a5s.mp hd) t i J h
end
def pnP (x:Slot):Bool:=decide (x.s=1) || decide (x.s=3)
theorem F4 {x:Slot}:pnP x=true↔x.s=1∨x.s=3:=by simp [pnP]
def pnL (q:Que):Nat→List Wtr
 | 0=>q.wa
 | i+1=>if pnP (q.sl.getD i default) then pnL q i++[wOf (q.sl.getD i default)] else pnL q i
def pnS (q:Que):Nat→List Wtr
 | 0=>q.wa
 | i+1=>if pnP (q.sl.getD i default) then insW (pnS q i) (wOf (q.sl.getD i default)) else pnS q i
section
variable {q:Que} {i:Nat}
theorem b9l (h:(q.sl.getD i default).s=1∨(q.sl.getD i default).s=3):pnL q (i+1)=pnL q i++[wOf (q.sl.getD i default)]:=by
 show (if pnP _ then _ else _)=_
 rw [if_pos (F4.mpr h)]
theorem c7Z (h:¬ ((q.sl.getD i default).s=1∨(q.sl.getD i default).s=3)):pnL q (i+1)=pnL q i:=by
 show (if pnP _ then _ else _)=_
 rw [if_neg (λg=>h (F4.mp g))]
theorem b1W (h:(q.sl.getD i default).s=1∨(q.sl.getD i default).s=3):pnS q (i+1)=insW (pnS q i) (wOf (q.sl.getD i default)):=by
 show (if pnP _ then _ else _)=_
 rw [if_pos (F4.mpr h)]
theorem c23 (h:¬ ((q.sl.getD i default).s=1∨(q.sl.getD i default).s=3)):pnS q (i+1)=pnS q i:=by
 show (if pnP _ then _ else _)=_
 rw [if_neg (λg=>h (F4.mp g))]
theorem b5G (h:QF q):∀i,srtW (pnL q i)=pnS q i
 | 0=>b4p h.pw
 | i+1=>by
  have ih:=b5G h i
  show srtW (if pnP _ then _ else _)=(if pnP _ then _ else _)
  split
  ·rw [b1S,ih]
  ·exact ih
theorem b20:∀i,(pnL q i).length<=q.wa.length+i
 | 0=>Nat.le_refl _
 | i+1=>by
  have ih:=@b20 i
  show (if pnP _ then _ else _:List Wtr).length<=_
  split
  ·rw [List.length_append,List.length_cons,List.length_nil];omega
  ·omega
theorem a7l:∀i,(pnS q i).length<=q.wa.length+i
 | 0=>Nat.le_refl _
 | i+1=>by
  have ih:=@a7l i
  show (if pnP _ then _ else _:List Wtr).length<=_
  split
  ·rw [a7b];omega
  ·omega
theorem a9H:∀i,x∈pnL q i→x∈q.wa∨∃j,j < i/\(q.sl.getD j default).s≠0/\x=wOf (q.sl.getD j default)
 | 0,h=>.inl h
 | i+1,h=>by
  change x∈(if pnP _ then _ else _:List Wtr) at h
  split at h
  ·next hp =>
   rcases List.mem_append.mp h with h | h
   ·rcases a9H i h with g | ⟨j,g1,g2,g3⟩
    ·exact .inl g
    ·exact .inr ⟨j,by omega,g2,g3⟩
   ·refine .inr ⟨i,by omega,?_,List.mem_singleton.mp h⟩
    rcases F4.mp hp with g | g<;>omega
  ·rcases a9H i h with g | ⟨j,g1,g2,g3⟩
   ·exact .inl g
   ·exact .inr ⟨j,by omega,g2,g3⟩
theorem b6B (h:QF q):∀i,i<=4→b4l (pnL q i)
 | 0,_=>h.pw.imp λh=>h.2
 | i+1,hi=>by
  have ih:=b6B h i J
  show b4l (if pnP _ then _ else _)
  split
  ·next hp =>
   have h0:(q.sl.getD i default).s≠0:=by rcases F4.mp hp with g | g<;>omega
   refine List.pairwise_append.mpr ⟨ih,List.pairwise_singleton _ _,λa ha b hb=>?_⟩
   rw [List.mem_singleton.mp hb]
   show a.q≠(q.sl.getD i default).q
   rcases a9H i ha with g | ⟨j,g1,g2,rfl⟩
   ·exact λe=>(h.wa a g).2.2 _ (i6.mpr ⟨i,by rw [h.sl.len];omega,Z⟩) h0 e.symm
   ·exact h.sl.dif j i g1 J g2 h0
  ·exact ih
theorem b21 (h:QF q) {x:Wtr}:x∈pnS q i↔x∈pnL q i:=by rw [← b5G h,b4o]
theorem c70 (h:QF q) {x:Wtr} (hi:i<=4) (hx:x∈pnL q i):0<=x.q/\x.q<=7:=by
 rcases a9H i hx with g | ⟨j,g1,g2,rfl⟩
 ·exact (h.wa x g).1
 ·exact (h.sl.ok j J g2).2.1
end
def C9 (q:Que):List Int:=(pnS q 4).map (·.q)
theorem a9I {q:Que} (h:QF q) {i:Nat} (hi:i < (C9 q).length):0<=(C9 q).getD i default/\(C9 q).getD i default<=7:=by
 unfold C9 at hi ⊢
 rw [List.length_map] at hi
 rw [a0j hi]
 exact c70 h (Nat.le_refl _) ((b21 h).mp (i6.mpr ⟨i,hi,Z⟩))
theorem a22 {q:Que} (h:QF q):(C9 q).length<=12:=by
 unfold C9
 rw [List.length_map]
 have:=@a7l q 4
 have:=h.wn8
 omega
end Go.Rf
namespace Go.Rf
section
variable {P R:List Wtr} {x:Wtr} {j:Nat} {β:Type} {f:Wtr→β} {c:β}
theorem c1K {α:Type} [Inhabited α] {g:α→β} {l:List α} {i:Nat} (h:i < l.length):(l.map g)[i]?=some (g (l.getD i default)):=by
 grind
theorem a0B (h:j<=P.length):((a3G P x R j).map f)[((j:Int)).toNat]?=some (f x):=by
 grind [a4F,c1J]
theorem a05 (h0:0 < j) (h:j<=P.length):((a3G P x R j).map f)[((j:Int) - 1).toNat]?=some (f (P.getD (j - 1) default)):=by
 rw [show ((j:Int) - 1).toNat=j - 1 by omega]
 rw [c1K (by rw [a4F h];omega),b9h J h]
theorem a11 (h0:0 < j) (h:j<=P.length):(((a3G P x R j).map f).set ((j:Int)).toNat c)[((j:Int) - 1).toNat]?=some (f (P.getD (j - 1) default)):=by
 rw [← a05 (f:=f) (x:=x) (R:=R) h0 h]
 show (((a3G P x R j).map f).set j c)[((j:Int) - 1).toNat]?=_
 rw [List.getElem?_set_ne J]
end
variable {i:Nat}
theorem b1X {α β:Type} [Inhabited α] {f:α→β} {l:List α} {i:Nat} {y:β} (h:i < l.length) (hy:y=f (l.getD i default)):(l.take i).map f++[y]=(l.take (i+1)).map f:=by
 subst hy
 rw [List.take_add_one,List.getElem?_eq_getElem h,List.map_append,List.getD_eq_getElem?_getD,List.getElem?_eq_getElem h]
 rfl
theorem c5L {q:Que} (h:i < (pnS q 4).length):(C9 q).getD i default=((pnS q 4).getD i default).q:=by unfold C9;rw [a0j h]
theorem b6C {q:Que}:(C9 q).length=(pnS q 4).length:=by unfold C9;rw [List.length_map]
theorem b9m {q:Que} (h:i < (pnS q 4).length):((C9 q).take i).map r5++[[Value.int .i64 ((pnS q 4).getD i default).q]]=((C9 q).take (i+1)).map r5:=b1X (by rw [b6C];exact h) (by rw [c5L h];rfl)
theorem b6D {q:Que} (h:(pnS q 4).length<=i):(C9 q).take i=C9 q:=List.take_of_length_le (by rw [b6C];exact h)
end Go.Rf
namespace Go.Rf
open Go
variable {l:List Int} {n x:Int} {w:Wtr}
theorem a12 {a b:List Int}:srtI a=srtI b↔a.Perm b:=by
 constructor
 ·intro h
  exact (a5m a).symm.trans (h▸a5m b)
 ·intro h
  have hp:∀l:List Int,(srtI l).Pairwise (λx y=>decide (x<=y)=true):=λl=>List.pairwise_mergeSort (λa b c h1 h2=>by simp at *;omega) (λa b=>by simp;omega) l
  exact List.Perm.eq_of_pairwise (λx y _ _ h1 h2=>by simp at *;omega) (hp a) (hp b) ((a5m a).trans (h.trans (a5m b).symm))
theorem b22 {α:Type} [BEq α] [LawfulBEq α]:∀{a b:List α},a.Nodup→(∀x∈a,x∈b)→b.length<=a.length→a.Perm b
 | [],b,_,_,hl=>by
  have:b=[]:=List.eq_nil_of_length_eq_zero (by simpa using hl)
  rw [this]
 | x :: a,b,hn,hs,hl=>by
  obtain ⟨h1,h2⟩:=List.nodup_cons.mp hn
  have hx:x∈b:=hs x (by simp)
  refine List.Perm.trans ?_ (List.perm_cons_erase hx).symm
  refine List.Perm.cons x (b22 h2 (λy hy=>?_) ?_)
  ·have hne:y≠x:=λe=>h1 (e▸hy)
   exact (List.mem_erase_of_ne hne).mpr (hs y (by simp [hy]))
  ·rw [List.length_erase_of_mem hx]
   simp only [List.length_cons] at hl
   omega
def actN (sl:List Slot):Nat→List Int
 | 0=>[]
 | i+1=>if R2 (sl.getD i default) then actN sl i++[(sl.getD i default).q] else actN sl i
def b23 (l:List Int) (n:Int):List Int:=l.takeWhile (λx=>decide (x < n))++[n]++l.dropWhile (λx=>decide (x < n))
def a8j (sl:List Slot):Nat→List Int
 | 0=>[]
 | i+1=>if R2 (sl.getD i default) then b23 (a8j sl i) (sl.getD i default).q else a8j sl i
section
variable {sl:List Slot} {i:Nat}
theorem b9n (h:R2 (sl.getD i default)=true):actN sl (i+1)=actN sl i++[(sl.getD i default).q]:=by show (if _ then _ else _)=_;rw [if_pos h]
theorem c5M (h:R2 (sl.getD i default)=false):actN sl (i+1)=actN sl i:=by show (if _ then _ else _)=_;rw [if_neg (by rw [h];decide)]
theorem b9o (h:(sl.getD i default).s=2∨(sl.getD i default).s=3):a8j sl (i+1)=b23 (a8j sl i) (sl.getD i default).q:=by show (if _ then _ else _)=_;rw [if_pos (s8.mpr h)]
theorem b9p (h:¬ ((sl.getD i default).s=2∨(sl.getD i default).s=3)):a8j sl (i+1)=a8j sl i:=by show (if _ then _ else _)=_;rw [if_neg (λg=>h (s8.mp g))]
theorem a0C:∀i,(actN sl i).length<=i
 | 0=>Nat.le_refl _
 | i+1=>by
  have ih:=@a0C i
  show (if _ then _ else _:List Int).length<=_
  split
  ·rw [List.length_append,List.length_cons,List.length_nil];omega
  ·omega
theorem b9q:x∈b23 l n↔x=n∨x∈l:=by
 have h:=List.takeWhile_append_dropWhile (p:=λx=>decide (x < n)) (l:=l)
 have:x∈l↔x∈l.takeWhile (λx=>decide (x < n))∨x∈l.dropWhile (λx=>decide (x < n)):=by
  grind
 unfold b23
 grind
theorem b9r:(b23 l n).length=l.length+1:=by
 have h:=congrArg List.length (List.takeWhile_append_dropWhile (p:=λx=>decide (x < n)) (l:=l))
 unfold b23
 grind
theorem c1L {k:Nat} (h:∀j,j < k→l.getD j default < n) (hk:k<=l.length) (he:k=l.length∨(k < l.length/\¬ l.getD k default < n)):b23 l n=l.take k++[n]++l.drop k:=by
 have key:l.takeWhile (λx=>decide (x < n))=l.take k/\l.dropWhile (λx=>decide (x < n))=l.drop k:=by
  induction l generalizing k with
  | nil=>simp at hk;subst hk;exact ⟨Z,Z⟩
  | cons x l ih =>
   cases k with
   | zero =>
    rcases he with he | ⟨_,he⟩
    ·simp at he
    ·have he:¬ x < n:=he
     simp [he]
   | succ k =>
    have h0:x < n:=h 0 J
    obtain ⟨e1,e2⟩:=ih (k:=k) (λj hj=>by simpa using h (j+1) J) (by simpa using hk) (by
     rcases he with he | ⟨g1,g2⟩
     ·left;simpa using he
     ·right;exact ⟨by simpa using g1,by simpa using g2⟩)
    simp [h0,e1,e2]
 unfold b23
 rw [key.1,key.2]
theorem a7m {x:Int}:∀i,x∈a8j sl i↔x∈actN sl i
 | 0=>Iff.rfl
 | i+1=>by
  have ih:=@a7m x i
  show x∈(if _ then _ else _:List Int)↔x∈(if _ then _ else _:List Int)
  split
  ·rw [b9q,List.mem_append,List.mem_singleton,ih];exact Or.comm
  ·exact ih
theorem a7n:∀i,(a8j sl i).length=(actN sl i).length
 | 0=>rfl
 | i+1=>by
  have ih:=@a7n i
  show (if _ then _ else _:List Int).length=(if _ then _ else _:List Int).length
  split
  ·rw [b9r,List.length_append,ih];rfl
  ·exact ih
theorem J8 {x:Int}:∀i,x∈actN sl i↔∃j,j < i/\R2 (sl.getD j default)=true/\(sl.getD j default).q=x
 | 0=>by simp [actN]
 | i+1=>by
  have ih:=@J8 x i
  show x∈(if _ then _ else _:List Int)↔_
  split
  ·next h =>
   rw [List.mem_append,List.mem_singleton,ih]
   constructor
   ·rintro (⟨j,h1,h2⟩ | rfl)
    ·exact ⟨j,by omega,h2⟩
    ·exact ⟨i,by omega,h,Z⟩
   ·rintro ⟨j,h1,h2,h3⟩
    by_cases e:j=i
    ·subst e;exact .inr h3.symm
    ·exact .inl ⟨j,by omega,h2,h3⟩
  ·next h =>
   rw [ih]
   constructor
   ·rintro ⟨j,h1,h2⟩;exact ⟨j,by omega,h2⟩
   ·rintro ⟨j,h1,h2,h3⟩
    by_cases e:j=i
    ·subst e;exact absurd h2 h
    ·exact ⟨j,by omega,h2,h3⟩
theorem a5t (h:SlF sl):∀i,i<=4→(actN sl i).Nodup
 | 0,_=>List.nodup_nil
 | i+1,hi=>by
  have ih:=a5t h i J
  show (if _ then _ else _:List Int).Nodup
  split
  ·next ha =>
   refine List.nodup_append.mpr ⟨ih,List.nodup_cons.mpr ⟨by simp,List.nodup_nil⟩,λx hx y hy e=>?_⟩
   rw [List.mem_singleton.mp hy] at e
   obtain ⟨j,h1,h2,h3⟩:=(J8 i).mp hx
   refine h.dif j i h1 J ?_ ?_ (h3.trans e)
   ·rcases s8.mp h2 with g | g<;>omega
   ·rcases s8.mp ha with g | g<;>omega
  ·exact ih
theorem c1M (h:SlF sl) (hi:i < 4) (ha:R2 (sl.getD i default)=true) {x:Int} (hx:x∈a8j sl i):x≠(sl.getD i default).q:=λe=>by
 obtain ⟨j,h1,h2,h3⟩:=(J8 i).mp ((a7m i).mp hx)
 refine h.dif j i h1 hi ?_ ?_ (h3.trans e)
 ·rcases s8.mp h2 with g | g<;>omega
 ·rcases s8.mp ha with g | g<;>omega
end
def lvD (sl:List Slot) (st:List Int) (i:Nat):Bool:=decide (i=0) || decide (lvl sl (st.getD i default) < lvl sl (st.getD (i - 1) default))
def a5z (sl:List Slot) (st:List Int):Bool:=decide (srtI st=srtI (actN sl 4)) && a2h st.length (lvD sl st)
def a2n (x:Ifc):Bool:=n8 x.ma 0 16 && (b09 x.qu && a5z x.qu.sl x.st)
section
variable {sl:List Slot} {st:List Int} {i:Nat}
theorem b24 (h:¬ srtI st=srtI (actN sl 4)):a5z sl st=false:=by unfold a5z;rw [decide_eq_false h,Bool.false_and]
theorem b9s (h:lvD sl st i=false) (hi:i < st.length):a5z sl st=false:=by unfold a5z;rw [a1h h hi,Bool.and_false]
theorem b9t (h:srtI st=srtI (actN sl 4)) (h2:∀j,j < i→lvD sl st j=true) (hi:st.length<=i):a5z sl st=true:=by unfold a5z;rw [decide_eq_true h,a3o h2 hi];rfl
theorem b9u:lvD sl st 0=true:=rfl
theorem b9v (h:lvl sl (st.getD i default) < lvl sl (st.getD (i - 1) default)):lvD sl st i=true:=by unfold lvD;rw [decide_eq_true h,Bool.or_true]
theorem c24 (h0:i≠0) (h:¬ lvl sl (st.getD i default) < lvl sl (st.getD (i - 1) default)):lvD sl st i=false:=by unfold lvD;rw [decide_eq_false h,decide_eq_false h0];rfl
theorem b5H (h:x∈actN sl 4) (hl:sl.length=4):0<=o9 sl x:=by
 obtain ⟨j,h1,h2,h3⟩:=(J8 4).mp h
 refine a3E ⟨wOf (sl.getD j default),A6.mpr ⟨sl.getD j default,i6.mpr ⟨j,by omega,Z⟩,h2,Z⟩,h3⟩
theorem b5I (h:srtI st=srtI (actN sl 4)) {x:Int} (hx:x∈st):x∈actN sl 4:=(a12.mp h).mem_iff.mp hx
structure StP (sl:List Slot) (st:List Int) (i:Nat):Prop where
 inn:∀j,j < i→st.getD j default∈actN sl 4
 dif:∀k j,k < j→j < i→st.getD k default≠st.getD j default
 lev:∀j,j < i→lvD sl st j=true
theorem c71:StP sl st 0:=⟨λj h=>by omega,λk j _ h=>by omega,λj h=>by omega⟩
theorem StP.succ (h:StP sl st i) (h1:st.getD i default∈actN sl 4) (h2:∀k,k < i→st.getD k default≠st.getD i default) (h3:lvD sl st i=true):StP sl st (i+1):=by
 refine ⟨λj hj=>?_,λk j hk hj=>?_,λj hj=>?_⟩
 ·by_cases e:j=i
  ·subst e;exact h1
  ·exact h.inn j J
 ·by_cases e:j=i
  ·subst e;exact h2 k hk
  ·exact h.dif k j hk J
 ·by_cases e:j=i
  ·subst e;exact h3
  ·exact h.lev j J
theorem b25:l.Nodup↔∀k j,k < j→j < l.length→l.getD k default≠l.getD j default:=a5s
theorem StP.fin (hF:SlF sl) (h:StP sl st st.length):a5z sl st=decide (st.length=(actN sl 4).length):=by
 by_cases hl:st.length=(actN sl 4).length
 ·rw [decide_eq_true hl]
  have hn:st.Nodup:=b25.mpr h.dif
  have hp:=b22 hn (λx hx=>by obtain ⟨j,hj,rfl⟩:=i6.mp hx;exact h.inn j hj) J
  exact b9t (a12.mpr hp) h.lev (Nat.le_refl _)
 ·rw [decide_eq_false hl]
  exact b24 λe=>hl (a12.mp e).length_eq
theorem c1N (hi:i < st.length) (h:¬ st.getD i default∈actN sl 4):a5z sl st=false:=b24 λe=>h (b5I e (i6.mpr ⟨i,hi,Z⟩))
theorem b9w (hF:SlF sl) {k:Nat} (hk:k < i) (hi:i < st.length) (h:st.getD k default=st.getD i default):a5z sl st=false:=b24 λe=>by
 have hn:st.Nodup:=(a12.mp e).nodup_iff.mpr (a5t hF 4 (Nat.le_refl _))
 exact b25.mp hn k i hk hi h
end
theorem b26 {x:Ifc} (h:a2n x=true):IfF x/\setd x.qu=true/\(0<=x.ma/\x.ma<=16)/\srtI x.st=srtI (actN x.qu.sl 4):=by
 simp only [a2n,a5z,Bool.and_eq_true,decide_eq_true_eq] at h
 obtain ⟨h1,h2,h3,h4⟩:=h
 obtain ⟨g1,g2⟩:=a7e.mp h2
 refine ⟨⟨g1,?_,λq hq=>?_⟩,g2,v7.mp h1,h3⟩
 ·rw [(a12.mp h3).length_eq];exact a0C 4
 ·obtain ⟨j,h1,h2,h3⟩:=(J8 4).mp (b5I h3 hq)
  exact ⟨wOf (x.qu.sl.getD j default),A6.mpr ⟨_,i6.mpr ⟨j,by rw [g1.sl.len];exact h1,Z⟩,h2,Z⟩,h3⟩
def rtW (rs:List Route) (k:Nat) (w:Wtr):Bool:=decide (tgI rs w.q=k) && decide (prI rs w.q=w.p)
def rtS (rs:List Route) (k:Nat) (x:Slot):Bool:=!decide (x.s=3) && (decide (x.s=0) || rtW rs k (wOf x))
def okRq (rs:List Route) (q:Que) (k:Nat):Bool:=a2h 4 (λi=>rtS rs k (q.sl.getD i default)) && a2h q.wa.length (λi=>rtW rs k (q.wa.getD i default))
def a7o (m:Mach) (k:Nat):Bool:=a2n (m.cp.getD k default) && okRq m.rs (m.cp.getD k default).qu k
def W0 (m:Mach):Bool:=okRts m.rs m.cp.length && (decide (m.en.length=8) && (decide (m.ra.length=8) && a2h m.cp.length (a7o m)))
section
variable {rs:List Route} {q:Que} {k i:Nat} {m:Mach}
theorem a13:rtW rs k w=true↔tgI rs w.q=k/\prI rs w.q=w.p:=by simp [rtW]
theorem c5N:rtW rs k w=false↔¬ (tgI rs w.q=k/\prI rs w.q=w.p):=by rw [← Bool.not_eq_true,a13]
theorem a5u {x:Slot}:rtS rs k x=true↔x.s≠3/\(x.s=0∨(tgI rs x.q=k/\prI rs x.q=x.p)):=by
 grind [rtS,a13,wOf]
theorem b9x {x:Slot}:rtS rs k x=false↔¬ (x.s≠3/\(x.s=0∨(tgI rs x.q=k/\prI rs x.q=x.p))):=by rw [← Bool.not_eq_true,a5u]
theorem b9y (h:rtS rs k (q.sl.getD i default)=false) (hi:i < 4):okRq rs q k=false:=by unfold okRq;rw [a1h h hi,Bool.false_and]
theorem c5O (h:rtW rs k (q.wa.getD i default)=false) (hi:i < q.wa.length):okRq rs q k=false:=by unfold okRq;rw [a1h h hi,Bool.and_false]
theorem b9z {j:Nat} (h:∀t,t < i→rtS rs k (q.sl.getD t default)=true) (hi:4<=i) (h2:∀t,t < j→rtW rs k (q.wa.getD t default)=true) (hj:q.wa.length<=j):okRq rs q k=true:=by unfold okRq;rw [a3o h hi,a3o h2 hj];rfl
theorem c5P (h:okRts m.rs m.cp.length=false):W0 m=false:=by unfold W0;rw [h,Bool.false_and]
theorem c5Q (h:¬ (m.en.length=8/\m.ra.length=8)):W0 m=false:=by
 grind [W0]
theorem b9A (h:a7o m k=false) (hk:k < m.cp.length):W0 m=false:=by unfold W0;rw [a1h h hk];simp
theorem c5R (h1:okRts m.rs m.cp.length=true) (h2:m.en.length=8) (h3:m.ra.length=8) (h4:∀j,j < k→a7o m j=true) (hk:m.cp.length<=k):W0 m=true:=by unfold W0;rw [h1,decide_eq_true h2,decide_eq_true h3,a3o h4 hk];rfl
theorem c5S (h:a2n (m.cp.getD k default)=false):a7o m k=false:=by unfold a7o;rw [h,Bool.false_and]
theorem c5T (h:okRq m.rs (m.cp.getD k default).qu k=false):a7o m k=false:=by unfold a7o;rw [h,Bool.and_false]
theorem c5U (h1:a2n (m.cp.getD k default)=true) (h2:okRq m.rs (m.cp.getD k default).qu k=true):a7o m k=true:=by unfold a7o;rw [h1,h2];rfl
end
def ftL (q:Que):Nat→List Wtr
 | 0=>q.wa
 | i+1=>if (q.sl.getD i default).s=0 then ftL q i else ftL q i++[wOf (q.sl.getD i default)]
section
variable {rs:List Route} {q:Que} {k i:Nat}
theorem c72 (h:(q.sl.getD i default).s=0):ftL q (i+1)=ftL q i:=by show (if _ then _ else _)=_;rw [if_pos h]
theorem c73 (h:¬ (q.sl.getD i default).s=0):ftL q (i+1)=ftL q i++[wOf (q.sl.getD i default)]:=by show (if _ then _ else _)=_;rw [if_neg h]
theorem b27:∀i,(ftL q i).length<=q.wa.length+i
 | 0=>Nat.le_refl _
 | i+1=>by
  have ih:=@b27 i
  show (if _ then _ else _:List Wtr).length<=_
  split
  ·omega
  ·rw [List.length_append,List.length_cons,List.length_nil];omega
theorem a7p {x:Wtr}:∀i,x∈ftL q i↔x∈q.wa∨∃j,j < i/\(q.sl.getD j default).s≠0/\x=wOf (q.sl.getD j default)
 | 0=>by simp [ftL]
 | i+1=>by
  have ih:=@a7p x i
  show x∈(if _ then _ else _:List Wtr)↔_
  split
  ·next h =>
   rw [ih]
   constructor
   ·rintro (h1 | ⟨j,h1,h2⟩)
    ·exact .inl h1
    ·exact .inr ⟨j,by omega,h2⟩
   ·rintro (h1 | ⟨j,h1,h2,h3⟩)
    ·exact .inl h1
    ·by_cases e:j=i
     ·subst e;exact absurd h h2
     ·exact .inr ⟨j,by omega,h2,h3⟩
  ·next h =>
   rw [List.mem_append,List.mem_singleton,ih]
   constructor
   ·rintro ((h1 | ⟨j,h1,h2⟩) | rfl)
    ·exact .inl h1
    ·exact .inr ⟨j,by omega,h2⟩
    ·exact .inr ⟨i,by omega,h,Z⟩
   ·rintro (h1 | ⟨j,h1,h2,h3⟩)
    ·exact .inl (.inl h1)
    ·by_cases e:j=i
     ·subst e;exact .inr h3
     ·exact .inl (.inr ⟨j,by omega,h2,h3⟩)
theorem c5V (h:QF q) {x:Wtr} (hi:i<=4) (hx:x∈ftL q i):0<=x.q/\x.q<=7:=by
 rcases (a7p i).mp hx with g | ⟨j,g1,g2,rfl⟩
 ·exact (h.wa x g).1
 ·exact (h.sl.ok j J g2).2.1
theorem c74 (h3:∀j,j < 4→(q.sl.getD j default).s≠3):(!(a0x (ftL q 4).length (λi=>!rtW rs k ((ftL q 4).getD i default))))=okRq rs q k:=by
 rw [Bool.eq_iff_iff,Bool.not_eq_true',a10]
 constructor
 ·intro h
  have hm:∀x∈ftL q 4,rtW rs k x=true:=λx hx=>by
   obtain ⟨i,hi,rfl⟩:=i6.mp hx
   simpa using h i hi
  refine b9z (i:=4) (j:=q.wa.length) (λt ht=>a5u.mpr ⟨h3 t ht,?_⟩) (Nat.le_refl _) (λt ht=>hm _ ((a7p 4).mpr (.inl (i6.mpr ⟨t,ht,Z⟩)))) (Nat.le_refl _)
  by_cases h0:(q.sl.getD t default).s=0
  ·exact .inl h0
  ·exact .inr (a13.mp (hm _ ((a7p 4).mpr (.inr ⟨t,ht,h0,Z⟩))))
 ·intro h i hi
  have hx:(ftL q 4).getD i default∈ftL q 4:=i6.mpr ⟨i,hi,Z⟩
  simp only [okRq,Bool.and_eq_true,C5] at h
  rw [Bool.not_eq_false']
  rcases (a7p 4).mp hx with g | ⟨j,g1,g2,g3⟩
  ·obtain ⟨t,ht,e⟩:=i6.mp g
   rw [← e];exact h.2 t ht
  ·rw [g3]
   rcases (a5u.mp (h.1 j g1)).2 with e | e
   ·exact absurd e g2
   ·exact a13.mpr e
end
end Go.Rf
namespace Go.Rf
section
variable {x:Ifc}
theorem b9B (h:n8 x.ma 0 16=false):a2n x=false:=by unfold a2n;rw [h,Bool.false_and]
theorem b9C (h:b09 x.qu=false):a2n x=false:=by unfold a2n;rw [h,Bool.false_and,Bool.and_false]
theorem b0w (h:a5z x.qu.sl x.st=false):a2n x=false:=by unfold a2n;rw [h,Bool.and_false,Bool.and_false]
theorem c5W (h1:n8 x.ma 0 16=true) (h2:b09 x.qu=true) (h3:a5z x.qu.sl x.st=true):a2n x=true:=by unfold a2n;rw [h1,h2,h3];rfl
theorem c5X (h1:n8 x.ma 0 16=true) (h2:b09 x.qu=true):a2n x=a5z x.qu.sl x.st:=by unfold a2n;rw [h1,h2];rfl
end
end Go.Rf
namespace Go.Rf
open Go
variable {i k:Nat} {l:List Int} {m:Mach} {v:Int}
theorem b0x:a83 l v=true↔v∈l:=by
 grind [a83,b0p,i6]
theorem b28:a83 l v=false↔v∉l:=by rw [← Bool.not_eq_true,b0x]
theorem a7q (hi:i<=l.length) {v:Int}:v∈l.take i↔∃k,k < i/\l.getD k default=v:=by
 grind [i6]
theorem c9Y {a b:Nat}:((a:Int)==(b:Int))=decide (a=b):=by
 grind
def b29 (po:List Bool) (l:List Int):Nat→List Bool
 | 0=>po
 | i+1=>(b29 po l i).set (l.getD i default).toNat true
theorem a0k {po:List Bool}:b29 po l (i+1)=(b29 po l i).set (l.getD i default).toNat true:=rfl
theorem I9 {po:List Bool} {l:List Int}:∀i,(b29 po l i).length=po.length
 | 0=>rfl
 | i+1=>by rw [a0k,List.length_set,I9 i]
def poN (m:Mach):Nat→List Bool
 | 0=>List.replicate 8 false
 | k+1=>b29 (poN m k) (C9 (m.cp.getD k default).qu) (C9 (m.cp.getD k default).qu).length
theorem a7r:poN m (k+1)=b29 (poN m k) (C9 (m.cp.getD k default).qu) (C9 (m.cp.getD k default).qu).length:=rfl
theorem A7 {m:Mach}:∀k,(poN m k).length=8
 | 0=>rfl
 | k+1=>by rw [a7r,I9,A7 k]
def w9 (m:Mach):Abs:=⟨m.en,m.ra,poN m m.cp.length,m.cp.map (·.ma),m.cp.map (·.st)⟩
structure MaF (m:Mach):Prop where
 rt:okRts m.rs m.cp.length=true
 n:1<=m.cp.length/\m.cp.length<=2
 rn:m.rs.length=8
 en:m.en.length=8
 ra:m.ra.length=8
 ok:∀k,k < m.cp.length→IfF (m.cp.getD k default)/\setd (m.cp.getD k default).qu=true/\(0<=(m.cp.getD k default).ma/\(m.cp.getD k default).ma<=16)/\srtI (m.cp.getD k default).st=srtI (actN (m.cp.getD k default).qu.sl 4)
 rq:∀k,k < m.cp.length→okRq m.rs (m.cp.getD k default).qu k=true
theorem maF (h:W0 m=true):MaF m:=by
 simp only [W0,a7o,Bool.and_eq_true,decide_eq_true_eq,C5] at h
 obtain ⟨h1,h2,h3,h4⟩:=h
 have hr:=H4.mp h1
 exact ⟨h1,by omega,hr.2.1,h2,h3,λk hk=>b26 (h4 k hk).1,λk hk=>(h4 k hk).2⟩
theorem a14 (h:k < m.cp.length):((m.cp.map (·.ma)).take k).map r5++[[Value.int .i64 (m.cp.getD k default).ma]]=((m.cp.map (·.ma)).take (k+1)).map r5:=b1X (by rw [List.length_map];exact h) (by rw [a0j h];rfl)
theorem a15 (h:k < m.cp.length) {y:List CI} (hy:y=a69 (m.cp.getD k default).st):((m.cp.map (·.st)).take k).map a69++[y]=((m.cp.map (·.st)).take (k+1)).map a69:=b1X (by rw [List.length_map];exact h) (by rw [a0j h];exact hy)
theorem b4r {α β:Type} {l:List α} {f:α→β} (h:l.length<=k):(l.map f).take k=l.map f:=List.take_of_length_le (by rw [List.length_map];exact h)
end Go.Rf
namespace Go.Rf
end Go.Rf
namespace Go.Rf
open Go Go.RowKit
variable {i:Nat} {l:List Int} {r:Rec} {sl:List Slot} {ws:List ByteArray} {x:Lg}
def spB:ByteArray:=⟨#[32]⟩
def jnS (ws:List ByteArray):Nat→ByteArray
 | 0=>⟨#[]⟩
 | n+1=>(if n=0 then ⟨#[]⟩ else jnS ws n++spB)++ws.getD n ⟨#[]⟩
theorem b6E:jnS ws 1=ws.getD 0 ⟨#[]⟩:=by
 rfl
theorem a7s {n:Nat} (h:0 < n):jnS ws (n+1)=jnS ws n++spB++ws.getD n ⟨#[]⟩:=by
 show (if n=0 then _ else _)++_=_
 rw [if_neg J]
theorem b0y {ws:List ByteArray} {b:Nat} (h:∀i,i < ws.length→(ws.getD i ⟨#[]⟩).size<=b):∀n,n<=ws.length→(jnS ws n).size<=n * (b+1)
 | 0,_=>Nat.zero_le _
 | n+1,hn=>by
  have ih:=b0y h n J
  have hb:=h n J
  have e:(n+1) * (b+1)=n * (b+1)+(b+1):=Nat.succ_mul _ _
  have hsp:spB.size=1:=rfl
  by_cases h0:n=0
  ·subst h0
   rw [b6E]
   omega
  ·rw [a7s J,ByteArray.size_append,ByteArray.size_append]
   omega
theorem b0z (sep x:List UInt8):∀(l:List (List UInt8)),l≠[]→sep.intercalate (l++[x])=sep.intercalate l++sep++x
 | [],h=>absurd Z h
 | [y],_=>by simp [List.intercalate]
 | y :: z :: r,_=>by
  have ih:=b0z sep x (z :: r) (by simp)
  simp_all
theorem b6F {ws:List ByteArray}:∀n,n<=ws.length→(⟨(Lib.join ((ws.take n).map (·.data.toList)) [32]).toArray⟩:ByteArray)=jnS ws n
 | 0,_=>rfl
 | n+1,hn=>by
  have ih:=b6F (ws:=ws) n J
  have hx:ws[n]?=some (ws.getD n ⟨#[]⟩):=by rw [List.getD_eq_getElem?_getD,List.getElem?_eq_getElem J];rfl
  rw [List.take_add_one,hx,Option.toList_some,List.map_append,List.map_cons,List.map_nil]
  by_cases h0:n=0
  ·subst h0
   rw [b6E,List.take_zero,List.map_nil,List.nil_append,Lib.join_one]
  ·rw [a7s J,← ih,Lib.join,b0z _ _ _ (by intro e;have:=congrArg List.length e;rw [List.length_map,List.length_take,Nat.min_eq_left J] at this;exact h0 this)]
   rfl
def jnA (ws:List ByteArray):ByteArray:=jnS ws ws.length
theorem c25 {ws:List ByteArray}:(⟨(Lib.join (ws.map (·.data.toList)) spB.data.toList).toArray⟩:ByteArray)=jnA ws:=by
 have h:=b6F (ws:=ws) ws.length (Nat.le_refl _)
 rw [List.take_length] at h
 exact h
theorem Ctr.join {P:Program} [Env P] {f:FuncId} (hc:Callable P f) {ws:List ByteArray} (hl:ws.length<=1048576) (hs:(jnA ws).size<=140737488355328)
 (h:∀(bk o c:Nat) (w:World),(∀(j:Nat) x,ws[j]?=some x→w.cell? ⟨bk,o+j,none⟩=some (.string x))→bk < w.heap.size→ws.length<=140737488355328→ws.length<=c→(Lib.join (ws.map (·.data.toList)) spB.data.toList).length<=140737488355328 →
  Calls P f #[.slice (some ⟨bk,o,none⟩) ws.length c,.string spB] w λe w'=>e=.returned (.string ⟨(Lib.join (ws.map (·.data.toList)) spB.data.toList).toArray⟩)/\Below w.heap.size w w')
 (h0:∀(a:Option Addr) (c:Nat) (w:World),Calls P f #[.slice a 0 c,.string spB] w λe w'=>e=.returned (.string ⟨#[]⟩)/\w'=w) :
 Ctr P f [.lst 1 (ws.map a4r),.v (.string ⟨#[32]⟩)] (.one (.v (.string (jnA ws)))):=by
 refine ⟨hc,λw vs he hv=>?_⟩
 simp only [RelVs] at hv
 obtain ⟨y,_,rfl,hy,_,_,rfl,hv2,rfl⟩:=hv
 simp only [RelV] at hy hv2
 subst hv2
 obtain ⟨A,cap,rfl,hcap,hall,hcell⟩:=hy
 rw [List.length_map] at hcap hcell ⊢
 by_cases hz:ws.length=0
 ·have e0:ws=[]:=List.eq_nil_of_length_eq_zero hz
  subst e0
  exact (h0 A cap w).mono λe w' ⟨h1,h2⟩=>⟨_,h1,by simp only [ResRel,RCRel];rfl,h2▸Below.refl _ _⟩
 ·obtain ⟨ad,rfl,hb,hr⟩:=hcell J
  have hat:∀j x,ws[j]?=some x→w.cell? (ad.add (j * 1+0))=some (.string x):=λj x hj=>hr j (a4r x) (by rw [List.getElem?_map,hj];rfl) 0 _ Z
  have hsp:ad.spot=none:=by
   have h1:=hat 0 (ws.getD 0 ⟨#[]⟩) (by rw [List.getD_eq_getElem?_getD,List.getElem?_eq_getElem J];rfl)
   have h1:w.cell? ad=some (.string (ws.getD 0 ⟨#[]⟩)):=h1
   cases hsp:ad.spot with
   | none=>rfl
   | some s =>
    exfalso
    unfold World.cell? at h1
    grind
  obtain ⟨bk,o,sp⟩:=ad
  simp only at hsp hb
  subst hsp
  refine (h bk o cap w (λj x hj=>?_) hb J hcap (by have:=congrArg ByteArray.size (c25 (ws:=ws));simp only [ByteArray.size,List.size_toArray] at this hs;omega)).mono λe w' ⟨h1,h2⟩=>⟨.string (jnA ws),h1.trans (by rw [c25]),by simp only [ResRel,RCRel],h2⟩
  have:=hat j x hj
  rw [Nat.mul_one,Nat.add_zero] at this
  by_cases hj0:j=0
  ·subst hj0;exact this
  ·rw [Addr.add,if_neg hj0] at this;exact this
def b4s:ByteArray:=⟨#[110,111,110,101]⟩
def b3a (l:List Int):List ByteArray:=l.map u3
theorem X8:(b3a l).length=l.length:=List.length_map _
theorem a1u (h:i < l.length):(b3a l).getD i ⟨#[]⟩=u3 (l.getD i default):=by
 grind [b3a]
def a4G (l:List Int):ByteArray:=if l.length=0 then b4s else jnA (b3a l)
def a1v (n:Int):Prop:=-9223372036854775807<=n/\n<=9223372036854775807
theorem b1Y (h:∀i,i < l.length→a1v (l.getD i default)) (n:Nat) (hn:n<=l.length):(jnS (b3a l) n).size<=n * 22 :=
 b0y (b:=21) (λi hi=>by rw [X8] at hi;rw [a1u hi];have:=h i hi;exact y7 (by have:=this.1;omega) this.2) n (by rw [X8];exact hn)
theorem c5Y {l:List Int} (h:l.length=0):a4G l=b4s:=if_pos h
theorem b9D {l:List Int} (h:0 < l.length):a4G l=jnS (b3a l) l.length:=by rw [a4G,if_neg J,jnA,X8]
def a6i (k:Int):ByteArray:=(⟨#[45,112,97,98]⟩:ByteArray).extract k.toNat (k+1).toNat
theorem a8k {k:Int}:(a6i k).size<=4:=by
 rw [a6i,ByteArray.size_extract]
 omega
def b4t (x:Slot):ByteArray:=if x.s=0 then a6i x.s else a6i x.s++(u3 x.q++⟨#[58]⟩++u3 x.p)
def a3H (sl:List Slot):List ByteArray:=sl.map b4t
theorem a0D:(a3H sl).length=sl.length:=List.length_map _
theorem a7t {l:List Slot} (h:i < l.length):(a3H l).getD i ⟨#[]⟩=b4t (l.getD i default):=by
 grind [a3H]
def a4H (sl:List Slot):ByteArray:=jnA (a3H sl)
theorem b3b {x:Slot} (h:x.s=0):b4t x=a6i x.s:=if_pos h
theorem b3c {x:Slot} (h:x.s≠0):b4t x=a6i x.s++(u3 x.q++⟨#[58]⟩++u3 x.p):=if_neg h
theorem b7Q {x:Slot} (h:x.s≠0→a1v x.q/\a1v x.p):(b4t x).size<=47:=by
 have hb:=@a8k x.s
 by_cases h0:x.s=0
 ·rw [b3b h0];omega
 ·obtain ⟨⟨a1,a2⟩,b1,b2⟩:=h h0
  have n1:=y7 (n:=x.q) J a2
  have n2:=y7 (n:=x.p) J b2
  rw [b3c h0,ByteArray.size_append,ByteArray.size_append,ByteArray.size_append]
  have:(⟨#[58]⟩:ByteArray).size=1:=rfl
  omega
theorem b1Z (h:∀i,i < sl.length→(sl.getD i default).s≠0→a1v (sl.getD i default).q/\a1v (sl.getD i default).p) (n:Nat) (hn:n<=sl.length):(jnS (a3H sl) n).size<=n * 48 :=
 b0y (b:=47) (λi hi=>by rw [a0D] at hi;rw [a7t hi];exact b7Q (h i hi)) n (by rw [a0D];exact hn)
theorem b6G (hi:i < sl.length):jnS (a3H sl) (i+1)=(if i=0 then ⟨#[]⟩ else jnS (a3H sl) i++spB)++b4t (sl.getD i default):=by
 show (if i=0 then _ else _)++(a3H sl).getD i ⟨#[]⟩=_
 rw [a7t hi]
theorem SlF.s03 (h:SlF sl) {i:Nat} (hi:i < 4):0<=(sl.getD i default).s/\(sl.getD i default).s<=3:=by
 rcases Decidable.em ((sl.getD i default).s=0) with g | g
 ·omega
 ·have:=h.ok i hi g;omega
theorem SlF.nums (h:SlF sl) {i:Nat} (hi:i < 4) (hs:(sl.getD i default).s≠0):(0<=(sl.getD i default).q/\(sl.getD i default).q<=7)/\(0<=(sl.getD i default).p/\(sl.getD i default).p<=15)/\(u3 (sl.getD i default).q).size<=21/\(u3 (sl.getD i default).p).size<=21:=by
 have:=h.ok i hi hs
 exact ⟨this.2.1,this.2.2,y7 J J,y7 J J⟩
theorem c26 (h:SlF sl):∀i,i < sl.length→(sl.getD i default).s≠0→a1v (sl.getD i default).q/\a1v (sl.getD i default).p:=λi hi hs=>by
 have:=h.ok i (by have:=h.len;omega) hs
 exact ⟨⟨by omega,by omega⟩,by omega,by omega⟩
def b0A (l:List Int) (i:Nat):List ByteArray:=(b3a l).take i
theorem b7R (h:i < l.length):b0A l (i+1)=b0A l i++[u3 (l.getD i default)]:=by
 rw [b0A,List.take_add_one,← a1u h,List.getD_eq_getElem?_getD,List.getElem?_eq_getElem (by rw [X8];exact h)]
 rfl
theorem b4u:b0A l l.length=b3a l:=by rw [b0A,← X8,List.take_length]
theorem b4v {l:List Int} {i:Nat}:(b0A l i).length<=l.length:=by rw [b0A,List.length_take,X8];omega
theorem c1O (hl:l.length<=1048576) (h:∀i,i < l.length→a1v (l.getD i default)):(jnA (b0A l l.length)).size<=140737488355328:=by
 have:=b1Y h l.length (Nat.le_refl _)
 rw [b4u,jnA,X8];omega
theorem c5Z {l:List Int} (h:0 < l.length):jnA (b0A l l.length)=a4G l:=by rw [b9D h,b4u,jnA,X8]
def a7u (l:List Slot) (i:Nat):List ByteArray:=(a3H l).take i
theorem b4w {l:List Slot} {i:Nat}:(a7u l i).length<=l.length:=by rw [a7u,List.length_take,a0D];omega
theorem b10 {l:List Slot} (h:i < l.length):a7u l (i+1)=a7u l i++[b4t (l.getD i default)]:=by
 rw [a7u,List.take_add_one,← a7t h,List.getD_eq_getElem?_getD,List.getElem?_eq_getElem (by rw [a0D];exact h)]
 rfl
theorem c50 {l:List Slot} (h:i < l.length) (hs:(l.getD i default).s=0):a7u l (i+1)=a7u l i++[a6i (l.getD i default).s]:=by rw [b10 h,b3b hs]
theorem c52 {l:List Slot} (h:i < l.length) (hs:(l.getD i default).s≠0):a7u l (i+1)=a7u l i++[a6i (l.getD i default).s++(u3 (l.getD i default).q++⟨#[58]⟩++u3 (l.getD i default).p)]:=by rw [b10 h,b3c hs]
theorem b9E {l:List Slot}:jnA (a7u l l.length)=a4H l:=by rw [a4H,a7u,← a0D,List.take_length]
theorem c1P (hl:sl.length<=1048576) (h:∀i,i < sl.length→(sl.getD i default).s≠0→a1v (sl.getD i default).q/\a1v (sl.getD i default).p):(jnA (a7u sl sl.length)).size<=140737488355328:=by
 grind [b1Z,b9E,a4H,jnA,a0D]
theorem c77 (hi:i < sl.length) (h0:i=0) (hs:(sl.getD i default).s=0):jnS (a3H sl) (i+1)=jnS (a3H sl) i++a6i (sl.getD i default).s:=by
 rw [b6G hi,if_pos h0,b3b hs];subst h0;rfl
theorem c78 (hi:i < sl.length) (h0:i≠0) (hs:(sl.getD i default).s=0):jnS (a3H sl) (i+1)=jnS (a3H sl) i++spB++a6i (sl.getD i default).s:=by
 rw [b6G hi,if_neg h0,b3b hs]
theorem c79 (hi:i < sl.length) (h0:i=0) (hs:(sl.getD i default).s≠0):jnS (a3H sl) (i+1)=jnS (a3H sl) i++a6i (sl.getD i default).s++u3 (sl.getD i default).q++⟨#[58]⟩++u3 (sl.getD i default).p:=by
 rw [b6G hi,if_pos h0,b3c hs]
 simp only [ByteArray.append_assoc]
 subst h0;rfl
theorem c8a (hi:i < sl.length) (h0:i≠0) (hs:(sl.getD i default).s≠0):jnS (a3H sl) (i+1)=jnS (a3H sl) i++spB++a6i (sl.getD i default).s++u3 (sl.getD i default).q++⟨#[58]⟩++u3 (sl.getD i default).p:=by
 rw [b6G hi,if_neg h0,b3c hs]
 simp only [ByteArray.append_assoc]
theorem a16 {s:ByteArray}:r6 s<=60/\B9 s (r6 s)<=s.size/\B9 s (r6 s)<=25380:=by
 have h:=b2C (a3x (s:=s)).1
 have h2:=b8x (a3x (s:=s)).1
 omega
theorem b6H {s:ByteArray}:(pre (V9 s) (r6 s+1)).getD (((pre (Z2 s) (r6 s)).length:Int)).toNat default=V9 s (r6 s):=by
 rw [T5]
 exact b4c (Nat.lt_succ_self _)
theorem b4x {s:ByteArray}:((pre (Z2 s) (r6 s)).length:Int)=r6 s:=by rw [T5]
def c27:Lg:=⟨⟨#[]⟩,⟨#[]⟩,0⟩
def eqL (x y:Lg):Bool:=x.d.toList==y.d.toList && x.p.toList==y.p.toList && x.n==y.n
theorem b9F:eqL x x=true:=by simp [eqL]
theorem c1Q {x:Lg} (h:30000 < x.d.size+x.p.size):okLg x=false:=by
 rw [okLg,decide_eq_false J];rfl
theorem b6I {x:Lg} (h:¬ B9 (x.d++x.p) (r6 (x.d++x.p))=x.d.size+x.p.size):okLg x=false:=by
 rw [okLg,decide_eq_false h,Bool.and_false];rfl
theorem c1R {x:Lg} (h:¬ B9 x.d (r6 x.d)=x.d.size):okLg x=false:=by
 rw [okLg,decide_eq_false h,Bool.and_false];rfl
theorem c1S {x:Lg} (h:¬ (r6 (x.d++x.p):Int)=x.n):okLg x=false:=by
 rw [okLg,decide_eq_false h,Bool.and_false]
theorem b9G (h0:x.d.size+x.p.size<=30000) (h1:B9 (x.d++x.p) (r6 (x.d++x.p))=x.d.size+x.p.size) (h2:B9 x.d (r6 x.d)=x.d.size) (h3:(r6 (x.d++x.p):Int)=x.n):okLg x=true:=by
 grind [okLg]
theorem c54 {x:Lg} (h0:x.d.size+x.p.size<=30000) (h1:B9 (x.d++x.p) (r6 (x.d++x.p))=x.d.size+x.p.size) (h2:B9 x.d (r6 x.d)=x.d.size):okLg x=decide ((r6 (x.d++x.p):Int)=x.n):=by
 grind [okLg]
theorem a5v {x:Lg} (h:okLg x=true):x.d.size+x.p.size<=30000/\B9 x.d (r6 x.d)=x.d.size/\0<=x.n/\x.n<=60:=by
 grind [okLg,a16]
theorem b7S {x:Lg} {j:Nat} (h1:B9 (x.d++x.p) (r6 (x.d++x.p))=x.d.size+x.p.size) (h2:(r6 (x.d++x.p):Int)=x.n) (hj:j<=r6 (x.d++x.p)) (hp:B9 (x.d++x.p) j=x.d.size):okLg x=true:=by
 have hl:=a16 (s:=x.d++x.p)
 obtain ⟨h3,h4⟩:=b8w (D:=x.d) (P:=x.p) (n:=j) (λi hi=>a3x.1 i J) J
 have h5:r6 x.d=j:=a1W h3 (b48 J)
 exact b9G J h1 (by rw [h5];omega) h2
theorem b7T {x:Lg} (h:∀j,j < r6 (x.d++x.p)+1→¬ B9 (x.d++x.p) j=x.d.size):okLg x=false:=by
 cases he:okLg x with
 | false=>rfl
 | true =>
  exfalso
  have h2:=(a5v he).2.1
  obtain ⟨h3,h4⟩:=b5a (D:=x.d) (P:=x.p) (n:=r6 x.d) a3x.1
  refine h (r6 x.d) ?_ J
  rcases Nat.lt_or_ge (r6 x.d) (r6 (x.d++x.p)+1) with h5 | h5
  ·exact h5
  ·have h6:=h3 (r6 (x.d++x.p)) J
   rw [a3x.2] at h6
   cases h6
def syE (x:Lg):Lg:=if okLg x then ⟨x.d++x.p,⟨#[]⟩,x.n⟩ else c27
theorem c9Z (h:okLg x=false):syE x=c27/\okLg x=false:=by rw [syE,h];exact ⟨Z,Z⟩
theorem c90 (h:okLg x=true):syE x=⟨x.d++x.p,⟨#[]⟩,x.n⟩/\okLg x=true:=by rw [syE,h];exact ⟨Z,Z⟩
def apG (x:Lg) (r:Rec):Bool:=okLg x && C7 r
def apE (x:Lg) (r:Rec):Lg:=if apG x r && decide (x.n≠60) then ⟨x.d,x.p++E2 x.n r,x.n+1⟩ else x
def apN (x:Lg) (r:Rec):Int:=if apG x r then (if x.n=60 then 2 else 0) else 1
theorem c1T {x:Lg} {r:Rec} (h:apG x r=false):apE x r=x/\apN x r=1:=by rw [apE,apN,h];exact ⟨Z,Z⟩
theorem c28 (h:okLg x=false):apG x r=false:=by rw [apG,h];rfl
theorem c29 (h:C7 r=false):apG x r=false:=by rw [apG,h,Bool.and_false]
theorem c8b {x:Lg} {r:Rec} (h:okLg x=true) (h2:C7 r=true) (h3:x.n=60):apE x r=x/\apN x r=2:=by
 rw [apE,apN,apG,h,h2,if_pos h3]
 simp [h3]
theorem b7U {x:Lg} {r:Rec} (h:okLg x=true) (h2:C7 r=true) (h3:¬ x.n=60):apE x r=⟨x.d,x.p++E2 x.n r,x.n+1⟩/\apN x r=0:=by
 rw [apE,apN,apG,h,h2,if_neg h3]
 simp [h3]
theorem a5w {k:Int} {x:Rec} (h0:0<=k) (h1:k<=9223372036854775807) (h:C7 x=true):(E2 k x).size<=423:=by
 have hb:=a5f h0 h1 h
 have hs:=a2I (s:=F0 k x)
 have e1:(⟨#[10]⟩:ByteArray).size=1:=rfl
 rw [E2,ByteArray.size_append]
 omega
end Go.Rf
namespace Go.Rf
open Go Go.ChangeShapes Go.WideShapes Go.Deep Go.ChangeAt Go.RowKit
section
variable {H:Type} {enc:TypeId×Value→H} {P:Program} {w:World} {base:Nat} {spare:Nat→Bool} {held:Bool} {t e e2:TypeId}
end
section
variable {H:Type} {enc:TypeId×Value→H} {P:Program} {w:World} {base:Nat} {spare:Nat→Bool} {held:Bool}
end
section
variable {H:Type} {enc:TypeId×Value→H} {P:Program} {w:World} {base:Nat} {spare:Nat→Bool} {held:Bool}
end
end Go.Rf
namespace Go.Rf
open Go Go.RowKit
def okCo (m:Mach) (x:Lg):Bool:=W0 m && okLg x
theorem c55 {m:Mach} {x:Lg} (h:W0 m=false):okCo m x=false:=by rw [okCo,h];rfl
theorem c56 {m:Mach} {x:Lg} (h:W0 m=true):okCo m x=okLg x:=by rw [okCo,h];rfl
theorem b3d {m:Mach} {x:Lg} (h:okCo m x=true):W0 m=true/\okLg x=true:=by
 rw [okCo,Bool.and_eq_true] at h;exact h
end Go.Rf
namespace Go.Rf
open Go
variable {i k:Nat} {l:List Int} {m:Mach} {p:Nat→Bool} {sl:List Slot} {w:ByteArray} {x:Ifc}
theorem a5x {α:Type} [BEq α] [LawfulBEq α]:∀{a b:List α},a.Nodup→(∀x∈a,x∈b)→a.length<=b.length
 | [],b,_,_=>Nat.zero_le _
 | x :: a,b,hn,hs=>by
  obtain ⟨h1,h2⟩:=List.nodup_cons.mp hn
  have hx:x∈b:=hs x (by simp)
  have:=a5x (b:=b.erase x) h2 (λy hy=>(List.mem_erase_of_ne (λe:y=x=>h1 (e▸hy))).mpr (hs y (by simp [hy])))
  grind
theorem b6J {sl:List Slot} {k:Nat} (h:R2 (sl.getD k default)=false):∀i,k < i→(actN sl i).length < i
 | i+1,hk=>by
  have hl:=@a0C sl i
  show (if _ then _ else _:List Int).length < _
  split
  ·next ha =>
   rw [List.length_append,List.length_cons,List.length_nil]
   have hne:k≠i:=λe=>by subst e;rw [h] at ha;cases ha
   have:=b6J h i J
   omega
  ·omega
theorem a0r (hl:sl.length=4) {q:Int}:(∃w∈actL sl,w.q=q)↔q∈actN sl 4:=by
 rw [J8]
 constructor
 ·rintro ⟨w,hw,e⟩
  obtain ⟨x,h1,h2,rfl⟩:=A6.mp hw
  obtain ⟨j,hj,rfl⟩:=i6.mp h1
  exact ⟨j,by omega,h2,e⟩
 ·rintro ⟨j,h1,h2,h3⟩
  exact ⟨wOf (sl.getD j default),A6.mpr ⟨_,i6.mpr ⟨j,by omega,Z⟩,h2,Z⟩,h3⟩
structure IfG (x:Ifc):Prop where
 f:IfF x
 nd:x.st.Nodup
theorem IfG.lt (h:IfG x) (hb:0<=bstS x.qu.sl true):x.st.length < 4:=by
 obtain ⟨k,e1,e2,e3⟩:=F7 hb
 have hl:=h.f.qu.sl.len
 have h1:=a5x h.nd (λq hq=>(a0r hl).mp (h.f.st q hq))
 have h2:=b6J (sl:=x.qu.sl) (k:=k) (by rw [← Bool.not_eq_true,s8];omega) 4 J
 omega
theorem b9H {q p:Int} (h:IfG x) (hq:0<=q/\q<=7) (hp:0<=p/\p<=15):IfG (a4D x q p):=⟨b5A h.f hq hp,h.nd⟩
theorem c1U (h:IfG x) (hk:okT x=true):IfG (a2Z x):=by
 have hb:=(I8.mp hk).1
 refine ⟨c5G h.f hb (h.lt hb),?_⟩
 obtain ⟨k,e1,e2,e3⟩:=F7 hb
 refine List.nodup_append.mpr ⟨h.nd,List.nodup_cons.mpr ⟨by simp,List.nodup_nil⟩,λa ha b hb e=>?_⟩
 rw [List.mem_singleton.mp hb] at e
 obtain ⟨j,h1,h2,h3⟩:=(J8 4).mp ((a0r h.f.qu.sl.len).mp (h.f.st a ha))
 have hkq:tkI x.qu.sl=(x.qu.sl.getD k default).q:=by unfold tkI;rw [e1];rfl
 have hne:j≠k:=λee=>by subst ee;rcases s8.mp h2 with g | g<;>omega
 have hj0:(x.qu.sl.getD j default).s≠0:=by rcases s8.mp h2 with g | g<;>omega
 have hl:=h.f.qu.sl.len
 rcases Nat.lt_or_ge j k with g | g
 ·exact h.f.qu.sl.dif j k g J hj0 J (by rw [h3,e,hkq])
 ·exact h.f.qu.sl.dif k j J h1 J hj0 (by rw [h3,e,hkq])
def J4 (x:Ifc):Int:=x.st.getD (x.st.length - 1) default
def a2o (x:Ifc):Ifc:=⟨x.ma,x.st.take (x.st.length - 1),a4C x.qu (J4 x)⟩
theorem a23 (h:x.st.length≠0):J4 x∈x.st:=i6.mpr ⟨x.st.length - 1,by omega,Z⟩
theorem c1V {q:Int} (h:SlF sl) (ha:∃w∈actL sl,w.q=q):R2 (sl.getD (o9 sl q).toNat default)=true:=by
 obtain ⟨k,e1,e2,e3,e4⟩:=a1t (a3E ha)
 obtain ⟨j,h1,h2,h3⟩:=(J8 4).mp ((a0r h.len).mp ha)
 have hl:=h.len
 have hj0:(sl.getD j default).s≠0:=by rcases s8.mp h2 with g | g<;>omega
 have:j=k:=by
  rcases Nat.lt_trichotomy j k with g | g | g
  ·exact absurd (h3.trans e4.symm) (h.dif j k g J hj0 e3)
  ·exact g
  ·exact absurd (e4.trans h3.symm) (h.dif k j g h1 e3 hj0)
 grind
theorem c1W (h:IfG x) (h0:x.st.length≠0):IfG (a2o x):=by
 have hf:=a3E (h.f.st _ (a23 h0))
 have hQ0:=a7f h.f.qu hf
 obtain ⟨k,e1,e2,e3,e4⟩:=a1t hf
 have hnl:∀y∈x.st.take (x.st.length - 1),y≠J4 x:=λy hy e=>by
  obtain ⟨i,hi,e5⟩:=(a7q J).mp hy
  exact b25.mp h.nd i (x.st.length - 1) hi J (e5.trans e)
 refine ⟨⟨(b5z h.f.qu hf).1,by show (x.st.take (x.st.length - 1)).length<=4;have:=h.f.sn;rw [List.length_take];omega,λy hy=>?_⟩,List.Pairwise.sublist (List.take_sublist _ _) h.nd⟩
 show ∃w∈actL (a4C x.qu (J4 x)).sl,w.q=y
 unfold a4C
 rw [b0u hQ0]
 show ∃w∈actL (edS x.qu.sl (J4 x)),w.q=y
 obtain ⟨w,hw,e⟩:=h.f.st y (List.mem_of_mem_take hy)
 obtain ⟨z,z1,z2,z3⟩:=A6.mp hw
 refine ⟨w,A6.mpr ⟨z,?_,z2,z3⟩,e⟩
 unfold edS
 rw [e1,Int.toNat_natCast]
 refine b6w z1 λe'=>hnl y hy ?_
 rw [← e,← z3,e']
 exact e4
structure MaG (m:Mach):Prop where
 rt:okRts m.rs m.cp.length=true
 n:1<=m.cp.length/\m.cp.length<=2
 rn:m.rs.length=8
 en:m.en.length=8
 ra:m.ra.length=8
 ok:∀k,k < m.cp.length→IfG (m.cp.getD k default)
theorem MaF.g (h:MaF m):MaG m:=⟨h.rt,h.n,h.rn,h.en,h.ra,λk hk=>⟨(h.ok k hk).1,(a12.mp (h.ok k hk).2.2.2).nodup_iff.mpr (a5t (h.ok k hk).1.qu.sl 4 (Nat.le_refl _))⟩⟩
theorem MaG.tg (h:MaG m) {i:Nat} (hi:i < 8):(0<=(m.rs.getD i default).t/\(m.rs.getD i default).t<=1)/\(m.rs.getD i default).t.toNat < m.cp.length/\(0<=(m.rs.getD i default).p/\(m.rs.getD i default).p<=15):=by
 have:=(H4.mp h.rt).2.2 i hi
 have:=h.n
 omega
def tgM (m:Mach) (i:Nat):Nat:=(m.rs.getD i default).t.toNat
def a24 (m:Mach) (i:Nat):Bool:=m.en.getD i default && (m.ra.getD i default && !a83 (m.cp.getD (tgM m i) default).st i)
def a6j (m:Mach):Nat→List Bool
 | 0=>m.ra
 | i+1=>if a24 m i then (a6j m i).set i false else a6j m i
def P6 (m:Mach):Nat→List Ifc
 | 0=>m.cp
 | i+1=>if a24 m i then (P6 m i).set (tgM m i) (a4D ((P6 m i).getD (tgM m i) default) i (m.rs.getD i default).p) else P6 m i
def b0B (m:Mach):Mach:=⟨m.rs,m.en,a6j m 8,P6 m 8⟩
section
variable {m:Mach} {i:Nat}
theorem a1w (h:a24 m i=true):a6j m (i+1)=(a6j m i).set i false:=by show (if _ then _ else _)=_;rw [if_pos h]
theorem a1x (h:a24 m i=false):a6j m (i+1)=a6j m i:=by show (if _ then _ else _)=_;rw [if_neg (by rw [h];decide)]
theorem a1y (h:a24 m i=true):P6 m (i+1)=(P6 m i).set (tgM m i) (a4D ((P6 m i).getD (tgM m i) default) i (m.rs.getD i default).p):=by show (if _ then _ else _)=_;rw [if_pos h]
theorem a1z (h:a24 m i=false):P6 m (i+1)=P6 m i:=by show (if _ then _ else _)=_;rw [if_neg (by rw [h];decide)]
theorem a4I:∀i,(a6j m i).length=m.ra.length
 | 0=>rfl
 | i+1=>by
  have ih:=@a4I i
  show (if _ then _ else _:List Bool).length=_
  split
  ·rw [List.length_set];exact ih
  ·exact ih
theorem H7:∀i,(P6 m i).length=m.cp.length
 | 0=>rfl
 | i+1=>by
  have ih:=@H7 i
  show (if _ then _ else _:List Ifc).length=_
  split
  ·rw [List.length_set];exact ih
  ·exact ih
theorem a9J:∀{i j:Nat},i<=j→(a6j m i).getD j default=m.ra.getD j default
 | 0,_,_=>rfl
 | i+1,j,h=>by
  show (if _ then _ else _:List Bool).getD j default=_
  split
  ·rw [List.getD_eq_getElem?_getD,List.getElem?_set_ne J,← List.getD_eq_getElem?_getD];exact a9J J
  ·exact a9J J
theorem a7v (hM:MaG m):∀{i k:Nat},i<=8→k < m.cp.length→((P6 m i).getD k default).st=(m.cp.getD k default).st/\IfG ((P6 m i).getD k default)
 | 0,k,_,hk=>⟨Z,hM.ok k hk⟩
 | i+1,k,hi,hk=>by
  have ih:=@a7v hM i k J hk
  obtain ⟨_,h2,h3⟩:=hM.tg (i:=i) J
  show ((if _ then _ else _:List Ifc).getD k default).st=_/\IfG ((if _ then _ else _:List Ifc).getD k default)
  split
  ·rw [C8 (by rw [H7];exact h2)]
   by_cases e:tgM m i=k
   ·rw [if_pos e]
    subst e
    have ih2:=@a7v hM i (tgM m i) J h2
    exact ⟨ih2.1,b9H ih2.2 J h3⟩
   ·rw [if_neg e];exact ih
  ·exact ih
theorem c57 (hM:MaG m):MaG (b0B m):=by
 refine ⟨?_,by show 1<=(P6 m 8).length/\_;rw [H7];exact ⟨hM.n.1,by show (P6 m 8).length<=2;rw [H7];exact hM.n.2⟩,hM.rn,hM.en,by show (a6j m 8).length=8;rw [a4I];exact hM.ra,λk hk=>?_⟩
 ·show okRts m.rs (P6 m 8).length=true
  rw [H7];exact hM.rt
 ·have hk:k < (P6 m 8).length:=hk
  rw [H7] at hk
  exact (a7v hM (Nat.le_refl _) hk).2
end
def stM (m:Mach) (s:MStep):Mach×Int×Bool :=
 if s.k=1 then (⟨m.rs,m.en,m.ra.set s.q.toNat true,m.cp⟩,-1,!(m.ra.getD s.q.toNat default))
 else if s.k=2 then (b0B m,-1,true)
 else if s.k=3 then (if okT (m.cp.getD s.c.toNat default) then (⟨m.rs,m.en,m.ra,m.cp.set s.c.toNat (a2Z (m.cp.getD s.c.toNat default))⟩,tkI (m.cp.getD s.c.toNat default).qu.sl,true) else (⟨m.rs,m.en,m.ra,m.cp.set s.c.toNat noI⟩,0,false))
 else if s.k=4 then (if (m.cp.getD s.c.toNat default).st.length=0 then (⟨m.rs,m.en,m.ra,m.cp.set s.c.toNat noI⟩,0,false) else (⟨m.rs,m.en,m.ra,m.cp.set s.c.toNat (a2o (m.cp.getD s.c.toNat default))⟩,J4 (m.cp.getD s.c.toNat default),true))
 else if s.k=5 then (⟨m.rs,m.en,m.ra,m.cp.set s.c.toNat ⟨s.v,(m.cp.getD s.c.toNat default).st,(m.cp.getD s.c.toNat default).qu⟩⟩,-1,true)
 else (⟨m.rs,m.en.set s.q.toNat (decide (s.v=1)),m.ra,m.cp⟩,-1,true)
def b1a (m:Mach) (s:MStep):Prop:=(s.k=3/\okT (m.cp.getD s.c.toNat default)=false)∨(s.k=4/\(m.cp.getD s.c.toNat default).st.length=0)
theorem b9I (h:MaG m):AbsF m.rs (w9 m):=by
 have hl:(m.cp.map (λx:Ifc=>x.ma)).length=m.cp.length:=List.length_map _
 have hl2:(m.cp.map (λx:Ifc=>x.st)).length=m.cp.length:=List.length_map _
 have hg:∀c,c < m.cp.length→(m.cp.map (λx:Ifc=>x.st)).getD c default=(m.cp.getD c default).st:=λc hc=>a0j (f:=λx:Ifc=>x.st) hc
 refine ⟨by show 1<=(m.cp.map (λx:Ifc=>x.ma)).length/\(m.cp.map (λx:Ifc=>x.ma)).length<=2;rw [hl];exact h.n,h.rn,by show (m.cp.map (λx:Ifc=>x.st)).length=(m.cp.map (λx:Ifc=>x.ma)).length;rw [hl,hl2],h.en,h.ra,A7 _,λi hi=>?_,λc hc=>?_,λc hc i hi=>?_⟩
 ·show 0<=(m.rs.getD i default).t/\(m.rs.getD i default).t < (m.cp.map (λx:Ifc=>x.ma)).length
  rw [hl]
  have:=(H4.mp h.rt).2.2 i hi
  omega
 ·have hc:c < (m.cp.map (λx:Ifc=>x.ma)).length:=hc
  rw [hl] at hc
  show ((m.cp.map (λx:Ifc=>x.st)).getD c default).length<=4
  rw [hg c hc]
  exact (h.ok c hc).f.sn
 ·have hc:c < (m.cp.map (λx:Ifc=>x.ma)).length:=hc
  rw [hl] at hc
  have hi:i < ((m.cp.map (λx:Ifc=>x.st)).getD c default).length:=hi
  show 0<=((m.cp.map (λx:Ifc=>x.st)).getD c default).getD i default/\((m.cp.map (λx:Ifc=>x.st)).getD c default).getD i default<=7
  rw [hg c hc] at hi ⊢
  have hI:=(h.ok c hc).f
  obtain ⟨j,h1,h2,h3⟩:=(J8 4).mp ((a0r hI.qu.sl.len).mp (hI.st _ (i6.mpr ⟨i,hi,Z⟩)))
  rw [← h3]
  exact (hI.qu.sl.ok j h1 (by rcases s8.mp h2 with g | g<;>omega)).2.1
theorem MaG.put (h:MaG m) {c:Nat} {x:Ifc} (hx:IfG x):MaG ⟨m.rs,m.en,m.ra,m.cp.set c x⟩:=by
 refine ⟨by show okRts m.rs (m.cp.set c x).length=true;rw [List.length_set];exact h.rt,by show 1<=(m.cp.set c x).length/\(m.cp.set c x).length<=2;rw [List.length_set];exact h.n,h.rn,h.en,h.ra,λk hk=>?_⟩
 have hk:k < (m.cp.set c x).length:=hk
 rw [List.length_set] at hk
 show IfG ((m.cp.set c x).getD k default)
 by_cases e:c=k
 ·grind
 ·rw [List.getD_eq_getElem?_getD,List.getElem?_set_ne e,← List.getD_eq_getElem?_getD];exact h.ok k hk
theorem c3a {s:MStep} (h:MaG m) (hv:R4 m.cp.length s=true) (hk:(stM m s).2.2=true):MaG (stM m s).1/\(stM m s).1.rs=m.rs/\(stM m s).1.cp.length=m.cp.length:=by
 obtain ⟨sk,sq,sc,sv⟩:=s
 have hc:=λhk=>b08 (n:=m.cp.length) (k:=sk) (q:=sq) (c:=sc) (v:=sv) hv hk
 unfold stM at hk ⊢
 dsimp only at hk ⊢
 by_cases h1:sk=1
 ·simp only [h1,if_true]
  exact ⟨⟨h.rt,h.n,h.rn,h.en,by show (m.ra.set sq.toNat true).length=8;rw [List.length_set];exact h.ra,h.ok⟩,trivial,trivial⟩
 by_cases h2:sk=2
 ·rw [if_neg h1,if_pos h2]
  exact ⟨c57 h,Z,H7 8⟩
 by_cases h3:sk=3
 ·have hcc:=hc (.inl h3)
  rw [if_neg h1,if_neg h2,if_pos h3] at hk ⊢
  by_cases ho:okT (m.cp.getD sc.toNat default)=true
  ·rw [if_pos ho]
   exact ⟨h.put (c1U (h.ok _ J) ho),Z,List.length_set⟩
  grind
 by_cases h4:sk=4
 ·have hcc:=hc (.inr (.inl h4))
  rw [if_neg h1,if_neg h2,if_neg h3,if_pos h4] at hk ⊢
  by_cases ho:(m.cp.getD sc.toNat default).st.length=0
  ·grind
  ·rw [if_neg ho]
   exact ⟨h.put (c1W (h.ok _ J) ho),Z,List.length_set⟩
 by_cases h5:sk=5
 ·have hcc:=hc (.inr (.inr h5))
  rw [if_neg h1,if_neg h2,if_neg h3,if_neg h4,if_pos h5]
  have hI:=h.ok sc.toNat J
  exact ⟨h.put ⟨⟨hI.f.qu,hI.f.sn,hI.f.st⟩,hI.nd⟩,Z,List.length_set⟩
 ·rw [if_neg h1,if_neg h2,if_neg h3,if_neg h4,if_neg h5]
  exact ⟨⟨h.rt,h.n,h.rn,by show (m.en.set sq.toNat _).length=8;rw [List.length_set];exact h.en,h.ra,h.ok⟩,Z,Z⟩
section
variable {p:Mach×Abs} {s:MStep}
end
section
variable {m:Mach} {sk sq sc sv:Int} {q c:Nat}
theorem sm1 (h:sk=1):stM m ⟨sk,(q:Int),sc,sv⟩=(⟨m.rs,m.en,m.ra.set q true,m.cp⟩,-1,!(m.ra.getD q default)):=by subst h;rfl
theorem sm2 (h:sk=2):stM m ⟨sk,sq,sc,sv⟩=(b0B m,-1,true):=by subst h;rfl
theorem sm3 (h:sk=3) (hk:okT (m.cp.getD c default)=true):stM m ⟨sk,sq,(c:Int),sv⟩=(⟨m.rs,m.en,m.ra,m.cp.set c (a2Z (m.cp.getD c default))⟩,tkI (m.cp.getD c default).qu.sl,true):=by
 subst h
 show (if okT (m.cp.getD c default) then _ else _:Mach×Int×Bool)=_
 rw [hk];rfl
theorem c8c (h:sk=3) (hk:okT (m.cp.getD c default)=false):stM m ⟨sk,sq,(c:Int),sv⟩=(⟨m.rs,m.en,m.ra,m.cp.set c noI⟩,0,false):=by
 subst h
 show (if okT (m.cp.getD c default) then _ else _:Mach×Int×Bool)=_
 rw [hk];rfl
theorem sm4 (h:sk=4) (hk:¬ (m.cp.getD c default).st.length=0):stM m ⟨sk,sq,(c:Int),sv⟩=(⟨m.rs,m.en,m.ra,m.cp.set c (a2o (m.cp.getD c default))⟩,J4 (m.cp.getD c default),true):=by
 subst h
 show (if (m.cp.getD c default).st.length=0 then _ else _:Mach×Int×Bool)=_
 rw [if_neg hk];rfl
theorem c8d (h:sk=4) (hk:(m.cp.getD c default).st.length=0):stM m ⟨sk,sq,(c:Int),sv⟩=(⟨m.rs,m.en,m.ra,m.cp.set c noI⟩,0,false):=by
 subst h
 show (if (m.cp.getD c default).st.length=0 then _ else _:Mach×Int×Bool)=_
 rw [if_pos hk];rfl
theorem sm5 (h:sk=5):stM m ⟨sk,sq,(c:Int),sv⟩=(⟨m.rs,m.en,m.ra,m.cp.set c ⟨sv,(m.cp.getD c default).st,(m.cp.getD c default).qu⟩⟩,-1,true):=by subst h;rfl
theorem sm6 (h:sk=6):stM m ⟨sk,(q:Int),sc,sv⟩=(⟨m.rs,m.en.set q (decide (sv=1)),m.ra,m.cp⟩,-1,true):=by subst h;rfl
theorem b5J (h:b1a m ⟨sk,sq,sc,sv⟩):sk=3∨sk=4:=by
 rcases h with ⟨h,_⟩ | ⟨h,_⟩
 ·exact .inl h
 ·exact .inr h
theorem c58 (h:b1a m ⟨sk,sq,(c:Int),sv⟩) (h3:sk=3):okT (m.cp.getD c default)=false:=by
 rcases h with ⟨_,h⟩ | ⟨h,_⟩
 ·exact h
 ·have h':sk=4:=h
  omega
theorem c59 (h:b1a m ⟨sk,sq,(c:Int),sv⟩) (h4:sk=4):(m.cp.getD c default).st.length=0:=by
 rcases h with ⟨h,_⟩ | ⟨_,h⟩
 ·have h':sk=3:=h
  omega
 ·exact h
theorem c91 (h:¬ b1a m ⟨sk,sq,(c:Int),sv⟩) (h3:sk=3):okT (m.cp.getD c default)=true:=by
 cases ho:okT (m.cp.getD c default)
 ·exact absurd (Or.inl ⟨h3,ho⟩) h
 ·rfl
theorem c92 (h:¬ b1a m ⟨sk,sq,(c:Int),sv⟩) (h4:sk=4):¬ (m.cp.getD c default).st.length=0:=λe=>h (Or.inr ⟨h4,e⟩)
theorem c6a {s:MStep} (h:b1a m s):(stM m s).2.2=false:=by
 obtain ⟨sk,sq,sc,sv⟩:=s
 rcases h with ⟨h1,h2⟩ | ⟨h1,h2⟩
 ·have h1:sk=3:=h1
  subst h1
  show (if okT (m.cp.getD sc.toNat default) then _ else _:Mach×Int×Bool).2.2=false
  grind
 ·have h1:sk=4:=h1
  subst h1
  show (if (m.cp.getD sc.toNat default).st.length=0 then _ else _:Mach×Int×Bool).2.2=false
  grind
end
theorem MaG.lens (h:MaG m) {k:Nat} (hk:k < m.cp.length):(m.cp.getD k default).st.length<=4/\(m.cp.getD k default).qu.sl.length=4/\(m.cp.getD k default).qu.wa.length<=8:=⟨(h.ok k hk).f.sn,(h.ok k hk).f.qu.sl.len,(h.ok k hk).f.qu.wn8⟩
theorem MaG.small (h:MaG m):SmallM m:=by
 have h1:=h.n
 refine ⟨by rw [h.rn];decide,by rw [h.en];decide,by rw [h.ra];decide,by omega,?_⟩
 have key:∀i,i<=m.cp.length→sumI m.cp i<=16 * i:=by
  intro i
  induction i with
  | zero=>intro _;exact Int.le_refl _
  | succ i ih =>
   intro hi
   rw [a2Y]
   have:=ih J
   obtain ⟨q1,q2,q3⟩:=h.lens (show i < m.cp.length by omega)
   have:szI (m.cp.getD i default)<=16:=by unfold szI;omega
   push_cast
   omega
 grind
theorem b9J {m:Mach} {i:Nat} (h1:m.en.getD i default=true) (h2:m.ra.getD i default=true) (h3:a83 (m.cp.getD (tgM m i) default).st i=false):a24 m i=true:=by unfold a24;rw [h1,h2,h3];rfl
theorem b9K {m:Mach} {i:Nat} (h1:m.en.getD i default=false):a24 m i=false:=by unfold a24;rw [h1,Bool.false_and]
theorem b9L {m:Mach} {i:Nat} (h2:m.ra.getD i default=false):a24 m i=false:=by unfold a24;rw [h2,Bool.false_and,Bool.and_false]
theorem b9M {m:Mach} {i:Nat} (h3:a83 (m.cp.getD (tgM m i) default).st i=true):a24 m i=false:=by unfold a24;rw [h3];simp
theorem b9N {q:Int} (h:(sl.getD (o9 sl q).toNat default).s=3):edS sl q=sl.set (o9 sl q).toNat ⟨1,q,(sl.getD (o9 sl q).toNat default).p⟩:=by unfold edS edX;rw [if_pos h]
theorem b6K {q:Int} (h:¬ (sl.getD (o9 sl q).toNat default).s=3):edS sl q=sl.set (o9 sl q).toNat zSl:=by unfold edS edX;rw [if_neg h]
def m9 (w:ByteArray):Nat :=
 if w.data.toList=[115,121,110,99] then 0
 else if w.data.toList=[114,97,105,115,101,100] then 1
 else if w.data.toList=[105,100,108,101] then 2
 else if w.data.toList=[114,97,105,115,101] then 3
 else if w.data.toList=[101,110,97,98,108,101] then 4
 else if w.data.toList=[100,105,115,97,98,108,101] then 5
 else if w.data.toList=[116,97,107,101] then 6
 else if w.data.toList=[108,101,97,118,101] then 7
 else if w.data.toList=[112,101,110,100,105,110,103] then 8
 else if w.data.toList=[115,116,97,99,107] then 9
 else if w.data.toList=[110,101,120,116] then 10
 else if w.data.toList=[115,108,111,116,115] then 11
 else if w.data.toList=[109,97,115,107] then 12
 else 13
theorem a0l {l:Array UInt8}:w.toList=(⟨l⟩:ByteArray).toList↔w.data.toList=l.toList:=by rw [Go.ByteArray.toList_eq,Go.ByteArray.toList_eq]
theorem U3 {c:Prop} [Decidable c] {a b k:Nat} (h:(if c then a else b)=k) (hak:a≠k):b=k:=by
 grind
theorem a0m {l:List UInt8} (h:w.data.toList=l):m9 w=m9 ⟨⟨l⟩⟩:=by unfold m9;simp only [h]
theorem b11:w.toList=(⟨#[115,121,110,99]⟩:ByteArray).toList↔m9 w=0:=by
 rw [a0l]
 show w.data.toList=[115,121,110,99]↔_
 constructor
 ·intro h;exact (a0m h).trans (by decide)
 ·intro h
  unfold m9 at h
  refine Decidable.byContradiction λhn=>?_
  rw [if_neg hn] at h
  iterate 12 have h:=U3 h (by decide)
  cases h
theorem b12:w.toList=(⟨#[114,97,105,115,101,100]⟩:ByteArray).toList↔m9 w=1:=by
 rw [a0l]
 show w.data.toList=[114,97,105,115,101,100]↔_
 constructor
 ·intro h;exact (a0m h).trans (by decide)
 ·intro h
  unfold m9 at h
  refine Decidable.byContradiction λhn=>?_
  have h:=U3 h (by decide)
  rw [if_neg hn] at h
  iterate 11 have h:=U3 h (by decide)
  cases h
theorem b13:w.toList=(⟨#[105,100,108,101]⟩:ByteArray).toList↔m9 w=2:=by
 rw [a0l]
 show w.data.toList=[105,100,108,101]↔_
 constructor
 ·intro h;exact (a0m h).trans (by decide)
 ·intro h
  unfold m9 at h
  refine Decidable.byContradiction λhn=>?_
  iterate 2 have h:=U3 h (by decide)
  rw [if_neg hn] at h
  iterate 10 have h:=U3 h (by decide)
  cases h
theorem b14:w.toList=(⟨#[114,97,105,115,101]⟩:ByteArray).toList↔m9 w=3:=by
 rw [a0l]
 show w.data.toList=[114,97,105,115,101]↔_
 constructor
 ·intro h;exact (a0m h).trans (by decide)
 ·intro h
  unfold m9 at h
  refine Decidable.byContradiction λhn=>?_
  iterate 3 have h:=U3 h (by decide)
  grind
theorem b15:w.toList=(⟨#[101,110,97,98,108,101]⟩:ByteArray).toList↔m9 w=4:=by
 rw [a0l]
 show w.data.toList=[101,110,97,98,108,101]↔_
 constructor
 ·intro h;exact (a0m h).trans (by decide)
 ·intro h
  unfold m9 at h
  refine Decidable.byContradiction λhn=>?_
  iterate 4 have h:=U3 h (by decide)
  grind
theorem b16:w.toList=(⟨#[100,105,115,97,98,108,101]⟩:ByteArray).toList↔m9 w=5:=by
 rw [a0l]
 show w.data.toList=[100,105,115,97,98,108,101]↔_
 constructor
 ·intro h;exact (a0m h).trans (by decide)
 ·intro h
  unfold m9 at h
  refine Decidable.byContradiction λhn=>?_
  iterate 5 have h:=U3 h (by decide)
  grind
theorem b17:w.toList=(⟨#[116,97,107,101]⟩:ByteArray).toList↔m9 w=6:=by
 rw [a0l]
 show w.data.toList=[116,97,107,101]↔_
 constructor
 ·intro h;exact (a0m h).trans (by decide)
 ·intro h
  unfold m9 at h
  refine Decidable.byContradiction λhn=>?_
  iterate 6 have h:=U3 h (by decide)
  grind
theorem b18:w.toList=(⟨#[108,101,97,118,101]⟩:ByteArray).toList↔m9 w=7:=by
 rw [a0l]
 show w.data.toList=[108,101,97,118,101]↔_
 constructor
 ·intro h;exact (a0m h).trans (by decide)
 ·intro h
  unfold m9 at h
  refine Decidable.byContradiction λhn=>?_
  iterate 7 have h:=U3 h (by decide)
  grind
theorem b19:w.toList=(⟨#[112,101,110,100,105,110,103]⟩:ByteArray).toList↔m9 w=8:=by
 rw [a0l]
 show w.data.toList=[112,101,110,100,105,110,103]↔_
 constructor
 ·intro h;exact (a0m h).trans (by decide)
 ·intro h
  unfold m9 at h
  refine Decidable.byContradiction λhn=>?_
  iterate 8 have h:=U3 h (by decide)
  grind
theorem b2a:w.toList=(⟨#[115,116,97,99,107]⟩:ByteArray).toList↔m9 w=9:=by
 rw [a0l]
 show w.data.toList=[115,116,97,99,107]↔_
 constructor
 ·intro h;exact (a0m h).trans (by decide)
 ·intro h
  unfold m9 at h
  refine Decidable.byContradiction λhn=>?_
  iterate 9 have h:=U3 h (by decide)
  grind
theorem b3e:w.toList=(⟨#[110,101,120,116]⟩:ByteArray).toList↔m9 w=10:=by
 rw [a0l]
 show w.data.toList=[110,101,120,116]↔_
 constructor
 ·intro h;exact (a0m h).trans (by decide)
 ·intro h
  unfold m9 at h
  refine Decidable.byContradiction λhn=>?_
  iterate 10 have h:=U3 h (by decide)
  grind
theorem a8l:w.toList=(⟨#[115,108,111,116,115]⟩:ByteArray).toList↔m9 w=11:=by
 rw [a0l]
 show w.data.toList=[115,108,111,116,115]↔_
 constructor
 ·intro h;exact (a0m h).trans (by decide)
 ·intro h
  unfold m9 at h
  refine Decidable.byContradiction λhn=>?_
  iterate 11 have h:=U3 h (by decide)
  grind
theorem a8m:w.toList=(⟨#[109,97,115,107]⟩:ByteArray).toList↔m9 w=12:=by
 rw [a0l]
 show w.data.toList=[109,97,115,107]↔_
 constructor
 ·intro h;exact (a0m h).trans (by decide)
 ·intro h
  unfold m9 at h
  refine Decidable.byContradiction λhn=>?_
  iterate 12 have h:=U3 h (by decide)
  grind
theorem b3f {w:ByteArray}:m9 w<=13:=by
 have h:∀(c:Prop) [Decidable c] (a b:Nat),a<=13→b<=13→(if c then a else b)<=13:=λc _ a b h1 h2=>by by_cases hc:c<;>simp [hc,h1,h2]
 unfold m9
 iterate 13 refine h _ _ _ (by decide) ?_
 decide
def a2p (k:Nat):Int:=if k<=2 then 0 else if k<=11 then 1 else if k=12 then 2 else -1
theorem a4J (h:k<=2):a2p k=0:=by unfold a2p;rw [if_pos h]
theorem a0M {k:Nat} (h:3<=k/\k<=11):a2p k=1:=by unfold a2p;rw [if_neg J,if_pos J]
theorem a8n {k:Nat} (h:k=12):a2p k=2:=by unfold a2p;rw [if_neg J,if_neg J,if_pos h]
theorem a6k (h:13<=k):a2p k=-1:=by unfold a2p;rw [if_neg J,if_neg J,if_neg J]
def a0E (k:Nat) (l:List Int):MStep×Bool :=
 if k=3 then (⟨1,l.getD 0 default,0,0⟩,true)
 else if k=4 then (⟨6,l.getD 0 default,0,1⟩,true)
 else if k=5 then (⟨6,l.getD 0 default,0,0⟩,true)
 else if k=0 then (⟨2,0,0,0⟩,true)
 else if k=6 then (⟨3,0,l.getD 0 default,0⟩,true)
 else if k=7 then (⟨4,0,l.getD 0 default,0⟩,true)
 else if k=12 then (⟨5,0,l.getD 0 default,l.getD 1 default⟩,true)
 else (⟨0,0,0,0⟩,false)
def b5K (m:Mach) (s:MStep):Bool:=W0 m && R4 m.cp.length s && (stM m s).2.2
def smT (m:Mach) (s:MStep):Mach×Int×Bool:=if b5K m s then ((stM m s).1,(stM m s).2.1,true) else (⟨[],[],[],[]⟩,0,false)
theorem b2b {m:Mach} {s:MStep} (h:W0 m=false∨R4 m.cp.length s=false∨(stM m s).2.2=false):smT m s=(⟨[],[],[],[]⟩,0,false):=by
 unfold smT b5K
 grind
theorem c3b {s:MStep} (h1:W0 m=true) (h2:R4 m.cp.length s=true) (h3:(stM m s).2.2=true):smT m s=((stM m s).1,(stM m s).2.1,true):=by
 unfold smT b5K
 grind
def whN (p:Nat→Bool):Nat→List Int
 | 0=>[]
 | i+1=>if p i then whN p i++[(i:Int)] else whN p i
theorem c8e (h:p i=true):whN p (i+1)=whN p i++[(i:Int)]:=by rw [whN,if_pos h]
theorem c8f (h:p i=false):whN p (i+1)=whN p i:=by rw [whN,if_neg (by simp [h])]
theorem a7w {p:Nat→Bool}:∀{i:Nat},(whN p i).length<=i
 | 0=>Nat.le_refl _
 | i+1=>by
  have:=a7w (p:=p) (i:=i)
  rw [whN]
  grind
theorem b3g:∀{i:Nat} {x:Int},x∈whN p i→0<=x/\x < i
 | 0,x,h=>by cases h
 | i+1,x,h=>by
  rw [whN] at h
  split at h
  ·rcases List.mem_append.1 h with h | h
   ·have:=b3g h;omega
   grind
  ·have:=b3g h;omega
theorem b9O {n:Nat} (hn:n<=1000):∀i,i < (whN p n).length→a1v ((whN p n).getD i default):=λi hi=>by
 have hm:(whN p n).getD i default∈whN p n:=by rw [List.getD_eq_getElem?_getD,List.getElem?_eq_getElem hi];exact List.getElem_mem hi
 have:=b3g hm
 exact ⟨by omega,by omega⟩
def raN (m:Mach):List Int:=whN (λi=>m.ra.getD i default) 8
def a25 (x:Ifc):Bool:=decide ((x.st.length:Int) > 0) || decide (((C9 x.qu).length:Int) > 0)
theorem b6L (h:(x.st.length:Int) > 0):a25 x=true:=by unfold a25;rw [decide_eq_true h];rfl
theorem a9K (h:¬ (x.st.length:Int) > 0):a25 x=decide (((C9 x.qu).length:Int) > 0):=by unfold a25;rw [decide_eq_false h];rfl
theorem c1X (h:¬ (x.st.length:Int) > 0) (h2:((C9 x.qu).length:Int) > 0):a25 x=true:=by rw [a9K h,decide_eq_true h2]
theorem c1Y (h:¬ (x.st.length:Int) > 0) (h2:¬ ((C9 x.qu).length:Int) > 0):a25 x=false:=by rw [a9K h,decide_eq_false h2]
def a87 (m:Mach) (i:Nat):Bool:=m.ra.getD i default && m.en.getD i default
def a8o (m:Mach):Bool:=!a0x 8 (a87 m) && !a0x m.cp.length (λk=>a25 (m.cp.getD k default))
theorem b9P {m:Mach} {i:Nat} (hi:i < 8) (h1:m.ra.getD i default=true) (h2:m.en.getD i default=true):a8o m=false:=by
 unfold a8o
 rw [U1 (i:=i) (show a87 m i=true by unfold a87;rw [h1,h2];rfl) hi]
 rfl
theorem b5L (h:∀j,j < i→a87 m j=false) (hi:8<=i):a8o m=!a0x m.cp.length (λk=>a25 (m.cp.getD k default)):=by
 unfold a8o
 rw [a2i h hi]
 simp
theorem c6b {m:Mach} {i k:Nat} (h:∀j,j < i→a87 m j=false) (hi:8<=i) (hk:k < m.cp.length) (hb:a25 (m.cp.getD k default)=true):a8o m=false:=by
 rw [b5L h hi,U1 (i:=k) hb hk]
 rfl
theorem c6c (h:∀j,j < i→a87 m j=false) (hi:8<=i) (hk:m.cp.length<=k) (hb:∀j,j < k→a25 (m.cp.getD j default)=false):a8o m=true:=by
 rw [b5L h hi,a2i hb hk]
 rfl
theorem c6d (h:m.ra.getD i default=false):a87 m i=false:=by unfold a87;rw [h];rfl
theorem c6e (h:m.en.getD i default=false):a87 m i=false:=by unfold a87;rw [h,Bool.and_false]
theorem c6f {w:World} {ρ:Nat→Value} {nx:Nat} {a:AV} {f:FuncId}:∀vs,RelVs w ρ nx [a,.v (.func (.func f) #[] #[])] vs→RelVs w ρ nx [a,.fnc f []] vs:=by
 grind [RelVs,RelV]
def V7 (m:Mach) (k:Nat) (c:Int):ByteArray×Bool :=
 if n8 c 0 ((m.cp.length:Int) - 1)=false then (⟨#[]⟩,false)
 else if k=8 then (a4G (C9 (m.cp.getD c.toNat default).qu),true)
 else if k=9 then (a4G (m.cp.getD c.toNat default).st,true)
 else if k=11 then (a4H (m.cp.getD c.toNat default).qu.sl,true)
 else if k=10 then (if A5 m.rs (w9 m) c.toNat=-1 then b4s else u3 (A5 m.rs (w9 m) c.toNat),true)
 else (⟨#[]⟩,false)
abbrev c6g:ByteArray:=⟨#[121,101,115]⟩
abbrev noB:ByteArray:=⟨#[110,111]⟩
abbrev okB:ByteArray:=⟨#[111,107]⟩
abbrev qmB:ByteArray:=⟨#[63]⟩
def a4K (m:Mach) (k:Nat) (l:List Int):ByteArray×Bool :=
 if k=1 then (a4G (raN m),true) else if k=2 then (if a8o m then c6g else noB,true) else V7 m k (l.getD 0 default)
section
variable {m:Mach} {k:Nat} {c:Int} {l:List Int}
theorem b9Q (h:k=1):a4K m k l=(a4G (raN m),true):=by unfold a4K;rw [if_pos h]
theorem b6M (h:k=2) (hi:a8o m=true):a4K m k l=(c6g,true):=by unfold a4K;rw [if_neg J,if_pos h,if_pos hi]
theorem b6N (h:k=2) (hi:a8o m=false):a4K m k l=(noB,true):=by unfold a4K;rw [if_neg J,if_pos h,if_neg (by simp [hi])]
theorem b9R (h1:k≠1) (h2:k≠2):a4K m k l=V7 m k (l.getD 0 default):=by unfold a4K;rw [if_neg h1,if_neg h2]
theorem b6O (h:n8 c 0 ((m.cp.length:Int) - 1)=false):V7 m k c=(⟨#[]⟩,false):=by unfold V7;rw [if_pos h]
theorem b6P (h:n8 c 0 ((m.cp.length:Int) - 1)=true) (hk:k=8):V7 m k c=(a4G (C9 (m.cp.getD c.toNat default).qu),true):=by unfold V7;rw [if_neg (by simp [h]),if_pos hk]
theorem b6Q (h:n8 c 0 ((m.cp.length:Int) - 1)=true) (hk:k=9):V7 m k c=(a4G (m.cp.getD c.toNat default).st,true):=by unfold V7;rw [if_neg (by simp [h]),if_neg J,if_pos hk]
theorem b4y (h:n8 c 0 ((m.cp.length:Int) - 1)=true) (hk:k=11):V7 m k c=(a4H (m.cp.getD c.toNat default).qu.sl,true):=by unfold V7;rw [if_neg (by simp [h]),if_neg J,if_neg J,if_pos hk]
theorem b2c (h:n8 c 0 ((m.cp.length:Int) - 1)=true) (hk:k=10) (hn:A5 m.rs (w9 m) c.toNat=-1):V7 m k c=(b4s,true):=by unfold V7;rw [if_neg (by simp [h]),if_neg J,if_neg J,if_neg J,if_pos hk,if_pos hn]
theorem b2d (h:n8 c 0 ((m.cp.length:Int) - 1)=true) (hk:k=10) (hn:¬ A5 m.rs (w9 m) c.toNat=-1):V7 m k c=(u3 (A5 m.rs (w9 m) c.toNat),true):=by unfold V7;rw [if_neg (by simp [h]),if_neg J,if_neg J,if_neg J,if_pos hk,if_neg hn]
theorem c1Z (h1:k≠8) (h2:k≠9) (h3:k≠11) (h4:k≠10):V7 m k c=(⟨#[]⟩,false):=by
 grind [V7]
end
theorem c6h (h:(a0E k l).2=false):k≠0/\k≠3/\k≠4/\k≠5/\k≠6/\k≠7/\k≠12:=by
 refine ⟨?_,?_,?_,?_,?_,?_,?_⟩<;>(rintro rfl;simp [a0E] at h)
theorem c10 (hl:a2p (m9 w)=l.length) (h1:¬ m9 w=1) (h2:¬ m9 w=2) (h:m9 w≠0/\m9 w≠3/\m9 w≠4/\m9 w≠5/\m9 w≠6/\m9 w≠7/\m9 w≠12):l.length=1:=by
 grind [a6k,a0M]
theorem c11 (hl:a2p (m9 w)=l.length) (h1:¬ m9 w=1) (h2:¬ m9 w=2) (h:m9 w≠0/\m9 w≠3/\m9 w≠4/\m9 w≠5/\m9 w≠6/\m9 w≠7/\m9 w≠12) (h5:¬ m9 w=8) (h6:¬ m9 w=9) (h7:¬ m9 w=11):m9 w=10:=by
 grind [a6k]
theorem b9S {q:Que} (h:QF q):∀i,i < (C9 q).length→a1v ((C9 q).getD i default):=λi hi=>by have:=a9I h hi;exact ⟨by omega,by omega⟩
theorem b9T (h:IfF x):∀i,i < x.st.length→a1v (x.st.getD i default):=λi hi=>by
 have hm:x.st.getD i default∈x.st:=by rw [List.getD_eq_getElem?_getD,List.getElem?_eq_getElem hi];exact List.getElem_mem hi
 obtain ⟨j,h1,h2,h3⟩:=(J8 4).mp ((a0r h.qu.sl.len).mp (h.st _ hm))
 have hl:=h.qu.sl.len
 have:=h.qu.sl.nums (i:=j) J (by rcases s8.mp h2 with g | g<;>omega)
 exact ⟨by omega,by omega⟩
theorem b6R:(w9 m).ma.length=m.cp.length:=by unfold w9;simp
end Go.Rf
namespace Go.Rf
open Go Go.RowKit
section
variable {P:Program} [Env P] {w0:Base} {ops:Array Oper} {tb:List (Nat×TyI)} {o:Oper} {rest:List Oper} {T:List (Nat×AV)} {m m1:List (Nat×Option Row)} {nx nt d n1:Nat} {Q:Exit→St→Prop}
def c8g (m1:List (Nat×Option Row)) (n1:Nat) (e:Exit) (S:St):Prop:=(e=.normal∨e=.ret)/\S.m=m1/\S.nx=n1
theorem c6i [EnvAt P w0] {f:FuncId} {fn:Func} {c:Code} {as:Array Operand} {ts:Array TypeId} {args:List AV} {n:Nat} (m1:List (Nat×Option Row)) (n1:Nat) (hd:o.dst=some d) (hlt:Nat.blt d nt=true) (ho:o.op=.call { callee:=.value (.func f),args:=as,argTypes:=ts })
 (hf:P.funcs[f]?=some fn) (hb:fn.body=some c) (hname:(fn.name == "runtime.NumGoroutine")=false) (hl:fn.results=#[]) (hn:fn.ntmps=n) (hlen:Nat.ble args.length n=true) (ha:evL T as.toList []=some args) (hle:Nat.ble nx n1=true)
 (h:∀b:Base,[EnvAt P b]→b.n0=nx→W P b c ⟨a55 args 0,m,nx,n⟩ (c8g m1 n1)) (hk:WL P w0 ops rest ⟨(d,.tup []) :: T,m1,n1,nt⟩ Q):WX P w0 ops o rest ⟨T,m,nx,nt⟩ Q:=by
 rename_i hw0
 intro ρ a w hT hC
 obtain ⟨bs,h1,h2⟩:=a6P hT ha
 simp at h1
 subst h1
 have hcal:Callable P f:=⟨fn,hf,hname,by rw [hb];rfl⟩
 have hrun:(execOp a.eval o).run P w=.ok (.enter f (as.toList.map a.eval).toArray) w:=by
  simp [execOp,ho,resolve,Deferred.ofValue,invoke,Act.eval,a0w hcal,← Array.toList_map]
 unfold Oper.wp
 rw [hrun,Oper.upon_enter]
 let b:Base:=⟨w0.w,nx,ρ,w,w0.keep,λc hc=>Nat.lt_of_lt_of_le (w0.kb c hc) hC.kept.1,w0.E,w0.hE⟩
 have hen:EnvAt P b:=⟨hw0.e⟩
 have hCb:RelC b ρ m nx w:=⟨hC.rows,hC.apart,hC.below,⟨Nat.le_refl _,λ_ _=>Z⟩,⟨Nat.le_refl _,λ_ _=>Z,hC.kept.2.2⟩,hC.inner⟩
 have hlen':args.length<=n:=Nat.le_of_ble_eq_true hlen
 have hTb:=a3r (b:=b) (fn:=fn) (show RelVs b.w ρ nx args (as.toList.map a.eval) from h2) hlen' hn
 have hcalls:Calls P f (as.toList.map a.eval).toArray w (λen w'=>∃ρ',en=.returned (.tuple #[])/\(∀i,i < nx→ρ' i=ρ i)/\RelC b ρ' m1 n1 w'):=by
  refine calls_of_wp hf hb ?_
  refine wp_mono (h b Z ρ _ w hTb hCb) ?_
  have fin:∀(ρ':Nat→Value) (S:St) (a':Act) (w':World),S.m=m1→S.nx=n1→RelT b ρ' S.T S.nx S.nt a'→RelC b ρ' S.m S.nx w' →
   a'.defers=[]/\∃v,(results fn a'.tmps).run P w'=.ok v w'/\∃ρ',Ending.returned v=.returned (.tuple #[])/\(∀i,i < nx→ρ' i=ρ i)/\RelC b ρ' m1 n1 w':=by
   intro ρ' S a' w' e1 e2 hT' hC'
   refine ⟨hT'.defers,.tuple #[],?_,ρ',Z,λi hi=>hC'.pin.2 i hi,by rw [← e1,← e2];exact hC'⟩
   have:=V2 (P:=P) (fn:=fn) (l:=[]) (ys:=[]) (tmps:=a'.tmps) (w:=w') (by rw [hl]) (by simp)
   simpa using this
  rintro e a' w' ⟨ρ',S,⟨hq,e1,e2⟩,hT',hC'⟩
  rcases hq with rfl | rfl
  ·exact fin ρ' S a' w' e1 e2 hT' hC'
  ·exact fin ρ' S a' w' e1 e2 hT' hC'
 refine hcalls.mono λex w' ⟨ρ',he,q1,q2⟩=>?_
 subst he
 have hn1:=Nat.le_of_ble_eq_true hle
 refine hk ρ' _ w' ?_ ⟨q2.rows,q2.apart,q2.below,⟨Nat.le_trans hC.pin.1 hn1,λi hi=>by rw [q1 i (Nat.lt_of_lt_of_le hi hC.pin.1)];exact hC.pin.2 i hi⟩,⟨Nat.le_trans hC.kept.1 q2.kept.1,λc hc=>(q2.kept.2.1 c hc).trans (hC.kept.2.1 c hc),q2.kept.2.2⟩,q2.inner⟩
 rw [hd]
 have hT':RelT w0 ρ' T n1 nt a:=⟨λt x hx=>(hT.tmps t x hx).mono hn1 q1,hT.size,hT.defers⟩
 exact hT'.put hlt (by simp only [RelV];exact ⟨[],Z,by simp only [RelVs]⟩)
end
end Go.Rf
