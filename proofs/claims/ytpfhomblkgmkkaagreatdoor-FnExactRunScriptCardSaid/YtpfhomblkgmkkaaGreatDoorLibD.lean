/- Texts merged into one: RfNR, RfNS, RfNT, RfMA, RfNV, RfMB, RfMC, RfMD, RfNU, RfME, RfMF, RfMG, RfMH, RfMI, RfMJ, RfNX, RfNW, RfNP, RfMK, RfMQ, Rf5, RfNY, RfML, RfMO, RfMP, RfCA, RfCB, RfNO. -/
import Derived.Test.YtpfhomblkgmkkaaGreatDoorLibC
import Derived.Lib.Join
set_option linter.unusedSectionVars false
set_option linter.unusedSimpArgs false
set_option linter.unusedVariables false
namespace Go.Rf
open Go
def O4 (n:Int) (s:MStep):Bool :=
 if s.k=1 then m3 s.q 0 7 && (decide (s.c=0) && decide (s.v=0))
 else if s.k=2 then decide (s.q=0) && (decide (s.c=0) && decide (s.v=0))
 else if s.k=3∨s.k=4 then decide (s.q=0) && (m3 s.c 0 (n - 1) && decide (s.v=0))
 else if s.k=5 then decide (s.q=0) && (m3 s.c 0 (n - 1) && m3 s.v 0 16)
 else decide (s.k=6) && (m3 s.q 0 7 && (decide (s.c=0) && m3 s.v 0 1))
def a9z (l:List Int) (v:Int):Bool:=W3 l.length (λj=>decide (v=l.getD j default))
def c6D (rs:List Route) (a:Abs) (i:Nat):Bool:=a.en.getD i default && (a.ra.getD i default && !a9z (a.st.getD (rs.getD i default).t.toNat default) i)
def b7T (rs:List Route) (a:Abs):Nat→List Bool
 | 0=>a.ra
 | i+1=>if c6D rs a i then (b7T rs a i).set i false else b7T rs a i
def b7U (rs:List Route) (a:Abs):Nat→List Bool
 | 0=>a.po
 | i+1=>if c6D rs a i then (b7U rs a i).set i true else b7U rs a i
def c6E (rs:List Route) (a:Abs):Abs:=⟨a.en,b7T rs a 8,b7U rs a 8,a.ma,a.st⟩
def c1S (rs:List Route) (a:Abs) (s:MStep):Abs×Int×Bool :=
 if s.k=1 then ({a with ra:=a.ra.set s.q.toNat true},-1,!(a.ra.getD s.q.toNat default))
 else if s.k=2 then (c6E rs a,-1,true)
 else if s.k=3 then
  if A9 rs a s.c.toNat < 0 then (a,-1,false)
  else ({a with po:=a.po.set (A9 rs a s.c.toNat).toNat false,st:=a.st.set s.c.toNat (a.st.getD s.c.toNat default++[A9 rs a s.c.toNat])},A9 rs a s.c.toNat,true)
 else if s.k=4 then
  if (a.st.getD s.c.toNat default).length=0 then (a,-1,false)
  else ({a with st:=a.st.set s.c.toNat ((a.st.getD s.c.toNat default).take ((a.st.getD s.c.toNat default).length - 1))},(a.st.getD s.c.toNat default).getD ((a.st.getD s.c.toNat default).length - 1) default,true)
 else if s.k=5 then ({a with ma:=a.ma.set s.c.toNat s.v},-1,true)
 else ({a with en:=a.en.set s.q.toNat (decide (s.v=1))},-1,true)
end Go.Rf
namespace Go.Rf
theorem c0u {n k q c v:Int} (h:O4 n ⟨k,q,c,v⟩=true) (hk:k=1∨k=6):0<=q/\q<=7:=by
 grind [O4,s7]
theorem b14 {n k q c v:Int} (h:O4 n ⟨k,q,c,v⟩=true) (hk:k=3∨k=4∨k=5):0<=c/\c<=n - 1:=by
 grind [O4,s7]
theorem c6F {n k q c v:Int} (h:O4 n ⟨k,q,c,v⟩=true):1<=k/\k<=6:=by
 grind [O4]
end Go.Rf
namespace Go.Rf
open Go
theorem Y4 {l:List (List CI)} {c:List CI} {i j:Nat} (h:j < l.length) (hj:j=i):(l.set i c)[j]?=some c:=by
 subst hj
 simp [h]
end Go.Rf
namespace Go.Rf
section
variable {rs:List Route} {a:Abs} {sk sq sc sv:Int} {q c:Nat}
theorem mk1 (h:sk=1):c1S rs a ⟨sk,(q:Int),sc,sv⟩=({a with ra:=a.ra.set q true},-1,!(a.ra.getD q default)):=by subst h;rfl
theorem mk3 (h:sk=3) (hn:¬ A9 rs a c < 0):c1S rs a ⟨sk,sq,(c:Int),sv⟩=({a with po:=a.po.set (A9 rs a c).toNat false,st:=a.st.set c (a.st.getD c default++[A9 rs a c])},A9 rs a c,true):=by
 subst h
 show (if A9 rs a c < 0 then _ else _)=_
 rw [if_neg hn]
 rfl
end
section
variable {rs:List Route} {a:Abs} {s:MStep}
end
end Go.Rf
namespace Go.Rf
open Go
section
variable {k:Int} {xss:List (List Int)}
end
end Go.Rf
namespace Go.Rf
def c0v (k:Int) (j:Nat):Route:=⟨k+2 * j,k+2 * j+1⟩
end Go.Rf
namespace Go.Rf
open Go
variable {f:Nat→Bool} {i n:Nat} {most:Bool}
structure Slot where
 s:Int
 q:Int
 p:Int
 deriving Inhabited,DecidableEq
variable {sl:List Slot} {x:Slot}
def e9 (x:Slot):List Value:=[.int .i64 x.s,.int .i64 x.q,.int .i64 x.p]
def a2D (x:Slot):Value:=.agg ⟨e9 x⟩
structure Wtr where
 q:Int
 p:Int
 deriving Inhabited,DecidableEq
variable {a b:Wtr}
def f7 (x:Wtr):List Value:=[.int .i64 x.q,.int .i64 x.p]
def a0U (x:Wtr):Value:=.agg ⟨f7 x⟩
structure Que where
 sl:List Slot
 wa:List Wtr
 deriving Inhabited,DecidableEq
structure Ifc where
 ma:Int
 st:List Int
 qu:Que
 deriving Inhabited,DecidableEq
structure Mach where
 rs:List Route
 en:List Bool
 ra:List Bool
 cp:List Ifc
 deriving Inhabited,DecidableEq
def zSl:Slot:=⟨0,0,0⟩
def wOf (x:Slot):Wtr:=⟨x.q,x.p⟩
def b4u (x y:Slot):Bool:=x.s==y.s && (x.q==y.q && x.p==y.p)
theorem b3s {y:Slot}:b4u x y=true↔x=y:=by cases x;cases y;simp [b4u]
def b4v (x y:Wtr):Bool:=x.q==y.q && x.p==y.p
theorem b3t {x y:Wtr}:b4v x y=true↔x=y:=by cases x;cases y;simp [b4v]
def fdP (irq:Int) (x:Slot):Bool:=!(decide (x.s=0)) && decide (x.q=irq)
def r9 (sl:List Slot) (irq:Int):Int:=G3 (λi=>fdP irq (sl.getD i default)) sl.length
def emP (x:Slot):Bool:=decide (x.s=0)
def freS (sl:List Slot):Int:=G3 (λi=>emP (sl.getD i default)) sl.length
def a9A (x:Slot):Bool:=m3 x.s 1 3 && (m3 x.q 0 7 && m3 x.p 0 15)
def D8 (sl:List Slot) (i:Nat):Bool:=if (sl.getD i default).s=0 then decide (sl.getD i default=zSl) else a9A (sl.getD i default) && !(W3 i (λj=>fdP (sl.getD i default).q (sl.getD j default)))
def a4Q (sl:List Slot):Bool:=decide (sl.length=4) && a09 sl.length (D8 sl)
def a4R (x y:Int):Int:=if x < y then -1 else if y < x then 1 else 0
def urg (a b:Wtr):Int:=if a4R a.p b.p=0 then a4R a.q b.q else a4R a.p b.p
def lessW (a b:Wtr):Bool:=decide (a.p < b.p) || (decide (a.p=b.p) && decide (a.q < b.q))
theorem U5:lessW a b=true↔a.p < b.p∨(a.p=b.p/\a.q < b.q):=by simp [lessW]
theorem b7V:lessW a b=false↔¬ (a.p < b.p∨(a.p=b.p/\a.q < b.q)):=by rw [← Bool.not_eq_true,U5]
theorem a0V:urg a b < 0↔lessW a b=true:=by
 grind [U5,urg,a4R]
theorem c0w:0 < urg a b↔lessW b a=true:=by
 grind [U5,urg,a4R]
theorem b4w (h:lessW a b=true):lessW b a=false:=by rw [U5] at h;rw [b7V];omega
theorem a3f {c:Wtr} (h:lessW a b=true) (h':lessW b c=true):lessW a c=true:=by rw [U5] at *;omega
theorem a3Z (h:a.q≠b.q):lessW a b=!(lessW b a):=by
 grind [U5]
def a4S (sl:List Slot) (most:Bool) (b:Int) (i:Nat):Bool:=decide ((sl.getD i default).s=1) && (decide (b < 0) || (if most then lessW (wOf (sl.getD i default)) (wOf (sl.getD b.toNat default)) else lessW (wOf (sl.getD b.toNat default)) (wOf (sl.getD i default))))
def G0 (sl:List Slot) (most:Bool):Nat→Int
 | 0=>-1
 | i+1=>if a4S sl most (G0 sl most i) i then (i:Int) else G0 sl most i
theorem a1K:G0 sl most (i+1)=if a4S sl most (G0 sl most i) i then (i:Int) else G0 sl most i:=rfl
theorem a3g (h:a4S sl most (G0 sl most i) i=true):G0 sl most (i+1)=(i:Int):=by rw [a1K,if_pos h]
theorem a3h (h:a4S sl most (G0 sl most i) i=false):G0 sl most (i+1)=G0 sl most i:=by rw [a1K,if_neg (by rw [h];decide)]
theorem a2m {sl:List Slot} {most:Bool}:∀i,-1<=G0 sl most i/\G0 sl most i < i
 | 0=>by simp [G0]
 | i+1=>by
  have:=@a2m sl most i
  rw [a1K]
  split<;>omega
theorem a5V {sl:List Slot} {most:Bool}:∀i,0<=G0 sl most i→(sl.getD (G0 sl most i).toNat default).s=1
 | 0=>by simp [G0]
 | i+1=>by
  have ih:=@a5V sl most i
  rw [a1K]
  split
  ·grind [a4S]
  ·exact ih
theorem b3u {sl:List Slot} {most:Bool}:∀i,G0 sl most i < 0↔∀j,j < i→(sl.getD j default).s≠1
 | 0=>by simp [G0]
 | i+1=>by
  have ih:=@b3u sl most i
  rw [a1K]
  constructor
  ·grind [a4S]
  ·grind [a4S]
def bstS (sl:List Slot) (most:Bool):Int:=G0 sl most sl.length
def b7W (sl:List Slot):Prop:=∀i j,i < j→j < sl.length→(sl.getD i default).s=1→(sl.getD j default).s=1→(sl.getD i default).q≠(sl.getD j default).q
theorem c0x (hd:b7W sl) (hi:i < sl.length) (h1:(sl.getD i default).s=1) (hb:0<=G0 sl most i):(if most then lessW (wOf (sl.getD i default)) (wOf (sl.getD (G0 sl most i).toNat default)) else lessW (wOf (sl.getD (G0 sl most i).toNat default)) (wOf (sl.getD i default)))=(decide (urg (wOf (sl.getD i default)) (wOf (sl.getD (G0 sl most i).toNat default)) < 0)==most):=by
 have hbl:=@a2m sl most i
 have hne:=hd (G0 sl most i).toNat i J hi (a5V i hb) h1
 have hne':(wOf (sl.getD i default)).q≠(wOf (sl.getD (G0 sl most i).toNat default)).q:=λe=>hne e.symm
 have e:decide (urg (wOf (sl.getD i default)) (wOf (sl.getD (G0 sl most i).toNat default)) < 0)=lessW (wOf (sl.getD i default)) (wOf (sl.getD (G0 sl most i).toNat default)):=by
  rw [Bool.eq_iff_iff,decide_eq_true_iff];exact a0V
 rw [e]
 cases most
 ·grind [a3Z]
 ·simp
theorem b3v:a4Q sl=true↔sl.length=4/\∀i,i < 4→D8 sl i=true:=by
 grind [a4Q,P7]
theorem a3i:a9A x=true↔(1<=x.s/\x.s<=3)/\(0<=x.q/\x.q<=7)/\0<=x.p/\x.p<=15:=by simp only [a9A,Bool.and_eq_true,s7]
theorem a2n {irq:Int}:fdP irq x=true↔x.s≠0/\x.q=irq:=by simp [fdP]
theorem a9B:W3 n f=true↔∃i,i < n/\f i=true:=by
 grind [W3,a09]
theorem a0W:W3 n f=false↔∀i,i < n→f i=false:=by
 constructor
 ·intro h i hi
  cases hf:f i
  ·rfl
  ·rw [M6 hf hi] at h;cases h
 ·exact λh=>a19 h (Nat.le_refl _)
structure SlF (sl:List Slot):Prop where
 len:sl.length=4
 z:∀i,i < 4→(sl.getD i default).s=0→sl.getD i default=zSl
 ok:∀i,i < 4→(sl.getD i default).s≠0→(1<=(sl.getD i default).s/\(sl.getD i default).s<=3)/\(0<=(sl.getD i default).q/\(sl.getD i default).q<=7)/\0<=(sl.getD i default).p/\(sl.getD i default).p<=15
 dif:∀i j,i < j→j < 4→(sl.getD i default).s≠0→(sl.getD j default).s≠0→(sl.getD i default).q≠(sl.getD j default).q
theorem slF:a4Q sl=true↔SlF sl:=by
 rw [b3v]
 constructor
 ·rintro ⟨h1,h2⟩
  refine ⟨h1,λi hi hz=>?_,λi hi hz=>?_,λi j hij hj hi0 hj0=>?_⟩
  ·grind [D8]
  ·grind [D8,a3i]
  ·grind [D8,a0W,a2n]
 ·rintro ⟨h1,h2,h3,h4⟩
  refine ⟨h1,λi hi=>?_⟩
  unfold D8
  split
  ·grind
  ·grind [a0W,a3i,a2n]
theorem SlF.difS (h:SlF sl):b7W sl:=λi j hij hj h1 h2=>h.dif i j hij (by rw [← h.len];exact hj) J J
theorem b07 {sl:List Slot} {irq:Int}:(r9 sl irq=-1/\∀i,i < sl.length→fdP irq (sl.getD i default)=false)∨∃i:Nat,r9 sl irq=i/\i < sl.length/\(sl.getD i default).s≠0/\(sl.getD i default).q=irq:=by
 grind [r9,b46,a1x,a2n]
theorem b6K {sl:List Slot}:(freS sl=-1/\∀i,i < sl.length→(sl.getD i default).s≠0)∨∃i:Nat,freS sl=i/\i < sl.length/\(sl.getD i default).s=0:=by
 grind [freS,b46,emP,a1x]
theorem b3w (hi:i < sl.length) (h0:(sl.getD i default).s≠0):r9 sl (sl.getD i default).q=i↔W3 i (λj=>fdP (sl.getD i default).q (sl.getD j default))=false:=by
 grind [a1x,r9,a0W,I9,a2n]
end Go.Rf
namespace Go.Rf
open Go Go.RowKit
section
variable {P:Program} [Env P] {w0:Base} {ops:Array Oper} {tb:List (Nat×TyI)} {o:Oper} {rest:List Oper} {T:List (Nat×AV)} {m m':List (Nat×Option Row)} {nx nt d:Nat} {Q:Exit→St→Prop} {c:Code} {r:AV}
theorem Gh.tl {id e sz:Nat} {ys:List (List Value)} {f:Bool} (hm:mem m id=some (.row e sz ys f)):Gh w0 ⟨T,m,nx,nt⟩ ⟨T,(id,some (.row e sz ys true)) :: m,nx,nt⟩:=by
 intro ρ a w hT hC
 obtain ⟨h1,h2⟩:=hC.rowF hm
 exact ⟨ρ,hT,hC.retell hm (row':=.row e sz ys true) ⟨h1.gen,h2⟩ λp b hb=>by cases hb⟩
theorem c0y {t e e' sz by_ id:Nat} {zs:List Value} {ys:List (List Value)} {f:Bool} {x lo:Operand} {k:IntKind} {l:Int} (G:Good P tb) (nx':Nat) (hn':Nat.beq nx' (Nat.succ nx)=true) (hd:o.dst=some d) (hlt:Nat.blt d nt=true) (ho:o.op=.slice t x (some lo) none none) (ht:look t tb=some (.slice e sz by_ zs)) (hx:ev T x=some (.own id)) (hm:mem m id=some (.row e' sz ys f))
 (hl:ev T lo=some (.v (.int k l))) (h0:0<=l) (h1:l<=ys.length)
 (hk:WL P w0 ops rest ⟨(d,.own nx) :: T,(nx,some (.row e' sz (ys.drop l.toNat) true)) :: (id,none) :: m,nx',nt⟩ Q):WX P w0 ops o rest ⟨T,m,nx,nt⟩ Q:=by
 have hn'':=Nat.eq_of_beq_eq_true hn'
 subst hn''
 intro ρ a w hT hC
 have hxe:=hT.ev hx
 simp only [RelV] at hxe
 obtain ⟨hrow,hall⟩:=hC.rowF hm
 obtain ⟨A,cap,he,hcap⟩:=hrow.slice
 have hrun:=a8E (G t _ ht) hT (A:=A) (lo:=some lo) (hi:=none) (l:=l) (h:=ys.length) (n:=ys.length) (cap:=cap) (by simp only [a4C,hl]) (by simp [a4C]) h0 h1 (Int.le_refl _) hcap w
 have hr:(execOp a.eval o).run P w=.ok (.value (.slice (if cap=l.toNat then A else A.map (·.add (l.toNat * sz))) (ys.length - l.toNat) (cap - l.toNat))) w:=by
  simp only [Option.map_none,Option.map_some,Int.toNat_natCast] at hrun
  simp only [execOp,ho,hxe.2,he,Option.map_none,Option.map_some,hrun,Sem.run_bind,Result.andThen_ok,Sem.run_pure]
 unfold Oper.wp
 rw [hr,Oper.upon_value,hd]
 generalize hv:(Value.slice (if cap=l.toNat then A else A.map (·.add (l.toNat * sz))) (ys.length - l.toNat) (cap - l.toNat))=v
 have hdl:(ys.drop l.toNat).length=ys.length - l.toNat:=List.length_drop
 have hbk:∀b,blk v=some b→blk (ρ id)=some b:=by
  intro b hb
  rw [he]
  rw [← hv] at hb
  cases A with
  | none=>split at hb<;>simp [blk] at hb
  | some ad =>
   grind [blk,y7]
 have hown:TlR w w0.w.heap.size e' sz v (ys.drop l.toNat):=by
  rcases hrow.gen with ⟨g1,rfl⟩ | ⟨g,o',cap',cur,g1,g2,g3,g4,g5,g6⟩
  ·refine .inl ⟨?_,by simp⟩
   grind
  ·rw [he] at g1
   cases g1
   have hF:=l4 (λc hc=>(hall c hc).1)
   by_cases hc:cap=l.toNat
   ·have hz:ys.length - l.toNat=0:=by omega
    have hnil:ys.drop l.toNat=[]:=List.drop_eq_nil_of_le J
    rw [if_pos hc] at hv
    exact .inr ⟨g,o',cap - l.toNat,cur,by rw [← hv,hdl],g2,g3,by rw [hdl];omega,g5,by rw [hnil];simp⟩
   ·rw [if_neg hc] at hv
    have hcc:cur.toList.length=cur.size:=by simp
    have hlen0:((cur.toList.drop o').take (ys.length * sz)).length=ys.length * sz:=by rw [g6];exact hF
    have hle:l.toNat * sz<=ys.length * sz:=Nat.mul_le_mul_right _ J
    rw [List.length_take,List.length_drop,hcc] at hlen0
    refine .inr ⟨g,o'+l.toNat * sz,cap - l.toNat,cur,by rw [← hv,hdl];simp [Addr.add_lit],g2,g3,by rw [hdl];omega,by omega,?_⟩
    rw [hdl,Z9 (λc hc=>(hall c hc).1) J,← g6,Nat.sub_mul,List.drop_take,List.drop_drop]
 have hC2:RelC w0 ρ ((id,none) :: m) nx w:=hC.sub λi r hr=>by
  grind [i8,d5]
 refine hk (upd ρ nx v) _ _ ((hT.add v).put hlt (by simp only [RelV];exact ⟨by omega,(g9 _ _ _).symm⟩)) (hC2.addP (λ_=>Z) ?_ ?_ ?_)
 ·refine ⟨?_,λc hc=>hall c (List.mem_of_mem_drop hc)⟩
  rw [g9]
  exact hown
 ·intro i r hr b hb hy
  by_cases e:id=i
  ·subst e;rw [i8] at hr;cases hr
  ·rw [d5 e] at hr
   exact hC.foot_apart hr hm (Ne.symm e) hb (.inl (hbk b hy))
 ·intro b hb
  exact hC.kept.2.2 id _ hm b (hbk b hb)
end
variable {T:List (Nat×AV)} {a b c d e:Int} {f:FuncId} {m:List (Nat×Option Row)} {nx:Nat} {x:Operand} {xs:List Operand} {ys:List (List Value)} {z:Value}
theorem ArgOK.fn {av:AV} (h:ArgOK m nx av (.v (.func (.func f) #[] #[]))):ArgOK m nx av (.fnc f []):=λw0 ρ w y hC hy=>by
 have:=h w0 ρ w y hC hy
 simp only [RelV] at this ⊢
 exact ⟨[],this,by simp [RelVs]⟩
theorem ArgsOK.fn2 {a:AV} (h:ArgsOK T m nx xs [a,.v (.func (.func f) #[] #[])]):ArgsOK T m nx xs [a,.fnc f []]:=by
 match xs,h with
 | x :: xs,⟨av,_,_,e,h1,h2,h3⟩ =>
  cases e
  match xs,h3 with
  | y :: ys,⟨av',_,_,e',g1,g2,g3⟩ =>
   cases e'
   exact ⟨av,_,_,Z,h1,h2,av',_,_,Z,g1,g2.fn,g3⟩
theorem ec3 {f:Int}:I0 [.int .i64 a,.int .i64 b,.int .i64 c] [.int .i64 d,.int .i64 e,.int .i64 f]=true↔a=d/\b=e/\c=f:=by
 simp [I0,a6X]
theorem ec2:I0 [.int .i64 a,.int .i64 b] [.int .i64 d,.int .i64 e]=true↔a=d/\b=e:=by
 simp [I0,a6X]
theorem c8r {f:Int} (h:I0 [.int .i64 a,.int .i64 b,.int .i64 c] [.int .i64 d,.int .i64 e,.int .i64 f]=false):¬ (a=d/\b=e/\c=f):=λg=>by rw [ec3.mpr g] at h;cases h
theorem ArgOK.pin {sz:Nat}:ArgOK m nx (.pin z sz ys) (.pin z sz ys):=λw0 ρ w y hC hy=>by
 simp only [RelV] at hy ⊢
 exact ⟨hy.1,hy.2.later hC.below⟩
theorem ArgsOK.pin1 {sz:Nat} {as:List AV} (hx:ev T x=some (.pin z sz ys)) (h:ArgsOK T m nx (x :: xs) (.lst sz ys :: as)):ArgsOK T m nx (x :: xs) (.pin z sz ys :: as):=by
 obtain ⟨av,a,as',e,h1,h2,h3⟩:=h
 cases e
 exact ⟨_,_,_,Z,hx,ArgOK.pin,h3⟩
section
variable {w0:Base} {T:List (Nat×AV)} {m:List (Nat×Option Row)} {nx nt:Nat}
theorem Gh.asPin {d t:Nat} {z:Value} {sz:Nat} {ys:List (List Value)} (hd:look d T=some (.v z)) (ht:look t T=some (.pin z sz ys)):Gh w0 ⟨T,m,nx,nt⟩ ⟨(d,.pin z sz ys) :: T,m,nx,nt⟩:=by
 intro ρ a w hT hC
 refine ⟨ρ,⟨λi x hi=>?_,hT.size,hT.defers⟩,hC⟩
 by_cases e:d=i
 ·subst e
  rw [n6] at hi
  cases hi
  have h1:=hT.tmps d _ hd
  have h2:=hT.tmps t _ ht
  simp only [RelV] at h1 h2 ⊢
  grind
 ·rw [j2 e] at hi
  exact hT.tmps i x hi
end
end Go.Rf
namespace Go.Rf
open Go
variable {f:Nat→Bool} {i n:Nat}
def orI (l:List Int):Int:=if G3 (λi=>!decide (l.getD i default=0)) l.length=-1 then 0 else l.getD (G3 (λi=>!decide (l.getD i default=0)) l.length).toNat default
theorem b7X {l:List Int} (h:∀j,j < i→l.getD j default=0) (hi:i < l.length) (h0:¬ l.getD i default=0):orI l=l.getD i default:=by
 grind [orI,I9]
theorem c1T {l:List Int} {i:Nat} (h:∀j,j < i→l.getD j default=0) (hi:l.length<=i):orI l=0:=by
 grind [orI,a0s]
theorem c0z {a b:Wtr}:orI [a4R a.p b.p,a4R a.q b.q]=urg a b:=by
 unfold urg
 by_cases h:a4R a.p b.p=0
 ·rw [if_pos h]
  by_cases h2:a4R a.q b.q=0
  ·have e:orI [a4R a.p b.p,a4R a.q b.q]=0:=c1T (i:=2) (λj hj=>by
    match j,hj with
    | 0,_=>exact h
    | 1,_=>exact h2) (by simp)
   rw [e];exact h2.symm
  ·exact b7X (i:=1) (λj hj=>by
    match j,hj with
    | 0,_=>exact h) (by simp) h2
 ·rw [if_neg h]
  exact b7X (i:=0) (λj hj=>by omega) (by simp) h
theorem b08 {g:Nat→Bool} (h:∀j,j < n→f j=g j):G3 f n=G3 g n:=by
 grind [a1x,I9]
theorem a60 {α:Type} [Inhabited α] {l:List α} {i j:Nat} (h:j < i):(l.take i).getD j default=l.getD j default:=by
 grind
theorem b7Y {sl:List Slot} {q:Int} (hi:i<=sl.length):r9 (sl.take i) q=G3 (λj=>fdP q (sl.getD j default)) i:=by
 grind [r9,b08]
theorem b4x:0<=G3 f n↔W3 n f=true:=by
 have:=a3P (f:=f) (n:=n)
 rw [← this];simp
theorem a8K:G3 f n < 0↔W3 n f=false:=by
 have:=a3P (f:=f) (n:=n)
 rw [← this];simp
theorem b4y {f:Nat→Bool} {n:Nat}:-1<=G3 f n/\G3 f n < n∨(G3 f n=-1):=by
 grind [a1x]
theorem a2o {sl:List Slot} {q:Int}:-1<=r9 sl q/\r9 sl q < sl.length:=by
 have:=@b4y (λi=>fdP q (sl.getD i default)) sl.length
 unfold r9
 omega
theorem b7Z {sl:List Slot}:-1<=freS sl/\freS sl < sl.length:=by
 have:=@b4y (λi=>emP (sl.getD i default)) sl.length
 unfold freS
 omega
section
variable {sl:List Slot} {i:Nat}
theorem c1U (h0:(sl.getD i default).s=0) (h:sl.getD i default=zSl):D8 sl i=true:=by unfold D8;rw [if_pos h0];exact decide_eq_true h
theorem b70 (h0:(sl.getD i default).s=0) (h:¬ sl.getD i default=zSl):D8 sl i=false:=by unfold D8;rw [if_pos h0];exact decide_eq_false h
theorem c1V (h0:¬ (sl.getD i default).s=0) (h1:a9A (sl.getD i default)=true) (h2:W3 i (λj=>fdP (sl.getD i default).q (sl.getD j default))=false):D8 sl i=true:=by unfold D8;rw [if_neg h0,h1,h2];rfl
theorem b4z (h0:¬ (sl.getD i default).s=0) (h1:a9A (sl.getD i default)=false):D8 sl i=false:=by unfold D8;rw [if_neg h0,h1];rfl
theorem b71 (h0:¬ (sl.getD i default).s=0) (h2:W3 i (λj=>fdP (sl.getD i default).q (sl.getD j default))=true):D8 sl i=false:=by unfold D8;rw [if_neg h0,h2,Bool.not_true,Bool.and_false]
theorem b4A (h:D8 sl i=false) (hi:i < sl.length):a4Q sl=false:=by unfold a4Q;rw [a0r h hi,Bool.and_false]
theorem b4B (h:sl.length≠4):a4Q sl=false:=by unfold a4Q;rw [decide_eq_false h,Bool.false_and]
theorem b72 (hl:sl.length=4) (h:∀j,j < i→D8 sl j=true) (hi:4<=i):a4Q sl=true:=b3v.mpr ⟨hl,λj hj=>h j J⟩
theorem a9C {x:Slot}:x=zSl↔x.s=0/\x.q=0/\x.p=0:=by cases x;simp [zSl]
theorem b73 (h1:¬ ((0<=(sl.getD i default).s/\(sl.getD i default).s<=3)/\(0<=(sl.getD i default).q/\(sl.getD i default).q<=7)/\0<=(sl.getD i default).p/\(sl.getD i default).p<=15)):D8 sl i=false:=by
 grind [D8,zSl,a3i]
theorem c0A (hi:i < sl.length) (h1:(0<=(sl.getD i default).s/\(sl.getD i default).s<=3)/\(0<=(sl.getD i default).q/\(sl.getD i default).q<=7)/\0<=(sl.getD i default).p/\(sl.getD i default).p<=15)
 (h2:¬ ((sl.getD i default).s=0/\((sl.getD i default).q≠0∨(sl.getD i default).p≠0))) (h3:(sl.getD i default).s≠0→r9 sl (sl.getD i default).q=i):D8 sl i=true:=by
 grind [c1U,a9C,c1V,a3i,b3w]
theorem c0B (h0:(sl.getD i default).s=0) (h:(sl.getD i default).q≠0∨(sl.getD i default).p≠0):D8 sl i=false:=b70 h0 (λe=>by rw [e] at h;simp [zSl] at h)
theorem c0C (hi:i < sl.length) (h0:(sl.getD i default).s≠0) (h:r9 sl (sl.getD i default).q≠i):D8 sl i=false:=b71 h0 (by
 rw [← Bool.not_eq_false];exact λg=>h ((b3w hi h0).mpr g))
end
end Go.Rf
namespace Go.Rf
variable {b:Int} {i:Nat} {sl:List Slot} {w:Wtr} {wa:List Wtr} {x:Slot}
theorem c4u (h:m3 x.s 1 3=false):a9A x=false:=by simp only [a9A,h,Bool.false_and]
theorem c4v (h:m3 x.q 0 7=false):a9A x=false:=by simp only [a9A,h,Bool.false_and,Bool.and_false]
theorem c4w (h:m3 x.p 0 15=false):a9A x=false:=by simp only [a9A,h,Bool.and_false]
theorem b74 (h:∀j,j < i→D8 sl j=true) (hi:sl.length<=i):((sl.length:Int)==4)=a4Q sl:=by
 by_cases hl:sl.length=4
 ·rw [b72 hl h J];simp [hl]
 ·rw [b4B hl]
  grind
section
variable {sl:List Slot} {most:Bool} {i:Nat}
theorem a8L (h:¬ (sl.getD i default).s=1):a4S sl most b i=false:=by simp only [a4S,decide_eq_false h,Bool.false_and]
theorem a8M (h:(sl.getD i default).s=1) (hb:b < 0):a4S sl most b i=true:=by simp only [a4S,decide_eq_true h,decide_eq_true hb,Bool.true_or,Bool.true_and]
theorem b15 (hd:b7W sl) (hi:i < sl.length) (h:(sl.getD i default).s=1) (hb:0<=G0 sl most i):a4S sl most (G0 sl most i) i=(decide (urg (wOf (sl.getD i default)) (wOf (sl.getD (G0 sl most i).toNat default)) < 0)==most):=by
 grind [c0x,a4S]
theorem b16 (h:(sl.getD i default).s=1) (hb:¬ b < 0):a4S sl most b i=(if most then lessW (wOf (sl.getD i default)) (wOf (sl.getD b.toNat default)) else lessW (wOf (sl.getD b.toNat default)) (wOf (sl.getD i default))):=by
 grind [a4S]
theorem a2M {α:Type} {f:α→List Value} {l:List α} {i:Nat} {x:α}:(l.map f).set i (f x)=(l.set i x).map f:=by rw [List.map_set]
end
def b4C (wa:List Wtr) (w:Wtr):Nat:=(wa.takeWhile (λx=>lessW x w)).length
theorem c0D (h:∀j,j < i→lessW (wa.getD j default) w=true) (hi:i<=wa.length) (he:i=wa.length∨(i < wa.length/\lessW (wa.getD i default) w=false)):b4C wa w=i:=by
 unfold b4C
 induction wa generalizing i with
 | nil=>simp at hi;simp [hi]
 | cons x wa ih =>
  cases i with
  | zero =>
   simp_all
  | succ i =>
   have h0:lessW x w=true:=h 0 J
   rw [List.takeWhile_cons,if_pos h0,List.length_cons]
   grind
theorem c0E {wa:List Wtr} {w:Wtr}:b4C wa w<=wa.length:=(List.takeWhile_sublist _).length_le
def insW (wa:List Wtr) (w:Wtr):List Wtr:=wa.take (b4C wa w)++[w]++wa.drop (b4C wa w)
theorem a5W:(insW wa w).length=wa.length+1:=by
 have:=@c0E wa w
 simp [insW];omega
theorem a5X {wa:List Wtr} {w:Wtr} {i:Nat} (h:∀j,j < i→lessW (wa.getD j default) w=true) (hi:i<=wa.length) (he:i=wa.length∨(i < wa.length/\lessW (wa.getD i default) w=false)):insW wa w=wa.take i++[w]++wa.drop i:=by
 unfold insW
 rw [c0D h hi he]
def inW (wa:List Wtr) (q:Int):Int:=G3 (λj=>decide ((wa.getD j default).q=q)) wa.length
theorem c4x {wa:List Wtr} {q:Int}:-1<=inW wa q/\inW wa q < wa.length:=by
 have:=@b4y (λj=>decide ((wa.getD j default).q=q)) wa.length
 unfold inW
 omega
theorem b75 {q:Int} (hi:i<=wa.length):inW (wa.take i) q=G3 (λj=>decide ((wa.getD j default).q=q)) i:=by
 grind [inW,b08]
def setd (q:Que):Bool:=decide (q.wa.length=0) || (decide (freS q.sl < 0) && (decide (bstS q.sl false < 0) || lessW (wOf (q.sl.getD (bstS q.sl false).toNat default)) (q.wa.getD 0 default)))
def oneWa (sl:List Slot) (wa:List Wtr) (i:Nat):Bool:=m3 (wa.getD i default).q 0 7 && (m3 (wa.getD i default).p 0 15 && (decide (r9 sl (wa.getD i default).q < 0) && (!(W3 i (λj=>decide ((wa.getD j default).q=(wa.getD i default).q))) && (decide (i=0) || lessW (wa.getD (i - 1) default) (wa.getD i default)))))
def c0F (sl:List Slot) (wa:List Wtr):Bool:=a09 wa.length (oneWa sl wa)
def a73 (q:Que):Bool:=a4Q q.sl && c0F q.sl q.wa
def b0q (q:Que):Bool:=a73 q && setd q
theorem I1:oneWa sl wa i=true↔(0<=(wa.getD i default).q/\(wa.getD i default).q<=7)/\(0<=(wa.getD i default).p/\(wa.getD i default).p<=15)/\r9 sl (wa.getD i default).q < 0/\(∀j,j < i→(wa.getD j default).q≠(wa.getD i default).q)/\(i=0∨lessW (wa.getD (i - 1) default) (wa.getD i default)=true):=by
 grind [oneWa,s7,a0W]
theorem b5l (h:¬ ((0<=(wa.getD i default).q/\(wa.getD i default).q<=7)/\(0<=(wa.getD i default).p/\(wa.getD i default).p<=15)/\r9 sl (wa.getD i default).q < 0/\(∀j,j < i→(wa.getD j default).q≠(wa.getD i default).q)/\(i=0∨lessW (wa.getD (i - 1) default) (wa.getD i default)=true))):oneWa sl wa i=false:=by
 rw [← Bool.not_eq_true,I1];exact h
theorem b76 {q:Que} (h:a4Q q.sl=false):a73 q=false:=by unfold a73;rw [h,Bool.false_and]
theorem b77 {q:Que} {i:Nat} (h:oneWa q.sl q.wa i=false) (hi:i < q.wa.length):a73 q=false:=by unfold a73 c0F;rw [a0r h hi,Bool.and_false]
theorem b78 {q:Que} {i:Nat} (h1:a4Q q.sl=true) (h:∀j,j < i→oneWa q.sl q.wa j=true) (hi:q.wa.length<=i):a73 q=true:=by unfold a73 c0F;rw [h1,a17 h hi];rfl
theorem b4D:∀(n:Nat) (f:Nat→Int) (k:Nat),(∀i,i < n→0<=f i/\f i < k)→(∀i j,i < j→j < n→f i≠f j)→n<=k
 | n,f,0,h,_=>by
  rcases Nat.eq_zero_or_pos n with h0 | h0
  ·omega
  ·have:=h 0 h0;omega
 | n,f,k+1,h,hd=>by
  by_cases hx:∃i,i < n/\f i=k
  ·obtain ⟨i,hi,hk⟩:=hx
   have:=b4D (n - 1) (λj=>if j < i then f j else f (j+1)) k (λj hj=>by
    split
    ·next hlt=>have:=h j J;have:=hd j i hlt hi;omega
    ·next hge=>have:=h (j+1) J;have:=hd i (j+1) J J;omega) (λa b hab hb=>by
    split
    ·next h1 =>
     split
     ·exact hd a b hab J
     ·exact hd a (b+1) J J
    ·next h1 =>
     rw [if_neg J]
     exact hd (a+1) (b+1) J J)
   omega
  ·have:=b4D n f k (λi hi=>by
    have h1:=h i hi
    have h2:f i≠k:=λe=>hx ⟨i,hi,e⟩
    omega) hd
   omega
theorem b17 {n:Nat} (h:∀j,j < n→oneWa sl wa j=true):n<=8 :=
 b4D n (λi=>(wa.getD i default).q) 8 (λi hi=>by have:=(I1.mp (h i hi)).1;omega) (λi j hij hj=>(I1.mp (h j hj)).2.2.2.1 i hij)
structure PaF (q:Que):Prop where
 sl:SlF q.sl
 wn:q.wa.length<=8
 wa:∀i,i < q.wa.length→oneWa q.sl q.wa i=true
theorem paF {q:Que}:a73 q=true↔PaF q:=by
 unfold a73 c0F
 rw [Bool.and_eq_true,P7]
 exact ⟨λh=>⟨slF.mp h.1,b17 h.2,h.2⟩,λh=>⟨slF.mpr h.sl,h.wa⟩⟩
theorem a9D (w:Wtr):∀u∈f7 w,u.oneCell'=true:=by intro u hu;simp [f7] at hu;rcases hu with rfl | rfl<;>rfl
theorem a9E {α:Type} {xs:List α} {f:α→List Value}:((xs.map f).drop ((i:Int)).toNat).take (((xs.map f).length:Int).toNat - ((i:Int)).toNat)=(xs.drop i).map f:=by
 rw [Int.toNat_natCast,Int.toNat_natCast,List.take_of_length_le (by rw [List.length_drop];exact Nat.le_refl _),List.map_drop]
theorem b79 {q:Que} (h:q.wa.length=0):setd q=true:=by unfold setd;rw [decide_eq_true h,Bool.true_or]
theorem b8a {q:Que} (h:¬ q.wa.length=0) (h2:0<=freS q.sl):setd q=false:=by unfold setd;rw [decide_eq_false h,decide_eq_false J];rfl
theorem b8b {q:Que} (h2:freS q.sl < 0) (h3:bstS q.sl false < 0):setd q=true:=by unfold setd;rw [decide_eq_true h2,decide_eq_true h3];simp
theorem b8c {q:Que} (h:¬ q.wa.length=0) (h2:freS q.sl < 0) (h3:¬ bstS q.sl false < 0):setd q=lessW (wOf (q.sl.getD (bstS q.sl false).toNat default)) (q.wa.getD 0 default):=by unfold setd;rw [decide_eq_false h,decide_eq_true h2,decide_eq_false h3];simp
theorem a0X {sl:List Slot} {most:Bool}:-1<=bstS sl most/\bstS sl most < sl.length:=a2m _
theorem b18 {most:Bool} (h:sl.length=i):G0 sl most i=bstS sl most:=by subst h;rfl
theorem b8d (hs:a4Q sl=true) (h:∀j,j < i→oneWa sl wa j=true) (hi:wa.length<=i∨8 < i) (hn:i<=wa.length):decide ((wa.length:Int)<=8)=a73 ⟨sl,wa⟩:=by
 have h8:=b17 h
 rw [b78 (q:=⟨sl,wa⟩) hs h (show wa.length<=i by omega)]
 simp;omega
end Go.Rf
namespace Go.Rf
open Go
variable {irq:Int} {sl:List Slot} {w:Wtr} {wa:List Wtr}
def a2p (sl:List Slot) (lim:Int):Bool:=decide (0<=bstS sl true) && decide ((sl.getD (bstS sl true).toNat default).p < lim)
def tkS (sl:List Slot):List Slot:=sl.set (bstS sl true).toNat ⟨2,(sl.getD (bstS sl true).toNat default).q,(sl.getD (bstS sl true).toNat default).p⟩
def tkI (sl:List Slot):Int:=(sl.getD (bstS sl true).toNat default).q
def tkT (sl:List Slot) (lim:Int):List Slot×Int×Bool:=if a2p sl lim then (tkS sl,tkI sl,true) else ([],0,false)
section
variable {sl:List Slot} {lim irq p:Int}
theorem b5m (h:a2p sl lim=true):tkT sl lim=(tkS sl,tkI sl,true):=by unfold tkT;rw [h];rfl
theorem b8e (h:a2p sl lim=false):tkT sl lim=([],0,false):=by unfold tkT;rw [h];rfl
theorem X2:a2p sl lim=true↔0<=bstS sl true/\(sl.getD (bstS sl true).toNat default).p < lim:=by simp [a2p]
theorem b19:a2p sl lim=false↔¬ (0<=bstS sl true/\(sl.getD (bstS sl true).toNat default).p < lim):=by rw [← Bool.not_eq_true,X2]
def ptS (sl:List Slot) (irq:Int):List Slot:=sl.set (r9 sl irq).toNat ⟨if (sl.getD (r9 sl irq).toNat default).s=2 then 3 else (sl.getD (r9 sl irq).toNat default).s,(sl.getD (r9 sl irq).toNat default).q,(sl.getD (r9 sl irq).toNat default).p⟩
def edX (sl:List Slot) (irq:Int):Slot:=if (sl.getD (r9 sl irq).toNat default).s=3 then ⟨1,irq,(sl.getD (r9 sl irq).toNat default).p⟩ else zSl
def edS (sl:List Slot) (irq:Int):List Slot:=sl.set (r9 sl irq).toNat (edX sl irq)
def a0b (x:Slot):Bool:=decide (x.s=2) || decide (x.s=3)
theorem u9 {x:Slot}:a0b x=true↔x.s=2∨x.s=3:=by simp [a0b]
theorem c6G (h:0<=r9 sl irq):(sl.getD (r9 sl irq).toNat default).q=irq/\(sl.getD (r9 sl irq).toNat default).s≠0:=by
 grind [b07]
end
def stK (q:Que):Nat:=if freS q.sl < 0 then (bstS q.sl false).toNat else (freS q.sl).toNat
def stW (q:Que):List Wtr:=if freS q.sl < 0 then insW (q.wa.drop 1) (wOf (q.sl.getD (bstS q.sl false).toNat default)) else q.wa.drop 1
def stQ (q:Que):Que:=⟨q.sl.set (stK q) ⟨1,(q.wa.getD 0 default).q,(q.wa.getD 0 default).p⟩,stW q⟩
def wtS (x:Slot):Nat:=if x.s=0 then 2000 else if x.s=1 then (8 * x.p+x.q).toNat else 0
def phi (q:Que):Nat:=(q.sl.map wtS).sum
def a61:Nat→Que→Que
 | 0,q=>q
 | n+1,q=>if setd q then q else a61 n (stQ q)
def a1L (q:Que):Que:=a61 (phi q+1) q
def ltW (a b:Wtr):Prop:=lessW a b=true/\a.q≠b.q
structure QF (q:Que):Prop where
 sl:SlF q.sl
 wn:q.wa.length<=9
 wa:∀w∈q.wa,(0<=w.q/\w.q<=7)/\(0<=w.p/\w.p<=15)/\∀x∈q.sl,x.s≠0→x.q≠w.q
 pw:q.wa.Pairwise ltW
theorem p4 {α:Type} [Inhabited α] {l:List α} {x:α}:x∈l↔∃i,i < l.length/\l.getD i default=x:=by
 constructor
 ·intro h
  obtain ⟨i,hi,e⟩:=List.getElem_of_mem h
  exact ⟨i,hi,by rw [List.getD_eq_getElem?_getD,List.getElem?_eq_getElem hi];exact e⟩
 grind
theorem a5Y {α:Type} [Inhabited α] {l:List α} {R:α→α→Prop}:l.Pairwise R↔∀i j,i < j→j < l.length→R (l.getD i default) (l.getD j default):=by
 rw [List.pairwise_iff_getElem]
 grind
theorem c0G:r9 sl irq < 0↔∀j,j < sl.length→¬ ((sl.getD j default).s≠0/\(sl.getD j default).q=irq):=by
 grind [r9,a8K,a0W,a2n]
theorem a5Z:r9 sl irq < 0↔∀x∈sl,x.s≠0→x.q≠irq:=by
 grind [c0G,p4]
theorem PaF.q {q:Que} (h:PaF q):QF q:=by
 refine ⟨h.sl,Nat.le_succ_of_le h.wn,λw hw=>?_,a5Y.mpr ?_⟩
 ·obtain ⟨i,hi,rfl⟩:=p4.mp hw
  obtain ⟨h1,h2,h3,_⟩:=I1.mp (h.wa i hi)
  exact ⟨h1,h2,a5Z.mp h3⟩
 ·intro i j hij hj
  refine ⟨?_,(I1.mp (h.wa j hj)).2.2.2.1 i hij⟩
  induction j with
  | zero=>omega
  | succ j ih =>
   have hlast:lessW (q.wa.getD j default) (q.wa.getD (j+1) default)=true:=by
    rcases (I1.mp (h.wa (j+1) hj)).2.2.2.2 with g | g
    ·omega
    ·exact g
   by_cases e:i=j
   ·subst e;exact hlast
   ·exact a3f (ih J J) hlast
theorem QF.pa {q:Que} (h:QF q):PaF q:=by
 have hp:=a5Y.mp h.pw
 have h8:∀i,i < q.wa.length→oneWa q.sl q.wa i=true:=λi hi=>by
  obtain ⟨h1,h2,h3⟩:=h.wa _ (p4.mpr ⟨i,hi,Z⟩)
  refine I1.mpr ⟨h1,h2,a5Z.mpr h3,λj hj=>(hp j i hj hi).2,?_⟩
  rcases Nat.eq_zero_or_pos i with g | g
  ·exact .inl g
  ·exact .inr (hp (i - 1) i J hi).1
 exact ⟨h.sl,b17 h8,h8⟩
theorem QF.wn8 {q:Que} (h:QF q):q.wa.length<=8:=h.pa.wn
theorem J2 {α:Type} [Inhabited α] {l:List α} {i j:Nat} {x:α} (hi:i < l.length):(l.set i x).getD j default=if i=j then x else l.getD j default:=by
 grind
theorem SlF.set (h:SlF sl) {k:Nat} {x:Slot} (hk:k < 4) (hx:(1<=x.s/\x.s<=3)/\(0<=x.q/\x.q<=7)/\0<=x.p/\x.p<=15) (hq:∀j,j < 4→j≠k→(sl.getD j default).s≠0→(sl.getD j default).q≠x.q):SlF (sl.set k x):=by
 have hl:k < sl.length:=by rw [h.len];exact hk
 refine ⟨by rw [List.length_set];exact h.len,λi hi=>?_,λi hi=>?_,λi j hij hj=>?_⟩
 ·rw [J2 hl];split
  ·intro e;omega
  ·exact h.z i hi
 ·rw [J2 hl];split
  ·intro _;exact hx
  ·exact h.ok i hi
 ·rw [J2 hl,J2 hl]
  by_cases e1:k=i
  ·grind
  ·rw [if_neg e1]
   by_cases e2:k=j
   ·grind
   ·rw [if_neg e2];exact h.dif i j hij hj
theorem SlF.setZ (h:SlF sl) {k:Nat} (hk:k < 4):SlF (sl.set k zSl):=by
 have hl:k < sl.length:=by rw [h.len];exact hk
 refine ⟨by rw [List.length_set];exact h.len,λi hi=>?_,λi hi=>?_,λi j hij hj=>?_⟩
 ·rw [J2 hl];split
  ·intro _;rfl
  ·exact h.z i hi
 ·rw [J2 hl];split
  ·intro e;exact absurd Z e
  ·exact h.ok i hi
 ·rw [J2 hl,J2 hl]
  split
  ·intro e;exact absurd Z e
  ·split
   ·intro _ e;exact absurd Z e
   ·exact h.dif i j hij hj
theorem b8f {α:Type} {p:α→Bool} {x:α}:∀{l:List α},x∈l.takeWhile p→p x=true
 | [],h=>by simp at h
 | y :: l,h=>by
  rw [List.takeWhile_cons] at h
  split at h
  ·next hy =>
   rcases List.mem_cons.mp h with rfl | h
   ·exact hy
   ·exact b8f h
  ·cases h
theorem b5n:insW wa w=wa.takeWhile (λx=>lessW x w)++[w]++wa.dropWhile (λx=>lessW x w):=by
 have h:=List.takeWhile_append_dropWhile (p:=λx=>lessW x w) (l:=wa)
 unfold insW b4C
 grind
theorem a50 {x:Wtr}:x∈insW wa w↔x=w∨x∈wa:=by
 have h:=List.takeWhile_append_dropWhile (p:=λx=>lessW x w) (l:=wa)
 rw [b5n]
 grind
theorem b2a (h:wa.Pairwise ltW) (hd:∀x∈wa,x.q≠w.q):(insW wa w).Pairwise ltW:=by
 rw [b5n]
 have hs:=List.takeWhile_append_dropWhile (p:=λx=>lessW x w) (l:=wa)
 have hp:(wa.takeWhile (λx=>lessW x w)++wa.dropWhile (λx=>lessW x w)).Pairwise ltW:=by rw [hs];exact h
 obtain ⟨p1,p2,p3⟩:=List.pairwise_append.mp hp
 have t1:∀x∈wa.takeWhile (λx=>lessW x w),ltW x w:=λx hx=>by
  refine ⟨?_,hd x (by rw [← hs];exact List.mem_append_left _ hx)⟩
  exact b8f (p:=λx=>lessW x w) hx
 have t2:∀x∈wa.dropWhile (λx=>lessW x w),ltW w x:=by
  cases hdw:wa.dropWhile (λx=>lessW x w) with
  | nil=>intro x hx;cases hx
  | cons y r =>
   have hy:lessW y w=false:=by
    have:=List.head?_dropWhile_not (λx=>lessW x w) wa
    grind
   have hyq:y.q≠w.q:=hd y (by rw [← hs,hdw];simp)
   have hwy:ltW w y:=⟨by rw [a3Z (Ne.symm hyq),hy];rfl,Ne.symm hyq⟩
   rw [hdw] at p2
   intro x hx
   rcases List.mem_cons.mp hx with rfl | hx
   ·exact hwy
   ·have:=(List.pairwise_cons.mp p2).1 x hx
    exact ⟨a3f hwy.1 this.1,Ne.symm (hd x (by rw [← hs,hdw];simp [hx]))⟩
 grind
theorem b5o {α:Type} [Inhabited α] {f:α→Nat} {x:α}:∀{l:List α} {k:Nat},k < l.length→((l.set k x).map f).sum+f (l.getD k default)=(l.map f).sum+f x
 | [],k,h=>by simp at h
 | y :: l,0,_=>by simp;omega
 | y :: l,k+1,h=>by
  have:=b5o (f:=f) (x:=x) (l:=l) (k:=k) (by simpa using h)
  grind
theorem a8N {α:Type} [Inhabited α] {l:List α} {k:Nat} {x y:α} (hk:k < l.length) (h:y∈l.set k x):y=x∨∃j,j < l.length/\j≠k/\l.getD j default=y:=by
 grind [p4,J2]
theorem a0l {most:Bool} (h:0<=bstS sl most):∃k:Nat,bstS sl most=k/\k < sl.length/\(sl.getD k default).s=1:=by
 have hb:=@a0X sl most
 refine ⟨(bstS sl most).toNat,by omega,by omega,a5V _ h⟩
structure NotSet (q:Que) (k:Nat) (w:Wtr) (r:List Wtr):Prop where
 wa:q.wa=w :: r
 kn:stK q=k
 kl:k < 4
 st:(freS q.sl=k/\(q.sl.getD k default).s=0/\stW q=r)∨(freS q.sl < 0/\bstS q.sl false=k/\(q.sl.getD k default).s=1/\lessW w (wOf (q.sl.getD k default))=true/\stW q=insW r (wOf (q.sl.getD k default)))
theorem b4E {q:Que} (h:QF q) (hs:setd q=false):∃k w r,NotSet q k w r:=by
 have h0:q.wa.length≠0:=λe=>by rw [b79 e] at hs;cases hs
 obtain ⟨w,r,hw⟩:∃w r,q.wa=w :: r:=by
  cases hq:q.wa with
  | nil=>rw [hq] at h0;exact absurd Z h0
  | cons w r=>exact ⟨w,r,Z⟩
 rcases @b6K q.sl with ⟨f1,f2⟩ | ⟨i,f1,f2,f3⟩
 ·have hb:0<=bstS q.sl false:=by
   grind [b8b]
  rw [b8c h0 J J] at hs
  obtain ⟨k,hk,hkl,hk1⟩:=a0l hb
  have hkn:(bstS q.sl false).toNat=k:=by omega
  rw [hkn,hw] at hs
  have hs:lessW (wOf (q.sl.getD k default)) w=false:=hs
  have hne:(wOf (q.sl.getD k default)).q≠w.q:=(h.wa w (by rw [hw];simp)).2.2 _ (p4.mpr ⟨k,hkl,Z⟩) J
  refine ⟨k,w,r,hw,by unfold stK;rw [if_pos J,hkn],by rw [← h.sl.len];exact hkl,.inr ⟨by omega,hk,hk1,?_,?_⟩⟩
  ·rw [a3Z (Ne.symm hne),hs];rfl
  ·unfold stW;rw [if_pos J,hkn,hw];rfl
 ·exact ⟨i,w,r,hw,by unfold stK;rw [if_neg J,f1];rfl,by rw [← h.sl.len];exact f2,.inl ⟨f1,f3,by unfold stW;rw [if_neg J,hw];rfl⟩⟩
theorem NotSet.eq {q:Que} {k:Nat} {r:List Wtr} (n:NotSet q k w r):stQ q=⟨q.sl.set k ⟨1,w.q,w.p⟩,stW q⟩:=by
 unfold stQ;rw [n.kn,n.wa];rfl
theorem b09 {q:Que} (h:QF q) (hs:setd q=false):QF (stQ q)/\phi (stQ q) < phi q:=by
 obtain ⟨k,w,r,n⟩:=b4E h hs
 rw [n.eq]
 have hl:k < q.sl.length:=by rw [h.sl.len];exact n.kl
 obtain ⟨hw1,hw2,hw3⟩:=h.wa w (by rw [n.wa];simp)
 have hpw:=h.pw
 rw [n.wa] at hpw
 obtain ⟨hp1,hp2⟩:=List.pairwise_cons.mp hpw
 have hrm:∀v∈r,v∈q.wa:=λv hv=>by rw [n.wa];simp [hv]
 have hsum:=b5o (f:=wtS) (x:=(⟨1,w.q,w.p⟩:Slot)) hl
 have hwt:wtS ⟨1,w.q,w.p⟩=(8 * w.p+w.q).toNat:=rfl
 have hsl:SlF (q.sl.set k ⟨1,w.q,w.p⟩):=h.sl.set n.kl ⟨⟨by show (1:Int)<=1;omega,by show (1:Int)<=3;omega⟩,hw1,hw2⟩ (λj hj hjk h0=>hw3 _ (p4.mpr ⟨j,by rw [h.sl.len];exact hj,Z⟩) h0)
 rcases n.st with ⟨f1,f2,f3⟩ | ⟨f0,f1,f2,f3,f4⟩
 ·rw [f3]
  refine ⟨⟨hsl,by have:=h.wn;rw [n.wa] at this;simp at this;show r.length<=9;omega,λv hv=>?_,hp2⟩,?_⟩
  ·obtain ⟨g1,g2,g3⟩:=h.wa v (hrm v hv)
   refine ⟨g1,g2,λx hx h0=>?_⟩
   rcases a8N hl hx with rfl | ⟨j,hj,_,rfl⟩
   ·exact (hp1 v hv).2
   grind
  ·have:wtS (q.sl.getD k default)=2000:=by unfold wtS;rw [if_pos f2]
   show ((q.sl.set k ⟨1,w.q,w.p⟩).map wtS).sum < (q.sl.map wtS).sum
   omega
 ·rw [f4]
  have hb:=h.sl.ok k n.kl J
  refine ⟨⟨hsl,?_,λv hv=>?_,b2a hp2 λx hx=>?_⟩,?_⟩
  ·have:=h.wn;rw [n.wa] at this;simp at this
   show (insW r _).length<=9
   rw [a5W];omega
  ·rcases a50.mp hv with rfl | hv
   ·refine ⟨hb.2.1,hb.2.2,λx hx h0=>?_⟩
    rcases a8N hl hx with rfl | ⟨j,hj,hjk,rfl⟩
    ·exact λe=>hw3 _ (p4.mpr ⟨k,hl,Z⟩) J e.symm
    ·intro e
     have h4:=h.sl.len
     rcases Nat.lt_or_ge j k with g | g
     ·exact h.sl.dif j k g n.kl h0 J e
     ·exact h.sl.dif k j J J J h0 e.symm
   ·obtain ⟨g1,g2,g3⟩:=h.wa v (hrm v hv)
    refine ⟨g1,g2,λx hx h0=>?_⟩
    rcases a8N hl hx with rfl | ⟨j,hj,_,rfl⟩
    ·exact (hp1 v hv).2
    grind
  ·exact λe=>(h.wa x (hrm x hx)).2.2 _ (p4.mpr ⟨k,hl,Z⟩) J e.symm
  ·have:wtS (q.sl.getD k default)=(8 * (q.sl.getD k default).p+(q.sl.getD k default).q).toNat:=by unfold wtS;rw [if_neg J,if_pos f2]
   rw [U5] at f3
   have f3:w.p < (q.sl.getD k default).p∨(w.p=(q.sl.getD k default).p/\w.q < (q.sl.getD k default).q):=f3
   show ((q.sl.set k ⟨1,w.q,w.p⟩).map wtS).sum < (q.sl.map wtS).sum
   omega
theorem b1a:∀{n m:Nat} {q:Que},QF q→phi q < n→phi q < m→a61 n q=a61 m q
 | n+1,m+1,q,h,h1,h2=>by
  unfold a61
  cases hs:setd q
  ·obtain ⟨g1,g2⟩:=b09 h hs
   simp only [Bool.false_eq_true,if_false]
   exact b1a g1 J J
  ·rfl
theorem b1b {q:Que} (h:QF q) (hs:setd q=false):a1L q=a1L (stQ q):=by
 grind [b09,a1L,a61,b1a]
theorem b1c {q:Que} (hs:setd q=true):a1L q=q:=by unfold a1L a61;rw [hs];rfl
theorem b5p:∀{n:Nat} {q:Que},QF q→phi q < n→QF (a61 n q)/\setd (a61 n q)=true
 | n+1,q,h,h1=>by
  unfold a61
  cases hs:setd q
  ·obtain ⟨g1,g2⟩:=b09 h hs
   simp only [Bool.false_eq_true,if_false]
   exact b5p g1 J
  grind
theorem b5q {q:Que} (h:QF q):QF (a1L q)/\setd (a1L q)=true:=b5p h (Nat.lt_succ_self _)
theorem a9F {q:Que}:b0q q=true↔QF q/\setd q=true:=by
 unfold b0q
 rw [Bool.and_eq_true,paF]
 exact ⟨λh=>⟨h.1.q,h.2⟩,λh=>⟨h.1.pa,h.2⟩⟩
def actL (sl:List Slot):List Wtr:=(sl.filter a0b).map wOf
theorem b3x:∀{k:Nat} {x:Slot},k < sl.length→a0b x=a0b (sl.getD k default)→(a0b x=true→wOf x=wOf (sl.getD k default))→actL (sl.set k x)=actL sl:=by
 unfold actL
 induction sl with
 | nil=>intro k x hk;simp at hk
 | cons y sl ih =>
  intro k x hk h1 h2
  cases k with
  | zero =>
   grind
  | succ k =>
   grind
theorem G9:w∈actL sl↔∃x∈sl,a0b x=true/\wOf x=w:=by
 simp [actL,and_assoc]
theorem c0H {q:Que} (h:QF q) (hs:setd q=false):actL (stQ q).sl=actL q.sl:=by
 obtain ⟨k,w,r,n⟩:=b4E h hs
 rw [n.eq]
 have hl:k < q.sl.length:=by rw [h.sl.len];exact n.kl
 refine b3x hl ?_ (λg=>?_)
 ·have:a0b (q.sl.getD k default)=false:=by
   rcases n.st with ⟨_,f,_⟩ | ⟨_,_,f,_⟩<;>rw [← Bool.not_eq_true,u9]<;>omega
  rw [this];rfl
 ·cases g
theorem b3y:∀{n:Nat} {q:Que},QF q→actL (a61 n q).sl=actL q.sl
 | 0,q,_=>rfl
 | n+1,q,h=>by
  unfold a61
  cases hs:setd q
  ·simp_all [b3y,b09,c0H]
  ·rfl
theorem b3z {q:Que} (h:QF q):actL (a1L q).sl=actL q.sl:=b3y h
def a74 (q:Que) (irq p:Int):Que:=if 0<=r9 q.sl irq then ⟨ptS q.sl irq,q.wa⟩ else if 0<=inW q.wa irq then q else ⟨q.sl,insW q.wa ⟨irq,p⟩⟩
def a3j (q:Que) (irq p:Int):Que:=a1L (a74 q irq p)
theorem b2b (h:0<=r9 sl irq):∃k:Nat,r9 sl irq=k/\k < sl.length/\(sl.getD k default).s≠0/\(sl.getD k default).q=irq:=by
 rcases @b07 sl irq with ⟨g,_⟩ | g
 ·omega
 ·exact g
theorem SlF.upd (h:SlF sl) {k:Nat} (hk:k < 4) {s':Int} (h0:(sl.getD k default).s≠0) (hs:1<=s'/\s'<=3):SlF (sl.set k ⟨s',(sl.getD k default).q,(sl.getD k default).p⟩):=by
 refine h.set hk ⟨hs,(h.ok k hk h0).2⟩ (λj hj hjk g=>?_)
 rcases Nat.lt_or_ge j k with e | e
 ·exact h.dif j k e hk g h0
 ·exact λe'=>h.dif k j J hj h0 g e'.symm
theorem QF.slUpd {q:Que} (h:QF q) {k:Nat} (hk:k < 4) {s':Int} (h0:(q.sl.getD k default).s≠0) (hs:1<=s'/\s'<=3):QF ⟨q.sl.set k ⟨s',(q.sl.getD k default).q,(q.sl.getD k default).p⟩,q.wa⟩:=by
 refine ⟨h.sl.upd hk h0 hs,h.wn,λw hw=>?_,h.pw⟩
 obtain ⟨g1,g2,g3⟩:=h.wa w hw
 refine ⟨g1,g2,λx hx g=>?_⟩
 have hl:k < q.sl.length:=by rw [h.sl.len];exact hk
 grind
theorem c0I {q:Int}:inW wa q < 0↔∀w∈wa,w.q≠q:=by
 grind [inW,a8K,a0W,p4]
theorem b4F {q:Que} {irq p:Int} (h:QF q) (hi:0<=irq/\irq<=7) (hp:0<=p/\p<=15):QF (a74 q irq p)/\actL (a74 q irq p).sl=actL q.sl:=by
 unfold a74
 split
 ·next h1 =>
  obtain ⟨k,e1,e2,e3,e4⟩:=b2b h1
  have hk:k < 4:=by rw [← h.sl.len];exact e2
  unfold ptS
  rw [e1]
  simp only [Int.toNat_natCast]
  have hb:=(h.sl.ok k hk e3).1
  refine ⟨h.slUpd hk e3 ?_,b3x e2 ?_ (λ_=>Z)⟩
  ·split<;>omega
  ·grind [u9]
 split
 ·exact ⟨h,Z⟩
 ·next h1 h2 =>
  have g1:=a5Z.mp (show r9 q.sl irq < 0 by omega)
  have g2:=c0I.mp (show inW q.wa irq < 0 by omega)
  refine ⟨⟨h.sl,?_,λw hw=>?_,b2a h.pw g2⟩,Z⟩
  ·show (insW q.wa _).length<=9
   rw [a5W];have:=h.wn8;omega
  ·rcases a50.mp hw with rfl | hw
   ·exact ⟨hi,hp,g1⟩
   ·exact h.wa w hw
theorem c4y {q:Que} {p:Int} (h:QF q) (hi:0<=irq/\irq<=7) (hp:0<=p/\p<=15):QF (a3j q irq p)/\setd (a3j q irq p)=true/\actL (a3j q irq p).sl=actL q.sl:=by
 grind [b4F,b5q,a3j,b3z]
def b2c (q:Que):Que:=⟨tkS q.sl,q.wa⟩
theorem c4z {q:Que} (h:QF q) (hb:0<=bstS q.sl true):QF (b2c q):=by
 obtain ⟨k,e1,e2,e3⟩:=a0l hb
 have hk:k < 4:=by rw [← h.sl.len];exact e2
 unfold b2c tkS
 rw [e1]
 exact h.slUpd hk (by (omega)) (by (omega))
def a62 (q:Que) (irq:Int):Que:=a1L ⟨edS q.sl irq,q.wa⟩
theorem a8O {q:Que} (h:QF q) (hf:0<=r9 q.sl irq):QF ⟨edS q.sl irq,q.wa⟩:=by
 obtain ⟨k,e1,e2,e3,e4⟩:=b2b hf
 have hk:k < 4:=by rw [← h.sl.len];exact e2
 have e5:edX q.sl irq=if (q.sl.getD k default).s=3 then ⟨1,irq,(q.sl.getD k default).p⟩ else zSl:=by unfold edX;rw [e1];rfl
 unfold edS
 rw [e1,e5]
 split
 ·rw [← e4];exact h.slUpd hk e3 J
 ·refine ⟨h.sl.setZ hk,h.wn,λw hw=>?_,h.pw⟩
  obtain ⟨g1,g2,g3⟩:=h.wa w hw
  refine ⟨g1,g2,λx hx g=>?_⟩
  rcases a8N e2 hx with rfl | ⟨j,hj,_,rfl⟩
  ·exact absurd Z g
  grind
theorem c4A {q:Que} (h:QF q) (hf:0<=r9 q.sl irq):QF (a62 q irq)/\setd (a62 q irq)=true:=b5q (a8O h hf)
theorem p7 {q:Que} (h:0<=freS q.sl):stQ q=⟨q.sl.set (freS q.sl).toNat ⟨1,(q.wa.getD 0 default).q,(q.wa.getD 0 default).p⟩,q.wa.drop 1⟩:=by
 unfold stQ stK stW
 grind
theorem s2 {q:Que} (h:freS q.sl < 0):stQ q=⟨q.sl.set (bstS q.sl false).toNat ⟨1,(q.wa.getD 0 default).q,(q.wa.getD 0 default).p⟩,insW (q.wa.drop 1) (wOf (q.sl.getD (bstS q.sl false).toNat default))⟩:=by
 unfold stQ stK stW
 rw [if_pos h,if_pos h]
theorem b5r {q:Que} (h:QF q) (hs:setd q=false):0 < q.wa.length/\(freS q.sl < 0→0<=bstS q.sl false):=by
 obtain ⟨k,w,r,n⟩:=b4E h hs
 refine ⟨by rw [n.wa];simp,λg=>?_⟩
 rcases n.st with ⟨f,_⟩ | ⟨_,f,_⟩<;>omega
end Go.Rf
namespace Go.Rf
theorem c6H {xs:List Wtr}:((xs.map f7).drop (1:Int).toNat).take (((xs.map f7).length:Int).toNat - (1:Int).toNat)=(xs.drop 1).map f7:=by
 have h1:(1:Int).toNat=1:=rfl
 have h2:(((xs.map f7).length:Int)).toNat=(xs.map f7).length:=Int.toNat_natCast _
 rw [h1,h2,List.take_of_length_le (by rw [List.length_drop];exact Nat.le_refl _),List.map_drop]
theorem c6I {xs:List Wtr}:(xs.map f7).drop (1:Int).toNat=(xs.drop 1).map f7:=List.map_drop.symm
end Go.Rf
namespace Go.Rf
open Go
section
variable {rs:List Route} {a:Abs} {ss:List MStep}
end
end Go.Rf
namespace Go.Rf
end Go.Rf
namespace Go.Rf
open Go
variable {i j:Nat} {l:List Int} {rs:List Route} {x:Ifc} {xs:List Ifc}
def l6 (eS eW:Nat) (x:Ifc):List CI:=[.v (.int .i64 x.ma),.l 3 1 (x.st.map n8),.l eS 3 (x.qu.sl.map e9),.l eW 2 (x.qu.wa.map f7)]
def b8g (x y:Que):Bool:=decide (x.sl=y.sl) && decide (x.wa=y.wa)
theorem b8h {x y:Que}:b8g x y=true↔x=y:=by cases x;cases y;simp [b8g]
def c0J (x y:Ifc):Bool:=decide (x.ma=y.ma) && (decide (x.st=y.st) && b8g x.qu y.qu)
theorem b3A {y:Ifc}:c0J x y=true↔x=y:=by cases x;cases y;simp [c0J,b8h]
def b8i (x y:Mach):Bool:=decide (x.rs=y.rs) && (decide (x.en=y.en) && (decide (x.ra=y.ra) && decide (x.cp=y.cp)))
theorem b8j {x y:Mach}:b8i x y=true↔x=y:=by cases x;cases y;simp [b8i]
structure BigI (x:Ifc):Prop where
 st:x.st.length<=9223372036854775807
 sl:x.qu.sl.length<=9223372036854775807
 wa:x.qu.wa.length<=9223372036854775807
structure BigM (m:Mach):Prop where
 rs:m.rs.length<=9223372036854775807
 en:m.en.length<=9223372036854775807
 ra:m.ra.length<=9223372036854775807
 cp:m.cp.length<=9223372036854775807
 all:∀i,i < m.cp.length→BigI (m.cp.getD i default)
def szI (x:Ifc):Int:=x.st.length+x.qu.sl.length+x.qu.wa.length
def sumI (xs:List Ifc):Nat→Int
 | 0=>0
 | i+1=>sumI xs i+szI (xs.getD i default)
theorem I2:sumI xs (i+1)=sumI xs i+szI (xs.getD i default):=rfl
theorem b8k {x:Ifc}:0<=szI x:=by unfold szI;omega
theorem a30 {xs:List Ifc}:∀i,0<=sumI xs i
 | 0=>Int.le_refl _
 | i+1=>by have:=@a30 xs i;have:=@b8k (xs.getD i default);rw [I2];omega
theorem a63 {xs:List Ifc} {i j:Nat} (h:i<=j):sumI xs i<=sumI xs j:=by
 induction h with
 | refl=>exact Int.le_refl _
 | step _ ih=>rename_i m _;have:=@b8k (xs.getD m default);rw [I2];omega
theorem a9G {xs:List Ifc} {i n:Nat} (h:i < n):szI (xs.getD i default)<=sumI xs n:=by
 have h1:=a63 (xs:=xs) (show i+1<=n from h)
 have h2:=@a30 xs i
 rw [I2] at h1
 omega
structure SmallM (m:Mach):Prop where
 rs:m.rs.length<=1048576
 en:m.en.length<=1048576
 ra:m.ra.length<=1048576
 cp:m.cp.length<=1048576
 sum:sumI m.cp m.cp.length<=1048576
theorem SmallM.allI {m:Mach} (h:SmallM m) {i:Nat} (hi:i < m.cp.length):szI (m.cp.getD i default)<=1048576:=by
 have:=a9G (xs:=m.cp) hi
 have:=h.sum
 omega
def c0K (k:Int) (j:Nat):Slot:=⟨k+3 * j,k+3 * j+1,k+3 * j+1+1⟩
def c0L (k:Int) (j:Nat):Wtr:=⟨k+2 * j,k+2 * j+1⟩
def wdI (x:Ifc):Int:=1+x.st.length+3 * x.qu.sl.length+2 * x.qu.wa.length
def a4T (xs:List Ifc):Nat→Int
 | 0=>0
 | i+1=>a4T xs i+wdI (xs.getD i default)
theorem a64:a4T xs (i+1)=a4T xs i+wdI (xs.getD i default):=rfl
theorem a52 {xs:List Ifc}:∀i,0<=a4T xs i/\a4T xs i<=i+3 * sumI xs i
 | 0=>⟨Int.le_refl _,Int.le_refl _⟩
 | i+1=>by
  have:=@a52 xs i
  rw [a64,I2]
  unfold wdI szI
  push_cast
  omega
def c6J (k:Int) (x:Ifc):Ifc:=⟨k,over (mkI (k+1)) x.st x.st.length,⟨over (c0K (k+1+x.st.length)) x.qu.sl x.qu.sl.length,over (c0L (k+1+x.st.length+3 * x.qu.sl.length)) x.qu.wa x.qu.wa.length⟩⟩
def b2d (k:Int) (xs:List Ifc):Nat→List Ifc
 | 0=>xs
 | i+1=>(b2d k xs i).set i (c6J (k+a4T xs i) (xs.getD i default))
section
variable {k:Int} {xs:List Ifc} {eS eW:Nat}
theorem a65:b2d k xs (i+1)=(b2d k xs i).set i (c6J (k+a4T xs i) (xs.getD i default)):=rfl
theorem a3k:∀i,(b2d k xs i).length=xs.length
 | 0=>rfl
 | i+1=>by rw [a65,List.length_set,a3k i]
theorem b5s:∀{i j:Nat},i<=j→(b2d k xs i)[j]?=xs[j]?
 | 0,j,_=>rfl
 | i+1,j,h=>by
  rw [a65,List.getElem?_set_ne J]
  exact b5s J
theorem b6L (h:i < xs.length):((b2d k xs i).map (l6 eS eW))[i]?=some (l6 eS eW (xs.getD i default)):=by
 grind [b5s]
end
def mkM (k:Int) (m:Mach):Mach:=⟨over (c0v k) m.rs m.rs.length,over (mkO (k+2 * m.rs.length)) m.en m.en.length,over (mkO (k+2 * m.rs.length+m.en.length)) m.ra m.ra.length,b2d (k+2 * m.rs.length+m.en.length+m.ra.length) m.cp m.cp.length⟩
def b8l (k:Int) (m:Mach):Int:=k+2 * m.rs.length+m.en.length+m.ra.length+a4T m.cp m.cp.length
theorem b5t {m:Mach} {k:Int} (hs:SmallM m):k<=b8l k m/\b8l k m<=k+10000000:=by
 have h1:=hs.rs;have h2:=hs.en;have h3:=hs.ra;have h4:=hs.cp;have h5:=hs.sum
 have:=@a52 m.cp m.cp.length
 unfold b8l
 omega
def lvl (sl:List Slot) (q:Int):Int:=(sl.getD (r9 sl q).toNat default).p
def b0r (x:Ifc):Int:=if x.st.length=0 then 16 else lvl x.qu.sl (x.st.getD (x.st.length - 1) default)
theorem c4B (h:x.st.length=0):b0r x=16:=by unfold b0r;rw [if_pos h]
theorem b8m (h:¬ x.st.length=0):b0r x=lvl x.qu.sl (x.st.getD (x.st.length - 1) default):=by unfold b0r;rw [if_neg h]
def a77 (x:Ifc) (q p:Int):Ifc:=⟨x.ma,x.st,a3j x.qu q p⟩
def a4U (x:Ifc):Ifc:=⟨x.ma,x.st++[tkI x.qu.sl],b2c x.qu⟩
structure IfF (x:Ifc):Prop where
 qu:QF x.qu
 sn:x.st.length<=4
 st:∀q∈x.st,∃w∈actL x.qu.sl,w.q=q
theorem a54 {sl:List Slot} {q:Int} (h:∃w∈actL sl,w.q=q):0<=r9 sl q:=by
 obtain ⟨w,hw,e⟩:=h
 obtain ⟨x,h1,h2,rfl⟩:=G9.mp hw
 rcases Int.lt_or_le (r9 sl q) 0 with g | g
 ·refine absurd e (a5Z.mp g x h1 ?_)
  rcases u9.mp h2 with g | g<;>omega
 ·exact g
theorem IfF.top (h:IfF x) {i:Nat} (hi:i < x.st.length):0<=r9 x.qu.sl (x.st.getD i default):=a54 (h.st _ (p4.mpr ⟨i,hi,Z⟩))
theorem b8n {q p:Int} (h:IfF x) (hq:0<=q/\q<=7) (hp:0<=p/\p<=15):IfF (a77 x q p):=by
 obtain ⟨h1,h2,h3⟩:=c4y h.qu hq hp
 exact ⟨h1,h.sn,λy hy=>by show ∃w∈actL (a3j x.qu q p).sl,w.q=y;rw [h3];exact h.st y hy⟩
theorem b5u {α:Type} [Inhabited α] {l:List α} {k:Nat} {x y:α} (h:x∈l) (hne:x≠l.getD k default):x∈l.set k y:=by
 grind [p4]
theorem c4C (h:IfF x) (hb:0<=bstS x.qu.sl true) (hn:x.st.length < 4):IfF (a4U x):=by
 obtain ⟨k,e1,e2,e3⟩:=a0l hb
 refine ⟨c4z h.qu hb,by show (x.st++[tkI x.qu.sl]).length<=4;rw [List.length_append,List.length_cons,List.length_nil];omega,λq hq=>?_⟩
 show ∃w∈actL (tkS x.qu.sl),w.q=q
 unfold tkS
 rw [e1,Int.toNat_natCast]
 rcases List.mem_append.mp hq with hq | hq
 ·obtain ⟨w,hw,e⟩:=h.st q hq
  obtain ⟨y,y1,y2,y3⟩:=G9.mp hw
  refine ⟨w,G9.mpr ⟨y,b5u y1 (λe'=>?_),y2,y3⟩,e⟩
  rw [e'] at y2
  rcases u9.mp y2 with g | g<;>omega
 ·rw [List.mem_singleton.mp hq]
  refine ⟨⟨(x.qu.sl.getD k default).q,(x.qu.sl.getD k default).p⟩,G9.mpr ⟨⟨2,(x.qu.sl.getD k default).q,(x.qu.sl.getD k default).p⟩,List.mem_iff_getElem.mpr ⟨k,by rw [List.length_set];exact e2,by simp⟩,Z,Z⟩,?_⟩
  show (x.qu.sl.getD k default).q=tkI x.qu.sl
  unfold tkI
  grind
def I6 (rs:List Route) (l:List Int):List Slot:=(l.map λq=>⟨2,q,prI rs q⟩)++List.replicate (4 - l.length) zSl
def a55 (rs:List Route) (l:List Int):Ifc:=⟨16,l,⟨I6 rs l,[]⟩⟩
def U6 (rs:List Route) (l:List Int) (q:Int):List Slot:=(l.map λq=>⟨2,q,prI rs q⟩)++(⟨1,q,prI rs q⟩ :: List.replicate (3 - l.length) zSl)
section
variable {rs:List Route} {l:List Int} {q:Int}
theorem b6M {α:Type} [Inhabited α] {a b:List α} {j:Nat} (h:a.length<=j):(a++b).getD j default=b.getD (j - a.length) default:=by
 grind
theorem a1M {α β:Type} [Inhabited α] [Inhabited β] {f:α→β} {a:List α} {j:Nat} (h:j < a.length):(a.map f).getD j default=f (a.getD j default):=by
 grind
theorem a3l (h:l.length<=4):(I6 rs l).length=4:=by unfold I6;simp;omega
theorem b3B (h:l.length < 4):(U6 rs l q).length=4:=by unfold U6;simp;omega
theorem a2q (h:j < l.length):(I6 rs l).getD j default=⟨2,l.getD j default,prI rs (l.getD j default)⟩:=by
 unfold I6
 grind
theorem a56 (h:l.length<=j) (h4:j < 4):(I6 rs l).getD j default=zSl:=by
 unfold I6
 grind
theorem b2e (h:j < l.length):(U6 rs l q).getD j default=⟨2,l.getD j default,prI rs (l.getD j default)⟩:=by
 unfold U6
 grind
theorem b2f:(U6 rs l q).getD l.length default=⟨1,q,prI rs q⟩:=by
 unfold U6
 rw [b6M (by simp)]
 simp
theorem c0M (h:l.length < j) (h4:j < 4):(U6 rs l q).getD j default=zSl:=by
 grind [U6]
theorem c0N {α:Type} {a b:List α} {x:α}:(a++b).set a.length x=a++b.set 0 x:=by
 simp
theorem b8o (h:l.length < 4):(I6 rs l).set l.length ⟨1,q,prI rs q⟩=U6 rs l q:=by
 unfold I6 U6
 have e:=@c0N _ (l.map λq=>(⟨2,q,prI rs q⟩:Slot)) (List.replicate (4 - l.length) zSl) ⟨1,q,prI rs q⟩
 rw [List.length_map] at e
 rw [e,show 4 - l.length=(3 - l.length)+1 by omega,List.replicate_succ,List.set_cons_zero]
theorem b8p (h:l.length < 4):(U6 rs l q).set l.length ⟨2,q,prI rs q⟩=I6 rs (l++[q]):=by
 grind [I6,U6]
theorem a9H (h:l.length < 4):freS (I6 rs l)=l.length:=by
 unfold freS
 refine I9 (λj hj=>?_) (by rw [a3l J];exact h) ?_
 ·rw [a2q hj];rfl
 ·rw [a56 (Nat.le_refl _) h];rfl
theorem b8q (h:l.length<=4) (hq:∀j,j < l.length→l.getD j default≠q):r9 (I6 rs l) q=-1:=by
 unfold r9
 refine a0s (i:=4) (λj hj=>?_) (by rw [a3l h];exact Nat.le_refl _)
 rw [← Bool.not_eq_true,a2n]
 rcases Nat.lt_or_ge j l.length with g | g
 ·rw [a2q g];exact λe=>hq j g e.2
 ·rw [a56 g hj];exact λe=>e.1 Z
theorem b8r (h:l.length < 4) (hj:j < l.length) (hd:∀i,i < j→l.getD i default≠l.getD j default):r9 (U6 rs l q) (l.getD j default)=j:=by
 grind [r9,I9,b3B,a2n,b2e]
theorem b3C (h:l.length < 4):bstS (U6 rs l q) true=l.length:=by
 have hl:(U6 rs l q).length=4:=b3B h
 have hneg:¬ G0 (U6 rs l q) true 4 < 0:=by
  grind [b3u,b2f]
 have hb:=@a2m (U6 rs l q) true 4
 have h1:=a5V (sl:=U6 rs l q) (most:=true) 4 J
 unfold bstS
 rw [hl]
 rcases Nat.lt_trichotomy (G0 (U6 rs l q) true 4).toNat l.length with g | g | g
 ·rw [b2e g] at h1;exact absurd h1 (by show ¬ (2:Int)=1;decide)
 ·omega
 ·rw [c0M g J] at h1;exact absurd h1 (by show ¬ (0:Int)=1;decide)
theorem b5v {α:Type} {f:α→Nat} {x:α}:∀{l:List α},x∈l→f x<=(l.map f).sum
 | y :: l,h=>by
  rw [List.map_cons,List.sum_cons]
  rcases List.mem_cons.mp h with rfl | h
  ·omega
  ·have:=b5v (f:=f) h;omega
theorem b6N (h:l.length < 4) (hq:∀j,j < l.length→l.getD j default≠q):a77 (a55 rs l) q (prI rs q)=⟨16,l,⟨U6 rs l q,[]⟩⟩:=by
 have h1:a74 (a55 rs l).qu q (prI rs q)=⟨I6 rs l,[⟨q,prI rs q⟩]⟩:=by
  unfold a74
  rw [if_neg (by show ¬ 0<=r9 (I6 rs l) q;rw [b8q J hq];decide),if_neg (by have:=@c4x ([]:List Wtr) q;show ¬ 0<=inW [] q;simp at this;omega)]
  rfl
 have h2:setd ⟨I6 rs l,[⟨q,prI rs q⟩]⟩=false:=b8a (by show ¬ 1=0;decide) (by show 0<=freS (I6 rs l);rw [a9H h];omega)
 have h3:stQ ⟨I6 rs l,[⟨q,prI rs q⟩]⟩=⟨U6 rs l q,[]⟩:=by
  rw [p7 (by show 0<=freS (I6 rs l);rw [a9H h];omega)]
  show (⟨(I6 rs l).set (freS (I6 rs l)).toNat ⟨1,q,prI rs q⟩,[]⟩:Que)=_
  rw [a9H h,Int.toNat_natCast,b8o h]
 have h4:a1L ⟨I6 rs l,[⟨q,prI rs q⟩]⟩=⟨U6 rs l q,[]⟩:=by
  unfold a1L
  have hp:0 < phi ⟨I6 rs l,[⟨q,prI rs q⟩]⟩:=by
   have hm:zSl∈I6 rs l:=p4.mpr ⟨l.length,by rw [a3l J];exact h,a56 (Nat.le_refl _) h⟩
   have:wtS zSl<=((I6 rs l).map wtS).sum:=b5v hm
   have e:wtS zSl=2000:=rfl
   show 0 < ((I6 rs l).map wtS).sum
   omega
  obtain ⟨n,hn⟩:∃n,phi ⟨I6 rs l,[⟨q,prI rs q⟩]⟩=n+1:=⟨_,(Nat.sub_add_cancel hp).symm⟩
  rw [hn]
  unfold a61
  rw [h2]
  simp only [Bool.false_eq_true,if_false]
  rw [h3]
  rfl
 unfold a77 a3j
 rw [h1,h4]
 rfl
theorem c0O (h:l.length < 4) (hd:∀i j,i < j→j < l.length→l.getD i default≠l.getD j default):b0r ⟨16,l,⟨U6 rs l q,[]⟩⟩=if l.length=0 then 16 else prI rs (l.getD (l.length - 1) default):=by
 grind [b0r,lvl,b8r,b2e]
theorem b8s (h:l.length < 4):a4U ⟨16,l,⟨U6 rs l q,[]⟩⟩=a55 rs (l++[q]):=by
 grind [a4U,a55,b2c,tkS,tkI,b3C,b2f,b8p]
theorem c4D (h:l.length<=4) (hr:∀j,j < l.length→(0<=l.getD j default/\l.getD j default<=7)/\0<=prI rs (l.getD j default)/\prI rs (l.getD j default)<=15) (hd:∀i j,i < j→j < l.length→l.getD i default≠l.getD j default):IfF (a55 rs l):=by
 have key:∀i,i < 4→((I6 rs l).getD i default).s≠0→i < l.length:=λi hi h0=>by
  rcases Nat.lt_or_ge i l.length with g | g
  ·exact g
  ·rw [a56 g hi] at h0;exact absurd Z h0
 refine ⟨⟨⟨a3l h,λi hi h0=>?_,λi hi h0=>?_,λi j hij hj h1 h2=>?_⟩,Nat.zero_le _,λw hw=>(by cases hw),List.Pairwise.nil⟩,h,λq hq=>?_⟩
 ·show (I6 rs l).getD i default=zSl
  have h0:((I6 rs l).getD i default).s=0:=h0
  rcases Nat.lt_or_ge i l.length with g | g
  ·rw [a2q g] at h0;exact absurd h0 (by show ¬ (2:Int)=0;decide)
  ·exact a56 g hi
 ·grind [a55,a2q]
 ·have g1:=key i J h1
  have g2:=key j hj h2
  show ((I6 rs l).getD i default).q≠((I6 rs l).getD j default).q
  rw [a2q g1,a2q g2]
  exact hd i j hij g2
 ·obtain ⟨i,hi,rfl⟩:=p4.mp hq
  have hi:i < l.length:=hi
  refine ⟨⟨l.getD i default,prI rs (l.getD i default)⟩,G9.mpr ⟨⟨2,l.getD i default,prI rs (l.getD i default)⟩,p4.mpr ⟨i,by show i < (I6 rs l).length;rw [a3l h];omega,a2q hi⟩,Z,Z⟩,Z⟩
end
section
variable {rs:List Route} {po:List Bool} {k:Nat} {x:Ifc}
end
structure StkF (rs:List Route) (l:List Int):Prop where
 n:l.length<=4
 el:∀j,j < l.length→(0<=l.getD j default/\l.getD j default<=7)/\0<=prI rs (l.getD j default)/\prI rs (l.getD j default)<=15
 dn:∀j,0 < j→j < l.length→prI rs (l.getD j default) < prI rs (l.getD (j - 1) default)
theorem StkF.lt (h:StkF rs l) {i:Nat}:∀{j:Nat},i < j→j < l.length→prI rs (l.getD j default) < prI rs (l.getD i default)
 | j+1,hij,hj=>by
  have:=h.dn (j+1) J hj
  by_cases e:i=j
  ·subst e;exact this
  ·have:=StkF.lt h (show i < j by omega) J
   grind
theorem StkF.dif (h:StkF rs l) {i j:Nat} (hij:i < j) (hj:j < l.length):l.getD i default≠l.getD j default:=λe=>by
 have:=h.lt hij hj
 rw [e] at this
 omega
theorem StkF.take (h:StkF rs l) {n:Nat} (hn:n<=l.length):IfF (a55 rs (l.take n)):=by
 have hl:(l.take n).length=n:=by rw [List.length_take];omega
 have hg:∀j,j < n→(l.take n).getD j default=l.getD j default:=λj hj=>a60 hj
 refine c4D (by rw [hl];have:=h.n;omega) (λj hj=>?_) (λi j hij hj=>?_)
 ·rw [hg j J];exact h.el j J
 ·rw [hg i J,hg j J];exact h.dif hij J
theorem StkF.step (h:StkF rs l) {i:Nat} (hi:i < l.length) :
 IfF (a77 (a55 rs (l.take i)) (l.getD i default) (prI rs (l.getD i default)))/\(a77 (a55 rs (l.take i)) (l.getD i default) (prI rs (l.getD i default))).st.length < 4 /\
 a2p (a77 (a55 rs (l.take i)) (l.getD i default) (prI rs (l.getD i default))).qu.sl (min (a77 (a55 rs (l.take i)) (l.getD i default) (prI rs (l.getD i default))).ma (b0r (a77 (a55 rs (l.take i)) (l.getD i default) (prI rs (l.getD i default)))))=true /\
 a4U (a77 (a55 rs (l.take i)) (l.getD i default) (prI rs (l.getD i default)))=a55 rs (l.take (i+1)):=by
 have hn:=h.n
 have hl:(l.take i).length=i:=by rw [List.length_take];omega
 have hg:∀j,j < i→(l.take i).getD j default=l.getD j default:=λj hj=>a60 hj
 have hr:=b6N (rs:=rs) (l:=l.take i) (q:=l.getD i default) J (λj hj=>by rw [hg j J];exact h.dif J hi)
 refine ⟨b8n (h.take J) (h.el i hi).1 (h.el i hi).2,?_,?_,?_⟩
 ·grind
 ·rw [hr,c0O J (λa b hab hb=>by rw [hg a J,hg b J];exact h.dif hab J)]
  rw [X2]
  show 0<=bstS (U6 rs (l.take i) (l.getD i default)) true/\((U6 rs (l.take i) (l.getD i default)).getD (bstS (U6 rs (l.take i) (l.getD i default)) true).toNat default).p < min 16 _
  rw [b3C J,Int.toNat_natCast,b2f]
  have h15:=(h.el i hi).2.2
  refine ⟨by omega,?_⟩
  show prI rs (l.getD i default) < _
  rw [hl]
  split
  ·omega
  ·next h0 =>
   rw [hg (i - 1) J]
   have:=h.dn i J hi
   omega
 ·rw [hr,b8s J]
  simp_all
end Go.Rf
namespace Go.Rf
section
variable {q:Que} {irq p lim:Int} {x:Ifc}
theorem b8t (h:0<=r9 q.sl irq):a74 q irq p=⟨ptS q.sl irq,q.wa⟩:=by unfold a74;rw [if_pos h]
theorem b8u (h:r9 q.sl irq < 0) (h2:inW q.wa irq < 0):a74 q irq p=⟨q.sl,insW q.wa ⟨irq,p⟩⟩:=by unfold a74;rw [if_neg J,if_neg J]
theorem b8v (h:r9 q.sl irq < 0) (h2:0<=inW q.wa irq):a74 q irq p=q:=by unfold a74;rw [if_neg J,if_pos h2]
def b2g (q:Que) (lim:Int):Que×Int×Bool:=if a2p q.sl lim then (b2c q,tkI q.sl,true) else (⟨[],[]⟩,0,false)
theorem b4G (h:a2p q.sl lim=true):b2g q lim=(b2c q,tkI q.sl,true):=by unfold b2g;rw [h];rfl
theorem b8w (h:a2p q.sl lim=false):b2g q lim=(⟨[],[]⟩,0,false):=by unfold b2g;rw [h];rfl
theorem c1W {sl:List Slot}:(tkT sl lim).2.2=a2p sl lim:=by
 cases h:a2p sl lim
 ·rw [b8e h]
 ·rw [b5m h]
theorem b8x:(b2g q lim).2.2=a2p q.sl lim:=by
 cases h:a2p q.sl lim
 ·rw [b8w h]
 ·rw [b4G h]
def c0P (x:Ifc):Int:=min x.ma (b0r x)
def okT (x:Ifc):Bool:=a2p x.qu.sl (c0P x)
def noI:Ifc:=⟨0,[],⟨[],[]⟩⟩
def R1 (x:Ifc):Ifc×Int×Bool:=if okT x then (a4U x,tkI x.qu.sl,true) else (noI,0,false)
theorem b5w (h:okT x=true):R1 x=(a4U x,tkI x.qu.sl,true):=by unfold R1;rw [h];rfl
theorem b5x (h:okT x=false):R1 x=(noI,0,false):=by unfold R1;rw [h];rfl
theorem b8y {sl:List Slot} (h:SlF sl) (hb:0<=bstS sl true):0<=tkI sl/\tkI sl<=7:=by
 obtain ⟨k,e1,e2,e3⟩:=a0l hb
 unfold tkI
 rw [e1,Int.toNat_natCast]
 exact (h.ok k (by rw [← h.len];exact e2) J).2.1
theorem c1X {sl:List Slot} (h:(sl.getD (r9 sl irq).toNat default).s=2):ptS sl irq=sl.set (r9 sl irq).toNat ⟨3,(sl.getD (r9 sl irq).toNat default).q,(sl.getD (r9 sl irq).toNat default).p⟩:=by unfold ptS;rw [if_pos h]
theorem c1Y {sl:List Slot} (h:¬ (sl.getD (r9 sl irq).toNat default).s=2):ptS sl irq=sl.set (r9 sl irq).toNat ⟨(sl.getD (r9 sl irq).toNat default).s,(sl.getD (r9 sl irq).toNat default).q,(sl.getD (r9 sl irq).toNat default).p⟩:=by unfold ptS;rw [if_neg h]
end
end Go.Rf
namespace Go.Rf
open Go
end Go.Rf
namespace Go.Rf
end Go.Rf
namespace Go.Rf
open Go
variable {l:List Wtr} {x:Wtr}
def srtW (l:List Wtr):List Wtr:=l.foldl insW []
def b3D (l:List Wtr):Prop:=l.Pairwise (λa b=>a.q≠b.q)
theorem b1d:srtW (l++[x])=insW (srtW l) x:=by simp [srtW,List.foldl_append]
theorem b1e:∀{l acc:List Wtr},x∈l.foldl insW acc↔x∈acc∨x∈l
 | [],acc=>by simp
 | y :: l,acc=>by
  rw [List.foldl_cons,b1e,a50,List.mem_cons]
  grind
theorem b1f:∀{l acc:List Wtr},(l.foldl insW acc).length=acc.length+l.length
 | [],acc=>by simp
 | y :: l,acc=>by rw [List.foldl_cons,b1f,a5W,List.length_cons];omega
theorem b3E:∀{l acc:List Wtr},acc.Pairwise ltW→b3D l→(∀a∈acc,∀b∈l,a.q≠b.q)→(l.foldl insW acc).Pairwise ltW
 | [],acc,h,_,_=>h
 | y :: l,acc,h,hd,hx=>by
  obtain ⟨h1,h2⟩:=List.pairwise_cons.mp hd
  rw [List.foldl_cons]
  refine b3E (b2a h λa ha=>hx a ha y (by simp)) h2 λa ha b hb=>?_
  rcases a50.mp ha with rfl | ha
  ·exact h1 b hb
  ·exact hx a ha b (by simp [hb])
theorem b3F:(srtW l).length=l.length:=by unfold srtW;rw [b1f];simp
theorem b3G:x∈srtW l↔x∈l:=by unfold srtW;rw [b1e];simp
theorem c0Q (h:b3D l):(srtW l).Pairwise ltW:=b3E List.Pairwise.nil h (λa ha=>by cases ha)
theorem b8z {acc:List Wtr} {w:Wtr} (h:∀a∈acc,lessW a w=true):insW acc w=acc++[w]:=by
 rw [a5X (i:=acc.length) (λj hj=>h _ (p4.mpr ⟨j,hj,Z⟩)) (Nat.le_refl _) (.inl Z)]
 simp
theorem a57:∀{l acc:List Wtr},(acc++l).Pairwise ltW→l.foldl insW acc=acc++l
 | [],acc,_=>by simp
 | y :: l,acc,h=>by
  rw [List.foldl_cons,b8z (λa ha=>((List.pairwise_append.mp h).2.2 a ha y (by simp)).1)]
  rw [a57 (by simpa using h)]
  simp
theorem b3H (h:l.Pairwise ltW):srtW l=l:=by unfold srtW;rw [a57 (by simpa using h)];rfl
def a2r (P:List Wtr) (x:Wtr) (R:List Wtr) (j:Nat):List Wtr:=P.take j++x :: (P.drop j++R)
section
variable {P R:List Wtr} {x:Wtr} {j:Nat}
theorem a3m (h:j<=P.length):(a2r P x R j).length=P.length+1+R.length:=by
 unfold a2r
 simp
 omega
theorem c0R (h:j<=P.length):(a2r P x R j).getD j default=x:=by
 grind [a2r]
theorem b8A {t:Nat} (h:t < j) (hj:j<=P.length):(a2r P x R j).getD t default=P.getD t default:=by
 unfold a2r
 grind
theorem b8B:a2r P x R P.length=P++x :: R:=by unfold a2r;simp
theorem b6O {β:Type} {f:Wtr→β} (h0:0 < j) (hj:j<=P.length):(((a2r P x R j).map f).set j (f (P.getD (j - 1) default))).set (j - 1) (f x)=(a2r P x R (j - 1)).map f:=by
 have hlt:j - 1 < P.length:=by omega
 have h1:P.take j=P.take (j - 1)++[P.getD (j - 1) default]:=by
  (simp_all;omega)
 have h2:P.drop (j - 1)=P.getD (j - 1) default :: P.drop j:=by
  rw [List.drop_eq_getElem_cons hlt,show j - 1+1=j by omega,List.getD_eq_getElem?_getD,List.getElem?_eq_getElem hlt]
  rfl
 rw [← List.map_set,← List.map_set]
 congr 1
 unfold a2r
 grind
theorem b3I (hj:j<=P.length) (hs:P.Pairwise ltW) (hd:∀p∈P,p.q≠x.q) (h1:∀t,j<=t→t < P.length→lessW x (P.getD t default)=true) (h2:j=0∨lessW x (P.getD (j - 1) default)=false):a2r P x R j=insW P x++R:=by
 have hp:=a5Y.mp hs
 have hh:∀t,t < j→lessW (P.getD t default) x=true:=λt ht=>by
  have hl:lessW (P.getD (j - 1) default) x=true:=by
   grind [a3Z]
  rcases Nat.lt_or_ge t (j - 1) with g | g
  ·exact a3f (hp t (j - 1) g J).1 hl
  grind
 have he:j=P.length∨(j < P.length/\lessW (P.getD j default) x=false):=by
  grind [b4w]
 rw [a5X hh hj he]
 unfold a2r;simp
end
def a78 (d:List Wtr) (i:Nat):List Wtr:=srtW (d.take i)++d.drop i
section
variable {d:List Wtr} {i:Nat}
theorem c4E (h:0 < d.length):a78 d 1=d:=by
 match d,h with
 | x :: d,_=>simp [a78,srtW,insW,b4C]
theorem c4F (h:d.length=0):a78 d 1=d:=by
 match d,h with
 | [],_=>rfl
theorem c4G:a78 d 1=d:=by
 grind [c4F,c4E]
theorem b8C (h:d.length<=i):a78 d i=srtW d:=by unfold a78;rw [List.take_of_length_le h,List.drop_of_length_le h,List.append_nil]
theorem b8D (h:i < d.length):a78 d i=a2r (srtW (d.take i)) (d.getD i default) (d.drop (i+1)) i:=by
 have hl:(srtW (d.take i)).length=i:=by rw [b3F,List.length_take];omega
 conv=>rhs;rw [← hl]
 unfold a78
 rw [hl]
 have e:=@b8B (srtW (d.take i)) (d.drop (i+1)) (d.getD i default)
 simp_all
theorem b1g (h:i < d.length):a78 d (i+1)=insW (srtW (d.take i)) (d.getD i default)++d.drop (i+1):=by
 unfold a78
 rw [List.take_add_one,List.getElem?_eq_getElem h,List.getD_eq_getElem?_getD,List.getElem?_eq_getElem h]
 show srtW (d.take i++[d[i]])++_=_
 rw [b1d]
 rfl
structure MovF (d:List Wtr) (i:Nat):Prop where
 len:(srtW (d.take i)).length=i
 pw:(srtW (d.take i)).Pairwise ltW
 dif:∀p∈srtW (d.take i),p.q≠(d.getD i default).q
theorem c8s (hd:b3D d) (h:i < d.length):MovF d i:=by
 refine ⟨by rw [b3F,List.length_take];omega,c0Q (List.Pairwise.sublist (List.take_sublist _ _) hd),λp hp=>?_⟩
 obtain ⟨t,ht,rfl⟩:=p4.mp (b3G.mp hp)
 rw [List.length_take] at ht
 rw [a60 J]
 exact (a5Y.mp hd) t i J h
end
def pnP (x:Slot):Bool:=decide (x.s=1) || decide (x.s=3)
theorem a32 {x:Slot}:pnP x=true↔x.s=1∨x.s=3:=by simp [pnP]
def pnL (q:Que):Nat→List Wtr
 | 0=>q.wa
 | i+1=>if pnP (q.sl.getD i default) then pnL q i++[wOf (q.sl.getD i default)] else pnL q i
def pnS (q:Que):Nat→List Wtr
 | 0=>q.wa
 | i+1=>if pnP (q.sl.getD i default) then insW (pnS q i) (wOf (q.sl.getD i default)) else pnS q i
section
variable {q:Que} {i:Nat}
theorem b8E (h:(q.sl.getD i default).s=1∨(q.sl.getD i default).s=3):pnL q (i+1)=pnL q i++[wOf (q.sl.getD i default)]:=by
 show (if pnP _ then _ else _)=_
 rw [if_pos (a32.mpr h)]
theorem c6K (h:¬ ((q.sl.getD i default).s=1∨(q.sl.getD i default).s=3)):pnL q (i+1)=pnL q i:=by
 show (if pnP _ then _ else _)=_
 rw [if_neg (λg=>h (a32.mp g))]
theorem b1h (h:(q.sl.getD i default).s=1∨(q.sl.getD i default).s=3):pnS q (i+1)=insW (pnS q i) (wOf (q.sl.getD i default)):=by
 show (if pnP _ then _ else _)=_
 rw [if_pos (a32.mpr h)]
theorem c1Z (h:¬ ((q.sl.getD i default).s=1∨(q.sl.getD i default).s=3)):pnS q (i+1)=pnS q i:=by
 show (if pnP _ then _ else _)=_
 rw [if_neg (λg=>h (a32.mp g))]
theorem b4H (h:QF q):∀i,srtW (pnL q i)=pnS q i
 | 0=>b3H h.pw
 | i+1=>by
  have ih:=b4H h i
  show srtW (if pnP _ then _ else _)=(if pnP _ then _ else _)
  split
  ·rw [b1d,ih]
  ·exact ih
theorem b2h:∀i,(pnL q i).length<=q.wa.length+i
 | 0=>Nat.le_refl _
 | i+1=>by
  have ih:=@b2h i
  show (if pnP _ then _ else _:List Wtr).length<=_
  split
  ·rw [List.length_append,List.length_cons,List.length_nil];omega
  ·omega
theorem a58:∀i,(pnS q i).length<=q.wa.length+i
 | 0=>Nat.le_refl _
 | i+1=>by
  have ih:=@a58 i
  show (if pnP _ then _ else _:List Wtr).length<=_
  split
  ·rw [a5W];omega
  ·omega
theorem a8P:∀i,x∈pnL q i→x∈q.wa∨∃j,j < i/\(q.sl.getD j default).s≠0/\x=wOf (q.sl.getD j default)
 | 0,h=>.inl h
 | i+1,h=>by
  change x∈(if pnP _ then _ else _:List Wtr) at h
  split at h
  ·next hp =>
   rcases List.mem_append.mp h with h | h
   ·rcases a8P i h with g | ⟨j,g1,g2,g3⟩
    ·exact .inl g
    ·exact .inr ⟨j,by omega,g2,g3⟩
   ·refine .inr ⟨i,by omega,?_,List.mem_singleton.mp h⟩
    rcases a32.mp hp with g | g<;>omega
  ·rcases a8P i h with g | ⟨j,g1,g2,g3⟩
   ·exact .inl g
   ·exact .inr ⟨j,by omega,g2,g3⟩
theorem b5y (h:QF q):∀i,i<=4→b3D (pnL q i)
 | 0,_=>h.pw.imp λh=>h.2
 | i+1,hi=>by
  have ih:=b5y h i J
  show b3D (if pnP _ then _ else _)
  split
  ·next hp =>
   have h0:(q.sl.getD i default).s≠0:=by rcases a32.mp hp with g | g<;>omega
   refine List.pairwise_append.mpr ⟨ih,List.pairwise_singleton _ _,λa ha b hb=>?_⟩
   rw [List.mem_singleton.mp hb]
   show a.q≠(q.sl.getD i default).q
   rcases a8P i ha with g | ⟨j,g1,g2,rfl⟩
   ·exact λe=>(h.wa a g).2.2 _ (p4.mpr ⟨i,by rw [h.sl.len];omega,Z⟩) h0 e.symm
   ·exact h.sl.dif j i g1 J g2 h0
  ·exact ih
theorem c0S (h:QF q) {x:Wtr}:x∈pnS q i↔x∈pnL q i:=by rw [← b4H h,b3G]
theorem c6L (h:QF q) {x:Wtr} (hi:i<=4) (hx:x∈pnL q i):0<=x.q/\x.q<=7:=by
 rcases a8P i hx with g | ⟨j,g1,g2,rfl⟩
 ·exact (h.wa x g).1
 ·exact (h.sl.ok j J g2).2.1
end
def A6 (q:Que):List Int:=(pnS q 4).map (·.q)
theorem b2i {q:Que} (h:QF q) {i:Nat} (hi:i < (A6 q).length):0<=(A6 q).getD i default/\(A6 q).getD i default<=7:=by
 unfold A6 at hi ⊢
 rw [List.length_map] at hi
 rw [a1M hi]
 exact c6L h (Nat.le_refl _) ((c0S h).mp (p4.mpr ⟨i,hi,Z⟩))
theorem a1N {q:Que} (h:QF q):(A6 q).length<=12:=by
 unfold A6
 rw [List.length_map]
 have:=@a58 q 4
 have:=h.wn8
 omega
end Go.Rf
namespace Go.Rf
section
variable {P R:List Wtr} {x:Wtr} {j:Nat} {β:Type} {f:Wtr→β} {c:β}
theorem c0T {α:Type} [Inhabited α] {g:α→β} {l:List α} {i:Nat} (h:i < l.length):(l.map g)[i]?=some (g (l.getD i default)):=by
 grind
theorem X3 (h:j<=P.length):((a2r P x R j).map f)[((j:Int)).toNat]?=some (f x):=by
 grind [a3m,c0R]
theorem a0c (h0:0 < j) (h:j<=P.length):((a2r P x R j).map f)[((j:Int) - 1).toNat]?=some (f (P.getD (j - 1) default)):=by
 rw [show ((j:Int) - 1).toNat=j - 1 by omega]
 rw [c0T (by rw [a3m h];omega),b8A J h]
theorem a0Y (h0:0 < j) (h:j<=P.length):(((a2r P x R j).map f).set ((j:Int)).toNat c)[((j:Int) - 1).toNat]?=some (f (P.getD (j - 1) default)):=by
 rw [← a0c (f:=f) (x:=x) (R:=R) h0 h]
 show (((a2r P x R j).map f).set j c)[((j:Int) - 1).toNat]?=_
 rw [List.getElem?_set_ne J]
end
variable {i:Nat}
theorem b1i {α β:Type} [Inhabited α] {f:α→β} {l:List α} {i:Nat} {y:β} (h:i < l.length) (hy:y=f (l.getD i default)):(l.take i).map f++[y]=(l.take (i+1)).map f:=by
 subst hy
 rw [List.take_add_one,List.getElem?_eq_getElem h,List.map_append,List.getD_eq_getElem?_getD,List.getElem?_eq_getElem h]
 rfl
theorem c4H {q:Que} (h:i < (pnS q 4).length):(A6 q).getD i default=((pnS q 4).getD i default).q:=by unfold A6;rw [a1M h]
theorem b5z {q:Que}:(A6 q).length=(pnS q 4).length:=by unfold A6;rw [List.length_map]
theorem b8F {q:Que} (h:i < (pnS q 4).length):((A6 q).take i).map n8++[[Value.int .i64 ((pnS q 4).getD i default).q]]=((A6 q).take (i+1)).map n8:=b1i (by rw [b5z];exact h) (by rw [c4H h];rfl)
theorem b5A {q:Que} (h:(pnS q 4).length<=i):(A6 q).take i=A6 q:=List.take_of_length_le (by rw [b5z];exact h)
end Go.Rf
namespace Go.Rf
open Go
variable {l:List Int} {n x:Int} {w:Wtr}
theorem a33 {a b:List Int}:srtI a=srtI b↔a.Perm b:=by
 constructor
 ·intro h
  exact (a3W a).symm.trans (h▸a3W b)
 ·intro h
  have hp:∀l:List Int,(srtI l).Pairwise (λx y=>decide (x<=y)=true):=λl=>List.pairwise_mergeSort (λa b c h1 h2=>by simp at *;omega) (λa b=>by simp;omega) l
  exact List.Perm.eq_of_pairwise (λx y _ _ h1 h2=>by simp at *;omega) (hp a) (hp b) ((a3W a).trans (h.trans (a3W b).symm))
theorem b5B {α:Type} [BEq α] [LawfulBEq α]:∀{a b:List α},a.Nodup→(∀x∈a,x∈b)→b.length<=a.length→a.Perm b
 | [],b,_,_,hl=>by
  have:b=[]:=List.eq_nil_of_length_eq_zero (by simpa using hl)
  rw [this]
 | x :: a,b,hn,hs,hl=>by
  obtain ⟨h1,h2⟩:=List.nodup_cons.mp hn
  have hx:x∈b:=hs x (by simp)
  refine List.Perm.trans ?_ (List.perm_cons_erase hx).symm
  refine List.Perm.cons x (b5B h2 (λy hy=>?_) ?_)
  ·have hne:y≠x:=λe=>h1 (e▸hy)
   exact (List.mem_erase_of_ne hne).mpr (hs y (by simp [hy]))
  ·rw [List.length_erase_of_mem hx]
   simp only [List.length_cons] at hl
   omega
def actN (sl:List Slot):Nat→List Int
 | 0=>[]
 | i+1=>if a0b (sl.getD i default) then actN sl i++[(sl.getD i default).q] else actN sl i
def b2j (l:List Int) (n:Int):List Int:=l.takeWhile (λx=>decide (x < n))++[n]++l.dropWhile (λx=>decide (x < n))
def a66 (sl:List Slot):Nat→List Int
 | 0=>[]
 | i+1=>if a0b (sl.getD i default) then b2j (a66 sl i) (sl.getD i default).q else a66 sl i
section
variable {sl:List Slot} {i:Nat}
theorem c4I (h:a0b (sl.getD i default)=true):actN sl (i+1)=actN sl i++[(sl.getD i default).q]:=by show (if _ then _ else _)=_;rw [if_pos h]
theorem c4J (h:a0b (sl.getD i default)=false):actN sl (i+1)=actN sl i:=by show (if _ then _ else _)=_;rw [if_neg (by rw [h];decide)]
theorem b8G (h:(sl.getD i default).s=2∨(sl.getD i default).s=3):a66 sl (i+1)=b2j (a66 sl i) (sl.getD i default).q:=by show (if _ then _ else _)=_;rw [if_pos (u9.mpr h)]
theorem b8H (h:¬ ((sl.getD i default).s=2∨(sl.getD i default).s=3)):a66 sl (i+1)=a66 sl i:=by show (if _ then _ else _)=_;rw [if_neg (λg=>h (u9.mp g))]
theorem X4:∀i,(actN sl i).length<=i
 | 0=>Nat.le_refl _
 | i+1=>by
  have ih:=@X4 i
  show (if _ then _ else _:List Int).length<=_
  split
  ·rw [List.length_append,List.length_cons,List.length_nil];omega
  ·omega
theorem b8I:x∈b2j l n↔x=n∨x∈l:=by
 have h:=List.takeWhile_append_dropWhile (p:=λx=>decide (x < n)) (l:=l)
 have:x∈l↔x∈l.takeWhile (λx=>decide (x < n))∨x∈l.dropWhile (λx=>decide (x < n)):=by
  grind
 unfold b2j
 grind
theorem b8J:(b2j l n).length=l.length+1:=by
 have h:=congrArg List.length (List.takeWhile_append_dropWhile (p:=λx=>decide (x < n)) (l:=l))
 unfold b2j
 grind
theorem c0U {k:Nat} (h:∀j,j < k→l.getD j default < n) (hk:k<=l.length) (he:k=l.length∨(k < l.length/\¬ l.getD k default < n)):b2j l n=l.take k++[n]++l.drop k:=by
 have key:l.takeWhile (λx=>decide (x < n))=l.take k/\l.dropWhile (λx=>decide (x < n))=l.drop k:=by
  induction l generalizing k with
  | nil=>simp at hk;subst hk;exact ⟨Z,Z⟩
  | cons x l ih =>
   cases k with
   | zero =>
    rcases he with he | ⟨_,he⟩
    ·simp at he
    ·have he:¬ x < n:=he
     simp [he]
   | succ k =>
    have h0:x < n:=h 0 J
    obtain ⟨e1,e2⟩:=ih (k:=k) (λj hj=>by simpa using h (j+1) J) (by simpa using hk) (by
     rcases he with he | ⟨g1,g2⟩
     ·left;simpa using he
     ·right;exact ⟨by simpa using g1,by simpa using g2⟩)
    simp [h0,e1,e2]
 unfold b2j
 rw [key.1,key.2]
theorem a6a {x:Int}:∀i,x∈a66 sl i↔x∈actN sl i
 | 0=>Iff.rfl
 | i+1=>by
  have ih:=@a6a x i
  show x∈(if _ then _ else _:List Int)↔x∈(if _ then _ else _:List Int)
  split
  ·rw [b8I,List.mem_append,List.mem_singleton,ih];exact Or.comm
  ·exact ih
theorem a6b:∀i,(a66 sl i).length=(actN sl i).length
 | 0=>rfl
 | i+1=>by
  have ih:=@a6b i
  show (if _ then _ else _:List Int).length=(if _ then _ else _:List Int).length
  split
  ·rw [b8J,List.length_append,ih];rfl
  ·exact ih
theorem H0 {x:Int}:∀i,x∈actN sl i↔∃j,j < i/\a0b (sl.getD j default)=true/\(sl.getD j default).q=x
 | 0=>by simp [actN]
 | i+1=>by
  have ih:=@H0 x i
  show x∈(if _ then _ else _:List Int)↔_
  split
  ·next h =>
   rw [List.mem_append,List.mem_singleton,ih]
   constructor
   ·rintro (⟨j,h1,h2⟩ | rfl)
    ·exact ⟨j,by omega,h2⟩
    ·exact ⟨i,by omega,h,Z⟩
   ·rintro ⟨j,h1,h2,h3⟩
    by_cases e:j=i
    ·subst e;exact .inr h3.symm
    ·exact .inl ⟨j,by omega,h2,h3⟩
  ·next h =>
   rw [ih]
   constructor
   ·rintro ⟨j,h1,h2⟩;exact ⟨j,by omega,h2⟩
   ·rintro ⟨j,h1,h2,h3⟩
    by_cases e:j=i
    ·subst e;exact absurd h2 h
    ·exact ⟨j,by omega,h2,h3⟩
theorem b2k (h:SlF sl):∀i,i<=4→(actN sl i).Nodup
 | 0,_=>List.nodup_nil
 | i+1,hi=>by
  have ih:=b2k h i J
  show (if _ then _ else _:List Int).Nodup
  split
  ·next ha =>
   refine List.nodup_append.mpr ⟨ih,List.nodup_cons.mpr ⟨by simp,List.nodup_nil⟩,λx hx y hy e=>?_⟩
   rw [List.mem_singleton.mp hy] at e
   obtain ⟨j,h1,h2,h3⟩:=(H0 i).mp hx
   refine h.dif j i h1 J ?_ ?_ (h3.trans e)
   ·rcases u9.mp h2 with g | g<;>omega
   ·rcases u9.mp ha with g | g<;>omega
  ·exact ih
theorem c0V (h:SlF sl) (hi:i < 4) (ha:a0b (sl.getD i default)=true) {x:Int} (hx:x∈a66 sl i):x≠(sl.getD i default).q:=λe=>by
 obtain ⟨j,h1,h2,h3⟩:=(H0 i).mp ((a6a i).mp hx)
 refine h.dif j i h1 hi ?_ ?_ (h3.trans e)
 ·rcases u9.mp h2 with g | g<;>omega
 ·rcases u9.mp ha with g | g<;>omega
end
def lvD (sl:List Slot) (st:List Int) (i:Nat):Bool:=decide (i=0) || decide (lvl sl (st.getD i default) < lvl sl (st.getD (i - 1) default))
def a6c (sl:List Slot) (st:List Int):Bool:=decide (srtI st=srtI (actN sl 4)) && a09 st.length (lvD sl st)
def a3n (x:Ifc):Bool:=m3 x.ma 0 16 && (b0q x.qu && a6c x.qu.sl x.st)
section
variable {sl:List Slot} {st:List Int} {i:Nat}
theorem b2l (h:¬ srtI st=srtI (actN sl 4)):a6c sl st=false:=by unfold a6c;rw [decide_eq_false h,Bool.false_and]
theorem b8K (h:lvD sl st i=false) (hi:i < st.length):a6c sl st=false:=by unfold a6c;rw [a0r h hi,Bool.and_false]
theorem b8L (h:srtI st=srtI (actN sl 4)) (h2:∀j,j < i→lvD sl st j=true) (hi:st.length<=i):a6c sl st=true:=by unfold a6c;rw [decide_eq_true h,a17 h2 hi];rfl
theorem c10:lvD sl st 0=true:=rfl
theorem c11 (h:lvl sl (st.getD i default) < lvl sl (st.getD (i - 1) default)):lvD sl st i=true:=by unfold lvD;rw [decide_eq_true h,Bool.or_true]
theorem c12 (h0:i≠0) (h:¬ lvl sl (st.getD i default) < lvl sl (st.getD (i - 1) default)):lvD sl st i=false:=by unfold lvD;rw [decide_eq_false h,decide_eq_false h0];rfl
theorem b4I (h:x∈actN sl 4) (hl:sl.length=4):0<=r9 sl x:=by
 obtain ⟨j,h1,h2,h3⟩:=(H0 4).mp h
 refine a54 ⟨wOf (sl.getD j default),G9.mpr ⟨sl.getD j default,p4.mpr ⟨j,by omega,Z⟩,h2,Z⟩,h3⟩
theorem b4J (h:srtI st=srtI (actN sl 4)) {x:Int} (hx:x∈st):x∈actN sl 4:=(a33.mp h).mem_iff.mp hx
structure StP (sl:List Slot) (st:List Int) (i:Nat):Prop where
 inn:∀j,j < i→st.getD j default∈actN sl 4
 dif:∀k j,k < j→j < i→st.getD k default≠st.getD j default
 lev:∀j,j < i→lvD sl st j=true
theorem c6M:StP sl st 0:=⟨λj h=>by omega,λk j _ h=>by omega,λj h=>by omega⟩
theorem StP.succ (h:StP sl st i) (h1:st.getD i default∈actN sl 4) (h2:∀k,k < i→st.getD k default≠st.getD i default) (h3:lvD sl st i=true):StP sl st (i+1):=by
 refine ⟨λj hj=>?_,λk j hk hj=>?_,λj hj=>?_⟩
 ·by_cases e:j=i
  ·subst e;exact h1
  ·exact h.inn j J
 ·by_cases e:j=i
  ·subst e;exact h2 k hk
  ·exact h.dif k j hk J
 ·by_cases e:j=i
  ·subst e;exact h3
  ·exact h.lev j J
theorem b2m:l.Nodup↔∀k j,k < j→j < l.length→l.getD k default≠l.getD j default:=a5Y
theorem StP.fin (hF:SlF sl) (h:StP sl st st.length):a6c sl st=decide (st.length=(actN sl 4).length):=by
 by_cases hl:st.length=(actN sl 4).length
 ·rw [decide_eq_true hl]
  have hn:st.Nodup:=b2m.mpr h.dif
  have hp:=b5B hn (λx hx=>by obtain ⟨j,hj,rfl⟩:=p4.mp hx;exact h.inn j hj) J
  exact b8L (a33.mpr hp) h.lev (Nat.le_refl _)
 ·rw [decide_eq_false hl]
  exact b2l λe=>hl (a33.mp e).length_eq
theorem c0W (hi:i < st.length) (h:¬ st.getD i default∈actN sl 4):a6c sl st=false:=b2l λe=>h (b4J e (p4.mpr ⟨i,hi,Z⟩))
theorem b8M (hF:SlF sl) {k:Nat} (hk:k < i) (hi:i < st.length) (h:st.getD k default=st.getD i default):a6c sl st=false:=b2l λe=>by
 have hn:st.Nodup:=(a33.mp e).nodup_iff.mpr (b2k hF 4 (Nat.le_refl _))
 exact b2m.mp hn k i hk hi h
end
theorem b4K {x:Ifc} (h:a3n x=true):IfF x/\setd x.qu=true/\(0<=x.ma/\x.ma<=16)/\srtI x.st=srtI (actN x.qu.sl 4):=by
 simp only [a3n,a6c,Bool.and_eq_true,decide_eq_true_eq] at h
 obtain ⟨h1,h2,h3,h4⟩:=h
 obtain ⟨g1,g2⟩:=a9F.mp h2
 refine ⟨⟨g1,?_,λq hq=>?_⟩,g2,s7.mp h1,h3⟩
 ·rw [(a33.mp h3).length_eq];exact X4 4
 ·obtain ⟨j,h1,h2,h3⟩:=(H0 4).mp (b4J h3 hq)
  exact ⟨wOf (x.qu.sl.getD j default),G9.mpr ⟨_,p4.mpr ⟨j,by rw [g1.sl.len];exact h1,Z⟩,h2,Z⟩,h3⟩
def rtW (rs:List Route) (k:Nat) (w:Wtr):Bool:=decide (tgI rs w.q=k) && decide (prI rs w.q=w.p)
def rtS (rs:List Route) (k:Nat) (x:Slot):Bool:=!decide (x.s=3) && (decide (x.s=0) || rtW rs k (wOf x))
def okRq (rs:List Route) (q:Que) (k:Nat):Bool:=a09 4 (λi=>rtS rs k (q.sl.getD i default)) && a09 q.wa.length (λi=>rtW rs k (q.wa.getD i default))
def a79 (m:Mach) (k:Nat):Bool:=a3n (m.cp.getD k default) && okRq m.rs (m.cp.getD k default).qu k
def a0y (m:Mach):Bool:=okRts m.rs m.cp.length && (decide (m.en.length=8) && (decide (m.ra.length=8) && a09 m.cp.length (a79 m)))
section
variable {rs:List Route} {q:Que} {k i:Nat} {m:Mach}
theorem a34:rtW rs k w=true↔tgI rs w.q=k/\prI rs w.q=w.p:=by simp [rtW]
theorem c4K:rtW rs k w=false↔¬ (tgI rs w.q=k/\prI rs w.q=w.p):=by rw [← Bool.not_eq_true,a34]
theorem a8Q {x:Slot}:rtS rs k x=true↔x.s≠3/\(x.s=0∨(tgI rs x.q=k/\prI rs x.q=x.p)):=by
 grind [rtS,a34,wOf]
theorem b8N {x:Slot}:rtS rs k x=false↔¬ (x.s≠3/\(x.s=0∨(tgI rs x.q=k/\prI rs x.q=x.p))):=by rw [← Bool.not_eq_true,a8Q]
theorem b8O (h:rtS rs k (q.sl.getD i default)=false) (hi:i < 4):okRq rs q k=false:=by unfold okRq;rw [a0r h hi,Bool.false_and]
theorem c4L (h:rtW rs k (q.wa.getD i default)=false) (hi:i < q.wa.length):okRq rs q k=false:=by unfold okRq;rw [a0r h hi,Bool.and_false]
theorem b8P {j:Nat} (h:∀t,t < i→rtS rs k (q.sl.getD t default)=true) (hi:4<=i) (h2:∀t,t < j→rtW rs k (q.wa.getD t default)=true) (hj:q.wa.length<=j):okRq rs q k=true:=by unfold okRq;rw [a17 h hi,a17 h2 hj];rfl
theorem c4M (h:okRts m.rs m.cp.length=false):a0y m=false:=by unfold a0y;rw [h,Bool.false_and]
theorem c4N (h:¬ (m.en.length=8/\m.ra.length=8)):a0y m=false:=by
 grind [a0y]
theorem b8Q (h:a79 m k=false) (hk:k < m.cp.length):a0y m=false:=by unfold a0y;rw [a0r h hk];simp
theorem c4O (h1:okRts m.rs m.cp.length=true) (h2:m.en.length=8) (h3:m.ra.length=8) (h4:∀j,j < k→a79 m j=true) (hk:m.cp.length<=k):a0y m=true:=by unfold a0y;rw [h1,decide_eq_true h2,decide_eq_true h3,a17 h4 hk];rfl
theorem c4P (h:a3n (m.cp.getD k default)=false):a79 m k=false:=by unfold a79;rw [h,Bool.false_and]
theorem c4Q (h:okRq m.rs (m.cp.getD k default).qu k=false):a79 m k=false:=by unfold a79;rw [h,Bool.and_false]
theorem c4R (h1:a3n (m.cp.getD k default)=true) (h2:okRq m.rs (m.cp.getD k default).qu k=true):a79 m k=true:=by unfold a79;rw [h1,h2];rfl
end
def ftL (q:Que):Nat→List Wtr
 | 0=>q.wa
 | i+1=>if (q.sl.getD i default).s=0 then ftL q i else ftL q i++[wOf (q.sl.getD i default)]
section
variable {rs:List Route} {q:Que} {k i:Nat}
theorem c6N (h:(q.sl.getD i default).s=0):ftL q (i+1)=ftL q i:=by show (if _ then _ else _)=_;rw [if_pos h]
theorem c6O (h:¬ (q.sl.getD i default).s=0):ftL q (i+1)=ftL q i++[wOf (q.sl.getD i default)]:=by show (if _ then _ else _)=_;rw [if_neg h]
theorem b2n:∀i,(ftL q i).length<=q.wa.length+i
 | 0=>Nat.le_refl _
 | i+1=>by
  have ih:=@b2n i
  show (if _ then _ else _:List Wtr).length<=_
  split
  ·omega
  ·rw [List.length_append,List.length_cons,List.length_nil];omega
theorem a6d {x:Wtr}:∀i,x∈ftL q i↔x∈q.wa∨∃j,j < i/\(q.sl.getD j default).s≠0/\x=wOf (q.sl.getD j default)
 | 0=>by simp [ftL]
 | i+1=>by
  have ih:=@a6d x i
  show x∈(if _ then _ else _:List Wtr)↔_
  split
  ·next h =>
   rw [ih]
   constructor
   ·rintro (h1 | ⟨j,h1,h2⟩)
    ·exact .inl h1
    ·exact .inr ⟨j,by omega,h2⟩
   ·rintro (h1 | ⟨j,h1,h2,h3⟩)
    ·exact .inl h1
    ·by_cases e:j=i
     ·subst e;exact absurd h h2
     ·exact .inr ⟨j,by omega,h2,h3⟩
  ·next h =>
   rw [List.mem_append,List.mem_singleton,ih]
   constructor
   ·rintro ((h1 | ⟨j,h1,h2⟩) | rfl)
    ·exact .inl h1
    ·exact .inr ⟨j,by omega,h2⟩
    ·exact .inr ⟨i,by omega,h,Z⟩
   ·rintro (h1 | ⟨j,h1,h2,h3⟩)
    ·exact .inl (.inl h1)
    ·by_cases e:j=i
     ·subst e;exact .inr h3
     ·exact .inl (.inr ⟨j,by omega,h2,h3⟩)
theorem c4S (h:QF q) {x:Wtr} (hi:i<=4) (hx:x∈ftL q i):0<=x.q/\x.q<=7:=by
 rcases (a6d i).mp hx with g | ⟨j,g1,g2,rfl⟩
 ·exact (h.wa x g).1
 ·exact (h.sl.ok j J g2).2.1
theorem c6P (h3:∀j,j < 4→(q.sl.getD j default).s≠3):(!(W3 (ftL q 4).length (λi=>!rtW rs k ((ftL q 4).getD i default))))=okRq rs q k:=by
 rw [Bool.eq_iff_iff,Bool.not_eq_true',a0W]
 constructor
 ·intro h
  have hm:∀x∈ftL q 4,rtW rs k x=true:=λx hx=>by
   obtain ⟨i,hi,rfl⟩:=p4.mp hx
   simpa using h i hi
  refine b8P (i:=4) (j:=q.wa.length) (λt ht=>a8Q.mpr ⟨h3 t ht,?_⟩) (Nat.le_refl _) (λt ht=>hm _ ((a6d 4).mpr (.inl (p4.mpr ⟨t,ht,Z⟩)))) (Nat.le_refl _)
  by_cases h0:(q.sl.getD t default).s=0
  ·exact .inl h0
  ·exact .inr (a34.mp (hm _ ((a6d 4).mpr (.inr ⟨t,ht,h0,Z⟩))))
 ·intro h i hi
  have hx:(ftL q 4).getD i default∈ftL q 4:=p4.mpr ⟨i,hi,Z⟩
  simp only [okRq,Bool.and_eq_true,P7] at h
  rw [Bool.not_eq_false']
  rcases (a6d 4).mp hx with g | ⟨j,g1,g2,g3⟩
  ·obtain ⟨t,ht,e⟩:=p4.mp g
   rw [← e];exact h.2 t ht
  ·rw [g3]
   rcases (a8Q.mp (h.1 j g1)).2 with e | e
   ·exact absurd e g2
   ·exact a34.mpr e
end
end Go.Rf
namespace Go.Rf
section
variable {x:Ifc}
theorem b8R (h:m3 x.ma 0 16=false):a3n x=false:=by unfold a3n;rw [h,Bool.false_and]
theorem b8S (h:b0q x.qu=false):a3n x=false:=by unfold a3n;rw [h,Bool.false_and,Bool.and_false]
theorem a9I (h:a6c x.qu.sl x.st=false):a3n x=false:=by unfold a3n;rw [h,Bool.and_false,Bool.and_false]
theorem c4T (h1:m3 x.ma 0 16=true) (h2:b0q x.qu=true) (h3:a6c x.qu.sl x.st=true):a3n x=true:=by unfold a3n;rw [h1,h2,h3];rfl
theorem c4U (h1:m3 x.ma 0 16=true) (h2:b0q x.qu=true):a3n x=a6c x.qu.sl x.st:=by unfold a3n;rw [h1,h2];rfl
end
end Go.Rf
namespace Go.Rf
open Go
variable {i k:Nat} {l:List Int} {m:Mach} {v:Int}
theorem a9J:a9z l v=true↔v∈l:=by
 grind [a9z,a9B,p4]
theorem b5C:a9z l v=false↔v∉l:=by rw [← Bool.not_eq_true,a9J]
theorem a9K (hi:i<=l.length) {v:Int}:v∈l.take i↔∃k,k < i/\l.getD k default=v:=by
 grind [p4]
theorem c8t {a b:Nat}:((a:Int)==(b:Int))=decide (a=b):=by
 grind
def b3J (po:List Bool) (l:List Int):Nat→List Bool
 | 0=>po
 | i+1=>(b3J po l i).set (l.getD i default).toNat true
theorem a0m {po:List Bool}:b3J po l (i+1)=(b3J po l i).set (l.getD i default).toNat true:=rfl
theorem E2 {po:List Bool} {l:List Int}:∀i,(b3J po l i).length=po.length
 | 0=>rfl
 | i+1=>by rw [a0m,List.length_set,E2 i]
def poN (m:Mach):Nat→List Bool
 | 0=>List.replicate 8 false
 | k+1=>b3J (poN m k) (A6 (m.cp.getD k default).qu) (A6 (m.cp.getD k default).qu).length
theorem b8T:poN m (k+1)=b3J (poN m k) (A6 (m.cp.getD k default).qu) (A6 (m.cp.getD k default).qu).length:=rfl
theorem F7 {m:Mach}:∀k,(poN m k).length=8
 | 0=>rfl
 | k+1=>by rw [b8T,E2,F7 k]
def S3 (m:Mach):Abs:=⟨m.en,m.ra,poN m m.cp.length,m.cp.map (·.ma),m.cp.map (·.st)⟩
structure MaF (m:Mach):Prop where
 rt:okRts m.rs m.cp.length=true
 n:1<=m.cp.length/\m.cp.length<=2
 rn:m.rs.length=8
 en:m.en.length=8
 ra:m.ra.length=8
 ok:∀k,k < m.cp.length→IfF (m.cp.getD k default)/\setd (m.cp.getD k default).qu=true/\(0<=(m.cp.getD k default).ma/\(m.cp.getD k default).ma<=16)/\srtI (m.cp.getD k default).st=srtI (actN (m.cp.getD k default).qu.sl 4)
 rq:∀k,k < m.cp.length→okRq m.rs (m.cp.getD k default).qu k=true
theorem maF (h:a0y m=true):MaF m:=by
 simp only [a0y,a79,Bool.and_eq_true,decide_eq_true_eq,P7] at h
 obtain ⟨h1,h2,h3,h4⟩:=h
 have hr:=U3.mp h1
 exact ⟨h1,by omega,hr.2.1,h2,h3,λk hk=>b4K (h4 k hk).1,λk hk=>(h4 k hk).2⟩
theorem a0Z (h:k < m.cp.length):((m.cp.map (·.ma)).take k).map n8++[[Value.int .i64 (m.cp.getD k default).ma]]=((m.cp.map (·.ma)).take (k+1)).map n8:=b1i (by rw [List.length_map];exact h) (by rw [a1M h];rfl)
theorem a00 (h:k < m.cp.length) {y:List CI} (hy:y=a5T (m.cp.getD k default).st):((m.cp.map (·.st)).take k).map a5T++[y]=((m.cp.map (·.st)).take (k+1)).map a5T:=b1i (by rw [List.length_map];exact h) (by rw [a1M h];exact hy)
theorem b3K {α β:Type} {l:List α} {f:α→β} (h:l.length<=k):(l.map f).take k=l.map f:=List.take_of_length_le (by rw [List.length_map];exact h)
def szQ (q:Que) (l:Int):Int:=if szL q.sl.length l < 0 then -1 else szL q.wa.length (szL q.sl.length l)
def szF (x:Ifc) (l:Int):Int:=if szL x.st.length l < 0 then -1 else szQ x.qu (szL x.st.length l)
def b0s (xs:List Ifc) (l:Int):Int:=if l - xs.length - sumI xs xs.length < 0 then -1 else l - xs.length - sumI xs xs.length
def a9L (m:Mach) (l:Int):Int:=if szL m.rs.length l < 0 then -1 else if szL m.en.length (szL m.rs.length l) < 0 then -1 else if szL m.ra.length (szL m.en.length (szL m.rs.length l)) < 0 then -1 else b0s m.cp (szL m.ra.length (szL m.en.length (szL m.rs.length l)))
theorem c4V {x:Ifc} {l:Int} (hl:0<=l):szF x l=if l - szI x < 0 then -1 else l - szI x:=by
 unfold szF szQ szL szI
 omega
theorem b4L {l:Int} (hl:0<=l/\l<=1048576) (h:¬ a9L m l < 0):SmallM m:=by
 have hn:=@a30 m.cp m.cp.length
 unfold a9L b0s szL at h
 refine ⟨?_,?_,?_,?_,?_⟩<;>(repeat' split at h)<;>omega
end Go.Rf
namespace Go.Rf
theorem b5D {n:Nat} {l:Int} (h:szL n l < 0):szL n l=-1:=by
 grind [szL]
theorem c0X {q:Que} {l:Int} (h:szQ q l < 0):szQ q l=-1:=by
 grind [szQ,b5D]
theorem b8U {xs:List Ifc} {l:Int} (h:b0s xs l < 0):b0s xs l=-1:=by
 grind [b0s]
end Go.Rf
namespace Go.Rf
open Go Go.RowKit
variable {i:Nat} {l:List Int} {sl:List Slot} {ws:List ByteArray} {x:Slot}
def spB:ByteArray:=⟨#[32]⟩
def jnS (ws:List ByteArray):Nat→ByteArray
 | 0=>⟨#[]⟩
 | n+1=>(if n=0 then ⟨#[]⟩ else jnS ws n++spB)++ws.getD n ⟨#[]⟩
theorem b5E:jnS ws 1=ws.getD 0 ⟨#[]⟩:=by
 rfl
theorem a6e {n:Nat} (h:0 < n):jnS ws (n+1)=jnS ws n++spB++ws.getD n ⟨#[]⟩:=by
 show (if n=0 then _ else _)++_=_
 rw [if_neg J]
theorem a9M {ws:List ByteArray} {b:Nat} (h:∀i,i < ws.length→(ws.getD i ⟨#[]⟩).size<=b):∀n,n<=ws.length→(jnS ws n).size<=n * (b+1)
 | 0,_=>Nat.zero_le _
 | n+1,hn=>by
  have ih:=a9M h n J
  have hb:=h n J
  have e:(n+1) * (b+1)=n * (b+1)+(b+1):=Nat.succ_mul _ _
  have hsp:spB.size=1:=rfl
  by_cases h0:n=0
  ·subst h0
   rw [b5E]
   omega
  ·rw [a6e J,ByteArray.size_append,ByteArray.size_append]
   omega
theorem a9N (sep x:List UInt8):∀(l:List (List UInt8)),l≠[]→sep.intercalate (l++[x])=sep.intercalate l++sep++x
 | [],h=>absurd Z h
 | [y],_=>by simp [List.intercalate]
 | y :: z :: r,_=>by
  have ih:=a9N sep x (z :: r) (by simp)
  simp_all
theorem b5F {ws:List ByteArray}:∀n,n<=ws.length→(⟨(Lib.join ((ws.take n).map (·.data.toList)) [32]).toArray⟩:ByteArray)=jnS ws n
 | 0,_=>rfl
 | n+1,hn=>by
  have ih:=b5F (ws:=ws) n J
  have hx:ws[n]?=some (ws.getD n ⟨#[]⟩):=by rw [List.getD_eq_getElem?_getD,List.getElem?_eq_getElem J];rfl
  rw [List.take_add_one,hx,Option.toList_some,List.map_append,List.map_cons,List.map_nil]
  by_cases h0:n=0
  ·subst h0
   rw [b5E,List.take_zero,List.map_nil,List.nil_append,Lib.join_one]
  ·rw [a6e J,← ih,Lib.join,a9N _ _ _ (by intro e;have:=congrArg List.length e;rw [List.length_map,List.length_take,Nat.min_eq_left J] at this;exact h0 this)]
   rfl
def jnA (ws:List ByteArray):ByteArray:=jnS ws ws.length
theorem c13 {ws:List ByteArray}:(⟨(Lib.join (ws.map (·.data.toList)) spB.data.toList).toArray⟩:ByteArray)=jnA ws:=by
 have h:=b5F (ws:=ws) ws.length (Nat.le_refl _)
 rw [List.take_length] at h
 exact h
theorem Ctr.join {P:Program} [Env P] {f:FuncId} (hc:Callable P f) {ws:List ByteArray} (hl:ws.length<=1048576) (hs:(jnA ws).size<=140737488355328)
 (h:∀(bk o c:Nat) (w:World),(∀(j:Nat) x,ws[j]?=some x→w.cell? ⟨bk,o+j,none⟩=some (.string x))→bk < w.heap.size→ws.length<=140737488355328→ws.length<=c→(Lib.join (ws.map (·.data.toList)) spB.data.toList).length<=140737488355328 →
  Calls P f #[.slice (some ⟨bk,o,none⟩) ws.length c,.string spB] w λe w'=>e=.returned (.string ⟨(Lib.join (ws.map (·.data.toList)) spB.data.toList).toArray⟩)/\Below w.heap.size w w')
 (h0:∀(a:Option Addr) (c:Nat) (w:World),Calls P f #[.slice a 0 c,.string spB] w λe w'=>e=.returned (.string ⟨#[]⟩)/\w'=w) :
 Ctr P f [.lst 1 (ws.map U0),.v (.string ⟨#[32]⟩)] (.one (.v (.string (jnA ws)))):=by
 refine ⟨hc,λw vs he hv=>?_⟩
 simp only [RelVs] at hv
 obtain ⟨y,_,rfl,hy,_,_,rfl,hv2,rfl⟩:=hv
 simp only [RelV] at hy hv2
 subst hv2
 obtain ⟨A,cap,rfl,hcap,hall,hcell⟩:=hy
 rw [List.length_map] at hcap hcell ⊢
 by_cases hz:ws.length=0
 ·have e0:ws=[]:=List.eq_nil_of_length_eq_zero hz
  subst e0
  exact (h0 A cap w).mono λe w' ⟨h1,h2⟩=>⟨_,h1,by simp only [ResRel,RCRel];rfl,h2▸Below.refl _ _⟩
 ·obtain ⟨ad,rfl,hb,hr⟩:=hcell J
  have hat:∀j x,ws[j]?=some x→w.cell? (ad.add (j * 1+0))=some (.string x):=λj x hj=>hr j (U0 x) (by rw [List.getElem?_map,hj];rfl) 0 _ Z
  have hsp:ad.spot=none:=by
   have h1:=hat 0 (ws.getD 0 ⟨#[]⟩) (by rw [List.getD_eq_getElem?_getD,List.getElem?_eq_getElem J];rfl)
   have h1:w.cell? ad=some (.string (ws.getD 0 ⟨#[]⟩)):=h1
   cases hsp:ad.spot with
   | none=>rfl
   | some s =>
    exfalso
    unfold World.cell? at h1
    grind
  obtain ⟨bk,o,sp⟩:=ad
  simp only at hsp hb
  subst hsp
  refine (h bk o cap w (λj x hj=>?_) hb J hcap (by have:=congrArg ByteArray.size (c13 (ws:=ws));simp only [ByteArray.size,List.size_toArray] at this hs;omega)).mono λe w' ⟨h1,h2⟩=>⟨.string (jnA ws),h1.trans (by rw [c13]),by simp only [ResRel,RCRel],h2⟩
  have:=hat j x hj
  rw [Nat.mul_one,Nat.add_zero] at this
  by_cases hj0:j=0
  ·subst hj0;exact this
  ·rw [Addr.add,if_neg hj0] at this;exact this
def b3L:ByteArray:=⟨#[110,111,110,101]⟩
def b2o (l:List Int):List ByteArray:=l.map s1
theorem X5:(b2o l).length=l.length:=List.length_map _
theorem a1O (h:i < l.length):(b2o l).getD i ⟨#[]⟩=s1 (l.getD i default):=by
 grind [b2o]
def a4V (l:List Int):ByteArray:=if l.length=0 then b3L else jnA (b2o l)
def a0z (n:Int):Prop:=-9223372036854775807<=n/\n<=9223372036854775807
theorem b1j (h:∀i,i < l.length→a0z (l.getD i default)) (n:Nat) (hn:n<=l.length):(jnS (b2o l) n).size<=n * 22 :=
 a9M (b:=21) (λi hi=>by rw [X5] at hi;rw [a1O hi];have:=h i hi;exact u7 (by have:=this.1;omega) this.2) n (by rw [X5];exact hn)
theorem c4W {l:List Int} (h:l.length=0):a4V l=b3L:=if_pos h
theorem b8V {l:List Int} (h:0 < l.length):a4V l=jnS (b2o l) l.length:=by rw [a4V,if_neg J,jnA,X5]
def a6f (k:Int):ByteArray:=(⟨#[45,112,97,98]⟩:ByteArray).extract k.toNat (k+1).toNat
theorem a67 {k:Int}:(a6f k).size<=4:=by
 rw [a6f,ByteArray.size_extract]
 omega
def b4M (x:Slot):ByteArray:=if x.s=0 then a6f x.s else a6f x.s++(s1 x.q++⟨#[58]⟩++s1 x.p)
def a2s (sl:List Slot):List ByteArray:=sl.map b4M
theorem a0A:(a2s sl).length=sl.length:=List.length_map _
theorem a9O {l:List Slot} (h:i < l.length):(a2s l).getD i ⟨#[]⟩=b4M (l.getD i default):=by
 grind [a2s]
def a4p (sl:List Slot):ByteArray:=jnA (a2s sl)
theorem b2p (h:x.s=0):b4M x=a6f x.s:=if_pos h
theorem b2q (h:x.s≠0):b4M x=a6f x.s++(s1 x.q++⟨#[58]⟩++s1 x.p):=if_neg h
theorem b6P (h:x.s≠0→a0z x.q/\a0z x.p):(b4M x).size<=47:=by
 have hb:=@a67 x.s
 by_cases h0:x.s=0
 ·rw [b2p h0];omega
 ·obtain ⟨⟨a1,a2⟩,b1,b2⟩:=h h0
  have n1:=u7 (n:=x.q) J a2
  have n2:=u7 (n:=x.p) J b2
  rw [b2q h0,ByteArray.size_append,ByteArray.size_append,ByteArray.size_append]
  have:(⟨#[58]⟩:ByteArray).size=1:=rfl
  omega
theorem b1k (h:∀i,i < sl.length→(sl.getD i default).s≠0→a0z (sl.getD i default).q/\a0z (sl.getD i default).p) (n:Nat) (hn:n<=sl.length):(jnS (a2s sl) n).size<=n * 48 :=
 a9M (b:=47) (λi hi=>by rw [a0A] at hi;rw [a9O hi];exact b6P (h i hi)) n (by rw [a0A];exact hn)
theorem b5G (hi:i < sl.length):jnS (a2s sl) (i+1)=(if i=0 then ⟨#[]⟩ else jnS (a2s sl) i++spB)++b4M (sl.getD i default):=by
 show (if i=0 then _ else _)++(a2s sl).getD i ⟨#[]⟩=_
 rw [a9O hi]
theorem SlF.s03 (h:SlF sl) {i:Nat} (hi:i < 4):0<=(sl.getD i default).s/\(sl.getD i default).s<=3:=by
 rcases Decidable.em ((sl.getD i default).s=0) with g | g
 ·omega
 ·have:=h.ok i hi g;omega
theorem SlF.nums (h:SlF sl) {i:Nat} (hi:i < 4) (hs:(sl.getD i default).s≠0):(0<=(sl.getD i default).q/\(sl.getD i default).q<=7)/\(0<=(sl.getD i default).p/\(sl.getD i default).p<=15)/\(s1 (sl.getD i default).q).size<=21/\(s1 (sl.getD i default).p).size<=21:=by
 have:=h.ok i hi hs
 exact ⟨this.2.1,this.2.2,u7 J J,u7 J J⟩
theorem c14 (h:SlF sl):∀i,i < sl.length→(sl.getD i default).s≠0→a0z (sl.getD i default).q/\a0z (sl.getD i default).p:=λi hi hs=>by
 have:=h.ok i (by have:=h.len;omega) hs
 exact ⟨⟨by omega,by omega⟩,by omega,by omega⟩
def a9P (l:List Int) (i:Nat):List ByteArray:=(b2o l).take i
theorem b6Q (h:i < l.length):a9P l (i+1)=a9P l i++[s1 (l.getD i default)]:=by
 rw [a9P,List.take_add_one,← a1O h,List.getD_eq_getElem?_getD,List.getElem?_eq_getElem (by rw [X5];exact h)]
 rfl
theorem b3M:a9P l l.length=b2o l:=by rw [a9P,← X5,List.take_length]
theorem b3N {l:List Int} {i:Nat}:(a9P l i).length<=l.length:=by rw [a9P,List.length_take,X5];omega
theorem c0Y (hl:l.length<=1048576) (h:∀i,i < l.length→a0z (l.getD i default)):(jnA (a9P l l.length)).size<=140737488355328:=by
 have:=b1j h l.length (Nat.le_refl _)
 rw [b3M,jnA,X5];omega
theorem c4X {l:List Int} (h:0 < l.length):jnA (a9P l l.length)=a4V l:=by rw [b8V h,b3M,jnA,X5]
def a6g (l:List Slot) (i:Nat):List ByteArray:=(a2s l).take i
theorem b3O {l:List Slot} {i:Nat}:(a6g l i).length<=l.length:=by rw [a6g,List.length_take,a0A];omega
theorem b1l {l:List Slot} (h:i < l.length):a6g l (i+1)=a6g l i++[b4M (l.getD i default)]:=by
 rw [a6g,List.take_add_one,← a9O h,List.getD_eq_getElem?_getD,List.getElem?_eq_getElem (by rw [a0A];exact h)]
 rfl
theorem c4Y {l:List Slot} (h:i < l.length) (hs:(l.getD i default).s=0):a6g l (i+1)=a6g l i++[a6f (l.getD i default).s]:=by rw [b1l h,b2p hs]
theorem c4Z {l:List Slot} (h:i < l.length) (hs:(l.getD i default).s≠0):a6g l (i+1)=a6g l i++[a6f (l.getD i default).s++(s1 (l.getD i default).q++⟨#[58]⟩++s1 (l.getD i default).p)]:=by rw [b1l h,b2q hs]
theorem b8W {l:List Slot}:jnA (a6g l l.length)=a4p l:=by rw [a4p,a6g,← a0A,List.take_length]
theorem c0Z (hl:sl.length<=1048576) (h:∀i,i < sl.length→(sl.getD i default).s≠0→a0z (sl.getD i default).q/\a0z (sl.getD i default).p):(jnA (a6g sl sl.length)).size<=140737488355328:=by
 grind [b1k,b8W,a4p,jnA,a0A]
theorem c6Q (hi:i < sl.length) (h0:i=0) (hs:(sl.getD i default).s=0):jnS (a2s sl) (i+1)=jnS (a2s sl) i++a6f (sl.getD i default).s:=by
 rw [b5G hi,if_pos h0,b2p hs];subst h0;rfl
theorem c6R (hi:i < sl.length) (h0:i≠0) (hs:(sl.getD i default).s=0):jnS (a2s sl) (i+1)=jnS (a2s sl) i++spB++a6f (sl.getD i default).s:=by
 rw [b5G hi,if_neg h0,b2p hs]
theorem c6S (hi:i < sl.length) (h0:i=0) (hs:(sl.getD i default).s≠0):jnS (a2s sl) (i+1)=jnS (a2s sl) i++a6f (sl.getD i default).s++s1 (sl.getD i default).q++⟨#[58]⟩++s1 (sl.getD i default).p:=by
 rw [b5G hi,if_pos h0,b2q hs]
 simp only [ByteArray.append_assoc]
 subst h0;rfl
theorem c6T (hi:i < sl.length) (h0:i≠0) (hs:(sl.getD i default).s≠0):jnS (a2s sl) (i+1)=jnS (a2s sl) i++spB++a6f (sl.getD i default).s++s1 (sl.getD i default).q++⟨#[58]⟩++s1 (sl.getD i default).p:=by
 rw [b5G hi,if_neg h0,b2q hs]
 simp only [ByteArray.append_assoc]
section
variable {P:Program} {w0:Base} {ops:Array Oper} {o:Oper} {rest:List Oper} {T:List (Nat×AV)} {m:List (Nat×Option Row)} {nx nt:Nat} {Q:Exit→St→Prop}
theorem a6h (t:Nat) {cs:List AV} (ht:look t T=some (.agg cs)) {rs:(Nat→Value)→List AV} (hr:∀u,a5N cs u 0 []=some (rs u)) (h:∀u,WX P w0 ops o rest ⟨(t,.agg (rs u)) :: T,m,nx,nt⟩ Q):WX P w0 ops o rest ⟨T,m,nx,nt⟩ Q:=by
 intro ρ a w hT hC
 have h1:=hT.tmps t _ ht
 simp only [RelV] at h1
 obtain ⟨us,he,h1⟩:=h1
 let u:Nat→Value:=λi=>us.getD i undef
 refine h u ρ a w ⟨λi x hi=>?_,hT.size,hT.defers⟩ hC
 by_cases e:i=t
 ·subst e
  rw [n6] at hi
  cases hi
  simp only [RelV]
  exact ⟨us,he,by simpa using a6Y (acc':=[]) (hr u) h1 (λj y hj=>by simp only [u,Nat.zero_add,List.getD_eq_getElem?_getD,hj,Option.getD_some]) (by simp [RelVs])⟩
 ·rw [j2 (λe'=>e e'.symm)] at hi
  exact hT.tmps i x hi
end
end Go.Rf
namespace Go.Rf
open Go Go.ChangeShapes Go.WideShapes Go.Deep Go.ChangeAt Go.RowKit
section
variable {H:Type} {enc:TypeId×Value→H} {P:Program} {w:World} {base:Nat} {spare:Nat→Bool} {held:Bool} {t e e2:TypeId}
theorem O5 {cs:List Value} {n:Nat} {x:DataW H×List MemPlace} {E:EK} (ht:P.underlying t=some (.slice e)) (hE:E.Fits P e) (hsz:E.sz≠0) (hf:DataW.trod enc P w base spare held n t cs=some x) :
 ∃(v:Value) (ys:List (List Value)),cs=[v]/\v.oneCell'=true/\ReadsAt w E.sz ys v/\ys.length<=maxLen/\∀c∈ys,CellsOK E.ks c:=by
 rcases open_slice ht hf with ⟨hcs,_⟩ | ⟨a',len,cap,m,n,D,Pl,hcs,hb,hl,hm,hmm,hx,hi⟩
 ·exact ⟨_,[],hcs,Z,⟨none,0,Z,Nat.le_refl _,by simp,by simp⟩,by simp,by simp⟩
 ·have hlm:len<=m:=by rw [hmm];split<;>omega
  rw [hE.cells] at hi
  let ys:=(List.range len).map λi=>(w.cells? base (a'.add (i * E.sz)) E.sz).getD []
  have hget:∀i c,ys[i]?=some c→i < len/\w.cells? base (a'.add (i * E.sz)) E.sz=some c/\CellsOK E.ks c:=by
   intro i c hic
   simp only [ys,List.getElem?_map] at hic
   rcases Nat.lt_or_ge i len with hlt | hge
   ·obtain ⟨cs',h1,h2⟩:=hi i J
    rw [List.getElem?_range hlt] at hic
    simp [h1] at hic
    subst hic
    exact ⟨hlt,h1,hE.trod h2⟩
   grind
  have hlen:ys.length=len:=by simp [ys]
  refine ⟨_,ys,hcs,Z,⟨some a',cap,by rw [hlen],by omega,λc hc=>?_,λh0=>⟨a',Z,?_,λi c hic j u hju=>?_⟩⟩,by omega,λc hc=>?_⟩
  ·obtain ⟨i,hic⟩:=List.getElem?_of_mem hc
   obtain ⟨_,h1,h2⟩:=hget i c hic
   exact ⟨(World.cells?_some h1).2.1,h2.len.2⟩
  ·obtain ⟨cs',h1,_⟩:=hi 0 J
   obtain ⟨_,h2,h3⟩:=World.cells?_some h1
   have h4:=h3 0 J
   rw [List.getElem?_eq_getElem J] at h4
   have:=a9c h4
   simpa [Addr.add] using this
  ·obtain ⟨_,h1,_⟩:=hget i c hic
   obtain ⟨_,h2,h3⟩:=World.cells?_some h1
   have hj:j < c.length:=(List.getElem?_eq_some_iff.1 hju).1
   rw [← hju,← h3 j J]
   rw [← Go.Deep.add_add]
  ·obtain ⟨i,hic⟩:=List.getElem?_of_mem hc
   exact (hget i c hic).2.2
theorem a3o {cs:List Value} {n:Nat} {x:DataW H×List MemPlace} {fs:Array Field} (hs:P.underlying t=some (.struct fs)) (hone:oneCellFields P fs=true) (hC:P.cellsOf t=fs.size)
 (h:DataW.trod enc P w base spare held n t cs=some x):cs.length=fs.size/\∀(j:Nat) (f:Field),fs[j]?=some f→∃(v:Value) (n:Nat) (y:DataW H×List MemPlace),cs[j]?=some v/\DataW.trod enc P w base spare held n f.type [v]=some y:=by
 obtain ⟨xs,n',_,_,hlen,hxl,hf⟩:=DataW.trod_struct hs h
 refine ⟨by rw [hlen,hC],λj f hj=>?_⟩
 obtain ⟨ho,h1⟩:=hone_of hone j f hj
 have hjl:j < fs.size:=(Array.getElem?_eq_some_iff.1 hj).1
 have h2:=hf j f hj
 have hjc:j < cs.length:=by omega
 have e1:(cs.drop f.offset).take (P.cellsOf f.type)=[cs[j]]:=by
  rw [ho,h1,List.drop_eq_getElem_cons hjc];rfl
 grind
end
theorem c00 {w:World} {x:AV} {v:Value} {as:List AV} {vs:List Value} (hr:RelV w noRho 0 x v) (h:RelVs w noRho 0 as vs):RelVs w noRho 0 (x :: as) (v :: vs):=by
 simp only [RelVs];exact ⟨v,vs,Z,hr,h⟩
theorem c6U:∀c,CellsOK [.bool] c→∃x:Bool,c=j6 x:=by
 intro c h
 simp only [CellsOK,CellOK] at h
 obtain ⟨_,r0,rfl,⟨n0,rfl⟩,h⟩:=h
 subst h
 exact ⟨n0,Z⟩
theorem c6V:∀c,CellsOK [.int .i64] c→∃x:Int,c=n8 x:=by
 intro c h
 simp only [CellsOK,CellOK] at h
 obtain ⟨_,r0,rfl,⟨n0,rfl,_⟩,h⟩:=h
 subst h
 exact ⟨n0,Z⟩
theorem c6W:∀c,CellsOK [.int .i64,.int .i64] c→∃x:Route,c=l7 x:=by
 intro c h
 simp only [CellsOK,CellOK] at h
 obtain ⟨_,r0,rfl,⟨n0,rfl,_⟩,_,r1,rfl,⟨n1,rfl,_⟩,h⟩:=h
 subst h
 exact ⟨⟨n0,n1⟩,Z⟩
theorem c6X:∀c,CellsOK [.int .i64,.int .i64] c→∃x:Wtr,c=f7 x:=by
 intro c h
 simp only [CellsOK,CellOK] at h
 obtain ⟨_,r0,rfl,⟨n0,rfl,_⟩,_,r1,rfl,⟨n1,rfl,_⟩,h⟩:=h
 subst h
 exact ⟨⟨n0,n1⟩,Z⟩
theorem c6Y:∀c,CellsOK [.int .i64,.int .i64,.int .i64] c→∃x:Slot,c=e9 x:=by
 intro c h
 simp only [CellsOK,CellOK] at h
 obtain ⟨_,r0,rfl,⟨n0,rfl,_⟩,_,r1,rfl,⟨n1,rfl,_⟩,_,r2,rfl,⟨n2,rfl,_⟩,h⟩:=h
 subst h
 exact ⟨⟨n0,n1,n2⟩,Z⟩
theorem c6Z {α:Type} {l:List α} {a b c d:α} (h:l.length=4) (h0:l[0]?=some a) (h1:l[1]?=some b) (h2:l[2]?=some c) (h3:l[3]?=some d):l=[a,b,c,d]:=by
 match l,h with
 | [a',b',c',d'],_=>simp at *;simp [*]
section
variable {H:Type} {enc:TypeId×Value→H} {P:Program} {w:World} {base:Nat} {spare:Nat→Bool} {held:Bool}
structure IfTy (P:Program) (t tI tQ tSl tWa eSl eWa:TypeId) (fI fQ fS fW:Array Field):Prop where
 hs:P.underlying t=some (.struct fI)
 hf:fI.toList.map (λf=>(f.type,f.offset))=[(3,0),(tI,1),(tQ,2)]
 hC:P.cellsOf t=4
 c3:P.cellsOf 3=1
 cI:P.cellsOf tI=1
 cQ:P.cellsOf tQ=2
 hI:P.underlying tI=some (.slice 3)
 hQ:P.underlying tQ=some (.struct fQ)
 hoQ:oneCellFields P fQ=true
 hfQ:fQ.toList.map Field.type=[tSl,tWa]
 hSl:P.underlying tSl=some (.slice eSl)
 hWa:P.underlying tWa=some (.slice eWa)
 fi:(EK.one (.int .i64)).Fits P 3
 gS:(EK.str fS [.int .i64,.int .i64,.int .i64]).Fits P eSl
 gW:(EK.str fW [.int .i64,.int .i64]).Fits P eWa
 sS:fS.size=3
 sW:fW.size=2
theorem b3P {t tI tQ tSl tWa eSl eWa:TypeId} {fI fQ fS fW:Array Field} (K:IfTy P t tI tQ tSl tWa eSl eWa fI fQ fS fW) {cs:List Value} {n:Nat} {x:DataW H×List MemPlace} (h:DataW.trod enc P w base spare held n t cs=some x) :
 ∃(y:Ifc) (v1 v2 v3:Value),cs=[.int .i64 y.ma,v1,v2,v3]/\(v1.oneCell'=true/\v2.oneCell'=true/\v3.oneCell'=true)/\ReadsAt w 1 (y.st.map n8) v1/\ReadsAt w 3 (y.qu.sl.map e9) v2/\ReadsAt w 2 (y.qu.wa.map f7) v3/\BigI y:=by
 obtain ⟨xs,n',_,_,hlen,hxl,hf⟩:=DataW.trod_struct K.hs h
 have h3:fI.size=3:=by have:=congrArg List.length K.hf;simpa using this
 have hl4:cs.length=4:=by rw [hlen,K.hC]
 have hty:∀(j:Nat) (p:TypeId×Nat),[(3,0),(tI,1),(tQ,2)][j]?=some p→∃y,DataW.trod enc P w base spare held n' p.1 ((cs.drop p.2).take (P.cellsOf p.1))=some y:=by
  intro j p hj
  rw [← K.hf,List.getElem?_map] at hj
  grind
 obtain ⟨y0,k0⟩:=hty 0 _ Z
 obtain ⟨y1,k1⟩:=hty 1 _ Z
 obtain ⟨y2,k2⟩:=hty 2 _ Z
 match cs,hl4 with
 | [a,b,c,d],_ =>
  simp only [K.c3,K.cI,K.cQ,List.drop_zero,List.drop_succ_cons,List.take_succ_cons,List.take_zero] at k0 k1 k2
  obtain ⟨ma,hma⟩:=c6V _ (K.fi.trod k0)
  obtain ⟨v1,ys1,e1,o1,r1,b1,c1⟩:=O5 K.hI K.fi (by decide) k1
  have hq2:fQ.size=2:=by have:=congrArg List.length K.hfQ;simpa using this
  obtain ⟨_,hq⟩:=a3o K.hQ K.hoQ (by rw [K.cQ,hq2]) k2
  have htq:∀(j:Nat) (tj:TypeId),[tSl,tWa][j]?=some tj→∃(v:Value) (n:Nat) (y:DataW H×List MemPlace),[c,d][j]?=some v/\DataW.trod enc P w base spare held n tj [v]=some y:=by
   intro j tj hj
   rw [← K.hfQ,List.getElem?_map] at hj
   grind
  obtain ⟨v2,n2,z2,g2,q2⟩:=htq 0 _ Z
  obtain ⟨v3,n3,z3,g3,q3⟩:=htq 1 _ Z
  obtain ⟨_,ys2,e2,o2,r2,b2,c2⟩:=O5 K.hSl K.gS (by show fS.size≠0;rw [K.sS];decide) q2
  obtain ⟨_,ys3,e3,o3,r3,b3,c3⟩:=O5 K.hWa K.gW (by show fW.size≠0;rw [K.sW];decide) q3
  cases e1;cases e2;cases e3
  simp at g2 g3
  subst g2;subst g3
  obtain ⟨x1,rfl⟩:=a18 c6V _ c1
  obtain ⟨x2,rfl⟩:=a18 c6Y _ c2
  obtain ⟨x3,rfl⟩:=a18 c6X _ c3
  have r2:ReadsAt w fS.size (x2.map e9) c:=r2
  have r3:ReadsAt w fW.size (x3.map f7) d:=r3
  rw [K.sS] at r2
  rw [K.sW] at r3
  simp only [n8,List.cons.injEq,and_true] at hma
  refine ⟨⟨ma,x1,⟨x2,x3⟩⟩,b,c,d,by rw [hma],⟨o1,o2,o3⟩,r1,r2,r3,?_⟩
  exact ⟨by simpa [maxLen] using b1,by simpa [maxLen] using b2,by simpa [maxLen] using b3⟩
theorem b2r (eS eW:TypeId) {t e tI tQ tSl tWa eSl eWa:TypeId} {fI fQ fS fW:Array Field} (ht:P.underlying t=some (.slice e)) (K:IfTy P e tI tQ tSl tWa eSl eWa fI fQ fS fW) {cs:List Value} {n:Nat} {x:DataW H×List MemPlace} (hf:DataW.trod enc P w base spare held n t cs=some x) :
 ∃(v:Value) (xs:List Ifc),cs=[v]/\v.oneCell'=true/\NReadsAt w 4 (xs.map (l6 eS eW)) v/\xs.length<=maxLen/\∀y∈xs,BigI y:=by
 rcases open_slice ht hf with ⟨hcs,_⟩ | ⟨a',len,cap,m,n,D,Pl,hcs,hb,hl,hm,hmm,hx,hi⟩
 ·exact ⟨_,[],hcs,Z,⟨none,0,Z,Nat.le_refl _,by simp,by simp⟩,by simp,by simp⟩
 ·have hlm:len<=m:=by rw [hmm];split<;>omega
  rw [K.hC] at hi
  have hx:∀i:Nat,∃y:Ifc,i < len→∃v1 v2 v3,(∀k u,[Value.int .i64 y.ma,v1,v2,v3][k]?=some u→w.cell? (a'.add (i * 4+k))=some u)/\(v1.oneCell'=true/\v2.oneCell'=true/\v3.oneCell'=true)/\ReadsAt w 1 (y.st.map n8) v1/\ReadsAt w 3 (y.qu.sl.map e9) v2/\ReadsAt w 2 (y.qu.wa.map f7) v3/\BigI y:=by
   intro i
   by_cases hlt:i < len
   ·obtain ⟨cs',h1,h2⟩:=hi i J
    obtain ⟨y,v1,v2,v3,rfl,h3,h4,h5,h6,h7⟩:=b3P K h2
    obtain ⟨_,h8,h9⟩:=World.cells?_some h1
    refine ⟨y,λ_=>⟨v1,v2,v3,λk u hk=>?_,h3,h4,h5,h6,h7⟩⟩
    have hk4:k < 4:=by have:=(List.getElem?_eq_some_iff.1 hk).1;simpa using this
    have:=h9 k hk4
    rw [← hk,← this,← Go.Deep.add_add]
   ·exact ⟨⟨0,[],⟨[],[]⟩⟩,λh=>absurd h hlt⟩
  let f:Nat→Ifc:=λi=>Classical.choose (hx i)
  have hfs:∀i,i < len→∃v1 v2 v3,(∀k u,[Value.int .i64 (f i).ma,v1,v2,v3][k]?=some u→w.cell? (a'.add (i * 4+k))=some u)/\(v1.oneCell'=true/\v2.oneCell'=true/\v3.oneCell'=true)/\ReadsAt w 1 ((f i).st.map n8) v1/\ReadsAt w 3 ((f i).qu.sl.map e9) v2/\ReadsAt w 2 ((f i).qu.wa.map f7) v3/\BigI (f i):=λi=>Classical.choose_spec (hx i)
  refine ⟨_,(List.range len).map f,hcs,Z,⟨some a',cap,by simp,by simp;omega,λc hc=>?_,λh0=>⟨a',Z,?_,λi k c hik=>?_⟩⟩,by simp;omega,λy hy=>?_⟩
  ·simp only [List.mem_map] at hc;obtain ⟨_,_,rfl⟩:=hc;rfl
  ·have h0:0 < len:=by simpa using h0
   obtain ⟨v1,v2,v3,h1,_⟩:=hfs 0 h0
   have:=a9c (h1 0 _ Z)
   assumption
  ·simp only [w7,List.getElem?_map,List.map_map] at hik
   rcases Nat.lt_or_ge i len with hlt | hge
   ·rw [List.getElem?_range hlt] at hik
    obtain ⟨v1,v2,v3,h1,⟨o1,o2,o3⟩,r1,r2,r3,_⟩:=hfs i hlt
    match k with
    | 0=>simp [l6] at hik;subst hik;exact ⟨_,h1 0 _ Z,Z,Z⟩
    | 1=>simp [l6] at hik;subst hik;exact ⟨_,h1 1 _ Z,o1,r1⟩
    | 2=>simp [l6] at hik;subst hik;exact ⟨_,h1 2 _ Z,o2,r2⟩
    | 3=>simp [l6] at hik;subst hik;exact ⟨_,h1 3 _ Z,o3,r3⟩
    | k+4=>simp [l6] at hik
   grind
  grind
end
theorem c40:∀c,CellsOK [.str,.str,.int .i64] c→∃x:Lg,c=b7E x/\x.d.size<=9223372036854775807/\x.p.size<=9223372036854775807:=by
 intro c h
 simp only [CellsOK,CellOK] at h
 obtain ⟨_,r0,rfl,⟨n0,rfl,z0⟩,_,r1,rfl,⟨n1,rfl,z1⟩,_,r2,rfl,⟨n2,rfl,_⟩,h⟩:=h
 subst h
 exact ⟨⟨n0,n1,n2⟩,Z,by simpa [maxLen] using z0,by simpa [maxLen] using z1⟩
section
variable {H:Type} {enc:TypeId×Value→H} {P:Program} {w:World} {base:Nat} {spare:Nat→Bool} {held:Bool}
theorem b2s (eS eW:TypeId) {t tR tB tC eR eB tIf tI tQ tSl tWa eSl eWa:TypeId} {fs fR fI fQ fS fW:Array Field}
 (hs:P.underlying t=some (.struct fs)) (hone:oneCellFields P fs=true) (hC:P.cellsOf t=fs.size) (hfs:fs.toList.map Field.type=[tR,tB,tB,tC])
 (hR:P.underlying tR=some (.slice eR)) (hB:P.underlying tB=some (.slice eB)) (hCp:P.underlying tC=some (.slice tIf))
 (fB:(EK.one .bool).Fits P eB) (fRo:(EK.str fR [.int .i64,.int .i64]).Fits P eR) (sR:fR.size=2) (K:IfTy P tIf tI tQ tSl tWa eSl eWa fI fQ fS fW)
 {cs:List Value} {n:Nat} {x:DataW H×List MemPlace} (h:DataW.trod enc P w base spare held n t cs=some x) :
 ∃(m:Mach) (v0 v1 v2 v3:Value),cs=[v0,v1,v2,v3]/\ReadsAt w 2 (m.rs.map l7) v0/\ReadsAt w 1 (m.en.map j6) v1/\ReadsAt w 1 (m.ra.map j6) v2/\NReadsAt w 4 (m.cp.map (l6 eS eW)) v3/\BigM m:=by
 obtain ⟨hl,hf⟩:=a3o (cs:=cs) hs hone hC h
 have h4:fs.size=4:=by have:=congrArg List.length hfs;simpa using this
 have hty:∀(j:Nat) (tj:TypeId),[tR,tB,tB,tC][j]?=some tj→∃(v:Value) (n:Nat) (y:DataW H×List MemPlace),cs[j]?=some v/\DataW.trod enc P w base spare held n tj [v]=some y:=by
  grind
 obtain ⟨v0,n0,y0,g0,k0⟩:=hty 0 _ Z
 obtain ⟨v1,n1,y1,g1,k1⟩:=hty 1 _ Z
 obtain ⟨v2,n2,y2,g2,k2⟩:=hty 2 _ Z
 obtain ⟨v3,n3,y3,g3,k3⟩:=hty 3 _ Z
 obtain rfl:=c6Z J g0 g1 g2 g3
 obtain ⟨_,ys0,e0,_,r0,b0,o0⟩:=O5 hR fRo (by show fR.size≠0;rw [sR];decide) k0
 obtain ⟨_,ys1,e1,_,r1,b1,o1⟩:=O5 hB fB (by decide) k1
 obtain ⟨_,ys2,e2,_,r2,b2,o2⟩:=O5 hB fB (by decide) k2
 obtain ⟨_,xs3,e3,_,r3,b3,o3⟩:=b2r eS eW hCp K k3
 cases e0;cases e1;cases e2;cases e3
 obtain ⟨x0,rfl⟩:=a18 c6W _ o0
 obtain ⟨x1,rfl⟩:=a18 c6U _ o1
 obtain ⟨x2,rfl⟩:=a18 c6U _ o2
 have r0:ReadsAt w fR.size (x0.map l7) v0:=r0
 rw [sR] at r0
 refine ⟨⟨x0,x1,x2,xs3⟩,v0,v1,v2,v3,Z,r0,r1,r2,r3,?_⟩
 exact ⟨by simpa [maxLen] using b0,by simpa [maxLen] using b1,by simpa [maxLen] using b2,by simpa [maxLen] using b3,λi hi=>by
  have hi:i < xs3.length:=hi
  show BigI (xs3.getD i default)
  rw [List.getD_eq_getElem?_getD,List.getElem?_eq_getElem hi]
  exact o3 _ (List.getElem_mem hi)⟩
theorem b4N (eS eW:TypeId) {b0:Nat} {r:Reach} {t tM tL tR tB tC eR eB tIf tI tQ tSl tWa eSl eWa:TypeId} {fc fs fL fR fI fQ fS fW:Array Field} {v:Value} {d:DataW H} {p:List MemPlace}
 (hc:P.underlying t=some (.struct fc)) (hfc:fc.toList.map (λf=>(f.type,f.offset))=[(tM,0),(tL,4)]) (hCc:P.cellsOf t=7) (cM:P.cellsOf tM=4) (cL:P.cellsOf tL=3)
 (hs:P.underlying tM=some (.struct fs)) (hone:oneCellFields P fs=true) (hC:P.cellsOf tM=fs.size) (hfs:fs.toList.map Field.type=[tR,tB,tB,tC])
 (hR:P.underlying tR=some (.slice eR)) (hB:P.underlying tB=some (.slice eB)) (hCp:P.underlying tC=some (.slice tIf))
 (fB:(EK.one .bool).Fits P eB) (fRo:(EK.str fR [.int .i64,.int .i64]).Fits P eR) (sR:fR.size=2) (K:IfTy P tIf tI tQ tSl tWa eSl eWa fI fQ fS fW)
 (gL:(EK.str fL [.str,.str,.int .i64]).Fits P tL)
 (hv:Value.okWide P w r b0 t v) (h:DataW.Trod enc P w base spare held t v d p) :
 ∃(m:Mach) (x:Lg),RelV w noRho 0 (.agg [.lst 2 (m.rs.map l7),.lst 1 (m.en.map j6),.lst 1 (m.ra.map j6),.nst none 4 (m.cp.map (l6 eS eW)),.v (.string x.d),.v (.string x.p),.v (.int .i64 x.n)]) v/\BigM m/\(x.d.size<=9223372036854775807/\x.p.size<=9223372036854775807):=by
 obtain ⟨⟨l⟩,rfl,hsz⟩:=okWide_struct hc hv
 obtain ⟨fuel,hf⟩:=h
 obtain ⟨xs,n',_,_,hlen,hxl,hfx⟩:=DataW.trod_struct hc (by simpa [Value.cells] using hf)
 have h2:fc.size=2:=by have:=congrArg List.length hfc;simpa using this
 have hl7:l.length=7:=by rw [← hCc];simpa using hlen
 have hty:∀(j:Nat) (p:TypeId×Nat),[(tM,0),(tL,4)][j]?=some p→∃y,DataW.trod enc P w base spare held n' p.1 ((l.drop p.2).take (P.cellsOf p.1))=some y:=by
  grind
 obtain ⟨y0,k0⟩:=hty 0 _ Z
 obtain ⟨y1,k1⟩:=hty 1 _ Z
 match l,hl7 with
 | [a,b,c,d,e,f,g],_ =>
  simp only [cM,cL,List.drop_zero,List.drop_succ_cons,List.take_succ_cons,List.take_zero] at k0 k1
  obtain ⟨m,v0,v1,v2,v3,e0,r0,r1,r2,r3,hb⟩:=b2s eS eW hs hone hC hfs hR hB hCp fB fRo sR K k0
  obtain ⟨x,hx,hz⟩:=c40 _ (gL.trod k1)
  cases e0
  simp only [b7E,List.cons.injEq,and_true] at hx
  obtain ⟨rfl,rfl,rfl⟩:=hx
  refine ⟨m,x,?_,hb,hz⟩
  simp only [RelV,RelVs]
  grind
end
end Go.Rf
namespace Go.Rf
open Go Go.RowKit
variable {m:Mach} {r:Rec} {x:Lg}
theorem a35 {s:ByteArray}:v8 s<=60/\A5 s (v8 s)<=s.size/\A5 s (v8 s)<=25380:=by
 have h:=b1R (a5E (s:=s)).1
 have h2:=b7D (a5E (s:=s)).1
 omega
theorem b5H {s:ByteArray}:(pre (O9 s) (v8 s+1)).getD (((pre (a7Z s) (v8 s)).length:Int)).toNat default=O9 s (v8 s):=by
 rw [P8]
 exact b3q (Nat.lt_succ_self _)
theorem b3Q {s:ByteArray}:((pre (a7Z s) (v8 s)).length:Int)=v8 s:=by rw [P8]
def eqL (x y:Lg):Bool:=x.d.toList==y.d.toList && x.p.toList==y.p.toList && x.n==y.n
def b4O (x:Lg) (l:Int):Int:=if l - x.d.size < 0 then -1 else if l - x.d.size - x.p.size < 0 then -1 else l - x.d.size - x.p.size
theorem b8X:eqL x x=true:=by simp [eqL]
theorem c01 {x:Lg} (h:30000 < x.d.size+x.p.size):U1 x=false:=by
 rw [U1,decide_eq_false J];rfl
theorem b5I {x:Lg} (h:¬ A5 (x.d++x.p) (v8 (x.d++x.p))=x.d.size+x.p.size):U1 x=false:=by
 rw [U1,decide_eq_false h,Bool.and_false];rfl
theorem c02 {x:Lg} (h:¬ A5 x.d (v8 x.d)=x.d.size):U1 x=false:=by
 rw [U1,decide_eq_false h,Bool.and_false];rfl
theorem c03 {x:Lg} (h:¬ (v8 (x.d++x.p):Int)=x.n):U1 x=false:=by
 rw [U1,decide_eq_false h,Bool.and_false]
theorem c41 (h0:x.d.size+x.p.size<=30000) (h1:A5 (x.d++x.p) (v8 (x.d++x.p))=x.d.size+x.p.size) (h2:A5 x.d (v8 x.d)=x.d.size) (h3:(v8 (x.d++x.p):Int)=x.n):U1 x=true:=by
 grind [U1]
theorem c42 {x:Lg} (h0:x.d.size+x.p.size<=30000) (h1:A5 (x.d++x.p) (v8 (x.d++x.p))=x.d.size+x.p.size) (h2:A5 x.d (v8 x.d)=x.d.size):U1 x=decide ((v8 (x.d++x.p):Int)=x.n):=by
 grind [U1]
theorem a8R {x:Lg} (h:U1 x=true):x.d.size+x.p.size<=30000/\A5 x.d (v8 x.d)=x.d.size/\0<=x.n/\x.n<=60:=by
 grind [U1,a35]
theorem b6R {x:Lg} {j:Nat} (h1:A5 (x.d++x.p) (v8 (x.d++x.p))=x.d.size+x.p.size) (h2:(v8 (x.d++x.p):Int)=x.n) (hj:j<=v8 (x.d++x.p)) (hp:A5 (x.d++x.p) j=x.d.size):U1 x=true:=by
 have hl:=a35 (s:=x.d++x.p)
 obtain ⟨h3,h4⟩:=b7C (D:=x.d) (P:=x.p) (n:=j) (λi hi=>a5E.1 i J) J
 have h5:v8 x.d=j:=a2i h3 (b7B J)
 exact c41 J h1 (by rw [h5];omega) h2
theorem b6S {x:Lg} (h:∀j,j < v8 (x.d++x.p)+1→¬ A5 (x.d++x.p) j=x.d.size):U1 x=false:=by
 cases he:U1 x with
 | false=>rfl
 | true =>
  exfalso
  have h2:=(a8R he).2.1
  obtain ⟨h3,h4⟩:=c4h (D:=x.d) (P:=x.p) (n:=v8 x.d) a5E.1
  refine h (v8 x.d) ?_ J
  rcases Nat.lt_or_ge (v8 x.d) (v8 (x.d++x.p)+1) with h5 | h5
  ·exact h5
  ·have h6:=h3 (v8 (x.d++x.p)) J
   rw [a5E.2] at h6
   cases h6
def apG (x:Lg) (r:Rec):Bool:=U1 x && D4 r
def apE (x:Lg) (r:Rec):Lg:=if apG x r && decide (x.n≠60) then ⟨x.d,x.p++a0Q x.n r,x.n+1⟩ else x
def apN (x:Lg) (r:Rec):Int:=if apG x r then (if x.n=60 then 2 else 0) else 1
theorem c04 {x:Lg} {r:Rec} (h:apG x r=false):apE x r=x/\apN x r=1:=by rw [apE,apN,h];exact ⟨Z,Z⟩
theorem c15 (h:U1 x=false):apG x r=false:=by rw [apG,h];rfl
theorem c16 (h:D4 r=false):apG x r=false:=by rw [apG,h,Bool.and_false]
theorem c60 {x:Lg} {r:Rec} (h:U1 x=true) (h2:D4 r=true) (h3:x.n=60):apE x r=x/\apN x r=2:=by
 rw [apE,apN,apG,h,h2,if_pos h3]
 simp [h3]
theorem c61 {x:Lg} {r:Rec} (h:U1 x=true) (h2:D4 r=true) (h3:¬ x.n=60):apE x r=⟨x.d,x.p++a0Q x.n r,x.n+1⟩/\apN x r=0:=by
 rw [apE,apN,apG,h,h2,if_neg h3]
 simp [h3]
theorem b5J {l:Int} (hl:0<=l/\l<=1048576) (h:¬ a9L m l < 0):0<=a9L m l/\a9L m l<=1048576:=by
 have hs:=@a30 m.cp m.cp.length
 refine ⟨by omega,?_⟩
 unfold a9L b0s szL
 (repeat' split)<;>omega
def c05 (m:Mach) (x:Lg) (l:Int):Int:=if a9L m l < 0 then -1 else if b4O x (a9L m l) < 0 then -1 else b4O x (a9L m l)
theorem b4P {m:Mach} {x:Lg} {l:Int} (hl:0<=l/\l<=1048576) (h:¬ c05 m x l < 0):SmallM m/\x.d.size+x.p.size<=1048576:=by
 grind [c05,b5J,b4O,b4L]
def c06 (m:Mach) (x:Lg) (n:Mach) (y:Lg):Bool:=b8i m n && eqL x y
theorem b6T:c06 m x m x=true:=by rw [c06,b8j.mpr Z,b8X];rfl
def a3p (m:Mach) (x:Lg):Bool:=a0y m && U1 x
theorem c43 (h:a0y m=false):a3p m x=false:=by rw [a3p,h];rfl
theorem c44 (h:a0y m=true):a3p m x=U1 x:=by rw [a3p,h];rfl
theorem b8Y (h:a3p m x=true):a0y m=true/\U1 x=true:=by
 rw [a3p,Bool.and_eq_true] at h;exact h
end Go.Rf
namespace Go.Rf
open Go
variable {i k:Nat} {m:Mach} {p:Nat→Bool} {sl:List Slot} {w:ByteArray} {x:Ifc}
theorem b1m {α:Type} [BEq α] [LawfulBEq α]:∀{a b:List α},a.Nodup→(∀x∈a,x∈b)→a.length<=b.length
 | [],b,_,_=>Nat.zero_le _
 | x :: a,b,hn,hs=>by
  obtain ⟨h1,h2⟩:=List.nodup_cons.mp hn
  have hx:x∈b:=hs x (by simp)
  have:=b1m (b:=b.erase x) h2 (λy hy=>(List.mem_erase_of_ne (λe:y=x=>h1 (e▸hy))).mpr (hs y (by simp [hy])))
  grind
theorem b5K {sl:List Slot} {k:Nat} (h:a0b (sl.getD k default)=false):∀i,k < i→(actN sl i).length < i
 | i+1,hk=>by
  have hl:=@X4 sl i
  show (if _ then _ else _:List Int).length < _
  split
  ·next ha =>
   rw [List.length_append,List.length_cons,List.length_nil]
   have hne:k≠i:=λe=>by subst e;rw [h] at ha;cases ha
   have:=b5K h i J
   omega
  ·omega
theorem a36 (hl:sl.length=4) {q:Int}:(∃w∈actL sl,w.q=q)↔q∈actN sl 4:=by
 rw [H0]
 constructor
 ·rintro ⟨w,hw,e⟩
  obtain ⟨x,h1,h2,rfl⟩:=G9.mp hw
  obtain ⟨j,hj,rfl⟩:=p4.mp h1
  exact ⟨j,by omega,h2,e⟩
 ·rintro ⟨j,h1,h2,h3⟩
  exact ⟨wOf (sl.getD j default),G9.mpr ⟨_,p4.mpr ⟨j,by omega,Z⟩,h2,Z⟩,h3⟩
structure IfG (x:Ifc):Prop where
 f:IfF x
 nd:x.st.Nodup
theorem IfG.lt (h:IfG x) (hb:0<=bstS x.qu.sl true):x.st.length < 4:=by
 obtain ⟨k,e1,e2,e3⟩:=a0l hb
 have hl:=h.f.qu.sl.len
 have h1:=b1m h.nd (λq hq=>(a36 hl).mp (h.f.st q hq))
 have h2:=b5K (sl:=x.qu.sl) (k:=k) (by rw [← Bool.not_eq_true,u9];omega) 4 J
 omega
theorem c8u {q p:Int} (h:IfG x) (hq:0<=q/\q<=7) (hp:0<=p/\p<=15):IfG (a77 x q p):=⟨b8n h.f hq hp,h.nd⟩
theorem c8v (h:IfG x) (hk:okT x=true):IfG (a4U x):=by
 have hb:=(X2.mp hk).1
 refine ⟨c4C h.f hb (h.lt hb),?_⟩
 obtain ⟨k,e1,e2,e3⟩:=a0l hb
 refine List.nodup_append.mpr ⟨h.nd,List.nodup_cons.mpr ⟨by simp,List.nodup_nil⟩,λa ha b hb e=>?_⟩
 rw [List.mem_singleton.mp hb] at e
 obtain ⟨j,h1,h2,h3⟩:=(H0 4).mp ((a36 h.f.qu.sl.len).mp (h.f.st a ha))
 have hkq:tkI x.qu.sl=(x.qu.sl.getD k default).q:=by unfold tkI;rw [e1];rfl
 have hne:j≠k:=λee=>by subst ee;rcases u9.mp h2 with g | g<;>omega
 have hj0:(x.qu.sl.getD j default).s≠0:=by rcases u9.mp h2 with g | g<;>omega
 have hl:=h.f.qu.sl.len
 rcases Nat.lt_or_ge j k with g | g
 ·exact h.f.qu.sl.dif j k g J hj0 J (by rw [h3,e,hkq])
 ·exact h.f.qu.sl.dif k j J h1 J hj0 (by rw [h3,e,hkq])
def O6 (x:Ifc):Int:=x.st.getD (x.st.length - 1) default
def a9Q (x:Ifc):Ifc:=⟨x.ma,x.st.take (x.st.length - 1),a62 x.qu (O6 x)⟩
theorem a38 (h:x.st.length≠0):O6 x∈x.st:=p4.mpr ⟨x.st.length - 1,by omega,Z⟩
theorem c07 {q:Int} (h:SlF sl) (ha:∃w∈actL sl,w.q=q):a0b (sl.getD (r9 sl q).toNat default)=true:=by
 obtain ⟨k,e1,e2,e3,e4⟩:=b2b (a54 ha)
 obtain ⟨j,h1,h2,h3⟩:=(H0 4).mp ((a36 h.len).mp ha)
 have hl:=h.len
 have hj0:(sl.getD j default).s≠0:=by rcases u9.mp h2 with g | g<;>omega
 have:j=k:=by
  rcases Nat.lt_trichotomy j k with g | g | g
  ·exact absurd (h3.trans e4.symm) (h.dif j k g J hj0 e3)
  ·exact g
  ·exact absurd (e4.trans h3.symm) (h.dif k j g h1 e3 hj0)
 grind
theorem c8w (h:IfG x) (h0:x.st.length≠0):IfG (a9Q x):=by
 have hf:=a54 (h.f.st _ (a38 h0))
 have hQ0:=a8O h.f.qu hf
 obtain ⟨k,e1,e2,e3,e4⟩:=b2b hf
 have hnl:∀y∈x.st.take (x.st.length - 1),y≠O6 x:=λy hy e=>by
  obtain ⟨i,hi,e5⟩:=(a9K J).mp hy
  exact b2m.mp h.nd i (x.st.length - 1) hi J (e5.trans e)
 refine ⟨⟨(c4A h.f.qu hf).1,by show (x.st.take (x.st.length - 1)).length<=4;have:=h.f.sn;rw [List.length_take];omega,λy hy=>?_⟩,List.Pairwise.sublist (List.take_sublist _ _) h.nd⟩
 show ∃w∈actL (a62 x.qu (O6 x)).sl,w.q=y
 unfold a62
 rw [b3z hQ0]
 show ∃w∈actL (edS x.qu.sl (O6 x)),w.q=y
 obtain ⟨w,hw,e⟩:=h.f.st y (List.mem_of_mem_take hy)
 obtain ⟨z,z1,z2,z3⟩:=G9.mp hw
 refine ⟨w,G9.mpr ⟨z,?_,z2,z3⟩,e⟩
 unfold edS
 rw [e1,Int.toNat_natCast]
 refine b5u z1 λe'=>hnl y hy ?_
 rw [← e,← z3,e']
 exact e4
structure MaG (m:Mach):Prop where
 rt:okRts m.rs m.cp.length=true
 n:1<=m.cp.length/\m.cp.length<=2
 rn:m.rs.length=8
 en:m.en.length=8
 ra:m.ra.length=8
 ok:∀k,k < m.cp.length→IfG (m.cp.getD k default)
theorem MaF.g (h:MaF m):MaG m:=⟨h.rt,h.n,h.rn,h.en,h.ra,λk hk=>⟨(h.ok k hk).1,(a33.mp (h.ok k hk).2.2.2).nodup_iff.mpr (b2k (h.ok k hk).1.qu.sl 4 (Nat.le_refl _))⟩⟩
theorem MaG.tg (h:MaG m) {i:Nat} (hi:i < 8):(0<=(m.rs.getD i default).t/\(m.rs.getD i default).t<=1)/\(m.rs.getD i default).t.toNat < m.cp.length/\(0<=(m.rs.getD i default).p/\(m.rs.getD i default).p<=15):=by
 have:=(U3.mp h.rt).2.2 i hi
 have:=h.n
 omega
def tgM (m:Mach) (i:Nat):Nat:=(m.rs.getD i default).t.toNat
def a6i (m:Mach) (i:Nat):Bool:=m.en.getD i default && (m.ra.getD i default && !a9z (m.cp.getD (tgM m i) default).st i)
def a8a (m:Mach):Nat→List Bool
 | 0=>m.ra
 | i+1=>if a6i m i then (a8a m i).set i false else a8a m i
def a1b (m:Mach):Nat→List Ifc
 | 0=>m.cp
 | i+1=>if a6i m i then (a1b m i).set (tgM m i) (a77 ((a1b m i).getD (tgM m i) default) i (m.rs.getD i default).p) else a1b m i
def b4Q (m:Mach):Mach:=⟨m.rs,m.en,a8a m 8,a1b m 8⟩
section
variable {m:Mach} {i:Nat}
theorem a1c (h:a6i m i=true):a8a m (i+1)=(a8a m i).set i false:=by show (if _ then _ else _)=_;rw [if_pos h]
theorem a1d (h:a6i m i=false):a8a m (i+1)=a8a m i:=by show (if _ then _ else _)=_;rw [if_neg (by rw [h];decide)]
theorem a1e (h:a6i m i=true):a1b m (i+1)=(a1b m i).set (tgM m i) (a77 ((a1b m i).getD (tgM m i) default) i (m.rs.getD i default).p):=by show (if _ then _ else _)=_;rw [if_pos h]
theorem a1f (h:a6i m i=false):a1b m (i+1)=a1b m i:=by show (if _ then _ else _)=_;rw [if_neg (by rw [h];decide)]
theorem a6j:∀i,(a8a m i).length=m.ra.length
 | 0=>rfl
 | i+1=>by
  have ih:=@a6j i
  show (if _ then _ else _:List Bool).length=_
  split
  ·rw [List.length_set];exact ih
  ·exact ih
theorem J3:∀i,(a1b m i).length=m.cp.length
 | 0=>rfl
 | i+1=>by
  have ih:=@J3 i
  show (if _ then _ else _:List Ifc).length=_
  split
  ·rw [List.length_set];exact ih
  ·exact ih
theorem a8S:∀{i j:Nat},i<=j→(a8a m i).getD j default=m.ra.getD j default
 | 0,_,_=>rfl
 | i+1,j,h=>by
  show (if _ then _ else _:List Bool).getD j default=_
  split
  ·rw [List.getD_eq_getElem?_getD,List.getElem?_set_ne J,← List.getD_eq_getElem?_getD];exact a8S J
  ·exact a8S J
theorem a6k (hM:MaG m):∀{i k:Nat},i<=8→k < m.cp.length→((a1b m i).getD k default).st=(m.cp.getD k default).st/\IfG ((a1b m i).getD k default)
 | 0,k,_,hk=>⟨Z,hM.ok k hk⟩
 | i+1,k,hi,hk=>by
  have ih:=@a6k hM i k J hk
  obtain ⟨_,h2,h3⟩:=hM.tg (i:=i) J
  show ((if _ then _ else _:List Ifc).getD k default).st=_/\IfG ((if _ then _ else _:List Ifc).getD k default)
  split
  ·rw [J2 (by rw [J3];exact h2)]
   by_cases e:tgM m i=k
   ·rw [if_pos e]
    subst e
    have ih2:=@a6k hM i (tgM m i) J h2
    exact ⟨ih2.1,c8u ih2.2 J h3⟩
   ·rw [if_neg e];exact ih
  ·exact ih
theorem c45 (hM:MaG m):MaG (b4Q m):=by
 refine ⟨?_,by show 1<=(a1b m 8).length/\_;rw [J3];exact ⟨hM.n.1,by show (a1b m 8).length<=2;rw [J3];exact hM.n.2⟩,hM.rn,hM.en,by show (a8a m 8).length=8;rw [a6j];exact hM.ra,λk hk=>?_⟩
 ·show okRts m.rs (a1b m 8).length=true
  rw [J3];exact hM.rt
 ·have hk:k < (a1b m 8).length:=hk
  rw [J3] at hk
  exact (a6k hM (Nat.le_refl _) hk).2
end
def stM (m:Mach) (s:MStep):Mach×Int×Bool :=
 if s.k=1 then (⟨m.rs,m.en,m.ra.set s.q.toNat true,m.cp⟩,-1,!(m.ra.getD s.q.toNat default))
 else if s.k=2 then (b4Q m,-1,true)
 else if s.k=3 then (if okT (m.cp.getD s.c.toNat default) then (⟨m.rs,m.en,m.ra,m.cp.set s.c.toNat (a4U (m.cp.getD s.c.toNat default))⟩,tkI (m.cp.getD s.c.toNat default).qu.sl,true) else (⟨m.rs,m.en,m.ra,m.cp.set s.c.toNat noI⟩,0,false))
 else if s.k=4 then (if (m.cp.getD s.c.toNat default).st.length=0 then (⟨m.rs,m.en,m.ra,m.cp.set s.c.toNat noI⟩,0,false) else (⟨m.rs,m.en,m.ra,m.cp.set s.c.toNat (a9Q (m.cp.getD s.c.toNat default))⟩,O6 (m.cp.getD s.c.toNat default),true))
 else if s.k=5 then (⟨m.rs,m.en,m.ra,m.cp.set s.c.toNat ⟨s.v,(m.cp.getD s.c.toNat default).st,(m.cp.getD s.c.toNat default).qu⟩⟩,-1,true)
 else (⟨m.rs,m.en.set s.q.toNat (decide (s.v=1)),m.ra,m.cp⟩,-1,true)
def b2t (m:Mach) (s:MStep):Prop:=(s.k=3/\okT (m.cp.getD s.c.toNat default)=false)∨(s.k=4/\(m.cp.getD s.c.toNat default).st.length=0)
theorem b8Z (h:MaG m):AbsF m.rs (S3 m):=by
 have hl:(m.cp.map (λx:Ifc=>x.ma)).length=m.cp.length:=List.length_map _
 have hl2:(m.cp.map (λx:Ifc=>x.st)).length=m.cp.length:=List.length_map _
 have hg:∀c,c < m.cp.length→(m.cp.map (λx:Ifc=>x.st)).getD c default=(m.cp.getD c default).st:=λc hc=>a1M (f:=λx:Ifc=>x.st) hc
 refine ⟨by show 1<=(m.cp.map (λx:Ifc=>x.ma)).length/\(m.cp.map (λx:Ifc=>x.ma)).length<=2;rw [hl];exact h.n,h.rn,by show (m.cp.map (λx:Ifc=>x.st)).length=(m.cp.map (λx:Ifc=>x.ma)).length;rw [hl,hl2],h.en,h.ra,F7 _,λi hi=>?_,λc hc=>?_,λc hc i hi=>?_⟩
 ·show 0<=(m.rs.getD i default).t/\(m.rs.getD i default).t < (m.cp.map (λx:Ifc=>x.ma)).length
  rw [hl]
  have:=(U3.mp h.rt).2.2 i hi
  omega
 ·have hc:c < (m.cp.map (λx:Ifc=>x.ma)).length:=hc
  rw [hl] at hc
  show ((m.cp.map (λx:Ifc=>x.st)).getD c default).length<=4
  rw [hg c hc]
  exact (h.ok c hc).f.sn
 ·have hc:c < (m.cp.map (λx:Ifc=>x.ma)).length:=hc
  rw [hl] at hc
  have hi:i < ((m.cp.map (λx:Ifc=>x.st)).getD c default).length:=hi
  show 0<=((m.cp.map (λx:Ifc=>x.st)).getD c default).getD i default/\((m.cp.map (λx:Ifc=>x.st)).getD c default).getD i default<=7
  rw [hg c hc] at hi ⊢
  have hI:=(h.ok c hc).f
  obtain ⟨j,h1,h2,h3⟩:=(H0 4).mp ((a36 hI.qu.sl.len).mp (hI.st _ (p4.mpr ⟨i,hi,Z⟩)))
  rw [← h3]
  exact (hI.qu.sl.ok j h1 (by rcases u9.mp h2 with g | g<;>omega)).2.1
theorem MaG.put (h:MaG m) {c:Nat} {x:Ifc} (hx:IfG x):MaG ⟨m.rs,m.en,m.ra,m.cp.set c x⟩:=by
 refine ⟨by show okRts m.rs (m.cp.set c x).length=true;rw [List.length_set];exact h.rt,by show 1<=(m.cp.set c x).length/\(m.cp.set c x).length<=2;rw [List.length_set];exact h.n,h.rn,h.en,h.ra,λk hk=>?_⟩
 have hk:k < (m.cp.set c x).length:=hk
 rw [List.length_set] at hk
 show IfG ((m.cp.set c x).getD k default)
 by_cases e:c=k
 ·grind
 ·rw [List.getD_eq_getElem?_getD,List.getElem?_set_ne e,← List.getD_eq_getElem?_getD];exact h.ok k hk
theorem c62 {s:MStep} (h:MaG m) (hv:O4 m.cp.length s=true) (hk:(stM m s).2.2=true):MaG (stM m s).1/\(stM m s).1.rs=m.rs/\(stM m s).1.cp.length=m.cp.length:=by
 obtain ⟨sk,sq,sc,sv⟩:=s
 have hc:=λhk=>b14 (n:=m.cp.length) (k:=sk) (q:=sq) (c:=sc) (v:=sv) hv hk
 unfold stM at hk ⊢
 dsimp only at hk ⊢
 by_cases h1:sk=1
 ·simp only [h1,if_true]
  exact ⟨⟨h.rt,h.n,h.rn,h.en,by show (m.ra.set sq.toNat true).length=8;rw [List.length_set];exact h.ra,h.ok⟩,trivial,trivial⟩
 by_cases h2:sk=2
 ·rw [if_neg h1,if_pos h2]
  exact ⟨c45 h,Z,J3 8⟩
 by_cases h3:sk=3
 ·have hcc:=hc (.inl h3)
  rw [if_neg h1,if_neg h2,if_pos h3] at hk ⊢
  by_cases ho:okT (m.cp.getD sc.toNat default)=true
  ·rw [if_pos ho]
   exact ⟨h.put (c8v (h.ok _ J) ho),Z,List.length_set⟩
  grind
 by_cases h4:sk=4
 ·have hcc:=hc (.inr (.inl h4))
  rw [if_neg h1,if_neg h2,if_neg h3,if_pos h4] at hk ⊢
  by_cases ho:(m.cp.getD sc.toNat default).st.length=0
  ·grind
  ·rw [if_neg ho]
   exact ⟨h.put (c8w (h.ok _ J) ho),Z,List.length_set⟩
 by_cases h5:sk=5
 ·have hcc:=hc (.inr (.inr h5))
  rw [if_neg h1,if_neg h2,if_neg h3,if_neg h4,if_pos h5]
  have hI:=h.ok sc.toNat J
  exact ⟨h.put ⟨⟨hI.f.qu,hI.f.sn,hI.f.st⟩,hI.nd⟩,Z,List.length_set⟩
 ·rw [if_neg h1,if_neg h2,if_neg h3,if_neg h4,if_neg h5]
  exact ⟨⟨h.rt,h.n,h.rn,by show (m.en.set sq.toNat _).length=8;rw [List.length_set];exact h.en,h.ra,h.ok⟩,Z,Z⟩
section
variable {p:Mach×Abs} {s:MStep}
end
section
variable {m:Mach} {sk sq sc sv:Int} {q c:Nat}
theorem sm1 (h:sk=1):stM m ⟨sk,(q:Int),sc,sv⟩=(⟨m.rs,m.en,m.ra.set q true,m.cp⟩,-1,!(m.ra.getD q default)):=by subst h;rfl
theorem sm2 (h:sk=2):stM m ⟨sk,sq,sc,sv⟩=(b4Q m,-1,true):=by subst h;rfl
theorem sm3 (h:sk=3) (hk:okT (m.cp.getD c default)=true):stM m ⟨sk,sq,(c:Int),sv⟩=(⟨m.rs,m.en,m.ra,m.cp.set c (a4U (m.cp.getD c default))⟩,tkI (m.cp.getD c default).qu.sl,true):=by
 subst h
 show (if okT (m.cp.getD c default) then _ else _:Mach×Int×Bool)=_
 rw [hk];rfl
theorem c8x (h:sk=3) (hk:okT (m.cp.getD c default)=false):stM m ⟨sk,sq,(c:Int),sv⟩=(⟨m.rs,m.en,m.ra,m.cp.set c noI⟩,0,false):=by
 subst h
 show (if okT (m.cp.getD c default) then _ else _:Mach×Int×Bool)=_
 rw [hk];rfl
theorem sm4 (h:sk=4) (hk:¬ (m.cp.getD c default).st.length=0):stM m ⟨sk,sq,(c:Int),sv⟩=(⟨m.rs,m.en,m.ra,m.cp.set c (a9Q (m.cp.getD c default))⟩,O6 (m.cp.getD c default),true):=by
 subst h
 show (if (m.cp.getD c default).st.length=0 then _ else _:Mach×Int×Bool)=_
 rw [if_neg hk];rfl
theorem c8y (h:sk=4) (hk:(m.cp.getD c default).st.length=0):stM m ⟨sk,sq,(c:Int),sv⟩=(⟨m.rs,m.en,m.ra,m.cp.set c noI⟩,0,false):=by
 subst h
 show (if (m.cp.getD c default).st.length=0 then _ else _:Mach×Int×Bool)=_
 rw [if_pos hk];rfl
theorem sm5 (h:sk=5):stM m ⟨sk,sq,(c:Int),sv⟩=(⟨m.rs,m.en,m.ra,m.cp.set c ⟨sv,(m.cp.getD c default).st,(m.cp.getD c default).qu⟩⟩,-1,true):=by subst h;rfl
theorem sm6 (h:sk=6):stM m ⟨sk,(q:Int),sc,sv⟩=(⟨m.rs,m.en.set q (decide (sv=1)),m.ra,m.cp⟩,-1,true):=by subst h;rfl
theorem b4R (h:b2t m ⟨sk,sq,sc,sv⟩):sk=3∨sk=4:=by
 rcases h with ⟨h,_⟩ | ⟨h,_⟩
 ·exact .inl h
 ·exact .inr h
theorem c47 (h:b2t m ⟨sk,sq,(c:Int),sv⟩) (h3:sk=3):okT (m.cp.getD c default)=false:=by
 rcases h with ⟨_,h⟩ | ⟨h,_⟩
 ·exact h
 ·have h':sk=4:=h
  omega
theorem c48 (h:b2t m ⟨sk,sq,(c:Int),sv⟩) (h4:sk=4):(m.cp.getD c default).st.length=0:=by
 rcases h with ⟨h,_⟩ | ⟨_,h⟩
 ·have h':sk=3:=h
  omega
 ·exact h
theorem c8z (h:¬ b2t m ⟨sk,sq,(c:Int),sv⟩) (h3:sk=3):okT (m.cp.getD c default)=true:=by
 cases ho:okT (m.cp.getD c default)
 ·exact absurd (Or.inl ⟨h3,ho⟩) h
 ·rfl
theorem c8A (h:¬ b2t m ⟨sk,sq,(c:Int),sv⟩) (h4:sk=4):¬ (m.cp.getD c default).st.length=0:=λe=>h (Or.inr ⟨h4,e⟩)
theorem c49 {s:MStep} (h:b2t m s):(stM m s).2.2=false:=by
 obtain ⟨sk,sq,sc,sv⟩:=s
 rcases h with ⟨h1,h2⟩ | ⟨h1,h2⟩
 ·have h1:sk=3:=h1
  subst h1
  show (if okT (m.cp.getD sc.toNat default) then _ else _:Mach×Int×Bool).2.2=false
  grind
 ·have h1:sk=4:=h1
  subst h1
  show (if (m.cp.getD sc.toNat default).st.length=0 then _ else _:Mach×Int×Bool).2.2=false
  grind
end
theorem MaG.lens (h:MaG m) {k:Nat} (hk:k < m.cp.length):(m.cp.getD k default).st.length<=4/\(m.cp.getD k default).qu.sl.length=4/\(m.cp.getD k default).qu.wa.length<=8:=⟨(h.ok k hk).f.sn,(h.ok k hk).f.qu.sl.len,(h.ok k hk).f.qu.wn8⟩
theorem MaG.small (h:MaG m):SmallM m:=by
 have h1:=h.n
 refine ⟨by rw [h.rn];decide,by rw [h.en];decide,by rw [h.ra];decide,by omega,?_⟩
 have key:∀i,i<=m.cp.length→sumI m.cp i<=16 * i:=by
  intro i
  induction i with
  | zero=>intro _;exact Int.le_refl _
  | succ i ih =>
   intro hi
   rw [I2]
   have:=ih J
   obtain ⟨q1,q2,q3⟩:=h.lens (show i < m.cp.length by omega)
   have:szI (m.cp.getD i default)<=16:=by unfold szI;omega
   push_cast
   omega
 grind
theorem b80 {m:Mach} {i:Nat} (h1:m.en.getD i default=true) (h2:m.ra.getD i default=true) (h3:a9z (m.cp.getD (tgM m i) default).st i=false):a6i m i=true:=by unfold a6i;rw [h1,h2,h3];rfl
theorem b81 {m:Mach} {i:Nat} (h1:m.en.getD i default=false):a6i m i=false:=by unfold a6i;rw [h1,Bool.false_and]
theorem b82 {m:Mach} {i:Nat} (h2:m.ra.getD i default=false):a6i m i=false:=by unfold a6i;rw [h2,Bool.false_and,Bool.and_false]
theorem b83 {m:Mach} {i:Nat} (h3:a9z (m.cp.getD (tgM m i) default).st i=true):a6i m i=false:=by unfold a6i;rw [h3];simp
theorem b84 {q:Int} (h:(sl.getD (r9 sl q).toNat default).s=3):edS sl q=sl.set (r9 sl q).toNat ⟨1,q,(sl.getD (r9 sl q).toNat default).p⟩:=by unfold edS edX;rw [if_pos h]
theorem c17 {q:Int} (h:¬ (sl.getD (r9 sl q).toNat default).s=3):edS sl q=sl.set (r9 sl q).toNat zSl:=by unfold edS edX;rw [if_neg h]
def l9 (w:ByteArray):Nat :=
 if w.data.toList=[115,121,110,99] then 0
 else if w.data.toList=[114,97,105,115,101,100] then 1
 else if w.data.toList=[105,100,108,101] then 2
 else if w.data.toList=[114,97,105,115,101] then 3
 else if w.data.toList=[101,110,97,98,108,101] then 4
 else if w.data.toList=[100,105,115,97,98,108,101] then 5
 else if w.data.toList=[116,97,107,101] then 6
 else if w.data.toList=[108,101,97,118,101] then 7
 else if w.data.toList=[112,101,110,100,105,110,103] then 8
 else if w.data.toList=[115,116,97,99,107] then 9
 else if w.data.toList=[110,101,120,116] then 10
 else if w.data.toList=[115,108,111,116,115] then 11
 else if w.data.toList=[109,97,115,107] then 12
 else 13
theorem U7 {l:Array UInt8}:w.toList=(⟨l⟩:ByteArray).toList↔w.data.toList=l.toList:=by rw [Go.ByteArray.toList_eq,Go.ByteArray.toList_eq]
theorem M8 {c:Prop} [Decidable c] {a b k:Nat} (h:(if c then a else b)=k) (hak:a≠k):b=k:=by
 grind
theorem U8 {l:List UInt8} (h:w.data.toList=l):l9 w=l9 ⟨⟨l⟩⟩:=by unfold l9;simp only [h]
theorem b1n:w.toList=(⟨#[115,121,110,99]⟩:ByteArray).toList↔l9 w=0:=by
 rw [U7]
 show w.data.toList=[115,121,110,99]↔_
 constructor
 ·intro h;exact (U8 h).trans (by decide)
 ·intro h
  unfold l9 at h
  refine Decidable.byContradiction λhn=>?_
  rw [if_neg hn] at h
  iterate 12 have h:=M8 h (by decide)
  cases h
theorem b1o:w.toList=(⟨#[114,97,105,115,101,100]⟩:ByteArray).toList↔l9 w=1:=by
 rw [U7]
 show w.data.toList=[114,97,105,115,101,100]↔_
 constructor
 ·intro h;exact (U8 h).trans (by decide)
 ·intro h
  unfold l9 at h
  refine Decidable.byContradiction λhn=>?_
  have h:=M8 h (by decide)
  rw [if_neg hn] at h
  iterate 11 have h:=M8 h (by decide)
  cases h
theorem b1p:w.toList=(⟨#[105,100,108,101]⟩:ByteArray).toList↔l9 w=2:=by
 rw [U7]
 show w.data.toList=[105,100,108,101]↔_
 constructor
 ·intro h;exact (U8 h).trans (by decide)
 ·intro h
  unfold l9 at h
  refine Decidable.byContradiction λhn=>?_
  iterate 2 have h:=M8 h (by decide)
  rw [if_neg hn] at h
  iterate 10 have h:=M8 h (by decide)
  cases h
theorem b1q:w.toList=(⟨#[114,97,105,115,101]⟩:ByteArray).toList↔l9 w=3:=by
 rw [U7]
 show w.data.toList=[114,97,105,115,101]↔_
 constructor
 ·intro h;exact (U8 h).trans (by decide)
 ·intro h
  unfold l9 at h
  refine Decidable.byContradiction λhn=>?_
  iterate 3 have h:=M8 h (by decide)
  grind
theorem b1r:w.toList=(⟨#[101,110,97,98,108,101]⟩:ByteArray).toList↔l9 w=4:=by
 rw [U7]
 show w.data.toList=[101,110,97,98,108,101]↔_
 constructor
 ·intro h;exact (U8 h).trans (by decide)
 ·intro h
  unfold l9 at h
  refine Decidable.byContradiction λhn=>?_
  iterate 4 have h:=M8 h (by decide)
  grind
theorem b1s:w.toList=(⟨#[100,105,115,97,98,108,101]⟩:ByteArray).toList↔l9 w=5:=by
 rw [U7]
 show w.data.toList=[100,105,115,97,98,108,101]↔_
 constructor
 ·intro h;exact (U8 h).trans (by decide)
 ·intro h
  unfold l9 at h
  refine Decidable.byContradiction λhn=>?_
  iterate 5 have h:=M8 h (by decide)
  grind
theorem b1t:w.toList=(⟨#[116,97,107,101]⟩:ByteArray).toList↔l9 w=6:=by
 rw [U7]
 show w.data.toList=[116,97,107,101]↔_
 constructor
 ·intro h;exact (U8 h).trans (by decide)
 ·intro h
  unfold l9 at h
  refine Decidable.byContradiction λhn=>?_
  iterate 6 have h:=M8 h (by decide)
  grind
theorem b1u:w.toList=(⟨#[108,101,97,118,101]⟩:ByteArray).toList↔l9 w=7:=by
 rw [U7]
 show w.data.toList=[108,101,97,118,101]↔_
 constructor
 ·intro h;exact (U8 h).trans (by decide)
 ·intro h
  unfold l9 at h
  refine Decidable.byContradiction λhn=>?_
  iterate 7 have h:=M8 h (by decide)
  grind
theorem b1v:w.toList=(⟨#[112,101,110,100,105,110,103]⟩:ByteArray).toList↔l9 w=8:=by
 rw [U7]
 show w.data.toList=[112,101,110,100,105,110,103]↔_
 constructor
 ·intro h;exact (U8 h).trans (by decide)
 ·intro h
  unfold l9 at h
  refine Decidable.byContradiction λhn=>?_
  iterate 8 have h:=M8 h (by decide)
  grind
theorem b1w:w.toList=(⟨#[115,116,97,99,107]⟩:ByteArray).toList↔l9 w=9:=by
 rw [U7]
 show w.data.toList=[115,116,97,99,107]↔_
 constructor
 ·intro h;exact (U8 h).trans (by decide)
 ·intro h
  unfold l9 at h
  refine Decidable.byContradiction λhn=>?_
  iterate 9 have h:=M8 h (by decide)
  grind
theorem b2u:w.toList=(⟨#[110,101,120,116]⟩:ByteArray).toList↔l9 w=10:=by
 rw [U7]
 show w.data.toList=[110,101,120,116]↔_
 constructor
 ·intro h;exact (U8 h).trans (by decide)
 ·intro h
  unfold l9 at h
  refine Decidable.byContradiction λhn=>?_
  iterate 10 have h:=M8 h (by decide)
  grind
theorem a68:w.toList=(⟨#[115,108,111,116,115]⟩:ByteArray).toList↔l9 w=11:=by
 rw [U7]
 show w.data.toList=[115,108,111,116,115]↔_
 constructor
 ·intro h;exact (U8 h).trans (by decide)
 ·intro h
  unfold l9 at h
  refine Decidable.byContradiction λhn=>?_
  iterate 11 have h:=M8 h (by decide)
  grind
theorem a69:w.toList=(⟨#[109,97,115,107]⟩:ByteArray).toList↔l9 w=12:=by
 rw [U7]
 show w.data.toList=[109,97,115,107]↔_
 constructor
 ·intro h;exact (U8 h).trans (by decide)
 ·intro h
  unfold l9 at h
  refine Decidable.byContradiction λhn=>?_
  iterate 12 have h:=M8 h (by decide)
  grind
theorem b2v {w:ByteArray}:l9 w<=13:=by
 have h:∀(c:Prop) [Decidable c] (a b:Nat),a<=13→b<=13→(if c then a else b)<=13:=λc _ a b h1 h2=>by by_cases hc:c<;>simp [hc,h1,h2]
 unfold l9
 iterate 13 refine h _ _ _ (by decide) ?_
 decide
def a1g (k:Nat):Int:=if k<=2 then 0 else if k<=11 then 1 else if k=12 then 2 else -1
theorem a3q (h:k<=2):a1g k=0:=by unfold a1g;rw [if_pos h]
theorem Y5 {k:Nat} (h:3<=k/\k<=11):a1g k=1:=by unfold a1g;rw [if_neg J,if_pos J]
theorem a7a {k:Nat} (h:k=12):a1g k=2:=by unfold a1g;rw [if_neg J,if_neg J,if_pos h]
theorem a4W (h:13<=k):a1g k=-1:=by unfold a1g;rw [if_neg J,if_neg J,if_neg J]
def X6 (k:Nat) (l:List Int):MStep×Bool :=
 if k=3 then (⟨1,l.getD 0 default,0,0⟩,true)
 else if k=4 then (⟨6,l.getD 0 default,0,1⟩,true)
 else if k=5 then (⟨6,l.getD 0 default,0,0⟩,true)
 else if k=0 then (⟨2,0,0,0⟩,true)
 else if k=6 then (⟨3,0,l.getD 0 default,0⟩,true)
 else if k=7 then (⟨4,0,l.getD 0 default,0⟩,true)
 else if k=12 then (⟨5,0,l.getD 0 default,l.getD 1 default⟩,true)
 else (⟨0,0,0,0⟩,false)
def b6U (m:Mach) (s:MStep):Bool:=a0y m && O4 m.cp.length s && (stM m s).2.2
def smT (m:Mach) (s:MStep):Mach×Int×Bool:=if b6U m s then ((stM m s).1,(stM m s).2.1,true) else (⟨[],[],[],[]⟩,0,false)
theorem b1x {m:Mach} {s:MStep} (h:a0y m=false∨O4 m.cp.length s=false∨(stM m s).2.2=false):smT m s=(⟨[],[],[],[]⟩,0,false):=by
 unfold smT b6U
 grind
theorem c18 {s:MStep} (h1:a0y m=true) (h2:O4 m.cp.length s=true) (h3:(stM m s).2.2=true):smT m s=((stM m s).1,(stM m s).2.1,true):=by
 unfold smT b6U
 grind
def whN (p:Nat→Bool):Nat→List Int
 | 0=>[]
 | i+1=>if p i then whN p i++[(i:Int)] else whN p i
theorem c63 (h:p i=true):whN p (i+1)=whN p i++[(i:Int)]:=by rw [whN,if_pos h]
theorem c64 (h:p i=false):whN p (i+1)=whN p i:=by rw [whN,if_neg (by simp [h])]
theorem a6l {p:Nat→Bool}:∀{i:Nat},(whN p i).length<=i
 | 0=>Nat.le_refl _
 | i+1=>by
  have:=a6l (p:=p) (i:=i)
  rw [whN]
  grind
theorem b2w:∀{i:Nat} {x:Int},x∈whN p i→0<=x/\x < i
 | 0,x,h=>by cases h
 | i+1,x,h=>by
  rw [whN] at h
  split at h
  ·rcases List.mem_append.1 h with h | h
   ·have:=b2w h;omega
   grind
  ·have:=b2w h;omega
theorem b85 {n:Nat} (hn:n<=1000):∀i,i < (whN p n).length→a0z ((whN p n).getD i default):=λi hi=>by
 have hm:(whN p n).getD i default∈whN p n:=by rw [List.getD_eq_getElem?_getD,List.getElem?_eq_getElem hi];exact List.getElem_mem hi
 have:=b2w hm
 exact ⟨by omega,by omega⟩
def raN (m:Mach):List Int:=whN (λi=>m.ra.getD i default) 8
def a1P (x:Ifc):Bool:=decide ((x.st.length:Int) > 0) || decide (((A6 x.qu).length:Int) > 0)
theorem b5L (h:(x.st.length:Int) > 0):a1P x=true:=by unfold a1P;rw [decide_eq_true h];rfl
theorem a8T (h:¬ (x.st.length:Int) > 0):a1P x=decide (((A6 x.qu).length:Int) > 0):=by unfold a1P;rw [decide_eq_false h];rfl
theorem c08 (h:¬ (x.st.length:Int) > 0) (h2:((A6 x.qu).length:Int) > 0):a1P x=true:=by rw [a8T h,decide_eq_true h2]
theorem c09 (h:¬ (x.st.length:Int) > 0) (h2:¬ ((A6 x.qu).length:Int) > 0):a1P x=false:=by rw [a8T h,decide_eq_false h2]
def a8b (m:Mach) (i:Nat):Bool:=m.ra.getD i default && m.en.getD i default
def a7b (m:Mach):Bool:=!W3 8 (a8b m) && !W3 m.cp.length (λk=>a1P (m.cp.getD k default))
theorem b86 {m:Mach} {i:Nat} (hi:i < 8) (h1:m.ra.getD i default=true) (h2:m.en.getD i default=true):a7b m=false:=by
 unfold a7b
 rw [M6 (i:=i) (show a8b m i=true by unfold a8b;rw [h1,h2];rfl) hi]
 rfl
theorem b4S (h:∀j,j < i→a8b m j=false) (hi:8<=i):a7b m=!W3 m.cp.length (λk=>a1P (m.cp.getD k default)):=by
 unfold a7b
 rw [a19 h hi]
 simp
theorem c5a {m:Mach} {i k:Nat} (h:∀j,j < i→a8b m j=false) (hi:8<=i) (hk:k < m.cp.length) (hb:a1P (m.cp.getD k default)=true):a7b m=false:=by
 rw [b4S h hi,M6 (i:=k) hb hk]
 rfl
theorem c5b (h:∀j,j < i→a8b m j=false) (hi:8<=i) (hk:m.cp.length<=k) (hb:∀j,j < k→a1P (m.cp.getD j default)=false):a7b m=true:=by
 rw [b4S h hi,a19 hb hk]
 rfl
theorem c5c (h:m.ra.getD i default=false):a8b m i=false:=by unfold a8b;rw [h];rfl
theorem c5d (h:m.en.getD i default=false):a8b m i=false:=by unfold a8b;rw [h,Bool.and_false]
theorem c5e {w:World} {ρ:Nat→Value} {nx:Nat} {a:AV} {f:FuncId}:∀vs,RelVs w ρ nx [a,.v (.func (.func f) #[] #[])] vs→RelVs w ρ nx [a,.fnc f []] vs:=by
 grind [RelVs,RelV]
end Go.Rf
namespace Go.Rf
open Go Go.RowKit
section
variable {P:Program} [Env P] {w0:Base} {ops:Array Oper} {tb:List (Nat×TyI)} {o:Oper} {rest:List Oper} {T:List (Nat×AV)} {m m1:List (Nat×Option Row)} {nx nt d n1:Nat} {Q:Exit→St→Prop}
def c65 (m1:List (Nat×Option Row)) (n1:Nat) (e:Exit) (S:St):Prop:=(e=.normal∨e=.ret)/\S.m=m1/\S.nx=n1
theorem c5f [EnvAt P w0] {f:FuncId} {fn:Func} {c:Code} {as:Array Operand} {ts:Array TypeId} {args:List AV} {n:Nat} (m1:List (Nat×Option Row)) (n1:Nat) (hd:o.dst=some d) (hlt:Nat.blt d nt=true) (ho:o.op=.call { callee:=.value (.func f),args:=as,argTypes:=ts })
 (hf:P.funcs[f]?=some fn) (hb:fn.body=some c) (hname:(fn.name == "runtime.NumGoroutine")=false) (hl:fn.results=#[]) (hn:fn.ntmps=n) (hlen:Nat.ble args.length n=true) (ha:evL T as.toList []=some args) (hle:Nat.ble nx n1=true)
 (h:∀b:Base,[EnvAt P b]→b.n0=nx→W P b c ⟨a4H args 0,m,nx,n⟩ (c65 m1 n1)) (hk:WL P w0 ops rest ⟨(d,.tup []) :: T,m1,n1,nt⟩ Q):WX P w0 ops o rest ⟨T,m,nx,nt⟩ Q:=by
 rename_i hw0
 intro ρ a w hT hC
 obtain ⟨bs,h1,h2⟩:=a5z hT ha
 simp at h1
 subst h1
 have hcal:Callable P f:=⟨fn,hf,hname,by rw [hb];rfl⟩
 have hrun:(execOp a.eval o).run P w=.ok (.enter f (as.toList.map a.eval).toArray) w:=by
  simp [execOp,ho,resolve,Deferred.ofValue,invoke,Act.eval,V8 hcal,← Array.toList_map]
 unfold Oper.wp
 rw [hrun,Oper.upon_enter]
 let b:Base:=⟨w0.w,nx,ρ,w,w0.keep,λc hc=>Nat.lt_of_lt_of_le (w0.kb c hc) hC.kept.1,w0.E,w0.hE⟩
 have hen:EnvAt P b:=⟨hw0.e⟩
 have hCb:RelC b ρ m nx w:=⟨hC.rows,hC.apart,hC.below,⟨Nat.le_refl _,λ_ _=>Z⟩,⟨Nat.le_refl _,λ_ _=>Z,hC.kept.2.2⟩,hC.inner⟩
 have hlen':args.length<=n:=Nat.le_of_ble_eq_true hlen
 have hTb:=a2c (b:=b) (fn:=fn) (show RelVs b.w ρ nx args (as.toList.map a.eval) from h2) hlen' hn
 have hcalls:Calls P f (as.toList.map a.eval).toArray w (λen w'=>∃ρ',en=.returned (.tuple #[])/\(∀i,i < nx→ρ' i=ρ i)/\RelC b ρ' m1 n1 w'):=by
  refine calls_of_wp hf hb ?_
  refine wp_mono (h b Z ρ _ w hTb hCb) ?_
  have fin:∀(ρ':Nat→Value) (S:St) (a':Act) (w':World),S.m=m1→S.nx=n1→RelT b ρ' S.T S.nx S.nt a'→RelC b ρ' S.m S.nx w' →
   a'.defers=[]/\∃v,(results fn a'.tmps).run P w'=.ok v w'/\∃ρ',Ending.returned v=.returned (.tuple #[])/\(∀i,i < nx→ρ' i=ρ i)/\RelC b ρ' m1 n1 w':=by
   intro ρ' S a' w' e1 e2 hT' hC'
   refine ⟨hT'.defers,.tuple #[],?_,ρ',Z,λi hi=>hC'.pin.2 i hi,by rw [← e1,← e2];exact hC'⟩
   have:=N8 (P:=P) (fn:=fn) (l:=[]) (ys:=[]) (tmps:=a'.tmps) (w:=w') (by rw [hl]) (by simp)
   simpa using this
  rintro e a' w' ⟨ρ',S,⟨hq,e1,e2⟩,hT',hC'⟩
  rcases hq with rfl | rfl
  ·exact fin ρ' S a' w' e1 e2 hT' hC'
  ·exact fin ρ' S a' w' e1 e2 hT' hC'
 refine hcalls.mono λex w' ⟨ρ',he,q1,q2⟩=>?_
 subst he
 have hn1:=Nat.le_of_ble_eq_true hle
 refine hk ρ' _ w' ?_ ⟨q2.rows,q2.apart,q2.below,⟨Nat.le_trans hC.pin.1 hn1,λi hi=>by rw [q1 i (Nat.lt_of_lt_of_le hi hC.pin.1)];exact hC.pin.2 i hi⟩,⟨Nat.le_trans hC.kept.1 q2.kept.1,λc hc=>(q2.kept.2.1 c hc).trans (hC.kept.2.1 c hc),q2.kept.2.2⟩,q2.inner⟩
 rw [hd]
 have hT':RelT w0 ρ' T n1 nt a:=⟨λt x hx=>(hT.tmps t x hx).mono hn1 q1,hT.size,hT.defers⟩
 exact hT'.put hlt (by simp only [RelV];exact ⟨[],Z,by simp only [RelVs]⟩)
end
end Go.Rf
