/- Texts merged into one: RfNQ, RfNR, RfNS, RfNT, RfMA, RfNV, RfMB, RfMC, RfMD, RfNU, RfME, RfMF, RfMG, RfMH, RfMI, RfMJ, RfNX, RfNW, RfNP, RfMK, RfMQ, Rf5, RfNY, RfML. -/
import Derived.Test.YtpfhomblkgmkkaaGreatDoorLibC
import Derived.Lib.Join
set_option linter.unusedSectionVars false
set_option linter.unusedSimpArgs false
set_option linter.unusedVariables false
namespace Go.Rf
open Go
variable {L:Int} {a:Abs} {c i:Nat} {rs:List Route}
def u3 (rs:List Route) (a:Abs) (c:Nat):Nat→Int
 | 0=>-1
 | i+1=>if (a.po.getD i default=true/\(rs.getD i default).t=c)/\(u3 rs a c i < 0∨(rs.getD i default).p < (rs.getD (u3 rs a c i).toNat default).p) then i else u3 rs a c i
theorem a0v:u3 rs a c (i+1)=if (a.po.getD i default=true/\(rs.getD i default).t=c)/\(u3 rs a c i < 0∨(rs.getD i default).p < (rs.getD (u3 rs a c i).toNat default).p) then (i:Int) else u3 rs a c i:=rfl
theorem a50 {rs:List Route} {a:Abs} {c:Nat}:∀i,-1<=u3 rs a c i/\u3 rs a c i < i
 | 0=>by simp [u3]
 | i+1=>by
  have:=@a50 rs a c i
  rw [a0v]
  split<;>omega
def F8 (rs:List Route) (a:Abs) (c:Nat) (L:Int):Nat→Int×Int
 | 0=>(-1,L)
 | i+1=>if (a.po.getD i default=true/\(rs.getD i default).t=c)/\(rs.getD i default).p < (F8 rs a c L i).2 then (i,(rs.getD i default).p) else F8 rs a c L i
theorem a2i:F8 rs a c L (i+1)=if (a.po.getD i default=true/\(rs.getD i default).t=c)/\(rs.getD i default).p < (F8 rs a c L i).2 then ((i:Int),(rs.getD i default).p) else F8 rs a c L i:=rfl
theorem b17 {rs:List Route} {a:Abs} {c:Nat} {L:Int}:∀i,F8 rs a c L i=if 0<=u3 rs a c i/\(rs.getD (u3 rs a c i).toNat default).p < L then (u3 rs a c i,(rs.getD (u3 rs a c i).toNat default).p) else (-1,L)
 | 0=>by simp [F8,u3]
 | i+1=>by
  have ih:=@b17 rs a c L i
  have hb:=@a50 rs a c i
  by_cases h:(a.po.getD i default=true/\(rs.getD i default).t=c)/\(u3 rs a c i < 0∨(rs.getD i default).p < (rs.getD (u3 rs a c i).toNat default).p)
  ·have e:u3 rs a c (i+1)=i:=by rw [a0v,if_pos h]
   rw [a2i,ih,e]
   simp only [Int.toNat_natCast]
   by_cases h2:0<=u3 rs a c i/\(rs.getD (u3 rs a c i).toNat default).p < L
   ·rw [if_pos h2,if_pos ⟨h.1,by show (rs.getD i default).p < (rs.getD (u3 rs a c i).toNat default).p;omega⟩,if_pos J]
   ·rw [if_neg h2]
    by_cases h3:(rs.getD i default).p < L
    ·rw [if_pos ⟨h.1,h3⟩,if_pos J]
    ·rw [if_neg (λq=>h3 q.2),if_neg J]
  ·have e:u3 rs a c (i+1)=u3 rs a c i:=by rw [a0v,if_neg h]
   rw [a2i,ih,e]
   refine if_neg λq=>h ⟨q.1,?_⟩
   have q2:=q.2
   by_cases h2:0<=u3 rs a c i/\(rs.getD (u3 rs a c i).toNat default).p < L
   ·rw [if_pos h2] at q2;exact .inr q2
   ·rw [if_neg h2] at q2
    have q3:(rs.getD i default).p < L:=q2
    omega
theorem b7P (i:Nat):-1<=(F8 rs a c L i).1/\(F8 rs a c L i).1 < i:=by
 have hb:=@a50 rs a c i
 rw [b17]
 split
 ·exact hb
 ·exact ⟨Int.le_refl _,by show (-1:Int) < _;omega⟩
def b6P (rs:List Route) (l:List Int):Int:=(rs.getD (l.getD (l.length - 1) default).toNat default).p
def b18 (rs:List Route) (a:Abs) (c:Nat):Int:=if (a.st.getD c default).length=0 then a.ma.getD c default else min (a.ma.getD c default) (b6P rs (a.st.getD c default))
def A9 (rs:List Route) (a:Abs) (c:Nat):Int:=if (a.st.getD c default).length=4 then -1 else (F8 rs a c (b18 rs a c) 8).1
theorem a9B {rs:List Route} {a:Abs} {c:Nat}:-1<=A9 rs a c/\A9 rs a c < 8:=by
 unfold A9
 split
 ·omega
 ·exact b7P 8
theorem b5p:A9 rs a c=if u3 rs a c 8 < 0∨(a.st.getD c default).length=4∨a.ma.getD c default<=(rs.getD (u3 rs a c 8).toNat default).p∨(0 < (a.st.getD c default).length/\b6P rs (a.st.getD c default)<=(rs.getD (u3 rs a c 8).toNat default).p) then -1 else u3 rs a c 8:=by
 unfold A9 b18
 rw [b17]
 by_cases h4:(a.st.getD c default).length=4
 ·rw [if_pos h4,if_pos (.inr (.inl h4))]
 ·rw [if_neg h4]
  by_cases h0:(a.st.getD c default).length=0
  ·rw [if_pos h0]
   split
   ·next h=>rw [if_neg J]
   ·next h=>rw [if_pos J]
  ·rw [if_neg h0]
   split
   ·next h=>rw [if_neg J]
   ·next h=>rw [if_pos J]
end Go.Rf
namespace Go.Rf
variable {L:Int} {a:Abs} {c i:Nat} {rs:List Route}
structure AbsF (rs:List Route) (a:Abs):Prop where
 n:1<=a.ma.length/\a.ma.length<=2
 rn:rs.length=8
 st:a.st.length=a.ma.length
 en:a.en.length=8
 ra:a.ra.length=8
 po:a.po.length=8
 rt:∀i,i < 8→0<=(rs.getD i default).t/\(rs.getD i default).t < a.ma.length
 len:∀c,c < a.ma.length→(a.st.getD c default).length<=4
 el:∀c,c < a.ma.length→∀i,i < (a.st.getD c default).length→0<=(a.st.getD c default).getD i default/\(a.st.getD c default).getD i default<=7
theorem AbsF.small (h:AbsF rs a):SmallA a:=by
 have h1:=h.n
 have hl:lenN a.st a.st.length<=1048576:=by
  have:∀i,i<=a.ma.length→lenN a.st i<=4 * i:=by
   intro i
   induction i with
   | zero=>intro _;exact Int.le_refl _
   | succ i ih=>intro hi;rw [b6O];have:=ih J;have:=h.len i J;omega
  have:=this a.st.length (by rw [h.st];exact Nat.le_refl _)
  have:=h.st
  omega
 exact ⟨by rw [h.en];decide,by rw [h.ra];decide,by rw [h.po];decide,by omega,by rw [h.st];omega,λi hi=>Nat.le_trans (h.len i (by rw [← h.st];exact hi)) (by decide),hl⟩
theorem b19 (h1:a.po.getD i default=true) (h2:(rs.getD i default).t=c) (h3:(rs.getD i default).p < (F8 rs a c L i).2):F8 rs a c L (i+1)=((i:Int),(rs.getD i default).p):=by rw [a2i,if_pos ⟨⟨h1,h2⟩,h3⟩]
theorem a3Z (h:a.po.getD i default=true→(rs.getD i default).t=c→¬ (rs.getD i default).p < (F8 rs a c L i).2):F8 rs a c L (i+1)=F8 rs a c L i:=by rw [a2i,if_neg (λq=>h q.1.1 q.1.2 q.2)]
theorem b5q (h1:a.po.getD i default=true) (h2:(rs.getD i default).t=c) (h3:u3 rs a c i < 0∨(rs.getD i default).p < (rs.getD (u3 rs a c i).toNat default).p):u3 rs a c (i+1)=(i:Int):=by rw [a0v,if_pos ⟨⟨h1,h2⟩,h3⟩]
theorem a30 (h:a.po.getD i default=true→(rs.getD i default).t=c→¬ (u3 rs a c i < 0∨(rs.getD i default).p < (rs.getD (u3 rs a c i).toNat default).p)):u3 rs a c (i+1)=u3 rs a c i:=by rw [a0v,if_neg (λq=>h q.1.1 q.1.2 q.2)]
theorem b4y (h:(a.st.getD c default).length=0):b18 rs a c=a.ma.getD c default:=by unfold b18;rw [if_pos h]
theorem b4z (h:0 < (a.st.getD c default).length):b18 rs a c=min (a.ma.getD c default) (rs.getD ((a.st.getD c default).getD (((a.st.getD c default).length:Int) - 1).toNat default).toNat default).p:=by
 unfold b18
 rw [if_neg J,show (((a.st.getD c default).length:Int) - 1).toNat=(a.st.getD c default).length - 1 by omega]
 rfl
theorem c0p (h:(a.st.getD c default).length=4):A9 rs a c=-1:=by unfold A9;rw [if_pos h]
theorem c0q (h:(a.st.getD c default).length≠4) (hi:i=8):A9 rs a c=(F8 rs a c (b18 rs a c) i).1:=by unfold A9;rw [if_neg h,hi]
theorem c0r {rs:List Route} {a:Abs} {c i:Nat} (hi:i=8) (h:u3 rs a c i < 0∨(a.st.getD c default).length=4∨a.ma.getD c default<=(rs.getD (u3 rs a c i).toNat default).p∨(0 < (a.st.getD c default).length/\b6P rs (a.st.getD c default)<=(rs.getD (u3 rs a c i).toNat default).p)):A9 rs a c=-1:=by subst hi;rw [b5p,if_pos h]
theorem c0s {rs:List Route} {a:Abs} {c i:Nat} (hi:i=8) (h:¬ (u3 rs a c i < 0∨(a.st.getD c default).length=4∨a.ma.getD c default<=(rs.getD (u3 rs a c i).toNat default).p∨(0 < (a.st.getD c default).length/\b6P rs (a.st.getD c default)<=(rs.getD (u3 rs a c i).toNat default).p))):A9 rs a c=u3 rs a c i:=by subst hi;rw [b5p,if_neg h]
end Go.Rf
namespace Go.Rf
open Go
def H1 (n:Int) (s:MStep):Bool :=
 if s.k=1 then m5 s.q 0 7 && (decide (s.c=0) && decide (s.v=0))
 else if s.k=2 then decide (s.q=0) && (decide (s.c=0) && decide (s.v=0))
 else if s.k=3∨s.k=4 then decide (s.q=0) && (m5 s.c 0 (n - 1) && decide (s.v=0))
 else if s.k=5 then decide (s.q=0) && (m5 s.c 0 (n - 1) && m5 s.v 0 16)
 else decide (s.k=6) && (m5 s.q 0 7 && (decide (s.c=0) && m5 s.v 0 1))
def a9C (l:List Int) (v:Int):Bool:=V6 l.length (λj=>decide (v=l.getD j default))
def c6I (rs:List Route) (a:Abs) (i:Nat):Bool:=a.en.getD i default && (a.ra.getD i default && !a9C (a.st.getD (rs.getD i default).t.toNat default) i)
def b7Q (rs:List Route) (a:Abs):Nat→List Bool
 | 0=>a.ra
 | i+1=>if c6I rs a i then (b7Q rs a i).set i false else b7Q rs a i
def b7R (rs:List Route) (a:Abs):Nat→List Bool
 | 0=>a.po
 | i+1=>if c6I rs a i then (b7R rs a i).set i true else b7R rs a i
def c6J (rs:List Route) (a:Abs):Abs:=⟨a.en,b7Q rs a 8,b7R rs a 8,a.ma,a.st⟩
def c1U (rs:List Route) (a:Abs) (s:MStep):Abs×Int×Bool :=
 if s.k=1 then ({a with ra:=a.ra.set s.q.toNat true},-1,!(a.ra.getD s.q.toNat default))
 else if s.k=2 then (c6J rs a,-1,true)
 else if s.k=3 then
  if A9 rs a s.c.toNat < 0 then (a,-1,false)
  else ({a with po:=a.po.set (A9 rs a s.c.toNat).toNat false,st:=a.st.set s.c.toNat (a.st.getD s.c.toNat default++[A9 rs a s.c.toNat])},A9 rs a s.c.toNat,true)
 else if s.k=4 then
  if (a.st.getD s.c.toNat default).length=0 then (a,-1,false)
  else ({a with st:=a.st.set s.c.toNat ((a.st.getD s.c.toNat default).take ((a.st.getD s.c.toNat default).length - 1))},(a.st.getD s.c.toNat default).getD ((a.st.getD s.c.toNat default).length - 1) default,true)
 else if s.k=5 then ({a with ma:=a.ma.set s.c.toNat s.v},-1,true)
 else ({a with en:=a.en.set s.q.toNat (decide (s.v=1))},-1,true)
end Go.Rf
namespace Go.Rf
theorem c0t {n k q c v:Int} (h:H1 n ⟨k,q,c,v⟩=true) (hk:k=1∨k=6):0<=q/\q<=7:=by
 rcases hk with rfl | rfl
 ·simp [H1,s2] at h;exact h.1
 ·simp [H1,s2] at h;exact h.1
theorem b2a {n k q c v:Int} (h:H1 n ⟨k,q,c,v⟩=true) (hk:k=3∨k=4∨k=5):0<=c/\c<=n - 1:=by
 rcases hk with rfl | rfl | rfl
 ·simp [H1,s2] at h;omega
 ·simp [H1,s2] at h;omega
 ·simp [H1,s2] at h;omega
theorem c6K {n k q c v:Int} (h:H1 n ⟨k,q,c,v⟩=true):1<=k/\k<=6:=by
 by_cases h1:k=1
 ·omega
 by_cases h2:k=2
 ·omega
 by_cases h3:k=3
 ·omega
 by_cases h4:k=4
 ·omega
 by_cases h5:k=5
 ·omega
 by_cases h6:k=6
 ·omega
 simp [H1,h1,h2,h3,h4,h5,h6] at h
end Go.Rf
namespace Go.Rf
open Go
theorem Y2 {l:List (List CI)} {c:List CI} {i j:Nat} (h:j < l.length) (hj:j=i):(l.set i c)[j]?=some c:=by
 subst hj
 simp [h]
end Go.Rf
namespace Go.Rf
section
variable {rs:List Route} {a:Abs} {sk sq sc sv:Int} {q c:Nat}
theorem mk1 (h:sk=1):c1U rs a ⟨sk,(q:Int),sc,sv⟩=({a with ra:=a.ra.set q true},-1,!(a.ra.getD q default)):=by subst h;rfl
theorem mk3 (h:sk=3) (hn:¬ A9 rs a c < 0):c1U rs a ⟨sk,sq,(c:Int),sv⟩=({a with po:=a.po.set (A9 rs a c).toNat false,st:=a.st.set c (a.st.getD c default++[A9 rs a c])},A9 rs a c,true):=by
 subst h
 show (if A9 rs a c < 0 then _ else _)=_
 rw [if_neg hn]
 rfl
end
section
variable {rs:List Route} {a:Abs} {s:MStep}
end
end Go.Rf
namespace Go.Rf
open Go
section
variable {k:Int} {xss:List (List Int)}
end
end Go.Rf
namespace Go.Rf
def b6Q (k:Int) (j:Nat):Route:=⟨k+2 * j,k+2 * j+1⟩
end Go.Rf
namespace Go.Rf
open Go
variable {f:Nat→Bool} {i n:Nat} {most:Bool}
structure Slot where
 s:Int
 q:Int
 p:Int
 deriving Inhabited,DecidableEq
variable {sl:List Slot} {x:Slot}
def e9 (x:Slot):List Value:=[.int .i64 x.s,.int .i64 x.q,.int .i64 x.p]
def a2x (x:Slot):Value:=.agg ⟨e9 x⟩
structure Wtr where
 q:Int
 p:Int
 deriving Inhabited,DecidableEq
variable {a b:Wtr}
def e7 (x:Wtr):List Value:=[.int .i64 x.q,.int .i64 x.p]
def a0T (x:Wtr):Value:=.agg ⟨e7 x⟩
structure Que where
 sl:List Slot
 wa:List Wtr
 deriving Inhabited,DecidableEq
structure Ifc where
 ma:Int
 st:List Int
 qu:Que
 deriving Inhabited,DecidableEq
structure Mach where
 rs:List Route
 en:List Bool
 ra:List Bool
 cp:List Ifc
 deriving Inhabited,DecidableEq
def zSl:Slot:=⟨0,0,0⟩
def wOf (x:Slot):Wtr:=⟨x.q,x.p⟩
def b4A (x y:Slot):Bool:=x.s==y.s && (x.q==y.q && x.p==y.p)
theorem b3w {y:Slot}:b4A x y=true↔x=y:=by cases x;cases y;simp [b4A]
def b4B (x y:Wtr):Bool:=x.q==y.q && x.p==y.p
theorem b3x {x y:Wtr}:b4B x y=true↔x=y:=by cases x;cases y;simp [b4B]
def fdP (irq:Int) (x:Slot):Bool:=!(decide (x.s=0)) && decide (x.q=irq)
def r9 (sl:List Slot) (irq:Int):Int:=G6 (λi=>fdP irq (sl.getD i default)) sl.length
def emP (x:Slot):Bool:=decide (x.s=0)
def freS (sl:List Slot):Int:=G6 (λi=>emP (sl.getD i default)) sl.length
def a9D (x:Slot):Bool:=m5 x.s 1 3 && (m5 x.q 0 7 && m5 x.p 0 15)
def E0 (sl:List Slot) (i:Nat):Bool:=if (sl.getD i default).s=0 then decide (sl.getD i default=zSl) else a9D (sl.getD i default) && !(V6 i (λj=>fdP (sl.getD i default).q (sl.getD j default)))
def a4U (sl:List Slot):Bool:=decide (sl.length=4) && a0H sl.length (E0 sl)
def a4V (x y:Int):Int:=if x < y then -1 else if y < x then 1 else 0
def urg (a b:Wtr):Int:=if a4V a.p b.p=0 then a4V a.q b.q else a4V a.p b.p
def lessW (a b:Wtr):Bool:=decide (a.p < b.p) || (decide (a.p=b.p) && decide (a.q < b.q))
theorem U2:lessW a b=true↔a.p < b.p∨(a.p=b.p/\a.q < b.q):=by simp [lessW]
theorem b3y:lessW a b=false↔¬ (a.p < b.p∨(a.p=b.p/\a.q < b.q)):=by rw [← Bool.not_eq_true,U2]
theorem a0U:urg a b < 0↔lessW a b=true:=by
 rw [U2];unfold urg a4V
 by_cases h1:a.p < b.p
 ·simp [h1]
 ·by_cases h2:b.p < a.p
  ·simp [h1,h2];omega
  ·have:a.p=b.p:=by omega
   simp [this]
   by_cases h3:a.q < b.q
   ·simp [h3]
   ·simp [h3]
    split<;>omega
theorem c0u:0 < urg a b↔lessW b a=true:=by
 rw [U2];unfold urg a4V
 by_cases h1:a.p < b.p
 ·simp [h1];omega
 ·by_cases h2:b.p < a.p
  ·simp [h1,h2]
  ·have:a.p=b.p:=by omega
   simp [this]
   by_cases h3:a.q < b.q
   ·simp [h3];omega
   ·simp [h3]
    split
    ·simp;omega
    ·simp;omega
theorem a9E (h:lessW a b=true):lessW b a=false:=by rw [U2] at h;rw [b3y];omega
theorem a3g {c:Wtr} (h:lessW a b=true) (h':lessW b c=true):lessW a c=true:=by rw [U2] at *;omega
theorem a32 (h:a.q≠b.q):lessW a b=!(lessW b a):=by
 cases h1:lessW b a
 ·rw [b3y] at h1;show _=true;rw [U2];omega
 ·exact a9E h1
def a4W (sl:List Slot) (most:Bool) (b:Int) (i:Nat):Bool:=decide ((sl.getD i default).s=1) && (decide (b < 0) || (if most then lessW (wOf (sl.getD i default)) (wOf (sl.getD b.toNat default)) else lessW (wOf (sl.getD b.toNat default)) (wOf (sl.getD i default))))
def G2 (sl:List Slot) (most:Bool):Nat→Int
 | 0=>-1
 | i+1=>if a4W sl most (G2 sl most i) i then (i:Int) else G2 sl most i
theorem a1F:G2 sl most (i+1)=if a4W sl most (G2 sl most i) i then (i:Int) else G2 sl most i:=rfl
theorem a3h (h:a4W sl most (G2 sl most i) i=true):G2 sl most (i+1)=(i:Int):=by rw [a1F,if_pos h]
theorem a3i (h:a4W sl most (G2 sl most i) i=false):G2 sl most (i+1)=G2 sl most i:=by rw [a1F,if_neg (by rw [h];decide)]
theorem a2j {sl:List Slot} {most:Bool}:∀i,-1<=G2 sl most i/\G2 sl most i < i
 | 0=>by simp [G2]
 | i+1=>by
  have:=@a2j sl most i
  rw [a1F]
  split<;>omega
theorem a52 {sl:List Slot} {most:Bool}:∀i,0<=G2 sl most i→(sl.getD (G2 sl most i).toNat default).s=1
 | 0=>by simp [G2]
 | i+1=>by
  have ih:=@a52 sl most i
  rw [a1F]
  split
  ·next h =>
   intro _
   simp only [a4W,Bool.and_eq_true,decide_eq_true_eq] at h
   simpa using h.1
  ·exact ih
theorem b3z {sl:List Slot} {most:Bool}:∀i,G2 sl most i < 0↔∀j,j < i→(sl.getD j default).s≠1
 | 0=>by simp [G2]
 | i+1=>by
  have ih:=@b3z sl most i
  rw [a1F]
  constructor
  ·intro h j hj
   split at h
   ·omega
   ·next hc =>
    have h':=ih.mp h
    by_cases e:j=i
    ·subst e
     intro hs
     apply hc
     simp only [a4W,Bool.and_eq_true,decide_eq_true_eq,Bool.or_eq_true]
     exact ⟨hs,.inl h⟩
    ·exact h' j J
  ·intro h
   rw [if_neg]
   ·exact ih.mpr λj hj=>h j J
   ·simp only [a4W,Bool.and_eq_true,decide_eq_true_eq]
    exact λg=>h i J g.1
def bstS (sl:List Slot) (most:Bool):Int:=G2 sl most sl.length
def b7S (sl:List Slot):Prop:=∀i j,i < j→j < sl.length→(sl.getD i default).s=1→(sl.getD j default).s=1→(sl.getD i default).q≠(sl.getD j default).q
theorem c0v (hd:b7S sl) (hi:i < sl.length) (h1:(sl.getD i default).s=1) (hb:0<=G2 sl most i):(if most then lessW (wOf (sl.getD i default)) (wOf (sl.getD (G2 sl most i).toNat default)) else lessW (wOf (sl.getD (G2 sl most i).toNat default)) (wOf (sl.getD i default)))=(decide (urg (wOf (sl.getD i default)) (wOf (sl.getD (G2 sl most i).toNat default)) < 0)==most):=by
 have hbl:=@a2j sl most i
 have hne:=hd (G2 sl most i).toNat i J hi (a52 i hb) h1
 have hne':(wOf (sl.getD i default)).q≠(wOf (sl.getD (G2 sl most i).toNat default)).q:=λe=>hne e.symm
 have e:decide (urg (wOf (sl.getD i default)) (wOf (sl.getD (G2 sl most i).toNat default)) < 0)=lessW (wOf (sl.getD i default)) (wOf (sl.getD (G2 sl most i).toNat default)):=by
  rw [Bool.eq_iff_iff,decide_eq_true_iff];exact a0U
 rw [e]
 cases most
 ·simp only [Bool.false_eq_true,if_false,beq_false]
  exact a32 (Ne.symm hne')
 ·simp
theorem b3A:a4U sl=true↔sl.length=4/\∀i,i < 4→E0 sl i=true:=by
 simp only [a4U,Bool.and_eq_true,decide_eq_true_eq,P9]
 constructor
 ·rintro ⟨h1,h2⟩;exact ⟨h1,λi hi=>h2 i J⟩
 ·rintro ⟨h1,h2⟩;exact ⟨h1,λi hi=>h2 i J⟩
theorem a3j:a9D x=true↔(1<=x.s/\x.s<=3)/\(0<=x.q/\x.q<=7)/\0<=x.p/\x.p<=15:=by simp only [a9D,Bool.and_eq_true,s2]
theorem a2k {irq:Int}:fdP irq x=true↔x.s≠0/\x.q=irq:=by simp [fdP]
theorem a9F:V6 n f=true↔∃i,i < n/\f i=true:=by
 constructor
 ·intro h
  simp only [V6,Bool.not_eq_true',a0H,List.all_eq_false,List.mem_range] at h
  obtain ⟨i,h1,h2⟩:=h
  exact ⟨i,h1,by simpa using h2⟩
 ·rintro ⟨i,h1,h2⟩;exact I9 h2 h1
theorem a0a:V6 n f=false↔∀i,i < n→f i=false:=by
 constructor
 ·intro h i hi
  cases hf:f i
  ·rfl
  ·rw [I9 hf hi] at h;cases h
 ·exact λh=>a17 h (Nat.le_refl _)
structure SlF (sl:List Slot):Prop where
 len:sl.length=4
 z:∀i,i < 4→(sl.getD i default).s=0→sl.getD i default=zSl
 ok:∀i,i < 4→(sl.getD i default).s≠0→(1<=(sl.getD i default).s/\(sl.getD i default).s<=3)/\(0<=(sl.getD i default).q/\(sl.getD i default).q<=7)/\0<=(sl.getD i default).p/\(sl.getD i default).p<=15
 dif:∀i j,i < j→j < 4→(sl.getD i default).s≠0→(sl.getD j default).s≠0→(sl.getD i default).q≠(sl.getD j default).q
theorem slF:a4U sl=true↔SlF sl:=by
 rw [b3A]
 constructor
 ·rintro ⟨h1,h2⟩
  refine ⟨h1,λi hi hz=>?_,λi hi hz=>?_,λi j hij hj hi0 hj0=>?_⟩
  ·have:=h2 i hi;unfold E0 at this;rw [if_pos hz] at this;exact of_decide_eq_true this
  ·have:=h2 i hi;unfold E0 at this;rw [if_neg hz,Bool.and_eq_true] at this;exact a3j.mp this.1
  ·have:=h2 j hj;unfold E0 at this;rw [if_neg hj0,Bool.and_eq_true,Bool.not_eq_true',a0a] at this
   have h3:=this.2 i hij
   intro e
   rw [a2k.mpr ⟨hi0,e⟩] at h3
   cases h3
 ·rintro ⟨h1,h2,h3,h4⟩
  refine ⟨h1,λi hi=>?_⟩
  unfold E0
  split
  ·next hz=>exact decide_eq_true (h2 i hi hz)
  ·next hz =>
   rw [Bool.and_eq_true,Bool.not_eq_true',a0a]
   refine ⟨a3j.mpr (h3 i hi hz),λj hj=>?_⟩
   rw [← Bool.not_eq_true,a2k]
   exact λg=>h4 j i hj hi g.1 hz g.2
theorem SlF.difS (h:SlF sl):b7S sl:=λi j hij hj h1 h2=>h.dif i j hij (by rw [← h.len];exact hj) J J
theorem b1d {sl:List Slot} {irq:Int}:(r9 sl irq=-1/\∀i,i < sl.length→fdP irq (sl.getD i default)=false)∨∃i:Nat,r9 sl irq=i/\i < sl.length/\(sl.getD i default).s≠0/\(sl.getD i default).q=irq:=by
 by_cases h:r9 sl irq=-1
 ·exact .inl ⟨h,b5c h⟩
 ·obtain ⟨i,h1,h2,_,h4⟩:=a1q h
  exact .inr ⟨i,h1,h2,a2k.mp h4⟩
theorem b6R {sl:List Slot}:(freS sl=-1/\∀i,i < sl.length→(sl.getD i default).s≠0)∨∃i:Nat,freS sl=i/\i < sl.length/\(sl.getD i default).s=0:=by
 by_cases h:freS sl=-1
 ·refine .inl ⟨h,λi hi=>?_⟩
  have:=b5c h i hi
  simpa [emP] using this
 ·obtain ⟨i,h1,h2,_,h4⟩:=a1q h
  exact .inr ⟨i,h1,h2,of_decide_eq_true h4⟩
theorem b3B (hi:i < sl.length) (h0:(sl.getD i default).s≠0):r9 sl (sl.getD i default).q=i↔V6 i (λj=>fdP (sl.getD i default).q (sl.getD j default))=false:=by
 constructor
 ·intro h
  obtain ⟨k,h1,h2,h3,h4⟩:=a1q (show r9 sl (sl.getD i default).q≠-1 by omega)
  have hk:k=i:=by
   have:(k:Int)=i:=by rw [← h1];exact h
   omega
  subst hk
  exact a0a.mpr h3
 ·intro h
  exact J4 (a0a.mp h) hi (a2k.mpr ⟨h0,Z⟩)
end Go.Rf
namespace Go.Rf
open Go Go.RowKit
section
variable {P:Program} [Env P] {w0:Base} {ops:Array Oper} {tb:List (Nat×TyI)} {o:Oper} {rest:List Oper} {T:List (Nat×AV)} {m m':List (Nat×Option Row)} {nx nt d:Nat} {Q:Exit→St→Prop} {c:Code} {r:AV}
theorem Gh.tl {id e sz:Nat} {ys:List (List Value)} {f:Bool} (hm:mem m id=some (.row e sz ys f)):Gh w0 ⟨T,m,nx,nt⟩ ⟨T,(id,some (.row e sz ys true)) :: m,nx,nt⟩:=by
 intro ρ a w hT hC
 obtain ⟨h1,h2⟩:=hC.rowF hm
 exact ⟨ρ,hT,hC.retell hm (row':=.row e sz ys true) ⟨h1.gen,h2⟩ λp b hb=>by cases hb⟩
theorem c0w {t e e' sz by_ id:Nat} {zs:List Value} {ys:List (List Value)} {f:Bool} {x lo:Operand} {k:IntKind} {l:Int} (G:Good P tb) (nx':Nat) (hn':Nat.beq nx' (Nat.succ nx)=true) (hd:o.dst=some d) (hlt:Nat.blt d nt=true) (ho:o.op=.slice t x (some lo) none none) (ht:look t tb=some (.slice e sz by_ zs)) (hx:ev T x=some (.own id)) (hm:mem m id=some (.row e' sz ys f))
 (hl:ev T lo=some (.v (.int k l))) (h0:0<=l) (h1:l<=ys.length)
 (hk:WL P w0 ops rest ⟨(d,.own nx) :: T,(nx,some (.row e' sz (ys.drop l.toNat) true)) :: (id,none) :: m,nx',nt⟩ Q):WX P w0 ops o rest ⟨T,m,nx,nt⟩ Q:=by
 have hn'':=Nat.eq_of_beq_eq_true hn'
 subst hn''
 intro ρ a w hT hC
 have hxe:=hT.ev hx
 simp only [RelV] at hxe
 obtain ⟨hrow,hall⟩:=hC.rowF hm
 obtain ⟨A,cap,he,hcap⟩:=hrow.slice
 have hrun:=a8J (G t _ ht) hT (A:=A) (lo:=some lo) (hi:=none) (l:=l) (h:=ys.length) (n:=ys.length) (cap:=cap) (by simp only [a4G,hl]) (by simp [a4G]) h0 h1 (Int.le_refl _) hcap w
 have hr:(execOp a.eval o).run P w=.ok (.value (.slice (if cap=l.toNat then A else A.map (·.add (l.toNat * sz))) (ys.length - l.toNat) (cap - l.toNat))) w:=by
  simp only [Option.map_none,Option.map_some,Int.toNat_natCast] at hrun
  simp only [execOp,ho,hxe.2,he,Option.map_none,Option.map_some,hrun,Sem.run_bind,Result.andThen_ok,Sem.run_pure]
 unfold Oper.wp
 rw [hr,Oper.upon_value,hd]
 generalize hv:(Value.slice (if cap=l.toNat then A else A.map (·.add (l.toNat * sz))) (ys.length - l.toNat) (cap - l.toNat))=v
 have hdl:(ys.drop l.toNat).length=ys.length - l.toNat:=List.length_drop
 have hbk:∀b,blk v=some b→blk (ρ id)=some b:=by
  intro b hb
  rw [he]
  rw [← hv] at hb
  cases A with
  | none=>split at hb<;>simp [blk] at hb
  | some ad =>
   split at hb
   ·exact hb
   ·simp only [Option.map_some,blk,y7] at hb;exact hb
 have hown:TlR w w0.w.heap.size e' sz v (ys.drop l.toNat):=by
  rcases hrow.gen with ⟨g1,rfl⟩ | ⟨g,o',cap',cur,g1,g2,g3,g4,g5,g6⟩
  ·refine .inl ⟨?_,by simp⟩
   rw [he] at g1;cases g1
   rw [← hv];simp
  ·rw [he] at g1
   cases g1
   have hF:=l6 (λc hc=>(hall c hc).1)
   by_cases hc:cap=l.toNat
   ·have hz:ys.length - l.toNat=0:=by omega
    have hnil:ys.drop l.toNat=[]:=List.drop_eq_nil_of_le J
    rw [if_pos hc] at hv
    exact .inr ⟨g,o',cap - l.toNat,cur,by rw [← hv,hdl],g2,g3,by rw [hdl];omega,g5,by rw [hnil];simp⟩
   ·rw [if_neg hc] at hv
    have hcc:cur.toList.length=cur.size:=by simp
    have hlen0:((cur.toList.drop o').take (ys.length * sz)).length=ys.length * sz:=by rw [g6];exact hF
    have hle:l.toNat * sz<=ys.length * sz:=Nat.mul_le_mul_right _ J
    rw [List.length_take,List.length_drop,hcc] at hlen0
    refine .inr ⟨g,o'+l.toNat * sz,cap - l.toNat,cur,by rw [← hv,hdl];simp [Addr.add_lit],g2,g3,by rw [hdl];omega,by omega,?_⟩
    rw [hdl,Z7 (λc hc=>(hall c hc).1) J,← g6,Nat.sub_mul,List.drop_take,List.drop_drop]
 have hC2:RelC w0 ρ ((id,none) :: m) nx w:=hC.sub λi r hr=>by
  by_cases e:id=i
  ·subst e;rw [i7] at hr;cases hr
  ·rw [d4 e] at hr;exact hr
 refine hk (upd ρ nx v) _ _ ((hT.add v).put hlt (by simp only [RelV];exact ⟨by omega,(i1 _ _ _).symm⟩)) (hC2.addP (λ_=>Z) ?_ ?_ ?_)
 ·refine ⟨?_,λc hc=>hall c (List.mem_of_mem_drop hc)⟩
  rw [i1]
  exact hown
 ·intro i r hr b hb hy
  by_cases e:id=i
  ·subst e;rw [i7] at hr;cases hr
  ·rw [d4 e] at hr
   exact hC.foot_apart hr hm (Ne.symm e) hb (.inl (hbk b hy))
 ·intro b hb
  exact hC.kept.2.2 id _ hm b (hbk b hb)
end
variable {T:List (Nat×AV)} {a b c d e:Int} {f:FuncId} {m:List (Nat×Option Row)} {nx:Nat} {x:Operand} {xs:List Operand} {ys:List (List Value)} {z:Value}
theorem ArgOK.fn {av:AV} (h:ArgOK m nx av (.v (.func (.func f) #[] #[]))):ArgOK m nx av (.fnc f []):=λw0 ρ w y hC hy=>by
 have:=h w0 ρ w y hC hy
 simp only [RelV] at this ⊢
 exact ⟨[],this,by simp [RelVs]⟩
theorem ArgsOK.fn2 {a:AV} (h:ArgsOK T m nx xs [a,.v (.func (.func f) #[] #[])]):ArgsOK T m nx xs [a,.fnc f []]:=by
 match xs,h with
 | x :: xs,⟨av,_,_,e,h1,h2,h3⟩ =>
  cases e
  match xs,h3 with
  | y :: ys,⟨av',_,_,e',g1,g2,g3⟩ =>
   cases e'
   exact ⟨av,_,_,Z,h1,h2,av',_,_,Z,g1,g2.fn,g3⟩
theorem ec3 {f:Int}:I3 [.int .i64 a,.int .i64 b,.int .i64 c] [.int .i64 d,.int .i64 e,.int .i64 f]=true↔a=d/\b=e/\c=f:=by
 simp [I3,a64]
theorem ec2:I3 [.int .i64 a,.int .i64 b] [.int .i64 d,.int .i64 e]=true↔a=d/\b=e:=by
 simp [I3,a64]
theorem c8q {f:Int} (h:I3 [.int .i64 a,.int .i64 b,.int .i64 c] [.int .i64 d,.int .i64 e,.int .i64 f]=false):¬ (a=d/\b=e/\c=f):=λg=>by rw [ec3.mpr g] at h;cases h
theorem ArgOK.pin {sz:Nat}:ArgOK m nx (.pin z sz ys) (.pin z sz ys):=λw0 ρ w y hC hy=>by
 simp only [RelV] at hy ⊢
 exact ⟨hy.1,hy.2.later hC.below⟩
theorem ArgsOK.pin1 {sz:Nat} {as:List AV} (hx:ev T x=some (.pin z sz ys)) (h:ArgsOK T m nx (x :: xs) (.lst sz ys :: as)):ArgsOK T m nx (x :: xs) (.pin z sz ys :: as):=by
 obtain ⟨av,a,as',e,h1,h2,h3⟩:=h
 cases e
 exact ⟨_,_,_,Z,hx,ArgOK.pin,h3⟩
section
variable {w0:Base} {T:List (Nat×AV)} {m:List (Nat×Option Row)} {nx nt:Nat}
theorem Gh.asPin {d t:Nat} {z:Value} {sz:Nat} {ys:List (List Value)} (hd:look d T=some (.v z)) (ht:look t T=some (.pin z sz ys)):Gh w0 ⟨T,m,nx,nt⟩ ⟨(d,.pin z sz ys) :: T,m,nx,nt⟩:=by
 intro ρ a w hT hC
 refine ⟨ρ,⟨λi x hi=>?_,hT.size,hT.defers⟩,hC⟩
 by_cases e:d=i
 ·subst e
  rw [n8] at hi
  cases hi
  have h1:=hT.tmps d _ hd
  have h2:=hT.tmps t _ ht
  simp only [RelV] at h1 h2 ⊢
  exact ⟨h1,by rw [h1,← h2.1];exact h2.2⟩
 ·rw [i8 e] at hi
  exact hT.tmps i x hi
end
end Go.Rf
namespace Go.Rf
open Go
variable {f:Nat→Bool} {i n:Nat}
def orI (l:List Int):Int:=if G6 (λi=>!decide (l.getD i default=0)) l.length=-1 then 0 else l.getD (G6 (λi=>!decide (l.getD i default=0)) l.length).toNat default
theorem b7T {l:List Int} (h:∀j,j < i→l.getD j default=0) (hi:i < l.length) (h0:¬ l.getD i default=0):orI l=l.getD i default:=by
 grind [orI,J4]
theorem c1V {l:List Int} {i:Nat} (h:∀j,j < i→l.getD j default=0) (hi:l.length<=i):orI l=0:=by
 grind [orI,a0o]
theorem c0x {a b:Wtr}:orI [a4V a.p b.p,a4V a.q b.q]=urg a b:=by
 unfold urg
 by_cases h:a4V a.p b.p=0
 ·rw [if_pos h]
  by_cases h2:a4V a.q b.q=0
  ·have e:orI [a4V a.p b.p,a4V a.q b.q]=0:=c1V (i:=2) (λj hj=>by
    match j,hj with
    | 0,_=>exact h
    | 1,_=>exact h2) (by simp)
   rw [e];exact h2.symm
  ·exact b7T (i:=1) (λj hj=>by
    match j,hj with
    | 0,_=>exact h) (by simp) h2
 ·rw [if_neg h]
  exact b7T (i:=0) (λj hj=>by omega) (by simp) h
theorem b1e {g:Nat→Bool} (h:∀j,j < n→f j=g j):G6 f n=G6 g n:=by
 grind [a1q,J4]
theorem a1G {α:Type} [Inhabited α] {l:List α} {i j:Nat} (h:j < i):(l.take i).getD j default=l.getD j default:=by
 grind
theorem b7U {sl:List Slot} {q:Int} (hi:i<=sl.length):r9 (sl.take i) q=G6 (λj=>fdP q (sl.getD j default)) i:=by
 grind [r9,b1e]
theorem b4C:0<=G6 f n↔V6 n f=true:=by
 have:=a3R (f:=f) (n:=n)
 rw [← this];simp
theorem a8P:G6 f n < 0↔V6 n f=false:=by
 have:=a3R (f:=f) (n:=n)
 rw [← this];simp
theorem b4D {f:Nat→Bool} {n:Nat}:-1<=G6 f n/\G6 f n < n∨(G6 f n=-1):=by
 grind [a1q]
theorem a2l {sl:List Slot} {q:Int}:-1<=r9 sl q/\r9 sl q < sl.length:=by
 have:=@b4D (λi=>fdP q (sl.getD i default)) sl.length
 unfold r9
 omega
theorem b7V {sl:List Slot}:-1<=freS sl/\freS sl < sl.length:=by
 have:=@b4D (λi=>emP (sl.getD i default)) sl.length
 unfold freS
 omega
section
variable {sl:List Slot} {i:Nat}
theorem c1W (h0:(sl.getD i default).s=0) (h:sl.getD i default=zSl):E0 sl i=true:=by unfold E0;rw [if_pos h0];exact decide_eq_true h
theorem b7W (h0:(sl.getD i default).s=0) (h:¬ sl.getD i default=zSl):E0 sl i=false:=by unfold E0;rw [if_pos h0];exact decide_eq_false h
theorem c1X (h0:¬ (sl.getD i default).s=0) (h1:a9D (sl.getD i default)=true) (h2:V6 i (λj=>fdP (sl.getD i default).q (sl.getD j default))=false):E0 sl i=true:=by unfold E0;rw [if_neg h0,h1,h2];rfl
theorem b4E (h0:¬ (sl.getD i default).s=0) (h1:a9D (sl.getD i default)=false):E0 sl i=false:=by unfold E0;rw [if_neg h0,h1];rfl
theorem b7X (h0:¬ (sl.getD i default).s=0) (h2:V6 i (λj=>fdP (sl.getD i default).q (sl.getD j default))=true):E0 sl i=false:=by unfold E0;rw [if_neg h0,h2,Bool.not_true,Bool.and_false]
theorem b4F (h:E0 sl i=false) (hi:i < sl.length):a4U sl=false:=by unfold a4U;rw [a0n h hi,Bool.and_false]
theorem b4G (h:sl.length≠4):a4U sl=false:=by unfold a4U;rw [decide_eq_false h,Bool.false_and]
theorem b7Y (hl:sl.length=4) (h:∀j,j < i→E0 sl j=true) (hi:4<=i):a4U sl=true:=b3A.mpr ⟨hl,λj hj=>h j J⟩
theorem a9G {x:Slot}:x=zSl↔x.s=0/\x.q=0/\x.p=0:=by cases x;simp [zSl]
theorem b7Z (h1:¬ ((0<=(sl.getD i default).s/\(sl.getD i default).s<=3)/\(0<=(sl.getD i default).q/\(sl.getD i default).q<=7)/\0<=(sl.getD i default).p/\(sl.getD i default).p<=15)):E0 sl i=false:=by
 grind [E0,zSl,a3j]
theorem c0y (hi:i < sl.length) (h1:(0<=(sl.getD i default).s/\(sl.getD i default).s<=3)/\(0<=(sl.getD i default).q/\(sl.getD i default).q<=7)/\0<=(sl.getD i default).p/\(sl.getD i default).p<=15)
 (h2:¬ ((sl.getD i default).s=0/\((sl.getD i default).q≠0∨(sl.getD i default).p≠0))) (h3:(sl.getD i default).s≠0→r9 sl (sl.getD i default).q=i):E0 sl i=true:=by
 grind [c1W,a9G,c1X,a3j,b3B]
theorem c0z (h0:(sl.getD i default).s=0) (h:(sl.getD i default).q≠0∨(sl.getD i default).p≠0):E0 sl i=false:=b7W h0 (λe=>by rw [e] at h;simp [zSl] at h)
theorem c0A (hi:i < sl.length) (h0:(sl.getD i default).s≠0) (h:r9 sl (sl.getD i default).q≠i):E0 sl i=false:=b7X h0 (by
 rw [← Bool.not_eq_false];exact λg=>h ((b3B hi h0).mpr g))
end
end Go.Rf
namespace Go.Rf
variable {b:Int} {i:Nat} {sl:List Slot} {w:Wtr} {wa:List Wtr} {x:Slot}
theorem c4A (h:m5 x.s 1 3=false):a9D x=false:=by simp only [a9D,h,Bool.false_and]
theorem c4B (h:m5 x.q 0 7=false):a9D x=false:=by simp only [a9D,h,Bool.false_and,Bool.and_false]
theorem c4C (h:m5 x.p 0 15=false):a9D x=false:=by simp only [a9D,h,Bool.and_false]
theorem b70 (h:∀j,j < i→E0 sl j=true) (hi:sl.length<=i):((sl.length:Int)==4)=a4U sl:=by
 by_cases hl:sl.length=4
 ·rw [b7Y hl h J];simp [hl]
 ·rw [b4G hl]
  grind
section
variable {sl:List Slot} {most:Bool} {i:Nat}
theorem a8Q (h:¬ (sl.getD i default).s=1):a4W sl most b i=false:=by simp only [a4W,decide_eq_false h,Bool.false_and]
theorem a8R (h:(sl.getD i default).s=1) (hb:b < 0):a4W sl most b i=true:=by simp only [a4W,decide_eq_true h,decide_eq_true hb,Bool.true_or,Bool.true_and]
theorem b2b (hd:b7S sl) (hi:i < sl.length) (h:(sl.getD i default).s=1) (hb:0<=G2 sl most i):a4W sl most (G2 sl most i) i=(decide (urg (wOf (sl.getD i default)) (wOf (sl.getD (G2 sl most i).toNat default)) < 0)==most):=by
 grind [c0v,a4W]
theorem b2c (h:(sl.getD i default).s=1) (hb:¬ b < 0):a4W sl most b i=(if most then lessW (wOf (sl.getD i default)) (wOf (sl.getD b.toNat default)) else lessW (wOf (sl.getD b.toNat default)) (wOf (sl.getD i default))):=by
 grind [a4W]
theorem a2F {α:Type} {f:α→List Value} {l:List α} {i:Nat} {x:α}:(l.map f).set i (f x)=(l.set i x).map f:=by rw [List.map_set]
end
def b4H (wa:List Wtr) (w:Wtr):Nat:=(wa.takeWhile (λx=>lessW x w)).length
theorem c0B (h:∀j,j < i→lessW (wa.getD j default) w=true) (hi:i<=wa.length) (he:i=wa.length∨(i < wa.length/\lessW (wa.getD i default) w=false)):b4H wa w=i:=by
 unfold b4H
 induction wa generalizing i with
 | nil=>simp at hi;simp [hi]
 | cons x wa ih =>
  cases i with
  | zero =>
   simp_all
  | succ i =>
   have h0:lessW x w=true:=h 0 J
   rw [List.takeWhile_cons,if_pos h0,List.length_cons]
   grind
theorem c0C {wa:List Wtr} {w:Wtr}:b4H wa w<=wa.length:=(List.takeWhile_sublist _).length_le
def insW (wa:List Wtr) (w:Wtr):List Wtr:=wa.take (b4H wa w)++[w]++wa.drop (b4H wa w)
theorem a54:(insW wa w).length=wa.length+1:=by
 have:=@c0C wa w
 simp [insW];omega
theorem a55 {wa:List Wtr} {w:Wtr} {i:Nat} (h:∀j,j < i→lessW (wa.getD j default) w=true) (hi:i<=wa.length) (he:i=wa.length∨(i < wa.length/\lessW (wa.getD i default) w=false)):insW wa w=wa.take i++[w]++wa.drop i:=by
 unfold insW
 rw [c0B h hi he]
def inW (wa:List Wtr) (q:Int):Int:=G6 (λj=>decide ((wa.getD j default).q=q)) wa.length
theorem c4D {wa:List Wtr} {q:Int}:-1<=inW wa q/\inW wa q < wa.length:=by
 have:=@b4D (λj=>decide ((wa.getD j default).q=q)) wa.length
 unfold inW
 omega
theorem b71 {q:Int} (hi:i<=wa.length):inW (wa.take i) q=G6 (λj=>decide ((wa.getD j default).q=q)) i:=by
 grind [inW,b1e]
def setd (q:Que):Bool:=decide (q.wa.length=0) || (decide (freS q.sl < 0) && (decide (bstS q.sl false < 0) || lessW (wOf (q.sl.getD (bstS q.sl false).toNat default)) (q.wa.getD 0 default)))
def oneWa (sl:List Slot) (wa:List Wtr) (i:Nat):Bool:=m5 (wa.getD i default).q 0 7 && (m5 (wa.getD i default).p 0 15 && (decide (r9 sl (wa.getD i default).q < 0) && (!(V6 i (λj=>decide ((wa.getD j default).q=(wa.getD i default).q))) && (decide (i=0) || lessW (wa.getD (i - 1) default) (wa.getD i default)))))
def c0D (sl:List Slot) (wa:List Wtr):Bool:=a0H wa.length (oneWa sl wa)
def a78 (q:Que):Bool:=a4U q.sl && c0D q.sl q.wa
def b0u (q:Que):Bool:=a78 q && setd q
theorem I4:oneWa sl wa i=true↔(0<=(wa.getD i default).q/\(wa.getD i default).q<=7)/\(0<=(wa.getD i default).p/\(wa.getD i default).p<=15)/\r9 sl (wa.getD i default).q < 0/\(∀j,j < i→(wa.getD j default).q≠(wa.getD i default).q)/\(i=0∨lessW (wa.getD (i - 1) default) (wa.getD i default)=true):=by
 grind [oneWa,s2,a0a]
theorem b5r (h:¬ ((0<=(wa.getD i default).q/\(wa.getD i default).q<=7)/\(0<=(wa.getD i default).p/\(wa.getD i default).p<=15)/\r9 sl (wa.getD i default).q < 0/\(∀j,j < i→(wa.getD j default).q≠(wa.getD i default).q)/\(i=0∨lessW (wa.getD (i - 1) default) (wa.getD i default)=true))):oneWa sl wa i=false:=by
 rw [← Bool.not_eq_true,I4];exact h
theorem b72 {q:Que} (h:a4U q.sl=false):a78 q=false:=by unfold a78;rw [h,Bool.false_and]
theorem b73 {q:Que} {i:Nat} (h:oneWa q.sl q.wa i=false) (hi:i < q.wa.length):a78 q=false:=by unfold a78 c0D;rw [a0n h hi,Bool.and_false]
theorem b74 {q:Que} {i:Nat} (h1:a4U q.sl=true) (h:∀j,j < i→oneWa q.sl q.wa j=true) (hi:q.wa.length<=i):a78 q=true:=by unfold a78 c0D;rw [h1,a15 h hi];rfl
theorem b4I:∀(n:Nat) (f:Nat→Int) (k:Nat),(∀i,i < n→0<=f i/\f i < k)→(∀i j,i < j→j < n→f i≠f j)→n<=k
 | n,f,0,h,_=>by
  rcases Nat.eq_zero_or_pos n with h0 | h0
  ·omega
  ·have:=h 0 h0;omega
 | n,f,k+1,h,hd=>by
  by_cases hx:∃i,i < n/\f i=k
  ·obtain ⟨i,hi,hk⟩:=hx
   have:=b4I (n - 1) (λj=>if j < i then f j else f (j+1)) k (λj hj=>by
    split
    ·next hlt=>have:=h j J;have:=hd j i hlt hi;omega
    ·next hge=>have:=h (j+1) J;have:=hd i (j+1) J J;omega) (λa b hab hb=>by
    split
    ·next h1 =>
     split
     ·exact hd a b hab J
     ·exact hd a (b+1) J J
    ·next h1 =>
     rw [if_neg J]
     exact hd (a+1) (b+1) J J)
   omega
  ·have:=b4I n f k (λi hi=>by
    have h1:=h i hi
    have h2:f i≠k:=λe=>hx ⟨i,hi,e⟩
    omega) hd
   omega
theorem b2d {n:Nat} (h:∀j,j < n→oneWa sl wa j=true):n<=8 :=
 b4I n (λi=>(wa.getD i default).q) 8 (λi hi=>by have:=(I4.mp (h i hi)).1;omega) (λi j hij hj=>(I4.mp (h j hj)).2.2.2.1 i hij)
structure PaF (q:Que):Prop where
 sl:SlF q.sl
 wn:q.wa.length<=8
 wa:∀i,i < q.wa.length→oneWa q.sl q.wa i=true
theorem paF {q:Que}:a78 q=true↔PaF q:=by
 unfold a78 c0D
 rw [Bool.and_eq_true,P9]
 exact ⟨λh=>⟨slF.mp h.1,b2d h.2,h.2⟩,λh=>⟨slF.mpr h.sl,h.wa⟩⟩
theorem a9H (w:Wtr):∀u∈e7 w,u.oneCell'=true:=by intro u hu;simp [e7] at hu;rcases hu with rfl | rfl<;>rfl
theorem a9I {α:Type} {xs:List α} {f:α→List Value}:((xs.map f).drop ((i:Int)).toNat).take (((xs.map f).length:Int).toNat - ((i:Int)).toNat)=(xs.drop i).map f:=by
 rw [Int.toNat_natCast,Int.toNat_natCast,List.take_of_length_le (by rw [List.length_drop];exact Nat.le_refl _),List.map_drop]
theorem b75 {q:Que} (h:q.wa.length=0):setd q=true:=by unfold setd;rw [decide_eq_true h,Bool.true_or]
theorem b76 {q:Que} (h:¬ q.wa.length=0) (h2:0<=freS q.sl):setd q=false:=by unfold setd;rw [decide_eq_false h,decide_eq_false J];rfl
theorem b77 {q:Que} (h2:freS q.sl < 0) (h3:bstS q.sl false < 0):setd q=true:=by unfold setd;rw [decide_eq_true h2,decide_eq_true h3];simp
theorem b78 {q:Que} (h:¬ q.wa.length=0) (h2:freS q.sl < 0) (h3:¬ bstS q.sl false < 0):setd q=lessW (wOf (q.sl.getD (bstS q.sl false).toNat default)) (q.wa.getD 0 default):=by unfold setd;rw [decide_eq_false h,decide_eq_true h2,decide_eq_false h3];simp
theorem a0V {sl:List Slot} {most:Bool}:-1<=bstS sl most/\bstS sl most < sl.length:=a2j _
theorem b2e {most:Bool} (h:sl.length=i):G2 sl most i=bstS sl most:=by subst h;rfl
theorem b79 (hs:a4U sl=true) (h:∀j,j < i→oneWa sl wa j=true) (hi:wa.length<=i∨8 < i) (hn:i<=wa.length):decide ((wa.length:Int)<=8)=a78 ⟨sl,wa⟩:=by
 have h8:=b2d h
 rw [b74 (q:=⟨sl,wa⟩) hs h (show wa.length<=i by omega)]
 simp;omega
end Go.Rf
namespace Go.Rf
open Go
variable {irq:Int} {sl:List Slot} {w:Wtr} {wa:List Wtr}
def a2m (sl:List Slot) (lim:Int):Bool:=decide (0<=bstS sl true) && decide ((sl.getD (bstS sl true).toNat default).p < lim)
def tkS (sl:List Slot):List Slot:=sl.set (bstS sl true).toNat ⟨2,(sl.getD (bstS sl true).toNat default).q,(sl.getD (bstS sl true).toNat default).p⟩
def tkI (sl:List Slot):Int:=(sl.getD (bstS sl true).toNat default).q
def tkT (sl:List Slot) (lim:Int):List Slot×Int×Bool:=if a2m sl lim then (tkS sl,tkI sl,true) else ([],0,false)
section
variable {sl:List Slot} {lim irq p:Int}
theorem b5s (h:a2m sl lim=true):tkT sl lim=(tkS sl,tkI sl,true):=by unfold tkT;rw [h];rfl
theorem b8a (h:a2m sl lim=false):tkT sl lim=([],0,false):=by unfold tkT;rw [h];rfl
theorem W8:a2m sl lim=true↔0<=bstS sl true/\(sl.getD (bstS sl true).toNat default).p < lim:=by simp [a2m]
theorem b2f:a2m sl lim=false↔¬ (0<=bstS sl true/\(sl.getD (bstS sl true).toNat default).p < lim):=by rw [← Bool.not_eq_true,W8]
def ptS (sl:List Slot) (irq:Int):List Slot:=sl.set (r9 sl irq).toNat ⟨if (sl.getD (r9 sl irq).toNat default).s=2 then 3 else (sl.getD (r9 sl irq).toNat default).s,(sl.getD (r9 sl irq).toNat default).q,(sl.getD (r9 sl irq).toNat default).p⟩
def edX (sl:List Slot) (irq:Int):Slot:=if (sl.getD (r9 sl irq).toNat default).s=3 then ⟨1,irq,(sl.getD (r9 sl irq).toNat default).p⟩ else zSl
def edS (sl:List Slot) (irq:Int):List Slot:=sl.set (r9 sl irq).toNat (edX sl irq)
def P3 (x:Slot):Bool:=decide (x.s=2) || decide (x.s=3)
theorem u5 {x:Slot}:P3 x=true↔x.s=2∨x.s=3:=by simp [P3]
theorem c6L (h:0<=r9 sl irq):(sl.getD (r9 sl irq).toNat default).q=irq/\(sl.getD (r9 sl irq).toNat default).s≠0:=by
 grind [b1d]
end
def stK (q:Que):Nat:=if freS q.sl < 0 then (bstS q.sl false).toNat else (freS q.sl).toNat
def stW (q:Que):List Wtr:=if freS q.sl < 0 then insW (q.wa.drop 1) (wOf (q.sl.getD (bstS q.sl false).toNat default)) else q.wa.drop 1
def stQ (q:Que):Que:=⟨q.sl.set (stK q) ⟨1,(q.wa.getD 0 default).q,(q.wa.getD 0 default).p⟩,stW q⟩
def wtS (x:Slot):Nat:=if x.s=0 then 2000 else if x.s=1 then (8 * x.p+x.q).toNat else 0
def phi (q:Que):Nat:=(q.sl.map wtS).sum
def a67:Nat→Que→Que
 | 0,q=>q
 | n+1,q=>if setd q then q else a67 n (stQ q)
def a1H (q:Que):Que:=a67 (phi q+1) q
def ltW (a b:Wtr):Prop:=lessW a b=true/\a.q≠b.q
structure QF (q:Que):Prop where
 sl:SlF q.sl
 wn:q.wa.length<=9
 wa:∀w∈q.wa,(0<=w.q/\w.q<=7)/\(0<=w.p/\w.p<=15)/\∀x∈q.sl,x.s≠0→x.q≠w.q
 pw:q.wa.Pairwise ltW
theorem n6 {α:Type} [Inhabited α] {l:List α} {x:α}:x∈l↔∃i,i < l.length/\l.getD i default=x:=by
 constructor
 ·intro h
  obtain ⟨i,hi,e⟩:=List.getElem_of_mem h
  exact ⟨i,hi,by rw [List.getD_eq_getElem?_getD,List.getElem?_eq_getElem hi];exact e⟩
 grind
theorem a56 {α:Type} [Inhabited α] {l:List α} {R:α→α→Prop}:l.Pairwise R↔∀i j,i < j→j < l.length→R (l.getD i default) (l.getD j default):=by
 rw [List.pairwise_iff_getElem]
 grind
theorem c0E:r9 sl irq < 0↔∀j,j < sl.length→¬ ((sl.getD j default).s≠0/\(sl.getD j default).q=irq):=by
 grind [r9,a8P,a0a,a2k]
theorem a57:r9 sl irq < 0↔∀x∈sl,x.s≠0→x.q≠irq:=by
 grind [c0E,n6]
theorem PaF.q {q:Que} (h:PaF q):QF q:=by
 refine ⟨h.sl,Nat.le_succ_of_le h.wn,λw hw=>?_,a56.mpr ?_⟩
 ·obtain ⟨i,hi,rfl⟩:=n6.mp hw
  obtain ⟨h1,h2,h3,_⟩:=I4.mp (h.wa i hi)
  exact ⟨h1,h2,a57.mp h3⟩
 ·intro i j hij hj
  refine ⟨?_,(I4.mp (h.wa j hj)).2.2.2.1 i hij⟩
  induction j with
  | zero=>omega
  | succ j ih =>
   have hlast:lessW (q.wa.getD j default) (q.wa.getD (j+1) default)=true:=by
    rcases (I4.mp (h.wa (j+1) hj)).2.2.2.2 with g | g
    ·omega
    ·exact g
   by_cases e:i=j
   ·subst e;exact hlast
   ·exact a3g (ih J J) hlast
theorem QF.pa {q:Que} (h:QF q):PaF q:=by
 have hp:=a56.mp h.pw
 have h8:∀i,i < q.wa.length→oneWa q.sl q.wa i=true:=λi hi=>by
  obtain ⟨h1,h2,h3⟩:=h.wa _ (n6.mpr ⟨i,hi,Z⟩)
  refine I4.mpr ⟨h1,h2,a57.mpr h3,λj hj=>(hp j i hj hi).2,?_⟩
  rcases Nat.eq_zero_or_pos i with g | g
  ·exact .inl g
  ·exact .inr (hp (i - 1) i J hi).1
 exact ⟨h.sl,b2d h8,h8⟩
theorem QF.wn8 {q:Que} (h:QF q):q.wa.length<=8:=h.pa.wn
theorem H2 {α:Type} [Inhabited α] {l:List α} {i j:Nat} {x:α} (hi:i < l.length):(l.set i x).getD j default=if i=j then x else l.getD j default:=by
 grind
theorem SlF.set (h:SlF sl) {k:Nat} {x:Slot} (hk:k < 4) (hx:(1<=x.s/\x.s<=3)/\(0<=x.q/\x.q<=7)/\0<=x.p/\x.p<=15) (hq:∀j,j < 4→j≠k→(sl.getD j default).s≠0→(sl.getD j default).q≠x.q):SlF (sl.set k x):=by
 have hl:k < sl.length:=by rw [h.len];exact hk
 refine ⟨by rw [List.length_set];exact h.len,λi hi=>?_,λi hi=>?_,λi j hij hj=>?_⟩
 ·rw [H2 hl];split
  ·intro e;omega
  ·exact h.z i hi
 ·rw [H2 hl];split
  ·intro _;exact hx
  ·exact h.ok i hi
 ·rw [H2 hl,H2 hl]
  by_cases e1:k=i
  ·grind
  ·rw [if_neg e1]
   by_cases e2:k=j
   ·grind
   ·rw [if_neg e2];exact h.dif i j hij hj
theorem SlF.setZ (h:SlF sl) {k:Nat} (hk:k < 4):SlF (sl.set k zSl):=by
 have hl:k < sl.length:=by rw [h.len];exact hk
 refine ⟨by rw [List.length_set];exact h.len,λi hi=>?_,λi hi=>?_,λi j hij hj=>?_⟩
 ·rw [H2 hl];split
  ·intro _;rfl
  ·exact h.z i hi
 ·rw [H2 hl];split
  ·intro e;exact absurd Z e
  ·exact h.ok i hi
 ·rw [H2 hl,H2 hl]
  split
  ·intro e;exact absurd Z e
  ·split
   ·intro _ e;exact absurd Z e
   ·exact h.dif i j hij hj
theorem b8b {α:Type} {p:α→Bool} {x:α}:∀{l:List α},x∈l.takeWhile p→p x=true
 | [],h=>by simp at h
 | y :: l,h=>by
  rw [List.takeWhile_cons] at h
  split at h
  ·next hy =>
   rcases List.mem_cons.mp h with rfl | h
   ·exact hy
   ·exact b8b h
  ·cases h
theorem b5t:insW wa w=wa.takeWhile (λx=>lessW x w)++[w]++wa.dropWhile (λx=>lessW x w):=by
 have h:=List.takeWhile_append_dropWhile (p:=λx=>lessW x w) (l:=wa)
 unfold insW b4H
 grind
theorem a58 {x:Wtr}:x∈insW wa w↔x=w∨x∈wa:=by
 have h:=List.takeWhile_append_dropWhile (p:=λx=>lessW x w) (l:=wa)
 rw [b5t]
 grind
theorem b2g (h:wa.Pairwise ltW) (hd:∀x∈wa,x.q≠w.q):(insW wa w).Pairwise ltW:=by
 rw [b5t]
 have hs:=List.takeWhile_append_dropWhile (p:=λx=>lessW x w) (l:=wa)
 have hp:(wa.takeWhile (λx=>lessW x w)++wa.dropWhile (λx=>lessW x w)).Pairwise ltW:=by rw [hs];exact h
 obtain ⟨p1,p2,p3⟩:=List.pairwise_append.mp hp
 have t1:∀x∈wa.takeWhile (λx=>lessW x w),ltW x w:=λx hx=>by
  refine ⟨?_,hd x (by rw [← hs];exact List.mem_append_left _ hx)⟩
  exact b8b (p:=λx=>lessW x w) hx
 have t2:∀x∈wa.dropWhile (λx=>lessW x w),ltW w x:=by
  cases hdw:wa.dropWhile (λx=>lessW x w) with
  | nil=>intro x hx;cases hx
  | cons y r =>
   have hy:lessW y w=false:=by
    have:=List.head?_dropWhile_not (λx=>lessW x w) wa
    grind
   have hyq:y.q≠w.q:=hd y (by rw [← hs,hdw];simp)
   have hwy:ltW w y:=⟨by rw [a32 (Ne.symm hyq),hy];rfl,Ne.symm hyq⟩
   rw [hdw] at p2
   intro x hx
   rcases List.mem_cons.mp hx with rfl | hx
   ·exact hwy
   ·have:=(List.pairwise_cons.mp p2).1 x hx
    exact ⟨a3g hwy.1 this.1,Ne.symm (hd x (by rw [← hs,hdw];simp [hx]))⟩
 grind
theorem b5u {α:Type} [Inhabited α] {f:α→Nat} {x:α}:∀{l:List α} {k:Nat},k < l.length→((l.set k x).map f).sum+f (l.getD k default)=(l.map f).sum+f x
 | [],k,h=>by simp at h
 | y :: l,0,_=>by simp;omega
 | y :: l,k+1,h=>by
  have:=b5u (f:=f) (x:=x) (l:=l) (k:=k) (by simpa using h)
  grind
theorem a6a {α:Type} [Inhabited α] {l:List α} {k:Nat} {x y:α} (hk:k < l.length) (h:y∈l.set k x):y=x∨∃j,j < l.length/\j≠k/\l.getD j default=y:=by
 grind [n6,H2]
theorem a0i {most:Bool} (h:0<=bstS sl most):∃k:Nat,bstS sl most=k/\k < sl.length/\(sl.getD k default).s=1:=by
 have hb:=@a0V sl most
 refine ⟨(bstS sl most).toNat,by omega,by omega,a52 _ h⟩
structure NotSet (q:Que) (k:Nat) (w:Wtr) (r:List Wtr):Prop where
 wa:q.wa=w :: r
 kn:stK q=k
 kl:k < 4
 st:(freS q.sl=k/\(q.sl.getD k default).s=0/\stW q=r)∨(freS q.sl < 0/\bstS q.sl false=k/\(q.sl.getD k default).s=1/\lessW w (wOf (q.sl.getD k default))=true/\stW q=insW r (wOf (q.sl.getD k default)))
theorem b4J {q:Que} (h:QF q) (hs:setd q=false):∃k w r,NotSet q k w r:=by
 have h0:q.wa.length≠0:=λe=>by rw [b75 e] at hs;cases hs
 obtain ⟨w,r,hw⟩:∃w r,q.wa=w :: r:=by
  cases hq:q.wa with
  | nil=>rw [hq] at h0;exact absurd Z h0
  | cons w r=>exact ⟨w,r,Z⟩
 rcases @b6R q.sl with ⟨f1,f2⟩ | ⟨i,f1,f2,f3⟩
 ·have hb:0<=bstS q.sl false:=by
   grind [b77]
  rw [b78 h0 J J] at hs
  obtain ⟨k,hk,hkl,hk1⟩:=a0i hb
  have hkn:(bstS q.sl false).toNat=k:=by omega
  rw [hkn,hw] at hs
  have hs:lessW (wOf (q.sl.getD k default)) w=false:=hs
  have hne:(wOf (q.sl.getD k default)).q≠w.q:=(h.wa w (by rw [hw];simp)).2.2 _ (n6.mpr ⟨k,hkl,Z⟩) J
  refine ⟨k,w,r,hw,by unfold stK;rw [if_pos J,hkn],by rw [← h.sl.len];exact hkl,.inr ⟨by omega,hk,hk1,?_,?_⟩⟩
  ·rw [a32 (Ne.symm hne),hs];rfl
  ·unfold stW;rw [if_pos J,hkn,hw];rfl
 ·exact ⟨i,w,r,hw,by unfold stK;rw [if_neg J,f1];rfl,by rw [← h.sl.len];exact f2,.inl ⟨f1,f3,by unfold stW;rw [if_neg J,hw];rfl⟩⟩
theorem NotSet.eq {q:Que} {k:Nat} {r:List Wtr} (n:NotSet q k w r):stQ q=⟨q.sl.set k ⟨1,w.q,w.p⟩,stW q⟩:=by
 unfold stQ;rw [n.kn,n.wa];rfl
theorem b1f {q:Que} (h:QF q) (hs:setd q=false):QF (stQ q)/\phi (stQ q) < phi q:=by
 obtain ⟨k,w,r,n⟩:=b4J h hs
 rw [n.eq]
 have hl:k < q.sl.length:=by rw [h.sl.len];exact n.kl
 obtain ⟨hw1,hw2,hw3⟩:=h.wa w (by rw [n.wa];simp)
 have hpw:=h.pw
 rw [n.wa] at hpw
 obtain ⟨hp1,hp2⟩:=List.pairwise_cons.mp hpw
 have hrm:∀v∈r,v∈q.wa:=λv hv=>by rw [n.wa];simp [hv]
 have hsum:=b5u (f:=wtS) (x:=(⟨1,w.q,w.p⟩:Slot)) hl
 have hwt:wtS ⟨1,w.q,w.p⟩=(8 * w.p+w.q).toNat:=rfl
 have hsl:SlF (q.sl.set k ⟨1,w.q,w.p⟩):=h.sl.set n.kl ⟨⟨by show (1:Int)<=1;omega,by show (1:Int)<=3;omega⟩,hw1,hw2⟩ (λj hj hjk h0=>hw3 _ (n6.mpr ⟨j,by rw [h.sl.len];exact hj,Z⟩) h0)
 rcases n.st with ⟨f1,f2,f3⟩ | ⟨f0,f1,f2,f3,f4⟩
 ·rw [f3]
  refine ⟨⟨hsl,by have:=h.wn;rw [n.wa] at this;simp at this;show r.length<=9;omega,λv hv=>?_,hp2⟩,?_⟩
  ·obtain ⟨g1,g2,g3⟩:=h.wa v (hrm v hv)
   refine ⟨g1,g2,λx hx h0=>?_⟩
   rcases a6a hl hx with rfl | ⟨j,hj,_,rfl⟩
   ·exact (hp1 v hv).2
   grind
  ·have:wtS (q.sl.getD k default)=2000:=by unfold wtS;rw [if_pos f2]
   show ((q.sl.set k ⟨1,w.q,w.p⟩).map wtS).sum < (q.sl.map wtS).sum
   omega
 ·rw [f4]
  have hb:=h.sl.ok k n.kl J
  refine ⟨⟨hsl,?_,λv hv=>?_,b2g hp2 λx hx=>?_⟩,?_⟩
  ·have:=h.wn;rw [n.wa] at this;simp at this
   show (insW r _).length<=9
   rw [a54];omega
  ·rcases a58.mp hv with rfl | hv
   ·refine ⟨hb.2.1,hb.2.2,λx hx h0=>?_⟩
    rcases a6a hl hx with rfl | ⟨j,hj,hjk,rfl⟩
    ·exact λe=>hw3 _ (n6.mpr ⟨k,hl,Z⟩) J e.symm
    ·intro e
     have h4:=h.sl.len
     rcases Nat.lt_or_ge j k with g | g
     ·exact h.sl.dif j k g n.kl h0 J e
     ·exact h.sl.dif k j J J J h0 e.symm
   ·obtain ⟨g1,g2,g3⟩:=h.wa v (hrm v hv)
    refine ⟨g1,g2,λx hx h0=>?_⟩
    rcases a6a hl hx with rfl | ⟨j,hj,_,rfl⟩
    ·exact (hp1 v hv).2
    grind
  ·exact λe=>(h.wa x (hrm x hx)).2.2 _ (n6.mpr ⟨k,hl,Z⟩) J e.symm
  ·have:wtS (q.sl.getD k default)=(8 * (q.sl.getD k default).p+(q.sl.getD k default).q).toNat:=by unfold wtS;rw [if_neg J,if_pos f2]
   rw [U2] at f3
   have f3:w.p < (q.sl.getD k default).p∨(w.p=(q.sl.getD k default).p/\w.q < (q.sl.getD k default).q):=f3
   show ((q.sl.set k ⟨1,w.q,w.p⟩).map wtS).sum < (q.sl.map wtS).sum
   omega
theorem b1g:∀{n m:Nat} {q:Que},QF q→phi q < n→phi q < m→a67 n q=a67 m q
 | n+1,m+1,q,h,h1,h2=>by
  unfold a67
  cases hs:setd q
  ·obtain ⟨g1,g2⟩:=b1f h hs
   simp only [Bool.false_eq_true,if_false]
   exact b1g g1 J J
  ·rfl
theorem b1h {q:Que} (h:QF q) (hs:setd q=false):a1H q=a1H (stQ q):=by
 grind [b1f,a1H,a67,b1g]
theorem b1i {q:Que} (hs:setd q=true):a1H q=q:=by unfold a1H a67;rw [hs];rfl
theorem b5v:∀{n:Nat} {q:Que},QF q→phi q < n→QF (a67 n q)/\setd (a67 n q)=true
 | n+1,q,h,h1=>by
  unfold a67
  cases hs:setd q
  ·obtain ⟨g1,g2⟩:=b1f h hs
   simp only [Bool.false_eq_true,if_false]
   exact b5v g1 J
  grind
theorem b5w {q:Que} (h:QF q):QF (a1H q)/\setd (a1H q)=true:=b5v h (Nat.lt_succ_self _)
theorem a9J {q:Que}:b0u q=true↔QF q/\setd q=true:=by
 unfold b0u
 rw [Bool.and_eq_true,paF]
 exact ⟨λh=>⟨h.1.q,h.2⟩,λh=>⟨h.1.pa,h.2⟩⟩
def actL (sl:List Slot):List Wtr:=(sl.filter P3).map wOf
theorem b3C:∀{k:Nat} {x:Slot},k < sl.length→P3 x=P3 (sl.getD k default)→(P3 x=true→wOf x=wOf (sl.getD k default))→actL (sl.set k x)=actL sl:=by
 unfold actL
 induction sl with
 | nil=>intro k x hk;simp at hk
 | cons y sl ih =>
  intro k x hk h1 h2
  cases k with
  | zero =>
   simp only [List.set_cons_zero,List.filter_cons]
   have h1:P3 x=P3 y:=h1
   have h2:P3 x=true→wOf x=wOf y:=h2
   rw [h1]
   cases hy:P3 y
   ·simp
   ·rw [hy] at h1
    simp [h2 h1]
  | succ k =>
   have:=ih (k:=k) (x:=x) (by simpa using hk) (by simpa using h1) (by simpa using h2)
   simp only [List.set_cons_succ,List.filter_cons]
   split
   ·simp only [List.map_cons,this]
   ·exact this
theorem H3:w∈actL sl↔∃x∈sl,P3 x=true/\wOf x=w:=by
 simp [actL,and_assoc]
theorem c0F {q:Que} (h:QF q) (hs:setd q=false):actL (stQ q).sl=actL q.sl:=by
 obtain ⟨k,w,r,n⟩:=b4J h hs
 rw [n.eq]
 have hl:k < q.sl.length:=by rw [h.sl.len];exact n.kl
 refine b3C hl ?_ (λg=>?_)
 ·have:P3 (q.sl.getD k default)=false:=by
   rcases n.st with ⟨_,f,_⟩ | ⟨_,_,f,_⟩<;>rw [← Bool.not_eq_true,u5]<;>omega
  rw [this];rfl
 ·cases g
theorem b3D:∀{n:Nat} {q:Que},QF q→actL (a67 n q).sl=actL q.sl
 | 0,q,_=>rfl
 | n+1,q,h=>by
  unfold a67
  cases hs:setd q
  ·simp only [Bool.false_eq_true,if_false]
   rw [b3D (b1f h hs).1,c0F h hs]
  ·rfl
theorem b3E {q:Que} (h:QF q):actL (a1H q).sl=actL q.sl:=b3D h
def a79 (q:Que) (irq p:Int):Que:=if 0<=r9 q.sl irq then ⟨ptS q.sl irq,q.wa⟩ else if 0<=inW q.wa irq then q else ⟨q.sl,insW q.wa ⟨irq,p⟩⟩
def a3k (q:Que) (irq p:Int):Que:=a1H (a79 q irq p)
theorem b2h (h:0<=r9 sl irq):∃k:Nat,r9 sl irq=k/\k < sl.length/\(sl.getD k default).s≠0/\(sl.getD k default).q=irq:=by
 rcases @b1d sl irq with ⟨g,_⟩ | g
 ·omega
 ·exact g
theorem SlF.upd (h:SlF sl) {k:Nat} (hk:k < 4) {s':Int} (h0:(sl.getD k default).s≠0) (hs:1<=s'/\s'<=3):SlF (sl.set k ⟨s',(sl.getD k default).q,(sl.getD k default).p⟩):=by
 refine h.set hk ⟨hs,(h.ok k hk h0).2⟩ (λj hj hjk g=>?_)
 rcases Nat.lt_or_ge j k with e | e
 ·exact h.dif j k e hk g h0
 ·exact λe'=>h.dif k j J hj h0 g e'.symm
theorem QF.slUpd {q:Que} (h:QF q) {k:Nat} (hk:k < 4) {s':Int} (h0:(q.sl.getD k default).s≠0) (hs:1<=s'/\s'<=3):QF ⟨q.sl.set k ⟨s',(q.sl.getD k default).q,(q.sl.getD k default).p⟩,q.wa⟩:=by
 refine ⟨h.sl.upd hk h0 hs,h.wn,λw hw=>?_,h.pw⟩
 obtain ⟨g1,g2,g3⟩:=h.wa w hw
 refine ⟨g1,g2,λx hx g=>?_⟩
 have hl:k < q.sl.length:=by rw [h.sl.len];exact hk
 rcases a6a hl hx with rfl | ⟨j,hj,_,rfl⟩
 ·exact g3 (q.sl.getD k default) (n6.mpr ⟨k,hl,Z⟩) h0
 ·exact g3 _ (n6.mpr ⟨j,hj,Z⟩) g
theorem c0G {q:Int}:inW wa q < 0↔∀w∈wa,w.q≠q:=by
 unfold inW
 rw [a8P,a0a]
 constructor
 ·intro h w hw
  obtain ⟨i,hi,rfl⟩:=n6.mp hw
  exact of_decide_eq_false (h i hi)
 ·intro h j hj
  exact decide_eq_false (h _ (n6.mpr ⟨j,hj,Z⟩))
theorem b4K {q:Que} {irq p:Int} (h:QF q) (hi:0<=irq/\irq<=7) (hp:0<=p/\p<=15):QF (a79 q irq p)/\actL (a79 q irq p).sl=actL q.sl:=by
 unfold a79
 split
 ·next h1 =>
  obtain ⟨k,e1,e2,e3,e4⟩:=b2h h1
  have hk:k < 4:=by rw [← h.sl.len];exact e2
  unfold ptS
  rw [e1]
  simp only [Int.toNat_natCast]
  have hb:=(h.sl.ok k hk e3).1
  refine ⟨h.slUpd hk e3 ?_,b3C e2 ?_ (λ_=>Z)⟩
  ·split<;>omega
  ·show P3 ⟨if (q.sl.getD k default).s=2 then 3 else (q.sl.getD k default).s,_,_⟩=_
   by_cases e:(q.sl.getD k default).s=2
   ·rw [if_pos e,show P3 (q.sl.getD k default)=true from u5.mpr (.inl e)];exact u5.mpr (.inr Z)
   ·rw [if_neg e]
 split
 ·exact ⟨h,Z⟩
 ·next h1 h2 =>
  have g1:=a57.mp (show r9 q.sl irq < 0 by omega)
  have g2:=c0G.mp (show inW q.wa irq < 0 by omega)
  refine ⟨⟨h.sl,?_,λw hw=>?_,b2g h.pw g2⟩,Z⟩
  ·show (insW q.wa _).length<=9
   rw [a54];have:=h.wn8;omega
  ·rcases a58.mp hw with rfl | hw
   ·exact ⟨hi,hp,g1⟩
   ·exact h.wa w hw
theorem c4E {q:Que} {p:Int} (h:QF q) (hi:0<=irq/\irq<=7) (hp:0<=p/\p<=15):QF (a3k q irq p)/\setd (a3k q irq p)=true/\actL (a3k q irq p).sl=actL q.sl:=by
 obtain ⟨h1,h2⟩:=b4K h hi hp
 obtain ⟨h3,h4⟩:=b5w h1
 exact ⟨h3,h4,by unfold a3k;rw [b3E h1,h2]⟩
def b2i (q:Que):Que:=⟨tkS q.sl,q.wa⟩
theorem c4F {q:Que} (h:QF q) (hb:0<=bstS q.sl true):QF (b2i q):=by
 obtain ⟨k,e1,e2,e3⟩:=a0i hb
 have hk:k < 4:=by rw [← h.sl.len];exact e2
 unfold b2i tkS
 rw [e1]
 exact h.slUpd hk (by (omega)) (by (omega))
def a68 (q:Que) (irq:Int):Que:=a1H ⟨edS q.sl irq,q.wa⟩
theorem a8S {q:Que} (h:QF q) (hf:0<=r9 q.sl irq):QF ⟨edS q.sl irq,q.wa⟩:=by
 obtain ⟨k,e1,e2,e3,e4⟩:=b2h hf
 have hk:k < 4:=by rw [← h.sl.len];exact e2
 have e5:edX q.sl irq=if (q.sl.getD k default).s=3 then ⟨1,irq,(q.sl.getD k default).p⟩ else zSl:=by unfold edX;rw [e1];rfl
 unfold edS
 rw [e1,e5]
 split
 ·rw [← e4];exact h.slUpd hk e3 J
 ·refine ⟨h.sl.setZ hk,h.wn,λw hw=>?_,h.pw⟩
  obtain ⟨g1,g2,g3⟩:=h.wa w hw
  refine ⟨g1,g2,λx hx g=>?_⟩
  rcases a6a e2 hx with rfl | ⟨j,hj,_,rfl⟩
  ·exact absurd Z g
  ·exact g3 _ (n6.mpr ⟨j,hj,Z⟩) g
theorem c4G {q:Que} (h:QF q) (hf:0<=r9 q.sl irq):QF (a68 q irq)/\setd (a68 q irq)=true:=b5w (a8S h hf)
theorem p7 {q:Que} (h:0<=freS q.sl):stQ q=⟨q.sl.set (freS q.sl).toNat ⟨1,(q.wa.getD 0 default).q,(q.wa.getD 0 default).p⟩,q.wa.drop 1⟩:=by
 unfold stQ stK stW
 rw [if_neg J,if_neg J]
theorem s3 {q:Que} (h:freS q.sl < 0):stQ q=⟨q.sl.set (bstS q.sl false).toNat ⟨1,(q.wa.getD 0 default).q,(q.wa.getD 0 default).p⟩,insW (q.wa.drop 1) (wOf (q.sl.getD (bstS q.sl false).toNat default))⟩:=by
 unfold stQ stK stW
 rw [if_pos h,if_pos h]
theorem b5x {q:Que} (h:QF q) (hs:setd q=false):0 < q.wa.length/\(freS q.sl < 0→0<=bstS q.sl false):=by
 obtain ⟨k,w,r,n⟩:=b4J h hs
 refine ⟨by rw [n.wa];simp,λg=>?_⟩
 rcases n.st with ⟨f,_⟩ | ⟨_,f,_⟩<;>omega
end Go.Rf
namespace Go.Rf
theorem c6M {xs:List Wtr}:((xs.map e7).drop (1:Int).toNat).take (((xs.map e7).length:Int).toNat - (1:Int).toNat)=(xs.drop 1).map e7:=by
 have h1:(1:Int).toNat=1:=rfl
 have h2:(((xs.map e7).length:Int)).toNat=(xs.map e7).length:=Int.toNat_natCast _
 rw [h1,h2,List.take_of_length_le (by rw [List.length_drop];exact Nat.le_refl _),List.map_drop]
theorem c6N {xs:List Wtr}:(xs.map e7).drop (1:Int).toNat=(xs.drop 1).map e7:=List.map_drop.symm
end Go.Rf
namespace Go.Rf
open Go
section
variable {rs:List Route} {a:Abs} {ss:List MStep}
end
end Go.Rf
namespace Go.Rf
end Go.Rf
namespace Go.Rf
open Go
variable {i j:Nat} {l:List Int} {m:Mach} {rs:List Route} {x:Ifc} {xs:List Ifc}
def l8 (eS eW:Nat) (x:Ifc):List CI:=[.v (.int .i64 x.ma),.l 3 1 (x.st.map n7),.l eS 3 (x.qu.sl.map e9),.l eW 2 (x.qu.wa.map e7)]
def b8c (x y:Que):Bool:=decide (x.sl=y.sl) && decide (x.wa=y.wa)
theorem b8d {x y:Que}:b8c x y=true↔x=y:=by cases x;cases y;simp [b8c]
def c0H (x y:Ifc):Bool:=decide (x.ma=y.ma) && (decide (x.st=y.st) && b8c x.qu y.qu)
theorem b3F {y:Ifc}:c0H x y=true↔x=y:=by cases x;cases y;simp [c0H,b8d]
def b8e (x y:Mach):Bool:=decide (x.rs=y.rs) && (decide (x.en=y.en) && (decide (x.ra=y.ra) && decide (x.cp=y.cp)))
theorem b8f {x y:Mach}:b8e x y=true↔x=y:=by cases x;cases y;simp [b8e]
structure BigI (x:Ifc):Prop where
 st:x.st.length<=9223372036854775807
 sl:x.qu.sl.length<=9223372036854775807
 wa:x.qu.wa.length<=9223372036854775807
structure BigM (m:Mach):Prop where
 rs:m.rs.length<=9223372036854775807
 en:m.en.length<=9223372036854775807
 ra:m.ra.length<=9223372036854775807
 cp:m.cp.length<=9223372036854775807
 all:∀i,i < m.cp.length→BigI (m.cp.getD i default)
def szI (x:Ifc):Int:=x.st.length+x.qu.sl.length+x.qu.wa.length
def sumI (xs:List Ifc):Nat→Int
 | 0=>0
 | i+1=>sumI xs i+szI (xs.getD i default)
theorem I5:sumI xs (i+1)=sumI xs i+szI (xs.getD i default):=rfl
theorem b8g {x:Ifc}:0<=szI x:=by unfold szI;omega
theorem a33 {xs:List Ifc}:∀i,0<=sumI xs i
 | 0=>Int.le_refl _
 | i+1=>by have:=@a33 xs i;have:=@b8g (xs.getD i default);rw [I5];omega
theorem a1I {xs:List Ifc} {i j:Nat} (h:i<=j):sumI xs i<=sumI xs j:=by
 induction h with
 | refl=>exact Int.le_refl _
 | step _ ih=>rename_i m _;have:=@b8g (xs.getD m default);rw [I5];omega
theorem a3l {xs:List Ifc} {i n:Nat} (h:i < n):szI (xs.getD i default)<=sumI xs n:=by
 have h1:=a1I (xs:=xs) (show i+1<=n from h)
 have h2:=@a33 xs i
 rw [I5] at h1
 omega
structure SmallM (m:Mach):Prop where
 rs:m.rs.length<=1048576
 en:m.en.length<=1048576
 ra:m.ra.length<=1048576
 cp:m.cp.length<=1048576
 sum:sumI m.cp m.cp.length<=1048576
theorem SmallM.allI (h:SmallM m) {i:Nat} (hi:i < m.cp.length):szI (m.cp.getD i default)<=1048576:=by
 have:=a3l (xs:=m.cp) hi
 have:=h.sum
 omega
theorem SmallM.big (h:SmallM m):BigM m:=by
 refine ⟨by have:=h.rs;omega,by have:=h.en;omega,by have:=h.ra;omega,by have:=h.cp;omega,λi hi=>?_⟩
 have:=h.allI hi
 unfold szI at this
 exact ⟨by omega,by omega,by omega⟩
def b6S (k:Int) (j:Nat):Slot:=⟨k+3 * j,k+3 * j+1,k+3 * j+1+1⟩
def b3G (k:Int) (j:Nat):Wtr:=⟨k+2 * j,k+2 * j+1⟩
def wdI (x:Ifc):Int:=1+x.st.length+3 * x.qu.sl.length+2 * x.qu.wa.length
def Y3 (xs:List Ifc):Nat→Int
 | 0=>0
 | i+1=>Y3 xs i+wdI (xs.getD i default)
theorem a1J:Y3 xs (i+1)=Y3 xs i+wdI (xs.getD i default):=rfl
theorem R2 {xs:List Ifc}:∀i,0<=Y3 xs i/\Y3 xs i<=i+3 * sumI xs i
 | 0=>⟨Int.le_refl _,Int.le_refl _⟩
 | i+1=>by
  have:=@R2 xs i
  rw [a1J,I5]
  unfold wdI szI
  push_cast
  omega
def c0I (k:Int) (x:Ifc):Ifc:=⟨k,over (mkI (k+1)) x.st x.st.length,⟨over (b6S (k+1+x.st.length)) x.qu.sl x.qu.sl.length,over (b3G (k+1+x.st.length+3 * x.qu.sl.length)) x.qu.wa x.qu.wa.length⟩⟩
def a4d (k:Int) (xs:List Ifc):Nat→List Ifc
 | 0=>xs
 | i+1=>(a4d k xs i).set i (c0I (k+Y3 xs i) (xs.getD i default))
section
variable {k:Int} {xs:List Ifc} {eS eW:Nat}
theorem a34:a4d k xs (i+1)=(a4d k xs i).set i (c0I (k+Y3 xs i) (xs.getD i default)):=rfl
theorem W9:∀i,(a4d k xs i).length=xs.length
 | 0=>rfl
 | i+1=>by rw [a34,List.length_set,W9 i]
theorem b2j:∀{i j:Nat},i<=j→(a4d k xs i)[j]?=xs[j]?
 | 0,j,_=>rfl
 | i+1,j,h=>by
  rw [a34,List.getElem?_set_ne J]
  exact b2j J
theorem b5y:∀{i j:Nat},j < i→i<=xs.length→(a4d k xs i)[j]?=some (c0I (k+Y3 xs j) (xs.getD j default))
 | 0,j,h,_=>by omega
 | i+1,j,h,hl=>by
  rw [a34]
  by_cases e:j=i
  ·subst e
   rw [List.getElem?_set_self (by rw [W9];omega)]
  ·rw [List.getElem?_set_ne J]
   exact b5y J J
theorem b6T (h:i < xs.length):((a4d k xs i).map (l8 eS eW))[i]?=some (l8 eS eW (xs.getD i default)):=by
 rw [List.getElem?_map,b2j (Nat.le_refl _),List.getElem?_eq_getElem h]
 simp [h]
theorem b6U (h:i < xs.length):((a4d k xs xs.length).map (l8 eS eW))[((i:Int)).toNat]?=some (l8 eS eW (c0I (k+Y3 xs i) (xs.getD i default))):=by
 show ((a4d k xs xs.length).map (l8 eS eW))[i]?=_
 rw [List.getElem?_map,b5y h (Nat.le_refl _)]
 rfl
end
def mkM (k:Int) (m:Mach):Mach:=⟨over (b6Q k) m.rs m.rs.length,over (mkO (k+2 * m.rs.length)) m.en m.en.length,over (mkO (k+2 * m.rs.length+m.en.length)) m.ra m.ra.length,a4d (k+2 * m.rs.length+m.en.length+m.ra.length) m.cp m.cp.length⟩
def b2k (k:Int) (m:Mach):Int:=k+2 * m.rs.length+m.en.length+m.ra.length+Y3 m.cp m.cp.length
theorem a6b {m:Mach} {k:Int} (hs:SmallM m):k<=b2k k m/\b2k k m<=k+10000000:=by
 have h1:=hs.rs;have h2:=hs.en;have h3:=hs.ra;have h4:=hs.cp;have h5:=hs.sum
 have:=@R2 m.cp m.cp.length
 unfold b2k
 omega
def lvl (sl:List Slot) (q:Int):Int:=(sl.getD (r9 sl q).toNat default).p
def b0v (x:Ifc):Int:=if x.st.length=0 then 16 else lvl x.qu.sl (x.st.getD (x.st.length - 1) default)
theorem c4H (h:x.st.length=0):b0v x=16:=by unfold b0v;rw [if_pos h]
theorem b8h (h:¬ x.st.length=0):b0v x=lvl x.qu.sl (x.st.getD (x.st.length - 1) default):=by unfold b0v;rw [if_neg h]
def a8a (x:Ifc) (q p:Int):Ifc:=⟨x.ma,x.st,a3k x.qu q p⟩
def a4X (x:Ifc):Ifc:=⟨x.ma,x.st++[tkI x.qu.sl],b2i x.qu⟩
structure IfF (x:Ifc):Prop where
 qu:QF x.qu
 sn:x.st.length<=4
 st:∀q∈x.st,∃w∈actL x.qu.sl,w.q=q
theorem a6c {sl:List Slot} {q:Int} (h:∃w∈actL sl,w.q=q):0<=r9 sl q:=by
 obtain ⟨w,hw,e⟩:=h
 obtain ⟨x,h1,h2,rfl⟩:=H3.mp hw
 rcases Int.lt_or_le (r9 sl q) 0 with g | g
 ·refine absurd e (a57.mp g x h1 ?_)
  rcases u5.mp h2 with g | g<;>omega
 ·exact g
theorem IfF.top (h:IfF x) {i:Nat} (hi:i < x.st.length):0<=r9 x.qu.sl (x.st.getD i default):=a6c (h.st _ (n6.mpr ⟨i,hi,Z⟩))
theorem b8i {q p:Int} (h:IfF x) (hq:0<=q/\q<=7) (hp:0<=p/\p<=15):IfF (a8a x q p):=by
 obtain ⟨h1,h2,h3⟩:=c4E h.qu hq hp
 exact ⟨h1,h.sn,λy hy=>by show ∃w∈actL (a3k x.qu q p).sl,w.q=y;rw [h3];exact h.st y hy⟩
theorem b5z {α:Type} [Inhabited α] {l:List α} {k:Nat} {x y:α} (h:x∈l) (hne:x≠l.getD k default):x∈l.set k y:=by
 grind [n6]
theorem c4I (h:IfF x) (hb:0<=bstS x.qu.sl true) (hn:x.st.length < 4):IfF (a4X x):=by
 obtain ⟨k,e1,e2,e3⟩:=a0i hb
 refine ⟨c4F h.qu hb,by show (x.st++[tkI x.qu.sl]).length<=4;rw [List.length_append,List.length_cons,List.length_nil];omega,λq hq=>?_⟩
 show ∃w∈actL (tkS x.qu.sl),w.q=q
 unfold tkS
 rw [e1,Int.toNat_natCast]
 rcases List.mem_append.mp hq with hq | hq
 ·obtain ⟨w,hw,e⟩:=h.st q hq
  obtain ⟨y,y1,y2,y3⟩:=H3.mp hw
  refine ⟨w,H3.mpr ⟨y,b5z y1 (λe'=>?_),y2,y3⟩,e⟩
  rw [e'] at y2
  rcases u5.mp y2 with g | g<;>omega
 ·rw [List.mem_singleton.mp hq]
  refine ⟨⟨(x.qu.sl.getD k default).q,(x.qu.sl.getD k default).p⟩,H3.mpr ⟨⟨2,(x.qu.sl.getD k default).q,(x.qu.sl.getD k default).p⟩,List.mem_iff_getElem.mpr ⟨k,by rw [List.length_set];exact e2,by simp⟩,Z,Z⟩,?_⟩
  show (x.qu.sl.getD k default).q=tkI x.qu.sl
  unfold tkI
  grind
def J0 (rs:List Route) (l:List Int):List Slot:=(l.map λq=>⟨2,q,prI rs q⟩)++List.replicate (4 - l.length) zSl
def a6d (rs:List Route) (l:List Int):Ifc:=⟨16,l,⟨J0 rs l,[]⟩⟩
def U3 (rs:List Route) (l:List Int) (q:Int):List Slot:=(l.map λq=>⟨2,q,prI rs q⟩)++(⟨1,q,prI rs q⟩ :: List.replicate (3 - l.length) zSl)
section
variable {rs:List Route} {l:List Int} {q:Int}
theorem b6V {α:Type} [Inhabited α] {a b:List α} {j:Nat} (h:a.length<=j):(a++b).getD j default=b.getD (j - a.length) default:=by
 grind
theorem a1K {α β:Type} [Inhabited α] [Inhabited β] {f:α→β} {a:List α} {j:Nat} (h:j < a.length):(a.map f).getD j default=f (a.getD j default):=by
 grind
theorem a3m (h:l.length<=4):(J0 rs l).length=4:=by unfold J0;simp;omega
theorem b3H (h:l.length < 4):(U3 rs l q).length=4:=by unfold U3;simp;omega
theorem a2n (h:j < l.length):(J0 rs l).getD j default=⟨2,l.getD j default,prI rs (l.getD j default)⟩:=by
 unfold J0
 grind
theorem a6e (h:l.length<=j) (h4:j < 4):(J0 rs l).getD j default=zSl:=by
 unfold J0
 grind
theorem b2l (h:j < l.length):(U3 rs l q).getD j default=⟨2,l.getD j default,prI rs (l.getD j default)⟩:=by
 unfold U3
 grind
theorem b2m:(U3 rs l q).getD l.length default=⟨1,q,prI rs q⟩:=by
 unfold U3
 rw [b6V (by simp)]
 simp
theorem c0J (h:l.length < j) (h4:j < 4):(U3 rs l q).getD j default=zSl:=by
 grind [U3]
theorem c0K {α:Type} {a b:List α} {x:α}:(a++b).set a.length x=a++b.set 0 x:=by
 simp
theorem b8j (h:l.length < 4):(J0 rs l).set l.length ⟨1,q,prI rs q⟩=U3 rs l q:=by
 unfold J0 U3
 have e:=@c0K _ (l.map λq=>(⟨2,q,prI rs q⟩:Slot)) (List.replicate (4 - l.length) zSl) ⟨1,q,prI rs q⟩
 rw [List.length_map] at e
 rw [e,show 4 - l.length=(3 - l.length)+1 by omega,List.replicate_succ,List.set_cons_zero]
theorem b8k (h:l.length < 4):(U3 rs l q).set l.length ⟨2,q,prI rs q⟩=J0 rs (l++[q]):=by
 grind [J0,U3]
theorem a9K (h:l.length < 4):freS (J0 rs l)=l.length:=by
 unfold freS
 refine J4 (λj hj=>?_) (by rw [a3m J];exact h) ?_
 ·rw [a2n hj];rfl
 ·rw [a6e (Nat.le_refl _) h];rfl
theorem b8l (h:l.length<=4) (hq:∀j,j < l.length→l.getD j default≠q):r9 (J0 rs l) q=-1:=by
 unfold r9
 refine a0o (i:=4) (λj hj=>?_) (by rw [a3m h];exact Nat.le_refl _)
 rw [← Bool.not_eq_true,a2k]
 rcases Nat.lt_or_ge j l.length with g | g
 ·rw [a2n g];exact λe=>hq j g e.2
 ·rw [a6e g hj];exact λe=>e.1 Z
theorem b8m (h:l.length < 4) (hj:j < l.length) (hd:∀i,i < j→l.getD i default≠l.getD j default):r9 (U3 rs l q) (l.getD j default)=j:=by
 grind [r9,J4,b3H,a2k,b2l]
theorem b3I (h:l.length < 4):bstS (U3 rs l q) true=l.length:=by
 have hl:(U3 rs l q).length=4:=b3H h
 have hneg:¬ G2 (U3 rs l q) true 4 < 0:=by
  grind [b3z,b2m]
 have hb:=@a2j (U3 rs l q) true 4
 have h1:=a52 (sl:=U3 rs l q) (most:=true) 4 J
 unfold bstS
 rw [hl]
 rcases Nat.lt_trichotomy (G2 (U3 rs l q) true 4).toNat l.length with g | g | g
 ·rw [b2l g] at h1;exact absurd h1 (by show ¬ (2:Int)=1;decide)
 ·omega
 ·rw [c0J g J] at h1;exact absurd h1 (by show ¬ (0:Int)=1;decide)
theorem b5A {α:Type} {f:α→Nat} {x:α}:∀{l:List α},x∈l→f x<=(l.map f).sum
 | y :: l,h=>by
  rw [List.map_cons,List.sum_cons]
  rcases List.mem_cons.mp h with rfl | h
  ·omega
  ·have:=b5A (f:=f) h;omega
theorem b6W (h:l.length < 4) (hq:∀j,j < l.length→l.getD j default≠q):a8a (a6d rs l) q (prI rs q)=⟨16,l,⟨U3 rs l q,[]⟩⟩:=by
 have h1:a79 (a6d rs l).qu q (prI rs q)=⟨J0 rs l,[⟨q,prI rs q⟩]⟩:=by
  unfold a79
  rw [if_neg (by show ¬ 0<=r9 (J0 rs l) q;rw [b8l J hq];decide),if_neg (by have:=@c4D ([]:List Wtr) q;show ¬ 0<=inW [] q;simp at this;omega)]
  rfl
 have h2:setd ⟨J0 rs l,[⟨q,prI rs q⟩]⟩=false:=b76 (by show ¬ 1=0;decide) (by show 0<=freS (J0 rs l);rw [a9K h];omega)
 have h3:stQ ⟨J0 rs l,[⟨q,prI rs q⟩]⟩=⟨U3 rs l q,[]⟩:=by
  rw [p7 (by show 0<=freS (J0 rs l);rw [a9K h];omega)]
  show (⟨(J0 rs l).set (freS (J0 rs l)).toNat ⟨1,q,prI rs q⟩,[]⟩:Que)=_
  rw [a9K h,Int.toNat_natCast,b8j h]
 have h4:a1H ⟨J0 rs l,[⟨q,prI rs q⟩]⟩=⟨U3 rs l q,[]⟩:=by
  unfold a1H
  have hp:0 < phi ⟨J0 rs l,[⟨q,prI rs q⟩]⟩:=by
   have hm:zSl∈J0 rs l:=n6.mpr ⟨l.length,by rw [a3m J];exact h,a6e (Nat.le_refl _) h⟩
   have:wtS zSl<=((J0 rs l).map wtS).sum:=b5A hm
   have e:wtS zSl=2000:=rfl
   show 0 < ((J0 rs l).map wtS).sum
   omega
  obtain ⟨n,hn⟩:∃n,phi ⟨J0 rs l,[⟨q,prI rs q⟩]⟩=n+1:=⟨_,(Nat.sub_add_cancel hp).symm⟩
  rw [hn]
  unfold a67
  rw [h2]
  simp only [Bool.false_eq_true,if_false]
  rw [h3]
  rfl
 unfold a8a a3k
 rw [h1,h4]
 rfl
theorem c0L (h:l.length < 4) (hd:∀i j,i < j→j < l.length→l.getD i default≠l.getD j default):b0v ⟨16,l,⟨U3 rs l q,[]⟩⟩=if l.length=0 then 16 else prI rs (l.getD (l.length - 1) default):=by
 grind [b0v,lvl,b8m,b2l]
theorem b8n (h:l.length < 4):a4X ⟨16,l,⟨U3 rs l q,[]⟩⟩=a6d rs (l++[q]):=by
 grind [a4X,a6d,b2i,tkS,tkI,b3I,b2m,b8k]
theorem c4J (h:l.length<=4) (hr:∀j,j < l.length→(0<=l.getD j default/\l.getD j default<=7)/\0<=prI rs (l.getD j default)/\prI rs (l.getD j default)<=15) (hd:∀i j,i < j→j < l.length→l.getD i default≠l.getD j default):IfF (a6d rs l):=by
 have key:∀i,i < 4→((J0 rs l).getD i default).s≠0→i < l.length:=λi hi h0=>by
  rcases Nat.lt_or_ge i l.length with g | g
  ·exact g
  ·rw [a6e g hi] at h0;exact absurd Z h0
 refine ⟨⟨⟨a3m h,λi hi h0=>?_,λi hi h0=>?_,λi j hij hj h1 h2=>?_⟩,Nat.zero_le _,λw hw=>(by cases hw),List.Pairwise.nil⟩,h,λq hq=>?_⟩
 ·show (J0 rs l).getD i default=zSl
  have h0:((J0 rs l).getD i default).s=0:=h0
  rcases Nat.lt_or_ge i l.length with g | g
  ·rw [a2n g] at h0;exact absurd h0 (by show ¬ (2:Int)=0;decide)
  ·exact a6e g hi
 ·grind [a6d,a2n]
 ·have g1:=key i J h1
  have g2:=key j hj h2
  show ((J0 rs l).getD i default).q≠((J0 rs l).getD j default).q
  rw [a2n g1,a2n g2]
  exact hd i j hij g2
 ·obtain ⟨i,hi,rfl⟩:=n6.mp hq
  have hi:i < l.length:=hi
  refine ⟨⟨l.getD i default,prI rs (l.getD i default)⟩,H3.mpr ⟨⟨2,l.getD i default,prI rs (l.getD i default)⟩,n6.mpr ⟨i,by show i < (J0 rs l).length;rw [a3m h];omega,a2n hi⟩,Z,Z⟩,Z⟩
end
section
variable {rs:List Route} {po:List Bool} {k:Nat} {x:Ifc}
end
structure StkF (rs:List Route) (l:List Int):Prop where
 n:l.length<=4
 el:∀j,j < l.length→(0<=l.getD j default/\l.getD j default<=7)/\0<=prI rs (l.getD j default)/\prI rs (l.getD j default)<=15
 dn:∀j,0 < j→j < l.length→prI rs (l.getD j default) < prI rs (l.getD (j - 1) default)
theorem StkF.lt (h:StkF rs l) {i:Nat}:∀{j:Nat},i < j→j < l.length→prI rs (l.getD j default) < prI rs (l.getD i default)
 | j+1,hij,hj=>by
  have:=h.dn (j+1) J hj
  by_cases e:i=j
  ·subst e;exact this
  ·have:=StkF.lt h (show i < j by omega) J
   grind
theorem StkF.dif (h:StkF rs l) {i j:Nat} (hij:i < j) (hj:j < l.length):l.getD i default≠l.getD j default:=λe=>by
 have:=h.lt hij hj
 rw [e] at this
 omega
theorem StkF.take (h:StkF rs l) {n:Nat} (hn:n<=l.length):IfF (a6d rs (l.take n)):=by
 have hl:(l.take n).length=n:=by rw [List.length_take];omega
 have hg:∀j,j < n→(l.take n).getD j default=l.getD j default:=λj hj=>a1G hj
 refine c4J (by rw [hl];have:=h.n;omega) (λj hj=>?_) (λi j hij hj=>?_)
 ·rw [hg j J];exact h.el j J
 ·rw [hg i J,hg j J];exact h.dif hij J
theorem StkF.step (h:StkF rs l) {i:Nat} (hi:i < l.length) :
 IfF (a8a (a6d rs (l.take i)) (l.getD i default) (prI rs (l.getD i default)))/\(a8a (a6d rs (l.take i)) (l.getD i default) (prI rs (l.getD i default))).st.length < 4 /\
 a2m (a8a (a6d rs (l.take i)) (l.getD i default) (prI rs (l.getD i default))).qu.sl (min (a8a (a6d rs (l.take i)) (l.getD i default) (prI rs (l.getD i default))).ma (b0v (a8a (a6d rs (l.take i)) (l.getD i default) (prI rs (l.getD i default)))))=true /\
 a4X (a8a (a6d rs (l.take i)) (l.getD i default) (prI rs (l.getD i default)))=a6d rs (l.take (i+1)):=by
 have hn:=h.n
 have hl:(l.take i).length=i:=by rw [List.length_take];omega
 have hg:∀j,j < i→(l.take i).getD j default=l.getD j default:=λj hj=>a1G hj
 have hr:=b6W (rs:=rs) (l:=l.take i) (q:=l.getD i default) J (λj hj=>by rw [hg j J];exact h.dif J hi)
 refine ⟨b8i (h.take J) (h.el i hi).1 (h.el i hi).2,?_,?_,?_⟩
 ·grind
 ·rw [hr,c0L J (λa b hab hb=>by rw [hg a J,hg b J];exact h.dif hab J)]
  rw [W8]
  show 0<=bstS (U3 rs (l.take i) (l.getD i default)) true/\((U3 rs (l.take i) (l.getD i default)).getD (bstS (U3 rs (l.take i) (l.getD i default)) true).toNat default).p < min 16 _
  rw [b3I J,Int.toNat_natCast,b2m]
  have h15:=(h.el i hi).2.2
  refine ⟨by omega,?_⟩
  show prI rs (l.getD i default) < _
  rw [hl]
  split
  ·omega
  ·next h0 =>
   rw [hg (i - 1) J]
   have:=h.dn i J hi
   omega
 ·rw [hr,b8n J]
  simp_all
end Go.Rf
namespace Go.Rf
section
variable {q:Que} {irq p lim:Int} {x:Ifc}
theorem b8o (h:0<=r9 q.sl irq):a79 q irq p=⟨ptS q.sl irq,q.wa⟩:=by unfold a79;rw [if_pos h]
theorem b8p (h:r9 q.sl irq < 0) (h2:inW q.wa irq < 0):a79 q irq p=⟨q.sl,insW q.wa ⟨irq,p⟩⟩:=by unfold a79;rw [if_neg J,if_neg J]
theorem b8q (h:r9 q.sl irq < 0) (h2:0<=inW q.wa irq):a79 q irq p=q:=by unfold a79;rw [if_neg J,if_pos h2]
def b2n (q:Que) (lim:Int):Que×Int×Bool:=if a2m q.sl lim then (b2i q,tkI q.sl,true) else (⟨[],[]⟩,0,false)
theorem b4L (h:a2m q.sl lim=true):b2n q lim=(b2i q,tkI q.sl,true):=by unfold b2n;rw [h];rfl
theorem b8r (h:a2m q.sl lim=false):b2n q lim=(⟨[],[]⟩,0,false):=by unfold b2n;rw [h];rfl
theorem c1Y {sl:List Slot}:(tkT sl lim).2.2=a2m sl lim:=by
 cases h:a2m sl lim
 ·rw [b8a h]
 ·rw [b5s h]
theorem b8s:(b2n q lim).2.2=a2m q.sl lim:=by
 cases h:a2m q.sl lim
 ·rw [b8r h]
 ·rw [b4L h]
def c0M (x:Ifc):Int:=min x.ma (b0v x)
def okT (x:Ifc):Bool:=a2m x.qu.sl (c0M x)
def noI:Ifc:=⟨0,[],⟨[],[]⟩⟩
def R3 (x:Ifc):Ifc×Int×Bool:=if okT x then (a4X x,tkI x.qu.sl,true) else (noI,0,false)
theorem b5B (h:okT x=true):R3 x=(a4X x,tkI x.qu.sl,true):=by unfold R3;rw [h];rfl
theorem b5C (h:okT x=false):R3 x=(noI,0,false):=by unfold R3;rw [h];rfl
theorem b8t {sl:List Slot} (h:SlF sl) (hb:0<=bstS sl true):0<=tkI sl/\tkI sl<=7:=by
 obtain ⟨k,e1,e2,e3⟩:=a0i hb
 unfold tkI
 rw [e1,Int.toNat_natCast]
 exact (h.ok k (by rw [← h.len];exact e2) J).2.1
theorem c1Z {sl:List Slot} (h:(sl.getD (r9 sl irq).toNat default).s=2):ptS sl irq=sl.set (r9 sl irq).toNat ⟨3,(sl.getD (r9 sl irq).toNat default).q,(sl.getD (r9 sl irq).toNat default).p⟩:=by unfold ptS;rw [if_pos h]
theorem c10 {sl:List Slot} (h:¬ (sl.getD (r9 sl irq).toNat default).s=2):ptS sl irq=sl.set (r9 sl irq).toNat ⟨(sl.getD (r9 sl irq).toNat default).s,(sl.getD (r9 sl irq).toNat default).q,(sl.getD (r9 sl irq).toNat default).p⟩:=by unfold ptS;rw [if_neg h]
end
end Go.Rf
namespace Go.Rf
open Go
end Go.Rf
namespace Go.Rf
end Go.Rf
namespace Go.Rf
open Go
variable {l:List Wtr} {x:Wtr}
def srtW (l:List Wtr):List Wtr:=l.foldl insW []
def b3J (l:List Wtr):Prop:=l.Pairwise (λa b=>a.q≠b.q)
theorem b1j:srtW (l++[x])=insW (srtW l) x:=by simp [srtW,List.foldl_append]
theorem b1k:∀{l acc:List Wtr},x∈l.foldl insW acc↔x∈acc∨x∈l
 | [],acc=>by simp
 | y :: l,acc=>by
  rw [List.foldl_cons,b1k,a58,List.mem_cons]
  grind
theorem b1l:∀{l acc:List Wtr},(l.foldl insW acc).length=acc.length+l.length
 | [],acc=>by simp
 | y :: l,acc=>by rw [List.foldl_cons,b1l,a54,List.length_cons];omega
theorem b3K:∀{l acc:List Wtr},acc.Pairwise ltW→b3J l→(∀a∈acc,∀b∈l,a.q≠b.q)→(l.foldl insW acc).Pairwise ltW
 | [],acc,h,_,_=>h
 | y :: l,acc,h,hd,hx=>by
  obtain ⟨h1,h2⟩:=List.pairwise_cons.mp hd
  rw [List.foldl_cons]
  refine b3K (b2g h λa ha=>hx a ha y (by simp)) h2 λa ha b hb=>?_
  rcases a58.mp ha with rfl | ha
  ·exact h1 b hb
  ·exact hx a ha b (by simp [hb])
theorem b3L:(srtW l).length=l.length:=by unfold srtW;rw [b1l];simp
theorem b3M:x∈srtW l↔x∈l:=by unfold srtW;rw [b1k];simp
theorem c0N (h:b3J l):(srtW l).Pairwise ltW:=b3K List.Pairwise.nil h (λa ha=>by cases ha)
theorem b8u {acc:List Wtr} {w:Wtr} (h:∀a∈acc,lessW a w=true):insW acc w=acc++[w]:=by
 rw [a55 (i:=acc.length) (λj hj=>h _ (n6.mpr ⟨j,hj,Z⟩)) (Nat.le_refl _) (.inl Z)]
 simp
theorem a6f:∀{l acc:List Wtr},(acc++l).Pairwise ltW→l.foldl insW acc=acc++l
 | [],acc,_=>by simp
 | y :: l,acc,h=>by
  rw [List.foldl_cons,b8u (λa ha=>((List.pairwise_append.mp h).2.2 a ha y (by simp)).1)]
  rw [a6f (by simpa using h)]
  simp
theorem b3N (h:l.Pairwise ltW):srtW l=l:=by unfold srtW;rw [a6f (by simpa using h)];rfl
def a2o (P:List Wtr) (x:Wtr) (R:List Wtr) (j:Nat):List Wtr:=P.take j++x :: (P.drop j++R)
section
variable {P R:List Wtr} {x:Wtr} {j:Nat}
theorem a3n (h:j<=P.length):(a2o P x R j).length=P.length+1+R.length:=by
 unfold a2o
 simp
 omega
theorem c0O (h:j<=P.length):(a2o P x R j).getD j default=x:=by
 grind [a2o]
theorem b8v {t:Nat} (h:t < j) (hj:j<=P.length):(a2o P x R j).getD t default=P.getD t default:=by
 unfold a2o
 grind
theorem b8w:a2o P x R P.length=P++x :: R:=by unfold a2o;simp
theorem b6X {β:Type} {f:Wtr→β} (h0:0 < j) (hj:j<=P.length):(((a2o P x R j).map f).set j (f (P.getD (j - 1) default))).set (j - 1) (f x)=(a2o P x R (j - 1)).map f:=by
 have hlt:j - 1 < P.length:=by omega
 have h1:P.take j=P.take (j - 1)++[P.getD (j - 1) default]:=by
  (simp_all;omega)
 have h2:P.drop (j - 1)=P.getD (j - 1) default :: P.drop j:=by
  rw [List.drop_eq_getElem_cons hlt,show j - 1+1=j by omega,List.getD_eq_getElem?_getD,List.getElem?_eq_getElem hlt]
  rfl
 rw [← List.map_set,← List.map_set]
 congr 1
 unfold a2o
 grind
theorem b3O (hj:j<=P.length) (hs:P.Pairwise ltW) (hd:∀p∈P,p.q≠x.q) (h1:∀t,j<=t→t < P.length→lessW x (P.getD t default)=true) (h2:j=0∨lessW x (P.getD (j - 1) default)=false):a2o P x R j=insW P x++R:=by
 have hp:=a56.mp hs
 have hh:∀t,t < j→lessW (P.getD t default) x=true:=λt ht=>by
  have hl:lessW (P.getD (j - 1) default) x=true:=by
   grind [a32]
  rcases Nat.lt_or_ge t (j - 1) with g | g
  ·exact a3g (hp t (j - 1) g J).1 hl
  grind
 have he:j=P.length∨(j < P.length/\lessW (P.getD j default) x=false):=by
  grind [a9E]
 rw [a55 hh hj he]
 unfold a2o;simp
end
def a8b (d:List Wtr) (i:Nat):List Wtr:=srtW (d.take i)++d.drop i
section
variable {d:List Wtr} {i:Nat}
theorem c4K (h:0 < d.length):a8b d 1=d:=by
 match d,h with
 | x :: d,_=>simp [a8b,srtW,insW,b4H]
theorem c4L (h:d.length=0):a8b d 1=d:=by
 match d,h with
 | [],_=>rfl
theorem c4M:a8b d 1=d:=by
 grind [c4L,c4K]
theorem b8x (h:d.length<=i):a8b d i=srtW d:=by unfold a8b;rw [List.take_of_length_le h,List.drop_of_length_le h,List.append_nil]
theorem b8y (h:i < d.length):a8b d i=a2o (srtW (d.take i)) (d.getD i default) (d.drop (i+1)) i:=by
 have hl:(srtW (d.take i)).length=i:=by rw [b3L,List.length_take];omega
 conv=>rhs;rw [← hl]
 unfold a8b
 rw [hl]
 have e:=@b8w (srtW (d.take i)) (d.drop (i+1)) (d.getD i default)
 simp_all
theorem b1m (h:i < d.length):a8b d (i+1)=insW (srtW (d.take i)) (d.getD i default)++d.drop (i+1):=by
 unfold a8b
 rw [List.take_add_one,List.getElem?_eq_getElem h,List.getD_eq_getElem?_getD,List.getElem?_eq_getElem h]
 show srtW (d.take i++[d[i]])++_=_
 rw [b1j]
 rfl
structure MovF (d:List Wtr) (i:Nat):Prop where
 len:(srtW (d.take i)).length=i
 pw:(srtW (d.take i)).Pairwise ltW
 dif:∀p∈srtW (d.take i),p.q≠(d.getD i default).q
theorem c8r (hd:b3J d) (h:i < d.length):MovF d i:=by
 refine ⟨by rw [b3L,List.length_take];omega,c0N (List.Pairwise.sublist (List.take_sublist _ _) hd),λp hp=>?_⟩
 obtain ⟨t,ht,rfl⟩:=n6.mp (b3M.mp hp)
 rw [List.length_take] at ht
 rw [a1G J]
 exact (a56.mp hd) t i J h
end
def pnP (x:Slot):Bool:=decide (x.s=1) || decide (x.s=3)
theorem a35 {x:Slot}:pnP x=true↔x.s=1∨x.s=3:=by simp [pnP]
def pnL (q:Que):Nat→List Wtr
 | 0=>q.wa
 | i+1=>if pnP (q.sl.getD i default) then pnL q i++[wOf (q.sl.getD i default)] else pnL q i
def pnS (q:Que):Nat→List Wtr
 | 0=>q.wa
 | i+1=>if pnP (q.sl.getD i default) then insW (pnS q i) (wOf (q.sl.getD i default)) else pnS q i
section
variable {q:Que} {i:Nat}
theorem b8z (h:(q.sl.getD i default).s=1∨(q.sl.getD i default).s=3):pnL q (i+1)=pnL q i++[wOf (q.sl.getD i default)]:=by
 show (if pnP _ then _ else _)=_
 rw [if_pos (a35.mpr h)]
theorem c6O (h:¬ ((q.sl.getD i default).s=1∨(q.sl.getD i default).s=3)):pnL q (i+1)=pnL q i:=by
 show (if pnP _ then _ else _)=_
 rw [if_neg (λg=>h (a35.mp g))]
theorem b1n (h:(q.sl.getD i default).s=1∨(q.sl.getD i default).s=3):pnS q (i+1)=insW (pnS q i) (wOf (q.sl.getD i default)):=by
 show (if pnP _ then _ else _)=_
 rw [if_pos (a35.mpr h)]
theorem c11 (h:¬ ((q.sl.getD i default).s=1∨(q.sl.getD i default).s=3)):pnS q (i+1)=pnS q i:=by
 show (if pnP _ then _ else _)=_
 rw [if_neg (λg=>h (a35.mp g))]
theorem b4M (h:QF q):∀i,srtW (pnL q i)=pnS q i
 | 0=>b3N h.pw
 | i+1=>by
  have ih:=b4M h i
  show srtW (if pnP _ then _ else _)=(if pnP _ then _ else _)
  split
  ·rw [b1j,ih]
  ·exact ih
theorem b2o:∀i,(pnL q i).length<=q.wa.length+i
 | 0=>Nat.le_refl _
 | i+1=>by
  have ih:=@b2o i
  show (if pnP _ then _ else _:List Wtr).length<=_
  split
  ·rw [List.length_append,List.length_cons,List.length_nil];omega
  ·omega
theorem a6g:∀i,(pnS q i).length<=q.wa.length+i
 | 0=>Nat.le_refl _
 | i+1=>by
  have ih:=@a6g i
  show (if pnP _ then _ else _:List Wtr).length<=_
  split
  ·rw [a54];omega
  ·omega
theorem a8T:∀i,x∈pnL q i→x∈q.wa∨∃j,j < i/\(q.sl.getD j default).s≠0/\x=wOf (q.sl.getD j default)
 | 0,h=>.inl h
 | i+1,h=>by
  change x∈(if pnP _ then _ else _:List Wtr) at h
  split at h
  ·next hp =>
   rcases List.mem_append.mp h with h | h
   ·rcases a8T i h with g | ⟨j,g1,g2,g3⟩
    ·exact .inl g
    ·exact .inr ⟨j,by omega,g2,g3⟩
   ·refine .inr ⟨i,by omega,?_,List.mem_singleton.mp h⟩
    rcases a35.mp hp with g | g<;>omega
  ·rcases a8T i h with g | ⟨j,g1,g2,g3⟩
   ·exact .inl g
   ·exact .inr ⟨j,by omega,g2,g3⟩
theorem b5D (h:QF q):∀i,i<=4→b3J (pnL q i)
 | 0,_=>h.pw.imp λh=>h.2
 | i+1,hi=>by
  have ih:=b5D h i J
  show b3J (if pnP _ then _ else _)
  split
  ·next hp =>
   have h0:(q.sl.getD i default).s≠0:=by rcases a35.mp hp with g | g<;>omega
   refine List.pairwise_append.mpr ⟨ih,List.pairwise_singleton _ _,λa ha b hb=>?_⟩
   rw [List.mem_singleton.mp hb]
   show a.q≠(q.sl.getD i default).q
   rcases a8T i ha with g | ⟨j,g1,g2,rfl⟩
   ·exact λe=>(h.wa a g).2.2 _ (n6.mpr ⟨i,by rw [h.sl.len];omega,Z⟩) h0 e.symm
   ·exact h.sl.dif j i g1 J g2 h0
  ·exact ih
theorem c0P (h:QF q) {x:Wtr}:x∈pnS q i↔x∈pnL q i:=by rw [← b4M h,b3M]
theorem c6P (h:QF q) {x:Wtr} (hi:i<=4) (hx:x∈pnL q i):0<=x.q/\x.q<=7:=by
 rcases a8T i hx with g | ⟨j,g1,g2,rfl⟩
 ·exact (h.wa x g).1
 ·exact (h.sl.ok j J g2).2.1
end
def A5 (q:Que):List Int:=(pnS q 4).map (·.q)
theorem b2p {q:Que} (h:QF q) {i:Nat} (hi:i < (A5 q).length):0<=(A5 q).getD i default/\(A5 q).getD i default<=7:=by
 unfold A5 at hi ⊢
 rw [List.length_map] at hi
 rw [a1K hi]
 exact c6P h (Nat.le_refl _) ((c0P h).mp (n6.mpr ⟨i,hi,Z⟩))
theorem a1L {q:Que} (h:QF q):(A5 q).length<=12:=by
 unfold A5
 rw [List.length_map]
 have:=@a6g q 4
 have:=h.wn8
 omega
end Go.Rf
namespace Go.Rf
section
variable {P R:List Wtr} {x:Wtr} {j:Nat} {β:Type} {f:Wtr→β} {c:β}
theorem c0Q {α:Type} [Inhabited α] {g:α→β} {l:List α} {i:Nat} (h:i < l.length):(l.map g)[i]?=some (g (l.getD i default)):=by
 grind
theorem X0 (h:j<=P.length):((a2o P x R j).map f)[((j:Int)).toNat]?=some (f x):=by
 grind [a3n,c0O]
theorem a0b (h0:0 < j) (h:j<=P.length):((a2o P x R j).map f)[((j:Int) - 1).toNat]?=some (f (P.getD (j - 1) default)):=by
 rw [show ((j:Int) - 1).toNat=j - 1 by omega]
 rw [c0Q (by rw [a3n h];omega),b8v J h]
theorem a0W (h0:0 < j) (h:j<=P.length):(((a2o P x R j).map f).set ((j:Int)).toNat c)[((j:Int) - 1).toNat]?=some (f (P.getD (j - 1) default)):=by
 rw [← a0b (f:=f) (x:=x) (R:=R) h0 h]
 show (((a2o P x R j).map f).set j c)[((j:Int) - 1).toNat]?=_
 rw [List.getElem?_set_ne J]
end
variable {i:Nat}
theorem b1o {α β:Type} [Inhabited α] {f:α→β} {l:List α} {i:Nat} {y:β} (h:i < l.length) (hy:y=f (l.getD i default)):(l.take i).map f++[y]=(l.take (i+1)).map f:=by
 subst hy
 rw [List.take_add_one,List.getElem?_eq_getElem h,List.map_append,List.getD_eq_getElem?_getD,List.getElem?_eq_getElem h]
 rfl
theorem c4N {q:Que} (h:i < (pnS q 4).length):(A5 q).getD i default=((pnS q 4).getD i default).q:=by unfold A5;rw [a1K h]
theorem b5E {q:Que}:(A5 q).length=(pnS q 4).length:=by unfold A5;rw [List.length_map]
theorem b8A {q:Que} (h:i < (pnS q 4).length):((A5 q).take i).map n7++[[Value.int .i64 ((pnS q 4).getD i default).q]]=((A5 q).take (i+1)).map n7:=b1o (by rw [b5E];exact h) (by rw [c4N h];rfl)
theorem b5F {q:Que} (h:(pnS q 4).length<=i):(A5 q).take i=A5 q:=List.take_of_length_le (by rw [b5E];exact h)
end Go.Rf
namespace Go.Rf
open Go
variable {l:List Int} {n x:Int} {w:Wtr}
theorem a36 {a b:List Int}:srtI a=srtI b↔a.Perm b:=by
 constructor
 ·intro h
  exact (a3Y a).symm.trans (h▸a3Y b)
 ·intro h
  have hp:∀l:List Int,(srtI l).Pairwise (λx y=>decide (x<=y)=true):=λl=>List.pairwise_mergeSort (λa b c h1 h2=>by simp at *;omega) (λa b=>by simp;omega) l
  exact List.Perm.eq_of_pairwise (λx y _ _ h1 h2=>by simp at *;omega) (hp a) (hp b) ((a3Y a).trans (h.trans (a3Y b).symm))
theorem b5G {α:Type} [BEq α] [LawfulBEq α]:∀{a b:List α},a.Nodup→(∀x∈a,x∈b)→b.length<=a.length→a.Perm b
 | [],b,_,_,hl=>by
  have:b=[]:=List.eq_nil_of_length_eq_zero (by simpa using hl)
  rw [this]
 | x :: a,b,hn,hs,hl=>by
  obtain ⟨h1,h2⟩:=List.nodup_cons.mp hn
  have hx:x∈b:=hs x (by simp)
  refine List.Perm.trans ?_ (List.perm_cons_erase hx).symm
  refine List.Perm.cons x (b5G h2 (λy hy=>?_) ?_)
  ·have hne:y≠x:=λe=>h1 (e▸hy)
   exact (List.mem_erase_of_ne hne).mpr (hs y (by simp [hy]))
  ·rw [List.length_erase_of_mem hx]
   simp only [List.length_cons] at hl
   omega
def actN (sl:List Slot):Nat→List Int
 | 0=>[]
 | i+1=>if P3 (sl.getD i default) then actN sl i++[(sl.getD i default).q] else actN sl i
def b2q (l:List Int) (n:Int):List Int:=l.takeWhile (λx=>decide (x < n))++[n]++l.dropWhile (λx=>decide (x < n))
def a69 (sl:List Slot):Nat→List Int
 | 0=>[]
 | i+1=>if P3 (sl.getD i default) then b2q (a69 sl i) (sl.getD i default).q else a69 sl i
section
variable {sl:List Slot} {i:Nat}
theorem c4O (h:P3 (sl.getD i default)=true):actN sl (i+1)=actN sl i++[(sl.getD i default).q]:=by show (if _ then _ else _)=_;rw [if_pos h]
theorem c4P (h:P3 (sl.getD i default)=false):actN sl (i+1)=actN sl i:=by show (if _ then _ else _)=_;rw [if_neg (by rw [h];decide)]
theorem b8B (h:(sl.getD i default).s=2∨(sl.getD i default).s=3):a69 sl (i+1)=b2q (a69 sl i) (sl.getD i default).q:=by show (if _ then _ else _)=_;rw [if_pos (u5.mpr h)]
theorem b8C (h:¬ ((sl.getD i default).s=2∨(sl.getD i default).s=3)):a69 sl (i+1)=a69 sl i:=by show (if _ then _ else _)=_;rw [if_neg (λg=>h (u5.mp g))]
theorem X1:∀i,(actN sl i).length<=i
 | 0=>Nat.le_refl _
 | i+1=>by
  have ih:=@X1 i
  show (if _ then _ else _:List Int).length<=_
  split
  ·rw [List.length_append,List.length_cons,List.length_nil];omega
  ·omega
theorem b8D:x∈b2q l n↔x=n∨x∈l:=by
 have h:=List.takeWhile_append_dropWhile (p:=λx=>decide (x < n)) (l:=l)
 have:x∈l↔x∈l.takeWhile (λx=>decide (x < n))∨x∈l.dropWhile (λx=>decide (x < n)):=by
  grind
 unfold b2q
 grind
theorem b8E:(b2q l n).length=l.length+1:=by
 have h:=congrArg List.length (List.takeWhile_append_dropWhile (p:=λx=>decide (x < n)) (l:=l))
 unfold b2q
 grind
theorem c0R {k:Nat} (h:∀j,j < k→l.getD j default < n) (hk:k<=l.length) (he:k=l.length∨(k < l.length/\¬ l.getD k default < n)):b2q l n=l.take k++[n]++l.drop k:=by
 have key:l.takeWhile (λx=>decide (x < n))=l.take k/\l.dropWhile (λx=>decide (x < n))=l.drop k:=by
  induction l generalizing k with
  | nil=>simp at hk;subst hk;exact ⟨Z,Z⟩
  | cons x l ih =>
   cases k with
   | zero =>
    rcases he with he | ⟨_,he⟩
    ·simp at he
    ·have he:¬ x < n:=he
     simp [he]
   | succ k =>
    have h0:x < n:=h 0 J
    obtain ⟨e1,e2⟩:=ih (k:=k) (λj hj=>by simpa using h (j+1) J) (by simpa using hk) (by
     rcases he with he | ⟨g1,g2⟩
     ·left;simpa using he
     ·right;exact ⟨by simpa using g1,by simpa using g2⟩)
    simp [h0,e1,e2]
 unfold b2q
 rw [key.1,key.2]
theorem a6h {x:Int}:∀i,x∈a69 sl i↔x∈actN sl i
 | 0=>Iff.rfl
 | i+1=>by
  have ih:=@a6h x i
  show x∈(if _ then _ else _:List Int)↔x∈(if _ then _ else _:List Int)
  split
  ·rw [b8D,List.mem_append,List.mem_singleton,ih];exact Or.comm
  ·exact ih
theorem a6i:∀i,(a69 sl i).length=(actN sl i).length
 | 0=>rfl
 | i+1=>by
  have ih:=@a6i i
  show (if _ then _ else _:List Int).length=(if _ then _ else _:List Int).length
  split
  ·rw [b8E,List.length_append,ih];rfl
  ·exact ih
theorem H4 {x:Int}:∀i,x∈actN sl i↔∃j,j < i/\P3 (sl.getD j default)=true/\(sl.getD j default).q=x
 | 0=>by simp [actN]
 | i+1=>by
  have ih:=@H4 x i
  show x∈(if _ then _ else _:List Int)↔_
  split
  ·next h =>
   rw [List.mem_append,List.mem_singleton,ih]
   constructor
   ·rintro (⟨j,h1,h2⟩ | rfl)
    ·exact ⟨j,by omega,h2⟩
    ·exact ⟨i,by omega,h,Z⟩
   ·rintro ⟨j,h1,h2,h3⟩
    by_cases e:j=i
    ·subst e;exact .inr h3.symm
    ·exact .inl ⟨j,by omega,h2,h3⟩
  ·next h =>
   rw [ih]
   constructor
   ·rintro ⟨j,h1,h2⟩;exact ⟨j,by omega,h2⟩
   ·rintro ⟨j,h1,h2,h3⟩
    by_cases e:j=i
    ·subst e;exact absurd h2 h
    ·exact ⟨j,by omega,h2,h3⟩
theorem b2r (h:SlF sl):∀i,i<=4→(actN sl i).Nodup
 | 0,_=>List.nodup_nil
 | i+1,hi=>by
  have ih:=b2r h i J
  show (if _ then _ else _:List Int).Nodup
  split
  ·next ha =>
   refine List.nodup_append.mpr ⟨ih,List.nodup_cons.mpr ⟨by simp,List.nodup_nil⟩,λx hx y hy e=>?_⟩
   rw [List.mem_singleton.mp hy] at e
   obtain ⟨j,h1,h2,h3⟩:=(H4 i).mp hx
   refine h.dif j i h1 J ?_ ?_ (h3.trans e)
   ·rcases u5.mp h2 with g | g<;>omega
   ·rcases u5.mp ha with g | g<;>omega
  ·exact ih
theorem c0S (h:SlF sl) (hi:i < 4) (ha:P3 (sl.getD i default)=true) {x:Int} (hx:x∈a69 sl i):x≠(sl.getD i default).q:=λe=>by
 obtain ⟨j,h1,h2,h3⟩:=(H4 i).mp ((a6h i).mp hx)
 refine h.dif j i h1 hi ?_ ?_ (h3.trans e)
 ·rcases u5.mp h2 with g | g<;>omega
 ·rcases u5.mp ha with g | g<;>omega
end
def lvD (sl:List Slot) (st:List Int) (i:Nat):Bool:=decide (i=0) || decide (lvl sl (st.getD i default) < lvl sl (st.getD (i - 1) default))
def a6j (sl:List Slot) (st:List Int):Bool:=decide (srtI st=srtI (actN sl 4)) && a0H st.length (lvD sl st)
def a3o (x:Ifc):Bool:=m5 x.ma 0 16 && (b0u x.qu && a6j x.qu.sl x.st)
section
variable {sl:List Slot} {st:List Int} {i:Nat}
theorem b2s (h:¬ srtI st=srtI (actN sl 4)):a6j sl st=false:=by unfold a6j;rw [decide_eq_false h,Bool.false_and]
theorem b8F (h:lvD sl st i=false) (hi:i < st.length):a6j sl st=false:=by unfold a6j;rw [a0n h hi,Bool.and_false]
theorem b8G (h:srtI st=srtI (actN sl 4)) (h2:∀j,j < i→lvD sl st j=true) (hi:st.length<=i):a6j sl st=true:=by unfold a6j;rw [decide_eq_true h,a15 h2 hi];rfl
theorem c12:lvD sl st 0=true:=rfl
theorem c13 (h:lvl sl (st.getD i default) < lvl sl (st.getD (i - 1) default)):lvD sl st i=true:=by unfold lvD;rw [decide_eq_true h,Bool.or_true]
theorem c14 (h0:i≠0) (h:¬ lvl sl (st.getD i default) < lvl sl (st.getD (i - 1) default)):lvD sl st i=false:=by unfold lvD;rw [decide_eq_false h,decide_eq_false h0];rfl
theorem b4N (h:x∈actN sl 4) (hl:sl.length=4):0<=r9 sl x:=by
 obtain ⟨j,h1,h2,h3⟩:=(H4 4).mp h
 refine a6c ⟨wOf (sl.getD j default),H3.mpr ⟨sl.getD j default,n6.mpr ⟨j,by omega,Z⟩,h2,Z⟩,h3⟩
theorem b4O (h:srtI st=srtI (actN sl 4)) {x:Int} (hx:x∈st):x∈actN sl 4:=(a36.mp h).mem_iff.mp hx
structure StP (sl:List Slot) (st:List Int) (i:Nat):Prop where
 inn:∀j,j < i→st.getD j default∈actN sl 4
 dif:∀k j,k < j→j < i→st.getD k default≠st.getD j default
 lev:∀j,j < i→lvD sl st j=true
theorem c6Q:StP sl st 0:=⟨λj h=>by omega,λk j _ h=>by omega,λj h=>by omega⟩
theorem StP.succ (h:StP sl st i) (h1:st.getD i default∈actN sl 4) (h2:∀k,k < i→st.getD k default≠st.getD i default) (h3:lvD sl st i=true):StP sl st (i+1):=by
 refine ⟨λj hj=>?_,λk j hk hj=>?_,λj hj=>?_⟩
 ·by_cases e:j=i
  ·subst e;exact h1
  ·exact h.inn j J
 ·by_cases e:j=i
  ·subst e;exact h2 k hk
  ·exact h.dif k j hk J
 ·by_cases e:j=i
  ·subst e;exact h3
  ·exact h.lev j J
theorem b2t:l.Nodup↔∀k j,k < j→j < l.length→l.getD k default≠l.getD j default:=a56
theorem StP.fin (hF:SlF sl) (h:StP sl st st.length):a6j sl st=decide (st.length=(actN sl 4).length):=by
 by_cases hl:st.length=(actN sl 4).length
 ·rw [decide_eq_true hl]
  have hn:st.Nodup:=b2t.mpr h.dif
  have hp:=b5G hn (λx hx=>by obtain ⟨j,hj,rfl⟩:=n6.mp hx;exact h.inn j hj) J
  exact b8G (a36.mpr hp) h.lev (Nat.le_refl _)
 ·rw [decide_eq_false hl]
  exact b2s λe=>hl (a36.mp e).length_eq
theorem c0T (hi:i < st.length) (h:¬ st.getD i default∈actN sl 4):a6j sl st=false:=b2s λe=>h (b4O e (n6.mpr ⟨i,hi,Z⟩))
theorem b8H (hF:SlF sl) {k:Nat} (hk:k < i) (hi:i < st.length) (h:st.getD k default=st.getD i default):a6j sl st=false:=b2s λe=>by
 have hn:st.Nodup:=(a36.mp e).nodup_iff.mpr (b2r hF 4 (Nat.le_refl _))
 exact b2t.mp hn k i hk hi h
end
theorem b4P {x:Ifc} (h:a3o x=true):IfF x/\setd x.qu=true/\(0<=x.ma/\x.ma<=16)/\srtI x.st=srtI (actN x.qu.sl 4):=by
 simp only [a3o,a6j,Bool.and_eq_true,decide_eq_true_eq] at h
 obtain ⟨h1,h2,h3,h4⟩:=h
 obtain ⟨g1,g2⟩:=a9J.mp h2
 refine ⟨⟨g1,?_,λq hq=>?_⟩,g2,s2.mp h1,h3⟩
 ·rw [(a36.mp h3).length_eq];exact X1 4
 ·obtain ⟨j,h1,h2,h3⟩:=(H4 4).mp (b4O h3 hq)
  exact ⟨wOf (x.qu.sl.getD j default),H3.mpr ⟨_,n6.mpr ⟨j,by rw [g1.sl.len];exact h1,Z⟩,h2,Z⟩,h3⟩
def rtW (rs:List Route) (k:Nat) (w:Wtr):Bool:=decide (tgI rs w.q=k) && decide (prI rs w.q=w.p)
def rtS (rs:List Route) (k:Nat) (x:Slot):Bool:=!decide (x.s=3) && (decide (x.s=0) || rtW rs k (wOf x))
def okRq (rs:List Route) (q:Que) (k:Nat):Bool:=a0H 4 (λi=>rtS rs k (q.sl.getD i default)) && a0H q.wa.length (λi=>rtW rs k (q.wa.getD i default))
def a8c (m:Mach) (k:Nat):Bool:=a3o (m.cp.getD k default) && okRq m.rs (m.cp.getD k default).qu k
def a0w (m:Mach):Bool:=okRts m.rs m.cp.length && (decide (m.en.length=8) && (decide (m.ra.length=8) && a0H m.cp.length (a8c m)))
section
variable {rs:List Route} {q:Que} {k i:Nat} {m:Mach}
theorem a38:rtW rs k w=true↔tgI rs w.q=k/\prI rs w.q=w.p:=by simp [rtW]
theorem c4Q:rtW rs k w=false↔¬ (tgI rs w.q=k/\prI rs w.q=w.p):=by rw [← Bool.not_eq_true,a38]
theorem a8U {x:Slot}:rtS rs k x=true↔x.s≠3/\(x.s=0∨(tgI rs x.q=k/\prI rs x.q=x.p)):=by
 grind [rtS,a38,wOf]
theorem b8I {x:Slot}:rtS rs k x=false↔¬ (x.s≠3/\(x.s=0∨(tgI rs x.q=k/\prI rs x.q=x.p))):=by rw [← Bool.not_eq_true,a8U]
theorem b8J (h:rtS rs k (q.sl.getD i default)=false) (hi:i < 4):okRq rs q k=false:=by unfold okRq;rw [a0n h hi,Bool.false_and]
theorem c4R (h:rtW rs k (q.wa.getD i default)=false) (hi:i < q.wa.length):okRq rs q k=false:=by unfold okRq;rw [a0n h hi,Bool.and_false]
theorem b8K {j:Nat} (h:∀t,t < i→rtS rs k (q.sl.getD t default)=true) (hi:4<=i) (h2:∀t,t < j→rtW rs k (q.wa.getD t default)=true) (hj:q.wa.length<=j):okRq rs q k=true:=by unfold okRq;rw [a15 h hi,a15 h2 hj];rfl
theorem c4S (h:okRts m.rs m.cp.length=false):a0w m=false:=by unfold a0w;rw [h,Bool.false_and]
theorem c4T (h:¬ (m.en.length=8/\m.ra.length=8)):a0w m=false:=by
 grind [a0w]
theorem b8L (h:a8c m k=false) (hk:k < m.cp.length):a0w m=false:=by unfold a0w;rw [a0n h hk];simp
theorem c4U (h1:okRts m.rs m.cp.length=true) (h2:m.en.length=8) (h3:m.ra.length=8) (h4:∀j,j < k→a8c m j=true) (hk:m.cp.length<=k):a0w m=true:=by unfold a0w;rw [h1,decide_eq_true h2,decide_eq_true h3,a15 h4 hk];rfl
theorem c4V (h:a3o (m.cp.getD k default)=false):a8c m k=false:=by unfold a8c;rw [h,Bool.false_and]
theorem c4W (h:okRq m.rs (m.cp.getD k default).qu k=false):a8c m k=false:=by unfold a8c;rw [h,Bool.and_false]
theorem c4X (h1:a3o (m.cp.getD k default)=true) (h2:okRq m.rs (m.cp.getD k default).qu k=true):a8c m k=true:=by unfold a8c;rw [h1,h2];rfl
end
def ftL (q:Que):Nat→List Wtr
 | 0=>q.wa
 | i+1=>if (q.sl.getD i default).s=0 then ftL q i else ftL q i++[wOf (q.sl.getD i default)]
section
variable {rs:List Route} {q:Que} {k i:Nat}
theorem c6R (h:(q.sl.getD i default).s=0):ftL q (i+1)=ftL q i:=by show (if _ then _ else _)=_;rw [if_pos h]
theorem c6S (h:¬ (q.sl.getD i default).s=0):ftL q (i+1)=ftL q i++[wOf (q.sl.getD i default)]:=by show (if _ then _ else _)=_;rw [if_neg h]
theorem b2u:∀i,(ftL q i).length<=q.wa.length+i
 | 0=>Nat.le_refl _
 | i+1=>by
  have ih:=@b2u i
  show (if _ then _ else _:List Wtr).length<=_
  split
  ·omega
  ·rw [List.length_append,List.length_cons,List.length_nil];omega
theorem a6k {x:Wtr}:∀i,x∈ftL q i↔x∈q.wa∨∃j,j < i/\(q.sl.getD j default).s≠0/\x=wOf (q.sl.getD j default)
 | 0=>by simp [ftL]
 | i+1=>by
  have ih:=@a6k x i
  show x∈(if _ then _ else _:List Wtr)↔_
  split
  ·next h =>
   rw [ih]
   constructor
   ·rintro (h1 | ⟨j,h1,h2⟩)
    ·exact .inl h1
    ·exact .inr ⟨j,by omega,h2⟩
   ·rintro (h1 | ⟨j,h1,h2,h3⟩)
    ·exact .inl h1
    ·by_cases e:j=i
     ·subst e;exact absurd h h2
     ·exact .inr ⟨j,by omega,h2,h3⟩
  ·next h =>
   rw [List.mem_append,List.mem_singleton,ih]
   constructor
   ·rintro ((h1 | ⟨j,h1,h2⟩) | rfl)
    ·exact .inl h1
    ·exact .inr ⟨j,by omega,h2⟩
    ·exact .inr ⟨i,by omega,h,Z⟩
   ·rintro (h1 | ⟨j,h1,h2,h3⟩)
    ·exact .inl (.inl h1)
    ·by_cases e:j=i
     ·subst e;exact .inr h3
     ·exact .inl (.inr ⟨j,by omega,h2,h3⟩)
theorem c4Y (h:QF q) {x:Wtr} (hi:i<=4) (hx:x∈ftL q i):0<=x.q/\x.q<=7:=by
 rcases (a6k i).mp hx with g | ⟨j,g1,g2,rfl⟩
 ·exact (h.wa x g).1
 ·exact (h.sl.ok j J g2).2.1
theorem c6T (h3:∀j,j < 4→(q.sl.getD j default).s≠3):(!(V6 (ftL q 4).length (λi=>!rtW rs k ((ftL q 4).getD i default))))=okRq rs q k:=by
 rw [Bool.eq_iff_iff,Bool.not_eq_true',a0a]
 constructor
 ·intro h
  have hm:∀x∈ftL q 4,rtW rs k x=true:=λx hx=>by
   obtain ⟨i,hi,rfl⟩:=n6.mp hx
   simpa using h i hi
  refine b8K (i:=4) (j:=q.wa.length) (λt ht=>a8U.mpr ⟨h3 t ht,?_⟩) (Nat.le_refl _) (λt ht=>hm _ ((a6k 4).mpr (.inl (n6.mpr ⟨t,ht,Z⟩)))) (Nat.le_refl _)
  by_cases h0:(q.sl.getD t default).s=0
  ·exact .inl h0
  ·exact .inr (a38.mp (hm _ ((a6k 4).mpr (.inr ⟨t,ht,h0,Z⟩))))
 ·intro h i hi
  have hx:(ftL q 4).getD i default∈ftL q 4:=n6.mpr ⟨i,hi,Z⟩
  simp only [okRq,Bool.and_eq_true,P9] at h
  rw [Bool.not_eq_false']
  rcases (a6k 4).mp hx with g | ⟨j,g1,g2,g3⟩
  ·obtain ⟨t,ht,e⟩:=n6.mp g
   rw [← e];exact h.2 t ht
  ·rw [g3]
   rcases (a8U.mp (h.1 j g1)).2 with e | e
   ·exact absurd e g2
   ·exact a38.mpr e
end
end Go.Rf
namespace Go.Rf
section
variable {x:Ifc}
theorem b8M (h:m5 x.ma 0 16=false):a3o x=false:=by unfold a3o;rw [h,Bool.false_and]
theorem b8N (h:b0u x.qu=false):a3o x=false:=by unfold a3o;rw [h,Bool.false_and,Bool.and_false]
theorem a9L (h:a6j x.qu.sl x.st=false):a3o x=false:=by unfold a3o;rw [h,Bool.and_false,Bool.and_false]
theorem c4Z (h1:m5 x.ma 0 16=true) (h2:b0u x.qu=true) (h3:a6j x.qu.sl x.st=true):a3o x=true:=by unfold a3o;rw [h1,h2,h3];rfl
theorem c40 (h1:m5 x.ma 0 16=true) (h2:b0u x.qu=true):a3o x=a6j x.qu.sl x.st:=by unfold a3o;rw [h1,h2];rfl
end
end Go.Rf
namespace Go.Rf
open Go
variable {i k:Nat} {l:List Int} {m:Mach} {v:Int}
theorem a9M:a9C l v=true↔v∈l:=by
 unfold a9C
 rw [a9F]
 constructor
 ·rintro ⟨i,hi,h⟩
  rw [of_decide_eq_true h]
  exact n6.mpr ⟨i,hi,Z⟩
 ·intro h
  obtain ⟨i,hi,e⟩:=n6.mp h
  exact ⟨i,hi,decide_eq_true e.symm⟩
theorem b5H:a9C l v=false↔v∉l:=by rw [← Bool.not_eq_true,a9M]
theorem a9N (hi:i<=l.length) {v:Int}:v∈l.take i↔∃k,k < i/\l.getD k default=v:=by
 rw [n6]
 constructor
 ·rintro ⟨k,hk,e⟩
  rw [List.length_take] at hk
  have hk2:k < i:=by omega
  exact ⟨k,hk2,by rw [← a1G (l:=l) hk2];exact e⟩
 ·rintro ⟨k,hk,e⟩
  exact ⟨k,by rw [List.length_take];omega,by rw [a1G hk];exact e⟩
theorem c8s {a b:Nat}:((a:Int)==(b:Int))=decide (a=b):=by
 by_cases h:a=b
 ·subst h;simp
 ·have:¬ ((a:Int)=b):=by omega
  simp [h,this]
def b3P (po:List Bool) (l:List Int):Nat→List Bool
 | 0=>po
 | i+1=>(b3P po l i).set (l.getD i default).toNat true
theorem a0j {po:List Bool}:b3P po l (i+1)=(b3P po l i).set (l.getD i default).toNat true:=rfl
theorem E4 {po:List Bool} {l:List Int}:∀i,(b3P po l i).length=po.length
 | 0=>rfl
 | i+1=>by rw [a0j,List.length_set,E4 i]
def poN (m:Mach):Nat→List Bool
 | 0=>List.replicate 8 false
 | k+1=>b3P (poN m k) (A5 (m.cp.getD k default).qu) (A5 (m.cp.getD k default).qu).length
theorem b8O:poN m (k+1)=b3P (poN m k) (A5 (m.cp.getD k default).qu) (A5 (m.cp.getD k default).qu).length:=rfl
theorem F9 {m:Mach}:∀k,(poN m k).length=8
 | 0=>rfl
 | k+1=>by rw [b8O,E4,F9 k]
def S4 (m:Mach):Abs:=⟨m.en,m.ra,poN m m.cp.length,m.cp.map (·.ma),m.cp.map (·.st)⟩
structure MaF (m:Mach):Prop where
 rt:okRts m.rs m.cp.length=true
 n:1<=m.cp.length/\m.cp.length<=2
 rn:m.rs.length=8
 en:m.en.length=8
 ra:m.ra.length=8
 ok:∀k,k < m.cp.length→IfF (m.cp.getD k default)/\setd (m.cp.getD k default).qu=true/\(0<=(m.cp.getD k default).ma/\(m.cp.getD k default).ma<=16)/\srtI (m.cp.getD k default).st=srtI (actN (m.cp.getD k default).qu.sl 4)
 rq:∀k,k < m.cp.length→okRq m.rs (m.cp.getD k default).qu k=true
theorem maF (h:a0w m=true):MaF m:=by
 simp only [a0w,a8c,Bool.and_eq_true,decide_eq_true_eq,P9] at h
 obtain ⟨h1,h2,h3,h4⟩:=h
 have hr:=U0.mp h1
 exact ⟨h1,by omega,hr.2.1,h2,h3,λk hk=>b4P (h4 k hk).1,λk hk=>(h4 k hk).2⟩
theorem a0X (h:k < m.cp.length):((m.cp.map (·.ma)).take k).map n7++[[Value.int .i64 (m.cp.getD k default).ma]]=((m.cp.map (·.ma)).take (k+1)).map n7:=b1o (by rw [List.length_map];exact h) (by rw [a1K h];rfl)
theorem a0Y (h:k < m.cp.length) {y:List CI} (hy:y=a5Z (m.cp.getD k default).st):((m.cp.map (·.st)).take k).map a5Z++[y]=((m.cp.map (·.st)).take (k+1)).map a5Z:=b1o (by rw [List.length_map];exact h) (by rw [a1K h];exact hy)
theorem b3Q {α β:Type} {l:List α} {f:α→β} (h:l.length<=k):(l.map f).take k=l.map f:=List.take_of_length_le (by rw [List.length_map];exact h)
def szQ (q:Que) (l:Int):Int:=if szL q.sl.length l < 0 then -1 else szL q.wa.length (szL q.sl.length l)
def szF (x:Ifc) (l:Int):Int:=if szL x.st.length l < 0 then -1 else szQ x.qu (szL x.st.length l)
def b0w (xs:List Ifc) (l:Int):Int:=if l - xs.length - sumI xs xs.length < 0 then -1 else l - xs.length - sumI xs xs.length
def a7a (m:Mach) (l:Int):Int:=if szL m.rs.length l < 0 then -1 else if szL m.en.length (szL m.rs.length l) < 0 then -1 else if szL m.ra.length (szL m.en.length (szL m.rs.length l)) < 0 then -1 else b0w m.cp (szL m.ra.length (szL m.en.length (szL m.rs.length l)))
theorem c41 {x:Ifc} {l:Int} (hl:0<=l):szF x l=if l - szI x < 0 then -1 else l - szI x:=by
 unfold szF szQ szL szI
 repeat' split
 all_goals omega
theorem b4Q {l:Int} (hl:0<=l/\l<=1048576) (h:¬ a7a m l < 0):SmallM m:=by
 have hn:=@a33 m.cp m.cp.length
 unfold a7a b0w szL at h
 refine ⟨?_,?_,?_,?_,?_⟩<;>(repeat' split at h)<;>omega
end Go.Rf
namespace Go.Rf
variable {l:Int}
theorem b5I {n:Nat} (h:szL n l < 0):szL n l=-1:=by
 unfold szL at *
 by_cases h1:l - n < 0
 ·rw [if_pos h1]
 ·rw [if_neg h1] at h;exact absurd h h1
theorem c0U {q:Que} (h:szQ q l < 0):szQ q l=-1:=by
 unfold szQ at *
 by_cases h1:szL q.sl.length l < 0
 ·rw [if_pos h1]
 ·rw [if_neg h1] at h ⊢;exact b5I h
theorem b8P {xs:List Ifc} (h:b0w xs l < 0):b0w xs l=-1:=by
 unfold b0w at *
 by_cases h1:l - xs.length - sumI xs xs.length < 0
 ·rw [if_pos h1]
 ·rw [if_neg h1] at h;exact absurd h h1
end Go.Rf
namespace Go.Rf
open Go Go.RowKit
variable {i:Nat} {l:List Int} {sl:List Slot} {ws:List ByteArray} {x:Slot}
def spB:ByteArray:=⟨#[32]⟩
def jnS (ws:List ByteArray):Nat→ByteArray
 | 0=>⟨#[]⟩
 | n+1=>(if n=0 then ⟨#[]⟩ else jnS ws n++spB)++ws.getD n ⟨#[]⟩
theorem b5J:jnS ws 1=ws.getD 0 ⟨#[]⟩:=by
 rfl
theorem a6l {n:Nat} (h:0 < n):jnS ws (n+1)=jnS ws n++spB++ws.getD n ⟨#[]⟩:=by
 show (if n=0 then _ else _)++_=_
 rw [if_neg J]
theorem a9O {ws:List ByteArray} {b:Nat} (h:∀i,i < ws.length→(ws.getD i ⟨#[]⟩).size<=b):∀n,n<=ws.length→(jnS ws n).size<=n * (b+1)
 | 0,_=>Nat.zero_le _
 | n+1,hn=>by
  have ih:=a9O h n J
  have hb:=h n J
  have e:(n+1) * (b+1)=n * (b+1)+(b+1):=Nat.succ_mul _ _
  have hsp:spB.size=1:=rfl
  by_cases h0:n=0
  ·subst h0
   rw [b5J]
   omega
  ·rw [a6l J,ByteArray.size_append,ByteArray.size_append]
   omega
theorem a9P (sep x:List UInt8):∀(l:List (List UInt8)),l≠[]→sep.intercalate (l++[x])=sep.intercalate l++sep++x
 | [],h=>absurd Z h
 | [y],_=>by simp [List.intercalate]
 | y :: z :: r,_=>by
  have ih:=a9P sep x (z :: r) (by simp)
  simp_all
theorem b5K {ws:List ByteArray}:∀n,n<=ws.length→(⟨(Lib.join ((ws.take n).map (·.data.toList)) [32]).toArray⟩:ByteArray)=jnS ws n
 | 0,_=>rfl
 | n+1,hn=>by
  have ih:=b5K (ws:=ws) n J
  have hx:ws[n]?=some (ws.getD n ⟨#[]⟩):=by rw [List.getD_eq_getElem?_getD,List.getElem?_eq_getElem J];rfl
  rw [List.take_add_one,hx,Option.toList_some,List.map_append,List.map_cons,List.map_nil]
  by_cases h0:n=0
  ·subst h0
   rw [b5J,List.take_zero,List.map_nil,List.nil_append,Lib.join_one]
  ·rw [a6l J,← ih,Lib.join,a9P _ _ _ (by intro e;have:=congrArg List.length e;rw [List.length_map,List.length_take,Nat.min_eq_left J] at this;exact h0 this)]
   rfl
def jnA (ws:List ByteArray):ByteArray:=jnS ws ws.length
theorem c15 {ws:List ByteArray}:(⟨(Lib.join (ws.map (·.data.toList)) spB.data.toList).toArray⟩:ByteArray)=jnA ws:=by
 have h:=b5K (ws:=ws) ws.length (Nat.le_refl _)
 rw [List.take_length] at h
 exact h
theorem Ctr.join {P:Program} [Env P] {f:FuncId} (hc:Callable P f) {ws:List ByteArray} (hl:ws.length<=1048576) (hs:(jnA ws).size<=140737488355328)
 (h:∀(bk o c:Nat) (w:World),(∀(j:Nat) x,ws[j]?=some x→w.cell? ⟨bk,o+j,none⟩=some (.string x))→bk < w.heap.size→ws.length<=140737488355328→ws.length<=c→(Lib.join (ws.map (·.data.toList)) spB.data.toList).length<=140737488355328 →
  Calls P f #[.slice (some ⟨bk,o,none⟩) ws.length c,.string spB] w λe w'=>e=.returned (.string ⟨(Lib.join (ws.map (·.data.toList)) spB.data.toList).toArray⟩)/\Below w.heap.size w w')
 (h0:∀(a:Option Addr) (c:Nat) (w:World),Calls P f #[.slice a 0 c,.string spB] w λe w'=>e=.returned (.string ⟨#[]⟩)/\w'=w) :
 Ctr P f [.lst 1 (ws.map a60),.v (.string ⟨#[32]⟩)] (.one (.v (.string (jnA ws)))):=by
 refine ⟨hc,λw vs he hv=>?_⟩
 simp only [RelVs] at hv
 obtain ⟨y,_,rfl,hy,_,_,rfl,hv2,rfl⟩:=hv
 simp only [RelV] at hy hv2
 subst hv2
 obtain ⟨A,cap,rfl,hcap,hall,hcell⟩:=hy
 rw [List.length_map] at hcap hcell ⊢
 by_cases hz:ws.length=0
 ·have e0:ws=[]:=List.eq_nil_of_length_eq_zero hz
  subst e0
  exact (h0 A cap w).mono λe w' ⟨h1,h2⟩=>⟨_,h1,by simp only [ResRel,RCRel];rfl,h2▸Below.refl _ _⟩
 ·obtain ⟨ad,rfl,hb,hr⟩:=hcell J
  have hat:∀j x,ws[j]?=some x→w.cell? (ad.add (j * 1+0))=some (.string x):=λj x hj=>hr j (a60 x) (by rw [List.getElem?_map,hj];rfl) 0 _ Z
  have hsp:ad.spot=none:=by
   have h1:=hat 0 (ws.getD 0 ⟨#[]⟩) (by rw [List.getD_eq_getElem?_getD,List.getElem?_eq_getElem J];rfl)
   have h1:w.cell? ad=some (.string (ws.getD 0 ⟨#[]⟩)):=h1
   cases hsp:ad.spot with
   | none=>rfl
   | some s =>
    exfalso
    unfold World.cell? at h1
    grind
  obtain ⟨bk,o,sp⟩:=ad
  simp only at hsp hb
  subst hsp
  refine (h bk o cap w (λj x hj=>?_) hb J hcap (by have:=congrArg ByteArray.size (c15 (ws:=ws));simp only [ByteArray.size,List.size_toArray] at this hs;omega)).mono λe w' ⟨h1,h2⟩=>⟨.string (jnA ws),h1.trans (by rw [c15]),by simp only [ResRel,RCRel],h2⟩
  have:=hat j x hj
  rw [Nat.mul_one,Nat.add_zero] at this
  by_cases hj0:j=0
  ·subst hj0;exact this
  ·rw [Addr.add,if_neg hj0] at this;exact this
def b3R:ByteArray:=⟨#[110,111,110,101]⟩
def b2v (l:List Int):List ByteArray:=l.map r6
theorem X2:(b2v l).length=l.length:=List.length_map _
theorem a1M (h:i < l.length):(b2v l).getD i ⟨#[]⟩=r6 (l.getD i default):=by
 grind [b2v]
def a4Y (l:List Int):ByteArray:=if l.length=0 then b3R else jnA (b2v l)
def a0x (n:Int):Prop:=-9223372036854775807<=n/\n<=9223372036854775807
theorem b1p (h:∀i,i < l.length→a0x (l.getD i default)) (n:Nat) (hn:n<=l.length):(jnS (b2v l) n).size<=n * 22 :=
 a9O (b:=21) (λi hi=>by rw [X2] at hi;rw [a1M hi];have:=h i hi;exact u9 (by have:=this.1;omega) this.2) n (by rw [X2];exact hn)
theorem c42 {l:List Int} (h:l.length=0):a4Y l=b3R:=if_pos h
theorem b8Q {l:List Int} (h:0 < l.length):a4Y l=jnS (b2v l) l.length:=by rw [a4Y,if_neg J,jnA,X2]
def a6m (k:Int):ByteArray:=(⟨#[45,112,97,98]⟩:ByteArray).extract k.toNat (k+1).toNat
theorem a7b {k:Int}:(a6m k).size<=4:=by
 rw [a6m,ByteArray.size_extract]
 omega
def b4R (x:Slot):ByteArray:=if x.s=0 then a6m x.s else a6m x.s++(r6 x.q++⟨#[58]⟩++r6 x.p)
def a2p (sl:List Slot):List ByteArray:=sl.map b4R
theorem a0y:(a2p sl).length=sl.length:=List.length_map _
theorem a9Q {l:List Slot} (h:i < l.length):(a2p l).getD i ⟨#[]⟩=b4R (l.getD i default):=by
 grind [a2p]
def a4u (sl:List Slot):ByteArray:=jnA (a2p sl)
theorem b2w (h:x.s=0):b4R x=a6m x.s:=if_pos h
theorem b2x (h:x.s≠0):b4R x=a6m x.s++(r6 x.q++⟨#[58]⟩++r6 x.p):=if_neg h
theorem b6Y (h:x.s≠0→a0x x.q/\a0x x.p):(b4R x).size<=47:=by
 have hb:=@a7b x.s
 by_cases h0:x.s=0
 ·rw [b2w h0];omega
 ·obtain ⟨⟨a1,a2⟩,b1,b2⟩:=h h0
  have n1:=u9 (n:=x.q) J a2
  have n2:=u9 (n:=x.p) J b2
  rw [b2x h0,ByteArray.size_append,ByteArray.size_append,ByteArray.size_append]
  have:(⟨#[58]⟩:ByteArray).size=1:=rfl
  omega
theorem b1q (h:∀i,i < sl.length→(sl.getD i default).s≠0→a0x (sl.getD i default).q/\a0x (sl.getD i default).p) (n:Nat) (hn:n<=sl.length):(jnS (a2p sl) n).size<=n * 48 :=
 a9O (b:=47) (λi hi=>by rw [a0y] at hi;rw [a9Q hi];exact b6Y (h i hi)) n (by rw [a0y];exact hn)
theorem b5L (hi:i < sl.length):jnS (a2p sl) (i+1)=(if i=0 then ⟨#[]⟩ else jnS (a2p sl) i++spB)++b4R (sl.getD i default):=by
 show (if i=0 then _ else _)++(a2p sl).getD i ⟨#[]⟩=_
 rw [a9Q hi]
theorem SlF.s03 (h:SlF sl) {i:Nat} (hi:i < 4):0<=(sl.getD i default).s/\(sl.getD i default).s<=3:=by
 rcases Decidable.em ((sl.getD i default).s=0) with g | g
 ·omega
 ·have:=h.ok i hi g;omega
theorem SlF.nums (h:SlF sl) {i:Nat} (hi:i < 4) (hs:(sl.getD i default).s≠0):(0<=(sl.getD i default).q/\(sl.getD i default).q<=7)/\(0<=(sl.getD i default).p/\(sl.getD i default).p<=15)/\(r6 (sl.getD i default).q).size<=21/\(r6 (sl.getD i default).p).size<=21:=by
 have:=h.ok i hi hs
 exact ⟨this.2.1,this.2.2,u9 J J,u9 J J⟩
theorem c16 (h:SlF sl):∀i,i < sl.length→(sl.getD i default).s≠0→a0x (sl.getD i default).q/\a0x (sl.getD i default).p:=λi hi hs=>by
 have:=h.ok i (by have:=h.len;omega) hs
 exact ⟨⟨by omega,by omega⟩,by omega,by omega⟩
def a9R (l:List Int) (i:Nat):List ByteArray:=(b2v l).take i
theorem b6Z (h:i < l.length):a9R l (i+1)=a9R l i++[r6 (l.getD i default)]:=by
 rw [a9R,List.take_add_one,← a1M h,List.getD_eq_getElem?_getD,List.getElem?_eq_getElem (by rw [X2];exact h)]
 rfl
theorem b3S:a9R l l.length=b2v l:=by rw [a9R,← X2,List.take_length]
theorem b3T {l:List Int} {i:Nat}:(a9R l i).length<=l.length:=by rw [a9R,List.length_take,X2];omega
theorem c0V (hl:l.length<=1048576) (h:∀i,i < l.length→a0x (l.getD i default)):(jnA (a9R l l.length)).size<=140737488355328:=by
 have:=b1p h l.length (Nat.le_refl _)
 rw [b3S,jnA,X2];omega
theorem c43 {l:List Int} (h:0 < l.length):jnA (a9R l l.length)=a4Y l:=by rw [b8Q h,b3S,jnA,X2]
def a6n (l:List Slot) (i:Nat):List ByteArray:=(a2p l).take i
theorem b3U {l:List Slot} {i:Nat}:(a6n l i).length<=l.length:=by rw [a6n,List.length_take,a0y];omega
theorem b1r {l:List Slot} (h:i < l.length):a6n l (i+1)=a6n l i++[b4R (l.getD i default)]:=by
 rw [a6n,List.take_add_one,← a9Q h,List.getD_eq_getElem?_getD,List.getElem?_eq_getElem (by rw [a0y];exact h)]
 rfl
theorem c44 {l:List Slot} (h:i < l.length) (hs:(l.getD i default).s=0):a6n l (i+1)=a6n l i++[a6m (l.getD i default).s]:=by rw [b1r h,b2w hs]
theorem c45 {l:List Slot} (h:i < l.length) (hs:(l.getD i default).s≠0):a6n l (i+1)=a6n l i++[a6m (l.getD i default).s++(r6 (l.getD i default).q++⟨#[58]⟩++r6 (l.getD i default).p)]:=by rw [b1r h,b2x hs]
theorem b8R {l:List Slot}:jnA (a6n l l.length)=a4u l:=by rw [a4u,a6n,← a0y,List.take_length]
theorem c0W (hl:sl.length<=1048576) (h:∀i,i < sl.length→(sl.getD i default).s≠0→a0x (sl.getD i default).q/\a0x (sl.getD i default).p):(jnA (a6n sl sl.length)).size<=140737488355328:=by
 grind [b1q,b8R,a4u,jnA,a0y]
theorem c6U (hi:i < sl.length) (h0:i=0) (hs:(sl.getD i default).s=0):jnS (a2p sl) (i+1)=jnS (a2p sl) i++a6m (sl.getD i default).s:=by
 rw [b5L hi,if_pos h0,b2w hs];subst h0;rfl
theorem c6V (hi:i < sl.length) (h0:i≠0) (hs:(sl.getD i default).s=0):jnS (a2p sl) (i+1)=jnS (a2p sl) i++spB++a6m (sl.getD i default).s:=by
 rw [b5L hi,if_neg h0,b2w hs]
theorem c6W (hi:i < sl.length) (h0:i=0) (hs:(sl.getD i default).s≠0):jnS (a2p sl) (i+1)=jnS (a2p sl) i++a6m (sl.getD i default).s++r6 (sl.getD i default).q++⟨#[58]⟩++r6 (sl.getD i default).p:=by
 rw [b5L hi,if_pos h0,b2x hs]
 simp only [ByteArray.append_assoc]
 subst h0;rfl
theorem c6X (hi:i < sl.length) (h0:i≠0) (hs:(sl.getD i default).s≠0):jnS (a2p sl) (i+1)=jnS (a2p sl) i++spB++a6m (sl.getD i default).s++r6 (sl.getD i default).q++⟨#[58]⟩++r6 (sl.getD i default).p:=by
 rw [b5L hi,if_neg h0,b2x hs]
 simp only [ByteArray.append_assoc]
section
variable {P:Program} {w0:Base} {ops:Array Oper} {o:Oper} {rest:List Oper} {T:List (Nat×AV)} {m:List (Nat×Option Row)} {nx nt:Nat} {Q:Exit→St→Prop}
theorem a6o (t:Nat) {cs:List AV} (ht:look t T=some (.agg cs)) {rs:(Nat→Value)→List AV} (hr:∀u,a5T cs u 0 []=some (rs u)) (h:∀u,WX P w0 ops o rest ⟨(t,.agg (rs u)) :: T,m,nx,nt⟩ Q):WX P w0 ops o rest ⟨T,m,nx,nt⟩ Q:=by
 intro ρ a w hT hC
 have h1:=hT.tmps t _ ht
 simp only [RelV] at h1
 obtain ⟨us,he,h1⟩:=h1
 let u:Nat→Value:=λi=>us.getD i undef
 refine h u ρ a w ⟨λi x hi=>?_,hT.size,hT.defers⟩ hC
 by_cases e:i=t
 ·subst e
  rw [n8] at hi
  cases hi
  simp only [RelV]
  exact ⟨us,he,by simpa using a65 (acc':=[]) (hr u) h1 (λj y hj=>by simp only [u,Nat.zero_add,List.getD_eq_getElem?_getD,hj,Option.getD_some]) (by simp [RelVs])⟩
 ·rw [i8 (λe'=>e e'.symm)] at hi
  exact hT.tmps i x hi
end
end Go.Rf
namespace Go.Rf
open Go Go.ChangeShapes Go.WideShapes Go.Deep Go.ChangeAt Go.RowKit
section
variable {H:Type} {enc:TypeId×Value→H} {P:Program} {w:World} {base:Nat} {spare:Nat→Bool} {held:Bool} {t e e2:TypeId}
theorem O7 {cs:List Value} {n:Nat} {x:DataW H×List MemPlace} {E:EK} (ht:P.underlying t=some (.slice e)) (hE:E.Fits P e) (hsz:E.sz≠0) (hf:DataW.trod enc P w base spare held n t cs=some x) :
 ∃(v:Value) (ys:List (List Value)),cs=[v]/\v.oneCell'=true/\ReadsAt w E.sz ys v/\ys.length<=maxLen/\∀c∈ys,CellsOK E.ks c:=by
 rcases open_slice ht hf with ⟨hcs,_⟩ | ⟨a',len,cap,m,n,D,Pl,hcs,hb,hl,hm,hmm,hx,hi⟩
 ·exact ⟨_,[],hcs,Z,⟨none,0,Z,Nat.le_refl _,by simp,by simp⟩,by simp,by simp⟩
 ·have hlm:len<=m:=by rw [hmm];split<;>omega
  rw [hE.cells] at hi
  let ys:=(List.range len).map λi=>(w.cells? base (a'.add (i * E.sz)) E.sz).getD []
  have hget:∀i c,ys[i]?=some c→i < len/\w.cells? base (a'.add (i * E.sz)) E.sz=some c/\CellsOK E.ks c:=by
   intro i c hic
   simp only [ys,List.getElem?_map] at hic
   rcases Nat.lt_or_ge i len with hlt | hge
   ·obtain ⟨cs',h1,h2⟩:=hi i J
    rw [List.getElem?_range hlt] at hic
    simp [h1] at hic
    subst hic
    exact ⟨hlt,h1,hE.trod h2⟩
   ·rw [List.getElem?_eq_none (by simpa using hge)] at hic
    cases hic
  have hlen:ys.length=len:=by simp [ys]
  refine ⟨_,ys,hcs,Z,⟨some a',cap,by rw [hlen],by omega,λc hc=>?_,λh0=>⟨a',Z,?_,λi c hic j u hju=>?_⟩⟩,by omega,λc hc=>?_⟩
  ·obtain ⟨i,hic⟩:=List.getElem?_of_mem hc
   obtain ⟨_,h1,h2⟩:=hget i c hic
   exact ⟨(World.cells?_some h1).2.1,h2.len.2⟩
  ·obtain ⟨cs',h1,_⟩:=hi 0 J
   obtain ⟨_,h2,h3⟩:=World.cells?_some h1
   have h4:=h3 0 J
   rw [List.getElem?_eq_getElem J] at h4
   have:=a9g h4
   simpa [Addr.add] using this
  ·obtain ⟨_,h1,_⟩:=hget i c hic
   obtain ⟨_,h2,h3⟩:=World.cells?_some h1
   have hj:j < c.length:=(List.getElem?_eq_some_iff.1 hju).1
   rw [← hju,← h3 j J]
   rw [← Go.Deep.add_add]
  ·obtain ⟨i,hic⟩:=List.getElem?_of_mem hc
   exact (hget i c hic).2.2
theorem a3p {cs:List Value} {n:Nat} {x:DataW H×List MemPlace} {fs:Array Field} (hs:P.underlying t=some (.struct fs)) (hone:oneCellFields P fs=true) (hC:P.cellsOf t=fs.size)
 (h:DataW.trod enc P w base spare held n t cs=some x):cs.length=fs.size/\∀(j:Nat) (f:Field),fs[j]?=some f→∃(v:Value) (n:Nat) (y:DataW H×List MemPlace),cs[j]?=some v/\DataW.trod enc P w base spare held n f.type [v]=some y:=by
 obtain ⟨xs,n',_,_,hlen,hxl,hf⟩:=DataW.trod_struct hs h
 refine ⟨by rw [hlen,hC],λj f hj=>?_⟩
 obtain ⟨ho,h1⟩:=hone_of hone j f hj
 have hjl:j < fs.size:=(Array.getElem?_eq_some_iff.1 hj).1
 have h2:=hf j f hj
 have hjc:j < cs.length:=by omega
 have e1:(cs.drop f.offset).take (P.cellsOf f.type)=[cs[j]]:=by
  rw [ho,h1,List.drop_eq_getElem_cons hjc];rfl
 rw [e1,List.getElem?_eq_getElem J] at h2
 exact ⟨cs[j],n',_,List.getElem?_eq_getElem hjc,h2⟩
end
theorem c0X {w:World} {x:AV} {v:Value} {as:List AV} {vs:List Value} (hr:RelV w noRho 0 x v) (h:RelVs w noRho 0 as vs):RelVs w noRho 0 (x :: as) (v :: vs):=by
 simp only [RelVs];exact ⟨v,vs,Z,hr,h⟩
theorem c6Y:∀c,CellsOK [.bool] c→∃x:Bool,c=j4 x:=by
 intro c h
 simp only [CellsOK,CellOK] at h
 obtain ⟨_,r0,rfl,⟨n0,rfl⟩,h⟩:=h
 subst h
 exact ⟨n0,Z⟩
theorem c6Z:∀c,CellsOK [.int .i64] c→∃x:Int,c=n7 x:=by
 intro c h
 simp only [CellsOK,CellOK] at h
 obtain ⟨_,r0,rfl,⟨n0,rfl,_⟩,h⟩:=h
 subst h
 exact ⟨n0,Z⟩
theorem c60:∀c,CellsOK [.int .i64,.int .i64] c→∃x:Route,c=m4 x:=by
 intro c h
 simp only [CellsOK,CellOK] at h
 obtain ⟨_,r0,rfl,⟨n0,rfl,_⟩,_,r1,rfl,⟨n1,rfl,_⟩,h⟩:=h
 subst h
 exact ⟨⟨n0,n1⟩,Z⟩
theorem c61:∀c,CellsOK [.int .i64,.int .i64] c→∃x:Wtr,c=e7 x:=by
 intro c h
 simp only [CellsOK,CellOK] at h
 obtain ⟨_,r0,rfl,⟨n0,rfl,_⟩,_,r1,rfl,⟨n1,rfl,_⟩,h⟩:=h
 subst h
 exact ⟨⟨n0,n1⟩,Z⟩
theorem c62:∀c,CellsOK [.int .i64,.int .i64,.int .i64] c→∃x:Slot,c=e9 x:=by
 intro c h
 simp only [CellsOK,CellOK] at h
 obtain ⟨_,r0,rfl,⟨n0,rfl,_⟩,_,r1,rfl,⟨n1,rfl,_⟩,_,r2,rfl,⟨n2,rfl,_⟩,h⟩:=h
 subst h
 exact ⟨⟨n0,n1,n2⟩,Z⟩
theorem c63 {α:Type} {l:List α} {a b c d:α} (h:l.length=4) (h0:l[0]?=some a) (h1:l[1]?=some b) (h2:l[2]?=some c) (h3:l[3]?=some d):l=[a,b,c,d]:=by
 match l,h with
 | [a',b',c',d'],_=>simp at *;simp [*]
section
variable {H:Type} {enc:TypeId×Value→H} {P:Program} {w:World} {base:Nat} {spare:Nat→Bool} {held:Bool}
structure IfTy (P:Program) (t tI tQ tSl tWa eSl eWa:TypeId) (fI fQ fS fW:Array Field):Prop where
 hs:P.underlying t=some (.struct fI)
 hf:fI.toList.map (λf=>(f.type,f.offset))=[(3,0),(tI,1),(tQ,2)]
 hC:P.cellsOf t=4
 c3:P.cellsOf 3=1
 cI:P.cellsOf tI=1
 cQ:P.cellsOf tQ=2
 hI:P.underlying tI=some (.slice 3)
 hQ:P.underlying tQ=some (.struct fQ)
 hoQ:oneCellFields P fQ=true
 hfQ:fQ.toList.map Field.type=[tSl,tWa]
 hSl:P.underlying tSl=some (.slice eSl)
 hWa:P.underlying tWa=some (.slice eWa)
 fi:(EK.one (.int .i64)).Fits P 3
 gS:(EK.str fS [.int .i64,.int .i64,.int .i64]).Fits P eSl
 gW:(EK.str fW [.int .i64,.int .i64]).Fits P eWa
 sS:fS.size=3
 sW:fW.size=2
theorem b3V {t tI tQ tSl tWa eSl eWa:TypeId} {fI fQ fS fW:Array Field} (K:IfTy P t tI tQ tSl tWa eSl eWa fI fQ fS fW) {cs:List Value} {n:Nat} {x:DataW H×List MemPlace} (h:DataW.trod enc P w base spare held n t cs=some x) :
 ∃(y:Ifc) (v1 v2 v3:Value),cs=[.int .i64 y.ma,v1,v2,v3]/\(v1.oneCell'=true/\v2.oneCell'=true/\v3.oneCell'=true)/\ReadsAt w 1 (y.st.map n7) v1/\ReadsAt w 3 (y.qu.sl.map e9) v2/\ReadsAt w 2 (y.qu.wa.map e7) v3/\BigI y:=by
 obtain ⟨xs,n',_,_,hlen,hxl,hf⟩:=DataW.trod_struct K.hs h
 have h3:fI.size=3:=by have:=congrArg List.length K.hf;simpa using this
 have hl4:cs.length=4:=by rw [hlen,K.hC]
 have hty:∀(j:Nat) (p:TypeId×Nat),[(3,0),(tI,1),(tQ,2)][j]?=some p→∃y,DataW.trod enc P w base spare held n' p.1 ((cs.drop p.2).take (P.cellsOf p.1))=some y:=by
  intro j p hj
  rw [← K.hf,List.getElem?_map] at hj
  obtain ⟨f,hf1,rfl⟩:=Option.map_eq_some_iff.1 hj
  have hf1:fI[j]?=some f:=by simpa using hf1
  have hjl:j < fI.size:=(Array.getElem?_eq_some_iff.1 hf1).1
  have h2:=hf j f hf1
  rw [List.getElem?_eq_getElem J] at h2
  exact ⟨_,h2⟩
 obtain ⟨y0,k0⟩:=hty 0 _ Z
 obtain ⟨y1,k1⟩:=hty 1 _ Z
 obtain ⟨y2,k2⟩:=hty 2 _ Z
 match cs,hl4 with
 | [a,b,c,d],_ =>
  simp only [K.c3,K.cI,K.cQ,List.drop_zero,List.drop_succ_cons,List.take_succ_cons,List.take_zero] at k0 k1 k2
  obtain ⟨ma,hma⟩:=c6Z _ (K.fi.trod k0)
  obtain ⟨v1,ys1,e1,o1,r1,b1,c1⟩:=O7 K.hI K.fi (by decide) k1
  have hq2:fQ.size=2:=by have:=congrArg List.length K.hfQ;simpa using this
  obtain ⟨_,hq⟩:=a3p K.hQ K.hoQ (by rw [K.cQ,hq2]) k2
  have htq:∀(j:Nat) (tj:TypeId),[tSl,tWa][j]?=some tj→∃(v:Value) (n:Nat) (y:DataW H×List MemPlace),[c,d][j]?=some v/\DataW.trod enc P w base spare held n tj [v]=some y:=by
   intro j tj hj
   rw [← K.hfQ,List.getElem?_map] at hj
   obtain ⟨f,hf1,rfl⟩:=Option.map_eq_some_iff.1 hj
   exact hq j f (by simpa using hf1)
  obtain ⟨v2,n2,z2,g2,q2⟩:=htq 0 _ Z
  obtain ⟨v3,n3,z3,g3,q3⟩:=htq 1 _ Z
  obtain ⟨_,ys2,e2,o2,r2,b2,c2⟩:=O7 K.hSl K.gS (by show fS.size≠0;rw [K.sS];decide) q2
  obtain ⟨_,ys3,e3,o3,r3,b3,c3⟩:=O7 K.hWa K.gW (by show fW.size≠0;rw [K.sW];decide) q3
  cases e1;cases e2;cases e3
  simp at g2 g3
  subst g2;subst g3
  obtain ⟨x1,rfl⟩:=a16 c6Z _ c1
  obtain ⟨x2,rfl⟩:=a16 c62 _ c2
  obtain ⟨x3,rfl⟩:=a16 c61 _ c3
  have r2:ReadsAt w fS.size (x2.map e9) c:=r2
  have r3:ReadsAt w fW.size (x3.map e7) d:=r3
  rw [K.sS] at r2
  rw [K.sW] at r3
  simp only [n7,List.cons.injEq,and_true] at hma
  refine ⟨⟨ma,x1,⟨x2,x3⟩⟩,b,c,d,by rw [hma],⟨o1,o2,o3⟩,r1,r2,r3,?_⟩
  exact ⟨by simpa [maxLen] using b1,by simpa [maxLen] using b2,by simpa [maxLen] using b3⟩
theorem b2y (eS eW:TypeId) {t e tI tQ tSl tWa eSl eWa:TypeId} {fI fQ fS fW:Array Field} (ht:P.underlying t=some (.slice e)) (K:IfTy P e tI tQ tSl tWa eSl eWa fI fQ fS fW) {cs:List Value} {n:Nat} {x:DataW H×List MemPlace} (hf:DataW.trod enc P w base spare held n t cs=some x) :
 ∃(v:Value) (xs:List Ifc),cs=[v]/\v.oneCell'=true/\NReadsAt w 4 (xs.map (l8 eS eW)) v/\xs.length<=maxLen/\∀y∈xs,BigI y:=by
 rcases open_slice ht hf with ⟨hcs,_⟩ | ⟨a',len,cap,m,n,D,Pl,hcs,hb,hl,hm,hmm,hx,hi⟩
 ·exact ⟨_,[],hcs,Z,⟨none,0,Z,Nat.le_refl _,by simp,by simp⟩,by simp,by simp⟩
 ·have hlm:len<=m:=by rw [hmm];split<;>omega
  rw [K.hC] at hi
  have hx:∀i:Nat,∃y:Ifc,i < len→∃v1 v2 v3,(∀k u,[Value.int .i64 y.ma,v1,v2,v3][k]?=some u→w.cell? (a'.add (i * 4+k))=some u)/\(v1.oneCell'=true/\v2.oneCell'=true/\v3.oneCell'=true)/\ReadsAt w 1 (y.st.map n7) v1/\ReadsAt w 3 (y.qu.sl.map e9) v2/\ReadsAt w 2 (y.qu.wa.map e7) v3/\BigI y:=by
   intro i
   by_cases hlt:i < len
   ·obtain ⟨cs',h1,h2⟩:=hi i J
    obtain ⟨y,v1,v2,v3,rfl,h3,h4,h5,h6,h7⟩:=b3V K h2
    obtain ⟨_,h8,h9⟩:=World.cells?_some h1
    refine ⟨y,λ_=>⟨v1,v2,v3,λk u hk=>?_,h3,h4,h5,h6,h7⟩⟩
    have hk4:k < 4:=by have:=(List.getElem?_eq_some_iff.1 hk).1;simpa using this
    have:=h9 k hk4
    rw [← hk,← this,← Go.Deep.add_add]
   ·exact ⟨⟨0,[],⟨[],[]⟩⟩,λh=>absurd h hlt⟩
  let f:Nat→Ifc:=λi=>Classical.choose (hx i)
  have hfs:∀i,i < len→∃v1 v2 v3,(∀k u,[Value.int .i64 (f i).ma,v1,v2,v3][k]?=some u→w.cell? (a'.add (i * 4+k))=some u)/\(v1.oneCell'=true/\v2.oneCell'=true/\v3.oneCell'=true)/\ReadsAt w 1 ((f i).st.map n7) v1/\ReadsAt w 3 ((f i).qu.sl.map e9) v2/\ReadsAt w 2 ((f i).qu.wa.map e7) v3/\BigI (f i):=λi=>Classical.choose_spec (hx i)
  refine ⟨_,(List.range len).map f,hcs,Z,⟨some a',cap,by simp,by simp;omega,λc hc=>?_,λh0=>⟨a',Z,?_,λi k c hik=>?_⟩⟩,by simp;omega,λy hy=>?_⟩
  ·simp only [List.mem_map] at hc;obtain ⟨_,_,rfl⟩:=hc;rfl
  ·have h0:0 < len:=by simpa using h0
   obtain ⟨v1,v2,v3,h1,_⟩:=hfs 0 h0
   have:=a9g (h1 0 _ Z)
   simpa [Addr.add] using this
  ·simp only [w8,List.getElem?_map,List.map_map] at hik
   rcases Nat.lt_or_ge i len with hlt | hge
   ·rw [List.getElem?_range hlt] at hik
    obtain ⟨v1,v2,v3,h1,⟨o1,o2,o3⟩,r1,r2,r3,_⟩:=hfs i hlt
    match k with
    | 0=>simp [l8] at hik;subst hik;exact ⟨_,h1 0 _ Z,Z,Z⟩
    | 1=>simp [l8] at hik;subst hik;exact ⟨_,h1 1 _ Z,o1,r1⟩
    | 2=>simp [l8] at hik;subst hik;exact ⟨_,h1 2 _ Z,o2,r2⟩
    | 3=>simp [l8] at hik;subst hik;exact ⟨_,h1 3 _ Z,o3,r3⟩
    | k+4=>simp [l8] at hik
   ·rw [List.getElem?_eq_none (by simpa using hge)] at hik
    cases hik
  ·simp only [List.mem_map,List.mem_range] at hy
   obtain ⟨i,hi,rfl⟩:=hy
   obtain ⟨_,_,_,_,_,_,_,_,h⟩:=hfs i hi
   exact h
end
theorem c47:∀c,CellsOK [.str,.str,.int .i64] c→∃x:Lg,c=b7B x/\x.d.size<=9223372036854775807/\x.p.size<=9223372036854775807:=by
 intro c h
 simp only [CellsOK,CellOK] at h
 obtain ⟨_,r0,rfl,⟨n0,rfl,z0⟩,_,r1,rfl,⟨n1,rfl,z1⟩,_,r2,rfl,⟨n2,rfl,_⟩,h⟩:=h
 subst h
 exact ⟨⟨n0,n1,n2⟩,Z,by simpa [maxLen] using z0,by simpa [maxLen] using z1⟩
section
variable {H:Type} {enc:TypeId×Value→H} {P:Program} {w:World} {base:Nat} {spare:Nat→Bool} {held:Bool}
theorem b2z (eS eW:TypeId) {t tR tB tC eR eB tIf tI tQ tSl tWa eSl eWa:TypeId} {fs fR fI fQ fS fW:Array Field}
 (hs:P.underlying t=some (.struct fs)) (hone:oneCellFields P fs=true) (hC:P.cellsOf t=fs.size) (hfs:fs.toList.map Field.type=[tR,tB,tB,tC])
 (hR:P.underlying tR=some (.slice eR)) (hB:P.underlying tB=some (.slice eB)) (hCp:P.underlying tC=some (.slice tIf))
 (fB:(EK.one .bool).Fits P eB) (fRo:(EK.str fR [.int .i64,.int .i64]).Fits P eR) (sR:fR.size=2) (K:IfTy P tIf tI tQ tSl tWa eSl eWa fI fQ fS fW)
 {cs:List Value} {n:Nat} {x:DataW H×List MemPlace} (h:DataW.trod enc P w base spare held n t cs=some x) :
 ∃(m:Mach) (v0 v1 v2 v3:Value),cs=[v0,v1,v2,v3]/\ReadsAt w 2 (m.rs.map m4) v0/\ReadsAt w 1 (m.en.map j4) v1/\ReadsAt w 1 (m.ra.map j4) v2/\NReadsAt w 4 (m.cp.map (l8 eS eW)) v3/\BigM m:=by
 obtain ⟨hl,hf⟩:=a3p (cs:=cs) hs hone hC h
 have h4:fs.size=4:=by have:=congrArg List.length hfs;simpa using this
 have hty:∀(j:Nat) (tj:TypeId),[tR,tB,tB,tC][j]?=some tj→∃(v:Value) (n:Nat) (y:DataW H×List MemPlace),cs[j]?=some v/\DataW.trod enc P w base spare held n tj [v]=some y:=by
  intro j tj hj
  rw [← hfs,List.getElem?_map] at hj
  obtain ⟨f,hf1,rfl⟩:=Option.map_eq_some_iff.1 hj
  exact hf j f (by simpa using hf1)
 obtain ⟨v0,n0,y0,g0,k0⟩:=hty 0 _ Z
 obtain ⟨v1,n1,y1,g1,k1⟩:=hty 1 _ Z
 obtain ⟨v2,n2,y2,g2,k2⟩:=hty 2 _ Z
 obtain ⟨v3,n3,y3,g3,k3⟩:=hty 3 _ Z
 obtain rfl:=c63 J g0 g1 g2 g3
 obtain ⟨_,ys0,e0,_,r0,b0,o0⟩:=O7 hR fRo (by show fR.size≠0;rw [sR];decide) k0
 obtain ⟨_,ys1,e1,_,r1,b1,o1⟩:=O7 hB fB (by decide) k1
 obtain ⟨_,ys2,e2,_,r2,b2,o2⟩:=O7 hB fB (by decide) k2
 obtain ⟨_,xs3,e3,_,r3,b3,o3⟩:=b2y eS eW hCp K k3
 cases e0;cases e1;cases e2;cases e3
 obtain ⟨x0,rfl⟩:=a16 c60 _ o0
 obtain ⟨x1,rfl⟩:=a16 c6Y _ o1
 obtain ⟨x2,rfl⟩:=a16 c6Y _ o2
 have r0:ReadsAt w fR.size (x0.map m4) v0:=r0
 rw [sR] at r0
 refine ⟨⟨x0,x1,x2,xs3⟩,v0,v1,v2,v3,Z,r0,r1,r2,r3,?_⟩
 exact ⟨by simpa [maxLen] using b0,by simpa [maxLen] using b1,by simpa [maxLen] using b2,by simpa [maxLen] using b3,λi hi=>by
  have hi:i < xs3.length:=hi
  show BigI (xs3.getD i default)
  rw [List.getD_eq_getElem?_getD,List.getElem?_eq_getElem hi]
  exact o3 _ (List.getElem_mem hi)⟩
theorem b4S (eS eW:TypeId) {b0:Nat} {r:Reach} {t tM tL tR tB tC eR eB tIf tI tQ tSl tWa eSl eWa:TypeId} {fc fs fL fR fI fQ fS fW:Array Field} {v:Value} {d:DataW H} {p:List MemPlace}
 (hc:P.underlying t=some (.struct fc)) (hfc:fc.toList.map (λf=>(f.type,f.offset))=[(tM,0),(tL,4)]) (hCc:P.cellsOf t=7) (cM:P.cellsOf tM=4) (cL:P.cellsOf tL=3)
 (hs:P.underlying tM=some (.struct fs)) (hone:oneCellFields P fs=true) (hC:P.cellsOf tM=fs.size) (hfs:fs.toList.map Field.type=[tR,tB,tB,tC])
 (hR:P.underlying tR=some (.slice eR)) (hB:P.underlying tB=some (.slice eB)) (hCp:P.underlying tC=some (.slice tIf))
 (fB:(EK.one .bool).Fits P eB) (fRo:(EK.str fR [.int .i64,.int .i64]).Fits P eR) (sR:fR.size=2) (K:IfTy P tIf tI tQ tSl tWa eSl eWa fI fQ fS fW)
 (gL:(EK.str fL [.str,.str,.int .i64]).Fits P tL)
 (hv:Value.okWide P w r b0 t v) (h:DataW.Trod enc P w base spare held t v d p) :
 ∃(m:Mach) (x:Lg),RelV w noRho 0 (.agg [.lst 2 (m.rs.map m4),.lst 1 (m.en.map j4),.lst 1 (m.ra.map j4),.nst none 4 (m.cp.map (l8 eS eW)),.v (.string x.d),.v (.string x.p),.v (.int .i64 x.n)]) v/\BigM m/\(x.d.size<=9223372036854775807/\x.p.size<=9223372036854775807):=by
 obtain ⟨⟨l⟩,rfl,hsz⟩:=okWide_struct hc hv
 obtain ⟨fuel,hf⟩:=h
 obtain ⟨xs,n',_,_,hlen,hxl,hfx⟩:=DataW.trod_struct hc (by simpa [Value.cells] using hf)
 have h2:fc.size=2:=by have:=congrArg List.length hfc;simpa using this
 have hl7:l.length=7:=by rw [← hCc];simpa using hlen
 have hty:∀(j:Nat) (p:TypeId×Nat),[(tM,0),(tL,4)][j]?=some p→∃y,DataW.trod enc P w base spare held n' p.1 ((l.drop p.2).take (P.cellsOf p.1))=some y:=by
  intro j p hj
  rw [← hfc,List.getElem?_map] at hj
  obtain ⟨f,hf1,rfl⟩:=Option.map_eq_some_iff.1 hj
  have hf1:fc[j]?=some f:=by simpa using hf1
  have hjl:j < fc.size:=(Array.getElem?_eq_some_iff.1 hf1).1
  have h2:=hfx j f hf1
  rw [List.getElem?_eq_getElem J] at h2
  exact ⟨_,h2⟩
 obtain ⟨y0,k0⟩:=hty 0 _ Z
 obtain ⟨y1,k1⟩:=hty 1 _ Z
 match l,hl7 with
 | [a,b,c,d,e,f,g],_ =>
  simp only [cM,cL,List.drop_zero,List.drop_succ_cons,List.take_succ_cons,List.take_zero] at k0 k1
  obtain ⟨m,v0,v1,v2,v3,e0,r0,r1,r2,r3,hb⟩:=b2z eS eW hs hone hC hfs hR hB hCp fB fRo sR K k0
  obtain ⟨x,hx,hz⟩:=c47 _ (gL.trod k1)
  cases e0
  simp only [b7B,List.cons.injEq,and_true] at hx
  obtain ⟨rfl,rfl,rfl⟩:=hx
  refine ⟨m,x,?_,hb,hz⟩
  simp only [RelV,RelVs]
  exact ⟨_,Z,_,_,Z,r0,_,_,Z,r1,_,_,Z,r2,_,_,Z,⟨by simp,r3⟩,_,_,Z,Z,_,_,Z,Z,_,_,Z,Z,Z⟩
end
end Go.Rf
namespace Go.Rf
open Go Go.RowKit
variable {m:Mach} {r:Rec} {x:Lg}
theorem a39 {s:ByteArray}:w3 s<=60/\A4 s (w3 s)<=s.size/\A4 s (w3 s)<=25380:=by
 have h:=b1Y (a5J (s:=s)).1
 have h2:=b7A (a5J (s:=s)).1
 omega
theorem b5M {s:ByteArray}:(pre (P0 s) (w3 s+1)).getD (((pre (a74 s) (w3 s)).length:Int)).toNat default=P0 s (w3 s):=by
 rw [Q0]
 exact b3u (Nat.lt_succ_self _)
theorem b3W {s:ByteArray}:((pre (a74 s) (w3 s)).length:Int)=w3 s:=by rw [Q0]
def eqL (x y:Lg):Bool:=x.d.toList==y.d.toList && x.p.toList==y.p.toList && x.n==y.n
def b3X (x:Lg) (l:Int):Int:=if l - x.d.size < 0 then -1 else if l - x.d.size - x.p.size < 0 then -1 else l - x.d.size - x.p.size
theorem b8S:eqL x x=true:=by simp [eqL]
theorem c0Y {x:Lg} (h:30000 < x.d.size+x.p.size):T8 x=false:=by
 rw [T8,decide_eq_false J];rfl
theorem b5N {x:Lg} (h:¬ A4 (x.d++x.p) (w3 (x.d++x.p))=x.d.size+x.p.size):T8 x=false:=by
 rw [T8,decide_eq_false h,Bool.and_false];rfl
theorem c0Z {x:Lg} (h:¬ A4 x.d (w3 x.d)=x.d.size):T8 x=false:=by
 rw [T8,decide_eq_false h,Bool.and_false];rfl
theorem c00 {x:Lg} (h:¬ (w3 (x.d++x.p):Int)=x.n):T8 x=false:=by
 rw [T8,decide_eq_false h,Bool.and_false]
theorem c48 (h0:x.d.size+x.p.size<=30000) (h1:A4 (x.d++x.p) (w3 (x.d++x.p))=x.d.size+x.p.size) (h2:A4 x.d (w3 x.d)=x.d.size) (h3:(w3 (x.d++x.p):Int)=x.n):T8 x=true:=by
 rw [T8,decide_eq_true h0,decide_eq_true h1,decide_eq_true h2,decide_eq_true h3];rfl
theorem c49 {x:Lg} (h0:x.d.size+x.p.size<=30000) (h1:A4 (x.d++x.p) (w3 (x.d++x.p))=x.d.size+x.p.size) (h2:A4 x.d (w3 x.d)=x.d.size):T8 x=decide ((w3 (x.d++x.p):Int)=x.n):=by
 rw [T8,decide_eq_true h0,decide_eq_true h1,decide_eq_true h2];rfl
theorem a8V {x:Lg} (h:T8 x=true):x.d.size+x.p.size<=30000/\A4 x.d (w3 x.d)=x.d.size/\0<=x.n/\x.n<=60:=by
 simp only [T8,Bool.and_eq_true,decide_eq_true_eq] at h
 have:=a39 (s:=x.d++x.p)
 omega
theorem b60 {x:Lg} {j:Nat} (h1:A4 (x.d++x.p) (w3 (x.d++x.p))=x.d.size+x.p.size) (h2:(w3 (x.d++x.p):Int)=x.n) (hj:j<=w3 (x.d++x.p)) (hp:A4 (x.d++x.p) j=x.d.size):T8 x=true:=by
 have hl:=a39 (s:=x.d++x.p)
 obtain ⟨h3,h4⟩:=b7z (D:=x.d) (P:=x.p) (n:=j) (λi hi=>a5J.1 i J) J
 have h5:w3 x.d=j:=a2f h3 (b7y J)
 exact c48 J h1 (by rw [h5];omega) h2
theorem b61 {x:Lg} (h:∀j,j < w3 (x.d++x.p)+1→¬ A4 (x.d++x.p) j=x.d.size):T8 x=false:=by
 cases he:T8 x with
 | false=>rfl
 | true =>
  exfalso
  have h2:=(a8V he).2.1
  obtain ⟨h3,h4⟩:=c4n (D:=x.d) (P:=x.p) (n:=w3 x.d) a5J.1
  refine h (w3 x.d) ?_ J
  rcases Nat.lt_or_ge (w3 x.d) (w3 (x.d++x.p)+1) with h5 | h5
  ·exact h5
  ·have h6:=h3 (w3 (x.d++x.p)) J
   rw [a5J.2] at h6
   cases h6
def apG (x:Lg) (r:Rec):Bool:=T8 x && C6 r
def apE (x:Lg) (r:Rec):Lg:=if apG x r && decide (x.n≠60) then ⟨x.d,x.p++a0q x.n r,x.n+1⟩ else x
def apN (x:Lg) (r:Rec):Int:=if apG x r then (if x.n=60 then 2 else 0) else 1
theorem c01 {x:Lg} {r:Rec} (h:apG x r=false):apE x r=x/\apN x r=1:=by rw [apE,apN,h];exact ⟨Z,Z⟩
theorem c17 (h:T8 x=false):apG x r=false:=by rw [apG,h];rfl
theorem c18 (h:C6 r=false):apG x r=false:=by rw [apG,h,Bool.and_false]
theorem c64 {x:Lg} {r:Rec} (h:T8 x=true) (h2:C6 r=true) (h3:x.n=60):apE x r=x/\apN x r=2:=by
 rw [apE,apN,apG,h,h2,if_pos h3]
 simp [h3]
theorem c65 {x:Lg} {r:Rec} (h:T8 x=true) (h2:C6 r=true) (h3:¬ x.n=60):apE x r=⟨x.d,x.p++a0q x.n r,x.n+1⟩/\apN x r=0:=by
 rw [apE,apN,apG,h,h2,if_neg h3]
 simp [h3]
theorem b5O {l:Int} (hl:0<=l/\l<=1048576) (h:¬ a7a m l < 0):0<=a7a m l/\a7a m l<=1048576:=by
 have hs:=@a33 m.cp m.cp.length
 refine ⟨by omega,?_⟩
 unfold a7a b0w szL
 (repeat' split)<;>omega
def b8T (m:Mach) (x:Lg) (l:Int):Int:=if a7a m l < 0 then -1 else if b3X x (a7a m l) < 0 then -1 else b3X x (a7a m l)
theorem b4T {m:Mach} {x:Lg} {l:Int} (hl:0<=l/\l<=1048576) (h:¬ b8T m x l < 0):SmallM m/\x.d.size+x.p.size<=1048576:=by
 have h1:¬ a7a m l < 0:=λg=>by rw [b8T,if_pos g] at h;omega
 have h2:=b5O hl h1
 rw [b8T,if_neg h1] at h
 have h3:¬ b3X x (a7a m l) < 0:=λg=>by rw [if_pos g] at h;omega
 refine ⟨b4Q hl h1,?_⟩
 simp only [b3X] at h3
 split at h3
 ·omega
 ·split at h3<;>omega
def c02 (m:Mach) (x:Lg) (n:Mach) (y:Lg):Bool:=b8e m n && eqL x y
theorem a4a:c02 m x m x=true:=by rw [c02,b8f.mpr Z,b8S];rfl
def a7c (m:Mach) (x:Lg):Bool:=a0w m && T8 x
theorem c5a (h:a0w m=false):a7c m x=false:=by rw [a7c,h];rfl
theorem c5b (h:a0w m=true):a7c m x=T8 x:=by rw [a7c,h];rfl
theorem b8U (h:a7c m x=true):a0w m=true/\T8 x=true:=by
 rw [a7c,Bool.and_eq_true] at h;exact h
end Go.Rf
namespace Go.Rf
open Go
variable {m:Mach} {sl:List Slot} {x:Ifc}
theorem b1s {α:Type} [BEq α] [LawfulBEq α]:∀{a b:List α},a.Nodup→(∀x∈a,x∈b)→a.length<=b.length
 | [],b,_,_=>Nat.zero_le _
 | x :: a,b,hn,hs=>by
  obtain ⟨h1,h2⟩:=List.nodup_cons.mp hn
  have hx:x∈b:=hs x (by simp)
  have:=b1s (b:=b.erase x) h2 (λy hy=>(List.mem_erase_of_ne (λe:y=x=>h1 (e▸hy))).mpr (hs y (by simp [hy])))
  rw [List.length_erase_of_mem hx] at this
  have hp:0 < b.length:=List.length_pos_of_mem hx
  simp only [List.length_cons]
  omega
theorem b5P {sl:List Slot} {k:Nat} (h:P3 (sl.getD k default)=false):∀i,k < i→(actN sl i).length < i
 | i+1,hk=>by
  have hl:=@X1 sl i
  show (if _ then _ else _:List Int).length < _
  split
  ·next ha =>
   rw [List.length_append,List.length_cons,List.length_nil]
   have hne:k≠i:=λe=>by subst e;rw [h] at ha;cases ha
   have:=b5P h i J
   omega
  ·omega
theorem a4b (hl:sl.length=4) {q:Int}:(∃w∈actL sl,w.q=q)↔q∈actN sl 4:=by
 rw [H4]
 constructor
 ·rintro ⟨w,hw,e⟩
  obtain ⟨x,h1,h2,rfl⟩:=H3.mp hw
  obtain ⟨j,hj,rfl⟩:=n6.mp h1
  exact ⟨j,by omega,h2,e⟩
 ·rintro ⟨j,h1,h2,h3⟩
  exact ⟨wOf (sl.getD j default),H3.mpr ⟨_,n6.mpr ⟨j,by omega,Z⟩,h2,Z⟩,h3⟩
structure IfG (x:Ifc):Prop where
 f:IfF x
 nd:x.st.Nodup
theorem IfG.lt (h:IfG x) (hb:0<=bstS x.qu.sl true):x.st.length < 4:=by
 obtain ⟨k,e1,e2,e3⟩:=a0i hb
 have hl:=h.f.qu.sl.len
 have h1:=b1s h.nd (λq hq=>(a4b hl).mp (h.f.st q hq))
 have h2:=b5P (sl:=x.qu.sl) (k:=k) (by rw [← Bool.not_eq_true,u5];omega) 4 J
 omega
theorem c8t {q p:Int} (h:IfG x) (hq:0<=q/\q<=7) (hp:0<=p/\p<=15):IfG (a8a x q p):=⟨b8i h.f hq hp,h.nd⟩
theorem c8u (h:IfG x) (hk:okT x=true):IfG (a4X x):=by
 have hb:=(W8.mp hk).1
 refine ⟨c4I h.f hb (h.lt hb),?_⟩
 obtain ⟨k,e1,e2,e3⟩:=a0i hb
 refine List.nodup_append.mpr ⟨h.nd,List.nodup_cons.mpr ⟨by simp,List.nodup_nil⟩,λa ha b hb e=>?_⟩
 rw [List.mem_singleton.mp hb] at e
 obtain ⟨j,h1,h2,h3⟩:=(H4 4).mp ((a4b h.f.qu.sl.len).mp (h.f.st a ha))
 have hkq:tkI x.qu.sl=(x.qu.sl.getD k default).q:=by unfold tkI;rw [e1];rfl
 have hne:j≠k:=λee=>by subst ee;rcases u5.mp h2 with g | g<;>omega
 have hj0:(x.qu.sl.getD j default).s≠0:=by rcases u5.mp h2 with g | g<;>omega
 have hl:=h.f.qu.sl.len
 rcases Nat.lt_or_ge j k with g | g
 ·exact h.f.qu.sl.dif j k g J hj0 J (by rw [h3,e,hkq])
 ·exact h.f.qu.sl.dif k j J h1 J hj0 (by rw [h3,e,hkq])
def H5 (x:Ifc):Int:=x.st.getD (x.st.length - 1) default
def a9S (x:Ifc):Ifc:=⟨x.ma,x.st.take (x.st.length - 1),a68 x.qu (H5 x)⟩
theorem a4c (h:x.st.length≠0):H5 x∈x.st:=n6.mpr ⟨x.st.length - 1,by omega,Z⟩
theorem c03 {q:Int} (h:SlF sl) (ha:∃w∈actL sl,w.q=q):P3 (sl.getD (r9 sl q).toNat default)=true:=by
 obtain ⟨k,e1,e2,e3,e4⟩:=b2h (a6c ha)
 obtain ⟨j,h1,h2,h3⟩:=(H4 4).mp ((a4b h.len).mp ha)
 have hl:=h.len
 have hj0:(sl.getD j default).s≠0:=by rcases u5.mp h2 with g | g<;>omega
 have:j=k:=by
  rcases Nat.lt_trichotomy j k with g | g | g
  ·exact absurd (h3.trans e4.symm) (h.dif j k g J hj0 e3)
  ·exact g
  ·exact absurd (e4.trans h3.symm) (h.dif k j g h1 e3 hj0)
 subst this
 rw [e1]
 exact h2
theorem c8v (h:IfG x) (h0:x.st.length≠0):IfG (a9S x):=by
 have hf:=a6c (h.f.st _ (a4c h0))
 have hQ0:=a8S h.f.qu hf
 obtain ⟨k,e1,e2,e3,e4⟩:=b2h hf
 have hnl:∀y∈x.st.take (x.st.length - 1),y≠H5 x:=λy hy e=>by
  obtain ⟨i,hi,e5⟩:=(a9N J).mp hy
  exact b2t.mp h.nd i (x.st.length - 1) hi J (e5.trans e)
 refine ⟨⟨(c4G h.f.qu hf).1,by show (x.st.take (x.st.length - 1)).length<=4;have:=h.f.sn;rw [List.length_take];omega,λy hy=>?_⟩,List.Pairwise.sublist (List.take_sublist _ _) h.nd⟩
 show ∃w∈actL (a68 x.qu (H5 x)).sl,w.q=y
 unfold a68
 rw [b3E hQ0]
 show ∃w∈actL (edS x.qu.sl (H5 x)),w.q=y
 obtain ⟨w,hw,e⟩:=h.f.st y (List.mem_of_mem_take hy)
 obtain ⟨z,z1,z2,z3⟩:=H3.mp hw
 refine ⟨w,H3.mpr ⟨z,?_,z2,z3⟩,e⟩
 unfold edS
 rw [e1,Int.toNat_natCast]
 refine b5z z1 λe'=>hnl y hy ?_
 rw [← e,← z3,e']
 exact e4
structure MaG (m:Mach):Prop where
 rt:okRts m.rs m.cp.length=true
 n:1<=m.cp.length/\m.cp.length<=2
 rn:m.rs.length=8
 en:m.en.length=8
 ra:m.ra.length=8
 ok:∀k,k < m.cp.length→IfG (m.cp.getD k default)
theorem MaF.g (h:MaF m):MaG m:=⟨h.rt,h.n,h.rn,h.en,h.ra,λk hk=>⟨(h.ok k hk).1,(a36.mp (h.ok k hk).2.2.2).nodup_iff.mpr (b2r (h.ok k hk).1.qu.sl 4 (Nat.le_refl _))⟩⟩
theorem MaG.tg (h:MaG m) {i:Nat} (hi:i < 8):(0<=(m.rs.getD i default).t/\(m.rs.getD i default).t<=1)/\(m.rs.getD i default).t.toNat < m.cp.length/\(0<=(m.rs.getD i default).p/\(m.rs.getD i default).p<=15):=by
 have:=(U0.mp h.rt).2.2 i hi
 have:=h.n
 omega
def tgM (m:Mach) (i:Nat):Nat:=(m.rs.getD i default).t.toNat
def a6p (m:Mach) (i:Nat):Bool:=m.en.getD i default && (m.ra.getD i default && !a9C (m.cp.getD (tgM m i) default).st i)
def a8d (m:Mach):Nat→List Bool
 | 0=>m.ra
 | i+1=>if a6p m i then (a8d m i).set i false else a8d m i
def a09 (m:Mach):Nat→List Ifc
 | 0=>m.cp
 | i+1=>if a6p m i then (a09 m i).set (tgM m i) (a8a ((a09 m i).getD (tgM m i) default) i (m.rs.getD i default).p) else a09 m i
def b4U (m:Mach):Mach:=⟨m.rs,m.en,a8d m 8,a09 m 8⟩
section
variable {m:Mach} {i:Nat}
theorem a1a (h:a6p m i=true):a8d m (i+1)=(a8d m i).set i false:=by show (if _ then _ else _)=_;rw [if_pos h]
theorem a1b (h:a6p m i=false):a8d m (i+1)=a8d m i:=by show (if _ then _ else _)=_;rw [if_neg (by rw [h];decide)]
theorem a1c (h:a6p m i=true):a09 m (i+1)=(a09 m i).set (tgM m i) (a8a ((a09 m i).getD (tgM m i) default) i (m.rs.getD i default).p):=by show (if _ then _ else _)=_;rw [if_pos h]
theorem a1d (h:a6p m i=false):a09 m (i+1)=a09 m i:=by show (if _ then _ else _)=_;rw [if_neg (by rw [h];decide)]
theorem a6q:∀i,(a8d m i).length=m.ra.length
 | 0=>rfl
 | i+1=>by
  have ih:=@a6q i
  show (if _ then _ else _:List Bool).length=_
  split
  ·rw [List.length_set];exact ih
  ·exact ih
theorem J6:∀i,(a09 m i).length=m.cp.length
 | 0=>rfl
 | i+1=>by
  have ih:=@J6 i
  show (if _ then _ else _:List Ifc).length=_
  split
  ·rw [List.length_set];exact ih
  ·exact ih
theorem a8W:∀{i j:Nat},i<=j→(a8d m i).getD j default=m.ra.getD j default
 | 0,_,_=>rfl
 | i+1,j,h=>by
  show (if _ then _ else _:List Bool).getD j default=_
  split
  ·rw [List.getD_eq_getElem?_getD,List.getElem?_set_ne J,← List.getD_eq_getElem?_getD];exact a8W J
  ·exact a8W J
theorem a6r (hM:MaG m):∀{i k:Nat},i<=8→k < m.cp.length→((a09 m i).getD k default).st=(m.cp.getD k default).st/\IfG ((a09 m i).getD k default)
 | 0,k,_,hk=>⟨Z,hM.ok k hk⟩
 | i+1,k,hi,hk=>by
  have ih:=@a6r hM i k J hk
  obtain ⟨_,h2,h3⟩:=hM.tg (i:=i) J
  show ((if _ then _ else _:List Ifc).getD k default).st=_/\IfG ((if _ then _ else _:List Ifc).getD k default)
  split
  ·rw [H2 (by rw [J6];exact h2)]
   by_cases e:tgM m i=k
   ·rw [if_pos e]
    subst e
    have ih2:=@a6r hM i (tgM m i) J h2
    exact ⟨ih2.1,c8t ih2.2 J h3⟩
   ·rw [if_neg e];exact ih
  ·exact ih
theorem c5c (hM:MaG m):MaG (b4U m):=by
 refine ⟨?_,by show 1<=(a09 m 8).length/\_;rw [J6];exact ⟨hM.n.1,by show (a09 m 8).length<=2;rw [J6];exact hM.n.2⟩,hM.rn,hM.en,by show (a8d m 8).length=8;rw [a6q];exact hM.ra,λk hk=>?_⟩
 ·show okRts m.rs (a09 m 8).length=true
  rw [J6];exact hM.rt
 ·have hk:k < (a09 m 8).length:=hk
  rw [J6] at hk
  exact (a6r hM (Nat.le_refl _) hk).2
end
def stM (m:Mach) (s:MStep):Mach×Int×Bool :=
 if s.k=1 then (⟨m.rs,m.en,m.ra.set s.q.toNat true,m.cp⟩,-1,!(m.ra.getD s.q.toNat default))
 else if s.k=2 then (b4U m,-1,true)
 else if s.k=3 then (if okT (m.cp.getD s.c.toNat default) then (⟨m.rs,m.en,m.ra,m.cp.set s.c.toNat (a4X (m.cp.getD s.c.toNat default))⟩,tkI (m.cp.getD s.c.toNat default).qu.sl,true) else (⟨m.rs,m.en,m.ra,m.cp.set s.c.toNat noI⟩,0,false))
 else if s.k=4 then (if (m.cp.getD s.c.toNat default).st.length=0 then (⟨m.rs,m.en,m.ra,m.cp.set s.c.toNat noI⟩,0,false) else (⟨m.rs,m.en,m.ra,m.cp.set s.c.toNat (a9S (m.cp.getD s.c.toNat default))⟩,H5 (m.cp.getD s.c.toNat default),true))
 else if s.k=5 then (⟨m.rs,m.en,m.ra,m.cp.set s.c.toNat ⟨s.v,(m.cp.getD s.c.toNat default).st,(m.cp.getD s.c.toNat default).qu⟩⟩,-1,true)
 else (⟨m.rs,m.en.set s.q.toNat (decide (s.v=1)),m.ra,m.cp⟩,-1,true)
def b2A (m:Mach) (s:MStep):Prop:=(s.k=3/\okT (m.cp.getD s.c.toNat default)=false)∨(s.k=4/\(m.cp.getD s.c.toNat default).st.length=0)
end Go.Rf
