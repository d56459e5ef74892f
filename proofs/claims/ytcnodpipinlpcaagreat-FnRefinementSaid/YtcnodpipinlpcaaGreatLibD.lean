/- Texts merged into one: RfMC, RfMD, RfNU, RfME, RfMF, RfMG, RfMH, RfMI, RfMJ, RfML, RfMO, RfMP, RfNO, RfNZ, RfMR, RfNW, RfDA, RfDK, RfMS, RfMT, RfMU, RfDB, RfNI. -/
import Derived.Test.YtcnodpipinlpcaaGreatLibC
set_option linter.unusedSectionVars false
set_option linter.unusedSimpArgs false
set_option linter.unusedVariables false
namespace Go.Rf
open Go
variable {irq:Int} {sl:List Slot} {w:Wtr} {wa:List Wtr}
def U4 (sl:List Slot) (lim:Int):Bool:=decide (0<=bstS sl true) && decide ((sl.getD (bstS sl true).toNat default).p < lim)
def tkS (sl:List Slot):List Slot:=sl.set (bstS sl true).toNat ⟨2,(sl.getD (bstS sl true).toNat default).q,(sl.getD (bstS sl true).toNat default).p⟩
def tkI (sl:List Slot):Int:=(sl.getD (bstS sl true).toNat default).q
def tkT (sl:List Slot) (lim:Int):List Slot×Int×Bool:=if U4 sl lim then (tkS sl,tkI sl,true) else ([],0,false)
section
variable {sl:List Slot} {lim irq p:Int}
theorem b2F (h:U4 sl lim=true):tkT sl lim=(tkS sl,tkI sl,true):=by unfold tkT;rw [h];rfl
theorem b45 (h:U4 sl lim=false):tkT sl lim=([],0,false):=by unfold tkT;rw [h];rfl
theorem G2:U4 sl lim=true↔0<=bstS sl true/\(sl.getD (bstS sl true).toNat default).p < lim:=by simp [U4]
theorem a3C:U4 sl lim=false↔¬ (0<=bstS sl true/\(sl.getD (bstS sl true).toNat default).p < lim):=by rw [← Bool.not_eq_true,G2]
def ptS (sl:List Slot) (irq:Int):List Slot:=sl.set (n8 sl irq).toNat ⟨if (sl.getD (n8 sl irq).toNat default).s=2 then 3 else (sl.getD (n8 sl irq).toNat default).s,(sl.getD (n8 sl irq).toNat default).q,(sl.getD (n8 sl irq).toNat default).p⟩
def edX (sl:List Slot) (irq:Int):Slot:=if (sl.getD (n8 sl irq).toNat default).s=3 then ⟨1,irq,(sl.getD (n8 sl irq).toNat default).p⟩ else zSl
def edS (sl:List Slot) (irq:Int):List Slot:=sl.set (n8 sl irq).toNat (edX sl irq)
def N2 (x:Slot):Bool:=decide (x.s=2) || decide (x.s=3)
theorem r4 {x:Slot}:N2 x=true↔x.s=2∨x.s=3:=by simp [N2]
theorem c2I (h:0<=n8 sl irq):(sl.getD (n8 sl irq).toNat default).q=irq/\(sl.getD (n8 sl irq).toNat default).s≠0:=by
 grind [a8Q]
end
def stK (q:Que):Nat:=if freS q.sl < 0 then (bstS q.sl false).toNat else (freS q.sl).toNat
def stW (q:Que):List Wtr:=if freS q.sl < 0 then insW (q.wa.drop 1) (wOf (q.sl.getD (bstS q.sl false).toNat default)) else q.wa.drop 1
def stQ (q:Que):Que:=⟨q.sl.set (stK q) ⟨1,(q.wa.getD 0 default).q,(q.wa.getD 0 default).p⟩,stW q⟩
def wtS (x:Slot):Nat:=if x.s=0 then 2000 else if x.s=1 then (8 * x.p+x.q).toNat else 0
def phi (q:Que):Nat:=(q.sl.map wtS).sum
def a4o:Nat→Que→Que
 | 0,q=>q
 | n+1,q=>if setd q then q else a4o n (stQ q)
def a0F (q:Que):Que:=a4o (phi q+1) q
def ltW (a b:Wtr):Prop:=lessW a b=true/\a.q≠b.q
structure QF (q:Que):Prop where
 sl:SlF q.sl
 wn:q.wa.length<=9
 wa:∀w∈q.wa,(0<=w.q/\w.q<=7)/\(0<=w.p/\w.p<=15)/\∀x∈q.sl,x.s≠0→x.q≠w.q
 pw:q.wa.Pairwise ltW
theorem f8 {α:Type} [Inhabited α] {l:List α} {x:α}:x∈l↔∃i,i < l.length/\l.getD i default=x:=by
 constructor
 ·intro h
  obtain ⟨i,hi,e⟩:=List.getElem_of_mem h
  exact ⟨i,hi,by rw [List.getD_eq_getElem?_getD,List.getElem?_eq_getElem hi];exact e⟩
 grind
theorem a3D {α:Type} [Inhabited α] {l:List α} {R:α→α→Prop}:l.Pairwise R↔∀i j,i < j→j < l.length→R (l.getD i default) (l.getD j default):=by
 rw [List.pairwise_iff_getElem]
 grind
theorem b7l:n8 sl irq < 0↔∀j,j < sl.length→¬ ((sl.getD j default).s≠0/\(sl.getD j default).q=irq):=by
 grind [n8,a7c,R4,a2c]
theorem a5c:n8 sl irq < 0↔∀x∈sl,x.s≠0→x.q≠irq:=by
 grind [b7l,f8]
theorem PaF.q {q:Que} (h:PaF q):QF q:=by
 refine ⟨h.sl,Nat.le_succ_of_le h.wn,λw hw=>?_,a3D.mpr ?_⟩
 ·obtain ⟨i,hi,rfl⟩:=f8.mp hw
  obtain ⟨h1,h2,h3,_⟩:=N1.mp (h.wa i hi)
  exact ⟨h1,h2,a5c.mp h3⟩
 ·intro i j hij hj
  refine ⟨?_,(N1.mp (h.wa j hj)).2.2.2.1 i hij⟩
  induction j with
  | zero=>omega
  | succ j ih =>
   have hlast:lessW (q.wa.getD j default) (q.wa.getD (j+1) default)=true:=by
    rcases (N1.mp (h.wa (j+1) hj)).2.2.2.2 with g | g
    ·omega
    ·exact g
   by_cases e:i=j
   ·subst e;exact hlast
   ·exact L2 (ih J J) hlast
theorem QF.pa {q:Que} (h:QF q):PaF q:=by
 have hp:=a3D.mp h.pw
 have h8:∀i,i < q.wa.length→oneWa q.sl q.wa i=true:=λi hi=>by
  obtain ⟨h1,h2,h3⟩:=h.wa _ (f8.mpr ⟨i,hi,Z⟩)
  refine N1.mpr ⟨h1,h2,a5c.mpr h3,λj hj=>(hp j i hj hi).2,?_⟩
  rcases Nat.eq_zero_or_pos i with g | g
  ·exact .inl g
  ·exact .inr (hp (i - 1) i J hi).1
 exact ⟨h.sl,a9G h8,h8⟩
theorem QF.wn8 {q:Que} (h:QF q):q.wa.length<=8:=h.pa.wn
theorem z8 {α:Type} [Inhabited α] {l:List α} {i j:Nat} {x:α} (hi:i < l.length):(l.set i x).getD j default=if i=j then x else l.getD j default:=by
 grind
theorem SlF.set (h:SlF sl) {k:Nat} {x:Slot} (hk:k < 4) (hx:(1<=x.s/\x.s<=3)/\(0<=x.q/\x.q<=7)/\0<=x.p/\x.p<=15) (hq:∀j,j < 4→j≠k→(sl.getD j default).s≠0→(sl.getD j default).q≠x.q):SlF (sl.set k x):=by
 have hl:k < sl.length:=by rw [h.len];exact hk
 refine ⟨by rw [List.length_set];exact h.len,λi hi=>?_,λi hi=>?_,λi j hij hj=>?_⟩
 ·rw [z8 hl];split
  ·intro e;omega
  ·exact h.z i hi
 ·rw [z8 hl];split
  ·intro _;exact hx
  ·exact h.ok i hi
 ·rw [z8 hl,z8 hl]
  by_cases e1:k=i
  ·grind
  ·rw [if_neg e1]
   by_cases e2:k=j
   ·grind
   ·rw [if_neg e2];exact h.dif i j hij hj
theorem SlF.setZ (h:SlF sl) {k:Nat} (hk:k < 4):SlF (sl.set k zSl):=by
 have hl:k < sl.length:=by rw [h.len];exact hk
 refine ⟨by rw [List.length_set];exact h.len,λi hi=>?_,λi hi=>?_,λi j hij hj=>?_⟩
 ·rw [z8 hl];split
  ·intro _;rfl
  ·exact h.z i hi
 ·rw [z8 hl];split
  ·intro e;exact absurd Z e
  ·exact h.ok i hi
 ·rw [z8 hl,z8 hl]
  split
  ·intro e;exact absurd Z e
  ·split
   ·intro _ e;exact absurd Z e
   ·exact h.dif i j hij hj
theorem b46 {α:Type} {p:α→Bool} {x:α}:∀{l:List α},x∈l.takeWhile p→p x=true
 | [],h=>by simp at h
 | y :: l,h=>by
  rw [List.takeWhile_cons] at h
  split at h
  ·next hy =>
   rcases List.mem_cons.mp h with rfl | h
   ·exact hy
   ·exact b46 h
  ·cases h
theorem b2G:insW wa w=wa.takeWhile (λx=>lessW x w)++[w]++wa.dropWhile (λx=>lessW x w):=by
 have h:=List.takeWhile_append_dropWhile (p:=λx=>lessW x w) (l:=wa)
 unfold insW b1T
 grind
theorem a1F {x:Wtr}:x∈insW wa w↔x=w∨x∈wa:=by
 have h:=List.takeWhile_append_dropWhile (p:=λx=>lessW x w) (l:=wa)
 rw [b2G]
 grind
theorem a9K (h:wa.Pairwise ltW) (hd:∀x∈wa,x.q≠w.q):(insW wa w).Pairwise ltW:=by
 rw [b2G]
 have hs:=List.takeWhile_append_dropWhile (p:=λx=>lessW x w) (l:=wa)
 have hp:(wa.takeWhile (λx=>lessW x w)++wa.dropWhile (λx=>lessW x w)).Pairwise ltW:=by rw [hs];exact h
 obtain ⟨p1,p2,p3⟩:=List.pairwise_append.mp hp
 have t1:∀x∈wa.takeWhile (λx=>lessW x w),ltW x w:=λx hx=>by
  refine ⟨?_,hd x (by rw [← hs];exact List.mem_append_left _ hx)⟩
  exact b46 (p:=λx=>lessW x w) hx
 have t2:∀x∈wa.dropWhile (λx=>lessW x w),ltW w x:=by
  cases hdw:wa.dropWhile (λx=>lessW x w) with
  | nil=>intro x hx;cases hx
  | cons y r =>
   have hy:lessW y w=false:=by
    have:=List.head?_dropWhile_not (λx=>lessW x w) wa
    grind
   have hyq:y.q≠w.q:=hd y (by rw [← hs,hdw];simp)
   have hwy:ltW w y:=⟨by rw [a0a (Ne.symm hyq),hy];rfl,Ne.symm hyq⟩
   rw [hdw] at p2
   intro x hx
   rcases List.mem_cons.mp hx with rfl | hx
   ·exact hwy
   ·have:=(List.pairwise_cons.mp p2).1 x hx
    exact ⟨L2 hwy.1 this.1,Ne.symm (hd x (by rw [← hs,hdw];simp [hx]))⟩
 grind
theorem b2H {α:Type} [Inhabited α] {f:α→Nat} {x:α}:∀{l:List α} {k:Nat},k < l.length→((l.set k x).map f).sum+f (l.getD k default)=(l.map f).sum+f x
 | [],k,h=>by simp at h
 | y :: l,0,_=>by simp;omega
 | y :: l,k+1,h=>by
  have:=b2H (f:=f) (x:=x) (l:=l) (k:=k) (by simpa using h)
  grind
theorem a2d {α:Type} [Inhabited α] {l:List α} {k:Nat} {x y:α} (hk:k < l.length) (h:y∈l.set k x):y=x∨∃j,j < l.length/\j≠k/\l.getD j default=y:=by
 grind [f8,z8]
theorem B7 {most:Bool} (h:0<=bstS sl most):∃k:Nat,bstS sl most=k/\k < sl.length/\(sl.getD k default).s=1:=by
 have hb:=@Z1 sl most
 refine ⟨(bstS sl most).toNat,by omega,by omega,a1C _ h⟩
structure NotSet (q:Que) (k:Nat) (w:Wtr) (r:List Wtr):Prop where
 wa:q.wa=w :: r
 kn:stK q=k
 kl:k < 4
 st:(freS q.sl=k/\(q.sl.getD k default).s=0/\stW q=r)∨(freS q.sl < 0/\bstS q.sl false=k/\(q.sl.getD k default).s=1/\lessW w (wOf (q.sl.getD k default))=true/\stW q=insW r (wOf (q.sl.getD k default)))
theorem a9L {q:Que} (h:QF q) (hs:setd q=false):∃k w r,NotSet q k w r:=by
 have h0:q.wa.length≠0:=λe=>by rw [a9H e] at hs;cases hs
 obtain ⟨w,r,hw⟩:∃w r,q.wa=w :: r:=by
  cases hq:q.wa with
  | nil=>rw [hq] at h0;exact absurd Z h0
  | cons w r=>exact ⟨w,r,Z⟩
 rcases @a8R q.sl with ⟨f1,f2⟩ | ⟨i,f1,f2,f3⟩
 ·have hb:0<=bstS q.sl false:=by
   grind [b1W]
  rw [a9I h0 J J] at hs
  obtain ⟨k,hk,hkl,hk1⟩:=B7 hb
  have hkn:(bstS q.sl false).toNat=k:=by omega
  rw [hkn,hw] at hs
  have hs:lessW (wOf (q.sl.getD k default)) w=false:=hs
  have hne:(wOf (q.sl.getD k default)).q≠w.q:=(h.wa w (by rw [hw];simp)).2.2 _ (f8.mpr ⟨k,hkl,Z⟩) J
  refine ⟨k,w,r,hw,by unfold stK;rw [if_pos J,hkn],by rw [← h.sl.len];exact hkl,.inr ⟨by omega,hk,hk1,?_,?_⟩⟩
  ·rw [a0a (Ne.symm hne),hs];rfl
  ·unfold stW;rw [if_pos J,hkn,hw];rfl
 ·exact ⟨i,w,r,hw,by unfold stK;rw [if_neg J,f1];rfl,by rw [← h.sl.len];exact f2,.inl ⟨f1,f3,by unfold stW;rw [if_neg J,hw];rfl⟩⟩
theorem NotSet.eq {q:Que} {k:Nat} {r:List Wtr} (n:NotSet q k w r):stQ q=⟨q.sl.set k ⟨1,w.q,w.p⟩,stW q⟩:=by
 unfold stQ;rw [n.kn,n.wa];rfl
theorem a7N {q:Que} (h:QF q) (hs:setd q=false):QF (stQ q)/\phi (stQ q) < phi q:=by
 obtain ⟨k,w,r,n⟩:=a9L h hs
 rw [n.eq]
 have hl:k < q.sl.length:=by rw [h.sl.len];exact n.kl
 obtain ⟨hw1,hw2,hw3⟩:=h.wa w (by rw [n.wa];simp)
 have hpw:=h.pw
 rw [n.wa] at hpw
 obtain ⟨hp1,hp2⟩:=List.pairwise_cons.mp hpw
 have hrm:∀v∈r,v∈q.wa:=λv hv=>by rw [n.wa];simp [hv]
 have hsum:=b2H (f:=wtS) (x:=(⟨1,w.q,w.p⟩:Slot)) hl
 have hwt:wtS ⟨1,w.q,w.p⟩=(8 * w.p+w.q).toNat:=rfl
 have hsl:SlF (q.sl.set k ⟨1,w.q,w.p⟩):=h.sl.set n.kl ⟨⟨by show (1:Int)<=1;omega,by show (1:Int)<=3;omega⟩,hw1,hw2⟩ (λj hj hjk h0=>hw3 _ (f8.mpr ⟨j,by rw [h.sl.len];exact hj,Z⟩) h0)
 rcases n.st with ⟨f1,f2,f3⟩ | ⟨f0,f1,f2,f3,f4⟩
 ·rw [f3]
  refine ⟨⟨hsl,by have:=h.wn;rw [n.wa] at this;simp at this;show r.length<=9;omega,λv hv=>?_,hp2⟩,?_⟩
  ·obtain ⟨g1,g2,g3⟩:=h.wa v (hrm v hv)
   refine ⟨g1,g2,λx hx h0=>?_⟩
   rcases a2d hl hx with rfl | ⟨j,hj,_,rfl⟩
   ·exact (hp1 v hv).2
   grind
  ·have:wtS (q.sl.getD k default)=2000:=by unfold wtS;rw [if_pos f2]
   show ((q.sl.set k ⟨1,w.q,w.p⟩).map wtS).sum < (q.sl.map wtS).sum
   omega
 ·rw [f4]
  have hb:=h.sl.ok k n.kl J
  refine ⟨⟨hsl,?_,λv hv=>?_,a9K hp2 λx hx=>?_⟩,?_⟩
  ·have:=h.wn;rw [n.wa] at this;simp at this
   show (insW r _).length<=9
   rw [a5a];omega
  ·rcases a1F.mp hv with rfl | hv
   ·refine ⟨hb.2.1,hb.2.2,λx hx h0=>?_⟩
    rcases a2d hl hx with rfl | ⟨j,hj,hjk,rfl⟩
    ·exact λe=>hw3 _ (f8.mpr ⟨k,hl,Z⟩) J e.symm
    ·intro e
     have h4:=h.sl.len
     rcases Nat.lt_or_ge j k with g | g
     ·exact h.sl.dif j k g n.kl h0 J e
     ·exact h.sl.dif k j J J J h0 e.symm
   ·obtain ⟨g1,g2,g3⟩:=h.wa v (hrm v hv)
    refine ⟨g1,g2,λx hx h0=>?_⟩
    rcases a2d hl hx with rfl | ⟨j,hj,_,rfl⟩
    ·exact (hp1 v hv).2
    grind
  ·exact λe=>(h.wa x (hrm x hx)).2.2 _ (f8.mpr ⟨k,hl,Z⟩) J e.symm
  ·have:wtS (q.sl.getD k default)=(8 * (q.sl.getD k default).p+(q.sl.getD k default).q).toNat:=by unfold wtS;rw [if_neg J,if_pos f2]
   rw [Q3] at f3
   have f3:w.p < (q.sl.getD k default).p∨(w.p=(q.sl.getD k default).p/\w.q < (q.sl.getD k default).q):=f3
   show ((q.sl.set k ⟨1,w.q,w.p⟩).map wtS).sum < (q.sl.map wtS).sum
   omega
theorem a8T:∀{n m:Nat} {q:Que},QF q→phi q < n→phi q < m→a4o n q=a4o m q
 | n+1,m+1,q,h,h1,h2=>by
  unfold a4o
  cases hs:setd q
  ·obtain ⟨g1,g2⟩:=a7N h hs
   simp only [Bool.false_eq_true,if_false]
   exact a8T g1 J J
  ·rfl
theorem a8U {q:Que} (h:QF q) (hs:setd q=false):a0F q=a0F (stQ q):=by
 grind [a7N,a0F,a4o,a8T]
theorem a8V {q:Que} (hs:setd q=true):a0F q=q:=by unfold a0F a4o;rw [hs];rfl
theorem b2I:∀{n:Nat} {q:Que},QF q→phi q < n→QF (a4o n q)/\setd (a4o n q)=true
 | n+1,q,h,h1=>by
  unfold a4o
  cases hs:setd q
  ·obtain ⟨g1,g2⟩:=a7N h hs
   simp only [Bool.false_eq_true,if_false]
   exact b2I g1 J
  grind
theorem b2J {q:Que} (h:QF q):QF (a0F q)/\setd (a0F q)=true:=b2I h (Nat.lt_succ_self _)
theorem a5d {q:Que}:a8m q=true↔QF q/\setd q=true:=by
 unfold a8m
 rw [Bool.and_eq_true,paF]
 exact ⟨λh=>⟨h.1.q,h.2⟩,λh=>⟨h.1.pa,h.2⟩⟩
def actL (sl:List Slot):List Wtr:=(sl.filter N2).map wOf
theorem b0O:∀{k:Nat} {x:Slot},k < sl.length→N2 x=N2 (sl.getD k default)→(N2 x=true→wOf x=wOf (sl.getD k default))→actL (sl.set k x)=actL sl:=by
 unfold actL
 induction sl with
 | nil=>intro k x hk;simp at hk
 | cons y sl ih =>
  intro k x hk h1 h2
  cases k with
  | zero =>
   grind
  | succ k =>
   grind
theorem v7:w∈actL sl↔∃x∈sl,N2 x=true/\wOf x=w:=by
 simp [actL,and_assoc]
theorem b7m {q:Que} (h:QF q) (hs:setd q=false):actL (stQ q).sl=actL q.sl:=by
 obtain ⟨k,w,r,n⟩:=a9L h hs
 rw [n.eq]
 have hl:k < q.sl.length:=by rw [h.sl.len];exact n.kl
 refine b0O hl ?_ (λg=>?_)
 ·have:N2 (q.sl.getD k default)=false:=by
   rcases n.st with ⟨_,f,_⟩ | ⟨_,_,f,_⟩<;>rw [← Bool.not_eq_true,r4]<;>omega
  rw [this];rfl
 ·cases g
theorem b0P:∀{n:Nat} {q:Que},QF q→actL (a4o n q).sl=actL q.sl
 | 0,q,_=>rfl
 | n+1,q,h=>by
  unfold a4o
  cases hs:setd q
  ·simp_all [b0P,a7N,b7m]
  ·rfl
theorem a7O {q:Que} (h:QF q):actL (a0F q).sl=actL q.sl:=b0P h
def a4p (q:Que) (irq p:Int):Que:=if 0<=n8 q.sl irq then ⟨ptS q.sl irq,q.wa⟩ else if 0<=inW q.wa irq then q else ⟨q.sl,insW q.wa ⟨irq,p⟩⟩
def a0m (q:Que) (irq p:Int):Que:=a0F (a4p q irq p)
theorem a0n (h:0<=n8 sl irq):∃k:Nat,n8 sl irq=k/\k < sl.length/\(sl.getD k default).s≠0/\(sl.getD k default).q=irq:=by
 rcases @a8Q sl irq with ⟨g,_⟩ | g
 ·omega
 ·exact g
theorem SlF.upd (h:SlF sl) {k:Nat} (hk:k < 4) {s':Int} (h0:(sl.getD k default).s≠0) (hs:1<=s'/\s'<=3):SlF (sl.set k ⟨s',(sl.getD k default).q,(sl.getD k default).p⟩):=by
 refine h.set hk ⟨hs,(h.ok k hk h0).2⟩ (λj hj hjk g=>?_)
 rcases Nat.lt_or_ge j k with e | e
 ·exact h.dif j k e hk g h0
 ·exact λe'=>h.dif k j J hj h0 g e'.symm
theorem QF.slUpd {q:Que} (h:QF q) {k:Nat} (hk:k < 4) {s':Int} (h0:(q.sl.getD k default).s≠0) (hs:1<=s'/\s'<=3):QF ⟨q.sl.set k ⟨s',(q.sl.getD k default).q,(q.sl.getD k default).p⟩,q.wa⟩:=by
 refine ⟨h.sl.upd hk h0 hs,h.wn,λw hw=>?_,h.pw⟩
 obtain ⟨g1,g2,g3⟩:=h.wa w hw
 refine ⟨g1,g2,λx hx g=>?_⟩
 have hl:k < q.sl.length:=by rw [h.sl.len];exact hk
 grind
theorem b2K {q:Int}:inW wa q < 0↔∀w∈wa,w.q≠q:=by
 grind [inW,a7c,R4,f8]
theorem a9M {q:Que} {irq p:Int} (h:QF q) (hi:0<=irq/\irq<=7) (hp:0<=p/\p<=15):QF (a4p q irq p)/\actL (a4p q irq p).sl=actL q.sl:=by
 unfold a4p
 split
 ·next h1 =>
  obtain ⟨k,e1,e2,e3,e4⟩:=a0n h1
  have hk:k < 4:=by rw [← h.sl.len];exact e2
  unfold ptS
  rw [e1]
  simp only [Int.toNat_natCast]
  have hb:=(h.sl.ok k hk e3).1
  refine ⟨h.slUpd hk e3 ?_,b0O e2 ?_ (λ_=>Z)⟩
  ·split<;>omega
  ·grind [r4]
 split
 ·exact ⟨h,Z⟩
 ·next h1 h2 =>
  have g1:=a5c.mp (show n8 q.sl irq < 0 by omega)
  have g2:=b2K.mp (show inW q.wa irq < 0 by omega)
  refine ⟨⟨h.sl,?_,λw hw=>?_,a9K h.pw g2⟩,Z⟩
  ·show (insW q.wa _).length<=9
   rw [a5a];have:=h.wn8;omega
  ·rcases a1F.mp hw with rfl | hw
   ·exact ⟨hi,hp,g1⟩
   ·exact h.wa w hw
theorem a22 {q:Que} {p:Int} (h:QF q) (hi:0<=irq/\irq<=7) (hp:0<=p/\p<=15):QF (a0m q irq p)/\setd (a0m q irq p)=true/\actL (a0m q irq p).sl=actL q.sl:=by
 grind [a9M,b2J,a0m,a7O]
def a23 (q:Que):Que:=⟨tkS q.sl,q.wa⟩
theorem b1X {q:Que} (h:QF q) (hb:0<=bstS q.sl true):QF (a23 q):=by
 obtain ⟨k,e1,e2,e3⟩:=B7 hb
 have hk:k < 4:=by rw [← h.sl.len];exact e2
 unfold a23 tkS
 rw [e1]
 exact h.slUpd hk (by (omega)) (by (omega))
def a24 (q:Que) (irq:Int):Que:=a0F ⟨edS q.sl irq,q.wa⟩
theorem a5e {q:Que} (h:QF q) (hf:0<=n8 q.sl irq):QF ⟨edS q.sl irq,q.wa⟩:=by
 obtain ⟨k,e1,e2,e3,e4⟩:=a0n hf
 have hk:k < 4:=by rw [← h.sl.len];exact e2
 have e5:edX q.sl irq=if (q.sl.getD k default).s=3 then ⟨1,irq,(q.sl.getD k default).p⟩ else zSl:=by unfold edX;rw [e1];rfl
 unfold edS
 rw [e1,e5]
 split
 ·rw [← e4];exact h.slUpd hk e3 J
 ·refine ⟨h.sl.setZ hk,h.wn,λw hw=>?_,h.pw⟩
  obtain ⟨g1,g2,g3⟩:=h.wa w hw
  refine ⟨g1,g2,λx hx g=>?_⟩
  rcases a2d e2 hx with rfl | ⟨j,hj,_,rfl⟩
  ·exact absurd Z g
  grind
theorem b1Y {q:Que} (h:QF q) (hf:0<=n8 q.sl irq):QF (a24 q irq)/\setd (a24 q irq)=true:=b2J (a5e h hf)
theorem q9 {q:Que} (h:0<=freS q.sl):stQ q=⟨q.sl.set (freS q.sl).toNat ⟨1,(q.wa.getD 0 default).q,(q.wa.getD 0 default).p⟩,q.wa.drop 1⟩:=by
 unfold stQ stK stW
 grind
theorem s5 {q:Que} (h:freS q.sl < 0):stQ q=⟨q.sl.set (bstS q.sl false).toNat ⟨1,(q.wa.getD 0 default).q,(q.wa.getD 0 default).p⟩,insW (q.wa.drop 1) (wOf (q.sl.getD (bstS q.sl false).toNat default))⟩:=by
 unfold stQ stK stW
 rw [if_pos h,if_pos h]
theorem b2L {q:Que} (h:QF q) (hs:setd q=false):0 < q.wa.length/\(freS q.sl < 0→0<=bstS q.sl false):=by
 obtain ⟨k,w,r,n⟩:=a9L h hs
 refine ⟨by rw [n.wa];simp,λg=>?_⟩
 rcases n.st with ⟨f,_⟩ | ⟨_,f,_⟩<;>omega
end Go.Rf
namespace Go.Rf
theorem c2J {xs:List Wtr}:((xs.map i5).drop (1:Int).toNat).take (((xs.map i5).length:Int).toNat - (1:Int).toNat)=(xs.drop 1).map i5:=by
 have h1:(1:Int).toNat=1:=rfl
 have h2:(((xs.map i5).length:Int)).toNat=(xs.map i5).length:=Int.toNat_natCast _
 rw [h1,h2,List.take_of_length_le (by rw [List.length_drop];exact Nat.le_refl _),List.map_drop]
theorem c2K {xs:List Wtr}:(xs.map i5).drop (1:Int).toNat=(xs.drop 1).map i5:=List.map_drop.symm
end Go.Rf
namespace Go.Rf
open Go
variable {a:Abs} {i:Nat} {n:Int} {rs:List Route} {ss:List MStep}
def rnN (rs:List Route) (a:Abs) (ss:List MStep):Nat→Abs×List Int
 | 0=>(a,[])
 | i+1=>if (n7 rs (rnN rs a ss i).1 (ss.getD i default)).2.2 then ((n7 rs (rnN rs a ss i).1 (ss.getD i default)).1,if (ss.getD i default).k=3 then (rnN rs a ss i).2++[(n7 rs (rnN rs a ss i).1 (ss.getD i default)).2.1] else (rnN rs a ss i).2) else rnN rs a ss i
section
variable {rs:List Route} {a:Abs} {ss:List MStep}
theorem a1G:rnN rs a ss (i+1)=if (n7 rs (rnN rs a ss i).1 (ss.getD i default)).2.2 then ((n7 rs (rnN rs a ss i).1 (ss.getD i default)).1,if (ss.getD i default).k=3 then (rnN rs a ss i).2++[(n7 rs (rnN rs a ss i).1 (ss.getD i default)).2.1] else (rnN rs a ss i).2) else rnN rs a ss i:=rfl
theorem y5 (h:(n7 rs (rnN rs a ss i).1 (ss.getD i default)).2.2=false):rnN rs a ss (i+1)=rnN rs a ss i:=by rw [a1G,h];rfl
theorem R5 (h:(n7 rs (rnN rs a ss i).1 (ss.getD i default)).2.2=true):(rnN rs a ss (i+1)).1=(n7 rs (rnN rs a ss i).1 (ss.getD i default)).1:=by rw [a1G,h];rfl
theorem T3 (h:(n7 rs (rnN rs a ss i).1 (ss.getD i default)).2.2=true) (h3:(ss.getD i default).k=3):(rnN rs a ss (i+1)).2=(rnN rs a ss i).2++[(n7 rs (rnN rs a ss i).1 (ss.getD i default)).2.1]:=by rw [a1G,h,if_pos Z,if_pos h3]
theorem J3 (h:(n7 rs (rnN rs a ss i).1 (ss.getD i default)).2.2=true) (h3:¬ (ss.getD i default).k=3):(rnN rs a ss (i+1)).2=(rnN rs a ss i).2:=by rw [a1G,h,if_pos Z,if_neg h3]
theorem b2M:∀i,(rnN rs a ss i).2.length<=i
 | 0=>Nat.le_refl _
 | i+1=>by
  have:=b2M i
  rw [a1G]
  grind
end
theorem b2N {rs:List Route} {a:Abs} {s:MStep} (hF:AbsF rs a) (hv:s4 a.ma.length s=true):AbsF rs (n7 rs a s).1/\(n7 rs a s).1.ma.length=a.ma.length:=by
 have same:∀b:Abs,b.ma.length=a.ma.length→b.st.length=a.st.length→b.en.length=a.en.length→b.ra.length=a.ra.length→b.po.length=a.po.length→(∀c,c < a.ma.length→(b.st.getD c default).length<=4)→(∀c,c < a.ma.length→∀i,i < (b.st.getD c default).length→0<=(b.st.getD c default).getD i default/\(b.st.getD c default).getD i default<=7)→AbsF rs b/\b.ma.length=a.ma.length:=λb e1 e2 e3 e4 e5 h1 h2 =>
  ⟨⟨by rw [e1];exact hF.n,hF.rn,by rw [e1,e2];exact hF.st,by rw [e3];exact hF.en,by rw [e4];exact hF.ra,by rw [e5];exact hF.po,by rw [e1];exact hF.rt,by rw [e1];exact h1,by rw [e1];exact h2⟩,e1⟩
 have get:∀(c k:Nat) (l:List Int),(a.st.set k l).getD c default=if k=c/\k < a.st.length then l else a.st.getD c default:=λc k l=>by
  grind
 unfold n7
 split
 ·exact same _ Z Z Z List.length_set Z hF.len hF.el
 split
 ·exact same _ Z Z Z (Q2 8) (I7 8) hF.len hF.el
 split
 ·next h3 =>
  split
  ·grind
  ·next hn =>
   have hb:=@a47 rs a s.c.toNat
   have h4:(a.st.getD s.c.toNat default).length≠4:=λe=>hn (by rw [a9z e];decide)
   refine same _ Z List.length_set Z Z List.length_set (λc hc=>?_) (λc hc i hi=>?_)
   ·show ((a.st.set _ _).getD c default).length<=4
    rw [get]
    split
    ·next e=>have:=hF.len c hc;rw [← e.1] at this;simp only [List.length_append,List.length_cons,List.length_nil];omega
    ·exact hF.len c hc
   ·have hi:i < ((a.st.set s.c.toNat (a.st.getD s.c.toNat default++[B1 rs a s.c.toNat])).getD c default).length:=hi
    show 0<=((a.st.set _ _).getD c default).getD i default/\_
    rw [get] at hi ⊢
    split at hi
    ·next e =>
     rw [if_pos e]
     by_cases hl:i < (a.st.getD s.c.toNat default).length
     ·have:=hF.el c hc i (by rw [← e.1];exact hl)
      grind
     grind
    ·next e=>rw [if_neg e];exact hF.el c hc i hi
 split
 ·split
  ·grind
  ·refine same _ Z List.length_set Z Z Z (λc hc=>?_) (λc hc i hi=>?_)
   ·show ((a.st.set _ _).getD c default).length<=4
    rw [get]
    split
    ·next e=>have:=hF.len c hc;rw [← e.1] at this;rw [List.length_take];omega
    ·exact hF.len c hc
   ·have hi:i < ((a.st.set s.c.toNat ((a.st.getD s.c.toNat default).take ((a.st.getD s.c.toNat default).length - 1))).getD c default).length:=hi
    show 0<=((a.st.set _ _).getD c default).getD i default/\_
    rw [get] at hi ⊢
    split at hi
    ·next e =>
     rw [if_pos e]
     rw [List.length_take] at hi
     have:=hF.el c hc i (by rw [← e.1];omega)
     grind
    ·next e=>rw [if_neg e];exact hF.el c hc i hi
 split
 ·exact same _ List.length_set Z Z Z Z hF.len hF.el
 ·exact same _ Z Z List.length_set Z Z hF.len hF.el
def L3 (n:Int) (ss:List MStep):Bool:=decide (ss.length<=30) && X7 ss.length (λi=>s4 n (ss.getD i default))
theorem P2:L3 n ss=true↔ss.length<=30/\∀i,i < ss.length→s4 n (ss.getD i default)=true:=by simp only [L3,Bool.and_eq_true,decide_eq_true_eq,w4]
theorem b8i (hF:AbsF rs a) (hv:∀i,i < ss.length→s4 a.ma.length (ss.getD i default)=true):∀i,i<=ss.length→AbsF rs (rnN rs a ss i).1/\(rnN rs a ss i).1.ma.length=a.ma.length
 | 0,_=>⟨hF,Z⟩
 | i+1,h=>by
  obtain ⟨h1,h2⟩:=b8i hF hv i J
  cases hm:(n7 rs (rnN rs a ss i).1 (ss.getD i default)).2.2
  ·rw [y5 hm];exact ⟨h1,h2⟩
  ·grind [R5,b2N]
def rnT (rs:List Route) (a:Abs) (ss:List MStep):Abs×List Int×Bool:=if absOK rs a && L3 a.ma.length ss then ((rnN rs a ss ss.length).1,(rnN rs a ss ss.length).2,true) else (noA,[],false)
theorem c07 {rs:List Route} {a:Abs} {ss:List MStep} (h:absOK rs a=false):rnT rs a ss=(noA,[],false):=by unfold rnT;rw [h];rfl
theorem b47 {rs:List Route} {a:Abs} {ss:List MStep} (h:L3 a.ma.length ss=false):rnT rs a ss=(noA,[],false):=by unfold rnT;rw [h,Bool.and_false];rfl
theorem b8j (h1:absOK rs a=true) (h2:L3 a.ma.length ss=true):rnT rs a ss=((rnN rs a ss ss.length).1,(rnN rs a ss ss.length).2,true):=by unfold rnT;rw [h1,h2];rfl
theorem a0o (h:30 < ss.length∨∃i,i < ss.length/\s4 n (ss.getD i default)=false):L3 n ss=false:=by
 grind [P2]
end Go.Rf
namespace Go.Rf
end Go.Rf
namespace Go.Rf
open Go
variable {a:Abs} {i j:Nat} {l:List Int} {m:Mach} {rs:List Route} {x:Ifc}
def r3 (eS eW:Nat) (x:Ifc):List CI:=[.v (.int .i64 x.ma),.l 3 1 (x.st.map l8),.l eS 3 (x.qu.sl.map f9),.l eW 2 (x.qu.wa.map i5)]
structure BigI (x:Ifc):Prop where
 st:x.st.length<=9223372036854775807
 sl:x.qu.sl.length<=9223372036854775807
 wa:x.qu.wa.length<=9223372036854775807
structure BigM (m:Mach):Prop where
 rs:m.rs.length<=9223372036854775807
 en:m.en.length<=9223372036854775807
 ra:m.ra.length<=9223372036854775807
 cp:m.cp.length<=9223372036854775807
 all:∀i,i < m.cp.length→BigI (m.cp.getD i default)
def szI (x:Ifc):Int:=x.st.length+x.qu.sl.length+x.qu.wa.length
def sumI (xs:List Ifc):Nat→Int
 | 0=>0
 | i+1=>sumI xs i+szI (xs.getD i default)
theorem a0b {xs:List Ifc}:sumI xs (i+1)=sumI xs i+szI (xs.getD i default):=rfl
theorem b48 {x:Ifc}:0<=szI x:=by unfold szI;omega
theorem b2O {xs:List Ifc}:∀i,0<=sumI xs i
 | 0=>Int.le_refl _
 | i+1=>by have:=@b2O xs i;have:=@b48 (xs.getD i default);rw [a0b];omega
theorem b30 {xs:List Ifc} {i j:Nat} (h:i<=j):sumI xs i<=sumI xs j:=by
 induction h with
 | refl=>exact Int.le_refl _
 | step _ ih=>rename_i m _;have:=@b48 (xs.getD m default);rw [a0b];omega
theorem b49 {xs:List Ifc} {i n:Nat} (h:i < n):szI (xs.getD i default)<=sumI xs n:=by
 have h1:=b30 (xs:=xs) (show i+1<=n from h)
 have h2:=@b2O xs i
 rw [a0b] at h1
 omega
structure SmallM (m:Mach):Prop where
 rs:m.rs.length<=1048576
 en:m.en.length<=1048576
 ra:m.ra.length<=1048576
 cp:m.cp.length<=1048576
 sum:sumI m.cp m.cp.length<=1048576
theorem SmallM.allI (h:SmallM m) {i:Nat} (hi:i < m.cp.length):szI (m.cp.getD i default)<=1048576:=by
 have:=b49 (xs:=m.cp) hi
 have:=h.sum
 omega
theorem SmallM.big (h:SmallM m):BigM m:=by
 refine ⟨by have:=h.rs;omega,by have:=h.en;omega,by have:=h.ra;omega,by have:=h.cp;omega,λi hi=>?_⟩
 have:=h.allI hi
 unfold szI at this
 exact ⟨by omega,by omega,by omega⟩
section
variable {k:Int} {xs:List Ifc} {eS eW:Nat}
end
def noM:Mach:=⟨[],[],[],[]⟩
def a7P:Ifc:=⟨16,[],⟨[zSl,zSl,zSl,zSl],[]⟩⟩
def a6M (rs:List Route) (c:Nat):Mach:=⟨rs,List.replicate 8 false,List.replicate 8 false,List.replicate c a7P⟩
def a0U (rs:List Route) (c:Int):Mach×Bool:=if okRts rs c then (a6M rs c.toNat,true) else (noM,false)
theorem a5f {rs:List Route} {c:Int} (h:okRts rs c=true):a0U rs c=(a6M rs c.toNat,true):=by unfold a0U;rw [h];rfl
theorem b2P {rs:List Route} {c:Int} (h:okRts rs c=false):a0U rs c=(noM,false):=by unfold a0U;rw [h];rfl
theorem b31:SmallM noM:=⟨by decide,by decide,by decide,by decide,by decide⟩
def lvl (sl:List Slot) (q:Int):Int:=(sl.getD (n8 sl q).toNat default).p
def a5g (x:Ifc):Int:=if x.st.length=0 then 16 else lvl x.qu.sl (x.st.getD (x.st.length - 1) default)
theorem c08 (h:x.st.length=0):a5g x=16:=by unfold a5g;rw [if_pos h]
theorem b5a (h:¬ x.st.length=0):a5g x=lvl x.qu.sl (x.st.getD (x.st.length - 1) default):=by unfold a5g;rw [if_neg h]
def a1f (x:Ifc) (q p:Int):Ifc:=⟨x.ma,x.st,a0m x.qu q p⟩
def a1H (x:Ifc):Ifc:=⟨x.ma,x.st++[tkI x.qu.sl],a23 x.qu⟩
structure IfF (x:Ifc):Prop where
 qu:QF x.qu
 sn:x.st.length<=4
 st:∀q∈x.st,∃w∈actL x.qu.sl,w.q=q
theorem a2e {sl:List Slot} {q:Int} (h:∃w∈actL sl,w.q=q):0<=n8 sl q:=by
 obtain ⟨w,hw,e⟩:=h
 obtain ⟨x,h1,h2,rfl⟩:=v7.mp hw
 rcases Int.lt_or_le (n8 sl q) 0 with g | g
 ·refine absurd e (a5c.mp g x h1 ?_)
  rcases r4.mp h2 with g | g<;>omega
 ·exact g
theorem IfF.top (h:IfF x) {i:Nat} (hi:i < x.st.length):0<=n8 x.qu.sl (x.st.getD i default):=a2e (h.st _ (f8.mpr ⟨i,hi,Z⟩))
theorem a9N {q p:Int} (h:IfF x) (hq:0<=q/\q<=7) (hp:0<=p/\p<=15):IfF (a1f x q p):=by
 obtain ⟨h1,h2,h3⟩:=a22 h.qu hq hp
 exact ⟨h1,h.sn,λy hy=>by show ∃w∈actL (a0m x.qu q p).sl,w.q=y;rw [h3];exact h.st y hy⟩
theorem b2Q {α:Type} [Inhabited α] {l:List α} {k:Nat} {x y:α} (h:x∈l) (hne:x≠l.getD k default):x∈l.set k y:=by
 grind [f8]
theorem c09 (h:IfF x) (hb:0<=bstS x.qu.sl true) (hn:x.st.length < 4):IfF (a1H x):=by
 obtain ⟨k,e1,e2,e3⟩:=B7 hb
 refine ⟨b1X h.qu hb,by show (x.st++[tkI x.qu.sl]).length<=4;rw [List.length_append,List.length_cons,List.length_nil];omega,λq hq=>?_⟩
 show ∃w∈actL (tkS x.qu.sl),w.q=q
 unfold tkS
 rw [e1,Int.toNat_natCast]
 rcases List.mem_append.mp hq with hq | hq
 ·obtain ⟨w,hw,e⟩:=h.st q hq
  obtain ⟨y,y1,y2,y3⟩:=v7.mp hw
  refine ⟨w,v7.mpr ⟨y,b2Q y1 (λe'=>?_),y2,y3⟩,e⟩
  rw [e'] at y2
  rcases r4.mp y2 with g | g<;>omega
 ·rw [List.mem_singleton.mp hq]
  refine ⟨⟨(x.qu.sl.getD k default).q,(x.qu.sl.getD k default).p⟩,v7.mpr ⟨⟨2,(x.qu.sl.getD k default).q,(x.qu.sl.getD k default).p⟩,List.mem_iff_getElem.mpr ⟨k,by rw [List.length_set];exact e2,by simp⟩,Z,Z⟩,?_⟩
  show (x.qu.sl.getD k default).q=tkI x.qu.sl
  unfold tkI
  grind
def N3 (rs:List Route) (l:List Int):List Slot:=(l.map λq=>⟨2,q,prI rs q⟩)++List.replicate (4 - l.length) zSl
def B8 (rs:List Route) (l:List Int):Ifc:=⟨16,l,⟨N3 rs l,[]⟩⟩
def U5 (rs:List Route) (l:List Int) (q:Int):List Slot:=(l.map λq=>⟨2,q,prI rs q⟩)++(⟨1,q,prI rs q⟩ :: List.replicate (3 - l.length) zSl)
section
variable {rs:List Route} {l:List Int} {q:Int}
theorem a8W {α:Type} [Inhabited α] {a b:List α} {j:Nat} (h:j < a.length):(a++b).getD j default=a.getD j default:=by
 grind
theorem a8X {α:Type} [Inhabited α] {a b:List α} {j:Nat} (h:a.length<=j):(a++b).getD j default=b.getD (j - a.length) default:=by
 grind
theorem I8 {α β:Type} [Inhabited α] [Inhabited β] {f:α→β} {a:List α} {j:Nat} (h:j < a.length):(a.map f).getD j default=f (a.getD j default):=by
 grind
theorem b5b {α:Type} [Inhabited α] {x:α} {n j:Nat} (h:j < n):(List.replicate n x).getD j default=x:=by
 grind
theorem a1I (h:l.length<=4):(N3 rs l).length=4:=by unfold N3;simp;omega
theorem b0Q (h:l.length < 4):(U5 rs l q).length=4:=by unfold U5;simp;omega
theorem a0V (h:j < l.length):(N3 rs l).getD j default=⟨2,l.getD j default,prI rs (l.getD j default)⟩:=by
 unfold N3
 grind
theorem a3E (h:l.length<=j) (h4:j < 4):(N3 rs l).getD j default=zSl:=by
 unfold N3
 grind
theorem a9O (h:j < l.length):(U5 rs l q).getD j default=⟨2,l.getD j default,prI rs (l.getD j default)⟩:=by
 unfold U5
 grind
theorem a9P:(U5 rs l q).getD l.length default=⟨1,q,prI rs q⟩:=by
 unfold U5
 rw [a8X (by simp)]
 simp
theorem b7n (h:l.length < j) (h4:j < 4):(U5 rs l q).getD j default=zSl:=by
 grind [U5]
theorem b7o {α:Type} {a b:List α} {x:α}:(a++b).set a.length x=a++b.set 0 x:=by
 simp
theorem b5c (h:l.length < 4):(N3 rs l).set l.length ⟨1,q,prI rs q⟩=U5 rs l q:=by
 unfold N3 U5
 have e:=@b7o _ (l.map λq=>(⟨2,q,prI rs q⟩:Slot)) (List.replicate (4 - l.length) zSl) ⟨1,q,prI rs q⟩
 rw [List.length_map] at e
 rw [e,show 4 - l.length=(3 - l.length)+1 by omega,List.replicate_succ,List.set_cons_zero]
theorem b5d (h:l.length < 4):(U5 rs l q).set l.length ⟨2,q,prI rs q⟩=N3 rs (l++[q]):=by
 grind [N3,U5]
theorem a7Q (h:l.length < 4):freS (N3 rs l)=l.length:=by
 unfold freS
 refine L1 (λj hj=>?_) (by rw [a1I J];exact h) ?_
 ·rw [a0V hj];rfl
 ·rw [a3E (Nat.le_refl _) h];rfl
theorem b5e (h:l.length<=4) (hq:∀j,j < l.length→l.getD j default≠q):n8 (N3 rs l) q=-1:=by
 unfold n8
 refine V5 (i:=4) (λj hj=>?_) (by rw [a1I h];exact Nat.le_refl _)
 rw [← Bool.not_eq_true,a2c]
 rcases Nat.lt_or_ge j l.length with g | g
 ·rw [a0V g];exact λe=>hq j g e.2
 ·rw [a3E g hj];exact λe=>e.1 Z
theorem b5f (h:l.length < 4) (hj:j < l.length) (hd:∀i,i < j→l.getD i default≠l.getD j default):n8 (U5 rs l q) (l.getD j default)=j:=by
 grind [n8,L1,b0Q,a2c,a9O]
theorem b0R (h:l.length < 4):bstS (U5 rs l q) true=l.length:=by
 have hl:(U5 rs l q).length=4:=b0Q h
 have hneg:¬ B2 (U5 rs l q) true 4 < 0:=by
  grind [a7J,a9P]
 have hb:=@Z0 (U5 rs l q) true 4
 have h1:=a1C (sl:=U5 rs l q) (most:=true) 4 J
 unfold bstS
 rw [hl]
 rcases Nat.lt_trichotomy (B2 (U5 rs l q) true 4).toNat l.length with g | g | g
 ·rw [a9O g] at h1;exact absurd h1 (by show ¬ (2:Int)=1;decide)
 ·omega
 ·rw [b7n g J] at h1;exact absurd h1 (by show ¬ (0:Int)=1;decide)
theorem b2R {α:Type} {f:α→Nat} {x:α}:∀{l:List α},x∈l→f x<=(l.map f).sum
 | y :: l,h=>by
  rw [List.map_cons,List.sum_cons]
  rcases List.mem_cons.mp h with rfl | h
  ·omega
  ·have:=b2R (f:=f) h;omega
theorem b32 (h:l.length < 4) (hq:∀j,j < l.length→l.getD j default≠q):a1f (B8 rs l) q (prI rs q)=⟨16,l,⟨U5 rs l q,[]⟩⟩:=by
 have h1:a4p (B8 rs l).qu q (prI rs q)=⟨N3 rs l,[⟨q,prI rs q⟩]⟩:=by
  unfold a4p
  rw [if_neg (by show ¬ 0<=n8 (N3 rs l) q;rw [b5e J hq];decide),if_neg (by have:=@c06 ([]:List Wtr) q;show ¬ 0<=inW [] q;simp at this;omega)]
  rfl
 have h2:setd ⟨N3 rs l,[⟨q,prI rs q⟩]⟩=false:=b1V (by show ¬ 1=0;decide) (by show 0<=freS (N3 rs l);rw [a7Q h];omega)
 have h3:stQ ⟨N3 rs l,[⟨q,prI rs q⟩]⟩=⟨U5 rs l q,[]⟩:=by
  rw [q9 (by show 0<=freS (N3 rs l);rw [a7Q h];omega)]
  show (⟨(N3 rs l).set (freS (N3 rs l)).toNat ⟨1,q,prI rs q⟩,[]⟩:Que)=_
  rw [a7Q h,Int.toNat_natCast,b5c h]
 have h4:a0F ⟨N3 rs l,[⟨q,prI rs q⟩]⟩=⟨U5 rs l q,[]⟩:=by
  unfold a0F
  have hp:0 < phi ⟨N3 rs l,[⟨q,prI rs q⟩]⟩:=by
   have hm:zSl∈N3 rs l:=f8.mpr ⟨l.length,by rw [a1I J];exact h,a3E (Nat.le_refl _) h⟩
   have:wtS zSl<=((N3 rs l).map wtS).sum:=b2R hm
   have e:wtS zSl=2000:=rfl
   show 0 < ((N3 rs l).map wtS).sum
   omega
  obtain ⟨n,hn⟩:∃n,phi ⟨N3 rs l,[⟨q,prI rs q⟩]⟩=n+1:=⟨_,(Nat.sub_add_cancel hp).symm⟩
  rw [hn]
  unfold a4o
  rw [h2]
  simp only [Bool.false_eq_true,if_false]
  rw [h3]
  rfl
 unfold a1f a0m
 rw [h1,h4]
 rfl
theorem b7p (h:l.length < 4) (hd:∀i j,i < j→j < l.length→l.getD i default≠l.getD j default):a5g ⟨16,l,⟨U5 rs l q,[]⟩⟩=if l.length=0 then 16 else prI rs (l.getD (l.length - 1) default):=by
 grind [a5g,lvl,b5f,a9O]
theorem b5g (h:l.length < 4):a1H ⟨16,l,⟨U5 rs l q,[]⟩⟩=B8 rs (l++[q]):=by
 grind [a1H,B8,a23,tkS,tkI,b0R,a9P,b5d]
theorem c1a (h:l.length<=4) (hr:∀j,j < l.length→(0<=l.getD j default/\l.getD j default<=7)/\0<=prI rs (l.getD j default)/\prI rs (l.getD j default)<=15) (hd:∀i j,i < j→j < l.length→l.getD i default≠l.getD j default):IfF (B8 rs l):=by
 have key:∀i,i < 4→((N3 rs l).getD i default).s≠0→i < l.length:=λi hi h0=>by
  rcases Nat.lt_or_ge i l.length with g | g
  ·exact g
  ·rw [a3E g hi] at h0;exact absurd Z h0
 refine ⟨⟨⟨a1I h,λi hi h0=>?_,λi hi h0=>?_,λi j hij hj h1 h2=>?_⟩,Nat.zero_le _,λw hw=>(by cases hw),List.Pairwise.nil⟩,h,λq hq=>?_⟩
 ·show (N3 rs l).getD i default=zSl
  have h0:((N3 rs l).getD i default).s=0:=h0
  rcases Nat.lt_or_ge i l.length with g | g
  ·rw [a0V g] at h0;exact absurd h0 (by show ¬ (2:Int)=0;decide)
  ·exact a3E g hi
 ·grind [B8,a0V]
 ·have g1:=key i J h1
  have g2:=key j hj h2
  show ((N3 rs l).getD i default).q≠((N3 rs l).getD j default).q
  rw [a0V g1,a0V g2]
  exact hd i j hij g2
 ·obtain ⟨i,hi,rfl⟩:=f8.mp hq
  have hi:i < l.length:=hi
  refine ⟨⟨l.getD i default,prI rs (l.getD i default)⟩,v7.mpr ⟨⟨2,l.getD i default,prI rs (l.getD i default)⟩,f8.mpr ⟨i,by show i < (N3 rs l).length;rw [a1I h];omega,a0V hi⟩,Z,Z⟩,Z⟩
end
def b0S (rs:List Route) (po:List Bool) (k:Nat) (i:Nat):Bool:=po.getD i default && decide ((rs.getD i default).t=k)
def a0p (rs:List Route) (po:List Bool) (k:Nat) (x:Ifc):Nat→Ifc
 | 0=>x
 | i+1=>if b0S rs po k i then a1f (a0p rs po k x i) i (rs.getD i default).p else a0p rs po k x i
section
variable {rs:List Route} {po:List Bool} {k:Nat} {x:Ifc}
theorem A8 (h:po.getD i default=true) (h2:(rs.getD i default).t=k):a0p rs po k x (i+1)=a1f (a0p rs po k x i) i (rs.getD i default).p:=by
 show (if b0S rs po k i then _ else _)=_
 rw [if_pos]
 unfold b0S
 grind
theorem A9 (h:¬ (po.getD i default=true/\(rs.getD i default).t=k)):a0p rs po k x (i+1)=a0p rs po k x i:=by
 show (if b0S rs po k i then _ else _)=_
 rw [if_neg]
 unfold b0S
 grind
theorem a9Q (hF:IfF x) (hr:∀i,i < 8→0<=(rs.getD i default).p/\(rs.getD i default).p<=15):∀i,i<=8→IfF (a0p rs po k x i)
 | 0,_=>hF
 | i+1,h=>by
  have ih:=a9Q hF hr i J
  show IfF (if b0S rs po k i then _ else _)
  split
  ·exact a9N ih J (hr i J)
  ·exact ih
theorem a9R:∀i,(a0p rs po k x i).st=x.st/\(a0p rs po k x i).ma=x.ma
 | 0=>⟨Z,Z⟩
 | i+1=>by
  have ih:=@a9R i
  show (if b0S rs po k i then a1f _ _ _ else _).st=x.st/\(if b0S rs po k i then a1f _ _ _ else _).ma=x.ma
  split
  ·exact ih
  ·exact ih
end
def moI (rs:List Route) (a:Abs) (k:Nat):Ifc:=⟨a.ma.getD k default,(a0p rs a.po k (B8 rs (a.st.getD k default)) 8).st,(a0p rs a.po k (B8 rs (a.st.getD k default)) 8).qu⟩
def moM (rs:List Route) (a:Abs):Mach:=⟨rs,a.en,a.ra,(List.range a.ma.length).map (moI rs a)⟩
def moT (rs:List Route) (a:Abs):Mach×Bool:=if absOK rs a then (moM rs a,true) else (noM,false)
theorem b0T (h:absOK rs a=true):moT rs a=(moM rs a,true):=by unfold moT;rw [h];rfl
theorem b2S (h:absOK rs a=false):moT rs a=(noM,false):=by unfold moT;rw [h];rfl
structure StkF (rs:List Route) (l:List Int):Prop where
 n:l.length<=4
 el:∀j,j < l.length→(0<=l.getD j default/\l.getD j default<=7)/\0<=prI rs (l.getD j default)/\prI rs (l.getD j default)<=15
 dn:∀j,0 < j→j < l.length→prI rs (l.getD j default) < prI rs (l.getD (j - 1) default)
theorem StkF.lt (h:StkF rs l) {i:Nat}:∀{j:Nat},i < j→j < l.length→prI rs (l.getD j default) < prI rs (l.getD i default)
 | j+1,hij,hj=>by
  have:=h.dn (j+1) J hj
  by_cases e:i=j
  ·subst e;exact this
  ·have:=StkF.lt h (show i < j by omega) J
   grind
theorem StkF.dif (h:StkF rs l) {i j:Nat} (hij:i < j) (hj:j < l.length):l.getD i default≠l.getD j default:=λe=>by
 have:=h.lt hij hj
 rw [e] at this
 omega
theorem StkF.take (h:StkF rs l) {n:Nat} (hn:n<=l.length):IfF (B8 rs (l.take n)):=by
 have hl:(l.take n).length=n:=by rw [List.length_take];omega
 have hg:∀j,j < n→(l.take n).getD j default=l.getD j default:=λj hj=>a1E hj
 refine c1a (by rw [hl];have:=h.n;omega) (λj hj=>?_) (λi j hij hj=>?_)
 ·rw [hg j J];exact h.el j J
 ·rw [hg i J,hg j J];exact h.dif hij J
theorem StkF.step (h:StkF rs l) {i:Nat} (hi:i < l.length) :
 IfF (a1f (B8 rs (l.take i)) (l.getD i default) (prI rs (l.getD i default)))/\(a1f (B8 rs (l.take i)) (l.getD i default) (prI rs (l.getD i default))).st.length < 4 /\
 U4 (a1f (B8 rs (l.take i)) (l.getD i default) (prI rs (l.getD i default))).qu.sl (min (a1f (B8 rs (l.take i)) (l.getD i default) (prI rs (l.getD i default))).ma (a5g (a1f (B8 rs (l.take i)) (l.getD i default) (prI rs (l.getD i default)))))=true /\
 a1H (a1f (B8 rs (l.take i)) (l.getD i default) (prI rs (l.getD i default)))=B8 rs (l.take (i+1)):=by
 have hn:=h.n
 have hl:(l.take i).length=i:=by rw [List.length_take];omega
 have hg:∀j,j < i→(l.take i).getD j default=l.getD j default:=λj hj=>a1E hj
 have hr:=b32 (rs:=rs) (l:=l.take i) (q:=l.getD i default) J (λj hj=>by rw [hg j J];exact h.dif J hi)
 refine ⟨a9N (h.take J) (h.el i hi).1 (h.el i hi).2,?_,?_,?_⟩
 ·grind
 ·rw [hr,b7p J (λa b hab hb=>by rw [hg a J,hg b J];exact h.dif hab J)]
  rw [G2]
  show 0<=bstS (U5 rs (l.take i) (l.getD i default)) true/\((U5 rs (l.take i) (l.getD i default)).getD (bstS (U5 rs (l.take i) (l.getD i default)) true).toNat default).p < min 16 _
  rw [b0R J,Int.toNat_natCast,a9P]
  have h15:=(h.el i hi).2.2
  refine ⟨by omega,?_⟩
  show prI rs (l.getD i default) < _
  rw [hl]
  split
  ·omega
  ·next h0 =>
   rw [hg (i - 1) J]
   have:=h.dn i J hi
   omega
 ·rw [hr,b5g J]
  simp_all
theorem a7d {rs:List Route} {a:Abs} (h:absOK rs a=true) {k:Nat} (hk:k < a.ma.length):StkF rs (a.st.getD k default):=by
 have hF:=a9w h
 simp only [absOK,Bool.and_eq_true,w4] at h
 obtain ⟨h1,h2,h3⟩:=h
 have hr:=s8.mp h1
 have hk1:=h3 k hk
 simp only [a0E,Bool.and_eq_true] at hk1
 obtain ⟨h4,h5⟩:=b0H hk1.2.1
 refine ⟨h5,λj hj=>?_,λj h0 hj=>?_⟩
 ·have:=(R2.mp (h4 j hj)).1
  exact ⟨this,(hr.2.2 _ J).1⟩
 ·rcases (R2.mp (h4 j hj)).2.2 with g | g
  ·omega
  ·exact g
theorem c2L (h:absOK rs a=true) {k:Nat} (hk:k < a.ma.length):IfF (a0p rs a.po k (B8 rs (a.st.getD k default)) 8):=by
 have hs:=a7d h hk
 have hr:=(s8.mp (by simp only [absOK,Bool.and_eq_true] at h;exact h.1)).2.2
 have:=hs.take (n:=(a.st.getD k default).length) (Nat.le_refl _)
 rw [List.take_length] at this
 exact a9Q this (λi hi=>(hr i hi).1) 8 (Nat.le_refl _)
theorem a8Y:SmallM (moT rs a).1:=by
 cases h:absOK rs a
 ·rw [b2S h];exact b31
 ·rw [b0T h]
  have hF:=a9w h
  have hl:((List.range a.ma.length).map (moI rs a)).length=a.ma.length:=by rw [List.length_map,List.length_range]
  have h1:=hF.n
  have h2:=hF.rn
  have h3:=hF.en
  have h4:=hF.ra
  refine ⟨by show rs.length<=_;omega,by show a.en.length<=_;omega,by show a.ra.length<=_;omega,by show ((List.range a.ma.length).map (moI rs a)).length<=_;omega,?_⟩
  show sumI ((List.range a.ma.length).map (moI rs a)) ((List.range a.ma.length).map (moI rs a)).length<=_
  have key:∀i,i<=a.ma.length→sumI ((List.range a.ma.length).map (moI rs a)) i<=16 * i:=by
   intro i
   induction i with
   | zero=>intro _;exact Int.le_refl _
   | succ i ih =>
    intro hi
    rw [a0b]
    have:=ih J
    have e:((List.range a.ma.length).map (moI rs a)).getD i default=moI rs a i:=by
     grind
    rw [e]
    have hI:=c2L h (show i < a.ma.length by omega)
    have q1:=hI.sn
    have q2:=hI.qu.sl.len
    have q3:=hI.qu.wn8
    have:szI (moI rs a i)<=16:=by
     unfold szI moI
     dsimp only
     omega
    push_cast
    omega
  grind
end Go.Rf
namespace Go.Rf
section
variable {q:Que} {irq p lim:Int} {x:Ifc}
theorem b1Z (h:0<=n8 q.sl irq):a4p q irq p=⟨ptS q.sl irq,q.wa⟩:=by unfold a4p;rw [if_pos h]
theorem b10 (h:n8 q.sl irq < 0) (h2:inW q.wa irq < 0):a4p q irq p=⟨q.sl,insW q.wa ⟨irq,p⟩⟩:=by unfold a4p;rw [if_neg J,if_neg J]
theorem b11 (h:n8 q.sl irq < 0) (h2:0<=inW q.wa irq):a4p q irq p=q:=by unfold a4p;rw [if_neg J,if_pos h2]
def a9S (q:Que) (lim:Int):Que×Int×Bool:=if U4 q.sl lim then (a23 q,tkI q.sl,true) else (⟨[],[]⟩,0,false)
theorem b12 (h:U4 q.sl lim=true):a9S q lim=(a23 q,tkI q.sl,true):=by unfold a9S;rw [h];rfl
theorem b5h (h:U4 q.sl lim=false):a9S q lim=(⟨[],[]⟩,0,false):=by unfold a9S;rw [h];rfl
theorem b8k {sl:List Slot}:(tkT sl lim).2.2=U4 sl lim:=by
 cases h:U4 sl lim
 ·rw [b45 h]
 ·rw [b2F h]
theorem b5i:(a9S q lim).2.2=U4 q.sl lim:=by
 cases h:U4 q.sl lim
 ·rw [b5h h]
 ·rw [b12 h]
def b33 (x:Ifc):Int:=min x.ma (a5g x)
def okT (x:Ifc):Bool:=U4 x.qu.sl (b33 x)
def noI:Ifc:=⟨0,[],⟨[],[]⟩⟩
def R6 (x:Ifc):Ifc×Int×Bool:=if okT x then (a1H x,tkI x.qu.sl,true) else (noI,0,false)
theorem a7e (h:okT x=true):R6 x=(a1H x,tkI x.qu.sl,true):=by unfold R6;rw [h];rfl
theorem b2T (h:okT x=false):R6 x=(noI,0,false):=by unfold R6;rw [h];rfl
theorem b13 {sl:List Slot} (h:SlF sl) (hb:0<=bstS sl true):0<=tkI sl/\tkI sl<=7:=by
 obtain ⟨k,e1,e2,e3⟩:=B7 hb
 unfold tkI
 rw [e1,Int.toNat_natCast]
 exact (h.ok k (by rw [← h.len];exact e2) J).2.1
theorem b2U {sl:List Slot} (h:(sl.getD (n8 sl irq).toNat default).s=2):ptS sl irq=sl.set (n8 sl irq).toNat ⟨3,(sl.getD (n8 sl irq).toNat default).q,(sl.getD (n8 sl irq).toNat default).p⟩:=by unfold ptS;rw [if_pos h]
theorem b0U {sl:List Slot} (h:¬ (sl.getD (n8 sl irq).toNat default).s=2):ptS sl irq=sl.set (n8 sl irq).toNat ⟨(sl.getD (n8 sl irq).toNat default).s,(sl.getD (n8 sl irq).toNat default).q,(sl.getD (n8 sl irq).toNat default).p⟩:=by unfold ptS;rw [if_neg h]
end
end Go.Rf
namespace Go.Rf
open Go
theorem b0V {α β:Type} {f:α→β} {k:Nat} {x:α} {y:β} (h:f x=y):(List.replicate k x).map f++[y]=(List.replicate (k+1) x).map f:=by
 subst h
 rw [List.replicate_succ',List.map_append]
 rfl
end Go.Rf
namespace Go.Rf
theorem b7q {α β:Type} [Inhabited α] {g:Nat→α} {f:α→β} {n k:Nat} {x:α} (h:k < n):((over g (List.replicate n x) k).map f)[k]?=some (f x):=by
 grind [over]
theorem b2V {α β:Type} [Inhabited α] {g:Nat→α} {f:α→β} {n k:Nat} {x:α} (h:k<=n):((over g (List.replicate n x) k).map f).length=n:=by
 grind [b4x]
theorem b7r {α β:Type} [Inhabited α] {g:Nat→α} {f:α→β} {n k:Nat} {x:α} {y:β} (h:k < n) (hy:y=f (g k)):((over g (List.replicate n x) k).map f).set k y=(over g (List.replicate n x) (k+1)).map f:=by
 grind [b4y]
theorem b7s {α:Type} [Inhabited α] {g:Nat→α} {n:Nat} {x:α}:over g (List.replicate n x) n=(List.range n).map g:=by
 grind [over]
end Go.Rf
namespace Go.Rf
open Go
variable {l:List Wtr} {x:Wtr}
def srtW (l:List Wtr):List Wtr:=l.foldl insW []
def b0W (l:List Wtr):Prop:=l.Pairwise (λa b=>a.q≠b.q)
theorem a8Z:srtW (l++[x])=insW (srtW l) x:=by simp [srtW,List.foldl_append]
theorem a80:∀{l acc:List Wtr},x∈l.foldl insW acc↔x∈acc∨x∈l
 | [],acc=>by simp
 | y :: l,acc=>by
  rw [List.foldl_cons,a80,a1F,List.mem_cons]
  grind
theorem a81:∀{l acc:List Wtr},(l.foldl insW acc).length=acc.length+l.length
 | [],acc=>by simp
 | y :: l,acc=>by rw [List.foldl_cons,a81,a5a,List.length_cons];omega
theorem b0X:∀{l acc:List Wtr},acc.Pairwise ltW→b0W l→(∀a∈acc,∀b∈l,a.q≠b.q)→(l.foldl insW acc).Pairwise ltW
 | [],acc,h,_,_=>h
 | y :: l,acc,h,hd,hx=>by
  obtain ⟨h1,h2⟩:=List.pairwise_cons.mp hd
  rw [List.foldl_cons]
  refine b0X (a9K h λa ha=>hx a ha y (by simp)) h2 λa ha b hb=>?_
  rcases a1F.mp ha with rfl | ha
  ·exact h1 b hb
  ·exact hx a ha b (by simp [hb])
theorem b0Y:(srtW l).length=l.length:=by unfold srtW;rw [a81];simp
theorem b0Z:x∈srtW l↔x∈l:=by unfold srtW;rw [a80];simp
theorem b7t (h:b0W l):(srtW l).Pairwise ltW:=b0X List.Pairwise.nil h (λa ha=>by cases ha)
theorem b5j {acc:List Wtr} {w:Wtr} (h:∀a∈acc,lessW a w=true):insW acc w=acc++[w]:=by
 rw [a5b (i:=acc.length) (λj hj=>h _ (f8.mpr ⟨j,hj,Z⟩)) (Nat.le_refl _) (.inl Z)]
 simp
theorem a5h:∀{l acc:List Wtr},(acc++l).Pairwise ltW→l.foldl insW acc=acc++l
 | [],acc,_=>by simp
 | y :: l,acc,h=>by
  rw [List.foldl_cons,b5j (λa ha=>((List.pairwise_append.mp h).2.2 a ha y (by simp)).1)]
  rw [a5h (by simpa using h)]
  simp
theorem b00 (h:l.Pairwise ltW):srtW l=l:=by unfold srtW;rw [a5h (by simpa using h)];rfl
def a2f (P:List Wtr) (x:Wtr) (R:List Wtr) (j:Nat):List Wtr:=P.take j++x :: (P.drop j++R)
section
variable {P R:List Wtr} {x:Wtr} {j:Nat}
theorem a25 (h:j<=P.length):(a2f P x R j).length=P.length+1+R.length:=by
 unfold a2f
 simp
 omega
theorem b7u (h:j<=P.length):(a2f P x R j).getD j default=x:=by
 grind [a2f]
theorem b5k {t:Nat} (h:t < j) (hj:j<=P.length):(a2f P x R j).getD t default=P.getD t default:=by
 unfold a2f
 grind
theorem b5l:a2f P x R P.length=P++x :: R:=by unfold a2f;simp
theorem b34 {β:Type} {f:Wtr→β} (h0:0 < j) (hj:j<=P.length):(((a2f P x R j).map f).set j (f (P.getD (j - 1) default))).set (j - 1) (f x)=(a2f P x R (j - 1)).map f:=by
 have hlt:j - 1 < P.length:=by omega
 have h1:P.take j=P.take (j - 1)++[P.getD (j - 1) default]:=by
  (simp_all;omega)
 have h2:P.drop (j - 1)=P.getD (j - 1) default :: P.drop j:=by
  rw [List.drop_eq_getElem_cons hlt,show j - 1+1=j by omega,List.getD_eq_getElem?_getD,List.getElem?_eq_getElem hlt]
  rfl
 rw [← List.map_set,← List.map_set]
 congr 1
 unfold a2f
 grind
theorem b01 (hj:j<=P.length) (hs:P.Pairwise ltW) (hd:∀p∈P,p.q≠x.q) (h1:∀t,j<=t→t < P.length→lessW x (P.getD t default)=true) (h2:j=0∨lessW x (P.getD (j - 1) default)=false):a2f P x R j=insW P x++R:=by
 have hp:=a3D.mp hs
 have hh:∀t,t < j→lessW (P.getD t default) x=true:=λt ht=>by
  have hl:lessW (P.getD (j - 1) default) x=true:=by
   grind [a0a]
  rcases Nat.lt_or_ge t (j - 1) with g | g
  ·exact L2 (hp t (j - 1) g J).1 hl
  grind
 have he:j=P.length∨(j < P.length/\lessW (P.getD j default) x=false):=by
  grind [b1M]
 rw [a5b hh hj he]
 unfold a2f;simp
end
def a6N (d:List Wtr) (i:Nat):List Wtr:=srtW (d.take i)++d.drop i
section
variable {d:List Wtr} {i:Nat}
theorem c1b (h:0 < d.length):a6N d 1=d:=by
 match d,h with
 | x :: d,_=>simp [a6N,srtW,insW,b1T]
theorem c1c (h:d.length=0):a6N d 1=d:=by
 match d,h with
 | [],_=>rfl
theorem c1d:a6N d 1=d:=by
 grind [c1c,c1b]
theorem b5m (h:d.length<=i):a6N d i=srtW d:=by unfold a6N;rw [List.take_of_length_le h,List.drop_of_length_le h,List.append_nil]
theorem b5n (h:i < d.length):a6N d i=a2f (srtW (d.take i)) (d.getD i default) (d.drop (i+1)) i:=by
 have hl:(srtW (d.take i)).length=i:=by rw [b0Y,List.length_take];omega
 conv=>rhs;rw [← hl]
 unfold a6N
 rw [hl]
 have e:=@b5l (srtW (d.take i)) (d.drop (i+1)) (d.getD i default)
 simp_all
theorem a82 (h:i < d.length):a6N d (i+1)=insW (srtW (d.take i)) (d.getD i default)++d.drop (i+1):=by
 unfold a6N
 rw [List.take_add_one,List.getElem?_eq_getElem h,List.getD_eq_getElem?_getD,List.getElem?_eq_getElem h]
 show srtW (d.take i++[d[i]])++_=_
 rw [a8Z]
 rfl
structure MovF (d:List Wtr) (i:Nat):Prop where
 len:(srtW (d.take i)).length=i
 pw:(srtW (d.take i)).Pairwise ltW
 dif:∀p∈srtW (d.take i),p.q≠(d.getD i default).q
theorem c4k (hd:b0W d) (h:i < d.length):MovF d i:=by
 refine ⟨by rw [b0Y,List.length_take];omega,b7t (List.Pairwise.sublist (List.take_sublist _ _) hd),λp hp=>?_⟩
 obtain ⟨t,ht,rfl⟩:=f8.mp (b0Z.mp hp)
 rw [List.length_take] at ht
 rw [a1E J]
 exact (a3D.mp hd) t i J h
end
def pnP (x:Slot):Bool:=decide (x.s=1) || decide (x.s=3)
theorem B4 {x:Slot}:pnP x=true↔x.s=1∨x.s=3:=by simp [pnP]
def pnL (q:Que):Nat→List Wtr
 | 0=>q.wa
 | i+1=>if pnP (q.sl.getD i default) then pnL q i++[wOf (q.sl.getD i default)] else pnL q i
def pnS (q:Que):Nat→List Wtr
 | 0=>q.wa
 | i+1=>if pnP (q.sl.getD i default) then insW (pnS q i) (wOf (q.sl.getD i default)) else pnS q i
section
variable {q:Que} {i:Nat}
theorem b5o (h:(q.sl.getD i default).s=1∨(q.sl.getD i default).s=3):pnL q (i+1)=pnL q i++[wOf (q.sl.getD i default)]:=by
 show (if pnP _ then _ else _)=_
 rw [if_pos (B4.mpr h)]
theorem c2M (h:¬ ((q.sl.getD i default).s=1∨(q.sl.getD i default).s=3)):pnL q (i+1)=pnL q i:=by
 show (if pnP _ then _ else _)=_
 rw [if_neg (λg=>h (B4.mp g))]
theorem a83 (h:(q.sl.getD i default).s=1∨(q.sl.getD i default).s=3):pnS q (i+1)=insW (pnS q i) (wOf (q.sl.getD i default)):=by
 show (if pnP _ then _ else _)=_
 rw [if_pos (B4.mpr h)]
theorem b8l (h:¬ ((q.sl.getD i default).s=1∨(q.sl.getD i default).s=3)):pnS q (i+1)=pnS q i:=by
 show (if pnP _ then _ else _)=_
 rw [if_neg (λg=>h (B4.mp g))]
theorem b14 (h:QF q):∀i,srtW (pnL q i)=pnS q i
 | 0=>b00 h.pw
 | i+1=>by
  have ih:=b14 h i
  show srtW (if pnP _ then _ else _)=(if pnP _ then _ else _)
  split
  ·rw [a8Z,ih]
  ·exact ih
theorem a9T:∀i,(pnL q i).length<=q.wa.length+i
 | 0=>Nat.le_refl _
 | i+1=>by
  have ih:=@a9T i
  show (if pnP _ then _ else _:List Wtr).length<=_
  split
  ·rw [List.length_append,List.length_cons,List.length_nil];omega
  ·omega
theorem a5i:∀i,(pnS q i).length<=q.wa.length+i
 | 0=>Nat.le_refl _
 | i+1=>by
  have ih:=@a5i i
  show (if pnP _ then _ else _:List Wtr).length<=_
  split
  ·rw [a5a];omega
  ·omega
theorem a7f:∀i,x∈pnL q i→x∈q.wa∨∃j,j < i/\(q.sl.getD j default).s≠0/\x=wOf (q.sl.getD j default)
 | 0,h=>.inl h
 | i+1,h=>by
  change x∈(if pnP _ then _ else _:List Wtr) at h
  split at h
  ·next hp =>
   rcases List.mem_append.mp h with h | h
   ·rcases a7f i h with g | ⟨j,g1,g2,g3⟩
    ·exact .inl g
    ·exact .inr ⟨j,by omega,g2,g3⟩
   ·refine .inr ⟨i,by omega,?_,List.mem_singleton.mp h⟩
    rcases B4.mp hp with g | g<;>omega
  ·rcases a7f i h with g | ⟨j,g1,g2,g3⟩
   ·exact .inl g
   ·exact .inr ⟨j,by omega,g2,g3⟩
theorem b2W (h:QF q):∀i,i<=4→b0W (pnL q i)
 | 0,_=>h.pw.imp λh=>h.2
 | i+1,hi=>by
  have ih:=b2W h i J
  show b0W (if pnP _ then _ else _)
  split
  ·next hp =>
   have h0:(q.sl.getD i default).s≠0:=by rcases B4.mp hp with g | g<;>omega
   refine List.pairwise_append.mpr ⟨ih,List.pairwise_singleton _ _,λa ha b hb=>?_⟩
   rw [List.mem_singleton.mp hb]
   show a.q≠(q.sl.getD i default).q
   rcases a7f i ha with g | ⟨j,g1,g2,rfl⟩
   ·exact λe=>(h.wa a g).2.2 _ (f8.mpr ⟨i,by rw [h.sl.len];omega,Z⟩) h0 e.symm
   ·exact h.sl.dif j i g1 J g2 h0
  ·exact ih
theorem a9U (h:QF q) {x:Wtr}:x∈pnS q i↔x∈pnL q i:=by rw [← b14 h,b0Z]
theorem c2N (h:QF q) {x:Wtr} (hi:i<=4) (hx:x∈pnL q i):0<=x.q/\x.q<=7:=by
 rcases a7f i hx with g | ⟨j,g1,g2,rfl⟩
 ·exact (h.wa x g).1
 ·exact (h.sl.ok j J g2).2.1
end
def G3 (q:Que):List Int:=(pnS q 4).map (·.q)
theorem a9V {q:Que} (h:QF q) {i:Nat} (hi:i < (G3 q).length):0<=(G3 q).getD i default/\(G3 q).getD i default<=7:=by
 unfold G3 at hi ⊢
 rw [List.length_map] at hi
 rw [I8 hi]
 exact c2N h (Nat.le_refl _) ((a9U h).mp (f8.mpr ⟨i,hi,Z⟩))
theorem b02 {q:Que} (h:QF q):(G3 q).length<=12:=by
 unfold G3
 rw [List.length_map]
 have:=@a5i q 4
 have:=h.wn8
 omega
end Go.Rf
namespace Go.Rf
section
variable {P R:List Wtr} {x:Wtr} {j:Nat} {β:Type} {f:Wtr→β} {c:β}
theorem b7v {α:Type} [Inhabited α] {g:α→β} {l:List α} {i:Nat} (h:i < l.length):(l.map g)[i]?=some (g (l.getD i default)):=by
 grind
theorem V9 (h:j<=P.length):((a2f P x R j).map f)[((j:Int)).toNat]?=some (f x):=by
 grind [a25,b7u]
theorem Z2 (h0:0 < j) (h:j<=P.length):((a2f P x R j).map f)[((j:Int) - 1).toNat]?=some (f (P.getD (j - 1) default)):=by
 rw [show ((j:Int) - 1).toNat=j - 1 by omega]
 rw [b7v (by rw [a25 h];omega),b5k J h]
theorem a0W (h0:0 < j) (h:j<=P.length):(((a2f P x R j).map f).set ((j:Int)).toNat c)[((j:Int) - 1).toNat]?=some (f (P.getD (j - 1) default)):=by
 rw [← Z2 (f:=f) (x:=x) (R:=R) h0 h]
 show (((a2f P x R j).map f).set j c)[((j:Int) - 1).toNat]?=_
 rw [List.getElem?_set_ne J]
end
variable {i:Nat}
theorem b03 {α β:Type} [Inhabited α] {f:α→β} {l:List α} {i:Nat} {y:β} (h:i < l.length) (hy:y=f (l.getD i default)):(l.take i).map f++[y]=(l.take (i+1)).map f:=by
 subst hy
 rw [List.take_add_one,List.getElem?_eq_getElem h,List.map_append,List.getD_eq_getElem?_getD,List.getElem?_eq_getElem h]
 rfl
theorem c1e {q:Que} (h:i < (pnS q 4).length):(G3 q).getD i default=((pnS q 4).getD i default).q:=by unfold G3;rw [I8 h]
theorem b2X {q:Que}:(G3 q).length=(pnS q 4).length:=by unfold G3;rw [List.length_map]
theorem b5p {q:Que} (h:i < (pnS q 4).length):((G3 q).take i).map l8++[[Value.int .i64 ((pnS q 4).getD i default).q]]=((G3 q).take (i+1)).map l8:=b03 (by rw [b2X];exact h) (by rw [c1e h];rfl)
theorem b2Y {q:Que} (h:(pnS q 4).length<=i):(G3 q).take i=G3 q:=List.take_of_length_le (by rw [b2X];exact h)
end Go.Rf
namespace Go.Rf
open Go
variable {l:List Int} {n x:Int} {w:Wtr}
theorem a0X {a b:List Int}:srtI a=srtI b↔a.Perm b:=by
 constructor
 ·intro h
  exact (a3x a).symm.trans (h▸a3x b)
 ·intro h
  have hp:∀l:List Int,(srtI l).Pairwise (λx y=>decide (x<=y)=true):=λl=>List.pairwise_mergeSort (λa b c h1 h2=>by simp at *;omega) (λa b=>by simp;omega) l
  exact List.Perm.eq_of_pairwise (λx y _ _ h1 h2=>by simp at *;omega) (hp a) (hp b) ((a3x a).trans (h.trans (a3x b).symm))
theorem a9W {α:Type} [BEq α] [LawfulBEq α]:∀{a b:List α},a.Nodup→(∀x∈a,x∈b)→b.length<=a.length→a.Perm b
 | [],b,_,_,hl=>by
  have:b=[]:=List.eq_nil_of_length_eq_zero (by simpa using hl)
  rw [this]
 | x :: a,b,hn,hs,hl=>by
  obtain ⟨h1,h2⟩:=List.nodup_cons.mp hn
  have hx:x∈b:=hs x (by simp)
  refine List.Perm.trans ?_ (List.perm_cons_erase hx).symm
  refine List.Perm.cons x (a9W h2 (λy hy=>?_) ?_)
  ·have hne:y≠x:=λe=>h1 (e▸hy)
   exact (List.mem_erase_of_ne hne).mpr (hs y (by simp [hy]))
  ·rw [List.length_erase_of_mem hx]
   simp only [List.length_cons] at hl
   omega
def actN (sl:List Slot):Nat→List Int
 | 0=>[]
 | i+1=>if N2 (sl.getD i default) then actN sl i++[(sl.getD i default).q] else actN sl i
def a9X (l:List Int) (n:Int):List Int:=l.takeWhile (λx=>decide (x < n))++[n]++l.dropWhile (λx=>decide (x < n))
def a5Z (sl:List Slot):Nat→List Int
 | 0=>[]
 | i+1=>if N2 (sl.getD i default) then a9X (a5Z sl i) (sl.getD i default).q else a5Z sl i
section
variable {sl:List Slot} {i:Nat}
theorem b5q (h:N2 (sl.getD i default)=true):actN sl (i+1)=actN sl i++[(sl.getD i default).q]:=by show (if _ then _ else _)=_;rw [if_pos h]
theorem c1f (h:N2 (sl.getD i default)=false):actN sl (i+1)=actN sl i:=by show (if _ then _ else _)=_;rw [if_neg (by rw [h];decide)]
theorem b5r (h:(sl.getD i default).s=2∨(sl.getD i default).s=3):a5Z sl (i+1)=a9X (a5Z sl i) (sl.getD i default).q:=by show (if _ then _ else _)=_;rw [if_pos (r4.mpr h)]
theorem b5s (h:¬ ((sl.getD i default).s=2∨(sl.getD i default).s=3)):a5Z sl (i+1)=a5Z sl i:=by show (if _ then _ else _)=_;rw [if_neg (λg=>h (r4.mp g))]
theorem W0:∀i,(actN sl i).length<=i
 | 0=>Nat.le_refl _
 | i+1=>by
  have ih:=@W0 i
  show (if _ then _ else _:List Int).length<=_
  split
  ·rw [List.length_append,List.length_cons,List.length_nil];omega
  ·omega
theorem b5t:x∈a9X l n↔x=n∨x∈l:=by
 have h:=List.takeWhile_append_dropWhile (p:=λx=>decide (x < n)) (l:=l)
 have:x∈l↔x∈l.takeWhile (λx=>decide (x < n))∨x∈l.dropWhile (λx=>decide (x < n)):=by
  grind
 unfold a9X
 grind
theorem b5u:(a9X l n).length=l.length+1:=by
 have h:=congrArg List.length (List.takeWhile_append_dropWhile (p:=λx=>decide (x < n)) (l:=l))
 unfold a9X
 grind
theorem b7w {k:Nat} (h:∀j,j < k→l.getD j default < n) (hk:k<=l.length) (he:k=l.length∨(k < l.length/\¬ l.getD k default < n)):a9X l n=l.take k++[n]++l.drop k:=by
 have key:l.takeWhile (λx=>decide (x < n))=l.take k/\l.dropWhile (λx=>decide (x < n))=l.drop k:=by
  induction l generalizing k with
  | nil=>simp at hk;subst hk;exact ⟨Z,Z⟩
  | cons x l ih =>
   cases k with
   | zero =>
    rcases he with he | ⟨_,he⟩
    ·simp at he
    ·have he:¬ x < n:=he
     simp [he]
   | succ k =>
    have h0:x < n:=h 0 J
    obtain ⟨e1,e2⟩:=ih (k:=k) (λj hj=>by simpa using h (j+1) J) (by simpa using hk) (by
     rcases he with he | ⟨g1,g2⟩
     ·left;simpa using he
     ·right;exact ⟨by simpa using g1,by simpa using g2⟩)
    simp [h0,e1,e2]
 unfold a9X
 rw [key.1,key.2]
theorem a5j {x:Int}:∀i,x∈a5Z sl i↔x∈actN sl i
 | 0=>Iff.rfl
 | i+1=>by
  have ih:=@a5j x i
  show x∈(if _ then _ else _:List Int)↔x∈(if _ then _ else _:List Int)
  split
  ·rw [b5t,List.mem_append,List.mem_singleton,ih];exact Or.comm
  ·exact ih
theorem a5k:∀i,(a5Z sl i).length=(actN sl i).length
 | 0=>rfl
 | i+1=>by
  have ih:=@a5k i
  show (if _ then _ else _:List Int).length=(if _ then _ else _:List Int).length
  split
  ·rw [b5u,List.length_append,ih];rfl
  ·exact ih
theorem L4 {x:Int}:∀i,x∈actN sl i↔∃j,j < i/\N2 (sl.getD j default)=true/\(sl.getD j default).q=x
 | 0=>by simp [actN]
 | i+1=>by
  have ih:=@L4 x i
  show x∈(if _ then _ else _:List Int)↔_
  split
  ·next h =>
   rw [List.mem_append,List.mem_singleton,ih]
   constructor
   ·rintro (⟨j,h1,h2⟩ | rfl)
    ·exact ⟨j,by omega,h2⟩
    ·exact ⟨i,by omega,h,Z⟩
   ·rintro ⟨j,h1,h2,h3⟩
    by_cases e:j=i
    ·subst e;exact .inr h3.symm
    ·exact .inl ⟨j,by omega,h2,h3⟩
  ·next h =>
   rw [ih]
   constructor
   ·rintro ⟨j,h1,h2⟩;exact ⟨j,by omega,h2⟩
   ·rintro ⟨j,h1,h2,h3⟩
    by_cases e:j=i
    ·subst e;exact absurd h2 h
    ·exact ⟨j,by omega,h2,h3⟩
theorem a3F (h:SlF sl):∀i,i<=4→(actN sl i).Nodup
 | 0,_=>List.nodup_nil
 | i+1,hi=>by
  have ih:=a3F h i J
  show (if _ then _ else _:List Int).Nodup
  split
  ·next ha =>
   refine List.nodup_append.mpr ⟨ih,List.nodup_cons.mpr ⟨by simp,List.nodup_nil⟩,λx hx y hy e=>?_⟩
   rw [List.mem_singleton.mp hy] at e
   obtain ⟨j,h1,h2,h3⟩:=(L4 i).mp hx
   refine h.dif j i h1 J ?_ ?_ (h3.trans e)
   ·rcases r4.mp h2 with g | g<;>omega
   ·rcases r4.mp ha with g | g<;>omega
  ·exact ih
theorem b7x (h:SlF sl) (hi:i < 4) (ha:N2 (sl.getD i default)=true) {x:Int} (hx:x∈a5Z sl i):x≠(sl.getD i default).q:=λe=>by
 obtain ⟨j,h1,h2,h3⟩:=(L4 i).mp ((a5j i).mp hx)
 refine h.dif j i h1 hi ?_ ?_ (h3.trans e)
 ·rcases r4.mp h2 with g | g<;>omega
 ·rcases r4.mp ha with g | g<;>omega
end
def lvD (sl:List Slot) (st:List Int) (i:Nat):Bool:=decide (i=0) || decide (lvl sl (st.getD i default) < lvl sl (st.getD (i - 1) default))
def a3J (sl:List Slot) (st:List Int):Bool:=decide (srtI st=srtI (actN sl 4)) && X7 st.length (lvD sl st)
def a1g (x:Ifc):Bool:=s1 x.ma 0 16 && (a8m x.qu && a3J x.qu.sl x.st)
section
variable {sl:List Slot} {st:List Int} {i:Nat}
theorem a9Y (h:¬ srtI st=srtI (actN sl 4)):a3J sl st=false:=by unfold a3J;rw [decide_eq_false h,Bool.false_and]
theorem b5v (h:lvD sl st i=false) (hi:i < st.length):a3J sl st=false:=by unfold a3J;rw [X8 h hi,Bool.and_false]
theorem b5w (h:srtI st=srtI (actN sl 4)) (h2:∀j,j < i→lvD sl st j=true) (hi:st.length<=i):a3J sl st=true:=by unfold a3J;rw [decide_eq_true h,a1a h2 hi];rfl
theorem b5x:lvD sl st 0=true:=rfl
theorem b5y (h:lvl sl (st.getD i default) < lvl sl (st.getD (i - 1) default)):lvD sl st i=true:=by unfold lvD;rw [decide_eq_true h,Bool.or_true]
theorem b8m (h0:i≠0) (h:¬ lvl sl (st.getD i default) < lvl sl (st.getD (i - 1) default)):lvD sl st i=false:=by unfold lvD;rw [decide_eq_false h,decide_eq_false h0];rfl
theorem b15 (h:x∈actN sl 4) (hl:sl.length=4):0<=n8 sl x:=by
 obtain ⟨j,h1,h2,h3⟩:=(L4 4).mp h
 refine a2e ⟨wOf (sl.getD j default),v7.mpr ⟨sl.getD j default,f8.mpr ⟨j,by omega,Z⟩,h2,Z⟩,h3⟩
theorem b16 (h:srtI st=srtI (actN sl 4)) {x:Int} (hx:x∈st):x∈actN sl 4:=(a0X.mp h).mem_iff.mp hx
structure StP (sl:List Slot) (st:List Int) (i:Nat):Prop where
 inn:∀j,j < i→st.getD j default∈actN sl 4
 dif:∀k j,k < j→j < i→st.getD k default≠st.getD j default
 lev:∀j,j < i→lvD sl st j=true
theorem c2O:StP sl st 0:=⟨λj h=>by omega,λk j _ h=>by omega,λj h=>by omega⟩
theorem StP.succ (h:StP sl st i) (h1:st.getD i default∈actN sl 4) (h2:∀k,k < i→st.getD k default≠st.getD i default) (h3:lvD sl st i=true):StP sl st (i+1):=by
 refine ⟨λj hj=>?_,λk j hk hj=>?_,λj hj=>?_⟩
 ·by_cases e:j=i
  ·subst e;exact h1
  ·exact h.inn j J
 ·by_cases e:j=i
  ·subst e;exact h2 k hk
  ·exact h.dif k j hk J
 ·by_cases e:j=i
  ·subst e;exact h3
  ·exact h.lev j J
theorem a7g:l.Nodup↔∀k j,k < j→j < l.length→l.getD k default≠l.getD j default:=a3D
theorem StP.fin (hF:SlF sl) (h:StP sl st st.length):a3J sl st=decide (st.length=(actN sl 4).length):=by
 by_cases hl:st.length=(actN sl 4).length
 ·rw [decide_eq_true hl]
  have hn:st.Nodup:=a7g.mpr h.dif
  have hp:=a9W hn (λx hx=>by obtain ⟨j,hj,rfl⟩:=f8.mp hx;exact h.inn j hj) J
  exact b5w (a0X.mpr hp) h.lev (Nat.le_refl _)
 ·rw [decide_eq_false hl]
  exact a9Y λe=>hl (a0X.mp e).length_eq
theorem b7y (hi:i < st.length) (h:¬ st.getD i default∈actN sl 4):a3J sl st=false:=a9Y λe=>h (b16 e (f8.mpr ⟨i,hi,Z⟩))
theorem b5z (hF:SlF sl) {k:Nat} (hk:k < i) (hi:i < st.length) (h:st.getD k default=st.getD i default):a3J sl st=false:=a9Y λe=>by
 have hn:st.Nodup:=(a0X.mp e).nodup_iff.mpr (a3F hF 4 (Nat.le_refl _))
 exact a7g.mp hn k i hk hi h
end
theorem a9Z {x:Ifc} (h:a1g x=true):IfF x/\setd x.qu=true/\(0<=x.ma/\x.ma<=16)/\srtI x.st=srtI (actN x.qu.sl 4):=by
 simp only [a1g,a3J,Bool.and_eq_true,decide_eq_true_eq] at h
 obtain ⟨h1,h2,h3,h4⟩:=h
 obtain ⟨g1,g2⟩:=a5d.mp h2
 refine ⟨⟨g1,?_,λq hq=>?_⟩,g2,s7.mp h1,h3⟩
 ·rw [(a0X.mp h3).length_eq];exact W0 4
 ·obtain ⟨j,h1,h2,h3⟩:=(L4 4).mp (b16 h3 hq)
  exact ⟨wOf (x.qu.sl.getD j default),v7.mpr ⟨_,f8.mpr ⟨j,by rw [g1.sl.len];exact h1,Z⟩,h2,Z⟩,h3⟩
def rtW (rs:List Route) (k:Nat) (w:Wtr):Bool:=decide (tgI rs w.q=k) && decide (prI rs w.q=w.p)
def rtS (rs:List Route) (k:Nat) (x:Slot):Bool:=!decide (x.s=3) && (decide (x.s=0) || rtW rs k (wOf x))
def okRq (rs:List Route) (q:Que) (k:Nat):Bool:=X7 4 (λi=>rtS rs k (q.sl.getD i default)) && X7 q.wa.length (λi=>rtW rs k (q.wa.getD i default))
def a5l (m:Mach) (k:Nat):Bool:=a1g (m.cp.getD k default) && okRq m.rs (m.cp.getD k default).qu k
def okMa (m:Mach):Bool:=okRts m.rs m.cp.length && (decide (m.en.length=8) && (decide (m.ra.length=8) && X7 m.cp.length (a5l m)))
section
variable {rs:List Route} {q:Que} {k i:Nat} {m:Mach}
theorem a0Y:rtW rs k w=true↔tgI rs w.q=k/\prI rs w.q=w.p:=by simp [rtW]
theorem c1g:rtW rs k w=false↔¬ (tgI rs w.q=k/\prI rs w.q=w.p):=by rw [← Bool.not_eq_true,a0Y]
theorem a3G {x:Slot}:rtS rs k x=true↔x.s≠3/\(x.s=0∨(tgI rs x.q=k/\prI rs x.q=x.p)):=by
 grind [rtS,a0Y,wOf]
theorem b5A {x:Slot}:rtS rs k x=false↔¬ (x.s≠3/\(x.s=0∨(tgI rs x.q=k/\prI rs x.q=x.p))):=by rw [← Bool.not_eq_true,a3G]
theorem b5B (h:rtS rs k (q.sl.getD i default)=false) (hi:i < 4):okRq rs q k=false:=by unfold okRq;rw [X8 h hi,Bool.false_and]
theorem c1h (h:rtW rs k (q.wa.getD i default)=false) (hi:i < q.wa.length):okRq rs q k=false:=by unfold okRq;rw [X8 h hi,Bool.and_false]
theorem b5C {j:Nat} (h:∀t,t < i→rtS rs k (q.sl.getD t default)=true) (hi:4<=i) (h2:∀t,t < j→rtW rs k (q.wa.getD t default)=true) (hj:q.wa.length<=j):okRq rs q k=true:=by unfold okRq;rw [a1a h hi,a1a h2 hj];rfl
theorem c1i (h:okRts m.rs m.cp.length=false):okMa m=false:=by unfold okMa;rw [h,Bool.false_and]
theorem c1j (h:¬ (m.en.length=8/\m.ra.length=8)):okMa m=false:=by
 grind [okMa]
theorem b5D (h:a5l m k=false) (hk:k < m.cp.length):okMa m=false:=by unfold okMa;rw [X8 h hk];simp
theorem c1k (h1:okRts m.rs m.cp.length=true) (h2:m.en.length=8) (h3:m.ra.length=8) (h4:∀j,j < k→a5l m j=true) (hk:m.cp.length<=k):okMa m=true:=by unfold okMa;rw [h1,decide_eq_true h2,decide_eq_true h3,a1a h4 hk];rfl
theorem c1l (h:a1g (m.cp.getD k default)=false):a5l m k=false:=by unfold a5l;rw [h,Bool.false_and]
theorem c1m (h:okRq m.rs (m.cp.getD k default).qu k=false):a5l m k=false:=by unfold a5l;rw [h,Bool.and_false]
theorem c1n (h1:a1g (m.cp.getD k default)=true) (h2:okRq m.rs (m.cp.getD k default).qu k=true):a5l m k=true:=by unfold a5l;rw [h1,h2];rfl
end
def ftL (q:Que):Nat→List Wtr
 | 0=>q.wa
 | i+1=>if (q.sl.getD i default).s=0 then ftL q i else ftL q i++[wOf (q.sl.getD i default)]
section
variable {rs:List Route} {q:Que} {k i:Nat}
theorem c2P (h:(q.sl.getD i default).s=0):ftL q (i+1)=ftL q i:=by show (if _ then _ else _)=_;rw [if_pos h]
theorem c2Q (h:¬ (q.sl.getD i default).s=0):ftL q (i+1)=ftL q i++[wOf (q.sl.getD i default)]:=by show (if _ then _ else _)=_;rw [if_neg h]
theorem a90:∀i,(ftL q i).length<=q.wa.length+i
 | 0=>Nat.le_refl _
 | i+1=>by
  have ih:=@a90 i
  show (if _ then _ else _:List Wtr).length<=_
  split
  ·omega
  ·rw [List.length_append,List.length_cons,List.length_nil];omega
theorem a5m {x:Wtr}:∀i,x∈ftL q i↔x∈q.wa∨∃j,j < i/\(q.sl.getD j default).s≠0/\x=wOf (q.sl.getD j default)
 | 0=>by simp [ftL]
 | i+1=>by
  have ih:=@a5m x i
  show x∈(if _ then _ else _:List Wtr)↔_
  split
  ·next h =>
   rw [ih]
   constructor
   ·rintro (h1 | ⟨j,h1,h2⟩)
    ·exact .inl h1
    ·exact .inr ⟨j,by omega,h2⟩
   ·rintro (h1 | ⟨j,h1,h2,h3⟩)
    ·exact .inl h1
    ·by_cases e:j=i
     ·subst e;exact absurd h h2
     ·exact .inr ⟨j,by omega,h2,h3⟩
  ·next h =>
   rw [List.mem_append,List.mem_singleton,ih]
   constructor
   ·rintro ((h1 | ⟨j,h1,h2⟩) | rfl)
    ·exact .inl h1
    ·exact .inr ⟨j,by omega,h2⟩
    ·exact .inr ⟨i,by omega,h,Z⟩
   ·rintro (h1 | ⟨j,h1,h2,h3⟩)
    ·exact .inl (.inl h1)
    ·by_cases e:j=i
     ·subst e;exact .inr h3
     ·exact .inl (.inr ⟨j,by omega,h2,h3⟩)
theorem c1o (h:QF q) {x:Wtr} (hi:i<=4) (hx:x∈ftL q i):0<=x.q/\x.q<=7:=by
 rcases (a5m i).mp hx with g | ⟨j,g1,g2,rfl⟩
 ·exact (h.wa x g).1
 ·exact (h.sl.ok j J g2).2.1
theorem c2R (h3:∀j,j < 4→(q.sl.getD j default).s≠3):(!(a0D (ftL q 4).length (λi=>!rtW rs k ((ftL q 4).getD i default))))=okRq rs q k:=by
 rw [Bool.eq_iff_iff,Bool.not_eq_true',R4]
 constructor
 ·intro h
  have hm:∀x∈ftL q 4,rtW rs k x=true:=λx hx=>by
   obtain ⟨i,hi,rfl⟩:=f8.mp hx
   simpa using h i hi
  refine b5C (i:=4) (j:=q.wa.length) (λt ht=>a3G.mpr ⟨h3 t ht,?_⟩) (Nat.le_refl _) (λt ht=>hm _ ((a5m 4).mpr (.inl (f8.mpr ⟨t,ht,Z⟩)))) (Nat.le_refl _)
  by_cases h0:(q.sl.getD t default).s=0
  ·exact .inl h0
  ·exact .inr (a0Y.mp (hm _ ((a5m 4).mpr (.inr ⟨t,ht,h0,Z⟩))))
 ·intro h i hi
  have hx:(ftL q 4).getD i default∈ftL q 4:=f8.mpr ⟨i,hi,Z⟩
  simp only [okRq,Bool.and_eq_true,w4] at h
  rw [Bool.not_eq_false']
  rcases (a5m 4).mp hx with g | ⟨j,g1,g2,g3⟩
  ·obtain ⟨t,ht,e⟩:=f8.mp g
   rw [← e];exact h.2 t ht
  ·rw [g3]
   rcases (a3G.mp (h.1 j g1)).2 with e | e
   ·exact absurd e g2
   ·exact a0Y.mpr e
end
end Go.Rf
namespace Go.Rf
section
variable {x:Ifc}
theorem b5E (h:s1 x.ma 0 16=false):a1g x=false:=by unfold a1g;rw [h,Bool.false_and]
theorem b5F (h:a8m x.qu=false):a1g x=false:=by unfold a1g;rw [h,Bool.false_and,Bool.and_false]
theorem a7R (h:a3J x.qu.sl x.st=false):a1g x=false:=by unfold a1g;rw [h,Bool.and_false,Bool.and_false]
theorem c1p (h1:s1 x.ma 0 16=true) (h2:a8m x.qu=true) (h3:a3J x.qu.sl x.st=true):a1g x=true:=by unfold a1g;rw [h1,h2,h3];rfl
theorem c1q (h1:s1 x.ma 0 16=true) (h2:a8m x.qu=true):a1g x=a3J x.qu.sl x.st:=by unfold a1g;rw [h1,h2];rfl
end
end Go.Rf
namespace Go.Rf
open Go
variable {i k:Nat} {l:List Int} {m:Mach} {v:Int}
theorem a7S:a48 l v=true↔v∈l:=by
 grind [a48,a1D,f8]
theorem a91:a48 l v=false↔v∉l:=by rw [← Bool.not_eq_true,a7S]
theorem a5n (hi:i<=l.length) {v:Int}:v∈l.take i↔∃k,k < i/\l.getD k default=v:=by
 grind [f8]
theorem c4l {a b:Nat}:((a:Int)==(b:Int))=decide (a=b):=by
 grind
def a92 (po:List Bool) (l:List Int):Nat→List Bool
 | 0=>po
 | i+1=>(a92 po l i).set (l.getD i default).toNat true
theorem N4 {po:List Bool}:a92 po l (i+1)=(a92 po l i).set (l.getD i default).toNat true:=rfl
theorem G4 {po:List Bool} {l:List Int}:∀i,(a92 po l i).length=po.length
 | 0=>rfl
 | i+1=>by rw [N4,List.length_set,G4 i]
def poN (m:Mach):Nat→List Bool
 | 0=>List.replicate 8 false
 | k+1=>a92 (poN m k) (G3 (m.cp.getD k default).qu) (G3 (m.cp.getD k default).qu).length
theorem a5o:poN m (k+1)=a92 (poN m k) (G3 (m.cp.getD k default).qu) (G3 (m.cp.getD k default).qu).length:=rfl
theorem u9 {m:Mach}:∀k,(poN m k).length=8
 | 0=>rfl
 | k+1=>by rw [a5o,G4,u9 k]
def abOf (m:Mach):Abs:=⟨m.en,m.ra,poN m m.cp.length,m.cp.map (·.ma),m.cp.map (·.st)⟩
def abT (m:Mach):Abs×Bool:=if okMa m then (abOf m,true) else (noA,false)
theorem a84 (h:okMa m=true):abT m=(abOf m,true):=by unfold abT;rw [h];rfl
theorem b5G (h:okMa m=false):abT m=(noA,false):=by unfold abT;rw [h];rfl
structure MaF (m:Mach):Prop where
 rt:okRts m.rs m.cp.length=true
 n:1<=m.cp.length/\m.cp.length<=2
 rn:m.rs.length=8
 en:m.en.length=8
 ra:m.ra.length=8
 ok:∀k,k < m.cp.length→IfF (m.cp.getD k default)/\setd (m.cp.getD k default).qu=true/\(0<=(m.cp.getD k default).ma/\(m.cp.getD k default).ma<=16)/\srtI (m.cp.getD k default).st=srtI (actN (m.cp.getD k default).qu.sl 4)
 rq:∀k,k < m.cp.length→okRq m.rs (m.cp.getD k default).qu k=true
theorem maF (h:okMa m=true):MaF m:=by
 simp only [okMa,a5l,Bool.and_eq_true,decide_eq_true_eq,w4] at h
 obtain ⟨h1,h2,h3,h4⟩:=h
 have hr:=s8.mp h1
 exact ⟨h1,by omega,hr.2.1,h2,h3,λk hk=>a9Z (h4 k hk).1,λk hk=>(h4 k hk).2⟩
theorem a50 {m:Mach}:SmallA (abT m).1:=by
 cases h:okMa m
 ·rw [b5G h];exact b3Z
 ·rw [a84 h]
  have hM:=maF h
  have h1:=hM.n
  refine a7H (by show m.en.length<=8;rw [hM.en];exact Nat.le_refl _) (by show m.ra.length<=8;rw [hM.ra];exact Nat.le_refl _) (by show (poN m m.cp.length).length<=8;rw [u9];exact Nat.le_refl _) (by show (m.cp.map (·.ma)).length<=2;rw [List.length_map];omega) (by show (m.cp.map (·.st)).length<=2;rw [List.length_map];omega) (λi hi=>?_)
  have hi:i < (m.cp.map (λx:Ifc=>x.st)).length:=hi
  rw [List.length_map] at hi
  show ((m.cp.map (λx:Ifc=>x.st)).getD i default).length<=5
  rw [I8 (f:=λx:Ifc=>x.st) hi]
  have:=(hM.ok i hi).1.sn
  omega
theorem a2g (h:k < m.cp.length):((m.cp.map (·.ma)).take k).map l8++[[Value.int .i64 (m.cp.getD k default).ma]]=((m.cp.map (·.ma)).take (k+1)).map l8:=b03 (by rw [List.length_map];exact h) (by rw [I8 h];rfl)
theorem a2h (h:k < m.cp.length) {y:List CI} (hy:y=p8 (m.cp.getD k default).st):((m.cp.map (·.st)).take k).map p8++[y]=((m.cp.map (·.st)).take (k+1)).map p8:=b03 (by rw [List.length_map];exact h) (by rw [I8 h];exact hy)
theorem b04 {α β:Type} {l:List α} {f:α→β} (h:l.length<=k):(l.map f).take k=l.map f:=List.take_of_length_le (by rw [List.length_map];exact h)
end Go.Rf
namespace Go.Rf
end Go.Rf
namespace Go.Rf
open Go
variable {i:Nat} {m:Mach} {p:Mach×Abs} {sl:List Slot} {ss:List MStep} {x:Ifc}
theorem a3H {α:Type} [BEq α] [LawfulBEq α]:∀{a b:List α},a.Nodup→(∀x∈a,x∈b)→a.length<=b.length
 | [],b,_,_=>Nat.zero_le _
 | x :: a,b,hn,hs=>by
  obtain ⟨h1,h2⟩:=List.nodup_cons.mp hn
  have hx:x∈b:=hs x (by simp)
  have:=a3H (b:=b.erase x) h2 (λy hy=>(List.mem_erase_of_ne (λe:y=x=>h1 (e▸hy))).mpr (hs y (by simp [hy])))
  grind
theorem b2Z {sl:List Slot} {k:Nat} (h:N2 (sl.getD k default)=false):∀i,k < i→(actN sl i).length < i
 | i+1,hk=>by
  have hl:=@W0 sl i
  show (if _ then _ else _:List Int).length < _
  split
  ·next ha =>
   rw [List.length_append,List.length_cons,List.length_nil]
   have hne:k≠i:=λe=>by subst e;rw [h] at ha;cases ha
   have:=b2Z h i J
   omega
  ·omega
theorem Z3 (hl:sl.length=4) {q:Int}:(∃w∈actL sl,w.q=q)↔q∈actN sl 4:=by
 rw [L4]
 constructor
 ·rintro ⟨w,hw,e⟩
  obtain ⟨x,h1,h2,rfl⟩:=v7.mp hw
  obtain ⟨j,hj,rfl⟩:=f8.mp h1
  exact ⟨j,by omega,h2,e⟩
 ·rintro ⟨j,h1,h2,h3⟩
  exact ⟨wOf (sl.getD j default),v7.mpr ⟨_,f8.mpr ⟨j,by omega,Z⟩,h2,Z⟩,h3⟩
structure IfG (x:Ifc):Prop where
 f:IfF x
 nd:x.st.Nodup
theorem IfG.lt (h:IfG x) (hb:0<=bstS x.qu.sl true):x.st.length < 4:=by
 obtain ⟨k,e1,e2,e3⟩:=B7 hb
 have hl:=h.f.qu.sl.len
 have h1:=a3H h.nd (λq hq=>(Z3 hl).mp (h.f.st q hq))
 have h2:=b2Z (sl:=x.qu.sl) (k:=k) (by rw [← Bool.not_eq_true,r4];omega) 4 J
 omega
theorem b5H {q p:Int} (h:IfG x) (hq:0<=q/\q<=7) (hp:0<=p/\p<=15):IfG (a1f x q p):=⟨a9N h.f hq hp,h.nd⟩
theorem b7z (h:IfG x) (hk:okT x=true):IfG (a1H x):=by
 have hb:=(G2.mp hk).1
 refine ⟨c09 h.f hb (h.lt hb),?_⟩
 obtain ⟨k,e1,e2,e3⟩:=B7 hb
 refine List.nodup_append.mpr ⟨h.nd,List.nodup_cons.mpr ⟨by simp,List.nodup_nil⟩,λa ha b hb e=>?_⟩
 rw [List.mem_singleton.mp hb] at e
 obtain ⟨j,h1,h2,h3⟩:=(L4 4).mp ((Z3 h.f.qu.sl.len).mp (h.f.st a ha))
 have hkq:tkI x.qu.sl=(x.qu.sl.getD k default).q:=by unfold tkI;rw [e1];rfl
 have hne:j≠k:=λee=>by subst ee;rcases r4.mp h2 with g | g<;>omega
 have hj0:(x.qu.sl.getD j default).s≠0:=by rcases r4.mp h2 with g | g<;>omega
 have hl:=h.f.qu.sl.len
 rcases Nat.lt_or_ge j k with g | g
 ·exact h.f.qu.sl.dif j k g J hj0 J (by rw [h3,e,hkq])
 ·exact h.f.qu.sl.dif k j J h1 J hj0 (by rw [h3,e,hkq])
def H3 (x:Ifc):Int:=x.st.getD (x.st.length - 1) default
def a1h (x:Ifc):Ifc:=⟨x.ma,x.st.take (x.st.length - 1),a24 x.qu (H3 x)⟩
theorem a1J (h:x.st.length≠0):H3 x∈x.st:=f8.mpr ⟨x.st.length - 1,by omega,Z⟩
theorem b7A {q:Int} (h:SlF sl) (ha:∃w∈actL sl,w.q=q):N2 (sl.getD (n8 sl q).toNat default)=true:=by
 obtain ⟨k,e1,e2,e3,e4⟩:=a0n (a2e ha)
 obtain ⟨j,h1,h2,h3⟩:=(L4 4).mp ((Z3 h.len).mp ha)
 have hl:=h.len
 have hj0:(sl.getD j default).s≠0:=by rcases r4.mp h2 with g | g<;>omega
 have:j=k:=by
  rcases Nat.lt_trichotomy j k with g | g | g
  ·exact absurd (h3.trans e4.symm) (h.dif j k g J hj0 e3)
  ·exact g
  ·exact absurd (e4.trans h3.symm) (h.dif k j g h1 e3 hj0)
 grind
theorem b7B (h:IfG x) (h0:x.st.length≠0):IfG (a1h x):=by
 have hf:=a2e (h.f.st _ (a1J h0))
 have hQ0:=a5e h.f.qu hf
 obtain ⟨k,e1,e2,e3,e4⟩:=a0n hf
 have hnl:∀y∈x.st.take (x.st.length - 1),y≠H3 x:=λy hy e=>by
  obtain ⟨i,hi,e5⟩:=(a5n J).mp hy
  exact a7g.mp h.nd i (x.st.length - 1) hi J (e5.trans e)
 refine ⟨⟨(b1Y h.f.qu hf).1,by show (x.st.take (x.st.length - 1)).length<=4;have:=h.f.sn;rw [List.length_take];omega,λy hy=>?_⟩,List.Pairwise.sublist (List.take_sublist _ _) h.nd⟩
 show ∃w∈actL (a24 x.qu (H3 x)).sl,w.q=y
 unfold a24
 rw [a7O hQ0]
 show ∃w∈actL (edS x.qu.sl (H3 x)),w.q=y
 obtain ⟨w,hw,e⟩:=h.f.st y (List.mem_of_mem_take hy)
 obtain ⟨z,z1,z2,z3⟩:=v7.mp hw
 refine ⟨w,v7.mpr ⟨z,?_,z2,z3⟩,e⟩
 unfold edS
 rw [e1,Int.toNat_natCast]
 refine b2Q z1 λe'=>hnl y hy ?_
 rw [← e,← z3,e']
 exact e4
structure MaG (m:Mach):Prop where
 rt:okRts m.rs m.cp.length=true
 n:1<=m.cp.length/\m.cp.length<=2
 rn:m.rs.length=8
 en:m.en.length=8
 ra:m.ra.length=8
 ok:∀k,k < m.cp.length→IfG (m.cp.getD k default)
theorem MaF.g (h:MaF m):MaG m:=⟨h.rt,h.n,h.rn,h.en,h.ra,λk hk=>⟨(h.ok k hk).1,(a0X.mp (h.ok k hk).2.2.2).nodup_iff.mpr (a3F (h.ok k hk).1.qu.sl 4 (Nat.le_refl _))⟩⟩
theorem MaG.tg (h:MaG m) {i:Nat} (hi:i < 8):(0<=(m.rs.getD i default).t/\(m.rs.getD i default).t<=1)/\(m.rs.getD i default).t.toNat < m.cp.length/\(0<=(m.rs.getD i default).p/\(m.rs.getD i default).p<=15):=by
 have:=(s8.mp h.rt).2.2 i hi
 have:=h.n
 omega
def tgM (m:Mach) (i:Nat):Nat:=(m.rs.getD i default).t.toNat
def a1K (m:Mach) (i:Nat):Bool:=m.en.getD i default && (m.ra.getD i default && !a48 (m.cp.getD (tgM m i) default).st i)
def a4q (m:Mach):Nat→List Bool
 | 0=>m.ra
 | i+1=>if a1K m i then (a4q m i).set i false else a4q m i
def L5 (m:Mach):Nat→List Ifc
 | 0=>m.cp
 | i+1=>if a1K m i then (L5 m i).set (tgM m i) (a1f ((L5 m i).getD (tgM m i) default) i (m.rs.getD i default).p) else L5 m i
def a7T (m:Mach):Mach:=⟨m.rs,m.en,a4q m 8,L5 m 8⟩
section
variable {m:Mach} {i:Nat}
theorem a0q (h:a1K m i=true):a4q m (i+1)=(a4q m i).set i false:=by show (if _ then _ else _)=_;rw [if_pos h]
theorem a0r (h:a1K m i=false):a4q m (i+1)=a4q m i:=by show (if _ then _ else _)=_;rw [if_neg (by rw [h];decide)]
theorem a0s (h:a1K m i=true):L5 m (i+1)=(L5 m i).set (tgM m i) (a1f ((L5 m i).getD (tgM m i) default) i (m.rs.getD i default).p):=by show (if _ then _ else _)=_;rw [if_pos h]
theorem a0t (h:a1K m i=false):L5 m (i+1)=L5 m i:=by show (if _ then _ else _)=_;rw [if_neg (by rw [h];decide)]
theorem a26:∀i,(a4q m i).length=m.ra.length
 | 0=>rfl
 | i+1=>by
  have ih:=@a26 i
  show (if _ then _ else _:List Bool).length=_
  split
  ·rw [List.length_set];exact ih
  ·exact ih
theorem E8:∀i,(L5 m i).length=m.cp.length
 | 0=>rfl
 | i+1=>by
  have ih:=@E8 i
  show (if _ then _ else _:List Ifc).length=_
  split
  ·rw [List.length_set];exact ih
  ·exact ih
theorem a7h:∀{i j:Nat},i<=j→(a4q m i).getD j default=m.ra.getD j default
 | 0,_,_=>rfl
 | i+1,j,h=>by
  show (if _ then _ else _:List Bool).getD j default=_
  split
  ·rw [List.getD_eq_getElem?_getD,List.getElem?_set_ne J,← List.getD_eq_getElem?_getD];exact a7h J
  ·exact a7h J
theorem a5p (hM:MaG m):∀{i k:Nat},i<=8→k < m.cp.length→((L5 m i).getD k default).st=(m.cp.getD k default).st/\IfG ((L5 m i).getD k default)
 | 0,k,_,hk=>⟨Z,hM.ok k hk⟩
 | i+1,k,hi,hk=>by
  have ih:=@a5p hM i k J hk
  obtain ⟨_,h2,h3⟩:=hM.tg (i:=i) J
  show ((if _ then _ else _:List Ifc).getD k default).st=_/\IfG ((if _ then _ else _:List Ifc).getD k default)
  split
  ·rw [z8 (by rw [E8];exact h2)]
   by_cases e:tgM m i=k
   ·rw [if_pos e]
    subst e
    have ih2:=@a5p hM i (tgM m i) J h2
    exact ⟨ih2.1,b5H ih2.2 J h3⟩
   ·rw [if_neg e];exact ih
  ·exact ih
theorem c1r (hM:MaG m):MaG (a7T m):=by
 refine ⟨?_,by show 1<=(L5 m 8).length/\_;rw [E8];exact ⟨hM.n.1,by show (L5 m 8).length<=2;rw [E8];exact hM.n.2⟩,hM.rn,hM.en,by show (a4q m 8).length=8;rw [a26];exact hM.ra,λk hk=>?_⟩
 ·show okRts m.rs (L5 m 8).length=true
  rw [E8];exact hM.rt
 ·have hk:k < (L5 m 8).length:=hk
  rw [E8] at hk
  exact (a5p hM (Nat.le_refl _) hk).2
end
def stM (m:Mach) (s:MStep):Mach×Int×Bool :=
 if s.k=1 then (⟨m.rs,m.en,m.ra.set s.q.toNat true,m.cp⟩,-1,!(m.ra.getD s.q.toNat default))
 else if s.k=2 then (a7T m,-1,true)
 else if s.k=3 then (if okT (m.cp.getD s.c.toNat default) then (⟨m.rs,m.en,m.ra,m.cp.set s.c.toNat (a1H (m.cp.getD s.c.toNat default))⟩,tkI (m.cp.getD s.c.toNat default).qu.sl,true) else (⟨m.rs,m.en,m.ra,m.cp.set s.c.toNat noI⟩,0,false))
 else if s.k=4 then (if (m.cp.getD s.c.toNat default).st.length=0 then (⟨m.rs,m.en,m.ra,m.cp.set s.c.toNat noI⟩,0,false) else (⟨m.rs,m.en,m.ra,m.cp.set s.c.toNat (a1h (m.cp.getD s.c.toNat default))⟩,H3 (m.cp.getD s.c.toNat default),true))
 else if s.k=5 then (⟨m.rs,m.en,m.ra,m.cp.set s.c.toNat ⟨s.v,(m.cp.getD s.c.toNat default).st,(m.cp.getD s.c.toNat default).qu⟩⟩,-1,true)
 else (⟨m.rs,m.en.set s.q.toNat (decide (s.v=1)),m.ra,m.cp⟩,-1,true)
def a7U (m:Mach) (s:MStep):Prop:=(s.k=3/\okT (m.cp.getD s.c.toNat default)=false)∨(s.k=4/\(m.cp.getD s.c.toNat default).st.length=0)
theorem a52 (h:MaG m):AbsF m.rs (abOf m):=by
 have hl:(m.cp.map (λx:Ifc=>x.ma)).length=m.cp.length:=List.length_map _
 have hl2:(m.cp.map (λx:Ifc=>x.st)).length=m.cp.length:=List.length_map _
 have hg:∀c,c < m.cp.length→(m.cp.map (λx:Ifc=>x.st)).getD c default=(m.cp.getD c default).st:=λc hc=>I8 (f:=λx:Ifc=>x.st) hc
 refine ⟨by show 1<=(m.cp.map (λx:Ifc=>x.ma)).length/\(m.cp.map (λx:Ifc=>x.ma)).length<=2;rw [hl];exact h.n,h.rn,by show (m.cp.map (λx:Ifc=>x.st)).length=(m.cp.map (λx:Ifc=>x.ma)).length;rw [hl,hl2],h.en,h.ra,u9 _,λi hi=>?_,λc hc=>?_,λc hc i hi=>?_⟩
 ·show 0<=(m.rs.getD i default).t/\(m.rs.getD i default).t < (m.cp.map (λx:Ifc=>x.ma)).length
  rw [hl]
  have:=(s8.mp h.rt).2.2 i hi
  omega
 ·have hc:c < (m.cp.map (λx:Ifc=>x.ma)).length:=hc
  rw [hl] at hc
  show ((m.cp.map (λx:Ifc=>x.st)).getD c default).length<=4
  rw [hg c hc]
  exact (h.ok c hc).f.sn
 ·have hc:c < (m.cp.map (λx:Ifc=>x.ma)).length:=hc
  rw [hl] at hc
  have hi:i < ((m.cp.map (λx:Ifc=>x.st)).getD c default).length:=hi
  show 0<=((m.cp.map (λx:Ifc=>x.st)).getD c default).getD i default/\((m.cp.map (λx:Ifc=>x.st)).getD c default).getD i default<=7
  rw [hg c hc] at hi ⊢
  have hI:=(h.ok c hc).f
  obtain ⟨j,h1,h2,h3⟩:=(L4 4).mp ((Z3 hI.qu.sl.len).mp (hI.st _ (f8.mpr ⟨i,hi,Z⟩)))
  rw [← h3]
  exact (hI.qu.sl.ok j h1 (by rcases r4.mp h2 with g | g<;>omega)).2.1
theorem MaG.put (h:MaG m) {c:Nat} {x:Ifc} (hx:IfG x):MaG ⟨m.rs,m.en,m.ra,m.cp.set c x⟩:=by
 refine ⟨by show okRts m.rs (m.cp.set c x).length=true;rw [List.length_set];exact h.rt,by show 1<=(m.cp.set c x).length/\(m.cp.set c x).length<=2;rw [List.length_set];exact h.n,h.rn,h.en,h.ra,λk hk=>?_⟩
 have hk:k < (m.cp.set c x).length:=hk
 rw [List.length_set] at hk
 show IfG ((m.cp.set c x).getD k default)
 by_cases e:c=k
 ·grind
 ·rw [List.getD_eq_getElem?_getD,List.getElem?_set_ne e,← List.getD_eq_getElem?_getD];exact h.ok k hk
theorem b5I {m:Mach} {s:MStep} (h:MaG m) (hv:s4 m.cp.length s=true) (hk:(stM m s).2.2=true):MaG (stM m s).1/\(stM m s).1.rs=m.rs/\(stM m s).1.cp.length=m.cp.length:=by
 obtain ⟨sk,sq,sc,sv⟩:=s
 have hc:=λhk=>a2A (n:=m.cp.length) (k:=sk) (q:=sq) (c:=sc) (v:=sv) hv hk
 unfold stM at hk ⊢
 dsimp only at hk ⊢
 by_cases h1:sk=1
 ·simp only [h1,if_true]
  exact ⟨⟨h.rt,h.n,h.rn,h.en,by show (m.ra.set sq.toNat true).length=8;rw [List.length_set];exact h.ra,h.ok⟩,trivial,trivial⟩
 by_cases h2:sk=2
 ·rw [if_neg h1,if_pos h2]
  exact ⟨c1r h,Z,E8 8⟩
 by_cases h3:sk=3
 ·have hcc:=hc (.inl h3)
  rw [if_neg h1,if_neg h2,if_pos h3] at hk ⊢
  by_cases ho:okT (m.cp.getD sc.toNat default)=true
  ·rw [if_pos ho]
   exact ⟨h.put (b7z (h.ok _ J) ho),Z,List.length_set⟩
  grind
 by_cases h4:sk=4
 ·have hcc:=hc (.inr (.inl h4))
  rw [if_neg h1,if_neg h2,if_neg h3,if_pos h4] at hk ⊢
  by_cases ho:(m.cp.getD sc.toNat default).st.length=0
  ·grind
  ·rw [if_neg ho]
   exact ⟨h.put (b7B (h.ok _ J) ho),Z,List.length_set⟩
 by_cases h5:sk=5
 ·have hcc:=hc (.inr (.inr h5))
  rw [if_neg h1,if_neg h2,if_neg h3,if_neg h4,if_pos h5]
  have hI:=h.ok sc.toNat J
  exact ⟨h.put ⟨⟨hI.f.qu,hI.f.sn,hI.f.st⟩,hI.nd⟩,Z,List.length_set⟩
 ·rw [if_neg h1,if_neg h2,if_neg h3,if_neg h4,if_neg h5]
  exact ⟨⟨h.rt,h.n,h.rn,by show (m.en.set sq.toNat _).length=8;rw [List.length_set];exact h.en,h.ra,h.ok⟩,Z,Z⟩
def agS (p:Mach×Abs) (s:MStep):Option (Mach×Abs) :=
 if (stM p.1 s).2.2=(n7 p.1.rs p.2 s).2.2 then (if (stM p.1 s).2.2=true then (if (stM p.1 s).2.1=(n7 p.1.rs p.2 s).2.1/\abOf (stM p.1 s).1=(n7 p.1.rs p.2 s).1 then some ((stM p.1 s).1,(n7 p.1.rs p.2 s).1) else none) else some p) else none
def agN (m:Mach) (ss:List MStep):Nat→Option (Mach×Abs)
 | 0=>some (m,abOf m)
 | i+1=>match agN m ss i with
  | some p=>agS p (ss.getD i default)
  | none=>none
theorem a27 (h:agN m ss i=some p):agN m ss (i+1)=agS p (ss.getD i default):=by show (match agN m ss i with | some p=>_ | none=>_)=_;rw [h]
def agI (m:Mach) (ss:List MStep):Nat:=if I0 (λi=>(agN m ss (i+1)).isNone) ss.length=-1 then ss.length else (I0 (λi=>(agN m ss (i+1)).isNone) ss.length).toNat
theorem b17:∀{i:Nat} {p:Mach×Abs},agN m ss i=some p→∀j,j<=i→(agN m ss j).isNone=false
 | 0,p,h,j,hj=>by
  grind
 | i+1,p,h,j,hj=>by
  by_cases e:j=i+1
  ·subst e;rw [h];rfl
  ·cases hi:agN m ss i with
   | none =>
    grind [agN]
   | some q=>exact b17 hi j J
theorem b18 (h:agN m ss i=some p) (hi:i < ss.length) (hn:agS p (ss.getD i default)=none):agI m ss=i:=by
 grind [agI,L1,b17,a27]
theorem a5q (h:agN m ss i=some p) (hi:i=ss.length):agI m ss=ss.length:=by
 subst hi
 unfold agI
 rw [V5 (i:=ss.length) (λj hj=>b17 h (j+1) J) (Nat.le_refl _),if_pos Z]
def agT (m:Mach) (ss:List MStep):Int×Bool:=if okMa m && L3 m.cp.length ss then ((agI m ss:Int),true) else (0,false)
theorem b5J (h:okMa m=true) (h2:L3 m.cp.length ss=true):agT m ss=((agI m ss:Int),true):=by unfold agT;rw [h,h2];rfl
theorem b19 {m:Mach} {ss:List MStep} (h:okMa m=false):agT m ss=(0,false):=by unfold agT;rw [h];rfl
theorem a93 {m:Mach} {ss:List MStep} (h:L3 m.cp.length ss=false):agT m ss=(0,false):=by unfold agT;rw [h,Bool.and_false];rfl
section
variable {p:Mach×Abs} {s:MStep}
theorem a29 (h:(stM p.1 s).2.2≠(n7 p.1.rs p.2 s).2.2):agS p s=none:=by unfold agS;rw [if_neg h]
theorem a2i (h:(stM p.1 s).2.2=(n7 p.1.rs p.2 s).2.2) (h2:(stM p.1 s).2.2=false):agS p s=some p:=by unfold agS;rw [if_pos h,if_neg (by rw [h2];decide)]
theorem b05 (h:(stM p.1 s).2.2=(n7 p.1.rs p.2 s).2.2) (h2:(stM p.1 s).2.2=true) (h3:(stM p.1 s).2.1=(n7 p.1.rs p.2 s).2.1) (h4:abOf (stM p.1 s).1=(n7 p.1.rs p.2 s).1):agS p s=some ((stM p.1 s).1,(n7 p.1.rs p.2 s).1):=by unfold agS;rw [if_pos h,if_pos h2,if_pos ⟨h3,h4⟩]
theorem a6y (h:(stM p.1 s).2.2=(n7 p.1.rs p.2 s).2.2) (h2:(stM p.1 s).2.2=true) (h3:¬ ((stM p.1 s).2.1=(n7 p.1.rs p.2 s).2.1/\abOf (stM p.1 s).1=(n7 p.1.rs p.2 s).1)):agS p s=none:=by unfold agS;rw [if_pos h,if_pos h2,if_neg h3]
end
structure AgF (m:Mach) (p:Mach×Abs):Prop where
 g:MaG p.1
 f:AbsF p.1.rs p.2
 rs:p.1.rs=m.rs
 n:p.1.cp.length=m.cp.length
 na:p.2.ma.length=m.cp.length
theorem b8n (h:MaG m):AgF m (m,abOf m):=⟨h,a52 h,Z,Z,List.length_map _⟩
theorem b20 {s:MStep} (h:AgF m p) (hv:s4 m.cp.length s=true) (hk:(stM p.1 s).2.2=true):AgF m ((stM p.1 s).1,(n7 p.1.rs p.2 s).1):=by
 obtain ⟨h1,h2,h3⟩:=b5I (s:=s) h.g (by rw [h.n];exact hv) hk
 obtain ⟨h4,h5⟩:=b2N (s:=s) h.f (by rw [h.na];exact hv)
 exact ⟨h1,by show AbsF (stM p.1 s).1.rs _;rw [h2];exact h4,by show (stM p.1 s).1.rs=m.rs;rw [h2];exact h.rs,by show (stM p.1 s).1.cp.length=_;rw [h3];exact h.n,by show (n7 p.1.rs p.2 s).1.ma.length=_;rw [h5];exact h.na⟩
section
variable {m:Mach} {sk sq sc sv:Int} {q c:Nat}
theorem sm1 (h:sk=1):stM m ⟨sk,(q:Int),sc,sv⟩=(⟨m.rs,m.en,m.ra.set q true,m.cp⟩,-1,!(m.ra.getD q default)):=by subst h;rfl
theorem sm2 (h:sk=2):stM m ⟨sk,sq,sc,sv⟩=(a7T m,-1,true):=by subst h;rfl
theorem sm3 (h:sk=3) (hk:okT (m.cp.getD c default)=true):stM m ⟨sk,sq,(c:Int),sv⟩=(⟨m.rs,m.en,m.ra,m.cp.set c (a1H (m.cp.getD c default))⟩,tkI (m.cp.getD c default).qu.sl,true):=by
 subst h
 show (if okT (m.cp.getD c default) then _ else _:Mach×Int×Bool)=_
 rw [hk];rfl
theorem c2S (h:sk=3) (hk:okT (m.cp.getD c default)=false):stM m ⟨sk,sq,(c:Int),sv⟩=(⟨m.rs,m.en,m.ra,m.cp.set c noI⟩,0,false):=by
 subst h
 show (if okT (m.cp.getD c default) then _ else _:Mach×Int×Bool)=_
 rw [hk];rfl
theorem sm4 (h:sk=4) (hk:¬ (m.cp.getD c default).st.length=0):stM m ⟨sk,sq,(c:Int),sv⟩=(⟨m.rs,m.en,m.ra,m.cp.set c (a1h (m.cp.getD c default))⟩,H3 (m.cp.getD c default),true):=by
 subst h
 show (if (m.cp.getD c default).st.length=0 then _ else _:Mach×Int×Bool)=_
 rw [if_neg hk];rfl
theorem c2T (h:sk=4) (hk:(m.cp.getD c default).st.length=0):stM m ⟨sk,sq,(c:Int),sv⟩=(⟨m.rs,m.en,m.ra,m.cp.set c noI⟩,0,false):=by
 subst h
 show (if (m.cp.getD c default).st.length=0 then _ else _:Mach×Int×Bool)=_
 rw [if_pos hk];rfl
theorem sm5 (h:sk=5):stM m ⟨sk,sq,(c:Int),sv⟩=(⟨m.rs,m.en,m.ra,m.cp.set c ⟨sv,(m.cp.getD c default).st,(m.cp.getD c default).qu⟩⟩,-1,true):=by subst h;rfl
theorem sm6 (h:sk=6):stM m ⟨sk,(q:Int),sc,sv⟩=(⟨m.rs,m.en.set q (decide (sv=1)),m.ra,m.cp⟩,-1,true):=by subst h;rfl
theorem b2a (h:a7U m ⟨sk,sq,sc,sv⟩):sk=3∨sk=4:=by
 rcases h with ⟨h,_⟩ | ⟨h,_⟩
 ·exact .inl h
 ·exact .inr h
theorem c1s (h:a7U m ⟨sk,sq,(c:Int),sv⟩) (h3:sk=3):okT (m.cp.getD c default)=false:=by
 rcases h with ⟨_,h⟩ | ⟨h,_⟩
 ·exact h
 ·have h':sk=4:=h
  omega
theorem c1t (h:a7U m ⟨sk,sq,(c:Int),sv⟩) (h4:sk=4):(m.cp.getD c default).st.length=0:=by
 rcases h with ⟨h,_⟩ | ⟨_,h⟩
 ·have h':sk=3:=h
  omega
 ·exact h
theorem c4m (h:¬ a7U m ⟨sk,sq,(c:Int),sv⟩) (h3:sk=3):okT (m.cp.getD c default)=true:=by
 cases ho:okT (m.cp.getD c default)
 ·exact absurd (Or.inl ⟨h3,ho⟩) h
 ·rfl
theorem c4n (h:¬ a7U m ⟨sk,sq,(c:Int),sv⟩) (h4:sk=4):¬ (m.cp.getD c default).st.length=0:=λe=>h (Or.inr ⟨h4,e⟩)
theorem b5K {s:MStep} (h:a7U m s):(stM m s).2.2=false:=by
 obtain ⟨sk,sq,sc,sv⟩:=s
 rcases h with ⟨h1,h2⟩ | ⟨h1,h2⟩
 ·have h1:sk=3:=h1
  subst h1
  show (if okT (m.cp.getD sc.toNat default) then _ else _:Mach×Int×Bool).2.2=false
  grind
 ·have h1:sk=4:=h1
  subst h1
  show (if (m.cp.getD sc.toNat default).st.length=0 then _ else _:Mach×Int×Bool).2.2=false
  grind
end
theorem MaG.lens (h:MaG m) {k:Nat} (hk:k < m.cp.length):(m.cp.getD k default).st.length<=4/\(m.cp.getD k default).qu.sl.length=4/\(m.cp.getD k default).qu.wa.length<=8:=⟨(h.ok k hk).f.sn,(h.ok k hk).f.qu.sl.len,(h.ok k hk).f.qu.wn8⟩
theorem MaG.small (h:MaG m):SmallM m:=by
 have h1:=h.n
 refine ⟨by rw [h.rn];decide,by rw [h.en];decide,by rw [h.ra];decide,by omega,?_⟩
 have key:∀i,i<=m.cp.length→sumI m.cp i<=16 * i:=by
  intro i
  induction i with
  | zero=>intro _;exact Int.le_refl _
  | succ i ih =>
   intro hi
   rw [a0b]
   have:=ih J
   obtain ⟨q1,q2,q3⟩:=h.lens (show i < m.cp.length by omega)
   have:szI (m.cp.getD i default)<=16:=by unfold szI;omega
   push_cast
   omega
 grind
theorem b5L {m:Mach} {i:Nat} (h1:m.en.getD i default=true) (h2:m.ra.getD i default=true) (h3:a48 (m.cp.getD (tgM m i) default).st i=false):a1K m i=true:=by unfold a1K;rw [h1,h2,h3];rfl
theorem b5M {m:Mach} {i:Nat} (h1:m.en.getD i default=false):a1K m i=false:=by unfold a1K;rw [h1,Bool.false_and]
theorem b5N {m:Mach} {i:Nat} (h2:m.ra.getD i default=false):a1K m i=false:=by unfold a1K;rw [h2,Bool.false_and,Bool.and_false]
theorem b5O {m:Mach} {i:Nat} (h3:a48 (m.cp.getD (tgM m i) default).st i=true):a1K m i=false:=by unfold a1K;rw [h3];simp
theorem b5P {q:Int} (h:(sl.getD (n8 sl q).toNat default).s=3):edS sl q=sl.set (n8 sl q).toNat ⟨1,q,(sl.getD (n8 sl q).toNat default).p⟩:=by unfold edS edX;rw [if_pos h]
theorem b21 {q:Int} (h:¬ (sl.getD (n8 sl q).toNat default).s=3):edS sl q=sl.set (n8 sl q).toNat zSl:=by unfold edS edX;rw [if_neg h]
end Go.Rf
namespace Go.Rf
open Go Go.RowKit
section
variable {P:Program} [Env P] {w0:Base} {ops:Array Oper} {tb:List (Nat×TyI)} {o:Oper} {rest:List Oper} {T:List (Nat×AV)} {m m1:List (Nat×Option Row)} {nx nt d n1:Nat} {Q:Exit→St→Prop}
def c2U (m1:List (Nat×Option Row)) (n1:Nat) (e:Exit) (S:St):Prop:=(e=.normal∨e=.ret)/\S.m=m1/\S.nx=n1
theorem c1u [EnvAt P w0] {f:FuncId} {fn:Func} {c:Code} {as:Array Operand} {ts:Array TypeId} {args:List AV} {n:Nat} (m1:List (Nat×Option Row)) (n1:Nat) (hd:o.dst=some d) (hlt:Nat.blt d nt=true) (ho:o.op=.call { callee:=.value (.func f),args:=as,argTypes:=ts })
 (hf:P.funcs[f]?=some fn) (hb:fn.body=some c) (hname:(fn.name == "runtime.NumGoroutine")=false) (hl:fn.results=#[]) (hn:fn.ntmps=n) (hlen:Nat.ble args.length n=true) (ha:evL T as.toList []=some args) (hle:Nat.ble nx n1=true)
 (h:∀b:Base,[EnvAt P b]→b.n0=nx→W P b c ⟨a4T args 0,m,nx,n⟩ (c2U m1 n1)) (hk:WL P w0 ops rest ⟨(d,.tup []) :: T,m1,n1,nt⟩ Q):WX P w0 ops o rest ⟨T,m,nx,nt⟩ Q:=by
 rename_i hw0
 intro ρ a w hT hC
 obtain ⟨bs,h1,h2⟩:=a68 hT ha
 simp at h1
 subst h1
 have hcal:Callable P f:=⟨fn,hf,hname,by rw [hb];rfl⟩
 have hrun:(execOp a.eval o).run P w=.ok (.enter f (as.toList.map a.eval).toArray) w:=by
  simp [execOp,ho,resolve,Deferred.ofValue,invoke,Act.eval,a0c hcal,← Array.toList_map]
 unfold Oper.wp
 rw [hrun,Oper.upon_enter]
 let b:Base:=⟨w0.w,nx,ρ,w,w0.keep,λc hc=>Nat.lt_of_lt_of_le (w0.kb c hc) hC.kept.1,w0.E,w0.hE⟩
 have hen:EnvAt P b:=⟨hw0.e⟩
 have hCb:RelC b ρ m nx w:=⟨hC.rows,hC.apart,hC.below,⟨Nat.le_refl _,λ_ _=>Z⟩,⟨Nat.le_refl _,λ_ _=>Z,hC.kept.2.2⟩,hC.inner⟩
 have hlen':args.length<=n:=Nat.le_of_ble_eq_true hlen
 have hTb:=a4i (b:=b) (fn:=fn) (show RelVs b.w ρ nx args (as.toList.map a.eval) from h2) hlen' hn
 have hcalls:Calls P f (as.toList.map a.eval).toArray w (λen w'=>∃ρ',en=.returned (.tuple #[])/\(∀i,i < nx→ρ' i=ρ i)/\RelC b ρ' m1 n1 w'):=by
  refine calls_of_wp hf hb ?_
  refine wp_mono (h b Z ρ _ w hTb hCb) ?_
  have fin:∀(ρ':Nat→Value) (S:St) (a':Act) (w':World),S.m=m1→S.nx=n1→RelT b ρ' S.T S.nx S.nt a'→RelC b ρ' S.m S.nx w' →
   a'.defers=[]/\∃v,(results fn a'.tmps).run P w'=.ok v w'/\∃ρ',Ending.returned v=.returned (.tuple #[])/\(∀i,i < nx→ρ' i=ρ i)/\RelC b ρ' m1 n1 w':=by
   intro ρ' S a' w' e1 e2 hT' hC'
   refine ⟨hT'.defers,.tuple #[],?_,ρ',Z,λi hi=>hC'.pin.2 i hi,by rw [← e1,← e2];exact hC'⟩
   have:=V3 (P:=P) (fn:=fn) (l:=[]) (ys:=[]) (tmps:=a'.tmps) (w:=w') (by rw [hl]) (by simp)
   simpa using this
  rintro e a' w' ⟨ρ',S,⟨hq,e1,e2⟩,hT',hC'⟩
  rcases hq with rfl | rfl
  ·exact fin ρ' S a' w' e1 e2 hT' hC'
  ·exact fin ρ' S a' w' e1 e2 hT' hC'
 refine hcalls.mono λex w' ⟨ρ',he,q1,q2⟩=>?_
 subst he
 have hn1:=Nat.le_of_ble_eq_true hle
 refine hk ρ' _ w' ?_ ⟨q2.rows,q2.apart,q2.below,⟨Nat.le_trans hC.pin.1 hn1,λi hi=>by rw [q1 i (Nat.lt_of_lt_of_le hi hC.pin.1)];exact hC.pin.2 i hi⟩,⟨Nat.le_trans hC.kept.1 q2.kept.1,λc hc=>(q2.kept.2.1 c hc).trans (hC.kept.2.1 c hc),q2.kept.2.2⟩,q2.inner⟩
 rw [hd]
 have hT':RelT w0 ρ' T n1 nt a:=⟨λt x hx=>(hT.tmps t x hx).mono hn1 q1,hT.size,hT.defers⟩
 exact hT'.put hlt (by simp only [RelV];exact ⟨[],Z,by simp only [RelVs]⟩)
end
section
variable {P:Program} [Env P] {w0:Base} {ops:Array Oper} {tb:List (Nat×TyI)} {o:Oper} {rest:List Oper} {T:List (Nat×AV)} {m:List (Nat×Option Row)} {nx nt d:Nat} {Q:Exit→St→Prop}
theorem b7C [EnvAt P w0] {f:FuncId} {fn:Func} {c:Code} {as:Array Operand} {ts:Array TypeId} {args:List AV} {n:Nat} (hd:o.dst=some d) (hlt:Nat.blt d nt=true) (ho:o.op=.call { callee:=.value (.func f),args:=as,argTypes:=ts })
 (hf:P.funcs[f]?=some fn) (hb:fn.body=some c) (hname:(fn.name == "runtime.NumGoroutine")=false) (hl:fn.results=#[]) (hn:fn.ntmps=n) (hlen:Nat.ble args.length n=true) (ha:evL T as.toList []=some args)
 (h:∃m1 n1,(∀b:Base,[EnvAt P b]→b.n0=nx→W P b c ⟨a4T args 0,m,nx,n⟩ (c2U m1 n1))/\Nat.ble nx n1=true/\WL P w0 ops rest ⟨(d,.tup []) :: T,m1,n1,nt⟩ Q):WX P w0 ops o rest ⟨T,m,nx,nt⟩ Q:=by
 obtain ⟨m1,n1,h1,h2,h3⟩:=h
 exact c1u m1 n1 hd hlt ho hf hb hname hl hn hlen ha h2 h1 h3
end
variable {a b:List CI} {c:CI} {eS eW:Nat} {w:World} {x y yss yss':List (List CI)} {ys:List (List Value)} {ρ:Nat→Value}
def CILe (c c':CI):Prop:=c=c'∨∃e sz ys f,c=.l e sz ys f/\c'=.l e sz ys true
def FlR (a b:List CI):Prop:=a.length=b.length/\∀(k:Nat) (c':CI),b[k]?=some c'→∃c,a[k]?=some c/\CILe c c'
def FlLe (x y:List (List CI)):Prop:=x.length=y.length/\∀(i:Nat) (b:List CI),y[i]?=some b→∃a,x[i]?=some a/\FlR a b
theorem FlR.nil:FlR [] []:=⟨Z,λk c' h=>by simp at h⟩
theorem FlR.cons {c':CI} (h:CILe c c') (hr:FlR a b):FlR (c :: a) (c' :: b):=⟨by simp [hr.1],λk d hd=>by
 match k with
 | 0=>exact ⟨c,Z,by simp at hd;subst hd;exact h⟩
 | k+1=>exact hr.2 k d (by simpa using hd)⟩
theorem FlR.rfl':FlR a a:=⟨Z,λk c h=>⟨c,h,.inl Z⟩⟩
theorem CILe.s:CILe c c:=.inl Z
theorem CILe.t {e sz:Nat} {f:Bool}:CILe (.l e sz ys f) (.l e sz ys true):=.inr ⟨e,sz,ys,f,Z,Z⟩
theorem FlLe.refl:FlLe x x:=⟨Z,λi b h=>⟨b,h,FlR.rfl'⟩⟩
theorem FlLe.map {α:Type} {f g:α→List CI} {xs:List α} (h:∀x,FlR (f x) (g x)):FlLe (xs.map f) (xs.map g):=⟨by simp,λi b hb=>by
 rw [List.getElem?_map] at hb
 obtain ⟨x,hx,rfl⟩:=Option.map_eq_some_iff.1 hb
 exact ⟨f x,by rw [List.getElem?_map,hx];rfl,h x⟩⟩
theorem FlLe.set {i:Nat} (h:FlLe x y) (hr:FlR a b):FlLe (x.set i a) (y.set i b):=⟨by simp [h.1],λj c hc=>by
 by_cases e:i=j
 ·subst e
  have hl:i < y.length:=by
   grind
  rw [List.getElem?_set_self (by simpa using hl)] at hc
  cases hc
  exact ⟨a,by rw [List.getElem?_set_self (by rw [h.1];exact hl)],hr⟩
 ·rw [List.getElem?_set_ne e] at hc ⊢
  exact h.2 j c hc⟩
theorem FlLe.trans {z:List (List CI)} (h:FlLe x y) (h':FlLe y z):FlLe x z:=⟨h.1.trans h'.1,λi b hb=>by
 obtain ⟨a,ha,hr⟩:=h'.2 i b hb
 obtain ⟨a2,ha2,hr2⟩:=h.2 i a ha
 refine ⟨a2,ha2,hr2.1.trans hr.1,λk c hc=>?_⟩
 obtain ⟨d,hd,hd'⟩:=hr.2 k c hc
 obtain ⟨d2,hd2,hd2'⟩:=hr2.2 k d hd
 refine ⟨d2,hd2,?_⟩
 rcases hd2' with rfl | ⟨e,sz,ys,f,rfl,rfl⟩
 ·exact hd'
 ·rcases hd' with rfl | ⟨e2,sz2,ys2,f2,q1,rfl⟩
  ·exact .inr ⟨e,sz,ys,f,Z,Z⟩
  ·cases q1;exact .inr ⟨e,sz,ys,f,Z,Z⟩⟩
theorem FlLe.nget (h:FlLe x y) {i k:Nat} {c':CI} (hc:y8 y i k=some c'):∃c,y8 x i k=some c/\CILe c c':=by
 simp only [Go.Rf.y8] at hc ⊢
 cases hb:y[i]? with
 | none=>rw [hb] at hc;cases hc
 | some b =>
  rw [hb] at hc
  obtain ⟨a,ha,hr⟩:=h.2 i b hb
  obtain ⟨c,h1,h2⟩:=hr.2 k c' hc
  grind
section
variable {w0:Base} {T:List (Nat×AV)} {m:List (Nat×Option Row)} {nx nt:Nat}
theorem Gh.nestF {id e sz:Nat} {yss:List (List CI)} (yss':List (List CI)) (hm:mem m id=some (.nest e sz yss [])) (h:FlLe yss yss'):Gh w0 ⟨T,m,nx,nt⟩ ⟨T,(id,some (.nest e sz yss' [])) :: m,nx,nt⟩:=by
 intro ρ a w hT hC
 obtain ⟨hlt,cells,hN,hop⟩:=hC.nestC hm
 obtain ⟨n1,n2,n3,n4,n5⟩:=hN
 refine ⟨ρ,hT,hC.retell hm (row':=.nest e sz yss' []) ⟨cells,⟨by rw [← h.1];exact n1,by rw [← h.1];exact n2,n3,λcs hcs=>?_,λi k c hc=>?_⟩,λq hq=>by cases hq⟩ λp b hb=>?_⟩
 ·obtain ⟨i,hi,rfl⟩:=List.getElem_of_mem hcs
  obtain ⟨a',ha,hr⟩:=h.2 i _ (List.getElem?_eq_getElem hi)
  rw [← hr.1]
  grind
 ·obtain ⟨d,hd,hle⟩:=h.nget hc
  obtain ⟨u,hu,hr⟩:=n5 i k d hd
  refine ⟨u,hu,?_⟩
  rcases hle with rfl | ⟨e1,sz1,ys,f,rfl,rfl⟩
  ·exact hr
  ·exact ⟨OwnR.gen hr.1,hr.2⟩
 ·have hb:y4 w (ρ id) sz yss' p=some b:=hb
  show y4 w (ρ id) sz yss p=some b
  unfold y4 at hb ⊢
  cases hc:Go.Rf.y8 yss' p.1 p.2 with
  | none=>rw [hc] at hb;cases hb
  | some c =>
   rw [hc] at hb
   obtain ⟨d,hd,hle⟩:=h.nget hc
   rw [hd]
   rcases hle with rfl | ⟨e1,sz1,ys,f,rfl,rfl⟩
   ·exact hb
   ·exact hb
end
section
variable {w0:Base} {T:List (Nat×AV)} {m:List (Nat×Option Row)} {nx nt:Nat}
theorem Gh.bump (nx':Nat) (h:nx<=nx'):Gh w0 ⟨T,m,nx,nt⟩ ⟨T,m,nx',nt⟩:=by
 intro ρ a w hT hC
 refine ⟨ρ,⟨λt x hx=>(hT.tmps t x hx).mono h λ_ _=>Z,hT.size,hT.defers⟩,⟨λid r hr=>?_,hC.apart,hC.below,⟨Nat.le_trans hC.pin.1 h,hC.pin.2⟩,hC.kept,hC.inner⟩⟩
 obtain ⟨h1,h2⟩:=hC.rows id r hr
 refine ⟨Nat.lt_of_lt_of_le h1 h,?_⟩
 cases r
 case box cs =>
  obtain ⟨b,cur,ty,q1,q2,q3,q4,q5⟩:=h2
  exact ⟨b,cur,ty,q1,q2,q3,RelVs.mono h (λ_ _=>Z) _ q4,q5⟩
 case nest e sz yss op =>
  obtain ⟨cells,q1,q2⟩:=h2
  exact ⟨cells,q1,λq hq=>⟨Nat.lt_of_lt_of_le (q2 q hq).1 h,(q2 q hq).2⟩⟩
 all_goals exact h2
end
theorem Ctr.argsTo {P:Program} [Env P] {f:FuncId} {args args':List AV} {res:Res} (h:Ctr P f args res) (ha:∀w vs,RelVs w noRho 0 args' vs→RelVs w noRho 0 args vs):Ctr P f args' res:=⟨h.callable,λw vs he hv=>h.calls w vs he (ha w vs hv)⟩
theorem NReadsAt.fl {sz:Nat} {y:Value} (hf:FlLe yss yss') (h:NReadsAt w sz yss' y):NReadsAt w sz yss y:=by
 obtain ⟨A,cap,he,hc,hl,hr⟩:=h
 refine ⟨A,cap,by rw [he,hf.1],by rw [hf.1];exact hc,λcs hcs=>?_,λh0=>?_⟩
 ·obtain ⟨i,hi,rfl⟩:=List.getElem_of_mem hcs
  have hi':i < yss'.length:=by rw [← hf.1];exact hi
  obtain ⟨a,ha,hr⟩:=hf.2 i _ (List.getElem?_eq_getElem hi')
  rw [List.getElem?_eq_getElem hi] at ha
  cases ha
  rw [hr.1]
  grind
 ·obtain ⟨ad,h1,h2,h3⟩:=hr (by rw [← hf.1];exact h0)
  refine ⟨ad,h1,h2,λi k c hc=>?_⟩
  have:∃c',Go.Rf.y8 yss' i k=some c'/\CILe c c':=by
   simp only [Go.Rf.y8] at hc ⊢
   cases hb:yss[i]? with
   | none=>rw [hb] at hc;cases hc
   | some b =>
    rw [hb] at hc
    have hi:i < yss'.length:=by rw [← hf.1];exact (List.getElem?_eq_some_iff.1 hb).1
    obtain ⟨a,ha,hr⟩:=hf.2 i _ (List.getElem?_eq_getElem hi)
    rw [hb] at ha
    cases ha
    have hc:b[k]?=some c:=hc
    have hk:k < (yss'[i]).length:=by rw [← hr.1];exact (List.getElem?_eq_some_iff.1 hc).1
    obtain ⟨c2,h1,h2⟩:=hr.2 k _ (List.getElem?_eq_getElem hk)
    grind
  obtain ⟨c',hc',hle⟩:=this
  obtain ⟨u,q1,q2,q3⟩:=h3 i k c' hc'
  refine ⟨u,q1,q2,?_⟩
  rcases hle with rfl | ⟨e1,sz1,ys,f,rfl,rfl⟩
  ·exact q3
  ·exact q3
def a1i (eS eW:Nat) (x:Ifc):List CI:=[.v (.int .i64 x.ma),.l 3 1 (x.st.map l8),.l eS 3 (x.qu.sl.map f9),.l eW 2 (x.qu.wa.map i5) true]
theorem flI (x:Ifc):FlR (r3 eS eW x) (a1i eS eW x):=.cons .s (.cons .s (.cons .s (.cons .t .nil)))
theorem flM {xs:List Ifc}:FlLe (xs.map (r3 eS eW)) (xs.map (a1i eS eW)):=FlLe.map flI
theorem b5Q {nx:Nat} {a b c:AV} {rest:List AV} (hf:FlLe yss yss'):∀vs,RelVs w ρ nx (.agg [a,b,c,.nst none 4 yss'] :: rest) vs→RelVs w ρ nx (.agg [a,b,c,.nst none 4 yss] :: rest) vs:=by
 intro vs h
 simp only [RelVs,RelV] at h ⊢
 obtain ⟨y,ys',rfl,⟨zs,rfl,y0,t0,rfl,h0,y1,t1,rfl,h1,y2,t2,rfl,h2,y3,t3,rfl,⟨h3,h4⟩,rfl⟩,hr⟩:=h
 exact ⟨_,_,Z,⟨_,Z,_,_,Z,h0,_,_,Z,h1,_,_,Z,h2,_,_,Z,⟨by simp,NReadsAt.fl hf h4⟩,Z⟩,hr⟩
theorem X0 {α:Type} [Inhabited α] {xs:List α} {f:α→List CI} {i:Nat} {c c':List CI} (hi:i < xs.length) (hc:c'=f (xs.getD i default)):((xs.map f).set i c).set i c'=xs.map f:=by
 subst hc
 rw [List.set_set]
 apply List.ext_getElem?
 grind
section
variable {P:Program} [Env P] {w0:Base} {ops:Array Oper} {tb:List (Nat×TyI)} {o:Oper} {rest:List Oper} {T:List (Nat×AV)} {m:List (Nat×Option Row)} {nx nt d:Nat} {Q:Exit→St→Prop} {c:Code}
theorem b7D {t sz:Nat} (ht:look t T=some (.lst sz ys)) (h:∀y,WL P w0 ops rest ⟨(t,.pin y sz ys) :: T,m,nx,nt⟩ Q):WL P w0 ops rest ⟨T,m,nx,nt⟩ Q:=by
 intro ρ a w hT hC
 have h1:=hT.tmps t _ ht
 simp only [RelV] at h1
 refine h (a.tmps.getD t undef) ρ a w ⟨λi x hi=>?_,hT.size,hT.defers⟩ hC
 by_cases e:i=t
 ·grind [m9,RelV]
 ·rw [j5 (λe'=>e e'.symm)] at hi
  exact hT.tmps i x hi
theorem a7V {w0:World} {u:Nat→Value}:∀{cs:List AV} {us:List Value} {k:Nat} {acc rs:List AV} {acc':List Value},a4j cs u k acc=some rs→RelVs w0 ρ nx cs us→(∀j y,us[j]?=some y→(∃A l c,y=.slice A l c)→u (k+j)=y)→RelVs w0 ρ nx acc.reverse acc'→RelVs w0 ρ nx rs (acc'++us)
 | [],us,k,acc,rs,acc',h,hr,_,ha=>by
  simp [a4j,E6] at h
  simp only [RelVs] at hr
  subst h;subst hr
  simpa using ha
 | x :: cs,_,k,acc,rs,acc',h,hr,hu,ha=>by
  simp only [RelVs] at hr
  obtain ⟨y,us,rfl,h1,h2⟩:=hr
  have h0:(∃A l c,y=.slice A l c)→u k=y:=λhs=>by simpa using hu 0 y Z hs
  have key:∀(a:AV),RelV w0 ρ nx a y→a4j cs u (Nat.succ k) (a :: acc)=some rs→RelVs w0 ρ nx rs (acc'++y :: us):=λa hy h'=>by
   have:=a7V h' h2 (λj y hj=>by rw [show Nat.succ k+j=k+(j+1) by omega];exact hu (j+1) y (by simpa using hj)) (acc':=acc'++[y]) (by
    rw [List.reverse_cons]
    refine RelVs.append _ ha ?_
    simp only [RelVs]
    exact ⟨_,_,Z,hy,Z⟩)
   simpa using this
  cases x<;>simp only [a4j] at h
  case lst sz ys=>exact key _ (by simp only [RelV] at h1 ⊢;obtain ⟨A,c,e,_⟩:=id h1;exact ⟨(h0 ⟨_,_,_,e⟩).symm,h1⟩) h
  case nst z sz ys=>exact key _ (by simp only [RelV] at h1 ⊢;obtain ⟨_,A,c,e,_⟩:=id h1;exact ⟨λv hv=>by cases hv;exact (h0 ⟨_,_,_,e⟩).symm,h1.2⟩) h
  all_goals exact key _ h1 h
theorem c1v (t:Nat) {cs:List AV} (ht:look t T=some (.agg cs)) {rs:(Nat→Value)→List AV} (hr:∀u,a4j cs u 0 []=some (rs u)) (h:∀u:Nat→Option Addr×Nat×Nat,W P w0 c ⟨(t,.agg (rs λj=>.slice (u j).1 (u j).2.1 (u j).2.2)) :: T,m,nx,nt⟩ Q):W P w0 c ⟨T,m,nx,nt⟩ Q:=by
 intro ρ a w hT hC
 have h1:=hT.tmps t _ ht
 simp only [RelV] at h1
 obtain ⟨us,he,h1⟩:=h1
 let p:Value→Option Addr×Nat×Nat:=λv=>match v with
  | .slice A l c=>(A,l,c)
  | _=>(none,0,0)
 let u:Nat→Option Addr×Nat×Nat:=λi=>p (us.getD i undef)
 refine h u ρ a w ⟨λi x hi=>?_,hT.size,hT.defers⟩ hC
 by_cases e:i=t
 ·subst e
  rw [m9] at hi
  cases hi
  simp only [RelV]
  have key:∀j y,us[j]?=some y→(∃A l c,y=.slice A l c)→(λj=>Value.slice (u j).1 (u j).2.1 (u j).2.2) (0+j)=y:=λj y hj hs=>by
   grind
  have:=a7V (acc':=[]) (hr λj=>.slice (u j).1 (u j).2.1 (u j).2.2) h1 key (by simp [RelVs])
  grind
 ·rw [j5 (λe'=>e e'.symm)] at hi
  exact hT.tmps i x hi
end
def a54 (x:Ifc):List CI:=[.x,.x,.x,.x]
section
variable {w0:Base} {T:List (Nat×AV)} {m:List (Nat×Option Row)} {nx nt:Nat}
theorem Gh.nestX {id e:Nat} {yss:List (List CI)} (xs:List Ifc) (hm:mem m id=some (.nest e 4 yss [])) (h:yss.length=xs.length):Gh w0 ⟨T,m,nx,nt⟩ ⟨T,(id,some (.nest e 4 (xs.map a54) [])) :: m,nx,nt⟩:=by
 intro ρ a w hT hC
 obtain ⟨hlt,cells,hN,hop⟩:=hC.nestC hm
 obtain ⟨n1,n2,n3,n4,n5⟩:=hN
 have hx:∀{i k:Nat} {c:CI},y8 (xs.map a54) i k=some c→c=.x/\i < xs.length/\k < 4:=λ{i k c} hc=>by
  simp only [y8,List.getElem?_map] at hc
  cases hi:xs[i]? with
  | none=>rw [hi] at hc;cases hc
  | some x =>
   grind [a54]
 refine ⟨ρ,hT,hC.retell hm (row':=.nest e 4 (xs.map a54) []) ⟨cells,⟨by rw [List.length_map,← h];exact n1,by rw [List.length_map,← h];exact n2,n3,λcs hcs=>?_,λi k c hc=>?_⟩,λq hq=>by cases hq⟩ λp b hb=>?_⟩
 ·obtain ⟨x,_,rfl⟩:=List.mem_map.1 hcs;rfl
 ·obtain ⟨rfl,hi,hk⟩:=hx hc
  have hi':i < cells.length:=by rw [n2,h];exact hi
  have hk':k < (cells[i]).length:=by rw [(n3 _ (List.getElem_mem hi')).1];exact hk
  exact ⟨(cells[i])[k],by simp only [y8,List.getElem?_eq_getElem hi'];exact List.getElem?_eq_getElem hk',trivial⟩
 ·have hb:y4 w (ρ id) 4 (xs.map a54) p=some b:=hb
  exfalso
  unfold y4 at hb
  grind
end
end Go.Rf
namespace Go.Rf
open Go
variable {b:Abs} {rs:List Route} {x:Ifc}
theorem b5R {sl:List Slot} {q:Int} (h0:0<=n8 sl q) (h:(sl.getD (n8 sl q).toNat default).s=3):edS sl q=sl.set (n8 sl q).toNat ⟨1,(sl.getD (n8 sl q).toNat default).q,(sl.getD (n8 sl q).toNat default).p⟩:=by rw [b5P h,(c2I h0).1]
theorem b22 (h:IfG x) (h0:x.st.length≠0):0<=n8 x.qu.sl (H3 x)/\N2 (x.qu.sl.getD (n8 x.qu.sl (H3 x)).toNat default)=true:=⟨a2e (h.f.st _ (a1J h0)),b7A h.f.qu.sl (h.f.st _ (a1J h0))⟩
theorem a55 (h0:x.st.length≠0):x.st.getD ((x.st.length:Int) - 1).toNat default=H3 x:=by
 rw [show ((x.st.length:Int) - 1).toNat=x.st.length - 1 by omega];rfl
theorem c1w {α β:Type} [Inhabited α] {l:List α} {f:α→β} {i:Nat} (h:i < l.length):(l.map f)[i]?=some (f (l.getD i default)):=by simp [h]
theorem a7W {xs:List Int}:List.take (((xs.length:Int) - 1).toNat - Int.toNat 0) (List.drop (Int.toNat 0) (xs.map l8))=(xs.take (xs.length - 1)).map l8:=by
 simp
def X1 (x:Ifc):Ifc×Int×Bool:=if x.st.length=0 then (noI,0,false) else (a1h x,H3 x,true)
theorem b23 (h:x.st.length=0):X1 x=(noI,0,false):=if_pos h
theorem b24 (h:x.st.length≠0):X1 x=(a1h x,H3 x,true):=if_neg h
theorem c4o {m:Mach} {sk sq sv:Int} {c:Nat} (h:sk=3):stM m ⟨sk,sq,(c:Int),sv⟩=(⟨m.rs,m.en,m.ra,m.cp.set c (R6 (m.cp.getD c default)).1⟩,(R6 (m.cp.getD c default)).2.1,(R6 (m.cp.getD c default)).2.2):=by
 cases hk:okT (m.cp.getD c default)
 ·rw [c2S h hk,b2T hk]
 ·rw [sm3 h hk,a7e hk]
theorem c4p {m:Mach} {sk sq sv:Int} {c:Nat} (h:sk=4):stM m ⟨sk,sq,(c:Int),sv⟩=(⟨m.rs,m.en,m.ra,m.cp.set c (X1 (m.cp.getD c default)).1⟩,(X1 (m.cp.getD c default)).2.1,(X1 (m.cp.getD c default)).2.2):=by
 by_cases hk:(m.cp.getD c default).st.length=0
 ·rw [c2T h hk,b23 hk]
 ·rw [sm4 h hk,b24 hk]
theorem T4 {eS eW:Nat} {xs:List Ifc} {c:Nat} {x:Ifc} {row:List CI} (h:FlR row (a1i eS eW x)):FlLe ((xs.map (a1i eS eW)).set c row) ((xs.set c x).map (a1i eS eW)):=by rw [List.map_set];exact FlLe.refl.set h
theorem c1x {eS eW:Nat} {xs:List Ifc} {c:Nat} {row:List CI} (h:row=r3 eS eW x):(xs.map (r3 eS eW)).set c row=(xs.set c x).map (r3 eS eW):=by rw [List.map_set,h]
theorem b5S (h:IfG x) (h0:x.st.length≠0):0<=H3 x/\H3 x<=7:=by
 obtain ⟨j,h1,h2,h3⟩:=(L4 4).mp ((Z3 h.f.qu.sl.len).mp (h.f.st _ (a1J h0)))
 rw [← h3]
 exact (h.f.qu.sl.ok j h1 (by rcases r4.mp h2 with g | g<;>omega)).2.1
theorem b25 (h:IfG x) (hk:okT x=true):0<=tkI x.qu.sl/\tkI x.qu.sl<=7:=b13 h.f.qu.sl (G2.mp hk).1
theorem b7E {x y:Abs} (h:x≠y):b0G x y=false:=by
 cases e:b0G x y
 ·rfl
 ·exact absurd (O2.mp e) h
theorem c1y {rs':List Route} {a:Abs} (hA:AbsF rs a) (hB:AbsF rs' b) (hn:a.ma.length=b.ma.length) (h1:∀j,j < 8→(a.en.getD j default=b.en.getD j default/\a.ra.getD j default=b.ra.getD j default/\a.po.getD j default=b.po.getD j default)) (h2:∀j,j < a.ma.length→(a.ma.getD j default=b.ma.getD j default/\a.st.getD j default=b.st.getD j default)):a=b:=by
 have e1:=F3 (i:=8) (by rw [hA.en,hB.en]) (λj hj=>(h1 j hj).1) (by rw [hA.en];exact Nat.le_refl _)
 have e2:=F3 (i:=8) (by rw [hA.ra,hB.ra]) (λj hj=>(h1 j hj).2.1) (by rw [hA.ra];exact Nat.le_refl _)
 have e3:=F3 (i:=8) (by rw [hA.po,hB.po]) (λj hj=>(h1 j hj).2.2) (by rw [hA.po];exact Nat.le_refl _)
 have e4:=F3 hn (λj hj=>(h2 j hj).1) (Nat.le_refl _)
 have e5:=F3 (i:=a.ma.length) (by rw [hA.st,hB.st,hn]) (λj hj=>(h2 j hj).2) (by rw [hA.st];exact Nat.le_refl _)
 obtain ⟨a1,a2,a3,a4,a5⟩:=a
 simp_all
theorem AbsF.slen (h:AbsF rs b) (i:Nat):(b.st.getD i default).length<=1048576:=by
 by_cases hi:i < b.ma.length
 ·have:=h.len i hi;omega
 ·rw [List.getD_eq_getElem?_getD,List.getElem?_eq_none (by rw [h.st];omega)];exact Nat.zero_le _
theorem c1z {w:World} {ρ:Nat→Value} {nx:Nat} {a b:AV} {f:FuncId}:∀vs,RelVs w ρ nx [a,b,.v (.func (.func f) #[] #[])] vs→RelVs w ρ nx [a,b,.fnc f []] vs:=by
 grind [RelVs,RelV]
end Go.Rf
namespace Go.Rf
open Go Go.RowKit
section
variable {P:Program} {w0:Base} {ops:Array Oper} {o:Oper} {rest:List Oper} {T:List (Nat×AV)} {m:List (Nat×Option Row)} {nx nt:Nat} {Q:Exit→St→Prop}
theorem a94 (t:Nat) {cs:List AV} (ht:look t T=some (.agg cs)) {rs:(Nat→Value)→List AV} (hr:∀u,a4j cs u 0 []=some (rs u)) (h:∀u,WX P w0 ops o rest ⟨(t,.agg (rs u)) :: T,m,nx,nt⟩ Q):WX P w0 ops o rest ⟨T,m,nx,nt⟩ Q:=by
 intro ρ a w hT hC
 have h1:=hT.tmps t _ ht
 simp only [RelV] at h1
 obtain ⟨us,he,h1⟩:=h1
 let u:Nat→Value:=λi=>us.getD i undef
 refine h u ρ a w ⟨λi x hi=>?_,hT.size,hT.defers⟩ hC
 by_cases e:i=t
 ·subst e
  rw [m9] at hi
  cases hi
  simp only [RelV]
  exact ⟨us,he,by simpa using a3v (acc':=[]) (hr u) h1 (λj y hj=>by simp only [u,Nat.zero_add,List.getD_eq_getElem?_getD,hj,Option.getD_some]) (by simp [RelVs])⟩
 ·rw [j5 (λe'=>e e'.symm)] at hi
  exact hT.tmps i x hi
end
end Go.Rf
namespace Go.Rf
open Go
variable {c:Int} {e:Nat} {m:Mach} {rs:List Route} {x:Ifc}
theorem ArgsOK.sub1 {T:List (Nat×AV)} {m:List (Nat×Option Row)} {nx:Nat} {x:Operand} {id sz i n:Nat} {ys us:List (List Value)} (hx:ev T x=some (.sub id sz i n)) (hm:mem m id=some (.row e sz ys)) (hle:i+n<=ys.length) (he:(ys.drop i).take n=us):ArgsOK T m nx [x] [.lst sz us]:=by
 subst he
 exact ⟨_,_,_,Z,hx,ArgOK.sub hm hle,Z⟩
def ptG (sl:List Slot) (irq p:Int):List Slot×Bool:=if 0<=n8 sl irq then (ptS sl irq,true) else if 0<=freS sl then (sl.set (freS sl).toNat ⟨1,irq,p⟩,true) else ([],false)
def edQ (sl:List Slot) (irq:Int):List Slot:=if (sl.getD (n8 sl irq).toNat default).s=2 then sl.set (n8 sl irq).toNat zSl else sl.set (n8 sl irq).toNat ⟨1,(sl.getD (n8 sl irq).toNat default).q,(sl.getD (n8 sl irq).toNat default).p⟩
def edG (sl:List Slot) (irq:Int):List Slot×Bool:=if 0<=n8 sl irq/\¬ (sl.getD (n8 sl irq).toNat default).s=1 then (edQ sl irq,true) else ([],false)
def tkA (sl:List Slot) (lim:Int):List Slot×Int:=if U4 sl lim then (tkS sl,tkI sl) else (sl,-1)
section
variable {sl:List Slot} {irq p lim:Int}
theorem c2V (h:0<=n8 sl irq):ptG sl irq p=(ptS sl irq,true):=by unfold ptG;rw [if_pos h]
theorem c2W (h:n8 sl irq < 0) (h2:0<=freS sl):ptG sl irq p=(sl.set (freS sl).toNat ⟨1,irq,p⟩,true):=by unfold ptG;rw [if_neg J,if_pos h2]
theorem c2X (h:n8 sl irq < 0) (h2:freS sl < 0):ptG sl irq p=([],false):=by unfold ptG;rw [if_neg J,if_neg J]
theorem a5r (h:(ptG sl irq p).2=true):(ptG sl irq p).1.length=sl.length:=by
 grind [ptG,ptS]
theorem b5T (h:n8 sl irq < 0∨(sl.getD (n8 sl irq).toNat default).s=1):edG sl irq=([],false):=by
 grind [edG]
theorem c2Y (h:0<=n8 sl irq) (h2:(sl.getD (n8 sl irq).toNat default).s=2):edG sl irq=(sl.set (n8 sl irq).toNat zSl,true):=by
 unfold edG edQ
 grind
theorem c2Z (h:0<=n8 sl irq) (h1:¬ (sl.getD (n8 sl irq).toNat default).s=1) (h2:¬ (sl.getD (n8 sl irq).toNat default).s=2):edG sl irq=(sl.set (n8 sl irq).toNat ⟨1,(sl.getD (n8 sl irq).toNat default).q,(sl.getD (n8 sl irq).toNat default).p⟩,true):=by
 unfold edG edQ
 grind
theorem a5s (h:(edG sl irq).2=true):(edG sl irq).1.length=sl.length:=by
 grind [edG,edQ]
theorem b8o (h:U4 sl lim=true):tkA sl lim=(tkS sl,tkI sl):=by unfold tkA;rw [h];rfl
theorem b5U (h:U4 sl lim=false):tkA sl lim=(sl,-1):=by unfold tkA;rw [h];rfl
theorem a5t:(tkA sl lim).1.length=sl.length:=by
 cases h:U4 sl lim
 ·rw [b5U h]
 ·rw [b8o h];exact List.length_set
end
def tkQ (q:Que) (lim:Int):Que×Int:=if U4 q.sl lim then (a23 q,tkI q.sl) else (q,-1)
def enG (q:Que) (irq:Int):Que×Bool:=if 0<=n8 q.sl irq/\N2 (q.sl.getD (n8 q.sl irq).toNat default)=true then (a24 q irq,true) else (⟨[],[]⟩,false)
section
variable {q:Que} {irq p lim:Int}
theorem b8p (h:U4 q.sl lim=true):tkQ q lim=(a23 q,tkI q.sl):=by unfold tkQ;rw [h];rfl
theorem b8q (h:U4 q.sl lim=false):tkQ q lim=(q,-1):=by unfold tkQ;rw [h];rfl
theorem a85 (h:QF q):QF (tkQ q lim).1:=by
 grind [b8q,b8p,b1X,G2]
theorem b8r (h:0<=n8 q.sl irq) (h2:N2 (q.sl.getD (n8 q.sl irq).toNat default)=true):enG q irq=(a24 q irq,true):=by unfold enG;rw [if_pos ⟨h,h2⟩]
theorem b8s (h:¬ (0<=n8 q.sl irq/\N2 (q.sl.getD (n8 q.sl irq).toNat default)=true)):enG q irq=(⟨[],[]⟩,false):=by unfold enG;rw [if_neg h]
theorem a86 (h:QF q) (hk:(enG q irq).2=true):QF (enG q irq).1:=by
 grind [b8r,b1Y,b8s]
theorem c1A (h:QF q) (hn:¬ (0<=n8 q.sl irq/\N2 (q.sl.getD (n8 q.sl irq).toNat default)=true)):edG q.sl irq=([],false):=by
 refine b5T ?_
 rcases Int.lt_or_le (n8 q.sl irq) 0 with g | g
 ·exact .inl g
 ·obtain ⟨k,e1,e2,e3,e4⟩:=a0n g
  have hb:=(h.sl.ok k (by rw [← h.sl.len];exact e2) e3).1
  refine .inr ?_
  rw [e1,Int.toNat_natCast] at hn ⊢
  have:¬ ((q.sl.getD k default).s=2∨(q.sl.getD k default).s=3):=λe=>hn ⟨by omega,r4.mpr e⟩
  omega
theorem b5V (h:QF q) (hn:¬ (0<=n8 q.sl irq/\N2 (q.sl.getD (n8 q.sl irq).toNat default)=true)):Res.many [.fr e 3 ((edG q.sl irq).1.map f9),.v (.bool (edG q.sl irq).2)]=.many [.fr e 3 (([]:List Slot).map f9),.v (.bool false)]:=by rw [c1A h hn]
def q0:Que:=⟨[zSl,zSl,zSl,zSl],[]⟩
theorem c20:QF q0:=by
 have hz:∀i,i < 4→([zSl,zSl,zSl,zSl]:List Slot).getD i default=zSl:=λi hi=>by
  grind
 refine ⟨⟨Z,λi hi _=>hz i hi,λi hi h0=>absurd ?_ h0,λi j hij hj h0=>absurd ?_ h0⟩,Nat.zero_le _,λw hw=>(by cases hw),List.Pairwise.nil⟩
 ·show (([zSl,zSl,zSl,zSl]:List Slot).getD i default).s=0;rw [hz i hi];rfl
 ·show (([zSl,zSl,zSl,zSl]:List Slot).getD i default).s=0;rw [hz i J];rfl
end
def tkX (x:Ifc):Ifc×Int:=if okT x then (a1H x,tkI x.qu.sl) else (x,-1)
def lvX (x:Ifc):Ifc×Int:=if x.st.length=0 then (x,-1) else (a1h x,H3 x)
section
variable {x:Ifc}
theorem b8t (h:okT x=true):tkX x=(a1H x,tkI x.qu.sl):=by unfold tkX;rw [h];rfl
theorem b8u (h:okT x=false):tkX x=(x,-1):=by unfold tkX;rw [h];rfl
theorem b26 (h:IfG x):IfG (tkX x).1:=by
 cases hk:okT x
 ·rw [b8u hk];exact h
 ·rw [b8t hk];exact b7z h hk
theorem b8v (h:¬ x.st.length=0):lvX x=(a1h x,H3 x):=by unfold lvX;rw [if_neg h]
theorem b8w (h:x.st.length=0):lvX x=(x,-1):=by unfold lvX;rw [if_pos h]
theorem b27 (h:IfG x):IfG (lvX x).1:=by
 grind [b8w,b8v,b7B]
theorem b5W:IfG a7P:=⟨⟨c20,Nat.zero_le _,λq hq=>(by cases hq)⟩,List.nodup_nil⟩
end
def DrQ (q:Que):Prop:=q.sl.length<=5/\q.wa.length<=10
def DrI (x:Ifc):Prop:=x.st.length<=5/\x.qu.sl.length<=5/\x.qu.wa.length<=10
structure DrM (m:Mach):Prop where
 rs:m.rs.length=8
 en:m.en.length=8
 ra:m.ra.length<=9
 n:1<=m.cp.length/\m.cp.length<=3
 cp:∀x∈m.cp,DrI x
theorem QF.dr {q:Que} (h:QF q):DrQ q:=⟨by rw [h.sl.len];decide,by have:=h.wn8;omega⟩
theorem IfG.dr (h:IfG x):DrI x:=⟨by have:=h.f.sn;omega,h.f.qu.dr.1,h.f.qu.dr.2⟩
theorem DrI.sz (h:DrI x):szI x<=20:=by
 obtain ⟨h1,h2,h3⟩:=h
 unfold szI
 omega
theorem DrM.small (h:DrM m):SmallM m:=by
 have h1:=h.n
 refine ⟨by rw [h.rs];decide,by rw [h.en];decide,by have:=h.ra;omega,by omega,?_⟩
 have key:∀i,i<=m.cp.length→sumI m.cp i<=20 * i:=by
  intro i
  induction i with
  | zero=>intro _;exact Int.le_refl _
  | succ i ih =>
   intro hi
   rw [a0b]
   have:=ih J
   have:=(h.cp (m.cp.getD i default) (f8.mpr ⟨i,by omega,Z⟩)).sz
   push_cast
   omega
 grind
theorem MaG.dr (h:MaG m):DrM m:=⟨h.rn,h.en,by rw [h.ra];decide,by have:=h.n;omega,λx hx=>by
 obtain ⟨k,hk,rfl⟩:=f8.mp hx
 exact (h.ok k hk).dr⟩
theorem DrM.setR (h:DrM m) {k:Nat} {r:Route}:DrM ⟨m.rs.set k r,m.en,m.ra,m.cp⟩:=⟨by show (m.rs.set k r).length=8;rw [List.length_set];exact h.rs,h.en,h.ra,h.n,h.cp⟩
theorem DrM.addA (h:DrM m) (h8:m.ra.length=8) {b:Bool}:DrM ⟨m.rs,m.en,m.ra++[b],m.cp⟩:=⟨h.rs,h.en,by show (m.ra++[b]).length<=9;rw [List.length_append,List.length_cons,List.length_nil,h8];decide,h.n,h.cp⟩
theorem DrM.setC (h:DrM m) {k:Nat} {x:Ifc} (hx:DrI x):DrM ⟨m.rs,m.en,m.ra,m.cp.set k x⟩:=⟨h.rs,h.en,h.ra,by show 1<=(m.cp.set k x).length/\(m.cp.set k x).length<=3;rw [List.length_set];exact h.n,λy hy=>by
 rcases List.mem_or_eq_of_mem_set hy with g | g
 ·exact h.cp y g
 ·rw [g];exact hx⟩
theorem DrM.addC (h:DrM m) (hn:m.cp.length<=2) {x:Ifc} (hx:DrI x):DrM ⟨m.rs,m.en,m.ra,m.cp++[x]⟩:=⟨h.rs,h.en,h.ra,by show 1<=(m.cp++[x]).length/\(m.cp++[x]).length<=3;rw [List.length_append,List.length_cons,List.length_nil];omega,λy hy=>by
 rcases List.mem_append.mp hy with g | g
 ·exact h.cp y g
 ·rw [List.mem_singleton.mp g];exact hx⟩
def b28 (cpus:Int) (rs:List Route):Prop:=∀r∈rs,(0<=r.p/\r.p<=15)/\0<=r.t/\r.t<=cpus - 1
theorem b5X {r:Route} (h:b28 c rs) (hr:(0<=r.p/\r.p<=15)/\0<=r.t/\r.t<=c - 1):b28 c (rs++[r]):=λx hx=>by
 rcases List.mem_append.mp hx with g | g
 ·exact h x g
 grind
theorem c1B (h:b28 c rs) (hl:rs.length=8) (hc:1<=c/\c<=2):okRts rs c=true:=s8.mpr ⟨hc,hl,λi hi=>h _ (f8.mpr ⟨i,by omega,Z⟩)⟩
theorem c1C {c:Nat} (h:okRts rs c=true):MaG (a6M rs c):=by
 have hr:=s8.mp h
 have hl:(a6M rs c).cp.length=c:=by show (List.replicate c a7P).length=c;rw [List.length_replicate]
 refine ⟨by rw [hl];exact h,by rw [hl];omega,hr.2.1,by show (List.replicate 8 false).length=8;rw [List.length_replicate],by show (List.replicate 8 false).length=8;rw [List.length_replicate],λk hk=>?_⟩
 rw [hl] at hk
 show IfG ((List.replicate c a7P).getD k default)
 rw [b5b hk]
 exact b5W
theorem MaG.lines (h:MaG m) {en ra:List Bool} (h1:en.length=8) (h2:ra.length=8):MaG ⟨m.rs,en,ra,m.cp⟩:=⟨h.rt,h.n,h.rn,h1,h2,h.ok⟩
end Go.Rf
namespace Go.Rf
open Go Go.RowKit
section
variable {P:Program} {ops:Array Oper} {Q:Exit→Act→World→Prop} {md:Region.Mode} {S:World→Prop} {ks:List Nat}
def b06 (ks:List Nat) (listed:Array Bool):Bool:=ks.any λk=>listed.getD k true
def a56 (P:Program) (md:Region.Mode) (ops:Array Oper) (Q:Exit→Act→World→Prop) (S:World→Prop) (ks:List Nat):Nat→Array Bool→Act→World→Prop
 | 0,listed,a,w=>Region.ready md ops listed=[]/\Q .normal a w
 | fuel+1,listed,a,w=>(Region.ready md ops listed=[]→Q .normal a w) /\
  ∀i∈Region.ready md ops listed,wpOp P ops Q i (λa' w'=>(b06 ks (listed.setIfInBounds i true)=false→S w')/\a56 P md ops Q S ks fuel (listed.setIfInBounds i true) a' w') a w
theorem a7X:∀(fuel:Nat) (listed:Array Bool) (a:Act) (w:World),a56 P md ops Q S ks fuel listed a w→wpAny P md ops Q fuel listed a w
 | 0,_,_,_,h=>h
 | fuel+1,_,_,_,h=>⟨h.1,λi hi=>wpOp_mono (λa' w' h'=>a7X fuel _ a' w' h'.2) (h.2 i hi)⟩
def b29 (md:Region.Mode) (ops:Array Oper) (i:Nat) (D:List Nat):Bool :=
 D.all λd=>!(d==i) && match ops[d]? with
  | some o=>o.after.any λe=>Region.binds md e && (e.on==i || D.contains e.on)
  | none=>false
theorem b5Y {i j:Nat} {D:List Nat} {listed:Array Bool} (hi:listed.getD i true=false) (hu:∀d∈D,listed.getD d true=false) (hD:b29 md ops i D=true) (hj:j∈D):j∉Region.ready md ops listed:=λhr=>by
 obtain ⟨_,o,ho,hall⟩:=mem_ready.1 hr
 have h:=List.all_eq_true.1 hD j hj
 grind
theorem b7F {i:Nat} {D:List Nat} (hD:b29 md ops i D=true) {d:Nat} (hd:d∈D):i≠d:=λe=>by
 have h:=List.all_eq_true.1 hD d hd
 grind
theorem a95 {i:Nat} {oi:Oper} {v:Value} {D:List Nat} (hi:ops[i]?=some oi) (hsel:∀(j:Nat) (o:Oper) cs b,ops[j]?=some o→o.op≠.select cs b)
 (hQ:∀c a w,Q (.panic c) (a.put oi.dst v) w→Q (.panic c) a w) (hD:b29 md ops i D=true) (hk:∀k∈ks,k∈D) :
 ∀(fuel:Nat) (listed:Array Bool) (a:Act) (w:World),
  (∀j oj,ops[j]?=some oj→j≠i→listed.getD j true=false→(∀e∈oj.after,Region.binds md e=true→e.on≠i)→oi.apart ops oj=true)→(∀d∈D,listed.getD d true=false) →
  i∈Region.ready md ops listed→YieldsIf P ops S oi v a→S w →
  a56 P md ops Q S ks fuel (listed.setIfInBounds i true) (a.put oi.dst v) w→a56 P md ops Q S ks (fuel+1) listed a w:=by
 intro fuel
 induction fuel with
 | zero =>
  intro listed a w _ _ hr hy hS H
  refine ⟨λh=>(by rw [h] at hr;cases hr),λj hj=>?_⟩
  by_cases hji:j=i
  ·subst hji;exact hy.wpOp hi hS ⟨λ_=>hS,H⟩
  ·have:=ready_mono hj hji
   rw [H.1] at this
   cases this
 | succ fuel ih =>
  intro listed a w hfree hu hr hy hS H
  refine ⟨λh=>(by rw [h] at hr;cases hr),λj hj=>?_⟩
  by_cases hji:j=i
  ·subst hji;exact hy.wpOp hi hS ⟨λ_=>hS,H⟩
  ·have h1:=H.2 j (ready_mono hj hji)
   obtain ⟨hjun,oj,hoj,hall⟩:=mem_ready.1 hj
   have hiun:=(mem_ready.1 hr).1
   have hnot:∀e∈oj.after,Region.binds md e=true→e.on≠i:=λe he hb heq=>by
    grind
   have hjD:∀d∈D,j≠d:=λd hd e=>b5Y hiun hu hD (e▸hd) hj
   have h2:=wpOp_putIf hoj (hfree j oj hoj hji hjun hnot) (λcs b=>hsel i oi cs b hi) (λcs b=>hsel j oj cs b hoj) hQ hy h1
   have hfree':∀k ok,ops[k]?=some ok→k≠i→(listed.setIfInBounds j true).getD k true=false →
    (∀e∈ok.after,Region.binds md e=true→e.on≠i)→oi.apart ops ok=true:=λk ok hk hki hun hno=>by
    refine hfree k ok hk hki ?_ hno
    by_cases hjk:j=k
    ·subst hjk;exact hjun
    ·rw [getD_set_ne true hjk] at hun;exact hun
   have hu':∀d∈D,(listed.setIfInBounds j true).getD d true=false:=λd hd=>by rw [getD_set_ne true (hjD d hd)];exact hu d hd
   have hoff:b06 ks ((listed.setIfInBounds i true).setIfInBounds j true)=false:=by
    rw [← Bool.not_eq_true,b06,List.any_eq_true]
    rintro ⟨k,hks,hkt⟩
    rw [getD_set_ne true (hjD k (hk k hks)),getD_set_ne true (b7F hD (hk k hks)),hu k (hk k hks)] at hkt
    cases hkt
   refine wpOp_mono (λa' w' h3=>?_) h2
   have hS':=h3.2.1 hoff
   refine ⟨λ_=>hS',ih (listed.setIfInBounds j true) a' w' hfree' hu' (ready_mono hr (Ne.symm hji)) h3.1 hS' ?_⟩
   rw [Array.setIfInBounds_comm _ _ hji]
   exact h3.2.2
end
section
variable {P:Program} [Env P] {b:Base} {ops:Array Oper} {o:Oper} {T:List (Nat×AV)} {m m0:List (Nat×Option Row)} {nx nt d i fuel:Nat} {listed:Array Bool} {r:AV} {K:St→Prop} {ks:List Nat}
def WAk (P:Program) (b:Base) (ops:Array Oper) (m0:List (Nat×Option Row)) (ks:List Nat) (fuel:Nat) (listed:Array Bool) (S:St) (K:St→Prop):Prop :=
 Region.noSelect ops=true→∀ρ a w,RelT b.w ρ S.T S.nx S.nt a→RelC b ρ S.m S.nx w→(b06 ks listed=false→Cls b m0 w)→a56 P .any ops (a1V b (nq K)) (Cls b m0) ks fuel listed a w
theorem s6 [EnvAt P b] (i:Nat) (D:List Nat) (hi:ops[i]?=some o) (hf:Region.free .any ops listed i=true) (hr:(Region.ready .any ops listed).contains i=true) (hw:(b29 .any ops i D && (ks.all λk=>D.contains k) && D.all λd=>!listed.getD d true)=true) (hp:a4f o.op=true) (hg:o.guard=none)
 (hd:o.dst=some d) (hlt:Nat.blt d nt=true) (hq:QStep P o T m0 nx nt r) (hk:WAk P b ops m0 ks fuel (listed.setIfInBounds i true) ⟨(d,r) :: T,m,nx,nt⟩ K):WAk P b ops m0 ks (fuel+1) listed ⟨T,m,nx,nt⟩ K:=by
 intro hs ρ a w hT hC hS0
 simp only [Bool.and_eq_true,List.all_eq_true,List.contains_iff_mem,Bool.not_eq_true'] at hw
 obtain ⟨⟨h1,h2⟩,h3⟩:=hw
 have hoff:b06 ks listed=false:=by
  grind [b06]
 have hS:=hS0 hoff
 obtain ⟨y,hy,hq⟩:=hq b ρ a w hT (hC.pinned hS)
 refine a95 hi (Region.noSelect_spec hs) (λc a w h=>absurd (E3 h) (by simp)) h1 h2 fuel listed a w (Region.free_spec hi hf) h3 (by simpa using hr) (v:=y) (.inl ⟨by simp [Region.wanted,hg],λw' hw'=>?_⟩) hS ?_
 ·have h1:=hq w' (hC.pinned hw')
  unfold Oper.quietAt at h1
  generalize hres:(execOp a.eval o).run P w'=res at *
  cases res with
  | ok n w'' =>
   obtain ⟨v,rfl⟩:=a5W hp hres
   simp only [Oper.quietUpon] at h1
   rw [h1.1,h1.2]
  | halt x w''=>simp only [Oper.quietUpon] at h1
 ·rw [hd]
  exact hk hs ρ _ w (hT.put hlt hy) hC λ_=>hS
def WBk (P:Program) (b:Base) (ops:Array Oper) (m0:List (Nat×Option Row)) (ks:List Nat) (fuel:Nat) (listed:Array Bool) (i:Nat) (S:St) (K:St→Prop):Prop :=
 Region.noSelect ops=true→∀ρ a w,RelT b.w ρ S.T S.nx S.nt a→RelC b ρ S.m S.nx w→wpOp P ops (a1V b (nq K)) i (λa' w'=>(b06 ks (listed.setIfInBounds i true)=false→Cls b m0 w')/\a56 P .any ops (a1V b (nq K)) (Cls b m0) ks fuel (listed.setIfInBounds i true) a' w') a w
theorem u4 (i:Nat) {S:St} (hr:Region.ready .any ops listed=[i]) (h:WBk P b ops m0 ks fuel listed i S K):WAk P b ops m0 ks (fuel+1) listed S K :=
 λhs ρ a w hT hC hS=>⟨λh0=>(by rw [hr] at h0;cases h0),λj hj=>by
  rw [hr] at hj
  rw [List.mem_singleton.1 hj]
  exact h hs ρ a w hT hC⟩
theorem c1D {S:St} (hr:Region.ready .any ops listed=[]) (h:K S):WAk P b ops m0 ks fuel listed S K:=λhs ρ a w hT hC hS=>by
 have hq:a1V b (nq K) .normal a w:=⟨ρ,S,h,hT,hC⟩
 cases fuel with
 | zero=>exact ⟨hr,hq⟩
 | succ f=>exact ⟨λ_=>hq,by rw [hr];simp⟩
theorem y7 (ms:List Nat) {S:St} (hi:ops[i]?=some o) (hg:o.guard=none)
 (h:WX P b ops o [] S (nq (λS'=>N6 b.n0 S'.m ms []=some m0/\WAk P b ops m0 ks fuel (listed.setIfInBounds i true) S' K))):WBk P b ops m0 ks fuel listed i S K:=by
 intro hs ρ a w hT hC
 unfold wpOp
 simp only [hi]
 rw [if_pos (by simp [Region.wanted,hg])]
 refine .inl (b2p (h ρ a w hT hC) ?_)
 rintro a' w' ⟨ρ',S',⟨h1,h2⟩,hT',hC'⟩
 exact ⟨λ_=>hC'.cls h1,h2 hs ρ' a' w' hT' hC' λ_=>hC'.cls h1⟩
theorem a4r {S:St} (hi:ops[i]?=some o) (hg:o.guard=none) (hoff:b06 ks (listed.setIfInBounds i true)=true)
 (h:WX P b ops o [] S (nq (λS'=>WAk P b ops m0 ks fuel (listed.setIfInBounds i true) S' K))):WBk P b ops m0 ks fuel listed i S K:=by
 intro hs ρ a w hT hC
 unfold wpOp
 simp only [hi]
 rw [if_pos (by simp [Region.wanted,hg])]
 refine .inl (b2p (h ρ a w hT hC) ?_)
 rintro a' w' ⟨ρ',S',h2,hT',hC'⟩
 exact ⟨λe=>(by rw [hoff] at e;cases e),h2 hs ρ' a' w' hT' hC' λe=>(by rw [hoff] at e;cases e)⟩
theorem O3 {w0:Base} (n:Nat) (ms ks:List Nat) {id:Nat} {l:List Oper} {Q:Exit→St→Prop} (hm:P.follows .mixedOrders=true) (hs:Region.noSelect l.toArray=true) (hn:l.toArray.size=n) (hK:N6 nx m ms []=some m0)
 (h:∀r0,WAk P ⟨w0.w,nx,r0,w0.ws,w0.keep,w0.kb,w0.E,w0.hE⟩ l.toArray m0 ks n (Array.replicate n false) ⟨T,m,nx,nt⟩ K) (hq:∀S',K S'→Q .normal S'):W P w0 (.region id l.toArray true) ⟨T,m,nx,nt⟩ Q:=by
 intro ρ a w hT hC
 have hC1:RelC ⟨w0.w,nx,ρ,w0.ws,w0.keep,w0.kb,w0.E,w0.hE⟩ ρ m nx w.drew:=let h:=hC.drew;⟨h.rows,h.apart,h.below,⟨Nat.le_refl _,λ_ _=>Z⟩,h.kept,h.inner⟩
 subst hn
 have h1:=h ρ hs ρ a w.drew hT hC1 λ_=>RelC.cls (ms:=ms) hC1 hK
 refine wp_mono (wp_region_any hm (a7X _ _ _ _ h1)) ?_
 rintro e a' w' ⟨ρ',S',h2,h3,h4⟩
 cases e<;>simp only [nq] at h2
 exact ⟨ρ',S',hq S' h2,h3,h4.rows,h4.apart,h4.below,⟨Nat.le_trans hC.pin.1 h4.pin.1,λi hi=>(h4.pin.2 i (Nat.lt_of_lt_of_le hi hC.pin.1)).trans (hC.pin.2 i hi)⟩,h4.kept,h4.inner⟩
end
end Go.Rf
namespace Go.Rf
open Go
variable {a:Abs} {i k:Nat} {m:Mach} {rs:List Route} {sl:List Slot} {x:Ifc}
def Pn (q:Que) (w:Wtr):Prop:=w∈q.wa∨∃x∈q.sl,pnP x=true/\wOf x=w
theorem a96 {q:Que} {w:Wtr}:∀i,w∈pnL q i↔w∈q.wa∨∃j,j < i/\pnP (q.sl.getD j default)=true/\wOf (q.sl.getD j default)=w
 | 0=>⟨.inl,λh=>by
  rcases h with h | ⟨j,h,_⟩
  ·exact h
  ·omega⟩
 | i+1=>by
  have ih:=@a96 q w i
  show w∈(if pnP _ then _ else _:List Wtr)↔_
  split
  ·next h =>
   rw [List.mem_append,List.mem_singleton,ih]
   constructor
   ·rintro ((g | ⟨j,h1,h2⟩) | g)
    ·exact .inl g
    ·exact .inr ⟨j,by omega,h2⟩
    ·exact .inr ⟨i,by omega,h,g.symm⟩
   ·rintro (g | ⟨j,h1,h2,h3⟩)
    ·exact .inl (.inl g)
    ·by_cases e:j=i
     ·subst e;exact .inr h3.symm
     ·exact .inl (.inr ⟨j,by omega,h2,h3⟩)
  ·next h =>
   rw [ih]
   constructor
   ·rintro (g | ⟨j,h1,h2⟩)
    ·exact .inl g
    ·exact .inr ⟨j,by omega,h2⟩
   ·rintro (g | ⟨j,h1,h2,h3⟩)
    ·exact .inl g
    ·by_cases e:j=i
     ·subst e;exact absurd h2 h
     ·exact .inr ⟨j,by omega,h2,h3⟩
theorem b7G {q:Que} (h:QF q) {z:Int}:z∈G3 q↔∃w,Pn q w/\w.q=z:=by
 unfold G3
 rw [List.mem_map]
 constructor
 ·rintro ⟨w,h1,h2⟩
  rw [a9U h,a96] at h1
  refine ⟨w,?_,h2⟩
  rcases h1 with g | ⟨j,g1,g2,g3⟩
  ·exact .inl g
  ·exact .inr ⟨_,f8.mpr ⟨j,by rw [h.sl.len];exact g1,Z⟩,g2,g3⟩
 ·rintro ⟨w,h1,h2⟩
  refine ⟨w,?_,h2⟩
  rw [a9U h,a96]
  rcases h1 with g | ⟨x,g1,g2,g3⟩
  ·exact .inl g
  ·obtain ⟨j,hj,rfl⟩:=f8.mp g1
   exact .inr ⟨j,by rw [← h.sl.len];exact hj,g2,g3⟩
theorem b2b {l:List Slot} {k:Nat} {x:Slot} {P:Slot→Prop} (hk:k < l.length):(∃y∈l.set k x,P y)↔P x∨∃j,j < l.length/\j≠k/\P (l.getD j default):=by
 constructor
 ·grind [a2d]
 ·rintro (p | ⟨j,h1,h2,p⟩)
  ·exact ⟨x,f8.mpr ⟨k,by rw [List.length_set];exact hk,by rw [z8 hk,if_pos Z]⟩,p⟩
  ·grind [f8]
theorem b5Z {l:List Slot} {k:Nat} {P:Slot→Prop} (hk:k < l.length):(∃y∈l,P y)↔P (l.getD k default)∨∃j,j < l.length/\j≠k/\P (l.getD j default):=by
 grind [f8]
theorem c1E {q:Que} (h:QF q) (hs:setd q=false) {w:Wtr}:Pn (stQ q) w↔Pn q w:=by
 obtain ⟨k,v,r,n⟩:=a9L h hs
 have hl:k < q.sl.length:=by rw [h.sl.len];exact n.kl
 rw [n.eq]
 show (w∈stW q∨∃x∈q.sl.set k ⟨1,v.q,v.p⟩,pnP x=true/\wOf x=w)↔(w∈q.wa∨∃x∈q.sl,pnP x=true/\wOf x=w)
 rw [b2b (P:=λx=>pnP x=true/\wOf x=w) hl,b5Z (P:=λx=>pnP x=true/\wOf x=w) hl,n.wa,List.mem_cons]
 have h1:(pnP (⟨1,v.q,v.p⟩:Slot)=true/\wOf ⟨1,v.q,v.p⟩=w)↔w=v:=by
  constructor
  ·rintro ⟨_,e⟩;exact e.symm
  ·rintro rfl;exact ⟨B4.mpr (.inl Z),Z⟩
 rw [h1]
 rcases n.st with ⟨_,f2,f3⟩ | ⟨_,_,f2,_,f4⟩
 ·grind [B4]
 ·grind [a1F,B4]
theorem b3a:∀{n:Nat} {q:Que},QF q→∀{w:Wtr},Pn (a4o n q) w↔Pn q w
 | 0,q,_,w=>Iff.rfl
 | n+1,q,h,w=>by
  unfold a4o
  cases hs:setd q
  ·simp_all [b3a,a7N,c1E]
  ·simp only [if_true]
theorem b3b {q:Que} (h:QF q) {w:Wtr}:Pn (a0F q) w↔Pn q w:=b3a h
theorem SlF.ne (h:SlF sl) {j k:Nat} (hj:j < 4) (hk:k < 4) (hjk:j≠k) (h1:(sl.getD j default).s≠0) (h2:(sl.getD k default).s≠0):(sl.getD j default).q≠(sl.getD k default).q:=by
 rcases Nat.lt_or_ge j k with g | g
 ·exact h.dif j k g hk h1 h2
 ·exact λe=>h.dif k j J hj h2 h1 e.symm
theorem a5u {α:Type} [Inhabited α] {l:List α} {k:Nat} (hk:k < l.length):l.set k (l.getD k default)=l:=by
 simp_all
theorem b3c (h:SlF sl):∀i,i<=4→∀j,j < i→(sl.getD j default).s=1→0<=B2 sl true i/\((B2 sl true i).toNat=j∨lessW (wOf (sl.getD (B2 sl true i).toNat default)) (wOf (sl.getD j default))=true)
 | 0,_,j,hj,_=>by omega
 | i+1,hi,j,hj,h1=>by
  have ih:=b3c h i J
  cases hc:a2Z sl true (B2 sl true i) i
  ·rw [a1e hc]
   by_cases e:j=i
   ·subst e
    by_cases hb:B2 sl true j < 0
    ·rw [a3B h1 hb] at hc;cases hc
    ·rw [a21 h1 hb,if_pos Z] at hc
     have hbl:=@Z0 sl true j
     have h1':=a1C (sl:=sl) (most:=true) j J
     refine ⟨by omega,.inr ?_⟩
     rw [a0a (show (wOf (sl.getD (B2 sl true j).toNat default)).q≠(wOf (sl.getD j default)).q from h.ne J J J J J),hc]
     rfl
   grind
  ·grind [a1d,a3A,a21,L2]
theorem b3d (h:SlF sl):∀i,i<=4→∀j,j < i→(sl.getD j default).s=1→0<=B2 sl false i/\((B2 sl false i).toNat=j∨lessW (wOf (sl.getD j default)) (wOf (sl.getD (B2 sl false i).toNat default))=true)
 | 0,_,j,hj,_=>by omega
 | i+1,hi,j,hj,h1=>by
  have ih:=b3d h i J
  cases hc:a2Z sl false (B2 sl false i) i
  ·rw [a1e hc]
   by_cases e:j=i
   ·subst e
    by_cases hb:B2 sl false j < 0
    ·rw [a3B h1 hb] at hc;cases hc
    ·rw [a21 h1 hb,if_neg (by decide)] at hc
     have hbl:=@Z0 sl false j
     have h1':=a1C (sl:=sl) (most:=false) j J
     refine ⟨by omega,.inr ?_⟩
     rw [a0a (show (wOf (sl.getD j default)).q≠(wOf (sl.getD (B2 sl false j).toNat default)).q from h.ne J J J J J),hc]
     rfl
   grind
  ·grind [a1d,a3A,a21,L2]
theorem b7H {sl:List Slot} {most:Bool} (h:SlF sl) (hb:bstS sl most < 0):∀x∈sl,x.s≠1:=λx hx=>by
 obtain ⟨j,hj,rfl⟩:=f8.mp hx
 exact a7J sl.length |>.mp hb j hj
theorem b50:freS sl < 0↔∀x∈sl,x.s≠0:=by
 grind [a8R,f8]
theorem a5v {q:Que} (h:QF q):setd q=true↔(q.wa.length≠0→∀x∈q.sl,x.s≠0)/\∀x∈q.sl,x.s=1→∀w∈q.wa,lessW (wOf x) w=true:=by
 have h4:=h.sl.len
 constructor
 ·intro hs
  by_cases h0:q.wa.length=0
  ·grind
  ·have hf:freS q.sl < 0:=by
    grind [b1V]
   refine ⟨λ_=>b50.mp hf,λx hx h1 w hw=>?_⟩
   obtain ⟨j,hj,rfl⟩:=f8.mp hx
   obtain ⟨g1,g2⟩:=b3d h.sl 4 (Nat.le_refl _) j J h1
   have eb:bstS q.sl false=B2 q.sl false 4:=by unfold bstS;rw [h4]
   rw [a9I h0 hf J,eb] at hs
   have h2:lessW (wOf (q.sl.getD j default)) (q.wa.getD 0 default)=true:=by
    rcases g2 with g2 | g2
    ·rw [← g2];exact hs
    ·exact L2 g2 hs
   obtain ⟨i,hi,rfl⟩:=f8.mp hw
   rcases Nat.eq_zero_or_pos i with g | g
   ·subst g;exact h2
   ·exact L2 h2 (a3D.mp h.pw 0 i g hi).1
 ·grind [a9H,b50,b1W,a9I,B7]
section
variable {q:Que} {w:Wtr}
theorem b3e (hb:0<=bstS q.sl true):∀x∈(a23 q).sl,x.s=2∨x∈q.sl:=λx hx=>by
 obtain ⟨k,e1,e2,e3⟩:=B7 hb
 have hx:x∈q.sl.set (bstS q.sl true).toNat ⟨2,(q.sl.getD (bstS q.sl true).toNat default).q,(q.sl.getD (bstS q.sl true).toNat default).p⟩:=hx
 grind
theorem b51 (h:QF q) (hs:setd q=true) (hb:0<=bstS q.sl true):setd (a23 q)=true:=by
 rw [a5v (b1X h hb)]
 rw [a5v h] at hs
 refine ⟨λhw x hx=>?_,λx hx h1 w hw=>?_⟩
 ·rcases b3e hb x hx with g | g
  ·omega
  ·exact hs.1 hw x g
 ·rcases b3e hb x hx with g | g
  ·omega
  ·exact hs.2 x g h1 w hw
theorem c1F (h:QF q) (hb:0<=bstS q.sl true):Pn (a23 q) w↔Pn q w/\w.q≠tkI q.sl:=by
 obtain ⟨k,e1,e2,e3⟩:=B7 hb
 have hk:k < 4:=by rw [← h.sl.len];exact e2
 have et:tkI q.sl=(q.sl.getD k default).q:=by unfold tkI;rw [e1,Int.toNat_natCast]
 rw [et]
 unfold Pn a23 tkS
 rw [e1,Int.toNat_natCast]
 dsimp only
 rw [b2b (P:=λx=>pnP x=true/\wOf x=w) e2,b5Z (P:=λx=>pnP x=true/\wOf x=w) e2]
 constructor
 ·rintro (g | ⟨g,_⟩ | ⟨j,h1,h2,h3,rfl⟩)
  ·exact ⟨.inl g,λe=>(h.wa w g).2.2 _ (f8.mpr ⟨k,e2,Z⟩) J e.symm⟩
  ·grind [B4]
  ·refine ⟨.inr (.inr ⟨j,h1,h2,h3,Z⟩),?_⟩
   exact h.sl.ne (by rw [← h.sl.len];exact h1) hk h2 (by rcases B4.mp h3 with g | g<;>omega) J
 ·rintro ⟨g | ⟨_,rfl⟩ | g,h2⟩
  ·exact .inl g
  ·exact absurd Z h2
  ·exact .inr (.inr g)
theorem b7I (h:QF q) (hb:0<=bstS q.sl true) (hw:w∈actL (a23 q).sl):(w.q=tkI q.sl/\∃y∈q.sl,y.s=1/\wOf y=w)∨w∈actL q.sl:=by
 obtain ⟨k,e1,e2,e3⟩:=B7 hb
 obtain ⟨x,hx,h1,h2⟩:=v7.mp hw
 have hx:x∈q.sl.set (bstS q.sl true).toNat ⟨2,(q.sl.getD (bstS q.sl true).toNat default).q,(q.sl.getD (bstS q.sl true).toNat default).p⟩:=hx
 have et:tkI q.sl=(q.sl.getD k default).q:=by unfold tkI;rw [e1,Int.toNat_natCast]
 rw [e1,Int.toNat_natCast] at hx
 rcases a2d e2 hx with rfl | ⟨j,hj,_,rfl⟩
 ·refine .inl ⟨by rw [et,← h2];rfl,_,f8.mpr ⟨k,e2,Z⟩,e3,h2⟩
 ·exact .inr (v7.mpr ⟨_,f8.mpr ⟨j,hj,Z⟩,h1,h2⟩)
theorem c21 (h:QF q) {i:Int} (hf:0<=n8 q.sl i) (ha:(q.sl.getD (n8 q.sl i).toNat default).s=2):Pn ⟨edS q.sl i,q.wa⟩ w↔Pn q w:=by
 obtain ⟨k,e1,e2,e3,e4⟩:=a0n hf
 rw [b21 J,e1,Int.toNat_natCast]
 rw [e1,Int.toNat_natCast] at ha
 unfold Pn
 dsimp only
 rw [b2b (P:=λx=>pnP x=true/\wOf x=w) e2,b5Z (P:=λx=>pnP x=true/\wOf x=w) e2]
 have h1:¬ (pnP zSl=true/\wOf zSl=w):=λg=>by cases g.1
 have h2:¬ (pnP (q.sl.getD k default)=true/\wOf (q.sl.getD k default)=w):=λg=>by rcases B4.mp g.1 with g | g<;>omega
 grind
theorem c1G (h:QF q) {i:Int} (hf:0<=n8 q.sl i) (ha:(q.sl.getD (n8 q.sl i).toNat default).s=2) (hw:w∈actL (edS q.sl i)):w∈actL q.sl/\w.q≠i:=by
 obtain ⟨k,e1,e2,e3,e4⟩:=a0n hf
 have hk:k < 4:=by rw [← h.sl.len];exact e2
 rw [b21 J,e1,Int.toNat_natCast] at hw
 obtain ⟨x,hx,h1,rfl⟩:=v7.mp hw
 rcases a2d e2 hx with rfl | ⟨j,hj,hjk,rfl⟩
 ·cases h1
 ·refine ⟨v7.mpr ⟨_,f8.mpr ⟨j,hj,Z⟩,h1,Z⟩,?_⟩
  rw [← e4]
  exact h.sl.ne (by rw [← h.sl.len];exact hj) hk hjk (by rcases r4.mp h1 with g | g<;>omega) e3
end
def Rt (rs:List Route) (k:Nat) (w:Wtr):Prop:=tgI rs w.q=k/\prI rs w.q=w.p
structure IG (rs:List Route) (k:Nat) (x:Ifc):Prop where
 f:IfF x
 s:setd x.qu=true
 ma:0<=x.ma/\x.ma<=16
 nd:x.st.Nodup
 ac:∀w∈actL x.qu.sl,w.q∈x.st/\Rt rs k w
 dn:∀j,0 < j→j < x.st.length→prI rs (x.st.getD j default) < prI rs (x.st.getD (j - 1) default)
 pp:∀w,Pn x.qu w→w.q∉x.st/\Rt rs k w
section
variable {rs:List Route} {k:Nat} {x:Ifc} {i:Int}
theorem IG.G (h:IG rs k x):IfG x:=⟨h.f,h.nd⟩
theorem IG.no3 (h:IG rs k x) {y:Slot} (hy:y∈x.qu.sl):y.s≠3:=λe=>(h.pp (wOf y) (.inr ⟨y,hy,B4.mpr (.inr e),Z⟩)).1 (h.ac (wOf y) (v7.mpr ⟨y,hy,r4.mpr (.inr e),Z⟩)).1
theorem IG.sb (h:IG rs k x) {y:Slot} (hy:y∈x.qu.sl) (h0:y.s≠0):y.s=1∨y.s=2:=by
 have h3:=h.no3 hy
 obtain ⟨j,hj,rfl⟩:=f8.mp hy
 have hb:=(h.f.qu.sl.ok j (by rw [← h.f.qu.sl.len];exact hj) h0).1
 omega
theorem IG.rt (h:IG rs k x) {y:Slot} (hy:y∈x.qu.sl) (h0:y.s≠0):Rt rs k (wOf y):=by
 rcases h.sb hy h0 with e | e
 ·exact (h.pp _ (.inr ⟨y,hy,B4.mpr (.inl e),Z⟩)).2
 ·exact (h.ac _ (v7.mpr ⟨y,hy,r4.mpr (.inl e),Z⟩)).2
theorem IG.off (h:IG rs k x) (ht:tgI rs i=k) (hn:i∉x.st) {w:Wtr}:Pn (a4p x.qu i (prI rs i)) w↔w=⟨i,prI rs i⟩∨Pn x.qu w:=by
 have stay:a4p x.qu i (prI rs i)=x.qu→Pn x.qu ⟨i,prI rs i⟩→(Pn (a4p x.qu i (prI rs i)) w↔w=⟨i,prI rs i⟩∨Pn x.qu w):=λe g=>by
  grind
 by_cases h1:0<=n8 x.qu.sl i
 ·obtain ⟨j,e1,e2,e3,e4⟩:=a0n h1
  have hm:x.qu.sl.getD j default∈x.qu.sl:=f8.mpr ⟨j,e2,Z⟩
  have hs1:(x.qu.sl.getD j default).s=1:=by
   rcases h.sb hm e3 with e | e
   ·exact e
   ·exact absurd (h.ac _ (v7.mpr ⟨_,hm,r4.mpr (.inl e),Z⟩)).1 (by show ¬ (x.qu.sl.getD j default).q∈x.st;rw [e4];exact hn)
  have e5:(x.qu.sl.getD j default).p=prI rs i:=by rw [← e4];exact (h.rt hm e3).2.symm
  have hw:wOf (x.qu.sl.getD j default)=⟨i,prI rs i⟩:=by
   show (⟨(x.qu.sl.getD j default).q,(x.qu.sl.getD j default).p⟩:Wtr)=_
   rw [e4,e5]
  refine stay ?_ (.inr ⟨_,hm,B4.mpr (.inl hs1),hw⟩)
  have e6:ptS x.qu.sl i=x.qu.sl:=by
   rw [b0U (by rw [e1,Int.toNat_natCast];omega),e1,Int.toNat_natCast]
   exact a5u e2
  rw [b1Z h1,e6]
 ·by_cases h2:0<=inW x.qu.wa i
  ·have hx:∃w∈x.qu.wa,w.q=i:=by
    rcases Classical.em (∃w∈x.qu.wa,w.q=i) with g | g
    ·exact g
    ·exact absurd (b2K.mpr λw hw e=>g ⟨w,hw,e⟩) J
   obtain ⟨v,hv,e⟩:=hx
   have ew:v=⟨i,prI rs i⟩:=by
    have:=(h.pp v (.inl hv)).2.2
    rw [e] at this
    cases v
    grind
   exact stay (b11 J h2) (.inl (ew▸hv))
  ·rw [b10 J J]
   show (w∈insW x.qu.wa ⟨i,prI rs i⟩∨_)↔_
   rw [a1F]
   exact or_assoc
theorem IG.raise (h:IG rs k x) (hi:0<=i/\i<=7) (hp:0<=prI rs i/\prI rs i<=15) (ht:tgI rs i=k) (hn:i∉x.st):IG rs k (a1f x i (prI rs i))/\∀w,Pn (a1f x i (prI rs i)).qu w↔w=⟨i,prI rs i⟩∨Pn x.qu w:=by
 obtain ⟨g1,g2,g3⟩:=a22 h.f.qu hi hp
 have hP:∀w,Pn (a0m x.qu i (prI rs i)) w↔w=⟨i,prI rs i⟩∨Pn x.qu w:=λw=>by unfold a0m;rw [b3b (a9M h.f.qu hi hp).1,h.off ht hn]
 refine ⟨⟨a9N h.f hi hp,g2,h.ma,h.nd,λw hw=>?_,h.dn,λw hw=>?_⟩,hP⟩
 ·have hw:w∈actL (a0m x.qu i (prI rs i)).sl:=hw
  rw [g3] at hw
  exact h.ac w hw
 ·rcases (hP w).mp hw with rfl | g
  ·exact ⟨hn,ht,Z⟩
  ·exact h.pp w g
theorem IG.lv (h:IG rs k x) (hi:i∈x.st):lvl x.qu.sl i=prI rs i:=by
 have hf:=a2e (h.f.st i hi)
 obtain ⟨j,e1,e2,e3,e4⟩:=a0n hf
 unfold lvl
 rw [e1,Int.toNat_natCast,← e4]
 exact (h.rt (f8.mpr ⟨j,e2,Z⟩) e3).2.symm
theorem IG.run (h:IG rs k x):a5g x=if x.st.length=0 then 16 else prI rs (x.st.getD (x.st.length - 1) default):=by
 unfold a5g
 split
 ·rfl
 ·exact h.lv (f8.mpr ⟨x.st.length - 1,by omega,Z⟩)
theorem IG.take (h:IG rs k x) (ho:okT x=true):IG rs k (a1H x)/\∀w,Pn (a1H x).qu w↔Pn x.qu w/\w.q≠tkI x.qu.sl:=by
 obtain ⟨hb,hl⟩:=G2.mp ho
 have hP:∀w,Pn (a23 x.qu) w↔Pn x.qu w/\w.q≠tkI x.qu.sl:=λw=>c1F h.f.qu hb
 obtain ⟨k',e1,e2,e3⟩:=B7 hb
 have hm:x.qu.sl.getD k' default∈x.qu.sl:=f8.mpr ⟨k',e2,Z⟩
 have hr:prI rs (tkI x.qu.sl)=(x.qu.sl.getD (bstS x.qu.sl true).toNat default).p:=by
  unfold tkI
  rw [e1,Int.toNat_natCast]
  exact (h.rt hm J).2
 refine ⟨⟨(b7z h.G ho).f,b51 h.f.qu h.s hb,h.ma,(b7z h.G ho).nd,λw hw=>?_,λj hj0 hj=>?_,λw hw=>?_⟩,hP⟩
 ·rcases b7I h.f.qu hb hw with ⟨g1,y,y1,y2,rfl⟩ | g
  ·exact ⟨List.mem_append_right _ (List.mem_singleton.mpr g1),h.rt y1 J⟩
  ·exact ⟨List.mem_append_left _ (h.ac w g).1,(h.ac w g).2⟩
 ·have hj:j < (x.st++[tkI x.qu.sl]).length:=hj
  rw [List.length_append,List.length_cons,List.length_nil] at hj
  show prI rs ((x.st++[tkI x.qu.sl]).getD j default) < prI rs ((x.st++[tkI x.qu.sl]).getD (j - 1) default)
  rw [a8W (show j - 1 < x.st.length by omega)]
  rcases Nat.lt_or_ge j x.st.length with g | g
  ·rw [a8W g];exact h.dn j hj0 g
  ·rw [a8X g,show j - x.st.length=0 by omega]
   show prI rs (tkI x.qu.sl) < _
   rw [hr]
   have:b33 x<=a5g x:=Int.min_le_right _ _
   rw [h.run,if_neg J] at this
   grind
 ·obtain ⟨g1,g2⟩:=(hP w).mp hw
  refine ⟨λg=>?_,(h.pp w g1).2⟩
  rcases List.mem_append.mp g with g | g
  ·exact (h.pp w g1).1 g
  grind
theorem IG.leave (h:IG rs k x) (h0:x.st.length≠0):IG rs k (a1h x)/\∀w,Pn (a1h x).qu w↔Pn x.qu w:=by
 have hlm:=a1J h0
 obtain ⟨hf,ha⟩:=b22 h.G h0
 obtain ⟨k',e1,e2,e3,e4⟩:=a0n hf
 have h2:(x.qu.sl.getD (n8 x.qu.sl (H3 x)).toNat default).s=2:=by
  have hm:x.qu.sl.getD (n8 x.qu.sl (H3 x)).toNat default∈x.qu.sl:=by rw [e1,Int.toNat_natCast];exact f8.mpr ⟨k',e2,Z⟩
  have:=h.no3 hm
  rcases r4.mp ha with g | g
  ·exact g
  ·exact absurd g this
 have hQ:=a5e h.f.qu hf
 have hP:∀w,Pn (a24 x.qu (H3 x)) w↔Pn x.qu w:=λw=>by unfold a24;rw [b3b hQ,c21 h.f.qu hf h2]
 refine ⟨⟨(b7B h.G h0).f,(b1Y h.f.qu hf).2,h.ma,(b7B h.G h0).nd,λw hw=>?_,λj hj0 hj=>?_,λw hw=>?_⟩,hP⟩
 ·have hw:w∈actL (a0F ⟨edS x.qu.sl (H3 x),x.qu.wa⟩).sl:=hw
  rw [a7O hQ] at hw
  obtain ⟨g1,g2⟩:=c1G h.f.qu hf h2 hw
  refine ⟨?_,(h.ac w g1).2⟩
  obtain ⟨j,hj,e⟩:=f8.mp (h.ac w g1).1
  refine (a5n J).mpr ⟨j,?_,e⟩
  by_cases ej:j=x.st.length - 1
  ·subst ej;exact absurd e.symm g2
  ·omega
 ·have hj:j < (x.st.take (x.st.length - 1)).length:=hj
  rw [List.length_take] at hj
  show prI rs ((x.st.take (x.st.length - 1)).getD j default) < prI rs ((x.st.take (x.st.length - 1)).getD (j - 1) default)
  rw [a1E J,a1E J]
  exact h.dn j hj0 J
 ·have g:=(hP w).mp hw
  exact ⟨λq=>(h.pp w g).1 (List.mem_of_mem_take q),(h.pp w g).2⟩
theorem IG.mask (h:IG rs k x) {v:Int} (hv:0<=v/\v<=16):IG rs k ⟨v,x.st,x.qu⟩:=⟨⟨h.f.qu,h.f.sn,h.f.st⟩,h.s,hv,h.nd,h.ac,h.dn,h.pp⟩
end
theorem a87 {rs:List Route} {a:Abs} {c:Nat}:∀n,(∀i,i < n→(a.po.getD i default=true/\(rs.getD i default).t=c)→0<=r6 rs a c n/\((rs.getD (r6 rs a c n).toNat default).p < (rs.getD i default).p∨((rs.getD (r6 rs a c n).toNat default).p=(rs.getD i default).p/\r6 rs a c n<=i)))/\(0<=r6 rs a c n→a.po.getD (r6 rs a c n).toNat default=true/\(rs.getD (r6 rs a c n).toNat default).t=c)
 | 0=>⟨λi hi=>by omega,λh=>by simp [r6] at h⟩
 | n+1=>by
  obtain ⟨ih1,ih2⟩:=@a87 rs a c n
  have hb:=@a1z rs a c n
  by_cases hc:(a.po.getD n default=true/\(rs.getD n default).t=c)/\(r6 rs a c n < 0∨(rs.getD n default).p < (rs.getD (r6 rs a c n).toNat default).p)
  ·rw [a9y hc.1.1 hc.1.2 hc.2]
   refine ⟨λi hi hci=>⟨by omega,?_⟩,λ_=>by rw [Int.toNat_natCast];exact hc.1⟩
   rw [Int.toNat_natCast]
   grind
  ·grind [r6]
theorem a88:∀i,(∀j,j < i→N2 (sl.getD j default)=true)→(actN sl i).length=i
 | 0,_=>rfl
 | i+1,h=>by rw [b5q (h i J),List.length_append,a88 i (λj hj=>h j J)];rfl
theorem IG.next (h:IG rs k x) (hst:a.st.getD k default=x.st) (hma:a.ma.getD k default=x.ma) (hr:∀i,i < 8→0<=(rs.getD i default).p/\(rs.getD i default).p<=15) (hpo:∀i,i < 8→((a.po.getD i default=true/\(rs.getD i default).t=k)↔∃w,Pn x.qu w/\w.q=i)):(okT x=true→B1 rs a k=tkI x.qu.sl)/\(okT x=false→B1 rs a k=-1):=by
 have h4:=h.f.qu.sl.len
 have hbl:=@a1z rs a k 8
 obtain ⟨m1,m2⟩:=@a87 rs a k 8
 by_cases hb:0<=bstS x.qu.sl true
 ·obtain ⟨j,e1,e2,e3⟩:=B7 hb
  have hm:x.qu.sl.getD j default∈x.qu.sl:=f8.mpr ⟨j,e2,Z⟩
  have ht:tkI x.qu.sl=(x.qu.sl.getD j default).q:=by unfold tkI;rw [e1,Int.toNat_natCast]
  obtain ⟨t1,t2⟩:=b13 h.f.qu.sl hb
  have hlt:=h.G.lt hb
  have hrt:=h.rt hm J
  have hp0:prI rs (x.qu.sl.getD j default).q=(x.qu.sl.getD j default).p:=hrt.2
  have hmin:∀w,Pn x.qu w→w=wOf (x.qu.sl.getD j default)∨lessW (wOf (x.qu.sl.getD j default)) w=true:=by
   rintro w (g | ⟨y,g1,g2,rfl⟩)
   ·exact .inr (((a5v h.f.qu).mp h.s).2 _ hm e3 w g)
   ·obtain ⟨i,hi,rfl⟩:=f8.mp g1
    have hs1:(x.qu.sl.getD i default).s=1:=by
     rcases B4.mp g2 with g | g
     ·exact g
     ·exact absurd g (h.no3 g1)
    obtain ⟨q1,q2⟩:=b3c h.f.qu.sl 4 (Nat.le_refl _) i J hs1
    have eb:B2 x.qu.sl true 4=(j:Int):=by rw [← h4];exact e1
    rw [eb,Int.toNat_natCast] at q2
    grind
  obtain ⟨n,hn⟩:∃n:Nat,tkI x.qu.sl=n:=⟨(tkI x.qu.sl).toNat,by omega⟩
  have hq0:(x.qu.sl.getD j default).q=n:=by rw [← ht];exact hn
  have hc0:a.po.getD n default=true/\(rs.getD n default).t=k:=(hpo n J).mpr ⟨wOf (x.qu.sl.getD j default),.inr ⟨_,hm,B4.mpr (.inl e3),Z⟩,hq0⟩
  obtain ⟨g1,g2⟩:=m1 n J hc0
  obtain ⟨w,w1,w2⟩:=(hpo (r6 rs a k 8).toNat J).mp (m2 g1)
  have hwp:prI rs w.q=w.p:=(h.pp w w1).2.2
  rw [hq0] at hp0
  have hp0:(rs.getD n default).p=(x.qu.sl.getD j default).p:=hp0
  rw [w2] at hwp
  have hwp:(rs.getD (r6 rs a k 8).toNat default).p=w.p:=hwp
  have hbn:r6 rs a k 8=n:=by
   rcases hmin w w1 with g | g
   ·rw [g] at w2
    have w2:(x.qu.sl.getD j default).q=((r6 rs a k 8).toNat:Int):=w2
    omega
   ·rw [Q3] at g
    have g:(x.qu.sl.getD j default).p < w.p∨((x.qu.sl.getD j default).p=w.p/\(x.qu.sl.getD j default).q < w.q):=g
    omega
  have hok:okT x=true↔((x.qu.sl.getD j default).p < x.ma/\(x.qu.sl.getD j default).p < a5g x):=by
   unfold okT
   rw [G2,e1,Int.toNat_natCast]
   unfold b33
   omega
  have htop:b1J rs (a.st.getD k default)=prI rs (x.st.getD (x.st.length - 1) default):=by rw [hst];rfl
  have hrun:=h.run
  have h15:=hr n J
  rw [a7b,hbn,Int.toNat_natCast,hma,htop,hst,hn]
  grind
 ·have hno:∀y∈x.qu.sl,y.s≠1:=b7H (most:=true) h.f.qu.sl J
  have ho:okT x=false:=by unfold okT;rw [a3C];exact λg=>hb g.1
  refine ⟨λg=>(by rw [ho] at g;cases g),λ_=>?_⟩
  by_cases hw:x.qu.wa.length=0
  ·rw [a7b]
   refine if_pos (.inl ?_)
   rcases Int.lt_or_le (r6 rs a k 8) 0 with g | g
   ·exact g
   ·exfalso
    obtain ⟨w,w1,w2⟩:=(hpo (r6 rs a k 8).toNat J).mp (m2 g)
    rcases w1 with w1 | ⟨y,y1,y2,_⟩
    ·grind
    ·rcases B4.mp y2 with e | e
     ·exact hno y y1 e
     ·exact h.no3 y1 e
  ·have hall:=((a5v h.f.qu).mp h.s).1 hw
   have hact:∀j,j < 4→N2 (x.qu.sl.getD j default)=true:=λj hj=>by
    have hm:x.qu.sl.getD j default∈x.qu.sl:=f8.mpr ⟨j,by omega,Z⟩
    rcases h.sb hm (hall _ hm) with e | e
    ·grind
    ·exact r4.mpr (.inl e)
   have hlen:=a3H (a3F h.f.qu.sl 4 (Nat.le_refl _)) (b:=x.st) (λq hq=>by
    obtain ⟨w,w1,w2⟩:=(Z3 h4).mpr hq
    rw [← w2];exact (h.ac w w1).1)
   rw [a88 4 hact] at hlen
   have:=h.f.sn
   exact a9z (by rw [hst];omega)
structure MG (m:Mach):Prop where
 rt:okRts m.rs m.cp.length=true
 en:m.en.length=8
 ra:m.ra.length=8
 ok:∀k,k < m.cp.length→IG m.rs k (m.cp.getD k default)
theorem c22 (h:a1g x=true) (h2:okRq rs x.qu k=true):IG rs k x:=by
 obtain ⟨f,s,ma,sr⟩:=a9Z h
 simp only [a1g,a3J,Bool.and_eq_true,decide_eq_true_eq,w4] at h
 obtain ⟨_,_,_,hl⟩:=h
 simp only [okRq,Bool.and_eq_true,w4] at h2
 obtain ⟨hs,hw⟩:=h2
 have hp:=a0X.mp sr
 have h4:=f.qu.sl.len
 have hsl:∀y∈x.qu.sl,y.s≠3/\(y.s=0∨Rt rs k (wOf y)):=λy hy=>by
  obtain ⟨j,hj,rfl⟩:=f8.mp hy
  exact a3G.mp (hs j J)
 have hnd:x.st.Nodup:=hp.nodup_iff.mpr (a3F f.qu.sl 4 (Nat.le_refl _))
 have hac:∀w∈actL x.qu.sl,w.q∈x.st/\Rt rs k w:=λw hw=>by
  grind [Z3,v7,r4]
 have hpp:∀w,Pn x.qu w→w.q∉x.st/\Rt rs k w:=by
  intro w hw'
  have key:w.q∈x.st→∃j,j < 4/\N2 (x.qu.sl.getD j default)=true/\(x.qu.sl.getD j default).q=w.q:=λg=>(L4 4).mp (hp.mem_iff.mp g)
  rcases hw' with g | ⟨y,y1,y2,rfl⟩
  ·refine ⟨λq=>?_,?_⟩
   ·obtain ⟨j,j1,j2,j3⟩:=key q
    exact (f.qu.wa w g).2.2 _ (f8.mpr ⟨j,by omega,Z⟩) (by rcases r4.mp j2 with e | e<;>omega) j3
   ·obtain ⟨i,hi,rfl⟩:=f8.mp g
    exact a0Y.mp (hw i hi)
  ·obtain ⟨i,hi,rfl⟩:=f8.mp y1
   have e1:(x.qu.sl.getD i default).s=1:=by
    grind [B4]
   refine ⟨λq=>?_,?_⟩
   ·obtain ⟨j,j1,j2,j3⟩:=key q
    have hne:j≠i:=λe=>by subst e;rcases r4.mp j2 with e | e<;>omega
    exact f.qu.sl.ne j1 J hne (by rcases r4.mp j2 with e | e<;>omega) J j3
   grind
 have hdn:∀j,0 < j→j < x.st.length→lvl x.qu.sl (x.st.getD j default) < lvl x.qu.sl (x.st.getD (j - 1) default):=λj h0 hj=>by
  grind [lvD]
 have hlv:∀q∈x.st,lvl x.qu.sl q=prI rs q:=λq hq=>by
  obtain ⟨j,e1,e2,e3,e4⟩:=a0n (a2e (f.st q hq))
  unfold lvl
  rw [e1,Int.toNat_natCast,← e4]
  rcases (hsl _ (f8.mpr ⟨j,e2,Z⟩)).2 with g | g
  ·exact absurd g e3
  ·exact g.2.symm
 refine ⟨f,s,ma,hnd,hac,λj h0 hj=>?_,hpp⟩
 grind
theorem IG.ok (h:IG rs k x):a1g x=true/\okRq rs x.qu k=true:=by
 have h4:=h.f.qu.sl.len
 constructor
 ·simp only [a1g,a3J,Bool.and_eq_true,decide_eq_true_eq,w4]
  refine ⟨s7.mpr h.ma,a5d.mpr ⟨h.f.qu,h.s⟩,a0X.mpr (a9W h.nd (λq hq=>(Z3 h4).mp (h.f.st q hq)) (a3H (a3F h.f.qu.sl 4 (Nat.le_refl _)) λq hq=>?_)),λi hi=>?_⟩
  ·obtain ⟨w,w1,w2⟩:=(Z3 h4).mpr hq
   rw [← w2];exact (h.ac w w1).1
  ·rcases Nat.eq_zero_or_pos i with g | g
   ·subst g;exact b5x
   ·refine b5y ?_
    rw [h.lv (f8.mpr ⟨i,hi,Z⟩),h.lv (f8.mpr ⟨i - 1,by omega,Z⟩)]
    exact h.dn i g hi
 ·simp only [okRq,Bool.and_eq_true,w4]
  refine ⟨λi hi=>a3G.mpr ?_,λi hi=>a0Y.mpr (h.pp _ (.inl (f8.mpr ⟨i,hi,Z⟩))).2⟩
  have hm:x.qu.sl.getD i default∈x.qu.sl:=f8.mpr ⟨i,by omega,Z⟩
  refine ⟨h.no3 hm,?_⟩
  by_cases h0:(x.qu.sl.getD i default).s=0
  ·exact .inl h0
  ·exact .inr (h.rt hm h0)
theorem mG:okMa m=true↔MG m:=by
 constructor
 ·intro h
  have hF:=maF h
  simp only [okMa,a5l,Bool.and_eq_true,decide_eq_true_eq,w4] at h
  exact ⟨hF.rt,hF.en,hF.ra,λk hk=>c22 (h.2.2.2 k hk).1 (h.2.2.2 k hk).2⟩
 ·intro h
  simp only [okMa,a5l,Bool.and_eq_true,decide_eq_true_eq,w4]
  exact ⟨h.rt,h.en,h.ra,λk hk=>(h.ok k hk).ok⟩
theorem MG.G (h:MG m):MaG m:=(maF (mG.mpr h)).g
theorem b07 {po:List Bool} {l:List Int} (hp:po.length=8) (hl:∀j,j < l.length→0<=l.getD j default/\l.getD j default<=7) {i:Nat}:∀n,n<=l.length→((a92 po l n).getD i default=true↔po.getD i default=true∨∃j,j < n/\l.getD j default=i)
 | 0,_=>⟨.inl,λh=>by
  rcases h with h | ⟨j,h,_⟩
  ·exact h
  ·omega⟩
 | n+1,hn=>by
  have ih:=b07 hp hl (i:=i) n J
  have hb:=hl n J
  rw [N4,z8 (by rw [G4];omega)]
  grind
theorem b3f {m:Mach} (h:∀k,k < m.cp.length→QF (m.cp.getD k default).qu) {i:Nat}:∀n,n<=m.cp.length→((poN m n).getD i default=true↔∃c w,c < n/\Pn (m.cp.getD c default).qu w/\w.q=i)
 | 0,_=>by
  refine ⟨λg=>?_,λ⟨c,_,g,_⟩=>by omega⟩
  change (List.replicate 8 false).getD i default=true at g
  rw [List.getD_eq_getElem?_getD,List.getElem?_replicate] at g
  split at g<;>cases g
 | n+1,hn=>by
  have ih:=b3f h (i:=i) n J
  have hq:=h n J
  rw [a5o,b07 (u9 n) (λj hj=>a9V hq hj) _ (Nat.le_refl _),ih]
  have e:(∃j,j < (G3 (m.cp.getD n default).qu).length/\(G3 (m.cp.getD n default).qu).getD j default=(i:Int))↔∃w,Pn (m.cp.getD n default).qu w/\w.q=i:=by rw [← f8,b7G hq]
  grind
theorem MG.po (h:MG m) {i:Nat}:(abOf m).po.getD i default=true↔∃c w,c < m.cp.length/\Pn (m.cp.getD c default).qu w/\w.q=i:=b3f (λk hk=>(h.ok k hk).f.qu) _ (Nat.le_refl _)
theorem MG.pok (h:MG m) {i k:Nat} (hk:k < m.cp.length):((abOf m).po.getD i default=true/\(m.rs.getD i default).t=k)↔∃w,Pn (m.cp.getD k default).qu w/\w.q=i:=by
 rw [h.po]
 constructor
 ·rintro ⟨⟨c,w,g1,g2,g3⟩,g4⟩
  have:=((h.ok c g1).pp w g2).2.1
  rw [g3] at this
  have:(m.rs.getD i default).t=c:=this
  grind
 ·rintro ⟨w,g1,g2⟩
  refine ⟨⟨k,w,hk,g1,g2⟩,?_⟩
  have:=((h.ok k hk).pp w g1).2.1
  rw [g2] at this
  exact this
theorem MG.pr (h:MG m) {i:Nat} (hi:i < 8):0<=(m.rs.getD i default).p/\(m.rs.getD i default).p<=15:=((s8.mp h.rt).2.2 i hi).1
theorem MG.tg (h:MG m) {i:Nat} (hi:i < 8):(m.rs.getD i default).t=tgM m i/\tgM m i < m.cp.length:=by
 have:=((s8.mp h.rt).2.2 i hi).2
 unfold tgM
 omega
theorem MG.st {m:Mach} {k:Nat} (hk:k < m.cp.length):(abOf m).st.getD k default=(m.cp.getD k default).st:=I8 (f:=λx:Ifc=>x.st) hk
theorem MG.mak (hk:k < m.cp.length):(abOf m).ma.getD k default=(m.cp.getD k default).ma:=I8 (f:=λx:Ifc=>x.ma) hk
theorem MG.nx (h:MG m) {k:Nat} (hk:k < m.cp.length):(okT (m.cp.getD k default)=true→B1 m.rs (abOf m) k=tkI (m.cp.getD k default).qu.sl)/\(okT (m.cp.getD k default)=false→B1 m.rs (abOf m) k=-1):=(h.ok k hk).next (MG.st hk) (MG.mak hk) (λi hi=>h.pr hi) (λi _=>h.pok hk)
theorem MG.ab (h:MG m):absOK m.rs (abOf m)=true:=by
 have hl:(abOf m).ma.length=m.cp.length:=List.length_map _
 have hr:=(s8.mp h.rt).2.1
 refine a9t (by rw [hl];exact h.rt) (a1x.mpr ⟨by rw [hl];exact List.length_map _,h.en,h.ra,u9 _⟩) λk hk=>?_
 rw [hl] at hk
 have hI:=h.ok k hk
 have hst:=MG.st hk
 have hel:∀j,j < (m.cp.getD k default).st.length→(0<=(m.cp.getD k default).st.getD j default/\(m.cp.getD k default).st.getD j default<=7)/\tgI m.rs ((m.cp.getD k default).st.getD j default)=k:=λj hj=>by
  obtain ⟨w,w1,w2⟩:=hI.f.st _ (f8.mpr ⟨j,hj,Z⟩)
  have ht:=(hI.ac w w1).2.1
  obtain ⟨y,y1,y2,rfl⟩:=v7.mp w1
  obtain ⟨i,hi,rfl⟩:=f8.mp y1
  rw [← w2]
  exact ⟨(hI.f.qu.sl.ok i (by rw [← hI.f.qu.sl.len];exact hi) (by rcases r4.mp y2 with e | e<;>omega)).2.1,ht⟩
 refine b4L (by rw [MG.mak hk];exact s7.mpr hI.ma) (by rw [hst];exact hI.f.sn) (λj hj=>?_) (λj hj=>?_)
 ·rw [hst] at hj ⊢
  refine R2.mpr ⟨(hel j hj).1,(hel j hj).2,?_⟩
  rcases Nat.eq_zero_or_pos j with g | g
  ·exact .inl g
  ·exact .inr (hI.dn j g hj)
 ·rw [hst] at hj ⊢
  rw [b2x,← Bool.not_eq_true]
  obtain ⟨b1,b2⟩:=(hel j hj).1
  intro g
  have ht:(m.rs.getD ((m.cp.getD k default).st.getD j default).toNat default).t=k:=(hel j hj).2
  obtain ⟨w,w1,w2⟩:=(h.pok hk).mp ⟨g,ht⟩
  refine (hI.pp w w1).1 ?_
  grind
theorem MG.put (h:MG m) {k:Nat} {x:Ifc} (hx:IG m.rs k x):MG ⟨m.rs,m.en,m.ra,m.cp.set k x⟩:=by
 refine ⟨by show okRts m.rs (m.cp.set k x).length=true;rw [List.length_set];exact h.rt,h.en,h.ra,λj hj=>?_⟩
 have hj:j < (m.cp.set k x).length:=hj
 rw [List.length_set] at hj
 show IG m.rs j ((m.cp.set k x).getD j default)
 by_cases e:k=j
 ·grind
 ·rw [List.getD_eq_getElem?_getD,List.getElem?_set_ne e,← List.getD_eq_getElem?_getD];exact h.ok j hj
theorem b2c {m m':Mach} (h:m.cp=m'.cp):∀n,poN m n=poN m' n
 | 0=>rfl
 | n+1=>by rw [a5o,a5o,b2c h n,h]
theorem b52 (h:MG m) {l:List Bool} (hl:l.length=8) (hi:∀i,i < 8→(l.getD i default=true↔∃c w,c < m.cp.length/\Pn (m.cp.getD c default).qu w/\w.q=i)):(abOf m).po=l :=
 F3 (i:=8) (by rw [hl];exact u9 _) (λj hj=>by rw [Bool.eq_iff_iff,hi j hj];exact h.po) (by rw [show (abOf m).po.length=8 from u9 _];exact Nat.le_refl _)
theorem b2d (h:MG m) {i:Nat} (hi:i < 8):a2z m.rs (abOf m) i=a1K m i:=by
 have:=MG.st (m:=m) (h.tg hi).2
 unfold a2z a1K
 show (m.en.getD i default && (m.ra.getD i default && !a48 ((abOf m).st.getD (tgM m i) default) i))=_
 rw [this]
theorem a7Y (h:MG m):∀n,n<=8→∀k,k < m.cp.length→IG m.rs k ((L5 m n).getD k default)/\((L5 m n).getD k default).st=(m.cp.getD k default).st/\((L5 m n).getD k default).ma=(m.cp.getD k default).ma/\∀w,Pn ((L5 m n).getD k default).qu w↔Pn (m.cp.getD k default).qu w∨∃i,i < n/\a1K m i=true/\tgM m i=k/\w=⟨(i:Int),prI m.rs i⟩
 | 0,_,k,hk=>⟨h.ok k hk,Z,Z,λw=>⟨.inl,λg=>by
  rcases g with g | ⟨i,g,_⟩
  ·exact g
  ·omega⟩⟩
 | n+1,hn,k,hk=>by
  obtain ⟨i1,i2,i3,i4⟩:=a7Y h n J k hk
  obtain ⟨t1,t2⟩:=h.tg (i:=n) J
  cases hc:a1K m n
  ·grind [a0t]
  ·rw [a0s hc,z8 (by rw [E8];exact t2)]
   by_cases e:tgM m n=k
   ·rw [if_pos e,e]
    have hn':(n:Int)∉((L5 m n).getD k default).st:=by
     grind [a1K,a91]
    obtain ⟨r1,r2⟩:=i1.raise (i:=(n:Int)) J (h.pr J) (by rw [← e];exact t1) hn'
    refine ⟨r1,i2,i3,λw=>(r2 w).trans ?_⟩
    grind
   grind
theorem b8x (h:MG m):∀n,n<=8→a4q m n=a1A m.rs (abOf m) n
 | 0,_=>rfl
 | n+1,hn=>by
  have ih:=b8x h n J
  cases hc:a1K m n
  ·rw [a0r hc,a9B (by rw [b2d h J];exact hc),ih]
  ·rw [a0q hc,a9A (by rw [b2d h J];exact hc),ih]
theorem a89 {rs:List Route} {a:Abs} (ha:a.po.length=8) {j:Nat} (hj:j < 8):∀n,n<=8→((a0S rs a n).getD j default=true↔a.po.getD j default=true∨(j < n/\a2z rs a j=true))
 | 0,_=>⟨.inl,λh=>by
  rcases h with h | h
  ·exact h
  ·omega⟩
 | n+1,hn=>by
  have ih:=a89 (rs:=rs) ha hj n J
  cases hc:a2z rs a n
  ·grind [a9D]
  ·grind [a9C,I7]
theorem b08 {α:Type} {f:Ifc→α} [Inhabited α] {a b:List Ifc} (hl:a.length=b.length) (h:∀k,k < a.length→f (a.getD k default)=f (b.getD k default)):a.map f=b.map f:=by
 refine List.ext_getElem (by simp [hl]) λk h1 h2=>?_
 grind
theorem b53 (h:MG m):MG (a7T m):=by
 refine ⟨by show okRts m.rs (L5 m 8).length=true;rw [E8];exact h.rt,h.en,by show (a4q m 8).length=8;rw [a26];exact h.ra,λk hk=>?_⟩
 have hk:k < (L5 m 8).length:=hk
 rw [E8] at hk
 exact (a7Y h 8 (Nat.le_refl _) k hk).1
theorem c1H (h:MG m):abOf (a7T m)=a6w m.rs (abOf m):=by
 have hs:=b53 h
 have hl:(L5 m 8).length=m.cp.length:=E8 8
 have e1:(L5 m 8).map (λx:Ifc=>x.ma)=m.cp.map (λx:Ifc=>x.ma):=b08 (f:=λx:Ifc=>x.ma) hl (λk hk=>(a7Y h 8 (Nat.le_refl _) k J).2.2.1)
 have e2:(L5 m 8).map (λx:Ifc=>x.st)=m.cp.map (λx:Ifc=>x.st):=b08 (f:=λx:Ifc=>x.st) hl (λk hk=>(a7Y h 8 (Nat.le_refl _) k J).2.1)
 have e3:(abOf (a7T m)).po=a0S m.rs (abOf m) 8:=b52 hs (by rw [I7];exact u9 _) λi hi=>by
  rw [a89 (u9 _) hi 8 (Nat.le_refl _),b2d h hi,h.po]
  show _↔∃c w,c < (L5 m 8).length/\Pn ((L5 m 8).getD c default).qu w/\w.q=i
  rw [hl]
  constructor
  ·rintro (⟨c,w,g1,g2,g3⟩ | ⟨_,g⟩)
   ·exact ⟨c,w,g1,((a7Y h 8 (Nat.le_refl _) c g1).2.2.2 w).mpr (.inl g2),g3⟩
   ·exact ⟨tgM m i,⟨(i:Int),prI m.rs i⟩,(h.tg hi).2,((a7Y h 8 (Nat.le_refl _) _ (h.tg hi).2).2.2.2 _).mpr (.inr ⟨i,hi,g,Z,Z⟩),Z⟩
  ·rintro ⟨c,w,g1,g2,g3⟩
   rcases ((a7Y h 8 (Nat.le_refl _) c g1).2.2.2 w).mp g2 with g | ⟨j,j1,j2,j3,rfl⟩
   ·exact .inl ⟨c,w,g1,g,g3⟩
   ·have ej:j=i:=by
     have g3:(j:Int)=i:=g3
     omega
    subst ej;exact .inr ⟨hi,j2⟩
 show (⟨m.en,a4q m 8,(abOf (a7T m)).po,(L5 m 8).map (λx:Ifc=>x.ma),(L5 m 8).map (λx:Ifc=>x.st)⟩:Abs)=⟨m.en,a1A m.rs (abOf m) 8,a0S m.rs (abOf m) 8,m.cp.map (λx:Ifc=>x.ma),m.cp.map (λx:Ifc=>x.st)⟩
 rw [e1,e2,e3,b8x h 8 (Nat.le_refl _)]
theorem b2e {m:Mach} (h:MG m) {k:Nat} (hk:k < m.cp.length) {x:Ifc} (hx:IG m.rs k x) {l:List Bool} (hl:l.length=8) (hp:∀i,i < 8→(l.getD i default=true↔(∃w,Pn x.qu w/\w.q=i)∨((abOf m).po.getD i default=true/\¬ (m.rs.getD i default).t=k))):abOf ⟨m.rs,m.en,m.ra,m.cp.set k x⟩=⟨m.en,m.ra,l,(abOf m).ma.set k x.ma,(abOf m).st.set k x.st⟩:=by
 have hM:=h.put hx
 have e3:(abOf ⟨m.rs,m.en,m.ra,m.cp.set k x⟩).po=l:=b52 hM hl λi hi=>by
  rw [hp i hi,h.po]
  show _↔∃c w,c < (m.cp.set k x).length/\Pn ((m.cp.set k x).getD c default).qu w/\w.q=i
  rw [List.length_set]
  constructor
  ·rintro (⟨w,g⟩ | ⟨⟨c,w,g1,g2,g3⟩,g4⟩)
   ·exact ⟨k,w,hk,by rw [z8 hk,if_pos Z];exact g.1,g.2⟩
   ·have hc:¬ k=c:=λe=>g4 (by
     have:=((h.ok c g1).pp w g2).2.1
     rw [g3] at this
     have:(m.rs.getD i default).t=c:=this
     omega)
    exact ⟨c,w,g1,by rw [z8 hk,if_neg hc];exact g2,g3⟩
  ·rintro ⟨c,w,g1,g2,g3⟩
   rw [z8 hk] at g2
   by_cases e:k=c
   ·grind
   ·rw [if_neg e] at g2
    refine .inr ⟨⟨c,w,g1,g2,g3⟩,?_⟩
    have:=((h.ok c g1).pp w g2).2.1
    rw [g3] at this
    have:(m.rs.getD i default).t=c:=this
    omega
 show (⟨m.en,m.ra,(abOf ⟨m.rs,m.en,m.ra,m.cp.set k x⟩).po,(m.cp.set k x).map (λx:Ifc=>x.ma),(m.cp.set k x).map (λx:Ifc=>x.st)⟩:Abs)=⟨m.en,m.ra,l,(m.cp.map (λx:Ifc=>x.ma)).set k x.ma,(m.cp.map (λx:Ifc=>x.st)).set k x.st⟩
 simp_all
theorem b2f {m:Mach} {s:MStep} (h:MG m) (hv:s4 m.cp.length s=true):(stM m s).2.2=(n7 m.rs (abOf m) s).2.2/\((stM m s).2.2=true→((stM m s).2.1=(n7 m.rs (abOf m) s).2.1/\abOf (stM m s).1=(n7 m.rs (abOf m) s).1)/\MG (stM m s).1):=by
 obtain ⟨sk,sq,sc,sv⟩:=s
 have hcc:=λhk=>a2A (n:=m.cp.length) (k:=sk) (q:=sq) (c:=sc) (v:=sv) hv hk
 have hqq:=λhk=>a9E (n:=m.cp.length) (k:=sk) (q:=sq) (c:=sc) (v:=sv) hv hk
 by_cases h1:sk=1
 ·obtain ⟨q,rfl⟩:∃q:Nat,sq=q:=⟨sq.toNat,by have:=hqq (.inl h1);omega⟩
  rw [sm1 h1,mk1 h1]
  refine ⟨Z,λ_=>⟨⟨Z,?_⟩,⟨h.rt,h.en,by show (m.ra.set q true).length=8;rw [List.length_set];exact h.ra,h.ok⟩⟩⟩
  show (⟨m.en,m.ra.set q true,poN ⟨m.rs,m.en,m.ra.set q true,m.cp⟩ m.cp.length,m.cp.map (λx:Ifc=>x.ma),m.cp.map (λx:Ifc=>x.st)⟩:Abs)=_
  rw [b2c (m:=⟨m.rs,m.en,m.ra.set q true,m.cp⟩) (m':=m) Z]
  rfl
 by_cases h2:sk=2
 ·grind [sm2,mk2,c1H,b53]
 by_cases h3:sk=3
 ·obtain ⟨c,rfl⟩:∃c:Nat,sc=c:=⟨sc.toNat,by have:=hcc (.inl h3);omega⟩
  have hc:c < m.cp.length:=by have:=hcc (.inl h3);omega
  obtain ⟨n1,n2⟩:=h.nx hc
  cases ho:okT (m.cp.getD c default)
  ·grind [c2S,c2E]
  ·have hb:=b25 (h.ok c hc).G ho
   have en:=n1 ho
   obtain ⟨t1,t2⟩:=(h.ok c hc).take ho
   rw [sm3 h3 ho,mk3 h3 (by rw [en];omega)]
   refine ⟨Z,λ_=>⟨⟨en.symm,?_⟩,h.put t1⟩⟩
   have e:=b2e h hc t1 (l:=(abOf m).po.set (B1 m.rs (abOf m) c).toNat false) (by rw [List.length_set];exact u9 _) λi hi=>by
    have hpl:(abOf m).po.length=8:=u9 _
    rw [z8 (by rw [hpl,en];omega),en]
    by_cases e:(tkI (m.cp.getD c default).qu.sl).toNat=i
    ·rw [if_pos e]
     refine ⟨λg=>(by cases g),λg=>?_⟩
     rcases g with ⟨w,g1,g2⟩ | ⟨g1,g2⟩
     ·grind
     ·exfalso
      refine g2 ?_
      obtain ⟨k',e1,e2,e3⟩:=B7 (G2.mp ho).1
      have hr:=(h.ok c hc).rt (f8.mpr ⟨k',e2,Z⟩) J
      have ht:tkI (m.cp.getD c default).qu.sl=((m.cp.getD c default).qu.sl.getD k' default).q:=by unfold tkI;rw [e1,Int.toNat_natCast]
      have:=hr.1
      rw [← e,ht]
      exact this
    ·rw [if_neg e]
     by_cases et:(m.rs.getD i default).t=c
     ·constructor
      ·intro g
       obtain ⟨w,w1,w2⟩:=(h.pok hc).mp ⟨g,et⟩
       grind
      ·rintro (⟨w,w1,w2⟩ | ⟨_,g⟩)
       ·exact ((h.pok hc).mpr ⟨w,((t2 w).mp w1).1,w2⟩).1
       ·exact absurd et g
     ·constructor
      ·grind
      ·rintro (⟨w,w1,w2⟩ | ⟨g,_⟩)
       ·exact ((h.pok hc).mpr ⟨w,((t2 w).mp w1).1,w2⟩).1
       ·exact g
   show abOf ⟨m.rs,m.en,m.ra,m.cp.set c (a1H (m.cp.getD c default))⟩=_
   rw [e,en]
   show (⟨m.en,m.ra,_,(abOf m).ma.set c (m.cp.getD c default).ma,(abOf m).st.set c ((m.cp.getD c default).st++[tkI (m.cp.getD c default).qu.sl])⟩:Abs)=_
   rw [← MG.mak hc,a5u (by show c < (m.cp.map _).length;rw [List.length_map];exact hc),← MG.st hc]
   rfl
 by_cases h4:sk=4
 ·obtain ⟨c,rfl⟩:∃c:Nat,sc=c:=⟨sc.toNat,by have:=hcc (.inr (.inl h4));omega⟩
  have hc:c < m.cp.length:=by have:=hcc (.inr (.inl h4));omega
  by_cases ho:(m.cp.getD c default).st.length=0
  ·grind [c2T,c2F,MG.st]
  ·obtain ⟨t1,t2⟩:=(h.ok c hc).leave ho
   rw [sm4 h4 ho,mk4 h4 (by rw [MG.st hc];exact ho)]
   refine ⟨Z,λ_=>⟨⟨by rw [MG.st hc];rfl,?_⟩,h.put t1⟩⟩
   have e:=b2e h hc t1 (l:=(abOf m).po) (u9 _) λi hi=>by
    by_cases et:(m.rs.getD i default).t=c
    ·constructor
     ·intro g
      obtain ⟨w,w1,w2⟩:=(h.pok hc).mp ⟨g,et⟩
      grind
     ·rintro (⟨w,w1,w2⟩ | ⟨_,g⟩)
      ·exact ((h.pok hc).mpr ⟨w,(t2 w).mp w1,w2⟩).1
      ·exact absurd et g
    ·constructor
     ·grind
     ·rintro (⟨w,w1,w2⟩ | ⟨g,_⟩)
      ·exact ((h.pok hc).mpr ⟨w,(t2 w).mp w1,w2⟩).1
      ·exact g
   show abOf ⟨m.rs,m.en,m.ra,m.cp.set c (a1h (m.cp.getD c default))⟩=_
   rw [e]
   show (⟨m.en,m.ra,(abOf m).po,(abOf m).ma.set c (m.cp.getD c default).ma,(abOf m).st.set c ((m.cp.getD c default).st.take ((m.cp.getD c default).st.length - 1))⟩:Abs)=_
   rw [← MG.mak hc,a5u (by show c < (m.cp.map _).length;rw [List.length_map];exact hc),← MG.st hc]
   rfl
 by_cases h5:sk=5
 ·obtain ⟨c,rfl⟩:∃c:Nat,sc=c:=⟨sc.toNat,by have:=hcc (.inr (.inr h5));omega⟩
  have hc:c < m.cp.length:=by have:=hcc (.inr (.inr h5));omega
  subst h5
  have hv5:0<=sv/\sv<=16:=by simp [s4,s7] at hv;omega
  have t1:=(h.ok c hc).mask hv5
  rw [sm5 Z,mk5 Z]
  refine ⟨Z,λ_=>⟨⟨Z,?_⟩,h.put t1⟩⟩
  have e:=b2e h hc t1 (l:=(abOf m).po) (u9 _) λi hi=>by
   by_cases et:(m.rs.getD i default).t=c
   ·constructor
    ·exact λg=>.inl ((h.pok hc).mp ⟨g,et⟩)
    ·rintro (g | ⟨_,g⟩)
     ·exact ((h.pok hc).mpr g).1
     ·exact absurd et g
   ·constructor
    ·grind
    ·rintro (g | ⟨g,_⟩)
     ·exact ((h.pok hc).mpr g).1
     ·exact g
  show abOf ⟨m.rs,m.en,m.ra,m.cp.set c ⟨sv,(m.cp.getD c default).st,(m.cp.getD c default).qu⟩⟩=_
  rw [e]
  show (⟨m.en,m.ra,(abOf m).po,(abOf m).ma.set c sv,(abOf m).st.set c (m.cp.getD c default).st⟩:Abs)=_
  rw [← MG.st hc,a5u (by show c < (m.cp.map _).length;rw [List.length_map];exact hc)]
  rfl
 ·have h6:sk=6:=by have:=b4O hv;omega
  obtain ⟨q,rfl⟩:∃q:Nat,sq=q:=⟨sq.toNat,by have:=hqq (.inr h6);omega⟩
  rw [sm6 h6,mk6 h6]
  refine ⟨Z,λ_=>⟨⟨Z,?_⟩,⟨h.rt,by show (m.en.set q _).length=8;rw [List.length_set];exact h.en,h.ra,h.ok⟩⟩⟩
  show (⟨m.en.set q (decide (sv=1)),m.ra,poN ⟨m.rs,m.en.set q (decide (sv=1)),m.ra,m.cp⟩ m.cp.length,m.cp.map (λx:Ifc=>x.ma),m.cp.map (λx:Ifc=>x.st)⟩:Abs)=_
  rw [b2c (m:=⟨m.rs,m.en.set q (decide (sv=1)),m.ra,m.cp⟩) (m':=m) Z]
  rfl
theorem c1I {s:MStep} (h:MG m) (hv:s4 m.cp.length s=true) (hk:(stM m s).2.2=true):(stM m s).1.rs=m.rs/\(stM m s).1.cp.length=m.cp.length:=(b5I h.G hv hk).2
def rmN (m:Mach) (ss:List MStep):Nat→Mach×List Int
 | 0=>(m,[])
 | i+1=>if (stM (rmN m ss i).1 (ss.getD i default)).2.2 then ((stM (rmN m ss i).1 (ss.getD i default)).1,if (ss.getD i default).k=3 then (rmN m ss i).2++[(stM (rmN m ss i).1 (ss.getD i default)).2.1] else (rmN m ss i).2) else rmN m ss i
section
variable {m:Mach} {ss:List MStep}
theorem a1L:rmN m ss (i+1)=if (stM (rmN m ss i).1 (ss.getD i default)).2.2 then ((stM (rmN m ss i).1 (ss.getD i default)).1,if (ss.getD i default).k=3 then (rmN m ss i).2++[(stM (rmN m ss i).1 (ss.getD i default)).2.1] else (rmN m ss i).2) else rmN m ss i:=rfl
theorem b54 (h:(stM (rmN m ss i).1 (ss.getD i default)).2.2=false):rmN m ss (i+1)=rmN m ss i:=by rw [a1L,h];rfl
theorem b55 (h:(stM (rmN m ss i).1 (ss.getD i default)).2.2=true):(rmN m ss (i+1)).1=(stM (rmN m ss i).1 (ss.getD i default)).1:=by rw [a1L,h];rfl
theorem c23 (h:(stM (rmN m ss i).1 (ss.getD i default)).2.2=true) (h3:(ss.getD i default).k=3):(rmN m ss (i+1)).2=(rmN m ss i).2++[(stM (rmN m ss i).1 (ss.getD i default)).2.1]:=by rw [a1L,h,if_pos Z,if_pos h3]
theorem c1J (h:(stM (rmN m ss i).1 (ss.getD i default)).2.2=true) (h3:¬ (ss.getD i default).k=3):(rmN m ss (i+1)).2=(rmN m ss i).2:=by rw [a1L,h,if_pos Z,if_neg h3]
theorem a97:∀i,(rmN m ss i).2.length<=i
 | 0=>Nat.le_refl _
 | i+1=>by
  have:=a97 i
  rw [a1L]
  grind
theorem b09 (h:MG m) (hv:∀i,i < ss.length→s4 m.cp.length (ss.getD i default)=true):∀i,i<=ss.length→MG (rmN m ss i).1/\(rmN m ss i).1.rs=m.rs/\(rmN m ss i).1.cp.length=m.cp.length
 | 0,_=>⟨h,Z,Z⟩
 | i+1,hi=>by
  obtain ⟨h1,h2,h3⟩:=b09 h hv i J
  have hvi:s4 (rmN m ss i).1.cp.length (ss.getD i default)=true:=by rw [h3];exact hv i J
  cases hm:(stM (rmN m ss i).1 (ss.getD i default)).2.2
  ·rw [b54 hm];exact ⟨h1,h2,h3⟩
  ·grind [b55,c1I,b2f]
theorem b56 (h:MG m) (hv:∀i,i < ss.length→s4 m.cp.length (ss.getD i default)=true):∀i,i<=ss.length→rnN m.rs (abOf m) ss i=(abOf (rmN m ss i).1,(rmN m ss i).2)
 | 0,_=>rfl
 | i+1,hi=>by
  have ih:=b56 h hv i J
  obtain ⟨h1,h2,h3⟩:=b09 h hv i J
  obtain ⟨g1,g2⟩:=b2f (s:=ss.getD i default) h1 (by rw [h3];exact hv i J)
  rw [h2] at g1 g2
  rw [a1G,a1L,ih]
  grind
theorem b57 (h:MG m) (hv:∀i,i < ss.length→s4 m.cp.length (ss.getD i default)=true):∀i,i<=ss.length→agN m ss i=some ((rmN m ss i).1,abOf (rmN m ss i).1)
 | 0,_=>rfl
 | i+1,hi=>by
  have ih:=b57 h hv i J
  obtain ⟨h1,h2,h3⟩:=b09 h hv i J
  obtain ⟨g1,g2⟩:=b2f (s:=ss.getD i default) h1 (by rw [h3];exact hv i J)
  rw [a27 ih]
  cases hm:(stM (rmN m ss i).1 (ss.getD i default)).2.2
  ·rw [a2i (p:=((rmN m ss i).1,abOf (rmN m ss i).1)) g1 hm,b54 hm]
  ·grind [b05,b55]
end
def rmT (m:Mach) (ss:List MStep):Mach×List Int×Bool:=if okMa m && L3 m.cp.length ss then ((rmN m ss ss.length).1,(rmN m ss ss.length).2,true) else (noM,[],false)
section
variable {m:Mach} {ss:List MStep}
theorem b8y (h1:okMa m=true) (h2:L3 m.cp.length ss=true):rmT m ss=((rmN m ss ss.length).1,(rmN m ss ss.length).2,true):=by unfold rmT;rw [h1,h2];rfl
theorem c1K (h:okMa m=false):rmT m ss=(noM,[],false):=by unfold rmT;rw [h];rfl
theorem b58 (h:L3 m.cp.length ss=false):rmT m ss=(noM,[],false):=by unfold rmT;rw [h,Bool.and_false];rfl
structure RfF (m:Mach) (ss:List MStep):Prop where
 ok:okMa m=true
 ag:agT m ss=((ss.length:Int),true)
 rm:rmT m ss=((rmN m ss ss.length).1,(rmN m ss ss.length).2,true)
 ab:abT m=(abOf m,true)
 rn:rnT m.rs (abOf m) ss=(abOf (rmN m ss ss.length).1,(rmN m ss ss.length).2,true)
 ab2:abT (rmN m ss ss.length).1=(abOf (rmN m ss ss.length).1,true)
 is:absOK m.rs (abOf (rmN m ss ss.length).1)=true
 len:(rmN m ss ss.length).2.length<=30
theorem b35 (h:(agT m ss).2=true):RfF m ss:=by
 have ho:okMa m=true:=by
  cases e:okMa m
  ·rw [b19 e] at h;cases h
  ·rfl
 have hv:L3 m.cp.length ss=true:=by
  cases e:L3 m.cp.length ss
  ·rw [a93 e] at h;cases h
  ·rfl
 have hG:=mG.mp ho
 obtain ⟨hl,hs⟩:=P2.mp hv
 obtain ⟨g1,g2,g3⟩:=b09 hG hs ss.length (Nat.le_refl _)
 have hma:(abOf m).ma.length=m.cp.length:=List.length_map _
 refine ⟨ho,by rw [b5J ho hv,a5q (b57 hG hs ss.length (Nat.le_refl _)) Z],b8y ho hv,a84 ho,?_,a84 (mG.mpr g1),by rw [← g2];exact g1.ab,Nat.le_trans (a97 _) hl⟩
 rw [b8j hG.ab (by rw [hma];exact hv),b56 hG hs ss.length (Nat.le_refl _)]
end
section
variable {rs:List Route} {a:Abs} {k:Nat}
theorem b2g (h:absOK rs a=true) (hk:k < a.ma.length):(0<=a.ma.getD k default/\a.ma.getD k default<=16)/\∀j,j < (a.st.getD k default).length→tgI rs ((a.st.getD k default).getD j default)=k/\a.po.getD ((a.st.getD k default).getD j default).toNat default=false:=by
 grind [absOK,w4,a0E,s7,R2,b0H,b2x]
theorem b8z (h:absOK rs a=true) (hk:k < a.ma.length):IG rs k (B8 rs (a.st.getD k default))/\∀w,¬ Pn (B8 rs (a.st.getD k default)).qu w:=by
 have hS:=a7d h hk
 obtain ⟨_,ht⟩:=b2g h hk
 have hF:IfF (B8 rs (a.st.getD k default)):=by
  have:=hS.take (n:=(a.st.getD k default).length) (Nat.le_refl _)
  grind
 have hsl:∀y∈N3 rs (a.st.getD k default),y=zSl∨∃j,j < (a.st.getD k default).length/\y=⟨2,(a.st.getD k default).getD j default,prI rs ((a.st.getD k default).getD j default)⟩:=λy hy=>by
  obtain ⟨j,hj,rfl⟩:=f8.mp hy
  rw [a1I hS.n] at hj
  rcases Nat.lt_or_ge j (a.st.getD k default).length with g | g
  ·exact .inr ⟨j,g,a0V g⟩
  ·exact .inl (a3E g hj)
 have hno:∀w,¬ Pn (B8 rs (a.st.getD k default)).qu w:=by
  rintro w (g | ⟨y,y1,y2,_⟩)
  ·cases g
  ·rcases hsl y y1 with rfl | ⟨j,_,rfl⟩<;>cases y2
 refine ⟨⟨hF,a9H Z,⟨by show (0:Int)<=16;decide,by show (16:Int)<=16;decide⟩,a7g.mpr λi j hij hj=>hS.dif hij hj,λw hw=>?_,λj h0 hj=>hS.dn j h0 hj,λw hw=>absurd hw (hno w)⟩,hno⟩
 obtain ⟨y,y1,y2,rfl⟩:=v7.mp hw
 rcases hsl y y1 with rfl | ⟨j,hj,rfl⟩
 ·cases y2
 ·exact ⟨f8.mpr ⟨j,hj,Z⟩,(ht j hj).1,Z⟩
theorem b3g (h:absOK rs a=true) (hk:k < a.ma.length):∀n,n<=8→IG rs k (a0p rs a.po k (B8 rs (a.st.getD k default)) n)/\∀w,Pn (a0p rs a.po k (B8 rs (a.st.getD k default)) n).qu w↔∃i,i < n/\(a.po.getD i default=true/\(rs.getD i default).t=k)/\w=⟨(i:Int),prI rs i⟩
 | 0,_=>⟨(b8z h hk).1,λw=>⟨λg=>absurd g ((b8z h hk).2 w),λ⟨i,g,_⟩=>by omega⟩⟩
 | n+1,hn=>by
  obtain ⟨i1,i2⟩:=b3g h hk n J
  have hr:=(s8.mp (by simp only [absOK,Bool.and_eq_true] at h;exact h.1)).2.2
  by_cases hc:a.po.getD n default=true/\(rs.getD n default).t=k
  ·rw [A8 hc.1 hc.2]
   have hst:=(@a9R rs a.po k (B8 rs (a.st.getD k default)) n).1
   have hn':(n:Int)∉(a0p rs a.po k (B8 rs (a.st.getD k default)) n).st:=by
    rw [hst]
    intro g
    obtain ⟨j,hj,e⟩:=f8.mp g
    have hj:j < (a.st.getD k default).length:=hj
    have e:(a.st.getD k default).getD j default=(n:Int):=e
    have:=((b2g h hk).2 j hj).2
    grind
   obtain ⟨r1,r2⟩:=i1.raise (i:=(n:Int)) J (hr n J).1 hc.2 hn'
   refine ⟨r1,λw=>(r2 w).trans ?_⟩
   grind
  ·grind [A9]
theorem a5w (hk:k < a.ma.length):(moM rs a).cp.getD k default=moI rs a k:=by
 show ((List.range a.ma.length).map (moI rs a)).getD k default=_
 grind
theorem Z4:(moM rs a).cp.length=a.ma.length:=by show ((List.range a.ma.length).map (moI rs a)).length=_;rw [List.length_map,List.length_range]
theorem c24:(moI rs a k).st=a.st.getD k default:=(@a9R rs a.po k (B8 rs (a.st.getD k default)) 8).1
theorem b8A (h:absOK rs a=true):MG (moM rs a):=by
 have hF:=a9w h
 refine ⟨by rw [Z4];simp only [absOK,Bool.and_eq_true] at h;exact h.1,hF.en,hF.ra,λk hk=>?_⟩
 rw [Z4] at hk
 rw [a5w hk]
 exact (b3g h hk 8 (Nat.le_refl _)).1.mask (b2g h hk).1
theorem c1L (h:absOK rs a=true):abOf (moM rs a)=a:=by
 have hF:=a9w h
 have e1:(abOf (moM rs a)).po=a.po:=b52 (b8A h) hF.po λi hi=>by
  rw [Z4]
  constructor
  ·intro g
   obtain ⟨t1,t2⟩:=hF.rt i hi
   have ht:(rs.getD i default).t.toNat < a.ma.length:=by omega
   refine ⟨(rs.getD i default).t.toNat,⟨(i:Int),prI rs i⟩,ht,?_,Z⟩
   rw [a5w ht]
   exact ((b3g h ht 8 (Nat.le_refl _)).2 _).mpr ⟨i,hi,⟨g,by omega⟩,Z⟩
  ·rintro ⟨c,w,c1,c2,c3⟩
   rw [a5w c1] at c2
   obtain ⟨j,j1,j2,rfl⟩:=((b3g h c1 8 (Nat.le_refl _)).2 _).mp c2
   grind
 have e2:(moM rs a).cp.map (λx:Ifc=>x.ma)=a.ma:=by
  refine F3 (i:=a.ma.length) (by rw [List.length_map,Z4]) (λj hj=>?_) (by rw [List.length_map,Z4];exact Nat.le_refl _)
  rw [I8 (f:=λx:Ifc=>x.ma) (by rw [Z4];exact hj),a5w hj]
  rfl
 have e3:(moM rs a).cp.map (λx:Ifc=>x.st)=a.st:=by
  refine F3 (i:=a.ma.length) (by rw [List.length_map,Z4,hF.st]) (λj hj=>?_) (by rw [List.length_map,Z4];exact Nat.le_refl _)
  rw [I8 (f:=λx:Ifc=>x.st) (by rw [Z4];exact hj),a5w hj,c24]
 show (⟨a.en,a.ra,(abOf (moM rs a)).po,(moM rs a).cp.map (λx:Ifc=>x.ma),(moM rs a).cp.map (λx:Ifc=>x.st)⟩:Abs)=a
 rw [e1,e2,e3]
end
theorem c1M (h:(abT m).2=true):okMa m=true:=by
 cases e:okMa m
 ·rw [b5G e] at h;cases h
 ·rfl
theorem RfF.sm {ss:List MStep} (h:RfF m ss):SmallM (rmN m ss ss.length).1:=(mG.mp (c1M (by rw [h.ab2]))).G.small
theorem a5x:(moT rs a).2=absOK rs a:=by
 cases e:absOK rs a
 ·rw [b2S e]
 ·rw [b0T e]
structure MoF (rs:List Route) (a:Abs):Prop where
 ok:okMa (moT rs a).1=true
 ab:abT (moT rs a).1=(a,true)
 sm:SmallM (moT rs a).1
theorem c25 (h:(moT rs a).2=true):MoF rs a:=by
 rw [a5x] at h
 have hG:=b8A h
 have ho:=mG.mpr hG
 refine ⟨?_,?_,?_⟩<;>rw [b0T h]
 ·exact ho
 ·rw [a84 ho,c1L h]
 ·exact hG.G.small
section
variable {rs:List Route} {a:Abs} {ss:List MStep}
end
structure DrA (a:Abs):Prop where
 en:a.en.length<=8
 ra:a.ra.length<=8
 po:a.po.length<=8
 ma:a.ma.length<=2
 st:a.st.length<=2
 len:∀i,i < a.st.length→(a.st.getD i default).length<=5
theorem DrA.small (h:DrA a):SmallA a:=a7H h.en h.ra h.po h.ma h.st h.len
theorem a4s:DrA noA:=⟨by decide,by decide,by decide,by decide,by decide,λi hi=>by cases hi⟩
theorem AbsF.dr (h:AbsF rs a):DrA a:=⟨by rw [h.en];decide,by rw [h.ra];decide,by rw [h.po];decide,h.n.2,by rw [h.st];exact h.n.2,λi hi=>by have:=h.len i (by rw [← h.st];exact hi);omega⟩
theorem DrA.setM (h:DrA a) {k:Nat} {v:Int}:DrA ⟨a.en,a.ra,a.po,a.ma.set k v,a.st⟩:=⟨h.en,h.ra,h.po,by show (a.ma.set k v).length<=2;rw [List.length_set];exact h.ma,h.st,h.len⟩
theorem DrA.setPo (h:DrA a) {k:Nat} {v:Bool}:DrA ⟨a.en,a.ra,a.po.set k v,a.ma,a.st⟩:=⟨h.en,h.ra,by show (a.po.set k v).length<=8;rw [List.length_set];exact h.po,h.ma,h.st,h.len⟩
theorem AbsF.addS (h:AbsF rs a) {k:Nat} (hk:k < a.ma.length) {v:Int}:DrA ⟨a.en,a.ra,a.po,a.ma,a.st.set k (a.st.getD k default++[v])⟩:=⟨h.dr.en,h.dr.ra,h.dr.po,h.dr.ma,by show (a.st.set k _).length<=2;rw [List.length_set];exact h.dr.st,c02 h.dr.len (by rw [List.length_append,List.length_cons,List.length_nil];have:=h.len k hk;omega)⟩
end Go.Rf
namespace Go.Rf
theorem rfb :
 ((∀(p:Prop) [Decidable p],(decide p=true)=p)/\(∀(p:Prop) [Decidable p],(decide p=false)↔¬p) /\
 (∀{α:Type} [BEq α] [LawfulBEq α] {a b:α},a==b↔a=b)/\(∀{α:Type} [BEq α] [LawfulBEq α] {a b:α},a != b↔a≠b)/\(∀{α:Type} (a b:α),(a≠b)=¬(a=b))) /\
 ((∀b:Bool,((!b)=true)=(b=false))/\(∀b:Bool,((!b)=false)=(b=true)) /\
 (∀{α:Type} [BEq α] [LawfulBEq α] {a b:α},(a==b)=false↔a≠b)/\(∀{α:Type} [BEq α] [LawfulBEq α] {a b:α},(a != b)=false↔a=b) /\
 (∀b:Bool,(¬(b=true))=(b=false))/\(∀b:Bool,(¬(b=false))=(b=true))) /\
 ((∀{a b:Int},¬(a < b)↔b<=a)/\(∀{a b:Int},¬(a<=b)↔b < a)/\(∀{a b:Int},a > b↔b < a)/\(∀{a b:Int},a≥b↔b<=a)) /\
 ((∀a b:Bool,((a && b)=true)=(a=true/\b=true))/\(∀{a b:Bool},(a && b)=false↔a=false∨b=false)/\(∀a b:Bool,((a || b)=true)=(a=true∨b=true))/\(∀{a b:Bool},(a || b)=false↔a=false/\b=false)) :=
 ⟨⟨λp _=>decide_eq_true_eq,λp _=>decide_eq_false_iff_not,beq_iff_eq,bne_iff_ne,λa b=>ne_eq a b⟩,⟨Bool.not_eq_true',Bool.not_eq_false',beq_eq_false_iff_ne,bne_eq_false_iff_eq,Bool.not_eq_true,Bool.not_eq_false⟩,⟨Int.not_lt,Int.not_le,gt_iff_lt,ge_iff_le⟩,⟨Bool.and_eq_true,Bool.and_eq_false_iff,Bool.or_eq_true,Bool.or_eq_false_iff⟩⟩
end Go.Rf
