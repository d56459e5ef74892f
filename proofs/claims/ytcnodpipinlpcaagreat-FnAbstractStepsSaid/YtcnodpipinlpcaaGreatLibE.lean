/- Texts merged into one: RfMS, RfMT, RfMU, RfDB, RfNI, RfSR. -/
import Derived.Test.YtcnodpipinlpcaaGreatLibD
import Derived.KernelRfl
set_option linter.unusedSectionVars false
set_option linter.unusedSimpArgs false
set_option linter.unusedVariables false
namespace Go.Rf
open Go
def Pn (q:Que) (w:Wtr):Prop:=w∈q.wa∨∃ x∈q.sl,pnP x=true∧wOf x=w
theorem a6O {q:Que} {w:Wtr}:∀ i,w∈pnL q i↔w∈q.wa∨∃ j,j < i∧pnP (q.sl.getD j default)=true∧wOf (q.sl.getD j default)=w
 | 0=>⟨.inl,fun h=>by
  rcases h with h | ⟨j,h,_⟩
  ·exact h
  ·omega⟩
 | i+1=>by
  have ih:=@a6O q w i
  show w∈(if pnP _ then _ else _:List Wtr)↔_
  split
  ·next h =>
   rw [List.mem_append,List.mem_singleton,ih]
   constructor
   ·rintro ((g | ⟨j,h1,h2⟩) | g)
    ·exact .inl g
    ·exact .inr ⟨j,by omega,h2⟩
    ·exact .inr ⟨i,by omega,h,g.symm⟩
   ·rintro (g | ⟨j,h1,h2,h3⟩)
    ·exact .inl (.inl g)
    ·by_cases e:j=i
     ·subst e;exact .inr h3.symm
     ·exact .inl (.inr ⟨j,by omega,h2,h3⟩)
  ·next h =>
   rw [ih]
   constructor
   ·rintro (g | ⟨j,h1,h2⟩)
    ·exact .inl g
    ·exact .inr ⟨j,by omega,h2⟩
   ·rintro (g | ⟨j,h1,h2,h3⟩)
    ·exact .inl g
    ·by_cases e:j=i
     ·subst e;exact absurd h2 h
     ·exact .inr ⟨j,by omega,h2,h3⟩
theorem b11 {q:Que} (h:QF q) {z:Int}:z∈J4 q↔∃ w,Pn q w∧w.q=z:=by
 unfold J4
 rw [List.mem_map]
 constructor
 ·rintro ⟨w,h1,h2⟩
  rw [a6J h,a6O] at h1
  refine ⟨w,?_,h2⟩
  rcases h1 with g | ⟨j,g1,g2,g3⟩
  ·exact .inl g
  ·exact .inr ⟨_,e7.mpr ⟨j,by rw [h.sl.len];exact g1,rfl⟩,g2,g3⟩
 ·rintro ⟨w,h1,h2⟩
  refine ⟨w,?_,h2⟩
  rw [a6J h,a6O]
  rcases h1 with g | ⟨x,g1,g2,g3⟩
  ·exact .inl g
  ·obtain ⟨j,hj,rfl⟩:=e7.mp g1
   exact .inr ⟨j,by rw [← h.sl.len];exact hj,g2,g3⟩
theorem a8p {l:List Slot} {k:Nat} {x:Slot} {P:Slot→Prop} (hk:k < l.length):(∃ y∈l.set k x,P y)↔P x∨∃ j,j < l.length∧j≠k∧P (l.getD j default):=by
 constructor
 ·rintro ⟨y,hy,p⟩
  rcases S8 hk hy with rfl | ⟨j,h1,h2,rfl⟩
  ·exact .inl p
  ·exact .inr ⟨j,h1,h2,p⟩
 ·rintro (p | ⟨j,h1,h2,p⟩)
  ·exact ⟨x,e7.mpr ⟨k,by rw [List.length_set];exact hk,by rw [v9 hk,if_pos rfl]⟩,p⟩
  ·exact ⟨_,e7.mpr ⟨j,by rw [List.length_set];exact h1,by rw [v9 hk,if_neg (Ne.symm h2)]⟩,p⟩
theorem b1b {l:List Slot} {k:Nat} {P:Slot→Prop} (hk:k < l.length):(∃ y∈l,P y)↔P (l.getD k default)∨∃ j,j < l.length∧j≠k∧P (l.getD j default):=by
 constructor
 ·rintro ⟨y,hy,p⟩
  obtain ⟨j,hj,rfl⟩:=e7.mp hy
  by_cases e:j=k
  ·subst e;exact .inl p
  ·exact .inr ⟨j,hj,e,p⟩
 ·rintro (p | ⟨j,h1,h2,p⟩)
  ·exact ⟨_,e7.mpr ⟨k,hk,rfl⟩,p⟩
  ·exact ⟨_,e7.mpr ⟨j,h1,rfl⟩,p⟩
theorem b3B {q:Que} (h:QF q) (hs:setd q=false) {w:Wtr}:Pn (stQ q) w↔Pn q w:=by
 obtain ⟨k,v,r,n⟩:=a6D h hs
 have hl:k < q.sl.length:=by rw [h.sl.len];exact n.kl
 rw [n.eq]
 show (w∈stW q∨∃ x∈q.sl.set k ⟨1,v.q,v.p⟩,pnP x=true∧wOf x=w)↔(w∈q.wa∨∃ x∈q.sl,pnP x=true∧wOf x=w)
 rw [a8p (P:=fun x=>pnP x=true∧wOf x=w) hl,b1b (P:=fun x=>pnP x=true∧wOf x=w) hl,n.wa,List.mem_cons]
 have h1:(pnP (⟨1,v.q,v.p⟩:Slot)=true∧wOf ⟨1,v.q,v.p⟩=w)↔w=v:=by
  constructor
  ·rintro ⟨_,e⟩;exact e.symm
  ·rintro rfl;exact ⟨F3.mpr (.inl rfl),rfl⟩
 rw [h1]
 rcases n.st with ⟨_,f2,f3⟩ | ⟨_,_,f2,_,f4⟩
 ·rw [f3]
  have h2:¬ (pnP (q.sl.getD k default)=true∧wOf (q.sl.getD k default)=w):=by
   rintro ⟨g,_⟩
   rcases F3.mp g with g | g<;>omega
  constructor
  ·rintro (g | g | g)
   ·exact .inl (.inr g)
   ·exact .inl (.inl g)
   ·exact .inr (.inr g)
  ·rintro ((g | g) | g | g)
   ·exact .inr (.inl g)
   ·exact .inl g
   ·exact absurd g h2
   ·exact .inr (.inr g)
 ·rw [f4,a1k]
  have h2:(pnP (q.sl.getD k default)=true∧wOf (q.sl.getD k default)=w)↔w=wOf (q.sl.getD k default):=⟨fun g=>g.2.symm,fun g=>⟨F3.mpr (.inl f2),g.symm⟩⟩
  rw [h2]
  constructor
  ·rintro ((g | g) | g | g)
   ·exact .inr (.inl g)
   ·exact .inl (.inr g)
   ·exact .inl (.inl g)
   ·exact .inr (.inr g)
  ·rintro ((g | g) | g | g)
   ·exact .inr (.inl g)
   ·exact .inl (.inr g)
   ·exact .inl (.inl g)
   ·exact .inr (.inr g)
theorem a9e:∀ {n:Nat} {q:Que},QF q→∀ {w:Wtr},Pn (a02 n q) w↔Pn q w
 | 0,q,_,w=>Iff.rfl
 | n+1,q,h,w=>by
  unfold a02
  cases hs:setd q
  ·simp only [Bool.false_eq_true,if_false]
   rw [a9e (a57 h hs).1,b3B h hs]
  ·simp only [if_true]
theorem a9f {q:Que} (h:QF q) {w:Wtr}:Pn (a03 q) w↔Pn q w:=a9e h
theorem SlF.ne {sl:List Slot} (h:SlF sl) {j k:Nat} (hj:j < 4) (hk:k < 4) (hjk:j≠k) (h1:(sl.getD j default).s≠0) (h2:(sl.getD k default).s≠0):(sl.getD j default).q≠(sl.getD k default).q:=by
 rcases Nat.lt_or_ge j k with g | g
 ·exact h.dif j k g hk h1 h2
 ·exact fun e=>h.dif k j (by omega) hj h2 h1 e.symm
theorem a3c {α:Type} [Inhabited α] {l:List α} {k:Nat} (hk:k < l.length):l.set k (l.getD k default)=l:=by
 rw [List.getD_eq_getElem?_getD,List.getElem?_eq_getElem hk]
 exact List.set_getElem_self hk
theorem a9g {sl:List Slot} (h:SlF sl):∀ i,i≤4→∀ j,j < i→(sl.getD j default).s=1→0≤G1 sl true i∧((G1 sl true i).toNat=j∨lessW (wOf (sl.getD (G1 sl true i).toNat default)) (wOf (sl.getD j default))=true)
 | 0,_,j,hj,_=>by omega
 | i+1,hi,j,hj,h1=>by
  have ih:=a9g h i (by omega)
  cases hc:a2j sl true (G1 sl true i) i
  ·rw [v1 hc]
   by_cases e:j=i
   ·subst e
    by_cases hb:G1 sl true j < 0
    ·rw [C8 h1 hb] at hc;cases hc
    ·rw [u6 h1 hb,if_pos rfl] at hc
     have hbl:=@a0I sl true j
     have h1':=a1j (sl:=sl) (most:=true) j (by omega)
     refine ⟨by omega,.inr ?_⟩
     rw [a1N (show (wOf (sl.getD (G1 sl true j).toNat default)).q≠(wOf (sl.getD j default)).q from h.ne (by omega) (by omega) (by omega) (by omega) (by omega)),hc]
     rfl
   ·exact ih j (by omega) h1
  ·rw [u9 hc]
   refine ⟨by omega,?_⟩
   by_cases e:j=i
   ·subst e;exact .inl (Int.toNat_natCast _)
   ·obtain ⟨g1,g2⟩:=ih j (by omega) h1
    have hs:(sl.getD i default).s=1:=by
     by_cases g:(sl.getD i default).s=1
     ·exact g
     ·rw [C7 g] at hc;cases hc
    rw [u6 hs (by omega),if_pos rfl] at hc
    rw [Int.toNat_natCast]
    right
    rcases g2 with g2 | g2
    ·rw [g2] at hc;exact hc
    ·exact N4 hc g2
theorem a9h {sl:List Slot} (h:SlF sl):∀ i,i≤4→∀ j,j < i→(sl.getD j default).s=1→0≤G1 sl false i∧((G1 sl false i).toNat=j∨lessW (wOf (sl.getD j default)) (wOf (sl.getD (G1 sl false i).toNat default))=true)
 | 0,_,j,hj,_=>by omega
 | i+1,hi,j,hj,h1=>by
  have ih:=a9h h i (by omega)
  cases hc:a2j sl false (G1 sl false i) i
  ·rw [v1 hc]
   by_cases e:j=i
   ·subst e
    by_cases hb:G1 sl false j < 0
    ·rw [C8 h1 hb] at hc;cases hc
    ·rw [u6 h1 hb,if_neg (by decide)] at hc
     have hbl:=@a0I sl false j
     have h1':=a1j (sl:=sl) (most:=false) j (by omega)
     refine ⟨by omega,.inr ?_⟩
     rw [a1N (show (wOf (sl.getD j default)).q≠(wOf (sl.getD (G1 sl false j).toNat default)).q from h.ne (by omega) (by omega) (by omega) (by omega) (by omega)),hc]
     rfl
   ·exact ih j (by omega) h1
  ·rw [u9 hc]
   refine ⟨by omega,?_⟩
   by_cases e:j=i
   ·subst e;exact .inl (Int.toNat_natCast _)
   ·obtain ⟨g1,g2⟩:=ih j (by omega) h1
    have hs:(sl.getD i default).s=1:=by
     by_cases g:(sl.getD i default).s=1
     ·exact g
     ·rw [C7 g] at hc;cases hc
    rw [u6 hs (by omega),if_neg (by decide)] at hc
    rw [Int.toNat_natCast]
    right
    rcases g2 with g2 | g2
    ·rw [g2] at hc;exact hc
    ·exact N4 g2 hc
theorem b12 {sl:List Slot} {most:Bool} (h:SlF sl) (hb:bstS sl most < 0):∀ x∈sl,x.s≠1:=fun x hx=>by
 obtain ⟨j,hj,rfl⟩:=e7.mp hx
 exact a5b sl.length |>.mp hb j hj
theorem b1c {sl:List Slot}:freS sl < 0↔∀ x∈sl,x.s≠0:=by
 rcases @a56 sl with ⟨h1,h2⟩ | ⟨i,h1,h2,h3⟩
 ·refine ⟨fun _ x hx=>?_,fun _=>by omega⟩
  obtain ⟨j,hj,rfl⟩:=e7.mp hx
  exact h2 j hj
 ·exact ⟨fun h=>by omega,fun h=>absurd h3 (h _ (e7.mpr ⟨i,h2,rfl⟩))⟩
theorem a3d {q:Que} (h:QF q):setd q=true↔(q.wa.length≠0→∀ x∈q.sl,x.s≠0)∧∀ x∈q.sl,x.s=1→∀ w∈q.wa,lessW (wOf x) w=true:=by
 have h4:=h.sl.len
 constructor
 ·intro hs
  by_cases h0:q.wa.length=0
  ·refine ⟨fun g=>absurd h0 g,fun x _ _ w hw=>?_⟩
   rw [List.eq_nil_of_length_eq_zero h0] at hw;cases hw
  ·have hf:freS q.sl < 0:=by
    rcases Int.lt_or_le (freS q.sl) 0 with g | g
    ·exact g
    ·rw [a8a h0 g] at hs;cases hs
   refine ⟨fun _=>b1c.mp hf,fun x hx h1 w hw=>?_⟩
   obtain ⟨j,hj,rfl⟩:=e7.mp hx
   obtain ⟨g1,g2⟩:=a9h h.sl 4 (Nat.le_refl _) j (by omega) h1
   have eb:bstS q.sl false=G1 q.sl false 4:=by unfold bstS;rw [h4]
   rw [a6C h0 hf (by omega),eb] at hs
   have h2:lessW (wOf (q.sl.getD j default)) (q.wa.getD 0 default)=true:=by
    rcases g2 with g2 | g2
    ·rw [← g2];exact hs
    ·exact N4 g2 hs
   obtain ⟨i,hi,rfl⟩:=e7.mp hw
   rcases Nat.eq_zero_or_pos i with g | g
   ·subst g;exact h2
   ·exact N4 h2 (a4C.mp h.pw 0 i g hi).1
 ·rintro ⟨h1,h2⟩
  by_cases h0:q.wa.length=0
  ·exact a5g h0
  ·have hf:=b1c.mpr (h1 h0)
   rcases Int.lt_or_le (bstS q.sl false) 0 with g | g
   ·exact a8b hf g
   ·rw [a6C h0 hf (by omega)]
    obtain ⟨k,e1,e2,e3⟩:=C1 g
    rw [e1,Int.toNat_natCast]
    exact h2 _ (e7.mpr ⟨k,e2,rfl⟩) e3 _ (e7.mpr ⟨0,by omega,rfl⟩)
section
variable {q:Que} {w:Wtr}
theorem a9i (hb:0≤bstS q.sl true):∀ x∈(a2m q).sl,x.s=2∨x∈q.sl:=fun x hx=>by
 obtain ⟨k,e1,e2,e3⟩:=C1 hb
 have hx:x∈q.sl.set (bstS q.sl true).toNat ⟨2,(q.sl.getD (bstS q.sl true).toNat default).q,(q.sl.getD (bstS q.sl true).toNat default).p⟩:=hx
 rw [e1,Int.toNat_natCast] at hx
 rcases S8 e2 hx with rfl | ⟨j,hj,_,rfl⟩
 ·exact .inl rfl
 ·exact .inr (e7.mpr ⟨j,hj,rfl⟩)
theorem b1d (h:QF q) (hs:setd q=true) (hb:0≤bstS q.sl true):setd (a2m q)=true:=by
 rw [a3d (a8d h hb)]
 rw [a3d h] at hs
 refine ⟨fun hw x hx=>?_,fun x hx h1 w hw=>?_⟩
 ·rcases a9i hb x hx with g | g
  ·omega
  ·exact hs.1 hw x g
 ·rcases a9i hb x hx with g | g
  ·omega
  ·exact hs.2 x g h1 w hw
theorem b3C (h:QF q) (hb:0≤bstS q.sl true):Pn (a2m q) w↔Pn q w∧w.q≠tkI q.sl:=by
 obtain ⟨k,e1,e2,e3⟩:=C1 hb
 have hk:k < 4:=by rw [← h.sl.len];exact e2
 have et:tkI q.sl=(q.sl.getD k default).q:=by unfold tkI;rw [e1,Int.toNat_natCast]
 rw [et]
 unfold Pn a2m tkS
 rw [e1,Int.toNat_natCast]
 dsimp only
 rw [a8p (P:=fun x=>pnP x=true∧wOf x=w) e2,b1b (P:=fun x=>pnP x=true∧wOf x=w) e2]
 constructor
 ·rintro (g | ⟨g,_⟩ | ⟨j,h1,h2,h3,rfl⟩)
  ·exact ⟨.inl g,fun e=>(h.wa w g).2.2 _ (e7.mpr ⟨k,e2,rfl⟩) (by omega) e.symm⟩
  ·rcases F3.mp g with g | g
   ·exact absurd g (by show ¬ (2:Int)=1;decide)
   ·exact absurd g (by show ¬ (2:Int)=3;decide)
  ·refine ⟨.inr (.inr ⟨j,h1,h2,h3,rfl⟩),?_⟩
   exact h.sl.ne (by rw [← h.sl.len];exact h1) hk h2 (by rcases F3.mp h3 with g | g<;>omega) (by omega)
 ·rintro ⟨g | ⟨_,rfl⟩ | g,h2⟩
  ·exact .inl g
  ·exact absurd rfl h2
  ·exact .inr (.inr g)
theorem b13 (h:QF q) (hb:0≤bstS q.sl true) (hw:w∈actL (a2m q).sl):(w.q=tkI q.sl∧∃ y∈q.sl,y.s=1∧wOf y=w)∨w∈actL q.sl:=by
 obtain ⟨k,e1,e2,e3⟩:=C1 hb
 obtain ⟨x,hx,h1,h2⟩:=w3.mp hw
 have hx:x∈q.sl.set (bstS q.sl true).toNat ⟨2,(q.sl.getD (bstS q.sl true).toNat default).q,(q.sl.getD (bstS q.sl true).toNat default).p⟩:=hx
 have et:tkI q.sl=(q.sl.getD k default).q:=by unfold tkI;rw [e1,Int.toNat_natCast]
 rw [e1,Int.toNat_natCast] at hx
 rcases S8 e2 hx with rfl | ⟨j,hj,_,rfl⟩
 ·refine .inl ⟨by rw [et,← h2];rfl,_,e7.mpr ⟨k,e2,rfl⟩,e3,h2⟩
 ·exact .inr (w3.mpr ⟨_,e7.mpr ⟨j,hj,rfl⟩,h1,h2⟩)
theorem b4y (h:QF q) {i:Int} (hf:0≤o9 q.sl i) (ha:(q.sl.getD (o9 q.sl i).toNat default).s=2):Pn ⟨edS q.sl i,q.wa⟩ w↔Pn q w:=by
 obtain ⟨k,e1,e2,e3,e4⟩:=V6 hf
 rw [a9a (by omega),e1,Int.toNat_natCast]
 rw [e1,Int.toNat_natCast] at ha
 unfold Pn
 dsimp only
 rw [a8p (P:=fun x=>pnP x=true∧wOf x=w) e2,b1b (P:=fun x=>pnP x=true∧wOf x=w) e2]
 have h1:¬ (pnP zSl=true∧wOf zSl=w):=fun g=>by cases g.1
 have h2:¬ (pnP (q.sl.getD k default)=true∧wOf (q.sl.getD k default)=w):=fun g=>by rcases F3.mp g.1 with g | g<;>omega
 constructor
 ·rintro (g | g | g)
  ·exact .inl g
  ·exact absurd g h1
  ·exact .inr (.inr g)
 ·rintro (g | g | g)
  ·exact .inl g
  ·exact absurd g h2
  ·exact .inr (.inr g)
theorem b3D (h:QF q) {i:Int} (hf:0≤o9 q.sl i) (ha:(q.sl.getD (o9 q.sl i).toNat default).s=2) (hw:w∈actL (edS q.sl i)):w∈actL q.sl∧w.q≠i:=by
 obtain ⟨k,e1,e2,e3,e4⟩:=V6 hf
 have hk:k < 4:=by rw [← h.sl.len];exact e2
 rw [a9a (by omega),e1,Int.toNat_natCast] at hw
 obtain ⟨x,hx,h1,rfl⟩:=w3.mp hw
 rcases S8 e2 hx with rfl | ⟨j,hj,hjk,rfl⟩
 ·cases h1
 ·refine ⟨w3.mpr ⟨_,e7.mpr ⟨j,hj,rfl⟩,h1,rfl⟩,?_⟩
  rw [← e4]
  exact h.sl.ne (by rw [← h.sl.len];exact hj) hk hjk (by rcases r9.mp h1 with g | g<;>omega) e3
end
def Rt (rs:List Route) (k:Nat) (w:Wtr):Prop:=tgI rs w.q=k∧prI rs w.q=w.p
structure IG (rs:List Route) (k:Nat) (x:Ifc):Prop where
 f:IfF x
 s:setd x.qu=true
 ma:0≤x.ma∧x.ma≤16
 nd:x.st.Nodup
 ac:∀ w∈actL x.qu.sl,w.q∈x.st∧Rt rs k w
 dn:∀ j,0 < j→j < x.st.length→prI rs (x.st.getD j default) < prI rs (x.st.getD (j - 1) default)
 pp:∀ w,Pn x.qu w→w.q∉x.st∧Rt rs k w
section
variable {rs:List Route} {k:Nat} {x:Ifc} {i:Int}
theorem IG.G (h:IG rs k x):IfG x:=⟨h.f,h.nd⟩
theorem IG.no3 (h:IG rs k x) {y:Slot} (hy:y∈x.qu.sl):y.s≠3:=fun e=>(h.pp (wOf y) (.inr ⟨y,hy,F3.mpr (.inr e),rfl⟩)).1 (h.ac (wOf y) (w3.mpr ⟨y,hy,r9.mpr (.inr e),rfl⟩)).1
theorem IG.sb (h:IG rs k x) {y:Slot} (hy:y∈x.qu.sl) (h0:y.s≠0):y.s=1∨y.s=2:=by
 have h3:=h.no3 hy
 obtain ⟨j,hj,rfl⟩:=e7.mp hy
 have hb:=(h.f.qu.sl.ok j (by rw [← h.f.qu.sl.len];exact hj) h0).1
 omega
theorem IG.rt (h:IG rs k x) {y:Slot} (hy:y∈x.qu.sl) (h0:y.s≠0):Rt rs k (wOf y):=by
 rcases h.sb hy h0 with e | e
 ·exact (h.pp _ (.inr ⟨y,hy,F3.mpr (.inl e),rfl⟩)).2
 ·exact (h.ac _ (w3.mpr ⟨y,hy,r9.mpr (.inl e),rfl⟩)).2
theorem IG.off (h:IG rs k x) (ht:tgI rs i=k) (hn:i∉x.st) {w:Wtr}:Pn (a2l x.qu i (prI rs i)) w↔w=⟨i,prI rs i⟩∨Pn x.qu w:=by
 have stay:a2l x.qu i (prI rs i)=x.qu→Pn x.qu ⟨i,prI rs i⟩→(Pn (a2l x.qu i (prI rs i)) w↔w=⟨i,prI rs i⟩∨Pn x.qu w):=fun e g=>by
  rw [e]
  exact ⟨.inr,fun q=>q.elim (fun e=>e▸g) id⟩
 by_cases h1:0≤o9 x.qu.sl i
 ·obtain ⟨j,e1,e2,e3,e4⟩:=V6 h1
  have hm:x.qu.sl.getD j default∈x.qu.sl:=e7.mpr ⟨j,e2,rfl⟩
  have hs1:(x.qu.sl.getD j default).s=1:=by
   rcases h.sb hm e3 with e | e
   ·exact e
   ·exact absurd (h.ac _ (w3.mpr ⟨_,hm,r9.mpr (.inl e),rfl⟩)).1 (by show ¬ (x.qu.sl.getD j default).q∈x.st;rw [e4];exact hn)
  have e5:(x.qu.sl.getD j default).p=prI rs i:=by rw [← e4];exact (h.rt hm e3).2.symm
  have hw:wOf (x.qu.sl.getD j default)=⟨i,prI rs i⟩:=by
   show (⟨(x.qu.sl.getD j default).q,(x.qu.sl.getD j default).p⟩:Wtr)=_
   rw [e4,e5]
  refine stay ?_ (.inr ⟨_,hm,F3.mpr (.inl hs1),hw⟩)
  have e6:ptS x.qu.sl i=x.qu.sl:=by
   rw [a1n (by rw [e1,Int.toNat_natCast];omega),e1,Int.toNat_natCast]
   exact a3c e2
  rw [b0J h1,e6]
 ·by_cases h2:0≤inW x.qu.wa i
  ·have hx:∃ w∈x.qu.wa,w.q=i:=by
    rcases Classical.em (∃ w∈x.qu.wa,w.q=i) with g | g
    ·exact g
    ·exact absurd (a8Y.mpr fun w hw e=>g ⟨w,hw,e⟩) (by omega)
   obtain ⟨v,hv,e⟩:=hx
   have ew:v=⟨i,prI rs i⟩:=by
    have:=(h.pp v (.inl hv)).2.2
    rw [e] at this
    cases v
    simp only at e this
    rw [e,this]
   exact stay (b0L (by omega) h2) (.inl (ew▸hv))
  ·rw [b0K (by omega) (by omega)]
   show (w∈insW x.qu.wa ⟨i,prI rs i⟩∨_)↔_
   rw [a1k]
   exact or_assoc
theorem IG.raise (h:IG rs k x) (hi:0≤i∧i≤7) (hp:0≤prI rs i∧prI rs i≤15) (ht:tgI rs i=k) (hn:i∉x.st):IG rs k (Z0 x i (prI rs i))∧∀ w,Pn (Z0 x i (prI rs i)).qu w↔w=⟨i,prI rs i⟩∨Pn x.qu w:=by
 obtain ⟨g1,g2,g3⟩:=P8 h.f.qu hi hp
 have hP:∀ w,Pn (a0J x.qu i (prI rs i)) w↔w=⟨i,prI rs i⟩∨Pn x.qu w:=fun w=>by unfold a0J;rw [a9f (a8c h.f.qu hi hp).1,h.off ht hn]
 refine ⟨⟨a8g h.f hi hp,g2,h.ma,h.nd,fun w hw=>?_,h.dn,fun w hw=>?_⟩,hP⟩
 ·have hw:w∈actL (a0J x.qu i (prI rs i)).sl:=hw
  rw [g3] at hw
  exact h.ac w hw
 ·rcases (hP w).mp hw with rfl | g
  ·exact ⟨hn,ht,rfl⟩
  ·exact h.pp w g
theorem IG.lv (h:IG rs k x) (hi:i∈x.st):lvl x.qu.sl i=prI rs i:=by
 have hf:=a0K (h.f.st i hi)
 obtain ⟨j,e1,e2,e3,e4⟩:=V6 hf
 unfold lvl
 rw [e1,Int.toNat_natCast,← e4]
 exact (h.rt (e7.mpr ⟨j,e2,rfl⟩) e3).2.symm
theorem IG.run (h:IG rs k x):a22 x=if x.st.length=0 then 16 else prI rs (x.st.getD (x.st.length - 1) default):=by
 unfold a22
 split
 ·rfl
 ·exact h.lv (e7.mpr ⟨x.st.length - 1,by omega,rfl⟩)
theorem IG.take (h:IG rs k x) (ho:okT x=true):IG rs k (a1m x)∧∀ w,Pn (a1m x).qu w↔Pn x.qu w∧w.q≠tkI x.qu.sl:=by
 obtain ⟨hb,hl⟩:=H5.mp ho
 have hP:∀ w,Pn (a2m x.qu) w↔Pn x.qu w∧w.q≠tkI x.qu.sl:=fun w=>b3C h.f.qu hb
 obtain ⟨k',e1,e2,e3⟩:=C1 hb
 have hm:x.qu.sl.getD k' default∈x.qu.sl:=e7.mpr ⟨k',e2,rfl⟩
 have hr:prI rs (tkI x.qu.sl)=(x.qu.sl.getD (bstS x.qu.sl true).toNat default).p:=by
  unfold tkI
  rw [e1,Int.toNat_natCast]
  exact (h.rt hm (by omega)).2
 refine ⟨⟨(b1W h.G ho).f,b1d h.f.qu h.s hb,h.ma,(b1W h.G ho).nd,fun w hw=>?_,fun j hj0 hj=>?_,fun w hw=>?_⟩,hP⟩
 ·rcases b13 h.f.qu hb hw with ⟨g1,y,y1,y2,rfl⟩ | g
  ·exact ⟨List.mem_append_right _ (List.mem_singleton.mpr g1),h.rt y1 (by omega)⟩
  ·exact ⟨List.mem_append_left _ (h.ac w g).1,(h.ac w g).2⟩
 ·have hj:j < (x.st++[tkI x.qu.sl]).length:=hj
  rw [List.length_append,List.length_cons,List.length_nil] at hj
  show prI rs ((x.st++[tkI x.qu.sl]).getD j default) < prI rs ((x.st++[tkI x.qu.sl]).getD (j - 1) default)
  rw [a1P (show j - 1 < x.st.length by omega)]
  rcases Nat.lt_or_ge j x.st.length with g | g
  ·rw [a1P g];exact h.dn j hj0 g
  ·rw [a1Q g,show j - x.st.length=0 by omega]
   show prI rs (tkI x.qu.sl) < _
   rw [hr]
   have:b0M x≤a22 x:=Int.min_le_right _ _
   rw [h.run,if_neg (by omega)] at this
   rw [show j - 1=x.st.length - 1 by omega]
   omega
 ·obtain ⟨g1,g2⟩:=(hP w).mp hw
  refine ⟨fun g=>?_,(h.pp w g1).2⟩
  rcases List.mem_append.mp g with g | g
  ·exact (h.pp w g1).1 g
  ·exact g2 (List.mem_singleton.mp g)
theorem IG.leave (h:IG rs k x) (h0:x.st.length≠0):IG rs k (a1q x)∧∀ w,Pn (a1q x).qu w↔Pn x.qu w:=by
 have hlm:=a0m h0
 obtain ⟨hf,ha⟩:=b03 h.G h0
 obtain ⟨k',e1,e2,e3,e4⟩:=V6 hf
 have h2:(x.qu.sl.getD (o9 x.qu.sl (J5 x)).toNat default).s=2:=by
  have hm:x.qu.sl.getD (o9 x.qu.sl (J5 x)).toNat default∈x.qu.sl:=by rw [e1,Int.toNat_natCast];exact e7.mpr ⟨k',e2,rfl⟩
  have:=h.no3 hm
  rcases r9.mp ha with g | g
  ·exact g
  ·exact absurd g this
 have hQ:=a4D h.f.qu hf
 have hP:∀ w,Pn (a3G x.qu (J5 x)) w↔Pn x.qu w:=fun w=>by unfold a3G;rw [a9f hQ,b4y h.f.qu hf h2]
 refine ⟨⟨(b1Y h.G h0).f,(a8e h.f.qu hf).2,h.ma,(b1Y h.G h0).nd,fun w hw=>?_,fun j hj0 hj=>?_,fun w hw=>?_⟩,hP⟩
 ·have hw:w∈actL (a03 ⟨edS x.qu.sl (J5 x),x.qu.wa⟩).sl:=hw
  rw [a5i hQ] at hw
  obtain ⟨g1,g2⟩:=b3D h.f.qu hf h2 hw
  refine ⟨?_,(h.ac w g1).2⟩
  obtain ⟨j,hj,e⟩:=e7.mp (h.ac w g1).1
  refine (a1p (by omega)).mpr ⟨j,?_,e⟩
  by_cases ej:j=x.st.length - 1
  ·subst ej;exact absurd e.symm g2
  ·omega
 ·have hj:j < (x.st.take (x.st.length - 1)).length:=hj
  rw [List.length_take] at hj
  show prI rs ((x.st.take (x.st.length - 1)).getD j default) < prI rs ((x.st.take (x.st.length - 1)).getD (j - 1) default)
  rw [U2 (by omega),U2 (by omega)]
  exact h.dn j hj0 (by omega)
 ·have g:=(hP w).mp hw
  exact ⟨fun q=>(h.pp w g).1 (List.mem_of_mem_take q),(h.pp w g).2⟩
theorem IG.mask (h:IG rs k x) {v:Int} (hv:0≤v∧v≤16):IG rs k ⟨v,x.st,x.qu⟩:=⟨⟨h.f.qu,h.f.sn,h.f.st⟩,h.s,hv,h.nd,h.ac,h.dn,h.pp⟩
end
theorem a6c {rs:List Route} {a:Abs} {c:Nat}:∀ n,(∀ i,i < n→(a.po.getD i default=true∧(rs.getD i default).t=c)→0≤s0 rs a c n∧((rs.getD (s0 rs a c n).toNat default).p < (rs.getD i default).p∨((rs.getD (s0 rs a c n).toNat default).p=(rs.getD i default).p∧s0 rs a c n≤i)))∧(0≤s0 rs a c n→a.po.getD (s0 rs a c n).toNat default=true∧(rs.getD (s0 rs a c n).toNat default).t=c)
 | 0=>⟨fun i hi=>by omega,fun h=>by simp [s0] at h⟩
 | n+1=>by
  obtain ⟨ih1,ih2⟩:=@a6c rs a c n
  have hb:=@a0h rs a c n
  by_cases hc:(a.po.getD n default=true∧(rs.getD n default).t=c)∧(s0 rs a c n < 0∨(rs.getD n default).p < (rs.getD (s0 rs a c n).toNat default).p)
  ·rw [O1 hc.1.1 hc.1.2 hc.2]
   refine ⟨fun i hi hci=>⟨by omega,?_⟩,fun _=>by rw [Int.toNat_natCast];exact hc.1⟩
   rw [Int.toNat_natCast]
   by_cases e:i=n
   ·subst e;exact .inr ⟨rfl,Int.le_refl _⟩
   ·obtain ⟨g1,g2⟩:=ih1 i (by omega) hci
    rcases hc.2 with g | g
    ·omega
    ·rcases g2 with g2 | g2
     ·left;omega
     ·left;omega
  ·rw [t7 (fun q1 q2 q3=>hc ⟨⟨q1,q2⟩,q3⟩)]
   refine ⟨fun i hi hci=>?_,ih2⟩
   by_cases e:i=n
   ·subst e
    have:¬ (s0 rs a c i < 0∨(rs.getD i default).p < (rs.getD (s0 rs a c i).toNat default).p):=fun g=>hc ⟨hci,g⟩
    omega
   ·exact ih1 i (by omega) hci
theorem a6d {sl:List Slot}:∀ i,(∀ j,j < i→H6 (sl.getD j default)=true)→(actN sl i).length=i
 | 0,_=>rfl
 | i+1,h=>by rw [b28 (h i (by omega)),List.length_append,a6d i (fun j hj=>h j (by omega))];rfl
theorem IG.next {rs:List Route} {k:Nat} {x:Ifc} {a:Abs} (h:IG rs k x) (hst:a.st.getD k default=x.st) (hma:a.ma.getD k default=x.ma) (hr:∀ i,i < 8→0≤(rs.getD i default).p∧(rs.getD i default).p≤15) (hpo:∀ i,i < 8→((a.po.getD i default=true∧(rs.getD i default).t=k)↔∃ w,Pn x.qu w∧w.q=i)):(okT x=true→z7 rs a k=tkI x.qu.sl)∧(okT x=false→z7 rs a k=-1):=by
 have h4:=h.f.qu.sl.len
 have hbl:=@a0h rs a k 8
 obtain ⟨m1,m2⟩:=@a6c rs a k 8
 by_cases hb:0≤bstS x.qu.sl true
 ·obtain ⟨j,e1,e2,e3⟩:=C1 hb
  have hm:x.qu.sl.getD j default∈x.qu.sl:=e7.mpr ⟨j,e2,rfl⟩
  have ht:tkI x.qu.sl=(x.qu.sl.getD j default).q:=by unfold tkI;rw [e1,Int.toNat_natCast]
  obtain ⟨t1,t2⟩:=a8i h.f.qu.sl hb
  have hlt:=h.G.lt hb
  have hrt:=h.rt hm (by omega)
  have hp0:prI rs (x.qu.sl.getD j default).q=(x.qu.sl.getD j default).p:=hrt.2
  have hmin:∀ w,Pn x.qu w→w=wOf (x.qu.sl.getD j default)∨lessW (wOf (x.qu.sl.getD j default)) w=true:=by
   rintro w (g | ⟨y,g1,g2,rfl⟩)
   ·exact .inr (((a3d h.f.qu).mp h.s).2 _ hm e3 w g)
   ·obtain ⟨i,hi,rfl⟩:=e7.mp g1
    have hs1:(x.qu.sl.getD i default).s=1:=by
     rcases F3.mp g2 with g | g
     ·exact g
     ·exact absurd g (h.no3 g1)
    obtain ⟨q1,q2⟩:=a9g h.f.qu.sl 4 (Nat.le_refl _) i (by omega) hs1
    have eb:G1 x.qu.sl true 4=(j:Int):=by rw [← h4];exact e1
    rw [eb,Int.toNat_natCast] at q2
    rcases q2 with q2 | q2
    ·subst q2;exact .inl rfl
    ·exact .inr q2
  obtain ⟨n,hn⟩:∃ n:Nat,tkI x.qu.sl=n:=⟨(tkI x.qu.sl).toNat,by omega⟩
  have hq0:(x.qu.sl.getD j default).q=n:=by rw [← ht];exact hn
  have hc0:a.po.getD n default=true∧(rs.getD n default).t=k:=(hpo n (by omega)).mpr ⟨wOf (x.qu.sl.getD j default),.inr ⟨_,hm,F3.mpr (.inl e3),rfl⟩,hq0⟩
  obtain ⟨g1,g2⟩:=m1 n (by omega) hc0
  obtain ⟨w,w1,w2⟩:=(hpo (s0 rs a k 8).toNat (by omega)).mp (m2 g1)
  have hwp:prI rs w.q=w.p:=(h.pp w w1).2.2
  rw [hq0] at hp0
  have hp0:(rs.getD n default).p=(x.qu.sl.getD j default).p:=hp0
  rw [w2] at hwp
  have hwp:(rs.getD (s0 rs a k 8).toNat default).p=w.p:=hwp
  have hbn:s0 rs a k 8=n:=by
   rcases hmin w w1 with g | g
   ·rw [g] at w2
    have w2:(x.qu.sl.getD j default).q=((s0 rs a k 8).toNat:Int):=w2
    omega
   ·rw [N3] at g
    have g:(x.qu.sl.getD j default).p < w.p∨((x.qu.sl.getD j default).p=w.p∧(x.qu.sl.getD j default).q < w.q):=g
    omega
  have hok:okT x=true↔((x.qu.sl.getD j default).p < x.ma∧(x.qu.sl.getD j default).p < a22 x):=by
   unfold okT
   rw [H5,e1,Int.toNat_natCast]
   unfold b0M
   constructor
   ·rintro ⟨_,g⟩;omega
   ·rintro ⟨g,g'⟩;exact ⟨by omega,by omega⟩
  have htop:a74 rs (a.st.getD k default)=prI rs (x.st.getD (x.st.length - 1) default):=by rw [hst];rfl
  have hrun:=h.run
  have h15:=hr n (by omega)
  rw [a4x,hbn,Int.toNat_natCast,hma,htop,hst,hn]
  constructor
  ·intro ho
   obtain ⟨o1,o2⟩:=hok.mp ho
   rw [hrun] at o2
   refine if_neg ?_
   rintro (g | g | g | ⟨g,g'⟩)
   ·omega
   ·omega
   ·omega
   ·rw [if_neg (by omega)] at o2;omega
  ·intro ho
   refine if_pos ?_
   have:¬ ((x.qu.sl.getD j default).p < x.ma∧(x.qu.sl.getD j default).p < a22 x):=fun g=>by rw [hok.mpr g] at ho;cases ho
   rw [hrun] at this
   by_cases h0:x.st.length=0
   ·rw [if_pos h0] at this
    right;right;left;omega
   ·rw [if_neg h0] at this
    by_cases g:(x.qu.sl.getD j default).p < x.ma
    ·right;right;right;exact ⟨by omega,by omega⟩
    ·right;right;left;omega
 ·have hno:∀ y∈x.qu.sl,y.s≠1:=b12 (most:=true) h.f.qu.sl (by omega)
  have ho:okT x=false:=by unfold okT;rw [a4B];exact fun g=>hb g.1
  refine ⟨fun g=>(by rw [ho] at g;cases g),fun _=>?_⟩
  by_cases hw:x.qu.wa.length=0
  ·rw [a4x]
   refine if_pos (.inl ?_)
   rcases Int.lt_or_le (s0 rs a k 8) 0 with g | g
   ·exact g
   ·exfalso
    obtain ⟨w,w1,w2⟩:=(hpo (s0 rs a k 8).toNat (by omega)).mp (m2 g)
    rcases w1 with w1 | ⟨y,y1,y2,_⟩
    ·rw [List.eq_nil_of_length_eq_zero hw] at w1;cases w1
    ·rcases F3.mp y2 with e | e
     ·exact hno y y1 e
     ·exact h.no3 y1 e
  ·have hall:=((a3d h.f.qu).mp h.s).1 hw
   have hact:∀ j,j < 4→H6 (x.qu.sl.getD j default)=true:=fun j hj=>by
    have hm:x.qu.sl.getD j default∈x.qu.sl:=e7.mpr ⟨j,by omega,rfl⟩
    rcases h.sb hm (hall _ hm) with e | e
    ·exact absurd e (hno _ hm)
    ·exact r9.mpr (.inl e)
   have hlen:=a1T (a1S h.f.qu.sl 4 (Nat.le_refl _)) (b:=x.st) (fun q hq=>by
    obtain ⟨w,w1,w2⟩:=(S9 h4).mpr hq
    rw [← w2];exact (h.ac w w1).1)
   rw [a6d 4 hact] at hlen
   have:=h.f.sn
   exact a6A (by rw [hst];omega)
structure MG (m:Mach):Prop where
 rt:okRts m.rs m.cp.length=true
 en:m.en.length=8
 ra:m.ra.length=8
 ok:∀ k,k < m.cp.length→IG m.rs k (m.cp.getD k default)
theorem b4z {rs:List Route} {k:Nat} {x:Ifc} (h:a04 x=true) (h2:okRq rs x.qu k=true):IG rs k x:=by
 obtain ⟨f,s,ma,sr⟩:=a8m h
 simp only [a04,a2n,Bool.and_eq_true,decide_eq_true_eq,w8] at h
 obtain ⟨_,_,_,hl⟩:=h
 simp only [okRq,Bool.and_eq_true,w8] at h2
 obtain ⟨hs,hw⟩:=h2
 have hp:=Y5.mp sr
 have h4:=f.qu.sl.len
 have hsl:∀ y∈x.qu.sl,y.s≠3∧(y.s=0∨Rt rs k (wOf y)):=fun y hy=>by
  obtain ⟨j,hj,rfl⟩:=e7.mp hy
  exact a29.mp (hs j (by omega))
 have hnd:x.st.Nodup:=hp.nodup_iff.mpr (a1S f.qu.sl 4 (Nat.le_refl _))
 have hac:∀ w∈actL x.qu.sl,w.q∈x.st∧Rt rs k w:=fun w hw=>by
  refine ⟨hp.mem_iff.mpr ((S9 h4).mp ⟨w,hw,rfl⟩),?_⟩
  obtain ⟨y,y1,y2,rfl⟩:=w3.mp hw
  rcases (hsl y y1).2 with g | g
  ·rcases r9.mp y2 with e | e<;>omega
  ·exact g
 have hpp:∀ w,Pn x.qu w→w.q∉x.st∧Rt rs k w:=by
  intro w hw'
  have key:w.q∈x.st→∃ j,j < 4∧H6 (x.qu.sl.getD j default)=true∧(x.qu.sl.getD j default).q=w.q:=fun g=>(H8 4).mp (hp.mem_iff.mp g)
  rcases hw' with g | ⟨y,y1,y2,rfl⟩
  ·refine ⟨fun q=>?_,?_⟩
   ·obtain ⟨j,j1,j2,j3⟩:=key q
    exact (f.qu.wa w g).2.2 _ (e7.mpr ⟨j,by omega,rfl⟩) (by rcases r9.mp j2 with e | e<;>omega) j3
   ·obtain ⟨i,hi,rfl⟩:=e7.mp g
    exact a28.mp (hw i hi)
  ·obtain ⟨i,hi,rfl⟩:=e7.mp y1
   have e1:(x.qu.sl.getD i default).s=1:=by
    rcases F3.mp y2 with e | e
    ·exact e
    ·exact absurd e (hsl _ y1).1
   refine ⟨fun q=>?_,?_⟩
   ·obtain ⟨j,j1,j2,j3⟩:=key q
    have hne:j≠i:=fun e=>by subst e;rcases r9.mp j2 with e | e<;>omega
    exact f.qu.sl.ne j1 (by omega) hne (by rcases r9.mp j2 with e | e<;>omega) (by omega) j3
   ·rcases (hsl _ y1).2 with g | g
    ·omega
    ·exact g
 have hdn:∀ j,0 < j→j < x.st.length→lvl x.qu.sl (x.st.getD j default) < lvl x.qu.sl (x.st.getD (j - 1) default):=fun j h0 hj=>by
  have:=hl j hj
  simp only [lvD,Bool.or_eq_true,decide_eq_true_eq] at this
  omega
 have hlv:∀ q∈x.st,lvl x.qu.sl q=prI rs q:=fun q hq=>by
  obtain ⟨j,e1,e2,e3,e4⟩:=V6 (a0K (f.st q hq))
  unfold lvl
  rw [e1,Int.toNat_natCast,← e4]
  rcases (hsl _ (e7.mpr ⟨j,e2,rfl⟩)).2 with g | g
  ·exact absurd g e3
  ·exact g.2.symm
 refine ⟨f,s,ma,hnd,hac,fun j h0 hj=>?_,hpp⟩
 have:=hdn j h0 hj
 rw [hlv _ (e7.mpr ⟨j,hj,rfl⟩),hlv _ (e7.mpr ⟨j - 1,by omega,rfl⟩)] at this
 exact this
theorem IG.ok {rs:List Route} {k:Nat} {x:Ifc} (h:IG rs k x):a04 x=true∧okRq rs x.qu k=true:=by
 have h4:=h.f.qu.sl.len
 constructor
 ·simp only [a04,a2n,Bool.and_eq_true,decide_eq_true_eq,w8]
  refine ⟨p6.mpr h.ma,a5h.mpr ⟨h.f.qu,h.s⟩,Y5.mpr (a6K h.nd (fun q hq=>(S9 h4).mp (h.f.st q hq)) (a1T (a1S h.f.qu.sl 4 (Nat.le_refl _)) fun q hq=>?_)),fun i hi=>?_⟩
  ·obtain ⟨w,w1,w2⟩:=(S9 h4).mpr hq
   rw [← w2];exact (h.ac w w1).1
  ·rcases Nat.eq_zero_or_pos i with g | g
   ·subst g;exact b2n
   ·refine b2o ?_
    rw [h.lv (e7.mpr ⟨i,hi,rfl⟩),h.lv (e7.mpr ⟨i - 1,by omega,rfl⟩)]
    exact h.dn i g hi
 ·simp only [okRq,Bool.and_eq_true,w8]
  refine ⟨fun i hi=>a29.mpr ?_,fun i hi=>a28.mpr (h.pp _ (.inl (e7.mpr ⟨i,hi,rfl⟩))).2⟩
  have hm:x.qu.sl.getD i default∈x.qu.sl:=e7.mpr ⟨i,by omega,rfl⟩
  refine ⟨h.no3 hm,?_⟩
  by_cases h0:(x.qu.sl.getD i default).s=0
  ·exact .inl h0
  ·exact .inr (h.rt hm h0)
theorem mG {m:Mach}:a27 m=true↔MG m:=by
 constructor
 ·intro h
  have hF:=maF h
  simp only [a27,a3J,Bool.and_eq_true,decide_eq_true_eq,w8] at h
  exact ⟨hF.rt,hF.en,hF.ra,fun k hk=>b4z (h.2.2.2 k hk).1 (h.2.2.2 k hk).2⟩
 ·intro h
  simp only [a27,a3J,Bool.and_eq_true,decide_eq_true_eq,w8]
  exact ⟨h.rt,h.en,h.ra,fun k hk=>(h.ok k hk).ok⟩
theorem MG.G {m:Mach} (h:MG m):MaG m:=(maF (mG.mpr h)).g
theorem a7E {po:List Bool} {l:List Int} (hp:po.length=8) (hl:∀ j,j < l.length→0≤l.getD j default∧l.getD j default≤7) {i:Nat}:∀ n,n≤l.length→((a7y po l n).getD i default=true↔po.getD i default=true∨∃ j,j < n∧l.getD j default=i)
 | 0,_=>⟨.inl,fun h=>by
  rcases h with h | ⟨j,h,_⟩
  ·exact h
  ·omega⟩
 | n+1,hn=>by
  have ih:=a7E hp hl (i:=i) n (by omega)
  have hb:=hl n (by omega)
  rw [a3K,v9 (by rw [R1];omega)]
  split
  ·next e=>exact ⟨fun _=>.inr ⟨n,by omega,by omega⟩,fun _=>rfl⟩
  ·next e =>
   rw [ih]
   constructor
   ·rintro (g | ⟨j,g1,g2⟩)
    ·exact .inl g
    ·exact .inr ⟨j,by omega,g2⟩
   ·rintro (g | ⟨j,g1,g2⟩)
    ·exact .inl g
    ·by_cases ej:j=n
     ·subst ej;omega
     ·exact .inr ⟨j,by omega,g2⟩
theorem a9j {m:Mach} (h:∀ k,k < m.cp.length→QF (m.cp.getD k default).qu) {i:Nat}:∀ n,n≤m.cp.length→((poN m n).getD i default=true↔∃ c w,c < n∧Pn (m.cp.getD c default).qu w∧w.q=i)
 | 0,_=>by
  refine ⟨fun g=>?_,fun ⟨c,_,g,_⟩=>by omega⟩
  change (List.replicate 8 false).getD i default=true at g
  rw [List.getD_eq_getElem?_getD,List.getElem?_replicate] at g
  split at g<;>cases g
 | n+1,hn=>by
  have ih:=a9j h (i:=i) n (by omega)
  have hq:=h n (by omega)
  rw [a3a,a7E (C9 n) (fun j hj=>a86 hq hj) _ (Nat.le_refl _),ih]
  have e:(∃ j,j < (J4 (m.cp.getD n default).qu).length∧(J4 (m.cp.getD n default).qu).getD j default=(i:Int))↔∃ w,Pn (m.cp.getD n default).qu w∧w.q=i:=by rw [← e7,b11 hq]
  rw [e]
  constructor
  ·rintro (⟨c,w,g1,g2⟩ | ⟨w,g⟩)
   ·exact ⟨c,w,by omega,g2⟩
   ·exact ⟨n,w,by omega,g⟩
  ·rintro ⟨c,w,g1,g2⟩
   by_cases ec:c=n
   ·subst ec;exact .inr ⟨w,g2⟩
   ·exact .inl ⟨c,w,by omega,g2⟩
theorem MG.po {m:Mach} (h:MG m) {i:Nat}:(r3 m).po.getD i default=true↔∃ c w,c < m.cp.length∧Pn (m.cp.getD c default).qu w∧w.q=i:=a9j (fun k hk=>(h.ok k hk).f.qu) _ (Nat.le_refl _)
theorem MG.pok {m:Mach} (h:MG m) {i k:Nat} (hk:k < m.cp.length):((r3 m).po.getD i default=true∧(m.rs.getD i default).t=k)↔∃ w,Pn (m.cp.getD k default).qu w∧w.q=i:=by
 rw [h.po]
 constructor
 ·rintro ⟨⟨c,w,g1,g2,g3⟩,g4⟩
  have:=((h.ok c g1).pp w g2).2.1
  rw [g3] at this
  have:(m.rs.getD i default).t=c:=this
  have ec:c=k:=by omega
  subst ec
  exact ⟨w,g2,g3⟩
 ·rintro ⟨w,g1,g2⟩
  refine ⟨⟨k,w,hk,g1,g2⟩,?_⟩
  have:=((h.ok k hk).pp w g1).2.1
  rw [g2] at this
  exact this
theorem MG.pr {m:Mach} (h:MG m) {i:Nat} (hi:i < 8):0≤(m.rs.getD i default).p∧(m.rs.getD i default).p≤15:=((z4.mp h.rt).2.2 i hi).1
theorem MG.tg {m:Mach} (h:MG m) {i:Nat} (hi:i < 8):(m.rs.getD i default).t=tgM m i∧tgM m i < m.cp.length:=by
 have:=((z4.mp h.rt).2.2 i hi).2
 unfold tgM
 omega
theorem MG.st {m:Mach} {k:Nat} (hk:k < m.cp.length):(r3 m).st.getD k default=(m.cp.getD k default).st:=F5 (f:=fun x:Ifc=>x.st) hk
theorem MG.mak {m:Mach} {k:Nat} (hk:k < m.cp.length):(r3 m).ma.getD k default=(m.cp.getD k default).ma:=F5 (f:=fun x:Ifc=>x.ma) hk
theorem MG.nx {m:Mach} (h:MG m) {k:Nat} (hk:k < m.cp.length):(okT (m.cp.getD k default)=true→z7 m.rs (r3 m) k=tkI (m.cp.getD k default).qu.sl)∧(okT (m.cp.getD k default)=false→z7 m.rs (r3 m) k=-1):=(h.ok k hk).next (MG.st hk) (MG.mak hk) (fun i hi=>h.pr hi) (fun i _=>h.pok hk)
theorem MG.ab {m:Mach} (h:MG m):v8 m.rs (r3 m)=true:=by
 have hl:(r3 m).ma.length=m.cp.length:=List.length_map _
 have hr:=(z4.mp h.rt).2.1
 refine z9 (by rw [hl];exact h.rt) (s9.mpr ⟨by rw [hl];exact List.length_map _,h.en,h.ra,C9 _⟩) fun k hk=>?_
 rw [hl] at hk
 have hI:=h.ok k hk
 have hst:=MG.st hk
 have hel:∀ j,j < (m.cp.getD k default).st.length→(0≤(m.cp.getD k default).st.getD j default∧(m.cp.getD k default).st.getD j default≤7)∧tgI m.rs ((m.cp.getD k default).st.getD j default)=k:=fun j hj=>by
  obtain ⟨w,w1,w2⟩:=hI.f.st _ (e7.mpr ⟨j,hj,rfl⟩)
  have ht:=(hI.ac w w1).2.1
  obtain ⟨y,y1,y2,rfl⟩:=w3.mp w1
  obtain ⟨i,hi,rfl⟩:=e7.mp y1
  rw [← w2]
  exact ⟨(hI.f.qu.sl.ok i (by rw [← hI.f.qu.sl.len];exact hi) (by rcases r9.mp y2 with e | e<;>omega)).2.1,ht⟩
 refine b0n (by rw [MG.mak hk];exact p6.mpr hI.ma) (by rw [hst];exact hI.f.sn) (fun j hj=>?_) (fun j hj=>?_)
 ·rw [hst] at hj ⊢
  refine I1.mpr ⟨(hel j hj).1,(hel j hj).2,?_⟩
  rcases Nat.eq_zero_or_pos j with g | g
  ·exact .inl g
  ·exact .inr (hI.dn j g hj)
 ·rw [hst] at hj ⊢
  rw [a7g,← Bool.not_eq_true]
  obtain ⟨b1,b2⟩:=(hel j hj).1
  intro g
  have ht:(m.rs.getD ((m.cp.getD k default).st.getD j default).toNat default).t=k:=(hel j hj).2
  obtain ⟨w,w1,w2⟩:=(h.pok hk).mp ⟨g,ht⟩
  refine (hI.pp w w1).1 ?_
  rw [w2,Int.toNat_of_nonneg b1]
  exact e7.mpr ⟨j,hj,rfl⟩
theorem MG.put {m:Mach} (h:MG m) {k:Nat} {x:Ifc} (hx:IG m.rs k x):MG ⟨m.rs,m.en,m.ra,m.cp.set k x⟩:=by
 refine ⟨by show okRts m.rs (m.cp.set k x).length=true;rw [List.length_set];exact h.rt,h.en,h.ra,fun j hj=>?_⟩
 have hj:j < (m.cp.set k x).length:=hj
 rw [List.length_set] at hj
 show IG m.rs j ((m.cp.set k x).getD j default)
 by_cases e:k=j
 ·subst e
  rw [v9 hj,if_pos rfl];exact hx
 ·rw [List.getD_eq_getElem?_getD,List.getElem?_set_ne e,← List.getD_eq_getElem?_getD];exact h.ok j hj
theorem a8q {m m':Mach} (h:m.cp=m'.cp):∀ n,poN m n=poN m' n
 | 0=>rfl
 | n+1=>by rw [a3a,a3a,a8q h n,h]
theorem b1e {m:Mach} (h:MG m) {l:List Bool} (hl:l.length=8) (hi:∀ i,i < 8→(l.getD i default=true↔∃ c w,c < m.cp.length∧Pn (m.cp.getD c default).qu w∧w.q=i)):(r3 m).po=l :=
 a2b (i:=8) (by rw [hl];exact C9 _) (fun j hj=>by rw [Bool.eq_iff_iff,hi j hj];exact h.po) (by rw [show (r3 m).po.length=8 from C9 _];exact Nat.le_refl _)
theorem a8r {m:Mach} (h:MG m) {i:Nat} (hi:i < 8):a00 m.rs (r3 m) i=a0n m i:=by
 have:=MG.st (m:=m) (h.tg hi).2
 unfold a00 a0n
 show (m.en.getD i default && (m.ra.getD i default && !a2U ((r3 m).st.getD (tgM m i) default) i))=_
 rw [this]
theorem a5s {m:Mach} (h:MG m):∀ n,n≤8→∀ k,k < m.cp.length→IG m.rs k ((J6 m n).getD k default)∧((J6 m n).getD k default).st=(m.cp.getD k default).st∧((J6 m n).getD k default).ma=(m.cp.getD k default).ma∧∀ w,Pn ((J6 m n).getD k default).qu w↔Pn (m.cp.getD k default).qu w∨∃ i,i < n∧a0n m i=true∧tgM m i=k∧w=⟨(i:Int),prI m.rs i⟩
 | 0,_,k,hk=>⟨h.ok k hk,rfl,rfl,fun w=>⟨.inl,fun g=>by
  rcases g with g | ⟨i,g,_⟩
  ·exact g
  ·omega⟩⟩
 | n+1,hn,k,hk=>by
  obtain ⟨i1,i2,i3,i4⟩:=a5s h n (by omega) k hk
  obtain ⟨t1,t2⟩:=h.tg (i:=n) (by omega)
  cases hc:a0n m n
  ·rw [a0O hc]
   refine ⟨i1,i2,i3,fun w=>(i4 w).trans ?_⟩
   constructor
   ·rintro (g | ⟨i,g1,g2⟩)
    ·exact .inl g
    ·exact .inr ⟨i,by omega,g2⟩
   ·rintro (g | ⟨i,g1,g2⟩)
    ·exact .inl g
    ·by_cases e:i=n
     ·subst e;rw [hc] at g2;cases g2.1
     ·exact .inr ⟨i,by omega,g2⟩
  ·rw [a0N hc,v9 (by rw [G2];exact t2)]
   by_cases e:tgM m n=k
   ·rw [if_pos e,e]
    have hn':(n:Int)∉((J6 m n).getD k default).st:=by
     rw [i2]
     simp only [a0n,Bool.and_eq_true,Bool.not_eq_true',a4H] at hc
     rw [← e];exact hc.2.2
    obtain ⟨r1,r2⟩:=i1.raise (i:=(n:Int)) (by omega) (h.pr (by omega)) (by rw [← e];exact t1) hn'
    refine ⟨r1,i2,i3,fun w=>(r2 w).trans ?_⟩
    rw [i4 w]
    constructor
    ·rintro (g | g | ⟨i,g1,g2⟩)
     ·exact .inr ⟨n,by omega,hc,e,g⟩
     ·exact .inl g
     ·exact .inr ⟨i,by omega,g2⟩
    ·rintro (g | ⟨i,g1,g2⟩)
     ·exact .inr (.inl g)
     ·by_cases ei:i=n
      ·subst ei;exact .inl g2.2.2
      ·exact .inr (.inr ⟨i,by omega,g2⟩)
   ·rw [if_neg e]
    refine ⟨i1,i2,i3,fun w=>(i4 w).trans ?_⟩
    constructor
    ·rintro (g | ⟨i,g1,g2⟩)
     ·exact .inl g
     ·exact .inr ⟨i,by omega,g2⟩
    ·rintro (g | ⟨i,g1,g2⟩)
     ·exact .inl g
     ·by_cases ei:i=n
      ·subst ei;exact absurd g2.2.1 e
      ·exact .inr ⟨i,by omega,g2⟩
theorem b2y {m:Mach} (h:MG m):∀ n,n≤8→a3L m n=a0i m.rs (r3 m) n
 | 0,_=>rfl
 | n+1,hn=>by
  have ih:=b2y h n (by omega)
  cases hc:a0n m n
  ·rw [a0M hc,E5 (by rw [a8r h (by omega)];exact hc),ih]
  ·rw [a0L hc,E4 (by rw [a8r h (by omega)];exact hc),ih]
theorem a6e {rs:List Route} {a:Abs} (ha:a.po.length=8) {j:Nat} (hj:j < 8):∀ n,n≤8→((Y1 rs a n).getD j default=true↔a.po.getD j default=true∨(j < n∧a00 rs a j=true))
 | 0,_=>⟨.inl,fun h=>by
  rcases h with h | h
  ·exact h
  ·omega⟩
 | n+1,hn=>by
  have ih:=a6e (rs:=rs) ha hj n (by omega)
  cases hc:a00 rs a n
  ·rw [E7 hc,ih]
   constructor
   ·rintro (g | g)
    ·exact .inl g
    ·exact .inr ⟨by omega,g.2⟩
   ·rintro (g | g)
    ·exact .inl g
    ·by_cases e:j=n
     ·subst e;rw [hc] at g;cases g.2
     ·exact .inr ⟨by omega,g.2⟩
  ·rw [E6 hc,v9 (by rw [N2];omega)]
   split
   ·next e=>subst e;exact ⟨fun _=>.inr ⟨by omega,hc⟩,fun _=>rfl⟩
   ·next e =>
    rw [ih]
    constructor
    ·rintro (g | g)
     ·exact .inl g
     ·exact .inr ⟨by omega,g.2⟩
    ·rintro (g | g)
     ·exact .inl g
     ·exact .inr ⟨by omega,g.2⟩
theorem a7F {α:Type} {f:Ifc→α} [Inhabited α] {a b:List Ifc} (hl:a.length=b.length) (h:∀ k,k < a.length→f (a.getD k default)=f (b.getD k default)):a.map f=b.map f:=by
 refine List.ext_getElem (by simp [hl]) fun k h1 h2=>?_
 rw [List.length_map] at h1 h2
 have:=h k h1
 rw [List.getD_eq_getElem?_getD,List.getD_eq_getElem?_getD,List.getElem?_eq_getElem h1,List.getElem?_eq_getElem h2] at this
 simpa using this
theorem b1f {m:Mach} (h:MG m):MG (a5n m):=by
 refine ⟨by show okRts m.rs (J6 m 8).length=true;rw [G2];exact h.rt,h.en,by show (a3L m 8).length=8;rw [a3b];exact h.ra,fun k hk=>?_⟩
 have hk:k < (J6 m 8).length:=hk
 rw [G2] at hk
 exact (a5s h 8 (Nat.le_refl _) k hk).1
theorem b3E {m:Mach} (h:MG m):r3 (a5n m)=a4d m.rs (r3 m):=by
 have hs:=b1f h
 have hl:(J6 m 8).length=m.cp.length:=G2 8
 have e1:(J6 m 8).map (fun x:Ifc=>x.ma)=m.cp.map (fun x:Ifc=>x.ma):=a7F (f:=fun x:Ifc=>x.ma) hl (fun k hk=>(a5s h 8 (Nat.le_refl _) k (by omega)).2.2.1)
 have e2:(J6 m 8).map (fun x:Ifc=>x.st)=m.cp.map (fun x:Ifc=>x.st):=a7F (f:=fun x:Ifc=>x.st) hl (fun k hk=>(a5s h 8 (Nat.le_refl _) k (by omega)).2.1)
 have e3:(r3 (a5n m)).po=Y1 m.rs (r3 m) 8:=b1e hs (by rw [N2];exact C9 _) fun i hi=>by
  rw [a6e (C9 _) hi 8 (Nat.le_refl _),a8r h hi,h.po]
  show _↔∃ c w,c < (J6 m 8).length∧Pn ((J6 m 8).getD c default).qu w∧w.q=i
  rw [hl]
  constructor
  ·rintro (⟨c,w,g1,g2,g3⟩ | ⟨_,g⟩)
   ·exact ⟨c,w,g1,((a5s h 8 (Nat.le_refl _) c g1).2.2.2 w).mpr (.inl g2),g3⟩
   ·exact ⟨tgM m i,⟨(i:Int),prI m.rs i⟩,(h.tg hi).2,((a5s h 8 (Nat.le_refl _) _ (h.tg hi).2).2.2.2 _).mpr (.inr ⟨i,hi,g,rfl,rfl⟩),rfl⟩
  ·rintro ⟨c,w,g1,g2,g3⟩
   rcases ((a5s h 8 (Nat.le_refl _) c g1).2.2.2 w).mp g2 with g | ⟨j,j1,j2,j3,rfl⟩
   ·exact .inl ⟨c,w,g1,g,g3⟩
   ·have ej:j=i:=by
     have g3:(j:Int)=i:=g3
     omega
    subst ej;exact .inr ⟨hi,j2⟩
 show (⟨m.en,a3L m 8,(r3 (a5n m)).po,(J6 m 8).map (fun x:Ifc=>x.ma),(J6 m 8).map (fun x:Ifc=>x.st)⟩:Abs)=⟨m.en,a0i m.rs (r3 m) 8,Y1 m.rs (r3 m) 8,m.cp.map (fun x:Ifc=>x.ma),m.cp.map (fun x:Ifc=>x.st)⟩
 rw [e1,e2,e3,b2y h 8 (Nat.le_refl _)]
theorem a8s {m:Mach} (h:MG m) {k:Nat} (hk:k < m.cp.length) {x:Ifc} (hx:IG m.rs k x) {l:List Bool} (hl:l.length=8) (hp:∀ i,i < 8→(l.getD i default=true↔(∃ w,Pn x.qu w∧w.q=i)∨((r3 m).po.getD i default=true∧¬ (m.rs.getD i default).t=k))):r3 ⟨m.rs,m.en,m.ra,m.cp.set k x⟩=⟨m.en,m.ra,l,(r3 m).ma.set k x.ma,(r3 m).st.set k x.st⟩:=by
 have hM:=h.put hx
 have e3:(r3 ⟨m.rs,m.en,m.ra,m.cp.set k x⟩).po=l:=b1e hM hl fun i hi=>by
  rw [hp i hi,h.po]
  show _↔∃ c w,c < (m.cp.set k x).length∧Pn ((m.cp.set k x).getD c default).qu w∧w.q=i
  rw [List.length_set]
  constructor
  ·rintro (⟨w,g⟩ | ⟨⟨c,w,g1,g2,g3⟩,g4⟩)
   ·exact ⟨k,w,hk,by rw [v9 hk,if_pos rfl];exact g.1,g.2⟩
   ·have hc:¬ k=c:=fun e=>g4 (by
     have:=((h.ok c g1).pp w g2).2.1
     rw [g3] at this
     have:(m.rs.getD i default).t=c:=this
     omega)
    exact ⟨c,w,g1,by rw [v9 hk,if_neg hc];exact g2,g3⟩
  ·rintro ⟨c,w,g1,g2,g3⟩
   rw [v9 hk] at g2
   by_cases e:k=c
   ·rw [if_pos e] at g2;exact .inl ⟨w,g2,g3⟩
   ·rw [if_neg e] at g2
    refine .inr ⟨⟨c,w,g1,g2,g3⟩,?_⟩
    have:=((h.ok c g1).pp w g2).2.1
    rw [g3] at this
    have:(m.rs.getD i default).t=c:=this
    omega
 show (⟨m.en,m.ra,(r3 ⟨m.rs,m.en,m.ra,m.cp.set k x⟩).po,(m.cp.set k x).map (fun x:Ifc=>x.ma),(m.cp.set k x).map (fun x:Ifc=>x.st)⟩:Abs)=⟨m.en,m.ra,l,(m.cp.map (fun x:Ifc=>x.ma)).set k x.ma,(m.cp.map (fun x:Ifc=>x.st)).set k x.st⟩
 rw [e3,List.map_set,List.map_set]
theorem b3F {m:Mach} {s:MStep} (h:MG m) (hv:f8 m.cp.length s=true):(stM m s).2.2=(t4 m.rs (r3 m) s).2.2∧((stM m s).2.2=true→((stM m s).2.1=(t4 m.rs (r3 m) s).2.1∧r3 (stM m s).1=(t4 m.rs (r3 m) s).1)∧MG (stM m s).1):=by
 obtain ⟨sk,sq,sc,sv⟩:=s
 have hcc:=fun hk=>a2i (n:=m.cp.length) (k:=sk) (q:=sq) (c:=sc) (v:=sv) hv hk
 have hqq:=fun hk=>a75 (n:=m.cp.length) (k:=sk) (q:=sq) (c:=sc) (v:=sv) hv hk
 by_cases h1:sk=1
 ·obtain ⟨q,rfl⟩:∃ q:Nat,sq=q:=⟨sq.toNat,by have:=hqq (.inl h1);omega⟩
  rw [sm1 h1,mk1 h1]
  refine ⟨rfl,fun _=>⟨⟨rfl,?_⟩,⟨h.rt,h.en,by show (m.ra.set q true).length=8;rw [List.length_set];exact h.ra,h.ok⟩⟩⟩
  show (⟨m.en,m.ra.set q true,poN ⟨m.rs,m.en,m.ra.set q true,m.cp⟩ m.cp.length,m.cp.map (fun x:Ifc=>x.ma),m.cp.map (fun x:Ifc=>x.st)⟩:Abs)=_
  rw [a8q (m:=⟨m.rs,m.en,m.ra.set q true,m.cp⟩) (m':=m) rfl]
  rfl
 by_cases h2:sk=2
 ·rw [sm2 h2,mk2 h2]
  exact ⟨rfl,fun _=>⟨⟨rfl,b3E h⟩,b1f h⟩⟩
 by_cases h3:sk=3
 ·obtain ⟨c,rfl⟩:∃ c:Nat,sc=c:=⟨sc.toNat,by have:=hcc (.inl h3);omega⟩
  have hc:c < m.cp.length:=by have:=hcc (.inl h3);omega
  obtain ⟨n1,n2⟩:=h.nx hc
  cases ho:okT (m.cp.getD c default)
  ·rw [b5d h3 ho,b2T h3 (by rw [n2 ho];decide)]
   exact ⟨rfl,fun g=>by cases g⟩
  ·have hb:=a9b (h.ok c hc).G ho
   have en:=n1 ho
   obtain ⟨t1,t2⟩:=(h.ok c hc).take ho
   rw [sm3 h3 ho,mk3 h3 (by rw [en];omega)]
   refine ⟨rfl,fun _=>⟨⟨en.symm,?_⟩,h.put t1⟩⟩
   have e:=a8s h hc t1 (l:=(r3 m).po.set (z7 m.rs (r3 m) c).toNat false) (by rw [List.length_set];exact C9 _) fun i hi=>by
    have hpl:(r3 m).po.length=8:=C9 _
    rw [v9 (by rw [hpl,en];omega),en]
    by_cases e:(tkI (m.cp.getD c default).qu.sl).toNat=i
    ·rw [if_pos e]
     refine ⟨fun g=>(by cases g),fun g=>?_⟩
     rcases g with ⟨w,g1,g2⟩ | ⟨g1,g2⟩
     ·exact absurd (show w.q=tkI (m.cp.getD c default).qu.sl by omega) ((t2 w).mp g1).2
     ·exfalso
      refine g2 ?_
      obtain ⟨k',e1,e2,e3⟩:=C1 (H5.mp ho).1
      have hr:=(h.ok c hc).rt (e7.mpr ⟨k',e2,rfl⟩) (by omega)
      have ht:tkI (m.cp.getD c default).qu.sl=((m.cp.getD c default).qu.sl.getD k' default).q:=by unfold tkI;rw [e1,Int.toNat_natCast]
      have:=hr.1
      rw [← e,ht]
      exact this
    ·rw [if_neg e]
     by_cases et:(m.rs.getD i default).t=c
     ·constructor
      ·intro g
       obtain ⟨w,w1,w2⟩:=(h.pok hc).mp ⟨g,et⟩
       exact .inl ⟨w,(t2 w).mpr ⟨w1,by omega⟩,w2⟩
      ·rintro (⟨w,w1,w2⟩ | ⟨_,g⟩)
       ·exact ((h.pok hc).mpr ⟨w,((t2 w).mp w1).1,w2⟩).1
       ·exact absurd et g
     ·constructor
      ·exact fun g=>.inr ⟨g,et⟩
      ·rintro (⟨w,w1,w2⟩ | ⟨g,_⟩)
       ·exact ((h.pok hc).mpr ⟨w,((t2 w).mp w1).1,w2⟩).1
       ·exact g
   show r3 ⟨m.rs,m.en,m.ra,m.cp.set c (a1m (m.cp.getD c default))⟩=_
   rw [e,en]
   show (⟨m.en,m.ra,_,(r3 m).ma.set c (m.cp.getD c default).ma,(r3 m).st.set c ((m.cp.getD c default).st++[tkI (m.cp.getD c default).qu.sl])⟩:Abs)=_
   rw [← MG.mak hc,a3c (by show c < (m.cp.map _).length;rw [List.length_map];exact hc),← MG.st hc]
   rfl
 by_cases h4:sk=4
 ·obtain ⟨c,rfl⟩:∃ c:Nat,sc=c:=⟨sc.toNat,by have:=hcc (.inr (.inl h4));omega⟩
  have hc:c < m.cp.length:=by have:=hcc (.inr (.inl h4));omega
  by_cases ho:(m.cp.getD c default).st.length=0
  ·rw [b5e h4 ho,b4e h4 (by rw [MG.st hc];exact ho)]
   exact ⟨rfl,fun g=>by cases g⟩
  ·obtain ⟨t1,t2⟩:=(h.ok c hc).leave ho
   rw [sm4 h4 ho,mk4 h4 (by rw [MG.st hc];exact ho)]
   refine ⟨rfl,fun _=>⟨⟨by rw [MG.st hc];rfl,?_⟩,h.put t1⟩⟩
   have e:=a8s h hc t1 (l:=(r3 m).po) (C9 _) fun i hi=>by
    by_cases et:(m.rs.getD i default).t=c
    ·constructor
     ·intro g
      obtain ⟨w,w1,w2⟩:=(h.pok hc).mp ⟨g,et⟩
      exact .inl ⟨w,(t2 w).mpr w1,w2⟩
     ·rintro (⟨w,w1,w2⟩ | ⟨_,g⟩)
      ·exact ((h.pok hc).mpr ⟨w,(t2 w).mp w1,w2⟩).1
      ·exact absurd et g
    ·constructor
     ·exact fun g=>.inr ⟨g,et⟩
     ·rintro (⟨w,w1,w2⟩ | ⟨g,_⟩)
      ·exact ((h.pok hc).mpr ⟨w,(t2 w).mp w1,w2⟩).1
      ·exact g
   show r3 ⟨m.rs,m.en,m.ra,m.cp.set c (a1q (m.cp.getD c default))⟩=_
   rw [e]
   show (⟨m.en,m.ra,(r3 m).po,(r3 m).ma.set c (m.cp.getD c default).ma,(r3 m).st.set c ((m.cp.getD c default).st.take ((m.cp.getD c default).st.length - 1))⟩:Abs)=_
   rw [← MG.mak hc,a3c (by show c < (m.cp.map _).length;rw [List.length_map];exact hc),← MG.st hc]
   rfl
 by_cases h5:sk=5
 ·obtain ⟨c,rfl⟩:∃ c:Nat,sc=c:=⟨sc.toNat,by have:=hcc (.inr (.inr h5));omega⟩
  have hc:c < m.cp.length:=by have:=hcc (.inr (.inr h5));omega
  subst h5
  have hv5:0≤sv∧sv≤16:=by simp [f8,p6] at hv;omega
  have t1:=(h.ok c hc).mask hv5
  rw [sm5 rfl,mk5 rfl]
  refine ⟨rfl,fun _=>⟨⟨rfl,?_⟩,h.put t1⟩⟩
  have e:=a8s h hc t1 (l:=(r3 m).po) (C9 _) fun i hi=>by
   by_cases et:(m.rs.getD i default).t=c
   ·constructor
    ·exact fun g=>.inl ((h.pok hc).mp ⟨g,et⟩)
    ·rintro (g | ⟨_,g⟩)
     ·exact ((h.pok hc).mpr g).1
     ·exact absurd et g
   ·constructor
    ·exact fun g=>.inr ⟨g,et⟩
    ·rintro (g | ⟨g,_⟩)
     ·exact ((h.pok hc).mpr g).1
     ·exact g
  show r3 ⟨m.rs,m.en,m.ra,m.cp.set c ⟨sv,(m.cp.getD c default).st,(m.cp.getD c default).qu⟩⟩=_
  rw [e]
  show (⟨m.en,m.ra,(r3 m).po,(r3 m).ma.set c sv,(r3 m).st.set c (m.cp.getD c default).st⟩:Abs)=_
  rw [← MG.st hc,a3c (by show c < (m.cp.map _).length;rw [List.length_map];exact hc)]
  rfl
 ·have h6:sk=6:=by have:=b1C hv;omega
  obtain ⟨q,rfl⟩:∃ q:Nat,sq=q:=⟨sq.toNat,by have:=hqq (.inr h6);omega⟩
  rw [sm6 h6,mk6 h6]
  refine ⟨rfl,fun _=>⟨⟨rfl,?_⟩,⟨h.rt,by show (m.en.set q _).length=8;rw [List.length_set];exact h.en,h.ra,h.ok⟩⟩⟩
  show (⟨m.en.set q (decide (sv=1)),m.ra,poN ⟨m.rs,m.en.set q (decide (sv=1)),m.ra,m.cp⟩ m.cp.length,m.cp.map (fun x:Ifc=>x.ma),m.cp.map (fun x:Ifc=>x.st)⟩:Abs)=_
  rw [a8q (m:=⟨m.rs,m.en.set q (decide (sv=1)),m.ra,m.cp⟩) (m':=m) rfl]
  rfl
theorem b3G {m:Mach} {s:MStep} (h:MG m) (hv:f8 m.cp.length s=true) (hk:(stM m s).2.2=true):(stM m s).1.rs=m.rs∧(stM m s).1.cp.length=m.cp.length:=(a7B h.G hv hk).2
section
variable {m:Mach} {ss:List MStep}
end
section
variable {m:Mach} {ss:List MStep}
end
section
variable {rs:List Route} {a:Abs} {k:Nat}
theorem a8t (h:v8 rs a=true) (hk:k < a.ma.length):(0≤a.ma.getD k default∧a.ma.getD k default≤16)∧∀ j,j < (a.st.getD k default).length→tgI rs ((a.st.getD k default).getD j default)=k∧a.po.getD ((a.st.getD k default).getD j default).toNat default=false:=by
 simp only [v8,Bool.and_eq_true,w8] at h
 have hk1:=h.2.2 k hk
 simp only [V4,Bool.and_eq_true,w8] at hk1
 obtain ⟨h3,h4,h5⟩:=hk1
 exact ⟨p6.mp h3,fun j hj=>⟨(I1.mp ((a7h h4).1 j hj)).2.1,a7g.mp (h5 j hj)⟩⟩
theorem b2z (h:v8 rs a=true) (hk:k < a.ma.length):IG rs k (R4 rs (a.st.getD k default))∧∀ w,¬ Pn (R4 rs (a.st.getD k default)).qu w:=by
 have hS:=b1R h hk
 obtain ⟨_,ht⟩:=a8t h hk
 have hF:IfF (R4 rs (a.st.getD k default)):=by
  have:=hS.take (n:=(a.st.getD k default).length) (Nat.le_refl _)
  rwa [List.take_length] at this
 have hsl:∀ y∈I4 rs (a.st.getD k default),y=zSl∨∃ j,j < (a.st.getD k default).length∧y=⟨2,(a.st.getD k default).getD j default,prI rs ((a.st.getD k default).getD j default)⟩:=fun y hy=>by
  obtain ⟨j,hj,rfl⟩:=e7.mp hy
  rw [a0l hS.n] at hj
  rcases Nat.lt_or_ge j (a.st.getD k default).length with g | g
  ·exact .inr ⟨j,g,Y4 g⟩
  ·exact .inl (a1R g hj)
 have hno:∀ w,¬ Pn (R4 rs (a.st.getD k default)).qu w:=by
  rintro w (g | ⟨y,y1,y2,_⟩)
  ·cases g
  ·rcases hsl y y1 with rfl | ⟨j,_,rfl⟩<;>cases y2
 refine ⟨⟨hF,a5g rfl,⟨by show (0:Int)≤16;decide,by show (16:Int)≤16;decide⟩,a4G.mpr fun i j hij hj=>hS.dif hij hj,fun w hw=>?_,fun j h0 hj=>hS.dn j h0 hj,fun w hw=>absurd hw (hno w)⟩,hno⟩
 obtain ⟨y,y1,y2,rfl⟩:=w3.mp hw
 rcases hsl y y1 with rfl | ⟨j,hj,rfl⟩
 ·cases y2
 ·exact ⟨e7.mpr ⟨j,hj,rfl⟩,(ht j hj).1,rfl⟩
theorem a9k (h:v8 rs a=true) (hk:k < a.ma.length):∀ n,n≤8→IG rs k (a3H rs a.po k (R4 rs (a.st.getD k default)) n)∧∀ w,Pn (a3H rs a.po k (R4 rs (a.st.getD k default)) n).qu w↔∃ i,i < n∧(a.po.getD i default=true∧(rs.getD i default).t=k)∧w=⟨(i:Int),prI rs i⟩
 | 0,_=>⟨(b2z h hk).1,fun w=>⟨fun g=>absurd g ((b2z h hk).2 w),fun ⟨i,g,_⟩=>by omega⟩⟩
 | n+1,hn=>by
  obtain ⟨i1,i2⟩:=a9k h hk n (by omega)
  have hr:=(z4.mp (by simp only [v8,Bool.and_eq_true] at h;exact h.1)).2.2
  by_cases hc:a.po.getD n default=true∧(rs.getD n default).t=k
  ·rw [b25 hc.1 hc.2]
   have hst:=(@a6G rs a.po k (R4 rs (a.st.getD k default)) n).1
   have hn':(n:Int)∉(a3H rs a.po k (R4 rs (a.st.getD k default)) n).st:=by
    rw [hst]
    intro g
    obtain ⟨j,hj,e⟩:=e7.mp g
    have hj:j < (a.st.getD k default).length:=hj
    have e:(a.st.getD k default).getD j default=(n:Int):=e
    have:=((a8t h hk).2 j hj).2
    rw [e,Int.toNat_natCast,hc.1] at this
    cases this
   obtain ⟨r1,r2⟩:=i1.raise (i:=(n:Int)) (by omega) (hr n (by omega)).1 hc.2 hn'
   refine ⟨r1,fun w=>(r2 w).trans ?_⟩
   rw [i2 w]
   constructor
   ·rintro (g | ⟨i,g1,g2⟩)
    ·exact ⟨n,by omega,hc,g⟩
    ·exact ⟨i,by omega,g2⟩
   ·rintro ⟨i,g1,g2,g3⟩
    by_cases e:i=n
    ·subst e;exact .inl g3
    ·exact .inr ⟨i,by omega,g2,g3⟩
  ·rw [b26 hc]
   refine ⟨i1,fun w=>(i2 w).trans ?_⟩
   constructor
   ·rintro ⟨i,g1,g2⟩;exact ⟨i,by omega,g2⟩
   ·rintro ⟨i,g1,g2,g3⟩
    by_cases e:i=n
    ·subst e;exact absurd g2 hc
    ·exact ⟨i,by omega,g2,g3⟩
theorem a3e (hk:k < a.ma.length):(moM rs a).cp.getD k default=moI rs a k:=by
 show ((List.range a.ma.length).map (moI rs a)).getD k default=_
 rw [List.getD_eq_getElem?_getD,List.getElem?_map,List.getElem?_range hk]
 rfl
theorem Q3:(moM rs a).cp.length=a.ma.length:=by show ((List.range a.ma.length).map (moI rs a)).length=_;rw [List.length_map,List.length_range]
theorem b4A:(moI rs a k).st=a.st.getD k default:=(@a6G rs a.po k (R4 rs (a.st.getD k default)) 8).1
theorem b2A (h:v8 rs a=true):MG (moM rs a):=by
 have hF:=a3D h
 refine ⟨by rw [Q3];simp only [v8,Bool.and_eq_true] at h;exact h.1,hF.en,hF.ra,fun k hk=>?_⟩
 rw [Q3] at hk
 rw [a3e hk]
 exact (a9k h hk 8 (Nat.le_refl _)).1.mask (a8t h hk).1
theorem b3H (h:v8 rs a=true):r3 (moM rs a)=a:=by
 have hF:=a3D h
 have e1:(r3 (moM rs a)).po=a.po:=b1e (b2A h) hF.po fun i hi=>by
  rw [Q3]
  constructor
  ·intro g
   obtain ⟨t1,t2⟩:=hF.rt i hi
   have ht:(rs.getD i default).t.toNat < a.ma.length:=by omega
   refine ⟨(rs.getD i default).t.toNat,⟨(i:Int),prI rs i⟩,ht,?_,rfl⟩
   rw [a3e ht]
   exact ((a9k h ht 8 (Nat.le_refl _)).2 _).mpr ⟨i,hi,⟨g,by omega⟩,rfl⟩
  ·rintro ⟨c,w,c1,c2,c3⟩
   rw [a3e c1] at c2
   obtain ⟨j,j1,j2,rfl⟩:=((a9k h c1 8 (Nat.le_refl _)).2 _).mp c2
   have c3:(j:Int)=i:=c3
   have:j=i:=by omega
   subst this
   exact j2.1
 have e2:(moM rs a).cp.map (fun x:Ifc=>x.ma)=a.ma:=by
  refine a2b (i:=a.ma.length) (by rw [List.length_map,Q3]) (fun j hj=>?_) (by rw [List.length_map,Q3];exact Nat.le_refl _)
  rw [F5 (f:=fun x:Ifc=>x.ma) (by rw [Q3];exact hj),a3e hj]
  rfl
 have e3:(moM rs a).cp.map (fun x:Ifc=>x.st)=a.st:=by
  refine a2b (i:=a.ma.length) (by rw [List.length_map,Q3,hF.st]) (fun j hj=>?_) (by rw [List.length_map,Q3];exact Nat.le_refl _)
  rw [F5 (f:=fun x:Ifc=>x.st) (by rw [Q3];exact hj),a3e hj,b4A]
 show (⟨a.en,a.ra,(r3 (moM rs a)).po,(moM rs a).cp.map (fun x:Ifc=>x.ma),(moM rs a).cp.map (fun x:Ifc=>x.st)⟩:Abs)=a
 rw [e1,e2,e3]
theorem b1g {s:MStep} (h:v8 rs a=true) (hv:f8 a.ma.length s=true) (hk:(t4 rs a s).2.2=true):v8 rs (t4 rs a s).1=true:=by
 have hG:=b2A h
 have e:=b3H h
 have hv':f8 (moM rs a).cp.length s=true:=by rw [Q3];exact hv
 obtain ⟨g1,g2⟩:=b3F hG hv'
 rw [e] at g1 g2
 have g1:(stM (moM rs a) s).2.2=(t4 rs a s).2.2:=g1
 rw [hk] at g1
 obtain ⟨⟨q1,q2⟩,q3⟩:=g2 g1
 have q2:r3 (stM (moM rs a) s).1=(t4 rs a s).1:=q2
 have:=q3.ab
 rw [(b3G hG hv' g1).1,q2] at this
 exact this
end
section
variable {rs:List Route} {a:Abs} {ss:List MStep}
theorem b3I (h:(rnT rs a ss).2.2=true):(v8 rs a=true∧∀ i,i < ss.length→f8 a.ma.length (ss.getD i default)=true)∧(rnT rs a ss).1=(rnN rs a ss ss.length).1∧(rnT rs a ss).2.1=(rnN rs a ss ss.length).2:=by
 have h1:v8 rs a=true:=by
  cases e:v8 rs a
  ·rw [a8f e] at h;cases h
  ·rfl
 have h2:V7 a.ma.length ss=true:=by
  cases e:V7 a.ma.length ss
  ·rw [a6E e] at h;cases h
  ·rfl
 rw [a4e h1 h2]
 exact ⟨⟨h1,(P9.mp h2).2⟩,rfl,rfl⟩
theorem a8u (h:v8 rs a=true) (hv:∀ i,i < ss.length→f8 a.ma.length (ss.getD i default)=true):∀ i,i≤ss.length→v8 rs (rnN rs a ss i).1=true∧(rnN rs a ss i).1.ma.length=a.ma.length
 | 0,_=>⟨h,rfl⟩
 | i+1,hi=>by
  obtain ⟨h1,h2⟩:=a8u h hv i (by omega)
  have hvi:f8 (rnN rs a ss i).1.ma.length (ss.getD i default)=true:=by rw [h2];exact hv i (by omega)
  cases hm:(t4 rs (rnN rs a ss i).1 (ss.getD i default)).2.2
  ·rw [m9 hm];exact ⟨h1,h2⟩
  ·rw [v2 hm]
   exact ⟨b1g h1 hvi hm,((a8Z (a3D h1) hvi).2).trans h2⟩
structure StF (rs:List Route) (a:Abs) (ss:List MStep) (i:Nat):Prop where
 f:(stepA rs (rnN rs a ss i).1 (ss.getD i default)).2.2=false→rnN rs a ss (i+1)=rnN rs a ss i
 t1:(stepA rs (rnN rs a ss i).1 (ss.getD i default)).2.2=true→(rnN rs a ss (i+1)).1=(stepA rs (rnN rs a ss i).1 (ss.getD i default)).1
 t3:(stepA rs (rnN rs a ss i).1 (ss.getD i default)).2.2=true→(ss.getD i default).k=3→(rnN rs a ss (i+1)).2=(rnN rs a ss i).2++[(stepA rs (rnN rs a ss i).1 (ss.getD i default)).2.1]
 tn:(stepA rs (rnN rs a ss i).1 (ss.getD i default)).2.2=true→¬ (ss.getD i default).k=3→(rnN rs a ss (i+1)).2=(rnN rs a ss i).2
theorem b5h (h:v8 rs a=true) (hv:∀ i,i < ss.length→f8 a.ma.length (ss.getD i default)=true) {i:Nat} (hi:i < ss.length):StF rs a ss i:=by
 obtain ⟨h1,h2⟩:=a8u h hv i (by omega)
 have hvi:f8 (rnN rs a ss i).1.ma.length (ss.getD i default)=true:=by rw [h2];exact hv i (by omega)
 cases hm:(t4 rs (rnN rs a ss i).1 (ss.getD i default)).2.2
 ·have e:=a1i (rs:=rs) hm
  refine ⟨fun _=>m9 hm,fun g=>?_,fun g=>?_,fun g=>?_⟩<;>(rw [e] at g;cases g)
 ·have e:=a4y h1 hvi hm
  refine ⟨fun g=>?_,fun _=>?_,fun _ h3=>?_,fun _ h3=>?_⟩
  ·rw [e,hm] at g;cases g
  ·rw [e];exact v2 hm
  ·rw [e];exact w4 hm h3
  ·exact s7 hm h3
theorem a7G (h:v8 rs a=true) (hv:∀ i,i < ss.length→f8 a.ma.length (ss.getD i default)=true) {i:Nat} (hi:i≤ss.length):SmallA (rnN rs a ss i).1:=(a3D (a8u h hv i hi).1).small
theorem b1h {c:Int} (h:(nxO rs a c).2=true):((stepA rs a ⟨3,0,c,0⟩).2.2=true→(nxO rs a c).1≠-1∧(stepA rs a ⟨3,0,c,0⟩).2.1=(nxO rs a c).1)∧((stepA rs a ⟨3,0,c,0⟩).2.2=false→(nxO rs a c).1=-1):=by
 by_cases hc:v8 rs a=true∧0≤c∧c≤(a.ma.length:Int) - 1
 ·obtain ⟨h1,h2,h3⟩:=hc
  obtain ⟨k,rfl⟩:∃ k:Nat,c=k:=⟨c.toNat,by omega⟩
  have hv:f8 a.ma.length ⟨3,0,(k:Int),0⟩=true:=by simp [f8,p6];omega
  have hlt:=@a1h rs a k
  rw [a49 h1 (by omega)]
  by_cases hn:z7 rs a k < 0
  ·have hm:=b2T (rs:=rs) (a:=a) (sk:=3) (sq:=0) (sv:=0) (c:=k) rfl hn
   rw [a1i (by rw [hm])]
   refine ⟨fun g=>(by cases g),fun _=>?_⟩
   show z7 rs a k=-1
   omega
  ·have hm:=mk3 (rs:=rs) (a:=a) (sk:=3) (sq:=0) (sv:=0) (c:=k) rfl hn
   rw [a4y h1 hv (by rw [hm]),hm]
   refine ⟨fun _=>⟨?_,rfl⟩,fun g=>by cases g⟩
   show z7 rs a k≠-1
   omega
 ·rw [a5a (by
   by_cases e:v8 rs a=true
   ·exact .inr fun g=>hc ⟨e,g⟩
   ·exact .inl (by simpa using e))] at h
  cases h
theorem b4B {c:Int} (h:(nxO rs a c).2=true):(stepA rs a ⟨3,0,c,0⟩).2.2=((nxO rs a c).1 != -1):=by
 obtain ⟨h1,h2⟩:=b1h h
 cases e:(stepA rs a ⟨3,0,c,0⟩).2.2
 ·rw [h2 e];rfl
 ·exact (bne_iff_ne.mpr (h1 e).1).symm
end
structure DrA (a:Abs):Prop where
 en:a.en.length≤8
 ra:a.ra.length≤8
 po:a.po.length≤8
 ma:a.ma.length≤2
 st:a.st.length≤2
 len:∀ i,i < a.st.length→(a.st.getD i default).length≤5
theorem DrA.small {a:Abs} (h:DrA a):SmallA a:=a2W h.en h.ra h.po h.ma h.st h.len
theorem Z2:DrA noA:=⟨by decide,by decide,by decide,by decide,by decide,fun i hi=>by cases hi⟩
theorem AbsF.dr {rs:List Route} {a:Abs} (h:AbsF rs a):DrA a:=⟨by rw [h.en];decide,by rw [h.ra];decide,by rw [h.po];decide,h.n.2,by rw [h.st];exact h.n.2,fun i hi=>by have:=h.len i (by rw [← h.st];exact hi);omega⟩
theorem DrA.setM {a:Abs} (h:DrA a) {k:Nat} {v:Int}:DrA ⟨a.en,a.ra,a.po,a.ma.set k v,a.st⟩:=⟨h.en,h.ra,h.po,by show (a.ma.set k v).length≤2;rw [List.length_set];exact h.ma,h.st,h.len⟩
theorem DrA.setPo {a:Abs} (h:DrA a) {k:Nat} {v:Bool}:DrA ⟨a.en,a.ra,a.po.set k v,a.ma,a.st⟩:=⟨h.en,h.ra,by show (a.po.set k v).length≤8;rw [List.length_set];exact h.po,h.ma,h.st,h.len⟩
theorem AbsF.addS {rs:List Route} {a:Abs} (h:AbsF rs a) {k:Nat} (hk:k < a.ma.length) {v:Int}:DrA ⟨a.en,a.ra,a.po,a.ma,a.st.set k (a.st.getD k default++[v])⟩:=⟨h.dr.en,h.dr.ra,h.dr.po,h.dr.ma,by show (a.st.set k _).length≤2;rw [List.length_set];exact h.dr.st,a76 h.dr.len (by rw [List.length_append,List.length_cons,List.length_nil];have:=h.len k hk;omega)⟩
end Go.Rf
namespace Go.Rf
theorem rfb :
 ((∀ (p:Prop) [Decidable p],(decide p=true)=p)∧(∀ (p:Prop) [Decidable p],(decide p=false)↔¬p) ∧
 (∀ {α:Type} [BEq α] [LawfulBEq α] {a b:α},a==b↔a=b)∧(∀ {α:Type} [BEq α] [LawfulBEq α] {a b:α},a != b↔a≠b)∧(∀ {α:Type} (a b:α),(a≠b)=¬(a=b))) ∧
 ((∀ b:Bool,((!b)=true)=(b=false))∧(∀ b:Bool,((!b)=false)=(b=true)) ∧
 (∀ {α:Type} [BEq α] [LawfulBEq α] {a b:α},(a==b)=false↔a≠b)∧(∀ {α:Type} [BEq α] [LawfulBEq α] {a b:α},(a != b)=false↔a=b) ∧
 (∀ b:Bool,(¬(b=true))=(b=false))∧(∀ b:Bool,(¬(b=false))=(b=true))) ∧
 ((∀ {a b:Int},¬(a < b)↔b≤a)∧(∀ {a b:Int},¬(a≤b)↔b < a)∧(∀ {a b:Int},a > b↔b < a)∧(∀ {a b:Int},a≥b↔b≤a)) ∧
 ((∀ a b:Bool,((a && b)=true)=(a=true∧b=true))∧(∀ {a b:Bool},(a && b)=false↔a=false∨b=false)∧(∀ a b:Bool,((a || b)=true)=(a=true∨b=true))∧(∀ {a b:Bool},(a || b)=false↔a=false∧b=false)) :=
 ⟨⟨fun p _=>decide_eq_true_eq,fun p _=>decide_eq_false_iff_not,beq_iff_eq,bne_iff_ne,fun a b=>ne_eq a b⟩,⟨Bool.not_eq_true',Bool.not_eq_false',beq_eq_false_iff_ne,bne_eq_false_iff_eq,Bool.not_eq_true,Bool.not_eq_false⟩,⟨Int.not_lt,Int.not_le,gt_iff_lt,ge_iff_le⟩,⟨Bool.and_eq_true,Bool.and_eq_false_iff,Bool.or_eq_true,Bool.or_eq_false_iff⟩⟩
end Go.Rf
namespace Go.Rf
open Go Go.RowKit
section
variable {P:Program} [Env P] {w0:Base} {ops:Array Oper} {tb:List (Nat×TyI)} {o:Oper} {T:List (Nat×AV)} {m m0:List (Nat×Option Row)} {nx nt d fuel:Nat} {Q:Exit→St→Prop} {S:St} {A K:St→Prop} {c:Code} {listed:Array Bool} {b:Base} {r:AV} {id:Nat}
theorem a7H {t:TypeId} {x:Operand} {k off ft id a0:Nat} {fs:List (Nat×Nat)} {zs:List Value} (G:Good P tb) (ho:o.op=.fieldAddr t x k) (hx:ev T x=some (.ptr id a0)) (ht:look t tb=some (.struct fs zs)) (hk:nth fs k=some (off,ft)):QStep P o T m nx nt (.ptr id (Nat.add a0 off)):=b7 G ho ht hk hx
theorem a8v {t:TypeId} {x:Operand} {i:TyI} {id off:Nat} {cs:List AV} (G:Good P tb) (ho:o.op=.load t x) (hx:ev T x=some (.ptr id off)) (hm:mem m id=some (.box cs)) (hr:nth cs off=some r) (ht:look t tb=some i) (hf:Q6 i=true) (hd:a6i r=true):QStep P o T m nx nt r:=c4 G ho ht hf hx hm hr hd
theorem b4C {t:TypeId} {x:Operand} {i:TyI} {id off sz:Nat} {cs:List AV} {z:Value} {ys:List (List Value)} (G:Good P tb) (ho:o.op=.load t x) (hx:ev T x=some (.ptr id off)) (hm:mem m id=some (.box cs)) (hr:nth cs off=some (.pin z sz ys)) (ht:look t tb=some i) (hf:Q6 i=true):QStep P o T m nx nt (.lst sz ys):=E0 (c4 G ho ht hf hx hm hr rfl)
theorem b4D {t:TypeId} {x:Operand} {i:TyI} {id off sz:Nat} {cs:List AV} {z:Option Value} {yss:List (List CI)} (G:Good P tb) (ho:o.op=.load t x) (hx:ev T x=some (.ptr id off)) (hm:mem m id=some (.box cs)) (hr:nth cs off=some (.nst z sz yss)) (hd:a6i (.nst z sz yss)=true) (ht:look t tb=some i) (hf:Q6 i=true):QStep P o T m nx nt (.nst none sz yss):=a1e (c4 G ho ht hf hx hm hr hd)
theorem a3f {t:TypeId} {x:Operand} {fs:List (Nat×Nat)} {zs:List Value} {id off:Nat} {cs rs:List AV} (G:Good P tb) (ho:o.op=.load t x) (hx:ev T x=some (.ptr id off)) (hm:mem m id=some (.box cs)) (ht:look t tb=some (.struct fs zs)) (hr:a0W zs.length (R8 off cs) []=some rs) (hd:a1X rs=true):QStep P o T m nx nt (.agg rs):=b3 G ho ht hx hm hr hd
theorem a8w {t:TypeId} {x:Operand} {i:TyI} {c:List Value} {u:Value} (G:Good P tb) (ho:o.op=.load t x) (hx:ev T x=some (.ept c)) (hr:nth c 0=some u) (ht:look t tb=some i) (hf:Q6 i=true):QStep P o T m nx nt (.v u):=p9 G ho ht hf hx hr
theorem a3g {t:TypeId} {x:Operand} {fs:List (Nat×Nat)} {zs:List Value} {c us:List Value} (G:Good P tb) (ho:o.op=.load t x) (hx:ev T x=some (.ept c)) (ht:look t tb=some (.struct fs zs)) (hr:a0W zs.length c []=some us):QStep P o T m nx nt (.agg (avR us [])):=B2 G ho ht hx hr
theorem b4E {x:Operand} {t e sz by_ n:Nat} {zs:List Value} {ax:AV} (G:Good P tb) (ho:o.op=.call { callee:=.builtin .len,args:=#[x],argTypes:=#[t] }) (hx:ev T x=some ax) (hn:a9o m ax=some n) (ht:look t tb=some (.slice e sz by_ zs)):QStep P o T m nx nt (.v (.int .i64 n)):=t6 G ho ht hx hn
theorem b3J {x:Operand} {t e sz by_ n n':Nat} {zs:List Value} {ax:AV} (G:Good P tb) (ho:o.op=.call { callee:=.builtin .len,args:=#[x],argTypes:=#[t] }) (hx:ev T x=some ax) (hn:a9o m ax=some n) (he:n=n') (ht:look t tb=some (.slice e sz by_ zs)):QStep P o T m nx nt (.v (.int .i64 n')):=r4 G ho ht hx hn he
theorem a1t {x y:Operand} {t e sz by_:Nat} {zs:List Value} {ys:List (List Value)} {k:IntKind} {i:Int} {c:List Value} (G:Good P tb) (ho:o.op=.indexAddr t x y) (hx:ev T x=some (.lst sz ys)) (hy:ev T y=some (.v (.int k i))) (h0:0≤i) (hc:ys[i.toNat]?=some c) (ht:look t tb=some (.slice e sz by_ zs)):QStep P o T m nx nt (.ept c):=f6 G ho ht hx hy h0 hc
def Ph (n:Nat) (p:Prop):Prop:=p
structure Hd (q:Prop):Prop where o:q
structure Sg (P:Program) [Env P] (o:Oper) (T:List (Nat×AV)) (m:List (Nat×Option Row)) (nx nt:Nat) (K:AV→Prop):Prop where o:∃ r,QStep P o T m nx nt r∧K r
theorem Sg.of {K:AV→Prop} (h:QStep P o T m nx nt r) (k:K r):Sg P o T m nx nt K:=⟨r,h,k⟩
theorem a6P [EnvAt P w0] {l:List Oper} {Q:Exit→St→Prop} (hd:o.dst=some d) (hlt:Nat.blt d nt=true) (h:Sg P o T m nx nt (fun r=>WL P w0 ops l ⟨(d,r) :: T,m,nx,nt⟩ Q)):WX P w0 ops o l ⟨T,m,nx,nt⟩ Q:=h.o.elim fun _ h=>a3 hd hlt h.1 h.2
theorem a6Q [EnvAt P w0] {l:List Oper} {K:List (Nat×AV)→Prop} (hd:o.dst=some d) (hlt:Nat.blt d nt=true) (h:Sg P o T m nx nt (fun r=>QL P w0 ops l ((d,r) :: T) m nx nt K)):QX P w0 ops o l T m nx nt K:=h.o.elim fun _ h=>j5 hd hlt h.1 h.2
theorem b4F [EnvAt P b] {o1:Option Nat} {o2:Op} {o3:TypeId} {o4:String} {o5:Array Edge} {o6:Option (Nat×Bool)} {i:Nat} (hi:ops[i]?=some ⟨o1,o2,o3,o4,o5,o6⟩) (hg:o6=none) (hd:o1=some d) (hlt:Nat.blt d nt=true) (hf:Region.free .any ops listed i=true) (hr:(Region.ready .any ops listed).contains i=true) (hp:a2c o2=true) (h:Sg P ⟨o1,o2,o3,o4,o5,o6⟩ T m0 nx nt (fun r=>WA P b ops m0 fuel (listed.setIfInBounds i true) ⟨(d,r) :: T,m,nx,nt⟩ A)):Ph i (WA P b ops m0 (fuel+1) listed ⟨T,m,nx,nt⟩ A):=h.o.elim fun _ h=>b9 i hi hf hr hp hg hd hlt h.1 h.2
theorem b4G [EnvAt P b] {o1:Option Nat} {o2:Op} {o3:TypeId} {o4:String} {o5:Array Edge} {o6:Option (Nat×Bool)} {i j gd:Nat} {want:Bool} (hi:ops[i]?=some ⟨o1,o2,o3,o4,o5,o6⟩) (hg:o6=some (j,want)) (hj:(ops[j]?).bind (·.dst)=some gd) (hb:look gd T=some (.v (.bool want))) (hd:o1=some d) (hlt:Nat.blt d nt=true) (hf:Region.free .any ops listed i=true) (hr:(Region.ready .any ops listed).contains i=true) (hp:a2c o2=true) (h:Sg P ⟨o1,o2,o3,o4,o5,o6⟩ T m0 nx nt (fun r=>WA P b ops m0 fuel (listed.setIfInBounds i true) ⟨(d,r) :: T,m,nx,nt⟩ A)):Ph i (WA P b ops m0 (fuel+1) listed ⟨T,m,nx,nt⟩ A):=h.o.elim fun _ h=>a66 i hi hf hr hp hg hj hb hd hlt h.1 h.2
theorem m3 (ms:List Nat) {o1:Option Nat} {o2:Op} {o3:TypeId} {o4:String} {o5:Array Edge} {o6:Option (Nat×Bool)} {i:Nat} {S:St} (hi:ops[i]?=some ⟨o1,o2,o3,o4,o5,o6⟩) (hg:o6=none) (h:WX P b ops ⟨o1,o2,o3,o4,o5,o6⟩ [] S (nq (fun S'=>I7 b.n0 S'.m ms []=some m0∧WA P b ops m0 fuel (listed.setIfInBounds i true) S' A))):WB P b ops m0 fuel listed i S A:=c7 ms hi hg h
theorem b4H {i j gd:Nat} {want bb:Bool} (hi:ops[i]?=some o) (hg:o.guard=some (j,want)) (hj:(ops[j]?).bind (·.dst)=some gd) (hb:look gd T=some (.v (.bool bb))) (hne:(bb==want)=false) (hf:Region.free .any ops listed i=true) (hr:(Region.ready .any ops listed).contains i=true) (hd:o.dst=some d) (hlt:Nat.blt d nt=true) (hk:WA P b ops m0 fuel (listed.setIfInBounds i true) ⟨(d,.v undef) :: T,m,nx,nt⟩ A):Ph i (WA P b ops m0 (fuel+1) listed ⟨T,m,nx,nt⟩ A):=b1s i hi hf hr hg hj hb hne hd hlt hk
theorem b4I {i j gd:Nat} {want:Bool} (hi:ops[i]?=some o) (hg:o.guard=some (j,want)) (hj:(ops[j]?).bind (·.dst)=some gd) (hb:look gd T=some (.v undef)) (hf:Region.free .any ops listed i=true) (hr:(Region.ready .any ops listed).contains i=true) (hd:o.dst=some d) (hlt:Nat.blt d nt=true) (hk:WA P b ops m0 fuel (listed.setIfInBounds i true) ⟨(d,.v undef) :: T,m,nx,nt⟩ A):Ph i (WA P b ops m0 (fuel+1) listed ⟨T,m,nx,nt⟩ A):=a9y i hi hf hr hg hj hb hd hlt hk
theorem b14 {x:Operand} {o1:Option Nat} {o3:TypeId} {o4:String} {o5:Array Edge} {o6:Option (Nat×Bool)} {K:AV→Prop} (h:Sg P ⟨o1,.move x,o3,o4,o5,o6⟩ T m nx nt K):Sg P ⟨o1,.move x,o3,o4,o5,o6⟩ T m nx nt K:=h
theorem a9O {x:Operand} {o1:Option Nat} {o3:TypeId} {o4:String} {o5:Array Edge} {o6:Option (Nat×Bool)} {K:AV→Prop} (h:Sg P ⟨o1,.assign x,o3,o4,o5,o6⟩ T m nx nt K):Sg P ⟨o1,.assign x,o3,o4,o5,o6⟩ T m nx nt K:=h
theorem b1i {t:TypeId} {x:Operand} {k:Nat} {o1:Option Nat} {o3:TypeId} {o4:String} {o5:Array Edge} {o6:Option (Nat×Bool)} {K:AV→Prop} (h:Sg P ⟨o1,.fieldAddr t x k,o3,o4,o5,o6⟩ T m nx nt K):Sg P ⟨o1,.fieldAddr t x k,o3,o4,o5,o6⟩ T m nx nt K:=h
theorem b15 {t:TypeId} {x:Operand} {o1:Option Nat} {o3:TypeId} {o4:String} {o5:Array Edge} {o6:Option (Nat×Bool)} {K:AV→Prop} (h:Sg P ⟨o1,.load t x,o3,o4,o5,o6⟩ T m nx nt K):Sg P ⟨o1,.load t x,o3,o4,o5,o6⟩ T m nx nt K:=h
theorem b3K {u:BinOp} {t t2:TypeId} {x y:Operand} {o1:Option Nat} {o3:TypeId} {o4:String} {o5:Array Edge} {o6:Option (Nat×Bool)} {K:AV→Prop} (h:Sg P ⟨o1,.binOp u t x y t2,o3,o4,o5,o6⟩ T m nx nt K):Sg P ⟨o1,.binOp u t x y t2,o3,o4,o5,o6⟩ T m nx nt K:=h
theorem b16 {c x y:Operand} {o1:Option Nat} {o3:TypeId} {o4:String} {o5:Array Edge} {o6:Option (Nat×Bool)} {K:AV→Prop} (h:Sg P ⟨o1,.pick c x y,o3,o4,o5,o6⟩ T m nx nt K):Sg P ⟨o1,.pick c x y,o3,o4,o5,o6⟩ T m nx nt K:=h
theorem a8x {x:Operand} {k:Nat} {o1:Option Nat} {o3:TypeId} {o4:String} {o5:Array Edge} {o6:Option (Nat×Bool)} {K:AV→Prop} (h:Sg P ⟨o1,.extract x k,o3,o4,o5,o6⟩ T m nx nt K):Sg P ⟨o1,.extract x k,o3,o4,o5,o6⟩ T m nx nt K:=h
theorem b3L {t:TypeId} {x:Operand} {o1:Option Nat} {o3:TypeId} {o4:String} {o5:Array Edge} {o6:Option (Nat×Bool)} {K:AV→Prop} (h:Sg P ⟨o1,.unOp .not t x,o3,o4,o5,o6⟩ T m nx nt K):Sg P ⟨o1,.unOp .not t x,o3,o4,o5,o6⟩ T m nx nt K:=h
theorem b1j {t:TypeId} {l:Array (Nat×Operand)} {o1:Option Nat} {o3:TypeId} {o4:String} {o5:Array Edge} {o6:Option (Nat×Bool)} {K:AV→Prop} (h:Sg P ⟨o1,.build t l,o3,o4,o5,o6⟩ T m nx nt K):Sg P ⟨o1,.build t l,o3,o4,o5,o6⟩ T m nx nt K:=h
theorem b1k {t:TypeId} {x y:Operand} {o1:Option Nat} {o3:TypeId} {o4:String} {o5:Array Edge} {o6:Option (Nat×Bool)} {K:AV→Prop} (h:Sg P ⟨o1,.indexAddr t x y,o3,o4,o5,o6⟩ T m nx nt K):Sg P ⟨o1,.indexAddr t x y,o3,o4,o5,o6⟩ T m nx nt K:=h
theorem b3M {c:Call} {o1:Option Nat} {o3:TypeId} {o4:String} {o5:Array Edge} {o6:Option (Nat×Bool)} {K:AV→Prop} (h:Sg P ⟨o1,.call c,o3,o4,o5,o6⟩ T m nx nt K):Sg P ⟨o1,.call c,o3,o4,o5,o6⟩ T m nx nt K:=h
theorem G3 {x y:Code} {S:St} {Q:Exit→St→Prop} (h:W P w0 x S (sq (fun S=>W P w0 y S Q) Q)):W P w0 (.seq x y) S Q:=b4 fun K hK=>a7Q h fun e S' q=>by cases e<;>first | exact hK _ q | exact q
theorem aW {S:St} {Q:Exit→St→Prop} {c:Code} (h:W P w0 c S Q):W P w0 c S Q:=h
theorem aWL {S:St} {Q:Exit→St→Prop} {l:List Oper} (h:WL P w0 ops l S Q):WL P w0 ops l S Q:=h
theorem aWX {S:St} {Q:Exit→St→Prop} {l:List Oper} (h:WX P w0 ops o l S Q):WX P w0 ops o l S Q:=h
theorem aQX {K:List (Nat×AV)→Prop} {l:List Oper} (h:QX P w0 ops o l T m nx nt K):QX P w0 ops o l T m nx nt K:=h
theorem aQL {K:List (Nat×AV)→Prop} {l:List Oper} (h:QL P w0 ops l T m nx nt K):QL P w0 ops l T m nx nt K:=h
end
section
variable {K:St→Prop} {Q:Exit→St→Prop} {S:St} {i id:Nat}
theorem b3N (h:K S):sq K Q .normal S:=h
theorem b3O (h:K S):nq K .normal S:=h
theorem b3P (h:Q (.exit i) S):sq K Q (.exit i) S:=h
theorem b3Q (h:Q .ret S):sq K Q .ret S:=h
theorem b3R (h:Q .normal S):bq id Q .normal S:=h
theorem b3S (h:Q .ret S):bq id Q .ret S:=h
theorem b3T (h:Q .normal S):bq id Q (.exit id) S:=by simp only [bq,Nat.beq_refl,cond_true];exact h
theorem b3U (h:Q (.exit i) S) (e:Nat.beq i id=false:=by rfl):bq id Q (.exit i) S:=by simp only [bq,e,cond_false];exact h
end
theorem zq {p q:Prop} (k:q) (h:Hd q→p:=by
 intro kk
 first
  | (with_reducible refine b14 ?_;first | refine Sg.of (a8 rfl rfl) ?_)
  | (with_reducible refine a9O ?_;first | refine Sg.of (a7 rfl rfl) ?_)
  | (with_reducible refine b1i ?_;first | refine Sg.of (a7H G rfl rfl rfl rfl) ?_ | refine Sg.of (B5 G rfl rfl rfl rfl) ?_)
  | (with_reducible refine b15 ?_;first | refine Sg.of (b4C G rfl rfl rfl rfl rfl rfl) ?_ | refine Sg.of (b4D G rfl rfl rfl rfl rfl rfl) ?_ | refine Sg.of (a8v G rfl rfl rfl rfl rfl rfl rfl) ?_ | refine Sg.of (a3f G rfl rfl rfl rfl rfl rfl) ?_ | refine Sg.of (a8w G rfl rfl rfl rfl rfl) ?_ | refine Sg.of (a3g G rfl rfl rfl rfl) ?_ | refine Sg.of (U3 G rfl rfl rfl rfl) ?_)
  | (with_reducible refine b3K ?_;first | refine Sg.of (f9 rfl rfl rfl rfl) ?_ | refine Sg.of (i8 rfl rfl rfl rfl (by omega) (by omega)) ?_)
  | (with_reducible refine b16 ?_;first | refine Sg.of (i7 rfl rfl rfl) ?_ | refine Sg.of (i5 rfl rfl rfl) ?_)
  | (with_reducible refine a8x ?_;first | refine Sg.of (c9 rfl rfl rfl) ?_)
  | (with_reducible refine b3L ?_;first | refine Sg.of (a0w rfl rfl) ?_ | refine Sg.of (a4t rfl rfl) ?_ | refine Sg.of (C2 rfl rfl) ?_)
  | (with_reducible refine b1j ?_;first | refine Sg.of (g0 G rfl rfl rfl rfl) ?_)
  | (with_reducible refine b1k ?_;first | refine Sg.of (a1t G rfl rfl rfl (by omega) (C4 (by omega)) rfl) ?_ | refine Sg.of (a1t G rfl rfl rfl (by omega) (t8 (by omega) (by omega)) rfl) ?_ | refine Sg.of (a1t G rfl rfl rfl (by omega) (C3 (by omega) (by omega)) rfl) ?_ | refine Sg.of (w6 G rfl rfl rfl rfl (by omega) (C4 (by omega)) rfl) ?_ | refine Sg.of (w6 G rfl rfl rfl rfl (by omega) (t8 (by omega) (by omega)) rfl) ?_ | refine Sg.of (w6 G rfl rfl rfl rfl (by omega) (C3 (by omega) (by omega)) rfl) ?_)
  | (with_reducible refine b3M ?_;first | refine Sg.of (b3J G rfl rfl rfl (List.length_map _) rfl) ?_ | refine Sg.of (b4E G rfl rfl rfl rfl) ?_)
 exact kk.o):p:=h ⟨k⟩
theorem zgo {p q:Prop} (k:q) (h:Hd q→p:=by
 intro kk
 first | (with_reducible refine aWX ?_;first | (refine a6P rfl rfl ?_;refine zq ?_) | refine c5 G rfl rfl rfl rfl rfl rfl rfl rfl rfl rfl rfl ?_) | (with_reducible refine aQX ?_;first | (refine a6Q rfl rfl ?_;refine zq ?_)) | skip
 repeat (first
  | (with_reducible refine aW ?_;with_reducible first | refine G3 ?_ | refine a6 ?_ | refine l8 ?_ | refine e9 ?_ | refine B0 ?_)
  | (with_reducible refine aWL ?_;first | (refine a1 rfl ?_;first | (refine a6P rfl rfl ?_;refine zq ?_) | refine c5 G rfl rfl rfl rfl rfl rfl rfl rfl rfl rfl rfl ?_) | (refine c6 rfl rfl rfl ?_;first | (refine a6P rfl rfl ?_;refine zq ?_) | refine c5 G rfl rfl rfl rfl rfl rfl rfl rfl rfl rfl rfl ?_) | refine b6 rfl rfl rfl rfl rfl rfl ?_ | refine a3r rfl rfl rfl rfl rfl ?_ | with_reducible refine a4 ?_)
  | (with_reducible refine aQL ?_;first | (refine d6 rfl ?_;first | (refine a6Q rfl rfl ?_;refine zq ?_)) | (refine p8 rfl rfl rfl ?_;first | (refine a6Q rfl rfl ?_;refine zq ?_)) | refine l5 rfl rfl rfl rfl rfl rfl ?_ | refine k7 rfl rfl rfl rfl rfl ?_ | with_reducible refine H1 ?_)
  | (with_reducible first | refine b3N ?_ | refine b3O ?_ | refine b3R ?_ | refine b3P ?_ | refine b3T ?_ | refine b3Q ?_ | refine b3S ?_ | (refine b3U ?_ ?_;rotate_left)))
 exact kk.o):p:=h ⟨k⟩
theorem zgn {p q:Prop} (k:q) (h:Hd q→p:=by
 intro kk
 repeat (with_reducible first | refine G3 ?_ | refine a6 ?_ | refine l8 ?_)
 first | (with_reducible refine aWX ?_;first | (refine a6P rfl rfl ?_;refine zq ?_) | refine c5 G rfl rfl rfl rfl rfl rfl rfl rfl rfl rfl rfl ?_) | (with_reducible refine aQX ?_;first | (refine a6Q rfl rfl ?_;refine zq ?_)) | skip
 repeat (first
  | (with_reducible refine aWL ?_;first | (refine a1 rfl ?_;first | (refine a6P rfl rfl ?_;refine zq ?_) | refine c5 G rfl rfl rfl rfl rfl rfl rfl rfl rfl rfl rfl ?_) | (refine c6 rfl rfl rfl ?_;first | (refine a6P rfl rfl ?_;refine zq ?_) | refine c5 G rfl rfl rfl rfl rfl rfl rfl rfl rfl rfl rfl ?_) | refine b6 rfl rfl rfl rfl rfl rfl ?_ | refine a3r rfl rfl rfl rfl rfl ?_)
  | (with_reducible refine aQL ?_;first | (refine d6 rfl ?_;first | (refine a6Q rfl rfl ?_;refine zq ?_)) | (refine p8 rfl rfl rfl ?_;first | (refine a6Q rfl rfl ?_;refine zq ?_)) | refine l5 rfl rfl rfl rfl rfl rfl ?_ | refine k7 rfl rfl rfl rfl rfl ?_))
 with_reducible first | refine a4 ?_ | refine H1 ?_ | refine e9 ?_ | refine B0 ?_
 repeat (with_reducible first | refine b3N ?_ | refine b3O ?_ | refine b3R ?_ | refine b3P ?_ | refine b3T ?_ | refine b3Q ?_ | refine b3S ?_ | (refine b3U ?_ ?_;rotate_left))
 exact kk.o):p:=h ⟨k⟩
theorem znk {p q:Prop} (k:q) (h:Hd q→p:=by
 intro kk
 repeat (with_reducible first | refine b3N ?_ | refine b3O ?_ | refine b3R ?_ | refine b3P ?_ | refine b3T ?_ | refine b3Q ?_ | refine b3S ?_ | (refine b3U ?_ ?_;rotate_left))
 exact kk.o):p:=h ⟨k⟩
theorem zst {p q:Prop} (k:q) (h:Hd q→p:=by
 intro kk
 first
  | (with_reducible refine aWX ?_;first | (refine a6P rfl rfl ?_;refine zq ?_) | refine c5 G rfl rfl rfl rfl rfl rfl rfl rfl rfl rfl rfl ?_)
  | (with_reducible refine aQX ?_;first | (refine a6Q rfl rfl ?_;refine zq ?_))
  | (with_reducible refine aWL ?_;first | (refine a1 rfl ?_;first | (refine a6P rfl rfl ?_;refine zq ?_) | refine c5 G rfl rfl rfl rfl rfl rfl rfl rfl rfl rfl rfl ?_) | (refine c6 rfl rfl rfl ?_;first | (refine a6P rfl rfl ?_;refine zq ?_) | refine c5 G rfl rfl rfl rfl rfl rfl rfl rfl rfl rfl rfl ?_) | refine b6 rfl rfl rfl rfl rfl rfl ?_ | refine a3r rfl rfl rfl rfl rfl ?_)
  | (with_reducible refine aQL ?_;first | (refine d6 rfl ?_;first | (refine a6Q rfl rfl ?_;refine zq ?_)) | (refine p8 rfl rfl rfl ?_;first | (refine a6Q rfl rfl ?_;refine zq ?_)) | refine l5 rfl rfl rfl rfl rfl rfl ?_ | refine k7 rfl rfl rfl rfl rfl ?_)
 exact kk.o):p:=h ⟨k⟩
theorem zgd {p q:Prop} (k:q) (h:Hd q→p:=by
 intro kk
 refine zgo ?_
 refine L1 m5 (by kernel_rfl) ?_
 exact kk.o):p:=h ⟨k⟩
theorem zcd {p a b:Prop} {q1:a→Prop} {q2:b→Prop} (k1:∀ h,q1 h) (k2:∀ h,q2 h) (h:Hd (∀ h,q1 h)→Hd (∀ h,q2 h)→p:=by
 intro k1 k2
 refine zgo ?_
 first | refine d1 rfl (fun hc=>?_) (fun hc=>?_) | refine o8 rfl rfl rfl (fun hc=>?_) (fun hc=>?_) | refine L0 rfl rfl rfl (fun hc=>?_) (fun hc=>?_)
 ·(try rw [hc]);(try simp only [rfb] at hc);exact k1.o hc
 ·(try rw [hc]);(try simp only [rfb] at hc);exact k2.o hc):p:=h ⟨k1⟩ ⟨k2⟩
theorem zwt {p q:Prop} (k:q) (h:Hd q→p:=by
 intro kk
 refine zgo ?_
 refine r7 rfl ?_
 exact kk.o):p:=h ⟨k⟩
theorem zwf {p q:Prop} (k:q) (h:Hd q→p:=by
 intro kk
 refine zgo ?_
 refine B1 rfl ?_
 exact kk.o):p:=h ⟨k⟩
theorem zf1 {p q:Prop} (k:q) (h:Hd q→p:=by
 intro kk
 refine zgo ?_
 refine c8 (j4 rfl (g9 ?_))
 exact kk.o):p:=h ⟨k⟩
theorem zfo {p q:Prop} (k:q) (h:Hd q→p:=by
 intro kk
 refine zgo ?_
 refine c8 (j4 rfl (b8 rfl ?_))
 exact kk.o):p:=h ⟨k⟩
theorem zcl {p q c:Prop} (x:c) (k:q) (h:c→Hd q→p:=by
 intro x kk
 refine zgo ?_
 first | exact a1 rfl (a3 rfl rfl (k5 rfl (ArgsOK.of rfl) x rfl) kk.o) | exact c6 rfl rfl rfl (a3 rfl rfl (k5 rfl (ArgsOK.of rfl) x rfl) kk.o) | exact d6 rfl (j5 rfl rfl (k5 rfl (ArgsOK.of rfl) x rfl) kk.o) | exact p8 rfl rfl rfl (j5 rfl rfl (k5 rfl (ArgsOK.of rfl) x rfl) kk.o)):p:=h x ⟨k⟩
theorem zsa (n:Nat) {p q:Prop} (k:q) (h:Hd q→Ph n p:=by
 intro kk
 first
 | (refine b4F rfl rfl rfl rfl (by kernel_rfl) (by kernel_rfl) rfl ?_;refine zq ?_)
 | (refine b4G rfl rfl rfl rfl rfl rfl (by kernel_rfl) (by kernel_rfl) rfl ?_;refine zq ?_)
 | refine b4H rfl rfl rfl rfl rfl (by kernel_rfl) (by kernel_rfl) rfl rfl ?_
 | refine b4I rfl rfl rfl rfl (by kernel_rfl) (by kernel_rfl) rfl rfl ?_
 exact kk.o):p:=h ⟨k⟩
end Go.Rf
