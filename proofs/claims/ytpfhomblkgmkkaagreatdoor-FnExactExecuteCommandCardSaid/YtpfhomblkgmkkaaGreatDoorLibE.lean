/- Texts merged into one: RfMO, RfMP, RfCA, RfCB, RfNO, RfNZ, RfXD, RfMR, RfCC, Rf6, RfCJ, RfCD, RfCI, RfCE, Rf7, RfCF, RfCG, RfCK, RfNI, RfSR. -/
import Derived.Test.YtpfhomblkgmkkaaGreatDoorLibD
import Derived.KernelRfl
set_option linter.unusedSectionVars false
set_option linter.unusedSimpArgs false
set_option linter.unusedVariables false
namespace Go.Rf
open Go
variable {i k:Nat} {m:Mach} {p:Nat→Bool} {sl:List Slot} {w:ByteArray} {x:Ifc}
theorem b8V (h:MaG m):AbsF m.rs (S4 m):=by
 have hl:(m.cp.map (λx:Ifc=>x.ma)).length=m.cp.length:=List.length_map _
 have hl2:(m.cp.map (λx:Ifc=>x.st)).length=m.cp.length:=List.length_map _
 have hg:∀c,c < m.cp.length→(m.cp.map (λx:Ifc=>x.st)).getD c default=(m.cp.getD c default).st:=λc hc=>a1K (f:=λx:Ifc=>x.st) hc
 refine ⟨by show 1<=(m.cp.map (λx:Ifc=>x.ma)).length/\(m.cp.map (λx:Ifc=>x.ma)).length<=2;rw [hl];exact h.n,h.rn,by show (m.cp.map (λx:Ifc=>x.st)).length=(m.cp.map (λx:Ifc=>x.ma)).length;rw [hl,hl2],h.en,h.ra,F9 _,λi hi=>?_,λc hc=>?_,λc hc i hi=>?_⟩
 ·show 0<=(m.rs.getD i default).t/\(m.rs.getD i default).t < (m.cp.map (λx:Ifc=>x.ma)).length
  rw [hl]
  have:=(U0.mp h.rt).2.2 i hi
  omega
 ·have hc:c < (m.cp.map (λx:Ifc=>x.ma)).length:=hc
  rw [hl] at hc
  show ((m.cp.map (λx:Ifc=>x.st)).getD c default).length<=4
  rw [hg c hc]
  exact (h.ok c hc).f.sn
 ·have hc:c < (m.cp.map (λx:Ifc=>x.ma)).length:=hc
  rw [hl] at hc
  have hi:i < ((m.cp.map (λx:Ifc=>x.st)).getD c default).length:=hi
  show 0<=((m.cp.map (λx:Ifc=>x.st)).getD c default).getD i default/\((m.cp.map (λx:Ifc=>x.st)).getD c default).getD i default<=7
  rw [hg c hc] at hi ⊢
  have hI:=(h.ok c hc).f
  obtain ⟨j,h1,h2,h3⟩:=(H4 4).mp ((a4b hI.qu.sl.len).mp (hI.st _ (n6.mpr ⟨i,hi,Z⟩)))
  rw [← h3]
  exact (hI.qu.sl.ok j h1 (by rcases u5.mp h2 with g | g<;>omega)).2.1
theorem MaG.put (h:MaG m) {c:Nat} {x:Ifc} (hx:IfG x):MaG ⟨m.rs,m.en,m.ra,m.cp.set c x⟩:=by
 refine ⟨by show okRts m.rs (m.cp.set c x).length=true;rw [List.length_set];exact h.rt,by show 1<=(m.cp.set c x).length/\(m.cp.set c x).length<=2;rw [List.length_set];exact h.n,h.rn,h.en,h.ra,λk hk=>?_⟩
 have hk:k < (m.cp.set c x).length:=hk
 rw [List.length_set] at hk
 show IfG ((m.cp.set c x).getD k default)
 by_cases e:c=k
 ·subst e
  rw [H2 hk,if_pos Z];exact hx
 ·rw [List.getD_eq_getElem?_getD,List.getElem?_set_ne e,← List.getD_eq_getElem?_getD];exact h.ok k hk
theorem c66 {s:MStep} (h:MaG m) (hv:H1 m.cp.length s=true) (hk:(stM m s).2.2=true):MaG (stM m s).1/\(stM m s).1.rs=m.rs/\(stM m s).1.cp.length=m.cp.length:=by
 obtain ⟨sk,sq,sc,sv⟩:=s
 have hc:=λhk=>b2a (n:=m.cp.length) (k:=sk) (q:=sq) (c:=sc) (v:=sv) hv hk
 unfold stM at hk ⊢
 dsimp only at hk ⊢
 by_cases h1:sk=1
 ·simp only [h1,if_true]
  exact ⟨⟨h.rt,h.n,h.rn,h.en,by show (m.ra.set sq.toNat true).length=8;rw [List.length_set];exact h.ra,h.ok⟩,trivial,trivial⟩
 by_cases h2:sk=2
 ·rw [if_neg h1,if_pos h2]
  exact ⟨c5c h,Z,J6 8⟩
 by_cases h3:sk=3
 ·have hcc:=hc (.inl h3)
  rw [if_neg h1,if_neg h2,if_pos h3] at hk ⊢
  by_cases ho:okT (m.cp.getD sc.toNat default)=true
  ·rw [if_pos ho]
   exact ⟨h.put (c8u (h.ok _ J) ho),Z,List.length_set⟩
  ·rw [if_neg ho] at hk;cases hk
 by_cases h4:sk=4
 ·have hcc:=hc (.inr (.inl h4))
  rw [if_neg h1,if_neg h2,if_neg h3,if_pos h4] at hk ⊢
  by_cases ho:(m.cp.getD sc.toNat default).st.length=0
  ·rw [if_pos ho] at hk;cases hk
  ·rw [if_neg ho]
   exact ⟨h.put (c8v (h.ok _ J) ho),Z,List.length_set⟩
 by_cases h5:sk=5
 ·have hcc:=hc (.inr (.inr h5))
  rw [if_neg h1,if_neg h2,if_neg h3,if_neg h4,if_pos h5]
  have hI:=h.ok sc.toNat J
  exact ⟨h.put ⟨⟨hI.f.qu,hI.f.sn,hI.f.st⟩,hI.nd⟩,Z,List.length_set⟩
 ·rw [if_neg h1,if_neg h2,if_neg h3,if_neg h4,if_neg h5]
  exact ⟨⟨h.rt,h.n,h.rn,by show (m.en.set sq.toNat _).length=8;rw [List.length_set];exact h.en,h.ra,h.ok⟩,Z,Z⟩
section
variable {p:Mach×Abs} {s:MStep}
end
section
variable {m:Mach} {sk sq sc sv:Int} {q c:Nat}
theorem sm1 (h:sk=1):stM m ⟨sk,(q:Int),sc,sv⟩=(⟨m.rs,m.en,m.ra.set q true,m.cp⟩,-1,!(m.ra.getD q default)):=by subst h;rfl
theorem sm2 (h:sk=2):stM m ⟨sk,sq,sc,sv⟩=(b4U m,-1,true):=by subst h;rfl
theorem sm3 (h:sk=3) (hk:okT (m.cp.getD c default)=true):stM m ⟨sk,sq,(c:Int),sv⟩=(⟨m.rs,m.en,m.ra,m.cp.set c (a4X (m.cp.getD c default))⟩,tkI (m.cp.getD c default).qu.sl,true):=by
 subst h
 show (if okT (m.cp.getD c default) then _ else _:Mach×Int×Bool)=_
 rw [hk];rfl
theorem c8w (h:sk=3) (hk:okT (m.cp.getD c default)=false):stM m ⟨sk,sq,(c:Int),sv⟩=(⟨m.rs,m.en,m.ra,m.cp.set c noI⟩,0,false):=by
 subst h
 show (if okT (m.cp.getD c default) then _ else _:Mach×Int×Bool)=_
 rw [hk];rfl
theorem sm4 (h:sk=4) (hk:¬ (m.cp.getD c default).st.length=0):stM m ⟨sk,sq,(c:Int),sv⟩=(⟨m.rs,m.en,m.ra,m.cp.set c (a9S (m.cp.getD c default))⟩,H5 (m.cp.getD c default),true):=by
 subst h
 show (if (m.cp.getD c default).st.length=0 then _ else _:Mach×Int×Bool)=_
 rw [if_neg hk];rfl
theorem c8x (h:sk=4) (hk:(m.cp.getD c default).st.length=0):stM m ⟨sk,sq,(c:Int),sv⟩=(⟨m.rs,m.en,m.ra,m.cp.set c noI⟩,0,false):=by
 subst h
 show (if (m.cp.getD c default).st.length=0 then _ else _:Mach×Int×Bool)=_
 rw [if_pos hk];rfl
theorem sm5 (h:sk=5):stM m ⟨sk,sq,(c:Int),sv⟩=(⟨m.rs,m.en,m.ra,m.cp.set c ⟨sv,(m.cp.getD c default).st,(m.cp.getD c default).qu⟩⟩,-1,true):=by subst h;rfl
theorem sm6 (h:sk=6):stM m ⟨sk,(q:Int),sc,sv⟩=(⟨m.rs,m.en.set q (decide (sv=1)),m.ra,m.cp⟩,-1,true):=by subst h;rfl
theorem b4V (h:b2A m ⟨sk,sq,sc,sv⟩):sk=3∨sk=4:=by
 rcases h with ⟨h,_⟩ | ⟨h,_⟩
 ·exact .inl h
 ·exact .inr h
theorem c5d (h:b2A m ⟨sk,sq,(c:Int),sv⟩) (h3:sk=3):okT (m.cp.getD c default)=false:=by
 rcases h with ⟨_,h⟩ | ⟨h,_⟩
 ·exact h
 ·have h':sk=4:=h
  omega
theorem c5e (h:b2A m ⟨sk,sq,(c:Int),sv⟩) (h4:sk=4):(m.cp.getD c default).st.length=0:=by
 rcases h with ⟨h,_⟩ | ⟨_,h⟩
 ·have h':sk=3:=h
  omega
 ·exact h
theorem c8y (h:¬ b2A m ⟨sk,sq,(c:Int),sv⟩) (h3:sk=3):okT (m.cp.getD c default)=true:=by
 cases ho:okT (m.cp.getD c default)
 ·exact absurd (Or.inl ⟨h3,ho⟩) h
 ·rfl
theorem c8z (h:¬ b2A m ⟨sk,sq,(c:Int),sv⟩) (h4:sk=4):¬ (m.cp.getD c default).st.length=0:=λe=>h (Or.inr ⟨h4,e⟩)
theorem c5f {s:MStep} (h:b2A m s):(stM m s).2.2=false:=by
 obtain ⟨sk,sq,sc,sv⟩:=s
 rcases h with ⟨h1,h2⟩ | ⟨h1,h2⟩
 ·have h1:sk=3:=h1
  subst h1
  show (if okT (m.cp.getD sc.toNat default) then _ else _:Mach×Int×Bool).2.2=false
  have h2:okT (m.cp.getD sc.toNat default)=false:=h2
  rw [h2];rfl
 ·have h1:sk=4:=h1
  subst h1
  show (if (m.cp.getD sc.toNat default).st.length=0 then _ else _:Mach×Int×Bool).2.2=false
  have h2:(m.cp.getD sc.toNat default).st.length=0:=h2
  rw [if_pos h2]
end
theorem MaG.lens (h:MaG m) {k:Nat} (hk:k < m.cp.length):(m.cp.getD k default).st.length<=4/\(m.cp.getD k default).qu.sl.length=4/\(m.cp.getD k default).qu.wa.length<=8:=⟨(h.ok k hk).f.sn,(h.ok k hk).f.qu.sl.len,(h.ok k hk).f.qu.wn8⟩
theorem MaG.small (h:MaG m):SmallM m:=by
 have h1:=h.n
 refine ⟨by rw [h.rn];decide,by rw [h.en];decide,by rw [h.ra];decide,by omega,?_⟩
 have key:∀i,i<=m.cp.length→sumI m.cp i<=16 * i:=by
  intro i
  induction i with
  | zero=>intro _;exact Int.le_refl _
  | succ i ih =>
   intro hi
   rw [I5]
   have:=ih J
   obtain ⟨q1,q2,q3⟩:=h.lens (show i < m.cp.length by omega)
   have:szI (m.cp.getD i default)<=16:=by unfold szI;omega
   push_cast
   omega
 have:=key _ (Nat.le_refl _)
 omega
theorem b8W {m:Mach} {i:Nat} (h1:m.en.getD i default=true) (h2:m.ra.getD i default=true) (h3:a9C (m.cp.getD (tgM m i) default).st i=false):a6p m i=true:=by unfold a6p;rw [h1,h2,h3];rfl
theorem b8X {m:Mach} {i:Nat} (h1:m.en.getD i default=false):a6p m i=false:=by unfold a6p;rw [h1,Bool.false_and]
theorem b8Y {m:Mach} {i:Nat} (h2:m.ra.getD i default=false):a6p m i=false:=by unfold a6p;rw [h2,Bool.false_and,Bool.and_false]
theorem b8Z {m:Mach} {i:Nat} (h3:a9C (m.cp.getD (tgM m i) default).st i=true):a6p m i=false:=by unfold a6p;rw [h3];simp
theorem b80 {q:Int} (h:(sl.getD (r9 sl q).toNat default).s=3):edS sl q=sl.set (r9 sl q).toNat ⟨1,q,(sl.getD (r9 sl q).toNat default).p⟩:=by unfold edS edX;rw [if_pos h]
theorem c19 {q:Int} (h:¬ (sl.getD (r9 sl q).toNat default).s=3):edS sl q=sl.set (r9 sl q).toNat zSl:=by unfold edS edX;rw [if_neg h]
def l5 (w:ByteArray):Nat :=
 if w.data.toList=[115,121,110,99] then 0
 else if w.data.toList=[114,97,105,115,101,100] then 1
 else if w.data.toList=[105,100,108,101] then 2
 else if w.data.toList=[114,97,105,115,101] then 3
 else if w.data.toList=[101,110,97,98,108,101] then 4
 else if w.data.toList=[100,105,115,97,98,108,101] then 5
 else if w.data.toList=[116,97,107,101] then 6
 else if w.data.toList=[108,101,97,118,101] then 7
 else if w.data.toList=[112,101,110,100,105,110,103] then 8
 else if w.data.toList=[115,116,97,99,107] then 9
 else if w.data.toList=[110,101,120,116] then 10
 else if w.data.toList=[115,108,111,116,115] then 11
 else if w.data.toList=[109,97,115,107] then 12
 else 13
theorem U4 {l:Array UInt8}:w.toList=(⟨l⟩:ByteArray).toList↔w.data.toList=l.toList:=by rw [Go.ByteArray.toList_eq,Go.ByteArray.toList_eq]
theorem N2 {c:Prop} [Decidable c] {a b k:Nat} (h:(if c then a else b)=k) (hak:a≠k):b=k:=by
 grind
theorem U5 {l:List UInt8} (h:w.data.toList=l):l5 w=l5 ⟨⟨l⟩⟩:=by unfold l5;simp only [h]
theorem b1t:w.toList=(⟨#[115,121,110,99]⟩:ByteArray).toList↔l5 w=0:=by
 rw [U4]
 show w.data.toList=[115,121,110,99]↔_
 constructor
 ·intro h;exact (U5 h).trans (by decide)
 ·intro h
  unfold l5 at h
  refine Decidable.byContradiction λhn=>?_
  rw [if_neg hn] at h
  iterate 12 have h:=N2 h (by decide)
  cases h
theorem b1u:w.toList=(⟨#[114,97,105,115,101,100]⟩:ByteArray).toList↔l5 w=1:=by
 rw [U4]
 show w.data.toList=[114,97,105,115,101,100]↔_
 constructor
 ·intro h;exact (U5 h).trans (by decide)
 ·intro h
  unfold l5 at h
  refine Decidable.byContradiction λhn=>?_
  have h:=N2 h (by decide)
  rw [if_neg hn] at h
  iterate 11 have h:=N2 h (by decide)
  cases h
theorem b1v:w.toList=(⟨#[105,100,108,101]⟩:ByteArray).toList↔l5 w=2:=by
 rw [U4]
 show w.data.toList=[105,100,108,101]↔_
 constructor
 ·intro h;exact (U5 h).trans (by decide)
 ·intro h
  unfold l5 at h
  refine Decidable.byContradiction λhn=>?_
  iterate 2 have h:=N2 h (by decide)
  rw [if_neg hn] at h
  iterate 10 have h:=N2 h (by decide)
  cases h
theorem b1w:w.toList=(⟨#[114,97,105,115,101]⟩:ByteArray).toList↔l5 w=3:=by
 rw [U4]
 show w.data.toList=[114,97,105,115,101]↔_
 constructor
 ·intro h;exact (U5 h).trans (by decide)
 ·intro h
  unfold l5 at h
  refine Decidable.byContradiction λhn=>?_
  iterate 3 have h:=N2 h (by decide)
  grind
theorem b1x:w.toList=(⟨#[101,110,97,98,108,101]⟩:ByteArray).toList↔l5 w=4:=by
 rw [U4]
 show w.data.toList=[101,110,97,98,108,101]↔_
 constructor
 ·intro h;exact (U5 h).trans (by decide)
 ·intro h
  unfold l5 at h
  refine Decidable.byContradiction λhn=>?_
  iterate 4 have h:=N2 h (by decide)
  grind
theorem b1y:w.toList=(⟨#[100,105,115,97,98,108,101]⟩:ByteArray).toList↔l5 w=5:=by
 rw [U4]
 show w.data.toList=[100,105,115,97,98,108,101]↔_
 constructor
 ·intro h;exact (U5 h).trans (by decide)
 ·intro h
  unfold l5 at h
  refine Decidable.byContradiction λhn=>?_
  iterate 5 have h:=N2 h (by decide)
  grind
theorem b1z:w.toList=(⟨#[116,97,107,101]⟩:ByteArray).toList↔l5 w=6:=by
 rw [U4]
 show w.data.toList=[116,97,107,101]↔_
 constructor
 ·intro h;exact (U5 h).trans (by decide)
 ·intro h
  unfold l5 at h
  refine Decidable.byContradiction λhn=>?_
  iterate 6 have h:=N2 h (by decide)
  grind
theorem b1A:w.toList=(⟨#[108,101,97,118,101]⟩:ByteArray).toList↔l5 w=7:=by
 rw [U4]
 show w.data.toList=[108,101,97,118,101]↔_
 constructor
 ·intro h;exact (U5 h).trans (by decide)
 ·intro h
  unfold l5 at h
  refine Decidable.byContradiction λhn=>?_
  iterate 7 have h:=N2 h (by decide)
  grind
theorem b1B:w.toList=(⟨#[112,101,110,100,105,110,103]⟩:ByteArray).toList↔l5 w=8:=by
 rw [U4]
 show w.data.toList=[112,101,110,100,105,110,103]↔_
 constructor
 ·intro h;exact (U5 h).trans (by decide)
 ·intro h
  unfold l5 at h
  refine Decidable.byContradiction λhn=>?_
  iterate 8 have h:=N2 h (by decide)
  grind
theorem b1C:w.toList=(⟨#[115,116,97,99,107]⟩:ByteArray).toList↔l5 w=9:=by
 rw [U4]
 show w.data.toList=[115,116,97,99,107]↔_
 constructor
 ·intro h;exact (U5 h).trans (by decide)
 ·intro h
  unfold l5 at h
  refine Decidable.byContradiction λhn=>?_
  iterate 9 have h:=N2 h (by decide)
  grind
theorem b2B:w.toList=(⟨#[110,101,120,116]⟩:ByteArray).toList↔l5 w=10:=by
 rw [U4]
 show w.data.toList=[110,101,120,116]↔_
 constructor
 ·intro h;exact (U5 h).trans (by decide)
 ·intro h
  unfold l5 at h
  refine Decidable.byContradiction λhn=>?_
  iterate 10 have h:=N2 h (by decide)
  grind
theorem a7d:w.toList=(⟨#[115,108,111,116,115]⟩:ByteArray).toList↔l5 w=11:=by
 rw [U4]
 show w.data.toList=[115,108,111,116,115]↔_
 constructor
 ·intro h;exact (U5 h).trans (by decide)
 ·intro h
  unfold l5 at h
  refine Decidable.byContradiction λhn=>?_
  iterate 11 have h:=N2 h (by decide)
  grind
theorem a7e:w.toList=(⟨#[109,97,115,107]⟩:ByteArray).toList↔l5 w=12:=by
 rw [U4]
 show w.data.toList=[109,97,115,107]↔_
 constructor
 ·intro h;exact (U5 h).trans (by decide)
 ·intro h
  unfold l5 at h
  refine Decidable.byContradiction λhn=>?_
  iterate 12 have h:=N2 h (by decide)
  grind
theorem a4Z {w:ByteArray}:l5 w<=13:=by
 have h:∀(c:Prop) [Decidable c] (a b:Nat),a<=13→b<=13→(if c then a else b)<=13:=λc _ a b h1 h2=>by by_cases hc:c<;>simp [hc,h1,h2]
 unfold l5
 iterate 13 refine h _ _ _ (by decide) ?_
 decide
def a1e (k:Nat):Int:=if k<=2 then 0 else if k<=11 then 1 else if k=12 then 2 else -1
theorem a3q (h:k<=2):a1e k=0:=by unfold a1e;rw [if_pos h]
theorem Y4 {k:Nat} (h:3<=k/\k<=11):a1e k=1:=by unfold a1e;rw [if_neg J,if_pos J]
theorem a7f {k:Nat} (h:k=12):a1e k=2:=by unfold a1e;rw [if_neg J,if_neg J,if_pos h]
theorem a40 (h:13<=k):a1e k=-1:=by unfold a1e;rw [if_neg J,if_neg J,if_neg J]
def X3 (k:Nat) (l:List Int):MStep×Bool :=
 if k=3 then (⟨1,l.getD 0 default,0,0⟩,true)
 else if k=4 then (⟨6,l.getD 0 default,0,1⟩,true)
 else if k=5 then (⟨6,l.getD 0 default,0,0⟩,true)
 else if k=0 then (⟨2,0,0,0⟩,true)
 else if k=6 then (⟨3,0,l.getD 0 default,0⟩,true)
 else if k=7 then (⟨4,0,l.getD 0 default,0⟩,true)
 else if k=12 then (⟨5,0,l.getD 0 default,l.getD 1 default⟩,true)
 else (⟨0,0,0,0⟩,false)
def b62 (m:Mach) (s:MStep):Bool:=a0w m && H1 m.cp.length s && (stM m s).2.2
def smT (m:Mach) (s:MStep):Mach×Int×Bool:=if b62 m s then ((stM m s).1,(stM m s).2.1,true) else (⟨[],[],[],[]⟩,0,false)
theorem b1D {m:Mach} {s:MStep} (h:a0w m=false∨H1 m.cp.length s=false∨(stM m s).2.2=false):smT m s=(⟨[],[],[],[]⟩,0,false):=by
 unfold smT b62
 grind
theorem c2a {s:MStep} (h1:a0w m=true) (h2:H1 m.cp.length s=true) (h3:(stM m s).2.2=true):smT m s=((stM m s).1,(stM m s).2.1,true):=by
 unfold smT b62
 grind
def whN (p:Nat→Bool):Nat→List Int
 | 0=>[]
 | i+1=>if p i then whN p i++[(i:Int)] else whN p i
theorem c67 (h:p i=true):whN p (i+1)=whN p i++[(i:Int)]:=by rw [whN,if_pos h]
theorem c68 (h:p i=false):whN p (i+1)=whN p i:=by rw [whN,if_neg (by simp [h])]
theorem a6s {p:Nat→Bool}:∀{i:Nat},(whN p i).length<=i
 | 0=>Nat.le_refl _
 | i+1=>by
  have:=a6s (p:=p) (i:=i)
  rw [whN]
  split
  ·rw [List.length_append,List.length_cons,List.length_nil];omega
  ·omega
theorem b2C:∀{i:Nat} {x:Int},x∈whN p i→0<=x/\x < i
 | 0,x,h=>by cases h
 | i+1,x,h=>by
  rw [whN] at h
  split at h
  ·rcases List.mem_append.1 h with h | h
   ·have:=b2C h;omega
   ·rw [List.mem_singleton.1 h];omega
  ·have:=b2C h;omega
theorem b81 {n:Nat} (hn:n<=1000):∀i,i < (whN p n).length→a0x ((whN p n).getD i default):=λi hi=>by
 have hm:(whN p n).getD i default∈whN p n:=by rw [List.getD_eq_getElem?_getD,List.getElem?_eq_getElem hi];exact List.getElem_mem hi
 have:=b2C hm
 exact ⟨by omega,by omega⟩
def raN (m:Mach):List Int:=whN (λi=>m.ra.getD i default) 8
def a1N (x:Ifc):Bool:=decide ((x.st.length:Int) > 0) || decide (((A5 x.qu).length:Int) > 0)
theorem b5Q (h:(x.st.length:Int) > 0):a1N x=true:=by unfold a1N;rw [decide_eq_true h];rfl
theorem a8X (h:¬ (x.st.length:Int) > 0):a1N x=decide (((A5 x.qu).length:Int) > 0):=by unfold a1N;rw [decide_eq_false h];rfl
theorem c04 (h:¬ (x.st.length:Int) > 0) (h2:((A5 x.qu).length:Int) > 0):a1N x=true:=by rw [a8X h,decide_eq_true h2]
theorem c05 (h:¬ (x.st.length:Int) > 0) (h2:¬ ((A5 x.qu).length:Int) > 0):a1N x=false:=by rw [a8X h,decide_eq_false h2]
def a8e (m:Mach) (i:Nat):Bool:=m.ra.getD i default && m.en.getD i default
def a7g (m:Mach):Bool:=!V6 8 (a8e m) && !V6 m.cp.length (λk=>a1N (m.cp.getD k default))
theorem b82 {m:Mach} {i:Nat} (hi:i < 8) (h1:m.ra.getD i default=true) (h2:m.en.getD i default=true):a7g m=false:=by
 unfold a7g
 rw [I9 (i:=i) (show a8e m i=true by unfold a8e;rw [h1,h2];rfl) hi]
 rfl
theorem b4W (h:∀j,j < i→a8e m j=false) (hi:8<=i):a7g m=!V6 m.cp.length (λk=>a1N (m.cp.getD k default)):=by
 unfold a7g
 rw [a17 h hi]
 simp
theorem c5g {m:Mach} {i k:Nat} (h:∀j,j < i→a8e m j=false) (hi:8<=i) (hk:k < m.cp.length) (hb:a1N (m.cp.getD k default)=true):a7g m=false:=by
 rw [b4W h hi,I9 (i:=k) hb hk]
 rfl
theorem c5h (h:∀j,j < i→a8e m j=false) (hi:8<=i) (hk:m.cp.length<=k) (hb:∀j,j < k→a1N (m.cp.getD j default)=false):a7g m=true:=by
 rw [b4W h hi,a17 hb hk]
 rfl
theorem c5i (h:m.ra.getD i default=false):a8e m i=false:=by unfold a8e;rw [h];rfl
theorem c5j (h:m.en.getD i default=false):a8e m i=false:=by unfold a8e;rw [h,Bool.and_false]
theorem c5k {w:World} {ρ:Nat→Value} {nx:Nat} {a:AV} {f:FuncId}:∀vs,RelVs w ρ nx [a,.v (.func (.func f) #[] #[])] vs→RelVs w ρ nx [a,.fnc f []] vs:=by
 intro vs h
 simp only [RelVs,RelV] at h ⊢
 obtain ⟨y0,t0,rfl,h0,y1,t1,rfl,rfl,rfl⟩:=h
 exact ⟨_,_,Z,h0,_,_,Z,⟨[],Z,Z⟩,Z⟩
end Go.Rf
namespace Go.Rf
open Go Go.RowKit
section
variable {P:Program} [Env P] {w0:Base} {ops:Array Oper} {tb:List (Nat×TyI)} {o:Oper} {rest:List Oper} {T:List (Nat×AV)} {m m1:List (Nat×Option Row)} {nx nt d n1:Nat} {Q:Exit→St→Prop}
def c69 (m1:List (Nat×Option Row)) (n1:Nat) (e:Exit) (S:St):Prop:=(e=.normal∨e=.ret)/\S.m=m1/\S.nx=n1
theorem c5l [EnvAt P w0] {f:FuncId} {fn:Func} {c:Code} {as:Array Operand} {ts:Array TypeId} {args:List AV} {n:Nat} (m1:List (Nat×Option Row)) (n1:Nat) (hd:o.dst=some d) (hlt:Nat.blt d nt=true) (ho:o.op=.call { callee:=.value (.func f),args:=as,argTypes:=ts })
 (hf:P.funcs[f]?=some fn) (hb:fn.body=some c) (hname:(fn.name == "runtime.NumGoroutine")=false) (hl:fn.results=#[]) (hn:fn.ntmps=n) (hlen:Nat.ble args.length n=true) (ha:evL T as.toList []=some args) (hle:Nat.ble nx n1=true)
 (h:∀b:Base,[EnvAt P b]→b.n0=nx→W P b c ⟨a4L args 0,m,nx,n⟩ (c69 m1 n1)) (hk:WL P w0 ops rest ⟨(d,.tup []) :: T,m1,n1,nt⟩ Q):WX P w0 ops o rest ⟨T,m,nx,nt⟩ Q:=by
 rename_i hw0
 intro ρ a w hT hC
 obtain ⟨bs,h1,h2⟩:=a5E hT ha
 simp at h1
 subst h1
 have hcal:Callable P f:=⟨fn,hf,hname,by rw [hb];rfl⟩
 have hrun:(execOp a.eval o).run P w=.ok (.enter f (as.toList.map a.eval).toArray) w:=by
  simp [execOp,ho,resolve,Deferred.ofValue,invoke,Act.eval,V4 hcal,← Array.toList_map]
 unfold Oper.wp
 rw [hrun,Oper.upon_enter]
 let b:Base:=⟨w0.w,nx,ρ,w,w0.keep,λc hc=>Nat.lt_of_lt_of_le (w0.kb c hc) hC.kept.1,w0.E,w0.hE⟩
 have hen:EnvAt P b:=⟨hw0.e⟩
 have hCb:RelC b ρ m nx w:=⟨hC.rows,hC.apart,hC.below,⟨Nat.le_refl _,λ_ _=>Z⟩,⟨Nat.le_refl _,λ_ _=>Z,hC.kept.2.2⟩,hC.inner⟩
 have hlen':args.length<=n:=Nat.le_of_ble_eq_true hlen
 have hTb:=a2a (b:=b) (fn:=fn) (show RelVs b.w ρ nx args (as.toList.map a.eval) from h2) hlen' hn
 have hcalls:Calls P f (as.toList.map a.eval).toArray w (λen w'=>∃ρ',en=.returned (.tuple #[])/\(∀i,i < nx→ρ' i=ρ i)/\RelC b ρ' m1 n1 w'):=by
  refine calls_of_wp hf hb ?_
  refine wp_mono (h b Z ρ _ w hTb hCb) ?_
  have fin:∀(ρ':Nat→Value) (S:St) (a':Act) (w':World),S.m=m1→S.nx=n1→RelT b ρ' S.T S.nx S.nt a'→RelC b ρ' S.m S.nx w' →
   a'.defers=[]/\∃v,(results fn a'.tmps).run P w'=.ok v w'/\∃ρ',Ending.returned v=.returned (.tuple #[])/\(∀i,i < nx→ρ' i=ρ i)/\RelC b ρ' m1 n1 w':=by
   intro ρ' S a' w' e1 e2 hT' hC'
   refine ⟨hT'.defers,.tuple #[],?_,ρ',Z,λi hi=>hC'.pin.2 i hi,by rw [← e1,← e2];exact hC'⟩
   have:=O1 (P:=P) (fn:=fn) (l:=[]) (ys:=[]) (tmps:=a'.tmps) (w:=w') (by rw [hl]) (by simp)
   simpa using this
  rintro e a' w' ⟨ρ',S,⟨hq,e1,e2⟩,hT',hC'⟩
  rcases hq with rfl | rfl
  ·exact fin ρ' S a' w' e1 e2 hT' hC'
  ·exact fin ρ' S a' w' e1 e2 hT' hC'
 refine hcalls.mono λex w' ⟨ρ',he,q1,q2⟩=>?_
 subst he
 have hn1:=Nat.le_of_ble_eq_true hle
 refine hk ρ' _ w' ?_ ⟨q2.rows,q2.apart,q2.below,⟨Nat.le_trans hC.pin.1 hn1,λi hi=>by rw [q1 i (Nat.lt_of_lt_of_le hi hC.pin.1)];exact hC.pin.2 i hi⟩,⟨Nat.le_trans hC.kept.1 q2.kept.1,λc hc=>(q2.kept.2.1 c hc).trans (hC.kept.2.1 c hc),q2.kept.2.2⟩,q2.inner⟩
 rw [hd]
 have hT':RelT w0 ρ' T n1 nt a:=⟨λt x hx=>(hT.tmps t x hx).mono hn1 q1,hT.size,hT.defers⟩
 exact hT'.put hlt (by simp only [RelV];exact ⟨[],Z,by simp only [RelVs]⟩)
end
section
variable {P:Program} [Env P] {w0:Base} {ops:Array Oper} {tb:List (Nat×TyI)} {o:Oper} {rest:List Oper} {T:List (Nat×AV)} {m:List (Nat×Option Row)} {nx nt d:Nat} {Q:Exit→St→Prop}
theorem c06 [EnvAt P w0] {f:FuncId} {fn:Func} {c:Code} {as:Array Operand} {ts:Array TypeId} {args:List AV} {n:Nat} (hd:o.dst=some d) (hlt:Nat.blt d nt=true) (ho:o.op=.call { callee:=.value (.func f),args:=as,argTypes:=ts })
 (hf:P.funcs[f]?=some fn) (hb:fn.body=some c) (hname:(fn.name == "runtime.NumGoroutine")=false) (hl:fn.results=#[]) (hn:fn.ntmps=n) (hlen:Nat.ble args.length n=true) (ha:evL T as.toList []=some args)
 (h:∃m1 n1,(∀b:Base,[EnvAt P b]→b.n0=nx→W P b c ⟨a4L args 0,m,nx,n⟩ (c69 m1 n1))/\Nat.ble nx n1=true/\WL P w0 ops rest ⟨(d,.tup []) :: T,m1,n1,nt⟩ Q):WX P w0 ops o rest ⟨T,m,nx,nt⟩ Q:=by
 obtain ⟨m1,n1,h1,h2,h3⟩:=h
 exact c5l m1 n1 hd hlt ho hf hb hname hl hn hlen ha h2 h1 h3
end
variable {a b:List CI} {c:CI} {eS eW:Nat} {w:World} {x y yss yss':List (List CI)} {ys:List (List Value)} {ρ:Nat→Value}
def CILe (c c':CI):Prop:=c=c'∨∃e sz ys f,c=.l e sz ys f/\c'=.l e sz ys true
def FlR (a b:List CI):Prop:=a.length=b.length/\∀(k:Nat) (c':CI),b[k]?=some c'→∃c,a[k]?=some c/\CILe c c'
def FlLe (x y:List (List CI)):Prop:=x.length=y.length/\∀(i:Nat) (b:List CI),y[i]?=some b→∃a,x[i]?=some a/\FlR a b
theorem FlR.nil:FlR [] []:=⟨Z,λk c' h=>by simp at h⟩
theorem FlR.cons {c':CI} (h:CILe c c') (hr:FlR a b):FlR (c :: a) (c' :: b):=⟨by simp [hr.1],λk d hd=>by
 match k with
 | 0=>exact ⟨c,Z,by simp at hd;subst hd;exact h⟩
 | k+1=>exact hr.2 k d (by simpa using hd)⟩
theorem FlR.rfl':FlR a a:=⟨Z,λk c h=>⟨c,h,.inl Z⟩⟩
theorem CILe.s:CILe c c:=.inl Z
theorem CILe.t {e sz:Nat} {f:Bool}:CILe (.l e sz ys f) (.l e sz ys true):=.inr ⟨e,sz,ys,f,Z,Z⟩
theorem FlLe.refl:FlLe x x:=⟨Z,λi b h=>⟨b,h,FlR.rfl'⟩⟩
theorem FlLe.map {α:Type} {f g:α→List CI} {xs:List α} (h:∀x,FlR (f x) (g x)):FlLe (xs.map f) (xs.map g):=⟨by simp,λi b hb=>by
 rw [List.getElem?_map] at hb
 obtain ⟨x,hx,rfl⟩:=Option.map_eq_some_iff.1 hb
 exact ⟨f x,by rw [List.getElem?_map,hx];rfl,h x⟩⟩
theorem FlLe.set {i:Nat} (h:FlLe x y) (hr:FlR a b):FlLe (x.set i a) (y.set i b):=⟨by simp [h.1],λj c hc=>by
 by_cases e:i=j
 ·subst e
  have hl:i < y.length:=by
   grind
  rw [List.getElem?_set_self (by simpa using hl)] at hc
  cases hc
  exact ⟨a,by rw [List.getElem?_set_self (by rw [h.1];exact hl)],hr⟩
 ·rw [List.getElem?_set_ne e] at hc ⊢
  exact h.2 j c hc⟩
theorem FlLe.trans {z:List (List CI)} (h:FlLe x y) (h':FlLe y z):FlLe x z:=⟨h.1.trans h'.1,λi b hb=>by
 obtain ⟨a,ha,hr⟩:=h'.2 i b hb
 obtain ⟨a2,ha2,hr2⟩:=h.2 i a ha
 refine ⟨a2,ha2,hr2.1.trans hr.1,λk c hc=>?_⟩
 obtain ⟨d,hd,hd'⟩:=hr.2 k c hc
 obtain ⟨d2,hd2,hd2'⟩:=hr2.2 k d hd
 refine ⟨d2,hd2,?_⟩
 rcases hd2' with rfl | ⟨e,sz,ys,f,rfl,rfl⟩
 ·exact hd'
 ·rcases hd' with rfl | ⟨e2,sz2,ys2,f2,q1,rfl⟩
  ·exact .inr ⟨e,sz,ys,f,Z,Z⟩
  ·cases q1;exact .inr ⟨e,sz,ys,f,Z,Z⟩⟩
theorem FlLe.nget (h:FlLe x y) {i k:Nat} {c':CI} (hc:w8 y i k=some c'):∃c,w8 x i k=some c/\CILe c c':=by
 simp only [Go.Rf.w8] at hc ⊢
 cases hb:y[i]? with
 | none=>rw [hb] at hc;cases hc
 | some b =>
  rw [hb] at hc
  obtain ⟨a,ha,hr⟩:=h.2 i b hb
  obtain ⟨c,h1,h2⟩:=hr.2 k c' hc
  grind
section
variable {w0:Base} {T:List (Nat×AV)} {m:List (Nat×Option Row)} {nx nt:Nat}
theorem Gh.nestF {id e sz:Nat} {yss:List (List CI)} (yss':List (List CI)) (hm:mem m id=some (.nest e sz yss [])) (h:FlLe yss yss'):Gh w0 ⟨T,m,nx,nt⟩ ⟨T,(id,some (.nest e sz yss' [])) :: m,nx,nt⟩:=by
 intro ρ a w hT hC
 obtain ⟨hlt,cells,hN,hop⟩:=hC.nestC hm
 obtain ⟨n1,n2,n3,n4,n5⟩:=hN
 refine ⟨ρ,hT,hC.retell hm (row':=.nest e sz yss' []) ⟨cells,⟨by rw [← h.1];exact n1,by rw [← h.1];exact n2,n3,λcs hcs=>?_,λi k c hc=>?_⟩,λq hq=>by cases hq⟩ λp b hb=>?_⟩
 ·obtain ⟨i,hi,rfl⟩:=List.getElem_of_mem hcs
  obtain ⟨a',ha,hr⟩:=h.2 i _ (List.getElem?_eq_getElem hi)
  rw [← hr.1]
  grind
 ·obtain ⟨d,hd,hle⟩:=h.nget hc
  obtain ⟨u,hu,hr⟩:=n5 i k d hd
  refine ⟨u,hu,?_⟩
  rcases hle with rfl | ⟨e1,sz1,ys,f,rfl,rfl⟩
  ·exact hr
  ·exact ⟨OwnR.gen hr.1,hr.2⟩
 ·have hb:v8 w (ρ id) sz yss' p=some b:=hb
  show v8 w (ρ id) sz yss p=some b
  unfold v8 at hb ⊢
  cases hc:Go.Rf.w8 yss' p.1 p.2 with
  | none=>rw [hc] at hb;cases hb
  | some c =>
   rw [hc] at hb
   obtain ⟨d,hd,hle⟩:=h.nget hc
   rw [hd]
   rcases hle with rfl | ⟨e1,sz1,ys,f,rfl,rfl⟩
   ·exact hb
   ·exact hb
end
section
variable {w0:Base} {T:List (Nat×AV)} {m:List (Nat×Option Row)} {nx nt:Nat}
end
theorem Ctr.argsTo {P:Program} [Env P] {f:FuncId} {args args':List AV} {res:Res} (h:Ctr P f args res) (ha:∀w vs,RelVs w noRho 0 args' vs→RelVs w noRho 0 args vs):Ctr P f args' res:=⟨h.callable,λw vs he hv=>h.calls w vs he (ha w vs hv)⟩
theorem NReadsAt.fl {sz:Nat} {y:Value} (hf:FlLe yss yss') (h:NReadsAt w sz yss' y):NReadsAt w sz yss y:=by
 obtain ⟨A,cap,he,hc,hl,hr⟩:=h
 refine ⟨A,cap,by rw [he,hf.1],by rw [hf.1];exact hc,λcs hcs=>?_,λh0=>?_⟩
 ·obtain ⟨i,hi,rfl⟩:=List.getElem_of_mem hcs
  have hi':i < yss'.length:=by rw [← hf.1];exact hi
  obtain ⟨a,ha,hr⟩:=hf.2 i _ (List.getElem?_eq_getElem hi')
  rw [List.getElem?_eq_getElem hi] at ha
  cases ha
  rw [hr.1]
  grind
 ·obtain ⟨ad,h1,h2,h3⟩:=hr (by rw [← hf.1];exact h0)
  refine ⟨ad,h1,h2,λi k c hc=>?_⟩
  have:∃c',Go.Rf.w8 yss' i k=some c'/\CILe c c':=by
   simp only [Go.Rf.w8] at hc ⊢
   cases hb:yss[i]? with
   | none=>rw [hb] at hc;cases hc
   | some b =>
    rw [hb] at hc
    have hi:i < yss'.length:=by rw [← hf.1];exact (List.getElem?_eq_some_iff.1 hb).1
    obtain ⟨a,ha,hr⟩:=hf.2 i _ (List.getElem?_eq_getElem hi)
    rw [hb] at ha
    cases ha
    have hc:b[k]?=some c:=hc
    have hk:k < (yss'[i]).length:=by rw [← hr.1];exact (List.getElem?_eq_some_iff.1 hc).1
    obtain ⟨c2,h1,h2⟩:=hr.2 k _ (List.getElem?_eq_getElem hk)
    grind
  obtain ⟨c',hc',hle⟩:=this
  obtain ⟨u,q1,q2,q3⟩:=h3 i k c' hc'
  refine ⟨u,q1,q2,?_⟩
  rcases hle with rfl | ⟨e1,sz1,ys,f,rfl,rfl⟩
  ·exact q3
  ·exact q3
def F4 (eS eW:Nat) (x:Ifc):List CI:=[.v (.int .i64 x.ma),.l 3 1 (x.st.map n7),.l eS 3 (x.qu.sl.map e9),.l eW 2 (x.qu.wa.map e7) true]
theorem flI (x:Ifc):FlR (l8 eS eW x) (F4 eS eW x):=.cons .s (.cons .s (.cons .s (.cons .t .nil)))
theorem flM {xs:List Ifc}:FlLe (xs.map (l8 eS eW)) (xs.map (F4 eS eW)):=FlLe.map flI
theorem c7a {nx:Nat} {a b c:AV} {rest:List AV} (hf:FlLe yss yss'):∀vs,RelVs w ρ nx (.agg [a,b,c,.nst none 4 yss'] :: rest) vs→RelVs w ρ nx (.agg [a,b,c,.nst none 4 yss] :: rest) vs:=by
 intro vs h
 simp only [RelVs,RelV] at h ⊢
 obtain ⟨y,ys',rfl,⟨zs,rfl,y0,t0,rfl,h0,y1,t1,rfl,h1,y2,t2,rfl,h2,y3,t3,rfl,⟨h3,h4⟩,rfl⟩,hr⟩:=h
 exact ⟨_,_,Z,⟨_,Z,_,_,Z,h0,_,_,Z,h1,_,_,Z,h2,_,_,Z,⟨by simp,NReadsAt.fl hf h4⟩,Z⟩,hr⟩
theorem X4 {α:Type} [Inhabited α] {xs:List α} {f:α→List CI} {i:Nat} {c c':List CI} (hi:i < xs.length) (hc:c'=f (xs.getD i default)):((xs.map f).set i c).set i c'=xs.map f:=by
 subst hc
 rw [List.set_set]
 apply List.ext_getElem?
 grind
section
variable {P:Program} [Env P] {w0:Base} {ops:Array Oper} {tb:List (Nat×TyI)} {o:Oper} {rest:List Oper} {T:List (Nat×AV)} {m:List (Nat×Option Row)} {nx nt d:Nat} {Q:Exit→St→Prop} {c:Code}
theorem c07 {t sz:Nat} (ht:look t T=some (.lst sz ys)) (h:∀y,WL P w0 ops rest ⟨(t,.pin y sz ys) :: T,m,nx,nt⟩ Q):WL P w0 ops rest ⟨T,m,nx,nt⟩ Q:=by
 intro ρ a w hT hC
 have h1:=hT.tmps t _ ht
 simp only [RelV] at h1
 refine h (a.tmps.getD t undef) ρ a w ⟨λi x hi=>?_,hT.size,hT.defers⟩ hC
 by_cases e:i=t
 ·grind [n8,RelV]
 ·rw [i8 (λe'=>e e'.symm)] at hi
  exact hT.tmps i x hi
theorem a9T {w0:World} {u:Nat→Value}:∀{cs:List AV} {us:List Value} {k:Nat} {acc rs:List AV} {acc':List Value},a5T cs u k acc=some rs→RelVs w0 ρ nx cs us→(∀j y,us[j]?=some y→(∃A l c,y=.slice A l c)→u (k+j)=y)→RelVs w0 ρ nx acc.reverse acc'→RelVs w0 ρ nx rs (acc'++us)
 | [],us,k,acc,rs,acc',h,hr,_,ha=>by
  simp [a5T,B8] at h
  simp only [RelVs] at hr
  subst h;subst hr
  simpa using ha
 | x :: cs,_,k,acc,rs,acc',h,hr,hu,ha=>by
  simp only [RelVs] at hr
  obtain ⟨y,us,rfl,h1,h2⟩:=hr
  have h0:(∃A l c,y=.slice A l c)→u k=y:=λhs=>by simpa using hu 0 y Z hs
  have key:∀(a:AV),RelV w0 ρ nx a y→a5T cs u (Nat.succ k) (a :: acc)=some rs→RelVs w0 ρ nx rs (acc'++y :: us):=λa hy h'=>by
   have:=a9T h' h2 (λj y hj=>by rw [show Nat.succ k+j=k+(j+1) by omega];exact hu (j+1) y (by simpa using hj)) (acc':=acc'++[y]) (by
    rw [List.reverse_cons]
    refine RelVs.append _ ha ?_
    simp only [RelVs]
    exact ⟨_,_,Z,hy,Z⟩)
   simpa using this
  cases x<;>simp only [a5T] at h
  case lst sz ys=>exact key _ (by simp only [RelV] at h1 ⊢;obtain ⟨A,c,e,_⟩:=id h1;exact ⟨(h0 ⟨_,_,_,e⟩).symm,h1⟩) h
  case nst z sz ys=>exact key _ (by simp only [RelV] at h1 ⊢;obtain ⟨_,A,c,e,_⟩:=id h1;exact ⟨λv hv=>by cases hv;exact (h0 ⟨_,_,_,e⟩).symm,h1.2⟩) h
  all_goals exact key _ h1 h
theorem c5m (t:Nat) {cs:List AV} (ht:look t T=some (.agg cs)) {rs:(Nat→Value)→List AV} (hr:∀u,a5T cs u 0 []=some (rs u)) (h:∀u:Nat→Option Addr×Nat×Nat,W P w0 c ⟨(t,.agg (rs λj=>.slice (u j).1 (u j).2.1 (u j).2.2)) :: T,m,nx,nt⟩ Q):W P w0 c ⟨T,m,nx,nt⟩ Q:=by
 intro ρ a w hT hC
 have h1:=hT.tmps t _ ht
 simp only [RelV] at h1
 obtain ⟨us,he,h1⟩:=h1
 let p:Value→Option Addr×Nat×Nat:=λv=>match v with
  | .slice A l c=>(A,l,c)
  | _=>(none,0,0)
 let u:Nat→Option Addr×Nat×Nat:=λi=>p (us.getD i undef)
 refine h u ρ a w ⟨λi x hi=>?_,hT.size,hT.defers⟩ hC
 by_cases e:i=t
 ·subst e
  rw [n8] at hi
  cases hi
  simp only [RelV]
  have key:∀j y,us[j]?=some y→(∃A l c,y=.slice A l c)→(λj=>Value.slice (u j).1 (u j).2.1 (u j).2.2) (0+j)=y:=λj y hj hs=>by
   grind
  have:=a9T (acc':=[]) (hr λj=>.slice (u j).1 (u j).2.1 (u j).2.2) h1 key (by simp [RelVs])
  grind
 ·rw [i8 (λe'=>e e'.symm)] at hi
  exact hT.tmps i x hi
end
def a7h (x:Ifc):List CI:=[.x,.x,.x,.x]
section
variable {w0:Base} {T:List (Nat×AV)} {m:List (Nat×Option Row)} {nx nt:Nat}
theorem Gh.nestX {id e:Nat} {yss:List (List CI)} (xs:List Ifc) (hm:mem m id=some (.nest e 4 yss [])) (h:yss.length=xs.length):Gh w0 ⟨T,m,nx,nt⟩ ⟨T,(id,some (.nest e 4 (xs.map a7h) [])) :: m,nx,nt⟩:=by
 intro ρ a w hT hC
 obtain ⟨hlt,cells,hN,hop⟩:=hC.nestC hm
 obtain ⟨n1,n2,n3,n4,n5⟩:=hN
 have hx:∀{i k:Nat} {c:CI},w8 (xs.map a7h) i k=some c→c=.x/\i < xs.length/\k < 4:=λ{i k c} hc=>by
  simp only [w8,List.getElem?_map] at hc
  cases hi:xs[i]? with
  | none=>rw [hi] at hc;cases hc
  | some x =>
   grind [a7h]
 refine ⟨ρ,hT,hC.retell hm (row':=.nest e 4 (xs.map a7h) []) ⟨cells,⟨by rw [List.length_map,← h];exact n1,by rw [List.length_map,← h];exact n2,n3,λcs hcs=>?_,λi k c hc=>?_⟩,λq hq=>by cases hq⟩ λp b hb=>?_⟩
 ·obtain ⟨x,_,rfl⟩:=List.mem_map.1 hcs;rfl
 ·obtain ⟨rfl,hi,hk⟩:=hx hc
  have hi':i < cells.length:=by rw [n2,h];exact hi
  have hk':k < (cells[i]).length:=by rw [(n3 _ (List.getElem_mem hi')).1];exact hk
  exact ⟨(cells[i])[k],by simp only [w8,List.getElem?_eq_getElem hi'];exact List.getElem?_eq_getElem hk',trivial⟩
 ·have hb:v8 w (ρ id) 4 (xs.map a7h) p=some b:=hb
  exfalso
  unfold v8 at hb
  grind
end
end Go.Rf
namespace Go.Rf
open Go
variable {l:List Int} {w:ByteArray} {x:Ifc}
theorem b83 {sl:List Slot} {q:Int} (h0:0<=r9 sl q) (h:(sl.getD (r9 sl q).toNat default).s=3):edS sl q=sl.set (r9 sl q).toNat ⟨1,(sl.getD (r9 sl q).toNat default).q,(sl.getD (r9 sl q).toNat default).p⟩:=by rw [b80 h,(c6L h0).1]
theorem c2b (h:IfG x) (h0:x.st.length≠0):0<=r9 x.qu.sl (H5 x)/\P3 (x.qu.sl.getD (r9 x.qu.sl (H5 x)).toNat default)=true:=⟨a6c (h.f.st _ (a4c h0)),c03 h.f.qu.sl (h.f.st _ (a4c h0))⟩
theorem b1E (h0:x.st.length≠0):x.st.getD ((x.st.length:Int) - 1).toNat default=H5 x:=by
 rw [show ((x.st.length:Int) - 1).toNat=x.st.length - 1 by omega];rfl
theorem c5n {α β:Type} [Inhabited α] {l:List α} {f:α→β} {i:Nat} (h:i < l.length):(l.map f)[i]?=some (f (l.getD i default)):=by simp [h]
theorem b3Y {xs:List Int}:List.take (((xs.length:Int) - 1).toNat - Int.toNat 0) (List.drop (Int.toNat 0) (xs.map n7))=(xs.take (xs.length - 1)).map n7:=by
 rw [show ((xs.length:Int) - 1).toNat - Int.toNat 0=xs.length - 1 from by simp,show List.drop (Int.toNat 0) (xs.map n7)=xs.map n7 from rfl,List.map_take]
def X5 (x:Ifc):Ifc×Int×Bool:=if x.st.length=0 then (noI,0,false) else (a9S x,H5 x,true)
theorem b5R (h:x.st.length=0):X5 x=(noI,0,false):=if_pos h
theorem b5S (h:x.st.length≠0):X5 x=(a9S x,H5 x,true):=if_neg h
theorem c8A {m:Mach} {sk sq sv:Int} {c:Nat} (h:sk=3):stM m ⟨sk,sq,(c:Int),sv⟩=(⟨m.rs,m.en,m.ra,m.cp.set c (R3 (m.cp.getD c default)).1⟩,(R3 (m.cp.getD c default)).2.1,(R3 (m.cp.getD c default)).2.2):=by
 cases hk:okT (m.cp.getD c default)
 ·rw [c8w h hk,b5C hk]
 ·rw [sm3 h hk,b5B hk]
theorem c8B {m:Mach} {sk sq sv:Int} {c:Nat} (h:sk=4):stM m ⟨sk,sq,(c:Int),sv⟩=(⟨m.rs,m.en,m.ra,m.cp.set c (X5 (m.cp.getD c default)).1⟩,(X5 (m.cp.getD c default)).2.1,(X5 (m.cp.getD c default)).2.2):=by
 by_cases hk:(m.cp.getD c default).st.length=0
 ·rw [c8x h hk,b5R hk]
 ·rw [sm4 h hk,b5S hk]
theorem S5 {eS eW:Nat} {xs:List Ifc} {c:Nat} {x:Ifc} {row:List CI} (h:FlR row (F4 eS eW x)):FlLe ((xs.map (F4 eS eW)).set c row) ((xs.set c x).map (F4 eS eW)):=by rw [List.map_set];exact FlLe.refl.set h
theorem c5o {eS eW:Nat} {xs:List Ifc} {c:Nat} {row:List CI} (h:row=l8 eS eW x):(xs.map (l8 eS eW)).set c row=(xs.set c x).map (l8 eS eW):=by rw [List.map_set,h]
theorem a9U (h:IfG x) (h0:x.st.length≠0):0<=H5 x/\H5 x<=7:=by
 obtain ⟨j,h1,h2,h3⟩:=(H4 4).mp ((a4b h.f.qu.sl.len).mp (h.f.st _ (a4c h0)))
 rw [← h3]
 exact (h.f.qu.sl.ok j h1 (by rcases u5.mp h2 with g | g<;>omega)).2.1
theorem b2D (h:IfG x) (hk:okT x=true):0<=tkI x.qu.sl/\tkI x.qu.sl<=7:=b8t h.f.qu.sl (W8.mp hk).1
def S6 (m:Mach) (k:Nat) (c:Int):ByteArray×Bool :=
 if m5 c 0 ((m.cp.length:Int) - 1)=false then (⟨#[]⟩,false)
 else if k=8 then (a4Y (A5 (m.cp.getD c.toNat default).qu),true)
 else if k=9 then (a4Y (m.cp.getD c.toNat default).st,true)
 else if k=11 then (a4u (m.cp.getD c.toNat default).qu.sl,true)
 else if k=10 then (if A9 m.rs (S4 m) c.toNat=-1 then b3R else r6 (A9 m.rs (S4 m) c.toNat),true)
 else (⟨#[]⟩,false)
abbrev c5p:ByteArray:=⟨#[121,101,115]⟩
abbrev noB:ByteArray:=⟨#[110,111]⟩
abbrev okB:ByteArray:=⟨#[111,107]⟩
abbrev qmB:ByteArray:=⟨#[63]⟩
def a41 (m:Mach) (k:Nat) (l:List Int):ByteArray×Bool :=
 if k=1 then (a4Y (raN m),true) else if k=2 then (if a7g m then c5p else noB,true) else S6 m k (l.getD 0 default)
section
variable {m:Mach} {k:Nat} {c:Int} {l:List Int}
theorem b84 (h:k=1):a41 m k l=(a4Y (raN m),true):=by unfold a41;rw [if_pos h]
theorem b5T (h:k=2) (hi:a7g m=true):a41 m k l=(c5p,true):=by unfold a41;rw [if_neg J,if_pos h,if_pos hi]
theorem b5U (h:k=2) (hi:a7g m=false):a41 m k l=(noB,true):=by unfold a41;rw [if_neg J,if_pos h,if_neg (by simp [hi])]
theorem b85 (h1:k≠1) (h2:k≠2):a41 m k l=S6 m k (l.getD 0 default):=by unfold a41;rw [if_neg h1,if_neg h2]
theorem b5V (h:m5 c 0 ((m.cp.length:Int) - 1)=false):S6 m k c=(⟨#[]⟩,false):=by unfold S6;rw [if_pos h]
theorem b5W (h:m5 c 0 ((m.cp.length:Int) - 1)=true) (hk:k=8):S6 m k c=(a4Y (A5 (m.cp.getD c.toNat default).qu),true):=by unfold S6;rw [if_neg (by simp [h]),if_pos hk]
theorem b5X (h:m5 c 0 ((m.cp.length:Int) - 1)=true) (hk:k=9):S6 m k c=(a4Y (m.cp.getD c.toNat default).st,true):=by unfold S6;rw [if_neg (by simp [h]),if_neg J,if_pos hk]
theorem b3Z (h:m5 c 0 ((m.cp.length:Int) - 1)=true) (hk:k=11):S6 m k c=(a4u (m.cp.getD c.toNat default).qu.sl,true):=by unfold S6;rw [if_neg (by simp [h]),if_neg J,if_neg J,if_pos hk]
theorem b1F (h:m5 c 0 ((m.cp.length:Int) - 1)=true) (hk:k=10) (hn:A9 m.rs (S4 m) c.toNat=-1):S6 m k c=(b3R,true):=by unfold S6;rw [if_neg (by simp [h]),if_neg J,if_neg J,if_neg J,if_pos hk,if_pos hn]
theorem b1G (h:m5 c 0 ((m.cp.length:Int) - 1)=true) (hk:k=10) (hn:¬ A9 m.rs (S4 m) c.toNat=-1):S6 m k c=(r6 (A9 m.rs (S4 m) c.toNat),true):=by unfold S6;rw [if_neg (by simp [h]),if_neg J,if_neg J,if_neg J,if_pos hk,if_neg hn]
theorem c08 (h1:k≠8) (h2:k≠9) (h3:k≠11) (h4:k≠10):S6 m k c=(⟨#[]⟩,false):=by
 unfold S6
 by_cases h:m5 c 0 ((m.cp.length:Int) - 1)=false
 ·rw [if_pos h]
 ·rw [if_neg h,if_neg h1,if_neg h2,if_neg h3,if_neg h4]
end
theorem c5q {k:Nat} (h:(X3 k l).2=false):k≠0/\k≠3/\k≠4/\k≠5/\k≠6/\k≠7/\k≠12:=by
 refine ⟨?_,?_,?_,?_,?_,?_,?_⟩<;>(rintro rfl;simp [X3] at h)
theorem c09 (hl:a1e (l5 w)=l.length) (h1:¬ l5 w=1) (h2:¬ l5 w=2) (h:l5 w≠0/\l5 w≠3/\l5 w≠4/\l5 w≠5/\l5 w≠6/\l5 w≠7/\l5 w≠12):l.length=1:=by
 have:=@a4Z w
 by_cases h3:13<=l5 w
 ·rw [a40 h3] at hl;omega
 ·rw [Y4 J] at hl;omega
theorem c1a (hl:a1e (l5 w)=l.length) (h1:¬ l5 w=1) (h2:¬ l5 w=2) (h:l5 w≠0/\l5 w≠3/\l5 w≠4/\l5 w≠5/\l5 w≠6/\l5 w≠7/\l5 w≠12) (h5:¬ l5 w=8) (h6:¬ l5 w=9) (h7:¬ l5 w=11):l5 w=10:=by
 have:=@a4Z w
 by_cases h3:13<=l5 w
 ·rw [a40 h3] at hl;omega
 ·omega
theorem b86 {q:Que} (h:QF q):∀i,i < (A5 q).length→a0x ((A5 q).getD i default):=λi hi=>by have:=b2p h hi;exact ⟨by omega,by omega⟩
theorem b87 (h:IfF x):∀i,i < x.st.length→a0x (x.st.getD i default):=λi hi=>by
 have hm:x.st.getD i default∈x.st:=by rw [List.getD_eq_getElem?_getD,List.getElem?_eq_getElem hi];exact List.getElem_mem hi
 obtain ⟨j,h1,h2,h3⟩:=(H4 4).mp ((a4b h.qu.sl.len).mp (h.st _ hm))
 have hl:=h.qu.sl.len
 have:=h.qu.sl.nums (i:=j) J (by rcases u5.mp h2 with g | g<;>omega)
 exact ⟨by omega,by omega⟩
theorem b5Y {m:Mach}:(S4 m).ma.length=m.cp.length:=by unfold S4;simp
end Go.Rf
namespace Go.Rf
open Go Go.RowKit
variable {B b:Nat} {r r':RC} {w:World} {y:Value} {yss yss':List (List CI)}
theorem a7i {k:Int} {x:Rec} (h0:0<=k) (h1:k<=9223372036854775807) (h:C6 x=true):(a0q k x).size<=423:=by
 have hb:=a3T h0 h1 h
 have hs:=a1t (s:=G8 k x)
 have e1:(⟨#[10]⟩:ByteArray).size=1:=rfl
 rw [a0q,ByteArray.size_append]
 omega
theorem a9V {sz:Nat} {p:Nat×Nat} (h:FlLe yss yss') (hb:v8 w y sz yss' p=some b):v8 w y sz yss p=some b:=by
 unfold v8 at hb ⊢
 cases hc:Go.Rf.w8 yss' p.1 p.2 with
 | none=>rw [hc] at hb;cases hb
 | some c =>
  rw [hc] at hb
  obtain ⟨d,hd,hle⟩:=h.nget hc
  rw [hd]
  rcases hle with rfl | ⟨e1,sz1,ys,f,rfl,rfl⟩
  ·exact hb
  ·exact hb
theorem NestR.fl {e sz:Nat} (h:FlLe yss yss') (hn:NestR B w y e sz yss):NestR B w y e sz yss':=by
 obtain ⟨cells,⟨n1,n2,n3,n4,n5⟩,hi⟩:=hn
 refine ⟨cells,⟨by rw [← h.1];exact n1,by rw [← h.1];exact n2,n3,λcs hcs=>?_,λi k c hc=>?_⟩,λp b hb=>?_⟩
 ·obtain ⟨i,hi,rfl⟩:=List.getElem_of_mem hcs
  obtain ⟨a',ha,hr⟩:=h.2 i _ (List.getElem?_eq_getElem hi)
  rw [← hr.1]
  obtain ⟨hi2,e2⟩:=List.getElem?_eq_some_iff.1 ha
  rw [← e2]
  exact n4 _ (List.getElem_mem hi2)
 ·obtain ⟨d,hd,hle⟩:=h.nget hc
  obtain ⟨u,hu,hr⟩:=n5 i k d hd
  refine ⟨u,hu,?_⟩
  rcases hle with rfl | ⟨e1,sz1,ys,f,rfl,rfl⟩
  ·exact hr
  ·exact ⟨OwnR.gen hr.1,hr.2⟩
 ·obtain ⟨h1,h2⟩:=hi p b (a9V h hb)
  exact ⟨h1,λp' hp'=>h2 p' (a9V h hp')⟩
inductive RCLe:RC→RC→Prop
 | s {r:RC}:RCLe r r
 | n {e sz:Nat} {yss yss':List (List CI)} (h:FlLe yss yss'):RCLe (.ne e sz yss) (.ne e sz yss')
inductive RCsLe:List RC→List RC→Prop
 | nil:RCsLe [] []
 | cons {r r':RC} {a b:List RC} (h:RCLe r r') (hr:RCsLe a b):RCsLe (r :: a) (r' :: b)
theorem RCLe.rel (h:RCLe r r') (hr:RCRel B w r y):RCRel B w r' y:=by
 cases h with
 | s=>exact hr
 | n h=>exact NestR.fl h hr
theorem RCLe.foot (h:RCLe r r') (hr:a2T w r' y b):a2T w r y b:=by
 cases h with
 | s=>exact hr
 | n h =>
  simp only [a2T] at hr ⊢
  rcases hr with hr | ⟨p,hp⟩
  ·exact .inl hr
  ·exact .inr ⟨p,a9V h hp⟩
theorem RCsLe.foot:∀{r r':List RC} {ys:List Value},RCsLe r r'→Y0 w r' ys b→Y0 w r ys b
 | _,_,ys,.nil,hr=>by cases ys<;>simp [Y0] at hr
 | _,_,[],.cons h hr,g=>by simp [Y0] at g
 | _,_,y :: ys,.cons h hr,g=>by
  simp only [Y0] at g ⊢
  rcases g with g | g
  ·exact .inl (h.foot g)
  ·exact .inr (RCsLe.foot hr g)
theorem RCsLe.rel:∀{r r':List RC} {ys:List Value},RCsLe r r'→RCRels B w r ys→RCRels B w r' ys
 | _,_,ys,.nil,h=>h
 | _,_,ys,.cons h hr,g=>by
  simp only [RCRels] at g ⊢
  obtain ⟨y,ys',rfl,h1,h2,h3⟩:=g
  exact ⟨y,ys',Z,h.rel h1,RCsLe.rel hr h2,λb hb hf=>h3 b (h.foot hb) (hr.foot hf)⟩
theorem Ctr.shpTo {P:Program} [Env P] {f:FuncId} {args:List AV} {sg:Bool} {sh:List (Option Nat)} {rs rs':List RC} (h:Ctr P f args (.shp sg sh rs)) (hr:RCsLe rs rs'):Ctr P f args (.shp sg sh rs') :=
 ⟨h.callable,λw vs he hv=>(h.calls w vs he hv).mono λe w' ⟨v,h1,h2,h3⟩=>⟨v,h1,by
  simp only [ResRel] at h2 ⊢
  obtain ⟨ys,vs,g1,g2,g3⟩:=h2
  exact ⟨ys,vs,hr.rel g1,g2,g3⟩,h3⟩⟩
end Go.Rf
namespace Go.Rf
open Go
variable {i:Nat} {m m':Mach} {r x:ByteArray}
theorem b88 {w:World} {ρ:Nat→Value} {nx:Nat} {a b c d e f:AV} {yss yss':List (List CI)} {rest:List AV} (hf:FlLe yss yss'):∀vs,RelVs w ρ nx (.agg [a,b,c,.nst none 4 yss',d,e,f] :: rest) vs→RelVs w ρ nx (.agg [a,b,c,.nst none 4 yss,d,e,f] :: rest) vs:=by
 intro vs h
 simp only [RelVs,RelV] at h ⊢
 obtain ⟨y,ys',rfl,⟨zs,rfl,y0,t0,rfl,h0,y1,t1,rfl,h1,y2,t2,rfl,h2,y3,t3,rfl,⟨h3,h4⟩,y4,t4,rfl,h5,y5,t5,rfl,h6,y6,t6,rfl,h7,rfl⟩,hr⟩:=h
 exact ⟨_,_,Z,⟨_,Z,_,_,Z,h0,_,_,Z,h1,_,_,Z,h2,_,_,Z,⟨by simp,NReadsAt.fl hf h4⟩,_,_,Z,h5,_,_,Z,h6,_,_,Z,h7,Z⟩,hr⟩
def wrd (s:ByteArray) (i:Nat):ByteArray:=(g8 s 32).getD i default
def wn (s:ByteArray):Nat:=(g8 s 32).length
def y9 (s:ByteArray):Nat→List Int
 | 0=>[]
 | i+1=>y9 s i++[nmN (wrd s (i+1))]
theorem b1H {s:ByteArray}:y9 s (i+1)=y9 s i++[nmN (wrd s (i+1))]:=rfl
theorem a3r {s:ByteArray}:∀{i:Nat},(y9 s i).length=i
 | 0=>rfl
 | i+1=>by rw [b1H,List.length_append,a3r];rfl
theorem a9W {s:ByteArray} {b:Int}:∀i,∀x∈(spO s b i).1,x.size<=s.size
 | 0=>λx hx=>by cases hx
 | i+1=>λx hx=>by
  by_cases hb:p6 s i=b
  ·rw [V8 hb] at hx
   rcases List.mem_append.1 hx with h | h
   ·exact a9W i x h
   ·rw [List.mem_singleton.1 h];exact a61
  ·rw [a1u hb] at hx
   exact a9W i x hx
theorem b89 {s:ByteArray} {i:Nat}:(wrd s i).size<=s.size:=by
 unfold wrd
 rw [List.getD_eq_getElem?_getD]
 cases h:(g8 s 32)[i]? with
 | none=>exact Nat.zero_le _
 | some x =>
  rcases List.mem_append.1 (List.mem_of_getElem? h) with h | h
  ·exact a9W _ x h
  ·show x.size<=_
   rw [List.mem_singleton.1 h];exact a61
def B4 (s:ByteArray):Bool:=a0H (wn s - 1) (λj=>nmK (wrd s (j+1)))
def x4 (s:ByteArray):List Int:=y9 s (wn s - 1)
theorem b63 {s:ByteArray}:(x4 s).length=wn s - 1:=a3r
theorem b9a {s:ByteArray} (h:nmK (wrd s (i+1))=false) (hi:i < wn s - 1):B4 s=false:=a0n h hi
theorem b9b {s:ByteArray} (h:∀j,j < i→nmK (wrd s (j+1))=true) (hi:wn s - 1<=i):B4 s=true:=a15 h hi
theorem c5r {s:ByteArray} (h:wn s=1):s=wrd s 0:=by
 unfold wn at h
 cases hs:l7 s 32 with
 | false=>unfold wrd;rw [a9p hs];rfl
 | true =>
  rw [b3j hs,List.length_cons] at h
  have:=(N1 (s:=q9 s 32) (b:=32)).1
  omega
theorem a42 {m:Mach} {s:MStep} (h:(smT m s).2.2=true):(smT m s).2.1≠-1↔(s.k=3∨s.k=4):=by
 unfold smT at h ⊢
 split at h
 ·next hk =>
  rw [if_pos hk]
  simp only [b62,Bool.and_eq_true] at hk
  obtain ⟨⟨h1,h2⟩,h3⟩:=hk
  have hM:=(maF h1).g
  show (stM m s).2.1≠-1↔_
  unfold stM at h3 ⊢
  by_cases k1:s.k=1
  ·rw [if_pos k1];simp;omega
  rw [if_neg k1] at h3 ⊢
  by_cases k2:s.k=2
  ·rw [if_pos k2];simp;omega
  rw [if_neg k2] at h3 ⊢
  have hin:(s.k=3∨s.k=4)→s.c.toNat < m.cp.length:=λhk=>by
   unfold H1 at h2
   rcases hk with hk | hk<;>(simp [hk,m5] at h2;omega)
  by_cases k3:s.k=3
  ·rw [if_pos k3] at h3 ⊢
   have hI:=hM.ok _ (hin (.inl k3))
   split at h3
   ·next ho =>
    rw [if_pos ho]
    have:=b2D hI ho
    exact ⟨λ_=>.inl k3,λ_=>by show tkI _≠-1;omega⟩
   ·cases h3
  rw [if_neg k3] at h3 ⊢
  by_cases k4:s.k=4
  ·rw [if_pos k4] at h3 ⊢
   have hI:=hM.ok _ (hin (.inr k4))
   split at h3
   ·cases h3
   ·next ho =>
    rw [if_neg ho]
    have:=a9U hI ho
    exact ⟨λ_=>.inr k4,λ_=>by show H5 _≠-1;omega⟩
  rw [if_neg k4]
  by_cases k5:s.k=5
  ·rw [if_pos k5];simp;omega
  ·rw [if_neg k5];simp;omega
 ·cases h
theorem a3s {m:Mach} {s:MStep}:-1<=(smT m s).2.1/\(smT m s).2.1<=7:=by
 unfold smT
 split
 ·next hk =>
  simp only [b62,Bool.and_eq_true] at hk
  obtain ⟨⟨h1,h2⟩,h3⟩:=hk
  have hM:=(maF h1).g
  show -1<=(stM m s).2.1/\(stM m s).2.1<=7
  have hin:(s.k=3∨s.k=4)→s.c.toNat < m.cp.length:=λhk=>by
   unfold H1 at h2
   rcases hk with hk | hk<;>(simp [hk,m5] at h2;omega)
  unfold stM at h3 ⊢
  by_cases k1:s.k=1
  ·rw [if_pos k1];exact ⟨by dsimp only;omega,by dsimp only;omega⟩
  rw [if_neg k1] at h3 ⊢
  by_cases k2:s.k=2
  ·rw [if_pos k2];exact ⟨by dsimp only;omega,by dsimp only;omega⟩
  rw [if_neg k2] at h3 ⊢
  by_cases k3:s.k=3
  ·rw [if_pos k3] at h3 ⊢
   have hI:=hM.ok _ (hin (.inl k3))
   split at h3
   ·next ho =>
    rw [if_pos ho]
    have:=b2D hI ho
    exact ⟨by show -1<=tkI _;omega,by show tkI _<=7;omega⟩
   ·cases h3
  rw [if_neg k3] at h3 ⊢
  by_cases k4:s.k=4
  ·rw [if_pos k4] at h3 ⊢
   have hI:=hM.ok _ (hin (.inr k4))
   split at h3
   ·cases h3
   ·next ho =>
    rw [if_neg ho]
    have:=a9U hI ho
    exact ⟨by show -1<=H5 _;omega,by show H5 _<=7;omega⟩
  rw [if_neg k4]
  by_cases k5:s.k=5
  ·rw [if_pos k5];exact ⟨by dsimp only;omega,by dsimp only;omega⟩
  ·rw [if_neg k5];exact ⟨by dsimp only;omega,by dsimp only;omega⟩
 ·exact ⟨by dsimp only;omega,by dsimp only;omega⟩
def b30 (m:Mach) (s:MStep):Mach×ByteArray×Bool:=if (smT m s).2.2 then ((smT m s).1,if (smT m s).2.1=-1 then okB else r6 (smT m s).2.1,true) else (m,⟨#[]⟩,false)
def a43 (m:Mach) (s:ByteArray):Mach×ByteArray×Bool :=
 if a1e (l5 (wrd s 0))=(wn s:Int) - 1 then
  if B4 s then
   if (X3 (l5 (wrd s 0)) (x4 s)).2 then b30 m (X3 (l5 (wrd s 0)) (x4 s)).1
   else (m,a41 m (l5 (wrd s 0)) (x4 s))
  else (m,⟨#[]⟩,false)
 else (m,⟨#[]⟩,false)
def C0 (m:Mach) (s:ByteArray):Mach×ByteArray:=((a43 m s).1,if (a43 m s).2.2 then (a43 m s).2.1 else qmB)
section
variable {m:Mach} {s:ByteArray}
theorem b9c (h:¬ a1e (l5 (wrd s 0))=(wn s:Int) - 1):a43 m s=(m,⟨#[]⟩,false):=by unfold a43;rw [if_neg h]
theorem b9d (h:B4 s=false):a43 m s=(m,⟨#[]⟩,false):=by unfold a43;split<;>simp [h]
theorem b9e (h1:a1e (l5 (wrd s 0))=(wn s:Int) - 1) (h2:B4 s=true) (h3:(X3 (l5 (wrd s 0)) (x4 s)).2=false):a43 m s=(m,a41 m (l5 (wrd s 0)) (x4 s)):=by unfold a43;rw [if_pos h1,if_pos h2,if_neg (by simp [h3])]
theorem b9f (h1:a1e (l5 (wrd s 0))=(wn s:Int) - 1) (h2:B4 s=true) (h3:(X3 (l5 (wrd s 0)) (x4 s)).2=true):a43 m s=b30 m (X3 (l5 (wrd s 0)) (x4 s)).1:=by unfold a43;rw [if_pos h1,if_pos h2,if_pos h3]
end
theorem a44 {s:ByteArray} (h:a43 m s=(m',x,false)):C0 m s=(m',qmB):=by unfold C0;rw [h];rfl
theorem b2E {s:ByteArray} (h:a43 m s=(m',x,true)):C0 m s=(m',x):=by unfold C0;rw [h];rfl
abbrev c7b:ByteArray:=⟨#[98,97,100]⟩
abbrev c2c:ByteArray:=⟨#[102,117,108,108]⟩
abbrev c2d:ByteArray:=⟨#[108,111,110,103]⟩
def b31 (r:ByteArray):ByteArray:=if r.size > 200 then c2d else r
theorem c1b {α β:Type} [Inhabited α] {l:List α} {f:α→β} {i:Nat} (h:i+1 < l.length):(l.map f)[1+((i:Int)).toNat]?=some (f (l.getD (i+1) default)):=by rw [show 1+((i:Int)).toNat=i+1 by omega];simp [h]
theorem b64 {α β:Type} [Inhabited α] {l:List α} {f:α→β} {i:Nat} (h:i+1 < l.length):(l.map f)[((i:Int)+1).toNat]?=some (f (l.getD (i+1) default)):=by rw [show ((i:Int)+1).toNat=i+1 by omega];simp [h]
theorem F5 {c:ByteArray} (h:r.size<=200):(⟨c,r⟩:Rec).r.size<=9223372036854775807:=Nat.le_trans h (by decide)
theorem H6 {a:Array UInt8} (h:a.size<=200):(⟨a⟩:ByteArray).size<=9223372036854775807:=by show a.size<=_;omega
theorem b2F (h:(r.size:Int) > 200):b31 r=c2d:=by unfold b31;rw [if_pos J]
theorem a1f (h:¬ (r.size:Int) > 200):b31 r=r:=by unfold b31;rw [if_neg J]
def exC (m:Mach) (x:Lg) (s:ByteArray):Mach×Lg×ByteArray :=
 if a7c m x=false then (m,x,noB)
 else if C6 ⟨s,⟨#[]⟩⟩=false then (m,x,c7b)
 else if x.n=60 then (m,x,c2c)
 else ((C0 m s).1,apE x ⟨s,b31 (C0 m s).2⟩,b31 (C0 m s).2)
section
variable {m:Mach} {x:Lg} {s:ByteArray}
theorem c2e (h:a7c m x=false):exC m x s=(m,x,noB):=by unfold exC;rw [if_pos h]
theorem c2f (h:a7c m x=true) (h2:C6 ⟨s,⟨#[]⟩⟩=false):exC m x s=(m,x,c7b):=by unfold exC;rw [if_neg (by simp [h]),if_pos h2]
theorem c2g (h:a7c m x=true) (h2:C6 ⟨s,⟨#[]⟩⟩=true) (h3:x.n=60):exC m x s=(m,x,c2c):=by unfold exC;rw [if_neg (by simp [h]),if_neg (by simp [h2]),if_pos h3]
theorem H7 (h:a7c m x=true) (h2:C6 ⟨s,⟨#[]⟩⟩=true) (h3:¬ x.n=60) {m':Mach} {r:ByteArray} (h4:C0 m s=(m',r)):exC m x s=(m',apE x ⟨s,b31 r⟩,b31 r):=by unfold exC;rw [if_neg (by simp [h]),if_neg (by simp [h2]),if_neg h3,h4]
end
end Go.Rf
namespace Go.Rf
open Go Go.RowKit
def pkR:List AV→AV
 | [x]=>x
 | xs=>.tup xs
theorem b9g {w0:World} {ρ:Nat→Value} {nx:Nat}:∀{avs:List AV} {ys:List Value},RelVs w0 ρ nx avs ys→RelV w0 ρ nx (pkR avs) (if h:ys.toArray.size=1 then ys.toArray[0] else .tuple ys.toArray)
 | [],ys,h=>by simp only [RelVs] at h;subst h;exact ⟨[],Z,Z⟩
 | [x],ys,h=>by
  simp only [RelVs] at h
  obtain ⟨y,t,rfl,h1,rfl⟩:=h
  exact h1
 | x :: y :: r,ys,h=>by
  have h0:=h
  simp only [RelVs] at h
  obtain ⟨a,t,rfl,h1,b,t2,rfl,h2,h3⟩:=h
  rw [dif_neg (by simp)]
  exact ⟨_,Z,h0⟩
def c8C (tb:List (Nat×TyI)) (l:List ResultVar) (K:AV→List (Nat×Option Row)→Nat→Prop) (e:Exit) (S:St):Prop:=(e=.normal∨e=.ret)/\∃xs,P7 tb S l []=some xs/\K (pkR xs) S.m S.nx
section
variable {P:Program} [Env P] {w0:Base} {ops:Array Oper} {tb:List (Nat×TyI)} {o:Oper} {rest:List Oper} {T:List (Nat×AV)} {m:List (Nat×Option Row)} {nx nt d:Nat} {Q:Exit→St→Prop}
theorem a0Z [EnvAt P w0] (G:Good P tb) {f:FuncId} {fn:Func} {c:Code} {as:Array Operand} {ts:Array TypeId} {args:List AV} {l:List ResultVar} {n:Nat} (hd:o.dst=some d) (hlt:Nat.blt d nt=true) (ho:o.op=.call { callee:=.value (.func f),args:=as,argTypes:=ts })
 (hf:P.funcs[f]?=some fn) (hb:fn.body=some c) (hname:(fn.name == "runtime.NumGoroutine")=false) (hl:fn.results=l.toArray) (hn:fn.ntmps=n) (hlen:Nat.ble args.length n=true) (ha:evL T as.toList []=some args)
 (h:∀b:Base,[EnvAt P b]→b.n0=nx→W P b c ⟨a4L args 0,m,nx,n⟩ (c8C tb l (λr m1 n1=>Nat.ble nx n1=true/\WL P w0 ops rest ⟨(d,r) :: T,m1,n1,nt⟩ Q))):WX P w0 ops o rest ⟨T,m,nx,nt⟩ Q:=by
 rename_i hw0
 intro ρ a w hT hC
 obtain ⟨bs,h1,h2⟩:=a5E hT ha
 simp at h1
 subst h1
 have hcal:Callable P f:=⟨fn,hf,hname,by rw [hb];rfl⟩
 have hrun:(execOp a.eval o).run P w=.ok (.enter f (as.toList.map a.eval).toArray) w:=by
  simp [execOp,ho,resolve,Deferred.ofValue,invoke,Act.eval,V4 hcal,← Array.toList_map]
 unfold Oper.wp
 rw [hrun,Oper.upon_enter]
 let b:Base:=⟨w0.w,nx,ρ,w,w0.keep,λc hc=>Nat.lt_of_lt_of_le (w0.kb c hc) hC.kept.1,w0.E,w0.hE⟩
 have hen:EnvAt P b:=⟨hw0.e⟩
 have hCb:RelC b ρ m nx w:=⟨hC.rows,hC.apart,hC.below,⟨Nat.le_refl _,λ_ _=>Z⟩,⟨Nat.le_refl _,λ_ _=>Z,hC.kept.2.2⟩,hC.inner⟩
 have hlen':args.length<=n:=Nat.le_of_ble_eq_true hlen
 have hTb:=a2a (b:=b) (fn:=fn) (show RelVs b.w ρ nx args (as.toList.map a.eval) from h2) hlen' hn
 have hcalls:Calls P f (as.toList.map a.eval).toArray w (λen w'=>∃v ρ' r m1 n1,en=.returned v/\(∀i,i < nx→ρ' i=ρ i)/\RelV w0.w ρ' n1 r v/\RelC b ρ' m1 n1 w'/\Nat.ble nx n1=true/\WL P w0 ops rest ⟨(d,r) :: T,m1,n1,nt⟩ Q):=by
  refine calls_of_wp hf hb ?_
  refine wp_mono (h b Z ρ _ w hTb hCb) ?_
  have fin:∀(ρ':Nat→Value) (S:St) (a':Act) (w':World),(∃xs,P7 tb S l []=some xs/\Nat.ble nx S.nx=true/\WL P w0 ops rest ⟨(d,pkR xs) :: T,S.m,S.nx,nt⟩ Q)→RelT b ρ' S.T S.nx S.nt a'→RelC b ρ' S.m S.nx w' →
   a'.defers=[]/\∃v,(results fn a'.tmps).run P w'=.ok v w'/\∃u ρ' r m1 n1,Ending.returned v=.returned u/\(∀i,i < nx→ρ' i=ρ i)/\RelV w0.w ρ' n1 r u/\RelC b ρ' m1 n1 w'/\Nat.ble nx n1=true/\WL P w0 ops rest ⟨(d,r) :: T,m1,n1,nt⟩ Q:=by
   intro ρ' S a' w' ⟨xs,e1,e2,e3⟩ hT' hC'
   obtain ⟨ys,avs,g1,g2,g3⟩:=T4 G hT' hC' e1
   simp at g1
   subst g1
   exact ⟨hT'.defers,_,O1 hl g3,_,ρ',pkR xs,S.m,S.nx,Z,λi hi=>hC'.pin.2 i hi,b9g g2,hC',e2,e3⟩
  rintro e a' w' ⟨ρ',S,⟨hq,e1⟩,hT',hC'⟩
  rcases hq with rfl | rfl
  ·exact fin ρ' S a' w' e1 hT' hC'
  ·exact fin ρ' S a' w' e1 hT' hC'
 refine hcalls.mono λex w' ⟨v,ρ',r,m1,n1,he,q1,q2,q3,q4,hk⟩=>?_
 subst he
 have hn1:=Nat.le_of_ble_eq_true q4
 refine hk ρ' _ w' ?_ ⟨q3.rows,q3.apart,q3.below,⟨Nat.le_trans hC.pin.1 hn1,λi hi=>by rw [q1 i (Nat.lt_of_lt_of_le hi hC.pin.1)];exact hC.pin.2 i hi⟩,⟨Nat.le_trans hC.kept.1 q3.kept.1,λc hc=>(q3.kept.2.1 c hc).trans (hC.kept.2.1 c hc),q3.kept.2.2⟩,q3.inner⟩
 rw [hd]
 have hT':RelT w0 ρ' T n1 nt a:=⟨λt x hx=>(hT.tmps t x hx).mono hn1 q1,hT.size,hT.defers⟩
 exact hT'.put hlt q2
end
end Go.Rf
namespace Go.Rf
open Go
def a3t (m:Mach) (k:Nat) (c:Int):ByteArray:=if (S6 m k c).2 then (S6 m k c).1 else qmB
def H8 (m:Mach) (s:MStep):Mach×ByteArray:=if (smT m s).2.2 then ((smT m s).1,if (smT m s).2.1=-1 then okB else r6 (smT m s).2.1) else (m,qmB)
section
variable {m:Mach} {k:Nat} {c:Int} {s:ByteArray}
theorem c5s (h:m5 c 0 ((m.cp.length:Int) - 1)=false):a3t m k c=qmB:=by unfold a3t;rw [b5V h];rfl
theorem c5t (h:m5 c 0 ((m.cp.length:Int) - 1)=true) (hk:k=8):a3t m k c=a4Y (A5 (m.cp.getD c.toNat default).qu):=by unfold a3t;rw [b5W h hk];rfl
theorem c5u (h:m5 c 0 ((m.cp.length:Int) - 1)=true) (hk:k=9):a3t m k c=a4Y (m.cp.getD c.toNat default).st:=by unfold a3t;rw [b5X h hk];rfl
theorem c1c (h:m5 c 0 ((m.cp.length:Int) - 1)=true) (hk:k=11):a3t m k c=a4u (m.cp.getD c.toNat default).qu.sl:=by unfold a3t;rw [b3Z h hk];rfl
theorem b9h (h:m5 c 0 ((m.cp.length:Int) - 1)=true) (hk:k=10) (hn:A9 m.rs (S4 m) c.toNat < 0):a3t m k c=b3R:=by
 have:=@a9B m.rs (S4 m) c.toNat
 unfold a3t;rw [b1F h hk J];rfl
theorem b9i (h:m5 c 0 ((m.cp.length:Int) - 1)=true) (hk:k=10) (hn:¬ A9 m.rs (S4 m) c.toNat < 0):a3t m k c=r6 (A9 m.rs (S4 m) c.toNat):=by unfold a3t;rw [b1G h hk J];rfl
theorem b9j (h1:k≠8) (h2:k≠9) (h3:k≠11) (h4:k≠10):a3t m k c=qmB:=by unfold a3t;rw [c08 h1 h2 h3 h4];rfl
theorem c5v (h:B4 s=false):C0 m s=(m,qmB):=a44 (b9d h)
theorem b2G (h:¬ a1e (l5 (wrd s 0))=(wn s:Int) - 1):C0 m s=(m,qmB):=a44 (b9c h)
theorem a2q (h1:a1e (l5 (wrd s 0))=(wn s:Int) - 1) (h2:B4 s=true) (h3:(X3 (l5 (wrd s 0)) (x4 s)).2=true):C0 m s=H8 m (X3 (l5 (wrd s 0)) (x4 s)).1:=by
 have h:=b9f (m:=m) h1 h2 h3
 unfold b30 at h
 unfold H8
 split at h
 ·next hk=>rw [if_pos hk];exact b2E h
 ·next hk=>rw [if_neg hk];exact a44 h
theorem b2H (h1:a1e (l5 (wrd s 0))=(wn s:Int) - 1) (h2:B4 s=true) (h3:(X3 (l5 (wrd s 0)) (x4 s)).2=false):C0 m s=(m,if (a41 m (l5 (wrd s 0)) (x4 s)).2 then (a41 m (l5 (wrd s 0)) (x4 s)).1 else qmB):=by
 unfold C0
 rw [b9e h1 h2 h3]
theorem c7c (h:wn s=1) (h2:B4 s=true) (hk:l5 (wrd s 0)=0):C0 m s=H8 m ⟨2,0,0,0⟩:=by
 rw [a2q (by rw [a3q J];omega) h2 (by rw [hk];rfl),hk];rfl
theorem c7d (h:wn s=1) (h2:B4 s=true) (hk:l5 (wrd s 0)=1):C0 m s=(m,a4Y (raN m)):=by
 rw [b2H (by rw [a3q J];omega) h2 (by rw [hk];rfl),b84 hk];rfl
theorem c5w (h:wn s=1) (h2:B4 s=true) (hk:l5 (wrd s 0)=2) (hi:a7g m=true):C0 m s=(m,c5p):=by
 rw [b2H (by rw [a3q J];omega) h2 (by rw [hk];rfl),b5T hk hi];rfl
theorem c5x (h:wn s=1) (h2:B4 s=true) (hk:l5 (wrd s 0)=2) (hi:a7g m=false):C0 m s=(m,noB):=by
 rw [b2H (by rw [a3q J];omega) h2 (by rw [hk];rfl),b5U hk hi];rfl
theorem c7e (h:wn s=1) (h0:¬ l5 (wrd s 0)=0) (h1:¬ l5 (wrd s 0)=1) (h3:¬ l5 (wrd s 0)=2):C0 m s=(m,qmB):=by
 have hl:=@a4Z (wrd s 0)
 refine b2G ?_
 by_cases g:l5 (wrd s 0)<=11
 ·rw [Y4 J];omega
 ·by_cases g2:l5 (wrd s 0)=12
  ·rw [a7f g2];omega
  ·rw [a40 J];omega
theorem c7f (h:wn s=2) (h2:B4 s=true) (hk:l5 (wrd s 0)=3):C0 m s=H8 m ⟨1,(x4 s).getD 0 default,0,0⟩:=by
 rw [a2q (by rw [Y4 J];omega) h2 (by rw [hk];rfl),hk];rfl
theorem c7g (h:wn s=2) (h2:B4 s=true) (hk:l5 (wrd s 0)=4):C0 m s=H8 m ⟨6,(x4 s).getD 0 default,0,1⟩:=by
 rw [a2q (by rw [Y4 J];omega) h2 (by rw [hk];rfl),hk];rfl
theorem c7h (h:wn s=2) (h2:B4 s=true) (hk:l5 (wrd s 0)=5):C0 m s=H8 m ⟨6,(x4 s).getD 0 default,0,0⟩:=by
 rw [a2q (by rw [Y4 J];omega) h2 (by rw [hk];rfl),hk];rfl
theorem c7i (h:wn s=2) (h2:B4 s=true) (hk:l5 (wrd s 0)=6):C0 m s=H8 m ⟨3,0,(x4 s).getD 0 default,0⟩:=by
 rw [a2q (by rw [Y4 J];omega) h2 (by rw [hk];rfl),hk];rfl
theorem c7j (h:wn s=2) (h2:B4 s=true) (hk:l5 (wrd s 0)=7):C0 m s=H8 m ⟨4,0,(x4 s).getD 0 default,0⟩:=by
 rw [a2q (by rw [Y4 J];omega) h2 (by rw [hk];rfl),hk];rfl
theorem c7k (h:wn s=2) (h2:B4 s=true) (h3:¬ l5 (wrd s 0)=3) (h4:¬ l5 (wrd s 0)=4) (h5:¬ l5 (wrd s 0)=5) (h6:¬ l5 (wrd s 0)=6) (h7:¬ l5 (wrd s 0)=7):C0 m s=(m,a3t m (l5 (wrd s 0)) ((x4 s).getD 0 default)):=by
 have hl:=@a4Z (wrd s 0)
 by_cases g:8<=l5 (wrd s 0)/\l5 (wrd s 0)<=11
 ·rw [b2H (by rw [Y4 J];omega) h2 (by unfold X3;rw [if_neg J,if_neg J,if_neg J,if_neg J,if_neg J,if_neg J,if_neg J]),b85 J J]
  rfl
 ·rw [b9j J J J J]
  refine b2G ?_
  by_cases g1:l5 (wrd s 0)<=2
  ·rw [a3q g1];omega
  ·by_cases g2:l5 (wrd s 0)=12
   ·rw [a7f g2];omega
   ·rw [a40 J];omega
theorem c5y (h:wn s=3) (h2:B4 s=true) (hk:l5 (wrd s 0)=12):C0 m s=H8 m ⟨5,0,(x4 s).getD 0 default,(x4 s).getD 1 default⟩:=by
 rw [a2q (by rw [a7f hk];omega) h2 (by rw [hk];rfl),hk];rfl
theorem c7l (h:wn s=3) (hk:¬ l5 (wrd s 0)=12):C0 m s=(m,qmB):=by
 refine b2G ?_
 have hl:=@a4Z (wrd s 0)
 by_cases g1:l5 (wrd s 0)<=2
 ·rw [a3q g1];omega
 ·by_cases g:l5 (wrd s 0)<=11
  ·rw [Y4 J];omega
  ·rw [a40 J];omega
theorem ct3 (h:4<=wn s):C0 m s=(m,qmB):=by
 refine b2G ?_
 have hl:=@a4Z (wrd s 0)
 by_cases g1:l5 (wrd s 0)<=2
 ·rw [a3q g1];omega
 ·by_cases g:l5 (wrd s 0)<=11
  ·rw [Y4 J];omega
  ·by_cases g2:l5 (wrd s 0)=12
   ·rw [a7f g2];omega
   ·rw [a40 J];omega
theorem O8 {t:MStep} (h:(smT m t).2.2=true):SmallM (smT m t).1:=by
 unfold smT at h ⊢
 split at h
 ·next hk =>
  rw [if_pos hk]
  simp only [b62,Bool.and_eq_true] at hk
  obtain ⟨⟨h1,h2⟩,h3⟩:=hk
  exact (c66 (maF h1).g h2 h3).1.small
 ·cases h
end
end Go.Rf
namespace Go.Rf
open Go Go.RowKit
end Go.Rf
namespace Go.Rf
open Go
theorem c7m {x:Lg} {r:Rec} (hx:x.d.size+x.p.size<=1048576):(apE x r).d.size+(apE x r).p.size<=1048576:=by
 unfold apE
 split
 ·next h =>
  simp only [Bool.and_eq_true,decide_eq_true_eq] at h
  obtain ⟨h1,h2⟩:=h
  have h3:T8 x=true/\C6 r=true:=by unfold apG at h1;simpa using h1
  have ho:=a8V h3.1
  have hl:=a7i (k:=x.n) (x:=r) J J h3.2
  show x.d.size+(x.p++a0q x.n r).size<=_
  rw [ByteArray.size_append]
  omega
 ·exact hx
theorem b65 {m:Mach} {s:ByteArray} (h:SmallM m):SmallM (C0 m s).1:=by
 show SmallM (a43 m s).1
 unfold a43
 split
 ·split
  ·split
   ·unfold b30
    split
    ·next hk=>exact O8 hk
    ·exact h
   ·exact h
  ·exact h
 ·exact h
theorem b66 {m:Mach} {x:Lg} {s:ByteArray} (h:SmallM m) (hx:x.d.size+x.p.size<=1048576):SmallM (exC m x s).1/\(exC m x s).2.1.d.size+(exC m x s).2.1.p.size<=1048576:=by
 unfold exC
 split
 ·exact ⟨h,hx⟩
 ·split
  ·exact ⟨h,hx⟩
  ·split
   ·exact ⟨h,hx⟩
   ·exact ⟨b65 h,c7m hx⟩
section
variable {rs:List Route} {c:Int} {l:Lg} {i:Nat}
end
section
variable {m:Mach} {y:Lg} {t:ByteArray}
end
end Go.Rf
namespace Go.Rf
end Go.Rf
namespace Go.Rf
open Go Go.RowKit
theorem b4X {k:Int} {xs:List Ifc} {eS eW:Nat} {i:Nat} (h:i < xs.length):((a4d k xs i).map (F4 eS eW))[i]?=some (F4 eS eW (xs.getD i default)):=by
 rw [List.getElem?_map,b2j (Nat.le_refl _),List.getElem?_eq_getElem h]
 simp [h]
end Go.Rf
namespace Go.Rf
theorem rfb :
 ((∀(p:Prop) [Decidable p],(decide p=true)=p)/\(∀(p:Prop) [Decidable p],(decide p=false)↔¬p) /\
 (∀{α:Type} [BEq α] [LawfulBEq α] {a b:α},a==b↔a=b)/\(∀{α:Type} [BEq α] [LawfulBEq α] {a b:α},a != b↔a≠b)/\(∀{α:Type} (a b:α),(a≠b)=¬(a=b))) /\
 ((∀b:Bool,((!b)=true)=(b=false))/\(∀b:Bool,((!b)=false)=(b=true)) /\
 (∀{α:Type} [BEq α] [LawfulBEq α] {a b:α},(a==b)=false↔a≠b)/\(∀{α:Type} [BEq α] [LawfulBEq α] {a b:α},(a != b)=false↔a=b) /\
 (∀b:Bool,(¬(b=true))=(b=false))/\(∀b:Bool,(¬(b=false))=(b=true))) /\
 ((∀{a b:Int},¬(a < b)↔b<=a)/\(∀{a b:Int},¬(a<=b)↔b < a)/\(∀{a b:Int},a > b↔b < a)/\(∀{a b:Int},a≥b↔b<=a)) /\
 ((∀a b:Bool,((a && b)=true)=(a=true/\b=true))/\(∀{a b:Bool},(a && b)=false↔a=false∨b=false)/\(∀a b:Bool,((a || b)=true)=(a=true∨b=true))/\(∀{a b:Bool},(a || b)=false↔a=false/\b=false)) :=
 ⟨⟨λp _=>decide_eq_true_eq,λp _=>decide_eq_false_iff_not,beq_iff_eq,bne_iff_ne,λa b=>ne_eq a b⟩,⟨Bool.not_eq_true',Bool.not_eq_false',beq_eq_false_iff_ne,bne_eq_false_iff_eq,Bool.not_eq_true,Bool.not_eq_false⟩,⟨Int.not_lt,Int.not_le,gt_iff_lt,ge_iff_le⟩,⟨Bool.and_eq_true,Bool.and_eq_false_iff,Bool.or_eq_true,Bool.or_eq_false_iff⟩⟩
end Go.Rf
namespace Go.Rf
open Go Go.RowKit
section
variable {P:Program} [Env P] {w0:Base} {ops:Array Oper} {tb:List (Nat×TyI)} {o:Oper} {T:List (Nat×AV)} {m m0:List (Nat×Option Row)} {nx nt d fuel:Nat} {Q:Exit→St→Prop} {S:St} {A K:St→Prop} {c:Code} {listed:Array Bool} {b:Base} {r:AV} {id:Nat}
theorem b32 {t:TypeId} {x:Operand} {k off ft id a0:Nat} {fs:List (Nat×Nat)} {zs:List Value} (G:Good P tb) (ho:o.op=.fieldAddr t x k) (hx:ev T x=some (.ptr id a0)) (ht:look t tb=some (.struct fs zs)) (hk:nth fs k=some (off,ft)):QStep P o T m nx nt (.ptr id (Nat.add a0 off)):=m9 G ho ht hk hx
theorem b4Y {t:TypeId} {x:Operand} {i:TyI} {id off:Nat} {cs:List AV} (G:Good P tb) (ho:o.op=.load t x) (hx:ev T x=some (.ptr id off)) (hm:mem m id=some (.box cs)) (hr:nth cs off=some r) (ht:look t tb=some i) (hf:Z0 i=true) (hd:b1R r=true):QStep P o T m nx nt r:=o7 G ho ht hf hx hm hr hd
theorem c7n {t:TypeId} {x:Operand} {i:TyI} {id off sz:Nat} {cs:List AV} {z:Value} {ys:List (List Value)} (G:Good P tb) (ho:o.op=.load t x) (hx:ev T x=some (.ptr id off)) (hm:mem m id=some (.box cs)) (hr:nth cs off=some (.pin z sz ys)) (ht:look t tb=some i) (hf:Z0 i=true):QStep P o T m nx nt (.lst sz ys):=a5S (o7 G ho ht hf hx hm hr Z)
theorem c7o {t:TypeId} {x:Operand} {i:TyI} {id off sz:Nat} {cs:List AV} {z:Option Value} {yss:List (List CI)} (G:Good P tb) (ho:o.op=.load t x) (hx:ev T x=some (.ptr id off)) (hm:mem m id=some (.box cs)) (hr:nth cs off=some (.nst z sz yss)) (hd:b1R (.nst z sz yss)=true) (ht:look t tb=some i) (hf:Z0 i=true):QStep P o T m nx nt (.nst none sz yss):=b7I (o7 G ho ht hf hx hm hr hd)
theorem a6t {t:TypeId} {x:Operand} {fs:List (Nat×Nat)} {zs:List Value} {id off:Nat} {cs rs:List AV} (G:Good P tb) (ho:o.op=.load t x) (hx:ev T x=some (.ptr id off)) (hm:mem m id=some (.box cs)) (ht:look t tb=some (.struct fs zs)) (hr:a2w zs.length (Y9 off cs) []=some rs) (hd:a4r rs=true):QStep P o T m nx nt (.agg rs):=d9 G ho ht hx hm hr hd
theorem b4Z {t:TypeId} {x:Operand} {i:TyI} {c:List Value} {u:Value} (G:Good P tb) (ho:o.op=.load t x) (hx:ev T x=some (.ept c)) (hr:nth c 0=some u) (ht:look t tb=some i) (hf:Z0 i=true):QStep P o T m nx nt (.v u):=b4g G ho ht hf hx hr
theorem a6u {t:TypeId} {x:Operand} {fs:List (Nat×Nat)} {zs:List Value} {c us:List Value} (G:Good P tb) (ho:o.op=.load t x) (hx:ev T x=some (.ept c)) (ht:look t tb=some (.struct fs zs)) (hr:a2w zs.length c []=some us):QStep P o T m nx nt (.agg (avR us [])):=a5t G ho ht hx hr
theorem c7p {x:Operand} {t e sz by_ n:Nat} {zs:List Value} {ax:AV} (G:Good P tb) (ho:o.op=.call { callee:=.builtin .len,args:=#[x],argTypes:=#[t] }) (hx:ev T x=some ax) (hn:b6k m ax=some n) (ht:look t tb=some (.slice e sz by_ zs)):QStep P o T m nx nt (.v (.int .i64 n)):=a1j G ho ht hx hn
theorem c5z {x:Operand} {t e sz by_ n n':Nat} {zs:List Value} {ax:AV} (G:Good P tb) (ho:o.op=.call { callee:=.builtin .len,args:=#[x],argTypes:=#[t] }) (hx:ev T x=some ax) (hn:b6k m ax=some n) (he:n=n') (ht:look t tb=some (.slice e sz by_ zs)):QStep P o T m nx nt (.v (.int .i64 n')):=T5 G ho ht hx hn he
theorem a3u {x y:Operand} {t e sz by_:Nat} {zs:List Value} {ys:List (List Value)} {k:IntKind} {i:Int} {c:List Value} (G:Good P tb) (ho:o.op=.indexAddr t x y) (hx:ev T x=some (.lst sz ys)) (hy:ev T y=some (.v (.int k i))) (h0:0<=i) (hc:ys[i.toNat]?=some c) (ht:look t tb=some (.slice e sz by_ zs)):QStep P o T m nx nt (.ept c):=a7C G ho ht hx hy h0 hc
def Ph (n:Nat) (p:Prop):Prop:=p
structure Hd (q:Prop):Prop where o:q
structure Sg (P:Program) [Env P] (o:Oper) (T:List (Nat×AV)) (m:List (Nat×Option Row)) (nx nt:Nat) (K:AV→Prop):Prop where o:∃r,QStep P o T m nx nt r/\K r
theorem Sg.of {K:AV→Prop} (h:QStep P o T m nx nt r) (k:K r):Sg P o T m nx nt K:=⟨r,h,k⟩
theorem b2I [EnvAt P w0] {l:List Oper} {Q:Exit→St→Prop} (hd:o.dst=some d) (hlt:Nat.blt d nt=true) (h:Sg P o T m nx nt (λr=>WL P w0 ops l ⟨(d,r) :: T,m,nx,nt⟩ Q)):WX P w0 ops o l ⟨T,m,nx,nt⟩ Q:=h.o.elim λ_ h=>b5 hd hlt h.1 h.2
theorem b2J [EnvAt P w0] {l:List Oper} {K:List (Nat×AV)→Prop} (hd:o.dst=some d) (hlt:Nat.blt d nt=true) (h:Sg P o T m nx nt (λr=>QL P w0 ops l ((d,r) :: T) m nx nt K)):QX P w0 ops o l T m nx nt K:=h.o.elim λ_ h=>s1 hd hlt h.1 h.2
theorem c7q [EnvAt P b] {o1:Option Nat} {o2:Op} {o3:TypeId} {o4:String} {o5:Array Edge} {o6:Option (Nat×Bool)} {i:Nat} (hi:ops[i]?=some ⟨o1,o2,o3,o4,o5,o6⟩) (hg:o6=none) (hd:o1=some d) (hlt:Nat.blt d nt=true) (hf:Region.free .any ops listed i=true) (hr:(Region.ready .any ops listed).contains i=true) (hp:a6S o2=true) (h:Sg P ⟨o1,o2,o3,o4,o5,o6⟩ T m0 nx nt (λr=>WA P b ops m0 fuel (listed.setIfInBounds i true) ⟨(d,r) :: T,m,nx,nt⟩ A)):Ph i (WA P b ops m0 (fuel+1) listed ⟨T,m,nx,nt⟩ A):=h.o.elim λ_ h=>d5 i hi hf hr hp hg hd hlt h.1 h.2
theorem c7r [EnvAt P b] {o1:Option Nat} {o2:Op} {o3:TypeId} {o4:String} {o5:Array Edge} {o6:Option (Nat×Bool)} {i j gd:Nat} {want:Bool} (hi:ops[i]?=some ⟨o1,o2,o3,o4,o5,o6⟩) (hg:o6=some (j,want)) (hj:(ops[j]?).bind (·.dst)=some gd) (hb:look gd T=some (.v (.bool want))) (hd:o1=some d) (hlt:Nat.blt d nt=true) (hf:Region.free .any ops listed i=true) (hr:(Region.ready .any ops listed).contains i=true) (hp:a6S o2=true) (h:Sg P ⟨o1,o2,o3,o4,o5,o6⟩ T m0 nx nt (λr=>WA P b ops m0 fuel (listed.setIfInBounds i true) ⟨(d,r) :: T,m,nx,nt⟩ A)):Ph i (WA P b ops m0 (fuel+1) listed ⟨T,m,nx,nt⟩ A):=h.o.elim λ_ h=>O4 i hi hf hr hp hg hj hb hd hlt h.1 h.2
theorem g9 (ms:List Nat) {o1:Option Nat} {o2:Op} {o3:TypeId} {o4:String} {o5:Array Edge} {o6:Option (Nat×Bool)} {i:Nat} {S:St} (hi:ops[i]?=some ⟨o1,o2,o3,o4,o5,o6⟩) (hg:o6=none) (h:WX P b ops ⟨o1,o2,o3,o4,o5,o6⟩ [] S (nq (λS'=>O2 b.n0 S'.m ms []=some m0/\WA P b ops m0 fuel (listed.setIfInBounds i true) S' A))):WB P b ops m0 fuel listed i S A:=f9 ms hi hg h
theorem c7s {i j gd:Nat} {want bb:Bool} (hi:ops[i]?=some o) (hg:o.guard=some (j,want)) (hj:(ops[j]?).bind (·.dst)=some gd) (hb:look gd T=some (.v (.bool bb))) (hne:(bb==want)=false) (hf:Region.free .any ops listed i=true) (hr:(Region.ready .any ops listed).contains i=true) (hd:o.dst=some d) (hlt:Nat.blt d nt=true) (hk:WA P b ops m0 fuel (listed.setIfInBounds i true) ⟨(d,.v undef) :: T,m,nx,nt⟩ A):Ph i (WA P b ops m0 (fuel+1) listed ⟨T,m,nx,nt⟩ A):=a18 i hi hf hr hg hj hb hne hd hlt hk
theorem c7t {i j gd:Nat} {want:Bool} (hi:ops[i]?=some o) (hg:o.guard=some (j,want)) (hj:(ops[j]?).bind (·.dst)=some gd) (hb:look gd T=some (.v undef)) (hf:Region.free .any ops listed i=true) (hr:(Region.ready .any ops listed).contains i=true) (hd:o.dst=some d) (hlt:Nat.blt d nt=true) (hk:WA P b ops m0 fuel (listed.setIfInBounds i true) ⟨(d,.v undef) :: T,m,nx,nt⟩ A):Ph i (WA P b ops m0 (fuel+1) listed ⟨T,m,nx,nt⟩ A):=b6v i hi hf hr hg hj hb hd hlt hk
theorem c1d {x:Operand} {o1:Option Nat} {o3:TypeId} {o4:String} {o5:Array Edge} {o6:Option (Nat×Bool)} {K:AV→Prop} (h:Sg P ⟨o1,.move x,o3,o4,o5,o6⟩ T m nx nt K):Sg P ⟨o1,.move x,o3,o4,o5,o6⟩ T m nx nt K:=h
theorem b67 {x:Operand} {o1:Option Nat} {o3:TypeId} {o4:String} {o5:Array Edge} {o6:Option (Nat×Bool)} {K:AV→Prop} (h:Sg P ⟨o1,.assign x,o3,o4,o5,o6⟩ T m nx nt K):Sg P ⟨o1,.assign x,o3,o4,o5,o6⟩ T m nx nt K:=h
theorem b9k {t:TypeId} {x:Operand} {k:Nat} {o1:Option Nat} {o3:TypeId} {o4:String} {o5:Array Edge} {o6:Option (Nat×Bool)} {K:AV→Prop} (h:Sg P ⟨o1,.fieldAddr t x k,o3,o4,o5,o6⟩ T m nx nt K):Sg P ⟨o1,.fieldAddr t x k,o3,o4,o5,o6⟩ T m nx nt K:=h
theorem c1e {t:TypeId} {x:Operand} {o1:Option Nat} {o3:TypeId} {o4:String} {o5:Array Edge} {o6:Option (Nat×Bool)} {K:AV→Prop} (h:Sg P ⟨o1,.load t x,o3,o4,o5,o6⟩ T m nx nt K):Sg P ⟨o1,.load t x,o3,o4,o5,o6⟩ T m nx nt K:=h
theorem c5A {u:BinOp} {t t2:TypeId} {x y:Operand} {o1:Option Nat} {o3:TypeId} {o4:String} {o5:Array Edge} {o6:Option (Nat×Bool)} {K:AV→Prop} (h:Sg P ⟨o1,.binOp u t x y t2,o3,o4,o5,o6⟩ T m nx nt K):Sg P ⟨o1,.binOp u t x y t2,o3,o4,o5,o6⟩ T m nx nt K:=h
theorem c1f {c x y:Operand} {o1:Option Nat} {o3:TypeId} {o4:String} {o5:Array Edge} {o6:Option (Nat×Bool)} {K:AV→Prop} (h:Sg P ⟨o1,.pick c x y,o3,o4,o5,o6⟩ T m nx nt K):Sg P ⟨o1,.pick c x y,o3,o4,o5,o6⟩ T m nx nt K:=h
theorem b40 {x:Operand} {k:Nat} {o1:Option Nat} {o3:TypeId} {o4:String} {o5:Array Edge} {o6:Option (Nat×Bool)} {K:AV→Prop} (h:Sg P ⟨o1,.extract x k,o3,o4,o5,o6⟩ T m nx nt K):Sg P ⟨o1,.extract x k,o3,o4,o5,o6⟩ T m nx nt K:=h
theorem c5B {t:TypeId} {x:Operand} {o1:Option Nat} {o3:TypeId} {o4:String} {o5:Array Edge} {o6:Option (Nat×Bool)} {K:AV→Prop} (h:Sg P ⟨o1,.unOp .not t x,o3,o4,o5,o6⟩ T m nx nt K):Sg P ⟨o1,.unOp .not t x,o3,o4,o5,o6⟩ T m nx nt K:=h
theorem b9l {t:TypeId} {l:Array (Nat×Operand)} {o1:Option Nat} {o3:TypeId} {o4:String} {o5:Array Edge} {o6:Option (Nat×Bool)} {K:AV→Prop} (h:Sg P ⟨o1,.build t l,o3,o4,o5,o6⟩ T m nx nt K):Sg P ⟨o1,.build t l,o3,o4,o5,o6⟩ T m nx nt K:=h
theorem b9m {t:TypeId} {x y:Operand} {o1:Option Nat} {o3:TypeId} {o4:String} {o5:Array Edge} {o6:Option (Nat×Bool)} {K:AV→Prop} (h:Sg P ⟨o1,.indexAddr t x y,o3,o4,o5,o6⟩ T m nx nt K):Sg P ⟨o1,.indexAddr t x y,o3,o4,o5,o6⟩ T m nx nt K:=h
theorem c5C {c:Call} {o1:Option Nat} {o3:TypeId} {o4:String} {o5:Array Edge} {o6:Option (Nat×Bool)} {K:AV→Prop} (h:Sg P ⟨o1,.call c,o3,o4,o5,o6⟩ T m nx nt K):Sg P ⟨o1,.call c,o3,o4,o5,o6⟩ T m nx nt K:=h
theorem n9 {x y:Code} {S:St} {Q:Exit→St→Prop} (h:W P w0 x S (sq (λS=>W P w0 y S Q) Q)):W P w0 (.seq x y) S Q:=d3 λK hK=>b4e h λe S' q=>by cases e<;>first | exact hK _ q | exact q
theorem aW {S:St} {Q:Exit→St→Prop} {c:Code} (h:W P w0 c S Q):W P w0 c S Q:=h
theorem aWL {S:St} {Q:Exit→St→Prop} {l:List Oper} (h:WL P w0 ops l S Q):WL P w0 ops l S Q:=h
theorem aWX {S:St} {Q:Exit→St→Prop} {l:List Oper} (h:WX P w0 ops o l S Q):WX P w0 ops o l S Q:=h
theorem aQX {K:List (Nat×AV)→Prop} {l:List Oper} (h:QX P w0 ops o l T m nx nt K):QX P w0 ops o l T m nx nt K:=h
theorem aQL {K:List (Nat×AV)→Prop} {l:List Oper} (h:QL P w0 ops l T m nx nt K):QL P w0 ops l T m nx nt K:=h
end
section
variable {K:St→Prop} {Q:Exit→St→Prop} {S:St} {i id:Nat}
theorem c5D (h:K S):sq K Q .normal S:=h
theorem c5E (h:K S):nq K .normal S:=h
theorem c5F (h:Q (.exit i) S):sq K Q (.exit i) S:=h
theorem c5G (h:Q .ret S):sq K Q .ret S:=h
theorem c5H (h:Q .normal S):bq id Q .normal S:=h
theorem c5I (h:Q .ret S):bq id Q .ret S:=h
theorem c5J (h:Q .normal S):bq id Q (.exit id) S:=by simp only [bq,Nat.beq_refl,cond_true];exact h
theorem c5K (h:Q (.exit i) S) (e:Nat.beq i id=false:=by rfl):bq id Q (.exit i) S:=by simp only [bq,e,cond_false];exact h
end
theorem zq {p q:Prop} (k:q) (h:Hd q→p:=by
 intro kk
 first
  | (with_reducible refine c1d ?_;first | refine Sg.of (c7 Z Z) ?_)
  | (with_reducible refine b67 ?_;first | refine Sg.of (c6 Z Z) ?_)
  | (with_reducible refine b9k ?_;first | refine Sg.of (b32 G Z Z Z Z) ?_ | refine Sg.of (b2Y G Z Z Z Z) ?_)
  | (with_reducible refine c1e ?_;first | refine Sg.of (c7n G Z Z Z Z Z Z) ?_ | refine Sg.of (c7o G Z Z Z Z Z Z) ?_ | refine Sg.of (b4Y G Z Z Z Z Z Z Z) ?_ | refine Sg.of (a6t G Z Z Z Z Z Z) ?_ | refine Sg.of (b4Z G Z Z Z Z Z) ?_ | refine Sg.of (a6u G Z Z Z Z) ?_ | refine Sg.of (L9 G Z Z Z Z) ?_)
  | (with_reducible refine c5A ?_;first | refine Sg.of (B3 Z Z Z Z) ?_ | refine Sg.of (v7 Z Z Z Z J J) ?_)
  | (with_reducible refine c1f ?_;first | refine Sg.of (x6 Z Z Z) ?_ | refine Sg.of (z8 Z Z Z) ?_)
  | (with_reducible refine b40 ?_;first | refine Sg.of (j7 Z Z Z) ?_)
  | (with_reducible refine c5B ?_;first | refine Sg.of (a5r Z Z) ?_ | refine Sg.of (b91 Z Z) ?_ | refine Sg.of (a2S Z Z) ?_)
  | (with_reducible refine b9l ?_;first | refine Sg.of (w6 G Z Z Z Z) ?_)
  | (with_reducible refine b9m ?_;first | refine Sg.of (a3u G Z Z Z J (a14 J) Z) ?_ | refine Sg.of (a3u G Z Z Z J (V5 J J) Z) ?_ | refine Sg.of (a3u G Z Z Z J (x9 J J) Z) ?_ | refine Sg.of (A6 G Z Z Z Z J (a14 J) Z) ?_ | refine Sg.of (A6 G Z Z Z Z J (V5 J J) Z) ?_ | refine Sg.of (A6 G Z Z Z Z J (x9 J J) Z) ?_)
  | (with_reducible refine c5C ?_;first | refine Sg.of (c5z G Z Z Z (List.length_map _) Z) ?_ | refine Sg.of (c7p G Z Z Z Z) ?_)
 exact kk.o):p:=h ⟨k⟩
theorem zgo {p q:Prop} (k:q) (h:Hd q→p:=by
 intro kk
 first | (with_reducible refine aWX ?_;first | (refine b2I Z Z ?_;refine zq ?_) | refine m3 G Z Z Z Z Z Z Z Z Z Z Z ?_) | (with_reducible refine aQX ?_;first | (refine b2J Z Z ?_;refine zq ?_)) | skip
 repeat (first
  | (with_reducible refine aW ?_;with_reducible first | refine n9 ?_ | refine b8 ?_ | refine r4 ?_ | refine s4 ?_ | refine X9 ?_)
  | (with_reducible refine aWL ?_;first | (refine a7 Z ?_;first | (refine b2I Z Z ?_;refine zq ?_) | refine m3 G Z Z Z Z Z Z Z Z Z Z Z ?_) | (refine p5 Z Z Z ?_;first | (refine b2I Z Z ?_;refine zq ?_) | refine m3 G Z Z Z Z Z Z Z Z Z Z Z ?_) | refine l9 Z Z Z Z Z Z ?_ | refine a6I Z Z Z Z Z ?_ | with_reducible refine b6 ?_)
  | (with_reducible refine aQL ?_;first | (refine j6 Z ?_;first | (refine b2J Z Z ?_;refine zq ?_)) | (refine a2P Z Z Z ?_;first | (refine b2J Z Z ?_;refine zq ?_)) | refine b1O Z Z Z Z Z Z ?_ | refine a6J Z Z Z Z Z ?_ | with_reducible refine a8Y ?_)
  | (with_reducible first | refine c5D ?_ | refine c5E ?_ | refine c5H ?_ | refine c5F ?_ | refine c5J ?_ | refine c5G ?_ | refine c5I ?_ | (refine c5K ?_ ?_;rotate_left)))
 exact kk.o):p:=h ⟨k⟩
theorem zgn {p q:Prop} (k:q) (h:Hd q→p:=by
 intro kk
 repeat (with_reducible first | refine n9 ?_ | refine b8 ?_ | refine r4 ?_)
 first | (with_reducible refine aWX ?_;first | (refine b2I Z Z ?_;refine zq ?_) | refine m3 G Z Z Z Z Z Z Z Z Z Z Z ?_) | (with_reducible refine aQX ?_;first | (refine b2J Z Z ?_;refine zq ?_)) | skip
 repeat (first
  | (with_reducible refine aWL ?_;first | (refine a7 Z ?_;first | (refine b2I Z Z ?_;refine zq ?_) | refine m3 G Z Z Z Z Z Z Z Z Z Z Z ?_) | (refine p5 Z Z Z ?_;first | (refine b2I Z Z ?_;refine zq ?_) | refine m3 G Z Z Z Z Z Z Z Z Z Z Z ?_) | refine l9 Z Z Z Z Z Z ?_ | refine a6I Z Z Z Z Z ?_)
  | (with_reducible refine aQL ?_;first | (refine j6 Z ?_;first | (refine b2J Z Z ?_;refine zq ?_)) | (refine a2P Z Z Z ?_;first | (refine b2J Z Z ?_;refine zq ?_)) | refine b1O Z Z Z Z Z Z ?_ | refine a6J Z Z Z Z Z ?_))
 with_reducible first | refine b6 ?_ | refine a8Y ?_ | refine s4 ?_ | refine X9 ?_
 repeat (with_reducible first | refine c5D ?_ | refine c5E ?_ | refine c5H ?_ | refine c5F ?_ | refine c5J ?_ | refine c5G ?_ | refine c5I ?_ | (refine c5K ?_ ?_;rotate_left))
 exact kk.o):p:=h ⟨k⟩
theorem znk {p q:Prop} (k:q) (h:Hd q→p:=by
 intro kk
 repeat (with_reducible first | refine c5D ?_ | refine c5E ?_ | refine c5H ?_ | refine c5F ?_ | refine c5J ?_ | refine c5G ?_ | refine c5I ?_ | (refine c5K ?_ ?_;rotate_left))
 exact kk.o):p:=h ⟨k⟩
theorem zst {p q:Prop} (k:q) (h:Hd q→p:=by
 intro kk
 first
  | (with_reducible refine aWX ?_;first | (refine b2I Z Z ?_;refine zq ?_) | refine m3 G Z Z Z Z Z Z Z Z Z Z Z ?_)
  | (with_reducible refine aQX ?_;first | (refine b2J Z Z ?_;refine zq ?_))
  | (with_reducible refine aWL ?_;first | (refine a7 Z ?_;first | (refine b2I Z Z ?_;refine zq ?_) | refine m3 G Z Z Z Z Z Z Z Z Z Z Z ?_) | (refine p5 Z Z Z ?_;first | (refine b2I Z Z ?_;refine zq ?_) | refine m3 G Z Z Z Z Z Z Z Z Z Z Z ?_) | refine l9 Z Z Z Z Z Z ?_ | refine a6I Z Z Z Z Z ?_)
  | (with_reducible refine aQL ?_;first | (refine j6 Z ?_;first | (refine b2J Z Z ?_;refine zq ?_)) | (refine a2P Z Z Z ?_;first | (refine b2J Z Z ?_;refine zq ?_)) | refine b1O Z Z Z Z Z Z ?_ | refine a6J Z Z Z Z Z ?_)
 exact kk.o):p:=h ⟨k⟩
theorem zgd {p q:Prop} (k:q) (h:Hd q→p:=by
 intro kk
 refine zgo ?_
 refine a5o mixed (by kernel_rfl) ?_
 exact kk.o):p:=h ⟨k⟩
theorem zcd {p a b:Prop} {q1:a→Prop} {q2:b→Prop} (k1:∀h,q1 h) (k2:∀h,q2 h) (h:Hd (∀h,q1 h)→Hd (∀h,q2 h)→p:=by
 intro k1 k2
 refine zgo ?_
 first | refine j9 Z (λhc=>?_) (λhc=>?_) | refine A1 Z Z Z (λhc=>?_) (λhc=>?_) | refine b1P Z Z Z (λhc=>?_) (λhc=>?_)
 ·(try rw [hc]);(try simp only [rfb] at hc);exact k1.o hc
 ·(try rw [hc]);(try simp only [rfb] at hc);exact k2.o hc):p:=h ⟨k1⟩ ⟨k2⟩
theorem zwt {p q:Prop} (k:q) (h:Hd q→p:=by
 intro kk
 refine zgo ?_
 refine L8 Z ?_
 exact kk.o):p:=h ⟨k⟩
theorem zwf {p q:Prop} (k:q) (h:Hd q→p:=by
 intro kk
 refine zgo ?_
 refine K0 Z ?_
 exact kk.o):p:=h ⟨k⟩
theorem zf1 {p q:Prop} (k:q) (h:Hd q→p:=by
 intro kk
 refine zgo ?_
 refine f6 (D0 Z (l4 ?_))
 exact kk.o):p:=h ⟨k⟩
theorem zfo {p q:Prop} (k:q) (h:Hd q→p:=by
 intro kk
 refine zgo ?_
 refine f6 (D0 Z (d7 Z ?_))
 exact kk.o):p:=h ⟨k⟩
theorem zcl {p q c:Prop} (x:c) (k:q) (h:c→Hd q→p:=by
 intro x kk
 refine zgo ?_
 first | exact a7 Z (b5 Z Z (f7 Z (ArgsOK.of Z) x Z) kk.o) | exact p5 Z Z Z (b5 Z Z (f7 Z (ArgsOK.of Z) x Z) kk.o) | exact j6 Z (s1 Z Z (f7 Z (ArgsOK.of Z) x Z) kk.o) | exact a2P Z Z Z (s1 Z Z (f7 Z (ArgsOK.of Z) x Z) kk.o)):p:=h x ⟨k⟩
theorem zsa (n:Nat) {p q:Prop} (k:q) (h:Hd q→Ph n p:=by
 intro kk
 first
 | (refine c7q Z Z Z Z (by kernel_rfl) (by kernel_rfl) Z ?_;refine zq ?_)
 | (refine c7r Z Z Z Z Z Z (by kernel_rfl) (by kernel_rfl) Z ?_;refine zq ?_)
 | refine c7s Z Z Z Z Z (by kernel_rfl) (by kernel_rfl) Z Z ?_
 | refine c7t Z Z Z Z (by kernel_rfl) (by kernel_rfl) Z Z ?_
 exact kk.o):p:=h ⟨k⟩
theorem Y {p:Prop} (h:p:=by kernel_rfl):p:=h
end Go.Rf
