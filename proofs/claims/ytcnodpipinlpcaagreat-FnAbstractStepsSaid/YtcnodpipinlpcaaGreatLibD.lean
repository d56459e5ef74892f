/- Texts merged into one: RfMA, RfNV, RfMB, RfMC, RfMD, RfNU, RfME, RfMF, RfMG, RfMH, RfMI, RfMJ, RfML, RfMO, RfMP, RfNO, RfNZ, RfMR, RfNW, RfDA, RfDK. -/
import Derived.Test.YtcnodpipinlpcaaGreatLibC
set_option linter.unusedSectionVars false
set_option linter.unusedSimpArgs false
set_option linter.unusedVariables false
namespace Go.Rf
open Go
structure Slot where
 s:Int
 q:Int
 p:Int
 deriving Inhabited,DecidableEq
def p4 (x:Slot):List Value:=[.int .i64 x.s,.int .i64 x.q,.int .i64 x.p]
def b4h (x:Slot):Value:=.agg ⟨p4 x⟩
structure Wtr where
 q:Int
 p:Int
 deriving Inhabited,DecidableEq
def s6 (x:Wtr):List Value:=[.int .i64 x.q,.int .i64 x.p]
def b4i (x:Wtr):Value:=.agg ⟨s6 x⟩
structure Que where
 sl:List Slot
 wa:List Wtr
 deriving Inhabited,DecidableEq
structure Ifc where
 ma:Int
 st:List Int
 qu:Que
 deriving Inhabited,DecidableEq
structure Mach where
 rs:List Route
 en:List Bool
 ra:List Bool
 cp:List Ifc
 deriving Inhabited,DecidableEq
def zSl:Slot:=⟨0,0,0⟩
def wOf (x:Slot):Wtr:=⟨x.q,x.p⟩
def fdP (irq:Int) (x:Slot):Bool:=!(decide (x.s=0)) && decide (x.q=irq)
def o9 (sl:List Slot) (irq:Int):Int:=S4 (fun i=>fdP irq (sl.getD i default)) sl.length
def emP (x:Slot):Bool:=decide (x.s=0)
def freS (sl:List Slot):Int:=S4 (fun i=>emP (sl.getD i default)) sl.length
def b0r (x:Slot):Bool:=u4 x.s 1 3 && (u4 x.q 0 7 && u4 x.p 0 15)
def H4 (sl:List Slot) (i:Nat):Bool:=if (sl.getD i default).s=0 then decide (sl.getD i default=zSl) else b0r (sl.getD i default) && !(a0F i (fun j=>fdP (sl.getD i default).q (sl.getD j default)))
def a2X (sl:List Slot):Bool:=decide (sl.length=4) && I0 sl.length (H4 sl)
def b0s (x y:Int):Int:=if x < y then -1 else if y < x then 1 else 0
def urg (a b:Wtr):Int:=if b0s a.p b.p=0 then b0s a.q b.q else b0s a.p b.p
def lessW (a b:Wtr):Bool:=decide (a.p < b.p) || (decide (a.p=b.p) && decide (a.q < b.q))
theorem N3 {a b:Wtr}:lessW a b=true↔a.p < b.p∨(a.p=b.p∧a.q < b.q):=by simp [lessW]
theorem a7p {a b:Wtr}:lessW a b=false↔¬ (a.p < b.p∨(a.p=b.p∧a.q < b.q)):=by rw [← Bool.not_eq_true,N3]
theorem a4z {a b:Wtr}:urg a b < 0↔lessW a b=true:=by
 rw [N3];unfold urg b0s
 by_cases h1:a.p < b.p
 ·simp [h1]
 ·by_cases h2:b.p < a.p
  ·simp [h1,h2];omega
  ·have:a.p=b.p:=by omega
   simp [this]
   by_cases h3:a.q < b.q
   ·simp [h3]
   ·simp [h3]
    split<;>omega
theorem b1D {a b:Wtr}:0 < urg a b↔lessW b a=true:=by
 rw [N3];unfold urg b0s
 by_cases h1:a.p < b.p
 ·simp [h1];omega
 ·by_cases h2:b.p < a.p
  ·simp [h1,h2]
  ·have:a.p=b.p:=by omega
   simp [this]
   by_cases h3:a.q < b.q
   ·simp [h3];omega
   ·simp [h3]
    split
    ·simp;omega
    ·simp;omega
theorem a77 {a b:Wtr} (h:lessW a b=true):lessW b a=false:=by rw [N3] at h;rw [a7p];omega
theorem N4 {a b c:Wtr} (h:lessW a b=true) (h':lessW b c=true):lessW a c=true:=by rw [N3] at *;omega
theorem a1N {a b:Wtr} (h:a.q≠b.q):lessW a b=!(lessW b a):=by
 cases h1:lessW b a
 ·rw [a7p] at h1;show _=true;rw [N3];omega
 ·exact a77 h1
def a2j (sl:List Slot) (most:Bool) (b:Int) (i:Nat):Bool:=decide ((sl.getD i default).s=1) && (decide (b < 0) || (if most then lessW (wOf (sl.getD i default)) (wOf (sl.getD b.toNat default)) else lessW (wOf (sl.getD b.toNat default)) (wOf (sl.getD i default))))
def G1 (sl:List Slot) (most:Bool):Nat→Int
 | 0=>-1
 | i+1=>if a2j sl most (G1 sl most i) i then (i:Int) else G1 sl most i
theorem a0j {sl:List Slot} {most:Bool} {i:Nat}:G1 sl most (i+1)=if a2j sl most (G1 sl most i) i then (i:Int) else G1 sl most i:=rfl
theorem u9 {sl:List Slot} {most:Bool} {i:Nat} (h:a2j sl most (G1 sl most i) i=true):G1 sl most (i+1)=(i:Int):=by rw [a0j,if_pos h]
theorem v1 {sl:List Slot} {most:Bool} {i:Nat} (h:a2j sl most (G1 sl most i) i=false):G1 sl most (i+1)=G1 sl most i:=by rw [a0j,if_neg (by rw [h];decide)]
theorem a0I {sl:List Slot} {most:Bool}:∀ i,-1≤G1 sl most i∧G1 sl most i < i
 | 0=>by simp [G1]
 | i+1=>by
  have:=@a0I sl most i
  rw [a0j]
  split<;>omega
theorem a1j {sl:List Slot} {most:Bool}:∀ i,0≤G1 sl most i→(sl.getD (G1 sl most i).toNat default).s=1
 | 0=>by simp [G1]
 | i+1=>by
  have ih:=@a1j sl most i
  rw [a0j]
  split
  ·next h =>
   intro _
   simp only [a2j,Bool.and_eq_true,decide_eq_true_eq] at h
   simpa using h.1
  ·exact ih
theorem a5b {sl:List Slot} {most:Bool}:∀ i,G1 sl most i < 0↔∀ j,j < i→(sl.getD j default).s≠1
 | 0=>by simp [G1]
 | i+1=>by
  have ih:=@a5b sl most i
  rw [a0j]
  constructor
  ·intro h j hj
   split at h
   ·omega
   ·next hc =>
    have h':=ih.mp h
    by_cases e:j=i
    ·subst e
     intro hs
     apply hc
     simp only [a2j,Bool.and_eq_true,decide_eq_true_eq,Bool.or_eq_true]
     exact ⟨hs,.inl h⟩
    ·exact h' j (by omega)
  ·intro h
   rw [if_neg]
   ·exact ih.mpr fun j hj=>h j (by omega)
   ·simp only [a2j,Bool.and_eq_true,decide_eq_true_eq]
    exact fun g=>h i (by omega) g.1
def bstS (sl:List Slot) (most:Bool):Int:=G1 sl most sl.length
theorem a7q {sl:List Slot}:a2X sl=true↔sl.length=4∧∀ i,i < 4→H4 sl i=true:=by
 simp only [a2X,Bool.and_eq_true,decide_eq_true_eq,w8]
 constructor
 ·rintro ⟨h1,h2⟩;exact ⟨h1,fun i hi=>h2 i (by omega)⟩
 ·rintro ⟨h1,h2⟩;exact ⟨h1,fun i hi=>h2 i (by omega)⟩
theorem a2Y {x:Slot}:b0r x=true↔(1≤x.s∧x.s≤3)∧(0≤x.q∧x.q≤7)∧0≤x.p∧x.p≤15:=by simp only [b0r,Bool.and_eq_true,p6]
theorem S7 {irq:Int} {x:Slot}:fdP irq x=true↔x.s≠0∧x.q=irq:=by simp [fdP]
theorem a5c {n:Nat} {f:Nat→Bool}:a0F n f=true↔∃ i,i < n∧f i=true:=by
 constructor
 ·intro h
  simp only [a0F,Bool.not_eq_true',I0,List.all_eq_false,List.mem_range] at h
  obtain ⟨i,h1,h2⟩:=h
  exact ⟨i,h1,by simpa using h2⟩
 ·rintro ⟨i,h1,h2⟩;exact a6r h2 h1
theorem Y3 {n:Nat} {f:Nat→Bool}:a0F n f=false↔∀ i,i < n→f i=false:=by
 constructor
 ·intro h i hi
  cases hf:f i
  ·rfl
  ·rw [a6r hf hi] at h;cases h
 ·exact fun h=>a70 h (Nat.le_refl _)
structure SlF (sl:List Slot):Prop where
 len:sl.length=4
 z:∀ i,i < 4→(sl.getD i default).s=0→sl.getD i default=zSl
 ok:∀ i,i < 4→(sl.getD i default).s≠0→(1≤(sl.getD i default).s∧(sl.getD i default).s≤3)∧(0≤(sl.getD i default).q∧(sl.getD i default).q≤7)∧0≤(sl.getD i default).p∧(sl.getD i default).p≤15
 dif:∀ i j,i < j→j < 4→(sl.getD i default).s≠0→(sl.getD j default).s≠0→(sl.getD i default).q≠(sl.getD j default).q
theorem slF {sl:List Slot}:a2X sl=true↔SlF sl:=by
 rw [a7q]
 constructor
 ·rintro ⟨h1,h2⟩
  refine ⟨h1,fun i hi hz=>?_,fun i hi hz=>?_,fun i j hij hj hi0 hj0=>?_⟩
  ·have:=h2 i hi;unfold H4 at this;rw [if_pos hz] at this;exact of_decide_eq_true this
  ·have:=h2 i hi;unfold H4 at this;rw [if_neg hz,Bool.and_eq_true] at this;exact a2Y.mp this.1
  ·have:=h2 j hj;unfold H4 at this;rw [if_neg hj0,Bool.and_eq_true,Bool.not_eq_true',Y3] at this
   have h3:=this.2 i hij
   intro e
   rw [S7.mpr ⟨hi0,e⟩] at h3
   cases h3
 ·rintro ⟨h1,h2,h3,h4⟩
  refine ⟨h1,fun i hi=>?_⟩
  unfold H4
  split
  ·next hz=>exact decide_eq_true (h2 i hi hz)
  ·next hz =>
   rw [Bool.and_eq_true,Bool.not_eq_true',Y3]
   refine ⟨a2Y.mpr (h3 i hi hz),fun j hj=>?_⟩
   rw [← Bool.not_eq_true,S7]
   exact fun g=>h4 j i hj hi g.1 hz g.2
theorem a55 {sl:List Slot} {irq:Int}:(o9 sl irq=-1∧∀ i,i < sl.length→fdP irq (sl.getD i default)=false)∨∃ i:Nat,o9 sl irq=i∧i < sl.length∧(sl.getD i default).s≠0∧(sl.getD i default).q=irq:=by
 by_cases h:o9 sl irq=-1
 ·exact .inl ⟨h,a8J h⟩
 ·obtain ⟨i,h1,h2,_,h4⟩:=a1J h
  exact .inr ⟨i,h1,h2,S7.mp h4⟩
theorem a56 {sl:List Slot}:(freS sl=-1∧∀ i,i < sl.length→(sl.getD i default).s≠0)∨∃ i:Nat,freS sl=i∧i < sl.length∧(sl.getD i default).s=0:=by
 by_cases h:freS sl=-1
 ·refine .inl ⟨h,fun i hi=>?_⟩
  have:=a8J h i hi
  simpa [emP] using this
 ·obtain ⟨i,h1,h2,_,h4⟩:=a1J h
  exact .inr ⟨i,h1,h2,of_decide_eq_true h4⟩
theorem a7r {sl:List Slot} {i:Nat} (hi:i < sl.length) (h0:(sl.getD i default).s≠0):o9 sl (sl.getD i default).q=i↔a0F i (fun j=>fdP (sl.getD i default).q (sl.getD j default))=false:=by
 constructor
 ·intro h
  obtain ⟨k,h1,h2,h3,h4⟩:=a1J (show o9 sl (sl.getD i default).q≠-1 by omega)
  have hk:k=i:=by
   have:(k:Int)=i:=by rw [← h1];exact h
   omega
  subst hk
  exact Y3.mpr h3
 ·intro h
  exact J2 (Y3.mp h) hi (S7.mpr ⟨h0,rfl⟩)
end Go.Rf
namespace Go.Rf
open Go Go.RowKit
section
variable {P:Program} [Env P] {w0:Base} {ops:Array Oper} {tb:List (Nat×TyI)} {o:Oper} {rest:List Oper} {T:List (Nat×AV)} {m m':List (Nat×Option Row)} {nx nt d:Nat} {Q:Exit→St→Prop} {c:Code} {r:AV}
end
theorem ArgOK.fn {m:List (Nat×Option Row)} {nx:Nat} {av:AV} {f:FuncId} (h:ArgOK m nx av (.v (.func (.func f) #[] #[]))):ArgOK m nx av (.fnc f []):=fun w0 ρ w y hC hy=>by
 have:=h w0 ρ w y hC hy
 simp only [RelV] at this ⊢
 exact ⟨[],this,by simp [RelVs]⟩
theorem ArgOK.pin {m:List (Nat×Option Row)} {nx:Nat} {z:Value} {sz:Nat} {ys:List (List Value)}:ArgOK m nx (.pin z sz ys) (.pin z sz ys):=fun w0 ρ w y hC hy=>by
 simp only [RelV] at hy ⊢
 exact ⟨hy.1,hy.2.later hC.below⟩
theorem ArgsOK.pin1 {T:List (Nat×AV)} {m:List (Nat×Option Row)} {nx:Nat} {x:Operand} {xs:List Operand} {z:Value} {sz:Nat} {ys:List (List Value)} {as:List AV} (hx:ev T x=some (.pin z sz ys)) (h:ArgsOK T m nx (x :: xs) (.lst sz ys :: as)):ArgsOK T m nx (x :: xs) (.pin z sz ys :: as):=by
 obtain ⟨av,a,as',e,h1,h2,h3⟩:=h
 cases e
 exact ⟨_,_,_,rfl,hx,ArgOK.pin,h3⟩
section
variable {w0:Base} {T:List (Nat×AV)} {m:List (Nat×Option Row)} {nx nt:Nat}
theorem Gh.asPin {d t:Nat} {z:Value} {sz:Nat} {ys:List (List Value)} (hd:look d T=some (.v z)) (ht:look t T=some (.pin z sz ys)):Gh w0 ⟨T,m,nx,nt⟩ ⟨(d,.pin z sz ys) :: T,m,nx,nt⟩:=by
 intro ρ a w hT hC
 refine ⟨ρ,⟨fun i x hi=>?_,hT.size,hT.defers⟩,hC⟩
 by_cases e:d=i
 ·subst e
  rw [n9] at hi
  cases hi
  have h1:=hT.tmps d _ hd
  have h2:=hT.tmps t _ ht
  simp only [RelV] at h1 h2 ⊢
  exact ⟨h1,by rw [h1,← h2.1];exact h2.2⟩
 ·rw [j7 e] at hi
  exact hT.tmps i x hi
end
end Go.Rf
namespace Go.Rf
open Go
theorem U2 {α:Type} [Inhabited α] {l:List α} {i j:Nat} (h:j < i):(l.take i).getD j default=l.getD j default:=by
 rw [List.getD_eq_getElem?_getD,List.getElem?_take,if_pos h,← List.getD_eq_getElem?_getD]
theorem b2U {f:Nat→Bool} {n:Nat}:0≤S4 f n↔a0F n f=true:=by
 have:=a2J (f:=f) (n:=n)
 rw [← this];simp
theorem a8Q {f:Nat→Bool} {n:Nat}:S4 f n < 0↔a0F n f=false:=by
 have:=a2J (f:=f) (n:=n)
 rw [← this];simp
theorem a78 {f:Nat→Bool} {n:Nat}:-1≤S4 f n∧S4 f n < n∨(S4 f n=-1):=by
 by_cases h:S4 f n=-1
 ·exact .inr h
 ·obtain ⟨i,h1,h2,_⟩:=a1J h
  exact .inl (by omega)
theorem a2k {sl:List Slot} {q:Int}:-1≤o9 sl q∧o9 sl q < sl.length:=by
 have:=@a78 (fun i=>fdP q (sl.getD i default)) sl.length
 unfold o9
 omega
theorem b0t {sl:List Slot}:-1≤freS sl∧freS sl < sl.length:=by
 have:=@a78 (fun i=>emP (sl.getD i default)) sl.length
 unfold freS
 omega
section
variable {sl:List Slot} {i:Nat}
theorem b4j (h0:(sl.getD i default).s=0) (h:sl.getD i default=zSl):H4 sl i=true:=by unfold H4;rw [if_pos h0];exact decide_eq_true h
theorem b2V (h0:(sl.getD i default).s=0) (h:¬ sl.getD i default=zSl):H4 sl i=false:=by unfold H4;rw [if_pos h0];exact decide_eq_false h
theorem b4k (h0:¬ (sl.getD i default).s=0) (h1:b0r (sl.getD i default)=true) (h2:a0F i (fun j=>fdP (sl.getD i default).q (sl.getD j default))=false):H4 sl i=true:=by unfold H4;rw [if_neg h0,h1,h2];rfl
theorem b2W (h0:¬ (sl.getD i default).s=0) (h2:a0F i (fun j=>fdP (sl.getD i default).q (sl.getD j default))=true):H4 sl i=false:=by unfold H4;rw [if_neg h0,h2,Bool.not_true,Bool.and_false]
theorem b0u (h:H4 sl i=false) (hi:i < sl.length):a2X sl=false:=by unfold a2X;rw [L9 h hi,Bool.and_false]
theorem b0v (h:sl.length≠4):a2X sl=false:=by unfold a2X;rw [decide_eq_false h,Bool.false_and]
theorem b2X (hl:sl.length=4) (h:∀ j,j < i→H4 sl j=true) (hi:4≤i):a2X sl=true:=a7q.mpr ⟨hl,fun j hj=>h j (by omega)⟩
theorem b0w {x:Slot}:x=zSl↔x.s=0∧x.q=0∧x.p=0:=by cases x;simp [zSl]
theorem b0x (h1:¬ ((0≤(sl.getD i default).s∧(sl.getD i default).s≤3)∧(0≤(sl.getD i default).q∧(sl.getD i default).q≤7)∧0≤(sl.getD i default).p∧(sl.getD i default).p≤15)):H4 sl i=false:=by
 unfold H4
 split
 ·next h0 =>
  refine decide_eq_false fun e=>h1 ?_
  rw [e];simp [zSl]
 ·next h0 =>
  have:b0r (sl.getD i default)=false:=by rw [← Bool.not_eq_true,a2Y];intro g;exact h1 ⟨by omega,g.2⟩
  rw [this];rfl
theorem a4A (hi:i < sl.length) (h1:(0≤(sl.getD i default).s∧(sl.getD i default).s≤3)∧(0≤(sl.getD i default).q∧(sl.getD i default).q≤7)∧0≤(sl.getD i default).p∧(sl.getD i default).p≤15)
 (h2:¬ ((sl.getD i default).s=0∧((sl.getD i default).q≠0∨(sl.getD i default).p≠0))) (h3:(sl.getD i default).s≠0→o9 sl (sl.getD i default).q=i):H4 sl i=true:=by
 by_cases h0:(sl.getD i default).s=0
 ·exact b4j h0 (b0w.mpr ⟨h0,by omega,by omega⟩)
 ·exact b4k h0 (a2Y.mpr ⟨by omega,h1.2⟩) ((a7r hi h0).mp (h3 h0))
theorem b1E (h0:(sl.getD i default).s=0) (h:(sl.getD i default).q≠0∨(sl.getD i default).p≠0):H4 sl i=false:=b2V h0 (fun e=>by rw [e] at h;simp [zSl] at h)
theorem b1F (hi:i < sl.length) (h0:(sl.getD i default).s≠0) (h:o9 sl (sl.getD i default).q≠i):H4 sl i=false:=b2W h0 (by
 rw [← Bool.not_eq_false];exact fun g=>h ((a7r hi h0).mpr g))
end
end Go.Rf
namespace Go.Rf
theorem b0y {sl:List Slot} {i:Nat} (h:∀ j,j < i→H4 sl j=true) (hi:sl.length≤i):((sl.length:Int)==4)=a2X sl:=by
 by_cases hl:sl.length=4
 ·rw [b2X hl h (by omega)];simp [hl]
 ·rw [b0v hl]
  have:¬ ((sl.length:Int)=4):=by omega
  simp [this]
section
variable {sl:List Slot} {most:Bool} {i:Nat}
theorem C7 {b:Int} (h:¬ (sl.getD i default).s=1):a2j sl most b i=false:=by simp only [a2j,decide_eq_false h,Bool.false_and]
theorem C8 {b:Int} (h:(sl.getD i default).s=1) (hb:b < 0):a2j sl most b i=true:=by simp only [a2j,decide_eq_true h,decide_eq_true hb,Bool.true_or,Bool.true_and]
theorem u6 {b:Int} (h:(sl.getD i default).s=1) (hb:¬ b < 0):a2j sl most b i=(if most then lessW (wOf (sl.getD i default)) (wOf (sl.getD b.toNat default)) else lessW (wOf (sl.getD b.toNat default)) (wOf (sl.getD i default))):=by
 simp only [a2j,decide_eq_true h,decide_eq_false hb,Bool.false_or,Bool.true_and]
theorem a5H {α:Type} {f:α→List Value} {l:List α} {i:Nat} {x:α}:(l.map f).set i (f x)=(l.set i x).map f:=by rw [List.map_set]
end
def a9H (wa:List Wtr) (w:Wtr):Nat:=(wa.takeWhile (fun x=>lessW x w)).length
theorem b1G {wa:List Wtr} {w:Wtr} {i:Nat} (h:∀ j,j < i→lessW (wa.getD j default) w=true) (hi:i≤wa.length) (he:i=wa.length∨(i < wa.length∧lessW (wa.getD i default) w=false)):a9H wa w=i:=by
 unfold a9H
 induction wa generalizing i with
 | nil=>simp at hi;simp [hi]
 | cons x wa ih =>
  cases i with
  | zero =>
   rcases he with he | ⟨_,he⟩
   ·simp at he
   ·have he:lessW x w=false:=he
    simp [he]
  | succ i =>
   have h0:lessW x w=true:=h 0 (by omega)
   rw [List.takeWhile_cons,if_pos h0,List.length_cons]
   congr 1
   refine ih (fun j hj=>by simpa using h (j+1) (by omega)) (by simpa using hi) ?_
   rcases he with he | ⟨g1,g2⟩
   ·left;simpa using he
   ·right;exact ⟨by simpa using g1,by simpa using g2⟩
theorem b1H {wa:List Wtr} {w:Wtr}:a9H wa w≤wa.length:=(List.takeWhile_sublist _).length_le
def insW (wa:List Wtr) (w:Wtr):List Wtr:=wa.take (a9H wa w)++[w]++wa.drop (a9H wa w)
theorem a5d {wa:List Wtr} {w:Wtr}:(insW wa w).length=wa.length+1:=by
 have:=@b1H wa w
 simp [insW];omega
theorem a8R {wa:List Wtr} {w:Wtr} {i:Nat} (h:∀ j,j < i→lessW (wa.getD j default) w=true) (hi:i≤wa.length) (he:i=wa.length∨(i < wa.length∧lessW (wa.getD i default) w=false)):insW wa w=wa.take i++[w]++wa.drop i:=by
 unfold insW
 rw [b1G h hi he]
def inW (wa:List Wtr) (q:Int):Int:=S4 (fun j=>decide ((wa.getD j default).q=q)) wa.length
theorem b2Y {wa:List Wtr} {q:Int}:-1≤inW wa q∧inW wa q < wa.length:=by
 have:=@a78 (fun j=>decide ((wa.getD j default).q=q)) wa.length
 unfold inW
 omega
def setd (q:Que):Bool:=decide (q.wa.length=0) || (decide (freS q.sl < 0) && (decide (bstS q.sl false < 0) || lessW (wOf (q.sl.getD (bstS q.sl false).toNat default)) (q.wa.getD 0 default)))
def oneWa (sl:List Slot) (wa:List Wtr) (i:Nat):Bool:=u4 (wa.getD i default).q 0 7 && (u4 (wa.getD i default).p 0 15 && (decide (o9 sl (wa.getD i default).q < 0) && (!(a0F i (fun j=>decide ((wa.getD j default).q=(wa.getD i default).q))) && (decide (i=0) || lessW (wa.getD (i - 1) default) (wa.getD i default)))))
def b1I (sl:List Slot) (wa:List Wtr):Bool:=I0 wa.length (oneWa sl wa)
def a5e (q:Que):Bool:=a2X q.sl && b1I q.sl q.wa
def a7s (q:Que):Bool:=a5e q && setd q
theorem I3 {sl:List Slot} {wa:List Wtr} {i:Nat}:oneWa sl wa i=true↔(0≤(wa.getD i default).q∧(wa.getD i default).q≤7)∧(0≤(wa.getD i default).p∧(wa.getD i default).p≤15)∧o9 sl (wa.getD i default).q < 0∧(∀ j,j < i→(wa.getD j default).q≠(wa.getD i default).q)∧(i=0∨lessW (wa.getD (i - 1) default) (wa.getD i default)=true):=by
 simp only [oneWa,Bool.and_eq_true,p6,decide_eq_true_eq,Bool.not_eq_true',Y3,decide_eq_false_iff_not,Bool.or_eq_true,ne_eq]
theorem b1J {sl:List Slot} {wa:List Wtr} {i:Nat} (h:¬ ((0≤(wa.getD i default).q∧(wa.getD i default).q≤7)∧(0≤(wa.getD i default).p∧(wa.getD i default).p≤15)∧o9 sl (wa.getD i default).q < 0∧(∀ j,j < i→(wa.getD j default).q≠(wa.getD i default).q)∧(i=0∨lessW (wa.getD (i - 1) default) (wa.getD i default)=true))):oneWa sl wa i=false:=by
 rw [← Bool.not_eq_true,I3];exact h
theorem b2Z {q:Que} (h:a2X q.sl=false):a5e q=false:=by unfold a5e;rw [h,Bool.false_and]
theorem b20 {q:Que} {i:Nat} (h:oneWa q.sl q.wa i=false) (hi:i < q.wa.length):a5e q=false:=by unfold a5e b1I;rw [L9 h hi,Bool.and_false]
theorem b21 {q:Que} {i:Nat} (h1:a2X q.sl=true) (h:∀ j,j < i→oneWa q.sl q.wa j=true) (hi:q.wa.length≤i):a5e q=true:=by unfold a5e b1I;rw [h1,P6 h hi];rfl
theorem a79:∀ (n:Nat) (f:Nat→Int) (k:Nat),(∀ i,i < n→0≤f i∧f i < k)→(∀ i j,i < j→j < n→f i≠f j)→n≤k
 | n,f,0,h,_=>by
  rcases Nat.eq_zero_or_pos n with h0 | h0
  ·omega
  ·have:=h 0 h0;omega
 | n,f,k+1,h,hd=>by
  by_cases hx:∃ i,i < n∧f i=k
  ·obtain ⟨i,hi,hk⟩:=hx
   have:=a79 (n - 1) (fun j=>if j < i then f j else f (j+1)) k (fun j hj=>by
    split
    ·next hlt=>have:=h j (by omega);have:=hd j i hlt hi;omega
    ·next hge=>have:=h (j+1) (by omega);have:=hd i (j+1) (by omega) (by omega);omega) (fun a b hab hb=>by
    split
    ·next h1 =>
     split
     ·exact hd a b hab (by omega)
     ·exact hd a (b+1) (by omega) (by omega)
    ·next h1 =>
     rw [if_neg (by omega)]
     exact hd (a+1) (b+1) (by omega) (by omega))
   omega
  ·have:=a79 n f k (fun i hi=>by
    have h1:=h i hi
    have h2:f i≠k:=fun e=>hx ⟨i,hi,e⟩
    omega) hd
   omega
theorem a6B {sl:List Slot} {wa:List Wtr} {n:Nat} (h:∀ j,j < n→oneWa sl wa j=true):n≤8 :=
 a79 n (fun i=>(wa.getD i default).q) 8 (fun i hi=>by have:=(I3.mp (h i hi)).1;omega) (fun i j hij hj=>(I3.mp (h j hj)).2.2.2.1 i hij)
structure PaF (q:Que):Prop where
 sl:SlF q.sl
 wn:q.wa.length≤8
 wa:∀ i,i < q.wa.length→oneWa q.sl q.wa i=true
theorem paF {q:Que}:a5e q=true↔PaF q:=by
 unfold a5e b1I
 rw [Bool.and_eq_true,w8]
 exact ⟨fun h=>⟨slF.mp h.1,a6B h.2,h.2⟩,fun h=>⟨slF.mpr h.sl,h.wa⟩⟩
theorem a5f {α:Type} {xs:List α} {f:α→List Value} {i:Nat}:((xs.map f).drop ((i:Int)).toNat).take (((xs.map f).length:Int).toNat - ((i:Int)).toNat)=(xs.drop i).map f:=by
 rw [Int.toNat_natCast,Int.toNat_natCast,List.take_of_length_le (by rw [List.length_drop];exact Nat.le_refl _),List.map_drop]
theorem a5g {q:Que} (h:q.wa.length=0):setd q=true:=by unfold setd;rw [decide_eq_true h,Bool.true_or]
theorem a8a {q:Que} (h:¬ q.wa.length=0) (h2:0≤freS q.sl):setd q=false:=by unfold setd;rw [decide_eq_false h,decide_eq_false (by omega)];rfl
theorem a8b {q:Que} (h2:freS q.sl < 0) (h3:bstS q.sl false < 0):setd q=true:=by unfold setd;rw [decide_eq_true h2,decide_eq_true h3];simp
theorem a6C {q:Que} (h:¬ q.wa.length=0) (h2:freS q.sl < 0) (h3:¬ bstS q.sl false < 0):setd q=lessW (wOf (q.sl.getD (bstS q.sl false).toNat default)) (q.wa.getD 0 default):=by unfold setd;rw [decide_eq_false h,decide_eq_true h2,decide_eq_false h3];simp
theorem a1O {sl:List Slot} {most:Bool}:-1≤bstS sl most∧bstS sl most < sl.length:=a0I _
theorem a8S {sl:List Slot} {most:Bool} {i:Nat} (h:sl.length=i):G1 sl most i=bstS sl most:=by subst h;rfl
theorem b0z {sl:List Slot} {wa:List Wtr} {i:Nat} (hs:a2X sl=true) (h:∀ j,j < i→oneWa sl wa j=true) (hi:wa.length≤i∨8 < i) (hn:i≤wa.length):decide ((wa.length:Int)≤8)=a5e ⟨sl,wa⟩:=by
 have h8:=a6B h
 rw [b21 (q:=⟨sl,wa⟩) hs h (show wa.length≤i by omega)]
 simp;omega
end Go.Rf
namespace Go.Rf
open Go
def a01 (sl:List Slot) (lim:Int):Bool:=decide (0≤bstS sl true) && decide ((sl.getD (bstS sl true).toNat default).p < lim)
def tkS (sl:List Slot):List Slot:=sl.set (bstS sl true).toNat ⟨2,(sl.getD (bstS sl true).toNat default).q,(sl.getD (bstS sl true).toNat default).p⟩
def tkI (sl:List Slot):Int:=(sl.getD (bstS sl true).toNat default).q
section
variable {sl:List Slot} {lim irq p:Int}
theorem H5:a01 sl lim=true↔0≤bstS sl true∧(sl.getD (bstS sl true).toNat default).p < lim:=by simp [a01]
theorem a4B:a01 sl lim=false↔¬ (0≤bstS sl true∧(sl.getD (bstS sl true).toNat default).p < lim):=by rw [← Bool.not_eq_true,H5]
def ptS (sl:List Slot) (irq:Int):List Slot:=sl.set (o9 sl irq).toNat ⟨if (sl.getD (o9 sl irq).toNat default).s=2 then 3 else (sl.getD (o9 sl irq).toNat default).s,(sl.getD (o9 sl irq).toNat default).q,(sl.getD (o9 sl irq).toNat default).p⟩
def edX (sl:List Slot) (irq:Int):Slot:=if (sl.getD (o9 sl irq).toNat default).s=3 then ⟨1,irq,(sl.getD (o9 sl irq).toNat default).p⟩ else zSl
def edS (sl:List Slot) (irq:Int):List Slot:=sl.set (o9 sl irq).toNat (edX sl irq)
def H6 (x:Slot):Bool:=decide (x.s=2) || decide (x.s=3)
theorem r9 {x:Slot}:H6 x=true↔x.s=2∨x.s=3:=by simp [H6]
theorem b4l (h:0≤o9 sl irq):(sl.getD (o9 sl irq).toNat default).q=irq∧(sl.getD (o9 sl irq).toNat default).s≠0:=by
 rcases @a55 sl irq with ⟨h1,_⟩ | ⟨i,h1,_,h3,h4⟩
 ·omega
 ·rw [h1];exact ⟨by simpa using h4,by simpa using h3⟩
end
def stK (q:Que):Nat:=if freS q.sl < 0 then (bstS q.sl false).toNat else (freS q.sl).toNat
def stW (q:Que):List Wtr:=if freS q.sl < 0 then insW (q.wa.drop 1) (wOf (q.sl.getD (bstS q.sl false).toNat default)) else q.wa.drop 1
def stQ (q:Que):Que:=⟨q.sl.set (stK q) ⟨1,(q.wa.getD 0 default).q,(q.wa.getD 0 default).p⟩,stW q⟩
def wtS (x:Slot):Nat:=if x.s=0 then 2000 else if x.s=1 then (8 * x.p+x.q).toNat else 0
def phi (q:Que):Nat:=(q.sl.map wtS).sum
def a02:Nat→Que→Que
 | 0,q=>q
 | n+1,q=>if setd q then q else a02 n (stQ q)
def a03 (q:Que):Que:=a02 (phi q+1) q
def ltW (a b:Wtr):Prop:=lessW a b=true∧a.q≠b.q
structure QF (q:Que):Prop where
 sl:SlF q.sl
 wn:q.wa.length≤9
 wa:∀ w∈q.wa,(0≤w.q∧w.q≤7)∧(0≤w.p∧w.p≤15)∧∀ x∈q.sl,x.s≠0→x.q≠w.q
 pw:q.wa.Pairwise ltW
theorem e7 {α:Type} [Inhabited α] {l:List α} {x:α}:x∈l↔∃ i,i < l.length∧l.getD i default=x:=by
 constructor
 ·intro h
  obtain ⟨i,hi,e⟩:=List.getElem_of_mem h
  exact ⟨i,hi,by rw [List.getD_eq_getElem?_getD,List.getElem?_eq_getElem hi];exact e⟩
 ·rintro ⟨i,hi,e⟩
  rw [List.getD_eq_getElem?_getD,List.getElem?_eq_getElem hi] at e
  rw [← e];exact List.getElem_mem hi
theorem a4C {α:Type} [Inhabited α] {l:List α} {R:α→α→Prop}:l.Pairwise R↔∀ i j,i < j→j < l.length→R (l.getD i default) (l.getD j default):=by
 rw [List.pairwise_iff_getElem]
 constructor
 ·intro h i j hij hj
  have:=h i j (by omega) hj hij
  rw [List.getD_eq_getElem?_getD,List.getD_eq_getElem?_getD,List.getElem?_eq_getElem (show i < l.length by omega),List.getElem?_eq_getElem hj]
  exact this
 ·intro h i j hi hj hij
  have:=h i j hij hj
  rw [List.getD_eq_getElem?_getD,List.getD_eq_getElem?_getD,List.getElem?_eq_getElem hi,List.getElem?_eq_getElem hj] at this
  exact this
theorem b1K {sl:List Slot} {irq:Int}:o9 sl irq < 0↔∀ j,j < sl.length→¬ ((sl.getD j default).s≠0∧(sl.getD j default).q=irq):=by
 unfold o9
 rw [a8Q,Y3]
 constructor
 ·intro h j hj g;have:=h j hj;rw [S7.mpr g] at this;cases this
 ·intro h j hj;rw [← Bool.not_eq_true,S7];exact h j hj
theorem a2Z {sl:List Slot} {irq:Int}:o9 sl irq < 0↔∀ x∈sl,x.s≠0→x.q≠irq:=by
 rw [b1K]
 constructor
 ·intro h x hx h0 h1
  obtain ⟨i,hi,rfl⟩:=e7.mp hx
  exact h i hi ⟨h0,h1⟩
 ·intro h j hj g
  exact h _ (e7.mpr ⟨j,hj,rfl⟩) g.1 g.2
theorem PaF.q {q:Que} (h:PaF q):QF q:=by
 refine ⟨h.sl,Nat.le_succ_of_le h.wn,fun w hw=>?_,a4C.mpr ?_⟩
 ·obtain ⟨i,hi,rfl⟩:=e7.mp hw
  obtain ⟨h1,h2,h3,_⟩:=I3.mp (h.wa i hi)
  exact ⟨h1,h2,a2Z.mp h3⟩
 ·intro i j hij hj
  refine ⟨?_,(I3.mp (h.wa j hj)).2.2.2.1 i hij⟩
  induction j with
  | zero=>omega
  | succ j ih =>
   have hlast:lessW (q.wa.getD j default) (q.wa.getD (j+1) default)=true:=by
    rcases (I3.mp (h.wa (j+1) hj)).2.2.2.2 with g | g
    ·omega
    ·exact g
   by_cases e:i=j
   ·subst e;exact hlast
   ·exact N4 (ih (by omega) (by omega)) hlast
theorem QF.pa {q:Que} (h:QF q):PaF q:=by
 have hp:=a4C.mp h.pw
 have h8:∀ i,i < q.wa.length→oneWa q.sl q.wa i=true:=fun i hi=>by
  obtain ⟨h1,h2,h3⟩:=h.wa _ (e7.mpr ⟨i,hi,rfl⟩)
  refine I3.mpr ⟨h1,h2,a2Z.mpr h3,fun j hj=>(hp j i hj hi).2,?_⟩
  rcases Nat.eq_zero_or_pos i with g | g
  ·exact .inl g
  ·exact .inr (hp (i - 1) i (by omega) hi).1
 exact ⟨h.sl,a6B h8,h8⟩
theorem QF.wn8 {q:Que} (h:QF q):q.wa.length≤8:=h.pa.wn
theorem v9 {α:Type} [Inhabited α] {l:List α} {i j:Nat} {x:α} (hi:i < l.length):(l.set i x).getD j default=if i=j then x else l.getD j default:=by
 rw [List.getD_eq_getElem?_getD,List.getElem?_set]
 by_cases e:i=j
 ·subst e;simp [hi]
 ·simp [e]
theorem SlF.set {sl:List Slot} (h:SlF sl) {k:Nat} {x:Slot} (hk:k < 4) (hx:(1≤x.s∧x.s≤3)∧(0≤x.q∧x.q≤7)∧0≤x.p∧x.p≤15) (hq:∀ j,j < 4→j≠k→(sl.getD j default).s≠0→(sl.getD j default).q≠x.q):SlF (sl.set k x):=by
 have hl:k < sl.length:=by rw [h.len];exact hk
 refine ⟨by rw [List.length_set];exact h.len,fun i hi=>?_,fun i hi=>?_,fun i j hij hj=>?_⟩
 ·rw [v9 hl];split
  ·intro e;omega
  ·exact h.z i hi
 ·rw [v9 hl];split
  ·intro _;exact hx
  ·exact h.ok i hi
 ·rw [v9 hl,v9 hl]
  by_cases e1:k=i
  ·rw [if_pos e1,if_neg (by omega)]
   intro _ h2 e;exact hq j hj (by omega) h2 e.symm
  ·rw [if_neg e1]
   by_cases e2:k=j
   ·rw [if_pos e2];intro h1 _;exact hq i (by omega) (by omega) h1
   ·rw [if_neg e2];exact h.dif i j hij hj
theorem SlF.setZ {sl:List Slot} (h:SlF sl) {k:Nat} (hk:k < 4):SlF (sl.set k zSl):=by
 have hl:k < sl.length:=by rw [h.len];exact hk
 refine ⟨by rw [List.length_set];exact h.len,fun i hi=>?_,fun i hi=>?_,fun i j hij hj=>?_⟩
 ·rw [v9 hl];split
  ·intro _;rfl
  ·exact h.z i hi
 ·rw [v9 hl];split
  ·intro e;exact absurd rfl e
  ·exact h.ok i hi
 ·rw [v9 hl,v9 hl]
  split
  ·intro e;exact absurd rfl e
  ·split
   ·intro _ e;exact absurd rfl e
   ·exact h.dif i j hij hj
theorem b1L {α:Type} {A B l:List α} (h:A++B=l):l.take A.length=A∧l.drop A.length=B:=by subst h;simp
theorem b0A {α:Type} {p:α→Bool} {x:α}:∀ {l:List α},x∈l.takeWhile p→p x=true
 | [],h=>by simp at h
 | y :: l,h=>by
  rw [List.takeWhile_cons] at h
  split at h
  ·next hy =>
   rcases List.mem_cons.mp h with rfl | h
   ·exact hy
   ·exact b0A h
  ·cases h
theorem a8T {wa:List Wtr} {w:Wtr}:insW wa w=wa.takeWhile (fun x=>lessW x w)++[w]++wa.dropWhile (fun x=>lessW x w):=by
 have h:=List.takeWhile_append_dropWhile (p:=fun x=>lessW x w) (l:=wa)
 unfold insW a9H
 obtain ⟨e1,e2⟩:=b1L h
 rw [e1,e2]
theorem a1k {wa:List Wtr} {w x:Wtr}:x∈insW wa w↔x=w∨x∈wa:=by
 have h:=List.takeWhile_append_dropWhile (p:=fun x=>lessW x w) (l:=wa)
 rw [a8T]
 have:x∈wa↔x∈wa.takeWhile (fun x=>lessW x w)∨x∈wa.dropWhile (fun x=>lessW x w):=by
  conv=>lhs;rw [← h]
  exact List.mem_append
 simp only [List.mem_append,List.mem_singleton,this]
 constructor
 ·rintro ((h | h) | h)
  ·exact .inr (.inl h)
  ·exact .inl h
  ·exact .inr (.inr h)
 ·rintro (h | h | h)
  ·exact .inl (.inr h)
  ·exact .inl (.inl h)
  ·exact .inr h
theorem a8U {wa:List Wtr} {w:Wtr} (h:wa.Pairwise ltW) (hd:∀ x∈wa,x.q≠w.q):(insW wa w).Pairwise ltW:=by
 rw [a8T]
 have hs:=List.takeWhile_append_dropWhile (p:=fun x=>lessW x w) (l:=wa)
 have hp:(wa.takeWhile (fun x=>lessW x w)++wa.dropWhile (fun x=>lessW x w)).Pairwise ltW:=by rw [hs];exact h
 obtain ⟨p1,p2,p3⟩:=List.pairwise_append.mp hp
 have t1:∀ x∈wa.takeWhile (fun x=>lessW x w),ltW x w:=fun x hx=>by
  refine ⟨?_,hd x (by rw [← hs];exact List.mem_append_left _ hx)⟩
  exact b0A (p:=fun x=>lessW x w) hx
 have t2:∀ x∈wa.dropWhile (fun x=>lessW x w),ltW w x:=by
  cases hdw:wa.dropWhile (fun x=>lessW x w) with
  | nil=>intro x hx;cases hx
  | cons y r =>
   have hy:lessW y w=false:=by
    have:=List.head?_dropWhile_not (fun x=>lessW x w) wa
    rw [hdw] at this
    simpa using this
   have hyq:y.q≠w.q:=hd y (by rw [← hs,hdw];simp)
   have hwy:ltW w y:=⟨by rw [a1N (Ne.symm hyq),hy];rfl,Ne.symm hyq⟩
   rw [hdw] at p2
   intro x hx
   rcases List.mem_cons.mp hx with rfl | hx
   ·exact hwy
   ·have:=(List.pairwise_cons.mp p2).1 x hx
    exact ⟨N4 hwy.1 this.1,Ne.symm (hd x (by rw [← hs,hdw];simp [hx]))⟩
 rw [List.append_assoc]
 refine List.pairwise_append.mpr ⟨p1,List.pairwise_append.mpr ⟨List.pairwise_singleton _ _,p2,fun a ha b hb=>?_⟩,fun a ha b hb=>?_⟩
 ·rw [List.mem_singleton.mp ha];exact t2 b hb
 ·rcases List.mem_append.mp hb with hb | hb
  ·rw [List.mem_singleton.mp hb];exact t1 a ha
  ·exact p3 a ha b hb
theorem a8V {α:Type} [Inhabited α] {f:α→Nat} {x:α}:∀ {l:List α} {k:Nat},k < l.length→((l.set k x).map f).sum+f (l.getD k default)=(l.map f).sum+f x
 | [],k,h=>by simp at h
 | y :: l,0,_=>by simp;omega
 | y :: l,k+1,h=>by
  have:=a8V (f:=f) (x:=x) (l:=l) (k:=k) (by simpa using h)
  simp only [List.set_cons_succ,List.map_cons,List.sum_cons,List.getD_cons_succ]
  omega
theorem S8 {α:Type} [Inhabited α] {l:List α} {k:Nat} {x y:α} (hk:k < l.length) (h:y∈l.set k x):y=x∨∃ j,j < l.length∧j≠k∧l.getD j default=y:=by
 obtain ⟨j,hj,e⟩:=e7.mp h
 rw [List.length_set] at hj
 rw [v9 hk] at e
 by_cases hjk:k=j
 ·rw [if_pos hjk] at e;exact .inl e.symm
 ·rw [if_neg hjk] at e;exact .inr ⟨j,hj,Ne.symm hjk,e⟩
theorem C1 {sl:List Slot} {most:Bool} (h:0≤bstS sl most):∃ k:Nat,bstS sl most=k∧k < sl.length∧(sl.getD k default).s=1:=by
 have hb:=@a1O sl most
 refine ⟨(bstS sl most).toNat,by omega,by omega,a1j _ h⟩
structure NotSet (q:Que) (k:Nat) (w:Wtr) (r:List Wtr):Prop where
 wa:q.wa=w :: r
 kn:stK q=k
 kl:k < 4
 st:(freS q.sl=k∧(q.sl.getD k default).s=0∧stW q=r)∨(freS q.sl < 0∧bstS q.sl false=k∧(q.sl.getD k default).s=1∧lessW w (wOf (q.sl.getD k default))=true∧stW q=insW r (wOf (q.sl.getD k default)))
theorem a6D {q:Que} (h:QF q) (hs:setd q=false):∃ k w r,NotSet q k w r:=by
 have h0:q.wa.length≠0:=fun e=>by rw [a5g e] at hs;cases hs
 obtain ⟨w,r,hw⟩:∃ w r,q.wa=w :: r:=by
  cases hq:q.wa with
  | nil=>rw [hq] at h0;exact absurd rfl h0
  | cons w r=>exact ⟨w,r,rfl⟩
 rcases @a56 q.sl with ⟨f1,f2⟩ | ⟨i,f1,f2,f3⟩
 ·have hb:0≤bstS q.sl false:=by
   rcases Int.lt_or_le (bstS q.sl false) 0 with g | g
   ·rw [a8b (by omega) g] at hs;cases hs
   ·exact g
  rw [a6C h0 (by omega) (by omega)] at hs
  obtain ⟨k,hk,hkl,hk1⟩:=C1 hb
  have hkn:(bstS q.sl false).toNat=k:=by omega
  rw [hkn,hw] at hs
  have hs:lessW (wOf (q.sl.getD k default)) w=false:=hs
  have hne:(wOf (q.sl.getD k default)).q≠w.q:=(h.wa w (by rw [hw];simp)).2.2 _ (e7.mpr ⟨k,hkl,rfl⟩) (by omega)
  refine ⟨k,w,r,hw,by unfold stK;rw [if_pos (by omega),hkn],by rw [← h.sl.len];exact hkl,.inr ⟨by omega,hk,hk1,?_,?_⟩⟩
  ·rw [a1N (Ne.symm hne),hs];rfl
  ·unfold stW;rw [if_pos (by omega),hkn,hw];rfl
 ·exact ⟨i,w,r,hw,by unfold stK;rw [if_neg (by omega),f1];rfl,by rw [← h.sl.len];exact f2,.inl ⟨f1,f3,by unfold stW;rw [if_neg (by omega),hw];rfl⟩⟩
theorem NotSet.eq {q:Que} {k:Nat} {w:Wtr} {r:List Wtr} (n:NotSet q k w r):stQ q=⟨q.sl.set k ⟨1,w.q,w.p⟩,stW q⟩:=by
 unfold stQ;rw [n.kn,n.wa];rfl
theorem a57 {q:Que} (h:QF q) (hs:setd q=false):QF (stQ q)∧phi (stQ q) < phi q:=by
 obtain ⟨k,w,r,n⟩:=a6D h hs
 rw [n.eq]
 have hl:k < q.sl.length:=by rw [h.sl.len];exact n.kl
 obtain ⟨hw1,hw2,hw3⟩:=h.wa w (by rw [n.wa];simp)
 have hpw:=h.pw
 rw [n.wa] at hpw
 obtain ⟨hp1,hp2⟩:=List.pairwise_cons.mp hpw
 have hrm:∀ v∈r,v∈q.wa:=fun v hv=>by rw [n.wa];simp [hv]
 have hsum:=a8V (f:=wtS) (x:=(⟨1,w.q,w.p⟩:Slot)) hl
 have hwt:wtS ⟨1,w.q,w.p⟩=(8 * w.p+w.q).toNat:=rfl
 have hsl:SlF (q.sl.set k ⟨1,w.q,w.p⟩):=h.sl.set n.kl ⟨⟨by show (1:Int)≤1;omega,by show (1:Int)≤3;omega⟩,hw1,hw2⟩ (fun j hj hjk h0=>hw3 _ (e7.mpr ⟨j,by rw [h.sl.len];exact hj,rfl⟩) h0)
 rcases n.st with ⟨f1,f2,f3⟩ | ⟨f0,f1,f2,f3,f4⟩
 ·rw [f3]
  refine ⟨⟨hsl,by have:=h.wn;rw [n.wa] at this;simp at this;show r.length≤9;omega,fun v hv=>?_,hp2⟩,?_⟩
  ·obtain ⟨g1,g2,g3⟩:=h.wa v (hrm v hv)
   refine ⟨g1,g2,fun x hx h0=>?_⟩
   rcases S8 hl hx with rfl | ⟨j,hj,_,rfl⟩
   ·exact (hp1 v hv).2
   ·exact g3 _ (e7.mpr ⟨j,hj,rfl⟩) h0
  ·have:wtS (q.sl.getD k default)=2000:=by unfold wtS;rw [if_pos f2]
   show ((q.sl.set k ⟨1,w.q,w.p⟩).map wtS).sum < (q.sl.map wtS).sum
   omega
 ·rw [f4]
  have hb:=h.sl.ok k n.kl (by omega)
  refine ⟨⟨hsl,?_,fun v hv=>?_,a8U hp2 fun x hx=>?_⟩,?_⟩
  ·have:=h.wn;rw [n.wa] at this;simp at this
   show (insW r _).length≤9
   rw [a5d];omega
  ·rcases a1k.mp hv with rfl | hv
   ·refine ⟨hb.2.1,hb.2.2,fun x hx h0=>?_⟩
    rcases S8 hl hx with rfl | ⟨j,hj,hjk,rfl⟩
    ·exact fun e=>hw3 _ (e7.mpr ⟨k,hl,rfl⟩) (by omega) e.symm
    ·intro e
     have h4:=h.sl.len
     rcases Nat.lt_or_ge j k with g | g
     ·exact h.sl.dif j k g n.kl h0 (by omega) e
     ·exact h.sl.dif k j (by omega) (by omega) (by omega) h0 e.symm
   ·obtain ⟨g1,g2,g3⟩:=h.wa v (hrm v hv)
    refine ⟨g1,g2,fun x hx h0=>?_⟩
    rcases S8 hl hx with rfl | ⟨j,hj,_,rfl⟩
    ·exact (hp1 v hv).2
    ·exact g3 _ (e7.mpr ⟨j,hj,rfl⟩) h0
  ·exact fun e=>(h.wa x (hrm x hx)).2.2 _ (e7.mpr ⟨k,hl,rfl⟩) (by omega) e.symm
  ·have:wtS (q.sl.getD k default)=(8 * (q.sl.getD k default).p+(q.sl.getD k default).q).toNat:=by unfold wtS;rw [if_neg (by omega),if_pos f2]
   rw [N3] at f3
   have f3:w.p < (q.sl.getD k default).p∨(w.p=(q.sl.getD k default).p∧w.q < (q.sl.getD k default).q):=f3
   show ((q.sl.set k ⟨1,w.q,w.p⟩).map wtS).sum < (q.sl.map wtS).sum
   omega
theorem a58:∀ {n m:Nat} {q:Que},QF q→phi q < n→phi q < m→a02 n q=a02 m q
 | n+1,m+1,q,h,h1,h2=>by
  unfold a02
  cases hs:setd q
  ·obtain ⟨g1,g2⟩:=a57 h hs
   simp only [Bool.false_eq_true,if_false]
   exact a58 g1 (by omega) (by omega)
  ·rfl
theorem a9I {q:Que} (h:QF q) (hs:setd q=false):a03 q=a03 (stQ q):=by
 obtain ⟨g1,g2⟩:=a57 h hs
 unfold a03
 rw [show a02 (phi q+1) q=a02 (phi q) (stQ q) by conv=>lhs;unfold a02;rw [hs];simp]
 exact a58 g1 (by omega) (by omega)
theorem a9J {q:Que} (hs:setd q=true):a03 q=q:=by unfold a03 a02;rw [hs];rfl
theorem a8W:∀ {n:Nat} {q:Que},QF q→phi q < n→QF (a02 n q)∧setd (a02 n q)=true
 | n+1,q,h,h1=>by
  unfold a02
  cases hs:setd q
  ·obtain ⟨g1,g2⟩:=a57 h hs
   simp only [Bool.false_eq_true,if_false]
   exact a8W g1 (by omega)
  ·simp only [if_true];exact ⟨h,hs⟩
theorem a8X {q:Que} (h:QF q):QF (a03 q)∧setd (a03 q)=true:=a8W h (Nat.lt_succ_self _)
theorem a5h {q:Que}:a7s q=true↔QF q∧setd q=true:=by
 unfold a7s
 rw [Bool.and_eq_true,paF]
 exact ⟨fun h=>⟨h.1.q,h.2⟩,fun h=>⟨h.1.pa,h.2⟩⟩
def actL (sl:List Slot):List Wtr:=(sl.filter H6).map wOf
theorem a7t {sl:List Slot}:∀ {k:Nat} {x:Slot},k < sl.length→H6 x=H6 (sl.getD k default)→(H6 x=true→wOf x=wOf (sl.getD k default))→actL (sl.set k x)=actL sl:=by
 unfold actL
 induction sl with
 | nil=>intro k x hk;simp at hk
 | cons y sl ih =>
  intro k x hk h1 h2
  cases k with
  | zero =>
   simp only [List.set_cons_zero,List.filter_cons]
   have h1:H6 x=H6 y:=h1
   have h2:H6 x=true→wOf x=wOf y:=h2
   rw [h1]
   cases hy:H6 y
   ·simp
   ·rw [hy] at h1
    simp [h2 h1]
  | succ k =>
   have:=ih (k:=k) (x:=x) (by simpa using hk) (by simpa using h1) (by simpa using h2)
   simp only [List.set_cons_succ,List.filter_cons]
   split
   ·simp only [List.map_cons,this]
   ·exact this
theorem w3 {sl:List Slot} {w:Wtr}:w∈actL sl↔∃ x∈sl,H6 x=true∧wOf x=w:=by
 simp [actL,and_assoc]
theorem b1M {q:Que} (h:QF q) (hs:setd q=false):actL (stQ q).sl=actL q.sl:=by
 obtain ⟨k,w,r,n⟩:=a6D h hs
 rw [n.eq]
 have hl:k < q.sl.length:=by rw [h.sl.len];exact n.kl
 refine a7t hl ?_ (fun g=>?_)
 ·have:H6 (q.sl.getD k default)=false:=by
   rcases n.st with ⟨_,f,_⟩ | ⟨_,_,f,_⟩<;>rw [← Bool.not_eq_true,r9]<;>omega
  rw [this];rfl
 ·cases g
theorem a7u:∀ {n:Nat} {q:Que},QF q→actL (a02 n q).sl=actL q.sl
 | 0,q,_=>rfl
 | n+1,q,h=>by
  unfold a02
  cases hs:setd q
  ·simp only [Bool.false_eq_true,if_false]
   rw [a7u (a57 h hs).1,b1M h hs]
  ·rfl
theorem a5i {q:Que} (h:QF q):actL (a03 q).sl=actL q.sl:=a7u h
def a2l (q:Que) (irq p:Int):Que:=if 0≤o9 q.sl irq then ⟨ptS q.sl irq,q.wa⟩ else if 0≤inW q.wa irq then q else ⟨q.sl,insW q.wa ⟨irq,p⟩⟩
def a0J (q:Que) (irq p:Int):Que:=a03 (a2l q irq p)
theorem V6 {sl:List Slot} {irq:Int} (h:0≤o9 sl irq):∃ k:Nat,o9 sl irq=k∧k < sl.length∧(sl.getD k default).s≠0∧(sl.getD k default).q=irq:=by
 rcases @a55 sl irq with ⟨g,_⟩ | g
 ·omega
 ·exact g
theorem SlF.upd {sl:List Slot} (h:SlF sl) {k:Nat} (hk:k < 4) {s':Int} (h0:(sl.getD k default).s≠0) (hs:1≤s'∧s'≤3):SlF (sl.set k ⟨s',(sl.getD k default).q,(sl.getD k default).p⟩):=by
 refine h.set hk ⟨hs,(h.ok k hk h0).2⟩ (fun j hj hjk g=>?_)
 rcases Nat.lt_or_ge j k with e | e
 ·exact h.dif j k e hk g h0
 ·exact fun e'=>h.dif k j (by omega) hj h0 g e'.symm
theorem QF.slUpd {q:Que} (h:QF q) {k:Nat} (hk:k < 4) {s':Int} (h0:(q.sl.getD k default).s≠0) (hs:1≤s'∧s'≤3):QF ⟨q.sl.set k ⟨s',(q.sl.getD k default).q,(q.sl.getD k default).p⟩,q.wa⟩:=by
 refine ⟨h.sl.upd hk h0 hs,h.wn,fun w hw=>?_,h.pw⟩
 obtain ⟨g1,g2,g3⟩:=h.wa w hw
 refine ⟨g1,g2,fun x hx g=>?_⟩
 have hl:k < q.sl.length:=by rw [h.sl.len];exact hk
 rcases S8 hl hx with rfl | ⟨j,hj,_,rfl⟩
 ·exact g3 (q.sl.getD k default) (e7.mpr ⟨k,hl,rfl⟩) h0
 ·exact g3 _ (e7.mpr ⟨j,hj,rfl⟩) g
theorem a8Y {wa:List Wtr} {q:Int}:inW wa q < 0↔∀ w∈wa,w.q≠q:=by
 unfold inW
 rw [a8Q,Y3]
 constructor
 ·intro h w hw
  obtain ⟨i,hi,rfl⟩:=e7.mp hw
  exact of_decide_eq_false (h i hi)
 ·intro h j hj
  exact decide_eq_false (h _ (e7.mpr ⟨j,hj,rfl⟩))
theorem a8c {q:Que} {irq p:Int} (h:QF q) (hi:0≤irq∧irq≤7) (hp:0≤p∧p≤15):QF (a2l q irq p)∧actL (a2l q irq p).sl=actL q.sl:=by
 unfold a2l
 split
 ·next h1 =>
  obtain ⟨k,e1,e2,e3,e4⟩:=V6 h1
  have hk:k < 4:=by rw [← h.sl.len];exact e2
  unfold ptS
  rw [e1]
  simp only [Int.toNat_natCast]
  have hb:=(h.sl.ok k hk e3).1
  refine ⟨h.slUpd hk e3 ?_,a7t e2 ?_ (fun _=>rfl)⟩
  ·split<;>omega
  ·show H6 ⟨if (q.sl.getD k default).s=2 then 3 else (q.sl.getD k default).s,_,_⟩=_
   by_cases e:(q.sl.getD k default).s=2
   ·rw [if_pos e,show H6 (q.sl.getD k default)=true from r9.mpr (.inl e)];exact r9.mpr (.inr rfl)
   ·rw [if_neg e]
 split
 ·exact ⟨h,rfl⟩
 ·next h1 h2 =>
  have g1:=a2Z.mp (show o9 q.sl irq < 0 by omega)
  have g2:=a8Y.mp (show inW q.wa irq < 0 by omega)
  refine ⟨⟨h.sl,?_,fun w hw=>?_,a8U h.pw g2⟩,rfl⟩
  ·show (insW q.wa _).length≤9
   rw [a5d];have:=h.wn8;omega
  ·rcases a1k.mp hw with rfl | hw
   ·exact ⟨hi,hp,g1⟩
   ·exact h.wa w hw
theorem P8 {q:Que} {irq p:Int} (h:QF q) (hi:0≤irq∧irq≤7) (hp:0≤p∧p≤15):QF (a0J q irq p)∧setd (a0J q irq p)=true∧actL (a0J q irq p).sl=actL q.sl:=by
 obtain ⟨h1,h2⟩:=a8c h hi hp
 obtain ⟨h3,h4⟩:=a8X h1
 exact ⟨h3,h4,by unfold a0J;rw [a5i h1,h2]⟩
def a2m (q:Que):Que:=⟨tkS q.sl,q.wa⟩
theorem a8d {q:Que} (h:QF q) (hb:0≤bstS q.sl true):QF (a2m q):=by
 obtain ⟨k,e1,e2,e3⟩:=C1 hb
 have hk:k < 4:=by rw [← h.sl.len];exact e2
 unfold a2m tkS
 rw [e1]
 exact h.slUpd hk (by omega) (by omega)
def a3G (q:Que) (irq:Int):Que:=a03 ⟨edS q.sl irq,q.wa⟩
theorem a4D {q:Que} {irq:Int} (h:QF q) (hf:0≤o9 q.sl irq):QF ⟨edS q.sl irq,q.wa⟩:=by
 obtain ⟨k,e1,e2,e3,e4⟩:=V6 hf
 have hk:k < 4:=by rw [← h.sl.len];exact e2
 have e5:edX q.sl irq=if (q.sl.getD k default).s=3 then ⟨1,irq,(q.sl.getD k default).p⟩ else zSl:=by unfold edX;rw [e1];rfl
 unfold edS
 rw [e1,e5]
 split
 ·rw [← e4];exact h.slUpd hk e3 (by omega)
 ·refine ⟨h.sl.setZ hk,h.wn,fun w hw=>?_,h.pw⟩
  obtain ⟨g1,g2,g3⟩:=h.wa w hw
  refine ⟨g1,g2,fun x hx g=>?_⟩
  rcases S8 e2 hx with rfl | ⟨j,hj,_,rfl⟩
  ·exact absurd rfl g
  ·exact g3 _ (e7.mpr ⟨j,hj,rfl⟩) g
theorem a8e {q:Que} {irq:Int} (h:QF q) (hf:0≤o9 q.sl irq):QF (a3G q irq)∧setd (a3G q irq)=true:=a8X (a4D h hf)
theorem A8 {q:Que} (h:0≤freS q.sl):stQ q=⟨q.sl.set (freS q.sl).toNat ⟨1,(q.wa.getD 0 default).q,(q.wa.getD 0 default).p⟩,q.wa.drop 1⟩:=by
 unfold stQ stK stW
 rw [if_neg (by omega),if_neg (by omega)]
theorem F2 {q:Que} (h:freS q.sl < 0):stQ q=⟨q.sl.set (bstS q.sl false).toNat ⟨1,(q.wa.getD 0 default).q,(q.wa.getD 0 default).p⟩,insW (q.wa.drop 1) (wOf (q.sl.getD (bstS q.sl false).toNat default))⟩:=by
 unfold stQ stK stW
 rw [if_pos h,if_pos h]
theorem b1N {q:Que} (h:QF q) (hs:setd q=false):0 < q.wa.length∧(freS q.sl < 0→0≤bstS q.sl false):=by
 obtain ⟨k,w,r,n⟩:=a6D h hs
 refine ⟨by rw [n.wa];simp,fun g=>?_⟩
 rcases n.st with ⟨f,_⟩ | ⟨_,f,_⟩<;>omega
end Go.Rf
namespace Go.Rf
theorem b4m {xs:List Wtr}:((xs.map s6).drop (1:Int).toNat).take (((xs.map s6).length:Int).toNat - (1:Int).toNat)=(xs.drop 1).map s6:=by
 have h1:(1:Int).toNat=1:=rfl
 have h2:(((xs.map s6).length:Int)).toNat=(xs.map s6).length:=Int.toNat_natCast _
 rw [h1,h2,List.take_of_length_le (by rw [List.length_drop];exact Nat.le_refl _),List.map_drop]
end Go.Rf
namespace Go.Rf
open Go
def rnN (rs:List Route) (a:Abs) (ss:List MStep):Nat→Abs×List Int
 | 0=>(a,[])
 | i+1=>if (t4 rs (rnN rs a ss i).1 (ss.getD i default)).2.2 then ((t4 rs (rnN rs a ss i).1 (ss.getD i default)).1,if (ss.getD i default).k=3 then (rnN rs a ss i).2++[(t4 rs (rnN rs a ss i).1 (ss.getD i default)).2.1] else (rnN rs a ss i).2) else rnN rs a ss i
section
variable {rs:List Route} {a:Abs} {ss:List MStep}
theorem a1l {i:Nat}:rnN rs a ss (i+1)=if (t4 rs (rnN rs a ss i).1 (ss.getD i default)).2.2 then ((t4 rs (rnN rs a ss i).1 (ss.getD i default)).1,if (ss.getD i default).k=3 then (rnN rs a ss i).2++[(t4 rs (rnN rs a ss i).1 (ss.getD i default)).2.1] else (rnN rs a ss i).2) else rnN rs a ss i:=rfl
theorem m9 {i:Nat} (h:(t4 rs (rnN rs a ss i).1 (ss.getD i default)).2.2=false):rnN rs a ss (i+1)=rnN rs a ss i:=by rw [a1l,h];rfl
theorem v2 {i:Nat} (h:(t4 rs (rnN rs a ss i).1 (ss.getD i default)).2.2=true):(rnN rs a ss (i+1)).1=(t4 rs (rnN rs a ss i).1 (ss.getD i default)).1:=by rw [a1l,h];rfl
theorem w4 {i:Nat} (h:(t4 rs (rnN rs a ss i).1 (ss.getD i default)).2.2=true) (h3:(ss.getD i default).k=3):(rnN rs a ss (i+1)).2=(rnN rs a ss i).2++[(t4 rs (rnN rs a ss i).1 (ss.getD i default)).2.1]:=by rw [a1l,h,if_pos rfl,if_pos h3]
theorem s7 {i:Nat} (h:(t4 rs (rnN rs a ss i).1 (ss.getD i default)).2.2=true) (h3:¬ (ss.getD i default).k=3):(rnN rs a ss (i+1)).2=(rnN rs a ss i).2:=by rw [a1l,h,if_pos rfl,if_neg h3]
theorem a20:∀ i,(rnN rs a ss i).2.length≤i
 | 0=>Nat.le_refl _
 | i+1=>by
  have:=a20 i
  rw [a1l]
  split
  ·split
   ·simp;omega
   ·exact Nat.le_succ_of_le this
  ·exact Nat.le_succ_of_le this
end
theorem a8Z {rs:List Route} {a:Abs} {s:MStep} (hF:AbsF rs a) (hv:f8 a.ma.length s=true):AbsF rs (t4 rs a s).1∧(t4 rs a s).1.ma.length=a.ma.length:=by
 have same:∀ b:Abs,b.ma.length=a.ma.length→b.st.length=a.st.length→b.en.length=a.en.length→b.ra.length=a.ra.length→b.po.length=a.po.length→(∀ c,c < a.ma.length→(b.st.getD c default).length≤4)→(∀ c,c < a.ma.length→∀ i,i < (b.st.getD c default).length→0≤(b.st.getD c default).getD i default∧(b.st.getD c default).getD i default≤7)→AbsF rs b∧b.ma.length=a.ma.length:=fun b e1 e2 e3 e4 e5 h1 h2 =>
  ⟨⟨by rw [e1];exact hF.n,hF.rn,by rw [e1,e2];exact hF.st,by rw [e3];exact hF.en,by rw [e4];exact hF.ra,by rw [e5];exact hF.po,by rw [e1];exact hF.rt,by rw [e1];exact h1,by rw [e1];exact h2⟩,e1⟩
 have get:∀ (c k:Nat) (l:List Int),(a.st.set k l).getD c default=if k=c∧k < a.st.length then l else a.st.getD c default:=fun c k l=>by
  rw [List.getD_eq_getElem?_getD,List.getD_eq_getElem?_getD,List.getElem?_set]
  by_cases e:k=c
  ·subst e
   by_cases h:k < a.st.length
   ·simp [h]
   ·simp [h]
  ·simp [e]
 unfold t4
 split
 ·exact same _ rfl rfl rfl List.length_set rfl hF.len hF.el
 split
 ·exact same _ rfl rfl rfl (U1 8) (N2 8) hF.len hF.el
 split
 ·next h3 =>
  split
  ·exact same _ rfl rfl rfl rfl rfl hF.len hF.el
  ·next hn =>
   have hb:=@a1h rs a s.c.toNat
   have h4:(a.st.getD s.c.toNat default).length≠4:=fun e=>hn (by rw [a6A e];decide)
   refine same _ rfl List.length_set rfl rfl List.length_set (fun c hc=>?_) (fun c hc i hi=>?_)
   ·show ((a.st.set _ _).getD c default).length≤4
    rw [get]
    split
    ·next e=>have:=hF.len c hc;rw [← e.1] at this;simp only [List.length_append,List.length_cons,List.length_nil];omega
    ·exact hF.len c hc
   ·have hi:i < ((a.st.set s.c.toNat (a.st.getD s.c.toNat default++[z7 rs a s.c.toNat])).getD c default).length:=hi
    show 0≤((a.st.set _ _).getD c default).getD i default∧_
    rw [get] at hi ⊢
    split at hi
    ·next e =>
     rw [if_pos e]
     by_cases hl:i < (a.st.getD s.c.toNat default).length
     ·have:=hF.el c hc i (by rw [← e.1];exact hl)
      rw [← e.1] at this
      rw [List.getD_eq_getElem?_getD,List.getElem?_append_left hl,← List.getD_eq_getElem?_getD]
      exact this
     ·rw [List.getD_eq_getElem?_getD,List.getElem?_append_right (by omega)]
      simp only [List.length_append,List.length_cons,List.length_nil] at hi
      have:i - (a.st.getD s.c.toNat default).length=0:=by omega
      rw [this]
      simp only [List.getElem?_cons_zero,Option.getD_some]
      omega
    ·next e=>rw [if_neg e];exact hF.el c hc i hi
 split
 ·split
  ·exact same _ rfl rfl rfl rfl rfl hF.len hF.el
  ·refine same _ rfl List.length_set rfl rfl rfl (fun c hc=>?_) (fun c hc i hi=>?_)
   ·show ((a.st.set _ _).getD c default).length≤4
    rw [get]
    split
    ·next e=>have:=hF.len c hc;rw [← e.1] at this;rw [List.length_take];omega
    ·exact hF.len c hc
   ·have hi:i < ((a.st.set s.c.toNat ((a.st.getD s.c.toNat default).take ((a.st.getD s.c.toNat default).length - 1))).getD c default).length:=hi
    show 0≤((a.st.set _ _).getD c default).getD i default∧_
    rw [get] at hi ⊢
    split at hi
    ·next e =>
     rw [if_pos e]
     rw [List.length_take] at hi
     have:=hF.el c hc i (by rw [← e.1];omega)
     rw [← e.1] at this
     rw [List.getD_eq_getElem?_getD,List.getElem?_take,if_pos (by omega),← List.getD_eq_getElem?_getD]
     exact this
    ·next e=>rw [if_neg e];exact hF.el c hc i hi
 split
 ·exact same _ List.length_set rfl rfl rfl rfl hF.len hF.el
 ·exact same _ rfl rfl List.length_set rfl rfl hF.len hF.el
def V7 (n:Int) (ss:List MStep):Bool:=decide (ss.length≤30) && I0 ss.length (fun i=>f8 n (ss.getD i default))
theorem P9 {n:Int} {ss:List MStep}:V7 n ss=true↔ss.length≤30∧∀ i,i < ss.length→f8 n (ss.getD i default)=true:=by simp only [V7,Bool.and_eq_true,decide_eq_true_eq,w8]
theorem a80 {rs:List Route} {a:Abs} {ss:List MStep} (hF:AbsF rs a) (hv:∀ i,i < ss.length→f8 a.ma.length (ss.getD i default)=true):∀ i,i≤ss.length→AbsF rs (rnN rs a ss i).1∧(rnN rs a ss i).1.ma.length=a.ma.length
 | 0,_=>⟨hF,rfl⟩
 | i+1,h=>by
  obtain ⟨h1,h2⟩:=a80 hF hv i (by omega)
  cases hm:(t4 rs (rnN rs a ss i).1 (ss.getD i default)).2.2
  ·rw [m9 hm];exact ⟨h1,h2⟩
  ·rw [v2 hm]
   obtain ⟨h3,h4⟩:=a8Z h1 (s:=ss.getD i default) (by rw [h2];exact hv i (by omega))
   exact ⟨h3,h4.trans h2⟩
def rnT (rs:List Route) (a:Abs) (ss:List MStep):Abs×List Int×Bool:=if v8 rs a && V7 a.ma.length ss then ((rnN rs a ss ss.length).1,(rnN rs a ss ss.length).2,true) else (noA,[],false)
theorem a8f {rs:List Route} {a:Abs} {ss:List MStep} (h:v8 rs a=false):rnT rs a ss=(noA,[],false):=by unfold rnT;rw [h];rfl
theorem a6E {rs:List Route} {a:Abs} {ss:List MStep} (h:V7 a.ma.length ss=false):rnT rs a ss=(noA,[],false):=by unfold rnT;rw [h,Bool.and_false];rfl
theorem a4e {rs:List Route} {a:Abs} {ss:List MStep} (h1:v8 rs a=true) (h2:V7 a.ma.length ss=true):rnT rs a ss=((rnN rs a ss ss.length).1,(rnN rs a ss ss.length).2,true):=by unfold rnT;rw [h1,h2];rfl
theorem a5j {n:Int} {ss:List MStep} (h:30 < ss.length∨∃ i,i < ss.length∧f8 n (ss.getD i default)=false):V7 n ss=false:=by
 rw [← Bool.not_eq_true,P9]
 rintro ⟨h1,h2⟩
 rcases h with h | ⟨i,hi,h⟩
 ·omega
 ·rw [h2 i hi] at h;cases h
theorem a59 {rs:List Route} {a:Abs} {ss:List MStep}:SmallA (rnT rs a ss).1∧(rnT rs a ss).2.1.length≤30:=by
 unfold rnT
 split
 ·next h =>
  rw [Bool.and_eq_true] at h
  obtain ⟨h1,h2⟩:=P9.mp h.2
  exact ⟨(a80 (a3D h.1) h2 _ (Nat.le_refl _)).1.small,Nat.le_trans (a20 _) h1⟩
 ·exact ⟨a54,Nat.zero_le _⟩
end Go.Rf
namespace Go.Rf
end Go.Rf
namespace Go.Rf
open Go
def H7 (eS eW:Nat) (x:Ifc):List CI:=[.v (.int .i64 x.ma),.l 3 1 (x.st.map r5),.l eS 3 (x.qu.sl.map p4),.l eW 2 (x.qu.wa.map s6)]
structure BigI (x:Ifc):Prop where
 st:x.st.length≤9223372036854775807
 sl:x.qu.sl.length≤9223372036854775807
 wa:x.qu.wa.length≤9223372036854775807
structure BigM (m:Mach):Prop where
 rs:m.rs.length≤9223372036854775807
 en:m.en.length≤9223372036854775807
 ra:m.ra.length≤9223372036854775807
 cp:m.cp.length≤9223372036854775807
 all:∀ i,i < m.cp.length→BigI (m.cp.getD i default)
def szI (x:Ifc):Int:=x.st.length+x.qu.sl.length+x.qu.wa.length
def sumI (xs:List Ifc):Nat→Int
 | 0=>0
 | i+1=>sumI xs i+szI (xs.getD i default)
theorem a0k {xs:List Ifc} {i:Nat}:sumI xs (i+1)=sumI xs i+szI (xs.getD i default):=rfl
theorem b0B {x:Ifc}:0≤szI x:=by unfold szI;omega
theorem a81 {xs:List Ifc}:∀ i,0≤sumI xs i
 | 0=>Int.le_refl _
 | i+1=>by have:=@a81 xs i;have:=@b0B (xs.getD i default);rw [a0k];omega
theorem a9K {xs:List Ifc} {i j:Nat} (h:i≤j):sumI xs i≤sumI xs j:=by
 induction h with
 | refl=>exact Int.le_refl _
 | step _ ih=>rename_i m _;have:=@b0B (xs.getD m default);rw [a0k];omega
theorem b0C {xs:List Ifc} {i n:Nat} (h:i < n):szI (xs.getD i default)≤sumI xs n:=by
 have h1:=a9K (xs:=xs) (show i+1≤n from h)
 have h2:=@a81 xs i
 rw [a0k] at h1
 omega
structure SmallM (m:Mach):Prop where
 rs:m.rs.length≤1048576
 en:m.en.length≤1048576
 ra:m.ra.length≤1048576
 cp:m.cp.length≤1048576
 sum:sumI m.cp m.cp.length≤1048576
theorem SmallM.allI {m:Mach} (h:SmallM m) {i:Nat} (hi:i < m.cp.length):szI (m.cp.getD i default)≤1048576:=by
 have:=b0C (xs:=m.cp) hi
 have:=h.sum
 omega
theorem SmallM.big {m:Mach} (h:SmallM m):BigM m:=by
 refine ⟨by have:=h.rs;omega,by have:=h.en;omega,by have:=h.ra;omega,by have:=h.cp;omega,fun i hi=>?_⟩
 have:=h.allI hi
 unfold szI at this
 exact ⟨by omega,by omega,by omega⟩
section
variable {k:Int} {xs:List Ifc} {eS eW:Nat}
end
def noM:Mach:=⟨[],[],[],[]⟩
def a9L:Ifc:=⟨16,[],⟨[zSl,zSl,zSl,zSl],[]⟩⟩
def a5I (rs:List Route) (c:Nat):Mach:=⟨rs,List.replicate 8 false,List.replicate 8 false,List.replicate c a9L⟩
def a21 (rs:List Route) (c:Int):Mach×Bool:=if okRts rs c then (a5I rs c.toNat,true) else (noM,false)
theorem a82 {rs:List Route} {c:Int} (h:okRts rs c=true):a21 rs c=(a5I rs c.toNat,true):=by unfold a21;rw [h];rfl
theorem b1O {rs:List Route} {c:Int} (h:okRts rs c=false):a21 rs c=(noM,false):=by unfold a21;rw [h];rfl
def lvl (sl:List Slot) (q:Int):Int:=(sl.getD (o9 sl q).toNat default).p
def a22 (x:Ifc):Int:=if x.st.length=0 then 16 else lvl x.qu.sl (x.st.getD (x.st.length - 1) default)
theorem b22 {x:Ifc} (h:x.st.length=0):a22 x=16:=by unfold a22;rw [if_pos h]
theorem b0D {x:Ifc} (h:¬ x.st.length=0):a22 x=lvl x.qu.sl (x.st.getD (x.st.length - 1) default):=by unfold a22;rw [if_neg h]
def Z0 (x:Ifc) (q p:Int):Ifc:=⟨x.ma,x.st,a0J x.qu q p⟩
def a1m (x:Ifc):Ifc:=⟨x.ma,x.st++[tkI x.qu.sl],a2m x.qu⟩
structure IfF (x:Ifc):Prop where
 qu:QF x.qu
 sn:x.st.length≤4
 st:∀ q∈x.st,∃ w∈actL x.qu.sl,w.q=q
theorem a0K {sl:List Slot} {q:Int} (h:∃ w∈actL sl,w.q=q):0≤o9 sl q:=by
 obtain ⟨w,hw,e⟩:=h
 obtain ⟨x,h1,h2,rfl⟩:=w3.mp hw
 rcases Int.lt_or_le (o9 sl q) 0 with g | g
 ·refine absurd e (a2Z.mp g x h1 ?_)
  rcases r9.mp h2 with g | g<;>omega
 ·exact g
theorem IfF.top {x:Ifc} (h:IfF x) {i:Nat} (hi:i < x.st.length):0≤o9 x.qu.sl (x.st.getD i default):=a0K (h.st _ (e7.mpr ⟨i,hi,rfl⟩))
theorem a8g {x:Ifc} {q p:Int} (h:IfF x) (hq:0≤q∧q≤7) (hp:0≤p∧p≤15):IfF (Z0 x q p):=by
 obtain ⟨h1,h2,h3⟩:=P8 h.qu hq hp
 exact ⟨h1,h.sn,fun y hy=>by show ∃ w∈actL (a0J x.qu q p).sl,w.q=y;rw [h3];exact h.st y hy⟩
theorem a83 {α:Type} [Inhabited α] {l:List α} {k:Nat} {x y:α} (h:x∈l) (hne:x≠l.getD k default):x∈l.set k y:=by
 obtain ⟨i,hi,rfl⟩:=e7.mp h
 refine e7.mpr ⟨i,by rw [List.length_set];exact hi,?_⟩
 rw [List.getD_eq_getElem?_getD,List.getElem?_set_ne (fun e=>hne (by rw [e])),← List.getD_eq_getElem?_getD]
theorem b23 {x:Ifc} (h:IfF x) (hb:0≤bstS x.qu.sl true) (hn:x.st.length < 4):IfF (a1m x):=by
 obtain ⟨k,e1,e2,e3⟩:=C1 hb
 refine ⟨a8d h.qu hb,by show (x.st++[tkI x.qu.sl]).length≤4;rw [List.length_append,List.length_cons,List.length_nil];omega,fun q hq=>?_⟩
 show ∃ w∈actL (tkS x.qu.sl),w.q=q
 unfold tkS
 rw [e1,Int.toNat_natCast]
 rcases List.mem_append.mp hq with hq | hq
 ·obtain ⟨w,hw,e⟩:=h.st q hq
  obtain ⟨y,y1,y2,y3⟩:=w3.mp hw
  refine ⟨w,w3.mpr ⟨y,a83 y1 (fun e'=>?_),y2,y3⟩,e⟩
  rw [e'] at y2
  rcases r9.mp y2 with g | g<;>omega
 ·rw [List.mem_singleton.mp hq]
  refine ⟨⟨(x.qu.sl.getD k default).q,(x.qu.sl.getD k default).p⟩,w3.mpr ⟨⟨2,(x.qu.sl.getD k default).q,(x.qu.sl.getD k default).p⟩,List.mem_iff_getElem.mpr ⟨k,by rw [List.length_set];exact e2,by simp⟩,rfl,rfl⟩,?_⟩
  show (x.qu.sl.getD k default).q=tkI x.qu.sl
  unfold tkI
  rw [e1,Int.toNat_natCast]
def I4 (rs:List Route) (l:List Int):List Slot:=(l.map fun q=>⟨2,q,prI rs q⟩)++List.replicate (4 - l.length) zSl
def R4 (rs:List Route) (l:List Int):Ifc:=⟨16,l,⟨I4 rs l,[]⟩⟩
def G5 (rs:List Route) (l:List Int) (q:Int):List Slot:=(l.map fun q=>⟨2,q,prI rs q⟩)++(⟨1,q,prI rs q⟩ :: List.replicate (3 - l.length) zSl)
section
variable {rs:List Route} {l:List Int} {q:Int}
theorem a1P {α:Type} [Inhabited α] {a b:List α} {j:Nat} (h:j < a.length):(a++b).getD j default=a.getD j default:=by
 rw [List.getD_eq_getElem?_getD,List.getElem?_append_left h,← List.getD_eq_getElem?_getD]
theorem a1Q {α:Type} [Inhabited α] {a b:List α} {j:Nat} (h:a.length≤j):(a++b).getD j default=b.getD (j - a.length) default:=by
 rw [List.getD_eq_getElem?_getD,List.getElem?_append_right h,← List.getD_eq_getElem?_getD]
theorem F5 {α β:Type} [Inhabited α] [Inhabited β] {f:α→β} {a:List α} {j:Nat} (h:j < a.length):(a.map f).getD j default=f (a.getD j default):=by
 rw [List.getD_eq_getElem?_getD,List.getElem?_map,List.getElem?_eq_getElem h,List.getD_eq_getElem?_getD,List.getElem?_eq_getElem h]
 rfl
theorem a5k {α:Type} [Inhabited α] {x:α} {n j:Nat} (h:j < n):(List.replicate n x).getD j default=x:=by
 rw [List.getD_eq_getElem?_getD,List.getElem?_replicate,if_pos h]
 rfl
theorem a0l (h:l.length≤4):(I4 rs l).length=4:=by unfold I4;simp;omega
theorem a7v (h:l.length < 4):(G5 rs l q).length=4:=by unfold G5;simp;omega
theorem Y4 {j:Nat} (h:j < l.length):(I4 rs l).getD j default=⟨2,l.getD j default,prI rs (l.getD j default)⟩:=by
 unfold I4
 rw [a1P (by simpa using h),F5 h]
theorem a1R {j:Nat} (h:l.length≤j) (h4:j < 4):(I4 rs l).getD j default=zSl:=by
 unfold I4
 rw [a1Q (by simpa using h),a5k (by simp;omega)]
theorem a4E {j:Nat} (h:j < l.length):(G5 rs l q).getD j default=⟨2,l.getD j default,prI rs (l.getD j default)⟩:=by
 unfold G5
 rw [a1P (by simpa using h),F5 h]
theorem a6F:(G5 rs l q).getD l.length default=⟨1,q,prI rs q⟩:=by
 unfold G5
 rw [a1Q (by simp)]
 simp
theorem b1P {j:Nat} (h:l.length < j) (h4:j < 4):(G5 rs l q).getD j default=zSl:=by
 unfold G5
 rw [a1Q (by simp;omega),List.length_map]
 obtain ⟨k,e⟩:∃ k,j - l.length=k+1:=⟨j - l.length - 1,by omega⟩
 rw [e,List.getD_cons_succ,a5k (by omega)]
theorem a84 {α:Type} {a b:List α} {x:α}:(a++b).set a.length x=a++b.set 0 x:=by
 rw [List.set_append_right _ _ (Nat.le_refl _),Nat.sub_self]
theorem b0E (h:l.length < 4):(I4 rs l).set l.length ⟨1,q,prI rs q⟩=G5 rs l q:=by
 unfold I4 G5
 have e:=@a84 _ (l.map fun q=>(⟨2,q,prI rs q⟩:Slot)) (List.replicate (4 - l.length) zSl) ⟨1,q,prI rs q⟩
 rw [List.length_map] at e
 rw [e,show 4 - l.length=(3 - l.length)+1 by omega,List.replicate_succ,List.set_cons_zero]
theorem b0F (h:l.length < 4):(G5 rs l q).set l.length ⟨2,q,prI rs q⟩=I4 rs (l++[q]):=by
 unfold I4 G5
 have e:=@a84 _ (l.map fun q=>(⟨2,q,prI rs q⟩:Slot)) (⟨1,q,prI rs q⟩ :: List.replicate (3 - l.length) zSl) ⟨2,q,prI rs q⟩
 rw [List.length_map] at e
 rw [e,List.set_cons_zero,List.map_append,List.length_append,List.append_assoc]
 simp only [List.map_cons,List.map_nil,List.length_cons,List.length_nil,List.cons_append,List.nil_append]
 rw [show 4 - (l.length+(0+1))=3 - l.length by omega]
theorem a5l (h:l.length < 4):freS (I4 rs l)=l.length:=by
 unfold freS
 refine J2 (fun j hj=>?_) (by rw [a0l (by omega)];exact h) ?_
 ·rw [Y4 hj];rfl
 ·rw [a1R (Nat.le_refl _) h];rfl
theorem b0G (h:l.length≤4) (hq:∀ j,j < l.length→l.getD j default≠q):o9 (I4 rs l) q=-1:=by
 unfold o9
 refine Q8 (i:=4) (fun j hj=>?_) (by rw [a0l h];exact Nat.le_refl _)
 rw [← Bool.not_eq_true,S7]
 rcases Nat.lt_or_ge j l.length with g | g
 ·rw [Y4 g];exact fun e=>hq j g e.2
 ·rw [a1R g hj];exact fun e=>e.1 rfl
theorem b0H {j:Nat} (h:l.length < 4) (hj:j < l.length) (hd:∀ i,i < j→l.getD i default≠l.getD j default):o9 (G5 rs l q) (l.getD j default)=j:=by
 unfold o9
 refine J2 (fun i hi=>?_) (by rw [a7v h];omega) ?_
 ·rw [← Bool.not_eq_true,S7,a4E (by omega)]
  exact fun e=>hd i hi e.2
 ·rw [a4E hj,S7]
  exact ⟨by show (2:Int)≠0;decide,rfl⟩
theorem a7w (h:l.length < 4):bstS (G5 rs l q) true=l.length:=by
 have hl:(G5 rs l q).length=4:=a7v h
 have hneg:¬ G1 (G5 rs l q) true 4 < 0:=by
  rw [a5b]
  intro g
  have:=g l.length h
  rw [a6F] at this
  exact this rfl
 have hb:=@a0I (G5 rs l q) true 4
 have h1:=a1j (sl:=G5 rs l q) (most:=true) 4 (by omega)
 unfold bstS
 rw [hl]
 rcases Nat.lt_trichotomy (G1 (G5 rs l q) true 4).toNat l.length with g | g | g
 ·rw [a4E g] at h1;exact absurd h1 (by show ¬ (2:Int)=1;decide)
 ·omega
 ·rw [b1P g (by omega)] at h1;exact absurd h1 (by show ¬ (0:Int)=1;decide)
theorem a85 {α:Type} {f:α→Nat} {x:α}:∀ {l:List α},x∈l→f x≤(l.map f).sum
 | y :: l,h=>by
  rw [List.map_cons,List.sum_cons]
  rcases List.mem_cons.mp h with rfl | h
  ·omega
  ·have:=a85 (f:=f) h;omega
theorem a9M (h:l.length < 4) (hq:∀ j,j < l.length→l.getD j default≠q):Z0 (R4 rs l) q (prI rs q)=⟨16,l,⟨G5 rs l q,[]⟩⟩:=by
 have h1:a2l (R4 rs l).qu q (prI rs q)=⟨I4 rs l,[⟨q,prI rs q⟩]⟩:=by
  unfold a2l
  rw [if_neg (by show ¬ 0≤o9 (I4 rs l) q;rw [b0G (by omega) hq];decide),if_neg (by have:=@b2Y ([]:List Wtr) q;show ¬ 0≤inW [] q;simp at this;omega)]
  rfl
 have h2:setd ⟨I4 rs l,[⟨q,prI rs q⟩]⟩=false:=a8a (by show ¬ 1=0;decide) (by show 0≤freS (I4 rs l);rw [a5l h];omega)
 have h3:stQ ⟨I4 rs l,[⟨q,prI rs q⟩]⟩=⟨G5 rs l q,[]⟩:=by
  rw [A8 (by show 0≤freS (I4 rs l);rw [a5l h];omega)]
  show (⟨(I4 rs l).set (freS (I4 rs l)).toNat ⟨1,q,prI rs q⟩,[]⟩:Que)=_
  rw [a5l h,Int.toNat_natCast,b0E h]
 have h4:a03 ⟨I4 rs l,[⟨q,prI rs q⟩]⟩=⟨G5 rs l q,[]⟩:=by
  unfold a03
  have hp:0 < phi ⟨I4 rs l,[⟨q,prI rs q⟩]⟩:=by
   have hm:zSl∈I4 rs l:=e7.mpr ⟨l.length,by rw [a0l (by omega)];exact h,a1R (Nat.le_refl _) h⟩
   have:wtS zSl≤((I4 rs l).map wtS).sum:=a85 hm
   have e:wtS zSl=2000:=rfl
   show 0 < ((I4 rs l).map wtS).sum
   omega
  obtain ⟨n,hn⟩:∃ n,phi ⟨I4 rs l,[⟨q,prI rs q⟩]⟩=n+1:=⟨_,(Nat.sub_add_cancel hp).symm⟩
  rw [hn]
  unfold a02
  rw [h2]
  simp only [Bool.false_eq_true,if_false]
  rw [h3]
  unfold a02
  rw [a5g (by rfl)]
  rfl
 unfold Z0 a0J
 rw [h1,h4]
 rfl
theorem b1Q (h:l.length < 4) (hd:∀ i j,i < j→j < l.length→l.getD i default≠l.getD j default):a22 ⟨16,l,⟨G5 rs l q,[]⟩⟩=if l.length=0 then 16 else prI rs (l.getD (l.length - 1) default):=by
 unfold a22
 show (if l.length=0 then 16 else lvl (G5 rs l q) (l.getD (l.length - 1) default))=_
 split
 ·rfl
 ·next h0 =>
  unfold lvl
  rw [b0H h (show l.length - 1 < l.length by omega) (fun i hi=>hd i _ hi (by omega)),Int.toNat_natCast,a4E (by omega)]
theorem b0I (h:l.length < 4):a1m ⟨16,l,⟨G5 rs l q,[]⟩⟩=R4 rs (l++[q]):=by
 unfold a1m R4 a2m tkS tkI
 show (⟨16,l++[((G5 rs l q).getD (bstS (G5 rs l q) true).toNat default).q],⟨(G5 rs l q).set (bstS (G5 rs l q) true).toNat ⟨2,((G5 rs l q).getD (bstS (G5 rs l q) true).toNat default).q,((G5 rs l q).getD (bstS (G5 rs l q) true).toNat default).p⟩,[]⟩⟩:Ifc)=_
 rw [a7w h,Int.toNat_natCast,a6F]
 show (⟨16,l++[q],⟨(G5 rs l q).set l.length ⟨2,q,prI rs q⟩,[]⟩⟩:Ifc)=_
 rw [b0F h]
theorem b24 (h:l.length≤4) (hr:∀ j,j < l.length→(0≤l.getD j default∧l.getD j default≤7)∧0≤prI rs (l.getD j default)∧prI rs (l.getD j default)≤15) (hd:∀ i j,i < j→j < l.length→l.getD i default≠l.getD j default):IfF (R4 rs l):=by
 have key:∀ i,i < 4→((I4 rs l).getD i default).s≠0→i < l.length:=fun i hi h0=>by
  rcases Nat.lt_or_ge i l.length with g | g
  ·exact g
  ·rw [a1R g hi] at h0;exact absurd rfl h0
 refine ⟨⟨⟨a0l h,fun i hi h0=>?_,fun i hi h0=>?_,fun i j hij hj h1 h2=>?_⟩,Nat.zero_le _,fun w hw=>(by cases hw),List.Pairwise.nil⟩,h,fun q hq=>?_⟩
 ·show (I4 rs l).getD i default=zSl
  have h0:((I4 rs l).getD i default).s=0:=h0
  rcases Nat.lt_or_ge i l.length with g | g
  ·rw [Y4 g] at h0;exact absurd h0 (by show ¬ (2:Int)=0;decide)
  ·exact a1R g hi
 ·have g:=key i hi h0
  have e:(R4 rs l).qu.sl.getD i default=⟨2,l.getD i default,prI rs (l.getD i default)⟩:=Y4 g
  rw [e]
  exact ⟨⟨by show (1:Int)≤2;decide,by show (2:Int)≤3;decide⟩,hr i g⟩
 ·have g1:=key i (by omega) h1
  have g2:=key j hj h2
  show ((I4 rs l).getD i default).q≠((I4 rs l).getD j default).q
  rw [Y4 g1,Y4 g2]
  exact hd i j hij g2
 ·obtain ⟨i,hi,rfl⟩:=e7.mp hq
  have hi:i < l.length:=hi
  refine ⟨⟨l.getD i default,prI rs (l.getD i default)⟩,w3.mpr ⟨⟨2,l.getD i default,prI rs (l.getD i default)⟩,e7.mpr ⟨i,by show i < (I4 rs l).length;rw [a0l h];omega,Y4 hi⟩,rfl,rfl⟩,rfl⟩
end
def a8h (rs:List Route) (po:List Bool) (k:Nat) (i:Nat):Bool:=po.getD i default && decide ((rs.getD i default).t=k)
def a3H (rs:List Route) (po:List Bool) (k:Nat) (x:Ifc):Nat→Ifc
 | 0=>x
 | i+1=>if a8h rs po k i then Z0 (a3H rs po k x i) i (rs.getD i default).p else a3H rs po k x i
section
variable {rs:List Route} {po:List Bool} {k:Nat} {x:Ifc}
theorem b25 {i:Nat} (h:po.getD i default=true) (h2:(rs.getD i default).t=k):a3H rs po k x (i+1)=Z0 (a3H rs po k x i) i (rs.getD i default).p:=by
 show (if a8h rs po k i then _ else _)=_
 rw [if_pos]
 unfold a8h
 rw [h,decide_eq_true h2];rfl
theorem b26 {i:Nat} (h:¬ (po.getD i default=true∧(rs.getD i default).t=k)):a3H rs po k x (i+1)=a3H rs po k x i:=by
 show (if a8h rs po k i then _ else _)=_
 rw [if_neg]
 unfold a8h
 rw [Bool.and_eq_true,decide_eq_true_iff]
 exact h
theorem a6G:∀ i,(a3H rs po k x i).st=x.st∧(a3H rs po k x i).ma=x.ma
 | 0=>⟨rfl,rfl⟩
 | i+1=>by
  have ih:=@a6G i
  show (if a8h rs po k i then Z0 _ _ _ else _).st=x.st∧(if a8h rs po k i then Z0 _ _ _ else _).ma=x.ma
  split
  ·exact ih
  ·exact ih
end
def moI (rs:List Route) (a:Abs) (k:Nat):Ifc:=⟨a.ma.getD k default,(a3H rs a.po k (R4 rs (a.st.getD k default)) 8).st,(a3H rs a.po k (R4 rs (a.st.getD k default)) 8).qu⟩
def moM (rs:List Route) (a:Abs):Mach:=⟨rs,a.en,a.ra,(List.range a.ma.length).map (moI rs a)⟩
structure StkF (rs:List Route) (l:List Int):Prop where
 n:l.length≤4
 el:∀ j,j < l.length→(0≤l.getD j default∧l.getD j default≤7)∧0≤prI rs (l.getD j default)∧prI rs (l.getD j default)≤15
 dn:∀ j,0 < j→j < l.length→prI rs (l.getD j default) < prI rs (l.getD (j - 1) default)
theorem StkF.lt {rs:List Route} {l:List Int} (h:StkF rs l) {i:Nat}:∀ {j:Nat},i < j→j < l.length→prI rs (l.getD j default) < prI rs (l.getD i default)
 | j+1,hij,hj=>by
  have:=h.dn (j+1) (by omega) hj
  by_cases e:i=j
  ·subst e;exact this
  ·have:=StkF.lt h (show i < j by omega) (by omega)
   simp only [Nat.add_sub_cancel] at *
   omega
theorem StkF.dif {rs:List Route} {l:List Int} (h:StkF rs l) {i j:Nat} (hij:i < j) (hj:j < l.length):l.getD i default≠l.getD j default:=fun e=>by
 have:=h.lt hij hj
 rw [e] at this
 omega
theorem StkF.take {rs:List Route} {l:List Int} (h:StkF rs l) {n:Nat} (hn:n≤l.length):IfF (R4 rs (l.take n)):=by
 have hl:(l.take n).length=n:=by rw [List.length_take];omega
 have hg:∀ j,j < n→(l.take n).getD j default=l.getD j default:=fun j hj=>U2 hj
 refine b24 (by rw [hl];have:=h.n;omega) (fun j hj=>?_) (fun i j hij hj=>?_)
 ·rw [hg j (by omega)];exact h.el j (by omega)
 ·rw [hg i (by omega),hg j (by omega)];exact h.dif hij (by omega)
theorem StkF.step {rs:List Route} {l:List Int} (h:StkF rs l) {i:Nat} (hi:i < l.length) :
 IfF (Z0 (R4 rs (l.take i)) (l.getD i default) (prI rs (l.getD i default)))∧(Z0 (R4 rs (l.take i)) (l.getD i default) (prI rs (l.getD i default))).st.length < 4 ∧
 a01 (Z0 (R4 rs (l.take i)) (l.getD i default) (prI rs (l.getD i default))).qu.sl (min (Z0 (R4 rs (l.take i)) (l.getD i default) (prI rs (l.getD i default))).ma (a22 (Z0 (R4 rs (l.take i)) (l.getD i default) (prI rs (l.getD i default)))))=true ∧
 a1m (Z0 (R4 rs (l.take i)) (l.getD i default) (prI rs (l.getD i default)))=R4 rs (l.take (i+1)):=by
 have hn:=h.n
 have hl:(l.take i).length=i:=by rw [List.length_take];omega
 have hg:∀ j,j < i→(l.take i).getD j default=l.getD j default:=fun j hj=>U2 hj
 have hr:=a9M (rs:=rs) (l:=l.take i) (q:=l.getD i default) (by omega) (fun j hj=>by rw [hg j (by omega)];exact h.dif (by omega) hi)
 refine ⟨a8g (h.take (by omega)) (h.el i hi).1 (h.el i hi).2,?_,?_,?_⟩
 ·show (l.take i).length < 4;omega
 ·rw [hr,b1Q (by omega) (fun a b hab hb=>by rw [hg a (by omega),hg b (by omega)];exact h.dif hab (by omega))]
  rw [H5]
  show 0≤bstS (G5 rs (l.take i) (l.getD i default)) true∧((G5 rs (l.take i) (l.getD i default)).getD (bstS (G5 rs (l.take i) (l.getD i default)) true).toNat default).p < min 16 _
  rw [a7w (by omega),Int.toNat_natCast,a6F]
  have h15:=(h.el i hi).2.2
  refine ⟨by omega,?_⟩
  show prI rs (l.getD i default) < _
  rw [hl]
  split
  ·omega
  ·next h0 =>
   rw [hg (i - 1) (by omega)]
   have:=h.dn i (by omega) hi
   omega
 ·rw [hr,b0I (by omega)]
  congr 1
  rw [List.take_add_one,List.getElem?_eq_getElem hi,List.getD_eq_getElem?_getD,List.getElem?_eq_getElem hi]
  rfl
theorem b1R {rs:List Route} {a:Abs} (h:v8 rs a=true) {k:Nat} (hk:k < a.ma.length):StkF rs (a.st.getD k default):=by
 have hF:=a3D h
 simp only [v8,Bool.and_eq_true,w8] at h
 obtain ⟨h1,h2,h3⟩:=h
 have hr:=z4.mp h1
 have hk1:=h3 k hk
 simp only [V4,Bool.and_eq_true] at hk1
 obtain ⟨h4,h5⟩:=a7h hk1.2.1
 refine ⟨h5,fun j hj=>?_,fun j h0 hj=>?_⟩
 ·have:=(I1.mp (h4 j hj)).1
  exact ⟨this,(hr.2.2 _ (by omega)).1⟩
 ·rcases (I1.mp (h4 j hj)).2.2 with g | g
  ·omega
  ·exact g
end Go.Rf
namespace Go.Rf
section
variable {q:Que} {irq p lim:Int} {x:Ifc}
theorem b0J (h:0≤o9 q.sl irq):a2l q irq p=⟨ptS q.sl irq,q.wa⟩:=by unfold a2l;rw [if_pos h]
theorem b0K (h:o9 q.sl irq < 0) (h2:inW q.wa irq < 0):a2l q irq p=⟨q.sl,insW q.wa ⟨irq,p⟩⟩:=by unfold a2l;rw [if_neg (by omega),if_neg (by omega)]
theorem b0L (h:o9 q.sl irq < 0) (h2:0≤inW q.wa irq):a2l q irq p=q:=by unfold a2l;rw [if_neg (by omega),if_pos h2]
def b0M (x:Ifc):Int:=min x.ma (a22 x)
def okT (x:Ifc):Bool:=a01 x.qu.sl (b0M x)
def noI:Ifc:=⟨0,[],⟨[],[]⟩⟩
theorem a8i {sl:List Slot} (h:SlF sl) (hb:0≤bstS sl true):0≤tkI sl∧tkI sl≤7:=by
 obtain ⟨k,e1,e2,e3⟩:=C1 hb
 unfold tkI
 rw [e1,Int.toNat_natCast]
 exact (h.ok k (by rw [← h.len];exact e2) (by omega)).2.1
theorem a1Z {sl:List Slot} (h:(sl.getD (o9 sl irq).toNat default).s=2):ptS sl irq=sl.set (o9 sl irq).toNat ⟨3,(sl.getD (o9 sl irq).toNat default).q,(sl.getD (o9 sl irq).toNat default).p⟩:=by unfold ptS;rw [if_pos h]
theorem a1n {sl:List Slot} (h:¬ (sl.getD (o9 sl irq).toNat default).s=2):ptS sl irq=sl.set (o9 sl irq).toNat ⟨(sl.getD (o9 sl irq).toNat default).s,(sl.getD (o9 sl irq).toNat default).q,(sl.getD (o9 sl irq).toNat default).p⟩:=by unfold ptS;rw [if_neg h]
end
end Go.Rf
namespace Go.Rf
open Go
theorem b0N {α β:Type} {f:α→β} {k:Nat} {x:α} {y:β} (h:f x=y):(List.replicate k x).map f++[y]=(List.replicate (k+1) x).map f:=by
 subst h
 rw [List.replicate_succ',List.map_append]
 rfl
end Go.Rf
namespace Go.Rf
end Go.Rf
namespace Go.Rf
open Go
def a6H (l:List Wtr):List Wtr:=l.foldl insW []
theorem a9N {l:List Wtr} {x:Wtr}:a6H (l++[x])=insW (a6H l) x:=by simp [a6H,List.foldl_append]
theorem a6a {x:Wtr}:∀ {l acc:List Wtr},x∈l.foldl insW acc↔x∈acc∨x∈l
 | [],acc=>by simp
 | y :: l,acc=>by
  rw [List.foldl_cons,a6a,a1k,List.mem_cons]
  constructor
  ·rintro ((h | h) | h)
   ·exact .inr (.inl h)
   ·exact .inl h
   ·exact .inr (.inr h)
  ·rintro (h | h | h)
   ·exact .inl (.inr h)
   ·exact .inl (.inl h)
   ·exact .inr h
theorem b0O {l:List Wtr} {x:Wtr}:x∈a6H l↔x∈l:=by unfold a6H;rw [a6a];simp
theorem b0P {acc:List Wtr} {w:Wtr} (h:∀ a∈acc,lessW a w=true):insW acc w=acc++[w]:=by
 rw [a8R (i:=acc.length) (fun j hj=>h _ (e7.mpr ⟨j,hj,rfl⟩)) (Nat.le_refl _) (.inl rfl)]
 simp
theorem a23:∀ {l acc:List Wtr},(acc++l).Pairwise ltW→l.foldl insW acc=acc++l
 | [],acc,_=>by simp
 | y :: l,acc,h=>by
  rw [List.foldl_cons,b0P (fun a ha=>((List.pairwise_append.mp h).2.2 a ha y (by simp)).1)]
  rw [a23 (by simpa using h)]
  simp
theorem a7x {l:List Wtr} (h:l.Pairwise ltW):a6H l=l:=by unfold a6H;rw [a23 (by simpa using h)];rfl
section
variable {P R:List Wtr} {x:Wtr} {j:Nat}
end
section
variable {d:List Wtr} {i:Nat}
end
def pnP (x:Slot):Bool:=decide (x.s=1) || decide (x.s=3)
theorem F3 {x:Slot}:pnP x=true↔x.s=1∨x.s=3:=by simp [pnP]
def pnL (q:Que):Nat→List Wtr
 | 0=>q.wa
 | i+1=>if pnP (q.sl.getD i default) then pnL q i++[wOf (q.sl.getD i default)] else pnL q i
def pnS (q:Que):Nat→List Wtr
 | 0=>q.wa
 | i+1=>if pnP (q.sl.getD i default) then insW (pnS q i) (wOf (q.sl.getD i default)) else pnS q i
section
variable {q:Que} {i:Nat}
theorem a24 (h:(q.sl.getD i default).s=1∨(q.sl.getD i default).s=3):pnS q (i+1)=insW (pnS q i) (wOf (q.sl.getD i default)):=by
 show (if pnP _ then _ else _)=_
 rw [if_pos (F3.mpr h)]
theorem b0Q (h:¬ ((q.sl.getD i default).s=1∨(q.sl.getD i default).s=3)):pnS q (i+1)=pnS q i:=by
 show (if pnP _ then _ else _)=_
 rw [if_neg (fun g=>h (F3.mp g))]
theorem b0R (h:QF q):∀ i,a6H (pnL q i)=pnS q i
 | 0=>a7x h.pw
 | i+1=>by
  have ih:=b0R h i
  show a6H (if pnP _ then _ else _)=(if pnP _ then _ else _)
  split
  ·rw [a9N,ih]
  ·exact ih
theorem a4F:∀ i,(pnS q i).length≤q.wa.length+i
 | 0=>Nat.le_refl _
 | i+1=>by
  have ih:=@a4F i
  show (if pnP _ then _ else _:List Wtr).length≤_
  split
  ·rw [a5d];omega
  ·omega
theorem a6I {x:Wtr}:∀ i,x∈pnL q i→x∈q.wa∨∃ j,j < i∧(q.sl.getD j default).s≠0∧x=wOf (q.sl.getD j default)
 | 0,h=>.inl h
 | i+1,h=>by
  change x∈(if pnP _ then _ else _:List Wtr) at h
  split at h
  ·next hp =>
   rcases List.mem_append.mp h with h | h
   ·rcases a6I i h with g | ⟨j,g1,g2,g3⟩
    ·exact .inl g
    ·exact .inr ⟨j,by omega,g2,g3⟩
   ·refine .inr ⟨i,by omega,?_,List.mem_singleton.mp h⟩
    rcases F3.mp hp with g | g<;>omega
  ·rcases a6I i h with g | ⟨j,g1,g2,g3⟩
   ·exact .inl g
   ·exact .inr ⟨j,by omega,g2,g3⟩
theorem a6J (h:QF q) {x:Wtr}:x∈pnS q i↔x∈pnL q i:=by rw [← b0R h,b0O]
theorem b4n (h:QF q) {x:Wtr} (hi:i≤4) (hx:x∈pnL q i):0≤x.q∧x.q≤7:=by
 rcases a6I i hx with g | ⟨j,g1,g2,rfl⟩
 ·exact (h.wa x g).1
 ·exact (h.sl.ok j (by omega) g2).2.1
end
def J4 (q:Que):List Int:=(pnS q 4).map (·.q)
theorem a86 {q:Que} (h:QF q) {i:Nat} (hi:i < (J4 q).length):0≤(J4 q).getD i default∧(J4 q).getD i default≤7:=by
 unfold J4 at hi ⊢
 rw [List.length_map] at hi
 rw [F5 hi]
 exact b4n h (Nat.le_refl _) ((a6J h).mp (e7.mpr ⟨i,hi,rfl⟩))
theorem b0S {q:Que} (h:QF q):(J4 q).length≤12:=by
 unfold J4
 rw [List.length_map]
 have:=@a4F q 4
 have:=h.wn8
 omega
end Go.Rf
namespace Go.Rf
section
variable {P R:List Wtr} {x:Wtr} {j:Nat} {β:Type} {f:Wtr→β} {c:β}
end
theorem a87 {α β:Type} [Inhabited α] {f:α→β} {l:List α} {i:Nat} {y:β} (h:i < l.length) (hy:y=f (l.getD i default)):(l.take i).map f++[y]=(l.take (i+1)).map f:=by
 subst hy
 rw [List.take_add_one,List.getElem?_eq_getElem h,List.map_append,List.getD_eq_getElem?_getD,List.getElem?_eq_getElem h]
 rfl
theorem b27 {q:Que} {i:Nat} (h:i < (pnS q 4).length):(J4 q).getD i default=((pnS q 4).getD i default).q:=by unfold J4;rw [F5 h]
theorem a88 {q:Que}:(J4 q).length=(pnS q 4).length:=by unfold J4;rw [List.length_map]
theorem b0T {q:Que} {i:Nat} (h:i < (pnS q 4).length):((J4 q).take i).map r5++[[Value.int .i64 ((pnS q 4).getD i default).q]]=((J4 q).take (i+1)).map r5:=a87 (by rw [a88];exact h) (by rw [b27 h];rfl)
theorem b1S {q:Que} {i:Nat} (h:(pnS q 4).length≤i):(J4 q).take i=J4 q:=List.take_of_length_le (by rw [a88];exact h)
end Go.Rf
namespace Go.Rf
open Go
theorem Y5 {a b:List Int}:srtI a=srtI b↔a.Perm b:=by
 constructor
 ·intro h
  exact (a1M a).symm.trans (h▸a1M b)
 ·intro h
  have hp:∀ l:List Int,(srtI l).Pairwise (fun x y=>decide (x≤y)=true):=fun l=>List.pairwise_mergeSort (fun a b c h1 h2=>by simp at *;omega) (fun a b=>by simp;omega) l
  exact List.Perm.eq_of_pairwise (fun x y _ _ h1 h2=>by simp at *;omega) (hp a) (hp b) ((a1M a).trans (h.trans (a1M b).symm))
theorem a6K {α:Type} [BEq α] [LawfulBEq α]:∀ {a b:List α},a.Nodup→(∀ x∈a,x∈b)→b.length≤a.length→a.Perm b
 | [],b,_,_,hl=>by
  have:b=[]:=List.eq_nil_of_length_eq_zero (by simpa using hl)
  rw [this]
 | x :: a,b,hn,hs,hl=>by
  obtain ⟨h1,h2⟩:=List.nodup_cons.mp hn
  have hx:x∈b:=hs x (by simp)
  refine List.Perm.trans ?_ (List.perm_cons_erase hx).symm
  refine List.Perm.cons x (a6K h2 (fun y hy=>?_) ?_)
  ·have hne:y≠x:=fun e=>h1 (e▸hy)
   exact (List.mem_erase_of_ne hne).mpr (hs y (by simp [hy]))
  ·rw [List.length_erase_of_mem hx]
   simp only [List.length_cons] at hl
   omega
def actN (sl:List Slot):Nat→List Int
 | 0=>[]
 | i+1=>if H6 (sl.getD i default) then actN sl i++[(sl.getD i default).q] else actN sl i
def a6L (l:List Int) (n:Int):List Int:=l.takeWhile (fun x=>decide (x < n))++[n]++l.dropWhile (fun x=>decide (x < n))
def a3I (sl:List Slot):Nat→List Int
 | 0=>[]
 | i+1=>if H6 (sl.getD i default) then a6L (a3I sl i) (sl.getD i default).q else a3I sl i
section
variable {sl:List Slot} {i:Nat}
theorem b28 (h:H6 (sl.getD i default)=true):actN sl (i+1)=actN sl i++[(sl.getD i default).q]:=by show (if _ then _ else _)=_;rw [if_pos h]
theorem a8j (h:(sl.getD i default).s=2∨(sl.getD i default).s=3):a3I sl (i+1)=a6L (a3I sl i) (sl.getD i default).q:=by show (if _ then _ else _)=_;rw [if_pos (r9.mpr h)]
theorem a8k (h:¬ ((sl.getD i default).s=2∨(sl.getD i default).s=3)):a3I sl (i+1)=a3I sl i:=by show (if _ then _ else _)=_;rw [if_neg (fun g=>h (r9.mp g))]
theorem a1o:∀ i,(actN sl i).length≤i
 | 0=>Nat.le_refl _
 | i+1=>by
  have ih:=@a1o i
  show (if _ then _ else _:List Int).length≤_
  split
  ·rw [List.length_append,List.length_cons,List.length_nil];omega
  ·omega
theorem b0U {l:List Int} {n x:Int}:x∈a6L l n↔x=n∨x∈l:=by
 have h:=List.takeWhile_append_dropWhile (p:=fun x=>decide (x < n)) (l:=l)
 have:x∈l↔x∈l.takeWhile (fun x=>decide (x < n))∨x∈l.dropWhile (fun x=>decide (x < n)):=by
  conv=>lhs;rw [← h]
  exact List.mem_append
 unfold a6L
 simp only [List.mem_append,List.mem_singleton,this]
 constructor
 ·rintro ((h | h) | h)
  ·exact .inr (.inl h)
  ·exact .inl h
  ·exact .inr (.inr h)
 ·rintro (h | h | h)
  ·exact .inl (.inr h)
  ·exact .inl (.inl h)
  ·exact .inr h
theorem b0V {l:List Int} {n:Int}:(a6L l n).length=l.length+1:=by
 have h:=congrArg List.length (List.takeWhile_append_dropWhile (p:=fun x=>decide (x < n)) (l:=l))
 unfold a6L
 simp only [List.length_append,List.length_cons,List.length_nil] at *
 omega
theorem b1T {l:List Int} {n:Int} {k:Nat} (h:∀ j,j < k→l.getD j default < n) (hk:k≤l.length) (he:k=l.length∨(k < l.length∧¬ l.getD k default < n)):a6L l n=l.take k++[n]++l.drop k:=by
 have key:l.takeWhile (fun x=>decide (x < n))=l.take k∧l.dropWhile (fun x=>decide (x < n))=l.drop k:=by
  induction l generalizing k with
  | nil=>simp at hk;subst hk;exact ⟨rfl,rfl⟩
  | cons x l ih =>
   cases k with
   | zero =>
    rcases he with he | ⟨_,he⟩
    ·simp at he
    ·have he:¬ x < n:=he
     simp [he]
   | succ k =>
    have h0:x < n:=h 0 (by omega)
    obtain ⟨e1,e2⟩:=ih (k:=k) (fun j hj=>by simpa using h (j+1) (by omega)) (by simpa using hk) (by
     rcases he with he | ⟨g1,g2⟩
     ·left;simpa using he
     ·right;exact ⟨by simpa using g1,by simpa using g2⟩)
    simp [h0,e1,e2]
 unfold a6L
 rw [key.1,key.2]
theorem a25 {x:Int}:∀ i,x∈a3I sl i↔x∈actN sl i
 | 0=>Iff.rfl
 | i+1=>by
  have ih:=@a25 x i
  show x∈(if _ then _ else _:List Int)↔x∈(if _ then _ else _:List Int)
  split
  ·rw [b0U,List.mem_append,List.mem_singleton,ih];exact Or.comm
  ·exact ih
theorem a26:∀ i,(a3I sl i).length=(actN sl i).length
 | 0=>rfl
 | i+1=>by
  have ih:=@a26 i
  show (if _ then _ else _:List Int).length=(if _ then _ else _:List Int).length
  split
  ·rw [b0V,List.length_append,ih];rfl
  ·exact ih
theorem H8 {x:Int}:∀ i,x∈actN sl i↔∃ j,j < i∧H6 (sl.getD j default)=true∧(sl.getD j default).q=x
 | 0=>by simp [actN]
 | i+1=>by
  have ih:=@H8 x i
  show x∈(if _ then _ else _:List Int)↔_
  split
  ·next h =>
   rw [List.mem_append,List.mem_singleton,ih]
   constructor
   ·rintro (⟨j,h1,h2⟩ | rfl)
    ·exact ⟨j,by omega,h2⟩
    ·exact ⟨i,by omega,h,rfl⟩
   ·rintro ⟨j,h1,h2,h3⟩
    by_cases e:j=i
    ·subst e;exact .inr h3.symm
    ·exact .inl ⟨j,by omega,h2,h3⟩
  ·next h =>
   rw [ih]
   constructor
   ·rintro ⟨j,h1,h2⟩;exact ⟨j,by omega,h2⟩
   ·rintro ⟨j,h1,h2,h3⟩
    by_cases e:j=i
    ·subst e;exact absurd h2 h
    ·exact ⟨j,by omega,h2,h3⟩
theorem a1S (h:SlF sl):∀ i,i≤4→(actN sl i).Nodup
 | 0,_=>List.nodup_nil
 | i+1,hi=>by
  have ih:=a1S h i (by omega)
  show (if _ then _ else _:List Int).Nodup
  split
  ·next ha =>
   refine List.nodup_append.mpr ⟨ih,List.nodup_cons.mpr ⟨by simp,List.nodup_nil⟩,fun x hx y hy e=>?_⟩
   rw [List.mem_singleton.mp hy] at e
   obtain ⟨j,h1,h2,h3⟩:=(H8 i).mp hx
   refine h.dif j i h1 (by omega) ?_ ?_ (h3.trans e)
   ·rcases r9.mp h2 with g | g<;>omega
   ·rcases r9.mp ha with g | g<;>omega
  ·exact ih
theorem b1U (h:SlF sl) (hi:i < 4) (ha:H6 (sl.getD i default)=true) {x:Int} (hx:x∈a3I sl i):x≠(sl.getD i default).q:=fun e=>by
 obtain ⟨j,h1,h2,h3⟩:=(H8 i).mp ((a25 i).mp hx)
 refine h.dif j i h1 hi ?_ ?_ (h3.trans e)
 ·rcases r9.mp h2 with g | g<;>omega
 ·rcases r9.mp ha with g | g<;>omega
end
def lvD (sl:List Slot) (st:List Int) (i:Nat):Bool:=decide (i=0) || decide (lvl sl (st.getD i default) < lvl sl (st.getD (i - 1) default))
def a2n (sl:List Slot) (st:List Int):Bool:=decide (srtI st=srtI (actN sl 4)) && I0 st.length (lvD sl st)
def a04 (x:Ifc):Bool:=u4 x.ma 0 16 && (a7s x.qu && a2n x.qu.sl x.st)
section
variable {sl:List Slot} {st:List Int} {i:Nat}
theorem a8l (h:¬ srtI st=srtI (actN sl 4)):a2n sl st=false:=by unfold a2n;rw [decide_eq_false h,Bool.false_and]
theorem b29 (h:lvD sl st i=false) (hi:i < st.length):a2n sl st=false:=by unfold a2n;rw [L9 h hi,Bool.and_false]
theorem b3a (h:srtI st=srtI (actN sl 4)) (h2:∀ j,j < i→lvD sl st j=true) (hi:st.length≤i):a2n sl st=true:=by unfold a2n;rw [decide_eq_true h,P6 h2 hi];rfl
theorem b2n:lvD sl st 0=true:=rfl
theorem b2o (h:lvl sl (st.getD i default) < lvl sl (st.getD (i - 1) default)):lvD sl st i=true:=by unfold lvD;rw [decide_eq_true h,Bool.or_true]
theorem b4o (h0:i≠0) (h:¬ lvl sl (st.getD i default) < lvl sl (st.getD (i - 1) default)):lvD sl st i=false:=by unfold lvD;rw [decide_eq_false h,decide_eq_false h0];rfl
theorem b0W {x:Int} (h:x∈actN sl 4) (hl:sl.length=4):0≤o9 sl x:=by
 obtain ⟨j,h1,h2,h3⟩:=(H8 4).mp h
 refine a0K ⟨wOf (sl.getD j default),w3.mpr ⟨sl.getD j default,e7.mpr ⟨j,by omega,rfl⟩,h2,rfl⟩,h3⟩
theorem b0X (h:srtI st=srtI (actN sl 4)) {x:Int} (hx:x∈st):x∈actN sl 4:=(Y5.mp h).mem_iff.mp hx
structure StP (sl:List Slot) (st:List Int) (i:Nat):Prop where
 inn:∀ j,j < i→st.getD j default∈actN sl 4
 dif:∀ k j,k < j→j < i→st.getD k default≠st.getD j default
 lev:∀ j,j < i→lvD sl st j=true
theorem b4p:StP sl st 0:=⟨fun j h=>by omega,fun k j _ h=>by omega,fun j h=>by omega⟩
theorem StP.succ (h:StP sl st i) (h1:st.getD i default∈actN sl 4) (h2:∀ k,k < i→st.getD k default≠st.getD i default) (h3:lvD sl st i=true):StP sl st (i+1):=by
 refine ⟨fun j hj=>?_,fun k j hk hj=>?_,fun j hj=>?_⟩
 ·by_cases e:j=i
  ·subst e;exact h1
  ·exact h.inn j (by omega)
 ·by_cases e:j=i
  ·subst e;exact h2 k hk
  ·exact h.dif k j hk (by omega)
 ·by_cases e:j=i
  ·subst e;exact h3
  ·exact h.lev j (by omega)
theorem a4G {l:List Int}:l.Nodup↔∀ k j,k < j→j < l.length→l.getD k default≠l.getD j default:=a4C
theorem StP.fin (hF:SlF sl) (h:StP sl st st.length):a2n sl st=decide (st.length=(actN sl 4).length):=by
 by_cases hl:st.length=(actN sl 4).length
 ·rw [decide_eq_true hl]
  have hn:st.Nodup:=a4G.mpr h.dif
  have hp:=a6K hn (fun x hx=>by obtain ⟨j,hj,rfl⟩:=e7.mp hx;exact h.inn j hj) (by omega)
  exact b3a (Y5.mpr hp) h.lev (Nat.le_refl _)
 ·rw [decide_eq_false hl]
  exact a8l fun e=>hl (Y5.mp e).length_eq
theorem b1V (hi:i < st.length) (h:¬ st.getD i default∈actN sl 4):a2n sl st=false:=a8l fun e=>h (b0X e (e7.mpr ⟨i,hi,rfl⟩))
theorem b0Y (hF:SlF sl) {k:Nat} (hk:k < i) (hi:i < st.length) (h:st.getD k default=st.getD i default):a2n sl st=false:=a8l fun e=>by
 have hn:st.Nodup:=(Y5.mp e).nodup_iff.mpr (a1S hF 4 (Nat.le_refl _))
 exact a4G.mp hn k i hk hi h
end
theorem a8m {x:Ifc} (h:a04 x=true):IfF x∧setd x.qu=true∧(0≤x.ma∧x.ma≤16)∧srtI x.st=srtI (actN x.qu.sl 4):=by
 simp only [a04,a2n,Bool.and_eq_true,decide_eq_true_eq] at h
 obtain ⟨h1,h2,h3,h4⟩:=h
 obtain ⟨g1,g2⟩:=a5h.mp h2
 refine ⟨⟨g1,?_,fun q hq=>?_⟩,g2,p6.mp h1,h3⟩
 ·rw [(Y5.mp h3).length_eq];exact a1o 4
 ·obtain ⟨j,h1,h2,h3⟩:=(H8 4).mp (b0X h3 hq)
  exact ⟨wOf (x.qu.sl.getD j default),w3.mpr ⟨_,e7.mpr ⟨j,by rw [g1.sl.len];exact h1,rfl⟩,h2,rfl⟩,h3⟩
def rtW (rs:List Route) (k:Nat) (w:Wtr):Bool:=decide (tgI rs w.q=k) && decide (prI rs w.q=w.p)
def rtS (rs:List Route) (k:Nat) (x:Slot):Bool:=!decide (x.s=3) && (decide (x.s=0) || rtW rs k (wOf x))
def okRq (rs:List Route) (q:Que) (k:Nat):Bool:=I0 4 (fun i=>rtS rs k (q.sl.getD i default)) && I0 q.wa.length (fun i=>rtW rs k (q.wa.getD i default))
def a3J (m:Mach) (k:Nat):Bool:=a04 (m.cp.getD k default) && okRq m.rs (m.cp.getD k default).qu k
def a27 (m:Mach):Bool:=okRts m.rs m.cp.length && (decide (m.en.length=8) && (decide (m.ra.length=8) && I0 m.cp.length (a3J m)))
section
variable {rs:List Route} {q:Que} {k i:Nat} {m:Mach}
theorem a28 {w:Wtr}:rtW rs k w=true↔tgI rs w.q=k∧prI rs w.q=w.p:=by simp [rtW]
theorem b3b {w:Wtr}:rtW rs k w=false↔¬ (tgI rs w.q=k∧prI rs w.q=w.p):=by rw [← Bool.not_eq_true,a28]
theorem a29 {x:Slot}:rtS rs k x=true↔x.s≠3∧(x.s=0∨(tgI rs x.q=k∧prI rs x.q=x.p)):=by
 simp only [rtS,Bool.and_eq_true,Bool.not_eq_true',decide_eq_false_iff_not,Bool.or_eq_true,decide_eq_true_eq,a28,wOf,ne_eq]
theorem b3c {x:Slot}:rtS rs k x=false↔¬ (x.s≠3∧(x.s=0∨(tgI rs x.q=k∧prI rs x.q=x.p))):=by rw [← Bool.not_eq_true,a29]
theorem b3d (h:rtS rs k (q.sl.getD i default)=false) (hi:i < 4):okRq rs q k=false:=by unfold okRq;rw [L9 h hi,Bool.false_and]
theorem b3e (h:rtW rs k (q.wa.getD i default)=false) (hi:i < q.wa.length):okRq rs q k=false:=by unfold okRq;rw [L9 h hi,Bool.and_false]
theorem b3f {j:Nat} (h:∀ t,t < i→rtS rs k (q.sl.getD t default)=true) (hi:4≤i) (h2:∀ t,t < j→rtW rs k (q.wa.getD t default)=true) (hj:q.wa.length≤j):okRq rs q k=true:=by unfold okRq;rw [P6 h hi,P6 h2 hj];rfl
theorem b3g (h:okRts m.rs m.cp.length=false):a27 m=false:=by unfold a27;rw [h,Bool.false_and]
theorem b3h (h:¬ (m.en.length=8∧m.ra.length=8)):a27 m=false:=by
 unfold a27
 by_cases h1:m.en.length=8
 ·rw [decide_eq_true h1,decide_eq_false (fun e=>h ⟨h1,e⟩)];simp
 ·rw [decide_eq_false h1];simp
theorem b0Z (h:a3J m k=false) (hk:k < m.cp.length):a27 m=false:=by unfold a27;rw [L9 h hk];simp
theorem b3i (h1:okRts m.rs m.cp.length=true) (h2:m.en.length=8) (h3:m.ra.length=8) (h4:∀ j,j < k→a3J m j=true) (hk:m.cp.length≤k):a27 m=true:=by unfold a27;rw [h1,decide_eq_true h2,decide_eq_true h3,P6 h4 hk];rfl
theorem b3j (h:a04 (m.cp.getD k default)=false):a3J m k=false:=by unfold a3J;rw [h,Bool.false_and]
theorem b3k (h:okRq m.rs (m.cp.getD k default).qu k=false):a3J m k=false:=by unfold a3J;rw [h,Bool.and_false]
theorem b3l (h1:a04 (m.cp.getD k default)=true) (h2:okRq m.rs (m.cp.getD k default).qu k=true):a3J m k=true:=by unfold a3J;rw [h1,h2];rfl
end
section
variable {rs:List Route} {q:Que} {k i:Nat}
end
end Go.Rf
namespace Go.Rf
section
variable {x:Ifc}
theorem b3m (h:u4 x.ma 0 16=false):a04 x=false:=by unfold a04;rw [h,Bool.false_and]
theorem b3n (h:a7s x.qu=false):a04 x=false:=by unfold a04;rw [h,Bool.false_and,Bool.and_false]
theorem a8n (h:a2n x.qu.sl x.st=false):a04 x=false:=by unfold a04;rw [h,Bool.and_false,Bool.and_false]
theorem b3o (h1:u4 x.ma 0 16=true) (h2:a7s x.qu=true):a04 x=a2n x.qu.sl x.st:=by unfold a04;rw [h1,h2];rfl
end
end Go.Rf
namespace Go.Rf
open Go
theorem a5m {l:List Int} {v:Int}:a2U l v=true↔v∈l:=by
 unfold a2U
 rw [a5c]
 constructor
 ·rintro ⟨i,hi,h⟩
  rw [of_decide_eq_true h]
  exact e7.mpr ⟨i,hi,rfl⟩
 ·intro h
  obtain ⟨i,hi,e⟩:=e7.mp h
  exact ⟨i,hi,decide_eq_true e.symm⟩
theorem a4H {l:List Int} {v:Int}:a2U l v=false↔v∉l:=by rw [← Bool.not_eq_true,a5m]
theorem a1p {l:List Int} {i:Nat} (hi:i≤l.length) {v:Int}:v∈l.take i↔∃ k,k < i∧l.getD k default=v:=by
 rw [e7]
 constructor
 ·rintro ⟨k,hk,e⟩
  rw [List.length_take] at hk
  have hk2:k < i:=by omega
  exact ⟨k,hk2,by rw [← U2 (l:=l) hk2];exact e⟩
 ·rintro ⟨k,hk,e⟩
  exact ⟨k,by rw [List.length_take];omega,by rw [U2 hk];exact e⟩
theorem b5c {a b:Nat}:((a:Int)==(b:Int))=decide (a=b):=by
 by_cases h:a=b
 ·subst h;simp
 ·have:¬ ((a:Int)=b):=by omega
  simp [h,this]
def a7y (po:List Bool) (l:List Int):Nat→List Bool
 | 0=>po
 | i+1=>(a7y po l i).set (l.getD i default).toNat true
theorem a3K {po:List Bool} {l:List Int} {i:Nat}:a7y po l (i+1)=(a7y po l i).set (l.getD i default).toNat true:=rfl
theorem R1 {po:List Bool} {l:List Int}:∀ i,(a7y po l i).length=po.length
 | 0=>rfl
 | i+1=>by rw [a3K,List.length_set,R1 i]
def poN (m:Mach):Nat→List Bool
 | 0=>List.replicate 8 false
 | k+1=>a7y (poN m k) (J4 (m.cp.getD k default).qu) (J4 (m.cp.getD k default).qu).length
theorem a3a {m:Mach} {k:Nat}:poN m (k+1)=a7y (poN m k) (J4 (m.cp.getD k default).qu) (J4 (m.cp.getD k default).qu).length:=rfl
theorem C9 {m:Mach}:∀ k,(poN m k).length=8
 | 0=>rfl
 | k+1=>by rw [a3a,R1,C9 k]
def r3 (m:Mach):Abs:=⟨m.en,m.ra,poN m m.cp.length,m.cp.map (·.ma),m.cp.map (·.st)⟩
structure MaF (m:Mach):Prop where
 rt:okRts m.rs m.cp.length=true
 n:1≤m.cp.length∧m.cp.length≤2
 rn:m.rs.length=8
 en:m.en.length=8
 ra:m.ra.length=8
 ok:∀ k,k < m.cp.length→IfF (m.cp.getD k default)∧setd (m.cp.getD k default).qu=true∧(0≤(m.cp.getD k default).ma∧(m.cp.getD k default).ma≤16)∧srtI (m.cp.getD k default).st=srtI (actN (m.cp.getD k default).qu.sl 4)
 rq:∀ k,k < m.cp.length→okRq m.rs (m.cp.getD k default).qu k=true
theorem maF {m:Mach} (h:a27 m=true):MaF m:=by
 simp only [a27,a3J,Bool.and_eq_true,decide_eq_true_eq,w8] at h
 obtain ⟨h1,h2,h3,h4⟩:=h
 have hr:=z4.mp h1
 exact ⟨h1,by omega,hr.2.1,h2,h3,fun k hk=>a8m (h4 k hk).1,fun k hk=>(h4 k hk).2⟩
theorem a4I {m:Mach} {k:Nat} (h:k < m.cp.length):((m.cp.map (·.ma)).take k).map r5++[[Value.int .i64 (m.cp.getD k default).ma]]=((m.cp.map (·.ma)).take (k+1)).map r5:=a87 (by rw [List.length_map];exact h) (by rw [F5 h];rfl)
theorem a4J {m:Mach} {k:Nat} (h:k < m.cp.length) {y:List CI} (hy:y=s1 (m.cp.getD k default).st):((m.cp.map (·.st)).take k).map s1++[y]=((m.cp.map (·.st)).take (k+1)).map s1:=a87 (by rw [List.length_map];exact h) (by rw [F5 h];exact hy)
theorem b00 {α β:Type} {l:List α} {f:α→β} {k:Nat} (h:l.length≤k):(l.map f).take k=l.map f:=List.take_of_length_le (by rw [List.length_map];exact h)
end Go.Rf
namespace Go.Rf
end Go.Rf
namespace Go.Rf
open Go
theorem a1T {α:Type} [BEq α] [LawfulBEq α]:∀ {a b:List α},a.Nodup→(∀ x∈a,x∈b)→a.length≤b.length
 | [],b,_,_=>Nat.zero_le _
 | x :: a,b,hn,hs=>by
  obtain ⟨h1,h2⟩:=List.nodup_cons.mp hn
  have hx:x∈b:=hs x (by simp)
  have:=a1T (b:=b.erase x) h2 (fun y hy=>(List.mem_erase_of_ne (fun e:y=x=>h1 (e▸hy))).mpr (hs y (by simp [hy])))
  rw [List.length_erase_of_mem hx] at this
  have hp:0 < b.length:=List.length_pos_of_mem hx
  simp only [List.length_cons]
  omega
theorem a89 {sl:List Slot} {k:Nat} (h:H6 (sl.getD k default)=false):∀ i,k < i→(actN sl i).length < i
 | i+1,hk=>by
  have hl:=@a1o sl i
  show (if _ then _ else _:List Int).length < _
  split
  ·next ha =>
   rw [List.length_append,List.length_cons,List.length_nil]
   have hne:k≠i:=fun e=>by subst e;rw [h] at ha;cases ha
   have:=a89 h i (by omega)
   omega
  ·omega
theorem S9 {sl:List Slot} (hl:sl.length=4) {q:Int}:(∃ w∈actL sl,w.q=q)↔q∈actN sl 4:=by
 rw [H8]
 constructor
 ·rintro ⟨w,hw,e⟩
  obtain ⟨x,h1,h2,rfl⟩:=w3.mp hw
  obtain ⟨j,hj,rfl⟩:=e7.mp h1
  exact ⟨j,by omega,h2,e⟩
 ·rintro ⟨j,h1,h2,h3⟩
  exact ⟨wOf (sl.getD j default),w3.mpr ⟨_,e7.mpr ⟨j,by omega,rfl⟩,h2,rfl⟩,h3⟩
structure IfG (x:Ifc):Prop where
 f:IfF x
 nd:x.st.Nodup
theorem IfG.lt {x:Ifc} (h:IfG x) (hb:0≤bstS x.qu.sl true):x.st.length < 4:=by
 obtain ⟨k,e1,e2,e3⟩:=C1 hb
 have hl:=h.f.qu.sl.len
 have h1:=a1T h.nd (fun q hq=>(S9 hl).mp (h.f.st q hq))
 have h2:=a89 (sl:=x.qu.sl) (k:=k) (by rw [← Bool.not_eq_true,r9];omega) 4 (by omega)
 omega
theorem a7z {x:Ifc} {q p:Int} (h:IfG x) (hq:0≤q∧q≤7) (hp:0≤p∧p≤15):IfG (Z0 x q p):=⟨a8g h.f hq hp,h.nd⟩
theorem b1W {x:Ifc} (h:IfG x) (hk:okT x=true):IfG (a1m x):=by
 have hb:=(H5.mp hk).1
 refine ⟨b23 h.f hb (h.lt hb),?_⟩
 obtain ⟨k,e1,e2,e3⟩:=C1 hb
 refine List.nodup_append.mpr ⟨h.nd,List.nodup_cons.mpr ⟨by simp,List.nodup_nil⟩,fun a ha b hb e=>?_⟩
 rw [List.mem_singleton.mp hb] at e
 obtain ⟨j,h1,h2,h3⟩:=(H8 4).mp ((S9 h.f.qu.sl.len).mp (h.f.st a ha))
 have hkq:tkI x.qu.sl=(x.qu.sl.getD k default).q:=by unfold tkI;rw [e1];rfl
 have hne:j≠k:=fun ee=>by subst ee;rcases r9.mp h2 with g | g<;>omega
 have hj0:(x.qu.sl.getD j default).s≠0:=by rcases r9.mp h2 with g | g<;>omega
 have hl:=h.f.qu.sl.len
 rcases Nat.lt_or_ge j k with g | g
 ·exact h.f.qu.sl.dif j k g (by omega) hj0 (by omega) (by rw [h3,e,hkq])
 ·exact h.f.qu.sl.dif k j (by omega) h1 (by omega) hj0 (by rw [h3,e,hkq])
def J5 (x:Ifc):Int:=x.st.getD (x.st.length - 1) default
def a1q (x:Ifc):Ifc:=⟨x.ma,x.st.take (x.st.length - 1),a3G x.qu (J5 x)⟩
theorem a0m {x:Ifc} (h:x.st.length≠0):J5 x∈x.st:=e7.mpr ⟨x.st.length - 1,by omega,rfl⟩
theorem b1X {sl:List Slot} {q:Int} (h:SlF sl) (ha:∃ w∈actL sl,w.q=q):H6 (sl.getD (o9 sl q).toNat default)=true:=by
 obtain ⟨k,e1,e2,e3,e4⟩:=V6 (a0K ha)
 obtain ⟨j,h1,h2,h3⟩:=(H8 4).mp ((S9 h.len).mp ha)
 have hl:=h.len
 have hj0:(sl.getD j default).s≠0:=by rcases r9.mp h2 with g | g<;>omega
 have:j=k:=by
  rcases Nat.lt_trichotomy j k with g | g | g
  ·exact absurd (h3.trans e4.symm) (h.dif j k g (by omega) hj0 e3)
  ·exact g
  ·exact absurd (e4.trans h3.symm) (h.dif k j g h1 e3 hj0)
 subst this
 rw [e1]
 exact h2
theorem b1Y {x:Ifc} (h:IfG x) (h0:x.st.length≠0):IfG (a1q x):=by
 have hf:=a0K (h.f.st _ (a0m h0))
 have hQ0:=a4D h.f.qu hf
 obtain ⟨k,e1,e2,e3,e4⟩:=V6 hf
 have hnl:∀ y∈x.st.take (x.st.length - 1),y≠J5 x:=fun y hy e=>by
  obtain ⟨i,hi,e5⟩:=(a1p (by omega)).mp hy
  exact a4G.mp h.nd i (x.st.length - 1) hi (by omega) (e5.trans e)
 refine ⟨⟨(a8e h.f.qu hf).1,by show (x.st.take (x.st.length - 1)).length≤4;have:=h.f.sn;rw [List.length_take];omega,fun y hy=>?_⟩,List.Pairwise.sublist (List.take_sublist _ _) h.nd⟩
 show ∃ w∈actL (a3G x.qu (J5 x)).sl,w.q=y
 unfold a3G
 rw [a5i hQ0]
 show ∃ w∈actL (edS x.qu.sl (J5 x)),w.q=y
 obtain ⟨w,hw,e⟩:=h.f.st y (List.mem_of_mem_take hy)
 obtain ⟨z,z1,z2,z3⟩:=w3.mp hw
 refine ⟨w,w3.mpr ⟨z,?_,z2,z3⟩,e⟩
 unfold edS
 rw [e1,Int.toNat_natCast]
 refine a83 z1 fun e'=>hnl y hy ?_
 rw [← e,← z3,e']
 exact e4
structure MaG (m:Mach):Prop where
 rt:okRts m.rs m.cp.length=true
 n:1≤m.cp.length∧m.cp.length≤2
 rn:m.rs.length=8
 en:m.en.length=8
 ra:m.ra.length=8
 ok:∀ k,k < m.cp.length→IfG (m.cp.getD k default)
theorem MaF.g {m:Mach} (h:MaF m):MaG m:=⟨h.rt,h.n,h.rn,h.en,h.ra,fun k hk=>⟨(h.ok k hk).1,(Y5.mp (h.ok k hk).2.2.2).nodup_iff.mpr (a1S (h.ok k hk).1.qu.sl 4 (Nat.le_refl _))⟩⟩
theorem MaG.tg {m:Mach} (h:MaG m) {i:Nat} (hi:i < 8):(0≤(m.rs.getD i default).t∧(m.rs.getD i default).t≤1)∧(m.rs.getD i default).t.toNat < m.cp.length∧(0≤(m.rs.getD i default).p∧(m.rs.getD i default).p≤15):=by
 have:=(z4.mp h.rt).2.2 i hi
 have:=h.n
 omega
def tgM (m:Mach) (i:Nat):Nat:=(m.rs.getD i default).t.toNat
def a0n (m:Mach) (i:Nat):Bool:=m.en.getD i default && (m.ra.getD i default && !a2U (m.cp.getD (tgM m i) default).st i)
def a3L (m:Mach):Nat→List Bool
 | 0=>m.ra
 | i+1=>if a0n m i then (a3L m i).set i false else a3L m i
def J6 (m:Mach):Nat→List Ifc
 | 0=>m.cp
 | i+1=>if a0n m i then (J6 m i).set (tgM m i) (Z0 ((J6 m i).getD (tgM m i) default) i (m.rs.getD i default).p) else J6 m i
def a5n (m:Mach):Mach:=⟨m.rs,m.en,a3L m 8,J6 m 8⟩
section
variable {m:Mach} {i:Nat}
theorem a0L (h:a0n m i=true):a3L m (i+1)=(a3L m i).set i false:=by show (if _ then _ else _)=_;rw [if_pos h]
theorem a0M (h:a0n m i=false):a3L m (i+1)=a3L m i:=by show (if _ then _ else _)=_;rw [if_neg (by rw [h];decide)]
theorem a0N (h:a0n m i=true):J6 m (i+1)=(J6 m i).set (tgM m i) (Z0 ((J6 m i).getD (tgM m i) default) i (m.rs.getD i default).p):=by show (if _ then _ else _)=_;rw [if_pos h]
theorem a0O (h:a0n m i=false):J6 m (i+1)=J6 m i:=by show (if _ then _ else _)=_;rw [if_neg (by rw [h];decide)]
theorem a3b:∀ i,(a3L m i).length=m.ra.length
 | 0=>rfl
 | i+1=>by
  have ih:=@a3b i
  show (if _ then _ else _:List Bool).length=_
  split
  ·rw [List.length_set];exact ih
  ·exact ih
theorem G2:∀ i,(J6 m i).length=m.cp.length
 | 0=>rfl
 | i+1=>by
  have ih:=@G2 i
  show (if _ then _ else _:List Ifc).length=_
  split
  ·rw [List.length_set];exact ih
  ·exact ih
theorem a4K (hM:MaG m):∀ {i k:Nat},i≤8→k < m.cp.length→((J6 m i).getD k default).st=(m.cp.getD k default).st∧IfG ((J6 m i).getD k default)
 | 0,k,_,hk=>⟨rfl,hM.ok k hk⟩
 | i+1,k,hi,hk=>by
  have ih:=@a4K hM i k (by omega) hk
  obtain ⟨_,h2,h3⟩:=hM.tg (i:=i) (by omega)
  show ((if _ then _ else _:List Ifc).getD k default).st=_∧IfG ((if _ then _ else _:List Ifc).getD k default)
  split
  ·rw [v9 (by rw [G2];exact h2)]
   by_cases e:tgM m i=k
   ·rw [if_pos e]
    subst e
    have ih2:=@a4K hM i (tgM m i) (by omega) h2
    exact ⟨ih2.1,a7z ih2.2 (by omega) h3⟩
   ·rw [if_neg e];exact ih
  ·exact ih
theorem b3p (hM:MaG m):MaG (a5n m):=by
 refine ⟨?_,by show 1≤(J6 m 8).length∧_;rw [G2];exact ⟨hM.n.1,by show (J6 m 8).length≤2;rw [G2];exact hM.n.2⟩,hM.rn,hM.en,by show (a3L m 8).length=8;rw [a3b];exact hM.ra,fun k hk=>?_⟩
 ·show okRts m.rs (J6 m 8).length=true
  rw [G2];exact hM.rt
 ·have hk:k < (J6 m 8).length:=hk
  rw [G2] at hk
  exact (a4K hM (Nat.le_refl _) hk).2
end
def stM (m:Mach) (s:MStep):Mach×Int×Bool :=
 if s.k=1 then (⟨m.rs,m.en,m.ra.set s.q.toNat true,m.cp⟩,-1,!(m.ra.getD s.q.toNat default))
 else if s.k=2 then (a5n m,-1,true)
 else if s.k=3 then (if okT (m.cp.getD s.c.toNat default) then (⟨m.rs,m.en,m.ra,m.cp.set s.c.toNat (a1m (m.cp.getD s.c.toNat default))⟩,tkI (m.cp.getD s.c.toNat default).qu.sl,true) else (⟨m.rs,m.en,m.ra,m.cp.set s.c.toNat noI⟩,0,false))
 else if s.k=4 then (if (m.cp.getD s.c.toNat default).st.length=0 then (⟨m.rs,m.en,m.ra,m.cp.set s.c.toNat noI⟩,0,false) else (⟨m.rs,m.en,m.ra,m.cp.set s.c.toNat (a1q (m.cp.getD s.c.toNat default))⟩,J5 (m.cp.getD s.c.toNat default),true))
 else if s.k=5 then (⟨m.rs,m.en,m.ra,m.cp.set s.c.toNat ⟨s.v,(m.cp.getD s.c.toNat default).st,(m.cp.getD s.c.toNat default).qu⟩⟩,-1,true)
 else (⟨m.rs,m.en.set s.q.toNat (decide (s.v=1)),m.ra,m.cp⟩,-1,true)
def a7A (m:Mach) (s:MStep):Prop:=(s.k=3∧okT (m.cp.getD s.c.toNat default)=false)∨(s.k=4∧(m.cp.getD s.c.toNat default).st.length=0)
theorem b3q {m:Mach} (h:MaG m):AbsF m.rs (r3 m):=by
 have hl:(m.cp.map (fun x:Ifc=>x.ma)).length=m.cp.length:=List.length_map _
 have hl2:(m.cp.map (fun x:Ifc=>x.st)).length=m.cp.length:=List.length_map _
 have hg:∀ c,c < m.cp.length→(m.cp.map (fun x:Ifc=>x.st)).getD c default=(m.cp.getD c default).st:=fun c hc=>F5 (f:=fun x:Ifc=>x.st) hc
 refine ⟨by show 1≤(m.cp.map (fun x:Ifc=>x.ma)).length∧(m.cp.map (fun x:Ifc=>x.ma)).length≤2;rw [hl];exact h.n,h.rn,by show (m.cp.map (fun x:Ifc=>x.st)).length=(m.cp.map (fun x:Ifc=>x.ma)).length;rw [hl,hl2],h.en,h.ra,C9 _,fun i hi=>?_,fun c hc=>?_,fun c hc i hi=>?_⟩
 ·show 0≤(m.rs.getD i default).t∧(m.rs.getD i default).t < (m.cp.map (fun x:Ifc=>x.ma)).length
  rw [hl]
  have:=(z4.mp h.rt).2.2 i hi
  omega
 ·have hc:c < (m.cp.map (fun x:Ifc=>x.ma)).length:=hc
  rw [hl] at hc
  show ((m.cp.map (fun x:Ifc=>x.st)).getD c default).length≤4
  rw [hg c hc]
  exact (h.ok c hc).f.sn
 ·have hc:c < (m.cp.map (fun x:Ifc=>x.ma)).length:=hc
  rw [hl] at hc
  have hi:i < ((m.cp.map (fun x:Ifc=>x.st)).getD c default).length:=hi
  show 0≤((m.cp.map (fun x:Ifc=>x.st)).getD c default).getD i default∧((m.cp.map (fun x:Ifc=>x.st)).getD c default).getD i default≤7
  rw [hg c hc] at hi ⊢
  have hI:=(h.ok c hc).f
  obtain ⟨j,h1,h2,h3⟩:=(H8 4).mp ((S9 hI.qu.sl.len).mp (hI.st _ (e7.mpr ⟨i,hi,rfl⟩)))
  rw [← h3]
  exact (hI.qu.sl.ok j h1 (by rcases r9.mp h2 with g | g<;>omega)).2.1
theorem MaG.put {m:Mach} (h:MaG m) {c:Nat} {x:Ifc} (hx:IfG x):MaG ⟨m.rs,m.en,m.ra,m.cp.set c x⟩:=by
 refine ⟨by show okRts m.rs (m.cp.set c x).length=true;rw [List.length_set];exact h.rt,by show 1≤(m.cp.set c x).length∧(m.cp.set c x).length≤2;rw [List.length_set];exact h.n,h.rn,h.en,h.ra,fun k hk=>?_⟩
 have hk:k < (m.cp.set c x).length:=hk
 rw [List.length_set] at hk
 show IfG ((m.cp.set c x).getD k default)
 by_cases e:c=k
 ·subst e
  rw [v9 hk,if_pos rfl];exact hx
 ·rw [List.getD_eq_getElem?_getD,List.getElem?_set_ne e,← List.getD_eq_getElem?_getD];exact h.ok k hk
theorem a7B {m:Mach} {s:MStep} (h:MaG m) (hv:f8 m.cp.length s=true) (hk:(stM m s).2.2=true):MaG (stM m s).1∧(stM m s).1.rs=m.rs∧(stM m s).1.cp.length=m.cp.length:=by
 obtain ⟨sk,sq,sc,sv⟩:=s
 have hc:=fun hk=>a2i (n:=m.cp.length) (k:=sk) (q:=sq) (c:=sc) (v:=sv) hv hk
 unfold stM at hk ⊢
 dsimp only at hk ⊢
 by_cases h1:sk=1
 ·simp only [h1,if_true]
  exact ⟨⟨h.rt,h.n,h.rn,h.en,by show (m.ra.set sq.toNat true).length=8;rw [List.length_set];exact h.ra,h.ok⟩,trivial,trivial⟩
 by_cases h2:sk=2
 ·rw [if_neg h1,if_pos h2]
  exact ⟨b3p h,rfl,G2 8⟩
 by_cases h3:sk=3
 ·have hcc:=hc (.inl h3)
  rw [if_neg h1,if_neg h2,if_pos h3] at hk ⊢
  by_cases ho:okT (m.cp.getD sc.toNat default)=true
  ·rw [if_pos ho]
   exact ⟨h.put (b1W (h.ok _ (by omega)) ho),rfl,List.length_set⟩
  ·rw [if_neg ho] at hk;cases hk
 by_cases h4:sk=4
 ·have hcc:=hc (.inr (.inl h4))
  rw [if_neg h1,if_neg h2,if_neg h3,if_pos h4] at hk ⊢
  by_cases ho:(m.cp.getD sc.toNat default).st.length=0
  ·rw [if_pos ho] at hk;cases hk
  ·rw [if_neg ho]
   exact ⟨h.put (b1Y (h.ok _ (by omega)) ho),rfl,List.length_set⟩
 by_cases h5:sk=5
 ·have hcc:=hc (.inr (.inr h5))
  rw [if_neg h1,if_neg h2,if_neg h3,if_neg h4,if_pos h5]
  have hI:=h.ok sc.toNat (by omega)
  exact ⟨h.put ⟨⟨hI.f.qu,hI.f.sn,hI.f.st⟩,hI.nd⟩,rfl,List.length_set⟩
 ·rw [if_neg h1,if_neg h2,if_neg h3,if_neg h4,if_neg h5]
  exact ⟨⟨h.rt,h.n,h.rn,by show (m.en.set sq.toNat _).length=8;rw [List.length_set];exact h.en,h.ra,h.ok⟩,rfl,rfl⟩
section
variable {p:Mach×Abs} {s:MStep}
end
section
variable {m:Mach} {sk sq sc sv:Int} {q c:Nat}
theorem sm1 (h:sk=1):stM m ⟨sk,(q:Int),sc,sv⟩=(⟨m.rs,m.en,m.ra.set q true,m.cp⟩,-1,!(m.ra.getD q default)):=by subst h;rfl
theorem sm2 (h:sk=2):stM m ⟨sk,sq,sc,sv⟩=(a5n m,-1,true):=by subst h;rfl
theorem sm3 (h:sk=3) (hk:okT (m.cp.getD c default)=true):stM m ⟨sk,sq,(c:Int),sv⟩=(⟨m.rs,m.en,m.ra,m.cp.set c (a1m (m.cp.getD c default))⟩,tkI (m.cp.getD c default).qu.sl,true):=by
 subst h
 show (if okT (m.cp.getD c default) then _ else _:Mach×Int×Bool)=_
 rw [hk];rfl
theorem b5d (h:sk=3) (hk:okT (m.cp.getD c default)=false):stM m ⟨sk,sq,(c:Int),sv⟩=(⟨m.rs,m.en,m.ra,m.cp.set c noI⟩,0,false):=by
 subst h
 show (if okT (m.cp.getD c default) then _ else _:Mach×Int×Bool)=_
 rw [hk];rfl
theorem sm4 (h:sk=4) (hk:¬ (m.cp.getD c default).st.length=0):stM m ⟨sk,sq,(c:Int),sv⟩=(⟨m.rs,m.en,m.ra,m.cp.set c (a1q (m.cp.getD c default))⟩,J5 (m.cp.getD c default),true):=by
 subst h
 show (if (m.cp.getD c default).st.length=0 then _ else _:Mach×Int×Bool)=_
 rw [if_neg hk];rfl
theorem b5e (h:sk=4) (hk:(m.cp.getD c default).st.length=0):stM m ⟨sk,sq,(c:Int),sv⟩=(⟨m.rs,m.en,m.ra,m.cp.set c noI⟩,0,false):=by
 subst h
 show (if (m.cp.getD c default).st.length=0 then _ else _:Mach×Int×Bool)=_
 rw [if_pos hk];rfl
theorem sm5 (h:sk=5):stM m ⟨sk,sq,(c:Int),sv⟩=(⟨m.rs,m.en,m.ra,m.cp.set c ⟨sv,(m.cp.getD c default).st,(m.cp.getD c default).qu⟩⟩,-1,true):=by subst h;rfl
theorem sm6 (h:sk=6):stM m ⟨sk,(q:Int),sc,sv⟩=(⟨m.rs,m.en.set q (decide (sv=1)),m.ra,m.cp⟩,-1,true):=by subst h;rfl
theorem a8o (h:a7A m ⟨sk,sq,sc,sv⟩):sk=3∨sk=4:=by
 rcases h with ⟨h,_⟩ | ⟨h,_⟩
 ·exact .inl h
 ·exact .inr h
theorem b3r (h:a7A m ⟨sk,sq,(c:Int),sv⟩) (h3:sk=3):okT (m.cp.getD c default)=false:=by
 rcases h with ⟨_,h⟩ | ⟨h,_⟩
 ·exact h
 ·have h':sk=4:=h
  omega
theorem b3s (h:a7A m ⟨sk,sq,(c:Int),sv⟩) (h4:sk=4):(m.cp.getD c default).st.length=0:=by
 rcases h with ⟨h,_⟩ | ⟨_,h⟩
 ·have h':sk=3:=h
  omega
 ·exact h
theorem b5f (h:¬ a7A m ⟨sk,sq,(c:Int),sv⟩) (h3:sk=3):okT (m.cp.getD c default)=true:=by
 cases ho:okT (m.cp.getD c default)
 ·exact absurd (Or.inl ⟨h3,ho⟩) h
 ·rfl
theorem b5g (h:¬ a7A m ⟨sk,sq,(c:Int),sv⟩) (h4:sk=4):¬ (m.cp.getD c default).st.length=0:=fun e=>h (Or.inr ⟨h4,e⟩)
end
theorem MaG.lens {m:Mach} (h:MaG m) {k:Nat} (hk:k < m.cp.length):(m.cp.getD k default).st.length≤4∧(m.cp.getD k default).qu.sl.length=4∧(m.cp.getD k default).qu.wa.length≤8:=⟨(h.ok k hk).f.sn,(h.ok k hk).f.qu.sl.len,(h.ok k hk).f.qu.wn8⟩
theorem MaG.small {m:Mach} (h:MaG m):SmallM m:=by
 have h1:=h.n
 refine ⟨by rw [h.rn];decide,by rw [h.en];decide,by rw [h.ra];decide,by omega,?_⟩
 have key:∀ i,i≤m.cp.length→sumI m.cp i≤16 * i:=by
  intro i
  induction i with
  | zero=>intro _;exact Int.le_refl _
  | succ i ih =>
   intro hi
   rw [a0k]
   have:=ih (by omega)
   obtain ⟨q1,q2,q3⟩:=h.lens (show i < m.cp.length by omega)
   have:szI (m.cp.getD i default)≤16:=by unfold szI;omega
   push_cast
   omega
 have:=key _ (Nat.le_refl _)
 omega
theorem b3t {m:Mach} {i:Nat} (h1:m.en.getD i default=true) (h2:m.ra.getD i default=true) (h3:a2U (m.cp.getD (tgM m i) default).st i=false):a0n m i=true:=by unfold a0n;rw [h1,h2,h3];rfl
theorem b3u {m:Mach} {i:Nat} (h1:m.en.getD i default=false):a0n m i=false:=by unfold a0n;rw [h1,Bool.false_and]
theorem b3v {m:Mach} {i:Nat} (h2:m.ra.getD i default=false):a0n m i=false:=by unfold a0n;rw [h2,Bool.false_and,Bool.and_false]
theorem b3w {m:Mach} {i:Nat} (h3:a2U (m.cp.getD (tgM m i) default).st i=true):a0n m i=false:=by unfold a0n;rw [h3];simp
theorem b01 {sl:List Slot} {q:Int} (h:(sl.getD (o9 sl q).toNat default).s=3):edS sl q=sl.set (o9 sl q).toNat ⟨1,q,(sl.getD (o9 sl q).toNat default).p⟩:=by unfold edS edX;rw [if_pos h]
theorem a9a {sl:List Slot} {q:Int} (h:¬ (sl.getD (o9 sl q).toNat default).s=3):edS sl q=sl.set (o9 sl q).toNat zSl:=by unfold edS edX;rw [if_neg h]
end Go.Rf
namespace Go.Rf
open Go Go.RowKit
section
variable {P:Program} [Env P] {w0:Base} {ops:Array Oper} {tb:List (Nat×TyI)} {o:Oper} {rest:List Oper} {T:List (Nat×AV)} {m m1:List (Nat×Option Row)} {nx nt d n1:Nat} {Q:Exit→St→Prop}
end
section
variable {P:Program} [Env P] {w0:Base} {ops:Array Oper} {tb:List (Nat×TyI)} {o:Oper} {rest:List Oper} {T:List (Nat×AV)} {m:List (Nat×Option Row)} {nx nt d:Nat} {Q:Exit→St→Prop}
end
def CILe (c c':CI):Prop:=c=c'∨∃ e sz ys f,c=.l e sz ys f∧c'=.l e sz ys true
def FlR (a b:List CI):Prop:=a.length=b.length∧∀ (k:Nat) (c':CI),b[k]?=some c'→∃ c,a[k]?=some c∧CILe c c'
def FlLe (x y:List (List CI)):Prop:=x.length=y.length∧∀ (i:Nat) (b:List CI),y[i]?=some b→∃ a,x[i]?=some a∧FlR a b
theorem FlR.nil:FlR [] []:=⟨rfl,fun k c' h=>by simp at h⟩
theorem FlR.cons {c c':CI} {a b:List CI} (h:CILe c c') (hr:FlR a b):FlR (c :: a) (c' :: b):=⟨by simp [hr.1],fun k d hd=>by
 match k with
 | 0=>exact ⟨c,rfl,by simp at hd;subst hd;exact h⟩
 | k+1=>exact hr.2 k d (by simpa using hd)⟩
theorem FlR.rfl' {a:List CI}:FlR a a:=⟨rfl,fun k c h=>⟨c,h,.inl rfl⟩⟩
theorem CILe.s {c:CI}:CILe c c:=.inl rfl
theorem CILe.t {e sz:Nat} {ys:List (List Value)} {f:Bool}:CILe (.l e sz ys f) (.l e sz ys true):=.inr ⟨e,sz,ys,f,rfl,rfl⟩
theorem FlLe.refl {x:List (List CI)}:FlLe x x:=⟨rfl,fun i b h=>⟨b,h,FlR.rfl'⟩⟩
theorem FlLe.map {α:Type} {f g:α→List CI} {xs:List α} (h:∀ x,FlR (f x) (g x)):FlLe (xs.map f) (xs.map g):=⟨by simp,fun i b hb=>by
 rw [List.getElem?_map] at hb
 obtain ⟨x,hx,rfl⟩:=Option.map_eq_some_iff.1 hb
 exact ⟨f x,by rw [List.getElem?_map,hx];rfl,h x⟩⟩
theorem FlLe.set {x y:List (List CI)} {a b:List CI} {i:Nat} (h:FlLe x y) (hr:FlR a b):FlLe (x.set i a) (y.set i b):=⟨by simp [h.1],fun j c hc=>by
 by_cases e:i=j
 ·subst e
  have hl:i < y.length:=by
   rcases Nat.lt_or_ge i y.length with g | g
   ·exact g
   ·rw [List.getElem?_eq_none (by simpa using g)] at hc;cases hc
  rw [List.getElem?_set_self (by simpa using hl)] at hc
  cases hc
  exact ⟨a,by rw [List.getElem?_set_self (by rw [h.1];exact hl)],hr⟩
 ·rw [List.getElem?_set_ne e] at hc ⊢
  exact h.2 j c hc⟩
theorem FlLe.trans {x y z:List (List CI)} (h:FlLe x y) (h':FlLe y z):FlLe x z:=⟨h.1.trans h'.1,fun i b hb=>by
 obtain ⟨a,ha,hr⟩:=h'.2 i b hb
 obtain ⟨a2,ha2,hr2⟩:=h.2 i a ha
 refine ⟨a2,ha2,hr2.1.trans hr.1,fun k c hc=>?_⟩
 obtain ⟨d,hd,hd'⟩:=hr.2 k c hc
 obtain ⟨d2,hd2,hd2'⟩:=hr2.2 k d hd
 refine ⟨d2,hd2,?_⟩
 rcases hd2' with rfl | ⟨e,sz,ys,f,rfl,rfl⟩
 ·exact hd'
 ·rcases hd' with rfl | ⟨e2,sz2,ys2,f2,q1,rfl⟩
  ·exact .inr ⟨e,sz,ys,f,rfl,rfl⟩
  ·cases q1;exact .inr ⟨e,sz,ys,f,rfl,rfl⟩⟩
theorem FlLe.nget {x y:List (List CI)} (h:FlLe x y) {i k:Nat} {c':CI} (hc:z5 y i k=some c'):∃ c,z5 x i k=some c∧CILe c c':=by
 simp only [Go.Rf.z5] at hc ⊢
 cases hb:y[i]? with
 | none=>rw [hb] at hc;cases hc
 | some b =>
  rw [hb] at hc
  obtain ⟨a,ha,hr⟩:=h.2 i b hb
  obtain ⟨c,h1,h2⟩:=hr.2 k c' hc
  exact ⟨c,by rw [ha];exact h1,h2⟩
section
variable {w0:Base} {T:List (Nat×AV)} {m:List (Nat×Option Row)} {nx nt:Nat}
end
section
variable {w0:Base} {T:List (Nat×AV)} {m:List (Nat×Option Row)} {nx nt:Nat}
end
theorem NReadsAt.fl {w:World} {sz:Nat} {yss yss':List (List CI)} {y:Value} (hf:FlLe yss yss') (h:NReadsAt w sz yss' y):NReadsAt w sz yss y:=by
 obtain ⟨A,cap,he,hc,hl,hr⟩:=h
 refine ⟨A,cap,by rw [he,hf.1],by rw [hf.1];exact hc,fun cs hcs=>?_,fun h0=>?_⟩
 ·obtain ⟨i,hi,rfl⟩:=List.getElem_of_mem hcs
  have hi':i < yss'.length:=by rw [← hf.1];exact hi
  obtain ⟨a,ha,hr⟩:=hf.2 i _ (List.getElem?_eq_getElem hi')
  rw [List.getElem?_eq_getElem hi] at ha
  cases ha
  rw [hr.1]
  exact hl _ (List.getElem_mem hi')
 ·obtain ⟨ad,h1,h2,h3⟩:=hr (by rw [← hf.1];exact h0)
  refine ⟨ad,h1,h2,fun i k c hc=>?_⟩
  have:∃ c',Go.Rf.z5 yss' i k=some c'∧CILe c c':=by
   simp only [Go.Rf.z5] at hc ⊢
   cases hb:yss[i]? with
   | none=>rw [hb] at hc;cases hc
   | some b =>
    rw [hb] at hc
    have hi:i < yss'.length:=by rw [← hf.1];exact (List.getElem?_eq_some_iff.1 hb).1
    obtain ⟨a,ha,hr⟩:=hf.2 i _ (List.getElem?_eq_getElem hi)
    rw [hb] at ha
    cases ha
    have hc:b[k]?=some c:=hc
    have hk:k < (yss'[i]).length:=by rw [← hr.1];exact (List.getElem?_eq_some_iff.1 hc).1
    obtain ⟨c2,h1,h2⟩:=hr.2 k _ (List.getElem?_eq_getElem hk)
    rw [hc] at h1
    cases h1
    exact ⟨_,by rw [List.getElem?_eq_getElem hi];exact List.getElem?_eq_getElem hk,h2⟩
  obtain ⟨c',hc',hle⟩:=this
  obtain ⟨u,q1,q2,q3⟩:=h3 i k c' hc'
  refine ⟨u,q1,q2,?_⟩
  rcases hle with rfl | ⟨e1,sz1,ys,f,rfl,rfl⟩
  ·exact q3
  ·exact q3
section
variable {P:Program} [Env P] {w0:Base} {ops:Array Oper} {tb:List (Nat×TyI)} {o:Oper} {rest:List Oper} {T:List (Nat×AV)} {m:List (Nat×Option Row)} {nx nt d:Nat} {Q:Exit→St→Prop} {c:Code}
theorem b1Z {t sz:Nat} {ys:List (List Value)} (ht:look t T=some (.lst sz ys)) (h:∀ y,WL P w0 ops rest ⟨(t,.pin y sz ys) :: T,m,nx,nt⟩ Q):WL P w0 ops rest ⟨T,m,nx,nt⟩ Q:=by
 intro ρ a w hT hC
 have h1:=hT.tmps t _ ht
 simp only [RelV] at h1
 refine h (a.tmps.getD t undef) ρ a w ⟨fun i x hi=>?_,hT.size,hT.defers⟩ hC
 by_cases e:i=t
 ·subst e
  rw [n9] at hi
  cases hi
  simp only [RelV]
  exact ⟨trivial,h1⟩
 ·rw [j7 (fun e'=>e e'.symm)] at hi
  exact hT.tmps i x hi
theorem a5o {w0:World} {ρ:Nat→Value} {nx:Nat} {u:Nat→Value}:∀ {cs:List AV} {us:List Value} {k:Nat} {acc rs:List AV} {acc':List Value},a2O cs u k acc=some rs→RelVs w0 ρ nx cs us→(∀ j y,us[j]?=some y→(∃ A l c,y=.slice A l c)→u (k+j)=y)→RelVs w0 ρ nx acc.reverse acc'→RelVs w0 ρ nx rs (acc'++us)
 | [],us,k,acc,rs,acc',h,hr,_,ha=>by
  simp [a2O,E2] at h
  simp only [RelVs] at hr
  subst h;subst hr
  simpa using ha
 | x :: cs,_,k,acc,rs,acc',h,hr,hu,ha=>by
  simp only [RelVs] at hr
  obtain ⟨y,us,rfl,h1,h2⟩:=hr
  have h0:(∃ A l c,y=.slice A l c)→u k=y:=fun hs=>by simpa using hu 0 y rfl hs
  have key:∀ (a:AV),RelV w0 ρ nx a y→a2O cs u (Nat.succ k) (a :: acc)=some rs→RelVs w0 ρ nx rs (acc'++y :: us):=fun a hy h'=>by
   have:=a5o h' h2 (fun j y hj=>by rw [show Nat.succ k+j=k+(j+1) by omega];exact hu (j+1) y (by simpa using hj)) (acc':=acc'++[y]) (by
    rw [List.reverse_cons]
    refine RelVs.append _ ha ?_
    simp only [RelVs]
    exact ⟨_,_,rfl,hy,rfl⟩)
   simpa using this
  cases x<;>simp only [a2O] at h
  case lst sz ys=>exact key _ (by simp only [RelV] at h1 ⊢;obtain ⟨A,c,e,_⟩:=id h1;exact ⟨(h0 ⟨_,_,_,e⟩).symm,h1⟩) h
  case nst z sz ys=>exact key _ (by simp only [RelV] at h1 ⊢;obtain ⟨_,A,c,e,_⟩:=id h1;exact ⟨fun v hv=>by cases hv;exact (h0 ⟨_,_,_,e⟩).symm,h1.2⟩) h
  all_goals exact key _ h1 h
theorem b3x (t:Nat) {cs:List AV} (ht:look t T=some (.agg cs)) {rs:(Nat→Value)→List AV} (hr:∀ u,a2O cs u 0 []=some (rs u)) (h:∀ u:Nat→Option Addr×Nat×Nat,W P w0 c ⟨(t,.agg (rs fun j=>.slice (u j).1 (u j).2.1 (u j).2.2)) :: T,m,nx,nt⟩ Q):W P w0 c ⟨T,m,nx,nt⟩ Q:=by
 intro ρ a w hT hC
 have h1:=hT.tmps t _ ht
 simp only [RelV] at h1
 obtain ⟨us,he,h1⟩:=h1
 let p:Value→Option Addr×Nat×Nat:=fun v=>match v with
  | .slice A l c=>(A,l,c)
  | _=>(none,0,0)
 let u:Nat→Option Addr×Nat×Nat:=fun i=>p (us.getD i undef)
 refine h u ρ a w ⟨fun i x hi=>?_,hT.size,hT.defers⟩ hC
 by_cases e:i=t
 ·subst e
  rw [n9] at hi
  cases hi
  simp only [RelV]
  have key:∀ j y,us[j]?=some y→(∃ A l c,y=.slice A l c)→(fun j=>Value.slice (u j).1 (u j).2.1 (u j).2.2) (0+j)=y:=fun j y hj hs=>by
   obtain ⟨A,l,c,rfl⟩:=hs
   simp only [u,p,Nat.zero_add,List.getD_eq_getElem?_getD,hj,Option.getD_some]
  have:=a5o (acc':=[]) (hr fun j=>.slice (u j).1 (u j).2.1 (u j).2.2) h1 key (by simp [RelVs])
  exact ⟨us,he,by simpa using this⟩
 ·rw [j7 (fun e'=>e e'.symm)] at hi
  exact hT.tmps i x hi
end
def a2o (x:Ifc):List CI:=[.x,.x,.x,.x]
section
variable {w0:Base} {T:List (Nat×AV)} {m:List (Nat×Option Row)} {nx nt:Nat}
theorem Gh.nestX {id e:Nat} {yss:List (List CI)} (xs:List Ifc) (hm:mem m id=some (.nest e 4 yss [])) (h:yss.length=xs.length):Gh w0 ⟨T,m,nx,nt⟩ ⟨T,(id,some (.nest e 4 (xs.map a2o) [])) :: m,nx,nt⟩:=by
 intro ρ a w hT hC
 obtain ⟨hlt,cells,hN,hop⟩:=hC.nestC hm
 obtain ⟨n1,n2,n3,n4,n5⟩:=hN
 have hx:∀ {i k:Nat} {c:CI},z5 (xs.map a2o) i k=some c→c=.x∧i < xs.length∧k < 4:=fun {i k c} hc=>by
  simp only [z5,List.getElem?_map] at hc
  cases hi:xs[i]? with
  | none=>rw [hi] at hc;cases hc
  | some x =>
   rw [hi] at hc
   have hc:(a2o x)[k]?=some c:=hc
   refine ⟨?_,(List.getElem?_eq_some_iff.1 hi).1,(List.getElem?_eq_some_iff.1 hc).1⟩
   match k,hc with
   | 0,hc=>cases hc;rfl
   | 1,hc=>cases hc;rfl
   | 2,hc=>cases hc;rfl
   | 3,hc=>cases hc;rfl
 refine ⟨ρ,hT,hC.retell hm (row':=.nest e 4 (xs.map a2o) []) ⟨cells,⟨by rw [List.length_map,← h];exact n1,by rw [List.length_map,← h];exact n2,n3,fun cs hcs=>?_,fun i k c hc=>?_⟩,fun q hq=>by cases hq⟩ fun p b hb=>?_⟩
 ·obtain ⟨x,_,rfl⟩:=List.mem_map.1 hcs;rfl
 ·obtain ⟨rfl,hi,hk⟩:=hx hc
  have hi':i < cells.length:=by rw [n2,h];exact hi
  have hk':k < (cells[i]).length:=by rw [(n3 _ (List.getElem_mem hi')).1];exact hk
  exact ⟨(cells[i])[k],by simp only [z5,List.getElem?_eq_getElem hi'];exact List.getElem?_eq_getElem hk',trivial⟩
 ·have hb:B4 w (ρ id) 4 (xs.map a2o) p=some b:=hb
  exfalso
  unfold B4 at hb
  cases hc:z5 (xs.map a2o) p.1 p.2 with
  | none=>rw [hc] at hb;cases hb
  | some c=>rw [hc] at hb;obtain ⟨rfl,_⟩:=hx hc;cases hb
end
end Go.Rf
namespace Go.Rf
open Go
theorem b02 {sl:List Slot} {q:Int} (h0:0≤o9 sl q) (h:(sl.getD (o9 sl q).toNat default).s=3):edS sl q=sl.set (o9 sl q).toNat ⟨1,(sl.getD (o9 sl q).toNat default).q,(sl.getD (o9 sl q).toNat default).p⟩:=by rw [b01 h,(b4l h0).1]
theorem b03 {x:Ifc} (h:IfG x) (h0:x.st.length≠0):0≤o9 x.qu.sl (J5 x)∧H6 (x.qu.sl.getD (o9 x.qu.sl (J5 x)).toNat default)=true:=⟨a0K (h.f.st _ (a0m h0)),b1X h.f.qu.sl (h.f.st _ (a0m h0))⟩
theorem a6b {x:Ifc} (h0:x.st.length≠0):x.st.getD ((x.st.length:Int) - 1).toNat default=J5 x:=by
 rw [show ((x.st.length:Int) - 1).toNat=x.st.length - 1 by omega];rfl
theorem b4q {α β:Type} [Inhabited α] {l:List α} {f:α→β} {i:Nat} (h:i < l.length):(l.map f)[i]?=some (f (l.getD i default)):=by simp [h]
theorem a7C {xs:List Int}:List.take (((xs.length:Int) - 1).toNat - Int.toNat 0) (List.drop (Int.toNat 0) (xs.map r5))=(xs.take (xs.length - 1)).map r5:=by
 rw [show ((xs.length:Int) - 1).toNat - Int.toNat 0=xs.length - 1 from by simp,show List.drop (Int.toNat 0) (xs.map r5)=xs.map r5 from rfl,List.map_take]
theorem b4r {eS eW:Nat} {xs:List Ifc} {c:Nat} {x:Ifc} {row:List CI} (h:row=H7 eS eW x):(xs.map (H7 eS eW)).set c row=(xs.set c x).map (H7 eS eW):=by rw [List.map_set,h]
theorem b04 {x:Ifc} (h:IfG x) (h0:x.st.length≠0):0≤J5 x∧J5 x≤7:=by
 obtain ⟨j,h1,h2,h3⟩:=(H8 4).mp ((S9 h.f.qu.sl.len).mp (h.f.st _ (a0m h0)))
 rw [← h3]
 exact (h.f.qu.sl.ok j h1 (by rcases r9.mp h2 with g | g<;>omega)).2.1
theorem a9b {x:Ifc} (h:IfG x) (hk:okT x=true):0≤tkI x.qu.sl∧tkI x.qu.sl≤7:=a8i h.f.qu.sl (H5.mp hk).1
end Go.Rf
namespace Go.Rf
open Go Go.RowKit
section
variable {P:Program} {w0:Base} {ops:Array Oper} {o:Oper} {rest:List Oper} {T:List (Nat×AV)} {m:List (Nat×Option Row)} {nx nt:Nat} {Q:Exit→St→Prop}
end
end Go.Rf
namespace Go.Rf
open Go
theorem ArgsOK.sub1 {T:List (Nat×AV)} {m:List (Nat×Option Row)} {nx:Nat} {x:Operand} {id sz i n e:Nat} {ys us:List (List Value)} (hx:ev T x=some (.sub id sz i n)) (hm:mem m id=some (.row e sz ys)) (hle:i+n≤ys.length) (he:(ys.drop i).take n=us):ArgsOK T m nx [x] [.lst sz us]:=by
 subst he
 exact ⟨_,_,_,rfl,hx,ArgOK.sub hm hle,rfl⟩
def ptG (sl:List Slot) (irq p:Int):List Slot×Bool:=if 0≤o9 sl irq then (ptS sl irq,true) else if 0≤freS sl then (sl.set (freS sl).toNat ⟨1,irq,p⟩,true) else ([],false)
def edQ (sl:List Slot) (irq:Int):List Slot:=if (sl.getD (o9 sl irq).toNat default).s=2 then sl.set (o9 sl irq).toNat zSl else sl.set (o9 sl irq).toNat ⟨1,(sl.getD (o9 sl irq).toNat default).q,(sl.getD (o9 sl irq).toNat default).p⟩
def edG (sl:List Slot) (irq:Int):List Slot×Bool:=if 0≤o9 sl irq∧¬ (sl.getD (o9 sl irq).toNat default).s=1 then (edQ sl irq,true) else ([],false)
def tkA (sl:List Slot) (lim:Int):List Slot×Int:=if a01 sl lim then (tkS sl,tkI sl) else (sl,-1)
section
variable {sl:List Slot} {irq p lim:Int}
theorem b4s (h:0≤o9 sl irq):ptG sl irq p=(ptS sl irq,true):=by unfold ptG;rw [if_pos h]
theorem b4t (h:o9 sl irq < 0) (h2:0≤freS sl):ptG sl irq p=(sl.set (freS sl).toNat ⟨1,irq,p⟩,true):=by unfold ptG;rw [if_neg (by omega),if_pos h2]
theorem b4u (h:o9 sl irq < 0) (h2:freS sl < 0):ptG sl irq p=([],false):=by unfold ptG;rw [if_neg (by omega),if_neg (by omega)]
theorem T2 (h:(ptG sl irq p).2=true):(ptG sl irq p).1.length=sl.length:=by
 unfold ptG at h ⊢
 split
 ·unfold ptS;exact List.length_set
 ·split
  ·exact List.length_set
  ·next h1 h2=>rw [if_neg h1,if_neg h2] at h;cases h
theorem b05 (h:o9 sl irq < 0∨(sl.getD (o9 sl irq).toNat default).s=1):edG sl irq=([],false):=by
 unfold edG
 rw [if_neg]
 rintro ⟨h1,h2⟩
 rcases h with h | h
 ·omega
 ·exact h2 h
theorem b4v (h:0≤o9 sl irq) (h2:(sl.getD (o9 sl irq).toNat default).s=2):edG sl irq=(sl.set (o9 sl irq).toNat zSl,true):=by
 unfold edG edQ
 rw [if_pos ⟨h,by omega⟩,if_pos h2]
theorem b4w (h:0≤o9 sl irq) (h1:¬ (sl.getD (o9 sl irq).toNat default).s=1) (h2:¬ (sl.getD (o9 sl irq).toNat default).s=2):edG sl irq=(sl.set (o9 sl irq).toNat ⟨1,(sl.getD (o9 sl irq).toNat default).q,(sl.getD (o9 sl irq).toNat default).p⟩,true):=by
 unfold edG edQ
 rw [if_pos ⟨h,h1⟩,if_neg h2]
theorem T3 (h:(edG sl irq).2=true):(edG sl irq).1.length=sl.length:=by
 unfold edG at h ⊢
 split
 ·unfold edQ
  split<;>exact List.length_set
 ·next h1=>rw [if_neg h1] at h;cases h
theorem b2p (h:a01 sl lim=true):tkA sl lim=(tkS sl,tkI sl):=by unfold tkA;rw [h];rfl
theorem b06 (h:a01 sl lim=false):tkA sl lim=(sl,-1):=by unfold tkA;rw [h];rfl
theorem T4:(tkA sl lim).1.length=sl.length:=by
 cases h:a01 sl lim
 ·rw [b06 h]
 ·rw [b2p h];exact List.length_set
end
def tkQ (q:Que) (lim:Int):Que×Int:=if a01 q.sl lim then (a2m q,tkI q.sl) else (q,-1)
def enG (q:Que) (irq:Int):Que×Bool:=if 0≤o9 q.sl irq∧H6 (q.sl.getD (o9 q.sl irq).toNat default)=true then (a3G q irq,true) else (⟨[],[]⟩,false)
section
variable {q:Que} {irq p lim:Int}
theorem b2q (h:a01 q.sl lim=true):tkQ q lim=(a2m q,tkI q.sl):=by unfold tkQ;rw [h];rfl
theorem b2r (h:a01 q.sl lim=false):tkQ q lim=(q,-1):=by unfold tkQ;rw [h];rfl
theorem a1r (h:QF q):QF (tkQ q lim).1:=by
 cases hk:a01 q.sl lim
 ·rw [b2r hk];exact h
 ·rw [b2q hk];exact a8d h (H5.mp hk).1
theorem b2s (h:0≤o9 q.sl irq) (h2:H6 (q.sl.getD (o9 q.sl irq).toNat default)=true):enG q irq=(a3G q irq,true):=by unfold enG;rw [if_pos ⟨h,h2⟩]
theorem b2t (h:¬ (0≤o9 q.sl irq∧H6 (q.sl.getD (o9 q.sl irq).toNat default)=true)):enG q irq=(⟨[],[]⟩,false):=by unfold enG;rw [if_neg h]
theorem a1s (h:QF q) (hk:(enG q irq).2=true):QF (enG q irq).1:=by
 by_cases g:0≤o9 q.sl irq∧H6 (q.sl.getD (o9 q.sl irq).toNat default)=true
 ·rw [b2s g.1 g.2];exact (a8e h g.1).1
 ·rw [b2t g] at hk;cases hk
theorem b3y (h:QF q) (hn:¬ (0≤o9 q.sl irq∧H6 (q.sl.getD (o9 q.sl irq).toNat default)=true)):edG q.sl irq=([],false):=by
 refine b05 ?_
 rcases Int.lt_or_le (o9 q.sl irq) 0 with g | g
 ·exact .inl g
 ·obtain ⟨k,e1,e2,e3,e4⟩:=V6 g
  have hb:=(h.sl.ok k (by rw [← h.sl.len];exact e2) e3).1
  refine .inr ?_
  rw [e1,Int.toNat_natCast] at hn ⊢
  have:¬ ((q.sl.getD k default).s=2∨(q.sl.getD k default).s=3):=fun e=>hn ⟨by omega,r9.mpr e⟩
  omega
theorem b07 {e:Nat} (h:QF q) (hn:¬ (0≤o9 q.sl irq∧H6 (q.sl.getD (o9 q.sl irq).toNat default)=true)):Res.many [.fr e 3 ((edG q.sl irq).1.map p4),.v (.bool (edG q.sl irq).2)]=.many [.fr e 3 (([]:List Slot).map p4),.v (.bool false)]:=by rw [b3y h hn]
def q0:Que:=⟨[zSl,zSl,zSl,zSl],[]⟩
theorem b4x:QF q0:=by
 have hz:∀ i,i < 4→([zSl,zSl,zSl,zSl]:List Slot).getD i default=zSl:=fun i hi=>by
  match i,hi with
  | 0,_=>rfl
  | 1,_=>rfl
  | 2,_=>rfl
  | 3,_=>rfl
 refine ⟨⟨rfl,fun i hi _=>hz i hi,fun i hi h0=>absurd ?_ h0,fun i j hij hj h0=>absurd ?_ h0⟩,Nat.zero_le _,fun w hw=>(by cases hw),List.Pairwise.nil⟩
 ·show (([zSl,zSl,zSl,zSl]:List Slot).getD i default).s=0;rw [hz i hi];rfl
 ·show (([zSl,zSl,zSl,zSl]:List Slot).getD i default).s=0;rw [hz i (by omega)];rfl
end
def tkX (x:Ifc):Ifc×Int:=if okT x then (a1m x,tkI x.qu.sl) else (x,-1)
def lvX (x:Ifc):Ifc×Int:=if x.st.length=0 then (x,-1) else (a1q x,J5 x)
section
variable {x:Ifc}
theorem b2u (h:okT x=true):tkX x=(a1m x,tkI x.qu.sl):=by unfold tkX;rw [h];rfl
theorem b2v (h:okT x=false):tkX x=(x,-1):=by unfold tkX;rw [h];rfl
theorem a5p (h:IfG x):IfG (tkX x).1:=by
 cases hk:okT x
 ·rw [b2v hk];exact h
 ·rw [b2u hk];exact b1W h hk
theorem b2w (h:¬ x.st.length=0):lvX x=(a1q x,J5 x):=by unfold lvX;rw [if_neg h]
theorem b2x (h:x.st.length=0):lvX x=(x,-1):=by unfold lvX;rw [if_pos h]
theorem a5q (h:IfG x):IfG (lvX x).1:=by
 by_cases hk:x.st.length=0
 ·rw [b2x hk];exact h
 ·rw [b2w hk];exact b1Y h hk
theorem b08:IfG a9L:=⟨⟨b4x,Nat.zero_le _,fun q hq=>(by cases hq)⟩,List.nodup_nil⟩
end
def DrQ (q:Que):Prop:=q.sl.length≤5∧q.wa.length≤10
def DrI (x:Ifc):Prop:=x.st.length≤5∧x.qu.sl.length≤5∧x.qu.wa.length≤10
structure DrM (m:Mach):Prop where
 rs:m.rs.length=8
 en:m.en.length=8
 ra:m.ra.length≤9
 n:1≤m.cp.length∧m.cp.length≤3
 cp:∀ x∈m.cp,DrI x
theorem QF.dr {q:Que} (h:QF q):DrQ q:=⟨by rw [h.sl.len];decide,by have:=h.wn8;omega⟩
theorem IfG.dr {x:Ifc} (h:IfG x):DrI x:=⟨by have:=h.f.sn;omega,h.f.qu.dr.1,h.f.qu.dr.2⟩
theorem DrI.sz {x:Ifc} (h:DrI x):szI x≤20:=by
 obtain ⟨h1,h2,h3⟩:=h
 unfold szI
 omega
theorem DrM.small {m:Mach} (h:DrM m):SmallM m:=by
 have h1:=h.n
 refine ⟨by rw [h.rs];decide,by rw [h.en];decide,by have:=h.ra;omega,by omega,?_⟩
 have key:∀ i,i≤m.cp.length→sumI m.cp i≤20 * i:=by
  intro i
  induction i with
  | zero=>intro _;exact Int.le_refl _
  | succ i ih =>
   intro hi
   rw [a0k]
   have:=ih (by omega)
   have:=(h.cp (m.cp.getD i default) (e7.mpr ⟨i,by omega,rfl⟩)).sz
   push_cast
   omega
 have:=key _ (Nat.le_refl _)
 omega
theorem MaG.dr {m:Mach} (h:MaG m):DrM m:=⟨h.rn,h.en,by rw [h.ra];decide,by have:=h.n;omega,fun x hx=>by
 obtain ⟨k,hk,rfl⟩:=e7.mp hx
 exact (h.ok k hk).dr⟩
theorem DrM.setR {m:Mach} (h:DrM m) {k:Nat} {r:Route}:DrM ⟨m.rs.set k r,m.en,m.ra,m.cp⟩:=⟨by show (m.rs.set k r).length=8;rw [List.length_set];exact h.rs,h.en,h.ra,h.n,h.cp⟩
theorem DrM.addA {m:Mach} (h:DrM m) (h8:m.ra.length=8) {b:Bool}:DrM ⟨m.rs,m.en,m.ra++[b],m.cp⟩:=⟨h.rs,h.en,by show (m.ra++[b]).length≤9;rw [List.length_append,List.length_cons,List.length_nil,h8];decide,h.n,h.cp⟩
theorem DrM.setC {m:Mach} (h:DrM m) {k:Nat} {x:Ifc} (hx:DrI x):DrM ⟨m.rs,m.en,m.ra,m.cp.set k x⟩:=⟨h.rs,h.en,h.ra,by show 1≤(m.cp.set k x).length∧(m.cp.set k x).length≤3;rw [List.length_set];exact h.n,fun y hy=>by
 rcases List.mem_or_eq_of_mem_set hy with g | g
 ·exact h.cp y g
 ·rw [g];exact hx⟩
theorem DrM.addC {m:Mach} (h:DrM m) (hn:m.cp.length≤2) {x:Ifc} (hx:DrI x):DrM ⟨m.rs,m.en,m.ra,m.cp++[x]⟩:=⟨h.rs,h.en,h.ra,by show 1≤(m.cp++[x]).length∧(m.cp++[x]).length≤3;rw [List.length_append,List.length_cons,List.length_nil];omega,fun y hy=>by
 rcases List.mem_append.mp hy with g | g
 ·exact h.cp y g
 ·rw [List.mem_singleton.mp g];exact hx⟩
def a9c (cpus:Int) (rs:List Route):Prop:=∀ r∈rs,(0≤r.p∧r.p≤15)∧0≤r.t∧r.t≤cpus - 1
theorem b09 {c:Int} {rs:List Route} {r:Route} (h:a9c c rs) (hr:(0≤r.p∧r.p≤15)∧0≤r.t∧r.t≤c - 1):a9c c (rs++[r]):=fun x hx=>by
 rcases List.mem_append.mp hx with g | g
 ·exact h x g
 ·rw [List.mem_singleton.mp g];exact hr
theorem b3z {c:Int} {rs:List Route} (h:a9c c rs) (hl:rs.length=8) (hc:1≤c∧c≤2):okRts rs c=true:=z4.mpr ⟨hc,hl,fun i hi=>h _ (e7.mpr ⟨i,by omega,rfl⟩)⟩
theorem b3A {rs:List Route} {c:Nat} (h:okRts rs c=true):MaG (a5I rs c):=by
 have hr:=z4.mp h
 have hl:(a5I rs c).cp.length=c:=by show (List.replicate c a9L).length=c;rw [List.length_replicate]
 refine ⟨by rw [hl];exact h,by rw [hl];omega,hr.2.1,by show (List.replicate 8 false).length=8;rw [List.length_replicate],by show (List.replicate 8 false).length=8;rw [List.length_replicate],fun k hk=>?_⟩
 rw [hl] at hk
 show IfG ((List.replicate c a9L).getD k default)
 rw [a5k hk]
 exact b08
theorem MaG.lines {m:Mach} (h:MaG m) {en ra:List Bool} (h1:en.length=8) (h2:ra.length=8):MaG ⟨m.rs,en,ra,m.cp⟩:=⟨h.rt,h.n,h.rn,h1,h2,h.ok⟩
end Go.Rf
namespace Go.Rf
open Go Go.RowKit
section
variable {P:Program} {ops:Array Oper} {Q:Exit→Act→World→Prop} {md:Region.Mode} {S:World→Prop} {ks:List Nat}
def a7D (ks:List Nat) (listed:Array Bool):Bool:=ks.any fun k=>listed.getD k true
def a3M (P:Program) (md:Region.Mode) (ops:Array Oper) (Q:Exit→Act→World→Prop) (S:World→Prop) (ks:List Nat):Nat→Array Bool→Act→World→Prop
 | 0,listed,a,w=>Region.ready md ops listed=[]∧Q .normal a w
 | fuel+1,listed,a,w=>(Region.ready md ops listed=[]→Q .normal a w) ∧
  ∀ i∈Region.ready md ops listed,wpOp P ops Q i (fun a' w'=>(a7D ks (listed.setIfInBounds i true)=false→S w')∧a3M P md ops Q S ks fuel (listed.setIfInBounds i true) a' w') a w
theorem a5r:∀ (fuel:Nat) (listed:Array Bool) (a:Act) (w:World),a3M P md ops Q S ks fuel listed a w→wpAny P md ops Q fuel listed a w
 | 0,_,_,_,h=>h
 | fuel+1,_,_,_,h=>⟨h.1,fun i hi=>wpOp_mono (fun a' w' h'=>a5r fuel _ a' w' h'.2) (h.2 i hi)⟩
def a9d (md:Region.Mode) (ops:Array Oper) (i:Nat) (D:List Nat):Bool :=
 D.all fun d=>!(d==i) && match ops[d]? with
  | some o=>o.after.any fun e=>Region.binds md e && (e.on==i || D.contains e.on)
  | none=>false
theorem a6M {l:Array Bool} {x:Nat} (h:l.getD x true=false):l.getD x false=false:=by
 rcases Nat.lt_or_ge x l.size with h' | h'
 ·simp [h'] at h ⊢;exact h
 ·simp [Array.getElem?_eq_none h'] at h
theorem b1a {i j:Nat} {D:List Nat} {listed:Array Bool} (hi:listed.getD i true=false) (hu:∀ d∈D,listed.getD d true=false) (hD:a9d md ops i D=true) (hj:j∈D):j∉Region.ready md ops listed:=fun hr=>by
 obtain ⟨_,o,ho,hall⟩:=mem_ready.1 hr
 have h:=List.all_eq_true.1 hD j hj
 rw [ho] at h
 simp only [Bool.and_eq_true] at h
 obtain ⟨e,he,hb⟩:=Array.any_eq_true'.1 h.2
 simp only [Bool.and_eq_true,Bool.or_eq_true,beq_iff_eq,List.contains_iff_mem] at hb
 have h1:=hall e he hb.1
 rcases hb.2 with h2 | h2
 ·rw [h2,a6M hi] at h1;cases h1
 ·rw [a6M (hu _ h2)] at h1;cases h1
theorem b10 {i:Nat} {D:List Nat} (hD:a9d md ops i D=true) {d:Nat} (hd:d∈D):i≠d:=fun e=>by
 have h:=List.all_eq_true.1 hD d hd
 simp only [Bool.and_eq_true,Bool.not_eq_true',beq_eq_false_iff_ne] at h
 exact h.1 e.symm
theorem a6N {i:Nat} {oi:Oper} {v:Value} {D:List Nat} (hi:ops[i]?=some oi) (hsel:∀ (j:Nat) (o:Oper) cs b,ops[j]?=some o→o.op≠.select cs b)
 (hQ:∀ c a w,Q (.panic c) (a.put oi.dst v) w→Q (.panic c) a w) (hD:a9d md ops i D=true) (hk:∀ k∈ks,k∈D) :
 ∀ (fuel:Nat) (listed:Array Bool) (a:Act) (w:World),
  (∀ j oj,ops[j]?=some oj→j≠i→listed.getD j true=false→(∀ e∈oj.after,Region.binds md e=true→e.on≠i)→oi.apart ops oj=true)→(∀ d∈D,listed.getD d true=false) →
  i∈Region.ready md ops listed→YieldsIf P ops S oi v a→S w →
  a3M P md ops Q S ks fuel (listed.setIfInBounds i true) (a.put oi.dst v) w→a3M P md ops Q S ks (fuel+1) listed a w:=by
 intro fuel
 induction fuel with
 | zero =>
  intro listed a w _ _ hr hy hS H
  refine ⟨fun h=>(by rw [h] at hr;cases hr),fun j hj=>?_⟩
  by_cases hji:j=i
  ·subst hji;exact hy.wpOp hi hS ⟨fun _=>hS,H⟩
  ·have:=ready_mono hj hji
   rw [H.1] at this
   cases this
 | succ fuel ih =>
  intro listed a w hfree hu hr hy hS H
  refine ⟨fun h=>(by rw [h] at hr;cases hr),fun j hj=>?_⟩
  by_cases hji:j=i
  ·subst hji;exact hy.wpOp hi hS ⟨fun _=>hS,H⟩
  ·have h1:=H.2 j (ready_mono hj hji)
   obtain ⟨hjun,oj,hoj,hall⟩:=mem_ready.1 hj
   have hiun:=(mem_ready.1 hr).1
   have hnot:∀ e∈oj.after,Region.binds md e=true→e.on≠i:=fun e he hb heq=>by
    have h1:=hall e he hb
    rw [heq,a6M hiun] at h1
    cases h1
   have hjD:∀ d∈D,j≠d:=fun d hd e=>b1a hiun hu hD (e▸hd) hj
   have h2:=wpOp_putIf hoj (hfree j oj hoj hji hjun hnot) (fun cs b=>hsel i oi cs b hi) (fun cs b=>hsel j oj cs b hoj) hQ hy h1
   have hfree':∀ k ok,ops[k]?=some ok→k≠i→(listed.setIfInBounds j true).getD k true=false →
    (∀ e∈ok.after,Region.binds md e=true→e.on≠i)→oi.apart ops ok=true:=fun k ok hk hki hun hno=>by
    refine hfree k ok hk hki ?_ hno
    by_cases hjk:j=k
    ·subst hjk;exact hjun
    ·rw [getD_set_ne true hjk] at hun;exact hun
   have hu':∀ d∈D,(listed.setIfInBounds j true).getD d true=false:=fun d hd=>by rw [getD_set_ne true (hjD d hd)];exact hu d hd
   have hoff:a7D ks ((listed.setIfInBounds i true).setIfInBounds j true)=false:=by
    rw [← Bool.not_eq_true,a7D,List.any_eq_true]
    rintro ⟨k,hks,hkt⟩
    rw [getD_set_ne true (hjD k (hk k hks)),getD_set_ne true (b10 hD (hk k hks)),hu k (hk k hks)] at hkt
    cases hkt
   refine wpOp_mono (fun a' w' h3=>?_) h2
   have hS':=h3.2.1 hoff
   refine ⟨fun _=>hS',ih (listed.setIfInBounds j true) a' w' hfree' hu' (ready_mono hr (Ne.symm hji)) h3.1 hS' ?_⟩
   rw [Array.setIfInBounds_comm _ _ hji]
   exact h3.2.2
end
section
variable {P:Program} [Env P] {b:Base} {ops:Array Oper} {o:Oper} {T:List (Nat×AV)} {m m0:List (Nat×Option Row)} {nx nt d i fuel:Nat} {listed:Array Bool} {r:AV} {K:St→Prop} {ks:List Nat}
def WAk (P:Program) (b:Base) (ops:Array Oper) (m0:List (Nat×Option Row)) (ks:List Nat) (fuel:Nat) (listed:Array Bool) (S:St) (K:St→Prop):Prop :=
 Region.noSelect ops=true→∀ ρ a w,RelT b.w ρ S.T S.nx S.nt a→RelC b ρ S.m S.nx w→(a7D ks listed=false→Cls b m0 w)→a3M P .any ops (a0t b (nq K)) (Cls b m0) ks fuel listed a w
theorem t5 [EnvAt P b] (i:Nat) (D:List Nat) (hi:ops[i]?=some o) (hf:Region.free .any ops listed i=true) (hr:(Region.ready .any ops listed).contains i=true) (hw:(a9d .any ops i D && (ks.all fun k=>D.contains k) && D.all fun d=>!listed.getD d true)=true) (hp:a2c o.op=true) (hg:o.guard=none)
 (hd:o.dst=some d) (hlt:Nat.blt d nt=true) (hq:QStep P o T m0 nx nt r) (hk:WAk P b ops m0 ks fuel (listed.setIfInBounds i true) ⟨(d,r) :: T,m,nx,nt⟩ K):WAk P b ops m0 ks (fuel+1) listed ⟨T,m,nx,nt⟩ K:=by
 intro hs ρ a w hT hC hS0
 simp only [Bool.and_eq_true,List.all_eq_true,List.contains_iff_mem,Bool.not_eq_true'] at hw
 obtain ⟨⟨h1,h2⟩,h3⟩:=hw
 have hoff:a7D ks listed=false:=by
  rw [← Bool.not_eq_true,a7D,List.any_eq_true]
  rintro ⟨k,hks,hkt⟩
  rw [h3 k (h2 k hks)] at hkt
  cases hkt
 have hS:=hS0 hoff
 obtain ⟨y,hy,hq⟩:=hq b ρ a w hT (hC.pinned hS)
 refine a6N hi (Region.noSelect_spec hs) (fun c a w h=>absurd (C0 h) (by simp)) h1 h2 fuel listed a w (Region.free_spec hi hf) h3 (by simpa using hr) (v:=y) (.inl ⟨by simp [Region.wanted,hg],fun w' hw'=>?_⟩) hS ?_
 ·have h1:=hq w' (hC.pinned hw')
  unfold Oper.quietAt at h1
  generalize hres:(execOp a.eval o).run P w'=res at *
  cases res with
  | ok n w'' =>
   obtain ⟨v,rfl⟩:=a3y hp hres
   simp only [Oper.quietUpon] at h1
   rw [h1.1,h1.2]
  | halt x w''=>simp only [Oper.quietUpon] at h1
 ·rw [hd]
  exact hk hs ρ _ w (hT.put hlt hy) hC fun _=>hS
def WBk (P:Program) (b:Base) (ops:Array Oper) (m0:List (Nat×Option Row)) (ks:List Nat) (fuel:Nat) (listed:Array Bool) (i:Nat) (S:St) (K:St→Prop):Prop :=
 Region.noSelect ops=true→∀ ρ a w,RelT b.w ρ S.T S.nx S.nt a→RelC b ρ S.m S.nx w→wpOp P ops (a0t b (nq K)) i (fun a' w'=>(a7D ks (listed.setIfInBounds i true)=false→Cls b m0 w')∧a3M P .any ops (a0t b (nq K)) (Cls b m0) ks fuel (listed.setIfInBounds i true) a' w') a w
theorem s3 (i:Nat) {S:St} (hr:Region.ready .any ops listed=[i]) (h:WBk P b ops m0 ks fuel listed i S K):WAk P b ops m0 ks (fuel+1) listed S K :=
 fun hs ρ a w hT hC hS=>⟨fun h0=>(by rw [hr] at h0;cases h0),fun j hj=>by
  rw [hr] at hj
  rw [List.mem_singleton.1 hj]
  exact h hs ρ a w hT hC⟩
theorem Z1 {S:St} (hr:Region.ready .any ops listed=[]) (h:K S):WAk P b ops m0 ks fuel listed S K:=fun hs ρ a w hT hC hS=>by
 have hq:a0t b (nq K) .normal a w:=⟨ρ,S,h,hT,hC⟩
 cases fuel with
 | zero=>exact ⟨hr,hq⟩
 | succ f=>exact ⟨fun _=>hq,by rw [hr];simp⟩
theorem A3 (ms:List Nat) {S:St} (hi:ops[i]?=some o) (hg:o.guard=none)
 (h:WX P b ops o [] S (nq (fun S'=>I7 b.n0 S'.m ms []=some m0∧WAk P b ops m0 ks fuel (listed.setIfInBounds i true) S' K))):WBk P b ops m0 ks fuel listed i S K:=by
 intro hs ρ a w hT hC
 unfold wpOp
 simp only [hi]
 rw [if_pos (by simp [Region.wanted,hg])]
 refine .inl (b0c (h ρ a w hT hC) ?_)
 rintro a' w' ⟨ρ',S',⟨h1,h2⟩,hT',hC'⟩
 exact ⟨fun _=>hC'.cls h1,h2 hs ρ' a' w' hT' hC' fun _=>hC'.cls h1⟩
theorem G6 {S:St} (hi:ops[i]?=some o) (hg:o.guard=none) (hoff:a7D ks (listed.setIfInBounds i true)=true)
 (h:WX P b ops o [] S (nq (fun S'=>WAk P b ops m0 ks fuel (listed.setIfInBounds i true) S' K))):WBk P b ops m0 ks fuel listed i S K:=by
 intro hs ρ a w hT hC
 unfold wpOp
 simp only [hi]
 rw [if_pos (by simp [Region.wanted,hg])]
 refine .inl (b0c (h ρ a w hT hC) ?_)
 rintro a' w' ⟨ρ',S',h2,hT',hC'⟩
 exact ⟨fun e=>(by rw [hoff] at e;cases e),h2 hs ρ' a' w' hT' hC' fun e=>(by rw [hoff] at e;cases e)⟩
theorem J7 {w0:Base} (n:Nat) (ms ks:List Nat) {id:Nat} {l:List Oper} {Q:Exit→St→Prop} (hm:P.follows .mixedOrders=true) (hs:Region.noSelect l.toArray=true) (hn:l.toArray.size=n) (hK:I7 nx m ms []=some m0)
 (h:∀ r0,WAk P ⟨w0.w,nx,r0,w0.ws,w0.keep,w0.kb,w0.E,w0.hE⟩ l.toArray m0 ks n (Array.replicate n false) ⟨T,m,nx,nt⟩ K) (hq:∀ S',K S'→Q .normal S'):W P w0 (.region id l.toArray true) ⟨T,m,nx,nt⟩ Q:=by
 intro ρ a w hT hC
 have hC1:RelC ⟨w0.w,nx,ρ,w0.ws,w0.keep,w0.kb,w0.E,w0.hE⟩ ρ m nx w.drew:=let h:=hC.drew;⟨h.rows,h.apart,h.below,⟨Nat.le_refl _,fun _ _=>rfl⟩,h.kept,h.inner⟩
 subst hn
 have h1:=h ρ hs ρ a w.drew hT hC1 fun _=>RelC.cls (ms:=ms) hC1 hK
 refine wp_mono (wp_region_any hm (a5r _ _ _ _ h1)) ?_
 rintro e a' w' ⟨ρ',S',h2,h3,h4⟩
 cases e<;>simp only [nq] at h2
 exact ⟨ρ',S',hq S' h2,h3,h4.rows,h4.apart,h4.below,⟨Nat.le_trans hC.pin.1 h4.pin.1,fun i hi=>(h4.pin.2 i (Nat.lt_of_lt_of_le hi hC.pin.1)).trans (hC.pin.2 i hi)⟩,h4.kept,h4.inner⟩
end
end Go.Rf
