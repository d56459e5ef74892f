/- Texts merged into one: RfMQ, Rf5, RfNY, RfML, RfMO, RfMP, RfCA, RfCB, RfNO, RfNZ, RfXD, RfMR, RfCC, Rf6, RfCJ, RfCD, RfCI, Rf7, RfCE, RfCF, RfNI, RfSR. -/
import Derived.Test.YtpfhomblkgmkkaaGreatDoorLibD
import Derived.KernelRfl
set_option linter.unusedSectionVars false
set_option linter.unusedSimpArgs false
set_option linter.unusedVariables false
namespace Go.Rf
open Go Go.ChangeShapes Go.WideShapes Go.Deep Go.ChangeAt Go.RowKit
section
variable {H:Type} {enc:TypeId×Value→H} {P:Program} {w:World} {base:Nat} {spare:Nat→Bool} {held:Bool}
end
end Go.Rf
namespace Go.Rf
open Go Go.RowKit
theorem a2D {s:ByteArray}:A0 s≤60∧D5 s (A0 s)≤s.size∧D5 s (A0 s)≤25380:=by
 have h:=b1n (a3O (s:=s)).1
 have h2:=b6O (a3O (s:=s)).1
 omega
theorem b4X {s:ByteArray}:(pre (T4 s) (A0 s+1)).getD (((pre (a5k s) (A0 s)).length:Int)).toNat default=T4 s (A0 s):=by
 rw [N8]
 exact a89 (Nat.lt_succ_self _)
theorem b3g {s:ByteArray}:((pre (a5k s) (A0 s)).length:Int)=A0 s:=by rw [N8]
def b76 (x:Lg) (l:Int):Int:=if l - x.d.size < 0 then -1 else if l - x.d.size - x.p.size < 0 then -1 else l - x.d.size - x.p.size
theorem b9N {x:Lg} (h:30000 < x.d.size+x.p.size):H2 x=false:=by
 rw [H2,decide_eq_false (by omega)];rfl
theorem b4Y {x:Lg} (h:¬ D5 (x.d++x.p) (A0 (x.d++x.p))=x.d.size+x.p.size):H2 x=false:=by
 rw [H2,decide_eq_false h,Bool.and_false];rfl
theorem b9O {x:Lg} (h:¬ D5 x.d (A0 x.d)=x.d.size):H2 x=false:=by
 rw [H2,decide_eq_false h,Bool.and_false];rfl
theorem b9P {x:Lg} (h:¬ (A0 (x.d++x.p):Int)=x.n):H2 x=false:=by
 rw [H2,decide_eq_false h,Bool.and_false]
theorem c1Z {x:Lg} (h0:x.d.size+x.p.size≤30000) (h1:D5 (x.d++x.p) (A0 (x.d++x.p))=x.d.size+x.p.size) (h2:D5 x.d (A0 x.d)=x.d.size) (h3:(A0 (x.d++x.p):Int)=x.n):H2 x=true:=by
 rw [H2,decide_eq_true h0,decide_eq_true h1,decide_eq_true h2,decide_eq_true h3];rfl
theorem c10 {x:Lg} (h0:x.d.size+x.p.size≤30000) (h1:D5 (x.d++x.p) (A0 (x.d++x.p))=x.d.size+x.p.size) (h2:D5 x.d (A0 x.d)=x.d.size):H2 x=decide ((A0 (x.d++x.p):Int)=x.n):=by
 rw [H2,decide_eq_true h0,decide_eq_true h1,decide_eq_true h2];rfl
theorem a8r {x:Lg} (h:H2 x=true):x.d.size+x.p.size≤30000∧D5 x.d (A0 x.d)=x.d.size∧0≤x.n∧x.n≤60:=by
 simp only [H2,Bool.and_eq_true,decide_eq_true_eq] at h
 have:=a2D (s:=x.d++x.p)
 omega
theorem b6e {x:Lg} {j:Nat} (h1:D5 (x.d++x.p) (A0 (x.d++x.p))=x.d.size+x.p.size) (h2:(A0 (x.d++x.p):Int)=x.n) (hj:j≤A0 (x.d++x.p)) (hp:D5 (x.d++x.p) j=x.d.size):H2 x=true:=by
 have hl:=a2D (s:=x.d++x.p)
 obtain ⟨h3,h4⟩:=b6N (D:=x.d) (P:=x.p) (n:=j) (fun i hi=>a3O.1 i (by omega)) (by omega)
 have h5:A0 x.d=j:=a2v h3 (b6L (by omega))
 exact c1Z (by omega) h1 (by rw [h5];omega) h2
theorem b6f {x:Lg} (h:∀ j,j < A0 (x.d++x.p)+1→¬ D5 (x.d++x.p) j=x.d.size):H2 x=false:=by
 cases he:H2 x with
 | false=>rfl
 | true =>
  exfalso
  have h2:=(a8r he).2.1
  obtain ⟨h3,h4⟩:=c1n (D:=x.d) (P:=x.p) (n:=A0 x.d) a3O.1
  refine h (A0 x.d) ?_ (by omega)
  rcases Nat.lt_or_ge (A0 x.d) (A0 (x.d++x.p)+1) with h5 | h5
  ·exact h5
  ·have h6:=h3 (A0 (x.d++x.p)) (by omega)
   rw [a3O.2] at h6
   cases h6
def apG (x:Lg) (r:Rec):Bool:=H2 x && E2 r
def apE (x:Lg) (r:Rec):Lg:=if apG x r && decide (x.n≠60) then ⟨x.d,x.p++a02 x.n r,x.n+1⟩ else x
def apN (x:Lg) (r:Rec):Int:=if apG x r then (if x.n=60 then 2 else 0) else 1
theorem b9Q {x:Lg} {r:Rec} (h:apG x r=false):apE x r=x∧apN x r=1:=by rw [apE,apN,h];exact ⟨rfl,rfl⟩
theorem c0C {x:Lg} {r:Rec} (h:H2 x=false):apG x r=false:=by rw [apG,h];rfl
theorem c0D {x:Lg} {r:Rec} (h:E2 r=false):apG x r=false:=by rw [apG,h,Bool.and_false]
theorem c3u {x:Lg} {r:Rec} (h:H2 x=true) (h2:E2 r=true) (h3:x.n=60):apE x r=x∧apN x r=2:=by
 rw [apE,apN,apG,h,h2,if_pos h3]
 simp [h3]
theorem c3v {x:Lg} {r:Rec} (h:H2 x=true) (h2:E2 r=true) (h3:¬ x.n=60):apE x r=⟨x.d,x.p++a02 x.n r,x.n+1⟩∧apN x r=0:=by
 rw [apE,apN,apG,h,h2,if_neg h3]
 simp [h3]
def a6Z (m:Mach) (x:Lg):Bool:=a1b m && H2 x
theorem c11 {m:Mach} {x:Lg} (h:a1b m=false):a6Z m x=false:=by rw [a6Z,h];rfl
theorem c12 {m:Mach} {x:Lg} (h:a1b m=true):a6Z m x=H2 x:=by rw [a6Z,h];rfl
theorem b77 {m:Mach} {x:Lg} (h:a6Z m x=true):a1b m=true∧H2 x=true:=by
 rw [a6Z,Bool.and_eq_true] at h;exact h
end Go.Rf
namespace Go.Rf
open Go
theorem b0N {α:Type} [BEq α] [LawfulBEq α]:∀ {a b:List α},a.Nodup→(∀ x∈a,x∈b)→a.length≤b.length
 | [],b,_,_=>Nat.zero_le _
 | x :: a,b,hn,hs=>by
  obtain ⟨h1,h2⟩:=List.nodup_cons.mp hn
  have hx:x∈b:=hs x (by simp)
  have:=b0N (b:=b.erase x) h2 (fun y hy=>(List.mem_erase_of_ne (fun e:y=x=>h1 (e▸hy))).mpr (hs y (by simp [hy])))
  rw [List.length_erase_of_mem hx] at this
  have hp:0 < b.length:=List.length_pos_of_mem hx
  simp only [List.length_cons]
  omega
theorem b4Z {sl:List Slot} {k:Nat} (h:P6 (sl.getD k default)=false):∀ i,k < i→(actN sl i).length < i
 | i+1,hk=>by
  have hl:=@a0m sl i
  show (if _ then _ else _:List Int).length < _
  split
  ·next ha =>
   rw [List.length_append,List.length_cons,List.length_nil]
   have hne:k≠i:=fun e=>by subst e;rw [h] at ha;cases ha
   have:=b4Z h i (by omega)
   omega
  ·omega
theorem a3Y {sl:List Slot} (hl:sl.length=4) {q:Int}:(∃ w∈actL sl,w.q=q)↔q∈actN sl 4:=by
 rw [N0]
 constructor
 ·rintro ⟨w,hw,e⟩
  obtain ⟨x,h1,h2,rfl⟩:=M8.mp hw
  obtain ⟨j,hj,rfl⟩:=n6.mp h1
  exact ⟨j,by omega,h2,e⟩
 ·rintro ⟨j,h1,h2,h3⟩
  exact ⟨wOf (sl.getD j default),M8.mpr ⟨_,n6.mpr ⟨j,by omega,rfl⟩,h2,rfl⟩,h3⟩
structure IfG (x:Ifc):Prop where
 f:IfF x
 nd:x.st.Nodup
theorem IfG.lt {x:Ifc} (h:IfG x) (hb:0≤bstS x.qu.sl true):x.st.length < 4:=by
 obtain ⟨k,e1,e2,e3⟩:=a0V hb
 have hl:=h.f.qu.sl.len
 have h1:=b0N h.nd (fun q hq=>(a3Y hl).mp (h.f.st q hq))
 have h2:=b4Z (sl:=x.qu.sl) (k:=k) (by rw [← Bool.not_eq_true,x7];omega) 4 (by omega)
 omega
theorem c4j {x:Ifc} {q p:Int} (h:IfG x) (hq:0≤q∧q≤7) (hp:0≤p∧p≤15):IfG (a7G x q p):=⟨b7t h.f hq hp,h.nd⟩
theorem c4k {x:Ifc} (h:IfG x) (hk:okT x=true):IfG (a4H x):=by
 have hb:=(a0l.mp hk).1
 refine ⟨c1I h.f hb (h.lt hb),?_⟩
 obtain ⟨k,e1,e2,e3⟩:=a0V hb
 refine List.nodup_append.mpr ⟨h.nd,List.nodup_cons.mpr ⟨by simp,List.nodup_nil⟩,fun a ha b hb e=>?_⟩
 rw [List.mem_singleton.mp hb] at e
 obtain ⟨j,h1,h2,h3⟩:=(N0 4).mp ((a3Y h.f.qu.sl.len).mp (h.f.st a ha))
 have hkq:tkI x.qu.sl=(x.qu.sl.getD k default).q:=by unfold tkI;rw [e1];rfl
 have hne:j≠k:=fun ee=>by subst ee;rcases x7.mp h2 with g | g<;>omega
 have hj0:(x.qu.sl.getD j default).s≠0:=by rcases x7.mp h2 with g | g<;>omega
 have hl:=h.f.qu.sl.len
 rcases Nat.lt_or_ge j k with g | g
 ·exact h.f.qu.sl.dif j k g (by omega) hj0 (by omega) (by rw [h3,e,hkq])
 ·exact h.f.qu.sl.dif k j (by omega) h1 (by omega) hj0 (by rw [h3,e,hkq])
def N1 (x:Ifc):Int:=x.st.getD (x.st.length - 1) default
def a9t (x:Ifc):Ifc:=⟨x.ma,x.st.take (x.st.length - 1),a6V x.qu (N1 x)⟩
theorem a3Z {x:Ifc} (h:x.st.length≠0):N1 x∈x.st:=n6.mpr ⟨x.st.length - 1,by omega,rfl⟩
theorem b9R {sl:List Slot} {q:Int} (h:SlF sl) (ha:∃ w∈actL sl,w.q=q):P6 (sl.getD (u7 sl q).toNat default)=true:=by
 obtain ⟨k,e1,e2,e3,e4⟩:=b1B (a5N ha)
 obtain ⟨j,h1,h2,h3⟩:=(N0 4).mp ((a3Y h.len).mp ha)
 have hl:=h.len
 have hj0:(sl.getD j default).s≠0:=by rcases x7.mp h2 with g | g<;>omega
 have:j=k:=by
  rcases Nat.lt_trichotomy j k with g | g | g
  ·exact absurd (h3.trans e4.symm) (h.dif j k g (by omega) hj0 e3)
  ·exact g
  ·exact absurd (e4.trans h3.symm) (h.dif k j g h1 e3 hj0)
 subst this
 rw [e1]
 exact h2
theorem c4l {x:Ifc} (h:IfG x) (h0:x.st.length≠0):IfG (a9t x):=by
 have hf:=a5N (h.f.st _ (a3Z h0))
 have hQ0:=a8n h.f.qu hf
 obtain ⟨k,e1,e2,e3,e4⟩:=b1B hf
 have hnl:∀ y∈x.st.take (x.st.length - 1),y≠N1 x:=fun y hy e=>by
  obtain ⟨i,hi,e5⟩:=(a5Z (by omega)).mp hy
  exact b1N.mp h.nd i (x.st.length - 1) hi (by omega) (e5.trans e)
 refine ⟨⟨(c1G h.f.qu hf).1,by show (x.st.take (x.st.length - 1)).length≤4;have:=h.f.sn;rw [List.length_take];omega,fun y hy=>?_⟩,List.Pairwise.sublist (List.take_sublist _ _) h.nd⟩
 show ∃ w∈actL (a6V x.qu (N1 x)).sl,w.q=y
 unfold a6V
 rw [b2T hQ0]
 show ∃ w∈actL (edS x.qu.sl (N1 x)),w.q=y
 obtain ⟨w,hw,e⟩:=h.f.st y (List.mem_of_mem_take hy)
 obtain ⟨z,z1,z2,z3⟩:=M8.mp hw
 refine ⟨w,M8.mpr ⟨z,?_,z2,z3⟩,e⟩
 unfold edS
 rw [e1,Int.toNat_natCast]
 refine b4L z1 fun e'=>hnl y hy ?_
 rw [← e,← z3,e']
 exact e4
structure MaG (m:Mach):Prop where
 rt:okRts m.rs m.cp.length=true
 n:1≤m.cp.length∧m.cp.length≤2
 rn:m.rs.length=8
 en:m.en.length=8
 ra:m.ra.length=8
 ok:∀ k,k < m.cp.length→IfG (m.cp.getD k default)
theorem MaF.g {m:Mach} (h:MaF m):MaG m:=⟨h.rt,h.n,h.rn,h.en,h.ra,fun k hk=>⟨(h.ok k hk).1,(a3W.mp (h.ok k hk).2.2.2).nodup_iff.mpr (b1L (h.ok k hk).1.qu.sl 4 (Nat.le_refl _))⟩⟩
theorem MaG.tg {m:Mach} (h:MaG m) {i:Nat} (hi:i < 8):(0≤(m.rs.getD i default).t∧(m.rs.getD i default).t≤1)∧(m.rs.getD i default).t.toNat < m.cp.length∧(0≤(m.rs.getD i default).p∧(m.rs.getD i default).p≤15):=by
 have:=(I3.mp h.rt).2.2 i hi
 have:=h.n
 omega
def tgM (m:Mach) (i:Nat):Nat:=(m.rs.getD i default).t.toNat
def a56 (m:Mach) (i:Nat):Bool:=m.en.getD i default && (m.ra.getD i default && !a9e (m.cp.getD (tgM m i) default).st i)
def a7J (m:Mach):Nat→List Bool
 | 0=>m.ra
 | i+1=>if a56 m i then (a7J m i).set i false else a7J m i
def a1I (m:Mach):Nat→List Ifc
 | 0=>m.cp
 | i+1=>if a56 m i then (a1I m i).set (tgM m i) (a7G ((a1I m i).getD (tgM m i) default) i (m.rs.getD i default).p) else a1I m i
def b37 (m:Mach):Mach:=⟨m.rs,m.en,a7J m 8,a1I m 8⟩
section
variable {m:Mach} {i:Nat}
theorem O4 (h:a56 m i=true):a7J m (i+1)=(a7J m i).set i false:=by show (if _ then _ else _)=_;rw [if_pos h]
theorem O5 (h:a56 m i=false):a7J m (i+1)=a7J m i:=by show (if _ then _ else _)=_;rw [if_neg (by rw [h];decide)]
theorem O6 (h:a56 m i=true):a1I m (i+1)=(a1I m i).set (tgM m i) (a7G ((a1I m i).getD (tgM m i) default) i (m.rs.getD i default).p):=by show (if _ then _ else _)=_;rw [if_pos h]
theorem O7 (h:a56 m i=false):a1I m (i+1)=a1I m i:=by show (if _ then _ else _)=_;rw [if_neg (by rw [h];decide)]
theorem a57:∀ i,(a7J m i).length=m.ra.length
 | 0=>rfl
 | i+1=>by
  have ih:=@a57 i
  show (if _ then _ else _:List Bool).length=_
  split
  ·rw [List.length_set];exact ih
  ·exact ih
theorem P7:∀ i,(a1I m i).length=m.cp.length
 | 0=>rfl
 | i+1=>by
  have ih:=@P7 i
  show (if _ then _ else _:List Ifc).length=_
  split
  ·rw [List.length_set];exact ih
  ·exact ih
theorem a8s:∀ {i j:Nat},i≤j→(a7J m i).getD j default=m.ra.getD j default
 | 0,_,_=>rfl
 | i+1,j,h=>by
  show (if _ then _ else _:List Bool).getD j default=_
  split
  ·rw [List.getD_eq_getElem?_getD,List.getElem?_set_ne (by omega),← List.getD_eq_getElem?_getD];exact a8s (by omega)
  ·exact a8s (by omega)
theorem a58 (hM:MaG m):∀ {i k:Nat},i≤8→k < m.cp.length→((a1I m i).getD k default).st=(m.cp.getD k default).st∧IfG ((a1I m i).getD k default)
 | 0,k,_,hk=>⟨rfl,hM.ok k hk⟩
 | i+1,k,hi,hk=>by
  have ih:=@a58 hM i k (by omega) hk
  obtain ⟨_,h2,h3⟩:=hM.tg (i:=i) (by omega)
  show ((if _ then _ else _:List Ifc).getD k default).st=_∧IfG ((if _ then _ else _:List Ifc).getD k default)
  split
  ·rw [M7 (by rw [P7];exact h2)]
   by_cases e:tgM m i=k
   ·rw [if_pos e]
    subst e
    have ih2:=@a58 hM i (tgM m i) (by omega) h2
    exact ⟨ih2.1,c4j ih2.2 (by omega) h3⟩
   ·rw [if_neg e];exact ih
  ·exact ih
theorem c13 (hM:MaG m):MaG (b37 m):=by
 refine ⟨?_,by show 1≤(a1I m 8).length∧_;rw [P7];exact ⟨hM.n.1,by show (a1I m 8).length≤2;rw [P7];exact hM.n.2⟩,hM.rn,hM.en,by show (a7J m 8).length=8;rw [a57];exact hM.ra,fun k hk=>?_⟩
 ·show okRts m.rs (a1I m 8).length=true
  rw [P7];exact hM.rt
 ·have hk:k < (a1I m 8).length:=hk
  rw [P7] at hk
  exact (a58 hM (Nat.le_refl _) hk).2
end
def stM (m:Mach) (s:MStep):Mach×Int×Bool :=
 if s.k=1 then (⟨m.rs,m.en,m.ra.set s.q.toNat true,m.cp⟩,-1,!(m.ra.getD s.q.toNat default))
 else if s.k=2 then (b37 m,-1,true)
 else if s.k=3 then (if okT (m.cp.getD s.c.toNat default) then (⟨m.rs,m.en,m.ra,m.cp.set s.c.toNat (a4H (m.cp.getD s.c.toNat default))⟩,tkI (m.cp.getD s.c.toNat default).qu.sl,true) else (⟨m.rs,m.en,m.ra,m.cp.set s.c.toNat noI⟩,0,false))
 else if s.k=4 then (if (m.cp.getD s.c.toNat default).st.length=0 then (⟨m.rs,m.en,m.ra,m.cp.set s.c.toNat noI⟩,0,false) else (⟨m.rs,m.en,m.ra,m.cp.set s.c.toNat (a9t (m.cp.getD s.c.toNat default))⟩,N1 (m.cp.getD s.c.toNat default),true))
 else if s.k=5 then (⟨m.rs,m.en,m.ra,m.cp.set s.c.toNat ⟨s.v,(m.cp.getD s.c.toNat default).st,(m.cp.getD s.c.toNat default).qu⟩⟩,-1,true)
 else (⟨m.rs,m.en.set s.q.toNat (decide (s.v=1)),m.ra,m.cp⟩,-1,true)
def b1T (m:Mach) (s:MStep):Prop:=(s.k=3∧okT (m.cp.getD s.c.toNat default)=false)∨(s.k=4∧(m.cp.getD s.c.toNat default).st.length=0)
theorem b78 {m:Mach} (h:MaG m):AbsF m.rs (X4 m):=by
 have hl:(m.cp.map (fun x:Ifc=>x.ma)).length=m.cp.length:=List.length_map _
 have hl2:(m.cp.map (fun x:Ifc=>x.st)).length=m.cp.length:=List.length_map _
 have hg:∀ c,c < m.cp.length→(m.cp.map (fun x:Ifc=>x.st)).getD c default=(m.cp.getD c default).st:=fun c hc=>Y9 (f:=fun x:Ifc=>x.st) hc
 refine ⟨by show 1≤(m.cp.map (fun x:Ifc=>x.ma)).length∧(m.cp.map (fun x:Ifc=>x.ma)).length≤2;rw [hl];exact h.n,h.rn,by show (m.cp.map (fun x:Ifc=>x.st)).length=(m.cp.map (fun x:Ifc=>x.ma)).length;rw [hl,hl2],h.en,h.ra,J1 _,fun i hi=>?_,fun c hc=>?_,fun c hc i hi=>?_⟩
 ·show 0≤(m.rs.getD i default).t∧(m.rs.getD i default).t < (m.cp.map (fun x:Ifc=>x.ma)).length
  rw [hl]
  have:=(I3.mp h.rt).2.2 i hi
  omega
 ·have hc:c < (m.cp.map (fun x:Ifc=>x.ma)).length:=hc
  rw [hl] at hc
  show ((m.cp.map (fun x:Ifc=>x.st)).getD c default).length≤4
  rw [hg c hc]
  exact (h.ok c hc).f.sn
 ·have hc:c < (m.cp.map (fun x:Ifc=>x.ma)).length:=hc
  rw [hl] at hc
  have hi:i < ((m.cp.map (fun x:Ifc=>x.st)).getD c default).length:=hi
  show 0≤((m.cp.map (fun x:Ifc=>x.st)).getD c default).getD i default∧((m.cp.map (fun x:Ifc=>x.st)).getD c default).getD i default≤7
  rw [hg c hc] at hi ⊢
  have hI:=(h.ok c hc).f
  obtain ⟨j,h1,h2,h3⟩:=(N0 4).mp ((a3Y hI.qu.sl.len).mp (hI.st _ (n6.mpr ⟨i,hi,rfl⟩)))
  rw [← h3]
  exact (hI.qu.sl.ok j h1 (by rcases x7.mp h2 with g | g<;>omega)).2.1
theorem MaG.put {m:Mach} (h:MaG m) {c:Nat} {x:Ifc} (hx:IfG x):MaG ⟨m.rs,m.en,m.ra,m.cp.set c x⟩:=by
 refine ⟨by show okRts m.rs (m.cp.set c x).length=true;rw [List.length_set];exact h.rt,by show 1≤(m.cp.set c x).length∧(m.cp.set c x).length≤2;rw [List.length_set];exact h.n,h.rn,h.en,h.ra,fun k hk=>?_⟩
 have hk:k < (m.cp.set c x).length:=hk
 rw [List.length_set] at hk
 show IfG ((m.cp.set c x).getD k default)
 by_cases e:c=k
 ·subst e
  rw [M7 hk,if_pos rfl];exact hx
 ·rw [List.getD_eq_getElem?_getD,List.getElem?_set_ne e,← List.getD_eq_getElem?_getD];exact h.ok k hk
theorem c3w {m:Mach} {s:MStep} (h:MaG m) (hv:M6 m.cp.length s=true) (hk:(stM m s).2.2=true):MaG (stM m s).1∧(stM m s).1.rs=m.rs∧(stM m s).1.cp.length=m.cp.length:=by
 obtain ⟨sk,sq,sc,sv⟩:=s
 have hc:=fun hk=>b1w (n:=m.cp.length) (k:=sk) (q:=sq) (c:=sc) (v:=sv) hv hk
 unfold stM at hk ⊢
 dsimp only at hk ⊢
 by_cases h1:sk=1
 ·simp only [h1,if_true]
  exact ⟨⟨h.rt,h.n,h.rn,h.en,by show (m.ra.set sq.toNat true).length=8;rw [List.length_set];exact h.ra,h.ok⟩,trivial,trivial⟩
 by_cases h2:sk=2
 ·rw [if_neg h1,if_pos h2]
  exact ⟨c13 h,rfl,P7 8⟩
 by_cases h3:sk=3
 ·have hcc:=hc (.inl h3)
  rw [if_neg h1,if_neg h2,if_pos h3] at hk ⊢
  by_cases ho:okT (m.cp.getD sc.toNat default)=true
  ·rw [if_pos ho]
   exact ⟨h.put (c4k (h.ok _ (by omega)) ho),rfl,List.length_set⟩
  ·rw [if_neg ho] at hk;cases hk
 by_cases h4:sk=4
 ·have hcc:=hc (.inr (.inl h4))
  rw [if_neg h1,if_neg h2,if_neg h3,if_pos h4] at hk ⊢
  by_cases ho:(m.cp.getD sc.toNat default).st.length=0
  ·rw [if_pos ho] at hk;cases hk
  ·rw [if_neg ho]
   exact ⟨h.put (c4l (h.ok _ (by omega)) ho),rfl,List.length_set⟩
 by_cases h5:sk=5
 ·have hcc:=hc (.inr (.inr h5))
  rw [if_neg h1,if_neg h2,if_neg h3,if_neg h4,if_pos h5]
  have hI:=h.ok sc.toNat (by omega)
  exact ⟨h.put ⟨⟨hI.f.qu,hI.f.sn,hI.f.st⟩,hI.nd⟩,rfl,List.length_set⟩
 ·rw [if_neg h1,if_neg h2,if_neg h3,if_neg h4,if_neg h5]
  exact ⟨⟨h.rt,h.n,h.rn,by show (m.en.set sq.toNat _).length=8;rw [List.length_set];exact h.en,h.ra,h.ok⟩,rfl,rfl⟩
section
variable {p:Mach×Abs} {s:MStep}
end
section
variable {m:Mach} {sk sq sc sv:Int} {q c:Nat}
theorem sm1 (h:sk=1):stM m ⟨sk,(q:Int),sc,sv⟩=(⟨m.rs,m.en,m.ra.set q true,m.cp⟩,-1,!(m.ra.getD q default)):=by subst h;rfl
theorem sm2 (h:sk=2):stM m ⟨sk,sq,sc,sv⟩=(b37 m,-1,true):=by subst h;rfl
theorem sm3 (h:sk=3) (hk:okT (m.cp.getD c default)=true):stM m ⟨sk,sq,(c:Int),sv⟩=(⟨m.rs,m.en,m.ra,m.cp.set c (a4H (m.cp.getD c default))⟩,tkI (m.cp.getD c default).qu.sl,true):=by
 subst h
 show (if okT (m.cp.getD c default) then _ else _:Mach×Int×Bool)=_
 rw [hk];rfl
theorem c4m (h:sk=3) (hk:okT (m.cp.getD c default)=false):stM m ⟨sk,sq,(c:Int),sv⟩=(⟨m.rs,m.en,m.ra,m.cp.set c noI⟩,0,false):=by
 subst h
 show (if okT (m.cp.getD c default) then _ else _:Mach×Int×Bool)=_
 rw [hk];rfl
theorem sm4 (h:sk=4) (hk:¬ (m.cp.getD c default).st.length=0):stM m ⟨sk,sq,(c:Int),sv⟩=(⟨m.rs,m.en,m.ra,m.cp.set c (a9t (m.cp.getD c default))⟩,N1 (m.cp.getD c default),true):=by
 subst h
 show (if (m.cp.getD c default).st.length=0 then _ else _:Mach×Int×Bool)=_
 rw [if_neg hk];rfl
theorem c4n (h:sk=4) (hk:(m.cp.getD c default).st.length=0):stM m ⟨sk,sq,(c:Int),sv⟩=(⟨m.rs,m.en,m.ra,m.cp.set c noI⟩,0,false):=by
 subst h
 show (if (m.cp.getD c default).st.length=0 then _ else _:Mach×Int×Bool)=_
 rw [if_pos hk];rfl
theorem sm5 (h:sk=5):stM m ⟨sk,sq,(c:Int),sv⟩=(⟨m.rs,m.en,m.ra,m.cp.set c ⟨sv,(m.cp.getD c default).st,(m.cp.getD c default).qu⟩⟩,-1,true):=by subst h;rfl
theorem sm6 (h:sk=6):stM m ⟨sk,(q:Int),sc,sv⟩=(⟨m.rs,m.en.set q (decide (sv=1)),m.ra,m.cp⟩,-1,true):=by subst h;rfl
theorem b38 (h:b1T m ⟨sk,sq,sc,sv⟩):sk=3∨sk=4:=by
 rcases h with ⟨h,_⟩ | ⟨h,_⟩
 ·exact .inl h
 ·exact .inr h
theorem c14 (h:b1T m ⟨sk,sq,(c:Int),sv⟩) (h3:sk=3):okT (m.cp.getD c default)=false:=by
 rcases h with ⟨_,h⟩ | ⟨h,_⟩
 ·exact h
 ·have h':sk=4:=h
  omega
theorem c15 (h:b1T m ⟨sk,sq,(c:Int),sv⟩) (h4:sk=4):(m.cp.getD c default).st.length=0:=by
 rcases h with ⟨h,_⟩ | ⟨_,h⟩
 ·have h':sk=3:=h
  omega
 ·exact h
theorem c4o (h:¬ b1T m ⟨sk,sq,(c:Int),sv⟩) (h3:sk=3):okT (m.cp.getD c default)=true:=by
 cases ho:okT (m.cp.getD c default)
 ·exact absurd (Or.inl ⟨h3,ho⟩) h
 ·rfl
theorem c4p (h:¬ b1T m ⟨sk,sq,(c:Int),sv⟩) (h4:sk=4):¬ (m.cp.getD c default).st.length=0:=fun e=>h (Or.inr ⟨h4,e⟩)
theorem c16 {s:MStep} (h:b1T m s):(stM m s).2.2=false:=by
 obtain ⟨sk,sq,sc,sv⟩:=s
 rcases h with ⟨h1,h2⟩ | ⟨h1,h2⟩
 ·have h1:sk=3:=h1
  subst h1
  show (if okT (m.cp.getD sc.toNat default) then _ else _:Mach×Int×Bool).2.2=false
  have h2:okT (m.cp.getD sc.toNat default)=false:=h2
  rw [h2];rfl
 ·have h1:sk=4:=h1
  subst h1
  show (if (m.cp.getD sc.toNat default).st.length=0 then _ else _:Mach×Int×Bool).2.2=false
  have h2:(m.cp.getD sc.toNat default).st.length=0:=h2
  rw [if_pos h2]
end
theorem MaG.lens {m:Mach} (h:MaG m) {k:Nat} (hk:k < m.cp.length):(m.cp.getD k default).st.length≤4∧(m.cp.getD k default).qu.sl.length=4∧(m.cp.getD k default).qu.wa.length≤8:=⟨(h.ok k hk).f.sn,(h.ok k hk).f.qu.sl.len,(h.ok k hk).f.qu.wn8⟩
theorem MaG.small {m:Mach} (h:MaG m):SmallM m:=by
 have h1:=h.n
 refine ⟨by rw [h.rn];decide,by rw [h.en];decide,by rw [h.ra];decide,by omega,?_⟩
 have key:∀ i,i≤m.cp.length→sumI m.cp i≤16 * i:=by
  intro i
  induction i with
  | zero=>intro _;exact Int.le_refl _
  | succ i ih =>
   intro hi
   rw [a3T]
   have:=ih (by omega)
   obtain ⟨q1,q2,q3⟩:=h.lens (show i < m.cp.length by omega)
   have:szI (m.cp.getD i default)≤16:=by unfold szI;omega
   push_cast
   omega
 have:=key _ (Nat.le_refl _)
 omega
theorem b79 {m:Mach} {i:Nat} (h1:m.en.getD i default=true) (h2:m.ra.getD i default=true) (h3:a9e (m.cp.getD (tgM m i) default).st i=false):a56 m i=true:=by unfold a56;rw [h1,h2,h3];rfl
theorem b8a {m:Mach} {i:Nat} (h1:m.en.getD i default=false):a56 m i=false:=by unfold a56;rw [h1,Bool.false_and]
theorem b8b {m:Mach} {i:Nat} (h2:m.ra.getD i default=false):a56 m i=false:=by unfold a56;rw [h2,Bool.false_and,Bool.and_false]
theorem b8c {m:Mach} {i:Nat} (h3:a9e (m.cp.getD (tgM m i) default).st i=true):a56 m i=false:=by unfold a56;rw [h3];simp
theorem b8d {sl:List Slot} {q:Int} (h:(sl.getD (u7 sl q).toNat default).s=3):edS sl q=sl.set (u7 sl q).toNat ⟨1,q,(sl.getD (u7 sl q).toNat default).p⟩:=by unfold edS edX;rw [if_pos h]
theorem c0E {sl:List Slot} {q:Int} (h:¬ (sl.getD (u7 sl q).toNat default).s=3):edS sl q=sl.set (u7 sl q).toNat zSl:=by unfold edS edX;rw [if_neg h]
def m3 (w:ByteArray):Nat :=
 if w.data.toList=[115,121,110,99] then 0
 else if w.data.toList=[114,97,105,115,101,100] then 1
 else if w.data.toList=[105,100,108,101] then 2
 else if w.data.toList=[114,97,105,115,101] then 3
 else if w.data.toList=[101,110,97,98,108,101] then 4
 else if w.data.toList=[100,105,115,97,98,108,101] then 5
 else if w.data.toList=[116,97,107,101] then 6
 else if w.data.toList=[108,101,97,118,101] then 7
 else if w.data.toList=[112,101,110,100,105,110,103] then 8
 else if w.data.toList=[115,116,97,99,107] then 9
 else if w.data.toList=[110,101,120,116] then 10
 else if w.data.toList=[115,108,111,116,115] then 11
 else if w.data.toList=[109,97,115,107] then 12
 else 13
theorem Z0 {w:ByteArray} {l:Array UInt8}:w.toList=(⟨l⟩:ByteArray).toList↔w.data.toList=l.toList:=by rw [Go.ByteArray.toList_eq,Go.ByteArray.toList_eq]
theorem e7 {c:Prop} [Decidable c] {a b k:Nat} (h:(if c then a else b)=k) (hak:a≠k):b=k:=by
 by_cases hc:c
 ·rw [if_pos hc] at h;exact absurd h hak
 ·rw [if_neg hc] at h;exact h
theorem Z1 {w:ByteArray} {l:List UInt8} (h:w.data.toList=l):m3 w=m3 ⟨⟨l⟩⟩:=by unfold m3;simp only [h]
theorem b0O {w:ByteArray}:w.toList=(⟨#[115,121,110,99]⟩:ByteArray).toList↔m3 w=0:=by
 rw [Z0]
 show w.data.toList=[115,121,110,99]↔_
 constructor
 ·intro h;exact (Z1 h).trans (by decide)
 ·intro h
  unfold m3 at h
  refine Decidable.byContradiction fun hn=>?_
  rw [if_neg hn] at h
  have h:=e7 h (by decide)
  have h:=e7 h (by decide)
  have h:=e7 h (by decide)
  have h:=e7 h (by decide)
  have h:=e7 h (by decide)
  have h:=e7 h (by decide)
  have h:=e7 h (by decide)
  have h:=e7 h (by decide)
  have h:=e7 h (by decide)
  have h:=e7 h (by decide)
  have h:=e7 h (by decide)
  have h:=e7 h (by decide)
  cases h
theorem b0P {w:ByteArray}:w.toList=(⟨#[114,97,105,115,101,100]⟩:ByteArray).toList↔m3 w=1:=by
 rw [Z0]
 show w.data.toList=[114,97,105,115,101,100]↔_
 constructor
 ·intro h;exact (Z1 h).trans (by decide)
 ·intro h
  unfold m3 at h
  refine Decidable.byContradiction fun hn=>?_
  have h:=e7 h (by decide)
  rw [if_neg hn] at h
  have h:=e7 h (by decide)
  have h:=e7 h (by decide)
  have h:=e7 h (by decide)
  have h:=e7 h (by decide)
  have h:=e7 h (by decide)
  have h:=e7 h (by decide)
  have h:=e7 h (by decide)
  have h:=e7 h (by decide)
  have h:=e7 h (by decide)
  have h:=e7 h (by decide)
  have h:=e7 h (by decide)
  cases h
theorem b0Q {w:ByteArray}:w.toList=(⟨#[105,100,108,101]⟩:ByteArray).toList↔m3 w=2:=by
 rw [Z0]
 show w.data.toList=[105,100,108,101]↔_
 constructor
 ·intro h;exact (Z1 h).trans (by decide)
 ·intro h
  unfold m3 at h
  refine Decidable.byContradiction fun hn=>?_
  have h:=e7 h (by decide)
  have h:=e7 h (by decide)
  rw [if_neg hn] at h
  have h:=e7 h (by decide)
  have h:=e7 h (by decide)
  have h:=e7 h (by decide)
  have h:=e7 h (by decide)
  have h:=e7 h (by decide)
  have h:=e7 h (by decide)
  have h:=e7 h (by decide)
  have h:=e7 h (by decide)
  have h:=e7 h (by decide)
  have h:=e7 h (by decide)
  cases h
theorem b0R {w:ByteArray}:w.toList=(⟨#[114,97,105,115,101]⟩:ByteArray).toList↔m3 w=3:=by
 rw [Z0]
 show w.data.toList=[114,97,105,115,101]↔_
 constructor
 ·intro h;exact (Z1 h).trans (by decide)
 ·intro h
  unfold m3 at h
  refine Decidable.byContradiction fun hn=>?_
  have h:=e7 h (by decide)
  have h:=e7 h (by decide)
  have h:=e7 h (by decide)
  rw [if_neg hn] at h
  have h:=e7 h (by decide)
  have h:=e7 h (by decide)
  have h:=e7 h (by decide)
  have h:=e7 h (by decide)
  have h:=e7 h (by decide)
  have h:=e7 h (by decide)
  have h:=e7 h (by decide)
  have h:=e7 h (by decide)
  have h:=e7 h (by decide)
  cases h
theorem b0S {w:ByteArray}:w.toList=(⟨#[101,110,97,98,108,101]⟩:ByteArray).toList↔m3 w=4:=by
 rw [Z0]
 show w.data.toList=[101,110,97,98,108,101]↔_
 constructor
 ·intro h;exact (Z1 h).trans (by decide)
 ·intro h
  unfold m3 at h
  refine Decidable.byContradiction fun hn=>?_
  have h:=e7 h (by decide)
  have h:=e7 h (by decide)
  have h:=e7 h (by decide)
  have h:=e7 h (by decide)
  rw [if_neg hn] at h
  have h:=e7 h (by decide)
  have h:=e7 h (by decide)
  have h:=e7 h (by decide)
  have h:=e7 h (by decide)
  have h:=e7 h (by decide)
  have h:=e7 h (by decide)
  have h:=e7 h (by decide)
  have h:=e7 h (by decide)
  cases h
theorem b0T {w:ByteArray}:w.toList=(⟨#[100,105,115,97,98,108,101]⟩:ByteArray).toList↔m3 w=5:=by
 rw [Z0]
 show w.data.toList=[100,105,115,97,98,108,101]↔_
 constructor
 ·intro h;exact (Z1 h).trans (by decide)
 ·intro h
  unfold m3 at h
  refine Decidable.byContradiction fun hn=>?_
  have h:=e7 h (by decide)
  have h:=e7 h (by decide)
  have h:=e7 h (by decide)
  have h:=e7 h (by decide)
  have h:=e7 h (by decide)
  rw [if_neg hn] at h
  have h:=e7 h (by decide)
  have h:=e7 h (by decide)
  have h:=e7 h (by decide)
  have h:=e7 h (by decide)
  have h:=e7 h (by decide)
  have h:=e7 h (by decide)
  have h:=e7 h (by decide)
  cases h
theorem b0U {w:ByteArray}:w.toList=(⟨#[116,97,107,101]⟩:ByteArray).toList↔m3 w=6:=by
 rw [Z0]
 show w.data.toList=[116,97,107,101]↔_
 constructor
 ·intro h;exact (Z1 h).trans (by decide)
 ·intro h
  unfold m3 at h
  refine Decidable.byContradiction fun hn=>?_
  have h:=e7 h (by decide)
  have h:=e7 h (by decide)
  have h:=e7 h (by decide)
  have h:=e7 h (by decide)
  have h:=e7 h (by decide)
  have h:=e7 h (by decide)
  rw [if_neg hn] at h
  have h:=e7 h (by decide)
  have h:=e7 h (by decide)
  have h:=e7 h (by decide)
  have h:=e7 h (by decide)
  have h:=e7 h (by decide)
  have h:=e7 h (by decide)
  cases h
theorem b0V {w:ByteArray}:w.toList=(⟨#[108,101,97,118,101]⟩:ByteArray).toList↔m3 w=7:=by
 rw [Z0]
 show w.data.toList=[108,101,97,118,101]↔_
 constructor
 ·intro h;exact (Z1 h).trans (by decide)
 ·intro h
  unfold m3 at h
  refine Decidable.byContradiction fun hn=>?_
  have h:=e7 h (by decide)
  have h:=e7 h (by decide)
  have h:=e7 h (by decide)
  have h:=e7 h (by decide)
  have h:=e7 h (by decide)
  have h:=e7 h (by decide)
  have h:=e7 h (by decide)
  rw [if_neg hn] at h
  have h:=e7 h (by decide)
  have h:=e7 h (by decide)
  have h:=e7 h (by decide)
  have h:=e7 h (by decide)
  have h:=e7 h (by decide)
  cases h
theorem b0W {w:ByteArray}:w.toList=(⟨#[112,101,110,100,105,110,103]⟩:ByteArray).toList↔m3 w=8:=by
 rw [Z0]
 show w.data.toList=[112,101,110,100,105,110,103]↔_
 constructor
 ·intro h;exact (Z1 h).trans (by decide)
 ·intro h
  unfold m3 at h
  refine Decidable.byContradiction fun hn=>?_
  have h:=e7 h (by decide)
  have h:=e7 h (by decide)
  have h:=e7 h (by decide)
  have h:=e7 h (by decide)
  have h:=e7 h (by decide)
  have h:=e7 h (by decide)
  have h:=e7 h (by decide)
  have h:=e7 h (by decide)
  rw [if_neg hn] at h
  have h:=e7 h (by decide)
  have h:=e7 h (by decide)
  have h:=e7 h (by decide)
  have h:=e7 h (by decide)
  cases h
theorem b0X {w:ByteArray}:w.toList=(⟨#[115,116,97,99,107]⟩:ByteArray).toList↔m3 w=9:=by
 rw [Z0]
 show w.data.toList=[115,116,97,99,107]↔_
 constructor
 ·intro h;exact (Z1 h).trans (by decide)
 ·intro h
  unfold m3 at h
  refine Decidable.byContradiction fun hn=>?_
  have h:=e7 h (by decide)
  have h:=e7 h (by decide)
  have h:=e7 h (by decide)
  have h:=e7 h (by decide)
  have h:=e7 h (by decide)
  have h:=e7 h (by decide)
  have h:=e7 h (by decide)
  have h:=e7 h (by decide)
  have h:=e7 h (by decide)
  rw [if_neg hn] at h
  have h:=e7 h (by decide)
  have h:=e7 h (by decide)
  have h:=e7 h (by decide)
  cases h
theorem b1U {w:ByteArray}:w.toList=(⟨#[110,101,120,116]⟩:ByteArray).toList↔m3 w=10:=by
 rw [Z0]
 show w.data.toList=[110,101,120,116]↔_
 constructor
 ·intro h;exact (Z1 h).trans (by decide)
 ·intro h
  unfold m3 at h
  refine Decidable.byContradiction fun hn=>?_
  have h:=e7 h (by decide)
  have h:=e7 h (by decide)
  have h:=e7 h (by decide)
  have h:=e7 h (by decide)
  have h:=e7 h (by decide)
  have h:=e7 h (by decide)
  have h:=e7 h (by decide)
  have h:=e7 h (by decide)
  have h:=e7 h (by decide)
  have h:=e7 h (by decide)
  rw [if_neg hn] at h
  have h:=e7 h (by decide)
  have h:=e7 h (by decide)
  cases h
theorem a60 {w:ByteArray}:w.toList=(⟨#[115,108,111,116,115]⟩:ByteArray).toList↔m3 w=11:=by
 rw [Z0]
 show w.data.toList=[115,108,111,116,115]↔_
 constructor
 ·intro h;exact (Z1 h).trans (by decide)
 ·intro h
  unfold m3 at h
  refine Decidable.byContradiction fun hn=>?_
  have h:=e7 h (by decide)
  have h:=e7 h (by decide)
  have h:=e7 h (by decide)
  have h:=e7 h (by decide)
  have h:=e7 h (by decide)
  have h:=e7 h (by decide)
  have h:=e7 h (by decide)
  have h:=e7 h (by decide)
  have h:=e7 h (by decide)
  have h:=e7 h (by decide)
  have h:=e7 h (by decide)
  rw [if_neg hn] at h
  have h:=e7 h (by decide)
  cases h
theorem a61 {w:ByteArray}:w.toList=(⟨#[109,97,115,107]⟩:ByteArray).toList↔m3 w=12:=by
 rw [Z0]
 show w.data.toList=[109,97,115,107]↔_
 constructor
 ·intro h;exact (Z1 h).trans (by decide)
 ·intro h
  unfold m3 at h
  refine Decidable.byContradiction fun hn=>?_
  have h:=e7 h (by decide)
  have h:=e7 h (by decide)
  have h:=e7 h (by decide)
  have h:=e7 h (by decide)
  have h:=e7 h (by decide)
  have h:=e7 h (by decide)
  have h:=e7 h (by decide)
  have h:=e7 h (by decide)
  have h:=e7 h (by decide)
  have h:=e7 h (by decide)
  have h:=e7 h (by decide)
  have h:=e7 h (by decide)
  rw [if_neg hn] at h
  cases h
theorem a4J {w:ByteArray}:m3 w≤13:=by
 have h:∀ (c:Prop) [Decidable c] (a b:Nat),a≤13→b≤13→(if c then a else b)≤13:=fun c _ a b h1 h2=>by by_cases hc:c<;>simp [hc,h1,h2]
 unfold m3
 iterate 13 refine h _ _ _ (by decide) ?_
 decide
def a1J (k:Nat):Int:=if k≤2 then 0 else if k≤11 then 1 else if k=12 then 2 else -1
theorem a3s {k:Nat} (h:k≤2):a1J k=0:=by unfold a1J;rw [if_pos h]
theorem O8 {k:Nat} (h:3≤k∧k≤11):a1J k=1:=by unfold a1J;rw [if_neg (by omega),if_pos (by omega)]
theorem a62 {k:Nat} (h:k=12):a1J k=2:=by unfold a1J;rw [if_neg (by omega),if_neg (by omega),if_pos h]
theorem a4K {k:Nat} (h:13≤k):a1J k=-1:=by unfold a1J;rw [if_neg (by omega),if_neg (by omega),if_neg (by omega)]
def a0o (k:Nat) (l:List Int):MStep×Bool :=
 if k=3 then (⟨1,l.getD 0 default,0,0⟩,true)
 else if k=4 then (⟨6,l.getD 0 default,0,1⟩,true)
 else if k=5 then (⟨6,l.getD 0 default,0,0⟩,true)
 else if k=0 then (⟨2,0,0,0⟩,true)
 else if k=6 then (⟨3,0,l.getD 0 default,0⟩,true)
 else if k=7 then (⟨4,0,l.getD 0 default,0⟩,true)
 else if k=12 then (⟨5,0,l.getD 0 default,l.getD 1 default⟩,true)
 else (⟨0,0,0,0⟩,false)
def b6g (m:Mach) (s:MStep):Bool:=a1b m && M6 m.cp.length s && (stM m s).2.2
def smT (m:Mach) (s:MStep):Mach×Int×Bool:=if b6g m s then ((stM m s).1,(stM m s).2.1,true) else (⟨[],[],[],[]⟩,0,false)
theorem a9u {m:Mach} {s:MStep} (h:a1b m=false∨M6 m.cp.length s=false∨(stM m s).2.2=false):smT m s=(⟨[],[],[],[]⟩,0,false):=by
 unfold smT b6g
 rw [if_neg]
 rcases h with h | h | h<;>simp [h]
theorem c0F {m:Mach} {s:MStep} (h1:a1b m=true) (h2:M6 m.cp.length s=true) (h3:(stM m s).2.2=true):smT m s=((stM m s).1,(stM m s).2.1,true):=by
 unfold smT b6g
 rw [if_pos (by simp [h1,h2,h3])]
def whN (p:Nat→Bool):Nat→List Int
 | 0=>[]
 | i+1=>if p i then whN p i++[(i:Int)] else whN p i
theorem b40 {p:Nat→Bool} {i:Nat} (h:p i=true):whN p (i+1)=whN p i++[(i:Int)]:=by rw [whN,if_pos h]
theorem b41 {p:Nat→Bool} {i:Nat} (h:p i=false):whN p (i+1)=whN p i:=by rw [whN,if_neg (by simp [h])]
theorem a6a {p:Nat→Bool}:∀ {i:Nat},(whN p i).length≤i
 | 0=>Nat.le_refl _
 | i+1=>by
  have:=a6a (p:=p) (i:=i)
  rw [whN]
  split
  ·rw [List.length_append,List.length_cons,List.length_nil];omega
  ·omega
theorem b1V {p:Nat→Bool}:∀ {i:Nat} {x:Int},x∈whN p i→0≤x∧x < i
 | 0,x,h=>by cases h
 | i+1,x,h=>by
  rw [whN] at h
  split at h
  ·rcases List.mem_append.1 h with h | h
   ·have:=b1V h;omega
   ·rw [List.mem_singleton.1 h];omega
  ·have:=b1V h;omega
theorem b8e {p:Nat→Bool} {n:Nat} (hn:n≤1000):∀ i,i < (whN p n).length→a1c ((whN p n).getD i default):=fun i hi=>by
 have hm:(whN p n).getD i default∈whN p n:=by rw [List.getD_eq_getElem?_getD,List.getElem?_eq_getElem hi];exact List.getElem_mem hi
 have:=b1V hm
 exact ⟨by omega,by omega⟩
def raN (m:Mach):List Int:=whN (fun i=>m.ra.getD i default) 8
def a17 (x:Ifc):Bool:=decide ((x.st.length:Int) > 0) || decide (((D6 x.qu).length:Int) > 0)
theorem b42 {x:Ifc} (h:(x.st.length:Int) > 0):a17 x=true:=by unfold a17;rw [decide_eq_true h];rfl
theorem a8t {x:Ifc} (h:¬ (x.st.length:Int) > 0):a17 x=decide (((D6 x.qu).length:Int) > 0):=by unfold a17;rw [decide_eq_false h];rfl
theorem b9S {x:Ifc} (h:¬ (x.st.length:Int) > 0) (h2:((D6 x.qu).length:Int) > 0):a17 x=true:=by rw [a8t h,decide_eq_true h2]
theorem b9T {x:Ifc} (h:¬ (x.st.length:Int) > 0) (h2:¬ ((D6 x.qu).length:Int) > 0):a17 x=false:=by rw [a8t h,decide_eq_false h2]
def a7K (m:Mach) (i:Nat):Bool:=m.ra.getD i default && m.en.getD i default
def a63 (m:Mach):Bool:=!a0g 8 (a7K m) && !a0g m.cp.length (fun k=>a17 (m.cp.getD k default))
theorem b8f {m:Mach} {i:Nat} (hi:i < 8) (h1:m.ra.getD i default=true) (h2:m.en.getD i default=true):a63 m=false:=by
 unfold a63
 rw [O0 (i:=i) (show a7K m i=true by unfold a7K;rw [h1,h2];rfl) hi]
 rfl
theorem b39 {m:Mach} {i:Nat} (h:∀ j,j < i→a7K m j=false) (hi:8≤i):a63 m=!a0g m.cp.length (fun k=>a17 (m.cp.getD k default)):=by
 unfold a63
 rw [a2n h hi]
 simp
theorem c17 {m:Mach} {i k:Nat} (h:∀ j,j < i→a7K m j=false) (hi:8≤i) (hk:k < m.cp.length) (hb:a17 (m.cp.getD k default)=true):a63 m=false:=by
 rw [b39 h hi,O0 (i:=k) hb hk]
 rfl
theorem c18 {m:Mach} {i k:Nat} (h:∀ j,j < i→a7K m j=false) (hi:8≤i) (hk:m.cp.length≤k) (hb:∀ j,j < k→a17 (m.cp.getD j default)=false):a63 m=true:=by
 rw [b39 h hi,a2n hb hk]
 rfl
theorem c19 {m:Mach} {i:Nat} (h:m.ra.getD i default=false):a7K m i=false:=by unfold a7K;rw [h];rfl
theorem c2a {m:Mach} {i:Nat} (h:m.en.getD i default=false):a7K m i=false:=by unfold a7K;rw [h,Bool.and_false]
theorem c2b {w:World} {ρ:Nat→Value} {nx:Nat} {a:AV} {f:FuncId}:∀ vs,RelVs w ρ nx [a,.v (.func (.func f) #[] #[])] vs→RelVs w ρ nx [a,.fnc f []] vs:=by
 intro vs h
 simp only [RelVs,RelV] at h ⊢
 obtain ⟨y0,t0,rfl,h0,y1,t1,rfl,rfl,rfl⟩:=h
 exact ⟨_,_,rfl,h0,_,_,rfl,⟨[],rfl,rfl⟩,rfl⟩
end Go.Rf
namespace Go.Rf
open Go Go.RowKit
section
variable {P:Program} [Env P] {w0:Base} {ops:Array Oper} {tb:List (Nat×TyI)} {o:Oper} {rest:List Oper} {T:List (Nat×AV)} {m m1:List (Nat×Option Row)} {nx nt d n1:Nat} {Q:Exit→St→Prop}
def c3x (m1:List (Nat×Option Row)) (n1:Nat) (e:Exit) (S:St):Prop:=(e=.normal∨e=.ret)∧S.m=m1∧S.nx=n1
theorem c2c [EnvAt P w0] {f:FuncId} {fn:Func} {c:Code} {as:Array Operand} {ts:Array TypeId} {args:List AV} {n:Nat} (m1:List (Nat×Option Row)) (n1:Nat) (hd:o.dst=some d) (hlt:Nat.blt d nt=true) (ho:o.op=.call { callee:=.value (.func f),args:=as,argTypes:=ts })
 (hf:P.funcs[f]?=some fn) (hb:fn.body=some c) (hname:(fn.name == "runtime.NumGoroutine")=false) (hl:fn.results=#[]) (hn:fn.ntmps=n) (hlen:Nat.ble args.length n=true) (ha:evL T as.toList []=some args) (hle:Nat.ble nx n1=true)
 (h:∀ b:Base,[EnvAt P b]→b.n0=nx→W P b c ⟨a4w args 0,m,nx,n⟩ (c3x m1 n1)) (hk:WL P w0 ops rest ⟨(d,.tup []) :: T,m1,n1,nt⟩ Q):WX P w0 ops o rest ⟨T,m,nx,nt⟩ Q:=by
 rename_i hw0
 intro ρ a w hT hC
 obtain ⟨bs,h1,h2⟩:=a5e hT ha
 simp at h1
 subst h1
 have hcal:Callable P f:=⟨fn,hf,hname,by rw [hb];rfl⟩
 have hrun:(execOp a.eval o).run P w=.ok (.enter f (as.toList.map a.eval).toArray) w:=by
  simp [execOp,ho,resolve,Deferred.ofValue,invoke,Act.eval,a0e hcal,← Array.toList_map]
 unfold Oper.wp
 rw [hrun,Oper.upon_enter]
 let b:Base:=⟨w0.w,nx,ρ,w,w0.keep,fun c hc=>Nat.lt_of_lt_of_le (w0.kb c hc) hC.kept.1,w0.E,w0.hE⟩
 have hen:EnvAt P b:=⟨hw0.e⟩
 have hCb:RelC b ρ m nx w:=⟨hC.rows,hC.apart,hC.below,⟨Nat.le_refl _,fun _ _=>rfl⟩,⟨Nat.le_refl _,fun _ _=>rfl,hC.kept.2.2⟩,hC.inner⟩
 have hlen':args.length≤n:=Nat.le_of_ble_eq_true hlen
 have hTb:=a2q (b:=b) (fn:=fn) (show RelVs b.w ρ nx args (as.toList.map a.eval) from h2) hlen' hn
 have hcalls:Calls P f (as.toList.map a.eval).toArray w (fun en w'=>∃ ρ',en=.returned (.tuple #[])∧(∀ i,i < nx→ρ' i=ρ i)∧RelC b ρ' m1 n1 w'):=by
  refine calls_of_wp hf hb ?_
  refine wp_mono (h b rfl ρ _ w hTb hCb) ?_
  have fin:∀ (ρ':Nat→Value) (S:St) (a':Act) (w':World),S.m=m1→S.nx=n1→RelT b ρ' S.T S.nx S.nt a'→RelC b ρ' S.m S.nx w' →
   a'.defers=[]∧∃ v,(results fn a'.tmps).run P w'=.ok v w'∧∃ ρ',Ending.returned v=.returned (.tuple #[])∧(∀ i,i < nx→ρ' i=ρ i)∧RelC b ρ' m1 n1 w':=by
   intro ρ' S a' w' e1 e2 hT' hC'
   refine ⟨hT'.defers,.tuple #[],?_,ρ',rfl,fun i hi=>hC'.pin.2 i hi,by rw [← e1,← e2];exact hC'⟩
   have:=S5 (P:=P) (fn:=fn) (l:=[]) (ys:=[]) (tmps:=a'.tmps) (w:=w') (by rw [hl]) (by simp)
   simpa using this
  rintro e a' w' ⟨ρ',S,⟨hq,e1,e2⟩,hT',hC'⟩
  rcases hq with rfl | rfl
  ·exact fin ρ' S a' w' e1 e2 hT' hC'
  ·exact fin ρ' S a' w' e1 e2 hT' hC'
 refine hcalls.mono fun ex w' ⟨ρ',he,q1,q2⟩=>?_
 subst he
 have hn1:=Nat.le_of_ble_eq_true hle
 refine hk ρ' _ w' ?_ ⟨q2.rows,q2.apart,q2.below,⟨Nat.le_trans hC.pin.1 hn1,fun i hi=>by rw [q1 i (Nat.lt_of_lt_of_le hi hC.pin.1)];exact hC.pin.2 i hi⟩,⟨Nat.le_trans hC.kept.1 q2.kept.1,fun c hc=>(q2.kept.2.1 c hc).trans (hC.kept.2.1 c hc),q2.kept.2.2⟩,q2.inner⟩
 rw [hd]
 have hT':RelT w0 ρ' T n1 nt a:=⟨fun t x hx=>(hT.tmps t x hx).mono hn1 q1,hT.size,hT.defers⟩
 exact hT'.put hlt (by simp only [RelV];exact ⟨[],rfl,by simp only [RelVs]⟩)
end
section
variable {P:Program} [Env P] {w0:Base} {ops:Array Oper} {tb:List (Nat×TyI)} {o:Oper} {rest:List Oper} {T:List (Nat×AV)} {m:List (Nat×Option Row)} {nx nt d:Nat} {Q:Exit→St→Prop}
theorem b9U [EnvAt P w0] {f:FuncId} {fn:Func} {c:Code} {as:Array Operand} {ts:Array TypeId} {args:List AV} {n:Nat} (hd:o.dst=some d) (hlt:Nat.blt d nt=true) (ho:o.op=.call { callee:=.value (.func f),args:=as,argTypes:=ts })
 (hf:P.funcs[f]?=some fn) (hb:fn.body=some c) (hname:(fn.name == "runtime.NumGoroutine")=false) (hl:fn.results=#[]) (hn:fn.ntmps=n) (hlen:Nat.ble args.length n=true) (ha:evL T as.toList []=some args)
 (h:∃ m1 n1,(∀ b:Base,[EnvAt P b]→b.n0=nx→W P b c ⟨a4w args 0,m,nx,n⟩ (c3x m1 n1))∧Nat.ble nx n1=true∧WL P w0 ops rest ⟨(d,.tup []) :: T,m1,n1,nt⟩ Q):WX P w0 ops o rest ⟨T,m,nx,nt⟩ Q:=by
 obtain ⟨m1,n1,h1,h2,h3⟩:=h
 exact c2c m1 n1 hd hlt ho hf hb hname hl hn hlen ha h2 h1 h3
end
def CILe (c c':CI):Prop:=c=c'∨∃ e sz ys f,c=.l e sz ys f∧c'=.l e sz ys true
def FlR (a b:List CI):Prop:=a.length=b.length∧∀ (k:Nat) (c':CI),b[k]?=some c'→∃ c,a[k]?=some c∧CILe c c'
def FlLe (x y:List (List CI)):Prop:=x.length=y.length∧∀ (i:Nat) (b:List CI),y[i]?=some b→∃ a,x[i]?=some a∧FlR a b
theorem FlR.nil:FlR [] []:=⟨rfl,fun k c' h=>by simp at h⟩
theorem FlR.cons {c c':CI} {a b:List CI} (h:CILe c c') (hr:FlR a b):FlR (c :: a) (c' :: b):=⟨by simp [hr.1],fun k d hd=>by
 match k with
 | 0=>exact ⟨c,rfl,by simp at hd;subst hd;exact h⟩
 | k+1=>exact hr.2 k d (by simpa using hd)⟩
theorem FlR.rfl' {a:List CI}:FlR a a:=⟨rfl,fun k c h=>⟨c,h,.inl rfl⟩⟩
theorem CILe.s {c:CI}:CILe c c:=.inl rfl
theorem CILe.t {e sz:Nat} {ys:List (List Value)} {f:Bool}:CILe (.l e sz ys f) (.l e sz ys true):=.inr ⟨e,sz,ys,f,rfl,rfl⟩
theorem FlLe.refl {x:List (List CI)}:FlLe x x:=⟨rfl,fun i b h=>⟨b,h,FlR.rfl'⟩⟩
theorem FlLe.map {α:Type} {f g:α→List CI} {xs:List α} (h:∀ x,FlR (f x) (g x)):FlLe (xs.map f) (xs.map g):=⟨by simp,fun i b hb=>by
 rw [List.getElem?_map] at hb
 obtain ⟨x,hx,rfl⟩:=Option.map_eq_some_iff.1 hb
 exact ⟨f x,by rw [List.getElem?_map,hx];rfl,h x⟩⟩
theorem FlLe.set {x y:List (List CI)} {a b:List CI} {i:Nat} (h:FlLe x y) (hr:FlR a b):FlLe (x.set i a) (y.set i b):=⟨by simp [h.1],fun j c hc=>by
 by_cases e:i=j
 ·subst e
  have hl:i < y.length:=by
   rcases Nat.lt_or_ge i y.length with g | g
   ·exact g
   ·rw [List.getElem?_eq_none (by simpa using g)] at hc;cases hc
  rw [List.getElem?_set_self (by simpa using hl)] at hc
  cases hc
  exact ⟨a,by rw [List.getElem?_set_self (by rw [h.1];exact hl)],hr⟩
 ·rw [List.getElem?_set_ne e] at hc ⊢
  exact h.2 j c hc⟩
theorem FlLe.trans {x y z:List (List CI)} (h:FlLe x y) (h':FlLe y z):FlLe x z:=⟨h.1.trans h'.1,fun i b hb=>by
 obtain ⟨a,ha,hr⟩:=h'.2 i b hb
 obtain ⟨a2,ha2,hr2⟩:=h.2 i a ha
 refine ⟨a2,ha2,hr2.1.trans hr.1,fun k c hc=>?_⟩
 obtain ⟨d,hd,hd'⟩:=hr.2 k c hc
 obtain ⟨d2,hd2,hd2'⟩:=hr2.2 k d hd
 refine ⟨d2,hd2,?_⟩
 rcases hd2' with rfl | ⟨e,sz,ys,f,rfl,rfl⟩
 ·exact hd'
 ·rcases hd' with rfl | ⟨e2,sz2,ys2,f2,q1,rfl⟩
  ·exact .inr ⟨e,sz,ys,f,rfl,rfl⟩
  ·cases q1;exact .inr ⟨e,sz,ys,f,rfl,rfl⟩⟩
theorem FlLe.nget {x y:List (List CI)} (h:FlLe x y) {i k:Nat} {c':CI} (hc:A6 y i k=some c'):∃ c,A6 x i k=some c∧CILe c c':=by
 simp only [Go.Rf.A6] at hc ⊢
 cases hb:y[i]? with
 | none=>rw [hb] at hc;cases hc
 | some b =>
  rw [hb] at hc
  obtain ⟨a,ha,hr⟩:=h.2 i b hb
  obtain ⟨c,h1,h2⟩:=hr.2 k c' hc
  exact ⟨c,by rw [ha];exact h1,h2⟩
section
variable {w0:Base} {T:List (Nat×AV)} {m:List (Nat×Option Row)} {nx nt:Nat}
theorem Gh.nestF {id e sz:Nat} {yss:List (List CI)} (yss':List (List CI)) (hm:mem m id=some (.nest e sz yss [])) (h:FlLe yss yss'):Gh w0 ⟨T,m,nx,nt⟩ ⟨T,(id,some (.nest e sz yss' [])) :: m,nx,nt⟩:=by
 intro ρ a w hT hC
 obtain ⟨hlt,cells,hN,hop⟩:=hC.nestC hm
 obtain ⟨n1,n2,n3,n4,n5⟩:=hN
 refine ⟨ρ,hT,hC.retell hm (row':=.nest e sz yss' []) ⟨cells,⟨by rw [← h.1];exact n1,by rw [← h.1];exact n2,n3,fun cs hcs=>?_,fun i k c hc=>?_⟩,fun q hq=>by cases hq⟩ fun p b hb=>?_⟩
 ·obtain ⟨i,hi,rfl⟩:=List.getElem_of_mem hcs
  obtain ⟨a',ha,hr⟩:=h.2 i _ (List.getElem?_eq_getElem hi)
  rw [← hr.1]
  obtain ⟨hi2,e2⟩:=List.getElem?_eq_some_iff.1 ha
  rw [← e2]
  exact n4 _ (List.getElem_mem hi2)
 ·obtain ⟨d,hd,hle⟩:=h.nget hc
  obtain ⟨u,hu,hr⟩:=n5 i k d hd
  refine ⟨u,hu,?_⟩
  rcases hle with rfl | ⟨e1,sz1,ys,f,rfl,rfl⟩
  ·exact hr
  ·exact ⟨OwnR.gen hr.1,hr.2⟩
 ·have hb:A5 w (ρ id) sz yss' p=some b:=hb
  show A5 w (ρ id) sz yss p=some b
  unfold A5 at hb ⊢
  cases hc:Go.Rf.A6 yss' p.1 p.2 with
  | none=>rw [hc] at hb;cases hb
  | some c =>
   rw [hc] at hb
   obtain ⟨d,hd,hle⟩:=h.nget hc
   rw [hd]
   rcases hle with rfl | ⟨e1,sz1,ys,f,rfl,rfl⟩
   ·exact hb
   ·exact hb
end
section
variable {w0:Base} {T:List (Nat×AV)} {m:List (Nat×Option Row)} {nx nt:Nat}
end
theorem Ctr.argsTo {P:Program} [Env P] {f:FuncId} {args args':List AV} {res:Res} (h:Ctr P f args res) (ha:∀ w vs,RelVs w noRho 0 args' vs→RelVs w noRho 0 args vs):Ctr P f args' res:=⟨h.callable,fun w vs he hv=>h.calls w vs he (ha w vs hv)⟩
theorem NReadsAt.fl {w:World} {sz:Nat} {yss yss':List (List CI)} {y:Value} (hf:FlLe yss yss') (h:NReadsAt w sz yss' y):NReadsAt w sz yss y:=by
 obtain ⟨A,cap,he,hc,hl,hr⟩:=h
 refine ⟨A,cap,by rw [he,hf.1],by rw [hf.1];exact hc,fun cs hcs=>?_,fun h0=>?_⟩
 ·obtain ⟨i,hi,rfl⟩:=List.getElem_of_mem hcs
  have hi':i < yss'.length:=by rw [← hf.1];exact hi
  obtain ⟨a,ha,hr⟩:=hf.2 i _ (List.getElem?_eq_getElem hi')
  rw [List.getElem?_eq_getElem hi] at ha
  cases ha
  rw [hr.1]
  exact hl _ (List.getElem_mem hi')
 ·obtain ⟨ad,h1,h2,h3⟩:=hr (by rw [← hf.1];exact h0)
  refine ⟨ad,h1,h2,fun i k c hc=>?_⟩
  have:∃ c',Go.Rf.A6 yss' i k=some c'∧CILe c c':=by
   simp only [Go.Rf.A6] at hc ⊢
   cases hb:yss[i]? with
   | none=>rw [hb] at hc;cases hc
   | some b =>
    rw [hb] at hc
    have hi:i < yss'.length:=by rw [← hf.1];exact (List.getElem?_eq_some_iff.1 hb).1
    obtain ⟨a,ha,hr⟩:=hf.2 i _ (List.getElem?_eq_getElem hi)
    rw [hb] at ha
    cases ha
    have hc:b[k]?=some c:=hc
    have hk:k < (yss'[i]).length:=by rw [← hr.1];exact (List.getElem?_eq_some_iff.1 hc).1
    obtain ⟨c2,h1,h2⟩:=hr.2 k _ (List.getElem?_eq_getElem hk)
    rw [hc] at h1
    cases h1
    exact ⟨_,by rw [List.getElem?_eq_getElem hi];exact List.getElem?_eq_getElem hk,h2⟩
  obtain ⟨c',hc',hle⟩:=this
  obtain ⟨u,q1,q2,q3⟩:=h3 i k c' hc'
  refine ⟨u,q1,q2,?_⟩
  rcases hle with rfl | ⟨e1,sz1,ys,f,rfl,rfl⟩
  ·exact q3
  ·exact q3
def a1K (eS eW:Nat) (x:Ifc):List CI:=[.v (.int .i64 x.ma),.l 3 1 (x.st.map r9),.l eS 3 (x.qu.sl.map j8),.l eW 2 (x.qu.wa.map l1) true]
theorem flI {eS eW:Nat} (x:Ifc):FlR (s6 eS eW x) (a1K eS eW x):=.cons .s (.cons .s (.cons .s (.cons .t .nil)))
theorem flM {eS eW:Nat} {xs:List Ifc}:FlLe (xs.map (s6 eS eW)) (xs.map (a1K eS eW)):=FlLe.map flI
theorem c3y {w:World} {ρ:Nat→Value} {nx:Nat} {a b c:AV} {yss yss':List (List CI)} {rest:List AV} (hf:FlLe yss yss'):∀ vs,RelVs w ρ nx (.agg [a,b,c,.nst none 4 yss'] :: rest) vs→RelVs w ρ nx (.agg [a,b,c,.nst none 4 yss] :: rest) vs:=by
 intro vs h
 simp only [RelVs,RelV] at h ⊢
 obtain ⟨y,ys',rfl,⟨zs,rfl,y0,t0,rfl,h0,y1,t1,rfl,h1,y2,t2,rfl,h2,y3,t3,rfl,⟨h3,h4⟩,rfl⟩,hr⟩:=h
 exact ⟨_,_,rfl,⟨_,rfl,_,_,rfl,h0,_,_,rfl,h1,_,_,rfl,h2,_,_,rfl,⟨by simp,NReadsAt.fl hf h4⟩,rfl⟩,hr⟩
theorem a0p {α:Type} [Inhabited α] {xs:List α} {f:α→List CI} {i:Nat} {c c':List CI} (hi:i < xs.length) (hc:c'=f (xs.getD i default)):((xs.map f).set i c).set i c'=xs.map f:=by
 subst hc
 rw [List.set_set]
 apply List.ext_getElem?
 intro j
 by_cases e:i=j
 ·subst e
  rw [List.getElem?_set_self (by simpa using hi),List.getElem?_map,List.getD_eq_getElem?_getD,List.getElem?_eq_getElem hi];rfl
 ·rw [List.getElem?_set_ne e]
section
variable {P:Program} [Env P] {w0:Base} {ops:Array Oper} {tb:List (Nat×TyI)} {o:Oper} {rest:List Oper} {T:List (Nat×AV)} {m:List (Nat×Option Row)} {nx nt d:Nat} {Q:Exit→St→Prop} {c:Code}
theorem b9V {t sz:Nat} {ys:List (List Value)} (ht:look t T=some (.lst sz ys)) (h:∀ y,WL P w0 ops rest ⟨(t,.pin y sz ys) :: T,m,nx,nt⟩ Q):WL P w0 ops rest ⟨T,m,nx,nt⟩ Q:=by
 intro ρ a w hT hC
 have h1:=hT.tmps t _ ht
 simp only [RelV] at h1
 refine h (a.tmps.getD t undef) ρ a w ⟨fun i x hi=>?_,hT.size,hT.defers⟩ hC
 by_cases e:i=t
 ·subst e
  rw [q9] at hi
  cases hi
  simp only [RelV]
  exact ⟨trivial,h1⟩
 ·rw [l3 (fun e'=>e e'.symm)] at hi
  exact hT.tmps i x hi
theorem a9v {w0:World} {ρ:Nat→Value} {nx:Nat} {u:Nat→Value}:∀ {cs:List AV} {us:List Value} {k:Nat} {acc rs:List AV} {acc':List Value},a5x cs u k acc=some rs→RelVs w0 ρ nx cs us→(∀ j y,us[j]?=some y→(∃ A l c,y=.slice A l c)→u (k+j)=y)→RelVs w0 ρ nx acc.reverse acc'→RelVs w0 ρ nx rs (acc'++us)
 | [],us,k,acc,rs,acc',h,hr,_,ha=>by
  simp [a5x,E8] at h
  simp only [RelVs] at hr
  subst h;subst hr
  simpa using ha
 | x :: cs,_,k,acc,rs,acc',h,hr,hu,ha=>by
  simp only [RelVs] at hr
  obtain ⟨y,us,rfl,h1,h2⟩:=hr
  have h0:(∃ A l c,y=.slice A l c)→u k=y:=fun hs=>by simpa using hu 0 y rfl hs
  have key:∀ (a:AV),RelV w0 ρ nx a y→a5x cs u (Nat.succ k) (a :: acc)=some rs→RelVs w0 ρ nx rs (acc'++y :: us):=fun a hy h'=>by
   have:=a9v h' h2 (fun j y hj=>by rw [show Nat.succ k+j=k+(j+1) by omega];exact hu (j+1) y (by simpa using hj)) (acc':=acc'++[y]) (by
    rw [List.reverse_cons]
    refine RelVs.append _ ha ?_
    simp only [RelVs]
    exact ⟨_,_,rfl,hy,rfl⟩)
   simpa using this
  cases x<;>simp only [a5x] at h
  case lst sz ys=>exact key _ (by simp only [RelV] at h1 ⊢;obtain ⟨A,c,e,_⟩:=id h1;exact ⟨(h0 ⟨_,_,_,e⟩).symm,h1⟩) h
  case nst z sz ys=>exact key _ (by simp only [RelV] at h1 ⊢;obtain ⟨_,A,c,e,_⟩:=id h1;exact ⟨fun v hv=>by cases hv;exact (h0 ⟨_,_,_,e⟩).symm,h1.2⟩) h
  all_goals exact key _ h1 h
theorem c2d (t:Nat) {cs:List AV} (ht:look t T=some (.agg cs)) {rs:(Nat→Value)→List AV} (hr:∀ u,a5x cs u 0 []=some (rs u)) (h:∀ u:Nat→Option Addr×Nat×Nat,W P w0 c ⟨(t,.agg (rs fun j=>.slice (u j).1 (u j).2.1 (u j).2.2)) :: T,m,nx,nt⟩ Q):W P w0 c ⟨T,m,nx,nt⟩ Q:=by
 intro ρ a w hT hC
 have h1:=hT.tmps t _ ht
 simp only [RelV] at h1
 obtain ⟨us,he,h1⟩:=h1
 let p:Value→Option Addr×Nat×Nat:=fun v=>match v with
  | .slice A l c=>(A,l,c)
  | _=>(none,0,0)
 let u:Nat→Option Addr×Nat×Nat:=fun i=>p (us.getD i undef)
 refine h u ρ a w ⟨fun i x hi=>?_,hT.size,hT.defers⟩ hC
 by_cases e:i=t
 ·subst e
  rw [q9] at hi
  cases hi
  simp only [RelV]
  have key:∀ j y,us[j]?=some y→(∃ A l c,y=.slice A l c)→(fun j=>Value.slice (u j).1 (u j).2.1 (u j).2.2) (0+j)=y:=fun j y hj hs=>by
   obtain ⟨A,l,c,rfl⟩:=hs
   simp only [u,p,Nat.zero_add,List.getD_eq_getElem?_getD,hj,Option.getD_some]
  have:=a9v (acc':=[]) (hr fun j=>.slice (u j).1 (u j).2.1 (u j).2.2) h1 key (by simp [RelVs])
  exact ⟨us,he,by simpa using this⟩
 ·rw [l3 (fun e'=>e e'.symm)] at hi
  exact hT.tmps i x hi
end
def a4L (x:Ifc):List CI:=[.x,.x,.x,.x]
section
variable {w0:Base} {T:List (Nat×AV)} {m:List (Nat×Option Row)} {nx nt:Nat}
theorem Gh.nestX {id e:Nat} {yss:List (List CI)} (xs:List Ifc) (hm:mem m id=some (.nest e 4 yss [])) (h:yss.length=xs.length):Gh w0 ⟨T,m,nx,nt⟩ ⟨T,(id,some (.nest e 4 (xs.map a4L) [])) :: m,nx,nt⟩:=by
 intro ρ a w hT hC
 obtain ⟨hlt,cells,hN,hop⟩:=hC.nestC hm
 obtain ⟨n1,n2,n3,n4,n5⟩:=hN
 have hx:∀ {i k:Nat} {c:CI},A6 (xs.map a4L) i k=some c→c=.x∧i < xs.length∧k < 4:=fun {i k c} hc=>by
  simp only [A6,List.getElem?_map] at hc
  cases hi:xs[i]? with
  | none=>rw [hi] at hc;cases hc
  | some x =>
   rw [hi] at hc
   have hc:(a4L x)[k]?=some c:=hc
   refine ⟨?_,(List.getElem?_eq_some_iff.1 hi).1,(List.getElem?_eq_some_iff.1 hc).1⟩
   match k,hc with
   | 0,hc=>cases hc;rfl
   | 1,hc=>cases hc;rfl
   | 2,hc=>cases hc;rfl
   | 3,hc=>cases hc;rfl
 refine ⟨ρ,hT,hC.retell hm (row':=.nest e 4 (xs.map a4L) []) ⟨cells,⟨by rw [List.length_map,← h];exact n1,by rw [List.length_map,← h];exact n2,n3,fun cs hcs=>?_,fun i k c hc=>?_⟩,fun q hq=>by cases hq⟩ fun p b hb=>?_⟩
 ·obtain ⟨x,_,rfl⟩:=List.mem_map.1 hcs;rfl
 ·obtain ⟨rfl,hi,hk⟩:=hx hc
  have hi':i < cells.length:=by rw [n2,h];exact hi
  have hk':k < (cells[i]).length:=by rw [(n3 _ (List.getElem_mem hi')).1];exact hk
  exact ⟨(cells[i])[k],by simp only [A6,List.getElem?_eq_getElem hi'];exact List.getElem?_eq_getElem hk',trivial⟩
 ·have hb:A5 w (ρ id) 4 (xs.map a4L) p=some b:=hb
  exfalso
  unfold A5 at hb
  cases hc:A6 (xs.map a4L) p.1 p.2 with
  | none=>rw [hc] at hb;cases hb
  | some c=>rw [hc] at hb;obtain ⟨rfl,_⟩:=hx hc;cases hb
end
end Go.Rf
namespace Go.Rf
open Go
theorem b8g {sl:List Slot} {q:Int} (h0:0≤u7 sl q) (h:(sl.getD (u7 sl q).toNat default).s=3):edS sl q=sl.set (u7 sl q).toNat ⟨1,(sl.getD (u7 sl q).toNat default).q,(sl.getD (u7 sl q).toNat default).p⟩:=by rw [b8d h,(c3p h0).1]
theorem c0G {x:Ifc} (h:IfG x) (h0:x.st.length≠0):0≤u7 x.qu.sl (N1 x)∧P6 (x.qu.sl.getD (u7 x.qu.sl (N1 x)).toNat default)=true:=⟨a5N (h.f.st _ (a3Z h0)),b9R h.f.qu.sl (h.f.st _ (a3Z h0))⟩
theorem b0Y {x:Ifc} (h0:x.st.length≠0):x.st.getD ((x.st.length:Int) - 1).toNat default=N1 x:=by
 rw [show ((x.st.length:Int) - 1).toNat=x.st.length - 1 by omega];rfl
theorem c2e {α β:Type} [Inhabited α] {l:List α} {f:α→β} {i:Nat} (h:i < l.length):(l.map f)[i]?=some (f (l.getD i default)):=by simp [h]
theorem b3h {xs:List Int}:List.take (((xs.length:Int) - 1).toNat - Int.toNat 0) (List.drop (Int.toNat 0) (xs.map r9))=(xs.take (xs.length - 1)).map r9:=by
 rw [show ((xs.length:Int) - 1).toNat - Int.toNat 0=xs.length - 1 from by simp,show List.drop (Int.toNat 0) (xs.map r9)=xs.map r9 from rfl,List.map_take]
def a0q (x:Ifc):Ifc×Int×Bool:=if x.st.length=0 then (noI,0,false) else (a9t x,N1 x,true)
theorem b43 {x:Ifc} (h:x.st.length=0):a0q x=(noI,0,false):=if_pos h
theorem b44 {x:Ifc} (h:x.st.length≠0):a0q x=(a9t x,N1 x,true):=if_neg h
theorem c4q {m:Mach} {sk sq sv:Int} {c:Nat} (h:sk=3):stM m ⟨sk,sq,(c:Int),sv⟩=(⟨m.rs,m.en,m.ra,m.cp.set c (U7 (m.cp.getD c default)).1⟩,(U7 (m.cp.getD c default)).2.1,(U7 (m.cp.getD c default)).2.2):=by
 cases hk:okT (m.cp.getD c default)
 ·rw [c4m h hk,b4O hk]
 ·rw [sm3 h hk,b4N hk]
theorem c4r {m:Mach} {sk sq sv:Int} {c:Nat} (h:sk=4):stM m ⟨sk,sq,(c:Int),sv⟩=(⟨m.rs,m.en,m.ra,m.cp.set c (a0q (m.cp.getD c default)).1⟩,(a0q (m.cp.getD c default)).2.1,(a0q (m.cp.getD c default)).2.2):=by
 by_cases hk:(m.cp.getD c default).st.length=0
 ·rw [c4n h hk,b43 hk]
 ·rw [sm4 h hk,b44 hk]
theorem X5 {eS eW:Nat} {xs:List Ifc} {c:Nat} {x:Ifc} {row:List CI} (h:FlR row (a1K eS eW x)):FlLe ((xs.map (a1K eS eW)).set c row) ((xs.set c x).map (a1K eS eW)):=by rw [List.map_set];exact FlLe.refl.set h
theorem c2f {eS eW:Nat} {xs:List Ifc} {c:Nat} {x:Ifc} {row:List CI} (h:row=s6 eS eW x):(xs.map (s6 eS eW)).set c row=(xs.set c x).map (s6 eS eW):=by rw [List.map_set,h]
theorem a9w {x:Ifc} (h:IfG x) (h0:x.st.length≠0):0≤N1 x∧N1 x≤7:=by
 obtain ⟨j,h1,h2,h3⟩:=(N0 4).mp ((a3Y h.f.qu.sl.len).mp (h.f.st _ (a3Z h0)))
 rw [← h3]
 exact (h.f.qu.sl.ok j h1 (by rcases x7.mp h2 with g | g<;>omega)).2.1
theorem b1W {x:Ifc} (h:IfG x) (hk:okT x=true):0≤tkI x.qu.sl∧tkI x.qu.sl≤7:=b7E h.f.qu.sl (a0l.mp hk).1
def X6 (m:Mach) (k:Nat) (c:Int):ByteArray×Bool :=
 if m8 c 0 ((m.cp.length:Int) - 1)=false then (⟨#[]⟩,false)
 else if k=8 then (a4I (D6 (m.cp.getD c.toNat default).qu),true)
 else if k=9 then (a4I (m.cp.getD c.toNat default).st,true)
 else if k=11 then (a4k (m.cp.getD c.toNat default).qu.sl,true)
 else if k=10 then (if D9 m.rs (X4 m) c.toNat=-1 then b28 else t7 (D9 m.rs (X4 m) c.toNat),true)
 else (⟨#[]⟩,false)
abbrev c2g:ByteArray:=⟨#[121,101,115]⟩
abbrev noB:ByteArray:=⟨#[110,111]⟩
abbrev okB:ByteArray:=⟨#[111,107]⟩
abbrev qmB:ByteArray:=⟨#[63]⟩
def a4M (m:Mach) (k:Nat) (l:List Int):ByteArray×Bool :=
 if k=1 then (a4I (raN m),true) else if k=2 then (if a63 m then c2g else noB,true) else X6 m k (l.getD 0 default)
section
variable {m:Mach} {k:Nat} {c:Int} {l:List Int}
theorem b8h (h:k=1):a4M m k l=(a4I (raN m),true):=by unfold a4M;rw [if_pos h]
theorem b45 (h:k=2) (hi:a63 m=true):a4M m k l=(c2g,true):=by unfold a4M;rw [if_neg (by omega),if_pos h,if_pos hi]
theorem b46 (h:k=2) (hi:a63 m=false):a4M m k l=(noB,true):=by unfold a4M;rw [if_neg (by omega),if_pos h,if_neg (by simp [hi])]
theorem b8i (h1:k≠1) (h2:k≠2):a4M m k l=X6 m k (l.getD 0 default):=by unfold a4M;rw [if_neg h1,if_neg h2]
theorem b47 (h:m8 c 0 ((m.cp.length:Int) - 1)=false):X6 m k c=(⟨#[]⟩,false):=by unfold X6;rw [if_pos h]
theorem b48 (h:m8 c 0 ((m.cp.length:Int) - 1)=true) (hk:k=8):X6 m k c=(a4I (D6 (m.cp.getD c.toNat default).qu),true):=by unfold X6;rw [if_neg (by simp [h]),if_pos hk]
theorem b49 (h:m8 c 0 ((m.cp.length:Int) - 1)=true) (hk:k=9):X6 m k c=(a4I (m.cp.getD c.toNat default).st,true):=by unfold X6;rw [if_neg (by simp [h]),if_neg (by omega),if_pos hk]
theorem b3i (h:m8 c 0 ((m.cp.length:Int) - 1)=true) (hk:k=11):X6 m k c=(a4k (m.cp.getD c.toNat default).qu.sl,true):=by unfold X6;rw [if_neg (by simp [h]),if_neg (by omega),if_neg (by omega),if_pos hk]
theorem b0Z (h:m8 c 0 ((m.cp.length:Int) - 1)=true) (hk:k=10) (hn:D9 m.rs (X4 m) c.toNat=-1):X6 m k c=(b28,true):=by unfold X6;rw [if_neg (by simp [h]),if_neg (by omega),if_neg (by omega),if_neg (by omega),if_pos hk,if_pos hn]
theorem b00 (h:m8 c 0 ((m.cp.length:Int) - 1)=true) (hk:k=10) (hn:¬ D9 m.rs (X4 m) c.toNat=-1):X6 m k c=(t7 (D9 m.rs (X4 m) c.toNat),true):=by unfold X6;rw [if_neg (by simp [h]),if_neg (by omega),if_neg (by omega),if_neg (by omega),if_pos hk,if_neg hn]
theorem b9W (h1:k≠8) (h2:k≠9) (h3:k≠11) (h4:k≠10):X6 m k c=(⟨#[]⟩,false):=by
 unfold X6
 by_cases h:m8 c 0 ((m.cp.length:Int) - 1)=false
 ·rw [if_pos h]
 ·rw [if_neg h,if_neg h1,if_neg h2,if_neg h3,if_neg h4]
end
theorem c2h {k:Nat} {l:List Int} (h:(a0o k l).2=false):k≠0∧k≠3∧k≠4∧k≠5∧k≠6∧k≠7∧k≠12:=by
 refine ⟨?_,?_,?_,?_,?_,?_,?_⟩<;>(rintro rfl;simp [a0o] at h)
theorem b9X {w:ByteArray} {l:List Int} (hl:a1J (m3 w)=l.length) (h1:¬ m3 w=1) (h2:¬ m3 w=2) (h:m3 w≠0∧m3 w≠3∧m3 w≠4∧m3 w≠5∧m3 w≠6∧m3 w≠7∧m3 w≠12):l.length=1:=by
 have:=@a4J w
 by_cases h3:13≤m3 w
 ·rw [a4K h3] at hl;omega
 ·rw [O8 (by omega)] at hl;omega
theorem b9Y {w:ByteArray} {l:List Int} (hl:a1J (m3 w)=l.length) (h1:¬ m3 w=1) (h2:¬ m3 w=2) (h:m3 w≠0∧m3 w≠3∧m3 w≠4∧m3 w≠5∧m3 w≠6∧m3 w≠7∧m3 w≠12) (h5:¬ m3 w=8) (h6:¬ m3 w=9) (h7:¬ m3 w=11):m3 w=10:=by
 have:=@a4J w
 by_cases h3:13≤m3 w
 ·rw [a4K h3] at hl;omega
 ·omega
theorem b8j {q:Que} (h:QF q):∀ i,i < (D6 q).length→a1c ((D6 q).getD i default):=fun i hi=>by have:=b1J h hi;exact ⟨by omega,by omega⟩
theorem b8k {x:Ifc} (h:IfF x):∀ i,i < x.st.length→a1c (x.st.getD i default):=fun i hi=>by
 have hm:x.st.getD i default∈x.st:=by rw [List.getD_eq_getElem?_getD,List.getElem?_eq_getElem hi];exact List.getElem_mem hi
 obtain ⟨j,h1,h2,h3⟩:=(N0 4).mp ((a3Y h.qu.sl.len).mp (h.st _ hm))
 have hl:=h.qu.sl.len
 have:=h.qu.sl.nums (i:=j) (by omega) (by rcases x7.mp h2 with g | g<;>omega)
 exact ⟨by omega,by omega⟩
theorem b5a {m:Mach}:(X4 m).ma.length=m.cp.length:=by unfold X4;simp
end Go.Rf
namespace Go.Rf
open Go Go.RowKit
theorem a64 {k:Int} {x:Rec} (h0:0≤k) (h1:k≤9223372036854775807) (h:E2 x=true):(a02 k x).size≤423:=by
 have hb:=a3M h0 h1 h
 have hs:=a1V (s:=G7 k x)
 have e1:(⟨#[10]⟩:ByteArray).size=1:=rfl
 rw [a02,ByteArray.size_append]
 omega
theorem a9x {w:World} {y:Value} {sz:Nat} {yss yss':List (List CI)} {p:Nat×Nat} {b:Nat} (h:FlLe yss yss') (hb:A5 w y sz yss' p=some b):A5 w y sz yss p=some b:=by
 unfold A5 at hb ⊢
 cases hc:Go.Rf.A6 yss' p.1 p.2 with
 | none=>rw [hc] at hb;cases hb
 | some c =>
  rw [hc] at hb
  obtain ⟨d,hd,hle⟩:=h.nget hc
  rw [hd]
  rcases hle with rfl | ⟨e1,sz1,ys,f,rfl,rfl⟩
  ·exact hb
  ·exact hb
theorem NestR.fl {B:Nat} {w:World} {y:Value} {e sz:Nat} {yss yss':List (List CI)} (h:FlLe yss yss') (hn:NestR B w y e sz yss):NestR B w y e sz yss':=by
 obtain ⟨cells,⟨n1,n2,n3,n4,n5⟩,hi⟩:=hn
 refine ⟨cells,⟨by rw [← h.1];exact n1,by rw [← h.1];exact n2,n3,fun cs hcs=>?_,fun i k c hc=>?_⟩,fun p b hb=>?_⟩
 ·obtain ⟨i,hi,rfl⟩:=List.getElem_of_mem hcs
  obtain ⟨a',ha,hr⟩:=h.2 i _ (List.getElem?_eq_getElem hi)
  rw [← hr.1]
  obtain ⟨hi2,e2⟩:=List.getElem?_eq_some_iff.1 ha
  rw [← e2]
  exact n4 _ (List.getElem_mem hi2)
 ·obtain ⟨d,hd,hle⟩:=h.nget hc
  obtain ⟨u,hu,hr⟩:=n5 i k d hd
  refine ⟨u,hu,?_⟩
  rcases hle with rfl | ⟨e1,sz1,ys,f,rfl,rfl⟩
  ·exact hr
  ·exact ⟨OwnR.gen hr.1,hr.2⟩
 ·obtain ⟨h1,h2⟩:=hi p b (a9x h hb)
  exact ⟨h1,fun p' hp'=>h2 p' (a9x h hp')⟩
inductive RCLe:RC→RC→Prop
 | s {r:RC}:RCLe r r
 | n {e sz:Nat} {yss yss':List (List CI)} (h:FlLe yss yss'):RCLe (.ne e sz yss) (.ne e sz yss')
inductive RCsLe:List RC→List RC→Prop
 | nil:RCsLe [] []
 | cons {r r':RC} {a b:List RC} (h:RCLe r r') (hr:RCsLe a b):RCsLe (r :: a) (r' :: b)
theorem RCLe.rel {B:Nat} {w:World} {r r':RC} {y:Value} (h:RCLe r r') (hr:RCRel B w r y):RCRel B w r' y:=by
 cases h with
 | s=>exact hr
 | n h=>exact NestR.fl h hr
theorem RCLe.foot {w:World} {r r':RC} {y:Value} {b:Nat} (h:RCLe r r') (hr:a24 w r' y b):a24 w r y b:=by
 cases h with
 | s=>exact hr
 | n h =>
  simp only [a24] at hr ⊢
  rcases hr with hr | ⟨p,hp⟩
  ·exact .inl hr
  ·exact .inr ⟨p,a9x h hp⟩
theorem RCsLe.foot {w:World} {b:Nat}:∀ {r r':List RC} {ys:List Value},RCsLe r r'→a0u w r' ys b→a0u w r ys b
 | _,_,ys,.nil,hr=>by cases ys<;>simp [a0u] at hr
 | _,_,[],.cons h hr,g=>by simp [a0u] at g
 | _,_,y :: ys,.cons h hr,g=>by
  simp only [a0u] at g ⊢
  rcases g with g | g
  ·exact .inl (h.foot g)
  ·exact .inr (RCsLe.foot hr g)
theorem RCsLe.rel {B:Nat} {w:World}:∀ {r r':List RC} {ys:List Value},RCsLe r r'→RCRels B w r ys→RCRels B w r' ys
 | _,_,ys,.nil,h=>h
 | _,_,ys,.cons h hr,g=>by
  simp only [RCRels] at g ⊢
  obtain ⟨y,ys',rfl,h1,h2,h3⟩:=g
  exact ⟨y,ys',rfl,h.rel h1,RCsLe.rel hr h2,fun b hb hf=>h3 b (h.foot hb) (hr.foot hf)⟩
theorem Ctr.shpTo {P:Program} [Env P] {f:FuncId} {args:List AV} {sg:Bool} {sh:List (Option Nat)} {rs rs':List RC} (h:Ctr P f args (.shp sg sh rs)) (hr:RCsLe rs rs'):Ctr P f args (.shp sg sh rs') :=
 ⟨h.callable,fun w vs he hv=>(h.calls w vs he hv).mono fun e w' ⟨v,h1,h2,h3⟩=>⟨v,h1,by
  simp only [ResRel] at h2 ⊢
  obtain ⟨ys,vs,g1,g2,g3⟩:=h2
  exact ⟨ys,vs,hr.rel g1,g2,g3⟩,h3⟩⟩
end Go.Rf
namespace Go.Rf
open Go
theorem c4s {w:World} {ρ:Nat→Value} {nx:Nat} {a b c d e f:AV} {yss yss':List (List CI)} {rest:List AV} (hf:FlLe yss yss'):∀ vs,RelVs w ρ nx (.agg [a,b,c,.nst none 4 yss',d,e,f] :: rest) vs→RelVs w ρ nx (.agg [a,b,c,.nst none 4 yss,d,e,f] :: rest) vs:=by
 intro vs h
 simp only [RelVs,RelV] at h ⊢
 obtain ⟨y,ys',rfl,⟨zs,rfl,y0,t0,rfl,h0,y1,t1,rfl,h1,y2,t2,rfl,h2,y3,t3,rfl,⟨h3,h4⟩,y4,t4,rfl,h5,y5,t5,rfl,h6,y6,t6,rfl,h7,rfl⟩,hr⟩:=h
 exact ⟨_,_,rfl,⟨_,rfl,_,_,rfl,h0,_,_,rfl,h1,_,_,rfl,h2,_,_,rfl,⟨by simp,NReadsAt.fl hf h4⟩,_,_,rfl,h5,_,_,rfl,h6,_,_,rfl,h7,rfl⟩,hr⟩
def wrd (s:ByteArray) (i:Nat):ByteArray:=(j2 s 32).getD i default
def wn (s:ByteArray):Nat:=(j2 s 32).length
def C7 (s:ByteArray):Nat→List Int
 | 0=>[]
 | i+1=>C7 s i++[nmN (wrd s (i+1))]
theorem a65 {s:ByteArray} {i:Nat}:C7 s (i+1)=C7 s i++[nmN (wrd s (i+1))]:=rfl
theorem a3t {s:ByteArray}:∀ {i:Nat},(C7 s i).length=i
 | 0=>rfl
 | i+1=>by rw [a65,List.length_append,a3t];rfl
theorem a9y {s:ByteArray} {b:Int}:∀ i,∀ x∈(spO s b i).1,x.size≤s.size
 | 0=>fun x hx=>by cases hx
 | i+1=>fun x hx=>by
  by_cases hb:r4 s i=b
  ·rw [F0 hb] at hx
   rcases List.mem_append.1 hx with h | h
   ·exact a9y i x h
   ·rw [List.mem_singleton.1 h];exact a6O
  ·rw [P4 hb] at hx
   exact a9y i x hx
theorem b8l {s:ByteArray} {i:Nat}:(wrd s i).size≤s.size:=by
 unfold wrd
 rw [List.getD_eq_getElem?_getD]
 cases h:(j2 s 32)[i]? with
 | none=>exact Nat.zero_le _
 | some x =>
  rcases List.mem_append.1 (List.mem_of_getElem? h) with h | h
  ·exact a9y _ x h
  ·show x.size≤_
   rw [List.mem_singleton.1 h];exact a6O
def E3 (s:ByteArray):Bool:=a1m (wn s - 1) (fun j=>nmK (wrd s (j+1)))
def B2 (s:ByteArray):List Int:=C7 s (wn s - 1)
theorem b6h {s:ByteArray}:(B2 s).length=wn s - 1:=a3t
theorem b8m {s:ByteArray} {i:Nat} (h:nmK (wrd s (i+1))=false) (hi:i < wn s - 1):E3 s=false:=a00 h hi
theorem b8n {s:ByteArray} {i:Nat} (h:∀ j,j < i→nmK (wrd s (j+1))=true) (hi:wn s - 1≤i):E3 s=true:=a2m h hi
theorem c2i {s:ByteArray} (h:wn s=1):s=wrd s 0:=by
 unfold wn at h
 cases hs:m5 s 32 with
 | false=>unfold wrd;rw [a8U hs];rfl
 | true =>
  rw [b2A hs,List.length_cons] at h
  have:=(R5 (s:=s7 s 32) (b:=32)).1
  omega
theorem a4N {m:Mach} {s:MStep} (h:(smT m s).2.2=true):(smT m s).2.1≠-1↔(s.k=3∨s.k=4):=by
 unfold smT at h ⊢
 split at h
 ·next hk =>
  rw [if_pos hk]
  simp only [b6g,Bool.and_eq_true] at hk
  obtain ⟨⟨h1,h2⟩,h3⟩:=hk
  have hM:=(maF h1).g
  show (stM m s).2.1≠-1↔_
  unfold stM at h3 ⊢
  by_cases k1:s.k=1
  ·rw [if_pos k1];simp;omega
  rw [if_neg k1] at h3 ⊢
  by_cases k2:s.k=2
  ·rw [if_pos k2];simp;omega
  rw [if_neg k2] at h3 ⊢
  have hin:(s.k=3∨s.k=4)→s.c.toNat < m.cp.length:=fun hk=>by
   unfold M6 at h2
   rcases hk with hk | hk<;>(simp [hk,m8] at h2;omega)
  by_cases k3:s.k=3
  ·rw [if_pos k3] at h3 ⊢
   have hI:=hM.ok _ (hin (.inl k3))
   split at h3
   ·next ho =>
    rw [if_pos ho]
    have:=b1W hI ho
    exact ⟨fun _=>.inl k3,fun _=>by show tkI _≠-1;omega⟩
   ·cases h3
  rw [if_neg k3] at h3 ⊢
  by_cases k4:s.k=4
  ·rw [if_pos k4] at h3 ⊢
   have hI:=hM.ok _ (hin (.inr k4))
   split at h3
   ·cases h3
   ·next ho =>
    rw [if_neg ho]
    have:=a9w hI ho
    exact ⟨fun _=>.inr k4,fun _=>by show N1 _≠-1;omega⟩
  rw [if_neg k4]
  by_cases k5:s.k=5
  ·rw [if_pos k5];simp;omega
  ·rw [if_neg k5];simp;omega
 ·cases h
theorem a3u {m:Mach} {s:MStep}:-1≤(smT m s).2.1∧(smT m s).2.1≤7:=by
 unfold smT
 split
 ·next hk =>
  simp only [b6g,Bool.and_eq_true] at hk
  obtain ⟨⟨h1,h2⟩,h3⟩:=hk
  have hM:=(maF h1).g
  show -1≤(stM m s).2.1∧(stM m s).2.1≤7
  have hin:(s.k=3∨s.k=4)→s.c.toNat < m.cp.length:=fun hk=>by
   unfold M6 at h2
   rcases hk with hk | hk<;>(simp [hk,m8] at h2;omega)
  unfold stM at h3 ⊢
  by_cases k1:s.k=1
  ·rw [if_pos k1];exact ⟨by dsimp only;omega,by dsimp only;omega⟩
  rw [if_neg k1] at h3 ⊢
  by_cases k2:s.k=2
  ·rw [if_pos k2];exact ⟨by dsimp only;omega,by dsimp only;omega⟩
  rw [if_neg k2] at h3 ⊢
  by_cases k3:s.k=3
  ·rw [if_pos k3] at h3 ⊢
   have hI:=hM.ok _ (hin (.inl k3))
   split at h3
   ·next ho =>
    rw [if_pos ho]
    have:=b1W hI ho
    exact ⟨by show -1≤tkI _;omega,by show tkI _≤7;omega⟩
   ·cases h3
  rw [if_neg k3] at h3 ⊢
  by_cases k4:s.k=4
  ·rw [if_pos k4] at h3 ⊢
   have hI:=hM.ok _ (hin (.inr k4))
   split at h3
   ·cases h3
   ·next ho =>
    rw [if_neg ho]
    have:=a9w hI ho
    exact ⟨by show -1≤N1 _;omega,by show N1 _≤7;omega⟩
  rw [if_neg k4]
  by_cases k5:s.k=5
  ·rw [if_pos k5];exact ⟨by dsimp only;omega,by dsimp only;omega⟩
  ·rw [if_neg k5];exact ⟨by dsimp only;omega,by dsimp only;omega⟩
 ·exact ⟨by dsimp only;omega,by dsimp only;omega⟩
def b3j (m:Mach) (s:MStep):Mach×ByteArray×Bool:=if (smT m s).2.2 then ((smT m s).1,if (smT m s).2.1=-1 then okB else t7 (smT m s).2.1,true) else (m,⟨#[]⟩,false)
def a4O (m:Mach) (s:ByteArray):Mach×ByteArray×Bool :=
 if a1J (m3 (wrd s 0))=(wn s:Int) - 1 then
  if E3 s then
   if (a0o (m3 (wrd s 0)) (B2 s)).2 then b3j m (a0o (m3 (wrd s 0)) (B2 s)).1
   else (m,a4M m (m3 (wrd s 0)) (B2 s))
  else (m,⟨#[]⟩,false)
 else (m,⟨#[]⟩,false)
def D2 (m:Mach) (s:ByteArray):Mach×ByteArray:=((a4O m s).1,if (a4O m s).2.2 then (a4O m s).2.1 else qmB)
section
variable {m:Mach} {s:ByteArray}
theorem b8o (h:¬ a1J (m3 (wrd s 0))=(wn s:Int) - 1):a4O m s=(m,⟨#[]⟩,false):=by unfold a4O;rw [if_neg h]
theorem b8p (h:E3 s=false):a4O m s=(m,⟨#[]⟩,false):=by unfold a4O;split<;>simp [h]
theorem b8q (h1:a1J (m3 (wrd s 0))=(wn s:Int) - 1) (h2:E3 s=true) (h3:(a0o (m3 (wrd s 0)) (B2 s)).2=false):a4O m s=(m,a4M m (m3 (wrd s 0)) (B2 s)):=by unfold a4O;rw [if_pos h1,if_pos h2,if_neg (by simp [h3])]
theorem b8r (h1:a1J (m3 (wrd s 0))=(wn s:Int) - 1) (h2:E3 s=true) (h3:(a0o (m3 (wrd s 0)) (B2 s)).2=true):a4O m s=b3j m (a0o (m3 (wrd s 0)) (B2 s)).1:=by unfold a4O;rw [if_pos h1,if_pos h2,if_pos h3]
end
theorem a4P {m:Mach} {s:ByteArray} {x:ByteArray} {m':Mach} (h:a4O m s=(m',x,false)):D2 m s=(m',qmB):=by unfold D2;rw [h];rfl
theorem b1X {m:Mach} {s:ByteArray} {x:ByteArray} {m':Mach} (h:a4O m s=(m',x,true)):D2 m s=(m',x):=by unfold D2;rw [h];rfl
abbrev c3z:ByteArray:=⟨#[98,97,100]⟩
abbrev c0H:ByteArray:=⟨#[102,117,108,108]⟩
abbrev c0I:ByteArray:=⟨#[108,111,110,103]⟩
def b3k (r:ByteArray):ByteArray:=if r.size > 200 then c0I else r
theorem b9Z {α β:Type} [Inhabited α] {l:List α} {f:α→β} {i:Nat} (h:i+1 < l.length):(l.map f)[1+((i:Int)).toNat]?=some (f (l.getD (i+1) default)):=by rw [show 1+((i:Int)).toNat=i+1 by omega];simp [h]
theorem b6i {α β:Type} [Inhabited α] {l:List α} {f:α→β} {i:Nat} (h:i+1 < l.length):(l.map f)[((i:Int)+1).toNat]?=some (f (l.getD (i+1) default)):=by rw [show ((i:Int)+1).toNat=i+1 by omega];simp [h]
theorem i6 {c r:ByteArray} (h:r.size≤200):(⟨c,r⟩:Rec).r.size≤9223372036854775807:=Nat.le_trans h (by decide)
theorem j5 {a:Array UInt8} (h:a.size≤200):(⟨a⟩:ByteArray).size≤9223372036854775807:=by show a.size≤_;omega
theorem A8 {r:ByteArray} (h:(r.size:Int) > 200):b3k r=c0I:=by unfold b3k;rw [if_pos (by omega)]
theorem A9 {r:ByteArray} (h:¬ (r.size:Int) > 200):b3k r=r:=by unfold b3k;rw [if_neg (by omega)]
def exC (m:Mach) (x:Lg) (s:ByteArray):Mach×Lg×ByteArray :=
 if a6Z m x=false then (m,x,noB)
 else if E2 ⟨s,⟨#[]⟩⟩=false then (m,x,c3z)
 else if x.n=60 then (m,x,c0H)
 else ((D2 m s).1,apE x ⟨s,b3k (D2 m s).2⟩,b3k (D2 m s).2)
section
variable {m:Mach} {x:Lg} {s:ByteArray}
theorem c0J (h:a6Z m x=false):exC m x s=(m,x,noB):=by unfold exC;rw [if_pos h]
theorem c0K (h:a6Z m x=true) (h2:E2 ⟨s,⟨#[]⟩⟩=false):exC m x s=(m,x,c3z):=by unfold exC;rw [if_neg (by simp [h]),if_pos h2]
theorem c0L (h:a6Z m x=true) (h2:E2 ⟨s,⟨#[]⟩⟩=true) (h3:x.n=60):exC m x s=(m,x,c0H):=by unfold exC;rw [if_neg (by simp [h]),if_neg (by simp [h2]),if_pos h3]
theorem F2 (h:a6Z m x=true) (h2:E2 ⟨s,⟨#[]⟩⟩=true) (h3:¬ x.n=60) {m':Mach} {r:ByteArray} (h4:D2 m s=(m',r)):exC m x s=(m',apE x ⟨s,b3k r⟩,b3k r):=by unfold exC;rw [if_neg (by simp [h]),if_neg (by simp [h2]),if_neg h3,h4]
end
end Go.Rf
namespace Go.Rf
open Go Go.RowKit
def pkR:List AV→AV
 | [x]=>x
 | xs=>.tup xs
theorem b8s {w0:World} {ρ:Nat→Value} {nx:Nat}:∀ {avs:List AV} {ys:List Value},RelVs w0 ρ nx avs ys→RelV w0 ρ nx (pkR avs) (if h:ys.toArray.size=1 then ys.toArray[0] else .tuple ys.toArray)
 | [],ys,h=>by simp only [RelVs] at h;subst h;exact ⟨[],rfl,rfl⟩
 | [x],ys,h=>by
  simp only [RelVs] at h
  obtain ⟨y,t,rfl,h1,rfl⟩:=h
  exact h1
 | x :: y :: r,ys,h=>by
  have h0:=h
  simp only [RelVs] at h
  obtain ⟨a,t,rfl,h1,b,t2,rfl,h2,h3⟩:=h
  rw [dif_neg (by simp)]
  exact ⟨_,rfl,h0⟩
def c4t (tb:List (Nat×TyI)) (l:List ResultVar) (K:AV→List (Nat×Option Row)→Nat→Prop) (e:Exit) (S:St):Prop:=(e=.normal∨e=.ret)∧∃ xs,T8 tb S l []=some xs∧K (pkR xs) S.m S.nx
section
variable {P:Program} [Env P] {w0:Base} {ops:Array Oper} {tb:List (Nat×TyI)} {o:Oper} {rest:List Oper} {T:List (Nat×AV)} {m:List (Nat×Option Row)} {nx nt d:Nat} {Q:Exit→St→Prop}
theorem U8 [EnvAt P w0] (G:Good P tb) {f:FuncId} {fn:Func} {c:Code} {as:Array Operand} {ts:Array TypeId} {args:List AV} {l:List ResultVar} {n:Nat} (hd:o.dst=some d) (hlt:Nat.blt d nt=true) (ho:o.op=.call { callee:=.value (.func f),args:=as,argTypes:=ts })
 (hf:P.funcs[f]?=some fn) (hb:fn.body=some c) (hname:(fn.name == "runtime.NumGoroutine")=false) (hl:fn.results=l.toArray) (hn:fn.ntmps=n) (hlen:Nat.ble args.length n=true) (ha:evL T as.toList []=some args)
 (h:∀ b:Base,[EnvAt P b]→b.n0=nx→W P b c ⟨a4w args 0,m,nx,n⟩ (c4t tb l (fun r m1 n1=>Nat.ble nx n1=true∧WL P w0 ops rest ⟨(d,r) :: T,m1,n1,nt⟩ Q))):WX P w0 ops o rest ⟨T,m,nx,nt⟩ Q:=by
 rename_i hw0
 intro ρ a w hT hC
 obtain ⟨bs,h1,h2⟩:=a5e hT ha
 simp at h1
 subst h1
 have hcal:Callable P f:=⟨fn,hf,hname,by rw [hb];rfl⟩
 have hrun:(execOp a.eval o).run P w=.ok (.enter f (as.toList.map a.eval).toArray) w:=by
  simp [execOp,ho,resolve,Deferred.ofValue,invoke,Act.eval,a0e hcal,← Array.toList_map]
 unfold Oper.wp
 rw [hrun,Oper.upon_enter]
 let b:Base:=⟨w0.w,nx,ρ,w,w0.keep,fun c hc=>Nat.lt_of_lt_of_le (w0.kb c hc) hC.kept.1,w0.E,w0.hE⟩
 have hen:EnvAt P b:=⟨hw0.e⟩
 have hCb:RelC b ρ m nx w:=⟨hC.rows,hC.apart,hC.below,⟨Nat.le_refl _,fun _ _=>rfl⟩,⟨Nat.le_refl _,fun _ _=>rfl,hC.kept.2.2⟩,hC.inner⟩
 have hlen':args.length≤n:=Nat.le_of_ble_eq_true hlen
 have hTb:=a2q (b:=b) (fn:=fn) (show RelVs b.w ρ nx args (as.toList.map a.eval) from h2) hlen' hn
 have hcalls:Calls P f (as.toList.map a.eval).toArray w (fun en w'=>∃ v ρ' r m1 n1,en=.returned v∧(∀ i,i < nx→ρ' i=ρ i)∧RelV w0.w ρ' n1 r v∧RelC b ρ' m1 n1 w'∧Nat.ble nx n1=true∧WL P w0 ops rest ⟨(d,r) :: T,m1,n1,nt⟩ Q):=by
  refine calls_of_wp hf hb ?_
  refine wp_mono (h b rfl ρ _ w hTb hCb) ?_
  have fin:∀ (ρ':Nat→Value) (S:St) (a':Act) (w':World),(∃ xs,T8 tb S l []=some xs∧Nat.ble nx S.nx=true∧WL P w0 ops rest ⟨(d,pkR xs) :: T,S.m,S.nx,nt⟩ Q)→RelT b ρ' S.T S.nx S.nt a'→RelC b ρ' S.m S.nx w' →
   a'.defers=[]∧∃ v,(results fn a'.tmps).run P w'=.ok v w'∧∃ u ρ' r m1 n1,Ending.returned v=.returned u∧(∀ i,i < nx→ρ' i=ρ i)∧RelV w0.w ρ' n1 r u∧RelC b ρ' m1 n1 w'∧Nat.ble nx n1=true∧WL P w0 ops rest ⟨(d,r) :: T,m1,n1,nt⟩ Q:=by
   intro ρ' S a' w' ⟨xs,e1,e2,e3⟩ hT' hC'
   obtain ⟨ys,avs,g1,g2,g3⟩:=Y4 G hT' hC' e1
   simp at g1
   subst g1
   exact ⟨hT'.defers,_,S5 hl g3,_,ρ',pkR xs,S.m,S.nx,rfl,fun i hi=>hC'.pin.2 i hi,b8s g2,hC',e2,e3⟩
  rintro e a' w' ⟨ρ',S,⟨hq,e1⟩,hT',hC'⟩
  rcases hq with rfl | rfl
  ·exact fin ρ' S a' w' e1 hT' hC'
  ·exact fin ρ' S a' w' e1 hT' hC'
 refine hcalls.mono fun ex w' ⟨v,ρ',r,m1,n1,he,q1,q2,q3,q4,hk⟩=>?_
 subst he
 have hn1:=Nat.le_of_ble_eq_true q4
 refine hk ρ' _ w' ?_ ⟨q3.rows,q3.apart,q3.below,⟨Nat.le_trans hC.pin.1 hn1,fun i hi=>by rw [q1 i (Nat.lt_of_lt_of_le hi hC.pin.1)];exact hC.pin.2 i hi⟩,⟨Nat.le_trans hC.kept.1 q3.kept.1,fun c hc=>(q3.kept.2.1 c hc).trans (hC.kept.2.1 c hc),q3.kept.2.2⟩,q3.inner⟩
 rw [hd]
 have hT':RelT w0 ρ' T n1 nt a:=⟨fun t x hx=>(hT.tmps t x hx).mono hn1 q1,hT.size,hT.defers⟩
 exact hT'.put hlt q2
end
def lrT (x:Lg):List Rec:=if H2 x then pre (a5k (x.d++x.p)) (A0 (x.d++x.p)) else []
theorem c2j {x:Lg} (h:H2 x=false):lrT x=[]∧H2 x=false:=by rw [lrT,h];exact ⟨rfl,rfl⟩
theorem c2k {x:Lg} (h:H2 x=true):lrT x=pre (a5k (x.d++x.p)) (A0 (x.d++x.p))∧H2 x=true:=by rw [lrT,h];exact ⟨rfl,rfl⟩
theorem b5b {x:Lg}:(lrT x).length≤60:=by
 unfold lrT
 split
 ·rw [N8];exact a2D.1
 ·exact Nat.zero_le _
end Go.Rf
namespace Go.Rf
open Go
def a3v (m:Mach) (k:Nat) (c:Int):ByteArray:=if (X6 m k c).2 then (X6 m k c).1 else qmB
def N2 (m:Mach) (s:MStep):Mach×ByteArray:=if (smT m s).2.2 then ((smT m s).1,if (smT m s).2.1=-1 then okB else t7 (smT m s).2.1) else (m,qmB)
section
variable {m:Mach} {k:Nat} {c:Int} {s:ByteArray}
theorem c2l (h:m8 c 0 ((m.cp.length:Int) - 1)=false):a3v m k c=qmB:=by unfold a3v;rw [b47 h];rfl
theorem c2m (h:m8 c 0 ((m.cp.length:Int) - 1)=true) (hk:k=8):a3v m k c=a4I (D6 (m.cp.getD c.toNat default).qu):=by unfold a3v;rw [b48 h hk];rfl
theorem c2n (h:m8 c 0 ((m.cp.length:Int) - 1)=true) (hk:k=9):a3v m k c=a4I (m.cp.getD c.toNat default).st:=by unfold a3v;rw [b49 h hk];rfl
theorem b90 (h:m8 c 0 ((m.cp.length:Int) - 1)=true) (hk:k=11):a3v m k c=a4k (m.cp.getD c.toNat default).qu.sl:=by unfold a3v;rw [b3i h hk];rfl
theorem b8t (h:m8 c 0 ((m.cp.length:Int) - 1)=true) (hk:k=10) (hn:D9 m.rs (X4 m) c.toNat < 0):a3v m k c=b28:=by
 have:=@a9d m.rs (X4 m) c.toNat
 unfold a3v;rw [b0Z h hk (by omega)];rfl
theorem b8u (h:m8 c 0 ((m.cp.length:Int) - 1)=true) (hk:k=10) (hn:¬ D9 m.rs (X4 m) c.toNat < 0):a3v m k c=t7 (D9 m.rs (X4 m) c.toNat):=by unfold a3v;rw [b00 h hk (by omega)];rfl
theorem b8v (h1:k≠8) (h2:k≠9) (h3:k≠11) (h4:k≠10):a3v m k c=qmB:=by unfold a3v;rw [b9W h1 h2 h3 h4];rfl
theorem c2o (h:E3 s=false):D2 m s=(m,qmB):=a4P (b8p h)
theorem b1Y (h:¬ a1J (m3 (wrd s 0))=(wn s:Int) - 1):D2 m s=(m,qmB):=a4P (b8o h)
theorem a2E (h1:a1J (m3 (wrd s 0))=(wn s:Int) - 1) (h2:E3 s=true) (h3:(a0o (m3 (wrd s 0)) (B2 s)).2=true):D2 m s=N2 m (a0o (m3 (wrd s 0)) (B2 s)).1:=by
 have h:=b8r (m:=m) h1 h2 h3
 unfold b3j at h
 unfold N2
 split at h
 ·next hk=>rw [if_pos hk];exact b1X h
 ·next hk=>rw [if_neg hk];exact a4P h
theorem b1Z (h1:a1J (m3 (wrd s 0))=(wn s:Int) - 1) (h2:E3 s=true) (h3:(a0o (m3 (wrd s 0)) (B2 s)).2=false):D2 m s=(m,if (a4M m (m3 (wrd s 0)) (B2 s)).2 then (a4M m (m3 (wrd s 0)) (B2 s)).1 else qmB):=by
 unfold D2
 rw [b8q h1 h2 h3]
theorem c3A (h:wn s=1) (h2:E3 s=true) (hk:m3 (wrd s 0)=0):D2 m s=N2 m ⟨2,0,0,0⟩:=by
 rw [a2E (by rw [a3s (by omega)];omega) h2 (by rw [hk];rfl),hk];rfl
theorem c3B (h:wn s=1) (h2:E3 s=true) (hk:m3 (wrd s 0)=1):D2 m s=(m,a4I (raN m)):=by
 rw [b1Z (by rw [a3s (by omega)];omega) h2 (by rw [hk];rfl),b8h hk];rfl
theorem c2p (h:wn s=1) (h2:E3 s=true) (hk:m3 (wrd s 0)=2) (hi:a63 m=true):D2 m s=(m,c2g):=by
 rw [b1Z (by rw [a3s (by omega)];omega) h2 (by rw [hk];rfl),b45 hk hi];rfl
theorem c2q (h:wn s=1) (h2:E3 s=true) (hk:m3 (wrd s 0)=2) (hi:a63 m=false):D2 m s=(m,noB):=by
 rw [b1Z (by rw [a3s (by omega)];omega) h2 (by rw [hk];rfl),b46 hk hi];rfl
theorem c3C (h:wn s=1) (h0:¬ m3 (wrd s 0)=0) (h1:¬ m3 (wrd s 0)=1) (h3:¬ m3 (wrd s 0)=2):D2 m s=(m,qmB):=by
 have hl:=@a4J (wrd s 0)
 refine b1Y ?_
 by_cases g:m3 (wrd s 0)≤11
 ·rw [O8 (by omega)];omega
 ·by_cases g2:m3 (wrd s 0)=12
  ·rw [a62 g2];omega
  ·rw [a4K (by omega)];omega
theorem c3D (h:wn s=2) (h2:E3 s=true) (hk:m3 (wrd s 0)=3):D2 m s=N2 m ⟨1,(B2 s).getD 0 default,0,0⟩:=by
 rw [a2E (by rw [O8 (by omega)];omega) h2 (by rw [hk];rfl),hk];rfl
theorem c3E (h:wn s=2) (h2:E3 s=true) (hk:m3 (wrd s 0)=4):D2 m s=N2 m ⟨6,(B2 s).getD 0 default,0,1⟩:=by
 rw [a2E (by rw [O8 (by omega)];omega) h2 (by rw [hk];rfl),hk];rfl
theorem c3F (h:wn s=2) (h2:E3 s=true) (hk:m3 (wrd s 0)=5):D2 m s=N2 m ⟨6,(B2 s).getD 0 default,0,0⟩:=by
 rw [a2E (by rw [O8 (by omega)];omega) h2 (by rw [hk];rfl),hk];rfl
theorem c3G (h:wn s=2) (h2:E3 s=true) (hk:m3 (wrd s 0)=6):D2 m s=N2 m ⟨3,0,(B2 s).getD 0 default,0⟩:=by
 rw [a2E (by rw [O8 (by omega)];omega) h2 (by rw [hk];rfl),hk];rfl
theorem c3H (h:wn s=2) (h2:E3 s=true) (hk:m3 (wrd s 0)=7):D2 m s=N2 m ⟨4,0,(B2 s).getD 0 default,0⟩:=by
 rw [a2E (by rw [O8 (by omega)];omega) h2 (by rw [hk];rfl),hk];rfl
theorem c3I (h:wn s=2) (h2:E3 s=true) (h3:¬ m3 (wrd s 0)=3) (h4:¬ m3 (wrd s 0)=4) (h5:¬ m3 (wrd s 0)=5) (h6:¬ m3 (wrd s 0)=6) (h7:¬ m3 (wrd s 0)=7):D2 m s=(m,a3v m (m3 (wrd s 0)) ((B2 s).getD 0 default)):=by
 have hl:=@a4J (wrd s 0)
 by_cases g:8≤m3 (wrd s 0)∧m3 (wrd s 0)≤11
 ·rw [b1Z (by rw [O8 (by omega)];omega) h2 (by unfold a0o;rw [if_neg (by omega),if_neg (by omega),if_neg (by omega),if_neg (by omega),if_neg (by omega),if_neg (by omega),if_neg (by omega)]),b8i (by omega) (by omega)]
  rfl
 ·rw [b8v (by omega) (by omega) (by omega) (by omega)]
  refine b1Y ?_
  by_cases g1:m3 (wrd s 0)≤2
  ·rw [a3s g1];omega
  ·by_cases g2:m3 (wrd s 0)=12
   ·rw [a62 g2];omega
   ·rw [a4K (by omega)];omega
theorem c2r (h:wn s=3) (h2:E3 s=true) (hk:m3 (wrd s 0)=12):D2 m s=N2 m ⟨5,0,(B2 s).getD 0 default,(B2 s).getD 1 default⟩:=by
 rw [a2E (by rw [a62 hk];omega) h2 (by rw [hk];rfl),hk];rfl
theorem c3J (h:wn s=3) (hk:¬ m3 (wrd s 0)=12):D2 m s=(m,qmB):=by
 refine b1Y ?_
 have hl:=@a4J (wrd s 0)
 by_cases g1:m3 (wrd s 0)≤2
 ·rw [a3s g1];omega
 ·by_cases g:m3 (wrd s 0)≤11
  ·rw [O8 (by omega)];omega
  ·rw [a4K (by omega)];omega
theorem ct3 (h:4≤wn s):D2 m s=(m,qmB):=by
 refine b1Y ?_
 have hl:=@a4J (wrd s 0)
 by_cases g1:m3 (wrd s 0)≤2
 ·rw [a3s g1];omega
 ·by_cases g:m3 (wrd s 0)≤11
  ·rw [O8 (by omega)];omega
  ·by_cases g2:m3 (wrd s 0)=12
   ·rw [a62 g2];omega
   ·rw [a4K (by omega)];omega
theorem T3 {t:MStep} (h:(smT m t).2.2=true):SmallM (smT m t).1:=by
 unfold smT at h ⊢
 split at h
 ·next hk =>
  rw [if_pos hk]
  simp only [b6g,Bool.and_eq_true] at hk
  obtain ⟨⟨h1,h2⟩,h3⟩:=hk
  exact (c3w (maF h1).g h2 h3).1.small
 ·cases h
end
theorem c3K {x:Lg} {r:Rec} (hx:x.d.size+x.p.size≤1048576):(apE x r).d.size+(apE x r).p.size≤1048576:=by
 unfold apE
 split
 ·next h =>
  simp only [Bool.and_eq_true,decide_eq_true_eq] at h
  obtain ⟨h1,h2⟩:=h
  have h3:H2 x=true∧E2 r=true:=by unfold apG at h1;simpa using h1
  have ho:=a8r h3.1
  have hl:=a64 (k:=x.n) (x:=r) (by omega) (by omega) h3.2
  show x.d.size+(x.p++a02 x.n r).size≤_
  rw [ByteArray.size_append]
  omega
 ·exact hx
theorem b6j {m:Mach} {s:ByteArray} (h:SmallM m):SmallM (D2 m s).1:=by
 show SmallM (a4O m s).1
 unfold a4O
 split
 ·split
  ·split
   ·unfold b3j
    split
    ·next hk=>exact T3 hk
    ·exact h
   ·exact h
  ·exact h
 ·exact h
theorem b6k {m:Mach} {x:Lg} {s:ByteArray} (h:SmallM m) (hx:x.d.size+x.p.size≤1048576):SmallM (exC m x s).1∧(exC m x s).2.1.d.size+(exC m x s).2.1.p.size≤1048576:=by
 unfold exC
 split
 ·exact ⟨h,hx⟩
 ·split
  ·exact ⟨h,hx⟩
  ·split
   ·exact ⟨h,hx⟩
   ·exact ⟨b6j h,c3K hx⟩
def Z2 (m:Mach) (x:Lg) (cs:Nat→ByteArray):Nat→Mach×Lg
 | 0=>(m,x)
 | i+1=>((exC (Z2 m x cs i).1 (Z2 m x cs i).2 (cs i)).1,(exC (Z2 m x cs i).1 (Z2 m x cs i).2 (cs i)).2.1)
def c2s (m:Mach) (x:Lg) (cs:Nat→ByteArray) (i:Nat):ByteArray:=(exC (Z2 m x cs i).1 (Z2 m x cs i).2 (cs i)).2.2
theorem a8u {m:Mach} {x:Lg} {cs:Nat→ByteArray} (h:SmallM m) (hx:x.d.size+x.p.size≤1048576):∀ i,SmallM (Z2 m x cs i).1∧(Z2 m x cs i).2.d.size+(Z2 m x cs i).2.p.size≤1048576
 | 0=>⟨h,hx⟩
 | i+1=>b6k (a8u h hx i).1 (a8u h hx i).2
def lg0:Lg:=⟨⟨#[]⟩,⟨#[]⟩,0⟩
def csL (l:Lg) (i:Nat):ByteArray:=((lrT l).getD i default).c
def a9z (m:Mach) (l:Lg) (i:Nat):Bool:=!((c2s m lg0 (csL l) i).toList==((lrT l).getD i default).r.toList)
def a7L (rs:List Route) (c:Int) (l:Lg):Int×Bool :=
 if (u3 rs c).2 && H2 l then (if G5 (a9z (u3 rs c).1 l) (lrT l).length < 0 then ((lrT l).length:Int) else G5 (a9z (u3 rs c).1 l) (lrT l).length,true) else (0,false)
section
variable {rs:List Route} {c:Int} {l:Lg} {i:Nat}
theorem b8w (h:(u3 rs c).2=false):a7L rs c l=(0,false):=by unfold a7L;rw [h];rfl
theorem b8x (h:H2 l=false):a7L rs c l=(0,false):=by unfold a7L;rw [h,Bool.and_false];rfl
theorem c0M {m:Mach} (h:¬ (c2s m lg0 (csL l) i).toList=((lrT l).getD i default).r.toList):a9z m l i=true:=by unfold a9z;rw [Bool.not_eq_true',beq_eq_false_iff_ne];exact h
theorem c0N {m:Mach} (h:(c2s m lg0 (csL l) i).toList=((lrT l).getD i default).r.toList):a9z m l i=false:=by unfold a9z;rw [Bool.not_eq_false',beq_iff_eq];exact h
theorem c0O (h1:(u3 rs c).2=true) (h2:H2 l=true) (hj:∀ j,j < i→a9z (u3 rs c).1 l j=false) (hi:i < (lrT l).length) (h:a9z (u3 rs c).1 l i=true):a7L rs c l=((i:Int),true):=by
 unfold a7L
 rw [h1,h2,J9 hj hi h,if_pos (by rfl),if_neg (by omega)]
theorem c0P (h1:(u3 rs c).2=true) (h2:H2 l=true) (hj:∀ j,j < i→a9z (u3 rs c).1 l j=false) (hi:(lrT l).length≤i):a7L rs c l=(((lrT l).length:Int),true):=by
 unfold a7L
 rw [h1,h2,U1 hj hi,if_pos (by rfl),if_pos (by decide)]
end
theorem c3L {l:Lg} {i:Nat} (hi:i < (lrT l).length):E2 ((lrT l).getD i default)=true:=by
 cases ho:H2 l with
 | false=>rw [(c2j ho).1] at hi;exact absurd hi (Nat.not_lt_zero _)
 | true =>
  rw [(c2k ho).1] at hi ⊢
  rw [N8] at hi
  rw [a89 hi]
  have h1:=a3O (s:=l.d++l.p) |>.1 i hi
  have h2:rdK (J0 (l.d++l.p) i) i=true:=by
   cases hk:rdK (J0 (l.d++l.p) i) i with
   | true=>rfl
   | false=>rw [b6M hk] at h1;cases h1
  simp only [rdK,Bool.and_eq_true] at h2
  exact h2.1.2
theorem c0Q {l:Lg} {i:Nat}:(csL l i).size≤160:=by
 unfold csL
 by_cases hi:i < (lrT l).length
 ·exact (a03 (c3L hi)).1.2
 ·rw [List.getD_eq_getElem?_getD,List.getElem?_eq_none (by omega)];exact Nat.zero_le _
end Go.Rf
namespace Go.Rf
theorem rfb :
 ((∀ (p:Prop) [Decidable p],(decide p=true)=p)∧(∀ (p:Prop) [Decidable p],(decide p=false)↔¬p) ∧
 (∀ {α:Type} [BEq α] [LawfulBEq α] {a b:α},a==b↔a=b)∧(∀ {α:Type} [BEq α] [LawfulBEq α] {a b:α},a != b↔a≠b)∧(∀ {α:Type} (a b:α),(a≠b)=¬(a=b))) ∧
 ((∀ b:Bool,((!b)=true)=(b=false))∧(∀ b:Bool,((!b)=false)=(b=true)) ∧
 (∀ {α:Type} [BEq α] [LawfulBEq α] {a b:α},(a==b)=false↔a≠b)∧(∀ {α:Type} [BEq α] [LawfulBEq α] {a b:α},(a != b)=false↔a=b) ∧
 (∀ b:Bool,(¬(b=true))=(b=false))∧(∀ b:Bool,(¬(b=false))=(b=true))) ∧
 ((∀ {a b:Int},¬(a < b)↔b≤a)∧(∀ {a b:Int},¬(a≤b)↔b < a)∧(∀ {a b:Int},a > b↔b < a)∧(∀ {a b:Int},a≥b↔b≤a)) ∧
 ((∀ a b:Bool,((a && b)=true)=(a=true∧b=true))∧(∀ {a b:Bool},(a && b)=false↔a=false∨b=false)∧(∀ a b:Bool,((a || b)=true)=(a=true∨b=true))∧(∀ {a b:Bool},(a || b)=false↔a=false∧b=false)) :=
 ⟨⟨fun p _=>decide_eq_true_eq,fun p _=>decide_eq_false_iff_not,beq_iff_eq,bne_iff_ne,fun a b=>ne_eq a b⟩,⟨Bool.not_eq_true',Bool.not_eq_false',beq_eq_false_iff_ne,bne_eq_false_iff_eq,Bool.not_eq_true,Bool.not_eq_false⟩,⟨Int.not_lt,Int.not_le,gt_iff_lt,ge_iff_le⟩,⟨Bool.and_eq_true,Bool.and_eq_false_iff,Bool.or_eq_true,Bool.or_eq_false_iff⟩⟩
end Go.Rf
namespace Go.Rf
open Go Go.RowKit
section
variable {P:Program} [Env P] {w0:Base} {ops:Array Oper} {tb:List (Nat×TyI)} {o:Oper} {T:List (Nat×AV)} {m m0:List (Nat×Option Row)} {nx nt d fuel:Nat} {Q:Exit→St→Prop} {S:St} {A K:St→Prop} {c:Code} {listed:Array Bool} {b:Base} {r:AV} {id:Nat}
theorem b3l {t:TypeId} {x:Operand} {k off ft id a0:Nat} {fs:List (Nat×Nat)} {zs:List Value} (G:Good P tb) (ho:o.op=.fieldAddr t x k) (hx:ev T x=some (.ptr id a0)) (ht:look t tb=some (.struct fs zs)) (hk:nth fs k=some (off,ft)):QStep P o T m nx nt (.ptr id (Nat.add a0 off)):=l5 G ho ht hk hx
theorem b4a {t:TypeId} {x:Operand} {i:TyI} {id off:Nat} {cs:List AV} (G:Good P tb) (ho:o.op=.load t x) (hx:ev T x=some (.ptr id off)) (hm:mem m id=some (.box cs)) (hr:nth cs off=some r) (ht:look t tb=some i) (hf:a0C i=true) (hd:b1c r=true):QStep P o T m nx nt r:=n9 G ho ht hf hx hm hr hd
theorem c3M {t:TypeId} {x:Operand} {i:TyI} {id off sz:Nat} {cs:List AV} {z:Value} {ys:List (List Value)} (G:Good P tb) (ho:o.op=.load t x) (hx:ev T x=some (.ptr id off)) (hm:mem m id=some (.box cs)) (hr:nth cs off=some (.pin z sz ys)) (ht:look t tb=some i) (hf:a0C i=true):QStep P o T m nx nt (.lst sz ys):=a5w (n9 G ho ht hf hx hm hr rfl)
theorem c3N {t:TypeId} {x:Operand} {i:TyI} {id off sz:Nat} {cs:List AV} {z:Option Value} {yss:List (List CI)} (G:Good P tb) (ho:o.op=.load t x) (hx:ev T x=some (.ptr id off)) (hm:mem m id=some (.box cs)) (hr:nth cs off=some (.nst z sz yss)) (hd:b1c (.nst z sz yss)=true) (ht:look t tb=some i) (hf:a0C i=true):QStep P o T m nx nt (.nst none sz yss):=b6V (n9 G ho ht hf hx hm hr hd)
theorem a6b {t:TypeId} {x:Operand} {fs:List (Nat×Nat)} {zs:List Value} {id off:Nat} {cs rs:List AV} (G:Good P tb) (ho:o.op=.load t x) (hx:ev T x=some (.ptr id off)) (hm:mem m id=some (.box cs)) (ht:look t tb=some (.struct fs zs)) (hr:a2J zs.length (a0B off cs) []=some rs) (hd:a4d rs=true):QStep P o T m nx nt (.agg rs):=p5 G ho ht hx hm hr hd
theorem b4b {t:TypeId} {x:Operand} {i:TyI} {c:List Value} {u:Value} (G:Good P tb) (ho:o.op=.load t x) (hx:ev T x=some (.ept c)) (hr:nth c 0=some u) (ht:look t tb=some i) (hf:a0C i=true):QStep P o T m nx nt (.v u):=b3x G ho ht hf hx hr
theorem a6c {t:TypeId} {x:Operand} {fs:List (Nat×Nat)} {zs:List Value} {c us:List Value} (G:Good P tb) (ho:o.op=.load t x) (hx:ev T x=some (.ept c)) (ht:look t tb=some (.struct fs zs)) (hr:a2J zs.length c []=some us):QStep P o T m nx nt (.agg (avR us [])):=a42 G ho ht hx hr
theorem c3O {x:Operand} {t e sz by_ n:Nat} {zs:List Value} {ax:AV} (G:Good P tb) (ho:o.op=.call { callee:=.builtin .len,args:=#[x],argTypes:=#[t] }) (hx:ev T x=some ax) (hn:b5B m ax=some n) (ht:look t tb=some (.slice e sz by_ zs)):QStep P o T m nx nt (.v (.int .i64 n)):=a4e G ho ht hx hn
theorem c2t {x:Operand} {t e sz by_ n n':Nat} {zs:List Value} {ax:AV} (G:Good P tb) (ho:o.op=.call { callee:=.builtin .len,args:=#[x],argTypes:=#[t] }) (hx:ev T x=some ax) (hn:b5B m ax=some n) (he:n=n') (ht:look t tb=some (.slice e sz by_ zs)):QStep P o T m nx nt (.v (.int .i64 n')):=a1D G ho ht hx hn he
theorem a3w {x y:Operand} {t e sz by_:Nat} {zs:List Value} {ys:List (List Value)} {k:IntKind} {i:Int} {c:List Value} (G:Good P tb) (ho:o.op=.indexAddr t x y) (hx:ev T x=some (.lst sz ys)) (hy:ev T y=some (.v (.int k i))) (h0:0≤i) (hc:ys[i.toNat]?=some c) (ht:look t tb=some (.slice e sz by_ zs)):QStep P o T m nx nt (.ept c):=b2j G ho ht hx hy h0 hc
def Ph (n:Nat) (p:Prop):Prop:=p
structure Hd (q:Prop):Prop where o:q
structure Sg (P:Program) [Env P] (o:Oper) (T:List (Nat×AV)) (m:List (Nat×Option Row)) (nx nt:Nat) (K:AV→Prop):Prop where o:∃ r,QStep P o T m nx nt r∧K r
theorem Sg.of {K:AV→Prop} (h:QStep P o T m nx nt r) (k:K r):Sg P o T m nx nt K:=⟨r,h,k⟩
theorem b10 [EnvAt P w0] {l:List Oper} {Q:Exit→St→Prop} (hd:o.dst=some d) (hlt:Nat.blt d nt=true) (h:Sg P o T m nx nt (fun r=>WL P w0 ops l ⟨(d,r) :: T,m,nx,nt⟩ Q)):WX P w0 ops o l ⟨T,m,nx,nt⟩ Q:=h.o.elim fun _ h=>b6 hd hlt h.1 h.2
theorem b11 [EnvAt P w0] {l:List Oper} {K:List (Nat×AV)→Prop} (hd:o.dst=some d) (hlt:Nat.blt d nt=true) (h:Sg P o T m nx nt (fun r=>QL P w0 ops l ((d,r) :: T) m nx nt K)):QX P w0 ops o l T m nx nt K:=h.o.elim fun _ h=>u9 hd hlt h.1 h.2
theorem c3P [EnvAt P b] {o1:Option Nat} {o2:Op} {o3:TypeId} {o4:String} {o5:Array Edge} {o6:Option (Nat×Bool)} {i:Nat} (hi:ops[i]?=some ⟨o1,o2,o3,o4,o5,o6⟩) (hg:o6=none) (hd:o1=some d) (hlt:Nat.blt d nt=true) (hf:Region.free .any ops listed i=true) (hr:(Region.ready .any ops listed).contains i=true) (hp:a6H o2=true) (h:Sg P ⟨o1,o2,o3,o4,o5,o6⟩ T m0 nx nt (fun r=>WA P b ops m0 fuel (listed.setIfInBounds i true) ⟨(d,r) :: T,m,nx,nt⟩ A)):Ph i (WA P b ops m0 (fuel+1) listed ⟨T,m,nx,nt⟩ A):=h.o.elim fun _ h=>e9 i hi hf hr hp hg hd hlt h.1 h.2
theorem c3Q [EnvAt P b] {o1:Option Nat} {o2:Op} {o3:TypeId} {o4:String} {o5:Array Edge} {o6:Option (Nat×Bool)} {i j gd:Nat} {want:Bool} (hi:ops[i]?=some ⟨o1,o2,o3,o4,o5,o6⟩) (hg:o6=some (j,want)) (hj:(ops[j]?).bind (·.dst)=some gd) (hb:look gd T=some (.v (.bool want))) (hd:o1=some d) (hlt:Nat.blt d nt=true) (hf:Region.free .any ops listed i=true) (hr:(Region.ready .any ops listed).contains i=true) (hp:a6H o2=true) (h:Sg P ⟨o1,o2,o3,o4,o5,o6⟩ T m0 nx nt (fun r=>WA P b ops m0 fuel (listed.setIfInBounds i true) ⟨(d,r) :: T,m,nx,nt⟩ A)):Ph i (WA P b ops m0 (fuel+1) listed ⟨T,m,nx,nt⟩ A):=h.o.elim fun _ h=>S6 i hi hf hr hp hg hj hb hd hlt h.1 h.2
theorem i1 (ms:List Nat) {o1:Option Nat} {o2:Op} {o3:TypeId} {o4:String} {o5:Array Edge} {o6:Option (Nat×Bool)} {i:Nat} {S:St} (hi:ops[i]?=some ⟨o1,o2,o3,o4,o5,o6⟩) (hg:o6=none) (h:WX P b ops ⟨o1,o2,o3,o4,o5,o6⟩ [] S (nq (fun S'=>P3 b.n0 S'.m ms []=some m0∧WA P b ops m0 fuel (listed.setIfInBounds i true) S' A))):WB P b ops m0 fuel listed i S A:=c7 ms hi hg h
theorem c3R {i j gd:Nat} {want bb:Bool} (hi:ops[i]?=some o) (hg:o.guard=some (j,want)) (hj:(ops[j]?).bind (·.dst)=some gd) (hb:look gd T=some (.v (.bool bb))) (hne:(bb==want)=false) (hf:Region.free .any ops listed i=true) (hr:(Region.ready .any ops listed).contains i=true) (hd:o.dst=some d) (hlt:Nat.blt d nt=true) (hk:WA P b ops m0 fuel (listed.setIfInBounds i true) ⟨(d,.v undef) :: T,m,nx,nt⟩ A):Ph i (WA P b ops m0 (fuel+1) listed ⟨T,m,nx,nt⟩ A):=a2o i hi hf hr hg hj hb hne hd hlt hk
theorem c3S {i j gd:Nat} {want:Bool} (hi:ops[i]?=some o) (hg:o.guard=some (j,want)) (hj:(ops[j]?).bind (·.dst)=some gd) (hb:look gd T=some (.v undef)) (hf:Region.free .any ops listed i=true) (hr:(Region.ready .any ops listed).contains i=true) (hd:o.dst=some d) (hlt:Nat.blt d nt=true) (hk:WA P b ops m0 fuel (listed.setIfInBounds i true) ⟨(d,.v undef) :: T,m,nx,nt⟩ A):Ph i (WA P b ops m0 (fuel+1) listed ⟨T,m,nx,nt⟩ A):=b5N i hi hf hr hg hj hb hd hlt hk
theorem b91 {x:Operand} {o1:Option Nat} {o3:TypeId} {o4:String} {o5:Array Edge} {o6:Option (Nat×Bool)} {K:AV→Prop} (h:Sg P ⟨o1,.move x,o3,o4,o5,o6⟩ T m nx nt K):Sg P ⟨o1,.move x,o3,o4,o5,o6⟩ T m nx nt K:=h
theorem b6l {x:Operand} {o1:Option Nat} {o3:TypeId} {o4:String} {o5:Array Edge} {o6:Option (Nat×Bool)} {K:AV→Prop} (h:Sg P ⟨o1,.assign x,o3,o4,o5,o6⟩ T m nx nt K):Sg P ⟨o1,.assign x,o3,o4,o5,o6⟩ T m nx nt K:=h
theorem b8y {t:TypeId} {x:Operand} {k:Nat} {o1:Option Nat} {o3:TypeId} {o4:String} {o5:Array Edge} {o6:Option (Nat×Bool)} {K:AV→Prop} (h:Sg P ⟨o1,.fieldAddr t x k,o3,o4,o5,o6⟩ T m nx nt K):Sg P ⟨o1,.fieldAddr t x k,o3,o4,o5,o6⟩ T m nx nt K:=h
theorem b92 {t:TypeId} {x:Operand} {o1:Option Nat} {o3:TypeId} {o4:String} {o5:Array Edge} {o6:Option (Nat×Bool)} {K:AV→Prop} (h:Sg P ⟨o1,.load t x,o3,o4,o5,o6⟩ T m nx nt K):Sg P ⟨o1,.load t x,o3,o4,o5,o6⟩ T m nx nt K:=h
theorem c2u {u:BinOp} {t t2:TypeId} {x y:Operand} {o1:Option Nat} {o3:TypeId} {o4:String} {o5:Array Edge} {o6:Option (Nat×Bool)} {K:AV→Prop} (h:Sg P ⟨o1,.binOp u t x y t2,o3,o4,o5,o6⟩ T m nx nt K):Sg P ⟨o1,.binOp u t x y t2,o3,o4,o5,o6⟩ T m nx nt K:=h
theorem b93 {c x y:Operand} {o1:Option Nat} {o3:TypeId} {o4:String} {o5:Array Edge} {o6:Option (Nat×Bool)} {K:AV→Prop} (h:Sg P ⟨o1,.pick c x y,o3,o4,o5,o6⟩ T m nx nt K):Sg P ⟨o1,.pick c x y,o3,o4,o5,o6⟩ T m nx nt K:=h
theorem b4c {x:Operand} {k:Nat} {o1:Option Nat} {o3:TypeId} {o4:String} {o5:Array Edge} {o6:Option (Nat×Bool)} {K:AV→Prop} (h:Sg P ⟨o1,.extract x k,o3,o4,o5,o6⟩ T m nx nt K):Sg P ⟨o1,.extract x k,o3,o4,o5,o6⟩ T m nx nt K:=h
theorem c2v {t:TypeId} {x:Operand} {o1:Option Nat} {o3:TypeId} {o4:String} {o5:Array Edge} {o6:Option (Nat×Bool)} {K:AV→Prop} (h:Sg P ⟨o1,.unOp .not t x,o3,o4,o5,o6⟩ T m nx nt K):Sg P ⟨o1,.unOp .not t x,o3,o4,o5,o6⟩ T m nx nt K:=h
theorem b8z {t:TypeId} {l:Array (Nat×Operand)} {o1:Option Nat} {o3:TypeId} {o4:String} {o5:Array Edge} {o6:Option (Nat×Bool)} {K:AV→Prop} (h:Sg P ⟨o1,.build t l,o3,o4,o5,o6⟩ T m nx nt K):Sg P ⟨o1,.build t l,o3,o4,o5,o6⟩ T m nx nt K:=h
theorem b8A {t:TypeId} {x y:Operand} {o1:Option Nat} {o3:TypeId} {o4:String} {o5:Array Edge} {o6:Option (Nat×Bool)} {K:AV→Prop} (h:Sg P ⟨o1,.indexAddr t x y,o3,o4,o5,o6⟩ T m nx nt K):Sg P ⟨o1,.indexAddr t x y,o3,o4,o5,o6⟩ T m nx nt K:=h
theorem c2w {c:Call} {o1:Option Nat} {o3:TypeId} {o4:String} {o5:Array Edge} {o6:Option (Nat×Bool)} {K:AV→Prop} (h:Sg P ⟨o1,.call c,o3,o4,o5,o6⟩ T m nx nt K):Sg P ⟨o1,.call c,o3,o4,o5,o6⟩ T m nx nt K:=h
theorem u4 {x y:Code} {S:St} {Q:Exit→St→Prop} (h:W P w0 x S (sq (fun S=>W P w0 y S Q) Q)):W P w0 (.seq x y) S Q:=f9 fun K hK=>b3v h fun e S' q=>by cases e<;>first | exact hK _ q | exact q
theorem aW {S:St} {Q:Exit→St→Prop} {c:Code} (h:W P w0 c S Q):W P w0 c S Q:=h
theorem aWL {S:St} {Q:Exit→St→Prop} {l:List Oper} (h:WL P w0 ops l S Q):WL P w0 ops l S Q:=h
theorem aWX {S:St} {Q:Exit→St→Prop} {l:List Oper} (h:WX P w0 ops o l S Q):WX P w0 ops o l S Q:=h
theorem aQX {K:List (Nat×AV)→Prop} {l:List Oper} (h:QX P w0 ops o l T m nx nt K):QX P w0 ops o l T m nx nt K:=h
theorem aQL {K:List (Nat×AV)→Prop} {l:List Oper} (h:QL P w0 ops l T m nx nt K):QL P w0 ops l T m nx nt K:=h
end
section
variable {K:St→Prop} {Q:Exit→St→Prop} {S:St} {i id:Nat}
theorem c2x (h:K S):sq K Q .normal S:=h
theorem c2y (h:K S):nq K .normal S:=h
theorem c2z (h:Q (.exit i) S):sq K Q (.exit i) S:=h
theorem c2A (h:Q .ret S):sq K Q .ret S:=h
theorem c2B (h:Q .normal S):bq id Q .normal S:=h
theorem c2C (h:Q .ret S):bq id Q .ret S:=h
theorem c2D (h:Q .normal S):bq id Q (.exit id) S:=by simp only [bq,Nat.beq_refl,cond_true];exact h
theorem c2E (h:Q (.exit i) S) (e:Nat.beq i id=false:=by rfl):bq id Q (.exit i) S:=by simp only [bq,e,cond_false];exact h
end
theorem zq {p q:Prop} (k:q) (h:Hd q→p:=by
 intro kk
 first
  | (with_reducible refine b91 ?_;first | refine Sg.of (e6 rfl rfl) ?_)
  | (with_reducible refine b6l ?_;first | refine Sg.of (d6 rfl rfl) ?_)
  | (with_reducible refine b8y ?_;first | refine Sg.of (b3l G rfl rfl rfl rfl) ?_ | refine Sg.of (b2h G rfl rfl rfl rfl) ?_)
  | (with_reducible refine b92 ?_;first | refine Sg.of (c3M G rfl rfl rfl rfl rfl rfl) ?_ | refine Sg.of (c3N G rfl rfl rfl rfl rfl rfl) ?_ | refine Sg.of (b4a G rfl rfl rfl rfl rfl rfl rfl) ?_ | refine Sg.of (a6b G rfl rfl rfl rfl rfl rfl) ?_ | refine Sg.of (b4b G rfl rfl rfl rfl rfl) ?_ | refine Sg.of (a6c G rfl rfl rfl rfl) ?_ | refine Sg.of (Q9 G rfl rfl rfl rfl) ?_)
  | (with_reducible refine c2u ?_;first | refine Sg.of (I9 rfl rfl rfl rfl) ?_ | refine Sg.of (x8 rfl rfl rfl rfl (by omega) (by omega)) ?_)
  | (with_reducible refine b93 ?_;first | refine Sg.of (F8 rfl rfl rfl) ?_ | refine Sg.of (C9 rfl rfl rfl) ?_)
  | (with_reducible refine b4c ?_;first | refine Sg.of (n8 rfl rfl rfl) ?_)
  | (with_reducible refine c2v ?_;first | refine Sg.of (b8X rfl rfl) ?_ | refine Sg.of (b8Y rfl rfl) ?_ | refine Sg.of (a2K rfl rfl) ?_)
  | (with_reducible refine b8z ?_;first | refine Sg.of (v8 G rfl rfl rfl rfl) ?_)
  | (with_reducible refine b8A ?_;first | refine Sg.of (a3w G rfl rfl rfl (by omega) (a1P (by omega)) rfl) ?_ | refine Sg.of (a3w G rfl rfl rfl (by omega) (a0f (by omega) (by omega)) rfl) ?_ | refine Sg.of (a3w G rfl rfl rfl (by omega) (B4 (by omega) (by omega)) rfl) ?_ | refine Sg.of (E9 G rfl rfl rfl rfl (by omega) (a1P (by omega)) rfl) ?_ | refine Sg.of (E9 G rfl rfl rfl rfl (by omega) (a0f (by omega) (by omega)) rfl) ?_ | refine Sg.of (E9 G rfl rfl rfl rfl (by omega) (B4 (by omega) (by omega)) rfl) ?_)
  | (with_reducible refine c2w ?_;first | refine Sg.of (c2t G rfl rfl rfl (List.length_map _) rfl) ?_ | refine Sg.of (c3O G rfl rfl rfl rfl) ?_)
 exact kk.o):p:=h ⟨k⟩
theorem zgo {p q:Prop} (k:q) (h:Hd q→p:=by
 intro kk
 first | (with_reducible refine aWX ?_;first | (refine b10 rfl rfl ?_;refine zq ?_) | refine j7 G rfl rfl rfl rfl rfl rfl rfl rfl rfl rfl rfl ?_) | (with_reducible refine aQX ?_;first | (refine b11 rfl rfl ?_;refine zq ?_)) | skip
 repeat (first
  | (with_reducible refine aW ?_;with_reducible first | refine u4 ?_ | refine d4 ?_ | refine w7 ?_ | refine y9 ?_ | refine Y0 ?_)
  | (with_reducible refine aWL ?_;first | (refine a8 rfl ?_;first | (refine b10 rfl rfl ?_;refine zq ?_) | refine j7 G rfl rfl rfl rfl rfl rfl rfl rfl rfl rfl rfl ?_) | (refine u6 rfl rfl rfl ?_;first | (refine b10 rfl rfl ?_;refine zq ?_) | refine j7 G rfl rfl rfl rfl rfl rfl rfl rfl rfl rfl rfl ?_) | refine m7 rfl rfl rfl rfl rfl rfl ?_ | refine a6w rfl rfl rfl rfl rfl ?_ | with_reducible refine b4 ?_)
  | (with_reducible refine aQL ?_;first | (refine m4 rfl ?_;first | (refine b11 rfl rfl ?_;refine zq ?_)) | (refine a2Z rfl rfl rfl ?_;first | (refine b11 rfl rfl ?_;refine zq ?_)) | refine b09 rfl rfl rfl rfl rfl rfl ?_ | refine a6x rfl rfl rfl rfl rfl ?_ | with_reducible refine a8v ?_)
  | (with_reducible first | refine c2x ?_ | refine c2y ?_ | refine c2B ?_ | refine c2z ?_ | refine c2D ?_ | refine c2A ?_ | refine c2C ?_ | (refine c2E ?_ ?_;rotate_left)))
 exact kk.o):p:=h ⟨k⟩
theorem zgn {p q:Prop} (k:q) (h:Hd q→p:=by
 intro kk
 repeat (with_reducible first | refine u4 ?_ | refine d4 ?_ | refine w7 ?_)
 first | (with_reducible refine aWX ?_;first | (refine b10 rfl rfl ?_;refine zq ?_) | refine j7 G rfl rfl rfl rfl rfl rfl rfl rfl rfl rfl rfl ?_) | (with_reducible refine aQX ?_;first | (refine b11 rfl rfl ?_;refine zq ?_)) | skip
 repeat (first
  | (with_reducible refine aWL ?_;first | (refine a8 rfl ?_;first | (refine b10 rfl rfl ?_;refine zq ?_) | refine j7 G rfl rfl rfl rfl rfl rfl rfl rfl rfl rfl rfl ?_) | (refine u6 rfl rfl rfl ?_;first | (refine b10 rfl rfl ?_;refine zq ?_) | refine j7 G rfl rfl rfl rfl rfl rfl rfl rfl rfl rfl rfl ?_) | refine m7 rfl rfl rfl rfl rfl rfl ?_ | refine a6w rfl rfl rfl rfl rfl ?_)
  | (with_reducible refine aQL ?_;first | (refine m4 rfl ?_;first | (refine b11 rfl rfl ?_;refine zq ?_)) | (refine a2Z rfl rfl rfl ?_;first | (refine b11 rfl rfl ?_;refine zq ?_)) | refine b09 rfl rfl rfl rfl rfl rfl ?_ | refine a6x rfl rfl rfl rfl rfl ?_))
 with_reducible first | refine b4 ?_ | refine a8v ?_ | refine y9 ?_ | refine Y0 ?_
 repeat (with_reducible first | refine c2x ?_ | refine c2y ?_ | refine c2B ?_ | refine c2z ?_ | refine c2D ?_ | refine c2A ?_ | refine c2C ?_ | (refine c2E ?_ ?_;rotate_left))
 exact kk.o):p:=h ⟨k⟩
theorem znk {p q:Prop} (k:q) (h:Hd q→p:=by
 intro kk
 repeat (with_reducible first | refine c2x ?_ | refine c2y ?_ | refine c2B ?_ | refine c2z ?_ | refine c2D ?_ | refine c2A ?_ | refine c2C ?_ | (refine c2E ?_ ?_;rotate_left))
 exact kk.o):p:=h ⟨k⟩
theorem zst {p q:Prop} (k:q) (h:Hd q→p:=by
 intro kk
 first
  | (with_reducible refine aWX ?_;first | (refine b10 rfl rfl ?_;refine zq ?_) | refine j7 G rfl rfl rfl rfl rfl rfl rfl rfl rfl rfl rfl ?_)
  | (with_reducible refine aQX ?_;first | (refine b11 rfl rfl ?_;refine zq ?_))
  | (with_reducible refine aWL ?_;first | (refine a8 rfl ?_;first | (refine b10 rfl rfl ?_;refine zq ?_) | refine j7 G rfl rfl rfl rfl rfl rfl rfl rfl rfl rfl rfl ?_) | (refine u6 rfl rfl rfl ?_;first | (refine b10 rfl rfl ?_;refine zq ?_) | refine j7 G rfl rfl rfl rfl rfl rfl rfl rfl rfl rfl rfl ?_) | refine m7 rfl rfl rfl rfl rfl rfl ?_ | refine a6w rfl rfl rfl rfl rfl ?_)
  | (with_reducible refine aQL ?_;first | (refine m4 rfl ?_;first | (refine b11 rfl rfl ?_;refine zq ?_)) | (refine a2Z rfl rfl rfl ?_;first | (refine b11 rfl rfl ?_;refine zq ?_)) | refine b09 rfl rfl rfl rfl rfl rfl ?_ | refine a6x rfl rfl rfl rfl rfl ?_)
 exact kk.o):p:=h ⟨k⟩
theorem zgd {p q:Prop} (k:q) (h:Hd q→p:=by
 intro kk
 refine zgo ?_
 refine a4Y mixed (by kernel_rfl) ?_
 exact kk.o):p:=h ⟨k⟩
theorem zcd {p a b:Prop} {q1:a→Prop} {q2:b→Prop} (k1:∀ h,q1 h) (k2:∀ h,q2 h) (h:Hd (∀ h,q1 h)→Hd (∀ h,q2 h)→p:=by
 intro k1 k2
 refine zgo ?_
 first | refine r7 rfl (fun hc=>?_) (fun hc=>?_) | refine D4 rfl rfl rfl (fun hc=>?_) (fun hc=>?_) | refine b1a rfl rfl rfl (fun hc=>?_) (fun hc=>?_)
 ·(try rw [hc]);(try simp only [rfb] at hc);exact k1.o hc
 ·(try rw [hc]);(try simp only [rfb] at hc);exact k2.o hc):p:=h ⟨k1⟩ ⟨k2⟩
theorem zwt {p q:Prop} (k:q) (h:Hd q→p:=by
 intro kk
 refine zgo ?_
 refine J6 rfl ?_
 exact kk.o):p:=h ⟨k⟩
theorem zwf {p q:Prop} (k:q) (h:Hd q→p:=by
 intro kk
 refine zgo ?_
 refine a8f rfl ?_
 exact kk.o):p:=h ⟨k⟩
theorem zf1 {p q:Prop} (k:q) (h:Hd q→p:=by
 intro kk
 refine zgo ?_
 refine c6 (H1 rfl (c1 ?_))
 exact kk.o):p:=h ⟨k⟩
theorem zfo {p q:Prop} (k:q) (h:Hd q→p:=by
 intro kk
 refine zgo ?_
 refine c6 (H1 rfl (b7 rfl ?_))
 exact kk.o):p:=h ⟨k⟩
theorem zcl {p q c:Prop} (x:c) (k:q) (h:c→Hd q→p:=by
 intro x kk
 refine zgo ?_
 first | exact a8 rfl (b6 rfl rfl (f6 rfl (ArgsOK.of rfl) x rfl) kk.o) | exact u6 rfl rfl rfl (b6 rfl rfl (f6 rfl (ArgsOK.of rfl) x rfl) kk.o) | exact m4 rfl (u9 rfl rfl (f6 rfl (ArgsOK.of rfl) x rfl) kk.o) | exact a2Z rfl rfl rfl (u9 rfl rfl (f6 rfl (ArgsOK.of rfl) x rfl) kk.o)):p:=h x ⟨k⟩
theorem zsa (n:Nat) {p q:Prop} (k:q) (h:Hd q→Ph n p:=by
 intro kk
 first
 | (refine c3P rfl rfl rfl rfl (by kernel_rfl) (by kernel_rfl) rfl ?_;refine zq ?_)
 | (refine c3Q rfl rfl rfl rfl rfl rfl (by kernel_rfl) (by kernel_rfl) rfl ?_;refine zq ?_)
 | refine c3R rfl rfl rfl rfl rfl (by kernel_rfl) (by kernel_rfl) rfl rfl ?_
 | refine c3S rfl rfl rfl rfl (by kernel_rfl) (by kernel_rfl) rfl rfl ?_
 exact kk.o):p:=h ⟨k⟩
end Go.Rf
