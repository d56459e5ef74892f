/- Texts merged into one: RfNK, RfQ, RfY, RfNM, RfNQ, RfNR, RfNS, RfNT, RfMA, RfNV, RfMB, RfMC, RfMD, RfNU, RfME, RfMF, RfMG, RfMH, RfMI, RfMJ, RfNX, RfNW, RfNP, RfMK. -/
import Derived.Test.YtpfhomblkgmkkaaGreatDoorLibC
import Derived.Sort.Row
import Derived.Sort.Grow
import Derived.Lib.SliceRun
import Derived.Lib.Join
set_option linter.unusedSectionVars false
set_option linter.unusedSimpArgs false
set_option linter.unusedVariables false
namespace Go.Rf
open Go Go.RowKit Go.Sort
def srtI (l:List Int):List Int:=l.mergeSort fun x y=>decide (x≤y)
theorem U6 {l:List Int}:(srtI l).length=l.length:=List.length_mergeSort l
theorem a3R (l:List Int):(srtI l).Perm l:=List.mergeSort_perm l _
theorem a6S (l:List Int):(l.map r9).flatten=l.map (Value.int .i64):=by
 induction l with
 | nil=>rfl
 | cons x l ih=>simp only [List.map_cons,List.flatten_cons,ih];rfl
theorem CtrM.sort {P:Program} [Env P] {f e:Nat} (hc:Callable P f) {l:List Int} (hl:l.length≤1048576)
 (h:∀ (blk off cap:Nat) (w:World),Holds (Value.int .i64) w blk off l.toArray→blk < w.heap.size→l.length < 4611686018427387904→Calls P f #[.slice (some ⟨blk,off,none⟩) l.length cap] w fun e w'=>e=.returned (.tuple #[])∧∃ n os,w'=grow (putRow (Value.int .i64) (Sort.ahead w n) blk off (l.mergeSort fun x y=>decide (x≤y)).toArray) os)
 (h0:∀ (p:Option Addr) (cap:Nat) (w:World),Calls P f #[.slice p 0 cap] w fun e w'=>e=.returned (.tuple #[])∧w'=w) :
 CtrM P f [.own 0] [.row e 1 (l.map r9)] (.many []) [some (.row e 1 ((srtI l).map r9))]:=by
 refine ⟨hc,fun w0 _ ρ m nx ids w vs hr hnd hC hv=>?_⟩
 cases hr with
 | @cons id ids r rs hm hr' =>
  cases hr'
  obtain ⟨y,ys,rfl,hy,hys⟩:∃ y ys,vs=y :: ys∧RelV w0.w ρ nx (.own id) y∧RelVs w0.w ρ nx [] ys:=by
   simp only [renAs,a3d,RelVs] at hv
   obtain ⟨y,ys,e,h1,h2⟩:=hv
   exact ⟨y,ys,e,by simpa using h1,by simpa only [RelVs] using h2⟩
  have hys:ys=[]:=by simpa only [RelVs] using hys
  subst hys
  simp only [RelV] at hy
  obtain ⟨hid,rfl⟩:=hy
  obtain ⟨hrow,hall⟩:=hC.row hm
  have fin:∀ w',RelC w0 ρ ((id,some (.row e 1 ((srtI l).map r9))) :: m) nx w'→∃ v ρ',Ending.returned (.tuple #[])=.returned v∧(∀ i,i < nx→ρ' i=ρ i)∧nx≤(instR (.many []) nx (aft [id] [some (.row e 1 ((srtI l).map r9))] m)).2.2∧RelV w0.w ρ' (instR (.many []) nx (aft [id] [some (.row e 1 ((srtI l).map r9))] m)).2.2 (instR (.many []) nx (aft [id] [some (.row e 1 ((srtI l).map r9))] m)).1 v ∧
   RelC w0 ρ' (instR (.many []) nx (aft [id] [some (.row e 1 ((srtI l).map r9))] m)).2.1 (instR (.many []) nx (aft [id] [some (.row e 1 ((srtI l).map r9))] m)).2.2 w':=fun w' hC' =>
   ⟨.tuple #[],ρ,rfl,fun _ _=>rfl,Nat.le_refl _,by show RelV w0.w ρ nx (.tup []) (.tuple #[]);simp only [RelV];exact ⟨[],rfl,by simp only [RelVs]⟩,hC'⟩
  have hlen:(l.map r9).length=l.length:=List.length_map _
  by_cases hz:l.length=0
  ·have hl0:l=[]:=List.eq_nil_of_length_eq_zero hz
   subst hl0
   obtain ⟨p,cap,hs⟩:∃ p cap,ρ id=.slice p 0 cap:=by
    rcases hrow.2 with ⟨h1,_⟩ | ⟨g,cap,cur,h1,_⟩
    ·exact ⟨_,_,h1⟩
    ·exact ⟨_,_,h1⟩
   rw [hs]
   refine (h0 p cap w).mono fun ex w' ⟨he,hw⟩=>?_
   subst he;subst hw
   refine fin w' (hC.sub fun i r hr=>?_)
   by_cases e1:id=i
   ·subst e1;rw [l2] at hr;cases hr;rw [show srtI []=[] from List.eq_nil_of_length_eq_zero (by rw [U6];rfl)];exact hm
   ·rw [f7 e1] at hr;exact hr
  ·rcases hrow.2 with ⟨_,h1⟩ | ⟨g,cap,cur,hs,hB,hb,hcp,hmx,hcur,htake⟩
   ·rw [hlen] at h1;exact absurd h1 hz
   ·rw [hlen] at hs hcp htake
    have hfl:=a6S l
    rw [hfl,Nat.mul_one] at htake
    have hcell:∀ j,j < l.length→cur[j]?=some (.int .i64 (l[j]!)):=fun j hj=>by
     have:(cur.toList.take l.length)[j]?=(l.map (Value.int .i64))[j]?:=by rw [htake]
     rw [List.getElem?_take,if_pos hj,List.getElem?_map,List.getElem?_eq_getElem hj] at this
     rw [← Array.getElem?_toList,this,getElem!_pos l j hj]
     rfl
    have hH:Holds (Value.int .i64) w g 0 l.toArray:=fun j hj=>by
     have hj:j < l.length:=by simpa using hj
     refine ⟨?_,?_⟩
     ·simp only [World.cell?,hb,Nat.zero_add]
      have:=hcell j hj
      simpa using this
     ·simp [World.frozen?,hb]
    have hg:g < w.heap.size:=(Array.getElem?_eq_some_iff.1 hb).1
    rw [hs]
    refine (h g 0 cap w hH hg (by omega)).mono fun ex w' ⟨he,n,os,hw⟩=>?_
    subst he
    have hheap:w'.heap[g]?=some (.cells (putCells (Value.int .i64) 0 (srtI l).toArray cur) e (0,0)):=by
     subst hw
     show ((w.heap.modify g _)++os)[g]?=_
     rw [Array.getElem?_append_left (by simpa using hg),Array.getElem?_modify,if_pos rfl,hb]
     rfl
    refine fin w' (hC.change hm (by rw [hs];rfl) ?_ hB ⟨⟨?_,.inr ⟨g,cap,_,by rw [List.length_map,U6];exact hs,hB,hheap,by rw [List.length_map,U6];exact hcp,hmx,?_,?_⟩⟩,?_⟩)
    ·subst hw
     refine ⟨rfl,rfl,rfl,?_,fun k hk hne=>?_⟩
     ·show w.heap.size≤((w.heap.modify g _)++os).size
      simp
     ·show ((w.heap.modify g _)++os)[k]?=_
      have hgk:g≠k:=fun e1=>hne (by rw [e1])
      rw [Array.getElem?_append_left (by simpa using hk),Array.getElem?_modify,if_neg hgk]
    ·rw [a6S];simp [U6]
    ·unfold putCells;simp;simpa using hcur
    ·rw [List.length_map,U6,a6S,Nat.mul_one]
     apply List.ext_getElem?
     intro j
     by_cases hj:j < l.length
     ·rw [List.getElem?_take,if_pos hj,Array.getElem?_toList]
      unfold putCells
      rw [Array.getElem?_mapIdx,hcell j hj,List.getElem?_map]
      have hj2:j < (srtI l).length:=by rw [U6];exact hj
      rw [List.getElem?_eq_getElem hj2]
      simp only [Option.map_some,Nat.zero_le,true_and,Nat.zero_add,Nat.sub_zero]
      rw [if_pos (by simpa using hj2)]
      congr 2
      rw [getElem!_pos (srtI l).toArray j (by simpa using hj2)]
      simp
     ·rw [List.getElem?_take,if_neg hj,List.getElem?_eq_none (by rw [List.length_map,U6];omega)]
    ·intro c hc
     obtain ⟨x,_,rfl⟩:=List.mem_map.1 hc
     exact ⟨rfl,fun u hu=>by simp [r9] at hu;subst hu;rfl⟩
end Go.Rf
namespace Go.Rf
open Go Go.RowKit
section
variable {P:Program} [Env P] {w0:Base} {ops:Array Oper} {tb:List (Nat×TyI)} {o:Oper} {rest:List Oper} {T:List (Nat×AV)} {m:List (Nat×Option Row)} {nx nt d:Nat} {Q:Exit→St→Prop}
theorem b9j [EnvAt P w0] {x:Operand} {t t' e sz sz' by_:Nat} {zs:List Value} {ys:List (List Value)} (G:Good P tb) (hd:o.dst=some d) (hlt:Nat.blt d nt=true) (ho:o.op=.binOp .eql t x (.const (.slice none 0 0)) t') (ht:look t tb=some (.slice e sz' by_ zs)) (hx:ev T x=some (.lst sz ys))
 (hk:∀ b,(b=true→ys=[])→WL P w0 ops rest ⟨(d,.v (.bool b)) :: T,m,nx,nt⟩ Q):WX P w0 ops o rest ⟨T,m,nx,nt⟩ Q:=by
 intro ρ a w hT hC
 have h:=hT.ev hx
 simp only [RelV] at h
 obtain ⟨A,cap,he,_,_,hs⟩:=h
 obtain ⟨hu,_⟩:=G t _ ht
 have hn:(execOp a.eval o).run P w=.ok (.value (.bool A.isNone)) w:=by
  have h2:a.eval (.const (.slice none 0 0))=.slice none 0 0:=rfl
  simp [execOp,ho,he,h2,eqGuard,Go.Lib.run_eql_slice_nil w t e A ys.length cap 0 0 hu]
 unfold Oper.wp
 rw [hn,Oper.upon_value,hd]
 refine hk A.isNone (fun hb=>?_) ρ _ _ (hT.put hlt (by simp only [RelV])) hC
 cases ys with
 | nil=>rfl
 | cons c ys =>
  obtain ⟨ad,rfl,_⟩:=hs (by simp)
  cases hb
end
end Go.Rf
namespace Go.Rf
open Go
section
variable {α:Type} [Inhabited α] {f:α→List Value} {g g':Nat→α} {n k:Nat}
theorem c1y (h:k < n):(pre g n)[k]?=some (g k):=by simp [pre,h]
theorem a89 (h:k < n):(pre g n).getD k default=g k:=by simp [c1y h]
end
structure Route where
 p:Int
 t:Int
 deriving Inhabited,DecidableEq
def p8 (x:Route):List Value:=[.int .i64 x.p,.int .i64 x.t]
def a9a (x:Route):Value:=.agg ⟨p8 x⟩
structure MStep where
 k:Int
 q:Int
 c:Int
 v:Int
 deriving Inhabited,DecidableEq
def c3m (x:MStep):List Value:=[.int .i64 x.k,.int .i64 x.q,.int .i64 x.c,.int .i64 x.v]
def b61 (x:MStep):Value:=.agg ⟨c3m x⟩
structure Abs where
 en:List Bool
 ra:List Bool
 po:List Bool
 ma:List Int
 st:List (List Int)
 deriving Inhabited,DecidableEq
def a5D (l:List Int):List CI:=[.l 3 1 (l.map r9)]
def b3N (x y:Route):Bool:=x.p==y.p && x.t==y.t
theorem b2M {x y:Route}:b3N x y=true↔x=y:=by cases x;cases y;simp [b3N]
def lenN (xss:List (List Int)):Nat→Int
 | 0=>0
 | i+1=>lenN xss i+(xss.getD i default).length
theorem b54 {xss:List (List Int)} {i:Nat}:lenN xss (i+1)=lenN xss i+(xss.getD i default).length:=rfl
def szL (n:Nat) (l:Int):Int:=if l - n < 0 then -1 else l - n
structure SmallA (a:Abs):Prop where
 en:a.en.length≤1048576
 ra:a.ra.length≤1048576
 po:a.po.length≤1048576
 ma:a.ma.length≤1048576
 st:a.st.length≤1048576
 all:∀ i,i < a.st.length→(a.st.getD i default).length≤1048576
 sum:lenN a.st a.st.length≤1048576
theorem c1z {n:Nat} {l:Int} (h:0≤szL n l):szL n l=l - n∧(n:Int)≤l:=by
 unfold szL at *
 split at h<;>first | omega | (rw [if_neg (by omega)];omega)
def a9b (c:Int) (r:Route):Bool:=m8 r.p 0 15 && m8 r.t 0 (c - 1)
def okRts (rs:List Route) (c:Int):Bool:=m8 c 1 2 && (decide (rs.length=8) && a1m rs.length (fun i=>a9b c (rs.getD i default)))
def prI (rs:List Route) (x:Int):Int:=(rs.getD x.toNat default).p
def tgI (rs:List Route) (x:Int):Int:=(rs.getD x.toNat default).t
theorem I3 {rs:List Route} {c:Int}:okRts rs c=true↔(1≤c∧c≤2)∧rs.length=8∧∀ i,i < 8→(0≤(rs.getD i default).p∧(rs.getD i default).p≤15)∧0≤(rs.getD i default).t∧(rs.getD i default).t≤c - 1:=by
 simp only [okRts,Bool.and_eq_true,p7,decide_eq_true_eq,U0,a9b]
 constructor
 ·rintro ⟨h1,h2,h3⟩;exact ⟨h1,h2,fun i hi=>h3 i (by omega)⟩
 ·rintro ⟨h1,h2,h3⟩;exact ⟨h1,h2,fun i hi=>h3 i (by omega)⟩
end Go.Rf
namespace Go.Rf
theorem c4f {n:Nat}:((n:Int)==8)=decide (n=8):=by
 by_cases h:n=8
 ·subst h;rfl
 ·have:¬ ((n:Int)=8):=by omega
  simp [h,this]
theorem Y7 {x a b:Int} (h:m8 x a b=false):¬ (a≤x∧x≤b):=fun hh=>by rw [p7.mpr hh] at h;exact absurd h (by decide)
end Go.Rf
namespace Go.Rf
open Go
def w9 (rs:List Route) (a:Abs) (c:Nat):Nat→Int
 | 0=>-1
 | i+1=>if (a.po.getD i default=true∧(rs.getD i default).t=c)∧(w9 rs a c i < 0∨(rs.getD i default).p < (rs.getD (w9 rs a c i).toNat default).p) then i else w9 rs a c i
theorem a1a {rs:List Route} {a:Abs} {c i:Nat}:w9 rs a c (i+1)=if (a.po.getD i default=true∧(rs.getD i default).t=c)∧(w9 rs a c i < 0∨(rs.getD i default).p < (rs.getD (w9 rs a c i).toNat default).p) then (i:Int) else w9 rs a c i:=rfl
theorem a5E {rs:List Route} {a:Abs} {c:Nat}:∀ i,-1≤w9 rs a c i∧w9 rs a c i < i
 | 0=>by simp [w9]
 | i+1=>by
  have:=@a5E rs a c i
  rw [a1a]
  split<;>omega
def D8 (rs:List Route) (a:Abs) (c:Nat) (L:Int):Nat→Int×Int
 | 0=>(-1,L)
 | i+1=>if (a.po.getD i default=true∧(rs.getD i default).t=c)∧(rs.getD i default).p < (D8 rs a c L i).2 then (i,(rs.getD i default).p) else D8 rs a c L i
theorem a2x {rs:List Route} {a:Abs} {c i:Nat} {L:Int}:D8 rs a c L (i+1)=if (a.po.getD i default=true∧(rs.getD i default).t=c)∧(rs.getD i default).p < (D8 rs a c L i).2 then ((i:Int),(rs.getD i default).p) else D8 rs a c L i:=rfl
theorem b1v {rs:List Route} {a:Abs} {c:Nat} {L:Int}:∀ i,D8 rs a c L i=if 0≤w9 rs a c i∧(rs.getD (w9 rs a c i).toNat default).p < L then (w9 rs a c i,(rs.getD (w9 rs a c i).toNat default).p) else (-1,L)
 | 0=>by simp [D8,w9]
 | i+1=>by
  have ih:=@b1v rs a c L i
  have hb:=@a5E rs a c i
  by_cases h:(a.po.getD i default=true∧(rs.getD i default).t=c)∧(w9 rs a c i < 0∨(rs.getD i default).p < (rs.getD (w9 rs a c i).toNat default).p)
  ·have e:w9 rs a c (i+1)=i:=by rw [a1a,if_pos h]
   rw [a2x,ih,e]
   simp only [Int.toNat_natCast]
   by_cases h2:0≤w9 rs a c i∧(rs.getD (w9 rs a c i).toNat default).p < L
   ·rw [if_pos h2,if_pos ⟨h.1,by show (rs.getD i default).p < (rs.getD (w9 rs a c i).toNat default).p;omega⟩,if_pos (by omega)]
   ·rw [if_neg h2]
    by_cases h3:(rs.getD i default).p < L
    ·rw [if_pos ⟨h.1,h3⟩,if_pos (by omega)]
    ·rw [if_neg (fun q=>h3 q.2),if_neg (by omega)]
  ·have e:w9 rs a c (i+1)=w9 rs a c i:=by rw [a1a,if_neg h]
   rw [a2x,ih,e]
   refine if_neg fun q=>h ⟨q.1,?_⟩
   have q2:=q.2
   by_cases h2:0≤w9 rs a c i∧(rs.getD (w9 rs a c i).toNat default).p < L
   ·rw [if_pos h2] at q2;exact .inr q2
   ·rw [if_neg h2] at q2
    have q3:(rs.getD i default).p < L:=q2
    omega
theorem b62 {rs:List Route} {a:Abs} {c:Nat} {L:Int} (i:Nat):-1≤(D8 rs a c L i).1∧(D8 rs a c L i).1 < i:=by
 have hb:=@a5E rs a c i
 rw [b1v]
 split
 ·exact hb
 ·exact ⟨Int.le_refl _,by show (-1:Int) < _;omega⟩
def b55 (rs:List Route) (l:List Int):Int:=(rs.getD (l.getD (l.length - 1) default).toNat default).p
def a9c (rs:List Route) (a:Abs) (c:Nat):Int:=if (a.st.getD c default).length=0 then a.ma.getD c default else min (a.ma.getD c default) (b55 rs (a.st.getD c default))
def D9 (rs:List Route) (a:Abs) (c:Nat):Int:=if (a.st.getD c default).length=4 then -1 else (D8 rs a c (a9c rs a c) 8).1
theorem a9d {rs:List Route} {a:Abs} {c:Nat}:-1≤D9 rs a c∧D9 rs a c < 8:=by
 unfold D9
 split
 ·omega
 ·exact b62 8
theorem b4C {rs:List Route} {a:Abs} {c:Nat}:D9 rs a c=if w9 rs a c 8 < 0∨(a.st.getD c default).length=4∨a.ma.getD c default≤(rs.getD (w9 rs a c 8).toNat default).p∨(0 < (a.st.getD c default).length∧b55 rs (a.st.getD c default)≤(rs.getD (w9 rs a c 8).toNat default).p) then -1 else w9 rs a c 8:=by
 unfold D9 a9c
 rw [b1v]
 by_cases h4:(a.st.getD c default).length=4
 ·rw [if_pos h4,if_pos (.inr (.inl h4))]
 ·rw [if_neg h4]
  by_cases h0:(a.st.getD c default).length=0
  ·rw [if_pos h0]
   split
   ·next h=>rw [if_neg (by omega)]
   ·next h=>rw [if_pos (by omega)]
  ·rw [if_neg h0]
   split
   ·next h=>rw [if_neg (by omega)]
   ·next h=>rw [if_pos (by omega)]
end Go.Rf
namespace Go.Rf
structure AbsF (rs:List Route) (a:Abs):Prop where
 n:1≤a.ma.length∧a.ma.length≤2
 rn:rs.length=8
 st:a.st.length=a.ma.length
 en:a.en.length=8
 ra:a.ra.length=8
 po:a.po.length=8
 rt:∀ i,i < 8→0≤(rs.getD i default).t∧(rs.getD i default).t < a.ma.length
 len:∀ c,c < a.ma.length→(a.st.getD c default).length≤4
 el:∀ c,c < a.ma.length→∀ i,i < (a.st.getD c default).length→0≤(a.st.getD c default).getD i default∧(a.st.getD c default).getD i default≤7
theorem AbsF.small {rs:List Route} {a:Abs} (h:AbsF rs a):SmallA a:=by
 have h1:=h.n
 have hl:lenN a.st a.st.length≤1048576:=by
  have:∀ i,i≤a.ma.length→lenN a.st i≤4 * i:=by
   intro i
   induction i with
   | zero=>intro _;exact Int.le_refl _
   | succ i ih=>intro hi;rw [b54];have:=ih (by omega);have:=h.len i (by omega);omega
  have:=this a.st.length (by rw [h.st];exact Nat.le_refl _)
  have:=h.st
  omega
 exact ⟨by rw [h.en];decide,by rw [h.ra];decide,by rw [h.po];decide,by omega,by rw [h.st];omega,fun i hi=>Nat.le_trans (h.len i (by rw [← h.st];exact hi)) (by decide),hl⟩
theorem A2 {rs:List Route} {a:Abs} {c i:Nat} {L:Int} (h1:a.po.getD i default=true) (h2:(rs.getD i default).t=c) (h3:(rs.getD i default).p < (D8 rs a c L i).2):D8 rs a c L (i+1)=((i:Int),(rs.getD i default).p):=by rw [a2x,if_pos ⟨⟨h1,h2⟩,h3⟩]
theorem p9 {rs:List Route} {a:Abs} {c i:Nat} {L:Int} (h:a.po.getD i default=true→(rs.getD i default).t=c→¬ (rs.getD i default).p < (D8 rs a c L i).2):D8 rs a c L (i+1)=D8 rs a c L i:=by rw [a2x,if_neg (fun q=>h q.1.1 q.1.2 q.2)]
theorem Z6 {rs:List Route} {a:Abs} {c i:Nat} (h1:a.po.getD i default=true) (h2:(rs.getD i default).t=c) (h3:w9 rs a c i < 0∨(rs.getD i default).p < (rs.getD (w9 rs a c i).toNat default).p):w9 rs a c (i+1)=(i:Int):=by rw [a1a,if_pos ⟨⟨h1,h2⟩,h3⟩]
theorem w5 {rs:List Route} {a:Abs} {c i:Nat} (h:a.po.getD i default=true→(rs.getD i default).t=c→¬ (w9 rs a c i < 0∨(rs.getD i default).p < (rs.getD (w9 rs a c i).toNat default).p)):w9 rs a c (i+1)=w9 rs a c i:=by rw [a1a,if_neg (fun q=>h q.1.1 q.1.2 q.2)]
theorem a6T {rs:List Route} {a:Abs} {c:Nat} (h:(a.st.getD c default).length=0):a9c rs a c=a.ma.getD c default:=by unfold a9c;rw [if_pos h]
theorem a6U {rs:List Route} {a:Abs} {c:Nat} (h:0 < (a.st.getD c default).length):a9c rs a c=min (a.ma.getD c default) (rs.getD ((a.st.getD c default).getD (((a.st.getD c default).length:Int) - 1).toNat default).toNat default).p:=by
 unfold a9c
 rw [if_neg (by omega),show (((a.st.getD c default).length:Int) - 1).toNat=(a.st.getD c default).length - 1 by omega]
 rfl
theorem b9k {rs:List Route} {a:Abs} {c:Nat} (h:(a.st.getD c default).length=4):D9 rs a c=-1:=by unfold D9;rw [if_pos h]
theorem b9l {rs:List Route} {a:Abs} {c i:Nat} (h:(a.st.getD c default).length≠4) (hi:i=8):D9 rs a c=(D8 rs a c (a9c rs a c) i).1:=by unfold D9;rw [if_neg h,hi]
theorem b9m {rs:List Route} {a:Abs} {c i:Nat} (hi:i=8) (h:w9 rs a c i < 0∨(a.st.getD c default).length=4∨a.ma.getD c default≤(rs.getD (w9 rs a c i).toNat default).p∨(0 < (a.st.getD c default).length∧b55 rs (a.st.getD c default)≤(rs.getD (w9 rs a c i).toNat default).p)):D9 rs a c=-1:=by subst hi;rw [b4C,if_pos h]
theorem b9n {rs:List Route} {a:Abs} {c i:Nat} (hi:i=8) (h:¬ (w9 rs a c i < 0∨(a.st.getD c default).length=4∨a.ma.getD c default≤(rs.getD (w9 rs a c i).toNat default).p∨(0 < (a.st.getD c default).length∧b55 rs (a.st.getD c default)≤(rs.getD (w9 rs a c i).toNat default).p))):D9 rs a c=w9 rs a c i:=by subst hi;rw [b4C,if_neg h]
end Go.Rf
namespace Go.Rf
open Go
def M6 (n:Int) (s:MStep):Bool :=
 if s.k=1 then m8 s.q 0 7 && (decide (s.c=0) && decide (s.v=0))
 else if s.k=2 then decide (s.q=0) && (decide (s.c=0) && decide (s.v=0))
 else if s.k=3∨s.k=4 then decide (s.q=0) && (m8 s.c 0 (n - 1) && decide (s.v=0))
 else if s.k=5 then decide (s.q=0) && (m8 s.c 0 (n - 1) && m8 s.v 0 16)
 else decide (s.k=6) && (m8 s.q 0 7 && (decide (s.c=0) && m8 s.v 0 1))
def a9e (l:List Int) (v:Int):Bool:=a0g l.length (fun j=>decide (v=l.getD j default))
def c3n (rs:List Route) (a:Abs) (i:Nat):Bool:=a.en.getD i default && (a.ra.getD i default && !a9e (a.st.getD (rs.getD i default).t.toNat default) i)
def b63 (rs:List Route) (a:Abs):Nat→List Bool
 | 0=>a.ra
 | i+1=>if c3n rs a i then (b63 rs a i).set i false else b63 rs a i
def b64 (rs:List Route) (a:Abs):Nat→List Bool
 | 0=>a.po
 | i+1=>if c3n rs a i then (b64 rs a i).set i true else b64 rs a i
def c0o (rs:List Route) (a:Abs):Abs:=⟨a.en,b63 rs a 8,b64 rs a 8,a.ma,a.st⟩
def b65 (rs:List Route) (a:Abs) (s:MStep):Abs×Int×Bool :=
 if s.k=1 then ({a with ra:=a.ra.set s.q.toNat true},-1,!(a.ra.getD s.q.toNat default))
 else if s.k=2 then (c0o rs a,-1,true)
 else if s.k=3 then
  if D9 rs a s.c.toNat < 0 then (a,-1,false)
  else ({a with po:=a.po.set (D9 rs a s.c.toNat).toNat false,st:=a.st.set s.c.toNat (a.st.getD s.c.toNat default++[D9 rs a s.c.toNat])},D9 rs a s.c.toNat,true)
 else if s.k=4 then
  if (a.st.getD s.c.toNat default).length=0 then (a,-1,false)
  else ({a with st:=a.st.set s.c.toNat ((a.st.getD s.c.toNat default).take ((a.st.getD s.c.toNat default).length - 1))},(a.st.getD s.c.toNat default).getD ((a.st.getD s.c.toNat default).length - 1) default,true)
 else if s.k=5 then ({a with ma:=a.ma.set s.c.toNat s.v},-1,true)
 else ({a with en:=a.en.set s.q.toNat (decide (s.v=1))},-1,true)
end Go.Rf
namespace Go.Rf
theorem b9o {n k q c v:Int} (h:M6 n ⟨k,q,c,v⟩=true) (hk:k=1∨k=6):0≤q∧q≤7:=by
 rcases hk with rfl | rfl
 ·simp [M6,p7] at h;exact h.1
 ·simp [M6,p7] at h;exact h.1
theorem b1w {n k q c v:Int} (h:M6 n ⟨k,q,c,v⟩=true) (hk:k=3∨k=4∨k=5):0≤c∧c≤n - 1:=by
 rcases hk with rfl | rfl | rfl
 ·simp [M6,p7] at h;omega
 ·simp [M6,p7] at h;omega
 ·simp [M6,p7] at h;omega
theorem c3o {n k q c v:Int} (h:M6 n ⟨k,q,c,v⟩=true):1≤k∧k≤6:=by
 by_cases h1:k=1
 ·omega
 by_cases h2:k=2
 ·omega
 by_cases h3:k=3
 ·omega
 by_cases h4:k=4
 ·omega
 by_cases h5:k=5
 ·omega
 by_cases h6:k=6
 ·omega
 simp [M6,h1,h2,h3,h4,h5,h6] at h
end Go.Rf
namespace Go.Rf
open Go
theorem a2T {l:List (List CI)} {c:List CI} {i j:Nat} (h:j < l.length) (hj:j=i):(l.set i c)[j]?=some c:=by
 subst hj
 simp [h]
end Go.Rf
namespace Go.Rf
section
variable {rs:List Route} {a:Abs} {sk sq sc sv:Int} {q c:Nat}
theorem mk1 (h:sk=1):b65 rs a ⟨sk,(q:Int),sc,sv⟩=({a with ra:=a.ra.set q true},-1,!(a.ra.getD q default)):=by subst h;rfl
theorem mk2 (h:sk=2):b65 rs a ⟨sk,sq,sc,sv⟩=(c0o rs a,-1,true):=by subst h;rfl
theorem mk3 (h:sk=3) (hn:¬ D9 rs a c < 0):b65 rs a ⟨sk,sq,(c:Int),sv⟩=({a with po:=a.po.set (D9 rs a c).toNat false,st:=a.st.set c (a.st.getD c default++[D9 rs a c])},D9 rs a c,true):=by
 subst h
 show (if D9 rs a c < 0 then _ else _)=_
 rw [if_neg hn]
 rfl
end
section
variable {rs:List Route} {a:Abs} {s:MStep}
end
end Go.Rf
namespace Go.Rf
open Go
section
variable {k:Int} {xss:List (List Int)}
end
end Go.Rf
namespace Go.Rf
end Go.Rf
namespace Go.Rf
open Go
structure Slot where
 s:Int
 q:Int
 p:Int
 deriving Inhabited,DecidableEq
def j8 (x:Slot):List Value:=[.int .i64 x.s,.int .i64 x.q,.int .i64 x.p]
def a7w (x:Slot):Value:=.agg ⟨j8 x⟩
structure Wtr where
 q:Int
 p:Int
 deriving Inhabited,DecidableEq
def l1 (x:Wtr):List Value:=[.int .i64 x.q,.int .i64 x.p]
def a4j (x:Wtr):Value:=.agg ⟨l1 x⟩
structure Que where
 sl:List Slot
 wa:List Wtr
 deriving Inhabited,DecidableEq
structure Ifc where
 ma:Int
 st:List Int
 qu:Que
 deriving Inhabited,DecidableEq
structure Mach where
 rs:List Route
 en:List Bool
 ra:List Bool
 cp:List Ifc
 deriving Inhabited,DecidableEq
def zSl:Slot:=⟨0,0,0⟩
def wOf (x:Slot):Wtr:=⟨x.q,x.p⟩
def fdP (irq:Int) (x:Slot):Bool:=!(decide (x.s=0)) && decide (x.q=irq)
def u7 (sl:List Slot) (irq:Int):Int:=G5 (fun i=>fdP irq (sl.getD i default)) sl.length
def emP (x:Slot):Bool:=decide (x.s=0)
def freS (sl:List Slot):Int:=G5 (fun i=>emP (sl.getD i default)) sl.length
def a7D (x:Slot):Bool:=m8 x.s 1 3 && (m8 x.q 0 7 && m8 x.p 0 15)
def G9 (sl:List Slot) (i:Nat):Bool:=if (sl.getD i default).s=0 then decide (sl.getD i default=zSl) else a7D (sl.getD i default) && !(a0g i (fun j=>fdP (sl.getD i default).q (sl.getD j default)))
def a4E (sl:List Slot):Bool:=decide (sl.length=4) && a1m sl.length (G9 sl)
def a4F (x y:Int):Int:=if x < y then -1 else if y < x then 1 else 0
def urg (a b:Wtr):Int:=if a4F a.p b.p=0 then a4F a.q b.q else a4F a.p b.p
def lessW (a b:Wtr):Bool:=decide (a.p < b.p) || (decide (a.p=b.p) && decide (a.q < b.q))
theorem Y8 {a b:Wtr}:lessW a b=true↔a.p < b.p∨(a.p=b.p∧a.q < b.q):=by simp [lessW]
theorem b2N {a b:Wtr}:lessW a b=false↔¬ (a.p < b.p∨(a.p=b.p∧a.q < b.q)):=by rw [← Bool.not_eq_true,Y8]
theorem a0M {a b:Wtr}:urg a b < 0↔lessW a b=true:=by
 rw [Y8];unfold urg a4F
 by_cases h1:a.p < b.p
 ·simp [h1]
 ·by_cases h2:b.p < a.p
  ·simp [h1,h2];omega
  ·have:a.p=b.p:=by omega
   simp [this]
   by_cases h3:a.q < b.q
   ·simp [h3]
   ·simp [h3]
    split<;>omega
theorem b9p {a b:Wtr}:0 < urg a b↔lessW b a=true:=by
 rw [Y8];unfold urg a4F
 by_cases h1:a.p < b.p
 ·simp [h1];omega
 ·by_cases h2:b.p < a.p
  ·simp [h1,h2]
  ·have:a.p=b.p:=by omega
   simp [this]
   by_cases h3:a.q < b.q
   ·simp [h3];omega
   ·simp [h3]
    split
    ·simp;omega
    ·simp;omega
theorem a9f {a b:Wtr} (h:lessW a b=true):lessW b a=false:=by rw [Y8] at h;rw [b2N];omega
theorem a3m {a b c:Wtr} (h:lessW a b=true) (h':lessW b c=true):lessW a c=true:=by rw [Y8] at *;omega
theorem a3S {a b:Wtr} (h:a.q≠b.q):lessW a b=!(lessW b a):=by
 cases h1:lessW b a
 ·rw [b2N] at h1;show _=true;rw [Y8];omega
 ·exact a9f h1
def a4G (sl:List Slot) (most:Bool) (b:Int) (i:Nat):Bool:=decide ((sl.getD i default).s=1) && (decide (b < 0) || (if most then lessW (wOf (sl.getD i default)) (wOf (sl.getD b.toNat default)) else lessW (wOf (sl.getD b.toNat default)) (wOf (sl.getD i default))))
def I5 (sl:List Slot) (most:Bool):Nat→Int
 | 0=>-1
 | i+1=>if a4G sl most (I5 sl most i) i then (i:Int) else I5 sl most i
theorem a11 {sl:List Slot} {most:Bool} {i:Nat}:I5 sl most (i+1)=if a4G sl most (I5 sl most i) i then (i:Int) else I5 sl most i:=rfl
theorem s4 {sl:List Slot} {most:Bool} {i:Nat} (h:a4G sl most (I5 sl most i) i=true):I5 sl most (i+1)=(i:Int):=by rw [a11,if_pos h]
theorem s5 {sl:List Slot} {most:Bool} {i:Nat} (h:a4G sl most (I5 sl most i) i=false):I5 sl most (i+1)=I5 sl most i:=by rw [a11,if_neg (by rw [h];decide)]
theorem a2y {sl:List Slot} {most:Bool}:∀ i,-1≤I5 sl most i∧I5 sl most i < i
 | 0=>by simp [I5]
 | i+1=>by
  have:=@a2y sl most i
  rw [a11]
  split<;>omega
theorem a5F {sl:List Slot} {most:Bool}:∀ i,0≤I5 sl most i→(sl.getD (I5 sl most i).toNat default).s=1
 | 0=>by simp [I5]
 | i+1=>by
  have ih:=@a5F sl most i
  rw [a11]
  split
  ·next h =>
   intro _
   simp only [a4G,Bool.and_eq_true,decide_eq_true_eq] at h
   simpa using h.1
  ·exact ih
theorem b2O {sl:List Slot} {most:Bool}:∀ i,I5 sl most i < 0↔∀ j,j < i→(sl.getD j default).s≠1
 | 0=>by simp [I5]
 | i+1=>by
  have ih:=@b2O sl most i
  rw [a11]
  constructor
  ·intro h j hj
   split at h
   ·omega
   ·next hc =>
    have h':=ih.mp h
    by_cases e:j=i
    ·subst e
     intro hs
     apply hc
     simp only [a4G,Bool.and_eq_true,decide_eq_true_eq,Bool.or_eq_true]
     exact ⟨hs,.inl h⟩
    ·exact h' j (by omega)
  ·intro h
   rw [if_neg]
   ·exact ih.mpr fun j hj=>h j (by omega)
   ·simp only [a4G,Bool.and_eq_true,decide_eq_true_eq]
    exact fun g=>h i (by omega) g.1
def bstS (sl:List Slot) (most:Bool):Int:=I5 sl most sl.length
def b66 (sl:List Slot):Prop:=∀ i j,i < j→j < sl.length→(sl.getD i default).s=1→(sl.getD j default).s=1→(sl.getD i default).q≠(sl.getD j default).q
theorem b9q {sl:List Slot} {most:Bool} {i:Nat} (hd:b66 sl) (hi:i < sl.length) (h1:(sl.getD i default).s=1) (hb:0≤I5 sl most i):(if most then lessW (wOf (sl.getD i default)) (wOf (sl.getD (I5 sl most i).toNat default)) else lessW (wOf (sl.getD (I5 sl most i).toNat default)) (wOf (sl.getD i default)))=(decide (urg (wOf (sl.getD i default)) (wOf (sl.getD (I5 sl most i).toNat default)) < 0)==most):=by
 have hbl:=@a2y sl most i
 have hne:=hd (I5 sl most i).toNat i (by omega) hi (a5F i hb) h1
 have hne':(wOf (sl.getD i default)).q≠(wOf (sl.getD (I5 sl most i).toNat default)).q:=fun e=>hne e.symm
 have e:decide (urg (wOf (sl.getD i default)) (wOf (sl.getD (I5 sl most i).toNat default)) < 0)=lessW (wOf (sl.getD i default)) (wOf (sl.getD (I5 sl most i).toNat default)):=by
  rw [Bool.eq_iff_iff,decide_eq_true_iff];exact a0M
 rw [e]
 cases most
 ·simp only [Bool.false_eq_true,if_false,beq_false]
  exact a3S (Ne.symm hne')
 ·simp
theorem b2P {sl:List Slot}:a4E sl=true↔sl.length=4∧∀ i,i < 4→G9 sl i=true:=by
 simp only [a4E,Bool.and_eq_true,decide_eq_true_eq,U0]
 constructor
 ·rintro ⟨h1,h2⟩;exact ⟨h1,fun i hi=>h2 i (by omega)⟩
 ·rintro ⟨h1,h2⟩;exact ⟨h1,fun i hi=>h2 i (by omega)⟩
theorem a3n {x:Slot}:a7D x=true↔(1≤x.s∧x.s≤3)∧(0≤x.q∧x.q≤7)∧0≤x.p∧x.p≤15:=by simp only [a7D,Bool.and_eq_true,p7]
theorem a0N {irq:Int} {x:Slot}:fdP irq x=true↔x.s≠0∧x.q=irq:=by simp [fdP]
theorem a9g {n:Nat} {f:Nat→Bool}:a0g n f=true↔∃ i,i < n∧f i=true:=by
 constructor
 ·intro h
  simp only [a0g,Bool.not_eq_true',a1m,List.all_eq_false,List.mem_range] at h
  obtain ⟨i,h1,h2⟩:=h
  exact ⟨i,h1,by simpa using h2⟩
 ·rintro ⟨i,h1,h2⟩;exact O0 h2 h1
theorem Z7 {n:Nat} {f:Nat→Bool}:a0g n f=false↔∀ i,i < n→f i=false:=by
 constructor
 ·intro h i hi
  cases hf:f i
  ·rfl
  ·rw [O0 hf hi] at h;cases h
 ·exact fun h=>a2n h (Nat.le_refl _)
structure SlF (sl:List Slot):Prop where
 len:sl.length=4
 z:∀ i,i < 4→(sl.getD i default).s=0→sl.getD i default=zSl
 ok:∀ i,i < 4→(sl.getD i default).s≠0→(1≤(sl.getD i default).s∧(sl.getD i default).s≤3)∧(0≤(sl.getD i default).q∧(sl.getD i default).q≤7)∧0≤(sl.getD i default).p∧(sl.getD i default).p≤15
 dif:∀ i j,i < j→j < 4→(sl.getD i default).s≠0→(sl.getD j default).s≠0→(sl.getD i default).q≠(sl.getD j default).q
theorem slF {sl:List Slot}:a4E sl=true↔SlF sl:=by
 rw [b2P]
 constructor
 ·rintro ⟨h1,h2⟩
  refine ⟨h1,fun i hi hz=>?_,fun i hi hz=>?_,fun i j hij hj hi0 hj0=>?_⟩
  ·have:=h2 i hi;unfold G9 at this;rw [if_pos hz] at this;exact of_decide_eq_true this
  ·have:=h2 i hi;unfold G9 at this;rw [if_neg hz,Bool.and_eq_true] at this;exact a3n.mp this.1
  ·have:=h2 j hj;unfold G9 at this;rw [if_neg hj0,Bool.and_eq_true,Bool.not_eq_true',Z7] at this
   have h3:=this.2 i hij
   intro e
   rw [a0N.mpr ⟨hi0,e⟩] at h3
   cases h3
 ·rintro ⟨h1,h2,h3,h4⟩
  refine ⟨h1,fun i hi=>?_⟩
  unfold G9
  split
  ·next hz=>exact decide_eq_true (h2 i hi hz)
  ·next hz =>
   rw [Bool.and_eq_true,Bool.not_eq_true',Z7]
   refine ⟨a3n.mpr (h3 i hi hz),fun j hj=>?_⟩
   rw [← Bool.not_eq_true,a0N]
   exact fun g=>h4 j i hj hi g.1 hz g.2
theorem SlF.difS {sl:List Slot} (h:SlF sl):b66 sl:=fun i j hij hj h1 h2=>h.dif i j hij (by rw [← h.len];exact hj) (by omega) (by omega)
theorem b0A {sl:List Slot} {irq:Int}:(u7 sl irq=-1∧∀ i,i < sl.length→fdP irq (sl.getD i default)=false)∨∃ i:Nat,u7 sl irq=i∧i < sl.length∧(sl.getD i default).s≠0∧(sl.getD i default).q=irq:=by
 by_cases h:u7 sl irq=-1
 ·exact .inl ⟨h,b1j h⟩
 ·obtain ⟨i,h1,h2,_,h4⟩:=a1T h
  exact .inr ⟨i,h1,h2,a0N.mp h4⟩
theorem b56 {sl:List Slot}:(freS sl=-1∧∀ i,i < sl.length→(sl.getD i default).s≠0)∨∃ i:Nat,freS sl=i∧i < sl.length∧(sl.getD i default).s=0:=by
 by_cases h:freS sl=-1
 ·refine .inl ⟨h,fun i hi=>?_⟩
  have:=b1j h i hi
  simpa [emP] using this
 ·obtain ⟨i,h1,h2,_,h4⟩:=a1T h
  exact .inr ⟨i,h1,h2,of_decide_eq_true h4⟩
theorem b2Q {sl:List Slot} {i:Nat} (hi:i < sl.length) (h0:(sl.getD i default).s≠0):u7 sl (sl.getD i default).q=i↔a0g i (fun j=>fdP (sl.getD i default).q (sl.getD j default))=false:=by
 constructor
 ·intro h
  obtain ⟨k,h1,h2,h3,h4⟩:=a1T (show u7 sl (sl.getD i default).q≠-1 by omega)
  have hk:k=i:=by
   have:(k:Int)=i:=by rw [← h1];exact h
   omega
  subst hk
  exact Z7.mpr h3
 ·intro h
  exact J9 (Z7.mp h) hi (a0N.mpr ⟨h0,rfl⟩)
end Go.Rf
namespace Go.Rf
open Go Go.RowKit
section
variable {P:Program} [Env P] {w0:Base} {ops:Array Oper} {tb:List (Nat×TyI)} {o:Oper} {rest:List Oper} {T:List (Nat×AV)} {m m':List (Nat×Option Row)} {nx nt d:Nat} {Q:Exit→St→Prop} {c:Code} {r:AV}
theorem Gh.tl {id e sz:Nat} {ys:List (List Value)} {f:Bool} (hm:mem m id=some (.row e sz ys f)):Gh w0 ⟨T,m,nx,nt⟩ ⟨T,(id,some (.row e sz ys true)) :: m,nx,nt⟩:=by
 intro ρ a w hT hC
 obtain ⟨h1,h2⟩:=hC.rowF hm
 exact ⟨ρ,hT,hC.retell hm (row':=.row e sz ys true) ⟨h1.gen,h2⟩ fun p b hb=>by cases hb⟩
theorem b9r {t e e' sz by_ id:Nat} {zs:List Value} {ys:List (List Value)} {f:Bool} {x lo:Operand} {k:IntKind} {l:Int} (G:Good P tb) (nx':Nat) (hn':Nat.beq nx' (Nat.succ nx)=true) (hd:o.dst=some d) (hlt:Nat.blt d nt=true) (ho:o.op=.slice t x (some lo) none none) (ht:look t tb=some (.slice e sz by_ zs)) (hx:ev T x=some (.own id)) (hm:mem m id=some (.row e' sz ys f))
 (hl:ev T lo=some (.v (.int k l))) (h0:0≤l) (h1:l≤ys.length)
 (hk:WL P w0 ops rest ⟨(d,.own nx) :: T,(nx,some (.row e' sz (ys.drop l.toNat) true)) :: (id,none) :: m,nx',nt⟩ Q):WX P w0 ops o rest ⟨T,m,nx,nt⟩ Q:=by
 have hn'':=Nat.eq_of_beq_eq_true hn'
 subst hn''
 intro ρ a w hT hC
 have hxe:=hT.ev hx
 simp only [RelV] at hxe
 obtain ⟨hrow,hall⟩:=hC.rowF hm
 obtain ⟨A,cap,he,hcap⟩:=hrow.slice
 have hrun:=a8i (G t _ ht) hT (A:=A) (lo:=some lo) (hi:=none) (l:=l) (h:=ys.length) (n:=ys.length) (cap:=cap) (by simp only [a4r,hl]) (by simp [a4r]) h0 h1 (Int.le_refl _) hcap w
 have hr:(execOp a.eval o).run P w=.ok (.value (.slice (if cap=l.toNat then A else A.map (·.add (l.toNat * sz))) (ys.length - l.toNat) (cap - l.toNat))) w:=by
  simp only [Option.map_none,Option.map_some,Int.toNat_natCast] at hrun
  simp only [execOp,ho,hxe.2,he,Option.map_none,Option.map_some,hrun,Sem.run_bind,Result.andThen_ok,Sem.run_pure]
 unfold Oper.wp
 rw [hr,Oper.upon_value,hd]
 generalize hv:(Value.slice (if cap=l.toNat then A else A.map (·.add (l.toNat * sz))) (ys.length - l.toNat) (cap - l.toNat))=v
 have hdl:(ys.drop l.toNat).length=ys.length - l.toNat:=List.length_drop
 have hbk:∀ b,blk v=some b→blk (ρ id)=some b:=by
  intro b hb
  rw [he]
  rw [← hv] at hb
  cases A with
  | none=>split at hb<;>simp [blk] at hb
  | some ad =>
   split at hb
   ·exact hb
   ·simp only [Option.map_some,blk,B7] at hb;exact hb
 have hown:TlR w w0.w.heap.size e' sz v (ys.drop l.toNat):=by
  rcases hrow.gen with ⟨g1,rfl⟩ | ⟨g,o',cap',cur,g1,g2,g3,g4,g5,g6⟩
  ·refine .inl ⟨?_,by simp⟩
   rw [he] at g1;cases g1
   rw [← hv];simp
  ·rw [he] at g1
   cases g1
   have hF:=m6 (fun c hc=>(hall c hc).1)
   by_cases hc:cap=l.toNat
   ·have hz:ys.length - l.toNat=0:=by omega
    have hnil:ys.drop l.toNat=[]:=List.drop_eq_nil_of_le (by omega)
    rw [if_pos hc] at hv
    exact .inr ⟨g,o',cap - l.toNat,cur,by rw [← hv,hdl],g2,g3,by rw [hdl];omega,g5,by rw [hnil];simp⟩
   ·rw [if_neg hc] at hv
    have hcc:cur.toList.length=cur.size:=by simp
    have hlen0:((cur.toList.drop o').take (ys.length * sz)).length=ys.length * sz:=by rw [g6];exact hF
    have hle:l.toNat * sz≤ys.length * sz:=Nat.mul_le_mul_right _ (by omega)
    rw [List.length_take,List.length_drop,hcc] at hlen0
    refine .inr ⟨g,o'+l.toNat * sz,cap - l.toNat,cur,by rw [← hv,hdl];simp [Addr.add_lit],g2,g3,by rw [hdl];omega,by omega,?_⟩
    rw [hdl,a0J (fun c hc=>(hall c hc).1) (by omega),← g6,Nat.sub_mul,List.drop_take,List.drop_drop]
 have hC2:RelC w0 ρ ((id,none) :: m) nx w:=hC.sub fun i r hr=>by
  by_cases e:id=i
  ·subst e;rw [l2] at hr;cases hr
  ·rw [f7 e] at hr;exact hr
 refine hk (upd ρ nx v) _ _ ((hT.add v).put hlt (by simp only [RelV];exact ⟨by omega,(j4 _ _ _).symm⟩)) (hC2.addP (fun _=>rfl) ?_ ?_ ?_)
 ·refine ⟨?_,fun c hc=>hall c (List.mem_of_mem_drop hc)⟩
  rw [j4]
  exact hown
 ·intro i r hr b hb hy
  by_cases e:id=i
  ·subst e;rw [l2] at hr;cases hr
  ·rw [f7 e] at hr
   exact hC.foot_apart hr hm (Ne.symm e) hb (.inl (hbk b hy))
 ·intro b hb
  exact hC.kept.2.2 id _ hm b (hbk b hb)
end
theorem ArgOK.fn {m:List (Nat×Option Row)} {nx:Nat} {av:AV} {f:FuncId} (h:ArgOK m nx av (.v (.func (.func f) #[] #[]))):ArgOK m nx av (.fnc f []):=fun w0 ρ w y hC hy=>by
 have:=h w0 ρ w y hC hy
 simp only [RelV] at this ⊢
 exact ⟨[],this,by simp [RelVs]⟩
theorem ArgsOK.fn2 {T:List (Nat×AV)} {m:List (Nat×Option Row)} {nx:Nat} {xs:List Operand} {a:AV} {f:FuncId} (h:ArgsOK T m nx xs [a,.v (.func (.func f) #[] #[])]):ArgsOK T m nx xs [a,.fnc f []]:=by
 match xs,h with
 | x :: xs,⟨av,_,_,e,h1,h2,h3⟩ =>
  cases e
  match xs,h3 with
  | y :: ys,⟨av',_,_,e',g1,g2,g3⟩ =>
   cases e'
   exact ⟨av,_,_,rfl,h1,h2,av',_,_,rfl,g1,g2.fn,g3⟩
theorem ec3 {a b c d e f:Int}:N9 [.int .i64 a,.int .i64 b,.int .i64 c] [.int .i64 d,.int .i64 e,.int .i64 f]=true↔a=d∧b=e∧c=f:=by
 simp [N9,a6P]
theorem ec2 {a b d e:Int}:N9 [.int .i64 a,.int .i64 b] [.int .i64 d,.int .i64 e]=true↔a=d∧b=e:=by
 simp [N9,a6P]
theorem c4g {a b c d e f:Int} (h:N9 [.int .i64 a,.int .i64 b,.int .i64 c] [.int .i64 d,.int .i64 e,.int .i64 f]=false):¬ (a=d∧b=e∧c=f):=fun g=>by rw [ec3.mpr g] at h;cases h
theorem ArgOK.pin {m:List (Nat×Option Row)} {nx:Nat} {z:Value} {sz:Nat} {ys:List (List Value)}:ArgOK m nx (.pin z sz ys) (.pin z sz ys):=fun w0 ρ w y hC hy=>by
 simp only [RelV] at hy ⊢
 exact ⟨hy.1,hy.2.later hC.below⟩
theorem ArgsOK.pin1 {T:List (Nat×AV)} {m:List (Nat×Option Row)} {nx:Nat} {x:Operand} {xs:List Operand} {z:Value} {sz:Nat} {ys:List (List Value)} {as:List AV} (hx:ev T x=some (.pin z sz ys)) (h:ArgsOK T m nx (x :: xs) (.lst sz ys :: as)):ArgsOK T m nx (x :: xs) (.pin z sz ys :: as):=by
 obtain ⟨av,a,as',e,h1,h2,h3⟩:=h
 cases e
 exact ⟨_,_,_,rfl,hx,ArgOK.pin,h3⟩
section
variable {w0:Base} {T:List (Nat×AV)} {m:List (Nat×Option Row)} {nx nt:Nat}
theorem Gh.asPin {d t:Nat} {z:Value} {sz:Nat} {ys:List (List Value)} (hd:look d T=some (.v z)) (ht:look t T=some (.pin z sz ys)):Gh w0 ⟨T,m,nx,nt⟩ ⟨(d,.pin z sz ys) :: T,m,nx,nt⟩:=by
 intro ρ a w hT hC
 refine ⟨ρ,⟨fun i x hi=>?_,hT.size,hT.defers⟩,hC⟩
 by_cases e:d=i
 ·subst e
  rw [q9] at hi
  cases hi
  have h1:=hT.tmps d _ hd
  have h2:=hT.tmps t _ ht
  simp only [RelV] at h1 h2 ⊢
  exact ⟨h1,by rw [h1,← h2.1];exact h2.2⟩
 ·rw [l3 e] at hi
  exact hT.tmps i x hi
end
end Go.Rf
namespace Go.Rf
open Go
def orI (l:List Int):Int:=if G5 (fun i=>!decide (l.getD i default=0)) l.length=-1 then 0 else l.getD (G5 (fun i=>!decide (l.getD i default=0)) l.length).toNat default
theorem b67 {l:List Int} {i:Nat} (h:∀ j,j < i→l.getD j default=0) (hi:i < l.length) (h0:¬ l.getD i default=0):orI l=l.getD i default:=by
 unfold orI
 rw [J9 (i:=i) (fun j hj=>by simpa using h j hj) hi (by simpa using h0),if_neg (by omega)]
 rfl
theorem c0p {l:List Int} {i:Nat} (h:∀ j,j < i→l.getD j default=0) (hi:l.length≤i):orI l=0:=by
 unfold orI
 rw [U1 (i:=i) (fun j hj=>by simpa using h j hj) hi,if_pos rfl]
theorem b9s {a b:Wtr}:orI [a4F a.p b.p,a4F a.q b.q]=urg a b:=by
 unfold urg
 by_cases h:a4F a.p b.p=0
 ·rw [if_pos h]
  by_cases h2:a4F a.q b.q=0
  ·have e:orI [a4F a.p b.p,a4F a.q b.q]=0:=c0p (i:=2) (fun j hj=>by
    match j,hj with
    | 0,_=>exact h
    | 1,_=>exact h2) (by simp)
   rw [e];exact h2.symm
  ·exact b67 (i:=1) (fun j hj=>by
    match j,hj with
    | 0,_=>exact h) (by simp) h2
 ·rw [if_neg h]
  exact b67 (i:=0) (fun j hj=>by omega) (by simp) h
theorem b0B {n:Nat} {f g:Nat→Bool} (h:∀ j,j < n→f j=g j):G5 f n=G5 g n:=by
 by_cases hg:G5 g n=-1
 ·rw [hg];exact U1 (i:=n) (fun j hj=>by rw [h j hj];exact b1j hg j hj) (Nat.le_refl _)
 ·obtain ⟨i,h1,h2,h3,h4⟩:=a1T hg
  rw [h1];exact J9 (fun j hj=>by rw [h j (by omega)];exact h3 j hj) h2 (by rw [h i h2];exact h4)
theorem T2 {α:Type} [Inhabited α] {l:List α} {i j:Nat} (h:j < i):(l.take i).getD j default=l.getD j default:=by
 rw [List.getD_eq_getElem?_getD,List.getElem?_take,if_pos h,← List.getD_eq_getElem?_getD]
theorem b68 {sl:List Slot} {i:Nat} {q:Int} (hi:i≤sl.length):u7 (sl.take i) q=G5 (fun j=>fdP q (sl.getD j default)) i:=by
 unfold u7
 have hl:(sl.take i).length=i:=by rw [List.length_take];omega
 rw [hl]
 exact b0B fun j hj=>by rw [T2 hj]
theorem b3O {f:Nat→Bool} {n:Nat}:0≤G5 f n↔a0g n f=true:=by
 have:=a3K (f:=f) (n:=n)
 rw [← this];simp
theorem a5G {f:Nat→Bool} {n:Nat}:G5 f n < 0↔a0g n f=false:=by
 have:=a3K (f:=f) (n:=n)
 rw [← this];simp
theorem b3P {f:Nat→Bool} {n:Nat}:-1≤G5 f n∧G5 f n < n∨(G5 f n=-1):=by
 by_cases h:G5 f n=-1
 ·exact .inr h
 ·obtain ⟨i,h1,h2,_⟩:=a1T h
  exact .inl (by omega)
theorem a2z {sl:List Slot} {q:Int}:-1≤u7 sl q∧u7 sl q < sl.length:=by
 have:=@b3P (fun i=>fdP q (sl.getD i default)) sl.length
 unfold u7
 omega
theorem b69 {sl:List Slot}:-1≤freS sl∧freS sl < sl.length:=by
 have:=@b3P (fun i=>emP (sl.getD i default)) sl.length
 unfold freS
 omega
section
variable {sl:List Slot} {i:Nat}
theorem c0q (h0:(sl.getD i default).s=0) (h:sl.getD i default=zSl):G9 sl i=true:=by unfold G9;rw [if_pos h0];exact decide_eq_true h
theorem b7a (h0:(sl.getD i default).s=0) (h:¬ sl.getD i default=zSl):G9 sl i=false:=by unfold G9;rw [if_pos h0];exact decide_eq_false h
theorem c0r (h0:¬ (sl.getD i default).s=0) (h1:a7D (sl.getD i default)=true) (h2:a0g i (fun j=>fdP (sl.getD i default).q (sl.getD j default))=false):G9 sl i=true:=by unfold G9;rw [if_neg h0,h1,h2];rfl
theorem b3Q (h0:¬ (sl.getD i default).s=0) (h1:a7D (sl.getD i default)=false):G9 sl i=false:=by unfold G9;rw [if_neg h0,h1];rfl
theorem b7b (h0:¬ (sl.getD i default).s=0) (h2:a0g i (fun j=>fdP (sl.getD i default).q (sl.getD j default))=true):G9 sl i=false:=by unfold G9;rw [if_neg h0,h2,Bool.not_true,Bool.and_false]
theorem b3R (h:G9 sl i=false) (hi:i < sl.length):a4E sl=false:=by unfold a4E;rw [a00 h hi,Bool.and_false]
theorem b3S (h:sl.length≠4):a4E sl=false:=by unfold a4E;rw [decide_eq_false h,Bool.false_and]
theorem b7c (hl:sl.length=4) (h:∀ j,j < i→G9 sl j=true) (hi:4≤i):a4E sl=true:=b2P.mpr ⟨hl,fun j hj=>h j (by omega)⟩
theorem a9h {x:Slot}:x=zSl↔x.s=0∧x.q=0∧x.p=0:=by cases x;simp [zSl]
theorem b7d (h1:¬ ((0≤(sl.getD i default).s∧(sl.getD i default).s≤3)∧(0≤(sl.getD i default).q∧(sl.getD i default).q≤7)∧0≤(sl.getD i default).p∧(sl.getD i default).p≤15)):G9 sl i=false:=by
 unfold G9
 split
 ·next h0 =>
  refine decide_eq_false fun e=>h1 ?_
  rw [e];simp [zSl]
 ·next h0 =>
  have:a7D (sl.getD i default)=false:=by rw [← Bool.not_eq_true,a3n];intro g;exact h1 ⟨by omega,g.2⟩
  rw [this];rfl
theorem a8m (hi:i < sl.length) (h1:(0≤(sl.getD i default).s∧(sl.getD i default).s≤3)∧(0≤(sl.getD i default).q∧(sl.getD i default).q≤7)∧0≤(sl.getD i default).p∧(sl.getD i default).p≤15)
 (h2:¬ ((sl.getD i default).s=0∧((sl.getD i default).q≠0∨(sl.getD i default).p≠0))) (h3:(sl.getD i default).s≠0→u7 sl (sl.getD i default).q=i):G9 sl i=true:=by
 by_cases h0:(sl.getD i default).s=0
 ·exact c0q h0 (a9h.mpr ⟨h0,by omega,by omega⟩)
 ·exact c0r h0 (a3n.mpr ⟨by omega,h1.2⟩) ((b2Q hi h0).mp (h3 h0))
theorem b9t (h0:(sl.getD i default).s=0) (h:(sl.getD i default).q≠0∨(sl.getD i default).p≠0):G9 sl i=false:=b7a h0 (fun e=>by rw [e] at h;simp [zSl] at h)
theorem b9u (hi:i < sl.length) (h0:(sl.getD i default).s≠0) (h:u7 sl (sl.getD i default).q≠i):G9 sl i=false:=b7b h0 (by
 rw [← Bool.not_eq_false];exact fun g=>h ((b2Q hi h0).mpr g))
end
end Go.Rf
namespace Go.Rf
theorem c1A {x:Slot} (h:m8 x.s 1 3=false):a7D x=false:=by simp only [a7D,h,Bool.false_and]
theorem c1B {x:Slot} (h:m8 x.q 0 7=false):a7D x=false:=by simp only [a7D,h,Bool.false_and,Bool.and_false]
theorem c1C {x:Slot} (h:m8 x.p 0 15=false):a7D x=false:=by simp only [a7D,h,Bool.and_false]
theorem b7e {sl:List Slot} {i:Nat} (h:∀ j,j < i→G9 sl j=true) (hi:sl.length≤i):((sl.length:Int)==4)=a4E sl:=by
 by_cases hl:sl.length=4
 ·rw [b7c hl h (by omega)];simp [hl]
 ·rw [b3S hl]
  have:¬ ((sl.length:Int)=4):=by omega
  simp [this]
section
variable {sl:List Slot} {most:Bool} {i:Nat}
theorem A3 {b:Int} (h:¬ (sl.getD i default).s=1):a4G sl most b i=false:=by simp only [a4G,decide_eq_false h,Bool.false_and]
theorem A4 {b:Int} (h:(sl.getD i default).s=1) (hb:b < 0):a4G sl most b i=true:=by simp only [a4G,decide_eq_true h,decide_eq_true hb,Bool.true_or,Bool.true_and]
theorem O2 (hd:b66 sl) (hi:i < sl.length) (h:(sl.getD i default).s=1) (hb:0≤I5 sl most i):a4G sl most (I5 sl most i) i=(decide (urg (wOf (sl.getD i default)) (wOf (sl.getD (I5 sl most i).toNat default)) < 0)==most):=by
 rw [← b9q hd hi h hb]
 simp only [a4G,decide_eq_true h,decide_eq_false (show ¬ I5 sl most i < 0 by omega),Bool.false_or,Bool.true_and]
theorem x6 {b:Int} (h:(sl.getD i default).s=1) (hb:¬ b < 0):a4G sl most b i=(if most then lessW (wOf (sl.getD i default)) (wOf (sl.getD b.toNat default)) else lessW (wOf (sl.getD b.toNat default)) (wOf (sl.getD i default))):=by
 simp only [a4G,decide_eq_true h,decide_eq_false hb,Bool.false_or,Bool.true_and]
theorem a12 {α:Type} {f:α→List Value} {l:List α} {i:Nat} {x:α}:(l.map f).set i (f x)=(l.set i x).map f:=by rw [List.map_set]
end
def b3T (wa:List Wtr) (w:Wtr):Nat:=(wa.takeWhile (fun x=>lessW x w)).length
theorem b9v {wa:List Wtr} {w:Wtr} {i:Nat} (h:∀ j,j < i→lessW (wa.getD j default) w=true) (hi:i≤wa.length) (he:i=wa.length∨(i < wa.length∧lessW (wa.getD i default) w=false)):b3T wa w=i:=by
 unfold b3T
 induction wa generalizing i with
 | nil=>simp at hi;simp [hi]
 | cons x wa ih =>
  cases i with
  | zero =>
   rcases he with he | ⟨_,he⟩
   ·simp at he
   ·have he:lessW x w=false:=he
    simp [he]
  | succ i =>
   have h0:lessW x w=true:=h 0 (by omega)
   rw [List.takeWhile_cons,if_pos h0,List.length_cons]
   congr 1
   refine ih (fun j hj=>by simpa using h (j+1) (by omega)) (by simpa using hi) ?_
   rcases he with he | ⟨g1,g2⟩
   ·left;simpa using he
   ·right;exact ⟨by simpa using g1,by simpa using g2⟩
theorem b9w {wa:List Wtr} {w:Wtr}:b3T wa w≤wa.length:=(List.takeWhile_sublist _).length_le
def insW (wa:List Wtr) (w:Wtr):List Wtr:=wa.take (b3T wa w)++[w]++wa.drop (b3T wa w)
theorem a5H {wa:List Wtr} {w:Wtr}:(insW wa w).length=wa.length+1:=by
 have:=@b9w wa w
 simp [insW];omega
theorem a5I {wa:List Wtr} {w:Wtr} {i:Nat} (h:∀ j,j < i→lessW (wa.getD j default) w=true) (hi:i≤wa.length) (he:i=wa.length∨(i < wa.length∧lessW (wa.getD i default) w=false)):insW wa w=wa.take i++[w]++wa.drop i:=by
 unfold insW
 rw [b9v h hi he]
def inW (wa:List Wtr) (q:Int):Int:=G5 (fun j=>decide ((wa.getD j default).q=q)) wa.length
theorem c1D {wa:List Wtr} {q:Int}:-1≤inW wa q∧inW wa q < wa.length:=by
 have:=@b3P (fun j=>decide ((wa.getD j default).q=q)) wa.length
 unfold inW
 omega
theorem b7f {wa:List Wtr} {i:Nat} {q:Int} (hi:i≤wa.length):inW (wa.take i) q=G5 (fun j=>decide ((wa.getD j default).q=q)) i:=by
 unfold inW
 have hl:(wa.take i).length=i:=by rw [List.length_take];omega
 rw [hl]
 exact b0B fun j hj=>by rw [T2 hj]
def setd (q:Que):Bool:=decide (q.wa.length=0) || (decide (freS q.sl < 0) && (decide (bstS q.sl false < 0) || lessW (wOf (q.sl.getD (bstS q.sl false).toNat default)) (q.wa.getD 0 default)))
def oneWa (sl:List Slot) (wa:List Wtr) (i:Nat):Bool:=m8 (wa.getD i default).q 0 7 && (m8 (wa.getD i default).p 0 15 && (decide (u7 sl (wa.getD i default).q < 0) && (!(a0g i (fun j=>decide ((wa.getD j default).q=(wa.getD i default).q))) && (decide (i=0) || lessW (wa.getD (i - 1) default) (wa.getD i default)))))
def b9x (sl:List Slot) (wa:List Wtr):Bool:=a1m wa.length (oneWa sl wa)
def a7E (q:Que):Bool:=a4E q.sl && b9x q.sl q.wa
def a91 (q:Que):Bool:=a7E q && setd q
theorem G2 {sl:List Slot} {wa:List Wtr} {i:Nat}:oneWa sl wa i=true↔(0≤(wa.getD i default).q∧(wa.getD i default).q≤7)∧(0≤(wa.getD i default).p∧(wa.getD i default).p≤15)∧u7 sl (wa.getD i default).q < 0∧(∀ j,j < i→(wa.getD j default).q≠(wa.getD i default).q)∧(i=0∨lessW (wa.getD (i - 1) default) (wa.getD i default)=true):=by
 simp only [oneWa,Bool.and_eq_true,p7,decide_eq_true_eq,Bool.not_eq_true',Z7,decide_eq_false_iff_not,Bool.or_eq_true,ne_eq]
theorem b4D {sl:List Slot} {wa:List Wtr} {i:Nat} (h:¬ ((0≤(wa.getD i default).q∧(wa.getD i default).q≤7)∧(0≤(wa.getD i default).p∧(wa.getD i default).p≤15)∧u7 sl (wa.getD i default).q < 0∧(∀ j,j < i→(wa.getD j default).q≠(wa.getD i default).q)∧(i=0∨lessW (wa.getD (i - 1) default) (wa.getD i default)=true))):oneWa sl wa i=false:=by
 rw [← Bool.not_eq_true,G2];exact h
theorem b7g {q:Que} (h:a4E q.sl=false):a7E q=false:=by unfold a7E;rw [h,Bool.false_and]
theorem b7h {q:Que} {i:Nat} (h:oneWa q.sl q.wa i=false) (hi:i < q.wa.length):a7E q=false:=by unfold a7E b9x;rw [a00 h hi,Bool.and_false]
theorem b7i {q:Que} {i:Nat} (h1:a4E q.sl=true) (h:∀ j,j < i→oneWa q.sl q.wa j=true) (hi:q.wa.length≤i):a7E q=true:=by unfold a7E b9x;rw [h1,a2m h hi];rfl
theorem b3U:∀ (n:Nat) (f:Nat→Int) (k:Nat),(∀ i,i < n→0≤f i∧f i < k)→(∀ i j,i < j→j < n→f i≠f j)→n≤k
 | n,f,0,h,_=>by
  rcases Nat.eq_zero_or_pos n with h0 | h0
  ·omega
  ·have:=h 0 h0;omega
 | n,f,k+1,h,hd=>by
  by_cases hx:∃ i,i < n∧f i=k
  ·obtain ⟨i,hi,hk⟩:=hx
   have:=b3U (n - 1) (fun j=>if j < i then f j else f (j+1)) k (fun j hj=>by
    split
    ·next hlt=>have:=h j (by omega);have:=hd j i hlt hi;omega
    ·next hge=>have:=h (j+1) (by omega);have:=hd i (j+1) (by omega) (by omega);omega) (fun a b hab hb=>by
    split
    ·next h1 =>
     split
     ·exact hd a b hab (by omega)
     ·exact hd a (b+1) (by omega) (by omega)
    ·next h1 =>
     rw [if_neg (by omega)]
     exact hd (a+1) (b+1) (by omega) (by omega))
   omega
  ·have:=b3U n f k (fun i hi=>by
    have h1:=h i hi
    have h2:f i≠k:=fun e=>hx ⟨i,hi,e⟩
    omega) hd
   omega
theorem b1x {sl:List Slot} {wa:List Wtr} {n:Nat} (h:∀ j,j < n→oneWa sl wa j=true):n≤8 :=
 b3U n (fun i=>(wa.getD i default).q) 8 (fun i hi=>by have:=(G2.mp (h i hi)).1;omega) (fun i j hij hj=>(G2.mp (h j hj)).2.2.2.1 i hij)
structure PaF (q:Que):Prop where
 sl:SlF q.sl
 wn:q.wa.length≤8
 wa:∀ i,i < q.wa.length→oneWa q.sl q.wa i=true
theorem paF {q:Que}:a7E q=true↔PaF q:=by
 unfold a7E b9x
 rw [Bool.and_eq_true,U0]
 exact ⟨fun h=>⟨slF.mp h.1,b1x h.2,h.2⟩,fun h=>⟨slF.mpr h.sl,h.wa⟩⟩
theorem a9i (w:Wtr):∀ u∈l1 w,u.oneCell'=true:=by intro u hu;simp [l1] at hu;rcases hu with rfl | rfl<;>rfl
theorem a9j {α:Type} {xs:List α} {f:α→List Value} {i:Nat}:((xs.map f).drop ((i:Int)).toNat).take (((xs.map f).length:Int).toNat - ((i:Int)).toNat)=(xs.drop i).map f:=by
 rw [Int.toNat_natCast,Int.toNat_natCast,List.take_of_length_le (by rw [List.length_drop];exact Nat.le_refl _),List.map_drop]
theorem b3V {q:Que} (h:q.wa.length=0):setd q=true:=by unfold setd;rw [decide_eq_true h,Bool.true_or]
theorem b7j {q:Que} (h:¬ q.wa.length=0) (h2:0≤freS q.sl):setd q=false:=by unfold setd;rw [decide_eq_false h,decide_eq_false (by omega)];rfl
theorem b7k {q:Que} (h2:freS q.sl < 0) (h3:bstS q.sl false < 0):setd q=true:=by unfold setd;rw [decide_eq_true h2,decide_eq_true h3];simp
theorem b7l {q:Que} (h:¬ q.wa.length=0) (h2:freS q.sl < 0) (h3:¬ bstS q.sl false < 0):setd q=lessW (wOf (q.sl.getD (bstS q.sl false).toNat default)) (q.wa.getD 0 default):=by unfold setd;rw [decide_eq_false h,decide_eq_true h2,decide_eq_false h3];simp
theorem a1w {sl:List Slot} {most:Bool}:-1≤bstS sl most∧bstS sl most < sl.length:=a2y _
theorem b1y {sl:List Slot} {most:Bool} {i:Nat} (h:sl.length=i):I5 sl most i=bstS sl most:=by subst h;rfl
theorem b7m {sl:List Slot} {wa:List Wtr} {i:Nat} (hs:a4E sl=true) (h:∀ j,j < i→oneWa sl wa j=true) (hi:wa.length≤i∨8 < i) (hn:i≤wa.length):decide ((wa.length:Int)≤8)=a7E ⟨sl,wa⟩:=by
 have h8:=b1x h
 rw [b7i (q:=⟨sl,wa⟩) hs h (show wa.length≤i by omega)]
 simp;omega
end Go.Rf
namespace Go.Rf
open Go
def a2A (sl:List Slot) (lim:Int):Bool:=decide (0≤bstS sl true) && decide ((sl.getD (bstS sl true).toNat default).p < lim)
def tkS (sl:List Slot):List Slot:=sl.set (bstS sl true).toNat ⟨2,(sl.getD (bstS sl true).toNat default).q,(sl.getD (bstS sl true).toNat default).p⟩
def tkI (sl:List Slot):Int:=(sl.getD (bstS sl true).toNat default).q
def tkT (sl:List Slot) (lim:Int):List Slot×Int×Bool:=if a2A sl lim then (tkS sl,tkI sl,true) else ([],0,false)
section
variable {sl:List Slot} {lim irq p:Int}
theorem b4E (h:a2A sl lim=true):tkT sl lim=(tkS sl,tkI sl,true):=by unfold tkT;rw [h];rfl
theorem b7n (h:a2A sl lim=false):tkT sl lim=([],0,false):=by unfold tkT;rw [h];rfl
theorem a0l:a2A sl lim=true↔0≤bstS sl true∧(sl.getD (bstS sl true).toNat default).p < lim:=by simp [a2A]
theorem b1z:a2A sl lim=false↔¬ (0≤bstS sl true∧(sl.getD (bstS sl true).toNat default).p < lim):=by rw [← Bool.not_eq_true,a0l]
def ptS (sl:List Slot) (irq:Int):List Slot:=sl.set (u7 sl irq).toNat ⟨if (sl.getD (u7 sl irq).toNat default).s=2 then 3 else (sl.getD (u7 sl irq).toNat default).s,(sl.getD (u7 sl irq).toNat default).q,(sl.getD (u7 sl irq).toNat default).p⟩
def edX (sl:List Slot) (irq:Int):Slot:=if (sl.getD (u7 sl irq).toNat default).s=3 then ⟨1,irq,(sl.getD (u7 sl irq).toNat default).p⟩ else zSl
def edS (sl:List Slot) (irq:Int):List Slot:=sl.set (u7 sl irq).toNat (edX sl irq)
def P6 (x:Slot):Bool:=decide (x.s=2) || decide (x.s=3)
theorem x7 {x:Slot}:P6 x=true↔x.s=2∨x.s=3:=by simp [P6]
theorem c3p (h:0≤u7 sl irq):(sl.getD (u7 sl irq).toNat default).q=irq∧(sl.getD (u7 sl irq).toNat default).s≠0:=by
 rcases @b0A sl irq with ⟨h1,_⟩ | ⟨i,h1,_,h3,h4⟩
 ·omega
 ·rw [h1];exact ⟨by simpa using h4,by simpa using h3⟩
end
def stK (q:Que):Nat:=if freS q.sl < 0 then (bstS q.sl false).toNat else (freS q.sl).toNat
def stW (q:Que):List Wtr:=if freS q.sl < 0 then insW (q.wa.drop 1) (wOf (q.sl.getD (bstS q.sl false).toNat default)) else q.wa.drop 1
def stQ (q:Que):Que:=⟨q.sl.set (stK q) ⟨1,(q.wa.getD 0 default).q,(q.wa.getD 0 default).p⟩,stW q⟩
def wtS (x:Slot):Nat:=if x.s=0 then 2000 else if x.s=1 then (8 * x.p+x.q).toNat else 0
def phi (q:Que):Nat:=(q.sl.map wtS).sum
def a30:Nat→Que→Que
 | 0,q=>q
 | n+1,q=>if setd q then q else a30 n (stQ q)
def a13 (q:Que):Que:=a30 (phi q+1) q
def ltW (a b:Wtr):Prop:=lessW a b=true∧a.q≠b.q
structure QF (q:Que):Prop where
 sl:SlF q.sl
 wn:q.wa.length≤9
 wa:∀ w∈q.wa,(0≤w.q∧w.q≤7)∧(0≤w.p∧w.p≤15)∧∀ x∈q.sl,x.s≠0→x.q≠w.q
 pw:q.wa.Pairwise ltW
theorem n6 {α:Type} [Inhabited α] {l:List α} {x:α}:x∈l↔∃ i,i < l.length∧l.getD i default=x:=by
 constructor
 ·intro h
  obtain ⟨i,hi,e⟩:=List.getElem_of_mem h
  exact ⟨i,hi,by rw [List.getD_eq_getElem?_getD,List.getElem?_eq_getElem hi];exact e⟩
 ·rintro ⟨i,hi,e⟩
  rw [List.getD_eq_getElem?_getD,List.getElem?_eq_getElem hi] at e
  rw [← e];exact List.getElem_mem hi
theorem a5J {α:Type} [Inhabited α] {l:List α} {R:α→α→Prop}:l.Pairwise R↔∀ i j,i < j→j < l.length→R (l.getD i default) (l.getD j default):=by
 rw [List.pairwise_iff_getElem]
 constructor
 ·intro h i j hij hj
  have:=h i j (by omega) hj hij
  rw [List.getD_eq_getElem?_getD,List.getD_eq_getElem?_getD,List.getElem?_eq_getElem (show i < l.length by omega),List.getElem?_eq_getElem hj]
  exact this
 ·intro h i j hi hj hij
  have:=h i j hij hj
  rw [List.getD_eq_getElem?_getD,List.getD_eq_getElem?_getD,List.getElem?_eq_getElem hi,List.getElem?_eq_getElem hj] at this
  exact this
theorem b9y {sl:List Slot} {irq:Int}:u7 sl irq < 0↔∀ j,j < sl.length→¬ ((sl.getD j default).s≠0∧(sl.getD j default).q=irq):=by
 unfold u7
 rw [a5G,Z7]
 constructor
 ·intro h j hj g;have:=h j hj;rw [a0N.mpr g] at this;cases this
 ·intro h j hj;rw [← Bool.not_eq_true,a0N];exact h j hj
theorem a5K {sl:List Slot} {irq:Int}:u7 sl irq < 0↔∀ x∈sl,x.s≠0→x.q≠irq:=by
 rw [b9y]
 constructor
 ·intro h x hx h0 h1
  obtain ⟨i,hi,rfl⟩:=n6.mp hx
  exact h i hi ⟨h0,h1⟩
 ·intro h j hj g
  exact h _ (n6.mpr ⟨j,hj,rfl⟩) g.1 g.2
theorem PaF.q {q:Que} (h:PaF q):QF q:=by
 refine ⟨h.sl,Nat.le_succ_of_le h.wn,fun w hw=>?_,a5J.mpr ?_⟩
 ·obtain ⟨i,hi,rfl⟩:=n6.mp hw
  obtain ⟨h1,h2,h3,_⟩:=G2.mp (h.wa i hi)
  exact ⟨h1,h2,a5K.mp h3⟩
 ·intro i j hij hj
  refine ⟨?_,(G2.mp (h.wa j hj)).2.2.2.1 i hij⟩
  induction j with
  | zero=>omega
  | succ j ih =>
   have hlast:lessW (q.wa.getD j default) (q.wa.getD (j+1) default)=true:=by
    rcases (G2.mp (h.wa (j+1) hj)).2.2.2.2 with g | g
    ·omega
    ·exact g
   by_cases e:i=j
   ·subst e;exact hlast
   ·exact a3m (ih (by omega) (by omega)) hlast
theorem QF.pa {q:Que} (h:QF q):PaF q:=by
 have hp:=a5J.mp h.pw
 have h8:∀ i,i < q.wa.length→oneWa q.sl q.wa i=true:=fun i hi=>by
  obtain ⟨h1,h2,h3⟩:=h.wa _ (n6.mpr ⟨i,hi,rfl⟩)
  refine G2.mpr ⟨h1,h2,a5K.mpr h3,fun j hj=>(hp j i hj hi).2,?_⟩
  rcases Nat.eq_zero_or_pos i with g | g
  ·exact .inl g
  ·exact .inr (hp (i - 1) i (by omega) hi).1
 exact ⟨h.sl,b1x h8,h8⟩
theorem QF.wn8 {q:Que} (h:QF q):q.wa.length≤8:=h.pa.wn
theorem M7 {α:Type} [Inhabited α] {l:List α} {i j:Nat} {x:α} (hi:i < l.length):(l.set i x).getD j default=if i=j then x else l.getD j default:=by
 rw [List.getD_eq_getElem?_getD,List.getElem?_set]
 by_cases e:i=j
 ·subst e;simp [hi]
 ·simp [e]
theorem SlF.set {sl:List Slot} (h:SlF sl) {k:Nat} {x:Slot} (hk:k < 4) (hx:(1≤x.s∧x.s≤3)∧(0≤x.q∧x.q≤7)∧0≤x.p∧x.p≤15) (hq:∀ j,j < 4→j≠k→(sl.getD j default).s≠0→(sl.getD j default).q≠x.q):SlF (sl.set k x):=by
 have hl:k < sl.length:=by rw [h.len];exact hk
 refine ⟨by rw [List.length_set];exact h.len,fun i hi=>?_,fun i hi=>?_,fun i j hij hj=>?_⟩
 ·rw [M7 hl];split
  ·intro e;omega
  ·exact h.z i hi
 ·rw [M7 hl];split
  ·intro _;exact hx
  ·exact h.ok i hi
 ·rw [M7 hl,M7 hl]
  by_cases e1:k=i
  ·rw [if_pos e1,if_neg (by omega)]
   intro _ h2 e;exact hq j hj (by omega) h2 e.symm
  ·rw [if_neg e1]
   by_cases e2:k=j
   ·rw [if_pos e2];intro h1 _;exact hq i (by omega) (by omega) h1
   ·rw [if_neg e2];exact h.dif i j hij hj
theorem SlF.setZ {sl:List Slot} (h:SlF sl) {k:Nat} (hk:k < 4):SlF (sl.set k zSl):=by
 have hl:k < sl.length:=by rw [h.len];exact hk
 refine ⟨by rw [List.length_set];exact h.len,fun i hi=>?_,fun i hi=>?_,fun i j hij hj=>?_⟩
 ·rw [M7 hl];split
  ·intro _;rfl
  ·exact h.z i hi
 ·rw [M7 hl];split
  ·intro e;exact absurd rfl e
  ·exact h.ok i hi
 ·rw [M7 hl,M7 hl]
  split
  ·intro e;exact absurd rfl e
  ·split
   ·intro _ e;exact absurd rfl e
   ·exact h.dif i j hij hj
theorem b9z {α:Type} {A B l:List α} (h:A++B=l):l.take A.length=A∧l.drop A.length=B:=by subst h;simp
theorem b7o {α:Type} {p:α→Bool} {x:α}:∀ {l:List α},x∈l.takeWhile p→p x=true
 | [],h=>by simp at h
 | y :: l,h=>by
  rw [List.takeWhile_cons] at h
  split at h
  ·next hy =>
   rcases List.mem_cons.mp h with rfl | h
   ·exact hy
   ·exact b7o h
  ·cases h
theorem b4F {wa:List Wtr} {w:Wtr}:insW wa w=wa.takeWhile (fun x=>lessW x w)++[w]++wa.dropWhile (fun x=>lessW x w):=by
 have h:=List.takeWhile_append_dropWhile (p:=fun x=>lessW x w) (l:=wa)
 unfold insW b3T
 obtain ⟨e1,e2⟩:=b9z h
 rw [e1,e2]
theorem a5L {wa:List Wtr} {w x:Wtr}:x∈insW wa w↔x=w∨x∈wa:=by
 have h:=List.takeWhile_append_dropWhile (p:=fun x=>lessW x w) (l:=wa)
 rw [b4F]
 have:x∈wa↔x∈wa.takeWhile (fun x=>lessW x w)∨x∈wa.dropWhile (fun x=>lessW x w):=by
  conv=>lhs;rw [← h]
  exact List.mem_append
 simp only [List.mem_append,List.mem_singleton,this]
 constructor
 ·rintro ((h | h) | h)
  ·exact .inr (.inl h)
  ·exact .inl h
  ·exact .inr (.inr h)
 ·rintro (h | h | h)
  ·exact .inl (.inr h)
  ·exact .inl (.inl h)
  ·exact .inr h
theorem b1A {wa:List Wtr} {w:Wtr} (h:wa.Pairwise ltW) (hd:∀ x∈wa,x.q≠w.q):(insW wa w).Pairwise ltW:=by
 rw [b4F]
 have hs:=List.takeWhile_append_dropWhile (p:=fun x=>lessW x w) (l:=wa)
 have hp:(wa.takeWhile (fun x=>lessW x w)++wa.dropWhile (fun x=>lessW x w)).Pairwise ltW:=by rw [hs];exact h
 obtain ⟨p1,p2,p3⟩:=List.pairwise_append.mp hp
 have t1:∀ x∈wa.takeWhile (fun x=>lessW x w),ltW x w:=fun x hx=>by
  refine ⟨?_,hd x (by rw [← hs];exact List.mem_append_left _ hx)⟩
  exact b7o (p:=fun x=>lessW x w) hx
 have t2:∀ x∈wa.dropWhile (fun x=>lessW x w),ltW w x:=by
  cases hdw:wa.dropWhile (fun x=>lessW x w) with
  | nil=>intro x hx;cases hx
  | cons y r =>
   have hy:lessW y w=false:=by
    have:=List.head?_dropWhile_not (fun x=>lessW x w) wa
    rw [hdw] at this
    simpa using this
   have hyq:y.q≠w.q:=hd y (by rw [← hs,hdw];simp)
   have hwy:ltW w y:=⟨by rw [a3S (Ne.symm hyq),hy];rfl,Ne.symm hyq⟩
   rw [hdw] at p2
   intro x hx
   rcases List.mem_cons.mp hx with rfl | hx
   ·exact hwy
   ·have:=(List.pairwise_cons.mp p2).1 x hx
    exact ⟨a3m hwy.1 this.1,Ne.symm (hd x (by rw [← hs,hdw];simp [hx]))⟩
 rw [List.append_assoc]
 refine List.pairwise_append.mpr ⟨p1,List.pairwise_append.mpr ⟨List.pairwise_singleton _ _,p2,fun a ha b hb=>?_⟩,fun a ha b hb=>?_⟩
 ·rw [List.mem_singleton.mp ha];exact t2 b hb
 ·rcases List.mem_append.mp hb with hb | hb
  ·rw [List.mem_singleton.mp hb];exact t1 a ha
  ·exact p3 a ha b hb
theorem b4G {α:Type} [Inhabited α] {f:α→Nat} {x:α}:∀ {l:List α} {k:Nat},k < l.length→((l.set k x).map f).sum+f (l.getD k default)=(l.map f).sum+f x
 | [],k,h=>by simp at h
 | y :: l,0,_=>by simp;omega
 | y :: l,k+1,h=>by
  have:=b4G (f:=f) (x:=x) (l:=l) (k:=k) (by simpa using h)
  simp only [List.set_cons_succ,List.map_cons,List.sum_cons,List.getD_cons_succ]
  omega
theorem a5M {α:Type} [Inhabited α] {l:List α} {k:Nat} {x y:α} (hk:k < l.length) (h:y∈l.set k x):y=x∨∃ j,j < l.length∧j≠k∧l.getD j default=y:=by
 obtain ⟨j,hj,e⟩:=n6.mp h
 rw [List.length_set] at hj
 rw [M7 hk] at e
 by_cases hjk:k=j
 ·rw [if_pos hjk] at e;exact .inl e.symm
 ·rw [if_neg hjk] at e;exact .inr ⟨j,hj,Ne.symm hjk,e⟩
theorem a0V {sl:List Slot} {most:Bool} (h:0≤bstS sl most):∃ k:Nat,bstS sl most=k∧k < sl.length∧(sl.getD k default).s=1:=by
 have hb:=@a1w sl most
 refine ⟨(bstS sl most).toNat,by omega,by omega,a5F _ h⟩
structure NotSet (q:Que) (k:Nat) (w:Wtr) (r:List Wtr):Prop where
 wa:q.wa=w :: r
 kn:stK q=k
 kl:k < 4
 st:(freS q.sl=k∧(q.sl.getD k default).s=0∧stW q=r)∨(freS q.sl < 0∧bstS q.sl false=k∧(q.sl.getD k default).s=1∧lessW w (wOf (q.sl.getD k default))=true∧stW q=insW r (wOf (q.sl.getD k default)))
theorem b3W {q:Que} (h:QF q) (hs:setd q=false):∃ k w r,NotSet q k w r:=by
 have h0:q.wa.length≠0:=fun e=>by rw [b3V e] at hs;cases hs
 obtain ⟨w,r,hw⟩:∃ w r,q.wa=w :: r:=by
  cases hq:q.wa with
  | nil=>rw [hq] at h0;exact absurd rfl h0
  | cons w r=>exact ⟨w,r,rfl⟩
 rcases @b56 q.sl with ⟨f1,f2⟩ | ⟨i,f1,f2,f3⟩
 ·have hb:0≤bstS q.sl false:=by
   rcases Int.lt_or_le (bstS q.sl false) 0 with g | g
   ·rw [b7k (by omega) g] at hs;cases hs
   ·exact g
  rw [b7l h0 (by omega) (by omega)] at hs
  obtain ⟨k,hk,hkl,hk1⟩:=a0V hb
  have hkn:(bstS q.sl false).toNat=k:=by omega
  rw [hkn,hw] at hs
  have hs:lessW (wOf (q.sl.getD k default)) w=false:=hs
  have hne:(wOf (q.sl.getD k default)).q≠w.q:=(h.wa w (by rw [hw];simp)).2.2 _ (n6.mpr ⟨k,hkl,rfl⟩) (by omega)
  refine ⟨k,w,r,hw,by unfold stK;rw [if_pos (by omega),hkn],by rw [← h.sl.len];exact hkl,.inr ⟨by omega,hk,hk1,?_,?_⟩⟩
  ·rw [a3S (Ne.symm hne),hs];rfl
  ·unfold stW;rw [if_pos (by omega),hkn,hw];rfl
 ·exact ⟨i,w,r,hw,by unfold stK;rw [if_neg (by omega),f1];rfl,by rw [← h.sl.len];exact f2,.inl ⟨f1,f3,by unfold stW;rw [if_neg (by omega),hw];rfl⟩⟩
theorem NotSet.eq {q:Que} {k:Nat} {w:Wtr} {r:List Wtr} (n:NotSet q k w r):stQ q=⟨q.sl.set k ⟨1,w.q,w.p⟩,stW q⟩:=by
 unfold stQ;rw [n.kn,n.wa];rfl
theorem b0C {q:Que} (h:QF q) (hs:setd q=false):QF (stQ q)∧phi (stQ q) < phi q:=by
 obtain ⟨k,w,r,n⟩:=b3W h hs
 rw [n.eq]
 have hl:k < q.sl.length:=by rw [h.sl.len];exact n.kl
 obtain ⟨hw1,hw2,hw3⟩:=h.wa w (by rw [n.wa];simp)
 have hpw:=h.pw
 rw [n.wa] at hpw
 obtain ⟨hp1,hp2⟩:=List.pairwise_cons.mp hpw
 have hrm:∀ v∈r,v∈q.wa:=fun v hv=>by rw [n.wa];simp [hv]
 have hsum:=b4G (f:=wtS) (x:=(⟨1,w.q,w.p⟩:Slot)) hl
 have hwt:wtS ⟨1,w.q,w.p⟩=(8 * w.p+w.q).toNat:=rfl
 have hsl:SlF (q.sl.set k ⟨1,w.q,w.p⟩):=h.sl.set n.kl ⟨⟨by show (1:Int)≤1;omega,by show (1:Int)≤3;omega⟩,hw1,hw2⟩ (fun j hj hjk h0=>hw3 _ (n6.mpr ⟨j,by rw [h.sl.len];exact hj,rfl⟩) h0)
 rcases n.st with ⟨f1,f2,f3⟩ | ⟨f0,f1,f2,f3,f4⟩
 ·rw [f3]
  refine ⟨⟨hsl,by have:=h.wn;rw [n.wa] at this;simp at this;show r.length≤9;omega,fun v hv=>?_,hp2⟩,?_⟩
  ·obtain ⟨g1,g2,g3⟩:=h.wa v (hrm v hv)
   refine ⟨g1,g2,fun x hx h0=>?_⟩
   rcases a5M hl hx with rfl | ⟨j,hj,_,rfl⟩
   ·exact (hp1 v hv).2
   ·exact g3 _ (n6.mpr ⟨j,hj,rfl⟩) h0
  ·have:wtS (q.sl.getD k default)=2000:=by unfold wtS;rw [if_pos f2]
   show ((q.sl.set k ⟨1,w.q,w.p⟩).map wtS).sum < (q.sl.map wtS).sum
   omega
 ·rw [f4]
  have hb:=h.sl.ok k n.kl (by omega)
  refine ⟨⟨hsl,?_,fun v hv=>?_,b1A hp2 fun x hx=>?_⟩,?_⟩
  ·have:=h.wn;rw [n.wa] at this;simp at this
   show (insW r _).length≤9
   rw [a5H];omega
  ·rcases a5L.mp hv with rfl | hv
   ·refine ⟨hb.2.1,hb.2.2,fun x hx h0=>?_⟩
    rcases a5M hl hx with rfl | ⟨j,hj,hjk,rfl⟩
    ·exact fun e=>hw3 _ (n6.mpr ⟨k,hl,rfl⟩) (by omega) e.symm
    ·intro e
     have h4:=h.sl.len
     rcases Nat.lt_or_ge j k with g | g
     ·exact h.sl.dif j k g n.kl h0 (by omega) e
     ·exact h.sl.dif k j (by omega) (by omega) (by omega) h0 e.symm
   ·obtain ⟨g1,g2,g3⟩:=h.wa v (hrm v hv)
    refine ⟨g1,g2,fun x hx h0=>?_⟩
    rcases a5M hl hx with rfl | ⟨j,hj,_,rfl⟩
    ·exact (hp1 v hv).2
    ·exact g3 _ (n6.mpr ⟨j,hj,rfl⟩) h0
  ·exact fun e=>(h.wa x (hrm x hx)).2.2 _ (n6.mpr ⟨k,hl,rfl⟩) (by omega) e.symm
  ·have:wtS (q.sl.getD k default)=(8 * (q.sl.getD k default).p+(q.sl.getD k default).q).toNat:=by unfold wtS;rw [if_neg (by omega),if_pos f2]
   rw [Y8] at f3
   have f3:w.p < (q.sl.getD k default).p∨(w.p=(q.sl.getD k default).p∧w.q < (q.sl.getD k default).q):=f3
   show ((q.sl.set k ⟨1,w.q,w.p⟩).map wtS).sum < (q.sl.map wtS).sum
   omega
theorem b0D:∀ {n m:Nat} {q:Que},QF q→phi q < n→phi q < m→a30 n q=a30 m q
 | n+1,m+1,q,h,h1,h2=>by
  unfold a30
  cases hs:setd q
  ·obtain ⟨g1,g2⟩:=b0C h hs
   simp only [Bool.false_eq_true,if_false]
   exact b0D g1 (by omega) (by omega)
  ·rfl
theorem b0E {q:Que} (h:QF q) (hs:setd q=false):a13 q=a13 (stQ q):=by
 obtain ⟨g1,g2⟩:=b0C h hs
 unfold a13
 rw [show a30 (phi q+1) q=a30 (phi q) (stQ q) by conv=>lhs;unfold a30;rw [hs];simp]
 exact b0D g1 (by omega) (by omega)
theorem b0F {q:Que} (hs:setd q=true):a13 q=q:=by unfold a13 a30;rw [hs];rfl
theorem b4H:∀ {n:Nat} {q:Que},QF q→phi q < n→QF (a30 n q)∧setd (a30 n q)=true
 | n+1,q,h,h1=>by
  unfold a30
  cases hs:setd q
  ·obtain ⟨g1,g2⟩:=b0C h hs
   simp only [Bool.false_eq_true,if_false]
   exact b4H g1 (by omega)
  ·simp only [if_true];exact ⟨h,hs⟩
theorem b4I {q:Que} (h:QF q):QF (a13 q)∧setd (a13 q)=true:=b4H h (Nat.lt_succ_self _)
theorem a9k {q:Que}:a91 q=true↔QF q∧setd q=true:=by
 unfold a91
 rw [Bool.and_eq_true,paF]
 exact ⟨fun h=>⟨h.1.q,h.2⟩,fun h=>⟨h.1.pa,h.2⟩⟩
def actL (sl:List Slot):List Wtr:=(sl.filter P6).map wOf
theorem b2R {sl:List Slot}:∀ {k:Nat} {x:Slot},k < sl.length→P6 x=P6 (sl.getD k default)→(P6 x=true→wOf x=wOf (sl.getD k default))→actL (sl.set k x)=actL sl:=by
 unfold actL
 induction sl with
 | nil=>intro k x hk;simp at hk
 | cons y sl ih =>
  intro k x hk h1 h2
  cases k with
  | zero =>
   simp only [List.set_cons_zero,List.filter_cons]
   have h1:P6 x=P6 y:=h1
   have h2:P6 x=true→wOf x=wOf y:=h2
   rw [h1]
   cases hy:P6 y
   ·simp
   ·rw [hy] at h1
    simp [h2 h1]
  | succ k =>
   have:=ih (k:=k) (x:=x) (by simpa using hk) (by simpa using h1) (by simpa using h2)
   simp only [List.set_cons_succ,List.filter_cons]
   split
   ·simp only [List.map_cons,this]
   ·exact this
theorem M8 {sl:List Slot} {w:Wtr}:w∈actL sl↔∃ x∈sl,P6 x=true∧wOf x=w:=by
 simp [actL,and_assoc]
theorem b9A {q:Que} (h:QF q) (hs:setd q=false):actL (stQ q).sl=actL q.sl:=by
 obtain ⟨k,w,r,n⟩:=b3W h hs
 rw [n.eq]
 have hl:k < q.sl.length:=by rw [h.sl.len];exact n.kl
 refine b2R hl ?_ (fun g=>?_)
 ·have:P6 (q.sl.getD k default)=false:=by
   rcases n.st with ⟨_,f,_⟩ | ⟨_,_,f,_⟩<;>rw [← Bool.not_eq_true,x7]<;>omega
  rw [this];rfl
 ·cases g
theorem b2S:∀ {n:Nat} {q:Que},QF q→actL (a30 n q).sl=actL q.sl
 | 0,q,_=>rfl
 | n+1,q,h=>by
  unfold a30
  cases hs:setd q
  ·simp only [Bool.false_eq_true,if_false]
   rw [b2S (b0C h hs).1,b9A h hs]
  ·rfl
theorem b2T {q:Que} (h:QF q):actL (a13 q).sl=actL q.sl:=b2S h
def a7F (q:Que) (irq p:Int):Que:=if 0≤u7 q.sl irq then ⟨ptS q.sl irq,q.wa⟩ else if 0≤inW q.wa irq then q else ⟨q.sl,insW q.wa ⟨irq,p⟩⟩
def a3o (q:Que) (irq p:Int):Que:=a13 (a7F q irq p)
theorem b1B {sl:List Slot} {irq:Int} (h:0≤u7 sl irq):∃ k:Nat,u7 sl irq=k∧k < sl.length∧(sl.getD k default).s≠0∧(sl.getD k default).q=irq:=by
 rcases @b0A sl irq with ⟨g,_⟩ | g
 ·omega
 ·exact g
theorem SlF.upd {sl:List Slot} (h:SlF sl) {k:Nat} (hk:k < 4) {s':Int} (h0:(sl.getD k default).s≠0) (hs:1≤s'∧s'≤3):SlF (sl.set k ⟨s',(sl.getD k default).q,(sl.getD k default).p⟩):=by
 refine h.set hk ⟨hs,(h.ok k hk h0).2⟩ (fun j hj hjk g=>?_)
 rcases Nat.lt_or_ge j k with e | e
 ·exact h.dif j k e hk g h0
 ·exact fun e'=>h.dif k j (by omega) hj h0 g e'.symm
theorem QF.slUpd {q:Que} (h:QF q) {k:Nat} (hk:k < 4) {s':Int} (h0:(q.sl.getD k default).s≠0) (hs:1≤s'∧s'≤3):QF ⟨q.sl.set k ⟨s',(q.sl.getD k default).q,(q.sl.getD k default).p⟩,q.wa⟩:=by
 refine ⟨h.sl.upd hk h0 hs,h.wn,fun w hw=>?_,h.pw⟩
 obtain ⟨g1,g2,g3⟩:=h.wa w hw
 refine ⟨g1,g2,fun x hx g=>?_⟩
 have hl:k < q.sl.length:=by rw [h.sl.len];exact hk
 rcases a5M hl hx with rfl | ⟨j,hj,_,rfl⟩
 ·exact g3 (q.sl.getD k default) (n6.mpr ⟨k,hl,rfl⟩) h0
 ·exact g3 _ (n6.mpr ⟨j,hj,rfl⟩) g
theorem b9B {wa:List Wtr} {q:Int}:inW wa q < 0↔∀ w∈wa,w.q≠q:=by
 unfold inW
 rw [a5G,Z7]
 constructor
 ·intro h w hw
  obtain ⟨i,hi,rfl⟩:=n6.mp hw
  exact of_decide_eq_false (h i hi)
 ·intro h j hj
  exact decide_eq_false (h _ (n6.mpr ⟨j,hj,rfl⟩))
theorem b3X {q:Que} {irq p:Int} (h:QF q) (hi:0≤irq∧irq≤7) (hp:0≤p∧p≤15):QF (a7F q irq p)∧actL (a7F q irq p).sl=actL q.sl:=by
 unfold a7F
 split
 ·next h1 =>
  obtain ⟨k,e1,e2,e3,e4⟩:=b1B h1
  have hk:k < 4:=by rw [← h.sl.len];exact e2
  unfold ptS
  rw [e1]
  simp only [Int.toNat_natCast]
  have hb:=(h.sl.ok k hk e3).1
  refine ⟨h.slUpd hk e3 ?_,b2R e2 ?_ (fun _=>rfl)⟩
  ·split<;>omega
  ·show P6 ⟨if (q.sl.getD k default).s=2 then 3 else (q.sl.getD k default).s,_,_⟩=_
   by_cases e:(q.sl.getD k default).s=2
   ·rw [if_pos e,show P6 (q.sl.getD k default)=true from x7.mpr (.inl e)];exact x7.mpr (.inr rfl)
   ·rw [if_neg e]
 split
 ·exact ⟨h,rfl⟩
 ·next h1 h2 =>
  have g1:=a5K.mp (show u7 q.sl irq < 0 by omega)
  have g2:=b9B.mp (show inW q.wa irq < 0 by omega)
  refine ⟨⟨h.sl,?_,fun w hw=>?_,b1A h.pw g2⟩,rfl⟩
  ·show (insW q.wa _).length≤9
   rw [a5H];have:=h.wn8;omega
  ·rcases a5L.mp hw with rfl | hw
   ·exact ⟨hi,hp,g1⟩
   ·exact h.wa w hw
theorem c1E {q:Que} {irq p:Int} (h:QF q) (hi:0≤irq∧irq≤7) (hp:0≤p∧p≤15):QF (a3o q irq p)∧setd (a3o q irq p)=true∧actL (a3o q irq p).sl=actL q.sl:=by
 obtain ⟨h1,h2⟩:=b3X h hi hp
 obtain ⟨h3,h4⟩:=b4I h1
 exact ⟨h3,h4,by unfold a3o;rw [b2T h1,h2]⟩
def b1C (q:Que):Que:=⟨tkS q.sl,q.wa⟩
theorem c1F {q:Que} (h:QF q) (hb:0≤bstS q.sl true):QF (b1C q):=by
 obtain ⟨k,e1,e2,e3⟩:=a0V hb
 have hk:k < 4:=by rw [← h.sl.len];exact e2
 unfold b1C tkS
 rw [e1]
 exact h.slUpd hk (by omega) (by omega)
def a6V (q:Que) (irq:Int):Que:=a13 ⟨edS q.sl irq,q.wa⟩
theorem a8n {q:Que} {irq:Int} (h:QF q) (hf:0≤u7 q.sl irq):QF ⟨edS q.sl irq,q.wa⟩:=by
 obtain ⟨k,e1,e2,e3,e4⟩:=b1B hf
 have hk:k < 4:=by rw [← h.sl.len];exact e2
 have e5:edX q.sl irq=if (q.sl.getD k default).s=3 then ⟨1,irq,(q.sl.getD k default).p⟩ else zSl:=by unfold edX;rw [e1];rfl
 unfold edS
 rw [e1,e5]
 split
 ·rw [← e4];exact h.slUpd hk e3 (by omega)
 ·refine ⟨h.sl.setZ hk,h.wn,fun w hw=>?_,h.pw⟩
  obtain ⟨g1,g2,g3⟩:=h.wa w hw
  refine ⟨g1,g2,fun x hx g=>?_⟩
  rcases a5M e2 hx with rfl | ⟨j,hj,_,rfl⟩
  ·exact absurd rfl g
  ·exact g3 _ (n6.mpr ⟨j,hj,rfl⟩) g
theorem c1G {q:Que} {irq:Int} (h:QF q) (hf:0≤u7 q.sl irq):QF (a6V q irq)∧setd (a6V q irq)=true:=b4I (a8n h hf)
theorem r6 {q:Que} (h:0≤freS q.sl):stQ q=⟨q.sl.set (freS q.sl).toNat ⟨1,(q.wa.getD 0 default).q,(q.wa.getD 0 default).p⟩,q.wa.drop 1⟩:=by
 unfold stQ stK stW
 rw [if_neg (by omega),if_neg (by omega)]
theorem v7 {q:Que} (h:freS q.sl < 0):stQ q=⟨q.sl.set (bstS q.sl false).toNat ⟨1,(q.wa.getD 0 default).q,(q.wa.getD 0 default).p⟩,insW (q.wa.drop 1) (wOf (q.sl.getD (bstS q.sl false).toNat default))⟩:=by
 unfold stQ stK stW
 rw [if_pos h,if_pos h]
theorem b4J {q:Que} (h:QF q) (hs:setd q=false):0 < q.wa.length∧(freS q.sl < 0→0≤bstS q.sl false):=by
 obtain ⟨k,w,r,n⟩:=b3W h hs
 refine ⟨by rw [n.wa];simp,fun g=>?_⟩
 rcases n.st with ⟨f,_⟩ | ⟨_,f,_⟩<;>omega
end Go.Rf
namespace Go.Rf
theorem c3q {xs:List Wtr}:((xs.map l1).drop (1:Int).toNat).take (((xs.map l1).length:Int).toNat - (1:Int).toNat)=(xs.drop 1).map l1:=by
 have h1:(1:Int).toNat=1:=rfl
 have h2:(((xs.map l1).length:Int)).toNat=(xs.map l1).length:=Int.toNat_natCast _
 rw [h1,h2,List.take_of_length_le (by rw [List.length_drop];exact Nat.le_refl _),List.map_drop]
theorem b7p {xs:List Wtr}:(xs.map l1).drop (1:Int).toNat=(xs.drop 1).map l1:=List.map_drop.symm
end Go.Rf
namespace Go.Rf
open Go
section
variable {rs:List Route} {a:Abs} {ss:List MStep}
end
end Go.Rf
namespace Go.Rf
end Go.Rf
namespace Go.Rf
open Go
def s6 (eS eW:Nat) (x:Ifc):List CI:=[.v (.int .i64 x.ma),.l 3 1 (x.st.map r9),.l eS 3 (x.qu.sl.map j8),.l eW 2 (x.qu.wa.map l1)]
def szI (x:Ifc):Int:=x.st.length+x.qu.sl.length+x.qu.wa.length
def sumI (xs:List Ifc):Nat→Int
 | 0=>0
 | i+1=>sumI xs i+szI (xs.getD i default)
theorem a3T {xs:List Ifc} {i:Nat}:sumI xs (i+1)=sumI xs i+szI (xs.getD i default):=rfl
theorem b7q {x:Ifc}:0≤szI x:=by unfold szI;omega
theorem b4K {xs:List Ifc}:∀ i,0≤sumI xs i
 | 0=>Int.le_refl _
 | i+1=>by have:=@b4K xs i;have:=@b7q (xs.getD i default);rw [a3T];omega
theorem b57 {xs:List Ifc} {i j:Nat} (h:i≤j):sumI xs i≤sumI xs j:=by
 induction h with
 | refl=>exact Int.le_refl _
 | step _ ih=>rename_i m _;have:=@b7q (xs.getD m default);rw [a3T];omega
theorem b7r {xs:List Ifc} {i n:Nat} (h:i < n):szI (xs.getD i default)≤sumI xs n:=by
 have h1:=b57 (xs:=xs) (show i+1≤n from h)
 have h2:=@b4K xs i
 rw [a3T] at h1
 omega
structure SmallM (m:Mach):Prop where
 rs:m.rs.length≤1048576
 en:m.en.length≤1048576
 ra:m.ra.length≤1048576
 cp:m.cp.length≤1048576
 sum:sumI m.cp m.cp.length≤1048576
theorem SmallM.allI {m:Mach} (h:SmallM m) {i:Nat} (hi:i < m.cp.length):szI (m.cp.getD i default)≤1048576:=by
 have:=b7r (xs:=m.cp) hi
 have:=h.sum
 omega
section
variable {k:Int} {xs:List Ifc} {eS eW:Nat}
end
def noM:Mach:=⟨[],[],[],[]⟩
def b58:Ifc:=⟨16,[],⟨[zSl,zSl,zSl,zSl],[]⟩⟩
def b1D (rs:List Route) (c:Nat):Mach:=⟨rs,List.replicate 8 false,List.replicate 8 false,List.replicate c b58⟩
def u3 (rs:List Route) (c:Int):Mach×Bool:=if okRts rs c then (b1D rs c.toNat,true) else (noM,false)
theorem b1E {rs:List Route} {c:Int} (h:okRts rs c=true):u3 rs c=(b1D rs c.toNat,true):=by unfold u3;rw [h];rfl
theorem b1F {rs:List Route} {c:Int} (h:okRts rs c=false):u3 rs c=(noM,false):=by unfold u3;rw [h];rfl
theorem b2U {rs:List Route} {c:Int} (h:(u3 rs c).2=false):u3 rs c=(noM,false):=by
 cases hr:okRts rs c
 ·exact b1F hr
 ·rw [b1E hr] at h;cases h
theorem b59:SmallM noM:=⟨by decide,by decide,by decide,by decide,by decide⟩
theorem b3Y {rs:List Route} {c:Nat} (h:rs.length≤8) (hc:c≤2):SmallM (b1D rs c):=by
 refine ⟨by show rs.length≤_;omega,by show (List.replicate 8 false).length≤_;decide,by show (List.replicate 8 false).length≤_;decide,by show (List.replicate c b58).length≤_;rw [List.length_replicate];omega,?_⟩
 show sumI (List.replicate c b58) (List.replicate c b58).length≤_
 rw [List.length_replicate]
 match c,hc with
 | 0,_=>decide
 | 1,_=>decide
 | 2,_=>decide
theorem a7x {rs:List Route} {c:Int}:SmallM (u3 rs c).1:=by
 unfold u3
 split
 ·next h =>
  have hr:=I3.mp h
  exact b3Y (by omega) (by omega)
 ·exact b59
def lvl (sl:List Slot) (q:Int):Int:=(sl.getD (u7 sl q).toNat default).p
def a92 (x:Ifc):Int:=if x.st.length=0 then 16 else lvl x.qu.sl (x.st.getD (x.st.length - 1) default)
theorem c1H {x:Ifc} (h:x.st.length=0):a92 x=16:=by unfold a92;rw [if_pos h]
theorem b7s {x:Ifc} (h:¬ x.st.length=0):a92 x=lvl x.qu.sl (x.st.getD (x.st.length - 1) default):=by unfold a92;rw [if_neg h]
def a7G (x:Ifc) (q p:Int):Ifc:=⟨x.ma,x.st,a3o x.qu q p⟩
def a4H (x:Ifc):Ifc:=⟨x.ma,x.st++[tkI x.qu.sl],b1C x.qu⟩
structure IfF (x:Ifc):Prop where
 qu:QF x.qu
 sn:x.st.length≤4
 st:∀ q∈x.st,∃ w∈actL x.qu.sl,w.q=q
theorem a5N {sl:List Slot} {q:Int} (h:∃ w∈actL sl,w.q=q):0≤u7 sl q:=by
 obtain ⟨w,hw,e⟩:=h
 obtain ⟨x,h1,h2,rfl⟩:=M8.mp hw
 rcases Int.lt_or_le (u7 sl q) 0 with g | g
 ·refine absurd e (a5K.mp g x h1 ?_)
  rcases x7.mp h2 with g | g<;>omega
 ·exact g
theorem IfF.top {x:Ifc} (h:IfF x) {i:Nat} (hi:i < x.st.length):0≤u7 x.qu.sl (x.st.getD i default):=a5N (h.st _ (n6.mpr ⟨i,hi,rfl⟩))
theorem b7t {x:Ifc} {q p:Int} (h:IfF x) (hq:0≤q∧q≤7) (hp:0≤p∧p≤15):IfF (a7G x q p):=by
 obtain ⟨h1,h2,h3⟩:=c1E h.qu hq hp
 exact ⟨h1,h.sn,fun y hy=>by show ∃ w∈actL (a3o x.qu q p).sl,w.q=y;rw [h3];exact h.st y hy⟩
theorem b4L {α:Type} [Inhabited α] {l:List α} {k:Nat} {x y:α} (h:x∈l) (hne:x≠l.getD k default):x∈l.set k y:=by
 obtain ⟨i,hi,rfl⟩:=n6.mp h
 refine n6.mpr ⟨i,by rw [List.length_set];exact hi,?_⟩
 rw [List.getD_eq_getElem?_getD,List.getElem?_set_ne (fun e=>hne (by rw [e])),← List.getD_eq_getElem?_getD]
theorem c1I {x:Ifc} (h:IfF x) (hb:0≤bstS x.qu.sl true) (hn:x.st.length < 4):IfF (a4H x):=by
 obtain ⟨k,e1,e2,e3⟩:=a0V hb
 refine ⟨c1F h.qu hb,by show (x.st++[tkI x.qu.sl]).length≤4;rw [List.length_append,List.length_cons,List.length_nil];omega,fun q hq=>?_⟩
 show ∃ w∈actL (tkS x.qu.sl),w.q=q
 unfold tkS
 rw [e1,Int.toNat_natCast]
 rcases List.mem_append.mp hq with hq | hq
 ·obtain ⟨w,hw,e⟩:=h.st q hq
  obtain ⟨y,y1,y2,y3⟩:=M8.mp hw
  refine ⟨w,M8.mpr ⟨y,b4L y1 (fun e'=>?_),y2,y3⟩,e⟩
  rw [e'] at y2
  rcases x7.mp y2 with g | g<;>omega
 ·rw [List.mem_singleton.mp hq]
  refine ⟨⟨(x.qu.sl.getD k default).q,(x.qu.sl.getD k default).p⟩,M8.mpr ⟨⟨2,(x.qu.sl.getD k default).q,(x.qu.sl.getD k default).p⟩,List.mem_iff_getElem.mpr ⟨k,by rw [List.length_set];exact e2,by simp⟩,rfl,rfl⟩,?_⟩
  show (x.qu.sl.getD k default).q=tkI x.qu.sl
  unfold tkI
  rw [e1,Int.toNat_natCast]
def O3 (rs:List Route) (l:List Int):List Slot:=(l.map fun q=>⟨2,q,prI rs q⟩)++List.replicate (4 - l.length) zSl
def a5O (rs:List Route) (l:List Int):Ifc:=⟨16,l,⟨O3 rs l,[]⟩⟩
def I6 (rs:List Route) (l:List Int) (q:Int):List Slot:=(l.map fun q=>⟨2,q,prI rs q⟩)++(⟨1,q,prI rs q⟩ :: List.replicate (3 - l.length) zSl)
section
variable {rs:List Route} {l:List Int} {q:Int}
theorem a6W {α:Type} [Inhabited α] {a b:List α} {j:Nat} (h:j < a.length):(a++b).getD j default=a.getD j default:=by
 rw [List.getD_eq_getElem?_getD,List.getElem?_append_left h,← List.getD_eq_getElem?_getD]
theorem a3U {α:Type} [Inhabited α] {a b:List α} {j:Nat} (h:a.length≤j):(a++b).getD j default=b.getD (j - a.length) default:=by
 rw [List.getD_eq_getElem?_getD,List.getElem?_append_right h,← List.getD_eq_getElem?_getD]
theorem Y9 {α β:Type} [Inhabited α] [Inhabited β] {f:α→β} {a:List α} {j:Nat} (h:j < a.length):(a.map f).getD j default=f (a.getD j default):=by
 rw [List.getD_eq_getElem?_getD,List.getElem?_map,List.getElem?_eq_getElem h,List.getD_eq_getElem?_getD,List.getElem?_eq_getElem h]
 rfl
theorem b2V {α:Type} [Inhabited α] {x:α} {n j:Nat} (h:j < n):(List.replicate n x).getD j default=x:=by
 rw [List.getD_eq_getElem?_getD,List.getElem?_replicate,if_pos h]
 rfl
theorem a3p (h:l.length≤4):(O3 rs l).length=4:=by unfold O3;simp;omega
theorem b2W (h:l.length < 4):(I6 rs l q).length=4:=by unfold I6;simp;omega
theorem a2B {j:Nat} (h:j < l.length):(O3 rs l).getD j default=⟨2,l.getD j default,prI rs (l.getD j default)⟩:=by
 unfold O3
 rw [a6W (by simpa using h),Y9 h]
theorem a5P {j:Nat} (h:l.length≤j) (h4:j < 4):(O3 rs l).getD j default=zSl:=by
 unfold O3
 rw [a3U (by simpa using h),b2V (by simp;omega)]
theorem a8o {j:Nat} (h:j < l.length):(I6 rs l q).getD j default=⟨2,l.getD j default,prI rs (l.getD j default)⟩:=by
 unfold I6
 rw [a6W (by simpa using h),Y9 h]
theorem b1G:(I6 rs l q).getD l.length default=⟨1,q,prI rs q⟩:=by
 unfold I6
 rw [a3U (by simp)]
 simp
theorem b9C {j:Nat} (h:l.length < j) (h4:j < 4):(I6 rs l q).getD j default=zSl:=by
 unfold I6
 rw [a3U (by simp;omega),List.length_map]
 obtain ⟨k,e⟩:∃ k,j - l.length=k+1:=⟨j - l.length - 1,by omega⟩
 rw [e,List.getD_cons_succ,b2V (by omega)]
theorem a8p {α:Type} {a b:List α} {x:α}:(a++b).set a.length x=a++b.set 0 x:=by
 rw [List.set_append_right _ _ (Nat.le_refl _),Nat.sub_self]
theorem b7u (h:l.length < 4):(O3 rs l).set l.length ⟨1,q,prI rs q⟩=I6 rs l q:=by
 unfold O3 I6
 have e:=@a8p _ (l.map fun q=>(⟨2,q,prI rs q⟩:Slot)) (List.replicate (4 - l.length) zSl) ⟨1,q,prI rs q⟩
 rw [List.length_map] at e
 rw [e,show 4 - l.length=(3 - l.length)+1 by omega,List.replicate_succ,List.set_cons_zero]
theorem b7v (h:l.length < 4):(I6 rs l q).set l.length ⟨2,q,prI rs q⟩=O3 rs (l++[q]):=by
 unfold O3 I6
 have e:=@a8p _ (l.map fun q=>(⟨2,q,prI rs q⟩:Slot)) (⟨1,q,prI rs q⟩ :: List.replicate (3 - l.length) zSl) ⟨2,q,prI rs q⟩
 rw [List.length_map] at e
 rw [e,List.set_cons_zero,List.map_append,List.length_append,List.append_assoc]
 simp only [List.map_cons,List.map_nil,List.length_cons,List.length_nil,List.cons_append,List.nil_append]
 rw [show 4 - (l.length+(0+1))=3 - l.length by omega]
theorem a9l (h:l.length < 4):freS (O3 rs l)=l.length:=by
 unfold freS
 refine J9 (fun j hj=>?_) (by rw [a3p (by omega)];exact h) ?_
 ·rw [a2B hj];rfl
 ·rw [a5P (Nat.le_refl _) h];rfl
theorem b7w (h:l.length≤4) (hq:∀ j,j < l.length→l.getD j default≠q):u7 (O3 rs l) q=-1:=by
 unfold u7
 refine U1 (i:=4) (fun j hj=>?_) (by rw [a3p h];exact Nat.le_refl _)
 rw [← Bool.not_eq_true,a0N]
 rcases Nat.lt_or_ge j l.length with g | g
 ·rw [a2B g];exact fun e=>hq j g e.2
 ·rw [a5P g hj];exact fun e=>e.1 rfl
theorem b7x {j:Nat} (h:l.length < 4) (hj:j < l.length) (hd:∀ i,i < j→l.getD i default≠l.getD j default):u7 (I6 rs l q) (l.getD j default)=j:=by
 unfold u7
 refine J9 (fun i hi=>?_) (by rw [b2W h];omega) ?_
 ·rw [← Bool.not_eq_true,a0N,a8o (by omega)]
  exact fun e=>hd i hi e.2
 ·rw [a8o hj,a0N]
  exact ⟨by show (2:Int)≠0;decide,rfl⟩
theorem b2X (h:l.length < 4):bstS (I6 rs l q) true=l.length:=by
 have hl:(I6 rs l q).length=4:=b2W h
 have hneg:¬ I5 (I6 rs l q) true 4 < 0:=by
  rw [b2O]
  intro g
  have:=g l.length h
  rw [b1G] at this
  exact this rfl
 have hb:=@a2y (I6 rs l q) true 4
 have h1:=a5F (sl:=I6 rs l q) (most:=true) 4 (by omega)
 unfold bstS
 rw [hl]
 rcases Nat.lt_trichotomy (I5 (I6 rs l q) true 4).toNat l.length with g | g | g
 ·rw [a8o g] at h1;exact absurd h1 (by show ¬ (2:Int)=1;decide)
 ·omega
 ·rw [b9C g (by omega)] at h1;exact absurd h1 (by show ¬ (0:Int)=1;decide)
theorem b4M {α:Type} {f:α→Nat} {x:α}:∀ {l:List α},x∈l→f x≤(l.map f).sum
 | y :: l,h=>by
  rw [List.map_cons,List.sum_cons]
  rcases List.mem_cons.mp h with rfl | h
  ·omega
  ·have:=b4M (f:=f) h;omega
theorem b6a (h:l.length < 4) (hq:∀ j,j < l.length→l.getD j default≠q):a7G (a5O rs l) q (prI rs q)=⟨16,l,⟨I6 rs l q,[]⟩⟩:=by
 have h1:a7F (a5O rs l).qu q (prI rs q)=⟨O3 rs l,[⟨q,prI rs q⟩]⟩:=by
  unfold a7F
  rw [if_neg (by show ¬ 0≤u7 (O3 rs l) q;rw [b7w (by omega) hq];decide),if_neg (by have:=@c1D ([]:List Wtr) q;show ¬ 0≤inW [] q;simp at this;omega)]
  rfl
 have h2:setd ⟨O3 rs l,[⟨q,prI rs q⟩]⟩=false:=b7j (by show ¬ 1=0;decide) (by show 0≤freS (O3 rs l);rw [a9l h];omega)
 have h3:stQ ⟨O3 rs l,[⟨q,prI rs q⟩]⟩=⟨I6 rs l q,[]⟩:=by
  rw [r6 (by show 0≤freS (O3 rs l);rw [a9l h];omega)]
  show (⟨(O3 rs l).set (freS (O3 rs l)).toNat ⟨1,q,prI rs q⟩,[]⟩:Que)=_
  rw [a9l h,Int.toNat_natCast,b7u h]
 have h4:a13 ⟨O3 rs l,[⟨q,prI rs q⟩]⟩=⟨I6 rs l q,[]⟩:=by
  unfold a13
  have hp:0 < phi ⟨O3 rs l,[⟨q,prI rs q⟩]⟩:=by
   have hm:zSl∈O3 rs l:=n6.mpr ⟨l.length,by rw [a3p (by omega)];exact h,a5P (Nat.le_refl _) h⟩
   have:wtS zSl≤((O3 rs l).map wtS).sum:=b4M hm
   have e:wtS zSl=2000:=rfl
   show 0 < ((O3 rs l).map wtS).sum
   omega
  obtain ⟨n,hn⟩:∃ n,phi ⟨O3 rs l,[⟨q,prI rs q⟩]⟩=n+1:=⟨_,(Nat.sub_add_cancel hp).symm⟩
  rw [hn]
  unfold a30
  rw [h2]
  simp only [Bool.false_eq_true,if_false]
  rw [h3]
  unfold a30
  rw [b3V (by rfl)]
  rfl
 unfold a7G a3o
 rw [h1,h4]
 rfl
theorem b9D (h:l.length < 4) (hd:∀ i j,i < j→j < l.length→l.getD i default≠l.getD j default):a92 ⟨16,l,⟨I6 rs l q,[]⟩⟩=if l.length=0 then 16 else prI rs (l.getD (l.length - 1) default):=by
 unfold a92
 show (if l.length=0 then 16 else lvl (I6 rs l q) (l.getD (l.length - 1) default))=_
 split
 ·rfl
 ·next h0 =>
  unfold lvl
  rw [b7x h (show l.length - 1 < l.length by omega) (fun i hi=>hd i _ hi (by omega)),Int.toNat_natCast,a8o (by omega)]
theorem b7y (h:l.length < 4):a4H ⟨16,l,⟨I6 rs l q,[]⟩⟩=a5O rs (l++[q]):=by
 unfold a4H a5O b1C tkS tkI
 show (⟨16,l++[((I6 rs l q).getD (bstS (I6 rs l q) true).toNat default).q],⟨(I6 rs l q).set (bstS (I6 rs l q) true).toNat ⟨2,((I6 rs l q).getD (bstS (I6 rs l q) true).toNat default).q,((I6 rs l q).getD (bstS (I6 rs l q) true).toNat default).p⟩,[]⟩⟩:Ifc)=_
 rw [b2X h,Int.toNat_natCast,b1G]
 show (⟨16,l++[q],⟨(I6 rs l q).set l.length ⟨2,q,prI rs q⟩,[]⟩⟩:Ifc)=_
 rw [b7v h]
theorem c1J (h:l.length≤4) (hr:∀ j,j < l.length→(0≤l.getD j default∧l.getD j default≤7)∧0≤prI rs (l.getD j default)∧prI rs (l.getD j default)≤15) (hd:∀ i j,i < j→j < l.length→l.getD i default≠l.getD j default):IfF (a5O rs l):=by
 have key:∀ i,i < 4→((O3 rs l).getD i default).s≠0→i < l.length:=fun i hi h0=>by
  rcases Nat.lt_or_ge i l.length with g | g
  ·exact g
  ·rw [a5P g hi] at h0;exact absurd rfl h0
 refine ⟨⟨⟨a3p h,fun i hi h0=>?_,fun i hi h0=>?_,fun i j hij hj h1 h2=>?_⟩,Nat.zero_le _,fun w hw=>(by cases hw),List.Pairwise.nil⟩,h,fun q hq=>?_⟩
 ·show (O3 rs l).getD i default=zSl
  have h0:((O3 rs l).getD i default).s=0:=h0
  rcases Nat.lt_or_ge i l.length with g | g
  ·rw [a2B g] at h0;exact absurd h0 (by show ¬ (2:Int)=0;decide)
  ·exact a5P g hi
 ·have g:=key i hi h0
  have e:(a5O rs l).qu.sl.getD i default=⟨2,l.getD i default,prI rs (l.getD i default)⟩:=a2B g
  rw [e]
  exact ⟨⟨by show (1:Int)≤2;decide,by show (2:Int)≤3;decide⟩,hr i g⟩
 ·have g1:=key i (by omega) h1
  have g2:=key j hj h2
  show ((O3 rs l).getD i default).q≠((O3 rs l).getD j default).q
  rw [a2B g1,a2B g2]
  exact hd i j hij g2
 ·obtain ⟨i,hi,rfl⟩:=n6.mp hq
  have hi:i < l.length:=hi
  refine ⟨⟨l.getD i default,prI rs (l.getD i default)⟩,M8.mpr ⟨⟨2,l.getD i default,prI rs (l.getD i default)⟩,n6.mpr ⟨i,by show i < (O3 rs l).length;rw [a3p h];omega,a2B hi⟩,rfl,rfl⟩,rfl⟩
end
section
variable {rs:List Route} {po:List Bool} {k:Nat} {x:Ifc}
end
structure StkF (rs:List Route) (l:List Int):Prop where
 n:l.length≤4
 el:∀ j,j < l.length→(0≤l.getD j default∧l.getD j default≤7)∧0≤prI rs (l.getD j default)∧prI rs (l.getD j default)≤15
 dn:∀ j,0 < j→j < l.length→prI rs (l.getD j default) < prI rs (l.getD (j - 1) default)
theorem StkF.lt {rs:List Route} {l:List Int} (h:StkF rs l) {i:Nat}:∀ {j:Nat},i < j→j < l.length→prI rs (l.getD j default) < prI rs (l.getD i default)
 | j+1,hij,hj=>by
  have:=h.dn (j+1) (by omega) hj
  by_cases e:i=j
  ·subst e;exact this
  ·have:=StkF.lt h (show i < j by omega) (by omega)
   simp only [Nat.add_sub_cancel] at *
   omega
theorem StkF.dif {rs:List Route} {l:List Int} (h:StkF rs l) {i j:Nat} (hij:i < j) (hj:j < l.length):l.getD i default≠l.getD j default:=fun e=>by
 have:=h.lt hij hj
 rw [e] at this
 omega
theorem StkF.take {rs:List Route} {l:List Int} (h:StkF rs l) {n:Nat} (hn:n≤l.length):IfF (a5O rs (l.take n)):=by
 have hl:(l.take n).length=n:=by rw [List.length_take];omega
 have hg:∀ j,j < n→(l.take n).getD j default=l.getD j default:=fun j hj=>T2 hj
 refine c1J (by rw [hl];have:=h.n;omega) (fun j hj=>?_) (fun i j hij hj=>?_)
 ·rw [hg j (by omega)];exact h.el j (by omega)
 ·rw [hg i (by omega),hg j (by omega)];exact h.dif hij (by omega)
theorem StkF.step {rs:List Route} {l:List Int} (h:StkF rs l) {i:Nat} (hi:i < l.length) :
 IfF (a7G (a5O rs (l.take i)) (l.getD i default) (prI rs (l.getD i default)))∧(a7G (a5O rs (l.take i)) (l.getD i default) (prI rs (l.getD i default))).st.length < 4 ∧
 a2A (a7G (a5O rs (l.take i)) (l.getD i default) (prI rs (l.getD i default))).qu.sl (min (a7G (a5O rs (l.take i)) (l.getD i default) (prI rs (l.getD i default))).ma (a92 (a7G (a5O rs (l.take i)) (l.getD i default) (prI rs (l.getD i default)))))=true ∧
 a4H (a7G (a5O rs (l.take i)) (l.getD i default) (prI rs (l.getD i default)))=a5O rs (l.take (i+1)):=by
 have hn:=h.n
 have hl:(l.take i).length=i:=by rw [List.length_take];omega
 have hg:∀ j,j < i→(l.take i).getD j default=l.getD j default:=fun j hj=>T2 hj
 have hr:=b6a (rs:=rs) (l:=l.take i) (q:=l.getD i default) (by omega) (fun j hj=>by rw [hg j (by omega)];exact h.dif (by omega) hi)
 refine ⟨b7t (h.take (by omega)) (h.el i hi).1 (h.el i hi).2,?_,?_,?_⟩
 ·show (l.take i).length < 4;omega
 ·rw [hr,b9D (by omega) (fun a b hab hb=>by rw [hg a (by omega),hg b (by omega)];exact h.dif hab (by omega))]
  rw [a0l]
  show 0≤bstS (I6 rs (l.take i) (l.getD i default)) true∧((I6 rs (l.take i) (l.getD i default)).getD (bstS (I6 rs (l.take i) (l.getD i default)) true).toNat default).p < min 16 _
  rw [b2X (by omega),Int.toNat_natCast,b1G]
  have h15:=(h.el i hi).2.2
  refine ⟨by omega,?_⟩
  show prI rs (l.getD i default) < _
  rw [hl]
  split
  ·omega
  ·next h0 =>
   rw [hg (i - 1) (by omega)]
   have:=h.dn i (by omega) hi
   omega
 ·rw [hr,b7y (by omega)]
  congr 1
  rw [List.take_add_one,List.getElem?_eq_getElem hi,List.getD_eq_getElem?_getD,List.getElem?_eq_getElem hi]
  rfl
end Go.Rf
namespace Go.Rf
section
variable {q:Que} {irq p lim:Int} {x:Ifc}
theorem b7z (h:0≤u7 q.sl irq):a7F q irq p=⟨ptS q.sl irq,q.wa⟩:=by unfold a7F;rw [if_pos h]
theorem b7A (h:u7 q.sl irq < 0) (h2:inW q.wa irq < 0):a7F q irq p=⟨q.sl,insW q.wa ⟨irq,p⟩⟩:=by unfold a7F;rw [if_neg (by omega),if_neg (by omega)]
theorem b7B (h:u7 q.sl irq < 0) (h2:0≤inW q.wa irq):a7F q irq p=q:=by unfold a7F;rw [if_neg (by omega),if_pos h2]
def b1H (q:Que) (lim:Int):Que×Int×Bool:=if a2A q.sl lim then (b1C q,tkI q.sl,true) else (⟨[],[]⟩,0,false)
theorem b3Z (h:a2A q.sl lim=true):b1H q lim=(b1C q,tkI q.sl,true):=by unfold b1H;rw [h];rfl
theorem b7C (h:a2A q.sl lim=false):b1H q lim=(⟨[],[]⟩,0,false):=by unfold b1H;rw [h];rfl
theorem c0s {sl:List Slot}:(tkT sl lim).2.2=a2A sl lim:=by
 cases h:a2A sl lim
 ·rw [b7n h]
 ·rw [b4E h]
theorem b7D:(b1H q lim).2.2=a2A q.sl lim:=by
 cases h:a2A q.sl lim
 ·rw [b7C h]
 ·rw [b3Z h]
def b9E (x:Ifc):Int:=min x.ma (a92 x)
def okT (x:Ifc):Bool:=a2A x.qu.sl (b9E x)
def noI:Ifc:=⟨0,[],⟨[],[]⟩⟩
def U7 (x:Ifc):Ifc×Int×Bool:=if okT x then (a4H x,tkI x.qu.sl,true) else (noI,0,false)
theorem b4N (h:okT x=true):U7 x=(a4H x,tkI x.qu.sl,true):=by unfold U7;rw [h];rfl
theorem b4O (h:okT x=false):U7 x=(noI,0,false):=by unfold U7;rw [h];rfl
theorem b7E {sl:List Slot} (h:SlF sl) (hb:0≤bstS sl true):0≤tkI sl∧tkI sl≤7:=by
 obtain ⟨k,e1,e2,e3⟩:=a0V hb
 unfold tkI
 rw [e1,Int.toNat_natCast]
 exact (h.ok k (by rw [← h.len];exact e2) (by omega)).2.1
theorem c0t {sl:List Slot} (h:(sl.getD (u7 sl irq).toNat default).s=2):ptS sl irq=sl.set (u7 sl irq).toNat ⟨3,(sl.getD (u7 sl irq).toNat default).q,(sl.getD (u7 sl irq).toNat default).p⟩:=by unfold ptS;rw [if_pos h]
theorem c0u {sl:List Slot} (h:¬ (sl.getD (u7 sl irq).toNat default).s=2):ptS sl irq=sl.set (u7 sl irq).toNat ⟨(sl.getD (u7 sl irq).toNat default).s,(sl.getD (u7 sl irq).toNat default).q,(sl.getD (u7 sl irq).toNat default).p⟩:=by unfold ptS;rw [if_neg h]
end
end Go.Rf
namespace Go.Rf
open Go
theorem b2Y {α β:Type} {f:α→β} {k:Nat} {x:α} {y:β} (h:f x=y):(List.replicate k x).map f++[y]=(List.replicate (k+1) x).map f:=by
 subst h
 rw [List.replicate_succ',List.map_append]
 rfl
end Go.Rf
namespace Go.Rf
end Go.Rf
namespace Go.Rf
open Go
def srtW (l:List Wtr):List Wtr:=l.foldl insW []
def b2Z (l:List Wtr):Prop:=l.Pairwise (fun a b=>a.q≠b.q)
theorem b0G {l:List Wtr} {x:Wtr}:srtW (l++[x])=insW (srtW l) x:=by simp [srtW,List.foldl_append]
theorem b0H {x:Wtr}:∀ {l acc:List Wtr},x∈l.foldl insW acc↔x∈acc∨x∈l
 | [],acc=>by simp
 | y :: l,acc=>by
  rw [List.foldl_cons,b0H,a5L,List.mem_cons]
  constructor
  ·rintro ((h | h) | h)
   ·exact .inr (.inl h)
   ·exact .inl h
   ·exact .inr (.inr h)
  ·rintro (h | h | h)
   ·exact .inl (.inr h)
   ·exact .inl (.inl h)
   ·exact .inr h
theorem b0I:∀ {l acc:List Wtr},(l.foldl insW acc).length=acc.length+l.length
 | [],acc=>by simp
 | y :: l,acc=>by rw [List.foldl_cons,b0I,a5H,List.length_cons];omega
theorem b20:∀ {l acc:List Wtr},acc.Pairwise ltW→b2Z l→(∀ a∈acc,∀ b∈l,a.q≠b.q)→(l.foldl insW acc).Pairwise ltW
 | [],acc,h,_,_=>h
 | y :: l,acc,h,hd,hx=>by
  obtain ⟨h1,h2⟩:=List.pairwise_cons.mp hd
  rw [List.foldl_cons]
  refine b20 (b1A h fun a ha=>hx a ha y (by simp)) h2 fun a ha b hb=>?_
  rcases a5L.mp ha with rfl | ha
  ·exact h1 b hb
  ·exact hx a ha b (by simp [hb])
theorem b21 {l:List Wtr}:(srtW l).length=l.length:=by unfold srtW;rw [b0I];simp
theorem b22 {l:List Wtr} {x:Wtr}:x∈srtW l↔x∈l:=by unfold srtW;rw [b0H];simp
theorem b9F {l:List Wtr} (h:b2Z l):(srtW l).Pairwise ltW:=b20 List.Pairwise.nil h (fun a ha=>by cases ha)
theorem b7F {acc:List Wtr} {w:Wtr} (h:∀ a∈acc,lessW a w=true):insW acc w=acc++[w]:=by
 rw [a5I (i:=acc.length) (fun j hj=>h _ (n6.mpr ⟨j,hj,rfl⟩)) (Nat.le_refl _) (.inl rfl)]
 simp
theorem a5Q:∀ {l acc:List Wtr},(acc++l).Pairwise ltW→l.foldl insW acc=acc++l
 | [],acc,_=>by simp
 | y :: l,acc,h=>by
  rw [List.foldl_cons,b7F (fun a ha=>((List.pairwise_append.mp h).2.2 a ha y (by simp)).1)]
  rw [a5Q (by simpa using h)]
  simp
theorem b23 {l:List Wtr} (h:l.Pairwise ltW):srtW l=l:=by unfold srtW;rw [a5Q (by simpa using h)];rfl
def a14 (P:List Wtr) (x:Wtr) (R:List Wtr) (j:Nat):List Wtr:=P.take j++x :: (P.drop j++R)
section
variable {P R:List Wtr} {x:Wtr} {j:Nat}
theorem a3q (h:j≤P.length):(a14 P x R j).length=P.length+1+R.length:=by
 unfold a14
 simp
 omega
theorem b9G (h:j≤P.length):(a14 P x R j).getD j default=x:=by
 unfold a14
 rw [a3U (by rw [List.length_take];omega),List.length_take,Nat.min_eq_left h,Nat.sub_self]
 rfl
theorem b7G {t:Nat} (h:t < j) (hj:j≤P.length):(a14 P x R j).getD t default=P.getD t default:=by
 unfold a14
 rw [a6W (by rw [List.length_take];omega),T2 h]
theorem b7H:a14 P x R P.length=P++x :: R:=by unfold a14;simp
theorem b6b {β:Type} {f:Wtr→β} (h0:0 < j) (hj:j≤P.length):(((a14 P x R j).map f).set j (f (P.getD (j - 1) default))).set (j - 1) (f x)=(a14 P x R (j - 1)).map f:=by
 have hlt:j - 1 < P.length:=by omega
 have h1:P.take j=P.take (j - 1)++[P.getD (j - 1) default]:=by
  have:=List.take_add_one (l:=P) (i:=j - 1)
  rw [show j - 1+1=j by omega,List.getElem?_eq_getElem hlt] at this
  rw [this,List.getD_eq_getElem?_getD,List.getElem?_eq_getElem hlt]
  rfl
 have h2:P.drop (j - 1)=P.getD (j - 1) default :: P.drop j:=by
  rw [List.drop_eq_getElem_cons hlt,show j - 1+1=j by omega,List.getD_eq_getElem?_getD,List.getElem?_eq_getElem hlt]
  rfl
 rw [← List.map_set,← List.map_set]
 congr 1
 unfold a14
 rw [h1,h2]
 generalize P.getD (j - 1) default=y
 have hl:(P.take (j - 1)).length=j - 1:=by rw [List.length_take];omega
 generalize hA:P.take (j - 1)=A at *
 have e1:∀ (z:Wtr) (B:List Wtr),(A++[y]++z :: B).set j y=A++[y]++y :: B:=fun z B=>by
  have:=@a8p _ (A++[y]) (z :: B) y
  rw [List.length_append,List.length_cons,List.length_nil,show A.length+(0+1)=j by omega] at this
  rw [this];rfl
 rw [e1]
 have e2:=@a8p _ A ([y]++y :: (P.drop j++R)) x
 rw [hl] at e2
 rw [List.append_assoc,e2]
 simp
theorem b24 (hj:j≤P.length) (hs:P.Pairwise ltW) (hd:∀ p∈P,p.q≠x.q) (h1:∀ t,j≤t→t < P.length→lessW x (P.getD t default)=true) (h2:j=0∨lessW x (P.getD (j - 1) default)=false):a14 P x R j=insW P x++R:=by
 have hp:=a5J.mp hs
 have hh:∀ t,t < j→lessW (P.getD t default) x=true:=fun t ht=>by
  have hl:lessW (P.getD (j - 1) default) x=true:=by
   rcases h2 with h2 | h2
   ·omega
   ·rw [a3S (hd _ (n6.mpr ⟨j - 1,by omega,rfl⟩)),h2];rfl
  rcases Nat.lt_or_ge t (j - 1) with g | g
  ·exact a3m (hp t (j - 1) g (by omega)).1 hl
  ·rw [show t=j - 1 by omega];exact hl
 have he:j=P.length∨(j < P.length∧lessW (P.getD j default) x=false):=by
  rcases Nat.lt_or_ge j P.length with g | g
  ·exact .inr ⟨g,a9f (h1 j (Nat.le_refl _) g)⟩
  ·exact .inl (by omega)
 rw [a5I hh hj he]
 unfold a14;simp
end
def a7H (d:List Wtr) (i:Nat):List Wtr:=srtW (d.take i)++d.drop i
section
variable {d:List Wtr} {i:Nat}
theorem c1K (h:0 < d.length):a7H d 1=d:=by
 match d,h with
 | x :: d,_=>simp [a7H,srtW,insW,b3T]
theorem c1L (h:d.length=0):a7H d 1=d:=by
 match d,h with
 | [],_=>rfl
theorem c1M:a7H d 1=d:=by
 rcases Nat.eq_zero_or_pos d.length with h | h
 ·exact c1L h
 ·exact c1K h
theorem b7I (h:d.length≤i):a7H d i=srtW d:=by unfold a7H;rw [List.take_of_length_le h,List.drop_of_length_le h,List.append_nil]
theorem b7J (h:i < d.length):a7H d i=a14 (srtW (d.take i)) (d.getD i default) (d.drop (i+1)) i:=by
 have hl:(srtW (d.take i)).length=i:=by rw [b21,List.length_take];omega
 conv=>rhs;rw [← hl]
 unfold a7H
 rw [hl]
 have e:=@b7H (srtW (d.take i)) (d.drop (i+1)) (d.getD i default)
 rw [hl] at e
 rw [e,List.drop_eq_getElem_cons h,List.getD_eq_getElem?_getD,List.getElem?_eq_getElem h]
 rfl
theorem b0J (h:i < d.length):a7H d (i+1)=insW (srtW (d.take i)) (d.getD i default)++d.drop (i+1):=by
 unfold a7H
 rw [List.take_add_one,List.getElem?_eq_getElem h,List.getD_eq_getElem?_getD,List.getElem?_eq_getElem h]
 show srtW (d.take i++[d[i]])++_=_
 rw [b0G]
 rfl
structure MovF (d:List Wtr) (i:Nat):Prop where
 len:(srtW (d.take i)).length=i
 pw:(srtW (d.take i)).Pairwise ltW
 dif:∀ p∈srtW (d.take i),p.q≠(d.getD i default).q
theorem c4h (hd:b2Z d) (h:i < d.length):MovF d i:=by
 refine ⟨by rw [b21,List.length_take];omega,b9F (List.Pairwise.sublist (List.take_sublist _ _) hd),fun p hp=>?_⟩
 obtain ⟨t,ht,rfl⟩:=n6.mp (b22.mp hp)
 rw [List.length_take] at ht
 rw [T2 (by omega)]
 exact (a5J.mp hd) t i (by omega) h
end
def pnP (x:Slot):Bool:=decide (x.s=1) || decide (x.s=3)
theorem a3V {x:Slot}:pnP x=true↔x.s=1∨x.s=3:=by simp [pnP]
def pnL (q:Que):Nat→List Wtr
 | 0=>q.wa
 | i+1=>if pnP (q.sl.getD i default) then pnL q i++[wOf (q.sl.getD i default)] else pnL q i
def pnS (q:Que):Nat→List Wtr
 | 0=>q.wa
 | i+1=>if pnP (q.sl.getD i default) then insW (pnS q i) (wOf (q.sl.getD i default)) else pnS q i
section
variable {q:Que} {i:Nat}
theorem a5R (h:(q.sl.getD i default).s=1∨(q.sl.getD i default).s=3):pnL q (i+1)=pnL q i++[wOf (q.sl.getD i default)]:=by
 show (if pnP _ then _ else _)=_
 rw [if_pos (a3V.mpr h)]
theorem b7K (h:¬ ((q.sl.getD i default).s=1∨(q.sl.getD i default).s=3)):pnL q (i+1)=pnL q i:=by
 show (if pnP _ then _ else _)=_
 rw [if_neg (fun g=>h (a3V.mp g))]
theorem a5S (h:(q.sl.getD i default).s=1∨(q.sl.getD i default).s=3):pnS q (i+1)=insW (pnS q i) (wOf (q.sl.getD i default)):=by
 show (if pnP _ then _ else _)=_
 rw [if_pos (a3V.mpr h)]
theorem b7L (h:¬ ((q.sl.getD i default).s=1∨(q.sl.getD i default).s=3)):pnS q (i+1)=pnS q i:=by
 show (if pnP _ then _ else _)=_
 rw [if_neg (fun g=>h (a3V.mp g))]
theorem b30 (h:QF q):∀ i,srtW (pnL q i)=pnS q i
 | 0=>b23 h.pw
 | i+1=>by
  have ih:=b30 h i
  show srtW (if pnP _ then _ else _)=(if pnP _ then _ else _)
  split
  ·rw [b0G,ih]
  ·exact ih
theorem b1I:∀ i,(pnL q i).length≤q.wa.length+i
 | 0=>Nat.le_refl _
 | i+1=>by
  have ih:=@b1I i
  show (if pnP _ then _ else _:List Wtr).length≤_
  split
  ·rw [List.length_append,List.length_cons,List.length_nil];omega
  ·omega
theorem a5T:∀ i,(pnS q i).length≤q.wa.length+i
 | 0=>Nat.le_refl _
 | i+1=>by
  have ih:=@a5T i
  show (if pnP _ then _ else _:List Wtr).length≤_
  split
  ·rw [a5H];omega
  ·omega
theorem a8q {x:Wtr}:∀ i,x∈pnL q i→x∈q.wa∨∃ j,j < i∧(q.sl.getD j default).s≠0∧x=wOf (q.sl.getD j default)
 | 0,h=>.inl h
 | i+1,h=>by
  change x∈(if pnP _ then _ else _:List Wtr) at h
  split at h
  ·next hp =>
   rcases List.mem_append.mp h with h | h
   ·rcases a8q i h with g | ⟨j,g1,g2,g3⟩
    ·exact .inl g
    ·exact .inr ⟨j,by omega,g2,g3⟩
   ·refine .inr ⟨i,by omega,?_,List.mem_singleton.mp h⟩
    rcases a3V.mp hp with g | g<;>omega
  ·rcases a8q i h with g | ⟨j,g1,g2,g3⟩
   ·exact .inl g
   ·exact .inr ⟨j,by omega,g2,g3⟩
theorem b4P (h:QF q):∀ i,i≤4→b2Z (pnL q i)
 | 0,_=>h.pw.imp fun h=>h.2
 | i+1,hi=>by
  have ih:=b4P h i (by omega)
  show b2Z (if pnP _ then _ else _)
  split
  ·next hp =>
   have h0:(q.sl.getD i default).s≠0:=by rcases a3V.mp hp with g | g<;>omega
   refine List.pairwise_append.mpr ⟨ih,List.pairwise_singleton _ _,fun a ha b hb=>?_⟩
   rw [List.mem_singleton.mp hb]
   show a.q≠(q.sl.getD i default).q
   rcases a8q i ha with g | ⟨j,g1,g2,rfl⟩
   ·exact fun e=>(h.wa a g).2.2 _ (n6.mpr ⟨i,by rw [h.sl.len];omega,rfl⟩) h0 e.symm
   ·exact h.sl.dif j i g1 (by omega) g2 h0
  ·exact ih
theorem b9H (h:QF q) {x:Wtr}:x∈pnS q i↔x∈pnL q i:=by rw [← b30 h,b22]
theorem c3r (h:QF q) {x:Wtr} (hi:i≤4) (hx:x∈pnL q i):0≤x.q∧x.q≤7:=by
 rcases a8q i hx with g | ⟨j,g1,g2,rfl⟩
 ·exact (h.wa x g).1
 ·exact (h.sl.ok j (by omega) g2).2.1
end
def D6 (q:Que):List Int:=(pnS q 4).map (·.q)
theorem b1J {q:Que} (h:QF q) {i:Nat} (hi:i < (D6 q).length):0≤(D6 q).getD i default∧(D6 q).getD i default≤7:=by
 unfold D6 at hi ⊢
 rw [List.length_map] at hi
 rw [Y9 hi]
 exact c3r h (Nat.le_refl _) ((b9H h).mp (n6.mpr ⟨i,hi,rfl⟩))
theorem a15 {q:Que} (h:QF q):(D6 q).length≤12:=by
 unfold D6
 rw [List.length_map]
 have:=@a5T q 4
 have:=h.wn8
 omega
end Go.Rf
namespace Go.Rf
section
variable {P R:List Wtr} {x:Wtr} {j:Nat} {β:Type} {f:Wtr→β} {c:β}
theorem b4Q {α:Type} [Inhabited α] {g:α→β} {l:List α} {i:Nat} (h:i < l.length):(l.map g)[i]?=some (g (l.getD i default)):=by
 rw [List.getElem?_map,List.getElem?_eq_getElem h,List.getD_eq_getElem?_getD,List.getElem?_eq_getElem h]
 rfl
theorem w4 (h:j≤P.length):((a14 P x R j).map f)[((j:Int)).toNat]?=some (f x):=by
 show ((a14 P x R j).map f)[j]?=_
 rw [b4Q (by rw [a3q h];omega),b9G h]
theorem x3 (h0:0 < j) (h:j≤P.length):((a14 P x R j).map f)[((j:Int) - 1).toNat]?=some (f (P.getD (j - 1) default)):=by
 rw [show ((j:Int) - 1).toNat=j - 1 by omega]
 rw [b4Q (by rw [a3q h];omega),b7G (by omega) h]
theorem x9 (h0:0 < j) (h:j≤P.length):(((a14 P x R j).map f).set ((j:Int)).toNat c)[((j:Int) - 1).toNat]?=some (f (P.getD (j - 1) default)):=by
 rw [← x3 (f:=f) (x:=x) (R:=R) h0 h]
 show (((a14 P x R j).map f).set j c)[((j:Int) - 1).toNat]?=_
 rw [List.getElem?_set_ne (by omega)]
end
theorem a9m {α β:Type} [Inhabited α] {f:α→β} {l:List α} {i:Nat} {y:β} (h:i < l.length) (hy:y=f (l.getD i default)):(l.take i).map f++[y]=(l.take (i+1)).map f:=by
 subst hy
 rw [List.take_add_one,List.getElem?_eq_getElem h,List.map_append,List.getD_eq_getElem?_getD,List.getElem?_eq_getElem h]
 rfl
theorem c1N {q:Que} {i:Nat} (h:i < (pnS q 4).length):(D6 q).getD i default=((pnS q 4).getD i default).q:=by unfold D6;rw [Y9 h]
theorem b4R {q:Que}:(D6 q).length=(pnS q 4).length:=by unfold D6;rw [List.length_map]
theorem b25 {q:Que} {i:Nat} (h:i < (pnS q 4).length):((D6 q).take i).map r9++[[Value.int .i64 ((pnS q 4).getD i default).q]]=((D6 q).take (i+1)).map r9:=a9m (by rw [b4R];exact h) (by rw [c1N h];rfl)
theorem b4S {q:Que} {i:Nat} (h:(pnS q 4).length≤i):(D6 q).take i=D6 q:=List.take_of_length_le (by rw [b4R];exact h)
end Go.Rf
namespace Go.Rf
open Go
theorem a3W {a b:List Int}:srtI a=srtI b↔a.Perm b:=by
 constructor
 ·intro h
  exact (a3R a).symm.trans (h▸a3R b)
 ·intro h
  have hp:∀ l:List Int,(srtI l).Pairwise (fun x y=>decide (x≤y)=true):=fun l=>List.pairwise_mergeSort (fun a b c h1 h2=>by simp at *;omega) (fun a b=>by simp;omega) l
  exact List.Perm.eq_of_pairwise (fun x y _ _ h1 h2=>by simp at *;omega) (hp a) (hp b) ((a3R a).trans (h.trans (a3R b).symm))
theorem b4T {α:Type} [BEq α] [LawfulBEq α]:∀ {a b:List α},a.Nodup→(∀ x∈a,x∈b)→b.length≤a.length→a.Perm b
 | [],b,_,_,hl=>by
  have:b=[]:=List.eq_nil_of_length_eq_zero (by simpa using hl)
  rw [this]
 | x :: a,b,hn,hs,hl=>by
  obtain ⟨h1,h2⟩:=List.nodup_cons.mp hn
  have hx:x∈b:=hs x (by simp)
  refine List.Perm.trans ?_ (List.perm_cons_erase hx).symm
  refine List.Perm.cons x (b4T h2 (fun y hy=>?_) ?_)
  ·have hne:y≠x:=fun e=>h1 (e▸hy)
   exact (List.mem_erase_of_ne hne).mpr (hs y (by simp [hy]))
  ·rw [List.length_erase_of_mem hx]
   simp only [List.length_cons] at hl
   omega
def actN (sl:List Slot):Nat→List Int
 | 0=>[]
 | i+1=>if P6 (sl.getD i default) then actN sl i++[(sl.getD i default).q] else actN sl i
def b1K (l:List Int) (n:Int):List Int:=l.takeWhile (fun x=>decide (x < n))++[n]++l.dropWhile (fun x=>decide (x < n))
def a6X (sl:List Slot):Nat→List Int
 | 0=>[]
 | i+1=>if P6 (sl.getD i default) then b1K (a6X sl i) (sl.getD i default).q else a6X sl i
section
variable {sl:List Slot} {i:Nat}
theorem b7M (h:P6 (sl.getD i default)=true):actN sl (i+1)=actN sl i++[(sl.getD i default).q]:=by show (if _ then _ else _)=_;rw [if_pos h]
theorem b7N (h:P6 (sl.getD i default)=false):actN sl (i+1)=actN sl i:=by show (if _ then _ else _)=_;rw [if_neg (by rw [h];decide)]
theorem b31 (h:(sl.getD i default).s=2∨(sl.getD i default).s=3):a6X sl (i+1)=b1K (a6X sl i) (sl.getD i default).q:=by show (if _ then _ else _)=_;rw [if_pos (x7.mpr h)]
theorem b32 (h:¬ ((sl.getD i default).s=2∨(sl.getD i default).s=3)):a6X sl (i+1)=a6X sl i:=by show (if _ then _ else _)=_;rw [if_neg (fun g=>h (x7.mp g))]
theorem a0m:∀ i,(actN sl i).length≤i
 | 0=>Nat.le_refl _
 | i+1=>by
  have ih:=@a0m i
  show (if _ then _ else _:List Int).length≤_
  split
  ·rw [List.length_append,List.length_cons,List.length_nil];omega
  ·omega
theorem b7O {l:List Int} {n x:Int}:x∈b1K l n↔x=n∨x∈l:=by
 have h:=List.takeWhile_append_dropWhile (p:=fun x=>decide (x < n)) (l:=l)
 have:x∈l↔x∈l.takeWhile (fun x=>decide (x < n))∨x∈l.dropWhile (fun x=>decide (x < n)):=by
  conv=>lhs;rw [← h]
  exact List.mem_append
 unfold b1K
 simp only [List.mem_append,List.mem_singleton,this]
 constructor
 ·rintro ((h | h) | h)
  ·exact .inr (.inl h)
  ·exact .inl h
  ·exact .inr (.inr h)
 ·rintro (h | h | h)
  ·exact .inl (.inr h)
  ·exact .inl (.inl h)
  ·exact .inr h
theorem b7P {l:List Int} {n:Int}:(b1K l n).length=l.length+1:=by
 have h:=congrArg List.length (List.takeWhile_append_dropWhile (p:=fun x=>decide (x < n)) (l:=l))
 unfold b1K
 simp only [List.length_append,List.length_cons,List.length_nil] at *
 omega
theorem b9I {l:List Int} {n:Int} {k:Nat} (h:∀ j,j < k→l.getD j default < n) (hk:k≤l.length) (he:k=l.length∨(k < l.length∧¬ l.getD k default < n)):b1K l n=l.take k++[n]++l.drop k:=by
 have key:l.takeWhile (fun x=>decide (x < n))=l.take k∧l.dropWhile (fun x=>decide (x < n))=l.drop k:=by
  induction l generalizing k with
  | nil=>simp at hk;subst hk;exact ⟨rfl,rfl⟩
  | cons x l ih =>
   cases k with
   | zero =>
    rcases he with he | ⟨_,he⟩
    ·simp at he
    ·have he:¬ x < n:=he
     simp [he]
   | succ k =>
    have h0:x < n:=h 0 (by omega)
    obtain ⟨e1,e2⟩:=ih (k:=k) (fun j hj=>by simpa using h (j+1) (by omega)) (by simpa using hk) (by
     rcases he with he | ⟨g1,g2⟩
     ·left;simpa using he
     ·right;exact ⟨by simpa using g1,by simpa using g2⟩)
    simp [h0,e1,e2]
 unfold b1K
 rw [key.1,key.2]
theorem a5U {x:Int}:∀ i,x∈a6X sl i↔x∈actN sl i
 | 0=>Iff.rfl
 | i+1=>by
  have ih:=@a5U x i
  show x∈(if _ then _ else _:List Int)↔x∈(if _ then _ else _:List Int)
  split
  ·rw [b7O,List.mem_append,List.mem_singleton,ih];exact Or.comm
  ·exact ih
theorem a5V:∀ i,(a6X sl i).length=(actN sl i).length
 | 0=>rfl
 | i+1=>by
  have ih:=@a5V i
  show (if _ then _ else _:List Int).length=(if _ then _ else _:List Int).length
  split
  ·rw [b7P,List.length_append,ih];rfl
  ·exact ih
theorem N0 {x:Int}:∀ i,x∈actN sl i↔∃ j,j < i∧P6 (sl.getD j default)=true∧(sl.getD j default).q=x
 | 0=>by simp [actN]
 | i+1=>by
  have ih:=@N0 x i
  show x∈(if _ then _ else _:List Int)↔_
  split
  ·next h =>
   rw [List.mem_append,List.mem_singleton,ih]
   constructor
   ·rintro (⟨j,h1,h2⟩ | rfl)
    ·exact ⟨j,by omega,h2⟩
    ·exact ⟨i,by omega,h,rfl⟩
   ·rintro ⟨j,h1,h2,h3⟩
    by_cases e:j=i
    ·subst e;exact .inr h3.symm
    ·exact .inl ⟨j,by omega,h2,h3⟩
  ·next h =>
   rw [ih]
   constructor
   ·rintro ⟨j,h1,h2⟩;exact ⟨j,by omega,h2⟩
   ·rintro ⟨j,h1,h2,h3⟩
    by_cases e:j=i
    ·subst e;exact absurd h2 h
    ·exact ⟨j,by omega,h2,h3⟩
theorem b1L (h:SlF sl):∀ i,i≤4→(actN sl i).Nodup
 | 0,_=>List.nodup_nil
 | i+1,hi=>by
  have ih:=b1L h i (by omega)
  show (if _ then _ else _:List Int).Nodup
  split
  ·next ha =>
   refine List.nodup_append.mpr ⟨ih,List.nodup_cons.mpr ⟨by simp,List.nodup_nil⟩,fun x hx y hy e=>?_⟩
   rw [List.mem_singleton.mp hy] at e
   obtain ⟨j,h1,h2,h3⟩:=(N0 i).mp hx
   refine h.dif j i h1 (by omega) ?_ ?_ (h3.trans e)
   ·rcases x7.mp h2 with g | g<;>omega
   ·rcases x7.mp ha with g | g<;>omega
  ·exact ih
theorem b9J (h:SlF sl) (hi:i < 4) (ha:P6 (sl.getD i default)=true) {x:Int} (hx:x∈a6X sl i):x≠(sl.getD i default).q:=fun e=>by
 obtain ⟨j,h1,h2,h3⟩:=(N0 i).mp ((a5U i).mp hx)
 refine h.dif j i h1 hi ?_ ?_ (h3.trans e)
 ·rcases x7.mp h2 with g | g<;>omega
 ·rcases x7.mp ha with g | g<;>omega
end
def lvD (sl:List Slot) (st:List Int) (i:Nat):Bool:=decide (i=0) || decide (lvl sl (st.getD i default) < lvl sl (st.getD (i - 1) default))
def a5W (sl:List Slot) (st:List Int):Bool:=decide (srtI st=srtI (actN sl 4)) && a1m st.length (lvD sl st)
def a3r (x:Ifc):Bool:=m8 x.ma 0 16 && (a91 x.qu && a5W x.qu.sl x.st)
section
variable {sl:List Slot} {st:List Int} {i:Nat}
theorem b1M (h:¬ srtI st=srtI (actN sl 4)):a5W sl st=false:=by unfold a5W;rw [decide_eq_false h,Bool.false_and]
theorem b7Q (h:lvD sl st i=false) (hi:i < st.length):a5W sl st=false:=by unfold a5W;rw [a00 h hi,Bool.and_false]
theorem b7R (h:srtI st=srtI (actN sl 4)) (h2:∀ j,j < i→lvD sl st j=true) (hi:st.length≤i):a5W sl st=true:=by unfold a5W;rw [decide_eq_true h,a2m h2 hi];rfl
theorem c0v:lvD sl st 0=true:=rfl
theorem c0w (h:lvl sl (st.getD i default) < lvl sl (st.getD (i - 1) default)):lvD sl st i=true:=by unfold lvD;rw [decide_eq_true h,Bool.or_true]
theorem c0x (h0:i≠0) (h:¬ lvl sl (st.getD i default) < lvl sl (st.getD (i - 1) default)):lvD sl st i=false:=by unfold lvD;rw [decide_eq_false h,decide_eq_false h0];rfl
theorem b33 {x:Int} (h:x∈actN sl 4) (hl:sl.length=4):0≤u7 sl x:=by
 obtain ⟨j,h1,h2,h3⟩:=(N0 4).mp h
 refine a5N ⟨wOf (sl.getD j default),M8.mpr ⟨sl.getD j default,n6.mpr ⟨j,by omega,rfl⟩,h2,rfl⟩,h3⟩
theorem b34 (h:srtI st=srtI (actN sl 4)) {x:Int} (hx:x∈st):x∈actN sl 4:=(a3W.mp h).mem_iff.mp hx
structure StP (sl:List Slot) (st:List Int) (i:Nat):Prop where
 inn:∀ j,j < i→st.getD j default∈actN sl 4
 dif:∀ k j,k < j→j < i→st.getD k default≠st.getD j default
 lev:∀ j,j < i→lvD sl st j=true
theorem c3s:StP sl st 0:=⟨fun j h=>by omega,fun k j _ h=>by omega,fun j h=>by omega⟩
theorem StP.succ (h:StP sl st i) (h1:st.getD i default∈actN sl 4) (h2:∀ k,k < i→st.getD k default≠st.getD i default) (h3:lvD sl st i=true):StP sl st (i+1):=by
 refine ⟨fun j hj=>?_,fun k j hk hj=>?_,fun j hj=>?_⟩
 ·by_cases e:j=i
  ·subst e;exact h1
  ·exact h.inn j (by omega)
 ·by_cases e:j=i
  ·subst e;exact h2 k hk
  ·exact h.dif k j hk (by omega)
 ·by_cases e:j=i
  ·subst e;exact h3
  ·exact h.lev j (by omega)
theorem b1N {l:List Int}:l.Nodup↔∀ k j,k < j→j < l.length→l.getD k default≠l.getD j default:=a5J
theorem StP.fin (hF:SlF sl) (h:StP sl st st.length):a5W sl st=decide (st.length=(actN sl 4).length):=by
 by_cases hl:st.length=(actN sl 4).length
 ·rw [decide_eq_true hl]
  have hn:st.Nodup:=b1N.mpr h.dif
  have hp:=b4T hn (fun x hx=>by obtain ⟨j,hj,rfl⟩:=n6.mp hx;exact h.inn j hj) (by omega)
  exact b7R (a3W.mpr hp) h.lev (Nat.le_refl _)
 ·rw [decide_eq_false hl]
  exact b1M fun e=>hl (a3W.mp e).length_eq
theorem b9K (hi:i < st.length) (h:¬ st.getD i default∈actN sl 4):a5W sl st=false:=b1M fun e=>h (b34 e (n6.mpr ⟨i,hi,rfl⟩))
theorem b7S (hF:SlF sl) {k:Nat} (hk:k < i) (hi:i < st.length) (h:st.getD k default=st.getD i default):a5W sl st=false:=b1M fun e=>by
 have hn:st.Nodup:=(a3W.mp e).nodup_iff.mpr (b1L hF 4 (Nat.le_refl _))
 exact b1N.mp hn k i hk hi h
end
theorem b35 {x:Ifc} (h:a3r x=true):IfF x∧setd x.qu=true∧(0≤x.ma∧x.ma≤16)∧srtI x.st=srtI (actN x.qu.sl 4):=by
 simp only [a3r,a5W,Bool.and_eq_true,decide_eq_true_eq] at h
 obtain ⟨h1,h2,h3,h4⟩:=h
 obtain ⟨g1,g2⟩:=a9k.mp h2
 refine ⟨⟨g1,?_,fun q hq=>?_⟩,g2,p7.mp h1,h3⟩
 ·rw [(a3W.mp h3).length_eq];exact a0m 4
 ·obtain ⟨j,h1,h2,h3⟩:=(N0 4).mp (b34 h3 hq)
  exact ⟨wOf (x.qu.sl.getD j default),M8.mpr ⟨_,n6.mpr ⟨j,by rw [g1.sl.len];exact h1,rfl⟩,h2,rfl⟩,h3⟩
def rtW (rs:List Route) (k:Nat) (w:Wtr):Bool:=decide (tgI rs w.q=k) && decide (prI rs w.q=w.p)
def rtS (rs:List Route) (k:Nat) (x:Slot):Bool:=!decide (x.s=3) && (decide (x.s=0) || rtW rs k (wOf x))
def okRq (rs:List Route) (q:Que) (k:Nat):Bool:=a1m 4 (fun i=>rtS rs k (q.sl.getD i default)) && a1m q.wa.length (fun i=>rtW rs k (q.wa.getD i default))
def a7I (m:Mach) (k:Nat):Bool:=a3r (m.cp.getD k default) && okRq m.rs (m.cp.getD k default).qu k
def a1b (m:Mach):Bool:=okRts m.rs m.cp.length && (decide (m.en.length=8) && (decide (m.ra.length=8) && a1m m.cp.length (a7I m)))
section
variable {rs:List Route} {q:Que} {k i:Nat} {m:Mach}
theorem a3X {w:Wtr}:rtW rs k w=true↔tgI rs w.q=k∧prI rs w.q=w.p:=by simp [rtW]
theorem c1O {w:Wtr}:rtW rs k w=false↔¬ (tgI rs w.q=k∧prI rs w.q=w.p):=by rw [← Bool.not_eq_true,a3X]
theorem a5X {x:Slot}:rtS rs k x=true↔x.s≠3∧(x.s=0∨(tgI rs x.q=k∧prI rs x.q=x.p)):=by
 simp only [rtS,Bool.and_eq_true,Bool.not_eq_true',decide_eq_false_iff_not,Bool.or_eq_true,decide_eq_true_eq,a3X,wOf,ne_eq]
theorem b7T {x:Slot}:rtS rs k x=false↔¬ (x.s≠3∧(x.s=0∨(tgI rs x.q=k∧prI rs x.q=x.p))):=by rw [← Bool.not_eq_true,a5X]
theorem b7U (h:rtS rs k (q.sl.getD i default)=false) (hi:i < 4):okRq rs q k=false:=by unfold okRq;rw [a00 h hi,Bool.false_and]
theorem c1P (h:rtW rs k (q.wa.getD i default)=false) (hi:i < q.wa.length):okRq rs q k=false:=by unfold okRq;rw [a00 h hi,Bool.and_false]
theorem b7V {j:Nat} (h:∀ t,t < i→rtS rs k (q.sl.getD t default)=true) (hi:4≤i) (h2:∀ t,t < j→rtW rs k (q.wa.getD t default)=true) (hj:q.wa.length≤j):okRq rs q k=true:=by unfold okRq;rw [a2m h hi,a2m h2 hj];rfl
theorem c1Q (h:okRts m.rs m.cp.length=false):a1b m=false:=by unfold a1b;rw [h,Bool.false_and]
theorem c1R (h:¬ (m.en.length=8∧m.ra.length=8)):a1b m=false:=by
 unfold a1b
 by_cases h1:m.en.length=8
 ·rw [decide_eq_true h1,decide_eq_false (fun e=>h ⟨h1,e⟩)];simp
 ·rw [decide_eq_false h1];simp
theorem b7W (h:a7I m k=false) (hk:k < m.cp.length):a1b m=false:=by unfold a1b;rw [a00 h hk];simp
theorem c1S (h1:okRts m.rs m.cp.length=true) (h2:m.en.length=8) (h3:m.ra.length=8) (h4:∀ j,j < k→a7I m j=true) (hk:m.cp.length≤k):a1b m=true:=by unfold a1b;rw [h1,decide_eq_true h2,decide_eq_true h3,a2m h4 hk];rfl
theorem c1T (h:a3r (m.cp.getD k default)=false):a7I m k=false:=by unfold a7I;rw [h,Bool.false_and]
theorem c1U (h:okRq m.rs (m.cp.getD k default).qu k=false):a7I m k=false:=by unfold a7I;rw [h,Bool.and_false]
theorem b7X (h1:a3r (m.cp.getD k default)=true) (h2:okRq m.rs (m.cp.getD k default).qu k=true):a7I m k=true:=by unfold a7I;rw [h1,h2];rfl
end
def ftL (q:Que):Nat→List Wtr
 | 0=>q.wa
 | i+1=>if (q.sl.getD i default).s=0 then ftL q i else ftL q i++[wOf (q.sl.getD i default)]
section
variable {rs:List Route} {q:Que} {k i:Nat}
theorem c0y (h:(q.sl.getD i default).s=0):ftL q (i+1)=ftL q i:=by show (if _ then _ else _)=_;rw [if_pos h]
theorem c0z (h:¬ (q.sl.getD i default).s=0):ftL q (i+1)=ftL q i++[wOf (q.sl.getD i default)]:=by show (if _ then _ else _)=_;rw [if_neg h]
theorem b1O:∀ i,(ftL q i).length≤q.wa.length+i
 | 0=>Nat.le_refl _
 | i+1=>by
  have ih:=@b1O i
  show (if _ then _ else _:List Wtr).length≤_
  split
  ·omega
  ·rw [List.length_append,List.length_cons,List.length_nil];omega
theorem a5Y {x:Wtr}:∀ i,x∈ftL q i↔x∈q.wa∨∃ j,j < i∧(q.sl.getD j default).s≠0∧x=wOf (q.sl.getD j default)
 | 0=>by simp [ftL]
 | i+1=>by
  have ih:=@a5Y x i
  show x∈(if _ then _ else _:List Wtr)↔_
  split
  ·next h =>
   rw [ih]
   constructor
   ·rintro (h1 | ⟨j,h1,h2⟩)
    ·exact .inl h1
    ·exact .inr ⟨j,by omega,h2⟩
   ·rintro (h1 | ⟨j,h1,h2,h3⟩)
    ·exact .inl h1
    ·by_cases e:j=i
     ·subst e;exact absurd h h2
     ·exact .inr ⟨j,by omega,h2,h3⟩
  ·next h =>
   rw [List.mem_append,List.mem_singleton,ih]
   constructor
   ·rintro ((h1 | ⟨j,h1,h2⟩) | rfl)
    ·exact .inl h1
    ·exact .inr ⟨j,by omega,h2⟩
    ·exact .inr ⟨i,by omega,h,rfl⟩
   ·rintro (h1 | ⟨j,h1,h2,h3⟩)
    ·exact .inl (.inl h1)
    ·by_cases e:j=i
     ·subst e;exact .inr h3
     ·exact .inl (.inr ⟨j,by omega,h2,h3⟩)
theorem c1V (h:QF q) {x:Wtr} (hi:i≤4) (hx:x∈ftL q i):0≤x.q∧x.q≤7:=by
 rcases (a5Y i).mp hx with g | ⟨j,g1,g2,rfl⟩
 ·exact (h.wa x g).1
 ·exact (h.sl.ok j (by omega) g2).2.1
theorem c3t (h3:∀ j,j < 4→(q.sl.getD j default).s≠3):(!(a0g (ftL q 4).length (fun i=>!rtW rs k ((ftL q 4).getD i default))))=okRq rs q k:=by
 rw [Bool.eq_iff_iff,Bool.not_eq_true',Z7]
 constructor
 ·intro h
  have hm:∀ x∈ftL q 4,rtW rs k x=true:=fun x hx=>by
   obtain ⟨i,hi,rfl⟩:=n6.mp hx
   simpa using h i hi
  refine b7V (i:=4) (j:=q.wa.length) (fun t ht=>a5X.mpr ⟨h3 t ht,?_⟩) (Nat.le_refl _) (fun t ht=>hm _ ((a5Y 4).mpr (.inl (n6.mpr ⟨t,ht,rfl⟩)))) (Nat.le_refl _)
  by_cases h0:(q.sl.getD t default).s=0
  ·exact .inl h0
  ·exact .inr (a3X.mp (hm _ ((a5Y 4).mpr (.inr ⟨t,ht,h0,rfl⟩))))
 ·intro h i hi
  have hx:(ftL q 4).getD i default∈ftL q 4:=n6.mpr ⟨i,hi,rfl⟩
  simp only [okRq,Bool.and_eq_true,U0] at h
  rw [Bool.not_eq_false']
  rcases (a5Y 4).mp hx with g | ⟨j,g1,g2,g3⟩
  ·obtain ⟨t,ht,e⟩:=n6.mp g
   rw [← e];exact h.2 t ht
  ·rw [g3]
   rcases (a5X.mp (h.1 j g1)).2 with e | e
   ·exact absurd e g2
   ·exact a3X.mpr e
end
end Go.Rf
namespace Go.Rf
section
variable {x:Ifc}
theorem b7Y (h:m8 x.ma 0 16=false):a3r x=false:=by unfold a3r;rw [h,Bool.false_and]
theorem b7Z (h:a91 x.qu=false):a3r x=false:=by unfold a3r;rw [h,Bool.false_and,Bool.and_false]
theorem a9n (h:a5W x.qu.sl x.st=false):a3r x=false:=by unfold a3r;rw [h,Bool.and_false,Bool.and_false]
theorem c1W (h1:m8 x.ma 0 16=true) (h2:a91 x.qu=true) (h3:a5W x.qu.sl x.st=true):a3r x=true:=by unfold a3r;rw [h1,h2,h3];rfl
theorem c1X (h1:m8 x.ma 0 16=true) (h2:a91 x.qu=true):a3r x=a5W x.qu.sl x.st:=by unfold a3r;rw [h1,h2];rfl
end
end Go.Rf
namespace Go.Rf
open Go
theorem a9o {l:List Int} {v:Int}:a9e l v=true↔v∈l:=by
 unfold a9e
 rw [a9g]
 constructor
 ·rintro ⟨i,hi,h⟩
  rw [of_decide_eq_true h]
  exact n6.mpr ⟨i,hi,rfl⟩
 ·intro h
  obtain ⟨i,hi,e⟩:=n6.mp h
  exact ⟨i,hi,decide_eq_true e.symm⟩
theorem b1P {l:List Int} {v:Int}:a9e l v=false↔v∉l:=by rw [← Bool.not_eq_true,a9o]
theorem a5Z {l:List Int} {i:Nat} (hi:i≤l.length) {v:Int}:v∈l.take i↔∃ k,k < i∧l.getD k default=v:=by
 rw [n6]
 constructor
 ·rintro ⟨k,hk,e⟩
  rw [List.length_take] at hk
  have hk2:k < i:=by omega
  exact ⟨k,hk2,by rw [← T2 (l:=l) hk2];exact e⟩
 ·rintro ⟨k,hk,e⟩
  exact ⟨k,by rw [List.length_take];omega,by rw [T2 hk];exact e⟩
theorem c4i {a b:Nat}:((a:Int)==(b:Int))=decide (a=b):=by
 by_cases h:a=b
 ·subst h;simp
 ·have:¬ ((a:Int)=b):=by omega
  simp [h,this]
def b26 (po:List Bool) (l:List Int):Nat→List Bool
 | 0=>po
 | i+1=>(b26 po l i).set (l.getD i default).toNat true
theorem a0W {po:List Bool} {l:List Int} {i:Nat}:b26 po l (i+1)=(b26 po l i).set (l.getD i default).toNat true:=rfl
theorem H7 {po:List Bool} {l:List Int}:∀ i,(b26 po l i).length=po.length
 | 0=>rfl
 | i+1=>by rw [a0W,List.length_set,H7 i]
def poN (m:Mach):Nat→List Bool
 | 0=>List.replicate 8 false
 | k+1=>b26 (poN m k) (D6 (m.cp.getD k default).qu) (D6 (m.cp.getD k default).qu).length
theorem b70 {m:Mach} {k:Nat}:poN m (k+1)=b26 (poN m k) (D6 (m.cp.getD k default).qu) (D6 (m.cp.getD k default).qu).length:=rfl
theorem J1 {m:Mach}:∀ k,(poN m k).length=8
 | 0=>rfl
 | k+1=>by rw [b70,H7,J1 k]
def X4 (m:Mach):Abs:=⟨m.en,m.ra,poN m m.cp.length,m.cp.map (·.ma),m.cp.map (·.st)⟩
structure MaF (m:Mach):Prop where
 rt:okRts m.rs m.cp.length=true
 n:1≤m.cp.length∧m.cp.length≤2
 rn:m.rs.length=8
 en:m.en.length=8
 ra:m.ra.length=8
 ok:∀ k,k < m.cp.length→IfF (m.cp.getD k default)∧setd (m.cp.getD k default).qu=true∧(0≤(m.cp.getD k default).ma∧(m.cp.getD k default).ma≤16)∧srtI (m.cp.getD k default).st=srtI (actN (m.cp.getD k default).qu.sl 4)
 rq:∀ k,k < m.cp.length→okRq m.rs (m.cp.getD k default).qu k=true
theorem maF {m:Mach} (h:a1b m=true):MaF m:=by
 simp only [a1b,a7I,Bool.and_eq_true,decide_eq_true_eq,U0] at h
 obtain ⟨h1,h2,h3,h4⟩:=h
 have hr:=I3.mp h1
 exact ⟨h1,by omega,hr.2.1,h2,h3,fun k hk=>b35 (h4 k hk).1,fun k hk=>(h4 k hk).2⟩
theorem a1x {m:Mach} {k:Nat} (h:k < m.cp.length):((m.cp.map (·.ma)).take k).map r9++[[Value.int .i64 (m.cp.getD k default).ma]]=((m.cp.map (·.ma)).take (k+1)).map r9:=a9m (by rw [List.length_map];exact h) (by rw [Y9 h];rfl)
theorem a1y {m:Mach} {k:Nat} (h:k < m.cp.length) {y:List CI} (hy:y=a5D (m.cp.getD k default).st):((m.cp.map (·.st)).take k).map a5D++[y]=((m.cp.map (·.st)).take (k+1)).map a5D:=a9m (by rw [List.length_map];exact h) (by rw [Y9 h];exact hy)
theorem b27 {α β:Type} {l:List α} {f:α→β} {k:Nat} (h:l.length≤k):(l.map f).take k=l.map f:=List.take_of_length_le (by rw [List.length_map];exact h)
end Go.Rf
namespace Go.Rf
end Go.Rf
namespace Go.Rf
open Go Go.RowKit
def spB:ByteArray:=⟨#[32]⟩
def jnS (ws:List ByteArray):Nat→ByteArray
 | 0=>⟨#[]⟩
 | n+1=>(if n=0 then ⟨#[]⟩ else jnS ws n++spB)++ws.getD n ⟨#[]⟩
theorem b4U {ws:List ByteArray}:jnS ws 1=ws.getD 0 ⟨#[]⟩:=by
 show (⟨#[]⟩:ByteArray)++ws.getD 0 ⟨#[]⟩=_
 exact ByteArray.empty_append
theorem a50 {ws:List ByteArray} {n:Nat} (h:0 < n):jnS ws (n+1)=jnS ws n++spB++ws.getD n ⟨#[]⟩:=by
 show (if n=0 then _ else _)++_=_
 rw [if_neg (by omega)]
theorem a9p {ws:List ByteArray} {b:Nat} (h:∀ i,i < ws.length→(ws.getD i ⟨#[]⟩).size≤b):∀ n,n≤ws.length→(jnS ws n).size≤n * (b+1)
 | 0,_=>Nat.zero_le _
 | n+1,hn=>by
  have ih:=a9p h n (by omega)
  have hb:=h n (by omega)
  have e:(n+1) * (b+1)=n * (b+1)+(b+1):=Nat.succ_mul _ _
  have hsp:spB.size=1:=rfl
  by_cases h0:n=0
  ·subst h0
   rw [b4U]
   omega
  ·rw [a50 (by omega),ByteArray.size_append,ByteArray.size_append]
   omega
theorem a9q (sep x:List UInt8):∀ (l:List (List UInt8)),l≠[]→sep.intercalate (l++[x])=sep.intercalate l++sep++x
 | [],h=>absurd rfl h
 | [y],_=>by simp [List.intercalate]
 | y :: z :: r,_=>by
  have ih:=a9q sep x (z :: r) (by simp)
  simp only [List.intercalate,List.cons_append,List.intersperse,List.flatten_cons] at ih ⊢
  rw [ih]
  simp only [List.append_assoc]
theorem b4V {ws:List ByteArray}:∀ n,n≤ws.length→(⟨(Lib.join ((ws.take n).map (·.data.toList)) [32]).toArray⟩:ByteArray)=jnS ws n
 | 0,_=>rfl
 | n+1,hn=>by
  have ih:=b4V (ws:=ws) n (by omega)
  have hx:ws[n]?=some (ws.getD n ⟨#[]⟩):=by rw [List.getD_eq_getElem?_getD,List.getElem?_eq_getElem (by omega)];rfl
  rw [List.take_add_one,hx,Option.toList_some,List.map_append,List.map_cons,List.map_nil]
  by_cases h0:n=0
  ·subst h0
   rw [b4U,List.take_zero,List.map_nil,List.nil_append,Lib.join_one]
  ·rw [a50 (by omega),← ih,Lib.join,a9q _ _ _ (by intro e;have:=congrArg List.length e;rw [List.length_map,List.length_take,Nat.min_eq_left (by omega)] at this;exact h0 this)]
   apply ByteArray.ext
   simp [ByteArray.data_append,Lib.join,spB]
def jnA (ws:List ByteArray):ByteArray:=jnS ws ws.length
theorem c0A {ws:List ByteArray}:(⟨(Lib.join (ws.map (·.data.toList)) spB.data.toList).toArray⟩:ByteArray)=jnA ws:=by
 have h:=b4V (ws:=ws) ws.length (Nat.le_refl _)
 rw [List.take_length] at h
 exact h
theorem Ctr.join {P:Program} [Env P] {f:FuncId} (hc:Callable P f) {ws:List ByteArray} (hl:ws.length≤1048576) (hs:(jnA ws).size≤140737488355328)
 (h:∀ (bk o c:Nat) (w:World),(∀ (j:Nat) x,ws[j]?=some x→w.cell? ⟨bk,o+j,none⟩=some (.string x))→bk < w.heap.size→ws.length≤140737488355328→ws.length≤c→(Lib.join (ws.map (·.data.toList)) spB.data.toList).length≤140737488355328 →
  Calls P f #[.slice (some ⟨bk,o,none⟩) ws.length c,.string spB] w fun e w'=>e=.returned (.string ⟨(Lib.join (ws.map (·.data.toList)) spB.data.toList).toArray⟩)∧Below w.heap.size w w')
 (h0:∀ (a:Option Addr) (c:Nat) (w:World),Calls P f #[.slice a 0 c,.string spB] w fun e w'=>e=.returned (.string ⟨#[]⟩)∧w'=w) :
 Ctr P f [.lst 1 (ws.map a6N),.v (.string ⟨#[32]⟩)] (.one (.v (.string (jnA ws)))):=by
 refine ⟨hc,fun w vs he hv=>?_⟩
 simp only [RelVs] at hv
 obtain ⟨y,_,rfl,hy,_,_,rfl,hv2,rfl⟩:=hv
 simp only [RelV] at hy hv2
 subst hv2
 obtain ⟨A,cap,rfl,hcap,hall,hcell⟩:=hy
 rw [List.length_map] at hcap hcell ⊢
 by_cases hz:ws.length=0
 ·have e0:ws=[]:=List.eq_nil_of_length_eq_zero hz
  subst e0
  exact (h0 A cap w).mono fun e w' ⟨h1,h2⟩=>⟨_,h1,by simp only [ResRel,RCRel];rfl,h2▸Below.refl _ _⟩
 ·obtain ⟨ad,rfl,hb,hr⟩:=hcell (by omega)
  have hat:∀ j x,ws[j]?=some x→w.cell? (ad.add (j * 1+0))=some (.string x):=fun j x hj=>hr j (a6N x) (by rw [List.getElem?_map,hj];rfl) 0 _ rfl
  have hsp:ad.spot=none:=by
   have h1:=hat 0 (ws.getD 0 ⟨#[]⟩) (by rw [List.getD_eq_getElem?_getD,List.getElem?_eq_getElem (by omega)];rfl)
   have h1:w.cell? ad=some (.string (ws.getD 0 ⟨#[]⟩)):=h1
   cases hsp:ad.spot with
   | none=>rfl
   | some s =>
    exfalso
    unfold World.cell? at h1
    rw [hsp] at h1
    split at h1
    ·simp at h1
    ·cases h1
  obtain ⟨bk,o,sp⟩:=ad
  simp only at hsp hb
  subst hsp
  refine (h bk o cap w (fun j x hj=>?_) hb (by omega) hcap (by have:=congrArg ByteArray.size (c0A (ws:=ws));simp only [ByteArray.size,List.size_toArray] at this hs;omega)).mono fun e w' ⟨h1,h2⟩=>⟨.string (jnA ws),h1.trans (by rw [c0A]),by simp only [ResRel,RCRel],h2⟩
  have:=hat j x hj
  rw [Nat.mul_one,Nat.add_zero] at this
  by_cases hj0:j=0
  ·subst hj0;exact this
  ·rw [Addr.add,if_neg hj0] at this;exact this
def b28:ByteArray:=⟨#[110,111,110,101]⟩
def b1Q (l:List Int):List ByteArray:=l.map t7
theorem a0n {l:List Int}:(b1Q l).length=l.length:=List.length_map _
theorem a16 {l:List Int} {i:Nat} (h:i < l.length):(b1Q l).getD i ⟨#[]⟩=t7 (l.getD i default):=by
 rw [b1Q,List.getD_eq_getElem?_getD,List.getD_eq_getElem?_getD,List.getElem?_map,List.getElem?_eq_getElem h];rfl
def a4I (l:List Int):ByteArray:=if l.length=0 then b28 else jnA (b1Q l)
def a1c (n:Int):Prop:=-9223372036854775807≤n∧n≤9223372036854775807
theorem b0K {l:List Int} (h:∀ i,i < l.length→a1c (l.getD i default)) (n:Nat) (hn:n≤l.length):(jnS (b1Q l) n).size≤n * 22 :=
 a9p (b:=21) (fun i hi=>by rw [a0n] at hi;rw [a16 hi];have:=h i hi;exact z8 (by have:=this.1;omega) this.2) n (by rw [a0n];exact hn)
theorem b71 {l:List Int} (h:l.length=0):a4I l=b28:=if_pos h
theorem b72 {l:List Int} (h:0 < l.length):a4I l=jnS (b1Q l) l.length:=by rw [a4I,if_neg (by omega),jnA,a0n]
def a52 (k:Int):ByteArray:=(⟨#[45,112,97,98]⟩:ByteArray).extract k.toNat (k+1).toNat
theorem a6Y {k:Int}:(a52 k).size≤4:=by
 rw [a52,ByteArray.size_extract]
 show min _ 4 - _≤4
 omega
def b36 (x:Slot):ByteArray:=if x.s=0 then a52 x.s else a52 x.s++(t7 x.q++⟨#[58]⟩++t7 x.p)
def a2C (sl:List Slot):List ByteArray:=sl.map b36
theorem a1d {sl:List Slot}:(a2C sl).length=sl.length:=List.length_map _
theorem a9r {l:List Slot} {i:Nat} (h:i < l.length):(a2C l).getD i ⟨#[]⟩=b36 (l.getD i default):=by
 rw [a2C,List.getD_eq_getElem?_getD,List.getD_eq_getElem?_getD,List.getElem?_map,List.getElem?_eq_getElem h];rfl
def a4k (sl:List Slot):ByteArray:=jnA (a2C sl)
theorem b1R {x:Slot} (h:x.s=0):b36 x=a52 x.s:=if_pos h
theorem b1S {x:Slot} (h:x.s≠0):b36 x=a52 x.s++(t7 x.q++⟨#[58]⟩++t7 x.p):=if_neg h
theorem b6c {x:Slot} (h:x.s≠0→a1c x.q∧a1c x.p):(b36 x).size≤47:=by
 have hb:=@a6Y x.s
 by_cases h0:x.s=0
 ·rw [b1R h0];omega
 ·obtain ⟨⟨a1,a2⟩,b1,b2⟩:=h h0
  have n1:=z8 (n:=x.q) (by omega) a2
  have n2:=z8 (n:=x.p) (by omega) b2
  rw [b1S h0,ByteArray.size_append,ByteArray.size_append,ByteArray.size_append]
  have:(⟨#[58]⟩:ByteArray).size=1:=rfl
  omega
theorem b0L {sl:List Slot} (h:∀ i,i < sl.length→(sl.getD i default).s≠0→a1c (sl.getD i default).q∧a1c (sl.getD i default).p) (n:Nat) (hn:n≤sl.length):(jnS (a2C sl) n).size≤n * 48 :=
 a9p (b:=47) (fun i hi=>by rw [a1d] at hi;rw [a9r hi];exact b6c (h i hi)) n (by rw [a1d];exact hn)
theorem b4W {sl:List Slot} {i:Nat} (hi:i < sl.length):jnS (a2C sl) (i+1)=(if i=0 then ⟨#[]⟩ else jnS (a2C sl) i++spB)++b36 (sl.getD i default):=by
 show (if i=0 then _ else _)++(a2C sl).getD i ⟨#[]⟩=_
 rw [a9r hi]
theorem SlF.s03 {sl:List Slot} (h:SlF sl) {i:Nat} (hi:i < 4):0≤(sl.getD i default).s∧(sl.getD i default).s≤3:=by
 rcases Decidable.em ((sl.getD i default).s=0) with g | g
 ·omega
 ·have:=h.ok i hi g;omega
theorem SlF.nums {sl:List Slot} (h:SlF sl) {i:Nat} (hi:i < 4) (hs:(sl.getD i default).s≠0):(0≤(sl.getD i default).q∧(sl.getD i default).q≤7)∧(0≤(sl.getD i default).p∧(sl.getD i default).p≤15)∧(t7 (sl.getD i default).q).size≤21∧(t7 (sl.getD i default).p).size≤21:=by
 have:=h.ok i hi hs
 exact ⟨this.2.1,this.2.2,z8 (by omega) (by omega),z8 (by omega) (by omega)⟩
theorem c0B {sl:List Slot} (h:SlF sl):∀ i,i < sl.length→(sl.getD i default).s≠0→a1c (sl.getD i default).q∧a1c (sl.getD i default).p:=fun i hi hs=>by
 have:=h.ok i (by have:=h.len;omega) hs
 exact ⟨⟨by omega,by omega⟩,by omega,by omega⟩
def a9s (l:List Int) (i:Nat):List ByteArray:=(b1Q l).take i
theorem b6d {l:List Int} {i:Nat} (h:i < l.length):a9s l (i+1)=a9s l i++[t7 (l.getD i default)]:=by
 rw [a9s,List.take_add_one,← a16 h,List.getD_eq_getElem?_getD,List.getElem?_eq_getElem (by rw [a0n];exact h)]
 rfl
theorem b29 {l:List Int}:a9s l l.length=b1Q l:=by rw [a9s,← a0n,List.take_length]
theorem b3a {l:List Int} {i:Nat}:(a9s l i).length≤l.length:=by rw [a9s,List.length_take,a0n];omega
theorem b9L {l:List Int} (hl:l.length≤1048576) (h:∀ i,i < l.length→a1c (l.getD i default)):(jnA (a9s l l.length)).size≤140737488355328:=by
 have:=b0K h l.length (Nat.le_refl _)
 rw [b29,jnA,a0n];omega
theorem c1Y {l:List Int} (h:0 < l.length):jnA (a9s l l.length)=a4I l:=by rw [b72 h,b29,jnA,a0n]
def a54 (l:List Slot) (i:Nat):List ByteArray:=(a2C l).take i
theorem b3b {l:List Slot} {i:Nat}:(a54 l i).length≤l.length:=by rw [a54,List.length_take,a1d];omega
theorem b0M {l:List Slot} {i:Nat} (h:i < l.length):a54 l (i+1)=a54 l i++[b36 (l.getD i default)]:=by
 rw [a54,List.take_add_one,← a9r h,List.getD_eq_getElem?_getD,List.getElem?_eq_getElem (by rw [a1d];exact h)]
 rfl
theorem b73 {l:List Slot} {i:Nat} (h:i < l.length) (hs:(l.getD i default).s=0):a54 l (i+1)=a54 l i++[a52 (l.getD i default).s]:=by rw [b0M h,b1R hs]
theorem b74 {l:List Slot} {i:Nat} (h:i < l.length) (hs:(l.getD i default).s≠0):a54 l (i+1)=a54 l i++[a52 (l.getD i default).s++(t7 (l.getD i default).q++⟨#[58]⟩++t7 (l.getD i default).p)]:=by rw [b0M h,b1S hs]
theorem b75 {l:List Slot}:jnA (a54 l l.length)=a4k l:=by rw [a4k,a54,← a1d,List.take_length]
theorem b9M {sl:List Slot} (hl:sl.length≤1048576) (h:∀ i,i < sl.length→(sl.getD i default).s≠0→a1c (sl.getD i default).q∧a1c (sl.getD i default).p):(jnA (a54 sl sl.length)).size≤140737488355328:=by
 have:=b0L h sl.length (Nat.le_refl _)
 rw [b75,a4k,jnA,a1d];omega
theorem b3c {sl:List Slot} {i:Nat} (hi:i < sl.length) (h0:i=0) (hs:(sl.getD i default).s=0):jnS (a2C sl) (i+1)=jnS (a2C sl) i++a52 (sl.getD i default).s:=by
 rw [b4W hi,if_pos h0,b1R hs];subst h0;rfl
theorem b3d {sl:List Slot} {i:Nat} (hi:i < sl.length) (h0:i≠0) (hs:(sl.getD i default).s=0):jnS (a2C sl) (i+1)=jnS (a2C sl) i++spB++a52 (sl.getD i default).s:=by
 rw [b4W hi,if_neg h0,b1R hs]
theorem b3e {sl:List Slot} {i:Nat} (hi:i < sl.length) (h0:i=0) (hs:(sl.getD i default).s≠0):jnS (a2C sl) (i+1)=jnS (a2C sl) i++a52 (sl.getD i default).s++t7 (sl.getD i default).q++⟨#[58]⟩++t7 (sl.getD i default).p:=by
 rw [b4W hi,if_pos h0,b1S hs]
 simp only [ByteArray.append_assoc]
 subst h0;rfl
theorem b3f {sl:List Slot} {i:Nat} (hi:i < sl.length) (h0:i≠0) (hs:(sl.getD i default).s≠0):jnS (a2C sl) (i+1)=jnS (a2C sl) i++spB++a52 (sl.getD i default).s++t7 (sl.getD i default).q++⟨#[58]⟩++t7 (sl.getD i default).p:=by
 rw [b4W hi,if_neg h0,b1S hs]
 simp only [ByteArray.append_assoc]
section
variable {P:Program} {w0:Base} {ops:Array Oper} {o:Oper} {rest:List Oper} {T:List (Nat×AV)} {m:List (Nat×Option Row)} {nx nt:Nat} {Q:Exit→St→Prop}
theorem a55 (t:Nat) {cs:List AV} (ht:look t T=some (.agg cs)) {rs:(Nat→Value)→List AV} (hr:∀ u,a5x cs u 0 []=some (rs u)) (h:∀ u,WX P w0 ops o rest ⟨(t,.agg (rs u)) :: T,m,nx,nt⟩ Q):WX P w0 ops o rest ⟨T,m,nx,nt⟩ Q:=by
 intro ρ a w hT hC
 have h1:=hT.tmps t _ ht
 simp only [RelV] at h1
 obtain ⟨us,he,h1⟩:=h1
 let u:Nat→Value:=fun i=>us.getD i undef
 refine h u ρ a w ⟨fun i x hi=>?_,hT.size,hT.defers⟩ hC
 by_cases e:i=t
 ·subst e
  rw [q9] at hi
  cases hi
  simp only [RelV]
  exact ⟨us,he,by simpa using a6Q (acc':=[]) (hr u) h1 (fun j y hj=>by simp only [u,Nat.zero_add,List.getD_eq_getElem?_getD,hj,Option.getD_some]) (by simp [RelVs])⟩
 ·rw [l3 (fun e'=>e e'.symm)] at hi
  exact hT.tmps i x hi
end
end Go.Rf
namespace Go.Rf
open Go Go.ChangeShapes Go.WideShapes Go.Deep Go.ChangeAt Go.RowKit
section
variable {H:Type} {enc:TypeId×Value→H} {P:Program} {w:World} {base:Nat} {spare:Nat→Bool} {held:Bool} {t e e2:TypeId}
end
section
variable {H:Type} {enc:TypeId×Value→H} {P:Program} {w:World} {base:Nat} {spare:Nat→Bool} {held:Bool}
end
end Go.Rf
