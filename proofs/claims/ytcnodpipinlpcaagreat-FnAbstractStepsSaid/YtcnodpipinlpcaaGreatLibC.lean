/- Texts merged into one: RfXG, RfNA, RfNB, RfNC, RfND, RfNE, RfQ, RfY, RfNM, RfNF, RfNG, RfNH, RfR, RfV, Rf1, RfNJ, RfNK, RfNQ, RfNR, RfNS, RfNT. -/
import Derived.Test.YtcnodpipinlpcaaGreatLibB
import Derived.Laws.BytesArg
import Derived.Lib.LaidTab
import Derived.Lib.ItoaNum
import Derived.Lib.ItoaLen
import Derived.Sort.Grow
import Derived.Lib.IndexLaws
import Derived.Sort.Row
import Derived.Lib.SliceRun
set_option linter.constructorNameAsVariable false
set_option linter.unusedSectionVars false
set_option linter.unusedSimpArgs false
set_option linter.unusedVariables false
namespace Go.Rf
open Go Go.RowKit
section
variable {P:Program} [Env P] {w0:Base} {T:List (Nat×AV)} {m:List (Nat×Option Row)} {nx nt:Nat} {Q:Exit→St→Prop} {c:Code}
theorem b1v {id e sz:Nat} {ys:List (List Value)} (ys':List (List Value)) (hm:mem m id=some (.row e sz ys)) (h:ys=ys') (hk:W P w0 c ⟨T,(id,some (.row e sz ys')) :: m,nx,nt⟩ Q):W P w0 c ⟨T,m,nx,nt⟩ Q:=by
 subst h
 intro ρ a w hT hC
 exact hk ρ a w hT (hC.retell hm (hC.rows id _ hm).2)
end
theorem a4Y {p:Nat→Prop} {i:Nat} (h:∀ j,j < i→p j) (hi:p i):∀ j,j < i+1→p j:=p7 h hi
def Gh (w0:Base) (S S':St):Prop:=∀ ρ a w,RelT w0.w ρ S.T S.nx S.nt a→RelC w0 ρ S.m S.nx w→∃ ρ',RelT w0.w ρ' S'.T S'.nx S'.nt a∧RelC w0 ρ' S'.m S'.nx w
section
variable {P:Program} [Env P] {w0:Base} {ops:Array Oper} {tb:List (Nat×TyI)} {o:Oper} {rest:List Oper} {T:List (Nat×AV)} {m m':List (Nat×Option Row)} {nx nt d:Nat} {Q:Exit→St→Prop} {c:Code}
theorem a2f {S S':St} (h:Gh w0 S S') (hk:W P w0 c S' Q):W P w0 c S Q:=fun ρ a w hT hC=>let ⟨ρ',h1,h2⟩:=h ρ a w hT hC;hk ρ' a w h1 h2
theorem m7 {S S':St} (h:Gh w0 S S') (hk:WL P w0 ops rest S' Q):WL P w0 ops rest S Q:=fun ρ a w hT hC=>let ⟨ρ',h1,h2⟩:=h ρ a w hT hC;hk ρ' a w h1 h2
theorem s4 {S S':St} (h:Gh w0 S S') (hk:WX P w0 ops o rest S' Q):WX P w0 ops o rest S Q:=fun ρ a w hT hC=>let ⟨ρ',h1,h2⟩:=h ρ a w hT hC;hk ρ' a w h1 h2
theorem a5Z {m0:List (Nat×Option Row)} {fuel:Nat} {listed:Array Bool} {K:St→Prop} {S S':St} (h:Gh w0 S S') (hk:WA P w0 ops m0 fuel listed S' K):WA P w0 ops m0 fuel listed S K:=fun hs ρ a w hT hC hS=>let ⟨ρ',h1,h2⟩:=h ρ a w hT hC;hk hs ρ' a w h1 h2 hS
theorem Gh.trans {S S' S'':St} (h:Gh w0 S S') (h':Gh w0 S' S''):Gh w0 S S'':=fun ρ a w hT hC=>let ⟨ρ',h1,h2⟩:=h ρ a w hT hC;h' ρ' a w h1 h2
theorem a7a {α:Type} {l:List (List α)} {i i' k:Nat} {c:List α} (hi:i < l.length):z5 (l.set i c) i' k=if i'=i then c[k]? else z5 l i' k:=by
 unfold z5
 rw [List.getElem?_set]
 by_cases e:i=i'
 ·subst e
  simp [hi]
 ·simp [e,Ne.symm e]
theorem a71 {α:Type} {c cs:List α} {k j:Nat} (h:k+cs.length≤c.length):(c.take k++cs++c.drop (k+cs.length))[j]?=if k≤j∧j < k+cs.length then cs[j - k]? else c[j]?:=by
 have hk:(c.take k).length=k:=by rw [List.length_take];omega
 by_cases h1:j < k
 ·rw [if_neg (by omega),List.append_assoc,List.getElem?_append_left (by omega),List.getElem?_take,if_pos h1]
 ·by_cases h2:j < k+cs.length
  ·rw [if_pos (by omega),List.getElem?_append_left (by rw [List.length_append];omega),List.getElem?_append_right (by omega),hk]
  ·rw [if_neg (by omega),List.getElem?_append_right (by rw [List.length_append];omega),List.length_append,hk,List.getElem?_drop]
   congr 1
   omega
theorem a4Z {α:Type} {c cs:List α} {k:Nat} (h:k+cs.length≤c.length):(c.take k++cs++c.drop (k+cs.length)).length=c.length:=by simp;omega
def a39:List Nat→List (Nat×Option Row)→List (Nat×Option Row)
 | [],m=>m
 | i :: r,m=>(i,none) :: a39 r m
theorem a1K:∀ {ids:List Nat} {id:Nat} {r:Row},mem (a39 ids m) id=some r→id∉ids∧mem m id=some r
 | [],_,_,h=>⟨by simp,h⟩
 | i :: ids,id,r,h=>by
  simp only [a39] at h
  by_cases e:i=id
  ·subst e;rw [j8] at h;cases h
  ·rw [d9 e] at h
   obtain ⟨h1,h2⟩:=a1K h
   exact ⟨by simp [h1,Ne.symm e],h2⟩
theorem RelC.renest {ρ:Nat→Value} {w w':World} {id:Nat} {ids:List Nat} {row row':Row} {v':Value} (hC:RelC w0 ρ m nx w) (hp:w0.n0≤id∨v'=ρ id) (hm:mem m id=some row) (hf:freeM id m=true∨v'=ρ id) (hob:blk (ρ id)=(ρ id).ownBlock) (hob':blk v'=v'.ownBlock) (hid:id∉ids)
 (hgr:w.grownBy w' (ρ id).ownBlock) (hat:v'.ownBlock=(ρ id).ownBlock∨v'.ownBlock=some w.heap.size) (hrow':RowRel w0 (upd ρ id v') nx w' id row')
 (hmem:∀ p b,inn w' v' row' p=some b→(∃ p0,inn w (ρ id) row p0=some b)∨∃ id' r',id'∈ids∧mem m id'=some r'∧J1 w (ρ id') r' b) (hinj:∀ p p' b,inn w' v' row' p=some b→inn w' v' row' p'=some b→p=p'):RelC w0 (upd ρ id v') (a39 ids ((id,some row') :: m)) nx w':=by
 have hs:∀ i r,mem (a39 ids ((id,some row') :: m)) i=some r→(i=id∧r=row')∨(i≠id∧i∉ids∧mem m i=some r):=fun i r hr=>by
  obtain ⟨h1,h2⟩:=a1K hr
  by_cases e:id=i
  ·subst e;rw [j8] at h2;cases h2;exact .inl ⟨rfl,rfl⟩
  ·rw [d9 e] at h2;exact .inr ⟨Ne.symm e,h1,h2⟩
 have hval:∀ i,i≠id→upd ρ id v' i=ρ i:=fun i hi=>l7 ρ _ hi
 have hBg:∀ k,(ρ id).ownBlock=some k→w0.w.heap.size≤k:=fun k hk=>((hC.rows id row hm).2.blk_lt (by rw [hob];exact hk)).1
 have hother:∀ i r,mem m i=some r→i≠id→∀ b,J1 w (ρ i) r b→w'.heap[b]?=w.heap[b]?:=fun i r hr hne b hb=>by
  refine hgr.block b (hC.foot_lt hr hb) fun e=>?_
  rw [← hob] at e
  exact hC.foot_apart hr hm hne hb (.inl e.symm)
 have hmain:∀ b,blk v'=some b→blk (ρ id)=some b∨b=w.heap.size:=fun b hb=>by
  rw [hob'] at hb
  rcases hat with h | h<;>rw [h] at hb
  ·exact .inl (by rw [hob];exact hb)
  ·cases hb;exact .inr rfl
 have hinn:∀ i r,mem m i=some r→i≠id→∀ p,inn w' (ρ i) r p=inn w (ρ i) r p:=fun i r hr hne=>P2 fun b hb=>hother i r hr hne b (.inl hb)
 have hwas:∀ p b,inn w' v' row' p=some b→∃ i r,mem m i=some r∧(i=id∨i∈ids)∧J1 w (ρ i) r b∧(i=id→∃ p0,inn w (ρ id) r p0=some b):=fun p b hb=>by
  rcases hmem p b hb with ⟨p0,h⟩ | ⟨id',r',h1,h2,h3⟩
  ·exact ⟨id,row,hm,.inl rfl,.inr ⟨p0,h⟩,fun _=>⟨p0,h⟩⟩
  ·exact ⟨id',r',h2,.inr h1,h3,fun e=>absurd (e▸h1) hid⟩
 refine ⟨fun i r hr=>?_,fun i i' r r' hr hr' hne b hb=>?_,hC.below.grown hgr hC.below.size hBg,⟨hC.pin.1,fun i hi=>?_⟩,⟨Nat.le_trans hC.kept.1 hgr.size,fun b hk=>(hgr.block b (Nat.lt_of_lt_of_le (w0.kb b hk) hC.kept.1) (fun e=>hC.kept.2.2 id _ hm b (by rw [hob];exact e.symm) hk)).trans (hC.kept.2.1 b hk),fun i r hr b hb hk=>?_⟩,fun i r hr p b hb=>?_⟩
 ·rcases hs i r hr with ⟨rfl,rfl⟩ | ⟨h1,h2,h3⟩
  ·exact ⟨(hC.rows i row hm).1,hrow'⟩
  ·obtain ⟨h4,h5⟩:=hC.rows i r h3
   have h6:=h5.frame (fun b hb=>hother i r h3 h1 b (.inl hb)) fun p b hb=>hother i r h3 h1 b (.inr ⟨p,hb⟩)
   refine ⟨h4,?_⟩
   rcases hf with hf | hf
   ·exact h6.updRho hf h3 h1
   ·subst hf
    have e:upd ρ id (ρ id)=ρ:=by funext j;unfold upd;split<;>simp_all
    rw [e];exact h6
 ·rcases hs i r hr with ⟨rfl,rfl⟩ | ⟨h1,h2,h3⟩
  ·rcases hs i' r' hr' with ⟨rfl,rfl⟩ | ⟨g1,g2,g3⟩
   ·exact absurd rfl hne
   ·rw [k9] at hb
    rw [hval i' g1]
    rcases hmain b hb with h | h
    ·exact hC.apart i i' _ _ hm g3 hne b h
    ·intro hb';have:=hC.lt g3 hb';omega
  ·rw [hval i h1] at hb
   rcases hs i' r' hr' with ⟨rfl,rfl⟩ | ⟨g1,g2,g3⟩
   ·rw [k9]
    intro hb'
    rcases hmain b hb' with h | h
    ·exact hC.apart i i' _ _ h3 hm hne b hb h
    ·have:=hC.lt h3 hb;omega
   ·rw [hval i' g1]
    exact hC.apart i i' _ _ h3 g3 hne b hb
 ·by_cases e:i=id
  ·subst e
   rcases hp with hp | hp
   ·omega
   ·rw [k9,hp];exact hC.pin.2 i hi
  ·rw [hval i e];exact hC.pin.2 i hi
 ·rcases hs i r hr with ⟨rfl,rfl⟩ | ⟨h1,h2,h3⟩
  ·rw [k9] at hb
   rcases hmain b hb with h | h
   ·exact hC.kept.2.2 i _ hm b h hk
   ·subst h;exact hC.fresh (Nat.le_refl _) hk
  ·rw [hval i h1] at hb
   exact hC.kept.2.2 i r h3 b hb hk
 ·rcases hs i r hr with ⟨rfl,rfl⟩ | ⟨h1,h2,h3⟩
  ·rw [k9] at hb
   obtain ⟨j,rj,g1,g2,g3,g3'⟩:=hwas p b hb
   refine ⟨?_,?_,Nat.lt_of_lt_of_le (hC.foot_lt g1 g3) hgr.size,fun i' r' hr'=>?_⟩
   ·rcases g3 with g3 | ⟨p0,g3⟩
    ·exact hC.kept.2.2 j rj g1 b g3
    ·exact (hC.inner j rj g1 p0 b g3).1
   ·rcases g3 with g3 | ⟨p0,g3⟩
    ·exact ((hC.rows j rj g1).2.blk_lt g3).1
    ·exact (hC.inner j rj g1 p0 b g3).2.1
   ·rcases hs i' r' hr' with ⟨rfl,rfl⟩ | ⟨q1,q2,q3⟩
    ·rw [k9]
     refine ⟨fun hb'=>?_,fun p' hp'=>⟨rfl,hinj p p' b hb hp'⟩⟩
     rcases hmain b hb' with h | h
     ·by_cases e:j=i'
      ·obtain ⟨p0,h0⟩:=g3' e
       subst e
       exact hC.blkne g1 hm h0 h
      ·exact hC.foot_apart g1 hm e g3 (.inl h)
     ·have:=hC.foot_lt g1 g3;omega
    ·rw [hval i' q1]
     have hji:j≠i':=fun e=>by
      rcases g2 with g2 | g2
      ·exact q1 (by rw [← e,g2])
      ·exact q2 (e▸g2)
     refine ⟨fun hb'=>hC.foot_apart g1 q3 hji g3 (.inl hb'),fun p' hp'=>?_⟩
     rw [hinn i' r' q3 q1] at hp'
     exact absurd (.inr ⟨p',hp'⟩) (hC.foot_apart g1 q3 hji g3)
  ·rw [hval i h1,hinn i r h3 h1] at hb
   obtain ⟨g1,g2,g3,g4⟩:=hC.inner i r h3 p b hb
   refine ⟨g1,g2,Nat.lt_of_lt_of_le g3 hgr.size,fun i' r' hr'=>?_⟩
   rcases hs i' r' hr' with ⟨rfl,rfl⟩ | ⟨q1,q2,q3⟩
   ·rw [k9]
    refine ⟨fun hb'=>?_,fun p' hp'=>?_⟩
    ·rcases hmain b hb' with h | h
     ·exact (g4 i' row hm).1 h
     ·omega
    ·obtain ⟨j,rj,k1,k2,k3,_⟩:=hwas p' b hp'
     have hij:i≠j:=fun e=>by
      rcases k2 with k2 | k2
      ·exact h1 (by rw [e,k2])
      ·exact h2 (e▸k2)
     exact absurd k3 (hC.foot_apart h3 k1 hij (.inr ⟨p,hb⟩))
   ·rw [hval i' q1]
    refine ⟨(g4 i' r' q3).1,fun p' hp'=>?_⟩
    rw [hinn i' r' q3 q1] at hp'
    exact (g4 i' r' q3).2 p' hp'
end
section
variable {P:Program} [Env P] {w0:Base} {ops:Array Oper} {tb:List (Nat×TyI)} {o:Oper} {rest:List Oper} {T:List (Nat×AV)} {m m':List (Nat×Option Row)} {nx nt d:Nat} {Q:Exit→St→Prop} {c:Code}
theorem RelC.nestC {ρ:Nat→Value} {w:World} (hC:RelC w0 ρ m nx w) {id e sz:Nat} {yss:List (List CI)} {op:List (Nat×Nat×Nat)} (hm:mem m id=some (.nest e sz yss op)):id < nx∧∃ cells,NestC w0.w.heap.size w (ρ id) e sz yss cells∧∀ q∈op,q.2.2 < nx∧z5 yss q.1 q.2.1=some .x∧z5 cells q.1 q.2.1=some (ρ q.2.2):=hC.rows id _ hm
theorem NestC.blkOwn {B:Nat} {w:World} {y:Value} {e sz:Nat} {yss:List (List CI)} {cells:List (List Value)} (h:NestC B w y e sz yss cells):blk y=y.ownBlock:=a0B h.1
theorem a7b (ρ:Nat→Value) (id:Nat):upd ρ id (ρ id)=ρ:=by funext j;unfold upd;split<;>simp_all
theorem a40 {w:World} {y:Value} {e sz:Nat} {yss:List (List CI)} {op:List (Nat×Nat×Nat)} {p:Nat×Nat}:inn w y (.nest e sz yss op) p=B4 w y sz yss p:=rfl
theorem a72 {w:World} {y:Value} {sz:Nat} {yss yss':List (List CI)} {p:Nat×Nat} {b:Nat} (h:B4 w y sz yss' p=some b) (hy:∀ e s ys f,z5 yss' p.1 p.2=some (.l e s ys f)→∃ e' s' ys' f',z5 yss p.1 p.2=some (.l e' s' ys' f')):B4 w y sz yss p=some b:=by
 unfold B4 at h ⊢
 split at h
 ·rename_i e s ys f hc
  obtain ⟨e',s',ys',f',h1⟩:=hy _ _ _ _ hc
  rw [h1]
  exact h
 ·cases h
theorem a7c {yss:List (List CI)} {i k:Nat} {cs:List CI} {z:CI} (hi:yss[i]?=some cs) (i' k':Nat):z5 (yss.set i (cs.set k z)) i' k'=if i'=i∧k'=k∧k < cs.length then some z else z5 yss i' k':=by
 have hil:=(List.getElem?_eq_some_iff.1 hi).1
 rw [a7a hil]
 by_cases e:i'=i
 ·subst e
  rw [if_pos rfl,List.getElem?_set]
  by_cases e2:k=k'
  ·subst e2
   by_cases hk:k < cs.length
   ·simp [hk]
   ·have:cs[k]?=none:=List.getElem?_eq_none (by omega)
    simp [hk,z5,hi,this]
  ·simp [e2,Ne.symm e2,z5,hi]
 ·simp [e]
theorem b0h {yss:List (List CI)} {i k sz:Nat} {cs:List CI} {z:CI} (hi:yss[i]?=some cs) (hall:∀ c∈yss,c.length=sz):∀ c∈yss.set i (cs.set k z),c.length=sz:=fun c hc=>by
 rcases List.mem_or_eq_of_mem_set hc with hc | rfl
 ·exact hall c hc
 ·rw [List.length_set];exact hall cs (List.mem_of_getElem? hi)
theorem Gh.open {id e sz i k e' sz':Nat} {yss yss':List (List CI)} {op:List (Nat×Nat×Nat)} {cs:List CI} {ys:List (List Value)} {f:Bool} (nx':Nat) (hn':Nat.beq nx' (Nat.succ nx)=true) (hm:mem m id=some (.nest e sz yss op)) (hi:yss[i]?=some cs) (hk:cs[k]?=some (.l e' sz' ys f)) (hy:yss.set i (cs.set k .x)=yss') :
 Gh w0 ⟨T,m,nx,nt⟩ ⟨T,(id,some (.nest e sz yss' ((i,k,nx) :: op))) :: (nx,some (.row e' sz' ys f)) :: m,nx',nt⟩:=by
 have hn'':=Nat.eq_of_beq_eq_true hn'
 subst hn''
 subst hy
 intro ρ a w hT hC
 obtain ⟨hlt,cells,hN,hop⟩:=hC.nestC hm
 have hc:z5 yss i k=some (.l e' sz' ys f):=s8.2 ⟨cs,hi,hk⟩
 have hkl:=(List.getElem?_eq_some_iff.1 hk).1
 obtain ⟨u,hu,hrow,hinn⟩:=hN.at hc
 have hset:=a7c (k:=k) (z:=CI.x) hi
 have hNC:NestC w0.w.heap.size w (ρ id) e sz (yss.set i (cs.set k .x)) cells:=by
  refine ⟨by rw [List.length_set];exact hN.1,by rw [List.length_set];exact hN.2.1,hN.2.2.1,b0h hi hN.2.2.2.1,fun i' k' c hc'=>?_⟩
  rw [hset] at hc'
  split at hc'
  ·rename_i h
   cases hc'
   exact ⟨u,by rw [h.1,h.2.1];exact hu,trivial⟩
  ·exact hN.2.2.2.2 i' k' c hc'
 have hsub:∀ p b,B4 w (ρ id) sz (yss.set i (cs.set k .x)) p=some b→B4 w (ρ id) sz yss p=some b∧p≠(i,k):=fun p b hb=>by
  refine ⟨a72 hb fun e s ys f h=>?_,fun e=>?_⟩
  ·rw [hset] at h
   split at h
   ·cases h
   ·exact ⟨_,_,_,_,h⟩
  ·subst e
   unfold B4 at hb
   rw [hset,if_pos ⟨rfl,rfl,hkl⟩] at hb
   cases hb
 have hC1:RelC w0 ρ ((id,some (.nest e sz (yss.set i (cs.set k .x)) [])) :: m) nx w:=hC.retell hm ⟨cells,hNC,fun q hq=>by cases hq⟩ (fun p b hb=>(hsub p b hb).1)
 have hC2:RelC w0 (upd ρ nx u) ((nx,some (.row e' sz' ys f)) :: (id,some (.nest e sz (yss.set i (cs.set k .x)) [])) :: m) (nx+1) w:=by
  refine hC1.add ?_ (fun b hb=>?_) (fun p b hb=>by cases hb)
  ·simp only [RowRel];rw [k9];exact hrow
  ·rcases hb with hb | ⟨p,hb⟩
   ·have hb1:inn w (ρ id) (.nest e sz yss op) (i,k)=some b:=by rw [a40,hinn];exact hb
    obtain ⟨g1,_,_,g4⟩:=hC.inner id _ hm _ b hb1
    refine ⟨fun i' r' hr' hf=>?_,g1⟩
    by_cases e1:id=i'
    ·subst e1
     rw [j8] at hr'
     cases hr'
     rcases hf with hf | ⟨p',hf⟩
     ·exact (g4 id _ hm).1 hf
     ·obtain ⟨h1,h2⟩:=hsub p' b hf
      exact h2 ((g4 id _ hm).2 p' h1).2.symm
    ·rw [d9 e1] at hr'
     rcases hf with hf | ⟨p',hf⟩
     ·exact (g4 i' r' hr').1 hf
     ·exact e1 ((g4 i' r' hr').2 p' hf).1
   ·cases hb
 have hne:nx≠id:=Nat.ne_of_gt hlt
 have hm2:mem ((nx,some (Row.row e' sz' ys f)) :: (id,some (.nest e sz (yss.set i (cs.set k .x)) [])) :: m) id=some (.nest e sz (yss.set i (cs.set k .x)) []):=by rw [d9 hne,j8]
 have hupd:∀ j,j < nx→upd ρ nx u j=ρ j:=fun j hj=>l7 ρ u (by omega)
 refine ⟨upd ρ nx u,hT.add u,(hC2.retell hm2 (row':=.nest e sz (yss.set i (cs.set k .x)) ((i,k,nx) :: op)) ⟨cells,by rw [hupd id hlt];exact hNC,fun q hq=>?_⟩ (fun p b h=>h)).sub fun i' r' hr'=>?_⟩
 ·rcases List.mem_cons.1 hq with rfl | hq
  ·refine ⟨Nat.lt_succ_self nx,?_,?_⟩
   ·rw [hset,if_pos ⟨rfl,rfl,hkl⟩]
   ·rw [k9];exact hu
  ·obtain ⟨g1,g2,g3⟩:=hop q hq
   refine ⟨Nat.lt_succ_of_lt g1,?_,by rw [hupd _ g1];exact g3⟩
   rw [hset]
   split
   ·rfl
   ·exact g2
 ·by_cases e1:id=i'
  ·subst e1;rw [j8] at hr' ⊢;exact hr'
  ·rw [d9 e1] at hr' ⊢
   by_cases e2:nx=i'
   ·subst e2;rw [j8] at hr' ⊢;exact hr'
   ·rw [d9 e2] at hr' ⊢;rw [d9 e1];exact hr'
theorem Gh.detach {id e sz:Nat} {yss:List (List CI)} {q:Nat×Nat×Nat} {op:List (Nat×Nat×Nat)} (hm:mem m id=some (.nest e sz yss (q :: op))):Gh w0 ⟨T,m,nx,nt⟩ ⟨T,(id,some (.nest e sz yss op)) :: m,nx,nt⟩:=by
 intro ρ a w hT hC
 obtain ⟨hlt,cells,hN,hop⟩:=hC.nestC hm
 exact ⟨ρ,hT,hC.retell hm ⟨cells,hN,fun q hq=>hop q (List.mem_cons_of_mem _ hq)⟩ fun p b h=>h⟩
theorem RelVs.forget {ρ:Nat→Value}:∀ {cs:List AV} {us:List Value} (k:Nat),RelVs w0 ρ nx cs us→RelVs w0 ρ nx (cs.set k .any) us
 | [],us,k,h=>by simpa using h
 | c :: cs,_,0,h=>by
  simp only [RelVs] at h
  obtain ⟨u,us,rfl,_,h2⟩:=h
  simp only [List.set_cons_zero,RelVs,RelV]
  exact ⟨_,_,rfl,trivial,h2⟩
 | c :: cs,_,k+1,h=>by
  simp only [RelVs] at h
  obtain ⟨u,us,rfl,h1,h2⟩:=h
  simp only [List.set_cons_succ,RelVs]
  exact ⟨_,_,rfl,h1,RelVs.forget k h2⟩
def a9A:List AV→Nat→List AV→Option (List AV)
 | [],_,acc=>a0Z acc []
 | _ :: r,0,acc=>a9A r (r.length+1) (.any :: acc)
 | x :: r,k+1,acc=>a9A r k (x :: acc)
theorem a50 {w0:World} {ρ:Nat→Value} {nx:Nat}:∀ {cs:List AV} {k:Nat} {acc rs:List AV} {us acc':List Value},a9A cs k acc=some rs→RelVs w0 ρ nx cs us→RelVs w0 ρ nx acc.reverse acc'→RelVs w0 ρ nx rs (acc'++us)
 | [],_,acc,rs,us,acc',h,hr,ha=>by
  simp [a9A,E2] at h
  simp only [RelVs] at hr
  subst h;subst hr
  simpa using ha
 | c :: cs,k,acc,rs,us,acc',h,hr,ha=>by
  simp only [RelVs] at hr
  obtain ⟨u,us,rfl,h1,h2⟩:=hr
  have key:∀ (a:AV) (k':Nat),RelV w0 ρ nx a u→a9A cs k' (a :: acc)=some rs→RelVs w0 ρ nx rs (acc'++u :: us):=fun a k' hu h'=>by
   have:=a50 h' h2 (acc':=acc'++[u]) (by
    rw [List.reverse_cons]
    refine RelVs.append _ ha ?_
    simp only [RelVs]
    exact ⟨_,_,rfl,hu,rfl⟩)
   simpa using this
  cases k with
  | zero=>exact key .any _ (by simp only [RelV]) h
  | succ k=>exact key c k h1 h
theorem Gh.forget {id k:Nat} {cs cs':List AV} (hm:mem m id=some (.box cs)) (h:a9A cs k []=some cs'):Gh w0 ⟨T,m,nx,nt⟩ ⟨T,(id,some (.box cs')) :: m,nx,nt⟩:=by
 intro ρ a w hT hC
 obtain ⟨b,cur,ty,hρ,hB,hb,hR,hone⟩:=hC.box hm
 exact ⟨ρ,hT,hC.retell hm ⟨b,cur,ty,hρ,hB,hb,by simpa using a50 (acc':=[]) h hR (by simp [RelVs]),hone⟩⟩
theorem a8K [EnvAt P w0] {t:TypeId} {x:Operand} {ti:TyI} {id sz i k e e' sz':Nat} {yss yss':List (List CI)} {op:List (Nat×Nat×Nat)} {cs:List CI} {ys:List (List Value)} {f:Bool} (G:Good P tb) (nx':Nat) (hn':Nat.beq nx' (Nat.succ nx)=true) (hd:o.dst=some d) (hlt:Nat.blt d nt=true) (ho:o.op=.load t x) (ht:look t tb=some ti) (hf:Q6 ti=true) (hx:ev T x=some (.rpt id sz i k)) (hm:mem m id=some (.nest e sz yss op))
 (hi:yss[i]?=some cs) (hk:cs[k]?=some (.l e' sz' ys f)) (hy:yss.set i (cs.set k .x)=yss')
 (hw:WL P w0 ops rest ⟨(d,.own nx) :: T,(id,some (.nest e sz yss' op)) :: (nx,some (.row e' sz' ys f)) :: m,nx',nt⟩ Q):WX P w0 ops o rest ⟨T,m,nx,nt⟩ Q:=by
 have hkl:=(List.getElem?_eq_some_iff.1 hk).1
 have hc:z5 yss' i k=some .x:=by rw [← hy,a7c hi,if_pos ⟨rfl,rfl,hkl⟩]
 refine s4 (Gh.open nx' hn' hm hi hk hy) (a3 hd hlt (w7 G ho ht hf hx (j8 _ _ _) hc (.own (id:=nx) (by simp) .nil)) (m7 (Gh.detach (j8 _ _ _)) ?_))
 have hn'':=Nat.eq_of_beq_eq_true hn'
 subst hn''
 intro ρ a w hT hC
 exact hw ρ a w hT (hC.sub fun i r hr=>by
  by_cases e1:id=i
  ·subst e1;rw [j8] at hr ⊢;exact hr
  ·rw [d9 e1] at hr ⊢;rw [d9 e1];exact hr)
inductive Absorb (m:List (Nat×Option Row)):List AV→List CI→List Nat→Prop
 | nil:Absorb m [] [] []
 | v {x:Value} {as:List AV} {cs:List CI} {ids:List Nat} (hx:x.oneCell'=true) (h:Absorb m as cs ids):Absorb m (.v x :: as) (.v x :: cs) ids
 | nils {e sz:Nat} {f:Bool} {as:List AV} {cs:List CI} {ids:List Nat} (h:Absorb m as cs ids):Absorb m (.v (.slice none 0 0) :: as) (.l e sz [] f :: cs) ids
 | own {id e sz:Nat} {ys:List (List Value)} {f:Bool} {as:List AV} {cs:List CI} {ids:List Nat} (hm:mem m id=some (.row e sz ys f)) (h:Absorb m as cs ids):Absorb m (.own id :: as) (.l e sz ys f :: cs) (id :: ids)
theorem Absorb.rows {ids:List Nat} {as:List AV} {cs:List CI} (h:Absorb m as cs ids):∀ i∈ids,∃ e sz ys f,mem m i=some (.row e sz ys f):=by
 induction h with
 | nil=>intro i hi;cases hi
 | v _ _ ih=>exact ih
 | nils _ ih=>exact ih
 | own hm _ ih =>
  intro i hi
  rcases List.mem_cons.1 hi with rfl | hi
  ·exact ⟨_,_,_,_,hm⟩
  ·exact ih i hi
def a0e (ρ:Nat→Value) (m:List (Nat×Option Row)) (ids:List Nat) (cs:List CI) (us:List Value) (j b:Nat):Prop:=(∃ e s ys f,cs[j]?=some (.l e s ys f))∧∃ u,us[j]?=some u∧blk u=some b
theorem Absorb.spec {ρ:Nat→Value} {w:World} (hC:RelC w0 ρ m nx w) {as:List AV} {cs:List CI} {ids:List Nat} (h:Absorb m as cs ids):nodupB ids=true→∀ {us:List Value},RelVs w0.w ρ nx as us →
 us.length=cs.length∧(∀ u∈us,u.oneCell'=true)∧(∀ (j:Nat) (c:CI),cs[j]?=some c→∃ u,us[j]?=some u∧CIRel w0.w.heap.size w c u)∧(∀ j b,a0e ρ m ids cs us j b→∃ i r,i∈ids∧mem m i=some r∧blk (ρ i)=some b) ∧
 ∀ j j' b,a0e ρ m ids cs us j b→a0e ρ m ids cs us j' b→j=j':=by
 induction h with
 | nil =>
  intro _ us hr
  simp only [RelVs] at hr
  subst hr
  exact ⟨rfl,by simp,by simp,fun j b hb=>by obtain ⟨⟨_,_,_,_,h⟩,_⟩:=hb;simp at h,fun j j' b hb=>by obtain ⟨⟨_,_,_,_,h⟩,_⟩:=hb;simp at h⟩
 | @v x as cs ids hx _ ih =>
  intro hn us hr
  simp only [RelVs,RelV] at hr
  obtain ⟨u,us,rfl,rfl,hr⟩:=hr
  obtain ⟨h1,h2,h3,h4,h5⟩:=ih hn hr
  have hs:∀ j b,a0e ρ m ids (.v u :: cs) (u :: us) j b→∃ j0,j=j0+1∧a0e ρ m ids cs us j0 b:=fun j b hb=>by
   obtain ⟨⟨e,s,ys,f,g1⟩,u',g2,g3⟩:=hb
   cases j with
   | zero=>simp at g1
   | succ j=>exact ⟨j,rfl,⟨e,s,ys,f,by simpa using g1⟩,u',by simpa using g2,g3⟩
  refine ⟨by simp [h1],?_,?_,?_,?_⟩
  ·intro y hy
   rcases List.mem_cons.1 hy with rfl | hy
   ·exact hx
   ·exact h2 y hy
  ·intro j c hj
   cases j with
   | zero=>simp at hj;subst hj;exact ⟨u,rfl,rfl⟩
   | succ j=>simpa using h3 j c (by simpa using hj)
  ·intro j b hb
   obtain ⟨j0,_,hb⟩:=hs j b hb
   exact h4 j0 b hb
  ·intro j j' b hb hb'
   obtain ⟨j0,rfl,hb⟩:=hs j b hb
   obtain ⟨j1,rfl,hb'⟩:=hs j' b hb'
   rw [h5 j0 j1 b hb hb']
 | @nils e sz f0 as cs ids _ ih =>
  intro hn us hr
  simp only [RelVs,RelV] at hr
  obtain ⟨u,us,rfl,rfl,hr⟩:=hr
  obtain ⟨h1,h2,h3,h4,h5⟩:=ih hn hr
  have hs:∀ j b,a0e ρ m ids (.l e sz [] f0 :: cs) (.slice none 0 0 :: us) j b→∃ j0,j=j0+1∧a0e ρ m ids cs us j0 b:=fun j b hb=>by
   obtain ⟨⟨e,s,ys,f,g1⟩,u',g2,g3⟩:=hb
   cases j with
   | zero=>simp at g2;subst g2;simp [blk] at g3
   | succ j=>exact ⟨j,rfl,⟨e,s,ys,f,by simpa using g1⟩,u',by simpa using g2,g3⟩
  refine ⟨by simp [h1],?_,?_,?_,?_⟩
  ·intro y hy
   rcases List.mem_cons.1 hy with rfl | hy
   ·rfl
   ·exact h2 y hy
  ·intro j c hj
   cases j with
   | zero=>simp at hj;subst hj;exact ⟨_,rfl,OwnR.nil,by simp⟩
   | succ j=>simpa using h3 j c (by simpa using hj)
  ·intro j b hb
   obtain ⟨j0,_,hb⟩:=hs j b hb
   exact h4 j0 b hb
  ·intro j j' b hb hb'
   obtain ⟨j0,rfl,hb⟩:=hs j b hb
   obtain ⟨j1,rfl,hb'⟩:=hs j' b hb'
   rw [h5 j0 j1 b hb hb']
 | @own id e sz ys f0 as cs ids hm hA ih =>
  intro hn us hr
  simp only [RelVs,RelV] at hr
  obtain ⟨u,us,rfl,⟨_,rfl⟩,hr⟩:=hr
  simp only [nodupB,Bool.and_eq_true,Bool.not_eq_true'] at hn
  obtain ⟨h1,h2,h3,h4,h5⟩:=ih hn.2 hr
  have hs:∀ j b,a0e ρ m (id :: ids) (.l e sz ys f0 :: cs) (ρ id :: us) j b→(j=0∧blk (ρ id)=some b)∨∃ j0,j=j0+1∧a0e ρ m ids cs us j0 b:=fun j b hb=>by
   obtain ⟨⟨e,s,ys,f,g1⟩,u',g2,g3⟩:=hb
   cases j with
   | zero=>simp at g2;subst g2;exact .inl ⟨rfl,g3⟩
   | succ j=>exact .inr ⟨j,rfl,⟨e,s,ys,f,by simpa using g1⟩,u',by simpa using g2,g3⟩
  have hcross:∀ j b,blk (ρ id)=some b→¬ a0e ρ m ids cs us j b:=fun j b hb hb'=>by
   obtain ⟨i,r,q1,q2,q3⟩:=h4 j b hb'
   have hne:id≠i:=fun e=>by subst e;rw [U9 q1] at hn;exact absurd hn.1 (by simp)
   exact hC.apart id i _ _ hm q2 hne b hb q3
  refine ⟨by simp [h1],?_,?_,?_,?_⟩
  ·intro y hy
   rcases List.mem_cons.1 hy with rfl | hy
   ·exact a3u hC (x:=.own id) (by simp only [b1q,hm]) (by simp only [RelV];exact ⟨(hC.rows id _ hm).1,trivial⟩)
   ·exact h2 y hy
  ·intro j c hj
   cases j with
   | zero=>simp at hj;subst hj;exact ⟨_,rfl,hC.rowF hm⟩
   | succ j=>simpa using h3 j c (by simpa using hj)
  ·intro j b hb
   rcases hs j b hb with ⟨_,hb⟩ | ⟨j0,_,hb⟩
   ·exact ⟨id,_,by simp,hm,hb⟩
   ·obtain ⟨i,r,q1,q2,q3⟩:=h4 j0 b hb
    exact ⟨i,r,by simp [q1],q2,q3⟩
  ·intro j j' b hb hb'
   rcases hs j b hb with ⟨rfl,q1⟩ | ⟨j0,rfl,q1⟩<;>rcases hs j' b hb' with ⟨rfl,q2⟩ | ⟨j1,rfl,q2⟩
   ·rfl
   ·exact absurd q2 (hcross j1 b q1)
   ·exact absurd q1 (hcross j0 b q2)
   ·rw [h5 j0 j1 b q1 q2]
theorem a7d {yss:List (List CI)} {i k sz:Nat} {c cs:List CI} (hi:yss[i]?=some c) (hall:∀ c∈yss,c.length=sz) (hfit:k+cs.length≤c.length):∀ c'∈yss.set i (c.take k++cs++c.drop (k+cs.length)),c'.length=sz:=fun c' hc=>by
 rcases List.mem_or_eq_of_mem_set hc with hc | rfl
 ·exact hall c' hc
 ·rw [a4Z hfit];exact hall c (List.mem_of_getElem? hi)
theorem a4a {α:Type} {yss:List (List α)} {i k:Nat} {c cs:List α} (hi:yss[i]?=some c) (hfit:k+cs.length≤c.length) (i' k':Nat):z5 (yss.set i (c.take k++cs++c.drop (k+cs.length))) i' k'=if i'=i∧k≤k'∧k' < k+cs.length then cs[k' - k]? else z5 yss i' k':=by
 rw [a7a (List.getElem?_eq_some_iff.1 hi).1]
 by_cases e:i'=i
 ·subst e
  rw [if_pos rfl,a71 hfit]
  by_cases h:k≤k'∧k' < k+cs.length
  ·rw [if_pos h,if_pos ⟨rfl,h⟩]
  ·rw [if_neg h,if_neg (fun h'=>h h'.2)]
   simp [z5,hi]
 ·rw [if_neg e,if_neg (fun h=>e h.1)]
theorem i9 {t:TypeId} {ti:TyI} {x y:Operand} {id sz j k e:Nat} {yss yss':List (List CI)} {op:List (Nat×Nat×Nat)} {c cs:List CI} {ids:List Nat} {ay:AV} {as:List AV} (G:Good P tb) (hd:o.dst=none) (ho:o.op=.store t x y) (ht:look t tb=some ti) (hx:ev T x=some (.rpt id sz j k)) (hm:mem m id=some (.nest e sz yss op))
 (hc:yss[j]?=some c) (hy:ev T y=some ay) (hv:C6 ay=some as) (hA:Absorb m as cs ids) (hnd:nodupB ids=true) (h1:X4 m as=true) (hl:Nat.beq as.length (N7 ti)=true) (hfit:k+cs.length≤c.length) (hop':∀ q∈op,¬ (q.1=j∧k≤q.2.1∧q.2.1 < k+cs.length))
 (hres:yss.set j (c.take k++cs++c.drop (k+cs.length))=yss')
 (hk:WL P w0 ops rest ⟨T,a39 ids ((id,some (.nest e sz yss' op)) :: m),nx,nt⟩ Q):WX P w0 ops o rest ⟨T,m,nx,nt⟩ Q:=by
 subst hres
 intro ρ a w hT hC
 have hax:=hT.ev hx
 simp only [RelV] at hax
 obtain ⟨hn,g,o',l,cp,hg,he⟩:=hax
 obtain ⟨hlt,cells,hN,hop⟩:=hC.nestC hm
 obtain rfl:=hN.off hg
 rw [Nat.zero_add] at he
 obtain ⟨h2,h3⟩:=P4 hC hv h1 (hT.ev hy)
 have hrows:=hA.rows
 have hidn:id∉ids:=fun hi=>by obtain ⟨_,_,_,_,h⟩:=hrows id hi;rw [hm] at h;cases h
 obtain ⟨hul,_,hCI,hown,hinj⟩:=hA.spec hC hnd h2
 have hsz:(a.eval y).cells.size=cs.length:=by simpa using hul
 have hl':as.length=N7 ti:=Nat.eq_of_beq_eq_true hl
 have hal:=RelVs.length _ h2
 have hcl:c.length=sz:=hN.2.2.2.1 c (List.mem_of_getElem? hc)
 have hjl:j < yss.length:=(List.getElem?_eq_some_iff.1 hc).1
 have hjc:j < cells.length:=by rw [hN.2.1];exact hjl
 have hdl:cells[j]?=some cells[j]:=List.getElem?_eq_getElem hjc
 have hdn:=(hN.2.2.1 cells[j] (List.getElem_mem hjc))
 rcases hN.1.2 with ⟨hnil,_⟩ | ⟨g',cap,cur,hsl,hB,hb,hcap,hcapm,hcur,htake⟩
 ·rw [hg] at hnil;cases hnil
 have hgg:g=g'∧l=yss.length∧cp=cap:=by rw [hg] at hsl;simpa using hsl
 obtain ⟨rfl,rfl,rfl⟩:=hgg
 have hbd:j * sz+k+cs.length≤yss.length * sz:=by
  have:(j+1) * sz≤yss.length * sz:=Nat.mul_le_mul_right _ hjl
  rw [Nat.add_mul] at this
  omega
 have hbd2:yss.length * sz≤cur.size:=by rw [hcur];exact Nat.mul_le_mul_right _ hcap
 have hrun:=S3 (P:=P) (G t ti ht) hb (off:=j * sz+k) (v:=a.eval y) (by simp at hal;omega) h3 (by omega)
 unfold Oper.wp
 have hr:(execOp a.eval o).run P w=.ok .skip (w.setRow g (cur.toList.take (j * sz+k)++(a.eval y).cells.toList++cur.toList.drop (j * sz+k+(a.eval y).cells.size)).toArray):=by
  simp only [execOp,ho,he,Sem.run_bind,hrun,Result.andThen_ok,Sem.run_pure]
 rw [hr,Oper.upon_skip,hd]
 generalize hw':w.setRow g (cur.toList.take (j * sz+k)++(a.eval y).cells.toList++cur.toList.drop (j * sz+k+(a.eval y).cells.size)).toArray=w'
 have hgr:w.grownBy w' (some g):=hw'▸N9 w g _
 let us:=(a.eval y).cells.toList
 have hus:us.length=cs.length:=hul
 let dd:=cells[j].take k++us++cells[j].drop (k+us.length)
 have hdd:dd.length=sz:=by rw [a4Z (by rw [hus,hdn.1,← hcl];exact hfit)];exact hdn.1
 have hcells':∀ c'∈cells.set j dd,c'.length=sz∧∀ u∈c',u.oneCell'=true:=fun c' hc'=>by
  rcases List.mem_or_eq_of_mem_set hc' with hc' | rfl
  ·exact hN.2.2.1 c' hc'
  ·refine ⟨hdd,fun u hu=>?_⟩
   simp only [dd,List.mem_append] at hu
   rcases hu with (hu | hu) | hu
   ·exact hdn.2 u (List.mem_of_mem_take hu)
   ·exact h3 u hu
   ·exact hdn.2 u (List.mem_of_mem_drop hu)
 have hblkid:blk (ρ id)=some g:=by rw [hg];rfl
 have hown':w'.ownsRow w0.w.heap.size e sz (ρ id) (yss.set j (c.take k++cs++c.drop (k+cs.length))).length (cells.set j dd).flatten:=by
  refine ⟨?_,.inr ⟨g,cp,_,by rw [hg];simp,hB,by rw [← hw'];exact setRow_heap w g cur _ e _ hb,by simpa using hcap,hcapm,?_,?_⟩⟩
  ·rw [t9 (fun c hc=>(hcells' c hc).1)];simp [hN.2.1]
  ·simp [hsz];omega
  ·rw [X5 (vs:=us) (fun c hc=>(hN.2.2.1 c hc).1) hdl (by omega) rfl,hsz,hus,← htake]
   simp only [List.length_set]
   have hlt1:(List.take (j * sz+k) cur.toList).length=j * sz+k:=by rw [List.length_take];simp;omega
   simp only [List.take_append,List.take_take,List.drop_take,List.length_append,hlt1]
   rw [Nat.min_eq_left (by omega:j * sz+k≤yss.length * sz),Nat.min_eq_right (by omega:j * sz+k≤yss.length * sz)]
   rw [List.take_of_length_le (l:=(a.eval y).cells.toList) (by omega),hul]
 have hnget:=a4a (k:=k) (cs:=cs) hc hfit
 have hngetc:∀ i' k',z5 (cells.set j dd) i' k'=if i'=j∧k≤k'∧k' < k+cs.length then us[k' - k]? else z5 cells i' k':=fun i' k'=>by
  have:=a4a (k:=k) (cs:=us) hdl (by rw [hus,hdn.1,← hcl];exact hfit) i' k'
  have e0:dd=cells[j].take k++us++cells[j].drop (k+us.length):=rfl
  rw [e0,this,hus]
 have hfr:∀ b',b'≠g→b' < w.heap.size→w'.heap[b']?=w.heap[b']?:=fun b' hne hlt'=>hgr.block b' hlt' (by simpa using hne)
 have hNC:NestC w0.w.heap.size w' (ρ id) e sz (yss.set j (c.take k++cs++c.drop (k+cs.length))) (cells.set j dd):=by
  refine ⟨hown',by simp [hN.2.1],hcells',a7d hc hN.2.2.2.1 hfit,fun i' k' c' hc'=>?_⟩
  rw [hnget] at hc'
  rw [hngetc]
  split at hc'
  ·rename_i h
   rw [if_pos h]
   obtain ⟨u,q1,q2⟩:=hCI _ _ hc'
   refine ⟨u,q1,q2.frame ?_⟩
   rintro ⟨e',s',ys,f',rfl⟩ b' hb'
   obtain ⟨i0,r0,z1,z2,z3⟩:=hown _ b' ⟨⟨_,_,_,_,hc'⟩,u,q1,hb'⟩
   refine hfr b' (fun e0=>?_) (hC.lt z2 z3)
   subst e0
   exact hC.apart i0 id _ _ z2 hm (fun e0=>hidn (e0▸z1)) b' z3 hblkid
  ·rename_i h
   rw [if_neg h]
   obtain ⟨u,q1,q2⟩:=hN.2.2.2.2 i' k' c' hc'
   refine ⟨u,q1,q2.frame ?_⟩
   rintro ⟨e',s',ys,f',rfl⟩ b' hb'
   obtain ⟨u',q3,_,q5⟩:=hN.at hc'
   rw [q1] at q3;cases q3
   have hi0:inn w (ρ id) (.nest e sz yss op) (i',k')=some b':=by rw [a40,q5];exact hb'
   refine hfr b' (fun e0=>?_) (hC.inner id _ hm _ b' hi0).2.2.1
   subst e0
   exact hC.blkne hm hm hi0 hblkid
 have hwas:∀ p b',B4 w' (ρ id) sz (yss.set j (c.take k++cs++c.drop (k+cs.length))) p=some b'→(p.1=j∧k≤p.2∧p.2 < k+cs.length∧a0e ρ m ids cs us (p.2 - k) b')∨(¬ (p.1=j∧k≤p.2∧p.2 < k+cs.length)∧B4 w (ρ id) sz yss p=some b'):=fun p b' hb'=>by
  obtain ⟨e',s',ys,f',u,q1,q2,q3,_,_⟩:=hNC.inn hb'
  rw [hnget] at q1
  rw [hngetc] at q2
  by_cases h:p.1=j∧k≤p.2∧p.2 < k+cs.length
  ·rw [if_pos h] at q1 q2
   exact .inl ⟨h.1,h.2.1,h.2.2,⟨_,_,_,_,q1⟩,u,q2,q3⟩
  ·rw [if_neg h] at q1 q2
   obtain ⟨u',z1,_,z3⟩:=hN.at q1
   rw [q2] at z1;cases z1
   exact .inr ⟨h,by rw [z3];exact q3⟩
 have hfin:=hC.renest (w':=w') (ids:=ids) (row':=.nest e sz (yss.set j (c.take k++cs++c.drop (k+cs.length))) op) (v':=ρ id) (.inr rfl) hm (.inr rfl) hN.blkOwn hN.blkOwn hidn (by rw [← hN.blkOwn,hblkid];exact hgr) (.inl rfl) ?_ (fun p b' hb'=>?_) (fun p p' b' hb' hb''=>?_)
 ·rw [a7b] at hfin
  exact hk ρ _ _ hT.put_none hfin
 ·rw [a7b]
  refine ⟨_,hNC,fun q hq=>?_⟩
  obtain ⟨q1,q2,q3⟩:=hop q hq
  refine ⟨q1,?_,?_⟩
  ·rw [hnget,if_neg (hop' q hq)];exact q2
  ·rw [hngetc,if_neg (hop' q hq)];exact q3
 ·rcases hwas p b' hb' with ⟨_,_,_,h⟩ | ⟨_,h⟩
  ·obtain ⟨i,r,q1,q2,q3⟩:=hown _ b' h
   exact .inr ⟨i,r,q1,q2,.inl q3⟩
  ·exact .inl ⟨p,h⟩
 ·have hx:∀ p p':Nat×Nat,(p.1=j∧k≤p.2∧p.2 < k+cs.length∧a0e ρ m ids cs us (p.2 - k) b')→B4 w (ρ id) sz yss p'=some b'→False:=fun p p' h h'=>by
   obtain ⟨i,r,q1,q2,q3⟩:=hown _ b' h.2.2.2
   exact hC.blkne (p:=p') hm q2 h' q3
  rcases hwas p b' hb' with h | ⟨_,h⟩<;>rcases hwas p' b' hb'' with h' | ⟨_,h'⟩
  ·have:=hinj _ _ b' h.2.2.2 h'.2.2.2
   exact Prod.ext (by rw [h.1,h'.1]) (by have:=h.2.1;have:=h'.2.1;omega)
  ·exact (hx p p' h h').elim
  ·exact (hx p' p h' h).elim
  ·exact ((hC.inner id _ hm p b' h).2.2.2 id _ hm).2 p' h' |>.2
inductive PlainC:List Value→List CI→Prop
 | nil:PlainC [] []
 | v {x:Value} {xs:List Value} {cs:List CI} (h:PlainC xs cs):PlainC (x :: xs) (.v x :: cs)
 | s {e sz:Nat} {f:Bool} {xs:List Value} {cs:List CI} (h:PlainC xs cs):PlainC (.slice none 0 0 :: xs) (.l e sz [] f :: cs)
theorem PlainC.get {B:Nat} {w:World} {xs:List Value} {cs:List CI} (h:PlainC xs cs):xs.length=cs.length∧∀ (k:Nat) (c:CI),cs[k]?=some c→∃ u,xs[k]?=some u∧CIRel B w c u∧((∃ e s ys f,c=.l e s ys f)→blk u=none):=by
 induction h with
 | nil=>exact ⟨rfl,by simp⟩
 | v _ ih =>
  refine ⟨by simp [ih.1],fun k c hk=>?_⟩
  cases k with
  | zero=>simp at hk;subst hk;exact ⟨_,rfl,rfl,fun ⟨_,_,_,_,h⟩=>by cases h⟩
  | succ k=>simpa using ih.2 k c (by simpa using hk)
 | s _ ih =>
  refine ⟨by simp [ih.1],fun k c hk=>?_⟩
  cases k with
  | zero=>simp at hk;subst hk;exact ⟨_,rfl,⟨OwnR.nil,by simp⟩,fun _=>rfl⟩
  | succ k=>simpa using ih.2 k c (by simpa using hk)
theorem Gh.nest {id e sz:Nat} {ys:List (List Value)} {yss:List (List CI)} (hm:mem m id=some (.row e sz ys)) (hl:ys.length=yss.length) (hp:∀ (i:Nat) (c:List Value) (cs:List CI),ys[i]?=some c→yss[i]?=some cs→PlainC c cs):Gh w0 ⟨T,m,nx,nt⟩ ⟨T,(id,some (.nest e sz yss [])) :: m,nx,nt⟩:=by
 intro ρ a w hT hC
 obtain ⟨hrow,hall⟩:=hC.row hm
 have hget:∀ i cs,yss[i]?=some cs→∃ c,ys[i]?=some c∧PlainC c cs:=fun i cs h=>by
  have hi:i < ys.length:=by rw [hl];exact (List.getElem?_eq_some_iff.1 h).1
  exact ⟨_,List.getElem?_eq_getElem hi,hp i _ cs (List.getElem?_eq_getElem hi) h⟩
 have hNC:NestC w0.w.heap.size w (ρ id) e sz yss ys:=by
  refine ⟨by rw [← hl];exact hrow,hl,hall,fun cs hcs=>?_,fun i k c hc=>?_⟩
  ·obtain ⟨i,hi⟩:=List.getElem?_of_mem hcs
   obtain ⟨c,h1,h2⟩:=hget i cs hi
   rw [← (h2.get (B:=0) (w:=w)).1]
   exact (hall c (List.mem_of_getElem? h1)).1
  ·obtain ⟨cs,h1,h2⟩:=s8.1 hc
   obtain ⟨c',h3,h4⟩:=hget i cs h1
   obtain ⟨u,h5,h6,_⟩:=h4.get.2 k c h2
   exact ⟨u,s8.2 ⟨c',h3,h5⟩,h6⟩
 refine ⟨ρ,hT,hC.retell hm ⟨ys,hNC,fun q hq=>by cases hq⟩ fun p b hb=>?_⟩
 obtain ⟨e',s',zs,f',u,h1,h2,h3,_⟩:=hNC.inn hb
 obtain ⟨cs,q1,q2⟩:=s8.1 h1
 obtain ⟨c',q3,q4⟩:=s8.1 h2
 obtain ⟨c'',q5,q6⟩:=hget p.1 cs q1
 rw [q3] at q5;cases q5
 obtain ⟨u',q7,_,q8⟩:=(q6.get (B:=0) (w:=w)).2 p.2 _ q2
 rw [q4] at q7;cases q7
 rw [q8 ⟨_,_,_,_,rfl⟩] at h3
 cases h3
end
section
variable {P:Program} [Env P] {w0:Base} {ops:Array Oper} {tb:List (Nat×TyI)} {o:Oper} {rest:List Oper} {T:List (Nat×AV)} {m m':List (Nat×Option Row)} {nx nt d:Nat} {Q:Exit→St→Prop} {c:Code}
theorem v3 {t e sz by_:Nat} {zs:List Value} {ps:Array (Nat×Operand)} {x:Operand} {ax:AV} {as:List AV} {cs:List CI} {ids:List Nat} (G:Good P tb) (nx':Nat) (hn':Nat.beq nx' (Nat.succ nx)=true) (hd:o.dst=some d) (hlt:Nat.blt d nt=true) (ho:o.op=.buildSlice t 1 ps) (hps:ps.toList=[(0,x)]) (ht:look t tb=some (.slice e sz by_ zs))
 (hx:ev T x=some ax) (hv:C6 ax=some as) (hA:Absorb m as cs ids) (hnd:nodupB ids=true) (h1:X4 m as=true) (hsz:Nat.beq cs.length sz=true) (hbig:Nat.ble sz 16777216=true)
 (hk:WL P w0 ops rest ⟨(d,.own nx) :: T,(nx,some (.nest e sz [cs] [])) :: a39 ids m,nx',nt⟩ Q):WX P w0 ops o rest ⟨T,m,nx,nt⟩ Q:=by
 have hn'':=Nat.eq_of_beq_eq_true hn'
 subst hn''
 intro ρ a w hT hC
 obtain ⟨h2,h3⟩:=P4 hC hv h1 (hT.ev hx)
 obtain ⟨hul,hone,hCI,hown,hinj⟩:=hA.spec hC hnd h2
 have hsz':cs.length=sz:=Nat.eq_of_beq_eq_true hsz
 have hbig':=Nat.le_of_ble_eq_true hbig
 let us:=(a.eval x).cells.toList
 have hus:us.length=sz:=by rw [← hsz'];exact hul
 have hrun:=U5 (G t _ ht) [a.eval x] (fun v hv=>by simp at hv;subst hv;simpa [us] using hus) (by simpa using hbig') w
 have hr:(execOp a.eval o).run P w=.ok (.value (.slice (some ⟨w.heap.size,0,none⟩) 1 1)) (w.alloc (.cells us.toArray e)):=by
  have hps':(Array.map (fun x=>match x with | (i,x)=>(i,a.eval x)) ps)=(([a.eval x].zipIdx 0).map fun p=>(p.2,p.1)).toArray:=by
   apply Array.ext'
   rw [Array.toList_map,hps]
   simp
  have e1:([a.eval x].map (·.cells.toList)).flatten=us:=by simp [us]
  rw [e1] at hrun
  simp only [execOp,ho,hps',Sem.run_bind]
  have:(Instr.buildSlice t 1 (List.map (fun p:Value×Nat=>(p.2,p.1)) ([a.eval x].zipIdx)).toArray).run P w=_:=hrun
  rw [this]
  simp
 unfold Oper.wp
 rw [hr,Oper.upon_value,hd]
 have hsub:=hC.sub (m':=a39 ids m) fun i r hr=>(a1K hr).2
 have hb:Below w.heap.size w (w.alloc (.cells us.toArray e)):=(Below.refl _ _).alloc (Nat.le_refl _) _
 have hC2:=hsub.trans hb
 generalize hw':w.alloc (.cells us.toArray e)=w' at *
 have hnew:w'.heap[w.heap.size]?=some (.cells us.toArray e (0,0)):=by rw [← hw'];exact Go.heap_alloc_new w _
 let y:Value:=.slice (some ⟨w.heap.size,0,none⟩) 1 1
 obtain ⟨_,_,iz,z,_,_,_,_,_,_,hpos,_⟩:=G t _ ht
 have hownsz:w'.ownsRow w0.w.heap.size e sz y [cs].length [us].flatten:=by
  refine ⟨by simp [hus],.inr ⟨w.heap.size,1,us.toArray,rfl,hC.below.size,hnew,Nat.le_refl _,by unfold maxLen;omega,by simp [hus],by simp [← hus]⟩⟩
 have hng:∀ i k c,z5 [cs] i k=some c→i=0∧cs[k]?=some c:=fun i k c h=>by
  obtain ⟨cs',h1,h2⟩:=s8.1 h
  cases i with
  | zero=>simp at h1;subst h1;exact ⟨rfl,h2⟩
  | succ i=>simp at h1
 have hNC:NestC w0.w.heap.size w' y e sz [cs] [us]:=by
  refine ⟨hownsz,rfl,fun c hc=>by simp at hc;subst hc;exact ⟨hus,hone⟩,fun c hc=>by simp at hc;subst hc;exact hsz',fun i k c hc=>?_⟩
  obtain ⟨rfl,hc⟩:=hng i k c hc
  obtain ⟨u,q1,q2⟩:=hCI k c hc
  refine ⟨u,by simp only [z5,List.getElem?_cons_zero,Option.bind_some];exact q1,q2.frame ?_⟩
  rintro ⟨e',s',ys,f',rfl⟩ b' hb'
  obtain ⟨i0,r0,z1,z2,z3⟩:=hown _ b' ⟨⟨_,_,_,_,hc⟩,u,q1,hb'⟩
  exact hb.block b' (hC.lt z2 z3)
 have hwas:∀ p b',B4 w' y sz [cs] p=some b'→p.1=0∧a0e ρ m ids cs us p.2 b':=fun p b' hb'=>by
  obtain ⟨e',s',ys,f',u,q1,q2,q3,_,_⟩:=hNC.inn hb'
  obtain ⟨h0,q1⟩:=hng _ _ _ q1
  rw [h0] at q2
  exact ⟨h0,⟨_,_,_,_,q1⟩,u,by simpa [z5] using q2,q3⟩
 refine hk (upd ρ nx y) _ _ ((hT.add _).put hlt (by simp only [RelV];exact ⟨by omega,by rw [k9]⟩)) (hC2.add ?_ (fun b' hb'=>?_) (fun p b' hb'=>?_))
 ·refine ⟨[us],by rw [k9];exact hNC,fun q hq=>by cases hq⟩
 ·rcases hb' with hb' | ⟨p,hb'⟩
  ·have hbw:b'=w.heap.size:=by simp [y,blk] at hb';exact hb'.symm
   refine ⟨fun i r hr hf=>?_,?_⟩
   ·have:=hsub.foot_lt hr (hsub.foot_trans hb hr hf);omega
   ·rw [hbw];exact hC.fresh (Nat.le_refl _)
  ·obtain ⟨_,h⟩:=hwas p b' hb'
   obtain ⟨i0,r0,z1,z2,z3⟩:=hown _ b' h
   refine ⟨fun i r hr hf=>?_,hC.kept.2.2 i0 r0 z2 b' z3⟩
   obtain ⟨g1,g2⟩:=a1K hr
   exact hC.foot_apart g2 z2 (fun e0=>g1 (e0▸z1)) (hsub.foot_trans hb hr hf) (.inl z3)
 ·obtain ⟨h0,h⟩:=hwas p b' hb'
  obtain ⟨i0,r0,z1,z2,z3⟩:=hown _ b' h
  refine ⟨fun hby=>?_,fun p' hp'=>?_⟩
  ·have hbw:b'=w.heap.size:=by simp [y,blk] at hby;exact hby.symm
   have:=hC.lt z2 z3
   omega
  ·obtain ⟨h0',h'⟩:=hwas p' b' hp'
   exact Prod.ext (by rw [h0,h0']) (hinj _ _ b' h h')
theorem N1 {α:Type} {l l':List (List α)} {i k:Nat}:z5 (l++l') i k=if i < l.length then z5 l i k else z5 l' (i - l.length) k:=by
 unfold z5
 by_cases h:i < l.length
 ·rw [if_pos h,List.getElem?_append_left h]
 ·rw [if_neg h,List.getElem?_append_right (by omega)]
theorem s5 {t e sz by_ id id2:Nat} {zs:List Value} {x y:Operand} {yss uss:List (List CI)} {op:List (Nat×Nat×Nat)} {T':List (Nat×AV)} (G:Good P tb) (hp:w0.n0≤id) (hd:o.dst=some d) (hlt:Nat.blt d nt=true) (ho:o.op=.call { callee:=.builtin .append,args:=#[x,y],argTypes:=#[t,t] })
 (ht:look t tb=some (.slice e sz by_ zs)) (hx:ev T x=some (.own id)) (hm:mem m id=some (.nest e sz yss op)) (hy:ev T y=some (.own id2)) (hm2:mem m id2=some (.nest e sz uss [])) (hne:Nat.beq id id2=false) (hby:Nat.blt 0 by_=true) (hbytes:(yss.length+uss.length) * by_≤140737488355328)
 (hf:freeM id m=true) (hT':a1Y id T [] []=some T')
 (hk:WL P w0 ops rest ⟨(d,.own id) :: T',(id2,none) :: (id,some (.nest e sz (yss++uss) op)) :: m,nx,nt⟩ Q):WX P w0 ops o rest ⟨T,m,nx,nt⟩ Q:=by
 intro ρ a w hT hC
 have h1:=hT.ev hx
 have h2:=hT.ev hy
 simp only [RelV] at h1 h2
 obtain ⟨hltid,cells,hN,hop⟩:=hC.nestC hm
 obtain ⟨_,cells2,hN2,_⟩:=hC.nestC hm2
 have hne':id≠id2:=H3 hne
 have hreads:ReadsAt w sz cells2 (ρ id2):=a7S (by rw [hN2.2.1];exact hN2.1) hN2.2.2.1
 obtain ⟨v',w',hrun,hown,hgr,hat⟩:=a0b (ty:=o.type) (G t _ ht) hN.1 hreads (by rw [hN2.2.1];exact hbytes) (Nat.le_of_ble_eq_true hby) hC.below.size
 rw [hN2.2.1,← List.flatten_append,← List.length_append] at hown
 have hr2:(execOp a.eval o).run P w=.ok (.value v') w':=by
  simp only [execOp,ho,resolve,invoke,builtin,Sem.run_bind,Sem.run_pure,Result.andThen_ok,List.map_toArray,List.map_cons,List.map_nil,h1.2,h2.2,hrun]
 unfold Oper.wp
 rw [hr2,Oper.upon_value,hd]
 have hfr:∀ b,(∃ i r,mem m i=some r∧i≠id∧J1 w (ρ i) r b)∨(∃ p,B4 w (ρ id) sz yss p=some b)→w'.heap[b]?=w.heap[b]?:=fun b hb=>by
  rcases hb with ⟨i,r,q1,q2,q3⟩ | ⟨p,q⟩
  ·refine hgr.block b (hC.foot_lt q1 q3) fun e0=>?_
   exact hC.foot_apart q1 hm q2 q3 (.inl (by rw [hN.blkOwn];exact e0.symm))
  ·have q':inn w (ρ id) (.nest e sz yss op) p=some b:=q
   refine hgr.block b (hC.inner id _ hm p b q').2.2.1 fun e0=>?_
   exact hC.blkne hm hm q' (by rw [hN.blkOwn];exact e0.symm)
 have hcl:cells.length=yss.length:=hN.2.1
 have hNC:NestC w0.w.heap.size w' v' e sz (yss++uss) (cells++cells2):=by
  refine ⟨hown,by simp [hN.2.1,hN2.2.1],fun c hc=>?_,fun c hc=>?_,fun i k c hc=>?_⟩
  ·rcases List.mem_append.1 hc with hc | hc
   ·exact hN.2.2.1 c hc
   ·exact hN2.2.2.1 c hc
  ·rcases List.mem_append.1 hc with hc | hc
   ·exact hN.2.2.2.1 c hc
   ·exact hN2.2.2.2.1 c hc
  ·rw [N1] at hc
   rw [N1,hcl]
   by_cases hi:i < yss.length
   ·rw [if_pos hi] at hc ⊢
    obtain ⟨u,q1,q2⟩:=hN.2.2.2.2 i k c hc
    refine ⟨u,q1,q2.frame ?_⟩
    rintro ⟨e',s',ys,f',rfl⟩ b' hb'
    obtain ⟨u',q3,_,q5⟩:=hN.at hc
    rw [q1] at q3;cases q3
    exact hfr b' (.inr ⟨(i,k),by rw [q5];exact hb'⟩)
   ·rw [if_neg hi] at hc ⊢
    obtain ⟨u,q1,q2⟩:=hN2.2.2.2.2 _ k c hc
    refine ⟨u,q1,q2.frame ?_⟩
    rintro ⟨e',s',ys,f',rfl⟩ b' hb'
    obtain ⟨u',q3,_,q5⟩:=hN2.at hc
    rw [q1] at q3;cases q3
    exact hfr b' (.inl ⟨id2,_,hm2,Ne.symm hne',.inr ⟨(i - yss.length,k),by rw [a40,q5];exact hb'⟩⟩)
 have hwas:∀ p b,B4 w' v' sz (yss++uss) p=some b→(p.1 < yss.length∧B4 w (ρ id) sz yss p=some b)∨(yss.length≤p.1∧B4 w (ρ id2) sz uss (p.1 - yss.length,p.2)=some b):=fun p b hb=>by
  obtain ⟨e',s',ys,f',u,q1,q2,q3,_,_⟩:=hNC.inn hb
  rw [N1] at q1
  rw [N1,hcl] at q2
  by_cases hi:p.1 < yss.length
  ·rw [if_pos hi] at q1 q2
   obtain ⟨u',z1,_,z3⟩:=hN.at q1
   rw [q2] at z1;cases z1
   exact .inl ⟨hi,by rw [z3];exact q3⟩
  ·rw [if_neg hi] at q1 q2
   obtain ⟨u',z1,_,z3⟩:=hN2.at q1
   rw [q2] at z1;cases z1
   exact .inr ⟨by omega,by rw [z3];exact q3⟩
 refine hk (upd ρ id v') _ _ (RelT.put ⟨fun t' x' hx'=>?_,hT.size,hT.defers⟩ hlt (by simp only [RelV];exact ⟨h1.1,by rw [k9]⟩)) ?_
 ·rw [a2F] at hT'
  cases hT'
  rcases L7 _ _ _ _ _ hx' (by simp) with h2 | ⟨_,h2,h3⟩
  ·simp [look] at h2
  ·exact RelV.upd _ h3 (hT.tmps t' x' h2)
 ·refine hC.renest (ids:=[id2]) (row':=.nest e sz (yss++uss) op) (.inl hp) hm (.inl hf) hN.blkOwn hNC.blkOwn (by simpa using hne') hgr hat ?_ (fun p b hb=>?_) (fun p p' b hb hb'=>?_)
  ·refine ⟨_,by rw [k9];exact hNC,fun q hq=>?_⟩
   obtain ⟨q1,q2,q3⟩:=hop q hq
   have hi:q.1 < yss.length:=by
    obtain ⟨cs,z1,_⟩:=s8.1 q2
    exact (List.getElem?_eq_some_iff.1 z1).1
   refine ⟨q1,by rw [N1,if_pos hi];exact q2,?_⟩
   rw [N1,hcl,if_pos hi,l7 _ _ (U6 ((M7 hf hm).2 _ _ _ _ rfl) q hq)]
   exact q3
  ·rcases hwas p b hb with ⟨_,h⟩ | ⟨_,h⟩
   ·exact .inl ⟨p,h⟩
   ·exact .inr ⟨id2,_,by simp,hm2,.inr ⟨_,h⟩⟩
  ·have hx:∀ p p',B4 w (ρ id) sz yss p=some b→B4 w (ρ id2) sz uss p'=some b→False:=fun p p' h h'=>hC.foot_apart hm hm2 hne' (.inr ⟨p,h⟩) (.inr ⟨p',h'⟩)
   rcases hwas p b hb with ⟨g1,h⟩ | ⟨g1,h⟩<;>rcases hwas p' b hb' with ⟨g2,h'⟩ | ⟨g2,h'⟩
   ·exact ((hC.inner id _ hm p b h).2.2.2 id _ hm).2 p' h' |>.2
   ·exact (hx _ _ h h').elim
   ·exact (hx _ _ h' h).elim
   ·have:=((hC.inner id2 _ hm2 _ b h).2.2.2 id2 _ hm2).2 _ h' |>.2
    simp only [Prod.mk.injEq] at this
    exact Prod.ext (by omega) this.2
theorem u2 {id e sz:Nat} {yss yss':List (List CI)} (h:mem m id=some (.nest e sz yss' [])) (hy:yss'=yss):RCOK m (.own id) (.ne e sz yss):=by subst hy;exact h
theorem H0 {e sz:Nat} {yss:List (List CI)} (h:[]=yss):RCOK m (.v (.slice none 0 0)) (.ne e sz yss):=⟨rfl,h.symm⟩
theorem P7 {z u:Value} {sz:Nat} {ys:List (List Value)} (h:z=u):RCOK m (.pin z sz ys) (.v u):=by subst h;rfl
theorem a8L {z u:Value} {sz:Nat} {yss:List (List CI)} (h:z=u):RCOK m (.nst (some z) sz yss) (.v u):=by subst h;rfl
theorem l6 {rs:List ResultVar} {S:St} {xs ls:List AV} {single:Bool} {sh:List (Option Nat)} {cs:List RC} (h:O9 tb S rs []=some xs) (hl:Nat.beq xs.length 1=single) (hf:flA sh xs []=some ls) (hn:nodupB (L8 ls [])=true) (hx:RCOKs S.m ls cs):Fin tb rs (.shp single sh cs) .ret S:=⟨_,h,ls,hf,hx,hl,hn⟩
end
section
variable {P:Program} [Env P] {w0:Base} {ops:Array Oper} {tb:List (Nat×TyI)} {o:Oper} {rest:List Oper} {T:List (Nat×AV)} {m m':List (Nat×Option Row)} {nx nt d:Nat} {Q:Exit→St→Prop} {c:Code}
theorem E0 {z:Value} {sz:Nat} {ys:List (List Value)} (h:QStep P o T m nx nt (.pin z sz ys)):QStep P o T m nx nt (.lst sz ys):=fun w0 _ ρ a w hT hC=>by
 obtain ⟨y,h1,h2⟩:=h w0 ρ a w hT hC
 simp only [RelV] at h1
 exact ⟨y,by simp only [RelV];exact h1.2,h2⟩
theorem a1e {z:Option Value} {sz:Nat} {yss:List (List CI)} (h:QStep P o T m nx nt (.nst z sz yss)):QStep P o T m nx nt (.nst none sz yss):=fun w0 _ ρ a w hT hC=>by
 obtain ⟨y,h1,h2⟩:=h w0 ρ a w hT hC
 simp only [RelV] at h1
 exact ⟨y,by simp only [RelV];exact ⟨fun v hv=>(by cases hv),h1.2⟩,h2⟩
def a2O:List AV→(Nat→Value)→Nat→List AV→Option (List AV)
 | [],_,_,acc=>a0Z acc []
 | .lst sz ys :: r,u,k,acc=>a2O r u (Nat.succ k) (.pin (u k) sz ys :: acc)
 | .nst _ sz yss :: r,u,k,acc=>a2O r u (Nat.succ k) (.nst (some (u k)) sz yss :: acc)
 | x :: r,u,k,acc=>a2O r u (Nat.succ k) (x :: acc)
theorem a3A {w0:World} {ρ:Nat→Value} {nx:Nat} {u:Nat→Value}:∀ {cs:List AV} {us:List Value} {k:Nat} {acc rs:List AV} {acc':List Value},a2O cs u k acc=some rs→RelVs w0 ρ nx cs us→(∀ j y,us[j]?=some y→u (k+j)=y)→RelVs w0 ρ nx acc.reverse acc'→RelVs w0 ρ nx rs (acc'++us)
 | [],us,k,acc,rs,acc',h,hr,_,ha=>by
  simp [a2O,E2] at h
  simp only [RelVs] at hr
  subst h;subst hr
  simpa using ha
 | x :: cs,_,k,acc,rs,acc',h,hr,hu,ha=>by
  simp only [RelVs] at hr
  obtain ⟨y,us,rfl,h1,h2⟩:=hr
  have h0:u k=y:=by simpa using hu 0 y rfl
  have key:∀ (a:AV),RelV w0 ρ nx a y→a2O cs u (Nat.succ k) (a :: acc)=some rs→RelVs w0 ρ nx rs (acc'++y :: us):=fun a hy h'=>by
   have:=a3A h' h2 (fun j y hj=>by rw [show Nat.succ k+j=k+(j+1) by omega];exact hu (j+1) y (by simpa using hj)) (acc':=acc'++[y]) (by
    rw [List.reverse_cons]
    refine RelVs.append _ ha ?_
    simp only [RelVs]
    exact ⟨_,_,rfl,hy,rfl⟩)
   simpa using this
  cases x<;>simp only [a2O] at h
  case lst sz ys=>exact key _ (by simp only [RelV] at h1 ⊢;exact ⟨h0.symm,h1⟩) h
  case nst z sz ys=>exact key _ (by simp only [RelV] at h1 ⊢;exact ⟨fun v hv=>by cases hv;exact h0.symm,h1.2⟩) h
  all_goals exact key _ h1 h
theorem r8 (t:Nat) {cs:List AV} (ht:look t T=some (.agg cs)) {rs:(Nat→Value)→List AV} (hr:∀ u,a2O cs u 0 []=some (rs u)) (h:∀ u,W P w0 c ⟨(t,.agg (rs u)) :: T,m,nx,nt⟩ Q):W P w0 c ⟨T,m,nx,nt⟩ Q:=by
 intro ρ a w hT hC
 have h1:=hT.tmps t _ ht
 simp only [RelV] at h1
 obtain ⟨us,he,h1⟩:=h1
 let u:Nat→Value:=fun i=>us.getD i undef
 refine h u ρ a w ⟨fun i x hi=>?_,hT.size,hT.defers⟩ hC
 by_cases e:i=t
 ·subst e
  rw [n9] at hi
  cases hi
  simp only [RelV]
  exact ⟨us,he,by simpa using a3A (acc':=[]) (hr u) h1 (fun j y hj=>by simp only [u,Nat.zero_add,List.getD_eq_getElem?_getD,hj,Option.getD_some]) (by simp [RelVs])⟩
 ·rw [j7 (fun e'=>e e'.symm)] at hi
  exact hT.tmps i x hi
mutual
def sbA (a b:Nat):AV→AV
 | .own i=>.own (bif Nat.beq i a then b else i)
 | .sub i sz k n=>.sub (bif Nat.beq i a then b else i) sz k n
 | .ptr i o=>.ptr (bif Nat.beq i a then b else i) o
 | .rpt i sz k j=>.rpt (bif Nat.beq i a then b else i) sz k j
 | .agg cs=>.agg (a41 a b cs)
 | .tup cs=>.tup (a41 a b cs)
 | .fnc f cs=>.fnc f (a41 a b cs)
 | .eptN cs=>.eptN (a41 a b cs)
 | .v x=>.v x
 | .lst sz ys=>.lst sz ys
 | .pin z sz ys=>.pin z sz ys
 | .ept cs=>.ept cs
 | .nst z sz yss=>.nst z sz yss
 | .any=>.any
def a41 (a b:Nat):List AV→List AV
 | []=>[]
 | c :: cs=>sbA a b c :: a41 a b cs
end
mutual
theorem RelV.sb {w0:World} {ρ:Nat→Value} {nx a b:Nat} (hb:b < nx):∀ (x:AV) {y:Value},ment b x=false→RelV w0 ρ nx x y→RelV w0 (upd ρ b (ρ a)) nx (sbA a b x) y
 | .own i,_,hm,h=>by
  simp only [ment] at hm
  simp only [RelV,sbA] at h ⊢
  cases e:Nat.beq i a with
  | true=>have:=Nat.eq_of_beq_eq_true e;subst this;simp only [cond_true];exact ⟨hb,by rw [k9];exact h.2⟩
  | false=>simp only [cond_false];rw [l7 _ _ (H3 hm)];exact h
 | .sub i sz k n,_,hm,h=>by
  simp only [ment] at hm
  simp only [RelV,sbA] at h ⊢
  cases e:Nat.beq i a with
  | true=>have:=Nat.eq_of_beq_eq_true e;subst this;simp only [cond_true];rw [k9];exact ⟨hb,h.2⟩
  | false=>simp only [cond_false];rw [l7 _ _ (H3 hm)];exact h
 | .ptr i o,_,hm,h=>by
  simp only [ment] at hm
  simp only [RelV,sbA] at h ⊢
  cases e:Nat.beq i a with
  | true=>have:=Nat.eq_of_beq_eq_true e;subst this;simp only [cond_true];rw [k9];exact ⟨hb,h.2⟩
  | false=>simp only [cond_false];rw [l7 _ _ (H3 hm)];exact h
 | .rpt i sz k j,_,hm,h=>by
  simp only [ment] at hm
  simp only [RelV,sbA] at h ⊢
  cases e:Nat.beq i a with
  | true=>have:=Nat.eq_of_beq_eq_true e;subst this;simp only [cond_true];rw [k9];exact ⟨hb,h.2⟩
  | false=>simp only [cond_false];rw [l7 _ _ (H3 hm)];exact h
 | .agg cs,_,hm,h=>by
  simp only [ment] at hm
  simp only [RelV,sbA] at h ⊢
  obtain ⟨ys,e,h⟩:=h
  exact ⟨ys,e,RelVs.sb hb cs hm h⟩
 | .tup cs,_,hm,h=>by
  simp only [ment] at hm
  simp only [RelV,sbA] at h ⊢
  obtain ⟨ys,e,h⟩:=h
  exact ⟨ys,e,RelVs.sb hb cs hm h⟩
 | .fnc _ cs,_,hm,h=>by
  simp only [ment] at hm
  simp only [RelV,sbA] at h ⊢
  obtain ⟨ys,e,h⟩:=h
  exact ⟨ys,e,RelVs.sb hb cs hm h⟩
 | .eptN cs,_,hm,h=>by
  simp only [ment] at hm
  simp only [RelV,sbA] at h ⊢
  obtain ⟨ad,us,e,hlt,h,h2⟩:=h
  exact ⟨ad,us,e,hlt,RelVs.sb hb cs hm h,h2⟩
 | .v _,_,_,h=>h
 | .lst _ _,_,_,h=>h
 | .pin _ _ _,_,_,h=>h
 | .ept _,_,_,h=>h
 | .nst _ _ _,_,_,h=>h
 | .any,_,_,h=>h
theorem RelVs.sb {w0:World} {ρ:Nat→Value} {nx a b:Nat} (hb:b < nx):∀ (x:List AV) {y:List Value},R9 b x=false→RelVs w0 ρ nx x y→RelVs w0 (upd ρ b (ρ a)) nx (a41 a b x) y
 | [],_,_,h=>h
 | c :: cs,_,hm,h=>by
  simp only [R9,Bool.or_eq_false_iff] at hm
  simp only [RelVs,a41] at h ⊢
  obtain ⟨y,ys,e,h1,h2⟩:=h
  exact ⟨y,ys,e,RelV.sb hb c hm.1 h1,RelVs.sb hb cs hm.2 h2⟩
end
def sbO (a b:Nat):List (Nat×Nat×Nat)→List (Nat×Nat×Nat)
 | []=>[]
 | q :: r=>(q.1,q.2.1,bif Nat.beq q.2.2 a then b else q.2.2) :: sbO a b r
def sbR (a b:Nat):Row→Row
 | .box cs=>.box (a41 a b cs)
 | .nest e sz yss op=>.nest e sz yss (sbO a b op)
 | r=>r
def a2P (b:Nat):Row→Bool
 | .box cs=>R9 b cs
 | .nest _ _ _ op=>a1b b op
 | _=>false
theorem a8M {a b:Nat}:∀ {op:List (Nat×Nat×Nat)} {q:Nat×Nat×Nat},q∈sbO a b op→∃ p∈op,q.1=p.1∧q.2.1=p.2.1∧q.2.2=(bif Nat.beq p.2.2 a then b else p.2.2)
 | [],q,h=>by cases h
 | p :: r,q,h=>by
  simp only [sbO] at h
  rcases List.mem_cons.1 h with rfl | h
  ·exact ⟨p,by simp,rfl,rfl,rfl⟩
  ·obtain ⟨p',h1,h2⟩:=a8M h
   exact ⟨p',by simp [h1],h2⟩
theorem b0i {w:World} {y:Value} {a b:Nat} {r:Row} {p:Nat×Nat}:inn w y (sbR a b r) p=inn w y r p:=by cases r<;>rfl
theorem RowRel.sb {ρ:Nat→Value} {w:World} {a b i j:Nat} {r:Row} (hb:b < nx) (hm:a2P b r=false) (hj:upd ρ b (ρ a) j=ρ i) (h:RowRel w0 ρ nx w i r):RowRel w0 (upd ρ b (ρ a)) nx w j (sbR a b r):=by
 cases r with
 | box cs =>
  obtain ⟨bb,cur,ty,h3,h4,h5,h6,h7⟩:=h
  exact ⟨bb,cur,ty,by rw [hj];exact h3,h4,h5,RelVs.sb hb cs hm h6,h7⟩
 | spare e sz ys gs=>simp only [sbR,RowRel] at h ⊢;rw [hj];exact h
 | byt bs=>simp only [sbR,RowRel] at h ⊢;rw [hj];exact h
 | row e sz ys f=>simp only [sbR,RowRel] at h ⊢;rw [hj];exact h
 | nest e sz yss op =>
  obtain ⟨cells,h1,h2⟩:=h
  refine ⟨cells,by rw [hj];exact h1,fun q hq=>?_⟩
  obtain ⟨p,g1,g2,g3,g4⟩:=a8M hq
  obtain ⟨k1,k2,k3⟩:=h2 p g1
  have hpb:=U6 (op:=op) hm p g1
  rw [g2,g3,g4]
  cases e':Nat.beq p.2.2 a with
  | true=>have:=Nat.eq_of_beq_eq_true e';simp only [cond_true];exact ⟨hb,k2,by rw [k9,← this];exact k3⟩
  | false=>simp only [cond_false];exact ⟨k1,k2,by rw [l7 _ _ hpb];exact k3⟩
mutual
def sbK {β:Type} (a b:Nat):AV→(AV→β)→β
 | .own i,k=>bif Nat.beq i a then k (.own b) else k (.own i)
 | .sub i sz j n,k=>bif Nat.beq i a then k (.sub b sz j n) else k (.sub i sz j n)
 | .ptr i o,k=>bif Nat.beq i a then k (.ptr b o) else k (.ptr i o)
 | .rpt i sz j q,k=>bif Nat.beq i a then k (.rpt b sz j q) else k (.rpt i sz j q)
 | .agg cs,k=>a6u a b cs [] (fun cs'=>k (.agg cs'))
 | .tup cs,k=>a6u a b cs [] (fun cs'=>k (.tup cs'))
 | .fnc f cs,k=>a6u a b cs [] (fun cs'=>k (.fnc f cs'))
 | .eptN cs,k=>a6u a b cs [] (fun cs'=>k (.eptN cs'))
 | .v x,k=>k (.v x)
 | .lst sz ys,k=>k (.lst sz ys)
 | .pin z sz ys,k=>k (.pin z sz ys)
 | .ept cs,k=>k (.ept cs)
 | .nst z sz yss,k=>k (.nst z sz yss)
 | .any,k=>k .any
def a6u {β:Type} (a b:Nat):List AV→List AV→(List AV→β)→β
 | [],acc,k=>a6Z acc [] k
 | c :: cs,acc,k=>sbK a b c (fun c'=>a6u a b cs (c' :: acc) k)
end
mutual
theorem b0j {β:Type} {a b:Nat}:∀ (x:AV) (k:AV→β),sbK a b x k=k (sbA a b x)
 | .own i,k=>by simp only [sbK,sbA];cases Nat.beq i a<;>rfl
 | .sub i _ _ _,k=>by simp only [sbK,sbA];cases Nat.beq i a<;>rfl
 | .ptr i _,k=>by simp only [sbK,sbA];cases Nat.beq i a<;>rfl
 | .rpt i _ _ _,k=>by simp only [sbK,sbA];cases Nat.beq i a<;>rfl
 | .agg cs,k=>by simp only [sbK,sbA,a1L cs,List.reverse_nil,List.nil_append]
 | .tup cs,k=>by simp only [sbK,sbA,a1L cs,List.reverse_nil,List.nil_append]
 | .fnc f cs,k=>by simp only [sbK,sbA,a1L cs,List.reverse_nil,List.nil_append]
 | .eptN cs,k=>by simp only [sbK,sbA,a1L cs,List.reverse_nil,List.nil_append]
 | .v _,k=>rfl
 | .lst _ _,k=>rfl
 | .pin _ _ _,k=>rfl
 | .ept _,k=>rfl
 | .nst _ _ _,k=>rfl
 | .any,k=>rfl
theorem a1L {β:Type} {a b:Nat}:∀ (x acc:List AV) (k:List AV→β),a6u a b x acc k=k (acc.reverse++a41 a b x)
 | [],acc,k=>by simp [a6u,a41,a1G]
 | c :: cs,acc,k=>by simp only [a6u,a41,b0j c,a1L cs,List.reverse_cons,List.append_assoc,List.cons_append,List.nil_append]
end
def sbT (a b:Nat):List (Nat×AV)→List Nat→List (Nat×AV)→Option (List (Nat×AV))
 | [],_,acc=>some acc
 | (t,x) :: r,seen,acc=>bif has t seen then sbT a b r seen acc else bif ment b x then sbT a b r (t :: seen) acc else sbK a b x (fun x'=>sbT a b r (t :: seen) ((t,x') :: acc))
def a9B {β:Type} (a b:Nat):List (Nat×Nat×Nat)→List (Nat×Nat×Nat)→(List (Nat×Nat×Nat)→β)→β
 | [],acc,k=>a6Z acc [] k
 | (i,j,n) :: r,acc,k=>bif Nat.beq n a then a9B a b r ((i,j,b) :: acc) k else a9B a b r ((i,j,n) :: acc) k
theorem a8N {β:Type} {a b:Nat}:∀ (op acc:List (Nat×Nat×Nat)) (k:List (Nat×Nat×Nat)→β),a9B a b op acc k=k (acc.reverse++sbO a b op)
 | [],acc,k=>by simp [a9B,sbO,a1G]
 | (i,j,n) :: r,acc,k=>by
  simp only [a9B,sbO,a8N r]
  cases Nat.beq n a<;>simp
def b2L {β:Type} (a b:Nat):Row→(Row→β)→β
 | .box cs,k=>a6u a b cs [] (fun cs'=>k (.box cs'))
 | .nest e sz yss op,k=>a9B a b op [] (fun op'=>k (.nest e sz yss op'))
 | .row e sz ys f,k=>k (.row e sz ys f)
 | .byt bs,k=>k (.byt bs)
 | .spare e sz ys gs,k=>k (.spare e sz ys gs)
theorem b1w {β:Type} {a b:Nat} (r:Row) (k:Row→β):b2L a b r k=k (sbR a b r):=by
 cases r<;>simp [b2L,sbR,a1L,a8N]
def sbM (a b:Nat):List (Nat×Option Row)→List Nat→List (Nat×Option Row)→Option (List (Nat×Option Row))
 | [],_,acc=>a0Z acc []
 | (i,none) :: r,seen,acc=>sbM a b r (i :: seen) acc
 | (i,some row) :: r,seen,acc=>bif has i seen then sbM a b r seen acc else bif Nat.beq i b then sbM a b r (i :: seen) acc else bif a2P b row then none
  else b2L a b row (fun row'=>bif Nat.beq i a then sbM a b r (i :: seen) ((b,some row') :: acc) else sbM a b r (i :: seen) ((i,some row') :: acc))
theorem V0 {k:Nat} {l:List Nat}:has k l=true↔k∈l:=⟨L7.has_mem,U9⟩
theorem a2Q {a b:Nat}:∀ {l:List (Nat×AV)} {seen:List Nat} {acc T':List (Nat×AV)},sbT a b l seen acc=some T'→(∀ p∈acc,p.1∈seen)→∀ {t:Nat} {x:AV},look t T'=some x→look t acc=some x∨(t∉seen∧∃ x0,look t l=some x0∧ment b x0=false∧x=sbA a b x0)
 | [],seen,acc,T',h,_,t,x,hx=>by simp [sbT] at h;subst h;exact .inl hx
 | (t',x') :: r,seen,acc,T',h,hs,t,x,hx=>by
  simp only [sbT] at h
  cases h1:has t' seen with
  | true =>
   simp only [h1,cond_true] at h
   rcases a2Q h hs hx with h2 | ⟨h2,x0,h3,h4⟩
   ·exact .inl h2
   ·refine .inr ⟨h2,x0,?_,h4⟩
    rw [j7 (fun e=>by subst e;exact h2 (V0.1 h1))];exact h3
  | false =>
   simp only [h1,cond_false] at h
   have hns:t'∉seen:=fun hm=>by rw [V0.2 hm] at h1;cases h1
   cases h2:ment b x' with
   | true =>
    simp only [h2,cond_true] at h
    rcases a2Q h (fun p hp=>List.mem_cons_of_mem _ (hs p hp)) hx with h3 | ⟨h3,x0,h4,h5⟩
    ·exact .inl h3
    ·simp at h3
     refine .inr ⟨h3.2,x0,?_,h5⟩
     rw [j7 (fun e=>h3.1 e.symm)];exact h4
   | false =>
    simp only [h2,cond_false,b0j] at h
    rcases a2Q h (fun p hp=>by
     rcases List.mem_cons.1 hp with rfl | hp
     ·simp
     ·exact List.mem_cons_of_mem _ (hs p hp)) hx with h3 | ⟨h3,x0,h4,h5⟩
    ·by_cases e:t'=t
     ·subst e
      rw [n9] at h3
      cases h3
      exact .inr ⟨hns,x',n9 _ _ _,h2,rfl⟩
     ·rw [j7 e] at h3
      exact .inl h3
    ·simp at h3
     refine .inr ⟨h3.2,x0,?_,h5⟩
     rw [j7 (fun e=>h3.1 e.symm)];exact h4
def b2M (a b:Nat) (l:List (Nat×Option Row)) (seen:List Nat) (i:Nat) (r:Row):Prop :=
 ∃ j r0,j∉seen∧mem l j=some r0∧j≠b∧((j=a∧i=b)∨(j≠a∧i=j))∧a2P b r0=false∧r=sbR a b r0
theorem a0f {a b:Nat}:∀ {l:List (Nat×Option Row)} {seen:List Nat} {acc m':List (Nat×Option Row)},sbM a b l seen acc=some m'→∀ {i:Nat} {r:Row},(i,some r)∈m'→(i,some r)∈acc∨b2M a b l seen i r
 | [],seen,acc,m',h,i,r,hx=>by
  simp [sbM,E2] at h
  subst h
  exact .inl (by simpa using hx)
 | (j,none) :: l,seen,acc,m',h,i,r,hx=>by
  simp only [sbM] at h
  rcases a0f h hx with h1 | ⟨j',r0,h1,h2,h3⟩
  ·exact .inl h1
  ·simp at h1
   exact .inr ⟨j',r0,h1.2,by rw [d9 (fun e=>h1.1 e.symm)];exact h2,h3⟩
 | (j,some row) :: l,seen,acc,m',h,i,r,hx=>by
  simp only [sbM] at h
  cases h1:has j seen with
  | true =>
   simp only [h1,cond_true] at h
   rcases a0f h hx with h2 | ⟨j',r0,h2,h3,h4⟩
   ·exact .inl h2
   ·exact .inr ⟨j',r0,h2,by rw [d9 (fun e=>by subst e;exact h2 (V0.1 h1))];exact h3,h4⟩
  | false =>
   simp only [h1,cond_false] at h
   have hns:j∉seen:=fun hm=>by rw [V0.2 hm] at h1;cases h1
   have up:b2M a b l (j :: seen) i r→b2M a b ((j,some row) :: l) seen i r:=fun ⟨j',r0,h2,h3,h4⟩=>by
    simp at h2
    exact ⟨j',r0,h2.2,by rw [d9 (fun e=>h2.1 e.symm)];exact h3,h4⟩
   cases h2:Nat.beq j b with
   | true =>
    simp only [h2,cond_true] at h
    rcases a0f h hx with h3 | h3
    ·exact .inl h3
    ·exact .inr (up h3)
   | false =>
    simp only [h2,cond_false] at h
    cases h3:a2P b row with
    | true=>simp [h3] at h
    | false =>
     simp only [h3,cond_false,b1w] at h
     cases h4:Nat.beq j a with
     | true =>
      simp only [h4,cond_true] at h
      have hja:=Nat.eq_of_beq_eq_true h4
      rcases a0f h hx with h5 | h5
      ·rcases List.mem_cons.1 h5 with h5 | h5
       ·cases h5
        exact .inr ⟨j,row,hns,j8 _ _ _,H3 h2,.inl ⟨hja,rfl⟩,h3,rfl⟩
       ·exact .inl h5
      ·exact .inr (up h5)
     | false =>
      simp only [h4,cond_false] at h
      rcases a0f h hx with h5 | h5
      ·rcases List.mem_cons.1 h5 with h5 | h5
       ·cases h5
        exact .inr ⟨j,row,hns,j8 _ _ _,H3 h2,.inr ⟨H3 h4,rfl⟩,h3,rfl⟩
       ·exact .inl h5
      ·exact .inr (up h5)
theorem Gh.sub (a b:Nat) {T':List (Nat×AV)} (hp:w0.n0≤b) (hb:Nat.blt b nx=true) (hT':sbT a b T [] []=some T') (hM':sbM a b m [] []=some m'):Gh w0 ⟨T,m,nx,nt⟩ ⟨T',m',nx,nt⟩:=by
 intro ρ ac w hT hC
 have hb':b < nx:=Nat.le_of_ble_eq_true hb
 let ρ':=upd ρ b (ρ a)
 have hfrom:∀ i r,mem m' i=some r→∃ j r0,mem m j=some r0∧j≠b∧((j=a∧i=b)∨(j≠a∧i=j))∧a2P b r0=false∧r=sbR a b r0∧ρ' i=ρ j:=fun i r hr=>by
  rcases a0f hM' (a18 hr) with h | ⟨j,r0,_,h2,h3,h4,h5,h6⟩
  ·cases h
  ·refine ⟨j,r0,h2,h3,h4,h5,h6,?_⟩
   rcases h4 with ⟨e1,e2⟩ | ⟨e1,e2⟩
   ·subst e1;subst e2;exact k9 _ _ _
   ·subst e2;exact l7 _ _ h3
 have hinj:∀ {i i' j j':Nat},((j=a∧i=b)∨(j≠a∧i=j))→j≠b→((j'=a∧i'=b)∨(j'≠a∧i'=j'))→j'≠b→i≠i'→j≠j':=by
  intro i i' j j' h1 h2 h3 h4 hne e
  subst e
  rcases h1 with ⟨e1,e2⟩ | ⟨e1,e2⟩<;>rcases h3 with ⟨e3,e4⟩ | ⟨e3,e4⟩
  ·exact hne (by rw [e2,e4])
  ·exact e3 e1
  ·exact e1 e3
  ·exact hne (by rw [e2,e4])
 refine ⟨ρ',⟨fun t x hx=>?_,hT.size,hT.defers⟩,⟨fun i r hr=>?_,fun i i' r r' hr hr' hne bb hbb=>?_,hC.below,⟨hC.pin.1,fun i hi=>(l7 ρ _ (by omega)).trans (hC.pin.2 i hi)⟩,⟨hC.kept.1,hC.kept.2.1,fun i r hr bb hbb=>?_⟩,fun i r hr p bb hbb=>?_⟩⟩
 ·rcases a2Q hT' (by simp) hx with h | ⟨_,x0,h1,h2,rfl⟩
  ·simp [look] at h
  ·exact RelV.sb hb' x0 h2 (hT.tmps t x0 h1)
 ·obtain ⟨j,r0,h1,h2,h3,h4,rfl,h6⟩:=hfrom i r hr
  obtain ⟨g1,g2⟩:=hC.rows j r0 h1
  refine ⟨?_,RowRel.sb hb' h4 h6 g2⟩
  rcases h3 with ⟨_,e⟩ | ⟨_,e⟩
  ·rw [e];exact hb'
  ·rw [e];exact g1
 ·obtain ⟨j,r0,h1,h2,h3,h4,rfl,h6⟩:=hfrom i r hr
  obtain ⟨j',r1,g1,g2,g3,g4,rfl,g6⟩:=hfrom i' r' hr'
  rw [h6] at hbb
  rw [g6]
  exact hC.apart j j' r0 r1 h1 g1 (hinj h3 h2 g3 g2 hne) bb hbb
 ·obtain ⟨j,r0,h1,h2,h3,h4,rfl,h6⟩:=hfrom i r hr
  rw [h6] at hbb
  exact hC.kept.2.2 j r0 h1 bb hbb
 ·obtain ⟨j,r0,h1,h2,h3,h4,rfl,h6⟩:=hfrom i r hr
  rw [h6,b0i] at hbb
  obtain ⟨q1,q2,q3,q4⟩:=hC.inner j r0 h1 p bb hbb
  refine ⟨q1,q2,q3,fun i' r' hr'=>?_⟩
  obtain ⟨j',r1,g1,g2,g3,g4,rfl,g6⟩:=hfrom i' r' hr'
  rw [g6]
  refine ⟨(q4 j' r1 g1).1,fun p' hp'=>?_⟩
  rw [b0i] at hp'
  obtain ⟨e1,e2⟩:=(q4 j' r1 g1).2 p' hp'
  refine ⟨?_,e2⟩
  rcases Nat.decEq i i' with hne | e
  ·exact absurd e1 (hinj h3 h2 g3 g2 hne)
  ·exact e
end
theorem L3 {z:List Value} {cz:List CI} {n:Nat} (h:PlainC z cz):∀ (i:Nat) (c:List Value) (cs:List CI),(List.replicate n z)[i]?=some c→(List.replicate n cz)[i]?=some cs→PlainC c cs:=fun i c cs h1 h2=>by
 obtain ⟨_,rfl⟩:=by simpa [List.getElem?_replicate] using h1
 obtain ⟨_,rfl⟩:=by simpa [List.getElem?_replicate] using h2
 exact h
section
variable {P:Program} [Env P] {w0:Base} {ops:Array Oper} {tb:List (Nat×TyI)} {o:Oper} {rest:List Oper} {T:List (Nat×AV)} {m m':List (Nat×Option Row)} {nx nt d:Nat} {Q:Exit→St→Prop}
theorem Gh.shrink {t id e sz n:Nat} {ys:List (List Value)} (nx':Nat) (hn':Nat.beq nx' (Nat.succ nx)=true) (ht:look t T=some (.sub id sz 0 n)) (hm:mem m id=some (.row e sz ys)):Gh w0 ⟨T,m,nx,nt⟩ ⟨(t,.own nx) :: T,(nx,some (.row e sz (ys.take n))) :: (id,none) :: m,nx',nt⟩:=by
 have hn'':=Nat.eq_of_beq_eq_true hn'
 subst hn''
 exact fun ρ a w hT hC=>a7X ht hm hT hC
end
structure VE where
 i:Nat
 d:Nat
 id:Nat
 box:Bool
 row:Row
def VE.av (e:VE):AV:=bif e.box then .ptr e.id 0 else .own e.id
def VOK (P:Program) (ops:Array Oper) (e:VE):Prop :=
 ∃ o,ops[e.i]?=some o∧o.guard=none∧o.dst=some e.d∧rowRefs 0 e.row=true∧(∀ w y p,inn w y e.row p=none)∧∀ (ac:Act) (w:World),∃ y w',(execOp ac.eval o).run P w=.ok (.value y) w'∧Below w.heap.size w w'∧(∀ b,blk y=some b→w.heap.size≤b) ∧
  (e.box=true→∃ g,y=.pointer (some ⟨g,0,none⟩))∧∀ (B:World) (r:Nat→Value) (nx:Nat),B.heap.size≤w.heap.size→r e.id=y→RowRel B r nx w' e.id e.row
inductive Split:List VE→List VE→List VE→Prop
 | nil:Split [] [] []
 | sel {e:VE} {V F U:List VE} (h:Split V F U):Split (e :: V) (e :: F) U
 | uns {e:VE} {V F U:List VE} (h:Split V F U):Split (e :: V) F (e :: U)
def I8:List Nat→Array Bool→Array Bool
 | [],l=>l
 | i :: r,l=>I8 r (l.setIfInBounds i true)
theorem a3B:∀ (is:List Nat) (l:Array Bool),(I8 is l).size=l.size
 | [],_=>rfl
 | i :: r,l=>by simp [I8,a3B r]
theorem V2:∀ (is:List Nat) (l:Array Bool) (k:Nat),(I8 is l)[k]?=if k∈is∧k < l.size then some true else l[k]?
 | [],l,k=>by simp [I8]
 | i :: r,l,k=>by
  simp only [I8,V2 r,Array.size_setIfInBounds]
  by_cases h:k∈r∧k < l.size
  ·rw [if_pos h,if_pos ⟨List.mem_cons_of_mem _ h.1,h.2⟩]
  ·rw [if_neg h]
   by_cases e:i=k
   ·subst e
    by_cases hk:i < l.size
    ·simp [hk]
    ·simp [hk]
   ·have:¬ (k∈i :: r∧k < l.size):=fun h'=>by
     rcases List.mem_cons.1 h'.1 with h1 | h1
     ·exact e h1.symm
     ·exact h ⟨h1,h'.2⟩
    rw [if_neg this,Array.getElem?_setIfInBounds_ne e]
theorem a51 {is js:List Nat} {l:Array Bool} (h:∀ k,k∈is↔k∈js):I8 is l=I8 js l:=by
 apply Array.ext_getElem?
 intro k
 rw [V2,V2]
 simp only [h]
theorem a2R {is:List Nat} {l:Array Bool} {i:Nat}:(I8 is l).setIfInBounds i true=I8 (i :: is) l:=by
 apply Array.ext_getElem?
 intro k
 rw [V2]
 by_cases e:i=k
 ·subst e
  by_cases hk:i < l.size
  ·simp [hk,a3B]
  ·have:l[i]?=none:=Array.getElem?_eq_none (by omega)
   simp [hk,a3B,this]
 ·rw [Array.getElem?_setIfInBounds_ne e,V2]
  simp [Ne.symm e]
theorem a9C {is js:List Nat} {l:Array Bool}:I8 is (I8 js l)=I8 (js++is) l:=by
 induction js generalizing l with
 | nil=>rfl
 | cons j js ih=>simp only [I8,List.cons_append,ih]
def frT (F:List VE) (T:List (Nat×AV)):List (Nat×AV):=match F with
 | []=>T
 | e :: F=>(e.d,e.av) :: frT F T
def frM (F:List VE) (m:List (Nat×Option Row)):List (Nat×Option Row):=match F with
 | []=>m
 | e :: F=>(e.id,some e.row) :: frM F m
def a6v (id:Nat):List (Nat×AV)→Bool
 | []=>true
 | (_,x) :: r=>!ment id x && a6v id r
def a7e {α:Type} (k:Nat):List (Nat×α)→Bool
 | []=>true
 | (i,_) :: r=>!Nat.beq i k && a7e k r
def V3 (n0 nx nt:Nat):List VE→List (Nat×AV)→List (Nat×Option Row)→Bool
 | [],_,_=>true
 | e :: V,T,m=>Nat.blt e.id nx && (Nat.blt e.d nt && (Nat.ble n0 e.id && (a7e e.id m && (freeM e.id m && (a6v e.id T && (a7e e.d T && V3 n0 nx nt V T m))))))
def a42:List VE→Bool
 | []=>true
 | e :: V=>!has e.id (V.map VE.id) && (!has e.d (V.map VE.d) && (!has e.i (V.map VE.i) && a42 V))
structure VFree (n0 nx nt:Nat) (V:List VE) (T:List (Nat×AV)) (m:List (Nat×Option Row)):Prop where
 lt:∀ e∈V,e.id < nx
 dlt:∀ e∈V,e.d < nt
 n0:∀ e∈V,n0≤e.id
 mm:∀ e∈V,mem m e.id=none
 fm:∀ e∈V,freeM e.id m=true
 ft:∀ e∈V,∀ t x,look t T=some x→ment e.id x=false
 kt:∀ e∈V,look e.d T=none
structure VDist (V:List VE):Prop where
 id:V.Pairwise (fun a b=>a.id≠b.id)
 d:V.Pairwise (fun a b=>a.d≠b.d)
 i:V.Pairwise (fun a b=>a.i≠b.i)
theorem a2g {α:Type} {k:Nat}:∀ {l:List (Nat×α)},a7e k l=true→look k l=none
 | [],_=>rfl
 | (i,x) :: r,h=>by
  simp only [a7e,Bool.and_eq_true,Bool.not_eq_true'] at h
  rw [j7 (H3 h.1)]
  exact a2g h.2
theorem a4b {id:Nat}:∀ {l:List (Nat×AV)},a6v id l=true→∀ t x,look t l=some x→ment id x=false
 | [],_,t,x,h=>by simp [look] at h
 | (i,y) :: r,h,t,x,hx=>by
  simp only [a6v,Bool.and_eq_true,Bool.not_eq_true'] at h
  by_cases e:i=t
  ·subst e;rw [n9] at hx;cases hx;exact h.1
  ·rw [j7 e] at hx;exact a4b h.2 t x hx
theorem VFree.of {n0 nx nt:Nat} {T:List (Nat×AV)} {m:List (Nat×Option Row)}:∀ {V:List VE},V3 n0 nx nt V T m=true→VFree n0 nx nt V T m
 | [],_=>⟨by simp,by simp,by simp,by simp,by simp,by simp,by simp⟩
 | e :: V,h=>by
  simp only [V3,Bool.and_eq_true] at h
  obtain ⟨h1,h2,h3,h4,h5,h6,h7,h8⟩:=h
  have ih:=VFree.of h8
  refine ⟨?_,?_,?_,?_,?_,?_,?_⟩<;>intro e' he'<;>rcases List.mem_cons.1 he' with rfl | he'
  ·exact Nat.le_of_ble_eq_true h1
  ·exact ih.lt e' he'
  ·exact Nat.le_of_ble_eq_true h2
  ·exact ih.dlt e' he'
  ·exact Nat.le_of_ble_eq_true h3
  ·exact ih.n0 e' he'
  ·simp only [mem,a2g h4]
  ·exact ih.mm e' he'
  ·exact h5
  ·exact ih.fm e' he'
  ·exact a4b h6
  ·exact ih.ft e' he'
  ·exact a2g h7
  ·exact ih.kt e' he'
theorem VDist.of:∀ {V:List VE},a42 V=true→VDist V
 | [],_=>⟨.nil,.nil,.nil⟩
 | e :: V,h=>by
  simp only [a42,Bool.and_eq_true,Bool.not_eq_true'] at h
  obtain ⟨h1,h2,h4,h3⟩:=h
  have ih:=VDist.of h3
  exact ⟨.cons (fun b hb he=>U0 h1 b.id (List.mem_map.2 ⟨b,hb,rfl⟩) he.symm) ih.id,.cons (fun b hb he=>U0 h2 b.d (List.mem_map.2 ⟨b,hb,rfl⟩) he.symm) ih.d,.cons (fun b hb he=>U0 h4 b.i (List.mem_map.2 ⟨b,hb,rfl⟩) he.symm) ih.i⟩
theorem a6w {V:List VE} {f:VE→Nat} (h:V.Pairwise (fun a b=>f a≠f b)):∀ {a b:VE},a∈V→b∈V→f a=f b→a=b:=by
 induction V with
 | nil=>intro a b ha;cases ha
 | cons e V ih =>
  intro a b ha hb he
  rw [List.pairwise_cons] at h
  rcases List.mem_cons.1 ha with h1 | h1<;>rcases List.mem_cons.1 hb with h2 | h2
  ·rw [h1,h2]
  ·exact absurd (h1▸he) (h.1 b h2)
  ·exact absurd (h2▸he).symm (h.1 a h1)
  ·exact ih h.2 h1 h2 he
theorem Split.memF {V F U:List VE} (h:Split V F U):∀ e∈F,e∈V:=by
 induction h with
 | nil=>simp
 | sel _ ih=>intro x hx;rcases List.mem_cons.1 hx with rfl | hx;simp;exact List.mem_cons_of_mem _ (ih x hx)
 | uns _ ih=>intro x hx;exact List.mem_cons_of_mem _ (ih x hx)
theorem Split.memU {V F U:List VE} (h:Split V F U):∀ e∈U,e∈V:=by
 induction h with
 | nil=>simp
 | uns _ ih=>intro x hx;rcases List.mem_cons.1 hx with rfl | hx;simp;exact List.mem_cons_of_mem _ (ih x hx)
 | sel _ ih=>intro x hx;exact List.mem_cons_of_mem _ (ih x hx)
theorem Split.move {V F U:List VE} (h:Split V F U) {e:VE} (he:e∈U):∃ F' U',Split V F' U'∧U'.length+1=U.length∧∀ x,x∈F'↔x=e∨x∈F:=by
 induction h with
 | nil=>cases he
 | @sel e0 V F U _ ih =>
  obtain ⟨F',U',h1,h2,h3⟩:=ih he
  exact ⟨e0 :: F',U',.sel h1,h2,fun x=>by simp only [List.mem_cons,h3];constructor<;>rintro (h | h | h)<;>simp [h]⟩
 | @uns e0 V F U hs ih =>
  by_cases e1:e=e0
  ·subst e1
   exact ⟨e :: F,U,.sel hs,by simp,fun x=>by simp⟩
  ·have he':e∈U:=by rcases List.mem_cons.1 he with h | h;exact absurd h e1;exact h
   obtain ⟨F',U',h1,h2,h3⟩:=ih he'
   exact ⟨F',e0 :: U',.uns h1,by simp;omega,h3⟩
theorem Split.all:∀ V:List VE,Split V [] V
 | []=>.nil
 | _ :: V=>.uns (Split.all V)
theorem a1f {T:List (Nat×AV)}:∀ {F:List VE} {t:Nat} {x:AV},look t (frT F T)=some x→(∃ e∈F,e.d=t∧x=e.av)∨((∀ e∈F,e.d≠t)∧look t T=some x)
 | [],t,x,h=>.inr ⟨by simp,h⟩
 | e :: F,t,x,h=>by
  simp only [frT] at h
  by_cases e1:e.d=t
  ·subst e1;rw [n9] at h;cases h;exact .inl ⟨e,by simp,rfl,rfl⟩
  ·rw [j7 e1] at h
   rcases a1f h with ⟨e',h1,h2⟩ | ⟨h1,h2⟩
   ·exact .inl ⟨e',by simp [h1],h2⟩
   ·exact .inr ⟨fun x hx=>by rcases List.mem_cons.1 hx with rfl | hx;exact e1;exact h1 x hx,h2⟩
theorem Q9 {T:List (Nat×AV)}:∀ {F:List VE},F.Pairwise (fun a b=>a.d≠b.d)→∀ e∈F,look e.d (frT F T)=some e.av
 | [],_,e,h=>by cases h
 | e0 :: F,hp,e,he=>by
  rw [List.pairwise_cons] at hp
  simp only [frT]
  rcases List.mem_cons.1 he with rfl | he
  ·exact n9 _ _ _
  ·rw [j7 (hp.1 e he)];exact Q9 hp.2 e he
theorem O0 {T:List (Nat×AV)}:∀ {F:List VE} {t:Nat},(∀ e∈F,e.d≠t)→look t (frT F T)=look t T
 | [],_,_=>rfl
 | e :: F,t,h=>by
  simp only [frT]
  rw [j7 (h e (by simp))]
  exact O0 fun x hx=>h x (by simp [hx])
theorem a2S {m:List (Nat×Option Row)}:∀ {F:List VE} {i:Nat} {r:Row},mem (frM F m) i=some r→(∃ e∈F,e.id=i∧r=e.row)∨((∀ e∈F,e.id≠i)∧mem m i=some r)
 | [],i,r,h=>.inr ⟨by simp,h⟩
 | e :: F,i,r,h=>by
  simp only [frM] at h
  by_cases e1:e.id=i
  ·subst e1;rw [j8] at h;cases h;exact .inl ⟨e,by simp,rfl,rfl⟩
  ·rw [d9 e1] at h
   rcases a2S h with ⟨e',h1,h2⟩ | ⟨h1,h2⟩
   ·exact .inl ⟨e',by simp [h1],h2⟩
   ·exact .inr ⟨fun x hx=>by rcases List.mem_cons.1 hx with rfl | hx;exact e1;exact h1 x hx,h2⟩
theorem a0G {m:List (Nat×Option Row)}:∀ {F:List VE},F.Pairwise (fun a b=>a.id≠b.id)→∀ e∈F,mem (frM F m) e.id=some e.row
 | [],_,e,h=>by cases h
 | e0 :: F,hp,e,he=>by
  rw [List.pairwise_cons] at hp
  simp only [frM]
  rcases List.mem_cons.1 he with rfl | he
  ·exact j8 _ _ _
  ·rw [d9 (hp.1 e he)];exact a0G hp.2 e he
theorem X9 {m:List (Nat×Option Row)}:∀ {F:List VE} {i:Nat},(∀ e∈F,e.id≠i)→mem (frM F m) i=mem m i
 | [],_,_=>rfl
 | e :: F,i,h=>by
  simp only [frM]
  rw [d9 (h e (by simp))]
  exact X9 fun x hx=>h x (by simp [hx])
theorem Split.pw {V F U:List VE} (h:Split V F U) {R:VE→VE→Prop} (hp:V.Pairwise R):F.Pairwise R:=by
 induction h with
 | nil=>exact .nil
 | sel hs ih=>rw [List.pairwise_cons] at hp;exact .cons (fun b hb=>hp.1 b (hs.memF b hb)) (ih hp.2)
 | uns _ ih=>rw [List.pairwise_cons] at hp;exact ih hp.2
theorem VE.ment_av {e:VE} {id:Nat}:ment id e.av=Nat.beq e.id id:=by unfold VE.av;cases e.box<;>rfl
mutual
theorem a6x {id:Nat}:∀ (x:AV),v5 0 x=true→ment id x=false
 | .own i,h=>by simp only [v5] at h;exact absurd (Nat.le_of_ble_eq_true h) (Nat.not_lt_zero i)
 | .sub i _ _ _,h=>by simp only [v5] at h;exact absurd (Nat.le_of_ble_eq_true h) (Nat.not_lt_zero i)
 | .ptr i _,h=>by simp only [v5] at h;exact absurd (Nat.le_of_ble_eq_true h) (Nat.not_lt_zero i)
 | .rpt i _ _ _,h=>by simp only [v5] at h;exact absurd (Nat.le_of_ble_eq_true h) (Nat.not_lt_zero i)
 | .agg cs,h=>by simp only [v5] at h;simp only [ment];exact G4 cs h
 | .tup cs,h=>by simp only [v5] at h;simp only [ment];exact G4 cs h
 | .fnc _ cs,h=>by simp only [v5] at h;simp only [ment];exact G4 cs h
 | .eptN cs,h=>by simp only [v5] at h;simp only [ment];exact G4 cs h
 | .v _,_=>rfl
 | .lst _ _,_=>rfl
 | .pin _ _ _,_=>rfl
 | .ept _,_=>rfl
 | .nst _ _ _,_=>rfl
 | .any,_=>rfl
theorem G4 {id:Nat}:∀ (x:List AV),F0 0 x=true→R9 id x=false
 | [],_=>rfl
 | c :: cs,h=>by simp only [F0,Bool.and_eq_true] at h;simp only [R9,a6x c h.1,G4 cs h.2,Bool.or_false]
end
theorem a43 {id:Nat}:∀ {op:List (Nat×Nat×Nat)},a3x 0 op=true→a1b id op=false
 | [],_=>rfl
 | q :: r,h=>by simp only [a3x,Bool.and_eq_true] at h;exact absurd (Nat.le_of_ble_eq_true h.1) (Nat.not_lt_zero _)
def Quiet (id:Nat) (r:Row):Prop:=(∀ cs,r=.box cs→R9 id cs=false)∧∀ e sz yss op,r=.nest e sz yss op→a1b id op=false
theorem Quiet.of {id:Nat} {r:Row} (h:rowRefs 0 r=true):Quiet id r:=⟨fun cs e=>by subst e;exact G4 cs h,fun _ _ _ _ e=>by subst e;exact a43 h⟩
theorem Quiet.rel {w0:World} {id i nx:Nat} {r:Row} {ρ:Nat→Value} {w:World} {y:Value} (hq:Quiet id r) (hne:i≠id) (h:RowRel w0 ρ nx w i r):RowRel w0 (upd ρ id y) nx w i r :=
 h.to (l7 ρ y hne) (fun cs e l hl=>by exact RelVsUpd cs (hq.1 cs e) hl) fun e sz yss op he q hq' hlt=>⟨hlt,l7 ρ y (U6 (hq.2 _ _ _ _ he) q hq')⟩
where
 RelVsUpd {w0:World} {id nx:Nat} {ρ:Nat→Value} {y:Value} (cs:List AV) {l:List Value} (hm:R9 id cs=false) (h:RelVs w0 ρ nx cs l):RelVs w0 (upd ρ id y) nx cs l :=
  RelVs.upd (w0:=⟨w0,0,ρ,w0,fun _=>False,fun _ h=>h.elim,fun _=>True,fun _ _=>trivial⟩) cs hm h
theorem RelC.addAt {b:Base} {ρ:Nat→Value} {M M':List (Nat×Option Row)} {nx id:Nat} {w w':World} {row:Row} {y:Value} (hC:RelC b ρ M nx w) (hlt:id < nx) (hn0:b.n0≤id) (hq:∀ i r,mem M i=some r→Quiet id r) (hb:Below w.heap.size w w') (hin:∀ w y p,inn w y row p=none)
 (hrow:RowRel b.w (upd ρ id y) nx w' id row) (hy:∀ c,blk y=some c→w.heap.size≤c) (hM:∀ i r,mem M' i=some r→(i=id∧r=row)∨(i≠id∧mem M i=some r)):RelC b (upd ρ id y) M' nx w':=by
 have hC1:=hC.trans hb
 have hf:∀ i r,mem M i=some r→∀ c,J1 w' (ρ i) r c→c < w.heap.size:=fun i r hi c hc=>hC.foot_lt hi (hC.foot_trans hb hi hc)
 have hval:∀ i,i≠id→upd ρ id y i=ρ i:=fun i hi=>l7 ρ y hi
 refine ⟨fun i r hi=>?_,fun i i' r r' hi hi' hne c hc=>?_,hC1.below,⟨hC.pin.1,fun i hi=>(hval i (by omega)).trans (hC.pin.2 i hi)⟩,⟨hC1.kept.1,hC1.kept.2.1,fun i r hi c hc hk=>?_⟩,fun i r hi p c hc=>?_⟩
 ·rcases hM i r hi with ⟨rfl,rfl⟩ | ⟨h1,h2⟩
  ·exact ⟨hlt,hrow⟩
  ·exact ⟨(hC.rows i r h2).1,(hq i r h2).rel h1 (hC1.rows i r h2).2⟩
 ·rcases hM i r hi with ⟨rfl,rfl⟩ | ⟨h1,h2⟩
  ·rcases hM i' r' hi' with ⟨rfl,rfl⟩ | ⟨g1,g2⟩
   ·exact absurd rfl hne
   ·rw [k9] at hc;rw [hval i' g1]
    intro hc'
    have:=hf i' r' g2 c (.inl hc');have:=hy c hc;omega
  ·rw [hval i h1] at hc
   rcases hM i' r' hi' with ⟨rfl,rfl⟩ | ⟨g1,g2⟩
   ·rw [k9]
    intro hc'
    have:=hf i r h2 c (.inl hc);have:=hy c hc';omega
   ·rw [hval i' g1];exact hC.apart i i' r r' h2 g2 hne c hc
 ·rcases hM i r hi with ⟨rfl,rfl⟩ | ⟨h1,h2⟩
  ·rw [k9] at hc;exact hC.fresh (hy c hc) hk
  ·rw [hval i h1] at hc;exact hC1.kept.2.2 i r h2 c hc hk
 ·rcases hM i r hi with ⟨rfl,rfl⟩ | ⟨h1,h2⟩
  ·rw [hin] at hc;cases hc
  ·rw [hval i h1] at hc
   obtain ⟨g1,g2,g3,g4⟩:=hC1.inner i r h2 p c hc
   refine ⟨g1,g2,g3,fun i' r' hi'=>?_⟩
   rcases hM i' r' hi' with ⟨rfl,rfl⟩ | ⟨k1,k2⟩
   ·rw [k9]
    refine ⟨fun hc'=>?_,fun p' hp'=>by rw [hin] at hp';cases hp'⟩
    have:=hf i r h2 c (.inr ⟨p,hc⟩);have:=hy c hc';omega
   ·rw [hval i' k1];exact g4 i' r' k2
section
variable {P:Program} [Env P] {b:Base} {ops:Array Oper} {T:List (Nat×AV)} {m m0:List (Nat×Option Row)} {nx nt fuel:Nat} {listed:Array Bool} {K:St→Prop} {V F U:List VE} {ρ:Nat→Value} {a:Act} {w:World}
theorem a9D {n0 id:Nat} (hV:VFree n0 nx nt V T m) (hok:∀ e∈V,VOK P ops e) (hF:∀ e∈F,e∈V) (hid:freeM id m=true):∀ i r,mem (frM F m) i=some r→Quiet id r:=fun i r hi=>by
 rcases a2S hi with ⟨x,h1,h2,h3⟩ | ⟨h1,h2⟩
 ·subst h3
  obtain ⟨_,_,_,_,h4,_⟩:=hok x (hF x h1)
  exact Quiet.of h4
 ·exact M7 hid h2
theorem a9E {e:VE} (hV:VFree b.n0 nx nt V T m) (hD:VDist V) (hok:∀ e∈V,VOK P ops e) (hs:Split V F U) (he:e∈U) (hnF:e∉F) (hT:RelT b.w ρ (frT F T) nx nt a) (hC:RelC b ρ (frM F m) nx w) {F' U':List VE} (hs':Split V F' U') (hF':∀ x,x∈F'↔x=e∨x∈F) :
 ∃ o y w' ρ',ops[e.i]?=some o∧o.guard=none∧o.dst=some e.d∧(execOp a.eval o).run P w=.ok (.value y) w'∧RelT b.w ρ' (frT F' T) nx nt (a.put (some e.d) y)∧RelC b ρ' (frM F' m) nx w'∧Below w.heap.size w w':=by
 have heV:e∈V:=hs.memU e he
 obtain ⟨o,ho,hg,hd,hrf,hin,hrun⟩:=hok e heV
 obtain ⟨y,w',hr,hb,hy,hbox,hrow⟩:=hrun a w
 have hlt:=hV.lt e heV
 have hdlt:e.d < a.tmps.size:=by rw [hT.size];exact hV.dlt e heV
 have hother:∀ x∈F,x.id≠e.id:=fun x hx he'=>hnF (by have:=a6w hD.id (hs.memF x hx) heV he';rw [← this];exact hx)
 have hotherd:∀ x∈F,x.d≠e.d:=fun x hx he'=>hnF (by have:=a6w hD.d (hs.memF x hx) heV he';rw [← this];exact hx)
 have hmold:∀ i r,mem (frM F' m) i=some r→(i=e.id∧r=e.row)∨(i≠e.id∧mem (frM F m) i=some r):=fun i r hi=>by
  rcases a2S hi with ⟨x,h1,h2,h3⟩ | ⟨h1,h2⟩
  ·rcases (hF' x).1 h1 with rfl | h1
   ·exact .inl ⟨h2.symm,h3⟩
   ·subst h2
    refine .inr ⟨hother x h1,?_⟩
    rw [a0G (hs.pw hD.id) x h1,h3]
  ·refine .inr ⟨fun e1=>h1 e ((hF' e).2 (.inl rfl)) e1.symm,?_⟩
   rw [X9 fun x hx=>h1 x ((hF' x).2 (.inr hx))]
   exact h2
 refine ⟨o,y,w',upd ρ e.id y,ho,hg,hd,hr,⟨fun t x hx=>?_,by simp [Act.put,hT.size],by simp [Act.put,hT.defers]⟩,hC.addAt hlt (hV.n0 e heV) (a9D hV hok hs.memF (hV.fm e heV)) hb hin (hrow b.w _ nx hC.below.size (k9 _ _ _)) hy hmold,hb⟩
 have hput:∀ t,t≠e.d→(a.put (some e.d) y).tmps.getD t undef=a.tmps.getD t undef:=fun t ht=>by
  simp only [Act.put,Array.getD_eq_getD_getElem?]
  rw [Array.getElem?_setIfInBounds_ne (Ne.symm ht)]
 rcases a1f hx with ⟨x',h1,h2,h3⟩ | ⟨h1,h2⟩
 ·rcases (hF' x').1 h1 with rfl | h1
  ·subst h2;subst h3
   have hv:(a.put (some x'.d) y).tmps.getD x'.d undef=y:=by simp [Act.put,hdlt]
   rw [hv]
   unfold VE.av
   cases hbx:x'.box with
   | true=>obtain ⟨g,hg'⟩:=hbox hbx;simp only [cond_true,RelV];exact ⟨hlt,g,by rw [k9];exact hg',hg'⟩
   | false=>simp only [cond_false,RelV];exact ⟨hlt,(k9 _ _ _).symm⟩
  ·subst h2;subst h3
   rw [hput _ (hotherd x' h1)]
   refine RelV.upd x'.av ?_ (hT.tmps _ _ (Q9 (hs.pw hD.d) x' h1))
   rw [VE.ment_av]
   cases hbe:Nat.beq x'.id e.id with
   | false=>rfl
   | true=>exact absurd (Nat.eq_of_beq_eq_true hbe) (hother x' h1)
 ·rw [hput _ fun e1=>h1 e ((hF' e).2 (.inl rfl)) e1.symm]
  refine RelV.upd x (hV.ft e heV t x h2) (hT.tmps t x ?_)
  rw [O0 fun x hx=>h1 x ((hF' x).2 (.inr hx))]
  exact h2
theorem b2N {o:Oper} {n n':Act→World→Prop} {Q Q':Exit→Act→World→Prop} (h:o.wp P a w n Q) (hQ:∀ e a w,Q e a w→e=.normal) (hn:∀ (a0:Act) (y:Value) (w':World),a0.tmps=a.tmps→n (a0.put o.dst y) w'→n' (a0.put o.dst y) w'):o.wp P a w n' Q':=by
 unfold Oper.wp at *
 generalize (execOp a.eval o).run P w=r at *
 cases r with
 | ok x w' =>
  cases x<;>simp only [Oper.upon] at h ⊢
  case value v=>exact hn a v w' rfl h
  case skip=>exact hn a undef w' rfl h
  case defer d=>exact hn { a with defers:=d :: a.defers } undef w' rfl h
  case enter f args =>
   refine h.mono fun e w'' he=>?_
   cases e with
   | returned u=>exact hn a u w'' rfl he
   | panicked c=>exact absurd (hQ _ _ _ he) (by simp)
   | outgrown=>obtain ⟨a,w,he⟩:=he;exact absurd (hQ _ _ _ he) (by simp)
  case row row args=>exact Rows.mono h fun u w'' he=>hn a u w'' rfl he
 | halt x w' =>
  cases x<;>simp only [Oper.upon] at h ⊢
  case panic u=>exact absurd (hQ _ _ _ h) (by simp)
def rst (ρ ρ':Nat→Value):List VE→Nat→Value
 | []=>ρ'
 | e :: R=>upd (rst ρ ρ' R) e.id (ρ e.id)
theorem a44 {ρ ρ':Nat→Value}:∀ {R:List VE} {e:VE},e∈R→rst ρ ρ' R e.id=ρ e.id
 | [],_,h=>by cases h
 | e0 :: R,e,h=>by
  simp only [rst]
  by_cases e1:e.id=e0.id
  ·rw [e1,k9]
  ·rw [l7 _ _ e1]
   rcases List.mem_cons.1 h with rfl | h
   ·exact absurd rfl e1
   ·exact a44 h
theorem a6y {ρ ρ':Nat→Value}:∀ {R:List VE} {i:Nat},(∀ e∈R,e.id≠i)→rst ρ ρ' R i=ρ' i
 | [],_,_=>rfl
 | e0 :: R,i,h=>by
  simp only [rst]
  rw [l7 _ _ (Ne.symm (h e0 (by simp)))]
  exact a6y fun e he=>h e (by simp [he])
theorem RelV.rst {w0:Base} {ρ ρ':Nat→Value} {nx:Nat} {x:AV} {y:Value}:∀ {R:List VE},(∀ e∈R,ment e.id x=false)→RelV w0 ρ' nx x y→RelV w0 (Go.Rf.rst ρ ρ' R) nx x y
 | [],_,h=>h
 | e :: R,hm,h=>RelV.upd x (hm e (by simp)) (RelV.rst (fun e he=>hm e (by simp [he])) h)
theorem RowRel.rst {w0:World} {ρ ρ':Nat→Value} {nx i:Nat} {w:World} {r:Row}:∀ {R:List VE},(∀ e∈R,Quiet e.id r∧e.id≠i)→RowRel w0 ρ' nx w i r→RowRel w0 (Go.Rf.rst ρ ρ' R) nx w i r
 | [],_,h=>h
 | e :: R,hm,h=>(hm e (by simp)).1.rel (Ne.symm (hm e (by simp)).2) (RowRel.rst (fun e he=>hm e (by simp [he])) h)
theorem a73 [EnvAt P b] {o:Oper} {C R:List VE} {S1:St} {Q':Exit→Act→World→Prop} (hV:VFree b.n0 nx nt V T m) (hD:VDist V) (hok:∀ e∈V,VOK P ops e) (hFV:∀ e∈F,e∈V) (hpF:F.Pairwise (fun a b=>a.id≠b.id)) (hpFd:F.Pairwise (fun a b=>a.d≠b.d)) (hCF:∀ e∈C,e∈F) (hRF:∀ e∈R,e∈F∧e∉C)
 (hx:∀ b':Base,[EnvAt P b']→b'.n0=b.n0→WX P b' ops o [] ⟨frT C T,frM C m,nx,nt⟩ (nq (fun S'=>S'=S1))) (hnx:nx≤S1.nx) {nt1:Nat} (hR1:VFree b.n0 S1.nx nt1 R S1.T S1.m) (hdst:∀ e∈R,o.dst≠some e.d) (hpR:R.Pairwise (fun a b=>a.id≠b.id)) (hpRd:R.Pairwise (fun a b=>a.d≠b.d))
 (hT:RelT b.w ρ (frT F T) nx nt a) (hC:RelC b ρ (frM F m) nx w):o.wp P a w (fun a' w'=>∃ ρ'',RelT b.w ρ'' (frT R S1.T) S1.nx S1.nt a'∧RelC b ρ'' (frM R S1.m) S1.nx w') Q':=by
 have hRr:∀ e∈R,mem (frM F m) e.id=some e.row:=fun e he=>a0G hpF e (hRF e he).1
 have hsubC:∀ i r,mem (frM C m) i=some r→mem (frM F m) i=some r∧∀ e∈R,e.id≠i:=fun i r hi=>by
  rcases a2S hi with ⟨x,h1,h2,h3⟩ | ⟨h1,h2⟩
  ·subst h2;subst h3
   refine ⟨a0G hpF x (hCF x h1),fun e he e1=>(hRF e he).2 ?_⟩
   rw [a6w hpF (hRF e he).1 (hCF x h1) e1];exact h1
  ·have hno:∀ e∈F,e.id≠i:=fun e he e1=>by rw [← e1,hV.mm e (hFV e he)] at h2;cases h2
   exact ⟨by rw [X9 hno];exact h2,fun e he=>hno e (hRF e he).1⟩
 let b':Base:=⟨b.w,b.n0,b.r0,w,fun c=>b.keep c∨∃ e∈R,J1 w (ρ e.id) e.row c,fun c hc=>(by
  rcases hc with hc | ⟨e,he,hc⟩
  ·exact Nat.lt_of_lt_of_le (b.kb c hc) hC.kept.1
  ·exact hC.foot_lt (hRr e he) hc),b.E,b.hE⟩
 have hen:EnvAt P b':=⟨(inferInstance:EnvAt P b).e⟩
 have hapart:∀ i r,mem (frM C m) i=some r→∀ c,J1 w (ρ i) r c→∀ e∈R,¬ J1 w (ρ e.id) e.row c:=fun i r hi c hc e he hc'=>by
  obtain ⟨h1,h2⟩:=hsubC i r hi
  exact hC.foot_apart h1 (hRr e he) (Ne.symm (h2 e he)) hc hc'
 have hC0:RelC b ρ (frM C m) nx w:=hC.sub fun i r hi=>(hsubC i r hi).1
 have hCb:RelC b' ρ (frM C m) nx w:=by
  refine ⟨hC0.rows,hC0.apart,hC0.below,hC0.pin,⟨Nat.le_refl _,fun _ _=>rfl,fun i r hi c hc hk=>?_⟩,fun i r hi p c hc=>?_⟩
  ·rcases hk with hk | ⟨e,he,hk⟩
   ·exact hC0.kept.2.2 i r hi c hc hk
   ·exact hapart i r hi c (.inl hc) e he hk
  ·obtain ⟨g1,g2⟩:=hC0.inner i r hi p c hc
   refine ⟨fun hk=>?_,g2⟩
   rcases hk with hk | ⟨e,he,hk⟩
   ·exact g1 hk
   ·exact hapart i r hi c (.inr ⟨p,hc⟩) e he hk
 have hTb:RelT b'.w ρ (frT C T) nx nt a:=by
  refine ⟨fun t x hx'=>?_,hT.size,hT.defers⟩
  rcases a1f hx' with ⟨x',h1,h2,h3⟩ | ⟨h1,h2⟩
  ·subst h2;subst h3
   exact hT.tmps _ _ (Q9 hpFd x' (hCF x' h1))
  ·refine hT.tmps t x ?_
   rw [O0 fun e he e1=>?_]
   ·exact h2
   ·rw [← e1,hV.kt e (hFV e he)] at h2;cases h2
 have hwp:=hx b' rfl ρ a w hTb hCb
 refine b2N hwp (fun e a w h=>C0 h) fun a0 y w' ha0 hn=>?_
 obtain ⟨ρ',S',hS',hT',hC'⟩:=hn
 simp only [nq] at hS'
 subst hS'
 have hnt:S'.nt=nt:=by have h1:=hT'.size;have h2:=hT.size;simp [Act.put] at h1;cases hd:o.dst<;>simp [hd,ha0] at h1<;>omega
 have hkeepR:∀ e∈R,∀ c,J1 w (ρ e.id) e.row c→b'.keep c:=fun e he c hc=>.inr ⟨e,he,hc⟩
 have hinR:∀ e∈R,∀ w y p,inn w y e.row p=none:=fun e he=>by obtain ⟨_,_,_,_,_,h5,_⟩:=hok e (hFV e (hRF e he).1);exact h5
 have hrfR:∀ e∈R,rowRefs 0 e.row=true:=fun e he=>by obtain ⟨_,_,_,_,h4,_⟩:=hok e (hFV e (hRF e he).1);exact h4
 have hmR:∀ i r,mem S'.m i=some r→∀ e∈R,Quiet e.id r∧e.id≠i:=fun i r hi e he=>⟨M7 (hR1.fm e he) hi,fun e1=>by rw [← e1,hR1.mm e he] at hi;cases hi⟩
 have hcase:∀ i r,mem (frM R S'.m) i=some r→(∃ e∈R,i=e.id∧r=e.row∧rst ρ ρ' R i=ρ e.id)∨(mem S'.m i=some r∧rst ρ ρ' R i=ρ' i):=fun i r hi=>by
  rcases a2S hi with ⟨x,h1,h2,h3⟩ | ⟨h1,h2⟩
  ·subst h2;exact .inl ⟨x,h1,rfl,h3,a44 h1⟩
  ·exact .inr ⟨h2,a6y h1⟩
 have hsame:∀ e∈R,∀ c,blk (ρ e.id)=some c→w'.heap[c]?=w.heap[c]?:=fun e he c hc=>hC'.kept.2.1 c (hkeepR e he c (.inl hc))
 have hsz:w.heap.size≤w'.heap.size:=hC'.kept.1
 refine ⟨rst ρ ρ' R,⟨fun t x hx'=>?_,hT'.size,hT'.defers⟩,fun i r hi=>?_,fun i i' r r' hi hi' hne c hc=>?_,hC'.below,⟨hC'.pin.1,fun i hi=>?_⟩,⟨Nat.le_trans hC.kept.1 hsz,fun c hc=>(hC'.kept.2.1 c (.inl hc)).trans (hC.kept.2.1 c hc),fun i r hi c hc hk=>?_⟩,fun i r hi p c hc=>?_⟩
 ·rcases a1f hx' with ⟨e,h1,h2,h3⟩ | ⟨h1,h2⟩
  ·subst h2;subst h3
   have hv:(a0.put o.dst y).tmps.getD e.d undef=a.tmps.getD e.d undef:=by
    rw [← ha0]
    cases hd:o.dst with
    | none=>rfl
    | some d =>
     have:d≠e.d:=fun e1=>hdst e h1 (by rw [hd,e1])
     simp only [Act.put,Array.getD_eq_getD_getElem?]
     rw [Array.getElem?_setIfInBounds_ne this]
   rw [hv]
   have hr:=hT.tmps _ _ (Q9 hpFd e (hRF e h1).1)
   have hlt:=hR1.lt e h1
   unfold VE.av at hr ⊢
   cases hbx:e.box with
   | true=>simp only [hbx,cond_true,RelV] at hr ⊢;obtain ⟨_,g,q1,q2⟩:=hr;exact ⟨hlt,g,by rw [a44 h1];exact q1,q2⟩
   | false=>simp only [hbx,cond_false,RelV] at hr ⊢;exact ⟨hlt,by rw [a44 h1];exact hr.2⟩
  ·exact RelV.rst (w0:=b') (fun e he=>hR1.ft e he t x h2) (hT'.tmps t x h2)
 ·rcases hcase i r hi with ⟨e,h1,rfl,rfl,h3⟩ | ⟨h1,h2⟩
  ·refine ⟨hR1.lt e h1,?_⟩
   have hr:=(hC.rows _ _ (hRr e h1)).2
   have hr2:=hr.frame (w':=w') (fun c hc=>hsame e h1 c hc) fun p c hc=>by rw [hinR e h1] at hc;cases hc
   exact RowRel.move (w0:=b) hr2 (hrfR e h1) (a44 h1)
  ·obtain ⟨g1,g2⟩:=hC'.rows i r h1
   exact ⟨g1,RowRel.rst (hmR i r h1) g2⟩
 ·rcases hcase i r hi with ⟨e,h1,rfl,rfl,h3⟩ | ⟨h1,h2⟩
  ·rw [h3] at hc
   rcases hcase i' r' hi' with ⟨e',g1,rfl,rfl,g3⟩ | ⟨g1,g2⟩
   ·rw [g3]
    exact hC.apart e.id e'.id _ _ (hRr e h1) (hRr e' g1) hne c hc
   ·rw [g2]
    intro hc'
    exact hC'.kept.2.2 i' r' g1 c hc' (hkeepR e h1 c (.inl hc))
  ·rw [h2] at hc
   rcases hcase i' r' hi' with ⟨e',g1,rfl,rfl,g3⟩ | ⟨g1,g2⟩
   ·rw [g3]
    intro hc'
    exact hC'.kept.2.2 i r h1 c hc (hkeepR e' g1 c (.inl hc'))
   ·rw [g2]
    exact hC'.apart i i' r r' h1 g1 hne c hc
 ·rw [a6y fun e he e1=>by have:=hR1.n0 e he;omega]
  exact hC'.pin.2 i hi
 ·rcases hcase i r hi with ⟨e,h1,rfl,rfl,h3⟩ | ⟨h1,h2⟩
  ·rw [h3] at hc;exact hC.kept.2.2 e.id _ (hRr e h1) c hc hk
  ·rw [h2] at hc;exact hC'.kept.2.2 i r h1 c hc (.inl hk)
 ·rcases hcase i r hi with ⟨e,h1,rfl,rfl,h3⟩ | ⟨h1,h2⟩
  ·rw [hinR e h1] at hc;cases hc
  ·rw [h2] at hc
   obtain ⟨g1,g2,g3,g4⟩:=hC'.inner i r h1 p c hc
   refine ⟨fun hk=>g1 (.inl hk),g2,g3,fun i' r' hi'=>?_⟩
   rcases hcase i' r' hi' with ⟨e',k1,rfl,rfl,k3⟩ | ⟨k1,k2⟩
   ·rw [k3]
    exact ⟨fun hc'=>g1 (hkeepR e' k1 c (.inl hc')),fun p' hp'=>by rw [hinR e' k1] at hp';cases hp'⟩
   ·rw [k2];exact g4 i' r' k1
def WAV (P:Program) (b:Base) (ops:Array Oper) (m0:List (Nat×Option Row)) (fuel:Nat) (listed:Array Bool) (S:St) (V:List VE) (K:St→Prop):Prop :=
 ∀ F U,Split V F U→WA P b ops m0 (fuel+U.length) (I8 (F.map VE.i) listed) ⟨frT F S.T,frM F S.m,S.nx,S.nt⟩ K
theorem s2 {S:St} (V:List VE) (hok:∀ e∈V,VOK P ops e) (h:(∀ e∈V,VOK P ops e)→WAV P b ops m0 fuel listed S V K):WA P b ops m0 (fuel+V.length) listed S K:=h hok [] V (Split.all V)
theorem F8 {S:St} (h:WA P b ops m0 fuel listed S K):WAV P b ops m0 fuel listed S [] K:=fun F U hs=>by cases hs;exact h
def Y0:List Nat→List (List Nat×List Nat)
 | []=>[([],[])]
 | i :: r=>(Y0 r).map (fun p=>(i :: p.1,p.2))++(Y0 r).map (fun p=>(p.1,i :: p.2))
theorem Split.inN {V F U:List VE} (h:Split V F U):(F.map VE.i,U.map VE.i)∈Y0 (V.map VE.i):=by
 induction h with
 | nil=>simp [Y0]
 | @sel e V F U _ ih=>simp only [List.map_cons,Y0,List.mem_append,List.mem_map];exact .inl ⟨_,ih,rfl⟩
 | @uns e V F U _ ih=>simp only [List.map_cons,Y0,List.mem_append,List.mem_map];exact .inr ⟨_,ih,rfl⟩
def b0k (F:List Nat):List Nat→Bool
 | []=>true
 | c :: r=>has c F && b0k F r
def b1x (i:Nat) (F:List Nat):List (Nat×List Nat)→Bool
 | []=>false
 | (j,C) :: r=>(Nat.beq j i && b0k F C) || b1x i F r
def b4b (ops:Array Oper) (listed:Array Bool) (is:List Nat) (rs:List (Nat×List Nat)):Bool :=
 (Y0 is).all fun p=>let R:=Region.ready .any ops (I8 p.1 listed);!R.isEmpty && R.all fun i=>has i p.2 || b1x i p.1 rs
def S5 (is:List Nat):List VE→List VE
 | []=>[]
 | e :: V=>bif has e.i is then e :: S5 is V else S5 is V
def O8 (is:List Nat):List VE→List VE
 | []=>[]
 | e :: V=>bif has e.i is then O8 is V else e :: O8 is V
theorem a1g {is:List Nat} {e:VE}:∀ {V:List VE},e∈S5 is V↔e∈V∧e.i∈is
 | []=>by simp [S5]
 | e0 :: V=>by
  simp only [S5]
  cases h:has e0.i is with
  | true =>
   have:=V0.1 h
   simp only [cond_true,List.mem_cons,a1g (V:=V)]
   constructor
   ·rintro (rfl | ⟨h1,h2⟩)
    ·exact ⟨.inl rfl,this⟩
    ·exact ⟨.inr h1,h2⟩
   ·rintro ⟨rfl | h1,h2⟩
    ·exact .inl rfl
    ·exact .inr ⟨h1,h2⟩
  | false =>
   have:e0.i∉is:=fun hh=>by rw [V0.2 hh] at h;cases h
   simp only [cond_false,List.mem_cons,a1g (V:=V)]
   constructor
   ·rintro ⟨h1,h2⟩;exact ⟨.inr h1,h2⟩
   ·rintro ⟨rfl | h1,h2⟩
    ·exact absurd h2 this
    ·exact ⟨h1,h2⟩
theorem R0 {is:List Nat} {e:VE}:∀ {V:List VE},e∈O8 is V↔e∈V∧e.i∉is
 | []=>by simp [O8]
 | e0 :: V=>by
  simp only [O8]
  cases h:has e0.i is with
  | true =>
   have:=V0.1 h
   simp only [cond_true,List.mem_cons,R0 (V:=V)]
   constructor
   ·rintro ⟨h1,h2⟩;exact ⟨.inr h1,h2⟩
   ·rintro ⟨rfl | h1,h2⟩
    ·exact absurd this h2
    ·exact ⟨h1,h2⟩
  | false =>
   have:e0.i∉is:=fun hh=>by rw [V0.2 hh] at h;cases h
   simp only [cond_false,List.mem_cons,R0 (V:=V)]
   constructor
   ·rintro (rfl | ⟨h1,h2⟩)
    ·exact ⟨.inl rfl,this⟩
    ·exact ⟨.inr h1,h2⟩
   ·rintro ⟨rfl | h1,h2⟩
    ·exact .inl rfl
    ·exact .inr ⟨h1,h2⟩
theorem a4w {is:List Nat} {R:VE→VE→Prop}:∀ {V:List VE},V.Pairwise R→(O8 is V).Pairwise R
 | [],h=>h
 | e :: V,h=>by
  rw [List.pairwise_cons] at h
  simp only [O8]
  cases has e.i is with
  | true=>exact a4w h.2
  | false=>exact .cons (fun x hx=>h.1 x (R0.1 hx).1) (a4w h.2)
theorem Split.rem {is:List Nat} {V F U:List VE} (h:Split V F U):(∀ e∈U,e.i∉is)→Split (O8 is V) (O8 is F) U:=by
 induction h with
 | nil=>intro _;exact .nil
 | @sel e V F U _ ih =>
  intro hU
  simp only [O8]
  cases has e.i is with
  | true=>exact ih hU
  | false=>exact .sel (ih hU)
 | @uns e V F U _ ih =>
  intro hU
  simp only [O8]
  cases h:has e.i is with
  | true=>exact absurd (V0.1 h) (hU e (by simp))
  | false=>exact .uns (ih fun x hx=>hU x (by simp [hx]))
theorem Split.disj {V F U:List VE} (h:Split V F U) {f:VE→Nat}:V.Pairwise (fun a b=>f a≠f b)→∀ x∈F,∀ y∈U,f x≠f y:=by
 induction h with
 | nil=>intro _ x hx;cases hx
 | @sel e V F U hs ih =>
  intro hp x hx y hy
  rw [List.pairwise_cons] at hp
  rcases List.mem_cons.1 hx with rfl | hx
  ·exact hp.1 y (hs.memU y hy)
  ·exact ih hp.2 x hx y hy
 | @uns e V F U hs ih =>
  intro hp x hx y hy
  rw [List.pairwise_cons] at hp
  rcases List.mem_cons.1 hy with rfl | hy
  ·exact Ne.symm (hp.1 x (hs.memF x hx))
  ·exact ih hp.2 x hx y hy
def Y9 (d:Option Nat):List VE→Bool
 | []=>true
 | e :: V=>(match d with | some d=>!Nat.beq d e.d | none=>true) && Y9 d V
theorem a2h {d:Option Nat}:∀ {V:List VE},Y9 d V=true→∀ e∈V,d≠some e.d
 | [],_,e,h=>by cases h
 | e0 :: V,h,e,he=>by
  simp only [Y9,Bool.and_eq_true] at h
  rcases List.mem_cons.1 he with rfl | he
  ·intro e1;subst e1;simp [Nat.beq_refl] at h
  ·exact a2h h.2 e he
def VStep (P:Program) [Env P] (b:Base) (ops:Array Oper) (m0:List (Nat×Option Row)) (fuel:Nat) (listed:Array Bool) (S:St) (V:List VE) (K:St→Prop) (j:Nat) (is:List Nat):Prop :=
 ∃ o S1 ms,ops[j]?=some o∧o.guard=none∧(∀ b':Base,[EnvAt P b']→b'.n0=b.n0→WX P b' ops o [] ⟨frT (S5 is V) S.T,frM (S5 is V) S.m,S.nx,S.nt⟩ (nq (fun S'=>S'=S1)))∧Nat.ble S.nx S1.nx=true∧V3 b.n0 S1.nx S1.nt (O8 is V) S1.T S1.m=true∧Y9 o.dst (O8 is V)=true∧I7 b.n0 S1.m ms []=some m0 ∧
  WAV P b ops m0 fuel ((I8 is listed).setIfInBounds j true) S1 (O8 is V) K
theorem VStep.mk {S:St} {j:Nat} {is:List Nat} (ms:List Nat) {o:Oper} {S1:St} (ho:ops[j]?=some o) (hg:o.guard=none) (hx:∀ b':Base,[EnvAt P b']→b'.n0=b.n0→WX P b' ops o [] ⟨frT (S5 is V) S.T,frM (S5 is V) S.m,S.nx,S.nt⟩ (nq (fun S'=>S'=S1))) (hn:Nat.ble S.nx S1.nx=true) (hv:V3 b.n0 S1.nx S1.nt (O8 is V) S1.T S1.m=true) (hd:Y9 o.dst (O8 is V)=true) (hk:I7 b.n0 S1.m ms []=some m0)
 (h:WAV P b ops m0 fuel ((I8 is listed).setIfInBounds j true) S1 (O8 is V) K):VStep P b ops m0 fuel listed S V K j is:=⟨o,S1,ms,ho,hg,hx,hn,hv,hd,hk,h⟩
def AllVS (P:Program) [Env P] (b:Base) (ops:Array Oper) (m0:List (Nat×Option Row)) (fuel:Nat) (listed:Array Bool) (S:St) (V:List VE) (K:St→Prop):List (Nat×List Nat)→Prop
 | []=>True
 | (j,is) :: r=>VStep P b ops m0 fuel listed S V K j is∧AllVS P b ops m0 fuel listed S V K r
theorem AllVS.get {S:St} {F:List Nat} {i:Nat}:∀ {rs:List (Nat×List Nat)},AllVS P b ops m0 fuel listed S V K rs→b1x i F rs=true→∃ is,(∀ c∈is,c∈F)∧VStep P b ops m0 fuel listed S V K i is
 | [],_,h=>by cases h
 | (j,C) :: r,hA,h=>by
  simp only [b1x,Bool.or_eq_true,Bool.and_eq_true] at h
  rcases h with ⟨h1,h2⟩ | h
  ·have:=Nat.eq_of_beq_eq_true h1
   subst this
   refine ⟨C,?_,hA.1⟩
   clear hA h1
   induction C with
   | nil=>intro c hc;cases hc
   | cons c0 C ih =>
    simp only [b0k,Bool.and_eq_true] at h2
    intro c hc
    rcases List.mem_cons.1 hc with rfl | hc
    ·exact V0.1 h2.1
    ·exact ih h2.2 c hc
  ·exact AllVS.get hA.2 h
theorem AllVS.nil {S:St}:AllVS P b ops m0 fuel listed S V K []:=trivial
theorem AllVS.cons {S:St} {j:Nat} {is:List Nat} {r:List (Nat×List Nat)} (h:VStep P b ops m0 fuel listed S V K j is) (h':AllVS P b ops m0 fuel listed S V K r):AllVS P b ops m0 fuel listed S V K ((j,is) :: r):=⟨h,h'⟩
theorem a8O [EnvAt P b] {rs:List (Nat×List Nat)} (hV:VFree b.n0 nx nt V T m) (hD:VDist V) (hok:∀ e∈V,VOK P ops e) (hchk:b4b ops listed (V.map VE.i) rs=true) (hA:AllVS P b ops m0 fuel listed ⟨T,m,nx,nt⟩ V K rs) (hs:Split V F U)
 (ih:∀ F' U',Split V F' U'→U'.length+1=U.length→WA P b ops m0 (fuel+1+U'.length) (I8 (F'.map VE.i) listed) ⟨frT F' T,frM F' m,nx,nt⟩ K):WA P b ops m0 (fuel+1+U.length) (I8 (F.map VE.i) listed) ⟨frT F T,frM F m,nx,nt⟩ K:=by
 intro hns ρ a w hT hC hS
 have hc0:=(List.all_eq_true.1 hchk) _ hs.inN
 simp only [Bool.and_eq_true,Bool.not_eq_true'] at hc0
 obtain ⟨hne,hall⟩:=hc0
 rw [show fuel+1+U.length=(fuel+U.length)+1 by omega]
 refine wpAnyH_all rfl (fun h=>by rw [h] at hne;cases hne) fun i hi=>?_
 have hcase:=(List.all_eq_true.1 hall) i hi
 rw [Bool.or_eq_true] at hcase
 rcases hcase with hcase | hcase
 ·obtain ⟨e,he,rfl⟩:=List.mem_map.1 (V0.1 hcase)
  have hnF:e∉F:=fun h=>hs.disj (f:=VE.id) hD.id e h e he rfl
  obtain ⟨F',U',h1,h2,h3⟩:=hs.move he
  obtain ⟨o,y,w',ρ',g1,g2,g3,g4,g5,g6,g7⟩:=a9E hV hD hok hs he hnF hT hC h1 h3
  unfold wpOp
  simp only [g1]
  rw [if_pos (by simp [Region.wanted,g2])]
  refine .inl ?_
  unfold Oper.wp
  rw [g4,Oper.upon_value,g3]
  have hS':Cls b m0 w':=RelC.trans hS g7
  refine ⟨hS',?_⟩
  have hm:(I8 (F.map VE.i) listed).setIfInBounds e.i true=I8 (F'.map VE.i) listed:=by
   rw [a2R]
   refine a51 fun k=>?_
   simp only [List.mem_cons,List.mem_map]
   constructor
   ·rintro (rfl | ⟨x,hx,rfl⟩)
    ·exact ⟨e,(h3 e).2 (.inl rfl),rfl⟩
    ·exact ⟨x,(h3 x).2 (.inr hx),rfl⟩
   ·rintro ⟨x,hx,rfl⟩
    rcases (h3 x).1 hx with rfl | hx
    ·exact .inl rfl
    ·exact .inr ⟨x,hx,rfl⟩
  rw [hm,show fuel+U.length=fuel+1+U'.length by omega]
  exact ih F' U' h1 h2 hns ρ' _ w' g5 g6 hS'
 ·obtain ⟨is,hisF,o,S1,ms,ho,hg,hx,hnx,hvf,hdn,hkm,hW⟩:=hA.get hcase
  have hR:=VFree.of hvf
  have hisFe:∀ e∈V,e.i∈is→e∈F:=fun e he hi'=>by
   obtain ⟨x,hx',hxe⟩:=List.mem_map.1 (hisF _ hi')
   rw [← a6w hD.i (hs.memF x hx') he hxe];exact hx'
  have hUis:∀ e∈U,e.i∉is:=fun e he hi'=>hs.disj (f:=VE.id) hD.id e (hisFe e (hs.memU e he) hi') e he rfl
  have hsp:=hs.rem (is:=is) hUis
  have hR2:VFree b.n0 S1.nx S1.nt (O8 is F) S1.T S1.m:=by
   have hsub:∀ e∈O8 is F,e∈O8 is V:=hsp.memF
   exact ⟨fun e he=>hR.lt e (hsub e he),fun e he=>hR.dlt e (hsub e he),fun e he=>hR.n0 e (hsub e he),fun e he=>hR.mm e (hsub e he),fun e he=>hR.fm e (hsub e he),fun e he=>hR.ft e (hsub e he),fun e he=>hR.kt e (hsub e he)⟩
  have hfr:=a73 (F:=F) (C:=S5 is V) (R:=O8 is F) (Q':=a0t b (nq K)) hV hD hok hs.memF (hs.pw hD.id) (hs.pw hD.d) (fun e he=>hisFe e (a1g.1 he).1 (a1g.1 he).2) (fun e he=>⟨(R0.1 he).1,fun h=>(R0.1 he).2 (a1g.1 h).2⟩) hx (Nat.le_of_ble_eq_true hnx) hR2 (fun e he=>a2h hdn e (hsp.memF e he)) (a4w (hs.pw hD.id)) (a4w (hs.pw hD.d)) hT hC
  unfold wpOp
  simp only [ho]
  rw [if_pos (by simp [Region.wanted,hg])]
  refine .inl ?_
  unfold Oper.wp at hfr ⊢
  refine upon_mono hfr fun a' w' ⟨ρ'',k1,k2⟩=>?_
  have hS':Cls b m0 w':=by
   refine RelC.cls (ms:=ms) (k2.sub fun i r hi=>?_) hkm
   rw [X9 fun e he e1=>by rw [← e1,hR2.mm e he] at hi;cases hi]
   exact hi
  refine ⟨hS',?_⟩
  have hm:(I8 (F.map VE.i) listed).setIfInBounds i true=I8 ((O8 is F).map VE.i) ((I8 is listed).setIfInBounds i true):=by
   rw [a2R,a2R,a9C]
   refine a51 fun k=>?_
   simp only [List.mem_cons,List.cons_append,List.mem_append,List.mem_map]
   constructor
   ·rintro (rfl | ⟨x,hx,rfl⟩)
    ·exact .inl rfl
    ·by_cases hxi:x.i∈is
     ·exact .inr (.inl hxi)
     ·exact .inr (.inr ⟨x,R0.2 ⟨hx,hxi⟩,rfl⟩)
   ·rintro (rfl | hk | ⟨x,hx,rfl⟩)
    ·exact .inl rfl
    ·obtain ⟨x,hx,hxe⟩:=List.mem_map.1 (hisF _ hk)
     exact .inr ⟨x,hx,hxe⟩
    ·exact .inr ⟨x,(R0.1 hx).1,rfl⟩
  rw [hm]
  exact hW _ _ hsp hns ρ'' a' w' k1 k2 hS'
where
 upon_mono {o:Oper} {a:Act} {n n':Act→World→Prop} {Q:Exit→Act→World→Prop} {r:Result Next} (h:o.upon P a n Q r) (hn:∀ a w,n a w→n' a w):o.upon P a n' Q r:=by
  cases r with
  | ok x w' =>
   cases x<;>simp only [Oper.upon] at h ⊢
   case value v=>exact hn _ _ h
   case skip=>exact hn _ _ h
   case defer d=>exact hn _ _ h
   case enter f args =>
    refine h.mono fun e w'' he=>?_
    cases e with
    | returned u=>exact hn _ _ he
    | panicked c=>exact he
    | outgrown=>exact he
   case row row args=>exact Rows.mono h fun u w'' he=>hn _ _ he
  | halt x w'=>cases x<;>exact h
theorem n6 [EnvAt P b] (rs:List (Nat×List Nat)) (hV0:V3 b.n0 nx nt V T m=true) (hD0:a42 V=true) (hok:∀ e∈V,VOK P ops e) (hchk:b4b ops listed (V.map VE.i) rs=true) (hA:AllVS P b ops m0 fuel listed ⟨T,m,nx,nt⟩ V K rs):WAV P b ops m0 (fuel+1) listed ⟨T,m,nx,nt⟩ V K:=by
 have main:∀ n F U,Split V F U→U.length=n→WA P b ops m0 (fuel+1+U.length) (I8 (F.map VE.i) listed) ⟨frT F T,frM F m,nx,nt⟩ K:=by
  intro n
  induction n with
  | zero=>intro F U hs hl;exact a8O (VFree.of hV0) (VDist.of hD0) hok hchk hA hs fun F' U' _ h=>by omega
  | succ n ih=>intro F U hs hl;exact a8O (VFree.of hV0) (VDist.of hD0) hok hchk hA hs fun F' U' hs' h=>ih F' U' hs' (by omega)
 exact fun F U hs=>main _ F U hs rfl
theorem VOK.lit {tb:List (Nat×TyI)} {o:Oper} {t e sz by_ d i id:Nat} {zs:List Value} (G:Good P tb) (ho:ops[i]?=some o) (hg:o.guard=none) (hd:o.dst=some d) (hop:o.op=.buildSlice t 0 #[]) (ht:look t tb=some (.slice e sz by_ zs)):VOK P ops ⟨i,d,id,false,.row e sz []⟩:=by
 refine ⟨o,ho,hg,hd,rfl,fun _ _ _=>rfl,fun ρ w=>?_⟩
 have hrun:=U5 (G t _ ht) [] (by simp) (by simp) w
 refine ⟨.slice (some ⟨w.heap.size,0,none⟩) 0 0,w.alloc (.cells #[] e),?_,(Below.refl _ _).alloc (Nat.le_refl _) _,fun b hb=>(by simp [blk] at hb;omega),fun h=>(by cases h),fun B r nx hB hr=>?_⟩
 ·simp only [execOp,hop,Sem.run_bind]
  simp at hrun
  simp [hrun]
 ·simp only [RowRel]
  rw [hr]
  refine ⟨⟨by simp,.inr ⟨w.heap.size,0,#[],rfl,hB,Go.heap_alloc_new w _,Nat.le_refl _,Nat.zero_le _,by simp,by simp⟩⟩,by simp⟩
theorem b0l:∀ (zs:List Value),F0 0 (avR zs [])=true:=fun zs=>by
 rw [a07]
 induction zs with
 | nil=>rfl
 | cons z zs ih=>simpa [F0,v5] using ih
theorem VOK.box {o:Oper} {t d i id:Nat} {zs:List Value} (ho:ops[i]?=some o) (hg:o.guard=none) (hd:o.dst=some d) (hop:o.op=.alloc t) (hone:∀ u∈zs,u.oneCell'=true) (hz:∃ inf z,P.info? t=some inf∧inf.zero=some z∧z.cells=zs.toArray):VOK P ops ⟨i,d,id,true,.box (avR zs [])⟩:=by
 obtain ⟨inf,z,h1,h2,h3⟩:=hz
 refine ⟨o,ho,hg,hd,b0l zs,fun _ _ _=>rfl,fun ρ w=>⟨.pointer (some ⟨w.heap.size,0,none⟩),w.alloc (.cells zs.toArray t),?_,(Below.refl _ _).alloc (Nat.le_refl _) _,fun b hb=>(by simp [blk] at hb;omega),fun _=>⟨_,rfl⟩,fun B r nx hB hr=>?_⟩⟩
 ·simp [execOp,hop,Instr.alloc,zeroValue,typeInfo,h1,h2,newVar,newRow,h3]
 ·refine ⟨w.heap.size,zs.toArray,t,hr,hB,Go.heap_alloc_new w _,?_,by simpa using hone⟩
  rw [a07];simpa using RelVs.map_v zs
theorem VOK.boxS {tb:List (Nat×TyI)} {o:Oper} {t d i id:Nat} {fs:List (Nat×Nat)} {zs:List Value} (G:Good P tb) (ho:ops[i]?=some o) (hg:o.guard=none) (hd:o.dst=some d) (hop:o.op=.alloc t) (ht:look t tb=some (.struct fs zs)):VOK P ops ⟨i,d,id,true,.box (avR zs [])⟩:=by
 obtain ⟨fields,inf,_,hi,_,hz,h1,_⟩:=G t _ ht
 exact VOK.box ho hg hd hop h1 ⟨inf,_,hi,hz,by simp [Value.cells]⟩
theorem VOK.make {tb:List (Nat×TyI)} {o:Oper} {t e sz by_ d i id n:Nat} {zs:List Value} {kl kc:IntKind} (G:Good P tb) (ho:ops[i]?=some o) (hg:o.guard=none) (hd:o.dst=some d) (hop:o.op=.makeSlice t (.const (.int kl n)) (.const (.int kc n))) (ht:look t tb=some (.slice e sz by_ zs)) (hb:by_ * n≤281474976710656) (hn:n≤9223372036854775807):VOK P ops ⟨i,d,id,false,.row e sz (List.replicate n zs)⟩:=by
 obtain ⟨hu,_,inf,z,hi,hs,hby,hz,hzc,hzl,hpos,hone⟩:=G t _ ht
 subst hby;subst hs
 refine ⟨o,ho,hg,hd,rfl,fun _ _ _=>rfl,fun ρ w=>?_⟩
 obtain ⟨w',hr,_,hgr⟩:=run_make_full (P:=P) w 0 t e inf z inf.size hu hi hz rfl kl kc n hb (by unfold maxLen;exact hn) (Nat.zero_le _)
 have hb2:Below w.heap.size w w':=(Below.refl _ _).grown hgr (Nat.le_refl _) (by simp)
 refine ⟨.slice (some ⟨w.heap.size,0,none⟩) n n,w',?_,hb2,fun b hb=>(by simp [blk] at hb;omega),fun h=>(by cases h),fun B r nx hB hr'=>?_⟩
 ·simp only [execOp,hop,Sem.run_bind]
  simp [Act.eval,hr]
 ·obtain ⟨w2,hr2,hown,_⟩:=run_make_full (P:=P) w B.heap.size t e inf z inf.size hu hi hz rfl kl kc n hb (by unfold maxLen;exact hn) hB
  have e2:w2=w':=by rw [hr] at hr2;cases hr2;rfl
  subst e2
  refine ⟨?_,fun c hc=>by rw [(List.mem_replicate.1 hc).2];exact ⟨hzl,hone⟩⟩
  rw [OwnR.no,hr',List.length_replicate]
  rw [hzc,← hzl,a5S (by omega)] at hown
  rw [hzl] at hown
  exact hown
theorem z8 {N:Nat} (hn:Nat.ble nx N=true) (h:WA P b ops m0 fuel listed ⟨T,m,N,nt⟩ K):WA P b ops m0 fuel listed ⟨T,m,nx,nt⟩ K:=by
 intro hs ρ a w hT hC hS
 have hn:=Nat.le_of_ble_eq_true hn
 refine h hs ρ a w ⟨fun t x hx=>(hT.tmps t x hx).mono hn (fun _ _=>rfl),hT.size,hT.defers⟩ ⟨fun id r hr=>?_,hC.apart,hC.below,⟨Nat.le_trans hC.pin.1 hn,hC.pin.2⟩,hC.kept,hC.inner⟩ hS
 obtain ⟨h1,h2⟩:=hC.rows id r hr
 exact ⟨Nat.lt_of_lt_of_le h1 hn,h2.mono hn (fun _ _=>rfl) h1⟩
theorem AllVOK.cons {e:VE} {V:List VE} (h:VOK P ops e) (h':∀ e∈V,VOK P ops e):∀ x∈e :: V,VOK P ops x:=fun x hx=>by rcases List.mem_cons.1 hx with rfl | hx;exact h;exact h' x hx
theorem AllVOK.nil:∀ x∈([]:List VE),VOK P ops x:=fun x hx=>by cases hx
end
end Go.Rf
namespace Go.Rf
open Go
section
variable {α:Type} [Inhabited α] {f:α→List Value} {g g':Nat→α} {n k:Nat}
end
structure Route where
 p:Int
 t:Int
 deriving Inhabited,DecidableEq
def u7 (x:Route):List Value:=[.int .i64 x.p,.int .i64 x.t]
def b0m (x:Route):Value:=.agg ⟨u7 x⟩
structure MStep where
 k:Int
 q:Int
 c:Int
 v:Int
 deriving Inhabited,DecidableEq
def a4c (x:MStep):List Value:=[.int .i64 x.k,.int .i64 x.q,.int .i64 x.c,.int .i64 x.v]
def a0g (x:MStep):Value:=.agg ⟨a4c x⟩
structure Abs where
 en:List Bool
 ra:List Bool
 po:List Bool
 ma:List Int
 st:List (List Int)
 deriving Inhabited,DecidableEq
def s1 (l:List Int):List CI:=[.l 3 1 (l.map r5)]
def lenN (xss:List (List Int)):Nat→Int
 | 0=>0
 | i+1=>lenN xss i+(xss.getD i default).length
theorem a52 {xss:List (List Int)} {i:Nat}:lenN xss (i+1)=lenN xss i+(xss.getD i default).length:=rfl
structure SmallA (a:Abs):Prop where
 en:a.en.length≤1048576
 ra:a.ra.length≤1048576
 po:a.po.length≤1048576
 ma:a.ma.length≤1048576
 st:a.st.length≤1048576
 all:∀ i,i < a.st.length→(a.st.getD i default).length≤1048576
 sum:lenN a.st a.st.length≤1048576
def a45 (c:Int) (r:Route):Bool:=u4 r.p 0 15 && u4 r.t 0 (c - 1)
def okRts (rs:List Route) (c:Int):Bool:=u4 c 1 2 && (decide (rs.length=8) && I0 rs.length (fun i=>a45 c (rs.getD i default)))
def prI (rs:List Route) (x:Int):Int:=(rs.getD x.toNat default).p
def tgI (rs:List Route) (x:Int):Int:=(rs.getD x.toNat default).t
def elS (rs:List Route) (l:List Int) (c:Nat) (i:Nat):Bool:=u4 (l.getD i default) 0 7 && (decide (tgI rs (l.getD i default)=c) && (decide (i=0) || decide (prI rs (l.getD i default) < prI rs (l.getD (i - 1) default))))
def elP (po:List Bool) (l:List Int) (i:Nat):Bool:=!(po.getD (l.getD i default).toNat default)
def stG (rs:List Route) (l:List Int) (c:Nat):Bool:=I0 l.length (elS rs l c) && decide (l.length≤4)
def V4 (rs:List Route) (a:Abs) (k:Nat):Bool:=u4 (a.ma.getD k default) 0 16 && (stG rs (a.st.getD k default) k && I0 (a.st.getD k default).length (elP a.po (a.st.getD k default)))
def a7f (a:Abs):Bool:=decide (a.st.length=a.ma.length) && (decide (a.en.length=8) && (decide (a.ra.length=8) && decide (a.po.length=8)))
def v8 (rs:List Route) (a:Abs):Bool:=okRts rs a.ma.length && (a7f a && I0 a.ma.length (V4 rs a))
theorem z4 {rs:List Route} {c:Int}:okRts rs c=true↔(1≤c∧c≤2)∧rs.length=8∧∀ i,i < 8→(0≤(rs.getD i default).p∧(rs.getD i default).p≤15)∧0≤(rs.getD i default).t∧(rs.getD i default).t≤c - 1:=by
 simp only [okRts,Bool.and_eq_true,p6,decide_eq_true_eq,w8,a45]
 constructor
 ·rintro ⟨h1,h2,h3⟩;exact ⟨h1,h2,fun i hi=>h3 i (by omega)⟩
 ·rintro ⟨h1,h2,h3⟩;exact ⟨h1,h2,fun i hi=>h3 i (by omega)⟩
theorem s9 {a:Abs}:a7f a=true↔a.st.length=a.ma.length∧a.en.length=8∧a.ra.length=8∧a.po.length=8:=by
 simp only [a7f,Bool.and_eq_true,decide_eq_true_eq]
theorem I1 {rs:List Route} {l:List Int} {c i:Nat}:elS rs l c i=true↔(0≤l.getD i default∧l.getD i default≤7)∧tgI rs (l.getD i default)=c∧(i=0∨prI rs (l.getD i default) < prI rs (l.getD (i - 1) default)):=by
 simp only [elS,Bool.and_eq_true,p6,decide_eq_true_eq,Bool.or_eq_true]
end Go.Rf
namespace Go.Rf
structure BigA (a:Abs):Prop where
 en:a.en.length≤9223372036854775807
 ra:a.ra.length≤9223372036854775807
 po:a.po.length≤9223372036854775807
 ma:a.ma.length≤9223372036854775807
 st:a.st.length≤9223372036854775807
 all:∀ i,i < a.st.length→(a.st.getD i default).length≤9223372036854775807
theorem SmallA.big {a:Abs} (h:SmallA a):BigA a:=⟨by have:=h.en;omega,by have:=h.ra;omega,by have:=h.po;omega,by have:=h.ma;omega,by have:=h.st;omega,fun i hi=>by have:=h.all i hi;omega⟩
theorem b5a {n:Nat}:((n:Int)==8)=decide (n=8):=by
 by_cases h:n=8
 ·subst h;rfl
 ·have:¬ ((n:Int)=8):=by omega
  simp [h,this]
theorem le4 {n:Nat}:decide ((n:Int)≤4)=decide (n≤4):=by
 by_cases h:n≤4
 ·have:(n:Int)≤4:=by omega
  simp [h,this]
 ·have:¬ ((n:Int)≤4):=by omega
  simp [h,this]
theorem S0 {rs:List Route} {l:List Int} {c i:Nat} (h:¬ ((0≤l.getD i default∧l.getD i default≤7)∧tgI rs (l.getD i default)=c∧(i=0∨prI rs (l.getD i default) < prI rs (l.getD (i - 1) default)))):elS rs l c i=false:=by
 rw [← Bool.not_eq_true,I1];exact h
theorem a7g {po:List Bool} {l:List Int} {i:Nat}:elP po l i=true↔po.getD (l.getD i default).toNat default=false:=by simp [elP]
theorem J3 {po:List Bool} {l:List Int} {i:Nat}:elP po l i=false↔po.getD (l.getD i default).toNat default=true:=by simp [elP]
theorem A4 {rs:List Route} {a:Abs} {k:Nat} (h:u4 (a.ma.getD k default) 0 16=false):V4 rs a k=false:=by simp only [V4,h,Bool.false_and]
theorem G0 {rs:List Route} {a:Abs} {k:Nat} (h:4 < (a.st.getD k default).length):V4 rs a k=false:=by
 have:decide ((a.st.getD k default).length≤4)=false:=by simp;simpa using h
 simp only [V4,stG,this,Bool.and_false,Bool.false_and]
theorem L4 {rs:List Route} {a:Abs} {k i:Nat} (h:elS rs (a.st.getD k default) k i=false) (hi:i < (a.st.getD k default).length):V4 rs a k=false:=by
 have:I0 (a.st.getD k default).length (elS rs (a.st.getD k default) k)=false:=L9 h hi
 simp only [V4,stG,this,Bool.false_and,Bool.and_false]
theorem A5 {rs:List Route} {a:Abs} {k i:Nat} (h:elP a.po (a.st.getD k default) i=false) (hi:i < (a.st.getD k default).length):V4 rs a k=false:=by
 have:I0 (a.st.getD k default).length (elP a.po (a.st.getD k default))=false:=L9 h hi
 simp only [V4,this,Bool.and_false]
theorem b0n {rs:List Route} {a:Abs} {k:Nat} (h1:u4 (a.ma.getD k default) 0 16=true) (h2:(a.st.getD k default).length≤4) (h3:∀ j,j < (a.st.getD k default).length→elS rs (a.st.getD k default) k j=true) (h4:∀ j,j < (a.st.getD k default).length→elP a.po (a.st.getD k default) j=true):V4 rs a k=true:=by
 simp only [V4,stG,h1,w8.mpr h3,w8.mpr h4,Bool.true_and,Bool.and_true,decide_eq_true_eq]
 exact h2
theorem j6 {rs:List Route} {a:Abs} {k:Nat} (h:V4 rs a k=false) (hk:k < a.ma.length):v8 rs a=false:=by
 have:I0 a.ma.length (V4 rs a)=false:=L9 h hk
 simp only [v8,this,Bool.and_false]
theorem z9 {rs:List Route} {a:Abs} (h1:okRts rs a.ma.length=true) (h2:a7f a=true) (h3:∀ j,j < a.ma.length→V4 rs a j=true):v8 rs a=true:=by
 simp only [v8,h1,h2,w8.mpr h3,Bool.true_and]
theorem A6 {rs:List Route} {a:Abs} (h:okRts rs a.ma.length=false):v8 rs a=false:=by simp only [v8,h,Bool.false_and]
theorem A7 {rs:List Route} {a:Abs} (h:¬ (a.st.length=a.ma.length∧a.en.length=8∧a.ra.length=8∧a.po.length=8)):v8 rs a=false:=by
 have:a7f a=false:=by rw [← Bool.not_eq_true,s9];exact h
 simp only [v8,this,Bool.false_and,Bool.and_false]
theorem I2 {x a b:Int} (h:u4 x a b=false):¬ (a≤x∧x≤b):=fun hh=>by rw [p6.mpr hh] at h;exact absurd h (by decide)
theorem a7h {rs:List Route} {l:List Int} {c:Nat} (h:stG rs l c=true):(∀ j,j < l.length→elS rs l c j=true)∧l.length≤4:=by
 simp only [stG,Bool.and_eq_true,decide_eq_true_eq,w8] at h
 exact h
theorem S6 {rs:List Route} {a:Abs} {k:Nat} (h:stG rs (a.st.getD k default) k=false):V4 rs a k=false:=by simp only [V4,h,Bool.false_and,Bool.and_false]
theorem b1y {rs:List Route} {a:Abs} {k:Nat} (h1:u4 (a.ma.getD k default) 0 16=true) (h2:stG rs (a.st.getD k default) k=true) (h4:∀ j,j < (a.st.getD k default).length→elP a.po (a.st.getD k default) j=true):V4 rs a k=true:=by
 simp only [V4,h1,h2,w8.mpr h4,Bool.and_self]
end Go.Rf
namespace Go.Rf
open Go Go.RowKit
structure CtrE (P:Program) [Env P] {α:Type} (f:FuncId) (args:List AV) (res:α→Res):Prop where
 callable:Callable P f
 calls:∀ w vs,Env.E P w→RelVs w noRho 0 args vs→Calls P f vs.toArray w fun e w'=>∃ x:α,∃ v,e=.returned v∧ResRel w.heap.size w' (res x) v∧Below w.heap.size w w'
def b4c {α:Type} (tb:List (Nat×TyI)) (rs:List ResultVar) (res:α→Res):Exit→St→Prop:=fun e S=>∃ x,Fin tb rs (res x) e S
theorem b2O {α:Type} {tb:List (Nat×TyI)} {rs:List ResultVar} {res:α→Res} {e:Exit} {S:St} (x:α) (h:Fin tb rs (res x) e S):b4c tb rs res e S:=⟨x,h⟩
section
variable {P:Program} [Env P] {w0:Base} {ops:Array Oper} {tb:List (Nat×TyI)} {o:Oper} {rest:List Oper} {T:List (Nat×AV)} {m:List (Nat×Option Row)} {nx nt d:Nat} {Q:Exit→St→Prop} {c:Code}
theorem CtrE.of {α:Type} {res:α→Res} (G:Good P tb) {f:FuncId} {fn:Func} {c:Code} {args:List AV} {l:List ResultVar} {n:Nat} (hf:P.funcs[f]?=some fn) (hb:fn.body=some c) (hname:(fn.name == "runtime.NumGoroutine")=false) (hl:fn.results=l.toArray) (hn:fn.ntmps=n)
 (hlen:Nat.ble args.length n=true) (h:∀ w0:Base,[NoPin w0]→[EnvAt P w0]→W P w0 c ⟨a4h args 0,[],0,n⟩ (b4c tb l res)):CtrE P f args res:=by
 refine ⟨⟨fn,hf,hname,by rw [hb];rfl⟩,fun w vs henv hrel=>?_⟩
 have hlen':args.length≤n:=Nat.le_of_ble_eq_true hlen
 have hvl:=RelVs.length _ hrel
 refine calls_of_wp hf hb ?_
 let b0:Base:=⟨w,0,noRho,w,fun _=>False,fun _ h=>h.elim,Env.E P,fun w' hb=>Env.mono henv hb⟩
 have hC:RelC b0 noRho [] 0 w:=⟨fun id r hr=>by simp [mem,look] at hr,fun id id' r r' hr=>by simp [mem,look] at hr,Below.refl _ _,⟨Nat.le_refl _,fun i hi=>by cases hi⟩,⟨Nat.le_refl _,fun b h=>h.elim,fun id r hr=>by simp [mem,look] at hr⟩,fun id r hr=>by simp [mem,look] at hr⟩
 have hnp:NoPin b0:=⟨rfl⟩
 have hen:EnvAt P b0:=⟨rfl⟩
 have hT:RelT w noRho (a4h args 0) 0 n { tmps:=vs.toArray++Array.replicate (fn.ntmps - vs.toArray.size) undef,defers:=[] }:=by
  refine ⟨fun t x hx=>?_,by simp [hn];omega,rfl⟩
  obtain ⟨u,_,h2,h3⟩:=a1I hrel t x hx
  have hlt:t < vs.length:=by
   rcases Nat.lt_or_ge t vs.length with hlt | hge
   ·exact hlt
   ·rw [Nat.sub_zero,List.getElem?_eq_none hge] at h2;cases h2
  have:(vs.toArray++Array.replicate (fn.ntmps - vs.toArray.size) undef).getD t undef=u:=by
   rw [Array.getD_eq_getD_getElem?,Array.getElem?_append_left (by simpa using hlt)]
   simp only [Nat.sub_zero] at h2
   simp [h2]
  rw [this]
  exact h3
 refine wp_mono (h b0 noRho _ w hT hC) ?_
 have fin:∀ (x:α) (ρ:Nat→Value) (S:St) (a:Act) (w':World) (avs:List AV),O9 tb S l []=some avs→ResOK S.m avs (res x)→RelT w ρ S.T S.nx S.nt a→RelC b0 ρ S.m S.nx w' →
  a.defers=[]∧∃ v,(results fn a.tmps).run P w'=.ok v w'∧∃ x:α,∃ u,Ending.returned v=.returned u∧ResRel w.heap.size w' (res x) u∧Below w.heap.size w w':=by
  intro x ρ S a w' avs h1 h2 hT' hC'
  obtain ⟨ys,avs',e1,e2,e3⟩:=U7 G hT' hC' h1
  simp at e1
  subst e1
  exact ⟨hT'.defers,_,X6 hl e3,x,_,rfl,(ResOK.parts hC' h2 e2).rel,hC'.below⟩
 rintro e a w' ⟨ρ,S,⟨x,hq⟩,hT',hC'⟩
 cases e<;>simp only [Fin] at hq
 case normal=>obtain ⟨avs,h1,h2⟩:=hq;exact fin x ρ S a w' avs h1 h2 hT' hC'
 case ret=>obtain ⟨avs,h1,h2⟩:=hq;exact fin x ρ S a w' avs h1 h2 hT' hC'
theorem a46 [EnvAt P w0] {α:Type} {res:α→Res} {f:FuncId} {as:Array Operand} {ts:Array TypeId} {args:List AV} {r:α→AV} {m':α→List (Nat×Option Row)} {n1:Nat} (nx':Nat) (hd:o.dst=some d) (hlt:Nat.blt d nt=true) (ho:o.op=.call { callee:=.value (.func f),args:=as,argTypes:=ts }) (ha:ArgsOK T m nx as.toList args) (hc:CtrE P f args res)
 (hi:∀ x,a30 (res x) nx m=some (r x,m' x,n1)) (hn':Nat.beq nx' n1=true) (hk:∀ x,WL P w0 ops rest ⟨(d,r x) :: T,m' x,nx',nt⟩ Q):WX P w0 ops o rest ⟨T,m,nx,nt⟩ Q:=by
 have hn'':=Nat.eq_of_beq_eq_true hn'
 subst hn''
 intro ρ a w hT hC
 have hrel:=ha.rel hT hC
 have hcalls:=hc.calls w _ (hC.env P) hrel
 have hrun:(execOp a.eval o).run P w=.ok (.enter f (as.toList.map a.eval).toArray) w:=by
  simp [execOp,ho,resolve,Deferred.ofValue,invoke,Act.eval,Z9 hc.callable,← Array.toList_map]
 unfold Oper.wp
 rw [hrun,Oper.upon_enter]
 refine hcalls.mono fun e w' ⟨x,v,he,hr,hb'⟩=>?_
 subst he
 have hi:=a0y (hi x)
 have hC':=hC.trans hb'
 obtain ⟨ρ',g1,g2,g3,g4⟩:=a4S (m:=m) (nx:=nx) hC' ⟨hC.below.size,hC.kept.1⟩ hr (fun id r hm b hb=>hC.foot_lt hm (hC.foot_trans hb' hm hb))
 rw [hi] at g2 g3 g4
 refine hk x ρ' _ w' ?_ g4
 rw [hd]
 have hT':RelT w0 ρ' T nx' nt a:=⟨fun t x hx=>(hT.tmps t x hx).mono g2 g1,hT.size,hT.defers⟩
 exact hT'.put hlt g3
def a9F:List AV→Bool
 | []=>true
 | .lst _ _ :: r=>a9F r
 | .nst _ _ _ :: r=>a9F r
 | _=>false
theorem a3C {w0:World} {ρ:Nat→Value} {nx:Nat}:∀ {cs:List AV} {us:List Value},a9F cs=true→RelVs w0 ρ nx cs us→∀ y∈us,∃ A l c,y=.slice A l c
 | [],_,_,hr,y,hy=>by simp only [RelVs] at hr;subst hr;cases hy
 | x :: cs,_,h,hr,y,hy=>by
  simp only [RelVs] at hr
  obtain ⟨u,us,rfl,h1,h2⟩:=hr
  rcases List.mem_cons.1 hy with rfl | hy
  ·cases x<;>simp only [a9F,Bool.false_eq_true] at h
   case lst=>simp only [RelV] at h1;obtain ⟨A,c,e,_⟩:=h1;exact ⟨_,_,_,e⟩
   case nst=>simp only [RelV] at h1;obtain ⟨_,A,c,e,_⟩:=h1;exact ⟨_,_,_,e⟩
  ·cases x<;>simp only [a9F,Bool.false_eq_true] at h
   case lst=>exact a3C h h2 y hy
   case nst=>exact a3C h h2 y hy
theorem b2P (t:Nat) {cs:List AV} (ht:look t T=some (.agg cs)) (hs:a9F cs=true) {rs:(Nat→Value)→List AV} (hr:∀ u,a2O cs u 0 []=some (rs u)) (h:∀ u:Nat→Option Addr×Nat×Nat,W P w0 c ⟨(t,.agg (rs fun j=>.slice (u j).1 (u j).2.1 (u j).2.2)) :: T,m,nx,nt⟩ Q):W P w0 c ⟨T,m,nx,nt⟩ Q:=by
 intro ρ a w hT hC
 have h1:=hT.tmps t _ ht
 simp only [RelV] at h1
 obtain ⟨us,he,h1⟩:=h1
 have hsl:=a3C hs h1
 let p:Value→Option Addr×Nat×Nat:=fun v=>match v with
  | .slice A l c=>(A,l,c)
  | _=>(none,0,0)
 let u:Nat→Option Addr×Nat×Nat:=fun i=>p (us.getD i undef)
 refine h u ρ a w ⟨fun i x hi=>?_,hT.size,hT.defers⟩ hC
 by_cases e:i=t
 ·subst e
  rw [n9] at hi
  cases hi
  simp only [RelV]
  have key:∀ j y,us[j]?=some y→(fun j=>Value.slice (u j).1 (u j).2.1 (u j).2.2) (0+j)=y:=fun j y hj=>by
   obtain ⟨A,l,c,rfl⟩:=hsl y (List.mem_of_getElem? hj)
   simp only [u,p,Nat.zero_add,List.getD_eq_getElem?_getD,hj,Option.getD_some]
  have:=a3A (acc':=[]) (hr fun j=>.slice (u j).1 (u j).2.1 (u j).2.2) h1 key (by simp [RelVs])
  exact ⟨us,he,by simpa using this⟩
 ·rw [j7 (fun e'=>e e'.symm)] at hi
  exact hT.tmps i x hi
end
theorem RelT.weak {w0:World} {ρ:Nat→Value} {T T':List (Nat×AV)} {nx nt:Nat} {a:Act} (h:RelT w0 ρ T nx nt a) (hsub:∀ t x,look t T'=some x→look t T=some x):RelT w0 ρ T' nx nt a:=⟨fun t x hx=>h.tmps t x (hsub t x hx),h.size,h.defers⟩
section
variable {P:Program} [Env P] {b:Base} {ops:Array Oper} {m0:List (Nat×Option Row)} {o:Oper} {T:List (Nat×AV)} {m:List (Nat×Option Row)} {nx nt d fuel:Nat} {listed:Array Bool} {V:List VE} {K:St→Prop} {r:AV}
def b5b (ops:Array Oper) (listed:Array Bool) (is:List Nat) (i:Nat):Bool :=
 (Y0 is).all fun p=>Region.free .any ops (I8 p.1 listed) i && (Region.ready .any ops (I8 p.1 listed)).contains i
theorem w9 [EnvAt P b] (i:Nat) (hi:ops[i]?=some o) (hchk:b5b ops listed (V.map VE.i) i=true) (hp:a2c o.op=true) (hg:o.guard=none)
 (hd:o.dst=some d) (hlt:Nat.blt d nt=true) (hq:QStep P o T m0 nx nt r) (hV0:V3 b.n0 nx nt V T m=true) (hD0:a42 V=true) (hdn:Y9 (some d) V=true)
 (hk:WAV P b ops m0 fuel (listed.setIfInBounds i true) ⟨(d,r) :: T,m,nx,nt⟩ V K):WAV P b ops m0 (fuel+1) listed ⟨T,m,nx,nt⟩ V K:=by
 intro F U hs
 have hV:=VFree.of hV0
 have hD:=VDist.of hD0
 have hc:=(List.all_eq_true.1 hchk) _ hs.inN
 simp only [Bool.and_eq_true] at hc
 rw [show fuel+1+U.length=(fuel+U.length)+1 by omega]
 have hq':QStep P o (frT F T) m0 nx nt r:=fun w0 _ ρ a w hT hC=>hq w0 ρ a w (hT.weak fun t x hx=>by
  rw [O0 fun e he e1=>by have:=hV.kt e (hs.memF e he);rw [e1,hx] at this;cases this]
  exact hx) hC
 refine b9 i hi hc.1 hc.2 hp hg hd hlt hq' ?_
 have h:=hk F U hs
 have hm:(I8 (F.map VE.i) listed).setIfInBounds i true=I8 (F.map VE.i) (listed.setIfInBounds i true):=by
  rw [a2R]
  apply Array.ext_getElem?
  intro k
  rw [V2,V2,Array.size_setIfInBounds]
  by_cases e:i=k
  ·subst e
   by_cases hk:i < listed.size
   ·simp [hk]
   ·have:listed[i]?=none:=Array.getElem?_eq_none (by omega)
    simp [hk,this]
  ·rw [Array.getElem?_setIfInBounds_ne e]
   simp [Ne.symm e]
 rw [hm]
 intro hns ρ a w hT hC hS
 refine h hns ρ a w (hT.weak fun t x hx=>?_) hC hS
 rcases a1f hx with ⟨e,he,h1,h2⟩ | ⟨h1,h2⟩
 ·subst h1;subst h2
  have hne:d≠e.d:=fun e1=>a2h hdn e (hs.memF e he) (by rw [e1])
  show look e.d ((d,r) :: frT F T)=some e.av
  rw [j7 hne]
  exact Q9 (hs.pw hD.d) e he
 ·show look t ((d,r) :: frT F T)=some x
  by_cases e1:d=t
  ·subst e1;rw [n9] at h2 ⊢;exact h2
  ·rw [j7 e1] at h2 ⊢
   rw [O0 h1]
   exact h2
end
section
variable {P:Program} [Env P] {b:Base} {ops:Array Oper} {m0:List (Nat×Option Row)} {o:Oper} {T T1:List (Nat×AV)} {m m1:List (Nat×Option Row)} {nx nt n1 nt1 d fuel j:Nat} {listed:Array Bool} {V:List VE} {K:St→Prop} {r:AV}
theorem a8P {k:Nat}:has k []=false:=rfl
theorem a7i:∀ {V:List VE},S5 [] V=[]
 | []=>rfl
 | e :: V=>by simp only [S5,a8P,cond_false];exact a7i
theorem a2T:∀ {V:List VE},O8 [] V=V
 | []=>rfl
 | e :: V=>by simp only [O8,a8P,cond_false];rw [a2T]
theorem VStep.mk0 (ms:List Nat) (ho:ops[j]?=some o) (hg:o.guard=none) (hx:∀ b':Base,[EnvAt P b']→b'.n0=b.n0→WX P b' ops o [] ⟨T,m,nx,nt⟩ (nq (fun S'=>S'=⟨T1,m1,n1,nt1⟩))) (hn:Nat.ble nx n1=true) (hv:V3 b.n0 n1 nt1 V T1 m1=true) (hd:Y9 o.dst V=true) (hk:I7 b.n0 m1 ms []=some m0)
 (h:WAV P b ops m0 fuel (listed.setIfInBounds j true) ⟨T1,m1,n1,nt1⟩ V K):VStep P b ops m0 fuel listed ⟨T,m,nx,nt⟩ V K j []:=by
 refine ⟨o,⟨T1,m1,n1,nt1⟩,ms,ho,hg,?_,hn,by rw [a2T];exact hv,by rw [a2T];exact hd,hk,by rw [a2T];exact h⟩
 rw [a7i]
 exact hx
theorem vin {is:List Nat} {V V':List VE} {e:VE} (h:O8 is V=V') (he:e∈V'):e∈V:=by subst h;exact (R0.1 he).1
theorem VStep.mk1 {is:List Nat} (ms:List Nat) (t0:Nat) (x0:AV) (id0:Nat) (r0:Row) (V1:List VE) (ho:ops[j]?=some o) (hg:o.guard=none) (hV:O8 is V=V1) (hT:frT (S5 is V) T=(t0,x0) :: T) (hM:frM (S5 is V) m=(id0,some r0) :: m)
 (hx:∀ b':Base,[EnvAt P b']→b'.n0=b.n0→WX P b' ops o [] ⟨(t0,x0) :: T,(id0,some r0) :: m,nx,nt⟩ (nq (fun S'=>S'=⟨T1,m1,n1,nt1⟩))) (hn:Nat.ble nx n1=true) (hv:V3 b.n0 n1 nt1 V1 T1 m1=true) (hd:Y9 o.dst V1=true) (hk:I7 b.n0 m1 ms []=some m0)
 (h:WAV P b ops m0 fuel ((I8 is listed).setIfInBounds j true) ⟨T1,m1,n1,nt1⟩ V1 K):VStep P b ops m0 fuel listed ⟨T,m,nx,nt⟩ V K j is:=by
 subst hV
 refine ⟨o,⟨T1,m1,n1,nt1⟩,ms,ho,hg,?_,hn,hv,hd,hk,h⟩
 show ∀ b':Base,[EnvAt P b']→b'.n0=b.n0→WX P b' ops o [] ⟨frT (S5 is V) T,frM (S5 is V) m,nx,nt⟩ _
 rw [hT,hM]
 exact hx
end
section
variable {P:Program} [Env P] {b:Base} {ops:Array Oper} {m0:List (Nat×Option Row)} {o:Oper} {T T1:List (Nat×AV)} {m m1:List (Nat×Option Row)} {nx nt n1 nt1 d fuel j:Nat} {listed:Array Bool} {V:List VE} {K:St→Prop} {r:AV}
theorem VStep.mk2 {is:List Nat} (ms:List Nat) (t0:Nat) (x0:AV) (id0:Nat) (r0:Row) (t1:Nat) (x1:AV) (id1:Nat) (r1:Row) (V1:List VE) (ho:ops[j]?=some o) (hg:o.guard=none) (hV:O8 is V=V1) (hT:frT (S5 is V) T=(t0,x0) :: (t1,x1) :: T) (hM:frM (S5 is V) m=(id0,some r0) :: (id1,some r1) :: m)
 (hx:∀ b':Base,[EnvAt P b']→b'.n0=b.n0→WX P b' ops o [] ⟨(t0,x0) :: (t1,x1) :: T,(id0,some r0) :: (id1,some r1) :: m,nx,nt⟩ (nq (fun S'=>S'=⟨T1,m1,n1,nt1⟩))) (hn:Nat.ble nx n1=true) (hv:V3 b.n0 n1 nt1 V1 T1 m1=true) (hd:Y9 o.dst V1=true) (hk:I7 b.n0 m1 ms []=some m0)
 (h:WAV P b ops m0 fuel ((I8 is listed).setIfInBounds j true) ⟨T1,m1,n1,nt1⟩ V1 K):VStep P b ops m0 fuel listed ⟨T,m,nx,nt⟩ V K j is:=by
 subst hV
 refine ⟨o,⟨T1,m1,n1,nt1⟩,ms,ho,hg,?_,hn,hv,hd,hk,h⟩
 show ∀ b':Base,[EnvAt P b']→b'.n0=b.n0→WX P b' ops o [] ⟨frT (S5 is V) T,frM (S5 is V) m,nx,nt⟩ _
 rw [hT,hM]
 exact hx
theorem VStep.mk3 {is:List Nat} (ms:List Nat) (t0:Nat) (x0:AV) (id0:Nat) (r0:Row) (t1:Nat) (x1:AV) (id1:Nat) (r1:Row) (t2:Nat) (x2:AV) (id2:Nat) (r2:Row) (V1:List VE) (ho:ops[j]?=some o) (hg:o.guard=none) (hV:O8 is V=V1) (hT:frT (S5 is V) T=(t0,x0) :: (t1,x1) :: (t2,x2) :: T) (hM:frM (S5 is V) m=(id0,some r0) :: (id1,some r1) :: (id2,some r2) :: m)
 (hx:∀ b':Base,[EnvAt P b']→b'.n0=b.n0→WX P b' ops o [] ⟨(t0,x0) :: (t1,x1) :: (t2,x2) :: T,(id0,some r0) :: (id1,some r1) :: (id2,some r2) :: m,nx,nt⟩ (nq (fun S'=>S'=⟨T1,m1,n1,nt1⟩))) (hn:Nat.ble nx n1=true) (hv:V3 b.n0 n1 nt1 V1 T1 m1=true) (hd:Y9 o.dst V1=true) (hk:I7 b.n0 m1 ms []=some m0)
 (h:WAV P b ops m0 fuel ((I8 is listed).setIfInBounds j true) ⟨T1,m1,n1,nt1⟩ V1 K):VStep P b ops m0 fuel listed ⟨T,m,nx,nt⟩ V K j is:=by
 subst hV
 refine ⟨o,⟨T1,m1,n1,nt1⟩,ms,ho,hg,?_,hn,hv,hd,hk,h⟩
 show ∀ b':Base,[EnvAt P b']→b'.n0=b.n0→WX P b' ops o [] ⟨frT (S5 is V) T,frM (S5 is V) m,nx,nt⟩ _
 rw [hT,hM]
 exact hx
end
def a7j (m:List (Nat×Option Row)):List Nat→List (Nat×Option Row)→Option (List (Nat×Option Row))
 | [],acc=>some acc
 | i :: r,acc=>match mem m i with
  | some row=>a7j m r ((i,some row) :: acc)
  | none=>none
theorem a47 {m:List (Nat×Option Row)}:∀ {ks:List Nat} {acc M0:List (Nat×Option Row)},a7j m ks acc=some M0→(∀ i r,mem acc i=some r→mem m i=some r)→∀ i r,mem M0 i=some r→mem m i=some r
 | [],acc,M0,h,ha=>by simp [a7j] at h;subst h;exact ha
 | t :: ks,acc,M0,h,ha=>by
  simp only [a7j] at h
  cases h1:mem m t with
  | none=>simp [h1] at h
  | some x =>
   simp only [h1] at h
   refine a47 h fun i r hr=>?_
   by_cases e:t=i
   ·subst e;rw [j8] at hr;cases hr;exact h1
   ·rw [d9 e] at hr;exact ha i r hr
theorem Gh.keep {w0:Base} {T:List (Nat×AV)} {m m0:List (Nat×Option Row)} {nx nt:Nat} (ms:List Nat) (h:a7j m ms []=some m0):Gh w0 ⟨T,m,nx,nt⟩ ⟨T,m0,nx,nt⟩:=fun ρ a w hT hC=>⟨ρ,hT,hC.sub (a47 h fun i r hr=>by simp [mem,look] at hr)⟩
section
variable {P:Program} [Env P] {tb:List (Nat×TyI)} {o:Oper} {T:List (Nat×AV)} {m:List (Nat×Option Row)} {nx nt:Nat}
end
end Go.Rf
namespace Go.Rf
open Go Go.RowKit Go.Sort
end Go.Rf
namespace Go.Rf
open Go Go.RowKit
section
variable {P:Program} [Env P] {tb:List (Nat×TyI)} {o:Oper} {T:List (Nat×AV)} {m:List (Nat×Option Row)} {nx nt:Nat}
theorem a9G {src dst:TypeId} {x:Operand} {k':IntKind} {n:Int} {z z':Value} {fk:FK} (G:Good P tb) (ho:o.op=.convert src dst x) (hs:look src tb=some (.flat fk z')) (ht:look dst tb=some (.flat (.int .i64) z)) (hx:ev T x=some (.v (.int k' n)))
 (h0:-9223372036854775808≤n) (h1:n≤9223372036854775807):QStep P o T m nx nt (.v (.int .i64 n)):=by
 have:=a3s (m:=m) (nx:=nx) (nt:=nt) G ho hs ht hx
 rwa [H9 h0 h1] at this
end
structure Rec where
 c:ByteArray
 r:ByteArray
instance:Inhabited Rec:=⟨⟨⟨#[]⟩,⟨#[]⟩⟩⟩
theorem b4d {n:Int} (h0:0≤n) (h1:n≤18446744073709551615):IntKind.u64.wrap n=n:=by
 unfold IntKind.wrap
 simp [IntKind.bits,IntKind.signed]
 omega
section
variable {P:Program} [Env P] {tb:List (Nat×TyI)} {o:Oper} {T:List (Nat×AV)} {m:List (Nat×Option Row)} {nx nt:Nat}
end
theorem Gh.fnc {w0:Base} {T:List (Nat×AV)} {m:List (Nat×Option Row)} {nx nt t:Nat} {f:FuncId} (ht:look t T=some (.v (.func (.func f) #[] #[]))):Gh w0 ⟨T,m,nx,nt⟩ ⟨(t,.fnc f []) :: T,m,nx,nt⟩:=by
 intro ρ a w hT hC
 refine ⟨ρ,⟨fun i x hi=>?_,hT.size,hT.defers⟩,hC⟩
 by_cases e:t=i
 ·subst e
  rw [n9] at hi
  cases hi
  have h1:=hT.tmps t _ ht
  simp only [RelV] at h1 ⊢
  exact ⟨[],h1,by simp [RelVs]⟩
 ·rw [j7 e] at hi
  exact hT.tmps i x hi
end Go.Rf
namespace Go.Rf
open Go Go.RowKit Go.Sort
def srtI (l:List Int):List Int:=l.mergeSort fun x y=>decide (x≤y)
theorem a1M (l:List Int):(srtI l).Perm l:=List.mergeSort_perm l _
end Go.Rf
namespace Go.Rf
open Go Go.RowKit
section
variable {P:Program} [Env P] {w0:Base} {ops:Array Oper} {tb:List (Nat×TyI)} {o:Oper} {rest:List Oper} {T:List (Nat×AV)} {m:List (Nat×Option Row)} {nx nt d:Nat} {Q:Exit→St→Prop}
end
end Go.Rf
namespace Go.Rf
open Go
def s0 (rs:List Route) (a:Abs) (c:Nat):Nat→Int
 | 0=>-1
 | i+1=>if (a.po.getD i default=true∧(rs.getD i default).t=c)∧(s0 rs a c i < 0∨(rs.getD i default).p < (rs.getD (s0 rs a c i).toNat default).p) then i else s0 rs a c i
theorem V5 {rs:List Route} {a:Abs} {c i:Nat}:s0 rs a c (i+1)=if (a.po.getD i default=true∧(rs.getD i default).t=c)∧(s0 rs a c i < 0∨(rs.getD i default).p < (rs.getD (s0 rs a c i).toNat default).p) then (i:Int) else s0 rs a c i:=rfl
theorem a0h {rs:List Route} {a:Abs} {c:Nat}:∀ i,-1≤s0 rs a c i∧s0 rs a c i < i
 | 0=>by simp [s0]
 | i+1=>by
  have:=@a0h rs a c i
  rw [V5]
  split<;>omega
def B6 (rs:List Route) (a:Abs) (c:Nat) (L:Int):Nat→Int×Int
 | 0=>(-1,L)
 | i+1=>if (a.po.getD i default=true∧(rs.getD i default).t=c)∧(rs.getD i default).p < (B6 rs a c L i).2 then (i,(rs.getD i default).p) else B6 rs a c L i
theorem a0H {rs:List Route} {a:Abs} {c i:Nat} {L:Int}:B6 rs a c L (i+1)=if (a.po.getD i default=true∧(rs.getD i default).t=c)∧(rs.getD i default).p < (B6 rs a c L i).2 then ((i:Int),(rs.getD i default).p) else B6 rs a c L i:=rfl
theorem a6z {rs:List Route} {a:Abs} {c:Nat} {L:Int}:∀ i,B6 rs a c L i=if 0≤s0 rs a c i∧(rs.getD (s0 rs a c i).toNat default).p < L then (s0 rs a c i,(rs.getD (s0 rs a c i).toNat default).p) else (-1,L)
 | 0=>by simp [B6,s0]
 | i+1=>by
  have ih:=@a6z rs a c L i
  have hb:=@a0h rs a c i
  by_cases h:(a.po.getD i default=true∧(rs.getD i default).t=c)∧(s0 rs a c i < 0∨(rs.getD i default).p < (rs.getD (s0 rs a c i).toNat default).p)
  ·have e:s0 rs a c (i+1)=i:=by rw [V5,if_pos h]
   rw [a0H,ih,e]
   simp only [Int.toNat_natCast]
   by_cases h2:0≤s0 rs a c i∧(rs.getD (s0 rs a c i).toNat default).p < L
   ·rw [if_pos h2,if_pos ⟨h.1,by show (rs.getD i default).p < (rs.getD (s0 rs a c i).toNat default).p;omega⟩,if_pos (by omega)]
   ·rw [if_neg h2]
    by_cases h3:(rs.getD i default).p < L
    ·rw [if_pos ⟨h.1,h3⟩,if_pos (by omega)]
    ·rw [if_neg (fun q=>h3 q.2),if_neg (by omega)]
  ·have e:s0 rs a c (i+1)=s0 rs a c i:=by rw [V5,if_neg h]
   rw [a0H,ih,e]
   refine if_neg fun q=>h ⟨q.1,?_⟩
   have q2:=q.2
   by_cases h2:0≤s0 rs a c i∧(rs.getD (s0 rs a c i).toNat default).p < L
   ·rw [if_pos h2] at q2;exact .inr q2
   ·rw [if_neg h2] at q2
    have q3:(rs.getD i default).p < L:=q2
    omega
theorem b0o {rs:List Route} {a:Abs} {c:Nat} {L:Int} (i:Nat):-1≤(B6 rs a c L i).1∧(B6 rs a c L i).1 < i:=by
 have hb:=@a0h rs a c i
 rw [a6z]
 split
 ·exact hb
 ·exact ⟨Int.le_refl _,by show (-1:Int) < _;omega⟩
def a74 (rs:List Route) (l:List Int):Int:=(rs.getD (l.getD (l.length - 1) default).toNat default).p
def a48 (rs:List Route) (a:Abs) (c:Nat):Int:=if (a.st.getD c default).length=0 then a.ma.getD c default else min (a.ma.getD c default) (a74 rs (a.st.getD c default))
def z7 (rs:List Route) (a:Abs) (c:Nat):Int:=if (a.st.getD c default).length=4 then -1 else (B6 rs a c (a48 rs a c) 8).1
theorem a1h {rs:List Route} {a:Abs} {c:Nat}:-1≤z7 rs a c∧z7 rs a c < 8:=by
 unfold z7
 split
 ·omega
 ·exact b0o 8
theorem a4x {rs:List Route} {a:Abs} {c:Nat}:z7 rs a c=if s0 rs a c 8 < 0∨(a.st.getD c default).length=4∨a.ma.getD c default≤(rs.getD (s0 rs a c 8).toNat default).p∨(0 < (a.st.getD c default).length∧a74 rs (a.st.getD c default)≤(rs.getD (s0 rs a c 8).toNat default).p) then -1 else s0 rs a c 8:=by
 unfold z7 a48
 rw [a6z]
 by_cases h4:(a.st.getD c default).length=4
 ·rw [if_pos h4,if_pos (.inr (.inl h4))]
 ·rw [if_neg h4]
  by_cases h0:(a.st.getD c default).length=0
  ·rw [if_pos h0]
   split
   ·next h=>rw [if_neg (by omega)]
   ·next h=>rw [if_pos (by omega)]
  ·rw [if_neg h0]
   split
   ·next h=>rw [if_neg (by omega)]
   ·next h=>rw [if_pos (by omega)]
end Go.Rf
namespace Go.Rf
structure AbsF (rs:List Route) (a:Abs):Prop where
 n:1≤a.ma.length∧a.ma.length≤2
 rn:rs.length=8
 st:a.st.length=a.ma.length
 en:a.en.length=8
 ra:a.ra.length=8
 po:a.po.length=8
 rt:∀ i,i < 8→0≤(rs.getD i default).t∧(rs.getD i default).t < a.ma.length
 len:∀ c,c < a.ma.length→(a.st.getD c default).length≤4
 el:∀ c,c < a.ma.length→∀ i,i < (a.st.getD c default).length→0≤(a.st.getD c default).getD i default∧(a.st.getD c default).getD i default≤7
theorem a3D {rs:List Route} {a:Abs} (h:v8 rs a=true):AbsF rs a:=by
 simp only [v8,Bool.and_eq_true,w8] at h
 obtain ⟨h1,h2,h3⟩:=h
 obtain ⟨⟨q1,q2⟩,q3,q4⟩:=z4.mp h1
 obtain ⟨l1,l2,l3,l4⟩:=s9.mp h2
 have hk:∀ c,c < a.ma.length→stG rs (a.st.getD c default) c=true:=fun c hc=>by
  have:=h3 c hc
  simp only [V4,Bool.and_eq_true] at this
  exact this.2.1
 exact ⟨by omega,q3,l1,l2,l3,l4,fun i hi=>by have:=(q4 i hi).2;omega,fun c hc=>(a7h (hk c hc)).2,fun c hc i hi=>(I1.mp ((a7h (hk c hc)).1 i hi)).1⟩
theorem AbsF.small {rs:List Route} {a:Abs} (h:AbsF rs a):SmallA a:=by
 have h1:=h.n
 have hl:lenN a.st a.st.length≤1048576:=by
  have:∀ i,i≤a.ma.length→lenN a.st i≤4 * i:=by
   intro i
   induction i with
   | zero=>intro _;exact Int.le_refl _
   | succ i ih=>intro hi;rw [a52];have:=ih (by omega);have:=h.len i (by omega);omega
  have:=this a.st.length (by rw [h.st];exact Nat.le_refl _)
  have:=h.st
  omega
 exact ⟨by rw [h.en];decide,by rw [h.ra];decide,by rw [h.po];decide,by omega,by rw [h.st];omega,fun i hi=>Nat.le_trans (h.len i (by rw [← h.st];exact hi)) (by decide),hl⟩
theorem y0 {rs:List Route} {a:Abs} {c i:Nat} {L:Int} (h1:a.po.getD i default=true) (h2:(rs.getD i default).t=c) (h3:(rs.getD i default).p < (B6 rs a c L i).2):B6 rs a c L (i+1)=((i:Int),(rs.getD i default).p):=by rw [a0H,if_pos ⟨⟨h1,h2⟩,h3⟩]
theorem p5 {rs:List Route} {a:Abs} {c i:Nat} {L:Int} (h:a.po.getD i default=true→(rs.getD i default).t=c→¬ (rs.getD i default).p < (B6 rs a c L i).2):B6 rs a c L (i+1)=B6 rs a c L i:=by rw [a0H,if_neg (fun q=>h q.1.1 q.1.2 q.2)]
theorem O1 {rs:List Route} {a:Abs} {c i:Nat} (h1:a.po.getD i default=true) (h2:(rs.getD i default).t=c) (h3:s0 rs a c i < 0∨(rs.getD i default).p < (rs.getD (s0 rs a c i).toNat default).p):s0 rs a c (i+1)=(i:Int):=by rw [V5,if_pos ⟨⟨h1,h2⟩,h3⟩]
theorem t7 {rs:List Route} {a:Abs} {c i:Nat} (h:a.po.getD i default=true→(rs.getD i default).t=c→¬ (s0 rs a c i < 0∨(rs.getD i default).p < (rs.getD (s0 rs a c i).toNat default).p)):s0 rs a c (i+1)=s0 rs a c i:=by rw [V5,if_neg (fun q=>h q.1.1 q.1.2 q.2)]
theorem a3E {rs:List Route} {a:Abs} {c:Nat} (h:(a.st.getD c default).length=0):a48 rs a c=a.ma.getD c default:=by unfold a48;rw [if_pos h]
theorem a3F {rs:List Route} {a:Abs} {c:Nat} (h:0 < (a.st.getD c default).length):a48 rs a c=min (a.ma.getD c default) (rs.getD ((a.st.getD c default).getD (((a.st.getD c default).length:Int) - 1).toNat default).toNat default).p:=by
 unfold a48
 rw [if_neg (by omega),show (((a.st.getD c default).length:Int) - 1).toNat=(a.st.getD c default).length - 1 by omega]
 rfl
theorem a6A {rs:List Route} {a:Abs} {c:Nat} (h:(a.st.getD c default).length=4):z7 rs a c=-1:=by unfold z7;rw [if_pos h]
theorem b1z {rs:List Route} {a:Abs} {c i:Nat} (h:(a.st.getD c default).length≠4) (hi:i=8):z7 rs a c=(B6 rs a c (a48 rs a c) i).1:=by unfold z7;rw [if_neg h,hi]
theorem b1A {rs:List Route} {a:Abs} {c i:Nat} (hi:i=8) (h:s0 rs a c i < 0∨(a.st.getD c default).length=4∨a.ma.getD c default≤(rs.getD (s0 rs a c i).toNat default).p∨(0 < (a.st.getD c default).length∧a74 rs (a.st.getD c default)≤(rs.getD (s0 rs a c i).toNat default).p)):z7 rs a c=-1:=by subst hi;rw [a4x,if_pos h]
theorem b1B {rs:List Route} {a:Abs} {c i:Nat} (hi:i=8) (h:¬ (s0 rs a c i < 0∨(a.st.getD c default).length=4∨a.ma.getD c default≤(rs.getD (s0 rs a c i).toNat default).p∨(0 < (a.st.getD c default).length∧a74 rs (a.st.getD c default)≤(rs.getD (s0 rs a c i).toNat default).p))):z7 rs a c=s0 rs a c i:=by subst hi;rw [a4x,if_neg h]
def nxO (rs:List Route) (a:Abs) (c:Int):Int×Bool:=if v8 rs a=true∧0≤c∧c≤(a.ma.length:Int) - 1 then (z7 rs a c.toNat,true) else (0,false)
theorem a49 {rs:List Route} {a:Abs} {c:Nat} (h:v8 rs a=true) (hc:c < a.ma.length):nxO rs a (c:Int)=(z7 rs a c,true):=by unfold nxO;rw [if_pos ⟨h,by omega,by omega⟩];simp
theorem a5a {rs:List Route} {a:Abs} {c:Int} (h:v8 rs a=false∨¬ (0≤c∧c≤(a.ma.length:Int) - 1)):nxO rs a c=(0,false):=by
 unfold nxO
 refine if_neg fun q=>?_
 rcases h with h | h
 ·rw [q.1] at h;exact absurd h (by decide)
 ·exact h q.2
end Go.Rf
namespace Go.Rf
open Go
def f8 (n:Int) (s:MStep):Bool :=
 if s.k=1 then u4 s.q 0 7 && (decide (s.c=0) && decide (s.v=0))
 else if s.k=2 then decide (s.q=0) && (decide (s.c=0) && decide (s.v=0))
 else if s.k=3∨s.k=4 then decide (s.q=0) && (u4 s.c 0 (n - 1) && decide (s.v=0))
 else if s.k=5 then decide (s.q=0) && (u4 s.c 0 (n - 1) && u4 s.v 0 16)
 else decide (s.k=6) && (u4 s.q 0 7 && (decide (s.c=0) && u4 s.v 0 1))
def a2U (l:List Int) (v:Int):Bool:=a0F l.length (fun j=>decide (v=l.getD j default))
def a00 (rs:List Route) (a:Abs) (i:Nat):Bool:=a.en.getD i default && (a.ra.getD i default && !a2U (a.st.getD (rs.getD i default).t.toNat default) i)
def a0i (rs:List Route) (a:Abs):Nat→List Bool
 | 0=>a.ra
 | i+1=>if a00 rs a i then (a0i rs a i).set i false else a0i rs a i
def Y1 (rs:List Route) (a:Abs):Nat→List Bool
 | 0=>a.po
 | i+1=>if a00 rs a i then (Y1 rs a i).set i true else Y1 rs a i
theorem U1 {rs:List Route} {a:Abs}:∀ i,(a0i rs a i).length=a.ra.length
 | 0=>rfl
 | i+1=>by unfold a0i;split<;>simp [U1 i]
theorem N2 {rs:List Route} {a:Abs}:∀ i,(Y1 rs a i).length=a.po.length
 | 0=>rfl
 | i+1=>by unfold Y1;split<;>simp [N2 i]
theorem E4 {rs:List Route} {a:Abs} {i:Nat} (h:a00 rs a i=true):a0i rs a (i+1)=(a0i rs a i).set i false:=by show (if _ then _ else _)=_;rw [if_pos h]
theorem E5 {rs:List Route} {a:Abs} {i:Nat} (h:a00 rs a i=false):a0i rs a (i+1)=a0i rs a i:=by show (if _ then _ else _)=_;rw [if_neg (by rw [h];decide)]
theorem E6 {rs:List Route} {a:Abs} {i:Nat} (h:a00 rs a i=true):Y1 rs a (i+1)=(Y1 rs a i).set i true:=by show (if _ then _ else _)=_;rw [if_pos h]
theorem E7 {rs:List Route} {a:Abs} {i:Nat} (h:a00 rs a i=false):Y1 rs a (i+1)=Y1 rs a i:=by show (if _ then _ else _)=_;rw [if_neg (by rw [h];decide)]
def a4d (rs:List Route) (a:Abs):Abs:=⟨a.en,a0i rs a 8,Y1 rs a 8,a.ma,a.st⟩
def t4 (rs:List Route) (a:Abs) (s:MStep):Abs×Int×Bool :=
 if s.k=1 then ({a with ra:=a.ra.set s.q.toNat true},-1,!(a.ra.getD s.q.toNat default))
 else if s.k=2 then (a4d rs a,-1,true)
 else if s.k=3 then
  if z7 rs a s.c.toNat < 0 then (a,-1,false)
  else ({a with po:=a.po.set (z7 rs a s.c.toNat).toNat false,st:=a.st.set s.c.toNat (a.st.getD s.c.toNat default++[z7 rs a s.c.toNat])},z7 rs a s.c.toNat,true)
 else if s.k=4 then
  if (a.st.getD s.c.toNat default).length=0 then (a,-1,false)
  else ({a with st:=a.st.set s.c.toNat ((a.st.getD s.c.toNat default).take ((a.st.getD s.c.toNat default).length - 1))},(a.st.getD s.c.toNat default).getD ((a.st.getD s.c.toNat default).length - 1) default,true)
 else if s.k=5 then ({a with ma:=a.ma.set s.c.toNat s.v},-1,true)
 else ({a with en:=a.en.set s.q.toNat (decide (s.v=1))},-1,true)
def noA:Abs:=⟨[],[],[],[],[]⟩
def stepA (rs:List Route) (a:Abs) (s:MStep):Abs×Int×Bool :=
 if v8 rs a=true∧f8 a.ma.length s=true∧(t4 rs a s).2.2=true then t4 rs a s else (noA,0,false)
end Go.Rf
namespace Go.Rf
theorem b2m {xs:List (List Int)} {k:Nat} (h:k < xs.length):(xs.take k).map s1++[[CI.l 3 1 ((xs.getD k default).map r5)]]=(xs.take (k+1)).map s1:=by
 rw [List.take_add_one,List.map_append,List.getD_eq_getElem?_getD,List.getElem?_eq_getElem h]
 rfl
theorem a53 {xs:List (List Int)} {k:Nat} (h:xs.length≤k):(xs.take k).map s1=xs.map s1:=by rw [List.take_of_length_le h]
theorem B7 {rs:List Route} {a:Abs} {i:Nat} (h1:a.en.getD i default=true) (h2:a.ra.getD i default=true) (h3:a2U (a.st.getD (rs.getD i default).t.toNat default) i=false):a00 rs a i=true:=by simp only [a00,h1,h2,h3,Bool.not_false,Bool.and_self]
theorem b2Q {rs:List Route} {a:Abs} {i:Nat} (h1:a.en.getD i default=false):a00 rs a i=false:=by simp only [a00,h1,Bool.false_and]
theorem b2R {rs:List Route} {a:Abs} {i:Nat} (h1:a.ra.getD i default=false):a00 rs a i=false:=by simp only [a00,h1,Bool.false_and,Bool.and_false]
theorem b2S {rs:List Route} {a:Abs} {i:Nat} (h3:a2U (a.st.getD (rs.getD i default).t.toNat default) i=true):a00 rs a i=false:=by simp only [a00,h3,Bool.not_true,Bool.and_false]
theorem a75 {n k q c v:Int} (h:f8 n ⟨k,q,c,v⟩=true) (hk:k=1∨k=6):0≤q∧q≤7:=by
 rcases hk with rfl | rfl
 ·simp [f8,p6] at h;exact h.1
 ·simp [f8,p6] at h;exact h.1
theorem a2i {n k q c v:Int} (h:f8 n ⟨k,q,c,v⟩=true) (hk:k=3∨k=4∨k=5):0≤c∧c≤n - 1:=by
 rcases hk with rfl | rfl | rfl
 ·simp [f8,p6] at h;omega
 ·simp [f8,p6] at h;omega
 ·simp [f8,p6] at h;omega
theorem b1C {n k q c v:Int} (h:f8 n ⟨k,q,c,v⟩=true):1≤k∧k≤6:=by
 by_cases h1:k=1
 ·omega
 by_cases h2:k=2
 ·omega
 by_cases h3:k=3
 ·omega
 by_cases h4:k=4
 ·omega
 by_cases h5:k=5
 ·omega
 by_cases h6:k=6
 ·omega
 simp [f8,h1,h2,h3,h4,h5,h6] at h
def noS (rs:List Route) (a:Abs) (s:MStep):Prop:=(s.k=3∧z7 rs a s.c.toNat < 0)∨(s.k=4∧(a.st.getD s.c.toNat default).length=0)
theorem m8 {rs:List Route} {a:Abs} {s:MStep} (h:noS rs a s):t4 rs a s=(a,-1,false):=by
 rcases h with ⟨h1,h2⟩ | ⟨h1,h2⟩
 ·simp [t4,h1,h2]
 ·simp only [t4,h1,h2];simp
end Go.Rf
namespace Go.Rf
open Go
theorem a7k {xs:List (List Int)} {i:Nat} (h:i < xs.length):(xs.map s1)[i]?=some (s1 (xs.getD i default)):=by
 simp [h]
theorem B3 {l:List (List CI)} {c:List CI} {i j:Nat} (h:j < l.length) (hj:j=i):(l.set i c)[j]?=some c:=by
 subst hj
 simp [h]
theorem Y2 {xs:List (List Int)} {i j:Nat} {l:List Int} {c:List CI} {ys:List (List Value)} (hj:j=i) (hy:ys=l.map r5):((xs.map s1).set i c).set j [CI.l 3 1 ys]=(xs.set i l).map s1:=by
 subst hj;subst hy
 rw [List.set_set,List.map_set];rfl
theorem b0p {xs:List (List Int)} {i j:Nat} {l:List Int} {ys:List (List Value)} (hj:j=i) (hy:ys=l.map r5):(xs.map s1).set j [CI.l 3 1 ys]=(xs.set i l).map s1:=by
 subst hj;subst hy
 rw [List.map_set];rfl
end Go.Rf
namespace Go.Rf
section
variable {rs:List Route} {a:Abs} {sk sq sc sv:Int} {q c:Nat}
theorem mk1 (h:sk=1):t4 rs a ⟨sk,(q:Int),sc,sv⟩=({a with ra:=a.ra.set q true},-1,!(a.ra.getD q default)):=by subst h;rfl
theorem mk2 (h:sk=2):t4 rs a ⟨sk,sq,sc,sv⟩=(a4d rs a,-1,true):=by subst h;rfl
theorem b2T (h:sk=3) (hn:z7 rs a c < 0):t4 rs a ⟨sk,sq,(c:Int),sv⟩=(a,-1,false):=by
 subst h
 show (if z7 rs a c < 0 then _ else _)=_
 rw [if_pos hn]
theorem mk3 (h:sk=3) (hn:¬ z7 rs a c < 0):t4 rs a ⟨sk,sq,(c:Int),sv⟩=({a with po:=a.po.set (z7 rs a c).toNat false,st:=a.st.set c (a.st.getD c default++[z7 rs a c])},z7 rs a c,true):=by
 subst h
 show (if z7 rs a c < 0 then _ else _)=_
 rw [if_neg hn]
 rfl
theorem b4e (h:sk=4) (hl:(a.st.getD c default).length=0):t4 rs a ⟨sk,sq,(c:Int),sv⟩=(a,-1,false):=by
 subst h
 show (if (a.st.getD c default).length=0 then _ else _)=_
 rw [if_pos hl]
theorem mk4 (h:sk=4) (hl:(a.st.getD c default).length≠0):t4 rs a ⟨sk,sq,(c:Int),sv⟩=({a with st:=a.st.set c ((a.st.getD c default).take ((a.st.getD c default).length - 1))},(a.st.getD c default).getD ((a.st.getD c default).length - 1) default,true):=by
 subst h
 show (if (a.st.getD c default).length=0 then _ else _)=_
 rw [if_neg hl]
 rfl
theorem mk5 (h:sk=5):t4 rs a ⟨sk,sq,(c:Int),sv⟩=({a with ma:=a.ma.set c sv},-1,true):=by subst h;rfl
theorem mk6 (h:sk=6):t4 rs a ⟨sk,(q:Int),sc,sv⟩=({a with en:=a.en.set q (decide (sv=1))},-1,true):=by subst h;rfl
theorem a2V {l:List Int} {n:Int} (h:n.toNat=l.length - 1):(l.map r5).take n.toNat=(l.take (l.length - 1)).map r5:=by rw [h,List.map_take]
end
theorem b0q {rs:List Route} {a:Abs} {sk sq sc sv:Int} (h:noS rs a ⟨sk,sq,sc,sv⟩):sk=3∨sk=4:=by
 rcases h with ⟨h,_⟩ | ⟨h,_⟩
 ·exact .inl h
 ·exact .inr h
theorem b4f {rs:List Route} {a:Abs} {sk sq sv:Int} {c:Nat} (h:noS rs a ⟨sk,sq,(c:Int),sv⟩) (h3:sk=3):z7 rs a c < 0:=by
 rcases h with ⟨_,h⟩ | ⟨h,_⟩
 ·exact h
 ·have h':sk=4:=h
  omega
theorem b4g {rs:List Route} {a:Abs} {sk sq sv:Int} {c:Nat} (h:noS rs a ⟨sk,sq,(c:Int),sv⟩) (h4:sk=4):(a.st.getD c default).length=0:=by
 rcases h with ⟨h,_⟩ | ⟨_,h⟩
 ·have h':sk=3:=h
  omega
 ·exact h
section
variable {rs:List Route} {a:Abs} {s:MStep}
theorem a7l (h:v8 rs a=false):stepA rs a s=(noA,0,false):=by unfold stepA;rw [if_neg (by rw [h];simp)]
theorem a7m (h:f8 a.ma.length s=false):stepA rs a s=(noA,0,false):=by unfold stepA;rw [if_neg (by rw [h];simp)]
theorem a1i (h:(t4 rs a s).2.2=false):stepA rs a s=(noA,0,false):=by unfold stepA;rw [if_neg (by rw [h];simp)]
theorem a4y (h1:v8 rs a=true) (h2:f8 a.ma.length s=true) (h3:(t4 rs a s).2.2=true):stepA rs a s=t4 rs a s:=by unfold stepA;rw [if_pos ⟨h1,h2,h3⟩]
end
end Go.Rf
namespace Go.Rf
open Go
section
variable {k:Int} {xss:List (List Int)}
end
end Go.Rf
namespace Go.Rf
theorem a2W {a:Abs} (h1:a.en.length≤8) (h2:a.ra.length≤8) (h3:a.po.length≤8) (h4:a.ma.length≤2) (h5:a.st.length≤2) (h6:∀ i,i < a.st.length→(a.st.getD i default).length≤5):SmallA a:=by
 have hl:lenN a.st a.st.length≤1048576:=by
  have:∀ i,i≤a.st.length→lenN a.st i≤5 * i:=by
   intro i
   induction i with
   | zero=>intro _;exact Int.le_refl _
   | succ i ih=>intro hi;rw [a52];have:=ih (by omega);have:=h6 i (by omega);omega
  have:=this a.st.length (Nat.le_refl _)
  omega
 exact ⟨by omega,by omega,by omega,by omega,by omega,fun i hi=>Nat.le_trans (h6 i hi) (by decide),hl⟩
theorem a76 {xs:List (List Int)} {c n:Nat} {l:List Int} (h:∀ i,i < xs.length→(xs.getD i default).length≤n) (hl:l.length≤n):∀ i,i < (xs.set c l).length→((xs.set c l).getD i default).length≤n:=fun i hi=>by
 rw [List.length_set] at hi
 rw [List.getD_eq_getElem?_getD]
 by_cases e:c=i
 ·subst e
  rw [List.getElem?_set_self hi];exact hl
 ·rw [List.getElem?_set_ne e,← List.getD_eq_getElem?_getD];exact h i hi
theorem a7n {rs:List Route} {a:Abs} {s:MStep} (hF:AbsF rs a):SmallA (t4 rs a s).1:=by
 have h1:=hF.n
 have h2:=hF.en
 have h3:=hF.ra
 have h4:=hF.po
 have h5:=hF.st
 have h6:∀ i,i < a.st.length→(a.st.getD i default).length≤4:=fun i hi=>hF.len i (by omega)
 have h7:∀ i,i < a.st.length→(a.st.getD i default).length≤5:=fun i hi=>Nat.le_succ_of_le (h6 i hi)
 have h8:(a.st.getD s.c.toNat default).length≤4:=by
  by_cases hc:s.c.toNat < a.st.length
  ·exact h6 _ hc
  ·rw [List.getD_eq_getElem?_getD,List.getElem?_eq_none (by omega)];exact Nat.zero_le _
 have h9:SmallA a:=a2W (by omega) (by omega) (by omega) (by omega) (by omega) h7
 have fin:∀ b:Abs,b.en.length=a.en.length→b.ra.length=a.ra.length→b.po.length=a.po.length→b.ma.length=a.ma.length→b.st.length=a.st.length→(∀ i,i < b.st.length→(b.st.getD i default).length≤5)→SmallA b:=fun b q1 q2 q3 q4 q5 q6=>a2W (by omega) (by omega) (by omega) (by omega) (by omega) q6
 unfold t4
 split
 ·exact fin _ rfl List.length_set rfl rfl rfl h7
 split
 ·exact fin _ rfl (U1 8) (N2 8) rfl rfl h7
 split
 ·split
  ·exact h9
  ·exact fin _ rfl rfl List.length_set rfl List.length_set (a76 h7 (by rw [List.length_append,List.length_cons,List.length_nil];omega))
 split
 ·split
  ·exact h9
  ·exact fin _ rfl rfl rfl rfl List.length_set (a76 h7 (by rw [List.length_take];omega))
 split
 ·exact fin _ rfl rfl rfl List.length_set rfl h7
 ·exact fin _ List.length_set rfl rfl rfl rfl h7
theorem a54:SmallA noA:=a2W (by decide) (by decide) (by decide) (by decide) (by decide) (fun i hi=>by cases hi)
theorem a7o {rs:List Route} {a:Abs} {s:MStep}:SmallA (stepA rs a s).1:=by
 unfold stepA
 split
 ·next h=>exact a7n (a3D h.1)
 ·exact a54
end Go.Rf
