/- Texts merged into one: RfNB, RfNC, RfND, RfNE, RfQ, RfY, RfNM, RfNF, RfNG, RfNH, RfR, RfV, Rf1, RfNJ, RfNK, RfNQ, RfNR, RfNS, RfNT, RfMA, RfNV, RfMB. -/
import Derived.Test.YtcnodpipinlpcaaGreatLibB
import Derived.Laws.BytesArg
import Derived.Lib.LaidTab
import Derived.Lib.ItoaNum
import Derived.Lib.ItoaLen
import Derived.Sort.Grow
import Derived.Lib.IndexLaws
import Derived.Sort.Row
import Derived.Lib.SliceRun
set_option linter.constructorNameAsVariable false
set_option linter.unusedSectionVars false
set_option linter.unusedSimpArgs false
set_option linter.unusedVariables false
namespace Go.Rf
open Go Go.RowKit
section
variable {P:Program} [Env P] {w0:Base} {ops:Array Oper} {tb:List (Nat×TyI)} {o:Oper} {rest:List Oper} {T:List (Nat×AV)} {m m':List (Nat×Option Row)} {nx nt d:Nat} {Q:Exit→St→Prop} {c:Code}
theorem RelC.nestC {ρ:Nat→Value} {w:World} (hC:RelC w0 ρ m nx w) {id e sz:Nat} {yss:List (List CI)} {op:List (Nat×Nat×Nat)} (hm:mem m id=some (.nest e sz yss op)):id < nx/\∃cells,NestC w0.w.heap.size w (ρ id) e sz yss cells/\∀q∈op,q.2.2 < nx/\y8 yss q.1 q.2.1=some .x/\y8 cells q.1 q.2.1=some (ρ q.2.2):=hC.rows id _ hm
theorem NestC.blkOwn {B:Nat} {w:World} {y:Value} {e sz:Nat} {yss:List (List CI)} {cells:List (List Value)} (h:NestC B w y e sz yss cells):blk y=y.ownBlock:=a14 h.1
theorem b1H (w:World) (r:Option Nat):w.grownBy w r:=⟨Z,Z,Z,Nat.le_refl _,λ_ _ _=>Z⟩
theorem a40 (ρ:Nat→Value) (id:Nat):upd ρ id (ρ id)=ρ:=by funext j;unfold upd;split<;>simp_all
theorem a7x {w:World} {y:Value} {e sz:Nat} {yss:List (List CI)} {op:List (Nat×Nat×Nat)} {p:Nat×Nat}:inn w y (.nest e sz yss op) p=y4 w y sz yss p:=rfl
theorem a7y {w:World} {y:Value} {sz:Nat} {yss yss':List (List CI)} {p:Nat×Nat} {b:Nat} (h:y4 w y sz yss' p=some b) (hy:∀e s ys f,y8 yss' p.1 p.2=some (.l e s ys f)→∃e' s' ys' f',y8 yss p.1 p.2=some (.l e' s' ys' f')):y4 w y sz yss p=some b:=by
 unfold y4 at h ⊢
 grind
theorem a7z {yss:List (List CI)} {i k:Nat} {cs:List CI} {z:CI} (hi:yss[i]?=some cs) (i' k':Nat):y8 (yss.set i (cs.set k z)) i' k'=if i'=i/\k'=k/\k < cs.length then some z else y8 yss i' k':=by
 grind [y8]
theorem b0D {yss:List (List CI)} {i k sz:Nat} {cs:List CI} {z:CI} (hi:yss[i]?=some cs) (hall:∀c∈yss,c.length=sz):∀c∈yss.set i (cs.set k z),c.length=sz:=λc hc=>by
 grind
theorem Gh.open {id e sz i k e' sz':Nat} {yss yss':List (List CI)} {op:List (Nat×Nat×Nat)} {cs:List CI} {ys:List (List Value)} {f:Bool} (nx':Nat) (hn':Nat.beq nx' (Nat.succ nx)=true) (hm:mem m id=some (.nest e sz yss op)) (hi:yss[i]?=some cs) (hk:cs[k]?=some (.l e' sz' ys f)) (hy:yss.set i (cs.set k .x)=yss') :
 Gh w0 ⟨T,m,nx,nt⟩ ⟨T,(id,some (.nest e sz yss' ((i,k,nx) :: op))) :: (nx,some (.row e' sz' ys f)) :: m,nx',nt⟩:=by
 have hn'':=Nat.eq_of_beq_eq_true hn'
 subst hn''
 subst hy
 intro ρ a w hT hC
 obtain ⟨hlt,cells,hN,hop⟩:=hC.nestC hm
 have hc:y8 yss i k=some (.l e' sz' ys f):=s2.2 ⟨cs,hi,hk⟩
 have hkl:=(List.getElem?_eq_some_iff.1 hk).1
 obtain ⟨u,hu,hrow,hinn⟩:=hN.at hc
 have hset:=a7z (k:=k) (z:=CI.x) hi
 have hNC:NestC w0.w.heap.size w (ρ id) e sz (yss.set i (cs.set k .x)) cells:=by
  refine ⟨by rw [List.length_set];exact hN.1,by rw [List.length_set];exact hN.2.1,hN.2.2.1,b0D hi hN.2.2.2.1,λi' k' c hc'=>?_⟩
  rw [hset] at hc'
  split at hc'
  ·rename_i h
   cases hc'
   exact ⟨u,by rw [h.1,h.2.1];exact hu,trivial⟩
  ·exact hN.2.2.2.2 i' k' c hc'
 have hsub:∀p b,y4 w (ρ id) sz (yss.set i (cs.set k .x)) p=some b→y4 w (ρ id) sz yss p=some b/\p≠(i,k):=λp b hb=>by
  refine ⟨a7y hb λe s ys f h=>?_,λe=>?_⟩
  ·rw [hset] at h
   split at h
   ·cases h
   ·exact ⟨_,_,_,_,h⟩
  ·subst e
   unfold y4 at hb
   rw [hset,if_pos ⟨Z,Z,hkl⟩] at hb
   cases hb
 have hC1:RelC w0 ρ ((id,some (.nest e sz (yss.set i (cs.set k .x)) [])) :: m) nx w:=hC.retell hm ⟨cells,hNC,λq hq=>by cases hq⟩ (λp b hb=>(hsub p b hb).1)
 have hC2:RelC w0 (upd ρ nx u) ((nx,some (.row e' sz' ys f)) :: (id,some (.nest e sz (yss.set i (cs.set k .x)) [])) :: m) (nx+1) w:=by
  refine hC1.add ?_ (λb hb=>?_) (λp b hb=>by cases hb)
  ·simp only [RowRel];rw [j4];exact hrow
  ·rcases hb with hb | ⟨p,hb⟩
   ·have hb1:inn w (ρ id) (.nest e sz yss op) (i,k)=some b:=by rw [a7x,hinn];exact hb
    obtain ⟨g1,_,_,g4⟩:=hC.inner id _ hm _ b hb1
    refine ⟨λi' r' hr' hf=>?_,g1⟩
    by_cases e1:id=i'
    ·subst e1
     rw [i8] at hr'
     cases hr'
     rcases hf with hf | ⟨p',hf⟩
     ·exact (g4 id _ hm).1 hf
     ·obtain ⟨h1,h2⟩:=hsub p' b hf
      exact h2 ((g4 id _ hm).2 p' h1).2.symm
    ·rw [d1 e1] at hr'
     rcases hf with hf | ⟨p',hf⟩
     ·exact (g4 i' r' hr').1 hf
     ·exact e1 ((g4 i' r' hr').2 p' hf).1
   ·cases hb
 have hne:nx≠id:=Nat.ne_of_gt hlt
 have hm2:mem ((nx,some (Row.row e' sz' ys f)) :: (id,some (.nest e sz (yss.set i (cs.set k .x)) [])) :: m) id=some (.nest e sz (yss.set i (cs.set k .x)) []):=by rw [d1 hne,i8]
 have hupd:∀j,j < nx→upd ρ nx u j=ρ j:=λj hj=>l7 ρ u J
 refine ⟨upd ρ nx u,hT.add u,(hC2.retell hm2 (row':=.nest e sz (yss.set i (cs.set k .x)) ((i,k,nx) :: op)) ⟨cells,by rw [hupd id hlt];exact hNC,λq hq=>?_⟩ (λp b h=>h)).sub λi' r' hr'=>?_⟩
 ·rcases List.mem_cons.1 hq with rfl | hq
  ·refine ⟨Nat.lt_succ_self nx,?_,?_⟩
   ·rw [hset,if_pos ⟨Z,Z,hkl⟩]
   ·rw [j4];exact hu
  ·obtain ⟨g1,g2,g3⟩:=hop q hq
   refine ⟨Nat.lt_succ_of_lt g1,?_,by rw [hupd _ g1];exact g3⟩
   rw [hset]
   split
   ·rfl
   ·exact g2
 ·by_cases e1:id=i'
  ·subst e1;rw [i8] at hr' ⊢;exact hr'
  ·rw [d1 e1] at hr' ⊢
   by_cases e2:nx=i'
   ·subst e2;rw [i8] at hr' ⊢;exact hr'
   ·rw [d1 e2] at hr' ⊢;rw [d1 e1];exact hr'
theorem Gh.detach {id e sz:Nat} {yss:List (List CI)} {q:Nat×Nat×Nat} {op:List (Nat×Nat×Nat)} (hm:mem m id=some (.nest e sz yss (q :: op))):Gh w0 ⟨T,m,nx,nt⟩ ⟨T,(id,some (.nest e sz yss op)) :: m,nx,nt⟩:=by
 intro ρ a w hT hC
 obtain ⟨hlt,cells,hN,hop⟩:=hC.nestC hm
 exact ⟨ρ,hT,hC.retell hm ⟨cells,hN,λq hq=>hop q (List.mem_cons_of_mem _ hq)⟩ λp b h=>h⟩
theorem RelVs.forget {ρ:Nat→Value}:∀{cs:List AV} {us:List Value} (k:Nat),RelVs w0 ρ nx cs us→RelVs w0 ρ nx (cs.set k .any) us
 | [],us,k,h=>by simpa using h
 | c :: cs,_,0,h=>by
  grind [RelVs,RelV]
 | c :: cs,_,k+1,h=>by
  simp only [RelVs] at h
  obtain ⟨u,us,rfl,h1,h2⟩:=h
  simp only [List.set_cons_succ,RelVs]
  exact ⟨_,_,Z,h1,RelVs.forget k h2⟩
def b3S:List AV→Nat→List AV→Option (List AV)
 | [],_,acc=>a2x acc []
 | _ :: r,0,acc=>b3S r (r.length+1) (.any :: acc)
 | x :: r,k+1,acc=>b3S r k (x :: acc)
theorem a8L {w0:World} {ρ:Nat→Value}:∀{cs:List AV} {k:Nat} {acc rs:List AV} {us acc':List Value},b3S cs k acc=some rs→RelVs w0 ρ nx cs us→RelVs w0 ρ nx acc.reverse acc'→RelVs w0 ρ nx rs (acc'++us)
 | [],_,acc,rs,us,acc',h,hr,ha=>by
  simp [b3S,E6] at h
  simp only [RelVs] at hr
  subst h;subst hr
  simpa using ha
 | c :: cs,k,acc,rs,us,acc',h,hr,ha=>by
  simp only [RelVs] at hr
  obtain ⟨u,us,rfl,h1,h2⟩:=hr
  have key:∀(a:AV) (k':Nat),RelV w0 ρ nx a u→b3S cs k' (a :: acc)=some rs→RelVs w0 ρ nx rs (acc'++u :: us):=λa k' hu h'=>by
   have:=a8L h' h2 (acc':=acc'++[u]) (by
    rw [List.reverse_cons]
    refine RelVs.append _ ha ?_
    simp only [RelVs]
    exact ⟨_,_,Z,hu,Z⟩)
   simpa using this
  cases k with
  | zero=>exact key .any _ (by simp only [RelV]) h
  | succ k=>exact key c k h1 h
theorem Gh.forget {id k:Nat} {cs cs':List AV} (hm:mem m id=some (.box cs)) (h:b3S cs k []=some cs'):Gh w0 ⟨T,m,nx,nt⟩ ⟨T,(id,some (.box cs')) :: m,nx,nt⟩:=by
 intro ρ a w hT hC
 obtain ⟨b,cur,ty,hρ,hB,hb,hR,hone⟩:=hC.box hm
 exact ⟨ρ,hT,hC.retell hm ⟨b,cur,ty,hρ,hB,hb,by simpa using a8L (acc':=[]) h hR (by simp [RelVs]),hone⟩⟩
theorem Gh.close {id id' e sz i k e' sz':Nat} {yss yss':List (List CI)} {op:List (Nat×Nat×Nat)} {cs:List CI} {ys:List (List Value)} {f:Bool} (hm:mem m id=some (.nest e sz yss ((i,k,id') :: op))) (hm':mem m id'=some (.row e' sz' ys f)) (hi:yss[i]?=some cs) (hop':∀q∈op,¬ (q.1=i/\q.2.1=k)) (hy:yss.set i (cs.set k (.l e' sz' ys f))=yss') :
 Gh w0 ⟨T,m,nx,nt⟩ ⟨T,(id',none) :: (id,some (.nest e sz yss' op)) :: m,nx,nt⟩:=by
 subst hy
 intro ρ a w hT hC
 obtain ⟨hlt,cells,hN,hop⟩:=hC.nestC hm
 obtain ⟨h1,h2,h3⟩:=hop (i,k,id') (List.mem_cons_self)
 simp only at h1 h2 h3
 have hkl:k < cs.length:=by
  grind [s2]
 have hset:=a7z (k:=k) (z:=CI.l e' sz' ys f) hi
 have hrow':=hC.rowF hm'
 have hNC:NestC w0.w.heap.size w (ρ id) e sz (yss.set i (cs.set k (.l e' sz' ys f))) cells:=by
  refine ⟨by rw [List.length_set];exact hN.1,by rw [List.length_set];exact hN.2.1,hN.2.2.1,b0D hi hN.2.2.2.1,λi' k' c hc'=>?_⟩
  rw [hset] at hc'
  split at hc'
  ·rename_i h
   cases hc'
   exact ⟨_,by rw [h.1,h.2.1];exact h3,hrow'⟩
  ·exact hN.2.2.2.2 i' k' c hc'
 have hwas:∀p b,y4 w (ρ id) sz (yss.set i (cs.set k (.l e' sz' ys f))) p=some b→(p=(i,k)/\blk (ρ id')=some b)∨(p≠(i,k)/\y4 w (ρ id) sz yss p=some b):=λp b hb=>by
  by_cases e1:p=(i,k)
  ·subst e1
   obtain ⟨u,g1,_,g3⟩:=hNC.at (i:=i) (k:=k) (by rw [hset,if_pos ⟨Z,Z,hkl⟩])
   grind
  ·grind [a7y]
 have hne:id≠id':=λe=>by subst e;rw [hm] at hm';cases hm'
 refine ⟨ρ,hT,?_⟩
 have:=hC.renest (ids:=[id']) (row':=.nest e sz (yss.set i (cs.set k (.l e' sz' ys f))) op) (v':=ρ id) (.inr Z) hm (.inr Z) hN.blkOwn hN.blkOwn (by simpa using hne) (b1H w _) (.inl Z) ?_ (λp b hb=>?_) (λp p' b hb hb'=>?_)
 ·rw [a40] at this;exact this
 ·rw [a40]
  refine ⟨cells,hNC,λq hq=>?_⟩
  grind
 ·rcases hwas p b hb with ⟨_,h⟩ | ⟨_,h⟩
  ·exact .inr ⟨id',_,by simp,hm',.inl h⟩
  ·exact .inl ⟨p,h⟩
 ·rcases hwas p b hb with ⟨rfl,h⟩ | ⟨_,h⟩<;>rcases hwas p' b hb' with ⟨rfl,h'⟩ | ⟨_,h'⟩
  ·rfl
  ·exact absurd h (hC.blkne hm hm' h')
  ·exact absurd h' (hC.blkne hm hm' h)
  ·exact ((hC.inner id _ hm p b h).2.2.2 id _ hm).2 p' h' |>.2
theorem b2s [EnvAt P w0] {t:TypeId} {x:Operand} {ti:TyI} {id sz i k e e' sz':Nat} {yss yss':List (List CI)} {op:List (Nat×Nat×Nat)} {cs:List CI} {ys:List (List Value)} {f:Bool} (G:Good P tb) (nx':Nat) (hn':Nat.beq nx' (Nat.succ nx)=true) (hd:o.dst=some d) (hlt:Nat.blt d nt=true) (ho:o.op=.load t x) (ht:look t tb=some ti) (hf:V2 ti=true) (hx:ev T x=some (.rpt id sz i k)) (hm:mem m id=some (.nest e sz yss op))
 (hi:yss[i]?=some cs) (hk:cs[k]?=some (.l e' sz' ys f)) (hy:yss.set i (cs.set k .x)=yss')
 (hw:WL P w0 ops rest ⟨(d,.own nx) :: T,(id,some (.nest e sz yss' op)) :: (nx,some (.row e' sz' ys f)) :: m,nx',nt⟩ Q):WX P w0 ops o rest ⟨T,m,nx,nt⟩ Q:=by
 have hkl:=(List.getElem?_eq_some_iff.1 hk).1
 have hc:y8 yss' i k=some .x:=by rw [← hy,a7z hi,if_pos ⟨Z,Z,hkl⟩]
 refine v6 (Gh.open nx' hn' hm hi hk hy) (b7 hd hlt (z7 G ho ht hf hx (i8 _ _ _) hc (.own (id:=nx) (by simp) .nil)) (m6 (Gh.detach (i8 _ _ _)) ?_))
 have hn'':=Nat.eq_of_beq_eq_true hn'
 subst hn''
 intro ρ a w hT hC
 exact hw ρ a w hT (hC.sub λi r hr=>by
  by_cases e1:id=i
  ·subst e1;rw [i8] at hr ⊢;exact hr
  ·rw [d1 e1] at hr ⊢;rw [d1 e1];exact hr)
inductive Absorb (m:List (Nat×Option Row)):List AV→List CI→List Nat→Prop
 | nil:Absorb m [] [] []
 | v {x:Value} {as:List AV} {cs:List CI} {ids:List Nat} (hx:x.oneCell'=true) (h:Absorb m as cs ids):Absorb m (.v x :: as) (.v x :: cs) ids
 | nils {e sz:Nat} {f:Bool} {as:List AV} {cs:List CI} {ids:List Nat} (h:Absorb m as cs ids):Absorb m (.v (.slice none 0 0) :: as) (.l e sz [] f :: cs) ids
 | own {id e sz:Nat} {ys:List (List Value)} {f:Bool} {as:List AV} {cs:List CI} {ids:List Nat} (hm:mem m id=some (.row e sz ys f)) (h:Absorb m as cs ids):Absorb m (.own id :: as) (.l e sz ys f :: cs) (id :: ids)
theorem Absorb.rows {ids:List Nat} {as:List AV} {cs:List CI} (h:Absorb m as cs ids):∀i∈ids,∃e sz ys f,mem m i=some (.row e sz ys f):=by
 induction h with
 | nil=>intro i hi;cases hi
 | v _ _ ih=>exact ih
 | nils _ ih=>exact ih
 | own hm _ ih =>
  grind
def a1v (ρ:Nat→Value) (m:List (Nat×Option Row)) (ids:List Nat) (cs:List CI) (us:List Value) (j b:Nat):Prop:=(∃e s ys f,cs[j]?=some (.l e s ys f))/\∃u,us[j]?=some u/\blk u=some b
theorem Absorb.spec {ρ:Nat→Value} {w:World} (hC:RelC w0 ρ m nx w) {as:List AV} {cs:List CI} {ids:List Nat} (h:Absorb m as cs ids):nodupB ids=true→∀{us:List Value},RelVs w0.w ρ nx as us →
 us.length=cs.length/\(∀u∈us,u.oneCell'=true)/\(∀(j:Nat) (c:CI),cs[j]?=some c→∃u,us[j]?=some u/\CIRel w0.w.heap.size w c u)/\(∀j b,a1v ρ m ids cs us j b→∃i r,i∈ids/\mem m i=some r/\blk (ρ i)=some b) /\
 ∀j j' b,a1v ρ m ids cs us j b→a1v ρ m ids cs us j' b→j=j':=by
 induction h with
 | nil =>
  intro _ us hr
  simp only [RelVs] at hr
  subst hr
  exact ⟨Z,by simp,by simp,λj b hb=>by obtain ⟨⟨_,_,_,_,h⟩,_⟩:=hb;simp at h,λj j' b hb=>by obtain ⟨⟨_,_,_,_,h⟩,_⟩:=hb;simp at h⟩
 | @v x as cs ids hx _ ih =>
  intro hn us hr
  simp only [RelVs,RelV] at hr
  obtain ⟨u,us,rfl,rfl,hr⟩:=hr
  obtain ⟨h1,h2,h3,h4,h5⟩:=ih hn hr
  have hs:∀j b,a1v ρ m ids (.v u :: cs) (u :: us) j b→∃j0,j=j0+1/\a1v ρ m ids cs us j0 b:=λj b hb=>by
   obtain ⟨⟨e,s,ys,f,g1⟩,u',g2,g3⟩:=hb
   cases j with
   | zero=>simp at g1
   | succ j=>exact ⟨j,Z,⟨e,s,ys,f,by simpa using g1⟩,u',by simpa using g2,g3⟩
  refine ⟨by simp [h1],?_,?_,?_,?_⟩
  ·intro y hy
   rcases List.mem_cons.1 hy with rfl | hy
   ·exact hx
   ·exact h2 y hy
  ·intro j c hj
   cases j with
   | zero=>simp at hj;subst hj;exact ⟨u,Z,Z⟩
   | succ j=>simpa using h3 j c (by simpa using hj)
  ·intro j b hb
   obtain ⟨j0,_,hb⟩:=hs j b hb
   exact h4 j0 b hb
  ·intro j j' b hb hb'
   obtain ⟨j0,rfl,hb⟩:=hs j b hb
   obtain ⟨j1,rfl,hb'⟩:=hs j' b hb'
   rw [h5 j0 j1 b hb hb']
 | @nils e sz f0 as cs ids _ ih =>
  intro hn us hr
  simp only [RelVs,RelV] at hr
  obtain ⟨u,us,rfl,rfl,hr⟩:=hr
  obtain ⟨h1,h2,h3,h4,h5⟩:=ih hn hr
  have hs:∀j b,a1v ρ m ids (.l e sz [] f0 :: cs) (.slice none 0 0 :: us) j b→∃j0,j=j0+1/\a1v ρ m ids cs us j0 b:=λj b hb=>by
   obtain ⟨⟨e,s,ys,f,g1⟩,u',g2,g3⟩:=hb
   cases j with
   | zero=>simp at g2;subst g2;simp [blk] at g3
   | succ j=>exact ⟨j,Z,⟨e,s,ys,f,by simpa using g1⟩,u',by simpa using g2,g3⟩
  refine ⟨by simp [h1],?_,?_,?_,?_⟩
  ·intro y hy
   rcases List.mem_cons.1 hy with rfl | hy
   ·rfl
   ·exact h2 y hy
  ·intro j c hj
   cases j with
   | zero=>simp at hj;subst hj;exact ⟨_,Z,OwnR.nil,by simp⟩
   | succ j=>simpa using h3 j c (by simpa using hj)
  ·intro j b hb
   obtain ⟨j0,_,hb⟩:=hs j b hb
   exact h4 j0 b hb
  ·intro j j' b hb hb'
   obtain ⟨j0,rfl,hb⟩:=hs j b hb
   obtain ⟨j1,rfl,hb'⟩:=hs j' b hb'
   rw [h5 j0 j1 b hb hb']
 | @own id e sz ys f0 as cs ids hm hA ih =>
  intro hn us hr
  simp only [RelVs,RelV] at hr
  obtain ⟨u,us,rfl,⟨_,rfl⟩,hr⟩:=hr
  simp only [nodupB,Bool.and_eq_true,Bool.not_eq_true'] at hn
  obtain ⟨h1,h2,h3,h4,h5⟩:=ih hn.2 hr
  have hs:∀j b,a1v ρ m (id :: ids) (.l e sz ys f0 :: cs) (ρ id :: us) j b→(j=0/\blk (ρ id)=some b)∨∃j0,j=j0+1/\a1v ρ m ids cs us j0 b:=λj b hb=>by
   obtain ⟨⟨e,s,ys,f,g1⟩,u',g2,g3⟩:=hb
   cases j with
   | zero=>simp at g2;subst g2;exact .inl ⟨Z,g3⟩
   | succ j=>exact .inr ⟨j,Z,⟨e,s,ys,f,by simpa using g1⟩,u',by simpa using g2,g3⟩
  have hcross:∀j b,blk (ρ id)=some b→¬ a1v ρ m ids cs us j b:=λj b hb hb'=>by
   obtain ⟨i,r,q1,q2,q3⟩:=h4 j b hb'
   have hne:id≠i:=λe=>by subst e;rw [a0h q1] at hn;exact absurd hn.1 (by simp)
   exact hC.apart id i _ _ hm q2 hne b hb q3
  refine ⟨by simp [h1],?_,?_,?_,?_⟩
  ·intro y hy
   rcases List.mem_cons.1 hy with rfl | hy
   ·exact a5Q hC (x:=.own id) (by simp only [b6S,hm]) (by simp only [RelV];exact ⟨(hC.rows id _ hm).1,trivial⟩)
   ·exact h2 y hy
  ·intro j c hj
   cases j with
   | zero=>simp at hj;subst hj;exact ⟨_,Z,hC.rowF hm⟩
   | succ j=>simpa using h3 j c (by simpa using hj)
  ·intro j b hb
   rcases hs j b hb with ⟨_,hb⟩ | ⟨j0,_,hb⟩
   ·exact ⟨id,_,by simp,hm,hb⟩
   ·obtain ⟨i,r,q1,q2,q3⟩:=h4 j0 b hb
    exact ⟨i,r,by simp [q1],q2,q3⟩
  ·intro j j' b hb hb'
   rcases hs j b hb with ⟨rfl,q1⟩ | ⟨j0,rfl,q1⟩<;>rcases hs j' b hb' with ⟨rfl,q2⟩ | ⟨j1,rfl,q2⟩
   ·rfl
   ·exact absurd q2 (hcross j1 b q1)
   ·exact absurd q1 (hcross j0 b q2)
   ·rw [h5 j0 j1 b q1 q2]
theorem b0E {yss:List (List CI)} {i k sz:Nat} {c cs:List CI} (hi:yss[i]?=some c) (hall:∀c∈yss,c.length=sz) (hfit:k+cs.length<=c.length):∀c'∈yss.set i (c.take k++cs++c.drop (k+cs.length)),c'.length=sz:=λc' hc=>by
 grind
theorem a6u {α:Type} {yss:List (List α)} {i k:Nat} {c cs:List α} (hi:yss[i]?=some c) (hfit:k+cs.length<=c.length) (i' k':Nat):y8 (yss.set i (c.take k++cs++c.drop (k+cs.length))) i' k'=if i'=i/\k<=k'/\k' < k+cs.length then cs[k' - k]? else y8 yss i' k':=by
 grind [b1F,y8]
theorem j6 {t:TypeId} {ti:TyI} {x y:Operand} {id sz j k e:Nat} {yss yss':List (List CI)} {op:List (Nat×Nat×Nat)} {c cs:List CI} {ids:List Nat} {ay:AV} {as:List AV} (G:Good P tb) (hd:o.dst=none) (ho:o.op=.store t x y) (ht:look t tb=some ti) (hx:ev T x=some (.rpt id sz j k)) (hm:mem m id=some (.nest e sz yss op))
 (hc:yss[j]?=some c) (hy:ev T y=some ay) (hv:A0 ay=some as) (hA:Absorb m as cs ids) (hnd:nodupB ids=true) (h1:a0J m as=true) (hl:Nat.beq as.length (Q8 ti)=true) (hfit:k+cs.length<=c.length) (hop':∀q∈op,¬ (q.1=j/\k<=q.2.1/\q.2.1 < k+cs.length))
 (hres:yss.set j (c.take k++cs++c.drop (k+cs.length))=yss')
 (hk:WL P w0 ops rest ⟨T,a6t ids ((id,some (.nest e sz yss' op)) :: m),nx,nt⟩ Q):WX P w0 ops o rest ⟨T,m,nx,nt⟩ Q:=by
 subst hres
 intro ρ a w hT hC
 have hax:=hT.ev hx
 simp only [RelV] at hax
 obtain ⟨hn,g,o',l,cp,hg,he⟩:=hax
 obtain ⟨hlt,cells,hN,hop⟩:=hC.nestC hm
 obtain rfl:=hN.off hg
 rw [Nat.zero_add] at he
 obtain ⟨h2,h3⟩:=U3 hC hv h1 (hT.ev hy)
 have hrows:=hA.rows
 have hidn:id∉ids:=λhi=>by obtain ⟨_,_,_,_,h⟩:=hrows id hi;rw [hm] at h;cases h
 obtain ⟨hul,_,hCI,hown,hinj⟩:=hA.spec hC hnd h2
 have hsz:(a.eval y).cells.size=cs.length:=by simpa using hul
 have hl':as.length=Q8 ti:=Nat.eq_of_beq_eq_true hl
 have hal:=RelVs.length _ h2
 have hcl:c.length=sz:=hN.2.2.2.1 c (List.mem_of_getElem? hc)
 have hjl:j < yss.length:=(List.getElem?_eq_some_iff.1 hc).1
 have hjc:j < cells.length:=by rw [hN.2.1];exact hjl
 have hdl:cells[j]?=some cells[j]:=List.getElem?_eq_getElem hjc
 have hdn:=(hN.2.2.1 cells[j] (List.getElem_mem hjc))
 rcases hN.1.2 with ⟨hnil,_⟩ | ⟨g',cap,cur,hsl,hB,hb,hcap,hcapm,hcur,htake⟩
 ·omega
 have hgg:g=g'/\l=yss.length/\cp=cap:=by rw [hg] at hsl;simpa using hsl
 obtain ⟨rfl,rfl,rfl⟩:=hgg
 have hbd:j * sz+k+cs.length<=yss.length * sz:=by
  have:(j+1) * sz<=yss.length * sz:=Nat.mul_le_mul_right _ hjl
  grind
 have hbd2:yss.length * sz<=cur.size:=by rw [hcur];exact Nat.mul_le_mul_right _ hcap
 have hrun:=Y7 (P:=P) (G t ti ht) hb (off:=j * sz+k) (v:=a.eval y) (by simp at hal;omega) h3 J
 unfold Oper.wp
 have hr:(execOp a.eval o).run P w=.ok .skip (w.setRow g (cur.toList.take (j * sz+k)++(a.eval y).cells.toList++cur.toList.drop (j * sz+k+(a.eval y).cells.size)).toArray):=by
  simp only [execOp,ho,he,Sem.run_bind,hrun,Result.andThen_ok,Sem.run_pure]
 rw [hr,Oper.upon_skip,hd]
 generalize hw':w.setRow g (cur.toList.take (j * sz+k)++(a.eval y).cells.toList++cur.toList.drop (j * sz+k+(a.eval y).cells.size)).toArray=w'
 have hgr:w.grownBy w' (some g):=hw'▸G0 w g _
 let us:=(a.eval y).cells.toList
 have hus:us.length=cs.length:=hul
 let dd:=cells[j].take k++us++cells[j].drop (k+us.length)
 have hdd:dd.length=sz:=by rw [b1G (by rw [hus,hdn.1,← hcl];exact hfit)];exact hdn.1
 have hcells':∀c'∈cells.set j dd,c'.length=sz/\∀u∈c',u.oneCell'=true:=λc' hc'=>by
  rcases List.mem_or_eq_of_mem_set hc' with hc' | rfl
  ·exact hN.2.2.1 c' hc'
  grind
 have hblkid:blk (ρ id)=some g:=by rw [hg];rfl
 have hown':w'.ownsRow w0.w.heap.size e sz (ρ id) (yss.set j (c.take k++cs++c.drop (k+cs.length))).length (cells.set j dd).flatten:=by
  refine ⟨?_,.inr ⟨g,cp,_,by rw [hg];simp,hB,by rw [← hw'];exact setRow_heap w g cur _ e _ hb,by simpa using hcap,hcapm,?_,?_⟩⟩
  ·rw [j9 (λc hc=>(hcells' c hc).1)];simp [hN.2.1]
  ·simp [hsz];omega
  ·rw [a0K (vs:=us) (λc hc=>(hN.2.2.1 c hc).1) hdl J Z,hsz,hus,← htake]
   simp only [List.length_set]
   have hlt1:(List.take (j * sz+k) cur.toList).length=j * sz+k:=by rw [List.length_take];simp;omega
   simp only [List.take_append,List.take_take,List.drop_take,List.length_append,hlt1]
   rw [Nat.min_eq_left (by omega:j * sz+k<=yss.length * sz),Nat.min_eq_right (by omega:j * sz+k<=yss.length * sz)]
   rw [List.take_of_length_le (l:=(a.eval y).cells.toList) J,hul]
 have hnget:=a6u (k:=k) (cs:=cs) hc hfit
 have hngetc:∀i' k',y8 (cells.set j dd) i' k'=if i'=j/\k<=k'/\k' < k+cs.length then us[k' - k]? else y8 cells i' k':=λi' k'=>by
  grind [a6u]
 have hfr:∀b',b'≠g→b' < w.heap.size→w'.heap[b']?=w.heap[b']?:=λb' hne hlt'=>hgr.block b' hlt' (by simpa using hne)
 have hNC:NestC w0.w.heap.size w' (ρ id) e sz (yss.set j (c.take k++cs++c.drop (k+cs.length))) (cells.set j dd):=by
  refine ⟨hown',by simp [hN.2.1],hcells',b0E hc hN.2.2.2.1 hfit,λi' k' c' hc'=>?_⟩
  rw [hnget] at hc'
  rw [hngetc]
  split at hc'
  ·rename_i h
   rw [if_pos h]
   obtain ⟨u,q1,q2⟩:=hCI _ _ hc'
   refine ⟨u,q1,q2.frame ?_⟩
   rintro ⟨e',s',ys,f',rfl⟩ b' hb'
   obtain ⟨i0,r0,z1,z2,z3⟩:=hown _ b' ⟨⟨_,_,_,_,hc'⟩,u,q1,hb'⟩
   refine hfr b' (λe0=>?_) (hC.lt z2 z3)
   subst e0
   exact hC.apart i0 id _ _ z2 hm (λe0=>hidn (e0▸z1)) b' z3 hblkid
  ·rename_i h
   rw [if_neg h]
   obtain ⟨u,q1,q2⟩:=hN.2.2.2.2 i' k' c' hc'
   refine ⟨u,q1,q2.frame ?_⟩
   rintro ⟨e',s',ys,f',rfl⟩ b' hb'
   obtain ⟨u',q3,_,q5⟩:=hN.at hc'
   rw [q1] at q3;cases q3
   have hi0:inn w (ρ id) (.nest e sz yss op) (i',k')=some b':=by rw [a7x,q5];exact hb'
   refine hfr b' (λe0=>?_) (hC.inner id _ hm _ b' hi0).2.2.1
   subst e0
   exact hC.blkne hm hm hi0 hblkid
 have hwas:∀p b',y4 w' (ρ id) sz (yss.set j (c.take k++cs++c.drop (k+cs.length))) p=some b'→(p.1=j/\k<=p.2/\p.2 < k+cs.length/\a1v ρ m ids cs us (p.2 - k) b')∨(¬ (p.1=j/\k<=p.2/\p.2 < k+cs.length)/\y4 w (ρ id) sz yss p=some b'):=λp b' hb'=>by
  obtain ⟨e',s',ys,f',u,q1,q2,q3,_,_⟩:=hNC.inn hb'
  rw [hnget] at q1
  rw [hngetc] at q2
  by_cases h:p.1=j/\k<=p.2/\p.2 < k+cs.length
  ·rw [if_pos h] at q1 q2
   exact .inl ⟨h.1,h.2.1,h.2.2,⟨_,_,_,_,q1⟩,u,q2,q3⟩
  ·rw [if_neg h] at q1 q2
   obtain ⟨u',z1,_,z3⟩:=hN.at q1
   grind
 have hfin:=hC.renest (w':=w') (ids:=ids) (row':=.nest e sz (yss.set j (c.take k++cs++c.drop (k+cs.length))) op) (v':=ρ id) (.inr Z) hm (.inr Z) hN.blkOwn hN.blkOwn hidn (by rw [← hN.blkOwn,hblkid];exact hgr) (.inl Z) ?_ (λp b' hb'=>?_) (λp p' b' hb' hb''=>?_)
 ·rw [a40] at hfin
  exact hk ρ _ _ hT.put_none hfin
 ·rw [a40]
  refine ⟨_,hNC,λq hq=>?_⟩
  grind
 ·rcases hwas p b' hb' with ⟨_,_,_,h⟩ | ⟨_,h⟩
  ·obtain ⟨i,r,q1,q2,q3⟩:=hown _ b' h
   exact .inr ⟨i,r,q1,q2,.inl q3⟩
  ·exact .inl ⟨p,h⟩
 ·have hx:∀p p':Nat×Nat,(p.1=j/\k<=p.2/\p.2 < k+cs.length/\a1v ρ m ids cs us (p.2 - k) b')→y4 w (ρ id) sz yss p'=some b'→False:=λp p' h h'=>by
   obtain ⟨i,r,q1,q2,q3⟩:=hown _ b' h.2.2.2
   exact hC.blkne (p:=p') hm q2 h' q3
  rcases hwas p b' hb' with h | ⟨_,h⟩<;>rcases hwas p' b' hb'' with h' | ⟨_,h'⟩
  ·grind
  ·grind
  ·grind
  ·exact ((hC.inner id _ hm p b' h).2.2.2 id _ hm).2 p' h' |>.2
inductive PlainC:List Value→List CI→Prop
 | nil:PlainC [] []
 | v {x:Value} {xs:List Value} {cs:List CI} (h:PlainC xs cs):PlainC (x :: xs) (.v x :: cs)
 | s {e sz:Nat} {f:Bool} {xs:List Value} {cs:List CI} (h:PlainC xs cs):PlainC (.slice none 0 0 :: xs) (.l e sz [] f :: cs)
theorem PlainC.get {B:Nat} {w:World} {xs:List Value} {cs:List CI} (h:PlainC xs cs):xs.length=cs.length/\∀(k:Nat) (c:CI),cs[k]?=some c→∃u,xs[k]?=some u/\CIRel B w c u/\((∃e s ys f,c=.l e s ys f)→blk u=none):=by
 induction h with
 | nil=>exact ⟨Z,by simp⟩
 | v _ ih =>
  refine ⟨by simp [ih.1],λk c hk=>?_⟩
  cases k with
  | zero=>simp at hk;subst hk;exact ⟨_,Z,Z,λ⟨_,_,_,_,h⟩=>by cases h⟩
  | succ k=>simpa using ih.2 k c (by simpa using hk)
 | s _ ih =>
  refine ⟨by simp [ih.1],λk c hk=>?_⟩
  cases k with
  | zero=>simp at hk;subst hk;exact ⟨_,Z,⟨OwnR.nil,by simp⟩,λ_=>Z⟩
  | succ k=>simpa using ih.2 k c (by simpa using hk)
theorem Gh.nest {id e sz:Nat} {ys:List (List Value)} {yss:List (List CI)} (hm:mem m id=some (.row e sz ys)) (hl:ys.length=yss.length) (hp:∀(i:Nat) (c:List Value) (cs:List CI),ys[i]?=some c→yss[i]?=some cs→PlainC c cs):Gh w0 ⟨T,m,nx,nt⟩ ⟨T,(id,some (.nest e sz yss [])) :: m,nx,nt⟩:=by
 intro ρ a w hT hC
 obtain ⟨hrow,hall⟩:=hC.row hm
 have hget:∀i cs,yss[i]?=some cs→∃c,ys[i]?=some c/\PlainC c cs:=λi cs h=>by
  have hi:i < ys.length:=by rw [hl];exact (List.getElem?_eq_some_iff.1 h).1
  exact ⟨_,List.getElem?_eq_getElem hi,hp i _ cs (List.getElem?_eq_getElem hi) h⟩
 have hNC:NestC w0.w.heap.size w (ρ id) e sz yss ys:=by
  refine ⟨by rw [← hl];exact hrow,hl,hall,λcs hcs=>?_,λi k c hc=>?_⟩
  ·obtain ⟨i,hi⟩:=List.getElem?_of_mem hcs
   obtain ⟨c,h1,h2⟩:=hget i cs hi
   rw [← (h2.get (B:=0) (w:=w)).1]
   grind
  ·obtain ⟨cs,h1,h2⟩:=s2.1 hc
   obtain ⟨c',h3,h4⟩:=hget i cs h1
   obtain ⟨u,h5,h6,_⟩:=h4.get.2 k c h2
   exact ⟨u,s2.2 ⟨c',h3,h5⟩,h6⟩
 refine ⟨ρ,hT,hC.retell hm ⟨ys,hNC,λq hq=>by cases hq⟩ λp b hb=>?_⟩
 obtain ⟨e',s',zs,f',u,h1,h2,h3,_⟩:=hNC.inn hb
 obtain ⟨cs,q1,q2⟩:=s2.1 h1
 obtain ⟨c',q3,q4⟩:=s2.1 h2
 obtain ⟨c'',q5,q6⟩:=hget p.1 cs q1
 rw [q3] at q5;cases q5
 obtain ⟨u',q7,_,q8⟩:=(q6.get (B:=0) (w:=w)).2 p.2 _ q2
 grind
end
section
variable {P:Program} [Env P] {w0:Base} {ops:Array Oper} {tb:List (Nat×TyI)} {o:Oper} {rest:List Oper} {T:List (Nat×AV)} {m m':List (Nat×Option Row)} {nx nt d:Nat} {Q:Exit→St→Prop} {c:Code}
theorem s9 {t e sz by_:Nat} {zs:List Value} {ps:Array (Nat×Operand)} {x:Operand} {ax:AV} {as:List AV} {cs:List CI} {ids:List Nat} (G:Good P tb) (nx':Nat) (hn':Nat.beq nx' (Nat.succ nx)=true) (hd:o.dst=some d) (hlt:Nat.blt d nt=true) (ho:o.op=.buildSlice t 1 ps) (hps:ps.toList=[(0,x)]) (ht:look t tb=some (.slice e sz by_ zs))
 (hx:ev T x=some ax) (hv:A0 ax=some as) (hA:Absorb m as cs ids) (hnd:nodupB ids=true) (h1:a0J m as=true) (hsz:Nat.beq cs.length sz=true) (hbig:Nat.ble sz 16777216=true)
 (hk:WL P w0 ops rest ⟨(d,.own nx) :: T,(nx,some (.nest e sz [cs] [])) :: a6t ids m,nx',nt⟩ Q):WX P w0 ops o rest ⟨T,m,nx,nt⟩ Q:=by
 have hn'':=Nat.eq_of_beq_eq_true hn'
 subst hn''
 intro ρ a w hT hC
 obtain ⟨h2,h3⟩:=U3 hC hv h1 (hT.ev hx)
 obtain ⟨hul,hone,hCI,hown,hinj⟩:=hA.spec hC hnd h2
 have hsz':cs.length=sz:=Nat.eq_of_beq_eq_true hsz
 have hbig':=Nat.le_of_ble_eq_true hbig
 let us:=(a.eval x).cells.toList
 have hus:us.length=sz:=by rw [← hsz'];exact hul
 have hrun:=a0d (G t _ ht) [a.eval x] (λv hv=>by simp at hv;subst hv;simpa [us] using hus) (by simpa using hbig') w
 have hr:(execOp a.eval o).run P w=.ok (.value (.slice (some ⟨w.heap.size,0,none⟩) 1 1)) (w.alloc (.cells us.toArray e)):=by
  have hps':(Array.map (λx=>match x with | (i,x)=>(i,a.eval x)) ps)=(([a.eval x].zipIdx 0).map λp=>(p.2,p.1)).toArray:=by
   apply Array.ext'
   simp_all
  have e1:([a.eval x].map (·.cells.toList)).flatten=us:=by simp [us]
  rw [e1] at hrun
  simp only [execOp,ho,hps',Sem.run_bind]
  simp_all
 unfold Oper.wp
 rw [hr,Oper.upon_value,hd]
 have hsub:=hC.sub (m':=a6t ids m) λi r hr=>(a3t hr).2
 have hb:Below w.heap.size w (w.alloc (.cells us.toArray e)):=(Below.refl _ _).alloc (Nat.le_refl _) _
 have hC2:=hsub.trans hb
 generalize hw':w.alloc (.cells us.toArray e)=w' at *
 have hnew:w'.heap[w.heap.size]?=some (.cells us.toArray e (0,0)):=by rw [← hw'];exact Go.heap_alloc_new w _
 let y:Value:=.slice (some ⟨w.heap.size,0,none⟩) 1 1
 obtain ⟨_,_,iz,z,_,_,_,_,_,_,hpos,_⟩:=G t _ ht
 have hownsz:w'.ownsRow w0.w.heap.size e sz y [cs].length [us].flatten:=by
  refine ⟨by simp [hus],.inr ⟨w.heap.size,1,us.toArray,Z,hC.below.size,hnew,Nat.le_refl _,by unfold maxLen;omega,by simp [hus],by simp [← hus]⟩⟩
 have hng:∀i k c,y8 [cs] i k=some c→i=0/\cs[k]?=some c:=λi k c h=>by
  obtain ⟨cs',h1,h2⟩:=s2.1 h
  grind
 have hNC:NestC w0.w.heap.size w' y e sz [cs] [us]:=by
  refine ⟨hownsz,Z,λc hc=>by simp at hc;subst hc;exact ⟨hus,hone⟩,λc hc=>by simp at hc;subst hc;exact hsz',λi k c hc=>?_⟩
  obtain ⟨rfl,hc⟩:=hng i k c hc
  obtain ⟨u,q1,q2⟩:=hCI k c hc
  refine ⟨u,by simp only [y8,List.getElem?_cons_zero,Option.bind_some];exact q1,q2.frame ?_⟩
  rintro ⟨e',s',ys,f',rfl⟩ b' hb'
  obtain ⟨i0,r0,z1,z2,z3⟩:=hown _ b' ⟨⟨_,_,_,_,hc⟩,u,q1,hb'⟩
  exact hb.block b' (hC.lt z2 z3)
 have hwas:∀p b',y4 w' y sz [cs] p=some b'→p.1=0/\a1v ρ m ids cs us p.2 b':=λp b' hb'=>by
  obtain ⟨e',s',ys,f',u,q1,q2,q3,_,_⟩:=hNC.inn hb'
  obtain ⟨h0,q1⟩:=hng _ _ _ q1
  rw [h0] at q2
  exact ⟨h0,⟨_,_,_,_,q1⟩,u,by simpa [y8] using q2,q3⟩
 refine hk (upd ρ nx y) _ _ ((hT.add _).put hlt (by simp only [RelV];exact ⟨by omega,by rw [j4]⟩)) (hC2.add ?_ (λb' hb'=>?_) (λp b' hb'=>?_))
 ·refine ⟨[us],by rw [j4];exact hNC,λq hq=>by cases hq⟩
 ·rcases hb' with hb' | ⟨p,hb'⟩
  ·have hbw:b'=w.heap.size:=by simp [y,blk] at hb';exact hb'.symm
   refine ⟨λi r hr hf=>?_,?_⟩
   ·have:=hsub.foot_lt hr (hsub.foot_trans hb hr hf);omega
   ·rw [hbw];exact hC.fresh (Nat.le_refl _)
  ·obtain ⟨_,h⟩:=hwas p b' hb'
   obtain ⟨i0,r0,z1,z2,z3⟩:=hown _ b' h
   refine ⟨λi r hr hf=>?_,hC.kept.2.2 i0 r0 z2 b' z3⟩
   obtain ⟨g1,g2⟩:=a3t hr
   exact hC.foot_apart g2 z2 (λe0=>g1 (e0▸z1)) (hsub.foot_trans hb hr hf) (.inl z3)
 ·obtain ⟨h0,h⟩:=hwas p b' hb'
  obtain ⟨i0,r0,z1,z2,z3⟩:=hown _ b' h
  refine ⟨λhby=>?_,λp' hp'=>?_⟩
  ·have hbw:b'=w.heap.size:=by simp [y,blk] at hby;exact hby.symm
   have:=hC.lt z2 z3
   omega
  ·obtain ⟨h0',h'⟩:=hwas p' b' hp'
   grind
theorem Q1 {α:Type} {l l':List (List α)} {i k:Nat}:y8 (l++l') i k=if i < l.length then y8 l i k else y8 l' (i - l.length) k:=by
 grind [y8]
theorem w5 {t e sz by_ id id2:Nat} {zs:List Value} {x y:Operand} {yss uss:List (List CI)} {op:List (Nat×Nat×Nat)} {T':List (Nat×AV)} (G:Good P tb) (hp:w0.n0<=id) (hd:o.dst=some d) (hlt:Nat.blt d nt=true) (ho:o.op=.call { callee:=.builtin .append,args:=#[x,y],argTypes:=#[t,t] })
 (ht:look t tb=some (.slice e sz by_ zs)) (hx:ev T x=some (.own id)) (hm:mem m id=some (.nest e sz yss op)) (hy:ev T y=some (.own id2)) (hm2:mem m id2=some (.nest e sz uss [])) (hne:Nat.beq id id2=false) (hby:Nat.blt 0 by_=true) (hbytes:(yss.length+uss.length) * by_<=140737488355328)
 (hf:freeM id m=true) (hT':a3U id T [] []=some T')
 (hk:WL P w0 ops rest ⟨(d,.own id) :: T',(id2,none) :: (id,some (.nest e sz (yss++uss) op)) :: m,nx,nt⟩ Q):WX P w0 ops o rest ⟨T,m,nx,nt⟩ Q:=by
 intro ρ a w hT hC
 have h1:=hT.ev hx
 have h2:=hT.ev hy
 simp only [RelV] at h1 h2
 obtain ⟨hltid,cells,hN,hop⟩:=hC.nestC hm
 obtain ⟨_,cells2,hN2,_⟩:=hC.nestC hm2
 have hne':id≠id2:=J1 hne
 have hreads:ReadsAt w sz cells2 (ρ id2):=b1t (by rw [hN2.2.1];exact hN2.1) hN2.2.2.1
 obtain ⟨v',w',hrun,hown,hgr,hat⟩:=a1q (ty:=o.type) (G t _ ht) hN.1 hreads (by rw [hN2.2.1];exact hbytes) (Nat.le_of_ble_eq_true hby) hC.below.size
 rw [hN2.2.1,← List.flatten_append,← List.length_append] at hown
 have hr2:(execOp a.eval o).run P w=.ok (.value v') w':=by
  simp only [execOp,ho,resolve,invoke,builtin,Sem.run_bind,Sem.run_pure,Result.andThen_ok,List.map_toArray,List.map_cons,List.map_nil,h1.2,h2.2,hrun]
 unfold Oper.wp
 rw [hr2,Oper.upon_value,hd]
 have hfr:∀b,(∃i r,mem m i=some r/\i≠id/\O1 w (ρ i) r b)∨(∃p,y4 w (ρ id) sz yss p=some b)→w'.heap[b]?=w.heap[b]?:=λb hb=>by
  rcases hb with ⟨i,r,q1,q2,q3⟩ | ⟨p,q⟩
  ·refine hgr.block b (hC.foot_lt q1 q3) λe0=>?_
   exact hC.foot_apart q1 hm q2 q3 (.inl (by rw [hN.blkOwn];exact e0.symm))
  ·have q':inn w (ρ id) (.nest e sz yss op) p=some b:=q
   refine hgr.block b (hC.inner id _ hm p b q').2.2.1 λe0=>?_
   exact hC.blkne hm hm q' (by rw [hN.blkOwn];exact e0.symm)
 have hcl:cells.length=yss.length:=hN.2.1
 have hNC:NestC w0.w.heap.size w' v' e sz (yss++uss) (cells++cells2):=by
  refine ⟨hown,by simp [hN.2.1,hN2.2.1],λc hc=>?_,λc hc=>?_,λi k c hc=>?_⟩
  ·rcases List.mem_append.1 hc with hc | hc
   ·exact hN.2.2.1 c hc
   ·exact hN2.2.2.1 c hc
  ·rcases List.mem_append.1 hc with hc | hc
   ·exact hN.2.2.2.1 c hc
   ·exact hN2.2.2.2.1 c hc
  ·rw [Q1] at hc
   rw [Q1,hcl]
   by_cases hi:i < yss.length
   ·rw [if_pos hi] at hc ⊢
    obtain ⟨u,q1,q2⟩:=hN.2.2.2.2 i k c hc
    refine ⟨u,q1,q2.frame ?_⟩
    rintro ⟨e',s',ys,f',rfl⟩ b' hb'
    obtain ⟨u',q3,_,q5⟩:=hN.at hc
    grind
   ·rw [if_neg hi] at hc ⊢
    obtain ⟨u,q1,q2⟩:=hN2.2.2.2.2 _ k c hc
    refine ⟨u,q1,q2.frame ?_⟩
    rintro ⟨e',s',ys,f',rfl⟩ b' hb'
    obtain ⟨u',q3,_,q5⟩:=hN2.at hc
    rw [q1] at q3;cases q3
    exact hfr b' (.inl ⟨id2,_,hm2,Ne.symm hne',.inr ⟨(i - yss.length,k),by rw [a7x,q5];exact hb'⟩⟩)
 have hwas:∀p b,y4 w' v' sz (yss++uss) p=some b→(p.1 < yss.length/\y4 w (ρ id) sz yss p=some b)∨(yss.length<=p.1/\y4 w (ρ id2) sz uss (p.1 - yss.length,p.2)=some b):=λp b hb=>by
  obtain ⟨e',s',ys,f',u,q1,q2,q3,_,_⟩:=hNC.inn hb
  rw [Q1] at q1
  rw [Q1,hcl] at q2
  by_cases hi:p.1 < yss.length
  ·rw [if_pos hi] at q1 q2
   obtain ⟨u',z1,_,z3⟩:=hN.at q1
   grind
  ·rw [if_neg hi] at q1 q2
   obtain ⟨u',z1,_,z3⟩:=hN2.at q1
   grind
 refine hk (upd ρ id v') _ _ (RelT.put ⟨λt' x' hx'=>?_,hT.size,hT.defers⟩ hlt (by simp only [RelV];exact ⟨h1.1,by rw [j4]⟩)) ?_
 ·rw [a4S] at hT'
  cases hT'
  rcases P0 _ _ _ _ _ hx' (by simp) with h2 | ⟨_,h2,h3⟩
  ·simp [look] at h2
  ·exact RelV.upd _ h3 (hT.tmps t' x' h2)
 ·refine hC.renest (ids:=[id2]) (row':=.nest e sz (yss++uss) op) (.inl hp) hm (.inl hf) hN.blkOwn hNC.blkOwn (by simpa using hne') hgr hat ?_ (λp b hb=>?_) (λp p' b hb hb'=>?_)
  ·refine ⟨_,by rw [j4];exact hNC,λq hq=>?_⟩
   obtain ⟨q1,q2,q3⟩:=hop q hq
   have hi:q.1 < yss.length:=by
    grind [s2]
   refine ⟨q1,by rw [Q1,if_pos hi];exact q2,?_⟩
   rw [Q1,hcl,if_pos hi,l7 _ _ (a0e ((Q0 hf hm).2 _ _ _ _ Z) q hq)]
   exact q3
  ·rcases hwas p b hb with ⟨_,h⟩ | ⟨_,h⟩
   ·exact .inl ⟨p,h⟩
   ·exact .inr ⟨id2,_,by simp,hm2,.inr ⟨_,h⟩⟩
  ·have hx:∀p p',y4 w (ρ id) sz yss p=some b→y4 w (ρ id2) sz uss p'=some b→False:=λp p' h h'=>hC.foot_apart hm hm2 hne' (.inr ⟨p,h⟩) (.inr ⟨p',h'⟩)
   rcases hwas p b hb with ⟨g1,h⟩ | ⟨g1,h⟩<;>rcases hwas p' b hb' with ⟨g2,h'⟩ | ⟨g2,h'⟩
   ·exact ((hC.inner id _ hm p b h).2.2.2 id _ hm).2 p' h' |>.2
   ·exact (hx _ _ h h').elim
   ·exact (hx _ _ h' h).elim
   ·have:=((hC.inner id2 _ hm2 _ b h).2.2.2 id2 _ hm2).2 _ h' |>.2
    grind
theorem t8 {id e sz:Nat} {yss yss':List (List CI)} (h:mem m id=some (.nest e sz yss' [])) (hy:yss'=yss):RCOK m (.own id) (.ne e sz yss):=by subst hy;exact h
theorem a3u {e sz:Nat} {yss:List (List CI)} (h:[]=yss):RCOK m (.v (.slice none 0 0)) (.ne e sz yss):=⟨Z,h.symm⟩
theorem a2U {z u:Value} {sz:Nat} {ys:List (List Value)} (h:z=u):RCOK m (.pin z sz ys) (.v u):=by subst h;rfl
theorem b6Z {z u:Value} {sz:Nat} {yss:List (List CI)} (h:z=u):RCOK m (.nst (some z) sz yss) (.v u):=by subst h;rfl
theorem m5 {rs:List ResultVar} {S:St} {xs ls:List AV} {single:Bool} {sh:List (Option Nat)} {cs:List RC} (h:T2 tb S rs []=some xs) (hl:Nat.beq xs.length 1=single) (hf:flA sh xs []=some ls) (hn:nodupB (P1 ls [])=true) (hx:RCOKs S.m ls cs):Fin tb rs (.shp single sh cs) .ret S:=⟨_,h,ls,hf,hx,hl,hn⟩
end
section
variable {P:Program} [Env P] {w0:Base} {ops:Array Oper} {tb:List (Nat×TyI)} {o:Oper} {rest:List Oper} {T:List (Nat×AV)} {m m':List (Nat×Option Row)} {nx nt d:Nat} {Q:Exit→St→Prop} {c:Code}
theorem b4E {z:Value} {sz:Nat} {ys:List (List Value)} (h:QStep P o T m nx nt (.pin z sz ys)):QStep P o T m nx nt (.lst sz ys):=λw0 _ ρ a w hT hC=>by
 obtain ⟨y,h1,h2⟩:=h w0 ρ a w hT hC
 simp only [RelV] at h1
 exact ⟨y,by simp only [RelV];exact h1.2,h2⟩
theorem c2B {z:Option Value} {sz:Nat} {yss:List (List CI)} (h:QStep P o T m nx nt (.nst z sz yss)):QStep P o T m nx nt (.nst none sz yss):=λw0 _ ρ a w hT hC=>by
 obtain ⟨y,h1,h2⟩:=h w0 ρ a w hT hC
 simp only [RelV] at h1
 exact ⟨y,by simp only [RelV];exact ⟨λv hv=>(by cases hv),h1.2⟩,h2⟩
def a4j:List AV→(Nat→Value)→Nat→List AV→Option (List AV)
 | [],_,_,acc=>a2x acc []
 | .lst sz ys :: r,u,k,acc=>a4j r u (Nat.succ k) (.pin (u k) sz ys :: acc)
 | .nst _ sz yss :: r,u,k,acc=>a4j r u (Nat.succ k) (.nst (some (u k)) sz yss :: acc)
 | x :: r,u,k,acc=>a4j r u (Nat.succ k) (x :: acc)
theorem a3v {w0:World} {ρ:Nat→Value} {u:Nat→Value}:∀{cs:List AV} {us:List Value} {k:Nat} {acc rs:List AV} {acc':List Value},a4j cs u k acc=some rs→RelVs w0 ρ nx cs us→(∀j y,us[j]?=some y→u (k+j)=y)→RelVs w0 ρ nx acc.reverse acc'→RelVs w0 ρ nx rs (acc'++us)
 | [],us,k,acc,rs,acc',h,hr,_,ha=>by
  simp [a4j,E6] at h
  simp only [RelVs] at hr
  subst h;subst hr
  simpa using ha
 | x :: cs,_,k,acc,rs,acc',h,hr,hu,ha=>by
  simp only [RelVs] at hr
  obtain ⟨y,us,rfl,h1,h2⟩:=hr
  have h0:u k=y:=by simpa using hu 0 y Z
  have key:∀(a:AV),RelV w0 ρ nx a y→a4j cs u (Nat.succ k) (a :: acc)=some rs→RelVs w0 ρ nx rs (acc'++y :: us):=λa hy h'=>by
   have:=a3v h' h2 (λj y hj=>by rw [show Nat.succ k+j=k+(j+1) by omega];exact hu (j+1) y (by simpa using hj)) (acc':=acc'++[y]) (by
    rw [List.reverse_cons]
    refine RelVs.append _ ha ?_
    simp only [RelVs]
    exact ⟨_,_,Z,hy,Z⟩)
   simpa using this
  cases x<;>simp only [a4j] at h
  case lst sz ys=>exact key _ (by simp only [RelV] at h1 ⊢;exact ⟨h0.symm,h1⟩) h
  case nst z sz ys=>exact key _ (by simp only [RelV] at h1 ⊢;exact ⟨λv hv=>by cases hv;exact h0.symm,h1.2⟩) h
  all_goals exact key _ h1 h
theorem j8 (t:Nat) {cs:List AV} (ht:look t T=some (.agg cs)) {rs:(Nat→Value)→List AV} (hr:∀u,a4j cs u 0 []=some (rs u)) (h:∀u,W P w0 c ⟨(t,.agg (rs u)) :: T,m,nx,nt⟩ Q):W P w0 c ⟨T,m,nx,nt⟩ Q:=by
 intro ρ a w hT hC
 have h1:=hT.tmps t _ ht
 simp only [RelV] at h1
 obtain ⟨us,he,h1⟩:=h1
 let u:Nat→Value:=λi=>us.getD i undef
 refine h u ρ a w ⟨λi x hi=>?_,hT.size,hT.defers⟩ hC
 by_cases e:i=t
 ·subst e
  rw [m9] at hi
  cases hi
  simp only [RelV]
  exact ⟨us,he,by simpa using a3v (acc':=[]) (hr u) h1 (λj y hj=>by simp only [u,Nat.zero_add,List.getD_eq_getElem?_getD,hj,Option.getD_some]) (by simp [RelVs])⟩
 ·rw [j5 (λe'=>e e'.symm)] at hi
  exact hT.tmps i x hi
mutual
def sbA (a b:Nat):AV→AV
 | .own i=>.own (bif Nat.beq i a then b else i)
 | .sub i sz k n=>.sub (bif Nat.beq i a then b else i) sz k n
 | .ptr i o=>.ptr (bif Nat.beq i a then b else i) o
 | .rpt i sz k j=>.rpt (bif Nat.beq i a then b else i) sz k j
 | .agg cs=>.agg (a7A a b cs)
 | .tup cs=>.tup (a7A a b cs)
 | .fnc f cs=>.fnc f (a7A a b cs)
 | .eptN cs=>.eptN (a7A a b cs)
 | .v x=>.v x
 | .lst sz ys=>.lst sz ys
 | .pin z sz ys=>.pin z sz ys
 | .ept cs=>.ept cs
 | .nst z sz yss=>.nst z sz yss
 | .any=>.any
def a7A (a b:Nat):List AV→List AV
 | []=>[]
 | c :: cs=>sbA a b c :: a7A a b cs
end
mutual
theorem RelV.sb {w0:World} {ρ:Nat→Value} {nx a b:Nat} (hb:b < nx):∀(x:AV) {y:Value},ment b x=false→RelV w0 ρ nx x y→RelV w0 (upd ρ b (ρ a)) nx (sbA a b x) y
 | .own i,_,hm,h=>by
  simp only [ment] at hm
  simp only [RelV,sbA] at h ⊢
  cases e:Nat.beq i a with
  | true=>have:=Nat.eq_of_beq_eq_true e;subst this;simp only [cond_true];exact ⟨hb,by rw [j4];exact h.2⟩
  | false=>simp only [cond_false];rw [l7 _ _ (J1 hm)];exact h
 | .sub i sz k n,_,hm,h=>by
  simp only [ment] at hm
  simp only [RelV,sbA] at h ⊢
  cases e:Nat.beq i a with
  | true=>have:=Nat.eq_of_beq_eq_true e;subst this;simp only [cond_true];rw [j4];exact ⟨hb,h.2⟩
  | false=>simp only [cond_false];rw [l7 _ _ (J1 hm)];exact h
 | .ptr i o,_,hm,h=>by
  simp only [ment] at hm
  simp only [RelV,sbA] at h ⊢
  cases e:Nat.beq i a with
  | true=>have:=Nat.eq_of_beq_eq_true e;subst this;simp only [cond_true];rw [j4];exact ⟨hb,h.2⟩
  | false=>simp only [cond_false];rw [l7 _ _ (J1 hm)];exact h
 | .rpt i sz k j,_,hm,h=>by
  simp only [ment] at hm
  simp only [RelV,sbA] at h ⊢
  cases e:Nat.beq i a with
  | true=>have:=Nat.eq_of_beq_eq_true e;subst this;simp only [cond_true];rw [j4];exact ⟨hb,h.2⟩
  | false=>simp only [cond_false];rw [l7 _ _ (J1 hm)];exact h
 | .agg cs,_,hm,h=>by
  simp only [ment] at hm
  simp only [RelV,sbA] at h ⊢
  obtain ⟨ys,e,h⟩:=h
  exact ⟨ys,e,RelVs.sb hb cs hm h⟩
 | .tup cs,_,hm,h=>by
  simp only [ment] at hm
  simp only [RelV,sbA] at h ⊢
  obtain ⟨ys,e,h⟩:=h
  exact ⟨ys,e,RelVs.sb hb cs hm h⟩
 | .fnc _ cs,_,hm,h=>by
  simp only [ment] at hm
  simp only [RelV,sbA] at h ⊢
  obtain ⟨ys,e,h⟩:=h
  exact ⟨ys,e,RelVs.sb hb cs hm h⟩
 | .eptN cs,_,hm,h=>by
  simp only [ment] at hm
  simp only [RelV,sbA] at h ⊢
  obtain ⟨ad,us,e,hlt,h,h2⟩:=h
  exact ⟨ad,us,e,hlt,RelVs.sb hb cs hm h,h2⟩
 | .v _,_,_,h=>h
 | .lst _ _,_,_,h=>h
 | .pin _ _ _,_,_,h=>h
 | .ept _,_,_,h=>h
 | .nst _ _ _,_,_,h=>h
 | .any,_,_,h=>h
theorem RelVs.sb {w0:World} {ρ:Nat→Value} {nx a b:Nat} (hb:b < nx):∀(x:List AV) {y:List Value},Y4 b x=false→RelVs w0 ρ nx x y→RelVs w0 (upd ρ b (ρ a)) nx (a7A a b x) y
 | [],_,_,h=>h
 | c :: cs,_,hm,h=>by
  simp only [Y4,Bool.or_eq_false_iff] at hm
  simp only [RelVs,a7A] at h ⊢
  obtain ⟨y,ys,e,h1,h2⟩:=h
  exact ⟨y,ys,e,RelV.sb hb c hm.1 h1,RelVs.sb hb cs hm.2 h2⟩
end
def sbO (a b:Nat):List (Nat×Nat×Nat)→List (Nat×Nat×Nat)
 | []=>[]
 | q :: r=>(q.1,q.2.1,bif Nat.beq q.2.2 a then b else q.2.2) :: sbO a b r
def sbR (a b:Nat):Row→Row
 | .box cs=>.box (a7A a b cs)
 | .nest e sz yss op=>.nest e sz yss (sbO a b op)
 | r=>r
def a41 (b:Nat):Row→Bool
 | .box cs=>Y4 b cs
 | .nest _ _ _ op=>a2Q b op
 | _=>false
theorem b2t {a b:Nat}:∀{op:List (Nat×Nat×Nat)} {q:Nat×Nat×Nat},q∈sbO a b op→∃p∈op,q.1=p.1/\q.2.1=p.2.1/\q.2.2=(bif Nat.beq p.2.2 a then b else p.2.2)
 | [],q,h=>by cases h
 | p :: r,q,h=>by
  simp only [sbO] at h
  rcases List.mem_cons.1 h with rfl | h
  ·simp
  ·obtain ⟨p',h1,h2⟩:=b2t h
   grind
theorem b4F {w:World} {y:Value} {a b:Nat} {r:Row} {p:Nat×Nat}:inn w y (sbR a b r) p=inn w y r p:=by cases r<;>rfl
theorem RowRel.sb {ρ:Nat→Value} {w:World} {a b i j:Nat} {r:Row} (hb:b < nx) (hm:a41 b r=false) (hj:upd ρ b (ρ a) j=ρ i) (h:RowRel w0 ρ nx w i r):RowRel w0 (upd ρ b (ρ a)) nx w j (sbR a b r):=by
 cases r with
 | box cs =>
  obtain ⟨bb,cur,ty,h3,h4,h5,h6,h7⟩:=h
  exact ⟨bb,cur,ty,by rw [hj];exact h3,h4,h5,RelVs.sb hb cs hm h6,h7⟩
 | spare e sz ys gs=>simp only [sbR,RowRel] at h ⊢;rw [hj];exact h
 | byt bs=>simp only [sbR,RowRel] at h ⊢;rw [hj];exact h
 | row e sz ys f=>simp only [sbR,RowRel] at h ⊢;rw [hj];exact h
 | nest e sz yss op =>
  obtain ⟨cells,h1,h2⟩:=h
  refine ⟨cells,by rw [hj];exact h1,λq hq=>?_⟩
  obtain ⟨p,g1,g2,g3,g4⟩:=b2t hq
  obtain ⟨k1,k2,k3⟩:=h2 p g1
  have hpb:=a0e (op:=op) hm p g1
  rw [g2,g3,g4]
  cases e':Nat.beq p.2.2 a with
  | true=>have:=Nat.eq_of_beq_eq_true e';simp only [cond_true];exact ⟨hb,k2,by rw [j4,← this];exact k3⟩
  | false=>simp only [cond_false];exact ⟨k1,k2,by rw [l7 _ _ hpb];exact k3⟩
mutual
def sbK {β:Type} (a b:Nat):AV→(AV→β)→β
 | .own i,k=>bif Nat.beq i a then k (.own b) else k (.own i)
 | .sub i sz j n,k=>bif Nat.beq i a then k (.sub b sz j n) else k (.sub i sz j n)
 | .ptr i o,k=>bif Nat.beq i a then k (.ptr b o) else k (.ptr i o)
 | .rpt i sz j q,k=>bif Nat.beq i a then k (.rpt b sz j q) else k (.rpt i sz j q)
 | .agg cs,k=>a9o a b cs [] (λcs'=>k (.agg cs'))
 | .tup cs,k=>a9o a b cs [] (λcs'=>k (.tup cs'))
 | .fnc f cs,k=>a9o a b cs [] (λcs'=>k (.fnc f cs'))
 | .eptN cs,k=>a9o a b cs [] (λcs'=>k (.eptN cs'))
 | .v x,k=>k (.v x)
 | .lst sz ys,k=>k (.lst sz ys)
 | .pin z sz ys,k=>k (.pin z sz ys)
 | .ept cs,k=>k (.ept cs)
 | .nst z sz yss,k=>k (.nst z sz yss)
 | .any,k=>k .any
def a9o {β:Type} (a b:Nat):List AV→List AV→(List AV→β)→β
 | [],acc,k=>b0p acc [] k
 | c :: cs,acc,k=>sbK a b c (λc'=>a9o a b cs (c' :: acc) k)
end
mutual
theorem b4G {β:Type} {a b:Nat}:∀(x:AV) (k:AV→β),sbK a b x k=k (sbA a b x)
 | .own i,k=>by simp only [sbK,sbA];cases Nat.beq i a<;>rfl
 | .sub i _ _ _,k=>by simp only [sbK,sbA];cases Nat.beq i a<;>rfl
 | .ptr i _,k=>by simp only [sbK,sbA];cases Nat.beq i a<;>rfl
 | .rpt i _ _ _,k=>by simp only [sbK,sbA];cases Nat.beq i a<;>rfl
 | .agg cs,k=>by simp only [sbK,sbA,a3w cs,List.reverse_nil,List.nil_append]
 | .tup cs,k=>by simp only [sbK,sbA,a3w cs,List.reverse_nil,List.nil_append]
 | .fnc f cs,k=>by simp only [sbK,sbA,a3w cs,List.reverse_nil,List.nil_append]
 | .eptN cs,k=>by simp only [sbK,sbA,a3w cs,List.reverse_nil,List.nil_append]
 | .v _,k=>rfl
 | .lst _ _,k=>rfl
 | .pin _ _ _,k=>rfl
 | .ept _,k=>rfl
 | .nst _ _ _,k=>rfl
 | .any,k=>rfl
theorem a3w {β:Type} {a b:Nat}:∀(x acc:List AV) (k:List AV→β),a9o a b x acc k=k (acc.reverse++a7A a b x)
 | [],acc,k=>by simp [a9o,a7A,a3p]
 | c :: cs,acc,k=>by simp only [a9o,a7A,b4G c,a3w cs,List.reverse_cons,List.append_assoc,List.cons_append,List.nil_append]
end
def sbT (a b:Nat):List (Nat×AV)→List Nat→List (Nat×AV)→Option (List (Nat×AV))
 | [],_,acc=>some acc
 | (t,x) :: r,seen,acc=>bif has t seen then sbT a b r seen acc else bif ment b x then sbT a b r (t :: seen) acc else sbK a b x (λx'=>sbT a b r (t :: seen) ((t,x') :: acc))
def b3T {β:Type} (a b:Nat):List (Nat×Nat×Nat)→List (Nat×Nat×Nat)→(List (Nat×Nat×Nat)→β)→β
 | [],acc,k=>b0p acc [] k
 | (i,j,n) :: r,acc,k=>bif Nat.beq n a then b3T a b r ((i,j,b) :: acc) k else b3T a b r ((i,j,n) :: acc) k
theorem b2u {β:Type} {a b:Nat}:∀(op acc:List (Nat×Nat×Nat)) (k:List (Nat×Nat×Nat)→β),b3T a b op acc k=k (acc.reverse++sbO a b op)
 | [],acc,k=>by simp [b3T,sbO,a3p]
 | (i,j,n) :: r,acc,k=>by
  simp only [b3T,sbO,b2u r]
  grind
def c0V {β:Type} (a b:Nat):Row→(Row→β)→β
 | .box cs,k=>a9o a b cs [] (λcs'=>k (.box cs'))
 | .nest e sz yss op,k=>b3T a b op [] (λop'=>k (.nest e sz yss op'))
 | .row e sz ys f,k=>k (.row e sz ys f)
 | .byt bs,k=>k (.byt bs)
 | .spare e sz ys gs,k=>k (.spare e sz ys gs)
theorem b60 {β:Type} {a b:Nat} (r:Row) (k:Row→β):c0V a b r k=k (sbR a b r):=by
 cases r<;>simp [c0V,sbR,a3w,b2u]
def sbM (a b:Nat):List (Nat×Option Row)→List Nat→List (Nat×Option Row)→Option (List (Nat×Option Row))
 | [],_,acc=>a2x acc []
 | (i,none) :: r,seen,acc=>sbM a b r (i :: seen) acc
 | (i,some row) :: r,seen,acc=>bif has i seen then sbM a b r seen acc else bif Nat.beq i b then sbM a b r (i :: seen) acc else bif a41 b row then none
  else c0V a b row (λrow'=>bif Nat.beq i a then sbM a b r (i :: seen) ((b,some row') :: acc) else sbM a b r (i :: seen) ((i,some row') :: acc))
theorem a0i {k:Nat} {l:List Nat}:has k l=true↔k∈l:=⟨P0.has_mem,a0h⟩
theorem a42 {a b:Nat}:∀{l:List (Nat×AV)} {seen:List Nat} {acc T':List (Nat×AV)},sbT a b l seen acc=some T'→(∀p∈acc,p.1∈seen)→∀{t:Nat} {x:AV},look t T'=some x→look t acc=some x∨(t∉seen/\∃x0,look t l=some x0/\ment b x0=false/\x=sbA a b x0)
 | [],seen,acc,T',h,_,t,x,hx=>by simp [sbT] at h;subst h;exact .inl hx
 | (t',x') :: r,seen,acc,T',h,hs,t,x,hx=>by
  simp only [sbT] at h
  cases h1:has t' seen with
  | true =>
   simp only [h1,cond_true] at h
   rcases a42 h hs hx with h2 | ⟨h2,x0,h3,h4⟩
   ·exact .inl h2
   ·refine .inr ⟨h2,x0,?_,h4⟩
    rw [j5 (λe=>by subst e;exact h2 (a0i.1 h1))];exact h3
  | false =>
   simp only [h1,cond_false] at h
   have hns:t'∉seen:=λhm=>by rw [a0i.2 hm] at h1;cases h1
   cases h2:ment b x' with
   | true =>
    simp only [h2,cond_true] at h
    rcases a42 h (λp hp=>List.mem_cons_of_mem _ (hs p hp)) hx with h3 | ⟨h3,x0,h4,h5⟩
    ·exact .inl h3
    ·simp at h3
     refine .inr ⟨h3.2,x0,?_,h5⟩
     rw [j5 (λe=>h3.1 e.symm)];exact h4
   | false =>
    simp only [h2,cond_false,b4G] at h
    rcases a42 h (λp hp=>by
     rcases List.mem_cons.1 hp with rfl | hp
     ·simp
     ·exact List.mem_cons_of_mem _ (hs p hp)) hx with h3 | ⟨h3,x0,h4,h5⟩
    ·by_cases e:t'=t
     ·subst e
      rw [m9] at h3
      cases h3
      exact .inr ⟨hns,x',m9 _ _ _,h2,Z⟩
     ·rw [j5 e] at h3
      exact .inl h3
    ·simp at h3
     refine .inr ⟨h3.2,x0,?_,h5⟩
     rw [j5 (λe=>h3.1 e.symm)];exact h4
def c0W (a b:Nat) (l:List (Nat×Option Row)) (seen:List Nat) (i:Nat) (r:Row):Prop :=
 ∃j r0,j∉seen/\mem l j=some r0/\j≠b/\((j=a/\i=b)∨(j≠a/\i=j))/\a41 b r0=false/\r=sbR a b r0
theorem a1w {a b:Nat}:∀{l:List (Nat×Option Row)} {seen:List Nat} {acc m':List (Nat×Option Row)},sbM a b l seen acc=some m'→∀{i:Nat} {r:Row},(i,some r)∈m'→(i,some r)∈acc∨c0W a b l seen i r
 | [],seen,acc,m',h,i,r,hx=>by
  simp [sbM,E6] at h
  subst h
  exact .inl (by simpa using hx)
 | (j,none) :: l,seen,acc,m',h,i,r,hx=>by
  simp only [sbM] at h
  rcases a1w h hx with h1 | ⟨j',r0,h1,h2,h3⟩
  ·exact .inl h1
  ·simp at h1
   exact .inr ⟨j',r0,h1.2,by rw [d1 (λe=>h1.1 e.symm)];exact h2,h3⟩
 | (j,some row) :: l,seen,acc,m',h,i,r,hx=>by
  simp only [sbM] at h
  cases h1:has j seen with
  | true =>
   simp only [h1,cond_true] at h
   rcases a1w h hx with h2 | ⟨j',r0,h2,h3,h4⟩
   ·exact .inl h2
   ·exact .inr ⟨j',r0,h2,by rw [d1 (λe=>by subst e;exact h2 (a0i.1 h1))];exact h3,h4⟩
  | false =>
   simp only [h1,cond_false] at h
   have hns:j∉seen:=λhm=>by rw [a0i.2 hm] at h1;cases h1
   have up:c0W a b l (j :: seen) i r→c0W a b ((j,some row) :: l) seen i r:=λ⟨j',r0,h2,h3,h4⟩=>by
    simp at h2
    exact ⟨j',r0,h2.2,by rw [d1 (λe=>h2.1 e.symm)];exact h3,h4⟩
   cases h2:Nat.beq j b with
   | true =>
    simp only [h2,cond_true] at h
    rcases a1w h hx with h3 | h3
    ·exact .inl h3
    ·exact .inr (up h3)
   | false =>
    simp only [h2,cond_false] at h
    cases h3:a41 b row with
    | true=>simp [h3] at h
    | false =>
     simp only [h3,cond_false,b60] at h
     cases h4:Nat.beq j a with
     | true =>
      simp only [h4,cond_true] at h
      have hja:=Nat.eq_of_beq_eq_true h4
      rcases a1w h hx with h5 | h5
      ·rcases List.mem_cons.1 h5 with h5 | h5
       ·cases h5
        exact .inr ⟨j,row,hns,i8 _ _ _,J1 h2,.inl ⟨hja,Z⟩,h3,Z⟩
       ·exact .inl h5
      ·exact .inr (up h5)
     | false =>
      simp only [h4,cond_false] at h
      rcases a1w h hx with h5 | h5
      ·rcases List.mem_cons.1 h5 with h5 | h5
       ·cases h5
        exact .inr ⟨j,row,hns,i8 _ _ _,J1 h2,.inr ⟨J1 h4,Z⟩,h3,Z⟩
       ·exact .inl h5
      ·exact .inr (up h5)
theorem Gh.sub (a b:Nat) {T':List (Nat×AV)} (hp:w0.n0<=b) (hb:Nat.blt b nx=true) (hT':sbT a b T [] []=some T') (hM':sbM a b m [] []=some m'):Gh w0 ⟨T,m,nx,nt⟩ ⟨T',m',nx,nt⟩:=by
 intro ρ ac w hT hC
 have hb':b < nx:=Nat.le_of_ble_eq_true hb
 let ρ':=upd ρ b (ρ a)
 have hfrom:∀i r,mem m' i=some r→∃j r0,mem m j=some r0/\j≠b/\((j=a/\i=b)∨(j≠a/\i=j))/\a41 b r0=false/\r=sbR a b r0/\ρ' i=ρ j:=λi r hr=>by
  rcases a1w hM' (a4b hr) with h | ⟨j,r0,_,h2,h3,h4,h5,h6⟩
  ·cases h
  ·grind [j4,l7]
 have hinj:∀{i i' j j':Nat},((j=a/\i=b)∨(j≠a/\i=j))→j≠b→((j'=a/\i'=b)∨(j'≠a/\i'=j'))→j'≠b→i≠i'→j≠j':=by
  omega
 refine ⟨ρ',⟨λt x hx=>?_,hT.size,hT.defers⟩,⟨λi r hr=>?_,λi i' r r' hr hr' hne bb hbb=>?_,hC.below,⟨hC.pin.1,λi hi=>(l7 ρ _ J).trans (hC.pin.2 i hi)⟩,⟨hC.kept.1,hC.kept.2.1,λi r hr bb hbb=>?_⟩,λi r hr p bb hbb=>?_⟩⟩
 ·rcases a42 hT' (by simp) hx with h | ⟨_,x0,h1,h2,rfl⟩
  ·simp [look] at h
  ·exact RelV.sb hb' x0 h2 (hT.tmps t x0 h1)
 ·obtain ⟨j,r0,h1,h2,h3,h4,rfl,h6⟩:=hfrom i r hr
  obtain ⟨g1,g2⟩:=hC.rows j r0 h1
  refine ⟨?_,RowRel.sb hb' h4 h6 g2⟩
  grind
 ·obtain ⟨j,r0,h1,h2,h3,h4,rfl,h6⟩:=hfrom i r hr
  obtain ⟨j',r1,g1,g2,g3,g4,rfl,g6⟩:=hfrom i' r' hr'
  rw [h6] at hbb
  rw [g6]
  exact hC.apart j j' r0 r1 h1 g1 (hinj h3 h2 g3 g2 hne) bb hbb
 ·obtain ⟨j,r0,h1,h2,h3,h4,rfl,h6⟩:=hfrom i r hr
  rw [h6] at hbb
  exact hC.kept.2.2 j r0 h1 bb hbb
 ·obtain ⟨j,r0,h1,h2,h3,h4,rfl,h6⟩:=hfrom i r hr
  rw [h6,b4F] at hbb
  obtain ⟨q1,q2,q3,q4⟩:=hC.inner j r0 h1 p bb hbb
  refine ⟨q1,q2,q3,λi' r' hr'=>?_⟩
  obtain ⟨j',r1,g1,g2,g3,g4,rfl,g6⟩:=hfrom i' r' hr'
  rw [g6]
  refine ⟨(q4 j' r1 g1).1,λp' hp'=>?_⟩
  rw [b4F] at hp'
  grind
end
variable {B a b by_ d e i id j k n0:Nat} {S:St} {T:List (Nat×AV)} {as:List AV} {cs:List CI} {ids is js:List Nat} {l:Array Bool} {m:List (Nat×Option Row)} {o:Oper} {op:List (Nat×Nat×Nat)} {p:Nat×Nat} {r:Row} {u y z:Value} {w w0:World} {x:Operand} {ys:List (List Value)} {yss yss':List (List CI)} {zs:List Value} {ρ ρ':Nat→Value}
theorem a2r {z:List Value} {cz:List CI} {n:Nat} (h:PlainC z cz):∀(i:Nat) (c:List Value) (cs:List CI),(List.replicate n z)[i]?=some c→(List.replicate n cz)[i]?=some cs→PlainC c cs:=λi c cs h1 h2=>by
 grind
section
variable {P:Program} [Env P] {w0:Base} {ops:Array Oper} {tb:List (Nat×TyI)} {o:Oper} {rest:List Oper} {T:List (Nat×AV)} {m m':List (Nat×Option Row)} {nx nt d:Nat} {Q:Exit→St→Prop}
theorem Gh.shrink {t id e sz n:Nat} {ys:List (List Value)} (nx':Nat) (hn':Nat.beq nx' (Nat.succ nx)=true) (ht:look t T=some (.sub id sz 0 n)) (hm:mem m id=some (.row e sz ys)):Gh w0 ⟨T,m,nx,nt⟩ ⟨(t,.own nx) :: T,(nx,some (.row e sz (ys.take n))) :: (id,none) :: m,nx',nt⟩:=by
 have hn'':=Nat.eq_of_beq_eq_true hn'
 subst hn''
 exact λρ a w hT hC=>b1y ht hm hT hC
end
structure VE where
 i:Nat
 d:Nat
 id:Nat
 box:Bool
 row:Row
variable {F U V:List VE}
def VE.av (e:VE):AV:=bif e.box then .ptr e.id 0 else .own e.id
def VOK (P:Program) (ops:Array Oper) (e:VE):Prop :=
 ∃o,ops[e.i]?=some o/\o.guard=none/\o.dst=some e.d/\rowRefs 0 e.row=true/\(∀w y p,inn w y e.row p=none)/\∀(ac:Act) (w:World),∃y w',(execOp ac.eval o).run P w=.ok (.value y) w'/\Below w.heap.size w w'/\(∀b,blk y=some b→w.heap.size<=b) /\
  (e.box=true→∃g,y=.pointer (some ⟨g,0,none⟩))/\∀(B:World) (r:Nat→Value) (nx:Nat),B.heap.size<=w.heap.size→r e.id=y→RowRel B r nx w' e.id e.row
inductive Split:List VE→List VE→List VE→Prop
 | nil:Split [] [] []
 | sel {e:VE} {V F U:List VE} (h:Split V F U):Split (e :: V) (e :: F) U
 | uns {e:VE} {V F U:List VE} (h:Split V F U):Split (e :: V) F (e :: U)
def N8:List Nat→Array Bool→Array Bool
 | [],l=>l
 | i :: r,l=>N8 r (l.setIfInBounds i true)
theorem a8M:∀(is:List Nat) (l:Array Bool),(N8 is l).size=l.size
 | [],_=>rfl
 | i :: r,l=>by simp [N8,a8M r]
theorem a2V:∀(is:List Nat) (l:Array Bool) (k:Nat),(N8 is l)[k]?=if k∈is/\k < l.size then some true else l[k]?
 | [],l,k=>by simp [N8]
 | i :: r,l,k=>by
  simp only [N8,a2V r,Array.size_setIfInBounds]
  grind
theorem a8N (h:∀k,k∈is↔k∈js):N8 is l=N8 js l:=by
 apply Array.ext_getElem?
 intro k
 rw [a2V,a2V]
 simp only [h]
theorem a43:(N8 is l).setIfInBounds i true=N8 (i :: is) l:=by
 apply Array.ext_getElem?
 intro k
 rw [a2V]
 by_cases e:i=k
 ·grind [a8M]
 ·rw [Array.getElem?_setIfInBounds_ne e,a2V]
  simp [Ne.symm e]
theorem b3U:N8 is (N8 js l)=N8 (js++is) l:=by
 induction js generalizing l with
 | nil=>rfl
 | cons j js ih=>simp only [N8,List.cons_append,ih]
def frT (F:List VE) (T:List (Nat×AV)):List (Nat×AV):=match F with
 | []=>T
 | e :: F=>(e.d,e.av) :: frT F T
def frM (F:List VE) (m:List (Nat×Option Row)):List (Nat×Option Row):=match F with
 | []=>m
 | e :: F=>(e.id,some e.row) :: frM F m
def a9p (id:Nat):List (Nat×AV)→Bool
 | []=>true
 | (_,x) :: r=>!ment id x && a9p id r
def b0F {α:Type} (k:Nat):List (Nat×α)→Bool
 | []=>true
 | (i,_) :: r=>!Nat.beq i k && b0F k r
def a0j (n0 nx nt:Nat):List VE→List (Nat×AV)→List (Nat×Option Row)→Bool
 | [],_,_=>true
 | e :: V,T,m=>Nat.blt e.id nx && (Nat.blt e.d nt && (Nat.ble n0 e.id && (b0F e.id m && (freeM e.id m && (a9p e.id T && (b0F e.d T && a0j n0 nx nt V T m))))))
def a7B:List VE→Bool
 | []=>true
 | e :: V=>!has e.id (V.map VE.id) && (!has e.d (V.map VE.d) && (!has e.i (V.map VE.i) && a7B V))
structure VFree (n0 nx nt:Nat) (V:List VE) (T:List (Nat×AV)) (m:List (Nat×Option Row)):Prop where
 lt:∀e∈V,e.id < nx
 dlt:∀e∈V,e.d < nt
 n0:∀e∈V,n0<=e.id
 mm:∀e∈V,mem m e.id=none
 fm:∀e∈V,freeM e.id m=true
 ft:∀e∈V,∀t x,look t T=some x→ment e.id x=false
 kt:∀e∈V,look e.d T=none
structure VDist (V:List VE):Prop where
 id:V.Pairwise (λa b=>a.id≠b.id)
 d:V.Pairwise (λa b=>a.d≠b.d)
 i:V.Pairwise (λa b=>a.i≠b.i)
theorem a4k {α:Type}:∀{l:List (Nat×α)},b0F k l=true→look k l=none
 | [],_=>rfl
 | (i,x) :: r,h=>by
  simp only [b0F,Bool.and_eq_true,Bool.not_eq_true'] at h
  rw [j5 (J1 h.1)]
  exact a4k h.2
theorem a6v:∀{l:List (Nat×AV)},a9p id l=true→∀t x,look t l=some x→ment id x=false
 | [],_,t,x,h=>by simp [look] at h
 | (i,y) :: r,h,t,x,hx=>by
  simp only [a9p,Bool.and_eq_true,Bool.not_eq_true'] at h
  by_cases e:i=t
  ·subst e;rw [m9] at hx;cases hx;exact h.1
  ·rw [j5 e] at hx;exact a6v h.2 t x hx
theorem VFree.of {nx nt:Nat}:∀{V:List VE},a0j n0 nx nt V T m=true→VFree n0 nx nt V T m
 | [],_=>⟨by simp,by simp,by simp,by simp,by simp,by simp,by simp⟩
 | e :: V,h=>by
  simp only [a0j,Bool.and_eq_true] at h
  obtain ⟨h1,h2,h3,h4,h5,h6,h7,h8⟩:=h
  have ih:=VFree.of h8
  refine ⟨?_,?_,?_,?_,?_,?_,?_⟩<;>intro e' he'<;>rcases List.mem_cons.1 he' with rfl | he'
  ·exact Nat.le_of_ble_eq_true h1
  ·exact ih.lt e' he'
  ·exact Nat.le_of_ble_eq_true h2
  ·exact ih.dlt e' he'
  ·exact Nat.le_of_ble_eq_true h3
  ·exact ih.n0 e' he'
  ·simp only [mem,a4k h4]
  ·exact ih.mm e' he'
  ·exact h5
  ·exact ih.fm e' he'
  ·exact a6v h6
  ·exact ih.ft e' he'
  ·exact a4k h7
  ·exact ih.kt e' he'
theorem VDist.of:∀{V:List VE},a7B V=true→VDist V
 | [],_=>⟨.nil,.nil,.nil⟩
 | e :: V,h=>by
  simp only [a7B,Bool.and_eq_true,Bool.not_eq_true'] at h
  obtain ⟨h1,h2,h4,h3⟩:=h
  have ih:=VDist.of h3
  exact ⟨.cons (λb hb he=>Z9 h1 b.id (List.mem_map.2 ⟨b,hb,Z⟩) he.symm) ih.id,.cons (λb hb he=>Z9 h2 b.d (List.mem_map.2 ⟨b,hb,Z⟩) he.symm) ih.d,.cons (λb hb he=>Z9 h4 b.i (List.mem_map.2 ⟨b,hb,Z⟩) he.symm) ih.i⟩
theorem a9q {f:VE→Nat} (h:V.Pairwise (λa b=>f a≠f b)):∀{a b:VE},a∈V→b∈V→f a=f b→a=b:=by
 induction V with
 | nil=>intro a b ha;cases ha
 | cons e V ih =>
  intro a b ha hb he
  rw [List.pairwise_cons] at h
  grind
theorem Split.memF (h:Split V F U):∀e∈F,e∈V:=by
 induction h with
 | nil=>simp
 | sel _ ih=>intro x hx;rcases List.mem_cons.1 hx with rfl | hx;simp;exact List.mem_cons_of_mem _ (ih x hx)
 | uns _ ih=>intro x hx;exact List.mem_cons_of_mem _ (ih x hx)
theorem Split.memU (h:Split V F U):∀e∈U,e∈V:=by
 induction h with
 | nil=>simp
 | uns _ ih=>intro x hx;rcases List.mem_cons.1 hx with rfl | hx;simp;exact List.mem_cons_of_mem _ (ih x hx)
 | sel _ ih=>intro x hx;exact List.mem_cons_of_mem _ (ih x hx)
theorem Split.move (h:Split V F U) {e:VE} (he:e∈U):∃F' U',Split V F' U'/\U'.length+1=U.length/\∀x,x∈F'↔x=e∨x∈F:=by
 induction h with
 | nil=>cases he
 | @sel e0 V F U _ ih =>
  obtain ⟨F',U',h1,h2,h3⟩:=ih he
  exact ⟨e0 :: F',U',.sel h1,h2,λx=>by simp only [List.mem_cons,h3];constructor<;>rintro (h | h | h)<;>simp [h]⟩
 | @uns e0 V F U hs ih =>
  by_cases e1:e=e0
  ·subst e1
   exact ⟨e :: F,U,.sel hs,by simp,λx=>by simp⟩
  ·have he':e∈U:=by rcases List.mem_cons.1 he with h | h;exact absurd h e1;exact h
   obtain ⟨F',U',h1,h2,h3⟩:=ih he'
   exact ⟨F',e0 :: U',.uns h1,by simp;omega,h3⟩
theorem Split.all:∀V:List VE,Split V [] V
 | []=>.nil
 | _ :: V=>.uns (Split.all V)
theorem a2W:∀{F:List VE} {t:Nat} {x:AV},look t (frT F T)=some x→(∃e∈F,e.d=t/\x=e.av)∨((∀e∈F,e.d≠t)/\look t T=some x)
 | [],t,x,h=>.inr ⟨by simp,h⟩
 | e :: F,t,x,h=>by
  simp only [frT] at h
  by_cases e1:e.d=t
  ·grind [m9]
  ·simp_all [j5,a2W]
theorem V7:∀{F:List VE},F.Pairwise (λa b=>a.d≠b.d)→∀e∈F,look e.d (frT F T)=some e.av
 | [],_,e,h=>by cases h
 | e0 :: F,hp,e,he=>by
  rw [List.pairwise_cons] at hp
  simp only [frT]
  rcases List.mem_cons.1 he with rfl | he
  ·exact m9 _ _ _
  ·rw [j5 (hp.1 e he)];exact V7 hp.2 e he
theorem R1:∀{F:List VE} {t:Nat},(∀e∈F,e.d≠t)→look t (frT F T)=look t T
 | [],_,_=>rfl
 | e :: F,t,h=>by
  simp only [frT]
  rw [j5 (h e (by simp))]
  exact R1 λx hx=>h x (by simp [hx])
theorem a44:∀{F:List VE} {i:Nat} {r:Row},mem (frM F m) i=some r→(∃e∈F,e.id=i/\r=e.row)∨((∀e∈F,e.id≠i)/\mem m i=some r)
 | [],i,r,h=>.inr ⟨by simp,h⟩
 | e :: F,i,r,h=>by
  simp only [frM] at h
  by_cases e1:e.id=i
  ·grind [i8]
  ·simp_all [d1,a44]
theorem a19:∀{F:List VE},F.Pairwise (λa b=>a.id≠b.id)→∀e∈F,mem (frM F m) e.id=some e.row
 | [],_,e,h=>by cases h
 | e0 :: F,hp,e,he=>by
  rw [List.pairwise_cons] at hp
  simp only [frM]
  rcases List.mem_cons.1 he with rfl | he
  ·exact i8 _ _ _
  ·rw [d1 (hp.1 e he)];exact a19 hp.2 e he
theorem a0O:∀{F:List VE} {i:Nat},(∀e∈F,e.id≠i)→mem (frM F m) i=mem m i
 | [],_,_=>rfl
 | e :: F,i,h=>by
  simp only [frM]
  rw [d1 (h e (by simp))]
  exact a0O λx hx=>h x (by simp [hx])
theorem Split.pw (h:Split V F U) {R:VE→VE→Prop} (hp:V.Pairwise R):F.Pairwise R:=by
 induction h with
 | nil=>exact .nil
 | sel hs ih=>rw [List.pairwise_cons] at hp;exact .cons (λb hb=>hp.1 b (hs.memF b hb)) (ih hp.2)
 | uns _ ih=>rw [List.pairwise_cons] at hp;exact ih hp.2
theorem VE.ment_av {e:VE}:ment id e.av=Nat.beq e.id id:=by unfold VE.av;cases e.box<;>rfl
mutual
theorem a9r {id:Nat}:∀(x:AV),v2 0 x=true→ment id x=false
 | .own i,h=>by simp only [v2] at h;exact absurd (Nat.le_of_ble_eq_true h) (Nat.not_lt_zero i)
 | .sub i _ _ _,h=>by simp only [v2] at h;exact absurd (Nat.le_of_ble_eq_true h) (Nat.not_lt_zero i)
 | .ptr i _,h=>by simp only [v2] at h;exact absurd (Nat.le_of_ble_eq_true h) (Nat.not_lt_zero i)
 | .rpt i _ _ _,h=>by simp only [v2] at h;exact absurd (Nat.le_of_ble_eq_true h) (Nat.not_lt_zero i)
 | .agg cs,h=>by simp only [v2] at h;simp only [ment];exact I6 cs h
 | .tup cs,h=>by simp only [v2] at h;simp only [ment];exact I6 cs h
 | .fnc _ cs,h=>by simp only [v2] at h;simp only [ment];exact I6 cs h
 | .eptN cs,h=>by simp only [v2] at h;simp only [ment];exact I6 cs h
 | .v _,_=>rfl
 | .lst _ _,_=>rfl
 | .pin _ _ _,_=>rfl
 | .ept _,_=>rfl
 | .nst _ _ _,_=>rfl
 | .any,_=>rfl
theorem I6 {id:Nat}:∀(x:List AV),F2 0 x=true→Y4 id x=false
 | [],_=>rfl
 | c :: cs,h=>by simp only [F2,Bool.and_eq_true] at h;simp only [Y4,a9r c h.1,I6 cs h.2,Bool.or_false]
end
theorem a7C:∀{op:List (Nat×Nat×Nat)},a5V 0 op=true→a2Q id op=false
 | [],_=>rfl
 | q :: r,h=>by simp only [a5V,Bool.and_eq_true] at h;exact absurd (Nat.le_of_ble_eq_true h.1) (Nat.not_lt_zero _)
def Quiet (id:Nat) (r:Row):Prop:=(∀cs,r=.box cs→Y4 id cs=false)/\∀e sz yss op,r=.nest e sz yss op→a2Q id op=false
theorem Quiet.of (h:rowRefs 0 r=true):Quiet id r:=⟨λcs e=>by subst e;exact I6 cs h,λ_ _ _ _ e=>by subst e;exact a7C h⟩
theorem Quiet.rel {nx:Nat} (hq:Quiet id r) (hne:i≠id) (h:RowRel w0 ρ nx w i r):RowRel w0 (upd ρ id y) nx w i r :=
 h.to (l7 ρ y hne) (λcs e l hl=>by exact RelVsUpd cs (hq.1 cs e) hl) λe sz yss op he q hq' hlt=>⟨hlt,l7 ρ y (a0e (hq.2 _ _ _ _ he) q hq')⟩
where
 RelVsUpd {w0:World} {id nx:Nat} {ρ:Nat→Value} {y:Value} (cs:List AV) {l:List Value} (hm:Y4 id cs=false) (h:RelVs w0 ρ nx cs l):RelVs w0 (upd ρ id y) nx cs l :=
  RelVs.upd (w0:=⟨w0,0,ρ,w0,λ_=>False,λ_ h=>h.elim,λ_=>True,λ_ _=>trivial⟩) cs hm h
theorem RelC.addAt {b:Base} {M M':List (Nat×Option Row)} {nx:Nat} {w':World} {row:Row} (hC:RelC b ρ M nx w) (hlt:id < nx) (hn0:b.n0<=id) (hq:∀i r,mem M i=some r→Quiet id r) (hb:Below w.heap.size w w') (hin:∀w y p,inn w y row p=none)
 (hrow:RowRel b.w (upd ρ id y) nx w' id row) (hy:∀c,blk y=some c→w.heap.size<=c) (hM:∀i r,mem M' i=some r→(i=id/\r=row)∨(i≠id/\mem M i=some r)):RelC b (upd ρ id y) M' nx w':=by
 have hC1:=hC.trans hb
 have hf:∀i r,mem M i=some r→∀c,O1 w' (ρ i) r c→c < w.heap.size:=λi r hi c hc=>hC.foot_lt hi (hC.foot_trans hb hi hc)
 have hval:∀i,i≠id→upd ρ id y i=ρ i:=λi hi=>l7 ρ y hi
 refine ⟨λi r hi=>?_,λi i' r r' hi hi' hne c hc=>?_,hC1.below,⟨hC.pin.1,λi hi=>(hval i J).trans (hC.pin.2 i hi)⟩,⟨hC1.kept.1,hC1.kept.2.1,λi r hi c hc hk=>?_⟩,λi r hi p c hc=>?_⟩
 ·rcases hM i r hi with ⟨rfl,rfl⟩ | ⟨h1,h2⟩
  ·exact ⟨hlt,hrow⟩
  ·exact ⟨(hC.rows i r h2).1,(hq i r h2).rel h1 (hC1.rows i r h2).2⟩
 ·rcases hM i r hi with ⟨rfl,rfl⟩ | ⟨h1,h2⟩
  ·rcases hM i' r' hi' with ⟨rfl,rfl⟩ | ⟨g1,g2⟩
   ·exact absurd Z hne
   ·rw [j4] at hc;rw [hval i' g1]
    intro hc'
    have:=hf i' r' g2 c (.inl hc');have:=hy c hc;omega
  ·rw [hval i h1] at hc
   rcases hM i' r' hi' with ⟨rfl,rfl⟩ | ⟨g1,g2⟩
   ·rw [j4]
    intro hc'
    have:=hf i r h2 c (.inl hc);have:=hy c hc';omega
   ·rw [hval i' g1];exact hC.apart i i' r r' h2 g2 hne c hc
 ·rcases hM i r hi with ⟨rfl,rfl⟩ | ⟨h1,h2⟩
  ·rw [j4] at hc;exact hC.fresh (hy c hc) hk
  ·rw [hval i h1] at hc;exact hC1.kept.2.2 i r h2 c hc hk
 ·rcases hM i r hi with ⟨rfl,rfl⟩ | ⟨h1,h2⟩
  ·rw [hin] at hc;cases hc
  ·rw [hval i h1] at hc
   obtain ⟨g1,g2,g3,g4⟩:=hC1.inner i r h2 p c hc
   refine ⟨g1,g2,g3,λi' r' hi'=>?_⟩
   rcases hM i' r' hi' with ⟨rfl,rfl⟩ | ⟨k1,k2⟩
   ·rw [j4]
    refine ⟨λhc'=>?_,λp' hp'=>by rw [hin] at hp';cases hp'⟩
    have:=hf i r h2 c (.inr ⟨p,hc⟩);have:=hy c hc';omega
   grind
section
variable {P:Program} [Env P] {b:Base} {ops:Array Oper} {T:List (Nat×AV)} {m m0:List (Nat×Option Row)} {nx nt fuel:Nat} {listed:Array Bool} {K:St→Prop} {V F U:List VE} {ρ:Nat→Value} {a:Act} {w:World}
theorem b3V (hV:VFree n0 nx nt V T m) (hok:∀e∈V,VOK P ops e) (hF:∀e∈F,e∈V) (hid:freeM id m=true):∀i r,mem (frM F m) i=some r→Quiet id r:=λi r hi=>by
 rcases a44 hi with ⟨x,h1,h2,h3⟩ | ⟨h1,h2⟩
 ·subst h3
  obtain ⟨_,_,_,_,h4,_⟩:=hok x (hF x h1)
  exact Quiet.of h4
 ·exact Q0 hid h2
theorem b3W {e:VE} (hV:VFree b.n0 nx nt V T m) (hD:VDist V) (hok:∀e∈V,VOK P ops e) (hs:Split V F U) (he:e∈U) (hnF:e∉F) (hT:RelT b.w ρ (frT F T) nx nt a) (hC:RelC b ρ (frM F m) nx w) {F' U':List VE} (hs':Split V F' U') (hF':∀x,x∈F'↔x=e∨x∈F) :
 ∃o y w' ρ',ops[e.i]?=some o/\o.guard=none/\o.dst=some e.d/\(execOp a.eval o).run P w=.ok (.value y) w'/\RelT b.w ρ' (frT F' T) nx nt (a.put (some e.d) y)/\RelC b ρ' (frM F' m) nx w'/\Below w.heap.size w w':=by
 have heV:e∈V:=hs.memU e he
 obtain ⟨o,ho,hg,hd,hrf,hin,hrun⟩:=hok e heV
 obtain ⟨y,w',hr,hb,hy,hbox,hrow⟩:=hrun a w
 have hlt:=hV.lt e heV
 have hdlt:e.d < a.tmps.size:=by rw [hT.size];exact hV.dlt e heV
 have hother:∀x∈F,x.id≠e.id:=λx hx he'=>hnF (by have:=a9q hD.id (hs.memF x hx) heV he';rw [← this];exact hx)
 have hotherd:∀x∈F,x.d≠e.d:=λx hx he'=>hnF (by have:=a9q hD.d (hs.memF x hx) heV he';rw [← this];exact hx)
 have hmold:∀i r,mem (frM F' m) i=some r→(i=e.id/\r=e.row)∨(i≠e.id/\mem (frM F m) i=some r):=λi r hi=>by
  rcases a44 hi with ⟨x,h1,h2,h3⟩ | ⟨h1,h2⟩
  ·rcases (hF' x).1 h1 with rfl | h1
   ·grind
   ·subst h2
    refine .inr ⟨hother x h1,?_⟩
    rw [a19 (hs.pw hD.id) x h1,h3]
  ·grind [a0O]
 refine ⟨o,y,w',upd ρ e.id y,ho,hg,hd,hr,⟨λt x hx=>?_,by simp [Act.put,hT.size],by simp [Act.put,hT.defers]⟩,hC.addAt hlt (hV.n0 e heV) (b3V hV hok hs.memF (hV.fm e heV)) hb hin (hrow b.w _ nx hC.below.size (j4 _ _ _)) hy hmold,hb⟩
 have hput:∀t,t≠e.d→(a.put (some e.d) y).tmps.getD t undef=a.tmps.getD t undef:=λt ht=>by
  simp only [Act.put,Array.getD_eq_getD_getElem?]
  grind
 rcases a2W hx with ⟨x',h1,h2,h3⟩ | ⟨h1,h2⟩
 ·rcases (hF' x').1 h1 with rfl | h1
  ·subst h2;subst h3
   have hv:(a.put (some x'.d) y).tmps.getD x'.d undef=y:=by simp [Act.put,hdlt]
   rw [hv]
   unfold VE.av
   cases hbx:x'.box with
   | true=>obtain ⟨g,hg'⟩:=hbox hbx;simp only [cond_true,RelV];exact ⟨hlt,g,by rw [j4];exact hg',hg'⟩
   | false=>simp only [cond_false,RelV];exact ⟨hlt,(j4 _ _ _).symm⟩
  ·subst h2;subst h3
   rw [hput _ (hotherd x' h1)]
   refine RelV.upd x'.av ?_ (hT.tmps _ _ (V7 (hs.pw hD.d) x' h1))
   rw [VE.ment_av]
   cases hbe:Nat.beq x'.id e.id with
   | false=>rfl
   | true=>exact absurd (Nat.eq_of_beq_eq_true hbe) (hother x' h1)
 ·rw [hput _ λe1=>h1 e ((hF' e).2 (.inl Z)) e1.symm]
  refine RelV.upd x (hV.ft e heV t x h2) (hT.tmps t x ?_)
  rw [R1 λx hx=>h1 x ((hF' x).2 (.inr hx))]
  exact h2
theorem c0X {n n':Act→World→Prop} {Q Q':Exit→Act→World→Prop} (h:o.wp P a w n Q) (hQ:∀e a w,Q e a w→e=.normal) (hn:∀(a0:Act) (y:Value) (w':World),a0.tmps=a.tmps→n (a0.put o.dst y) w'→n' (a0.put o.dst y) w'):o.wp P a w n' Q':=by
 unfold Oper.wp at *
 generalize (execOp a.eval o).run P w=r at *
 cases r with
 | ok x w' =>
  cases x<;>simp only [Oper.upon] at h ⊢
  case value v=>exact hn a v w' Z h
  case skip=>exact hn a undef w' Z h
  case defer d=>exact hn { a with defers:=d :: a.defers } undef w' Z h
  case enter f args =>
   refine h.mono λe w'' he=>?_
   cases e with
   | returned u=>exact hn a u w'' Z he
   | panicked c=>exact absurd (hQ _ _ _ he) (by simp)
   | outgrown=>obtain ⟨a,w,he⟩:=he;exact absurd (hQ _ _ _ he) (by simp)
  case row row args=>exact Rows.mono h λu w'' he=>hn a u w'' Z he
 | halt x w' =>
  cases x<;>simp only [Oper.upon] at h ⊢
  grind
def rst (ρ ρ':Nat→Value):List VE→Nat→Value
 | []=>ρ'
 | e :: R=>upd (rst ρ ρ' R) e.id (ρ e.id)
theorem a7D:∀{R:List VE} {e:VE},e∈R→rst ρ ρ' R e.id=ρ e.id
 | [],_,h=>by cases h
 | e0 :: R,e,h=>by
  simp only [rst]
  by_cases e1:e.id=e0.id
  ·rw [e1,j4]
  ·rw [l7 _ _ e1]
   rcases List.mem_cons.1 h with rfl | h
   ·exact absurd Z e1
   ·exact a7D h
theorem a9s:∀{R:List VE} {i:Nat},(∀e∈R,e.id≠i)→rst ρ ρ' R i=ρ' i
 | [],_,_=>rfl
 | e0 :: R,i,h=>by
  simp only [rst]
  rw [l7 _ _ (Ne.symm (h e0 (by simp)))]
  exact a9s λe he=>h e (by simp [he])
theorem RelV.rst {w0:Base} {x:AV}:∀{R:List VE},(∀e∈R,ment e.id x=false)→RelV w0 ρ' nx x y→RelV w0 (Go.Rf.rst ρ ρ' R) nx x y
 | [],_,h=>h
 | e :: R,hm,h=>RelV.upd x (hm e (by simp)) (RelV.rst (λe he=>hm e (by simp [he])) h)
theorem RowRel.rst:∀{R:List VE},(∀e∈R,Quiet e.id r/\e.id≠i)→RowRel w0 ρ' nx w i r→RowRel w0 (Go.Rf.rst ρ ρ' R) nx w i r
 | [],_,h=>h
 | e :: R,hm,h=>(hm e (by simp)).1.rel (Ne.symm (hm e (by simp)).2) (RowRel.rst (λe he=>hm e (by simp [he])) h)
theorem b1I [EnvAt P b] {o:Oper} {C R:List VE} {S1:St} {Q':Exit→Act→World→Prop} (hV:VFree b.n0 nx nt V T m) (hD:VDist V) (hok:∀e∈V,VOK P ops e) (hFV:∀e∈F,e∈V) (hpF:F.Pairwise (λa b=>a.id≠b.id)) (hpFd:F.Pairwise (λa b=>a.d≠b.d)) (hCF:∀e∈C,e∈F) (hRF:∀e∈R,e∈F/\e∉C)
 (hx:∀b':Base,[EnvAt P b']→b'.n0=b.n0→WX P b' ops o [] ⟨frT C T,frM C m,nx,nt⟩ (nq (λS'=>S'=S1))) (hnx:nx<=S1.nx) {nt1:Nat} (hR1:VFree b.n0 S1.nx nt1 R S1.T S1.m) (hdst:∀e∈R,o.dst≠some e.d) (hpR:R.Pairwise (λa b=>a.id≠b.id)) (hpRd:R.Pairwise (λa b=>a.d≠b.d))
 (hT:RelT b.w ρ (frT F T) nx nt a) (hC:RelC b ρ (frM F m) nx w):o.wp P a w (λa' w'=>∃ρ'',RelT b.w ρ'' (frT R S1.T) S1.nx S1.nt a'/\RelC b ρ'' (frM R S1.m) S1.nx w') Q':=by
 have hRr:∀e∈R,mem (frM F m) e.id=some e.row:=λe he=>a19 hpF e (hRF e he).1
 have hsubC:∀i r,mem (frM C m) i=some r→mem (frM F m) i=some r/\∀e∈R,e.id≠i:=λi r hi=>by
  rcases a44 hi with ⟨x,h1,h2,h3⟩ | ⟨h1,h2⟩
  ·subst h2;subst h3
   refine ⟨a19 hpF x (hCF x h1),λe he e1=>(hRF e he).2 ?_⟩
   rw [a9q hpF (hRF e he).1 (hCF x h1) e1];exact h1
  ·have hno:∀e∈F,e.id≠i:=λe he e1=>by rw [← e1,hV.mm e (hFV e he)] at h2;cases h2
   exact ⟨by rw [a0O hno];exact h2,λe he=>hno e (hRF e he).1⟩
 let b':Base:=⟨b.w,b.n0,b.r0,w,λc=>b.keep c∨∃e∈R,O1 w (ρ e.id) e.row c,λc hc=>(by
  rcases hc with hc | ⟨e,he,hc⟩
  ·exact Nat.lt_of_lt_of_le (b.kb c hc) hC.kept.1
  ·exact hC.foot_lt (hRr e he) hc),b.E,b.hE⟩
 have hen:EnvAt P b':=⟨(inferInstance:EnvAt P b).e⟩
 have hapart:∀i r,mem (frM C m) i=some r→∀c,O1 w (ρ i) r c→∀e∈R,¬ O1 w (ρ e.id) e.row c:=λi r hi c hc e he hc'=>by
  obtain ⟨h1,h2⟩:=hsubC i r hi
  exact hC.foot_apart h1 (hRr e he) (Ne.symm (h2 e he)) hc hc'
 have hC0:RelC b ρ (frM C m) nx w:=hC.sub λi r hi=>(hsubC i r hi).1
 have hCb:RelC b' ρ (frM C m) nx w:=by
  refine ⟨hC0.rows,hC0.apart,hC0.below,hC0.pin,⟨Nat.le_refl _,λ_ _=>Z,λi r hi c hc hk=>?_⟩,λi r hi p c hc=>?_⟩
  ·rcases hk with hk | ⟨e,he,hk⟩
   ·exact hC0.kept.2.2 i r hi c hc hk
   ·exact hapart i r hi c (.inl hc) e he hk
  ·obtain ⟨g1,g2⟩:=hC0.inner i r hi p c hc
   refine ⟨λhk=>?_,g2⟩
   rcases hk with hk | ⟨e,he,hk⟩
   ·exact g1 hk
   ·exact hapart i r hi c (.inr ⟨p,hc⟩) e he hk
 have hTb:RelT b'.w ρ (frT C T) nx nt a:=by
  refine ⟨λt x hx'=>?_,hT.size,hT.defers⟩
  rcases a2W hx' with ⟨x',h1,h2,h3⟩ | ⟨h1,h2⟩
  ·subst h2;subst h3
   exact hT.tmps _ _ (V7 hpFd x' (hCF x' h1))
  ·refine hT.tmps t x ?_
   rw [R1 λe he e1=>?_]
   ·exact h2
   ·rw [← e1,hV.kt e (hFV e he)] at h2;cases h2
 have hwp:=hx b' Z ρ a w hTb hCb
 refine c0X hwp (λe a w h=>E3 h) λa0 y w' ha0 hn=>?_
 obtain ⟨ρ',S',hS',hT',hC'⟩:=hn
 simp only [nq] at hS'
 subst hS'
 have hnt:S'.nt=nt:=by have h1:=hT'.size;have h2:=hT.size;simp [Act.put] at h1;cases hd:o.dst<;>simp [hd,ha0] at h1<;>omega
 have hkeepR:∀e∈R,∀c,O1 w (ρ e.id) e.row c→b'.keep c:=λe he c hc=>.inr ⟨e,he,hc⟩
 have hinR:∀e∈R,∀w y p,inn w y e.row p=none:=λe he=>by obtain ⟨_,_,_,_,_,h5,_⟩:=hok e (hFV e (hRF e he).1);exact h5
 have hrfR:∀e∈R,rowRefs 0 e.row=true:=λe he=>by obtain ⟨_,_,_,_,h4,_⟩:=hok e (hFV e (hRF e he).1);exact h4
 have hmR:∀i r,mem S'.m i=some r→∀e∈R,Quiet e.id r/\e.id≠i:=λi r hi e he=>⟨Q0 (hR1.fm e he) hi,λe1=>by rw [← e1,hR1.mm e he] at hi;cases hi⟩
 have hcase:∀i r,mem (frM R S'.m) i=some r→(∃e∈R,i=e.id/\r=e.row/\rst ρ ρ' R i=ρ e.id)∨(mem S'.m i=some r/\rst ρ ρ' R i=ρ' i):=λi r hi=>by
  grind [a44,a7D,a9s]
 have hsame:∀e∈R,∀c,blk (ρ e.id)=some c→w'.heap[c]?=w.heap[c]?:=λe he c hc=>hC'.kept.2.1 c (hkeepR e he c (.inl hc))
 have hsz:w.heap.size<=w'.heap.size:=hC'.kept.1
 refine ⟨rst ρ ρ' R,⟨λt x hx'=>?_,hT'.size,hT'.defers⟩,λi r hi=>?_,λi i' r r' hi hi' hne c hc=>?_,hC'.below,⟨hC'.pin.1,λi hi=>?_⟩,⟨Nat.le_trans hC.kept.1 hsz,λc hc=>(hC'.kept.2.1 c (.inl hc)).trans (hC.kept.2.1 c hc),λi r hi c hc hk=>?_⟩,λi r hi p c hc=>?_⟩
 ·rcases a2W hx' with ⟨e,h1,h2,h3⟩ | ⟨h1,h2⟩
  ·subst h2;subst h3
   have hv:(a0.put o.dst y).tmps.getD e.d undef=a.tmps.getD e.d undef:=by
    rw [← ha0]
    cases hd:o.dst with
    | none=>rfl
    | some d =>
     have:d≠e.d:=λe1=>hdst e h1 (by rw [hd,e1])
     simp only [Act.put,Array.getD_eq_getD_getElem?]
     grind
   rw [hv]
   have hr:=hT.tmps _ _ (V7 hpFd e (hRF e h1).1)
   have hlt:=hR1.lt e h1
   unfold VE.av at hr ⊢
   cases hbx:e.box with
   | true=>simp only [hbx,cond_true,RelV] at hr ⊢;obtain ⟨_,g,q1,q2⟩:=hr;exact ⟨hlt,g,by rw [a7D h1];exact q1,q2⟩
   | false=>simp only [hbx,cond_false,RelV] at hr ⊢;exact ⟨hlt,by rw [a7D h1];exact hr.2⟩
  ·exact RelV.rst (w0:=b') (λe he=>hR1.ft e he t x h2) (hT'.tmps t x h2)
 ·rcases hcase i r hi with ⟨e,h1,rfl,rfl,h3⟩ | ⟨h1,h2⟩
  ·refine ⟨hR1.lt e h1,?_⟩
   have hr:=(hC.rows _ _ (hRr e h1)).2
   have hr2:=hr.frame (w':=w') (λc hc=>hsame e h1 c hc) λp c hc=>by rw [hinR e h1] at hc;cases hc
   exact RowRel.move (w0:=b) hr2 (hrfR e h1) (a7D h1)
  ·obtain ⟨g1,g2⟩:=hC'.rows i r h1
   exact ⟨g1,RowRel.rst (hmR i r h1) g2⟩
 ·rcases hcase i r hi with ⟨e,h1,rfl,rfl,h3⟩ | ⟨h1,h2⟩
  ·rw [h3] at hc
   rcases hcase i' r' hi' with ⟨e',g1,rfl,rfl,g3⟩ | ⟨g1,g2⟩
   ·rw [g3]
    exact hC.apart e.id e'.id _ _ (hRr e h1) (hRr e' g1) hne c hc
   ·rw [g2]
    intro hc'
    exact hC'.kept.2.2 i' r' g1 c hc' (hkeepR e h1 c (.inl hc))
  ·rw [h2] at hc
   rcases hcase i' r' hi' with ⟨e',g1,rfl,rfl,g3⟩ | ⟨g1,g2⟩
   ·rw [g3]
    intro hc'
    exact hC'.kept.2.2 i r h1 c hc (hkeepR e' g1 c (.inl hc'))
   ·rw [g2]
    exact hC'.apart i i' r r' h1 g1 hne c hc
 ·rw [a9s λe he e1=>by have:=hR1.n0 e he;omega]
  exact hC'.pin.2 i hi
 ·rcases hcase i r hi with ⟨e,h1,rfl,rfl,h3⟩ | ⟨h1,h2⟩
  ·rw [h3] at hc;exact hC.kept.2.2 e.id _ (hRr e h1) c hc hk
  ·rw [h2] at hc;exact hC'.kept.2.2 i r h1 c hc (.inl hk)
 ·rcases hcase i r hi with ⟨e,h1,rfl,rfl,h3⟩ | ⟨h1,h2⟩
  ·grind
  ·rw [h2] at hc
   obtain ⟨g1,g2,g3,g4⟩:=hC'.inner i r h1 p c hc
   refine ⟨λhk=>g1 (.inl hk),g2,g3,λi' r' hi'=>?_⟩
   rcases hcase i' r' hi' with ⟨e',k1,rfl,rfl,k3⟩ | ⟨k1,k2⟩
   ·rw [k3]
    exact ⟨λhc'=>g1 (hkeepR e' k1 c (.inl hc')),λp' hp'=>by rw [hinR e' k1] at hp';cases hp'⟩
   grind
def WAV (P:Program) (b:Base) (ops:Array Oper) (m0:List (Nat×Option Row)) (fuel:Nat) (listed:Array Bool) (S:St) (V:List VE) (K:St→Prop):Prop :=
 ∀F U,Split V F U→WA P b ops m0 (fuel+U.length) (N8 (F.map VE.i) listed) ⟨frT F S.T,frM F S.m,S.nx,S.nt⟩ K
theorem m8 {S:St} (V:List VE) (hok:∀e∈V,VOK P ops e) (h:(∀e∈V,VOK P ops e)→WAV P b ops m0 fuel listed S V K):WA P b ops m0 (fuel+V.length) listed S K:=h hok [] V (Split.all V)
theorem w6 (h:WA P b ops m0 fuel listed S K):WAV P b ops m0 fuel listed S [] K:=λF U hs=>by cases hs;exact h
def a0P:List Nat→List (List Nat×List Nat)
 | []=>[([],[])]
 | i :: r=>(a0P r).map (λp=>(i :: p.1,p.2))++(a0P r).map (λp=>(p.1,i :: p.2))
theorem Split.inN (h:Split V F U):(F.map VE.i,U.map VE.i)∈a0P (V.map VE.i):=by
 induction h with
 | nil=>simp [a0P]
 | @sel e V F U _ ih=>simp only [List.map_cons,a0P,List.mem_append,List.mem_map];exact .inl ⟨_,ih,Z⟩
 | @uns e V F U _ ih=>simp only [List.map_cons,a0P,List.mem_append,List.mem_map];exact .inr ⟨_,ih,Z⟩
def b4H (F:List Nat):List Nat→Bool
 | []=>true
 | c :: r=>has c F && b4H F r
def b61 (i:Nat) (F:List Nat):List (Nat×List Nat)→Bool
 | []=>false
 | (j,C) :: r=>(Nat.beq j i && b4H F C) || b61 i F r
def c2C (ops:Array Oper) (listed:Array Bool) (is:List Nat) (rs:List (Nat×List Nat)):Bool :=
 (a0P is).all λp=>let R:=Region.ready .any ops (N8 p.1 listed);!R.isEmpty && R.all λi=>has i p.2 || b61 i p.1 rs
def a2y (is:List Nat):List VE→List VE
 | []=>[]
 | e :: V=>bif has e.i is then e :: a2y is V else a2y is V
def S8 (is:List Nat):List VE→List VE
 | []=>[]
 | e :: V=>bif has e.i is then S8 is V else e :: S8 is V
theorem a2X {is:List Nat} {e:VE}:∀{V:List VE},e∈a2y is V↔e∈V/\e.i∈is
 | []=>by simp [a2y]
 | e0 :: V=>by
  simp only [a2y]
  cases h:has e0.i is with
  | true =>
   have:=a0i.1 h
   simp only [cond_true,List.mem_cons,a2X (V:=V)]
   grind
  | false =>
   have:e0.i∉is:=λhh=>by rw [a0i.2 hh] at h;cases h
   simp only [cond_false,List.mem_cons,a2X (V:=V)]
   grind
theorem V8 {is:List Nat} {e:VE}:∀{V:List VE},e∈S8 is V↔e∈V/\e.i∉is
 | []=>by simp [S8]
 | e0 :: V=>by
  simp only [S8]
  cases h:has e0.i is with
  | true =>
   have:=a0i.1 h
   simp only [cond_true,List.mem_cons,V8 (V:=V)]
   grind
  | false =>
   have:e0.i∉is:=λhh=>by rw [a0i.2 hh] at h;cases h
   simp only [cond_false,List.mem_cons,V8 (V:=V)]
   grind
theorem a7a {R:VE→VE→Prop}:∀{V:List VE},V.Pairwise R→(S8 is V).Pairwise R
 | [],h=>h
 | e :: V,h=>by
  rw [List.pairwise_cons] at h
  simp only [S8]
  cases has e.i is with
  | true=>exact a7a h.2
  | false=>exact .cons (λx hx=>h.1 x (V8.1 hx).1) (a7a h.2)
theorem Split.rem (h:Split V F U):(∀e∈U,e.i∉is)→Split (S8 is V) (S8 is F) U:=by
 induction h with
 | nil=>intro _;exact .nil
 | @sel e V F U _ ih =>
  intro hU
  simp only [S8]
  cases has e.i is with
  | true=>exact ih hU
  | false=>exact .sel (ih hU)
 | @uns e V F U _ ih =>
  intro hU
  simp only [S8]
  cases h:has e.i is with
  | true=>exact absurd (a0i.1 h) (hU e (by simp))
  | false=>exact .uns (ih λx hx=>hU x (by simp [hx]))
theorem Split.disj (h:Split V F U) {f:VE→Nat}:V.Pairwise (λa b=>f a≠f b)→∀x∈F,∀y∈U,f x≠f y:=by
 induction h with
 | nil=>intro _ x hx;cases hx
 | @sel e V F U hs ih =>
  intro hp x hx y hy
  rw [List.pairwise_cons] at hp
  rcases List.mem_cons.1 hx with rfl | hx
  ·exact hp.1 y (hs.memU y hy)
  grind
 | @uns e V F U hs ih =>
  intro hp x hx y hy
  rw [List.pairwise_cons] at hp
  rcases List.mem_cons.1 hy with rfl | hy
  ·exact Ne.symm (hp.1 x (hs.memF x hx))
  grind
def a1c (d:Option Nat):List VE→Bool
 | []=>true
 | e :: V=>(match d with | some d=>!Nat.beq d e.d | none=>true) && a1c d V
theorem a4l {d:Option Nat}:∀{V:List VE},a1c d V=true→∀e∈V,d≠some e.d
 | [],_,e,h=>by cases h
 | e0 :: V,h,e,he=>by
  simp only [a1c,Bool.and_eq_true] at h
  rcases List.mem_cons.1 he with rfl | he
  ·intro e1;subst e1;simp [Nat.beq_refl] at h
  ·exact a4l h.2 e he
def VStep (P:Program) [Env P] (b:Base) (ops:Array Oper) (m0:List (Nat×Option Row)) (fuel:Nat) (listed:Array Bool) (S:St) (V:List VE) (K:St→Prop) (j:Nat) (is:List Nat):Prop :=
 ∃o S1 ms,ops[j]?=some o/\o.guard=none/\(∀b':Base,[EnvAt P b']→b'.n0=b.n0→WX P b' ops o [] ⟨frT (a2y is V) S.T,frM (a2y is V) S.m,S.nx,S.nt⟩ (nq (λS'=>S'=S1)))/\Nat.ble S.nx S1.nx=true/\a0j b.n0 S1.nx S1.nt (S8 is V) S1.T S1.m=true/\a1c o.dst (S8 is V)=true/\N6 b.n0 S1.m ms []=some m0 /\
  WAV P b ops m0 fuel ((N8 is listed).setIfInBounds j true) S1 (S8 is V) K
theorem VStep.mk (ms:List Nat) {o:Oper} {S1:St} (ho:ops[j]?=some o) (hg:o.guard=none) (hx:∀b':Base,[EnvAt P b']→b'.n0=b.n0→WX P b' ops o [] ⟨frT (a2y is V) S.T,frM (a2y is V) S.m,S.nx,S.nt⟩ (nq (λS'=>S'=S1))) (hn:Nat.ble S.nx S1.nx=true) (hv:a0j b.n0 S1.nx S1.nt (S8 is V) S1.T S1.m=true) (hd:a1c o.dst (S8 is V)=true) (hk:N6 b.n0 S1.m ms []=some m0)
 (h:WAV P b ops m0 fuel ((N8 is listed).setIfInBounds j true) S1 (S8 is V) K):VStep P b ops m0 fuel listed S V K j is:=⟨o,S1,ms,ho,hg,hx,hn,hv,hd,hk,h⟩
def AllVS (P:Program) [Env P] (b:Base) (ops:Array Oper) (m0:List (Nat×Option Row)) (fuel:Nat) (listed:Array Bool) (S:St) (V:List VE) (K:St→Prop):List (Nat×List Nat)→Prop
 | []=>True
 | (j,is) :: r=>VStep P b ops m0 fuel listed S V K j is/\AllVS P b ops m0 fuel listed S V K r
theorem AllVS.get {F:List Nat}:∀{rs:List (Nat×List Nat)},AllVS P b ops m0 fuel listed S V K rs→b61 i F rs=true→∃is,(∀c∈is,c∈F)/\VStep P b ops m0 fuel listed S V K i is
 | [],_,h=>by cases h
 | (j,C) :: r,hA,h=>by
  simp only [b61,Bool.or_eq_true,Bool.and_eq_true] at h
  rcases h with ⟨h1,h2⟩ | h
  ·have:=Nat.eq_of_beq_eq_true h1
   subst this
   refine ⟨C,?_,hA.1⟩
   clear hA h1
   induction C with
   | nil=>intro c hc;cases hc
   | cons c0 C ih =>
    grind [b4H,a0i]
  ·exact AllVS.get hA.2 h
theorem AllVS.nil:AllVS P b ops m0 fuel listed S V K []:=trivial
theorem AllVS.cons {r:List (Nat×List Nat)} (h:VStep P b ops m0 fuel listed S V K j is) (h':AllVS P b ops m0 fuel listed S V K r):AllVS P b ops m0 fuel listed S V K ((j,is) :: r):=⟨h,h'⟩
theorem b2v [EnvAt P b] {rs:List (Nat×List Nat)} (hV:VFree b.n0 nx nt V T m) (hD:VDist V) (hok:∀e∈V,VOK P ops e) (hchk:c2C ops listed (V.map VE.i) rs=true) (hA:AllVS P b ops m0 fuel listed ⟨T,m,nx,nt⟩ V K rs) (hs:Split V F U)
 (ih:∀F' U',Split V F' U'→U'.length+1=U.length→WA P b ops m0 (fuel+1+U'.length) (N8 (F'.map VE.i) listed) ⟨frT F' T,frM F' m,nx,nt⟩ K):WA P b ops m0 (fuel+1+U.length) (N8 (F.map VE.i) listed) ⟨frT F T,frM F m,nx,nt⟩ K:=by
 intro hns ρ a w hT hC hS
 have hc0:=(List.all_eq_true.1 hchk) _ hs.inN
 simp only [Bool.and_eq_true,Bool.not_eq_true'] at hc0
 obtain ⟨hne,hall⟩:=hc0
 rw [show fuel+1+U.length=(fuel+U.length)+1 by omega]
 refine wpAnyH_all Z (λh=>by rw [h] at hne;cases hne) λi hi=>?_
 have hcase:=(List.all_eq_true.1 hall) i hi
 rw [Bool.or_eq_true] at hcase
 rcases hcase with hcase | hcase
 ·obtain ⟨e,he,rfl⟩:=List.mem_map.1 (a0i.1 hcase)
  have hnF:e∉F:=λh=>hs.disj (f:=VE.id) hD.id e h e he Z
  obtain ⟨F',U',h1,h2,h3⟩:=hs.move he
  obtain ⟨o,y,w',ρ',g1,g2,g3,g4,g5,g6,g7⟩:=b3W hV hD hok hs he hnF hT hC h1 h3
  unfold wpOp
  simp only [g1]
  rw [if_pos (by simp [Region.wanted,g2])]
  refine .inl ?_
  unfold Oper.wp
  rw [g4,Oper.upon_value,g3]
  have hS':Cls b m0 w':=RelC.trans hS g7
  refine ⟨hS',?_⟩
  have hm:(N8 (F.map VE.i) listed).setIfInBounds e.i true=N8 (F'.map VE.i) listed:=by
   rw [a43]
   refine a8N λk=>?_
   grind
  rw [hm,show fuel+U.length=fuel+1+U'.length by omega]
  exact ih F' U' h1 h2 hns ρ' _ w' g5 g6 hS'
 ·obtain ⟨is,hisF,o,S1,ms,ho,hg,hx,hnx,hvf,hdn,hkm,hW⟩:=hA.get hcase
  have hR:=VFree.of hvf
  have hisFe:∀e∈V,e.i∈is→e∈F:=λe he hi'=>by
   obtain ⟨x,hx',hxe⟩:=List.mem_map.1 (hisF _ hi')
   rw [← a9q hD.i (hs.memF x hx') he hxe];exact hx'
  have hUis:∀e∈U,e.i∉is:=λe he hi'=>hs.disj (f:=VE.id) hD.id e (hisFe e (hs.memU e he) hi') e he Z
  have hsp:=hs.rem (is:=is) hUis
  have hR2:VFree b.n0 S1.nx S1.nt (S8 is F) S1.T S1.m:=by
   have hsub:∀e∈S8 is F,e∈S8 is V:=hsp.memF
   exact ⟨λe he=>hR.lt e (hsub e he),λe he=>hR.dlt e (hsub e he),λe he=>hR.n0 e (hsub e he),λe he=>hR.mm e (hsub e he),λe he=>hR.fm e (hsub e he),λe he=>hR.ft e (hsub e he),λe he=>hR.kt e (hsub e he)⟩
  have hfr:=b1I (F:=F) (C:=a2y is V) (R:=S8 is F) (Q':=a1V b (nq K)) hV hD hok hs.memF (hs.pw hD.id) (hs.pw hD.d) (λe he=>hisFe e (a2X.1 he).1 (a2X.1 he).2) (λe he=>⟨(V8.1 he).1,λh=>(V8.1 he).2 (a2X.1 h).2⟩) hx (Nat.le_of_ble_eq_true hnx) hR2 (λe he=>a4l hdn e (hsp.memF e he)) (a7a (hs.pw hD.id)) (a7a (hs.pw hD.d)) hT hC
  unfold wpOp
  simp only [ho]
  rw [if_pos (by simp [Region.wanted,hg])]
  refine .inl ?_
  unfold Oper.wp at hfr ⊢
  refine upon_mono hfr λa' w' ⟨ρ'',k1,k2⟩=>?_
  have hS':Cls b m0 w':=by
   refine RelC.cls (ms:=ms) (k2.sub λi r hi=>?_) hkm
   rw [a0O λe he e1=>by rw [← e1,hR2.mm e he] at hi;cases hi]
   exact hi
  refine ⟨hS',?_⟩
  have hm:(N8 (F.map VE.i) listed).setIfInBounds i true=N8 ((S8 is F).map VE.i) ((N8 is listed).setIfInBounds i true):=by
   rw [a43,a43,b3U]
   refine a8N λk=>?_
   simp only [List.mem_cons,List.cons_append,List.mem_append,List.mem_map]
   constructor
   ·grind [V8]
   ·grind [V8]
  rw [hm]
  exact hW _ _ hsp hns ρ'' a' w' k1 k2 hS'
where
 upon_mono {o:Oper} {a:Act} {n n':Act→World→Prop} {Q:Exit→Act→World→Prop} {r:Result Next} (h:o.upon P a n Q r) (hn:∀a w,n a w→n' a w):o.upon P a n' Q r:=by
  cases r with
  | ok x w' =>
   cases x<;>simp only [Oper.upon] at h ⊢
   case value v=>exact hn _ _ h
   case skip=>exact hn _ _ h
   case defer d=>exact hn _ _ h
   case enter f args =>
    refine h.mono λe w'' he=>?_
    cases e with
    | returned u=>exact hn _ _ he
    | panicked c=>exact he
    | outgrown=>exact he
   case row row args=>exact Rows.mono h λu w'' he=>hn _ _ he
  | halt x w'=>cases x<;>exact h
theorem i7 [EnvAt P b] (rs:List (Nat×List Nat)) (hV0:a0j b.n0 nx nt V T m=true) (hD0:a7B V=true) (hok:∀e∈V,VOK P ops e) (hchk:c2C ops listed (V.map VE.i) rs=true) (hA:AllVS P b ops m0 fuel listed ⟨T,m,nx,nt⟩ V K rs):WAV P b ops m0 (fuel+1) listed ⟨T,m,nx,nt⟩ V K:=by
 have main:∀n F U,Split V F U→U.length=n→WA P b ops m0 (fuel+1+U.length) (N8 (F.map VE.i) listed) ⟨frT F T,frM F m,nx,nt⟩ K:=by
  intro n
  induction n with
  | zero=>intro F U hs hl;exact b2v (VFree.of hV0) (VDist.of hD0) hok hchk hA hs λF' U' _ h=>by omega
  | succ n ih=>intro F U hs hl;exact b2v (VFree.of hV0) (VDist.of hD0) hok hchk hA hs λF' U' hs' h=>ih F' U' hs' J
 exact λF U hs=>main _ F U hs Z
theorem VOK.lit {tb:List (Nat×TyI)} {t sz:Nat} (G:Good P tb) (ho:ops[i]?=some o) (hg:o.guard=none) (hd:o.dst=some d) (hop:o.op=.buildSlice t 0 #[]) (ht:look t tb=some (.slice e sz by_ zs)):VOK P ops ⟨i,d,id,false,.row e sz []⟩:=by
 refine ⟨o,ho,hg,hd,Z,λ_ _ _=>Z,λρ w=>?_⟩
 have hrun:=a0d (G t _ ht) [] (by simp) (by simp) w
 refine ⟨.slice (some ⟨w.heap.size,0,none⟩) 0 0,w.alloc (.cells #[] e),?_,(Below.refl _ _).alloc (Nat.le_refl _) _,λb hb=>(by simp [blk] at hb;omega),λh=>(by cases h),λB r nx hB hr=>?_⟩
 ·simp only [execOp,hop,Sem.run_bind]
  simp at hrun
  simp [hrun]
 ·simp only [RowRel]
  rw [hr]
  refine ⟨⟨by simp,.inr ⟨w.heap.size,0,#[],Z,hB,Go.heap_alloc_new w _,Nat.le_refl _,Nat.zero_le _,by simp,by simp⟩⟩,by simp⟩
theorem b4I:∀(zs:List Value),F2 0 (avR zs [])=true:=λzs=>by
 rw [a2J]
 induction zs with
 | nil=>rfl
 | cons z zs ih=>simpa [F2,v2] using ih
theorem VOK.box {t:Nat} (ho:ops[i]?=some o) (hg:o.guard=none) (hd:o.dst=some d) (hop:o.op=.alloc t) (hone:∀u∈zs,u.oneCell'=true) (hz:∃inf z,P.info? t=some inf/\inf.zero=some z/\z.cells=zs.toArray):VOK P ops ⟨i,d,id,true,.box (avR zs [])⟩:=by
 obtain ⟨inf,z,h1,h2,h3⟩:=hz
 refine ⟨o,ho,hg,hd,b4I zs,λ_ _ _=>Z,λρ w=>⟨.pointer (some ⟨w.heap.size,0,none⟩),w.alloc (.cells zs.toArray t),?_,(Below.refl _ _).alloc (Nat.le_refl _) _,λb hb=>(by simp [blk] at hb;omega),λ_=>⟨_,Z⟩,λB r nx hB hr=>?_⟩⟩
 ·simp [execOp,hop,Instr.alloc,zeroValue,typeInfo,h1,h2,newVar,newRow,h3]
 ·refine ⟨w.heap.size,zs.toArray,t,hr,hB,Go.heap_alloc_new w _,?_,by simpa using hone⟩
  rw [a2J];simpa using RelVs.map_v zs
theorem VOK.boxS {tb:List (Nat×TyI)} {t:Nat} {fs:List (Nat×Nat)} (G:Good P tb) (ho:ops[i]?=some o) (hg:o.guard=none) (hd:o.dst=some d) (hop:o.op=.alloc t) (ht:look t tb=some (.struct fs zs)):VOK P ops ⟨i,d,id,true,.box (avR zs [])⟩:=by
 obtain ⟨fields,inf,_,hi,_,hz,h1,_⟩:=G t _ ht
 exact VOK.box ho hg hd hop h1 ⟨inf,_,hi,hz,by simp [Value.cells]⟩
theorem VOK.make {tb:List (Nat×TyI)} {o:Oper} {t e sz by_ d i id n:Nat} {zs:List Value} {kl kc:IntKind} (G:Good P tb) (ho:ops[i]?=some o) (hg:o.guard=none) (hd:o.dst=some d) (hop:o.op=.makeSlice t (.const (.int kl n)) (.const (.int kc n))) (ht:look t tb=some (.slice e sz by_ zs)) (hb:by_ * n<=281474976710656) (hn:n<=9223372036854775807):VOK P ops ⟨i,d,id,false,.row e sz (List.replicate n zs)⟩:=by
 obtain ⟨hu,_,inf,z,hi,hs,hby,hz,hzc,hzl,hpos,hone⟩:=G t _ ht
 subst hby;subst hs
 refine ⟨o,ho,hg,hd,Z,λ_ _ _=>Z,λρ w=>?_⟩
 obtain ⟨w',hr,_,hgr⟩:=run_make_full (P:=P) w 0 t e inf z inf.size hu hi hz Z kl kc n hb (by unfold maxLen;exact hn) (Nat.zero_le _)
 have hb2:Below w.heap.size w w':=(Below.refl _ _).grown hgr (Nat.le_refl _) (by simp)
 refine ⟨.slice (some ⟨w.heap.size,0,none⟩) n n,w',?_,hb2,λb hb=>(by simp [blk] at hb;omega),λh=>(by cases h),λB r nx hB hr'=>?_⟩
 ·simp only [execOp,hop,Sem.run_bind]
  simp [Act.eval,hr]
 ·obtain ⟨w2,hr2,hown,_⟩:=run_make_full (P:=P) w B.heap.size t e inf z inf.size hu hi hz Z kl kc n hb (by unfold maxLen;exact hn) hB
  have e2:w2=w':=by rw [hr] at hr2;cases hr2;rfl
  subst e2
  refine ⟨?_,λc hc=>by rw [(List.mem_replicate.1 hc).2];exact ⟨hzl,hone⟩⟩
  rw [OwnR.no,hr',List.length_replicate]
  rw [hzc,← hzl,a8A J] at hown
  grind
theorem r8 {N:Nat} (hn:Nat.ble nx N=true) (h:WA P b ops m0 fuel listed ⟨T,m,N,nt⟩ K):WA P b ops m0 fuel listed ⟨T,m,nx,nt⟩ K:=by
 intro hs ρ a w hT hC hS
 have hn:=Nat.le_of_ble_eq_true hn
 refine h hs ρ a w ⟨λt x hx=>(hT.tmps t x hx).mono hn (λ_ _=>Z),hT.size,hT.defers⟩ ⟨λid r hr=>?_,hC.apart,hC.below,⟨Nat.le_trans hC.pin.1 hn,hC.pin.2⟩,hC.kept,hC.inner⟩ hS
 obtain ⟨h1,h2⟩:=hC.rows id r hr
 exact ⟨Nat.lt_of_lt_of_le h1 hn,h2.mono hn (λ_ _=>Z) h1⟩
theorem AllVOK.cons {e:VE} (h:VOK P ops e) (h':∀e∈V,VOK P ops e):∀x∈e :: V,VOK P ops x:=λx hx=>by rcases List.mem_cons.1 hx with rfl | hx;exact h;exact h' x hx
theorem AllVOK.nil:∀x∈([]:List VE),VOK P ops x:=λx hx=>by cases hx
end
end Go.Rf
namespace Go.Rf
open Go
section
variable {α:Type} [Inhabited α] {f:α→List Value} {g g':Nat→α} {n k:Nat}
end
structure Route where
 p:Int
 t:Int
 deriving Inhabited,DecidableEq
def n6 (x:Route):List Value:=[.int .i64 x.p,.int .i64 x.t]
def b4J (x:Route):Value:=.agg ⟨n6 x⟩
structure MStep where
 k:Int
 q:Int
 c:Int
 v:Int
 deriving Inhabited,DecidableEq
def a0Q (x:MStep):List Value:=[.int .i64 x.k,.int .i64 x.q,.int .i64 x.c,.int .i64 x.v]
def a0R (x:MStep):Value:=.agg ⟨a0Q x⟩
structure Abs where
 en:List Bool
 ra:List Bool
 po:List Bool
 ma:List Int
 st:List (List Int)
 deriving Inhabited,DecidableEq
def p8 (l:List Int):List CI:=[.l 3 1 (l.map l8)]
def b0G (x y:Abs):Bool:=decide (x.en=y.en) && (decide (x.ra=y.ra) && (decide (x.po=y.po) && (decide (x.ma=y.ma) && decide (x.st=y.st))))
theorem O2 {x y:Abs}:b0G x y=true↔x=y:=by cases x;cases y;simp [b0G]
def lenN (xss:List (List Int)):Nat→Int
 | 0=>0
 | i+1=>lenN xss i+(xss.getD i default).length
theorem a8O {xss:List (List Int)} {i:Nat}:lenN xss (i+1)=lenN xss i+(xss.getD i default).length:=rfl
structure SmallA (a:Abs):Prop where
 en:a.en.length<=1048576
 ra:a.ra.length<=1048576
 po:a.po.length<=1048576
 ma:a.ma.length<=1048576
 st:a.st.length<=1048576
 all:∀i,i < a.st.length→(a.st.getD i default).length<=1048576
 sum:lenN a.st a.st.length<=1048576
def a7E (c:Int) (r:Route):Bool:=s1 r.p 0 15 && s1 r.t 0 (c - 1)
def okRts (rs:List Route) (c:Int):Bool:=s1 c 1 2 && (decide (rs.length=8) && X7 rs.length (λi=>a7E c (rs.getD i default)))
def prI (rs:List Route) (x:Int):Int:=(rs.getD x.toNat default).p
def tgI (rs:List Route) (x:Int):Int:=(rs.getD x.toNat default).t
def elS (rs:List Route) (l:List Int) (c:Nat) (i:Nat):Bool:=s1 (l.getD i default) 0 7 && (decide (tgI rs (l.getD i default)=c) && (decide (i=0) || decide (prI rs (l.getD i default) < prI rs (l.getD (i - 1) default))))
def elP (po:List Bool) (l:List Int) (i:Nat):Bool:=!(po.getD (l.getD i default).toNat default)
def stG (rs:List Route) (l:List Int) (c:Nat):Bool:=X7 l.length (elS rs l c) && decide (l.length<=4)
def a0E (rs:List Route) (a:Abs) (k:Nat):Bool:=s1 (a.ma.getD k default) 0 16 && (stG rs (a.st.getD k default) k && X7 (a.st.getD k default).length (elP a.po (a.st.getD k default)))
def b2w (a:Abs):Bool:=decide (a.st.length=a.ma.length) && (decide (a.en.length=8) && (decide (a.ra.length=8) && decide (a.po.length=8)))
def absOK (rs:List Route) (a:Abs):Bool:=okRts rs a.ma.length && (b2w a && X7 a.ma.length (a0E rs a))
theorem s8 {rs:List Route} {c:Int}:okRts rs c=true↔(1<=c/\c<=2)/\rs.length=8/\∀i,i < 8→(0<=(rs.getD i default).p/\(rs.getD i default).p<=15)/\0<=(rs.getD i default).t/\(rs.getD i default).t<=c - 1:=by
 grind [okRts,s7,w4,a7E]
theorem a1x {a:Abs}:b2w a=true↔a.st.length=a.ma.length/\a.en.length=8/\a.ra.length=8/\a.po.length=8:=by
 simp only [b2w,Bool.and_eq_true,decide_eq_true_eq]
theorem R2 {rs:List Route} {l:List Int} {c i:Nat}:elS rs l c i=true↔(0<=l.getD i default/\l.getD i default<=7)/\tgI rs (l.getD i default)=c/\(i=0∨prI rs (l.getD i default) < prI rs (l.getD (i - 1) default)):=by
 grind [elS,s7]
end Go.Rf
namespace Go.Rf
variable {a:Abs} {c i k n:Nat} {l:List Int} {rs:List Route}
structure BigA (a:Abs):Prop where
 en:a.en.length<=9223372036854775807
 ra:a.ra.length<=9223372036854775807
 po:a.po.length<=9223372036854775807
 ma:a.ma.length<=9223372036854775807
 st:a.st.length<=9223372036854775807
 all:∀i,i < a.st.length→(a.st.getD i default).length<=9223372036854775807
theorem SmallA.big (h:SmallA a):BigA a:=⟨by have:=h.en;omega,by have:=h.ra;omega,by have:=h.po;omega,by have:=h.ma;omega,by have:=h.st;omega,λi hi=>by have:=h.all i hi;omega⟩
theorem c4h:((n:Int)==8)=decide (n=8):=by
 grind
theorem le4:decide ((n:Int)<=4)=decide (n<=4):=by
 grind
theorem b8c (h:¬ ((0<=l.getD i default/\l.getD i default<=7)/\tgI rs (l.getD i default)=c/\(i=0∨prI rs (l.getD i default) < prI rs (l.getD (i - 1) default)))):elS rs l c i=false:=by
 rw [← Bool.not_eq_true,R2];exact h
theorem b2x {po:List Bool}:elP po l i=true↔po.getD (l.getD i default).toNat default=false:=by simp [elP]
theorem b8d {po:List Bool}:elP po l i=false↔po.getD (l.getD i default).toNat default=true:=by simp [elP]
theorem b2y (h:s1 (a.ma.getD k default) 0 16=false):a0E rs a k=false:=by simp only [a0E,h,Bool.false_and]
theorem b4K (h:4 < (a.st.getD k default).length):a0E rs a k=false:=by
 grind [a0E,stG]
theorem b62 {rs:List Route} {a:Abs} {k i:Nat} (h:elS rs (a.st.getD k default) k i=false) (hi:i < (a.st.getD k default).length):a0E rs a k=false:=by
 grind [X8,a0E,stG]
theorem b2z {rs:List Route} {a:Abs} {k i:Nat} (h:elP a.po (a.st.getD k default) i=false) (hi:i < (a.st.getD k default).length):a0E rs a k=false:=by
 grind [X8,a0E]
theorem b4L (h1:s1 (a.ma.getD k default) 0 16=true) (h2:(a.st.getD k default).length<=4) (h3:∀j,j < (a.st.getD k default).length→elS rs (a.st.getD k default) k j=true) (h4:∀j,j < (a.st.getD k default).length→elP a.po (a.st.getD k default) j=true):a0E rs a k=true:=by
 grind [a0E,stG,w4]
theorem a2a {rs:List Route} {a:Abs} {k:Nat} (h:a0E rs a k=false) (hk:k < a.ma.length):absOK rs a=false:=by
 grind [X8,absOK]
theorem a9t (h1:okRts rs a.ma.length=true) (h2:b2w a=true) (h3:∀j,j < a.ma.length→a0E rs a j=true):absOK rs a=true:=by
 simp only [absOK,h1,h2,w4.mpr h3,Bool.true_and]
theorem b2A (h:okRts rs a.ma.length=false):absOK rs a=false:=by simp only [absOK,h,Bool.false_and]
theorem b2B (h:¬ (a.st.length=a.ma.length/\a.en.length=8/\a.ra.length=8/\a.po.length=8)):absOK rs a=false:=by
 grind [a1x,absOK]
theorem N0 {x a b:Int} (h:s1 x a b=false):¬ (a<=x/\x<=b):=λhh=>by rw [s7.mpr hh] at h;exact absurd h (by decide)
theorem b0H (h:stG rs l c=true):(∀j,j < l.length→elS rs l c j=true)/\l.length<=4:=by
 grind [stG,w4]
theorem b63 (h:stG rs (a.st.getD k default) k=false):a0E rs a k=false:=by simp only [a0E,h,Bool.false_and,Bool.and_false]
theorem b64 (h1:s1 (a.ma.getD k default) 0 16=true) (h2:stG rs (a.st.getD k default) k=true) (h4:∀j,j < (a.st.getD k default).length→elP a.po (a.st.getD k default) j=true):a0E rs a k=true:=by
 simp only [a0E,h1,h2,w4.mpr h4,Bool.and_self]
end Go.Rf
namespace Go.Rf
open Go Go.RowKit
variable {T:List (Nat×AV)} {is:List Nat} {m:List (Nat×Option Row)} {nt:Nat} {ρ:Nat→Value}
structure CtrE (P:Program) [Env P] {α:Type} (f:FuncId) (args:List AV) (res:α→Res):Prop where
 callable:Callable P f
 calls:∀w vs,Env.E P w→RelVs w noRho 0 args vs→Calls P f vs.toArray w λe w'=>∃x:α,∃v,e=.returned v/\ResRel w.heap.size w' (res x) v/\Below w.heap.size w w'
def c2D {α:Type} (tb:List (Nat×TyI)) (rs:List ResultVar) (res:α→Res):Exit→St→Prop:=λe S=>∃x,Fin tb rs (res x) e S
theorem b65 {α:Type} {tb:List (Nat×TyI)} {rs:List ResultVar} {res:α→Res} {e:Exit} {S:St} (x:α) (h:Fin tb rs (res x) e S):c2D tb rs res e S:=⟨x,h⟩
section
variable {P:Program} [Env P] {w0:Base} {ops:Array Oper} {tb:List (Nat×TyI)} {o:Oper} {rest:List Oper} {T:List (Nat×AV)} {m:List (Nat×Option Row)} {nx nt d:Nat} {Q:Exit→St→Prop} {c:Code}
theorem CtrE.of {α:Type} {res:α→Res} (G:Good P tb) {f:FuncId} {fn:Func} {c:Code} {args:List AV} {l:List ResultVar} {n:Nat} (hf:P.funcs[f]?=some fn) (hb:fn.body=some c) (hname:(fn.name == "runtime.NumGoroutine")=false) (hl:fn.results=l.toArray) (hn:fn.ntmps=n)
 (hlen:Nat.ble args.length n=true) (h:∀w0:Base,[NoPin w0]→[EnvAt P w0]→W P w0 c ⟨a4T args 0,[],0,n⟩ (c2D tb l res)):CtrE P f args res:=by
 refine ⟨⟨fn,hf,hname,by rw [hb];rfl⟩,λw vs henv hrel=>?_⟩
 have hlen':args.length<=n:=Nat.le_of_ble_eq_true hlen
 have hvl:=RelVs.length _ hrel
 refine calls_of_wp hf hb ?_
 let b0:Base:=⟨w,0,noRho,w,λ_=>False,λ_ h=>h.elim,Env.E P,λw' hb=>Env.mono henv hb⟩
 have hC:RelC b0 noRho [] 0 w:=⟨λid r hr=>by simp [mem,look] at hr,λid id' r r' hr=>by simp [mem,look] at hr,Below.refl _ _,⟨Nat.le_refl _,λi hi=>by cases hi⟩,⟨Nat.le_refl _,λb h=>h.elim,λid r hr=>by simp [mem,look] at hr⟩,λid r hr=>by simp [mem,look] at hr⟩
 have hnp:NoPin b0:=⟨Z⟩
 have hen:EnvAt P b0:=⟨Z⟩
 have hT:RelT w noRho (a4T args 0) 0 n { tmps:=vs.toArray++Array.replicate (fn.ntmps - vs.toArray.size) undef,defers:=[] }:=by
  refine ⟨λt x hx=>?_,by simp [hn];omega,Z⟩
  obtain ⟨u,_,h2,h3⟩:=a3q hrel t x hx
  have hlt:t < vs.length:=by
   grind
  have:(vs.toArray++Array.replicate (fn.ntmps - vs.toArray.size) undef).getD t undef=u:=by
   rw [Array.getD_eq_getD_getElem?,Array.getElem?_append_left (by simpa using hlt)]
   grind
  rw [this]
  exact h3
 refine wp_mono (h b0 noRho _ w hT hC) ?_
 have fin:∀(x:α) (ρ:Nat→Value) (S:St) (a:Act) (w':World) (avs:List AV),T2 tb S l []=some avs→ResOK S.m avs (res x)→RelT w ρ S.T S.nx S.nt a→RelC b0 ρ S.m S.nx w' →
  a.defers=[]/\∃v,(results fn a.tmps).run P w'=.ok v w'/\∃x:α,∃u,Ending.returned v=.returned u/\ResRel w.heap.size w' (res x) u/\Below w.heap.size w w':=by
  intro x ρ S a w' avs h1 h2 hT' hC'
  obtain ⟨ys,avs',e1,e2,e3⟩:=a0f G hT' hC' h1
  simp at e1
  subst e1
  exact ⟨hT'.defers,_,V3 hl e3,x,_,Z,(ResOK.parts hC' h2 e2).rel,hC'.below⟩
 rintro e a w' ⟨ρ,S,⟨x,hq⟩,hT',hC'⟩
 cases e<;>simp only [Fin] at hq
 case normal=>obtain ⟨avs,h1,h2⟩:=hq;exact fin x ρ S a w' avs h1 h2 hT' hC'
 case ret=>obtain ⟨avs,h1,h2⟩:=hq;exact fin x ρ S a w' avs h1 h2 hT' hC'
theorem a1y [EnvAt P w0] {α:Type} {res:α→Res} {f:FuncId} {as:Array Operand} {ts:Array TypeId} {args:List AV} {r:α→AV} {m':α→List (Nat×Option Row)} {n1:Nat} (nx':Nat) (hd:o.dst=some d) (hlt:Nat.blt d nt=true) (ho:o.op=.call { callee:=.value (.func f),args:=as,argTypes:=ts }) (ha:ArgsOK T m nx as.toList args) (hc:CtrE P f args res)
 (hi:∀x,a6i (res x) nx m=some (r x,m' x,n1)) (hn':Nat.beq nx' n1=true) (hk:∀x,WL P w0 ops rest ⟨(d,r x) :: T,m' x,nx',nt⟩ Q):WX P w0 ops o rest ⟨T,m,nx,nt⟩ Q:=by
 have hn'':=Nat.eq_of_beq_eq_true hn'
 subst hn''
 intro ρ a w hT hC
 have hrel:=ha.rel hT hC
 have hcalls:=hc.calls w _ (hC.env P) hrel
 have hrun:(execOp a.eval o).run P w=.ok (.enter f (as.toList.map a.eval).toArray) w:=by
  simp [execOp,ho,resolve,Deferred.ofValue,invoke,Act.eval,a0c hc.callable,← Array.toList_map]
 unfold Oper.wp
 rw [hrun,Oper.upon_enter]
 refine hcalls.mono λe w' ⟨x,v,he,hr,hb'⟩=>?_
 subst he
 have hi:=a11 (hi x)
 have hC':=hC.trans hb'
 obtain ⟨ρ',g1,g2,g3,g4⟩:=a7r (m:=m) (nx:=nx) hC' ⟨hC.below.size,hC.kept.1⟩ hr (λid r hm b hb=>hC.foot_lt hm (hC.foot_trans hb' hm hb))
 rw [hi] at g2 g3 g4
 refine hk x ρ' _ w' ?_ g4
 rw [hd]
 have hT':RelT w0 ρ' T nx' nt a:=⟨λt x hx=>(hT.tmps t x hx).mono g2 g1,hT.size,hT.defers⟩
 exact hT'.put hlt g3
def b3X:List AV→Bool
 | []=>true
 | .lst _ _ :: r=>b3X r
 | .nst _ _ _ :: r=>b3X r
 | _=>false
theorem a5X {w0:World}:∀{cs:List AV} {us:List Value},b3X cs=true→RelVs w0 ρ nx cs us→∀y∈us,∃A l c,y=.slice A l c
 | [],_,_,hr,y,hy=>by simp only [RelVs] at hr;subst hr;cases hy
 | x :: cs,_,h,hr,y,hy=>by
  simp only [RelVs] at hr
  obtain ⟨u,us,rfl,h1,h2⟩:=hr
  rcases List.mem_cons.1 hy with rfl | hy
  ·cases x<;>simp only [b3X,Bool.false_eq_true] at h
   case lst=>simp only [RelV] at h1;obtain ⟨A,c,e,_⟩:=h1;exact ⟨_,_,_,e⟩
   case nst=>simp only [RelV] at h1;obtain ⟨_,A,c,e,_⟩:=h1;exact ⟨_,_,_,e⟩
  ·cases x<;>simp only [b3X,Bool.false_eq_true] at h
   case lst=>exact a5X h h2 y hy
   case nst=>exact a5X h h2 y hy
theorem c0Y (t:Nat) {cs:List AV} (ht:look t T=some (.agg cs)) (hs:b3X cs=true) {rs:(Nat→Value)→List AV} (hr:∀u,a4j cs u 0 []=some (rs u)) (h:∀u:Nat→Option Addr×Nat×Nat,W P w0 c ⟨(t,.agg (rs λj=>.slice (u j).1 (u j).2.1 (u j).2.2)) :: T,m,nx,nt⟩ Q):W P w0 c ⟨T,m,nx,nt⟩ Q:=by
 intro ρ a w hT hC
 have h1:=hT.tmps t _ ht
 simp only [RelV] at h1
 obtain ⟨us,he,h1⟩:=h1
 have hsl:=a5X hs h1
 let p:Value→Option Addr×Nat×Nat:=λv=>match v with
  | .slice A l c=>(A,l,c)
  | _=>(none,0,0)
 let u:Nat→Option Addr×Nat×Nat:=λi=>p (us.getD i undef)
 refine h u ρ a w ⟨λi x hi=>?_,hT.size,hT.defers⟩ hC
 by_cases e:i=t
 ·subst e
  rw [m9] at hi
  cases hi
  simp only [RelV]
  have key:∀j y,us[j]?=some y→(λj=>Value.slice (u j).1 (u j).2.1 (u j).2.2) (0+j)=y:=λj y hj=>by
   obtain ⟨A,l,c,rfl⟩:=hsl y (List.mem_of_getElem? hj)
   grind
  have:=a3v (acc':=[]) (hr λj=>.slice (u j).1 (u j).2.1 (u j).2.2) h1 key (by simp [RelVs])
  grind
 ·rw [j5 (λe'=>e e'.symm)] at hi
  exact hT.tmps i x hi
end
theorem RelT.weak {w0:World} {T':List (Nat×AV)} {nx:Nat} {a:Act} (h:RelT w0 ρ T nx nt a) (hsub:∀t x,look t T'=some x→look t T=some x):RelT w0 ρ T' nx nt a:=⟨λt x hx=>h.tmps t x (hsub t x hx),h.size,h.defers⟩
section
variable {P:Program} [Env P] {b:Base} {ops:Array Oper} {m0:List (Nat×Option Row)} {o:Oper} {T:List (Nat×AV)} {m:List (Nat×Option Row)} {nx nt d fuel:Nat} {listed:Array Bool} {V:List VE} {K:St→Prop} {r:AV}
def c4i (ops:Array Oper) (listed:Array Bool) (is:List Nat) (i:Nat):Bool :=
 (a0P is).all λp=>Region.free .any ops (N8 p.1 listed) i && (Region.ready .any ops (N8 p.1 listed)).contains i
theorem l6 [EnvAt P b] (i:Nat) (hi:ops[i]?=some o) (hchk:c4i ops listed (V.map VE.i) i=true) (hp:a4f o.op=true) (hg:o.guard=none)
 (hd:o.dst=some d) (hlt:Nat.blt d nt=true) (hq:QStep P o T m0 nx nt r) (hV0:a0j b.n0 nx nt V T m=true) (hD0:a7B V=true) (hdn:a1c (some d) V=true)
 (hk:WAV P b ops m0 fuel (listed.setIfInBounds i true) ⟨(d,r) :: T,m,nx,nt⟩ V K):WAV P b ops m0 (fuel+1) listed ⟨T,m,nx,nt⟩ V K:=by
 intro F U hs
 have hV:=VFree.of hV0
 have hD:=VDist.of hD0
 have hc:=(List.all_eq_true.1 hchk) _ hs.inN
 simp only [Bool.and_eq_true] at hc
 rw [show fuel+1+U.length=(fuel+U.length)+1 by omega]
 have hq':QStep P o (frT F T) m0 nx nt r:=λw0 _ ρ a w hT hC=>hq w0 ρ a w (hT.weak λt x hx=>by
  rw [R1 λe he e1=>by have:=hV.kt e (hs.memF e he);rw [e1,hx] at this;cases this]
  exact hx) hC
 refine i9 i hi hc.1 hc.2 hp hg hd hlt hq' ?_
 have h:=hk F U hs
 have hm:(N8 (F.map VE.i) listed).setIfInBounds i true=N8 (F.map VE.i) (listed.setIfInBounds i true):=by
  rw [a43]
  rfl
 rw [hm]
 intro hns ρ a w hT hC hS
 refine h hns ρ a w (hT.weak λt x hx=>?_) hC hS
 rcases a2W hx with ⟨e,he,h1,h2⟩ | ⟨h1,h2⟩
 ·subst h1;subst h2
  have hne:d≠e.d:=λe1=>a4l hdn e (hs.memF e he) (by rw [e1])
  show look e.d ((d,r) :: frT F T)=some e.av
  rw [j5 hne]
  exact V7 (hs.pw hD.d) e he
 ·grind [m9,j5,R1]
end
section
variable {P:Program} [Env P] {b:Base} {ops:Array Oper} {m0:List (Nat×Option Row)} {o:Oper} {T T1:List (Nat×AV)} {m m1:List (Nat×Option Row)} {nx nt n1 nt1 d fuel j:Nat} {listed:Array Bool} {V:List VE} {K:St→Prop} {r:AV}
theorem b2C {k:Nat}:has k []=false:=rfl
theorem b0I:∀{V:List VE},a2y [] V=[]
 | []=>rfl
 | e :: V=>by simp only [a2y,b2C,cond_false];exact b0I
theorem a45:∀{V:List VE},S8 [] V=V
 | []=>rfl
 | e :: V=>by simp only [S8,b2C,cond_false];rw [a45]
theorem VStep.mk0 (ms:List Nat) (ho:ops[j]?=some o) (hg:o.guard=none) (hx:∀b':Base,[EnvAt P b']→b'.n0=b.n0→WX P b' ops o [] ⟨T,m,nx,nt⟩ (nq (λS'=>S'=⟨T1,m1,n1,nt1⟩))) (hn:Nat.ble nx n1=true) (hv:a0j b.n0 n1 nt1 V T1 m1=true) (hd:a1c o.dst V=true) (hk:N6 b.n0 m1 ms []=some m0)
 (h:WAV P b ops m0 fuel (listed.setIfInBounds j true) ⟨T1,m1,n1,nt1⟩ V K):VStep P b ops m0 fuel listed ⟨T,m,nx,nt⟩ V K j []:=by
 refine ⟨o,⟨T1,m1,n1,nt1⟩,ms,ho,hg,?_,hn,by rw [a45];exact hv,by rw [a45];exact hd,hk,by rw [a45];exact h⟩
 rw [b0I]
 exact hx
theorem vin {is:List Nat} {V V':List VE} {e:VE} (h:S8 is V=V') (he:e∈V'):e∈V:=by subst h;exact (V8.1 he).1
theorem VStep.mk1 (ms:List Nat) (t0:Nat) (x0:AV) (id0:Nat) (r0:Row) (V1:List VE) (ho:ops[j]?=some o) (hg:o.guard=none) (hV:S8 is V=V1) (hT:frT (a2y is V) T=(t0,x0) :: T) (hM:frM (a2y is V) m=(id0,some r0) :: m)
 (hx:∀b':Base,[EnvAt P b']→b'.n0=b.n0→WX P b' ops o [] ⟨(t0,x0) :: T,(id0,some r0) :: m,nx,nt⟩ (nq (λS'=>S'=⟨T1,m1,n1,nt1⟩))) (hn:Nat.ble nx n1=true) (hv:a0j b.n0 n1 nt1 V1 T1 m1=true) (hd:a1c o.dst V1=true) (hk:N6 b.n0 m1 ms []=some m0)
 (h:WAV P b ops m0 fuel ((N8 is listed).setIfInBounds j true) ⟨T1,m1,n1,nt1⟩ V1 K):VStep P b ops m0 fuel listed ⟨T,m,nx,nt⟩ V K j is:=by
 subst hV
 refine ⟨o,⟨T1,m1,n1,nt1⟩,ms,ho,hg,?_,hn,hv,hd,hk,h⟩
 grind
end
section
variable {P:Program} [Env P] {b:Base} {ops:Array Oper} {m0:List (Nat×Option Row)} {o:Oper} {T T1:List (Nat×AV)} {m m1:List (Nat×Option Row)} {nx nt n1 nt1 d fuel j:Nat} {listed:Array Bool} {V:List VE} {K:St→Prop} {r:AV}
theorem VStep.mk2 (ms:List Nat) (t0:Nat) (x0:AV) (id0:Nat) (r0:Row) (t1:Nat) (x1:AV) (id1:Nat) (r1:Row) (V1:List VE) (ho:ops[j]?=some o) (hg:o.guard=none) (hV:S8 is V=V1) (hT:frT (a2y is V) T=(t0,x0) :: (t1,x1) :: T) (hM:frM (a2y is V) m=(id0,some r0) :: (id1,some r1) :: m)
 (hx:∀b':Base,[EnvAt P b']→b'.n0=b.n0→WX P b' ops o [] ⟨(t0,x0) :: (t1,x1) :: T,(id0,some r0) :: (id1,some r1) :: m,nx,nt⟩ (nq (λS'=>S'=⟨T1,m1,n1,nt1⟩))) (hn:Nat.ble nx n1=true) (hv:a0j b.n0 n1 nt1 V1 T1 m1=true) (hd:a1c o.dst V1=true) (hk:N6 b.n0 m1 ms []=some m0)
 (h:WAV P b ops m0 fuel ((N8 is listed).setIfInBounds j true) ⟨T1,m1,n1,nt1⟩ V1 K):VStep P b ops m0 fuel listed ⟨T,m,nx,nt⟩ V K j is:=by
 subst hV
 refine ⟨o,⟨T1,m1,n1,nt1⟩,ms,ho,hg,?_,hn,hv,hd,hk,h⟩
 grind
theorem VStep.mk3 (ms:List Nat) (t0:Nat) (x0:AV) (id0:Nat) (r0:Row) (t1:Nat) (x1:AV) (id1:Nat) (r1:Row) (t2:Nat) (x2:AV) (id2:Nat) (r2:Row) (V1:List VE) (ho:ops[j]?=some o) (hg:o.guard=none) (hV:S8 is V=V1) (hT:frT (a2y is V) T=(t0,x0) :: (t1,x1) :: (t2,x2) :: T) (hM:frM (a2y is V) m=(id0,some r0) :: (id1,some r1) :: (id2,some r2) :: m)
 (hx:∀b':Base,[EnvAt P b']→b'.n0=b.n0→WX P b' ops o [] ⟨(t0,x0) :: (t1,x1) :: (t2,x2) :: T,(id0,some r0) :: (id1,some r1) :: (id2,some r2) :: m,nx,nt⟩ (nq (λS'=>S'=⟨T1,m1,n1,nt1⟩))) (hn:Nat.ble nx n1=true) (hv:a0j b.n0 n1 nt1 V1 T1 m1=true) (hd:a1c o.dst V1=true) (hk:N6 b.n0 m1 ms []=some m0)
 (h:WAV P b ops m0 fuel ((N8 is listed).setIfInBounds j true) ⟨T1,m1,n1,nt1⟩ V1 K):VStep P b ops m0 fuel listed ⟨T,m,nx,nt⟩ V K j is:=by
 subst hV
 refine ⟨o,⟨T1,m1,n1,nt1⟩,ms,ho,hg,?_,hn,hv,hd,hk,h⟩
 grind
end
def b0J (m:List (Nat×Option Row)):List Nat→List (Nat×Option Row)→Option (List (Nat×Option Row))
 | [],acc=>some acc
 | i :: r,acc=>match mem m i with
  | some row=>b0J m r ((i,some row) :: acc)
  | none=>none
theorem a7F:∀{ks:List Nat} {acc M0:List (Nat×Option Row)},b0J m ks acc=some M0→(∀i r,mem acc i=some r→mem m i=some r)→∀i r,mem M0 i=some r→mem m i=some r
 | [],acc,M0,h,ha=>by simp [b0J] at h;subst h;exact ha
 | t :: ks,acc,M0,h,ha=>by
  simp only [b0J] at h
  cases h1:mem m t with
  | none=>simp [h1] at h
  | some x =>
   simp only [h1] at h
   refine a7F h λi r hr=>?_
   by_cases e:t=i
   ·subst e;rw [i8] at hr;cases hr;exact h1
   ·rw [d1 e] at hr;exact ha i r hr
theorem Gh.keep {w0:Base} {m0:List (Nat×Option Row)} {nx:Nat} (ms:List Nat) (h:b0J m ms []=some m0):Gh w0 ⟨T,m,nx,nt⟩ ⟨T,m0,nx,nt⟩:=λρ a w hT hC=>⟨ρ,hT,hC.sub (a7F h λi r hr=>by simp [mem,look] at hr)⟩
section
variable {P:Program} [Env P] {tb:List (Nat×TyI)} {o:Oper} {T:List (Nat×AV)} {m:List (Nat×Option Row)} {nx nt:Nat}
end
end Go.Rf
namespace Go.Rf
open Go Go.RowKit Go.Sort
end Go.Rf
namespace Go.Rf
open Go Go.RowKit
section
variable {P:Program} [Env P] {tb:List (Nat×TyI)} {o:Oper} {T:List (Nat×AV)} {m:List (Nat×Option Row)} {nx nt:Nat}
theorem b3Y {src dst:TypeId} {x:Operand} {k':IntKind} {n:Int} {z z':Value} {fk:FK} (G:Good P tb) (ho:o.op=.convert src dst x) (hs:look src tb=some (.flat fk z')) (ht:look dst tb=some (.flat (.int .i64) z)) (hx:ev T x=some (.v (.int k' n)))
 (h0:-9223372036854775808<=n) (h1:n<=9223372036854775807):QStep P o T m nx nt (.v (.int .i64 n)):=by
 have:=a2M (m:=m) (nx:=nx) (nt:=nt) G ho hs ht hx
 rwa [U8 h0 h1] at this
end
structure Rec where
 c:ByteArray
 r:ByteArray
instance:Inhabited Rec:=⟨⟨⟨#[]⟩,⟨#[]⟩⟩⟩
theorem b4M {n:Int} (h0:0<=n) (h1:n<=18446744073709551615):IntKind.u64.wrap n=n:=by
 unfold IntKind.wrap
 simp [IntKind.bits,IntKind.signed]
 omega
theorem b66 {n:Int} (h0:0<=n) (h1:n<=255):IntKind.u8.wrap n=n:=by
 unfold IntKind.wrap
 simp [IntKind.bits,IntKind.signed]
 omega
section
variable {P:Program} [Env P] {tb:List (Nat×TyI)} {o:Oper} {T:List (Nat×AV)} {m:List (Nat×Option Row)} {nx nt:Nat}
theorem b0K {src dst:TypeId} {x:Operand} {k k':IntKind} {n:Int} {z z':Value} {fk:FK} (G:Good P tb) (ho:o.op=.convert src dst x) (hs:look src tb=some (.flat fk z')) (ht:look dst tb=some (.flat (.int k) z)) (hx:ev T x=some (.v (.int k' n)))
 (h:k.wrap n=n):QStep P o T m nx nt (.v (.int k n)):=by
 have:=a2M (m:=m) (nx:=nx) (nt:=nt) G ho hs ht hx
 rwa [h] at this
end
theorem Gh.fnc {w0:Base} {T:List (Nat×AV)} {m:List (Nat×Option Row)} {nx nt t:Nat} {f:FuncId} (ht:look t T=some (.v (.func (.func f) #[] #[]))):Gh w0 ⟨T,m,nx,nt⟩ ⟨(t,.fnc f []) :: T,m,nx,nt⟩:=by
 intro ρ a w hT hC
 refine ⟨ρ,⟨λi x hi=>?_,hT.size,hT.defers⟩,hC⟩
 by_cases e:t=i
 ·subst e
  rw [m9] at hi
  cases hi
  have h1:=hT.tmps t _ ht
  simp only [RelV] at h1 ⊢
  exact ⟨[],h1,by simp [RelVs]⟩
 ·rw [j5 e] at hi
  exact hT.tmps i x hi
end Go.Rf
namespace Go.Rf
open Go Go.RowKit Go.Sort
def srtI (l:List Int):List Int:=l.mergeSort λx y=>decide (x<=y)
theorem R3 {l:List Int}:(srtI l).length=l.length:=List.length_mergeSort l
theorem a3x (l:List Int):(srtI l).Perm l:=List.mergeSort_perm l _
theorem a5Y (l:List Int):(l.map l8).flatten=l.map (Value.int .i64):=by
 induction l with
 | nil=>rfl
 | cons x l ih=>simp only [List.map_cons,List.flatten_cons,ih];rfl
theorem CtrM.sort {P:Program} [Env P] {f e:Nat} (hc:Callable P f) {l:List Int} (hl:l.length<=1048576)
 (h:∀(blk off cap:Nat) (w:World),Holds (Value.int .i64) w blk off l.toArray→blk < w.heap.size→l.length < 4611686018427387904→Calls P f #[.slice (some ⟨blk,off,none⟩) l.length cap] w λe w'=>e=.returned (.tuple #[])/\∃n os,w'=grow (putRow (Value.int .i64) (Sort.ahead w n) blk off (l.mergeSort λx y=>decide (x<=y)).toArray) os)
 (h0:∀(p:Option Addr) (cap:Nat) (w:World),Calls P f #[.slice p 0 cap] w λe w'=>e=.returned (.tuple #[])/\w'=w) :
 CtrM P f [.own 0] [.row e 1 (l.map l8)] (.many []) [some (.row e 1 ((srtI l).map l8))]:=by
 refine ⟨hc,λw0 _ ρ m nx ids w vs hr hnd hC hv=>?_⟩
 cases hr with
 | @cons id ids r rs hm hr' =>
  cases hr'
  obtain ⟨y,ys,rfl,hy,hys⟩:∃y ys,vs=y :: ys/\RelV w0.w ρ nx (.own id) y/\RelVs w0.w ρ nx [] ys:=by
   simp only [renAs,a3I,RelVs] at hv
   obtain ⟨y,ys,e,h1,h2⟩:=hv
   exact ⟨y,ys,e,by simpa using h1,by simpa only [RelVs] using h2⟩
  have hys:ys=[]:=by simpa only [RelVs] using hys
  subst hys
  simp only [RelV] at hy
  obtain ⟨hid,rfl⟩:=hy
  obtain ⟨hrow,hall⟩:=hC.row hm
  have fin:∀w',RelC w0 ρ ((id,some (.row e 1 ((srtI l).map l8))) :: m) nx w'→∃v ρ',Ending.returned (.tuple #[])=.returned v/\(∀i,i < nx→ρ' i=ρ i)/\nx<=(instR (.many []) nx (aft [id] [some (.row e 1 ((srtI l).map l8))] m)).2.2/\RelV w0.w ρ' (instR (.many []) nx (aft [id] [some (.row e 1 ((srtI l).map l8))] m)).2.2 (instR (.many []) nx (aft [id] [some (.row e 1 ((srtI l).map l8))] m)).1 v /\
   RelC w0 ρ' (instR (.many []) nx (aft [id] [some (.row e 1 ((srtI l).map l8))] m)).2.1 (instR (.many []) nx (aft [id] [some (.row e 1 ((srtI l).map l8))] m)).2.2 w':=λw' hC' =>
   ⟨.tuple #[],ρ,Z,λ_ _=>Z,Nat.le_refl _,by show RelV w0.w ρ nx (.tup []) (.tuple #[]);simp only [RelV];exact ⟨[],Z,by simp only [RelVs]⟩,hC'⟩
  have hlen:(l.map l8).length=l.length:=List.length_map _
  by_cases hz:l.length=0
  ·have hl0:l=[]:=List.eq_nil_of_length_eq_zero hz
   subst hl0
   obtain ⟨p,cap,hs⟩:∃p cap,ρ id=.slice p 0 cap:=by
    rcases hrow.2 with ⟨h1,_⟩ | ⟨g,cap,cur,h1,_⟩
    ·exact ⟨_,_,h1⟩
    ·exact ⟨_,_,h1⟩
   rw [hs]
   refine (h0 p cap w).mono λex w' ⟨he,hw⟩=>?_
   subst he;subst hw
   refine fin w' (hC.sub λi r hr=>?_)
   by_cases e1:id=i
   ·subst e1;rw [i8] at hr;cases hr;rw [show srtI []=[] from List.eq_nil_of_length_eq_zero (by rw [R3];rfl)];exact hm
   ·rw [d1 e1] at hr;exact hr
  ·rcases hrow.2 with ⟨_,h1⟩ | ⟨g,cap,cur,hs,hB,hb,hcp,hmx,hcur,htake⟩
   ·rw [hlen] at h1;exact absurd h1 hz
   ·rw [hlen] at hs hcp htake
    have hfl:=a5Y l
    rw [hfl,Nat.mul_one] at htake
    have hcell:∀j,j < l.length→cur[j]?=some (.int .i64 (l[j]!)):=λj hj=>by
     have:(cur.toList.take l.length)[j]?=(l.map (Value.int .i64))[j]?:=by rw [htake]
     rw [List.getElem?_take,if_pos hj,List.getElem?_map,List.getElem?_eq_getElem hj] at this
     rw [← Array.getElem?_toList,this,getElem!_pos l j hj]
     rfl
    have hH:Holds (Value.int .i64) w g 0 l.toArray:=λj hj=>by
     have hj:j < l.length:=by simpa using hj
     refine ⟨?_,?_⟩
     ·simp only [World.cell?,hb,Nat.zero_add]
      have:=hcell j hj
      simpa using this
     ·simp [World.frozen?,hb]
    have hg:g < w.heap.size:=(Array.getElem?_eq_some_iff.1 hb).1
    rw [hs]
    refine (h g 0 cap w hH hg J).mono λex w' ⟨he,n,os,hw⟩=>?_
    subst he
    have hheap:w'.heap[g]?=some (.cells (putCells (Value.int .i64) 0 (srtI l).toArray cur) e (0,0)):=by
     subst hw
     show ((w.heap.modify g _)++os)[g]?=_
     rw [Array.getElem?_append_left (by simpa using hg),Array.getElem?_modify,if_pos Z,hb]
     rfl
    refine fin w' (hC.change hm (by rw [hs];rfl) ?_ hB ⟨⟨?_,.inr ⟨g,cap,_,by rw [List.length_map,R3];exact hs,hB,hheap,by rw [List.length_map,R3];exact hcp,hmx,?_,?_⟩⟩,?_⟩)
    ·subst hw
     refine ⟨Z,Z,Z,?_,λk hk hne=>?_⟩
     ·show w.heap.size<=((w.heap.modify g _)++os).size
      simp
     ·show ((w.heap.modify g _)++os)[k]?=_
      have hgk:g≠k:=λe1=>hne (by rw [e1])
      rw [Array.getElem?_append_left (by simpa using hk),Array.getElem?_modify,if_neg hgk]
    ·rw [a5Y];simp [R3]
    ·unfold putCells;simp;simpa using hcur
    ·rw [List.length_map,R3,a5Y,Nat.mul_one]
     apply List.ext_getElem?
     intro j
     by_cases hj:j < l.length
     ·rw [List.getElem?_take,if_pos hj,Array.getElem?_toList]
      unfold putCells
      rw [Array.getElem?_mapIdx,hcell j hj,List.getElem?_map]
      have hj2:j < (srtI l).length:=by rw [R3];exact hj
      rw [List.getElem?_eq_getElem hj2]
      simp only [Option.map_some,Nat.zero_le,true_and,Nat.zero_add,Nat.sub_zero]
      rw [if_pos (by simpa using hj2)]
      congr 2
      rw [getElem!_pos (srtI l).toArray j (by simpa using hj2)]
      simp
     ·rw [List.getElem?_take,if_neg hj,List.getElem?_eq_none (by rw [List.length_map,R3];omega)]
    ·intro c hc
     obtain ⟨x,_,rfl⟩:=List.mem_map.1 hc
     exact ⟨Z,λu hu=>by simp [l8] at hu;subst hu;rfl⟩
end Go.Rf
namespace Go.Rf
open Go Go.RowKit
section
variable {P:Program} [Env P] {w0:Base} {ops:Array Oper} {tb:List (Nat×TyI)} {o:Oper} {rest:List Oper} {T:List (Nat×AV)} {m:List (Nat×Option Row)} {nx nt d:Nat} {Q:Exit→St→Prop}
theorem b67 [EnvAt P w0] {x:Operand} {t t' e sz sz' by_:Nat} {zs:List Value} {ys:List (List Value)} (G:Good P tb) (hd:o.dst=some d) (hlt:Nat.blt d nt=true) (ho:o.op=.binOp .eql t x (.const (.slice none 0 0)) t') (ht:look t tb=some (.slice e sz' by_ zs)) (hx:ev T x=some (.lst sz ys))
 (hk:∀b,(b=true→ys=[])→WL P w0 ops rest ⟨(d,.v (.bool b)) :: T,m,nx,nt⟩ Q):WX P w0 ops o rest ⟨T,m,nx,nt⟩ Q:=by
 intro ρ a w hT hC
 have h:=hT.ev hx
 simp only [RelV] at h
 obtain ⟨A,cap,he,_,_,hs⟩:=h
 obtain ⟨hu,_⟩:=G t _ ht
 have hn:(execOp a.eval o).run P w=.ok (.value (.bool A.isNone)) w:=by
  have h2:a.eval (.const (.slice none 0 0))=.slice none 0 0:=rfl
  simp [execOp,ho,he,h2,eqGuard,Go.Lib.run_eql_slice_nil w t e A ys.length cap 0 0 hu]
 unfold Oper.wp
 rw [hn,Oper.upon_value,hd]
 refine hk A.isNone (λhb=>?_) ρ _ _ (hT.put hlt (by simp only [RelV])) hC
 grind
end
end Go.Rf
namespace Go.Rf
open Go
variable {L:Int} {a:Abs} {c i:Nat} {rs:List Route}
def r6 (rs:List Route) (a:Abs) (c:Nat):Nat→Int
 | 0=>-1
 | i+1=>if (a.po.getD i default=true/\(rs.getD i default).t=c)/\(r6 rs a c i < 0∨(rs.getD i default).p < (rs.getD (r6 rs a c i).toNat default).p) then i else r6 rs a c i
theorem a0k:r6 rs a c (i+1)=if (a.po.getD i default=true/\(rs.getD i default).t=c)/\(r6 rs a c i < 0∨(rs.getD i default).p < (rs.getD (r6 rs a c i).toNat default).p) then (i:Int) else r6 rs a c i:=rfl
theorem a1z {rs:List Route} {a:Abs} {c:Nat}:∀i,-1<=r6 rs a c i/\r6 rs a c i < i
 | 0=>by simp [r6]
 | i+1=>by
  have:=@a1z rs a c i
  rw [a0k]
  split<;>omega
def J6 (rs:List Route) (a:Abs) (c:Nat) (L:Int):Nat→Int×Int
 | 0=>(-1,L)
 | i+1=>if (a.po.getD i default=true/\(rs.getD i default).t=c)/\(rs.getD i default).p < (J6 rs a c L i).2 then (i,(rs.getD i default).p) else J6 rs a c L i
theorem a2b:J6 rs a c L (i+1)=if (a.po.getD i default=true/\(rs.getD i default).t=c)/\(rs.getD i default).p < (J6 rs a c L i).2 then ((i:Int),(rs.getD i default).p) else J6 rs a c L i:=rfl
theorem a9u {rs:List Route} {a:Abs} {c:Nat} {L:Int}:∀i,J6 rs a c L i=if 0<=r6 rs a c i/\(rs.getD (r6 rs a c i).toNat default).p < L then (r6 rs a c i,(rs.getD (r6 rs a c i).toNat default).p) else (-1,L)
 | 0=>by simp [J6,r6]
 | i+1=>by
  have ih:=@a9u rs a c L i
  have hb:=@a1z rs a c i
  by_cases h:(a.po.getD i default=true/\(rs.getD i default).t=c)/\(r6 rs a c i < 0∨(rs.getD i default).p < (rs.getD (r6 rs a c i).toNat default).p)
  ·have e:r6 rs a c (i+1)=i:=by rw [a0k,if_pos h]
   rw [a2b,ih,e]
   simp only [Int.toNat_natCast]
   by_cases h2:0<=r6 rs a c i/\(rs.getD (r6 rs a c i).toNat default).p < L
   ·rw [if_pos h2,if_pos ⟨h.1,by show (rs.getD i default).p < (rs.getD (r6 rs a c i).toNat default).p;omega⟩,if_pos J]
   ·rw [if_neg h2]
    by_cases h3:(rs.getD i default).p < L
    ·rw [if_pos ⟨h.1,h3⟩,if_pos J]
    ·rw [if_neg (λq=>h3 q.2),if_neg J]
  ·have e:r6 rs a c (i+1)=r6 rs a c i:=by rw [a0k,if_neg h]
   rw [a2b,ih,e]
   refine if_neg λq=>h ⟨q.1,?_⟩
   have q2:=q.2
   by_cases h2:0<=r6 rs a c i/\(rs.getD (r6 rs a c i).toNat default).p < L
   ·rw [if_pos h2] at q2;exact .inr q2
   ·rw [if_neg h2] at q2
    have q3:(rs.getD i default).p < L:=q2
    omega
theorem b4N (i:Nat):-1<=(J6 rs a c L i).1/\(J6 rs a c L i).1 < i:=by
 have hb:=@a1z rs a c i
 rw [a9u]
 grind
def b1J (rs:List Route) (l:List Int):Int:=(rs.getD (l.getD (l.length - 1) default).toNat default).p
def a9v (rs:List Route) (a:Abs) (c:Nat):Int:=if (a.st.getD c default).length=0 then a.ma.getD c default else min (a.ma.getD c default) (b1J rs (a.st.getD c default))
def B1 (rs:List Route) (a:Abs) (c:Nat):Int:=if (a.st.getD c default).length=4 then -1 else (J6 rs a c (a9v rs a c) 8).1
theorem a47 {rs:List Route} {a:Abs} {c:Nat}:-1<=B1 rs a c/\B1 rs a c < 8:=by
 unfold B1
 split
 ·omega
 ·exact b4N 8
theorem a7b:B1 rs a c=if r6 rs a c 8 < 0∨(a.st.getD c default).length=4∨a.ma.getD c default<=(rs.getD (r6 rs a c 8).toNat default).p∨(0 < (a.st.getD c default).length/\b1J rs (a.st.getD c default)<=(rs.getD (r6 rs a c 8).toNat default).p) then -1 else r6 rs a c 8:=by
 grind [B1,a9v,a9u]
end Go.Rf
namespace Go.Rf
variable {L:Int} {a:Abs} {c i:Nat} {rs:List Route}
structure AbsF (rs:List Route) (a:Abs):Prop where
 n:1<=a.ma.length/\a.ma.length<=2
 rn:rs.length=8
 st:a.st.length=a.ma.length
 en:a.en.length=8
 ra:a.ra.length=8
 po:a.po.length=8
 rt:∀i,i < 8→0<=(rs.getD i default).t/\(rs.getD i default).t < a.ma.length
 len:∀c,c < a.ma.length→(a.st.getD c default).length<=4
 el:∀c,c < a.ma.length→∀i,i < (a.st.getD c default).length→0<=(a.st.getD c default).getD i default/\(a.st.getD c default).getD i default<=7
theorem a9w (h:absOK rs a=true):AbsF rs a:=by
 simp only [absOK,Bool.and_eq_true,w4] at h
 obtain ⟨h1,h2,h3⟩:=h
 obtain ⟨⟨q1,q2⟩,q3,q4⟩:=s8.mp h1
 obtain ⟨l1,l2,l3,l4⟩:=a1x.mp h2
 have hk:∀c,c < a.ma.length→stG rs (a.st.getD c default) c=true:=λc hc=>by
  grind [a0E]
 exact ⟨by omega,q3,l1,l2,l3,l4,λi hi=>by have:=(q4 i hi).2;omega,λc hc=>(b0H (hk c hc)).2,λc hc i hi=>(R2.mp ((b0H (hk c hc)).1 i hi)).1⟩
theorem AbsF.small (h:AbsF rs a):SmallA a:=by
 have h1:=h.n
 have hl:lenN a.st a.st.length<=1048576:=by
  have:∀i,i<=a.ma.length→lenN a.st i<=4 * i:=by
   intro i
   induction i with
   | zero=>intro _;exact Int.le_refl _
   | succ i ih=>intro hi;rw [a8O];have:=ih J;have:=h.len i J;omega
  have:=this a.st.length (by rw [h.st];exact Nat.le_refl _)
  have:=h.st
  omega
 exact ⟨by rw [h.en];decide,by rw [h.ra];decide,by rw [h.po];decide,by omega,by rw [h.st];omega,λi hi=>Nat.le_trans (h.len i (by rw [← h.st];exact hi)) (by decide),hl⟩
theorem a9x (h1:a.po.getD i default=true) (h2:(rs.getD i default).t=c) (h3:(rs.getD i default).p < (J6 rs a c L i).2):J6 rs a c L (i+1)=((i:Int),(rs.getD i default).p):=by rw [a2b,if_pos ⟨⟨h1,h2⟩,h3⟩]
theorem a3y (h:a.po.getD i default=true→(rs.getD i default).t=c→¬ (rs.getD i default).p < (J6 rs a c L i).2):J6 rs a c L (i+1)=J6 rs a c L i:=by rw [a2b,if_neg (λq=>h q.1.1 q.1.2 q.2)]
theorem a9y (h1:a.po.getD i default=true) (h2:(rs.getD i default).t=c) (h3:r6 rs a c i < 0∨(rs.getD i default).p < (rs.getD (r6 rs a c i).toNat default).p):r6 rs a c (i+1)=(i:Int):=by rw [a0k,if_pos ⟨⟨h1,h2⟩,h3⟩]
theorem a3z (h:a.po.getD i default=true→(rs.getD i default).t=c→¬ (r6 rs a c i < 0∨(rs.getD i default).p < (rs.getD (r6 rs a c i).toNat default).p)):r6 rs a c (i+1)=r6 rs a c i:=by rw [a0k,if_neg (λq=>h q.1.1 q.1.2 q.2)]
theorem b1K (h:(a.st.getD c default).length=0):a9v rs a c=a.ma.getD c default:=by unfold a9v;rw [if_pos h]
theorem b1L (h:0 < (a.st.getD c default).length):a9v rs a c=min (a.ma.getD c default) (rs.getD ((a.st.getD c default).getD (((a.st.getD c default).length:Int) - 1).toNat default).toNat default).p:=by
 unfold a9v
 rw [if_neg J,show (((a.st.getD c default).length:Int) - 1).toNat=(a.st.getD c default).length - 1 by omega]
 rfl
theorem a9z (h:(a.st.getD c default).length=4):B1 rs a c=-1:=by unfold B1;rw [if_pos h]
theorem b68 (h:(a.st.getD c default).length≠4) (hi:i=8):B1 rs a c=(J6 rs a c (a9v rs a c) i).1:=by unfold B1;rw [if_neg h,hi]
theorem b69 {rs:List Route} {a:Abs} {c i:Nat} (hi:i=8) (h:r6 rs a c i < 0∨(a.st.getD c default).length=4∨a.ma.getD c default<=(rs.getD (r6 rs a c i).toNat default).p∨(0 < (a.st.getD c default).length/\b1J rs (a.st.getD c default)<=(rs.getD (r6 rs a c i).toNat default).p)):B1 rs a c=-1:=by subst hi;rw [a7b,if_pos h]
theorem b7a {rs:List Route} {a:Abs} {c i:Nat} (hi:i=8) (h:¬ (r6 rs a c i < 0∨(a.st.getD c default).length=4∨a.ma.getD c default<=(rs.getD (r6 rs a c i).toNat default).p∨(0 < (a.st.getD c default).length/\b1J rs (a.st.getD c default)<=(rs.getD (r6 rs a c i).toNat default).p))):B1 rs a c=r6 rs a c i:=by subst hi;rw [a7b,if_neg h]
end Go.Rf
namespace Go.Rf
open Go
variable {a:Abs} {i:Nat} {rs:List Route}
def s4 (n:Int) (s:MStep):Bool :=
 if s.k=1 then s1 s.q 0 7 && (decide (s.c=0) && decide (s.v=0))
 else if s.k=2 then decide (s.q=0) && (decide (s.c=0) && decide (s.v=0))
 else if s.k=3∨s.k=4 then decide (s.q=0) && (s1 s.c 0 (n - 1) && decide (s.v=0))
 else if s.k=5 then decide (s.q=0) && (s1 s.c 0 (n - 1) && s1 s.v 0 16)
 else decide (s.k=6) && (s1 s.q 0 7 && (decide (s.c=0) && s1 s.v 0 1))
def a48 (l:List Int) (v:Int):Bool:=a0D l.length (λj=>decide (v=l.getD j default))
def a2z (rs:List Route) (a:Abs) (i:Nat):Bool:=a.en.getD i default && (a.ra.getD i default && !a48 (a.st.getD (rs.getD i default).t.toNat default) i)
def a1A (rs:List Route) (a:Abs):Nat→List Bool
 | 0=>a.ra
 | i+1=>if a2z rs a i then (a1A rs a i).set i false else a1A rs a i
def a0S (rs:List Route) (a:Abs):Nat→List Bool
 | 0=>a.po
 | i+1=>if a2z rs a i then (a0S rs a i).set i true else a0S rs a i
theorem Q2 {rs:List Route} {a:Abs}:∀i,(a1A rs a i).length=a.ra.length
 | 0=>rfl
 | i+1=>by unfold a1A;split<;>simp [Q2 i]
theorem I7 {rs:List Route} {a:Abs}:∀i,(a0S rs a i).length=a.po.length
 | 0=>rfl
 | i+1=>by unfold a0S;split<;>simp [I7 i]
theorem a9A (h:a2z rs a i=true):a1A rs a (i+1)=(a1A rs a i).set i false:=by show (if _ then _ else _)=_;rw [if_pos h]
theorem a9B (h:a2z rs a i=false):a1A rs a (i+1)=a1A rs a i:=by show (if _ then _ else _)=_;rw [if_neg (by rw [h];decide)]
theorem a9C (h:a2z rs a i=true):a0S rs a (i+1)=(a0S rs a i).set i true:=by show (if _ then _ else _)=_;rw [if_pos h]
theorem a9D (h:a2z rs a i=false):a0S rs a (i+1)=a0S rs a i:=by show (if _ then _ else _)=_;rw [if_neg (by rw [h];decide)]
def a6w (rs:List Route) (a:Abs):Abs:=⟨a.en,a1A rs a 8,a0S rs a 8,a.ma,a.st⟩
def n7 (rs:List Route) (a:Abs) (s:MStep):Abs×Int×Bool :=
 if s.k=1 then ({a with ra:=a.ra.set s.q.toNat true},-1,!(a.ra.getD s.q.toNat default))
 else if s.k=2 then (a6w rs a,-1,true)
 else if s.k=3 then
  if B1 rs a s.c.toNat < 0 then (a,-1,false)
  else ({a with po:=a.po.set (B1 rs a s.c.toNat).toNat false,st:=a.st.set s.c.toNat (a.st.getD s.c.toNat default++[B1 rs a s.c.toNat])},B1 rs a s.c.toNat,true)
 else if s.k=4 then
  if (a.st.getD s.c.toNat default).length=0 then (a,-1,false)
  else ({a with st:=a.st.set s.c.toNat ((a.st.getD s.c.toNat default).take ((a.st.getD s.c.toNat default).length - 1))},(a.st.getD s.c.toNat default).getD ((a.st.getD s.c.toNat default).length - 1) default,true)
 else if s.k=5 then ({a with ma:=a.ma.set s.c.toNat s.v},-1,true)
 else ({a with en:=a.en.set s.q.toNat (decide (s.v=1))},-1,true)
def noA:Abs:=⟨[],[],[],[],[]⟩
end Go.Rf
namespace Go.Rf
variable {a:Abs} {i k:Nat} {rs:List Route} {xs:List (List Int)}
theorem b8e (h:k < xs.length):(xs.take k).map p8++[[CI.l 3 1 ((xs.getD k default).map l8)]]=(xs.take (k+1)).map p8:=by
 rw [List.take_add_one,List.map_append,List.getD_eq_getElem?_getD,List.getElem?_eq_getElem h]
 rfl
theorem a8P (h:xs.length<=k):(xs.take k).map p8=xs.map p8:=by rw [List.take_of_length_le h]
theorem b2D (h1:a.en.getD i default=true) (h2:a.ra.getD i default=true) (h3:a48 (a.st.getD (rs.getD i default).t.toNat default) i=false):a2z rs a i=true:=by simp only [a2z,h1,h2,h3,Bool.not_false,Bool.and_self]
theorem c0Z (h1:a.en.getD i default=false):a2z rs a i=false:=by simp only [a2z,h1,Bool.false_and]
theorem c00 (h1:a.ra.getD i default=false):a2z rs a i=false:=by simp only [a2z,h1,Bool.false_and,Bool.and_false]
theorem c01 (h3:a48 (a.st.getD (rs.getD i default).t.toNat default) i=true):a2z rs a i=false:=by simp only [a2z,h3,Bool.not_true,Bool.and_false]
theorem a9E {n k q c v:Int} (h:s4 n ⟨k,q,c,v⟩=true) (hk:k=1∨k=6):0<=q/\q<=7:=by
 grind [s4,s7]
theorem a2A {n k q c v:Int} (h:s4 n ⟨k,q,c,v⟩=true) (hk:k=3∨k=4∨k=5):0<=c/\c<=n - 1:=by
 grind [s4,s7]
theorem b4O {n k q c v:Int} (h:s4 n ⟨k,q,c,v⟩=true):1<=k/\k<=6:=by
 grind [s4]
def noS (rs:List Route) (a:Abs) (s:MStep):Prop:=(s.k=3/\B1 rs a s.c.toNat < 0)∨(s.k=4/\(a.st.getD s.c.toNat default).length=0)
theorem a7G {s:MStep} (h:noS rs a s):n7 rs a s=(a,-1,false):=by
 rcases h with ⟨h1,h2⟩ | ⟨h1,h2⟩
 ·simp [n7,h1,h2]
 ·simp only [n7,h1,h2];simp
end Go.Rf
namespace Go.Rf
open Go
variable {c:List CI} {i j:Nat} {l:List Int} {xs:List (List Int)} {ys:List (List Value)}
theorem b0L (h:i < xs.length):(xs.map p8)[i]?=some (p8 (xs.getD i default)):=by
 simp [h]
theorem C9 {l:List (List CI)} (h:j < l.length) (hj:j=i):(l.set i c)[j]?=some c:=by
 subst hj
 simp [h]
theorem a2Y (hj:j=i) (hy:ys=l.map l8):((xs.map p8).set i c).set j [CI.l 3 1 ys]=(xs.set i l).map p8:=by
 subst hj;subst hy
 rw [List.set_set,List.map_set];rfl
theorem b4P (hj:j=i) (hy:ys=l.map l8):(xs.map p8).set j [CI.l 3 1 ys]=(xs.set i l).map p8:=by
 subst hj;subst hy
 rw [List.map_set];rfl
end Go.Rf
namespace Go.Rf
section
variable {rs:List Route} {a:Abs} {sk sq sc sv:Int} {q c:Nat}
theorem mk1 (h:sk=1):n7 rs a ⟨sk,(q:Int),sc,sv⟩=({a with ra:=a.ra.set q true},-1,!(a.ra.getD q default)):=by subst h;rfl
theorem mk2 (h:sk=2):n7 rs a ⟨sk,sq,sc,sv⟩=(a6w rs a,-1,true):=by subst h;rfl
theorem c2E (h:sk=3) (hn:B1 rs a c < 0):n7 rs a ⟨sk,sq,(c:Int),sv⟩=(a,-1,false):=by
 subst h
 show (if B1 rs a c < 0 then _ else _)=_
 rw [if_pos hn]
theorem mk3 (h:sk=3) (hn:¬ B1 rs a c < 0):n7 rs a ⟨sk,sq,(c:Int),sv⟩=({a with po:=a.po.set (B1 rs a c).toNat false,st:=a.st.set c (a.st.getD c default++[B1 rs a c])},B1 rs a c,true):=by
 subst h
 show (if B1 rs a c < 0 then _ else _)=_
 rw [if_neg hn]
 rfl
theorem c2F (h:sk=4) (hl:(a.st.getD c default).length=0):n7 rs a ⟨sk,sq,(c:Int),sv⟩=(a,-1,false):=by
 subst h
 show (if (a.st.getD c default).length=0 then _ else _)=_
 rw [if_pos hl]
theorem mk4 (h:sk=4) (hl:(a.st.getD c default).length≠0):n7 rs a ⟨sk,sq,(c:Int),sv⟩=({a with st:=a.st.set c ((a.st.getD c default).take ((a.st.getD c default).length - 1))},(a.st.getD c default).getD ((a.st.getD c default).length - 1) default,true):=by
 subst h
 show (if (a.st.getD c default).length=0 then _ else _)=_
 rw [if_neg hl]
 rfl
theorem mk5 (h:sk=5):n7 rs a ⟨sk,sq,(c:Int),sv⟩=({a with ma:=a.ma.set c sv},-1,true):=by subst h;rfl
theorem mk6 (h:sk=6):n7 rs a ⟨sk,(q:Int),sc,sv⟩=({a with en:=a.en.set q (decide (sv=1))},-1,true):=by subst h;rfl
theorem a49 {l:List Int} {n:Int} (h:n.toNat=l.length - 1):(l.map l8).take n.toNat=(l.take (l.length - 1)).map l8:=by rw [h,List.map_take]
end
variable {a:Abs} {c:Nat} {rs:List Route} {sk sv:Int}
theorem b4Q {sq sc:Int} (h:noS rs a ⟨sk,sq,sc,sv⟩):sk=3∨sk=4:=by
 rcases h with ⟨h,_⟩ | ⟨h,_⟩
 ·exact .inl h
 ·exact .inr h
theorem c2G {sq:Int} (h:noS rs a ⟨sk,sq,(c:Int),sv⟩) (h3:sk=3):B1 rs a c < 0:=by
 rcases h with ⟨_,h⟩ | ⟨h,_⟩
 ·exact h
 ·have h':sk=4:=h
  omega
theorem c2H {sq:Int} (h:noS rs a ⟨sk,sq,(c:Int),sv⟩) (h4:sk=4):(a.st.getD c default).length=0:=by
 rcases h with ⟨h,_⟩ | ⟨_,h⟩
 ·have h':sk=3:=h
  omega
 ·exact h
section
variable {rs:List Route} {a:Abs} {s:MStep}
end
end Go.Rf
namespace Go.Rf
open Go
section
variable {k:Int} {xss:List (List Int)}
end
end Go.Rf
namespace Go.Rf
theorem a7H {a:Abs} (h1:a.en.length<=8) (h2:a.ra.length<=8) (h3:a.po.length<=8) (h4:a.ma.length<=2) (h5:a.st.length<=2) (h6:∀i,i < a.st.length→(a.st.getD i default).length<=5):SmallA a:=by
 have hl:lenN a.st a.st.length<=1048576:=by
  have:∀i,i<=a.st.length→lenN a.st i<=5 * i:=by
   intro i
   induction i with
   | zero=>intro _;exact Int.le_refl _
   | succ i ih=>intro hi;rw [a8O];have:=ih J;have:=h6 i J;omega
  grind
 exact ⟨by omega,by omega,by omega,by omega,by omega,λi hi=>Nat.le_trans (h6 i hi) (by decide),hl⟩
theorem c02 {xs:List (List Int)} {c n:Nat} {l:List Int} (h:∀i,i < xs.length→(xs.getD i default).length<=n) (hl:l.length<=n):∀i,i < (xs.set c l).length→((xs.set c l).getD i default).length<=n:=λi hi=>by
 grind
theorem b3Z:SmallA noA:=a7H (by decide) (by decide) (by decide) (by decide) (by decide) (λi hi=>by cases hi)
end Go.Rf
namespace Go.Rf
open Go
variable {f:Nat→Bool} {i n:Nat} {most:Bool}
structure Slot where
 s:Int
 q:Int
 p:Int
 deriving Inhabited,DecidableEq
variable {sl:List Slot} {x:Slot}
def f9 (x:Slot):List Value:=[.int .i64 x.s,.int .i64 x.q,.int .i64 x.p]
def a6x (x:Slot):Value:=.agg ⟨f9 x⟩
structure Wtr where
 q:Int
 p:Int
 deriving Inhabited,DecidableEq
variable {a b:Wtr}
def i5 (x:Wtr):List Value:=[.int .i64 x.q,.int .i64 x.p]
def a3W (x:Wtr):Value:=.agg ⟨i5 x⟩
structure Que where
 sl:List Slot
 wa:List Wtr
 deriving Inhabited,DecidableEq
structure Ifc where
 ma:Int
 st:List Int
 qu:Que
 deriving Inhabited,DecidableEq
structure Mach where
 rs:List Route
 en:List Bool
 ra:List Bool
 cp:List Ifc
 deriving Inhabited,DecidableEq
def zSl:Slot:=⟨0,0,0⟩
def wOf (x:Slot):Wtr:=⟨x.q,x.p⟩
def fdP (irq:Int) (x:Slot):Bool:=!(decide (x.s=0)) && decide (x.q=irq)
def n8 (sl:List Slot) (irq:Int):Int:=I0 (λi=>fdP irq (sl.getD i default)) sl.length
def emP (x:Slot):Bool:=decide (x.s=0)
def freS (sl:List Slot):Int:=I0 (λi=>emP (sl.getD i default)) sl.length
def a7I (x:Slot):Bool:=s1 x.s 1 3 && (s1 x.q 0 7 && s1 x.p 0 15)
def H2 (sl:List Slot) (i:Nat):Bool:=if (sl.getD i default).s=0 then decide (sl.getD i default=zSl) else a7I (sl.getD i default) && !(a0D i (λj=>fdP (sl.getD i default).q (sl.getD j default)))
def a4m (sl:List Slot):Bool:=decide (sl.length=4) && X7 sl.length (H2 sl)
def a4n (x y:Int):Int:=if x < y then -1 else if y < x then 1 else 0
def urg (a b:Wtr):Int:=if a4n a.p b.p=0 then a4n a.q b.q else a4n a.p b.p
def lessW (a b:Wtr):Bool:=decide (a.p < b.p) || (decide (a.p=b.p) && decide (a.q < b.q))
theorem Q3:lessW a b=true↔a.p < b.p∨(a.p=b.p/\a.q < b.q):=by simp [lessW]
theorem b4R:lessW a b=false↔¬ (a.p < b.p∨(a.p=b.p/\a.q < b.q)):=by rw [← Bool.not_eq_true,Q3]
theorem a0T:urg a b < 0↔lessW a b=true:=by
 grind [Q3,urg,a4n]
theorem b7b:0 < urg a b↔lessW b a=true:=by
 grind [Q3,urg,a4n]
theorem b1M (h:lessW a b=true):lessW b a=false:=by rw [Q3] at h;rw [b4R];omega
theorem L2 {c:Wtr} (h:lessW a b=true) (h':lessW b c=true):lessW a c=true:=by rw [Q3] at *;omega
theorem a0a (h:a.q≠b.q):lessW a b=!(lessW b a):=by
 grind [Q3]
def a2Z (sl:List Slot) (most:Bool) (b:Int) (i:Nat):Bool:=decide ((sl.getD i default).s=1) && (decide (b < 0) || (if most then lessW (wOf (sl.getD i default)) (wOf (sl.getD b.toNat default)) else lessW (wOf (sl.getD b.toNat default)) (wOf (sl.getD i default))))
def B2 (sl:List Slot) (most:Bool):Nat→Int
 | 0=>-1
 | i+1=>if a2Z sl most (B2 sl most i) i then (i:Int) else B2 sl most i
theorem a1B:B2 sl most (i+1)=if a2Z sl most (B2 sl most i) i then (i:Int) else B2 sl most i:=rfl
theorem a1d (h:a2Z sl most (B2 sl most i) i=true):B2 sl most (i+1)=(i:Int):=by rw [a1B,if_pos h]
theorem a1e (h:a2Z sl most (B2 sl most i) i=false):B2 sl most (i+1)=B2 sl most i:=by rw [a1B,if_neg (by rw [h];decide)]
theorem Z0 {sl:List Slot} {most:Bool}:∀i,-1<=B2 sl most i/\B2 sl most i < i
 | 0=>by simp [B2]
 | i+1=>by
  have:=@Z0 sl most i
  rw [a1B]
  split<;>omega
theorem a1C {sl:List Slot} {most:Bool}:∀i,0<=B2 sl most i→(sl.getD (B2 sl most i).toNat default).s=1
 | 0=>by simp [B2]
 | i+1=>by
  have ih:=@a1C sl most i
  rw [a1B]
  split
  ·grind [a2Z]
  ·exact ih
theorem a7J {sl:List Slot} {most:Bool}:∀i,B2 sl most i < 0↔∀j,j < i→(sl.getD j default).s≠1
 | 0=>by simp [B2]
 | i+1=>by
  have ih:=@a7J sl most i
  rw [a1B]
  constructor
  ·grind [a2Z]
  ·grind [a2Z]
def bstS (sl:List Slot) (most:Bool):Int:=B2 sl most sl.length
def b4S (sl:List Slot):Prop:=∀i j,i < j→j < sl.length→(sl.getD i default).s=1→(sl.getD j default).s=1→(sl.getD i default).q≠(sl.getD j default).q
theorem b7c (hd:b4S sl) (hi:i < sl.length) (h1:(sl.getD i default).s=1) (hb:0<=B2 sl most i):(if most then lessW (wOf (sl.getD i default)) (wOf (sl.getD (B2 sl most i).toNat default)) else lessW (wOf (sl.getD (B2 sl most i).toNat default)) (wOf (sl.getD i default)))=(decide (urg (wOf (sl.getD i default)) (wOf (sl.getD (B2 sl most i).toNat default)) < 0)==most):=by
 have hbl:=@Z0 sl most i
 have hne:=hd (B2 sl most i).toNat i J hi (a1C i hb) h1
 have hne':(wOf (sl.getD i default)).q≠(wOf (sl.getD (B2 sl most i).toNat default)).q:=λe=>hne e.symm
 have e:decide (urg (wOf (sl.getD i default)) (wOf (sl.getD (B2 sl most i).toNat default)) < 0)=lessW (wOf (sl.getD i default)) (wOf (sl.getD (B2 sl most i).toNat default)):=by
  rw [Bool.eq_iff_iff,decide_eq_true_iff];exact a0T
 rw [e]
 cases most
 ·grind [a0a]
 ·simp
theorem b0M:a4m sl=true↔sl.length=4/\∀i,i < 4→H2 sl i=true:=by
 grind [a4m,w4]
theorem a20:a7I x=true↔(1<=x.s/\x.s<=3)/\(0<=x.q/\x.q<=7)/\0<=x.p/\x.p<=15:=by simp only [a7I,Bool.and_eq_true,s7]
theorem a2c {irq:Int}:fdP irq x=true↔x.s≠0/\x.q=irq:=by simp [fdP]
theorem a1D:a0D n f=true↔∃i,i < n/\f i=true:=by
 grind [a0D,X7]
theorem R4:a0D n f=false↔∀i,i < n→f i=false:=by
 constructor
 ·intro h i hi
  cases hf:f i
  ·rfl
  ·rw [b1A hf hi] at h;cases h
 ·exact λh=>b1B h (Nat.le_refl _)
structure SlF (sl:List Slot):Prop where
 len:sl.length=4
 z:∀i,i < 4→(sl.getD i default).s=0→sl.getD i default=zSl
 ok:∀i,i < 4→(sl.getD i default).s≠0→(1<=(sl.getD i default).s/\(sl.getD i default).s<=3)/\(0<=(sl.getD i default).q/\(sl.getD i default).q<=7)/\0<=(sl.getD i default).p/\(sl.getD i default).p<=15
 dif:∀i j,i < j→j < 4→(sl.getD i default).s≠0→(sl.getD j default).s≠0→(sl.getD i default).q≠(sl.getD j default).q
theorem slF:a4m sl=true↔SlF sl:=by
 rw [b0M]
 constructor
 ·rintro ⟨h1,h2⟩
  refine ⟨h1,λi hi hz=>?_,λi hi hz=>?_,λi j hij hj hi0 hj0=>?_⟩
  ·grind [H2]
  ·grind [H2,a20]
  ·grind [H2,R4,a2c]
 ·rintro ⟨h1,h2,h3,h4⟩
  refine ⟨h1,λi hi=>?_⟩
  unfold H2
  split
  ·grind
  ·grind [R4,a20,a2c]
theorem SlF.difS (h:SlF sl):b4S sl:=λi j hij hj h1 h2=>h.dif i j hij (by rw [← h.len];exact hj) J J
theorem a8Q {sl:List Slot} {irq:Int}:(n8 sl irq=-1/\∀i,i < sl.length→fdP irq (sl.getD i default)=false)∨∃i:Nat,n8 sl irq=i/\i < sl.length/\(sl.getD i default).s≠0/\(sl.getD i default).q=irq:=by
 grind [n8,b2r,a1u,a2c]
theorem a8R {sl:List Slot}:(freS sl=-1/\∀i,i < sl.length→(sl.getD i default).s≠0)∨∃i:Nat,freS sl=i/\i < sl.length/\(sl.getD i default).s=0:=by
 grind [freS,b2r,emP,a1u]
theorem b0N (hi:i < sl.length) (h0:(sl.getD i default).s≠0):n8 sl (sl.getD i default).q=i↔a0D i (λj=>fdP (sl.getD i default).q (sl.getD j default))=false:=by
 grind [a1u,n8,R4,L1,a2c]
end Go.Rf
namespace Go.Rf
open Go Go.RowKit
section
variable {P:Program} [Env P] {w0:Base} {ops:Array Oper} {tb:List (Nat×TyI)} {o:Oper} {rest:List Oper} {T:List (Nat×AV)} {m m':List (Nat×Option Row)} {nx nt d:Nat} {Q:Exit→St→Prop} {c:Code} {r:AV}
theorem Gh.tl {id e sz:Nat} {ys:List (List Value)} {f:Bool} (hm:mem m id=some (.row e sz ys f)):Gh w0 ⟨T,m,nx,nt⟩ ⟨T,(id,some (.row e sz ys true)) :: m,nx,nt⟩:=by
 intro ρ a w hT hC
 obtain ⟨h1,h2⟩:=hC.rowF hm
 exact ⟨ρ,hT,hC.retell hm (row':=.row e sz ys true) ⟨h1.gen,h2⟩ λp b hb=>by cases hb⟩
theorem b7d {t e e' sz by_ id:Nat} {zs:List Value} {ys:List (List Value)} {f:Bool} {x lo:Operand} {k:IntKind} {l:Int} (G:Good P tb) (nx':Nat) (hn':Nat.beq nx' (Nat.succ nx)=true) (hd:o.dst=some d) (hlt:Nat.blt d nt=true) (ho:o.op=.slice t x (some lo) none none) (ht:look t tb=some (.slice e sz by_ zs)) (hx:ev T x=some (.own id)) (hm:mem m id=some (.row e' sz ys f))
 (hl:ev T lo=some (.v (.int k l))) (h0:0<=l) (h1:l<=ys.length)
 (hk:WL P w0 ops rest ⟨(d,.own nx) :: T,(nx,some (.row e' sz (ys.drop l.toNat) true)) :: (id,none) :: m,nx',nt⟩ Q):WX P w0 ops o rest ⟨T,m,nx,nt⟩ Q:=by
 have hn'':=Nat.eq_of_beq_eq_true hn'
 subst hn''
 intro ρ a w hT hC
 have hxe:=hT.ev hx
 simp only [RelV] at hxe
 obtain ⟨hrow,hall⟩:=hC.rowF hm
 obtain ⟨A,cap,he,hcap⟩:=hrow.slice
 have hrun:=a67 (G t _ ht) hT (A:=A) (lo:=some lo) (hi:=none) (l:=l) (h:=ys.length) (n:=ys.length) (cap:=cap) (by simp only [a5U,hl]) (by simp [a5U]) h0 h1 (Int.le_refl _) hcap w
 have hr:(execOp a.eval o).run P w=.ok (.value (.slice (if cap=l.toNat then A else A.map (·.add (l.toNat * sz))) (ys.length - l.toNat) (cap - l.toNat))) w:=by
  simp only [Option.map_none,Option.map_some,Int.toNat_natCast] at hrun
  simp only [execOp,ho,hxe.2,he,Option.map_none,Option.map_some,hrun,Sem.run_bind,Result.andThen_ok,Sem.run_pure]
 unfold Oper.wp
 rw [hr,Oper.upon_value,hd]
 generalize hv:(Value.slice (if cap=l.toNat then A else A.map (·.add (l.toNat * sz))) (ys.length - l.toNat) (cap - l.toNat))=v
 have hdl:(ys.drop l.toNat).length=ys.length - l.toNat:=List.length_drop
 have hbk:∀b,blk v=some b→blk (ρ id)=some b:=by
  intro b hb
  rw [he]
  rw [← hv] at hb
  cases A with
  | none=>split at hb<;>simp [blk] at hb
  | some ad =>
   grind [blk,A2]
 have hown:TlR w w0.w.heap.size e' sz v (ys.drop l.toNat):=by
  rcases hrow.gen with ⟨g1,rfl⟩ | ⟨g,o',cap',cur,g1,g2,g3,g4,g5,g6⟩
  ·refine .inl ⟨?_,by simp⟩
   grind
  ·rw [he] at g1
   cases g1
   have hF:=j9 (λc hc=>(hall c hc).1)
   by_cases hc:cap=l.toNat
   ·have hz:ys.length - l.toNat=0:=by omega
    have hnil:ys.drop l.toNat=[]:=List.drop_eq_nil_of_le J
    rw [if_pos hc] at hv
    exact .inr ⟨g,o',cap - l.toNat,cur,by rw [← hv,hdl],g2,g3,by rw [hdl];omega,g5,by rw [hnil];simp⟩
   ·rw [if_neg hc] at hv
    have hcc:cur.toList.length=cur.size:=by simp
    have hlen0:((cur.toList.drop o').take (ys.length * sz)).length=ys.length * sz:=by rw [g6];exact hF
    have hle:l.toNat * sz<=ys.length * sz:=Nat.mul_le_mul_right _ J
    rw [List.length_take,List.length_drop,hcc] at hlen0
    refine .inr ⟨g,o'+l.toNat * sz,cap - l.toNat,cur,by rw [← hv,hdl];simp [Addr.add_lit],g2,g3,by rw [hdl];omega,by omega,?_⟩
    rw [hdl,Y9 (λc hc=>(hall c hc).1) J,← g6,Nat.sub_mul,List.drop_take,List.drop_drop]
 have hC2:RelC w0 ρ ((id,none) :: m) nx w:=hC.sub λi r hr=>by
  grind [i8,d1]
 refine hk (upd ρ nx v) _ _ ((hT.add v).put hlt (by simp only [RelV];exact ⟨by omega,(j4 _ _ _).symm⟩)) (hC2.addP (λ_=>Z) ?_ ?_ ?_)
 ·refine ⟨?_,λc hc=>hall c (List.mem_of_mem_drop hc)⟩
  rw [j4]
  exact hown
 ·intro i r hr b hb hy
  by_cases e:id=i
  ·subst e;rw [i8] at hr;cases hr
  ·rw [d1 e] at hr
   exact hC.foot_apart hr hm (Ne.symm e) hb (.inl (hbk b hy))
 ·intro b hb
  exact hC.kept.2.2 id _ hm b (hbk b hb)
end
variable {T:List (Nat×AV)} {a b c d e:Int} {f:FuncId} {m:List (Nat×Option Row)} {x:Operand} {xs:List Operand} {ys:List (List Value)} {z:Value}
theorem ArgOK.fn {nx:Nat} {av:AV} (h:ArgOK m nx av (.v (.func (.func f) #[] #[]))):ArgOK m nx av (.fnc f []):=λw0 ρ w y hC hy=>by
 have:=h w0 ρ w y hC hy
 simp only [RelV] at this ⊢
 exact ⟨[],this,by simp [RelVs]⟩
theorem ArgsOK.fn2 {nx:Nat} {a:AV} (h:ArgsOK T m nx xs [a,.v (.func (.func f) #[] #[])]):ArgsOK T m nx xs [a,.fnc f []]:=by
 match xs,h with
 | x :: xs,⟨av,_,_,e,h1,h2,h3⟩ =>
  cases e
  match xs,h3 with
  | y :: ys,⟨av',_,_,e',g1,g2,g3⟩ =>
   cases e'
   exact ⟨av,_,_,Z,h1,h2,av',_,_,Z,g1,g2.fn,g3⟩
theorem ec3 {f:Int}:E7 [.int .i64 a,.int .i64 b,.int .i64 c] [.int .i64 d,.int .i64 e,.int .i64 f]=true↔a=d/\b=e/\c=f:=by
 simp [E7,a1b]
theorem ec2:E7 [.int .i64 a,.int .i64 b] [.int .i64 d,.int .i64 e]=true↔a=d/\b=e:=by
 simp [E7,a1b]
theorem c4j {f:Int} (h:E7 [.int .i64 a,.int .i64 b,.int .i64 c] [.int .i64 d,.int .i64 e,.int .i64 f]=false):¬ (a=d/\b=e/\c=f):=λg=>by rw [ec3.mpr g] at h;cases h
theorem ArgOK.pin {nx:Nat} {sz:Nat}:ArgOK m nx (.pin z sz ys) (.pin z sz ys):=λw0 ρ w y hC hy=>by
 simp only [RelV] at hy ⊢
 exact ⟨hy.1,hy.2.later hC.below⟩
theorem ArgsOK.pin1 {nx:Nat} {sz:Nat} {as:List AV} (hx:ev T x=some (.pin z sz ys)) (h:ArgsOK T m nx (x :: xs) (.lst sz ys :: as)):ArgsOK T m nx (x :: xs) (.pin z sz ys :: as):=by
 obtain ⟨av,a,as',e,h1,h2,h3⟩:=h
 cases e
 exact ⟨_,_,_,Z,hx,ArgOK.pin,h3⟩
section
variable {w0:Base} {T:List (Nat×AV)} {m:List (Nat×Option Row)} {nx nt:Nat}
theorem Gh.asPin {d t:Nat} {z:Value} {sz:Nat} {ys:List (List Value)} (hd:look d T=some (.v z)) (ht:look t T=some (.pin z sz ys)):Gh w0 ⟨T,m,nx,nt⟩ ⟨(d,.pin z sz ys) :: T,m,nx,nt⟩:=by
 intro ρ a w hT hC
 refine ⟨ρ,⟨λi x hi=>?_,hT.size,hT.defers⟩,hC⟩
 by_cases e:d=i
 ·subst e
  rw [m9] at hi
  cases hi
  have h1:=hT.tmps d _ hd
  have h2:=hT.tmps t _ ht
  simp only [RelV] at h1 h2 ⊢
  grind
 ·rw [j5 e] at hi
  exact hT.tmps i x hi
end
end Go.Rf
namespace Go.Rf
open Go
variable {f:Nat→Bool} {i n:Nat}
def orI (l:List Int):Int:=if I0 (λi=>!decide (l.getD i default=0)) l.length=-1 then 0 else l.getD (I0 (λi=>!decide (l.getD i default=0)) l.length).toNat default
theorem b4T {l:List Int} (h:∀j,j < i→l.getD j default=0) (hi:i < l.length) (h0:¬ l.getD i default=0):orI l=l.getD i default:=by
 grind [orI,L1]
theorem b8f {l:List Int} {i:Nat} (h:∀j,j < i→l.getD j default=0) (hi:l.length<=i):orI l=0:=by
 grind [orI,V5]
theorem b7e {a b:Wtr}:orI [a4n a.p b.p,a4n a.q b.q]=urg a b:=by
 unfold urg
 by_cases h:a4n a.p b.p=0
 ·rw [if_pos h]
  by_cases h2:a4n a.q b.q=0
  ·have e:orI [a4n a.p b.p,a4n a.q b.q]=0:=b8f (i:=2) (λj hj=>by
    match j,hj with
    | 0,_=>exact h
    | 1,_=>exact h2) (by simp)
   rw [e];exact h2.symm
  ·exact b4T (i:=1) (λj hj=>by
    match j,hj with
    | 0,_=>exact h) (by simp) h2
 ·rw [if_neg h]
  exact b4T (i:=0) (λj hj=>by omega) (by simp) h
theorem a8S {g:Nat→Bool} (h:∀j,j < n→f j=g j):I0 f n=I0 g n:=by
 grind [a1u,L1]
theorem a1E {α:Type} [Inhabited α] {l:List α} {i j:Nat} (h:j < i):(l.take i).getD j default=l.getD j default:=by
 grind
theorem b4U {sl:List Slot} {q:Int} (hi:i<=sl.length):n8 (sl.take i) q=I0 (λj=>fdP q (sl.getD j default)) i:=by
 grind [n8,a8S]
theorem b1N:0<=I0 f n↔a0D n f=true:=by
 have:=a69 (f:=f) (n:=n)
 rw [← this];simp
theorem a7c:I0 f n < 0↔a0D n f=false:=by
 have:=a69 (f:=f) (n:=n)
 rw [← this];simp
theorem b1O {f:Nat→Bool} {n:Nat}:-1<=I0 f n/\I0 f n < n∨(I0 f n=-1):=by
 grind [a1u]
theorem a0l {sl:List Slot} {q:Int}:-1<=n8 sl q/\n8 sl q < sl.length:=by
 have:=@b1O (λi=>fdP q (sl.getD i default)) sl.length
 unfold n8
 omega
theorem b1P {sl:List Slot}:-1<=freS sl/\freS sl < sl.length:=by
 have:=@b1O (λi=>emP (sl.getD i default)) sl.length
 unfold freS
 omega
section
variable {sl:List Slot} {i:Nat}
theorem b8g (h0:(sl.getD i default).s=0) (h:sl.getD i default=zSl):H2 sl i=true:=by unfold H2;rw [if_pos h0];exact decide_eq_true h
theorem b4V (h0:(sl.getD i default).s=0) (h:¬ sl.getD i default=zSl):H2 sl i=false:=by unfold H2;rw [if_pos h0];exact decide_eq_false h
theorem b8h (h0:¬ (sl.getD i default).s=0) (h1:a7I (sl.getD i default)=true) (h2:a0D i (λj=>fdP (sl.getD i default).q (sl.getD j default))=false):H2 sl i=true:=by unfold H2;rw [if_neg h0,h1,h2];rfl
theorem b1Q (h0:¬ (sl.getD i default).s=0) (h1:a7I (sl.getD i default)=false):H2 sl i=false:=by unfold H2;rw [if_neg h0,h1];rfl
theorem b4W (h0:¬ (sl.getD i default).s=0) (h2:a0D i (λj=>fdP (sl.getD i default).q (sl.getD j default))=true):H2 sl i=false:=by unfold H2;rw [if_neg h0,h2,Bool.not_true,Bool.and_false]
theorem b1R (h:H2 sl i=false) (hi:i < sl.length):a4m sl=false:=by unfold a4m;rw [X8 h hi,Bool.and_false]
theorem b1S (h:sl.length≠4):a4m sl=false:=by unfold a4m;rw [decide_eq_false h,Bool.false_and]
theorem b4X (hl:sl.length=4) (h:∀j,j < i→H2 sl j=true) (hi:4<=i):a4m sl=true:=b0M.mpr ⟨hl,λj hj=>h j J⟩
theorem a7K {x:Slot}:x=zSl↔x.s=0/\x.q=0/\x.p=0:=by cases x;simp [zSl]
theorem b4Y (h1:¬ ((0<=(sl.getD i default).s/\(sl.getD i default).s<=3)/\(0<=(sl.getD i default).q/\(sl.getD i default).q<=7)/\0<=(sl.getD i default).p/\(sl.getD i default).p<=15)):H2 sl i=false:=by
 grind [H2,zSl,a20]
theorem b7f (hi:i < sl.length) (h1:(0<=(sl.getD i default).s/\(sl.getD i default).s<=3)/\(0<=(sl.getD i default).q/\(sl.getD i default).q<=7)/\0<=(sl.getD i default).p/\(sl.getD i default).p<=15)
 (h2:¬ ((sl.getD i default).s=0/\((sl.getD i default).q≠0∨(sl.getD i default).p≠0))) (h3:(sl.getD i default).s≠0→n8 sl (sl.getD i default).q=i):H2 sl i=true:=by
 grind [b8g,a7K,b8h,a20,b0N]
theorem b7g (h0:(sl.getD i default).s=0) (h:(sl.getD i default).q≠0∨(sl.getD i default).p≠0):H2 sl i=false:=b4V h0 (λe=>by rw [e] at h;simp [zSl] at h)
theorem b7h (hi:i < sl.length) (h0:(sl.getD i default).s≠0) (h:n8 sl (sl.getD i default).q≠i):H2 sl i=false:=b4W h0 (by
 rw [← Bool.not_eq_false];exact λg=>h ((b0N hi h0).mpr g))
end
end Go.Rf
namespace Go.Rf
variable {b:Int} {i:Nat} {sl:List Slot} {w:Wtr} {wa:List Wtr} {x:Slot}
theorem c03 (h:s1 x.s 1 3=false):a7I x=false:=by simp only [a7I,h,Bool.false_and]
theorem c04 (h:s1 x.q 0 7=false):a7I x=false:=by simp only [a7I,h,Bool.false_and,Bool.and_false]
theorem c05 (h:s1 x.p 0 15=false):a7I x=false:=by simp only [a7I,h,Bool.and_false]
theorem b4Z (h:∀j,j < i→H2 sl j=true) (hi:sl.length<=i):((sl.length:Int)==4)=a4m sl:=by
 by_cases hl:sl.length=4
 ·rw [b4X hl h J];simp [hl]
 ·rw [b1S hl]
  grind
section
variable {sl:List Slot} {most:Bool} {i:Nat}
theorem a3A (h:¬ (sl.getD i default).s=1):a2Z sl most b i=false:=by simp only [a2Z,decide_eq_false h,Bool.false_and]
theorem a3B (h:(sl.getD i default).s=1) (hb:b < 0):a2Z sl most b i=true:=by simp only [a2Z,decide_eq_true h,decide_eq_true hb,Bool.true_or,Bool.true_and]
theorem a9F (hd:b4S sl) (hi:i < sl.length) (h:(sl.getD i default).s=1) (hb:0<=B2 sl most i):a2Z sl most (B2 sl most i) i=(decide (urg (wOf (sl.getD i default)) (wOf (sl.getD (B2 sl most i).toNat default)) < 0)==most):=by
 grind [b7c,a2Z]
theorem a21 (h:(sl.getD i default).s=1) (hb:¬ b < 0):a2Z sl most b i=(if most then lessW (wOf (sl.getD i default)) (wOf (sl.getD b.toNat default)) else lessW (wOf (sl.getD b.toNat default)) (wOf (sl.getD i default))):=by
 grind [a2Z]
theorem a2B {α:Type} {f:α→List Value} {l:List α} {i:Nat} {x:α}:(l.map f).set i (f x)=(l.set i x).map f:=by rw [List.map_set]
end
def b1T (wa:List Wtr) (w:Wtr):Nat:=(wa.takeWhile (λx=>lessW x w)).length
theorem b7i (h:∀j,j < i→lessW (wa.getD j default) w=true) (hi:i<=wa.length) (he:i=wa.length∨(i < wa.length/\lessW (wa.getD i default) w=false)):b1T wa w=i:=by
 unfold b1T
 induction wa generalizing i with
 | nil=>simp at hi;simp [hi]
 | cons x wa ih =>
  cases i with
  | zero =>
   simp_all
  | succ i =>
   have h0:lessW x w=true:=h 0 J
   rw [List.takeWhile_cons,if_pos h0,List.length_cons]
   grind
theorem b7j {wa:List Wtr} {w:Wtr}:b1T wa w<=wa.length:=(List.takeWhile_sublist _).length_le
def insW (wa:List Wtr) (w:Wtr):List Wtr:=wa.take (b1T wa w)++[w]++wa.drop (b1T wa w)
theorem a5a:(insW wa w).length=wa.length+1:=by
 have:=@b7j wa w
 simp [insW];omega
theorem a5b {wa:List Wtr} {w:Wtr} {i:Nat} (h:∀j,j < i→lessW (wa.getD j default) w=true) (hi:i<=wa.length) (he:i=wa.length∨(i < wa.length/\lessW (wa.getD i default) w=false)):insW wa w=wa.take i++[w]++wa.drop i:=by
 unfold insW
 rw [b7i h hi he]
def inW (wa:List Wtr) (q:Int):Int:=I0 (λj=>decide ((wa.getD j default).q=q)) wa.length
theorem c06 {wa:List Wtr} {q:Int}:-1<=inW wa q/\inW wa q < wa.length:=by
 have:=@b1O (λj=>decide ((wa.getD j default).q=q)) wa.length
 unfold inW
 omega
theorem b40 {q:Int} (hi:i<=wa.length):inW (wa.take i) q=I0 (λj=>decide ((wa.getD j default).q=q)) i:=by
 grind [inW,a8S]
def setd (q:Que):Bool:=decide (q.wa.length=0) || (decide (freS q.sl < 0) && (decide (bstS q.sl false < 0) || lessW (wOf (q.sl.getD (bstS q.sl false).toNat default)) (q.wa.getD 0 default)))
def oneWa (sl:List Slot) (wa:List Wtr) (i:Nat):Bool:=s1 (wa.getD i default).q 0 7 && (s1 (wa.getD i default).p 0 15 && (decide (n8 sl (wa.getD i default).q < 0) && (!(a0D i (λj=>decide ((wa.getD j default).q=(wa.getD i default).q))) && (decide (i=0) || lessW (wa.getD (i - 1) default) (wa.getD i default)))))
def b7k (sl:List Slot) (wa:List Wtr):Bool:=X7 wa.length (oneWa sl wa)
def a6L (q:Que):Bool:=a4m q.sl && b7k q.sl q.wa
def a8m (q:Que):Bool:=a6L q && setd q
theorem N1:oneWa sl wa i=true↔(0<=(wa.getD i default).q/\(wa.getD i default).q<=7)/\(0<=(wa.getD i default).p/\(wa.getD i default).p<=15)/\n8 sl (wa.getD i default).q < 0/\(∀j,j < i→(wa.getD j default).q≠(wa.getD i default).q)/\(i=0∨lessW (wa.getD (i - 1) default) (wa.getD i default)=true):=by
 grind [oneWa,s7,R4]
theorem b2E (h:¬ ((0<=(wa.getD i default).q/\(wa.getD i default).q<=7)/\(0<=(wa.getD i default).p/\(wa.getD i default).p<=15)/\n8 sl (wa.getD i default).q < 0/\(∀j,j < i→(wa.getD j default).q≠(wa.getD i default).q)/\(i=0∨lessW (wa.getD (i - 1) default) (wa.getD i default)=true))):oneWa sl wa i=false:=by
 rw [← Bool.not_eq_true,N1];exact h
theorem b41 {q:Que} (h:a4m q.sl=false):a6L q=false:=by unfold a6L;rw [h,Bool.false_and]
theorem b42 {q:Que} {i:Nat} (h:oneWa q.sl q.wa i=false) (hi:i < q.wa.length):a6L q=false:=by unfold a6L b7k;rw [X8 h hi,Bool.and_false]
theorem b43 {q:Que} {i:Nat} (h1:a4m q.sl=true) (h:∀j,j < i→oneWa q.sl q.wa j=true) (hi:q.wa.length<=i):a6L q=true:=by unfold a6L b7k;rw [h1,a1a h hi];rfl
theorem b1U:∀(n:Nat) (f:Nat→Int) (k:Nat),(∀i,i < n→0<=f i/\f i < k)→(∀i j,i < j→j < n→f i≠f j)→n<=k
 | n,f,0,h,_=>by
  rcases Nat.eq_zero_or_pos n with h0 | h0
  ·omega
  ·have:=h 0 h0;omega
 | n,f,k+1,h,hd=>by
  by_cases hx:∃i,i < n/\f i=k
  ·obtain ⟨i,hi,hk⟩:=hx
   have:=b1U (n - 1) (λj=>if j < i then f j else f (j+1)) k (λj hj=>by
    split
    ·next hlt=>have:=h j J;have:=hd j i hlt hi;omega
    ·next hge=>have:=h (j+1) J;have:=hd i (j+1) J J;omega) (λa b hab hb=>by
    split
    ·next h1 =>
     split
     ·exact hd a b hab J
     ·exact hd a (b+1) J J
    ·next h1 =>
     rw [if_neg J]
     exact hd (a+1) (b+1) J J)
   omega
  ·have:=b1U n f k (λi hi=>by
    have h1:=h i hi
    have h2:f i≠k:=λe=>hx ⟨i,hi,e⟩
    omega) hd
   omega
theorem a9G {n:Nat} (h:∀j,j < n→oneWa sl wa j=true):n<=8 :=
 b1U n (λi=>(wa.getD i default).q) 8 (λi hi=>by have:=(N1.mp (h i hi)).1;omega) (λi j hij hj=>(N1.mp (h j hj)).2.2.2.1 i hij)
structure PaF (q:Que):Prop where
 sl:SlF q.sl
 wn:q.wa.length<=8
 wa:∀i,i < q.wa.length→oneWa q.sl q.wa i=true
theorem paF {q:Que}:a6L q=true↔PaF q:=by
 unfold a6L b7k
 rw [Bool.and_eq_true,w4]
 exact ⟨λh=>⟨slF.mp h.1,a9G h.2,h.2⟩,λh=>⟨slF.mpr h.sl,h.wa⟩⟩
theorem a7L (w:Wtr):∀u∈i5 w,u.oneCell'=true:=by intro u hu;simp [i5] at hu;rcases hu with rfl | rfl<;>rfl
theorem a7M {α:Type} {xs:List α} {f:α→List Value}:((xs.map f).drop ((i:Int)).toNat).take (((xs.map f).length:Int).toNat - ((i:Int)).toNat)=(xs.drop i).map f:=by
 rw [Int.toNat_natCast,Int.toNat_natCast,List.take_of_length_le (by rw [List.length_drop];exact Nat.le_refl _),List.map_drop]
theorem a9H {q:Que} (h:q.wa.length=0):setd q=true:=by unfold setd;rw [decide_eq_true h,Bool.true_or]
theorem b1V {q:Que} (h:¬ q.wa.length=0) (h2:0<=freS q.sl):setd q=false:=by unfold setd;rw [decide_eq_false h,decide_eq_false J];rfl
theorem b1W {q:Que} (h2:freS q.sl < 0) (h3:bstS q.sl false < 0):setd q=true:=by unfold setd;rw [decide_eq_true h2,decide_eq_true h3];simp
theorem a9I {q:Que} (h:¬ q.wa.length=0) (h2:freS q.sl < 0) (h3:¬ bstS q.sl false < 0):setd q=lessW (wOf (q.sl.getD (bstS q.sl false).toNat default)) (q.wa.getD 0 default):=by unfold setd;rw [decide_eq_false h,decide_eq_true h2,decide_eq_false h3];simp
theorem Z1 {sl:List Slot} {most:Bool}:-1<=bstS sl most/\bstS sl most < sl.length:=Z0 _
theorem a9J {most:Bool} (h:sl.length=i):B2 sl most i=bstS sl most:=by subst h;rfl
theorem b44 (hs:a4m sl=true) (h:∀j,j < i→oneWa sl wa j=true) (hi:wa.length<=i∨8 < i) (hn:i<=wa.length):decide ((wa.length:Int)<=8)=a6L ⟨sl,wa⟩:=by
 have h8:=a9G h
 rw [b43 (q:=⟨sl,wa⟩) hs h (show wa.length<=i by omega)]
 simp;omega
end Go.Rf
