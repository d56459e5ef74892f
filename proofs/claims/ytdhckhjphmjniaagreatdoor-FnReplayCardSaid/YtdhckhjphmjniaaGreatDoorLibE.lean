/- Texts merged into one: RfNZ, RfCJ, RfMR, RfCD, RfCE, Rf7, RfCF, RfDA, RfDE, RfNW, RfDK, RfCI, RfXE, RfLA, RfLB, RfCG, RfMS, RfMT, RfLC, RfNI, RfSR. -/
import Derived.Test.YtdhckhjphmjniaaGreatDoorLibD
import Derived.Lib.ConvBytes
import Derived.KernelRfl
set_option linter.unusedSectionVars false
set_option linter.unusedSimpArgs false
set_option linter.unusedVariables false
namespace Go.Rf
open Go Go.RowKit
section
variable {P:Program} [Env P] {w0:Base} {ops:Array Oper} {tb:List (Nat×TyI)} {o:Oper} {rest:List Oper} {T:List (Nat×AV)} {m:List (Nat×Option Row)} {nx nt d:Nat} {Q:Exit→St→Prop}
theorem c2W [EnvAt P w0] {f:FuncId} {fn:Func} {c:Code} {as:Array Operand} {ts:Array TypeId} {args:List AV} {n:Nat} (hd:o.dst=some d) (hlt:Nat.blt d nt=true) (ho:o.op=.call { callee:=.value (.func f),args:=as,argTypes:=ts })
 (hf:P.funcs[f]?=some fn) (hb:fn.body=some c) (hname:(fn.name == "runtime.NumGoroutine")=false) (hl:fn.results=#[]) (hn:fn.ntmps=n) (hlen:Nat.ble args.length n=true) (ha:evL T as.toList []=some args)
 (h:∃m1 n1,(∀b:Base,[EnvAt P b]→b.n0=nx→W P b c ⟨a6m args 0,m,nx,n⟩ (c9p m1 n1))/\Nat.ble nx n1=true/\WL P w0 ops rest ⟨(d,.tup []) :: T,m1,n1,nt⟩ Q):WX P w0 ops o rest ⟨T,m,nx,nt⟩ Q:=by
 obtain ⟨m1,n1,h1,h2,h3⟩:=h
 exact c7j m1 n1 hd hlt ho hf hb hname hl hn hlen ha h2 h1 h3
end
variable {B b e eS eW:Nat} {P:Program} {a:List CI} {c:CI} {r r':RC} {w:World} {x yss yss':List (List CI)} {y:Value} {ys:List (List Value)} {ρ:Nat→Value}
def CILe (c c':CI):Prop:=c=c'∨∃e sz ys f,c=.l e sz ys f/\c'=.l e sz ys true
def FlR (a b:List CI):Prop:=a.length=b.length/\∀(k:Nat) (c':CI),b[k]?=some c'→∃c,a[k]?=some c/\CILe c c'
def FlLe (x y:List (List CI)):Prop:=x.length=y.length/\∀(i:Nat) (b:List CI),y[i]?=some b→∃a,x[i]?=some a/\FlR a b
theorem FlR.nil:FlR [] []:=⟨Z,λk c' h=>by simp at h⟩
theorem FlR.cons {c':CI} {b:List CI} (h:CILe c c') (hr:FlR a b):FlR (c :: a) (c' :: b):=⟨by simp [hr.1],λk d hd=>by
 match k with
 | 0=>exact ⟨c,Z,by simp at hd;subst hd;exact h⟩
 | k+1=>exact hr.2 k d (by simpa using hd)⟩
theorem FlR.rfl':FlR a a:=⟨Z,λk c h=>⟨c,h,.inl Z⟩⟩
theorem CILe.s:CILe c c:=.inl Z
theorem CILe.t {sz:Nat} {f:Bool}:CILe (.l e sz ys f) (.l e sz ys true):=.inr ⟨e,sz,ys,f,Z,Z⟩
theorem FlLe.refl:FlLe x x:=⟨Z,λi b h=>⟨b,h,FlR.rfl'⟩⟩
theorem FlLe.map {α:Type} {f g:α→List CI} {xs:List α} (h:∀x,FlR (f x) (g x)):FlLe (xs.map f) (xs.map g):=⟨by simp,λi b hb=>by
 rw [List.getElem?_map] at hb
 obtain ⟨x,hx,rfl⟩:=Option.map_eq_some_iff.1 hb
 exact ⟨f x,by rw [List.getElem?_map,hx];rfl,h x⟩⟩
theorem FlLe.set {y:List (List CI)} {b:List CI} {i:Nat} (h:FlLe x y) (hr:FlR a b):FlLe (x.set i a) (y.set i b):=⟨by simp [h.1],λj c hc=>by
 by_cases e:i=j
 ·subst e
  have hl:i < y.length:=by
   grind
  rw [List.getElem?_set_self (by simpa using hl)] at hc
  cases hc
  exact ⟨a,by rw [List.getElem?_set_self (by rw [h.1];exact hl)],hr⟩
 ·rw [List.getElem?_set_ne e] at hc ⊢
  exact h.2 j c hc⟩
theorem FlLe.trans {y z:List (List CI)} (h:FlLe x y) (h':FlLe y z):FlLe x z:=⟨h.1.trans h'.1,λi b hb=>by
 obtain ⟨a,ha,hr⟩:=h'.2 i b hb
 obtain ⟨a2,ha2,hr2⟩:=h.2 i a ha
 refine ⟨a2,ha2,hr2.1.trans hr.1,λk c hc=>?_⟩
 obtain ⟨d,hd,hd'⟩:=hr.2 k c hc
 obtain ⟨d2,hd2,hd2'⟩:=hr2.2 k d hd
 refine ⟨d2,hd2,?_⟩
 rcases hd2' with rfl | ⟨e,sz,ys,f,rfl,rfl⟩
 ·exact hd'
 ·rcases hd' with rfl | ⟨e2,sz2,ys2,f2,q1,rfl⟩
  ·exact .inr ⟨e,sz,ys,f,Z,Z⟩
  ·cases q1;exact .inr ⟨e,sz,ys,f,Z,Z⟩⟩
theorem FlLe.nget {y:List (List CI)} (h:FlLe x y) {i k:Nat} {c':CI} (hc:D8 y i k=some c'):∃c,D8 x i k=some c/\CILe c c':=by
 simp only [Go.Rf.D8] at hc ⊢
 cases hb:y[i]? with
 | none=>rw [hb] at hc;cases hc
 | some b =>
  rw [hb] at hc
  obtain ⟨a,ha,hr⟩:=h.2 i b hb
  obtain ⟨c,h1,h2⟩:=hr.2 k c' hc
  grind
section
variable {w0:Base} {T:List (Nat×AV)} {m:List (Nat×Option Row)} {nx nt:Nat}
theorem Gh.nestF {id e sz:Nat} {yss:List (List CI)} (yss':List (List CI)) (hm:mem m id=some (.nest e sz yss [])) (h:FlLe yss yss'):Gh w0 ⟨T,m,nx,nt⟩ ⟨T,(id,some (.nest e sz yss' [])) :: m,nx,nt⟩:=by
 intro ρ a w hT hC
 obtain ⟨hlt,cells,hN,hop⟩:=hC.nestC hm
 obtain ⟨n1,n2,n3,n4,n5⟩:=hN
 refine ⟨ρ,hT,hC.retell hm (row':=.nest e sz yss' []) ⟨cells,⟨by rw [← h.1];exact n1,by rw [← h.1];exact n2,n3,λcs hcs=>?_,λi k c hc=>?_⟩,λq hq=>by cases hq⟩ λp b hb=>?_⟩
 ·obtain ⟨i,hi,rfl⟩:=List.getElem_of_mem hcs
  obtain ⟨a',ha,hr⟩:=h.2 i _ (List.getElem?_eq_getElem hi)
  rw [← hr.1]
  grind
 ·obtain ⟨d,hd,hle⟩:=h.nget hc
  obtain ⟨u,hu,hr⟩:=n5 i k d hd
  refine ⟨u,hu,?_⟩
  rcases hle with rfl | ⟨e1,sz1,ys,f,rfl,rfl⟩
  ·exact hr
  ·exact ⟨OwnR.gen hr.1,hr.2⟩
 ·have hb:B5 w (ρ id) sz yss' p=some b:=hb
  show B5 w (ρ id) sz yss p=some b
  unfold B5 at hb ⊢
  cases hc:Go.Rf.D8 yss' p.1 p.2 with
  | none=>rw [hc] at hb;cases hb
  | some c =>
   rw [hc] at hb
   obtain ⟨d,hd,hle⟩:=h.nget hc
   rw [hd]
   rcases hle with rfl | ⟨e1,sz1,ys,f,rfl,rfl⟩
   ·exact hb
   ·exact hb
end
section
variable {w0:Base} {T:List (Nat×AV)} {m:List (Nat×Option Row)} {nx nt:Nat}
end
theorem Ctr.argsTo [Env P] {f:FuncId} {args args':List AV} {res:Res} (h:Ctr P f args res) (ha:∀w vs,RelVs w noRho 0 args' vs→RelVs w noRho 0 args vs):Ctr P f args' res:=⟨h.callable,λw vs he hv=>h.calls w vs he (ha w vs hv)⟩
theorem NReadsAt.fl {sz:Nat} (hf:FlLe yss yss') (h:NReadsAt w sz yss' y):NReadsAt w sz yss y:=by
 obtain ⟨A,cap,he,hc,hl,hr⟩:=h
 refine ⟨A,cap,by rw [he,hf.1],by rw [hf.1];exact hc,λcs hcs=>?_,λh0=>?_⟩
 ·obtain ⟨i,hi,rfl⟩:=List.getElem_of_mem hcs
  have hi':i < yss'.length:=by rw [← hf.1];exact hi
  obtain ⟨a,ha,hr⟩:=hf.2 i _ (List.getElem?_eq_getElem hi')
  rw [List.getElem?_eq_getElem hi] at ha
  cases ha
  rw [hr.1]
  grind
 ·obtain ⟨ad,h1,h2,h3⟩:=hr (by rw [← hf.1];exact h0)
  refine ⟨ad,h1,h2,λi k c hc=>?_⟩
  have:∃c',Go.Rf.D8 yss' i k=some c'/\CILe c c':=by
   simp only [Go.Rf.D8] at hc ⊢
   cases hb:yss[i]? with
   | none=>rw [hb] at hc;cases hc
   | some b =>
    rw [hb] at hc
    have hi:i < yss'.length:=by rw [← hf.1];exact (List.getElem?_eq_some_iff.1 hb).1
    obtain ⟨a,ha,hr⟩:=hf.2 i _ (List.getElem?_eq_getElem hi)
    rw [hb] at ha
    cases ha
    have hc:b[k]?=some c:=hc
    have hk:k < (yss'[i]).length:=by rw [← hr.1];exact (List.getElem?_eq_some_iff.1 hc).1
    obtain ⟨c2,h1,h2⟩:=hr.2 k _ (List.getElem?_eq_getElem hk)
    grind
  obtain ⟨c',hc',hle⟩:=this
  obtain ⟨u,q1,q2,q3⟩:=h3 i k c' hc'
  refine ⟨u,q1,q2,?_⟩
  rcases hle with rfl | ⟨e1,sz1,ys,f,rfl,rfl⟩
  ·exact q3
  ·exact q3
def a1T (eS eW:Nat) (x:Ifc):List CI:=[.v (.int .i64 x.ma),.l 3 1 (x.st.map s3),.l eS 3 (x.qu.sl.map j4),.l eW 2 (x.qu.wa.map j8) true]
theorem flI (x:Ifc):FlR (s2 eS eW x) (a1T eS eW x):=.cons .s (.cons .s (.cons .s (.cons .t .nil)))
theorem flM {xs:List Ifc}:FlLe (xs.map (s2 eS eW)) (xs.map (a1T eS eW)):=FlLe.map flI
theorem c9q {nx:Nat} {a b c:AV} {rest:List AV} (hf:FlLe yss yss'):∀vs,RelVs w ρ nx (.agg [a,b,c,.nst none 4 yss'] :: rest) vs→RelVs w ρ nx (.agg [a,b,c,.nst none 4 yss] :: rest) vs:=by
 intro vs h
 simp only [RelVs,RelV] at h ⊢
 obtain ⟨y,ys',rfl,⟨zs,rfl,y0,t0,rfl,h0,y1,t1,rfl,h1,y2,t2,rfl,h2,y3,t3,rfl,⟨h3,h4⟩,rfl⟩,hr⟩:=h
 exact ⟨_,_,Z,⟨_,Z,_,_,Z,h0,_,_,Z,h1,_,_,Z,h2,_,_,Z,⟨by simp,NReadsAt.fl hf h4⟩,Z⟩,hr⟩
theorem a0X {α:Type} [Inhabited α] {xs:List α} {f:α→List CI} {i:Nat} {c c':List CI} (hi:i < xs.length) (hc:c'=f (xs.getD i default)):((xs.map f).set i c).set i c'=xs.map f:=by
 subst hc
 rw [List.set_set]
 apply List.ext_getElem?
 grind
section
variable {P:Program} [Env P] {w0:Base} {ops:Array Oper} {tb:List (Nat×TyI)} {o:Oper} {rest:List Oper} {T:List (Nat×AV)} {m:List (Nat×Option Row)} {nx nt d:Nat} {Q:Exit→St→Prop} {c:Code}
theorem c2X {t sz:Nat} (ht:look t T=some (.lst sz ys)) (h:∀y,WL P w0 ops rest ⟨(t,.pin y sz ys) :: T,m,nx,nt⟩ Q):WL P w0 ops rest ⟨T,m,nx,nt⟩ Q:=by
 intro ρ a w hT hC
 have h1:=hT.tmps t _ ht
 simp only [RelV] at h1
 refine h (a.tmps.getD t undef) ρ a w ⟨λi x hi=>?_,hT.size,hT.defers⟩ hC
 by_cases e:i=t
 ·grind [r9,RelV]
 ·rw [l5 (λe'=>e e'.symm)] at hi
  exact hT.tmps i x hi
theorem b09 {w0:World} {u:Nat→Value}:∀{cs:List AV} {us:List Value} {k:Nat} {acc rs:List AV} {acc':List Value},a7m cs u k acc=some rs→RelVs w0 ρ nx cs us→(∀j y,us[j]?=some y→(∃A l c,y=.slice A l c)→u (k+j)=y)→RelVs w0 ρ nx acc.reverse acc'→RelVs w0 ρ nx rs (acc'++us)
 | [],us,k,acc,rs,acc',h,hr,_,ha=>by
  simp [a7m,H9] at h
  simp only [RelVs] at hr
  subst h;subst hr
  simpa using ha
 | x :: cs,_,k,acc,rs,acc',h,hr,hu,ha=>by
  simp only [RelVs] at hr
  obtain ⟨y,us,rfl,h1,h2⟩:=hr
  have h0:(∃A l c,y=.slice A l c)→u k=y:=λhs=>by simpa using hu 0 y Z hs
  have key:∀(a:AV),RelV w0 ρ nx a y→a7m cs u (Nat.succ k) (a :: acc)=some rs→RelVs w0 ρ nx rs (acc'++y :: us):=λa hy h'=>by
   have:=b09 h' h2 (λj y hj=>by rw [show Nat.succ k+j=k+(j+1) by omega];exact hu (j+1) y (by simpa using hj)) (acc':=acc'++[y]) (by
    rw [List.reverse_cons]
    refine RelVs.append _ ha ?_
    simp only [RelVs]
    exact ⟨_,_,Z,hy,Z⟩)
   simpa using this
  cases x<;>simp only [a7m] at h
  case lst sz ys=>exact key _ (by simp only [RelV] at h1 ⊢;obtain ⟨A,c,e,_⟩:=id h1;exact ⟨(h0 ⟨_,_,_,e⟩).symm,h1⟩) h
  case nst z sz ys=>exact key _ (by simp only [RelV] at h1 ⊢;obtain ⟨_,A,c,e,_⟩:=id h1;exact ⟨λv hv=>by cases hv;exact (h0 ⟨_,_,_,e⟩).symm,h1.2⟩) h
  all_goals exact key _ h1 h
theorem c7k (t:Nat) {cs:List AV} (ht:look t T=some (.agg cs)) {rs:(Nat→Value)→List AV} (hr:∀u,a7m cs u 0 []=some (rs u)) (h:∀u:Nat→Option Addr×Nat×Nat,W P w0 c ⟨(t,.agg (rs λj=>.slice (u j).1 (u j).2.1 (u j).2.2)) :: T,m,nx,nt⟩ Q):W P w0 c ⟨T,m,nx,nt⟩ Q:=by
 intro ρ a w hT hC
 have h1:=hT.tmps t _ ht
 simp only [RelV] at h1
 obtain ⟨us,he,h1⟩:=h1
 let p:Value→Option Addr×Nat×Nat:=λv=>match v with
  | .slice A l c=>(A,l,c)
  | _=>(none,0,0)
 let u:Nat→Option Addr×Nat×Nat:=λi=>p (us.getD i undef)
 refine h u ρ a w ⟨λi x hi=>?_,hT.size,hT.defers⟩ hC
 by_cases e:i=t
 ·subst e
  rw [r9] at hi
  cases hi
  simp only [RelV]
  have key:∀j y,us[j]?=some y→(∃A l c,y=.slice A l c)→(λj=>Value.slice (u j).1 (u j).2.1 (u j).2.2) (0+j)=y:=λj y hj hs=>by
   grind
  have:=b09 (acc':=[]) (hr λj=>.slice (u j).1 (u j).2.1 (u j).2.2) h1 key (by simp [RelVs])
  grind
 ·rw [l5 (λe'=>e e'.symm)] at hi
  exact hT.tmps i x hi
end
def a8Q (x:Ifc):List CI:=[.x,.x,.x,.x]
section
variable {w0:Base} {T:List (Nat×AV)} {m:List (Nat×Option Row)} {nx nt:Nat}
theorem Gh.nestX {id e:Nat} {yss:List (List CI)} (xs:List Ifc) (hm:mem m id=some (.nest e 4 yss [])) (h:yss.length=xs.length):Gh w0 ⟨T,m,nx,nt⟩ ⟨T,(id,some (.nest e 4 (xs.map a8Q) [])) :: m,nx,nt⟩:=by
 intro ρ a w hT hC
 obtain ⟨hlt,cells,hN,hop⟩:=hC.nestC hm
 obtain ⟨n1,n2,n3,n4,n5⟩:=hN
 have hx:∀{i k:Nat} {c:CI},D8 (xs.map a8Q) i k=some c→c=.x/\i < xs.length/\k < 4:=λ{i k c} hc=>by
  simp only [D8,List.getElem?_map] at hc
  cases hi:xs[i]? with
  | none=>rw [hi] at hc;cases hc
  | some x =>
   grind [a8Q]
 refine ⟨ρ,hT,hC.retell hm (row':=.nest e 4 (xs.map a8Q) []) ⟨cells,⟨by rw [List.length_map,← h];exact n1,by rw [List.length_map,← h];exact n2,n3,λcs hcs=>?_,λi k c hc=>?_⟩,λq hq=>by cases hq⟩ λp b hb=>?_⟩
 ·obtain ⟨x,_,rfl⟩:=List.mem_map.1 hcs;rfl
 ·obtain ⟨rfl,hi,hk⟩:=hx hc
  have hi':i < cells.length:=by rw [n2,h];exact hi
  have hk':k < (cells[i]).length:=by rw [(n3 _ (List.getElem_mem hi')).1];exact hk
  exact ⟨(cells[i])[k],by simp only [D8,List.getElem?_eq_getElem hi'];exact List.getElem?_eq_getElem hk',trivial⟩
 ·have hb:B5 w (ρ id) 4 (xs.map a8Q) p=some b:=hb
  exfalso
  unfold B5 at hb
  grind
end
theorem b1a {sz:Nat} {p:Nat×Nat} (h:FlLe yss yss') (hb:B5 w y sz yss' p=some b):B5 w y sz yss p=some b:=by
 unfold B5 at hb ⊢
 cases hc:Go.Rf.D8 yss' p.1 p.2 with
 | none=>rw [hc] at hb;cases hb
 | some c =>
  rw [hc] at hb
  obtain ⟨d,hd,hle⟩:=h.nget hc
  rw [hd]
  rcases hle with rfl | ⟨e1,sz1,ys,f,rfl,rfl⟩
  ·exact hb
  ·exact hb
theorem NestR.fl {sz:Nat} (h:FlLe yss yss') (hn:NestR B w y e sz yss):NestR B w y e sz yss':=by
 obtain ⟨cells,⟨n1,n2,n3,n4,n5⟩,hi⟩:=hn
 refine ⟨cells,⟨by rw [← h.1];exact n1,by rw [← h.1];exact n2,n3,λcs hcs=>?_,λi k c hc=>?_⟩,λp b hb=>?_⟩
 ·obtain ⟨i,hi,rfl⟩:=List.getElem_of_mem hcs
  obtain ⟨a',ha,hr⟩:=h.2 i _ (List.getElem?_eq_getElem hi)
  rw [← hr.1]
  grind
 ·obtain ⟨d,hd,hle⟩:=h.nget hc
  obtain ⟨u,hu,hr⟩:=n5 i k d hd
  refine ⟨u,hu,?_⟩
  rcases hle with rfl | ⟨e1,sz1,ys,f,rfl,rfl⟩
  ·exact hr
  ·exact ⟨OwnR.gen hr.1,hr.2⟩
 ·obtain ⟨h1,h2⟩:=hi p b (b1a h hb)
  exact ⟨h1,λp' hp'=>h2 p' (b1a h hp')⟩
inductive RCLe:RC→RC→Prop
 | s {r:RC}:RCLe r r
 | n {e sz:Nat} {yss yss':List (List CI)} (h:FlLe yss yss'):RCLe (.ne e sz yss) (.ne e sz yss')
inductive RCsLe:List RC→List RC→Prop
 | nil:RCsLe [] []
 | cons {r r':RC} {a b:List RC} (h:RCLe r r') (hr:RCsLe a b):RCsLe (r :: a) (r' :: b)
theorem RCLe.rel (h:RCLe r r') (hr:RCRel B w r y):RCRel B w r' y:=by
 cases h with
 | s=>exact hr
 | n h=>exact NestR.fl h hr
theorem RCLe.foot (h:RCLe r r') (hr:a4s w r' y b):a4s w r y b:=by
 cases h with
 | s=>exact hr
 | n h =>
  simp only [a4s] at hr ⊢
  rcases hr with hr | ⟨p,hp⟩
  ·exact .inl hr
  ·exact .inr ⟨p,b1a h hp⟩
theorem RCsLe.foot:∀{r r':List RC} {ys:List Value},RCsLe r r'→a04 w r' ys b→a04 w r ys b
 | _,_,ys,.nil,hr=>by cases ys<;>simp [a04] at hr
 | _,_,[],.cons h hr,g=>by simp [a04] at g
 | _,_,y :: ys,.cons h hr,g=>by
  simp only [a04] at g ⊢
  rcases g with g | g
  ·exact .inl (h.foot g)
  ·exact .inr (RCsLe.foot hr g)
theorem RCsLe.rel:∀{r r':List RC} {ys:List Value},RCsLe r r'→RCRels B w r ys→RCRels B w r' ys
 | _,_,ys,.nil,h=>h
 | _,_,ys,.cons h hr,g=>by
  simp only [RCRels] at g ⊢
  obtain ⟨y,ys',rfl,h1,h2,h3⟩:=g
  exact ⟨y,ys',Z,h.rel h1,RCsLe.rel hr h2,λb hb hf=>h3 b (h.foot hb) (hr.foot hf)⟩
theorem Ctr.shpTo [Env P] {f:FuncId} {args:List AV} {sg:Bool} {sh:List (Option Nat)} {rs rs':List RC} (h:Ctr P f args (.shp sg sh rs)) (hr:RCsLe rs rs'):Ctr P f args (.shp sg sh rs') :=
 ⟨h.callable,λw vs he hv=>(h.calls w vs he hv).mono λe w' ⟨v,h1,h2,h3⟩=>⟨v,h1,by
  simp only [ResRel] at h2 ⊢
  obtain ⟨ys,vs,g1,g2,g3⟩:=h2
  exact ⟨ys,vs,hr.rel g1,g2,g3⟩,h3⟩⟩
end Go.Rf
namespace Go.Rf
open Go
variable {i:Nat} {m m':Mach} {r:ByteArray} {x:Ifc}
theorem c7l {w:World} {ρ:Nat→Value} {nx:Nat} {a b c d e f:AV} {yss yss':List (List CI)} {rest:List AV} (hf:FlLe yss yss'):∀vs,RelVs w ρ nx (.agg [a,b,c,.nst none 4 yss',d,e,f] :: rest) vs→RelVs w ρ nx (.agg [a,b,c,.nst none 4 yss,d,e,f] :: rest) vs:=by
 intro vs h
 simp only [RelVs,RelV] at h ⊢
 obtain ⟨y,ys',rfl,⟨zs,rfl,y0,t0,rfl,h0,y1,t1,rfl,h1,y2,t2,rfl,h2,y3,t3,rfl,⟨h3,h4⟩,y4,t4,rfl,h5,y5,t5,rfl,h6,y6,t6,rfl,h7,rfl⟩,hr⟩:=h
 exact ⟨_,_,Z,⟨_,Z,_,_,Z,h0,_,_,Z,h1,_,_,Z,h2,_,_,Z,⟨by simp,NReadsAt.fl hf h4⟩,_,_,Z,h5,_,_,Z,h6,_,_,Z,h7,Z⟩,hr⟩
theorem c0F {sl:List Slot} {q:Int} (h0:0<=r5 sl q) (h:(sl.getD (r5 sl q).toNat default).s=3):edS sl q=sl.set (r5 sl q).toNat ⟨1,(sl.getD (r5 sl q).toNat default).q,(sl.getD (r5 sl q).toNat default).p⟩:=by rw [c0y h,(c86 h0).1]
theorem b7y (h:IfG x) (h0:x.st.length≠0):0<=r5 x.qu.sl (M7 x)/\T3 (x.qu.sl.getD (r5 x.qu.sl (M7 x)).toNat default)=true:=⟨a3W (h.f.st _ (a3l h0)),c2P h.f.qu.sl (h.f.st _ (a3l h0))⟩
theorem a8R (h0:x.st.length≠0):x.st.getD ((x.st.length:Int) - 1).toNat default=M7 x:=by
 rw [show ((x.st.length:Int) - 1).toNat=x.st.length - 1 by omega];rfl
theorem c7m {α β:Type} [Inhabited α] {l:List α} {f:α→β} {i:Nat} (h:i < l.length):(l.map f)[i]?=some (f (l.getD i default)):=by simp [h]
theorem b1b {xs:List Int}:List.take (((xs.length:Int) - 1).toNat - Int.toNat 0) (List.drop (Int.toNat 0) (xs.map s3))=(xs.take (xs.length - 1)).map s3:=by
 simp
def a0Y (x:Ifc):Ifc×Int×Bool:=if x.st.length=0 then (noI,0,false) else (a2H x,M7 x,true)
theorem b7z (h:x.st.length=0):a0Y x=(noI,0,false):=if_pos h
theorem b7A (h:x.st.length≠0):a0Y x=(a2H x,M7 x,true):=if_neg h
theorem d1d {m:Mach} {sk sq sv:Int} {c:Nat} (h:sk=3):stM m ⟨sk,sq,(c:Int),sv⟩=(⟨m.rs,m.en,m.ra,m.cp.set c (Z4 (m.cp.getD c default)).1⟩,(Z4 (m.cp.getD c default)).2.1,(Z4 (m.cp.getD c default)).2.2):=by
 cases hk:okT (m.cp.getD c default)
 ·rw [c9l h hk,b7f hk]
 ·rw [sm3 h hk,b7e hk]
theorem d1e {m:Mach} {sk sq sv:Int} {c:Nat} (h:sk=4):stM m ⟨sk,sq,(c:Int),sv⟩=(⟨m.rs,m.en,m.ra,m.cp.set c (a0Y (m.cp.getD c default)).1⟩,(a0Y (m.cp.getD c default)).2.1,(a0Y (m.cp.getD c default)).2.2):=by
 by_cases hk:(m.cp.getD c default).st.length=0
 ·rw [c9m h hk,b7z hk]
 ·rw [sm4 h hk,b7A hk]
theorem a0i {eS eW:Nat} {xs:List Ifc} {c:Nat} {x:Ifc} {row:List CI} (h:FlR row (a1T eS eW x)):FlLe ((xs.map (a1T eS eW)).set c row) ((xs.set c x).map (a1T eS eW)):=by rw [List.map_set];exact FlLe.refl.set h
theorem c7n {eS eW:Nat} {xs:List Ifc} {c:Nat} {row:List CI} (h:row=s2 eS eW x):(xs.map (s2 eS eW)).set c row=(xs.set c x).map (s2 eS eW):=by rw [List.map_set,h]
theorem b1c (h:IfG x) (h0:x.st.length≠0):0<=M7 x/\M7 x<=7:=by
 obtain ⟨j,h1,h2,h3⟩:=(N5 4).mp ((a0G h.f.qu.sl.len).mp (h.f.st _ (a3l h0)))
 rw [← h3]
 exact (h.f.qu.sl.ok j h1 (by rcases u5.mp h2 with g | g<;>omega)).2.1
theorem b0f (h:IfG x) (hk:okT x=true):0<=tkI x.qu.sl/\tkI x.qu.sl<=7:=b6l h.f.qu.sl (J7.mp hk).1
def wrd (s:ByteArray) (i:Nat):ByteArray:=(g8 s 32).getD i default
def wn (s:ByteArray):Nat:=(g8 s 32).length
def F5 (s:ByteArray):Nat→List Int
 | 0=>[]
 | i+1=>F5 s i++[nmN (wrd s (i+1))]
theorem b2M {s:ByteArray}:F5 s (i+1)=F5 s i++[nmN (wrd s (i+1))]:=rfl
theorem a4Z {s:ByteArray}:∀{i:Nat},(F5 s i).length=i
 | 0=>rfl
 | i+1=>by rw [b2M,List.length_append,a4Z];rfl
theorem a7S {s:ByteArray} {b:Int}:∀i,∀x∈(spO s b i).1,x.size<=s.size
 | 0=>λx hx=>by cases hx
 | i+1=>λx hx=>by
  by_cases hb:s9 s i=b
  ·rw [a1g hb] at hx
   rcases List.mem_append.1 hx with h | h
   ·exact a7S i x h
   (simp_all;omega)
  ·rw [a39 hb] at hx
   exact a7S i x hx
theorem c0G {s:ByteArray} {i:Nat}:(wrd s i).size<=s.size:=by
 unfold wrd
 rw [List.getD_eq_getElem?_getD]
 cases h:(g8 s 32)[i]? with
 | none=>exact Nat.zero_le _
 | some x =>
  rcases List.mem_append.1 (List.mem_of_getElem? h) with h | h
  ·exact a7S _ x h
  simp_all
def I2 (s:ByteArray):Bool:=a2A (wn s - 1) (λj=>nmK (wrd s (j+1)))
def D0 (s:ByteArray):List Int:=F5 s (wn s - 1)
theorem b8H {s:ByteArray}:(D0 s).length=wn s - 1:=a4Z
theorem c0H {s:ByteArray} (h:nmK (wrd s (i+1))=false) (hi:i < wn s - 1):I2 s=false:=a1D h hi
theorem c0I {s:ByteArray} (h:∀j,j < i→nmK (wrd s (j+1))=true) (hi:wn s - 1<=i):I2 s=true:=a3I h hi
theorem c7o {s:ByteArray} (h:wn s=1):s=wrd s 0:=by
 grind [wn,wrd,b0G,b4H,v1]
theorem a6B {m:Mach} {s:MStep} (h:(smT m s).2.2=true):(smT m s).2.1≠-1↔(s.k=3∨s.k=4):=by
 unfold smT at h ⊢
 split at h
 ·next hk =>
  rw [if_pos hk]
  simp only [b6r,Bool.and_eq_true] at hk
  obtain ⟨⟨h1,h2⟩,h3⟩:=hk
  have hM:=(maF h1).g
  show (stM m s).2.1≠-1↔_
  unfold stM at h3 ⊢
  by_cases k1:s.k=1
  ·grind
  rw [if_neg k1] at h3 ⊢
  by_cases k2:s.k=2
  ·grind
  rw [if_neg k2] at h3 ⊢
  have hin:(s.k=3∨s.k=4)→s.c.toNat < m.cp.length:=λhk=>by
   grind [T6,o8]
  by_cases k3:s.k=3
  ·rw [if_pos k3] at h3 ⊢
   have hI:=hM.ok _ (hin (.inl k3))
   split at h3
   ·next ho =>
    rw [if_pos ho]
    have:=b0f hI ho
    grind
   ·cases h3
  rw [if_neg k3] at h3 ⊢
  by_cases k4:s.k=4
  ·rw [if_pos k4] at h3 ⊢
   have hI:=hM.ok _ (hin (.inr k4))
   split at h3
   ·cases h3
   ·next ho =>
    rw [if_neg ho]
    have:=b1c hI ho
    grind
  grind
 ·cases h
theorem a40 {m:Mach} {s:MStep}:-1<=(smT m s).2.1/\(smT m s).2.1<=7:=by
 unfold smT
 split
 ·next hk =>
  simp only [b6r,Bool.and_eq_true] at hk
  obtain ⟨⟨h1,h2⟩,h3⟩:=hk
  have hM:=(maF h1).g
  show -1<=(stM m s).2.1/\(stM m s).2.1<=7
  have hin:(s.k=3∨s.k=4)→s.c.toNat < m.cp.length:=λhk=>by
   grind [T6,o8]
  unfold stM at h3 ⊢
  by_cases k1:s.k=1
  ·grind
  rw [if_neg k1] at h3 ⊢
  by_cases k2:s.k=2
  ·grind
  rw [if_neg k2] at h3 ⊢
  by_cases k3:s.k=3
  ·rw [if_pos k3] at h3 ⊢
   have hI:=hM.ok _ (hin (.inl k3))
   split at h3
   ·next ho =>
    rw [if_pos ho]
    have:=b0f hI ho
    grind
   ·cases h3
  rw [if_neg k3] at h3 ⊢
  by_cases k4:s.k=4
  ·rw [if_pos k4] at h3 ⊢
   have hI:=hM.ok _ (hin (.inr k4))
   split at h3
   ·cases h3
   ·next ho =>
    rw [if_neg ho]
    have:=b1c hI ho
    grind
  grind
 simp
def a9n (m:Mach) (s:MStep):Mach×ByteArray×Bool:=if (smT m s).2.2 then ((smT m s).1,if (smT m s).2.1=-1 then okB else u7 (smT m s).2.1,true) else (m,⟨#[]⟩,false)
def a2J (m:Mach) (s:ByteArray):Mach×ByteArray×Bool :=
 if a2I (o7 (wrd s 0))=(wn s:Int) - 1 then
  if I2 s then
   if (a0W (o7 (wrd s 0)) (D0 s)).2 then a9n m (a0W (o7 (wrd s 0)) (D0 s)).1
   else (m,a4Y m (o7 (wrd s 0)) (D0 s))
  else (m,⟨#[]⟩,false)
 else (m,⟨#[]⟩,false)
def F6 (m:Mach) (s:ByteArray):Mach×ByteArray:=((a2J m s).1,if (a2J m s).2.2 then (a2J m s).2.1 else qmB)
section
variable {m:Mach} {s:ByteArray}
theorem c0J (h:¬ a2I (o7 (wrd s 0))=(wn s:Int) - 1):a2J m s=(m,⟨#[]⟩,false):=by unfold a2J;rw [if_neg h]
theorem c0K (h:I2 s=false):a2J m s=(m,⟨#[]⟩,false):=by unfold a2J;split<;>simp [h]
theorem c0L (h1:a2I (o7 (wrd s 0))=(wn s:Int) - 1) (h2:I2 s=true) (h3:(a0W (o7 (wrd s 0)) (D0 s)).2=false):a2J m s=(m,a4Y m (o7 (wrd s 0)) (D0 s)):=by unfold a2J;rw [if_pos h1,if_pos h2,if_neg (by simp [h3])]
theorem c0M (h1:a2I (o7 (wrd s 0))=(wn s:Int) - 1) (h2:I2 s=true) (h3:(a0W (o7 (wrd s 0)) (D0 s)).2=true):a2J m s=a9n m (a0W (o7 (wrd s 0)) (D0 s)).1:=by unfold a2J;rw [if_pos h1,if_pos h2,if_pos h3]
end
theorem a6C {s:ByteArray} {x:ByteArray} (h:a2J m s=(m',x,false)):F6 m s=(m',qmB):=by unfold F6;rw [h];rfl
theorem b3R {s:ByteArray} {x:ByteArray} (h:a2J m s=(m',x,true)):F6 m s=(m',x):=by unfold F6;rw [h];rfl
abbrev c7p:ByteArray:=⟨#[98,97,100]⟩
abbrev c0N:ByteArray:=⟨#[102,117,108,108]⟩
abbrev c35:ByteArray:=⟨#[108,111,110,103]⟩
def a7T (r:ByteArray):ByteArray:=if r.size > 200 then c35 else r
theorem c2Y {α β:Type} [Inhabited α] {l:List α} {f:α→β} {i:Nat} (h:i+1 < l.length):(l.map f)[1+((i:Int)).toNat]?=some (f (l.getD (i+1) default)):=by rw [show 1+((i:Int)).toNat=i+1 by omega];simp [h]
theorem b8I {α β:Type} [Inhabited α] {l:List α} {f:α→β} {i:Nat} (h:i+1 < l.length):(l.map f)[((i:Int)+1).toNat]?=some (f (l.getD (i+1) default)):=by rw [show ((i:Int)+1).toNat=i+1 by omega];simp [h]
theorem O7 {c:ByteArray} (h:r.size<=200):(⟨c,r⟩:Rec).r.size<=9223372036854775807:=Nat.le_trans h (by decide)
theorem R7 {a:Array UInt8} (h:a.size<=200):(⟨a⟩:ByteArray).size<=9223372036854775807:=by show a.size<=_;omega
theorem b3S (h:(r.size:Int) > 200):a7T r=c35:=by unfold a7T;rw [if_pos J]
theorem a2K (h:¬ (r.size:Int) > 200):a7T r=r:=by unfold a7T;rw [if_neg J]
theorem c2Z:(a7T r).size<=200:=by
 unfold a7T
 split
 ·decide
 ·omega
def exC (m:Mach) (x:Lg) (s:ByteArray):Mach×Lg×ByteArray :=
 if okCo m x=false then (m,x,noB)
 else if C9 ⟨s,⟨#[]⟩⟩=false then (m,x,c7p)
 else if x.n=60 then (m,x,c0N)
 else ((F6 m s).1,apE x ⟨s,a7T (F6 m s).2⟩,a7T (F6 m s).2)
section
variable {m:Mach} {x:Lg} {s:ByteArray}
theorem c0O (h:okCo m x=false):exC m x s=(m,x,noB):=by unfold exC;rw [if_pos h]
theorem c0P (h:okCo m x=true) (h2:C9 ⟨s,⟨#[]⟩⟩=false):exC m x s=(m,x,c7p):=by unfold exC;rw [if_neg (by simp [h]),if_pos h2]
theorem c0Q (h:okCo m x=true) (h2:C9 ⟨s,⟨#[]⟩⟩=true) (h3:x.n=60):exC m x s=(m,x,c0N):=by unfold exC;rw [if_neg (by simp [h]),if_neg (by simp [h2]),if_pos h3]
theorem P5 (h:okCo m x=true) (h2:C9 ⟨s,⟨#[]⟩⟩=true) (h3:¬ x.n=60) {m':Mach} {r:ByteArray} (h4:F6 m s=(m',r)):exC m x s=(m',apE x ⟨s,a7T r⟩,a7T r):=by unfold exC;rw [if_neg (by simp [h]),if_neg (by simp [h2]),if_neg h3,h4]
end
def a41 (m:Mach) (k:Nat) (c:Int):ByteArray:=if (Y1 m k c).2 then (Y1 m k c).1 else qmB
def R8 (m:Mach) (s:MStep):Mach×ByteArray:=if (smT m s).2.2 then ((smT m s).1,if (smT m s).2.1=-1 then okB else u7 (smT m s).2.1) else (m,qmB)
section
variable {m:Mach} {k:Nat} {c:Int} {s:ByteArray}
theorem c7q (h:o8 c 0 ((m.cp.length:Int) - 1)=false):a41 m k c=qmB:=by unfold a41;rw [b7u h];rfl
theorem c7r (h:o8 c 0 ((m.cp.length:Int) - 1)=true) (hk:k=8):a41 m k c=a4U (E6 (m.cp.getD c.toNat default).qu):=by unfold a41;rw [b7v h hk];rfl
theorem c7s (h:o8 c 0 ((m.cp.length:Int) - 1)=true) (hk:k=9):a41 m k c=a4U (m.cp.getD c.toNat default).st:=by unfold a41;rw [b7w h hk];rfl
theorem c22 (h:o8 c 0 ((m.cp.length:Int) - 1)=true) (hk:k=11):a41 m k c=a4V (m.cp.getD c.toNat default).qu.sl:=by unfold a41;rw [b5d h hk];rfl
theorem c0R (h:o8 c 0 ((m.cp.length:Int) - 1)=true) (hk:k=10) (hn:B8 m.rs (y9 m) c.toNat < 0):a41 m k c=b48:=by
 have:=@b0R m.rs (y9 m) c.toNat
 unfold a41;rw [b2K h hk J];rfl
theorem c0S (h:o8 c 0 ((m.cp.length:Int) - 1)=true) (hk:k=10) (hn:¬ B8 m.rs (y9 m) c.toNat < 0):a41 m k c=u7 (B8 m.rs (y9 m) c.toNat):=by unfold a41;rw [b2L h hk J];rfl
theorem c0T (h1:k≠8) (h2:k≠9) (h3:k≠11) (h4:k≠10):a41 m k c=qmB:=by unfold a41;rw [c2T h1 h2 h3 h4];rfl
theorem c7t (h:I2 s=false):F6 m s=(m,qmB):=a6C (c0K h)
theorem b3T (h:¬ a2I (o7 (wrd s 0))=(wn s:Int) - 1):F6 m s=(m,qmB):=a6C (c0J h)
theorem a30 (h1:a2I (o7 (wrd s 0))=(wn s:Int) - 1) (h2:I2 s=true) (h3:(a0W (o7 (wrd s 0)) (D0 s)).2=true):F6 m s=R8 m (a0W (o7 (wrd s 0)) (D0 s)).1:=by
 grind [c0M,a9n,R8,b3R,a6C]
theorem b3U (h1:a2I (o7 (wrd s 0))=(wn s:Int) - 1) (h2:I2 s=true) (h3:(a0W (o7 (wrd s 0)) (D0 s)).2=false):F6 m s=(m,if (a4Y m (o7 (wrd s 0)) (D0 s)).2 then (a4Y m (o7 (wrd s 0)) (D0 s)).1 else qmB):=by
 unfold F6
 rw [c0L h1 h2 h3]
theorem c9r (h:wn s=1) (h2:I2 s=true) (hk:o7 (wrd s 0)=0):F6 m s=R8 m ⟨2,0,0,0⟩:=by
 rw [a30 (by rw [a4X J];omega) h2 (by rw [hk];rfl),hk];rfl
theorem c9s (h:wn s=1) (h2:I2 s=true) (hk:o7 (wrd s 0)=1):F6 m s=(m,a4U (raN m)):=by
 rw [b3U (by rw [a4X J];omega) h2 (by rw [hk];rfl),c0B hk];rfl
theorem c7u (h:wn s=1) (h2:I2 s=true) (hk:o7 (wrd s 0)=2) (hi:a8P m=true):F6 m s=(m,c7h):=by
 rw [b3U (by rw [a4X J];omega) h2 (by rw [hk];rfl),b7s hk hi];rfl
theorem c7v (h:wn s=1) (h2:I2 s=true) (hk:o7 (wrd s 0)=2) (hi:a8P m=false):F6 m s=(m,noB):=by
 rw [b3U (by rw [a4X J];omega) h2 (by rw [hk];rfl),b7t hk hi];rfl
theorem c9t (h:wn s=1) (h0:¬ o7 (wrd s 0)=0) (h1:¬ o7 (wrd s 0)=1) (h3:¬ o7 (wrd s 0)=2):F6 m s=(m,qmB):=by
 have hl:=@b3P (wrd s 0)
 refine b3T ?_
 by_cases g:o7 (wrd s 0)<=11
 ·rw [a07 J];omega
 ·grind [a8O,a6A]
theorem c9u (h:wn s=2) (h2:I2 s=true) (hk:o7 (wrd s 0)=3):F6 m s=R8 m ⟨1,(D0 s).getD 0 default,0,0⟩:=by
 rw [a30 (by rw [a07 J];omega) h2 (by rw [hk];rfl),hk];rfl
theorem c9v (h:wn s=2) (h2:I2 s=true) (hk:o7 (wrd s 0)=4):F6 m s=R8 m ⟨6,(D0 s).getD 0 default,0,1⟩:=by
 rw [a30 (by rw [a07 J];omega) h2 (by rw [hk];rfl),hk];rfl
theorem c9w (h:wn s=2) (h2:I2 s=true) (hk:o7 (wrd s 0)=5):F6 m s=R8 m ⟨6,(D0 s).getD 0 default,0,0⟩:=by
 rw [a30 (by rw [a07 J];omega) h2 (by rw [hk];rfl),hk];rfl
theorem c9x (h:wn s=2) (h2:I2 s=true) (hk:o7 (wrd s 0)=6):F6 m s=R8 m ⟨3,0,(D0 s).getD 0 default,0⟩:=by
 rw [a30 (by rw [a07 J];omega) h2 (by rw [hk];rfl),hk];rfl
theorem c9y (h:wn s=2) (h2:I2 s=true) (hk:o7 (wrd s 0)=7):F6 m s=R8 m ⟨4,0,(D0 s).getD 0 default,0⟩:=by
 rw [a30 (by rw [a07 J];omega) h2 (by rw [hk];rfl),hk];rfl
theorem c9z (h:wn s=2) (h2:I2 s=true) (h3:¬ o7 (wrd s 0)=3) (h4:¬ o7 (wrd s 0)=4) (h5:¬ o7 (wrd s 0)=5) (h6:¬ o7 (wrd s 0)=6) (h7:¬ o7 (wrd s 0)=7):F6 m s=(m,a41 m (o7 (wrd s 0)) ((D0 s).getD 0 default)):=by
 have hl:=@b3P (wrd s 0)
 by_cases g:8<=o7 (wrd s 0)/\o7 (wrd s 0)<=11
 ·rw [b3U (by rw [a07 J];omega) h2 (by unfold a0W;rw [if_neg J,if_neg J,if_neg J,if_neg J,if_neg J,if_neg J,if_neg J]),c0C J J]
  rfl
 ·rw [c0T J J J J]
  refine b3T ?_
  by_cases g1:o7 (wrd s 0)<=2
  ·rw [a4X g1];omega
  ·by_cases g2:o7 (wrd s 0)=12
   ·rw [a8O g2];omega
   ·rw [a6A J];omega
theorem c7w (h:wn s=3) (h2:I2 s=true) (hk:o7 (wrd s 0)=12):F6 m s=R8 m ⟨5,0,(D0 s).getD 0 default,(D0 s).getD 1 default⟩:=by
 rw [a30 (by rw [a8O hk];omega) h2 (by rw [hk];rfl),hk];rfl
theorem c9A (h:wn s=3) (hk:¬ o7 (wrd s 0)=12):F6 m s=(m,qmB):=by
 refine b3T ?_
 have hl:=@b3P (wrd s 0)
 by_cases g1:o7 (wrd s 0)<=2
 ·rw [a4X g1];omega
 ·grind [a07,a6A]
theorem ct3 (h:4<=wn s):F6 m s=(m,qmB):=by
 grind [b3T,a4X,a07,a8O,a6A]
theorem Y3 {t:MStep} (h:(smT m t).2.2=true):SmallM (smT m t).1:=by
 unfold smT at h ⊢
 split at h
 ·next hk =>
  rw [if_pos hk]
  simp only [b6r,Bool.and_eq_true] at hk
  obtain ⟨⟨h1,h2⟩,h3⟩:=hk
  exact (c33 (maF h1).g h2 h3).1.small
 ·cases h
end
end Go.Rf
namespace Go.Rf
open Go Go.RowKit
def lrT (x:Lg):List Rec:=if okLg x then pre (U3 (x.d++x.p)) (l9 (x.d++x.p)) else []
theorem c7x {x:Lg} (h:okLg x=false):lrT x=[]/\okLg x=false:=by rw [lrT,h];exact ⟨Z,Z⟩
theorem b3V {x:Lg} (h:okLg x=true):lrT x=pre (U3 (x.d++x.p)) (l9 (x.d++x.p))/\okLg x=true:=by rw [lrT,h];exact ⟨Z,Z⟩
theorem b7B {x:Lg}:(lrT x).length<=60:=by
 unfold lrT
 split
 ·rw [G5];exact T4.1
 ·exact Nat.zero_le _
end Go.Rf
namespace Go.Rf
open Go
variable {c:Int} {e i:Nat} {m:Mach} {rs:List Route} {x:Lg}
theorem b5e {r:Rec} (hx:x.d.size+x.p.size<=1048576):(apE x r).d.size+(apE x r).p.size<=1048576:=by
 grind [apE,okLg,apG,a5K,a5L]
theorem b8J {s:ByteArray} (h:SmallM m):SmallM (F6 m s).1:=by
 show SmallM (a2J m s).1
 unfold a2J
 split
 ·grind [a9n,Y3]
 ·exact h
theorem a8S {s:ByteArray} (h:SmallM m) (hx:x.d.size+x.p.size<=1048576):SmallM (exC m x s).1/\(exC m x s).2.1.d.size+(exC m x s).2.1.p.size<=1048576:=by
 unfold exC
 split
 ·exact ⟨h,hx⟩
 ·split
  ·exact ⟨h,hx⟩
  ·split
   ·exact ⟨h,hx⟩
   ·exact ⟨b8J h,b5e hx⟩
def runC (m:Mach) (x:Lg) (cs:Nat→ByteArray):Nat→Mach×Lg
 | 0=>(m,x)
 | i+1=>((exC (runC m x cs i).1 (runC m x cs i).2 (cs i)).1,(exC (runC m x cs i).1 (runC m x cs i).2 (cs i)).2.1)
def repC (m:Mach) (x:Lg) (cs:Nat→ByteArray) (i:Nat):ByteArray:=(exC (runC m x cs i).1 (runC m x cs i).2 (cs i)).2.2
theorem a5N {m:Mach} {x:Lg} {cs:Nat→ByteArray} (h:SmallM m) (hx:x.d.size+x.p.size<=1048576):∀i,SmallM (runC m x cs i).1/\(runC m x cs i).2.d.size+(runC m x cs i).2.p.size<=1048576
 | 0=>⟨h,hx⟩
 | i+1=>a8S (a5N h hx i).1 (a5N h hx i).2
def lg0:Lg:=⟨⟨#[]⟩,⟨#[]⟩,0⟩
def csL (l:Lg) (i:Nat):ByteArray:=((lrT l).getD i default).c
def b1d (m:Mach) (l:Lg) (i:Nat):Bool:=!((repC m lg0 (csL l) i).toList==((lrT l).getD i default).r.toList)
def a8T (rs:List Route) (c:Int) (l:Lg):Int×Bool :=
 if (m8 rs c).2 && okLg l then (if O4 (b1d (m8 rs c).1 l) (lrT l).length < 0 then ((lrT l).length:Int) else O4 (b1d (m8 rs c).1 l) (lrT l).length,true) else (0,false)
section
variable {rs:List Route} {c:Int} {l:Lg} {i:Nat}
theorem c0U (h:(m8 rs c).2=false):a8T rs c l=(0,false):=by unfold a8T;rw [h];rfl
theorem c0V (h:okLg l=false):a8T rs c l=(0,false):=by unfold a8T;rw [h,Bool.and_false];rfl
theorem c36 (h:¬ (repC m lg0 (csL l) i).toList=((lrT l).getD i default).r.toList):b1d m l i=true:=by unfold b1d;rw [Bool.not_eq_true',beq_eq_false_iff_ne];exact h
theorem c0W (h:(repC m lg0 (csL l) i).toList=((lrT l).getD i default).r.toList):b1d m l i=false:=by unfold b1d;rw [Bool.not_eq_false',beq_iff_eq];exact h
theorem c38 (h1:(m8 rs c).2=true) (h2:okLg l=true) (hj:∀j,j < i→b1d (m8 rs c).1 l j=false) (hi:i < (lrT l).length) (h:b1d (m8 rs c).1 l i=true):a8T rs c l=((i:Int),true):=by
 grind [a8T,R3]
theorem c0X (h1:(m8 rs c).2=true) (h2:okLg l=true) (hj:∀j,j < i→b1d (m8 rs c).1 l j=false) (hi:(lrT l).length<=i):a8T rs c l=(((lrT l).length:Int),true):=by
 grind [a8T,a0N]
end
theorem c9B {l:Lg} (hi:i < (lrT l).length):C9 ((lrT l).getD i default)=true:=by
 cases ho:okLg l with
 | false=>rw [(c7x ho).1] at hi;exact absurd hi (Nat.not_lt_zero _)
 | true =>
  rw [(b3V ho).1] at hi ⊢
  rw [G5] at hi
  rw [a4J hi]
  have h1:=S9 (s:=l.d++l.p) |>.1 i hi
  have h2:rdK (N4 (l.d++l.p) i) i=true:=by
   grind [b9k]
  simp only [rdK,Bool.and_eq_true] at h2
  exact h2.1.2
theorem c39 {l:Lg} {i:Nat}:(csL l i).size<=160:=by
 unfold csL
 by_cases hi:i < (lrT l).length
 ·exact (a0O (c9B hi)).1.2
 ·rw [List.getD_eq_getElem?_getD,List.getElem?_eq_none J];exact Nat.zero_le _
theorem ArgsOK.sub1 {T:List (Nat×AV)} {m:List (Nat×Option Row)} {nx:Nat} {x:Operand} {id sz n:Nat} {ys us:List (List Value)} (hx:ev T x=some (.sub id sz i n)) (hm:mem m id=some (.row e sz ys)) (hle:i+n<=ys.length) (he:(ys.drop i).take n=us):ArgsOK T m nx [x] [.lst sz us]:=by
 subst he
 exact ⟨_,_,_,Z,hx,ArgOK.sub hm hle,Z⟩
def ptG (sl:List Slot) (irq p:Int):List Slot×Bool:=if 0<=r5 sl irq then (ptS sl irq,true) else if 0<=freS sl then (sl.set (freS sl).toNat ⟨1,irq,p⟩,true) else ([],false)
def edQ (sl:List Slot) (irq:Int):List Slot:=if (sl.getD (r5 sl irq).toNat default).s=2 then sl.set (r5 sl irq).toNat zSl else sl.set (r5 sl irq).toNat ⟨1,(sl.getD (r5 sl irq).toNat default).q,(sl.getD (r5 sl irq).toNat default).p⟩
def edG (sl:List Slot) (irq:Int):List Slot×Bool:=if 0<=r5 sl irq/\¬ (sl.getD (r5 sl irq).toNat default).s=1 then (edQ sl irq,true) else ([],false)
def tkA (sl:List Slot) (lim:Int):List Slot×Int:=if a0u sl lim then (tkS sl,tkI sl) else (sl,-1)
section
variable {sl:List Slot} {irq p lim:Int}
theorem c9C (h:0<=r5 sl irq):ptG sl irq p=(ptS sl irq,true):=by unfold ptG;rw [if_pos h]
theorem c9D (h:r5 sl irq < 0) (h2:0<=freS sl):ptG sl irq p=(sl.set (freS sl).toNat ⟨1,irq,p⟩,true):=by unfold ptG;rw [if_neg J,if_pos h2]
theorem c9E (h:r5 sl irq < 0) (h2:freS sl < 0):ptG sl irq p=([],false):=by unfold ptG;rw [if_neg J,if_neg J]
theorem a7U (h:(ptG sl irq p).2=true):(ptG sl irq p).1.length=sl.length:=by
 grind [ptG,ptS]
theorem c0Y (h:r5 sl irq < 0∨(sl.getD (r5 sl irq).toNat default).s=1):edG sl irq=([],false):=by
 grind [edG]
theorem c9F (h:0<=r5 sl irq) (h2:(sl.getD (r5 sl irq).toNat default).s=2):edG sl irq=(sl.set (r5 sl irq).toNat zSl,true):=by
 unfold edG edQ
 grind
theorem c9G (h:0<=r5 sl irq) (h1:¬ (sl.getD (r5 sl irq).toNat default).s=1) (h2:¬ (sl.getD (r5 sl irq).toNat default).s=2):edG sl irq=(sl.set (r5 sl irq).toNat ⟨1,(sl.getD (r5 sl irq).toNat default).q,(sl.getD (r5 sl irq).toNat default).p⟩,true):=by
 unfold edG edQ
 grind
theorem a7V (h:(edG sl irq).2=true):(edG sl irq).1.length=sl.length:=by
 grind [edG,edQ]
theorem c4a (h:a0u sl lim=true):tkA sl lim=(tkS sl,tkI sl):=by unfold tkA;rw [h];rfl
theorem c0Z (h:a0u sl lim=false):tkA sl lim=(sl,-1):=by unfold tkA;rw [h];rfl
theorem a7W:(tkA sl lim).1.length=sl.length:=by
 cases h:a0u sl lim
 ·rw [c0Z h]
 ·rw [c4a h];exact List.length_set
end
def tkQ (q:Que) (lim:Int):Que×Int:=if a0u q.sl lim then (a4P q,tkI q.sl) else (q,-1)
def enG (q:Que) (irq:Int):Que×Bool:=if 0<=r5 q.sl irq/\T3 (q.sl.getD (r5 q.sl irq).toNat default)=true then (a4Q q irq,true) else (⟨[],[]⟩,false)
section
variable {q:Que} {irq p lim:Int}
theorem c4b (h:a0u q.sl lim=true):tkQ q lim=(a4P q,tkI q.sl):=by unfold tkQ;rw [h];rfl
theorem c4c (h:a0u q.sl lim=false):tkQ q lim=(q,-1):=by unfold tkQ;rw [h];rfl
theorem b2N (h:QF q):QF (tkQ q lim).1:=by
 grind [c4c,c4b,b6d,J7]
theorem c4d (h:0<=r5 q.sl irq) (h2:T3 (q.sl.getD (r5 q.sl irq).toNat default)=true):enG q irq=(a4Q q irq,true):=by unfold enG;rw [if_pos ⟨h,h2⟩]
theorem c4e (h:¬ (0<=r5 q.sl irq/\T3 (q.sl.getD (r5 q.sl irq).toNat default)=true)):enG q irq=(⟨[],[]⟩,false):=by unfold enG;rw [if_neg h]
theorem b2O (h:QF q) (hk:(enG q irq).2=true):QF (enG q irq).1:=by
 grind [c4d,b6e,c4e]
theorem c7y (h:QF q) (hn:¬ (0<=r5 q.sl irq/\T3 (q.sl.getD (r5 q.sl irq).toNat default)=true)):edG q.sl irq=([],false):=by
 refine c0Y ?_
 rcases Int.lt_or_le (r5 q.sl irq) 0 with g | g
 ·exact .inl g
 ·obtain ⟨k,e1,e2,e3,e4⟩:=a1M g
  have hb:=(h.sl.ok k (by rw [← h.sl.len];exact e2) e3).1
  refine .inr ?_
  rw [e1,Int.toNat_natCast] at hn ⊢
  have:¬ ((q.sl.getD k default).s=2∨(q.sl.getD k default).s=3):=λe=>hn ⟨by omega,u5.mpr e⟩
  omega
theorem c00 (h:QF q) (hn:¬ (0<=r5 q.sl irq/\T3 (q.sl.getD (r5 q.sl irq).toNat default)=true)):Res.many [.fr e 3 ((edG q.sl irq).1.map j4),.v (.bool (edG q.sl irq).2)]=.many [.fr e 3 (([]:List Slot).map j4),.v (.bool false)]:=by rw [c7y h hn]
def q0:Que:=⟨[zSl,zSl,zSl,zSl],[]⟩
theorem c9H:QF q0:=by
 have hz:∀i,i < 4→([zSl,zSl,zSl,zSl]:List Slot).getD i default=zSl:=λi hi=>by
  grind
 refine ⟨⟨Z,λi hi _=>hz i hi,λi hi h0=>absurd ?_ h0,λi j hij hj h0=>absurd ?_ h0⟩,Nat.zero_le _,λw hw=>(by cases hw),List.Pairwise.nil⟩
 ·show (([zSl,zSl,zSl,zSl]:List Slot).getD i default).s=0;rw [hz i hi];rfl
 ·show (([zSl,zSl,zSl,zSl]:List Slot).getD i default).s=0;rw [hz i J];rfl
end
def tkX (x:Ifc):Ifc×Int:=if okT x then (a3j x,tkI x.qu.sl) else (x,-1)
def lvX (x:Ifc):Ifc×Int:=if x.st.length=0 then (x,-1) else (a2H x,M7 x)
section
variable {x:Ifc}
theorem c4f (h:okT x=true):tkX x=(a3j x,tkI x.qu.sl):=by unfold tkX;rw [h];rfl
theorem c4g (h:okT x=false):tkX x=(x,-1):=by unfold tkX;rw [h];rfl
theorem b7C (h:IfG x):IfG (tkX x).1:=by
 cases hk:okT x
 ·rw [c4g hk];exact h
 ·rw [c4f hk];exact c2O h hk
theorem c4h (h:¬ x.st.length=0):lvX x=(a2H x,M7 x):=by unfold lvX;rw [if_neg h]
theorem c4i (h:x.st.length=0):lvX x=(x,-1):=by unfold lvX;rw [if_pos h]
theorem b7D (h:IfG x):IfG (lvX x).1:=by
 grind [c4i,c4h,c2Q]
theorem c01:IfG a9x:=⟨⟨c9H,Nat.zero_le _,λq hq=>(by cases hq)⟩,List.nodup_nil⟩
end
def DrQ (q:Que):Prop:=q.sl.length<=5/\q.wa.length<=10
def DrI (x:Ifc):Prop:=x.st.length<=5/\x.qu.sl.length<=5/\x.qu.wa.length<=10
structure DrM (m:Mach):Prop where
 rs:m.rs.length=8
 en:m.en.length=8
 ra:m.ra.length<=9
 n:1<=m.cp.length/\m.cp.length<=3
 cp:∀x∈m.cp,DrI x
theorem QF.dr {q:Que} (h:QF q):DrQ q:=⟨by rw [h.sl.len];decide,by have:=h.wn8;omega⟩
theorem IfG.dr {x:Ifc} (h:IfG x):DrI x:=⟨by have:=h.f.sn;omega,h.f.qu.dr.1,h.f.qu.dr.2⟩
theorem DrI.sz {x:Ifc} (h:DrI x):szI x<=20:=by
 obtain ⟨h1,h2,h3⟩:=h
 unfold szI
 omega
theorem DrM.small (h:DrM m):SmallM m:=by
 have h1:=h.n
 refine ⟨by rw [h.rs];decide,by rw [h.en];decide,by have:=h.ra;omega,by omega,?_⟩
 have key:∀i,i<=m.cp.length→sumI m.cp i<=20 * i:=by
  intro i
  induction i with
  | zero=>intro _;exact Int.le_refl _
  | succ i ih =>
   intro hi
   rw [a3i]
   have:=ih J
   have:=(h.cp (m.cp.getD i default) (j5.mpr ⟨i,by omega,Z⟩)).sz
   push_cast
   omega
 grind
theorem MaG.dr (h:MaG m):DrM m:=⟨h.rn,h.en,by rw [h.ra];decide,by have:=h.n;omega,λx hx=>by
 obtain ⟨k,hk,rfl⟩:=j5.mp hx
 exact (h.ok k hk).dr⟩
theorem DrM.setR (h:DrM m) {k:Nat} {r:Route}:DrM ⟨m.rs.set k r,m.en,m.ra,m.cp⟩:=⟨by show (m.rs.set k r).length=8;rw [List.length_set];exact h.rs,h.en,h.ra,h.n,h.cp⟩
theorem DrM.addA (h:DrM m) (h8:m.ra.length=8) {b:Bool}:DrM ⟨m.rs,m.en,m.ra++[b],m.cp⟩:=⟨h.rs,h.en,by show (m.ra++[b]).length<=9;rw [List.length_append,List.length_cons,List.length_nil,h8];decide,h.n,h.cp⟩
theorem DrM.setC (h:DrM m) {k:Nat} {x:Ifc} (hx:DrI x):DrM ⟨m.rs,m.en,m.ra,m.cp.set k x⟩:=⟨h.rs,h.en,h.ra,by show 1<=(m.cp.set k x).length/\(m.cp.set k x).length<=3;rw [List.length_set];exact h.n,λy hy=>by
 rcases List.mem_or_eq_of_mem_set hy with g | g
 ·exact h.cp y g
 ·rw [g];exact hx⟩
theorem DrM.addC (h:DrM m) (hn:m.cp.length<=2) {x:Ifc} (hx:DrI x):DrM ⟨m.rs,m.en,m.ra,m.cp++[x]⟩:=⟨h.rs,h.en,h.ra,by show 1<=(m.cp++[x]).length/\(m.cp++[x]).length<=3;rw [List.length_append,List.length_cons,List.length_nil];omega,λy hy=>by
 rcases List.mem_append.mp hy with g | g
 ·exact h.cp y g
 ·rw [List.mem_singleton.mp g];exact hx⟩
def b7E (cpus:Int) (rs:List Route):Prop:=∀r∈rs,(0<=r.p/\r.p<=15)/\0<=r.t/\r.t<=cpus - 1
theorem c02 {r:Route} (h:b7E c rs) (hr:(0<=r.p/\r.p<=15)/\0<=r.t/\r.t<=c - 1):b7E c (rs++[r]):=λx hx=>by
 rcases List.mem_append.mp hx with g | g
 ·exact h x g
 grind
theorem c7z (h:b7E c rs) (hl:rs.length=8) (hc:1<=c/\c<=2):okRts rs c=true:=C7.mpr ⟨hc,hl,λi hi=>h _ (j5.mpr ⟨i,by omega,Z⟩)⟩
theorem c7A {c:Nat} (h:okRts rs c=true):MaG (a7z rs c):=by
 have hr:=C7.mp h
 have hl:(a7z rs c).cp.length=c:=by show (List.replicate c a9x).length=c;rw [List.length_replicate]
 refine ⟨by rw [hl];exact h,by rw [hl];omega,hr.2.1,by show (List.replicate 8 false).length=8;rw [List.length_replicate],by show (List.replicate 8 false).length=8;rw [List.length_replicate],λk hk=>?_⟩
 rw [hl] at hk
 show IfG ((List.replicate c a9x).getD k default)
 rw [b4W hk]
 exact c01
theorem MaG.lines (h:MaG m) {en ra:List Bool} (h1:en.length=8) (h2:ra.length=8):MaG ⟨m.rs,en,ra,m.cp⟩:=⟨h.rt,h.n,h.rn,h1,h2,h.ok⟩
theorem a0Z {l:List ByteArray} {z:ByteArray} {n:Nat} (h:z∈l) (hl:∀z∈l,z.size<=n):z.size<=n:=hl z h
structure DrC (x:Mach×Lg):Prop where
 m:SmallM x.1
 l:x.2.d.size+x.2.p.size<=1048576
theorem DrC.next {x:Mach×Lg} (h:DrC x) {s:ByteArray}:DrC ((exC x.1 x.2 s).1,(exC x.1 x.2 s).2.1):=⟨(a8S h.m h.l).1,(a8S h.m h.l).2⟩
theorem DrC.cp {x:Mach×Lg} (h:DrC x):x.1.cp.length<=1048576:=h.m.cp
def c7B (s:ByteArray):List ByteArray:=if 4000 < s.size then [] else g8 s 10
theorem c7C {s:ByteArray} (h:4000 < s.size):c7B s=[]:=if_pos h
theorem c03 {s:ByteArray} (h:¬ 4000 < s.size):c7B s=g8 s 10:=if_neg h
theorem b8K {x:Lg} {r:Rec} {b:Nat} (hb:31000<=b) (hx:x.d.size+x.p.size<=b):(apE x r).d.size+(apE x r).p.size<=b:=by
 grind [apE,okLg,apG,a5K,a5L]
theorem c9I {b:Nat} (hx:x.d.size+x.p.size<=b):(syE x).d.size+(syE x).p.size<=b:=by
 unfold syE
 split
 ·show (x.d++x.p).size+0<=b
  rw [ByteArray.size_append];omega
 ·exact Nat.zero_le _
theorem c9J {t:ByteArray} (h:¬ t.toList=(⟨#[]⟩:ByteArray).toList):1<=t.size:=by
 rcases Nat.eq_zero_or_pos t.size with h1 | h1
 ·exfalso
  apply h
  have:t=⟨#[]⟩:=ByteArray.ext (by
   have h2:t.data.size=0:=h1
   exact Array.eq_empty_of_size_eq_zero h2)
  rw [this]
 ·exact h1
end Go.Rf
namespace Go.Rf
open Go Go.RowKit
section
variable {P:Program} {w0:Base} {ops:Array Oper} {o:Oper} {rest:List Oper} {T:List (Nat×AV)} {m:List (Nat×Option Row)} {nx nt:Nat} {Q:Exit→St→Prop}
theorem a7X (t:Nat) {cs:List AV} (ht:look t T=some (.agg cs)) {rs:(Nat→Value)→List AV} (hr:∀u,a7m cs u 0 []=some (rs u)) (h:∀u,WX P w0 ops o rest ⟨(t,.agg (rs u)) :: T,m,nx,nt⟩ Q):WX P w0 ops o rest ⟨T,m,nx,nt⟩ Q:=by
 intro ρ a w hT hC
 have h1:=hT.tmps t _ ht
 simp only [RelV] at h1
 obtain ⟨us,he,h1⟩:=h1
 let u:Nat→Value:=λi=>us.getD i undef
 refine h u ρ a w ⟨λi x hi=>?_,hT.size,hT.defers⟩ hC
 by_cases e:i=t
 ·subst e
  rw [r9] at hi
  cases hi
  simp only [RelV]
  exact ⟨us,he,by simpa using a8F (acc':=[]) (hr u) h1 (λj y hj=>by simp only [u,Nat.zero_add,List.getD_eq_getElem?_getD,hj,Option.getD_some]) (by simp [RelVs])⟩
 ·rw [l5 (λe'=>e e'.symm)] at hi
  exact hT.tmps i x hi
end
section
variable {P:Program} {ops:Array Oper} {Q:Exit→Act→World→Prop} {md:Region.Mode} {S:World→Prop} {ks:List Nat}
def b5f (ks:List Nat) (listed:Array Bool):Bool:=ks.any λk=>listed.getD k true
def a8U (P:Program) (md:Region.Mode) (ops:Array Oper) (Q:Exit→Act→World→Prop) (S:World→Prop) (ks:List Nat):Nat→Array Bool→Act→World→Prop
 | 0,listed,a,w=>Region.ready md ops listed=[]/\Q .normal a w
 | fuel+1,listed,a,w=>(Region.ready md ops listed=[]→Q .normal a w) /\
  ∀i∈Region.ready md ops listed,wpOp P ops Q i (λa' w'=>(b5f ks (listed.setIfInBounds i true)=false→S w')/\a8U P md ops Q S ks fuel (listed.setIfInBounds i true) a' w') a w
theorem b1e:∀(fuel:Nat) (listed:Array Bool) (a:Act) (w:World),a8U P md ops Q S ks fuel listed a w→wpAny P md ops Q fuel listed a w
 | 0,_,_,_,h=>h
 | fuel+1,_,_,_,h=>⟨h.1,λi hi=>wpOp_mono (λa' w' h'=>b1e fuel _ a' w' h'.2) (h.2 i hi)⟩
def b7F (md:Region.Mode) (ops:Array Oper) (i:Nat) (D:List Nat):Bool :=
 D.all λd=>!(d==i) && match ops[d]? with
  | some o=>o.after.any λe=>Region.binds md e && (e.on==i || D.contains e.on)
  | none=>false
theorem c04 {i j:Nat} {D:List Nat} {listed:Array Bool} (hi:listed.getD i true=false) (hu:∀d∈D,listed.getD d true=false) (hD:b7F md ops i D=true) (hj:j∈D):j∉Region.ready md ops listed:=λhr=>by
 obtain ⟨_,o,ho,hall⟩:=mem_ready.1 hr
 have h:=List.all_eq_true.1 hD j hj
 grind
theorem c23 {i:Nat} {D:List Nat} (hD:b7F md ops i D=true) {d:Nat} (hd:d∈D):i≠d:=λe=>by
 have h:=List.all_eq_true.1 hD d hd
 grind
theorem b3W {i:Nat} {oi:Oper} {v:Value} {D:List Nat} (hi:ops[i]?=some oi) (hsel:∀(j:Nat) (o:Oper) cs b,ops[j]?=some o→o.op≠.select cs b)
 (hQ:∀c a w,Q (.panic c) (a.put oi.dst v) w→Q (.panic c) a w) (hD:b7F md ops i D=true) (hk:∀k∈ks,k∈D) :
 ∀(fuel:Nat) (listed:Array Bool) (a:Act) (w:World),
  (∀j oj,ops[j]?=some oj→j≠i→listed.getD j true=false→(∀e∈oj.after,Region.binds md e=true→e.on≠i)→oi.apart ops oj=true)→(∀d∈D,listed.getD d true=false) →
  i∈Region.ready md ops listed→YieldsIf P ops S oi v a→S w →
  a8U P md ops Q S ks fuel (listed.setIfInBounds i true) (a.put oi.dst v) w→a8U P md ops Q S ks (fuel+1) listed a w:=by
 intro fuel
 induction fuel with
 | zero =>
  intro listed a w _ _ hr hy hS H
  refine ⟨λh=>(by rw [h] at hr;cases hr),λj hj=>?_⟩
  by_cases hji:j=i
  ·subst hji;exact hy.wpOp hi hS ⟨λ_=>hS,H⟩
  ·have:=ready_mono hj hji
   rw [H.1] at this
   cases this
 | succ fuel ih =>
  intro listed a w hfree hu hr hy hS H
  refine ⟨λh=>(by rw [h] at hr;cases hr),λj hj=>?_⟩
  by_cases hji:j=i
  ·subst hji;exact hy.wpOp hi hS ⟨λ_=>hS,H⟩
  ·have h1:=H.2 j (ready_mono hj hji)
   obtain ⟨hjun,oj,hoj,hall⟩:=mem_ready.1 hj
   have hiun:=(mem_ready.1 hr).1
   have hnot:∀e∈oj.after,Region.binds md e=true→e.on≠i:=λe he hb heq=>by
    grind
   have hjD:∀d∈D,j≠d:=λd hd e=>c04 hiun hu hD (e▸hd) hj
   have h2:=wpOp_putIf hoj (hfree j oj hoj hji hjun hnot) (λcs b=>hsel i oi cs b hi) (λcs b=>hsel j oj cs b hoj) hQ hy h1
   have hfree':∀k ok,ops[k]?=some ok→k≠i→(listed.setIfInBounds j true).getD k true=false →
    (∀e∈ok.after,Region.binds md e=true→e.on≠i)→oi.apart ops ok=true:=λk ok hk hki hun hno=>by
    refine hfree k ok hk hki ?_ hno
    by_cases hjk:j=k
    ·subst hjk;exact hjun
    ·rw [getD_set_ne true hjk] at hun;exact hun
   have hu':∀d∈D,(listed.setIfInBounds j true).getD d true=false:=λd hd=>by rw [getD_set_ne true (hjD d hd)];exact hu d hd
   have hoff:b5f ks ((listed.setIfInBounds i true).setIfInBounds j true)=false:=by
    rw [← Bool.not_eq_true,b5f,List.any_eq_true]
    rintro ⟨k,hks,hkt⟩
    rw [getD_set_ne true (hjD k (hk k hks)),getD_set_ne true (c23 hD (hk k hks)),hu k (hk k hks)] at hkt
    cases hkt
   refine wpOp_mono (λa' w' h3=>?_) h2
   have hS':=h3.2.1 hoff
   refine ⟨λ_=>hS',ih (listed.setIfInBounds j true) a' w' hfree' hu' (ready_mono hr (Ne.symm hji)) h3.1 hS' ?_⟩
   rw [Array.setIfInBounds_comm _ _ hji]
   exact h3.2.2
end
section
variable {P:Program} [Env P] {b:Base} {ops:Array Oper} {o:Oper} {T:List (Nat×AV)} {m m0:List (Nat×Option Row)} {nx nt d i fuel:Nat} {listed:Array Bool} {r:AV} {K:St→Prop} {ks:List Nat}
def WAk (P:Program) (b:Base) (ops:Array Oper) (m0:List (Nat×Option Row)) (ks:List Nat) (fuel:Nat) (listed:Array Bool) (S:St) (K:St→Prop):Prop :=
 Region.noSelect ops=true→∀ρ a w,RelT b.w ρ S.T S.nx S.nt a→RelC b ρ S.m S.nx w→(b5f ks listed=false→Cls b m0 w)→a8U P .any ops (a3x b (nq K)) (Cls b m0) ks fuel listed a w
theorem w3 [EnvAt P b] (i:Nat) (D:List Nat) (hi:ops[i]?=some o) (hf:Region.free .any ops listed i=true) (hr:(Region.ready .any ops listed).contains i=true) (hw:(b7F .any ops i D && (ks.all λk=>D.contains k) && D.all λd=>!listed.getD d true)=true) (hp:a6n o.op=true) (hg:o.guard=none)
 (hd:o.dst=some d) (hlt:Nat.blt d nt=true) (hq:QStep P o T m0 nx nt r) (hk:WAk P b ops m0 ks fuel (listed.setIfInBounds i true) ⟨(d,r) :: T,m,nx,nt⟩ K):WAk P b ops m0 ks (fuel+1) listed ⟨T,m,nx,nt⟩ K:=by
 intro hs ρ a w hT hC hS0
 simp only [Bool.and_eq_true,List.all_eq_true,List.contains_iff_mem,Bool.not_eq_true'] at hw
 obtain ⟨⟨h1,h2⟩,h3⟩:=hw
 have hoff:b5f ks listed=false:=by
  grind [b5f]
 have hS:=hS0 hoff
 obtain ⟨y,hy,hq⟩:=hq b ρ a w hT (hC.pinned hS)
 refine b3W hi (Region.noSelect_spec hs) (λc a w h=>absurd (I5 h) (by simp)) h1 h2 fuel listed a w (Region.free_spec hi hf) h3 (by simpa using hr) (v:=y) (.inl ⟨by simp [Region.wanted,hg],λw' hw'=>?_⟩) hS ?_
 ·have h1:=hq w' (hC.pinned hw')
  unfold Oper.quietAt at h1
  generalize hres:(execOp a.eval o).run P w'=res at *
  cases res with
  | ok n w'' =>
   obtain ⟨v,rfl⟩:=a8y hp hres
   simp only [Oper.quietUpon] at h1
   rw [h1.1,h1.2]
  | halt x w''=>simp only [Oper.quietUpon] at h1
 ·rw [hd]
  exact hk hs ρ _ w (hT.put hlt hy) hC λ_=>hS
def WBk (P:Program) (b:Base) (ops:Array Oper) (m0:List (Nat×Option Row)) (ks:List Nat) (fuel:Nat) (listed:Array Bool) (i:Nat) (S:St) (K:St→Prop):Prop :=
 Region.noSelect ops=true→∀ρ a w,RelT b.w ρ S.T S.nx S.nt a→RelC b ρ S.m S.nx w→wpOp P ops (a3x b (nq K)) i (λa' w'=>(b5f ks (listed.setIfInBounds i true)=false→Cls b m0 w')/\a8U P .any ops (a3x b (nq K)) (Cls b m0) ks fuel (listed.setIfInBounds i true) a' w') a w
theorem y8 (i:Nat) {S:St} (hr:Region.ready .any ops listed=[i]) (h:WBk P b ops m0 ks fuel listed i S K):WAk P b ops m0 ks (fuel+1) listed S K :=
 λhs ρ a w hT hC hS=>⟨λh0=>(by rw [hr] at h0;cases h0),λj hj=>by
  rw [hr] at hj
  rw [List.mem_singleton.1 hj]
  exact h hs ρ a w hT hC⟩
theorem c7D {S:St} (hr:Region.ready .any ops listed=[]) (h:K S):WAk P b ops m0 ks fuel listed S K:=λhs ρ a w hT hC hS=>by
 have hq:a3x b (nq K) .normal a w:=⟨ρ,S,h,hT,hC⟩
 cases fuel with
 | zero=>exact ⟨hr,hq⟩
 | succ f=>exact ⟨λ_=>hq,by rw [hr];simp⟩
theorem C8 (ms:List Nat) {S:St} (hi:ops[i]?=some o) (hg:o.guard=none)
 (h:WX P b ops o [] S (nq (λS'=>R0 b.n0 S'.m ms []=some m0/\WAk P b ops m0 ks fuel (listed.setIfInBounds i true) S' K))):WBk P b ops m0 ks fuel listed i S K:=by
 intro hs ρ a w hT hC
 unfold wpOp
 simp only [hi]
 rw [if_pos (by simp [Region.wanted,hg])]
 refine .inl (b6M (h ρ a w hT hC) ?_)
 rintro a' w' ⟨ρ',S',⟨h1,h2⟩,hT',hC'⟩
 exact ⟨λ_=>hC'.cls h1,h2 hs ρ' a' w' hT' hC' λ_=>hC'.cls h1⟩
theorem a6D {S:St} (hi:ops[i]?=some o) (hg:o.guard=none) (hoff:b5f ks (listed.setIfInBounds i true)=true)
 (h:WX P b ops o [] S (nq (λS'=>WAk P b ops m0 ks fuel (listed.setIfInBounds i true) S' K))):WBk P b ops m0 ks fuel listed i S K:=by
 intro hs ρ a w hT hC
 unfold wpOp
 simp only [hi]
 rw [if_pos (by simp [Region.wanted,hg])]
 refine .inl (b6M (h ρ a w hT hC) ?_)
 rintro a' w' ⟨ρ',S',h2,hT',hC'⟩
 exact ⟨λe=>(by rw [hoff] at e;cases e),h2 hs ρ' a' w' hT' hC' λe=>(by rw [hoff] at e;cases e)⟩
theorem U4 {w0:Base} (n:Nat) (ms ks:List Nat) {id:Nat} {l:List Oper} {Q:Exit→St→Prop} (hm:P.follows .mixedOrders=true) (hs:Region.noSelect l.toArray=true) (hn:l.toArray.size=n) (hK:R0 nx m ms []=some m0)
 (h:∀r0,WAk P ⟨w0.w,nx,r0,w0.ws,w0.keep,w0.kb,w0.E,w0.hE⟩ l.toArray m0 ks n (Array.replicate n false) ⟨T,m,nx,nt⟩ K) (hq:∀S',K S'→Q .normal S'):W P w0 (.region id l.toArray true) ⟨T,m,nx,nt⟩ Q:=by
 intro ρ a w hT hC
 have hC1:RelC ⟨w0.w,nx,ρ,w0.ws,w0.keep,w0.kb,w0.E,w0.hE⟩ ρ m nx w.drew:=let h:=hC.drew;⟨h.rows,h.apart,h.below,⟨Nat.le_refl _,λ_ _=>Z⟩,h.kept,h.inner⟩
 subst hn
 have h1:=h ρ hs ρ a w.drew hT hC1 λ_=>RelC.cls (ms:=ms) hC1 hK
 refine wp_mono (wp_region_any hm (b1e _ _ _ _ h1)) ?_
 rintro e a' w' ⟨ρ',S',h2,h3,h4⟩
 cases e<;>simp only [nq] at h2
 exact ⟨ρ',S',hq S' h2,h3,h4.rows,h4.apart,h4.below,⟨Nat.le_trans hC.pin.1 h4.pin.1,λi hi=>(h4.pin.2 i (Nat.lt_of_lt_of_le hi hC.pin.1)).trans (hC.pin.2 i hi)⟩,h4.kept,h4.inner⟩
end
variable {D:List Nat} {S:St} {by_ dst e i src:Nat} {w:World} {x:Operand} {z z0:Value} {zs:List Value} {ρ:Nat→Value}
def pkR:List AV→AV
 | [x]=>x
 | xs=>.tup xs
theorem c05 {w0:World} {nx:Nat}:∀{avs:List AV} {ys:List Value},RelVs w0 ρ nx avs ys→RelV w0 ρ nx (pkR avs) (if h:ys.toArray.size=1 then ys.toArray[0] else .tuple ys.toArray)
 | [],ys,h=>by simp only [RelVs] at h;subst h;exact ⟨[],Z,Z⟩
 | [x],ys,h=>by
  simp only [RelVs] at h
  obtain ⟨y,t,rfl,h1,rfl⟩:=h
  exact h1
 | x :: y :: r,ys,h=>by
  have h0:=h
  simp only [RelVs] at h
  obtain ⟨a,t,rfl,h1,b,t2,rfl,h2,h3⟩:=h
  rw [dif_neg (by simp)]
  exact ⟨_,Z,h0⟩
def d1f (tb:List (Nat×TyI)) (l:List ResultVar) (K:AV→List (Nat×Option Row)→Nat→Prop) (e:Exit) (S:St):Prop:=(e=.normal∨e=.ret)/\∃xs,X4 tb S l []=some xs/\K (pkR xs) S.m S.nx
section
variable {P:Program} [Env P] {w0:Base} {ops:Array Oper} {tb:List (Nat×TyI)} {o:Oper} {rest:List Oper} {T:List (Nat×AV)} {m:List (Nat×Option Row)} {nx nt d:Nat} {Q:Exit→St→Prop}
theorem a2n [EnvAt P w0] (G:Good P tb) {f:FuncId} {fn:Func} {c:Code} {as:Array Operand} {ts:Array TypeId} {args:List AV} {l:List ResultVar} {n:Nat} (hd:o.dst=some d) (hlt:Nat.blt d nt=true) (ho:o.op=.call { callee:=.value (.func f),args:=as,argTypes:=ts })
 (hf:P.funcs[f]?=some fn) (hb:fn.body=some c) (hname:(fn.name == "runtime.NumGoroutine")=false) (hl:fn.results=l.toArray) (hn:fn.ntmps=n) (hlen:Nat.ble args.length n=true) (ha:evL T as.toList []=some args)
 (h:∀b:Base,[EnvAt P b]→b.n0=nx→W P b c ⟨a6m args 0,m,nx,n⟩ (d1f tb l (λr m1 n1=>Nat.ble nx n1=true/\WL P w0 ops rest ⟨(d,r) :: T,m1,n1,nt⟩ Q))):WX P w0 ops o rest ⟨T,m,nx,nt⟩ Q:=by
 rename_i hw0
 intro ρ a w hT hC
 obtain ⟨bs,h1,h2⟩:=a67 hT ha
 simp at h1
 subst h1
 have hcal:Callable P f:=⟨fn,hf,hname,by rw [hb];rfl⟩
 have hrun:(execOp a.eval o).run P w=.ok (.enter f (as.toList.map a.eval).toArray) w:=by
  simp [execOp,ho,resolve,Deferred.ofValue,invoke,Act.eval,a0L hcal,← Array.toList_map]
 unfold Oper.wp
 rw [hrun,Oper.upon_enter]
 let b:Base:=⟨w0.w,nx,ρ,w,w0.keep,λc hc=>Nat.lt_of_lt_of_le (w0.kb c hc) hC.kept.1,w0.E,w0.hE⟩
 have hen:EnvAt P b:=⟨hw0.e⟩
 have hCb:RelC b ρ m nx w:=⟨hC.rows,hC.apart,hC.below,⟨Nat.le_refl _,λ_ _=>Z⟩,⟨Nat.le_refl _,λ_ _=>Z,hC.kept.2.2⟩,hC.inner⟩
 have hlen':args.length<=n:=Nat.le_of_ble_eq_true hlen
 have hTb:=a3L (b:=b) (fn:=fn) (show RelVs b.w ρ nx args (as.toList.map a.eval) from h2) hlen' hn
 have hcalls:Calls P f (as.toList.map a.eval).toArray w (λen w'=>∃v ρ' r m1 n1,en=.returned v/\(∀i,i < nx→ρ' i=ρ i)/\RelV w0.w ρ' n1 r v/\RelC b ρ' m1 n1 w'/\Nat.ble nx n1=true/\WL P w0 ops rest ⟨(d,r) :: T,m1,n1,nt⟩ Q):=by
  refine calls_of_wp hf hb ?_
  refine wp_mono (h b Z ρ _ w hTb hCb) ?_
  have fin:∀(ρ':Nat→Value) (S:St) (a':Act) (w':World),(∃xs,X4 tb S l []=some xs/\Nat.ble nx S.nx=true/\WL P w0 ops rest ⟨(d,pkR xs) :: T,S.m,S.nx,nt⟩ Q)→RelT b ρ' S.T S.nx S.nt a'→RelC b ρ' S.m S.nx w' →
   a'.defers=[]/\∃v,(results fn a'.tmps).run P w'=.ok v w'/\∃u ρ' r m1 n1,Ending.returned v=.returned u/\(∀i,i < nx→ρ' i=ρ i)/\RelV w0.w ρ' n1 r u/\RelC b ρ' m1 n1 w'/\Nat.ble nx n1=true/\WL P w0 ops rest ⟨(d,r) :: T,m1,n1,nt⟩ Q:=by
   intro ρ' S a' w' ⟨xs,e1,e2,e3⟩ hT' hC'
   obtain ⟨ys,avs,g1,g2,g3⟩:=a0q G hT' hC' e1
   simp at g1
   subst g1
   exact ⟨hT'.defers,_,X5 hl g3,_,ρ',pkR xs,S.m,S.nx,Z,λi hi=>hC'.pin.2 i hi,c05 g2,hC',e2,e3⟩
  rintro e a' w' ⟨ρ',S,⟨hq,e1⟩,hT',hC'⟩
  rcases hq with rfl | rfl
  ·exact fin ρ' S a' w' e1 hT' hC'
  ·exact fin ρ' S a' w' e1 hT' hC'
 refine hcalls.mono λex w' ⟨v,ρ',r,m1,n1,he,q1,q2,q3,q4,hk⟩=>?_
 subst he
 have hn1:=Nat.le_of_ble_eq_true q4
 refine hk ρ' _ w' ?_ ⟨q3.rows,q3.apart,q3.below,⟨Nat.le_trans hC.pin.1 hn1,λi hi=>by rw [q1 i (Nat.lt_of_lt_of_le hi hC.pin.1)];exact hC.pin.2 i hi⟩,⟨Nat.le_trans hC.kept.1 q3.kept.1,λc hc=>(q3.kept.2.1 c hc).trans (hC.kept.2.1 c hc),q3.kept.2.2⟩,q3.inner⟩
 rw [hd]
 have hT':RelT w0 ρ' T n1 nt a:=⟨λt x hx=>(hT.tmps t x hx).mono hn1 q1,hT.size,hT.defers⟩
 exact hT'.put hlt q2
end
def a2L (s:ByteArray):List Int:=s.data.toList.map λb=>(b.toNat:Int)
theorem a0A {s:ByteArray}:(a2L s).length=s.size:=by simp [a2L]
section
variable {P:Program} [Env P] {w0:Base} {ops:Array Oper} {tb:List (Nat×TyI)} {o:Oper} {rest:List Oper} {T:List (Nat×AV)} {m:List (Nat×Option Row)} {nx nt d:Nat} {Q:Exit→St→Prop}
theorem RelC.byt (hC:RelC w0 ρ m nx w) {id:Nat} {bs:List Int} (hm:mem m id=some (.byt bs)):∃g cap cur e fz,ρ id=.slice (some ⟨g,0,none⟩) bs.length cap/\w0.w.heap.size<=g/\w.heap[g]?=some (.cells cur e fz)/\bs.length<=cap/\bs.length<=fz.1/\cur.toList.take bs.length=bs.map (Value.int .u8):=(hC.rows id _ hm).2
theorem c7E {s:ByteArray} (G:Good P tb) (nx':Nat) (hn':Nat.beq nx' (Nat.succ nx)=true) (hd:o.dst=some d) (hlt:Nat.blt d nt=true) (ho:o.op=.convert src dst x) (hs:look src tb=some (.flat .str z)) (hd2:look dst tb=some (.slice e 1 by_ zs)) (he:look e tb=some (.flat (.int .u8) z0)) (hx:ev T x=some (.v (.string s)))
 (hk:WL P w0 ops rest ⟨(d,.own nx) :: T,(nx,some (.byt (a2L s))) :: m,nx',nt⟩ Q):WX P w0 ops o rest ⟨T,m,nx,nt⟩ Q:=by
 have hn'':=Nat.eq_of_beq_eq_true hn'
 subst hn''
 intro ρ a w hT hC
 have h1:=hT.ev hx
 simp only [RelV] at h1
 have hs':P.underlying src=some .string:=(G _ _ hs).1
 have hd':=(G _ _ hd2).1
 have he':P.underlying e=some (.int .u8):=(G _ _ he).1
 have hr:=Lib.run_convert_string_bytes (P:=P) w src dst e s hs' hd' he'
 have hr2:(execOp a.eval o).run P w=.ok (.value (.slice (some ⟨w.heap.size,0,none⟩) s.size (grownCap w s.size 0 e))) (Lib.bytesWorld w e s):=by
  simp only [execOp,ho,h1,hr,Sem.run_bind,Result.andThen_ok,Sem.run_pure]
 unfold Oper.wp
 rw [hr2,Oper.upon_value,hd]
 have hb2:Below w.heap.size w (Lib.bytesWorld w e s):=⟨Z,Z,Z,by rw [Lib.bytesWorld_size];omega,λk hk=>Lib.bytesWorld_at_old w e s k hk⟩
 have hge:=grownCap_ge w s.size 0 e
 refine hk (upd ρ nx (.slice (some ⟨w.heap.size,0,none⟩) s.size (grownCap w s.size 0 e))) _ _ ((hT.add _).put hlt ?_) (hC.addF hb2 (λp=>Z) ?_ (λb hb=>(by simp [blk] at hb;omega)))
 ·simp only [RelV]
  exact ⟨by omega,by rw [l3]⟩
 ·simp only [RowRel]
  refine ⟨w.heap.size,_,_,_,_,by rw [l3,a0A],hC.below.size,Lib.bytesWorld_at_new w e s,by rw [a0A];exact hge,?_,?_⟩
  ·rw [a0A]
   simp only [Lib.bytesCells,Array.size_append,Array.size_map,Array.size_replicate]
   simp
  ·rw [a0A]
   simp only [Lib.bytesCells,Array.toList_append,Array.toList_map]
   rw [List.take_append_of_le_length (by simp),List.take_of_length_le (by simp)]
   simp [a2L]
theorem RelC.bytCell (hC:RelC w0 ρ m nx w) {id:Nat} {bs:List Int} (hm:mem m id=some (.byt bs)) {g l c:Nat} (hg:ρ id=.slice (some ⟨g,0,none⟩) l c) {j:Nat} {b:Int} (hj:bs[j]?=some b):w.cell? ⟨g,j * 1+0,none⟩=some (.int .u8 b):=by
 obtain ⟨g',cap,cur,e,fz,hρ,_,hb,_,_,htake⟩:=hC.byt hm
 have hgg:g=g':=by rw [hg] at hρ;simp at hρ;exact hρ.1
 subst hgg
 have hjl:j < bs.length:=(List.getElem?_eq_some_iff.1 hj).1
 have h1:(cur.toList.take bs.length)[j]?=some (.int .u8 b):=by rw [htake,List.getElem?_map,hj];rfl
 rw [List.getElem?_take_of_lt hjl] at h1
 rw [S6 hb]
 simpa using h1
theorem c24 {id:Nat} {bs:List Int} (G:Good P tb) (ho:o.op=.convert src dst x) (hs:look src tb=some (.slice e 1 by_ zs)) (he:look e tb=some (.flat (.int .u8) z0)) (hd:look dst tb=some (.flat .str z))
 (hx:ev T x=some (.own id)) (hm:mem m id=some (.byt bs)):QStep P o T m nx nt (.v (.string (strOfNums bs))) :=
 QStep.run λw0 ρ a w hT hC=>by
  refine ⟨.string (strOfNums bs),by simp only [RelV],λw' hC'=>?_⟩
  have h:=hT.ev hx
  simp only [RelV] at h
  obtain ⟨g,cap,cur,e',fz,hρ,hB,hb,hcap,hfz,htake⟩:=hC'.byt hm
  have hr:ReadsAt w' 1 (bs.map λn=>[.int .u8 n]) (a.eval x):=by
   rw [h.2,hρ]
   refine ⟨some ⟨g,0,none⟩,cap,by simp,by simpa using hcap,λc hc=>?_,λh0=>⟨⟨g,0,none⟩,Z,(Array.getElem?_eq_some_iff.1 hb).1,λi c hi j u hj=>?_⟩⟩
   ·obtain ⟨n,_,rfl⟩:=List.mem_map.1 hc
    exact ⟨Z,λu hu=>by rw [List.mem_singleton.1 hu];rfl⟩
   ·rw [List.getElem?_map] at hi
    cases hbi:bs[i]? with
    | none=>simp [hbi] at hi
    | some b =>
     simp [hbi] at hi
     subst hi
     have hj0:j=0:=by
      grind
     subst hj0
     simp at hj
     subst hj
     have:=hC'.bytCell hm hρ hbi
     simpa [Addr.add_lit] using this
  simp [execOp,ho,b6P G hs he hd hr]
end
end Go.Rf
namespace Go.Rf
open Go
variable {k:Int} {r:Rec} {x:Lg}
theorem b5g {s:ByteArray}:strOfNums (a2L s)=s:=by
 obtain ⟨⟨l⟩⟩:=s
 simp only [strOfNums,a2L,List.map_map]
 congr 1
 congr 1
 conv=>rhs;rw [← List.map_id l]
 refine List.map_congr_left λb _=>?_
 simp
theorem b5h {s:ByteArray} (h:Z0 s=true):n7 s 10=false :=
 a2B (i:=s.size) (λj hj=>by
  have:=E3.mp h j hj
  simp only [a4C,Bool.and_eq_true,decide_eq_true_eq] at this
  simp only [beq_eq_false_iff_ne,ne_eq]
  omega) (Nat.le_refl _)
theorem c25 {k:Int} {x:Rec} (hk:0<=k) (h:C9 x=true):n7 (U1 (F9 k x)) 10=false:=by
 obtain ⟨_,_,h1,h2,_⟩:=a0O h
 have hs:=a7d (F9 k x) (F9 k x).size
 unfold U1 F9
 exact J2 (J2 (J2 (J2 (J2 (J2 (a3P hk J) (a1v (by decide))) (b5h h1)) (a1v (by decide))) (b5h h2)) (a1v (by decide))) (a3P (by unfold F9 at hs;omega) J)
theorem b3X {D P:ByteArray} {n:Nat} (h:∀j,j < n→okN D j=true):∀j,j < n→U3 (D++P) j=U3 D j:=λj hj=>by
 have h1:=(b3d (D:=D) (P:=P) (n:=j) (λi hi=>h i J)).2
 have h2:=h j hj
 have h3:=(b3c h1 (a3Q h2) (Nat.le_of_lt (a7g h2).1)).2
 rw [U3,U3,h3]
theorem b5i {S:ByteArray} (hS:w4 S (l9 S)=S.size) (hN:l9 S < 60) (hr:C9 r=true) :
 l9 (S++F2 (l9 S) r)=l9 S+1/\w4 (S++F2 (l9 S) r) (l9 S+1)=(S++F2 (l9 S) r).size/\U3 (S++F2 (l9 S) r) (l9 S)=r/\∀j,j < l9 S→U3 (S++F2 (l9 S) r) j=U3 S j:=by
 obtain ⟨h1,h2⟩:=b3d (D:=S) (P:=F2 (l9 S) r) (n:=l9 S) S9.1
 have h10:=c25 (k:=(l9 S:Int)) (x:=r) J hr
 have hrest:H7 (S++F2 (l9 S) r) (l9 S)=F2 (l9 S) r:=by
  rw [H7,h2,hS]
  exact a5x
 have hline0:F2 (l9 S) r=U1 (F9 (l9 S) r)++(⟨#[10]⟩:ByteArray)++⟨#[]⟩:=by
  apply a05
  rw [N3,F2]
  simp
 have hst:n7 (F2 (l9 S) r) 10=true:=by rw [hline0];exact (b0x (u:=10) h10).2
 have hfi:m5 (F2 (l9 S) r) 10=U1 (F9 (l9 S) r):=by
  grind [a5w]
 obtain ⟨h3,h4⟩:=b9g (s:=U1 (F9 (l9 S) r)) (k:=(l9 S:Int)) (x:=r) J hr Z
 have hok:okN (S++F2 (l9 S) r) (l9 S)=true:=by
  rw [okN,okL,hrest,hst,hfi,h3,decide_eq_true J];rfl
 have hl:N4 (S++F2 (l9 S) r) (l9 S)=U1 (F9 (l9 S) r):=by rw [N4,hrest,hfi]
 have hsz:(F2 (l9 S) r).size=(U1 (F9 (l9 S) r)).size+1:=by rw [F2,ByteArray.size_append];rfl
 have hp:w4 (S++F2 (l9 S) r) (l9 S+1)=(S++F2 (l9 S) r).size:=by
  rw [a0s,h2,hS,hl,ByteArray.size_append,hsz]
  omega
 refine ⟨a0F (s4 h1 hok) (b0B J),hp,?_,b3X S9.1⟩
 rw [U3,hl,h4]
theorem b7G (h:apN x r=0):okLg x=true/\C9 r=true/\¬ x.n=60/\apE x r=⟨x.d,x.p++F2 x.n r,x.n+1⟩:=by
 grind [apN,apG,b8G]
def sx (x:Lg):ByteArray:=x.d++x.p
def apS (x:Lg) (r:Rec):ByteArray:=sx x++F2 (l9 (sx x)) r
theorem a5O (h:okLg x=true):(x.d.size+x.p.size<=30000)/\w4 (sx x) (l9 (sx x))=(sx x).size/\w4 x.d (l9 x.d)=x.d.size/\(l9 (sx x):Int)=x.n:=by
 grind [okLg,sx]
theorem b6t (h:apN x r=0):l9 (apS x r)=l9 (sx x)+1/\w4 (apS x r) (l9 (sx x)+1)=(apS x r).size/\U3 (apS x r) (l9 (sx x))=r/\∀j,j < l9 (sx x)→U3 (apS x r) j=U3 (sx x) j:=by
 obtain ⟨h1,h2,h3,_⟩:=b7G h
 have h4:=a5O h1
 have h5:=T4 (s:=sx x)
 exact b5i h4.2.1 J h2
theorem c06 (h:apN x r=0):(apE x r).d++(apE x r).p=apS x r:=by
 obtain ⟨h1,h2,h3,h4⟩:=b7G h
 rw [h4,apS,(a5O h1).2.2.2]
 exact ByteArray.append_assoc.symm
theorem c7F (h:apN x r=0):(apE x r).n=((l9 (sx x)+1:Nat):Int):=by
 obtain ⟨h1,h2,h3,h4⟩:=b7G h
 have:=(a5O h1).2.2.2
 grind
theorem c7G (h:apN x r=0):(apS x r).size<=25380:=by
 grind [b6t,T4]
theorem c26 (h:apN x r=0):okLg (apE x r)=true:=by
 obtain ⟨h1,h2,h3,h4⟩:=b7G h
 obtain ⟨g1,g2,_⟩:=b6t h
 have hc:=c06 h
 have hl:=c7G h
 have hs:(apE x r).d.size+(apE x r).p.size=(apS x r).size:=by rw [← hc];exact ByteArray.size_append.symm
 refine b6p J (by rw [hc,g1,hs];exact g2) ?_ (by rw [hc,g1,c7F h])
 rw [h4]
 exact (a5O h1).2.2.1
theorem c9K (h1:okLg x=true) (h2:C9 r=true) (h3:¬ x.n=60):lrT (apE x r)=lrT x++[r]/\okLg (apE x r)=true/\(apE x r).n=x.n+1/\(apE x r).d=x.d:=by
 have h:=(b8G h1 h2 h3).2
 obtain ⟨g1,g2,g3,g4⟩:=b6t h
 have ho:=c26 h
 refine ⟨?_,ho,by rw [(b8G h1 h2 h3).1],by rw [(b8G h1 h2 h3).1]⟩
 rw [(b3V ho).1,(b3V h1).1,c06 h,g1]
 have e:pre (U3 (apS x r)) (l9 (sx x)+1)=pre (U3 (apS x r)) (l9 (sx x))++[U3 (apS x r) (l9 (sx x))]:=by simp [pre,List.range_succ]
 rw [e,g3,b2j g4]
 rfl
theorem b6u (h:okLg x=true):((lrT x).length:Int)=x.n:=by
 rw [(b3V h).1,G5]
 exact (a5O h).2.2.2
theorem b3Y {s:ByteArray}:s++(⟨#[]⟩:ByteArray)=s:=by
 apply a05;rw [N3];simp
theorem b7H {t:ByteArray} (h:a7P t=true):okLg (rcE t)=true/\syE (rcE t)=rcE t:=by
 have hs:t.size<=30000:=by simpa [a7P] using h
 obtain ⟨e1,e2,e3⟩:=c64 hs
 have hle:=T4 (s:=t)
 have hp:(J3 t (l9 t)).toNat=w4 t (l9 t):=rfl
 rw [hp] at e1
 have hsz:(t.extract 0 (w4 t (l9 t))).size=w4 t (l9 t):=by rw [U2 hle.2.1];omega
 have happ:t.extract 0 (w4 t (l9 t))++t.extract (w4 t (l9 t)) t.size=t:=by
  simp
 have hd:=b0C (D:=t.extract 0 (w4 t (l9 t))) (P:=t.extract (w4 t (l9 t)) t.size) (n:=l9 t) (by rw [happ];exact S9.1) (by rw [happ,hsz];exact Nat.le_refl _)
 rw [happ] at hd
 have hn:l9 (t.extract 0 (w4 t (l9 t)))=l9 t:=a0F hd.1 (b0B (by rw [← hd.2,hsz];exact Nat.le_refl _))
 have hpd:w4 (t.extract 0 (w4 t (l9 t))) (l9 (t.extract 0 (w4 t (l9 t))))=(t.extract 0 (w4 t (l9 t))).size:=by rw [hn,← hd.2,hsz]
 have hok:okLg (rcE t)=true:=by
  grind [b6p,b3Y]
 refine ⟨hok,?_⟩
 rw [(c9j hok).1]
 rw [e1]
 show Lg.mk (t.extract 0 (w4 t (l9 t))++⟨#[]⟩) _ _=_
 rw [b3Y]
theorem c27 {t:ByteArray}:(rcE t).d.size+(rcE t).p.size<=30000:=by
 unfold rcE
 split
 ·have hle:=T4 (s:=t)
  have:(t.extract 0 (J3 t (l9 t)).toNat).size<=25380:=by
   grind [J3,U2]
  show (t.extract 0 (J3 t (l9 t)).toNat).size+0<=30000
  omega
 ·exact Nat.zero_le _
def crG (x:Lg) (k:Int):Bool:=okLg x && o8 k 0 x.p.size
def crQ (x:Lg) (k:Int):ByteArray:=x.p.extract ((0:Int)).toNat k.toNat
def crB (x:Lg) (k:Int) (t:Bool):List Int:=if t && decide (0 < k) then (a2L (crQ x k)).set (k - 1).toNat (IntKind.u8.wrap (255 - (a2L (crQ x k)).getD (k - 1).toNat default)) else a2L (crQ x k)
def crE (x:Lg) (k:Int) (t:Bool):ByteArray:=if crG x k then x.d++strOfNums (crB x k t) else ⟨#[]⟩
theorem c9L {x:Lg} {k:Int} {t:Bool} (h:crG x k=false):crE x k t=⟨#[]⟩/\crG x k=false:=by rw [crE,h];exact ⟨Z,Z⟩
theorem c9M {x:Lg} {k:Int} {t:Bool} (h:okLg x=true) (h2:o8 k 0 x.p.size=true) (h3:¬ (t=true/\0 < k)):crE x k t=x.d++strOfNums (a2L (crQ x k))/\crG x k=true:=by
 grind [crG,crE,crB]
theorem c28 {x:Lg} {k:Int} {t:Bool}:(crB x k t).length<=x.p.size:=by
 grind [crQ,a0A,a2C,crB]
theorem b5j {x:Lg} {k:Int} {t:Bool}:(crE x k t).size<=x.d.size+x.p.size:=by
 have h:=c28 (x:=x) (k:=k) (t:=t)
 unfold crE
 split
 ·rw [ByteArray.size_append,strOfNums_size];omega
 ·exact Nat.zero_le _
theorem c9N {x:Lg} {k:Int} {t:Bool} (h:crG x k=true):a7P (crE x k t)=true:=by
 have hs:=b5j (x:=x) (k:=k) (t:=t)
 simp only [crG,Bool.and_eq_true] at h
 have ho:=(a5O h.1).1
 rw [a7P,decide_eq_true J]
theorem c07 {s:ByteArray} (h:a7P s=true):lrT (rcE s)=pre (U3 s) (l9 s):=by
 have hs:s.size<=30000:=by simpa [a7P] using h
 obtain ⟨e1,_,_⟩:=c64 hs
 have hle:=T4 (s:=s)
 have hp:(J3 s (l9 s)).toNat=w4 s (l9 s):=rfl
 rw [hp] at e1
 have hsz:(s.extract 0 (w4 s (l9 s))).size=w4 s (l9 s):=by rw [U2 hle.2.1];omega
 have happ:s.extract 0 (w4 s (l9 s))++s.extract (w4 s (l9 s)) s.size=s:=by
  simp
 have hd:=b0C (D:=s.extract 0 (w4 s (l9 s))) (P:=s.extract (w4 s (l9 s)) s.size) (n:=l9 s) (by rw [happ];exact S9.1) (by rw [happ,hsz];exact Nat.le_refl _)
 have hr:=b3X (D:=s.extract 0 (w4 s (l9 s))) (P:=s.extract (w4 s (l9 s)) s.size) (n:=l9 s) hd.1
 rw [happ] at hd hr
 have hn:l9 (s.extract 0 (w4 s (l9 s)))=l9 s:=a0F hd.1 (b0B (by rw [← hd.2,hsz];exact Nat.le_refl _))
 rw [(b3V (b7H h).1).1,e1]
 show pre (U3 (s.extract 0 (w4 s (l9 s))++⟨#[]⟩)) (l9 (s.extract 0 (w4 s (l9 s))++⟨#[]⟩))=_
 rw [b3Y,hn]
 exact b2j λj hj=>(hr j hj).symm
theorem c7H (h:crG x k=true):okLg x=true:=by simp only [crG,Bool.and_eq_true] at h;exact h.1
theorem c08 {s t:ByteArray}:l9 s<=l9 (s++t)/\∀j,j < l9 s→U3 (s++t) j=U3 s j:=by
 have hu:=b3d (D:=s) (P:=t) (n:=l9 s) S9.1
 refine ⟨?_,b3X S9.1⟩
 rcases Nat.lt_or_ge (l9 (s++t)) (l9 s) with hlt | hge
 ·have:=hu.1 _ hlt
  rw [S9.2] at this
  cases this
 ·exact hge
theorem c9O (h:crG x k=true):sx x=crE x k false++x.p.extract k.toNat x.p.size:=by
 simp only [crG,Bool.and_eq_true] at h
 obtain ⟨e,_⟩:=c9M (t:=false) h.1 h.2 (by rintro ⟨g,_⟩;cases g)
 rw [e,b5g,sx,ByteArray.append_assoc]
 congr 1
 apply a05
 rw [N3,crQ,N2,N2]
 have hl:x.p.data.toList.length=x.p.size:=Array.length_toList
 rw [List.take_of_length_le (l:=List.drop k.toNat x.p.data.toList) (by rw [List.length_drop];omega)]
 simp
theorem c29 (h:crG x k=true):a7P (crE x k false)=true/\okLg (rcE (crE x k false))=true/\(lrT (rcE (crE x k false))).length<=(lrT x).length/\∀j,j < (lrT (rcE (crE x k false))).length→(lrT (rcE (crE x k false))).getD j default=(lrT x).getD j default:=by
 have ho:=c9N (t:=false) h
 have hx:=c7H h
 obtain ⟨g1,g2⟩:=c08 (s:=crE x k false) (t:=x.p.extract k.toNat x.p.size)
 rw [← c9O h] at g1 g2
 refine ⟨ho,(b7H ho).1,?_,λj hj=>?_⟩
 ·rw [c07 ho,(b3V hx).1,G5,G5];exact g1
 ·rw [c07 ho,G5] at hj
  rw [c07 ho,(b3V hx).1,a4J hj]
  exact (g2 j hj).symm.trans (a4J (Nat.lt_of_lt_of_le hj g1)).symm
def csT (t:ByteArray) (i:Nat):ByteArray:=(g8 t 10).getD i default
theorem c7I {t:ByteArray} {i:Nat}:(csT t i).size<=t.size:=by
 unfold csT
 rw [List.getD_eq_getElem?_getD]
 cases h:(g8 t 10)[i]? with
 | none=>exact Nat.zero_le _
 | some x =>
  rcases List.mem_append.1 (List.mem_of_getElem? h) with h | h
  ·exact a7S _ x h
  simp_all
section
variable {m:Mach} {y:Lg} {t:ByteArray}
end
end Go.Rf
namespace Go.Rf
end Go.Rf
namespace Go.Rf
open Go
variable {c:Int} {cs:Nat→ByteArray} {i k:Nat} {l:List Rec} {m:Mach} {r:Rec} {rs:List Route} {sl:List Slot} {x:Ifc}
def Pn (q:Que) (w:Wtr):Prop:=w∈q.wa∨∃x∈q.sl,pnP x=true/\wOf x=w
theorem b3Z {q:Que} {w:Wtr}:∀i,w∈pnL q i↔w∈q.wa∨∃j,j < i/\pnP (q.sl.getD j default)=true/\wOf (q.sl.getD j default)=w
 | 0=>⟨.inl,λh=>by
  rcases h with h | ⟨j,h,_⟩
  ·exact h
  ·omega⟩
 | i+1=>by
  have ih:=@b3Z q w i
  show w∈(if pnP _ then _ else _:List Wtr)↔_
  split
  ·next h =>
   rw [List.mem_append,List.mem_singleton,ih]
   constructor
   ·rintro ((g | ⟨j,h1,h2⟩) | g)
    ·exact .inl g
    ·exact .inr ⟨j,by omega,h2⟩
    ·exact .inr ⟨i,by omega,h,g.symm⟩
   ·rintro (g | ⟨j,h1,h2,h3⟩)
    ·exact .inl (.inl g)
    ·by_cases e:j=i
     ·subst e;exact .inr h3.symm
     ·exact .inl (.inr ⟨j,by omega,h2,h3⟩)
  ·next h =>
   rw [ih]
   constructor
   ·rintro (g | ⟨j,h1,h2⟩)
    ·exact .inl g
    ·exact .inr ⟨j,by omega,h2⟩
   ·rintro (g | ⟨j,h1,h2,h3⟩)
    ·exact .inl g
    ·by_cases e:j=i
     ·subst e;exact absurd h2 h
     ·exact .inr ⟨j,by omega,h2,h3⟩
theorem c3a {q:Que} (h:QF q) {z:Int}:z∈E6 q↔∃w,Pn q w/\w.q=z:=by
 unfold E6
 rw [List.mem_map]
 constructor
 ·rintro ⟨w,h1,h2⟩
  rw [b3B h,b3Z] at h1
  refine ⟨w,?_,h2⟩
  rcases h1 with g | ⟨j,g1,g2,g3⟩
  ·exact .inl g
  ·exact .inr ⟨_,j5.mpr ⟨j,by rw [h.sl.len];exact g1,Z⟩,g2,g3⟩
 ·rintro ⟨w,h1,h2⟩
  refine ⟨w,?_,h2⟩
  rw [b3B h,b3Z]
  rcases h1 with g | ⟨x,g1,g2,g3⟩
  ·exact .inl g
  ·obtain ⟨j,hj,rfl⟩:=j5.mp g1
   exact .inr ⟨j,by rw [← h.sl.len];exact hj,g2,g3⟩
theorem b6v {l:List Slot} {k:Nat} {x:Slot} {P:Slot→Prop} (hk:k < l.length):(∃y∈l.set k x,P y)↔P x∨∃j,j < l.length/\j≠k/\P (l.getD j default):=by
 constructor
 ·grind [a3V]
 ·rintro (p | ⟨j,h1,h2,p⟩)
  ·exact ⟨x,j5.mpr ⟨k,by rw [List.length_set];exact hk,by rw [E5 hk,if_pos Z]⟩,p⟩
  ·grind [j5]
theorem c09 {l:List Slot} {k:Nat} {P:Slot→Prop} (hk:k < l.length):(∃y∈l,P y)↔P (l.getD k default)∨∃j,j < l.length/\j≠k/\P (l.getD j default):=by
 grind [j5]
theorem c7J {q:Que} (h:QF q) (hs:setd q=false) {w:Wtr}:Pn (stQ q) w↔Pn q w:=by
 obtain ⟨k,v,r,n⟩:=b3v h hs
 have hl:k < q.sl.length:=by rw [h.sl.len];exact n.kl
 rw [n.eq]
 show (w∈stW q∨∃x∈q.sl.set k ⟨1,v.q,v.p⟩,pnP x=true/\wOf x=w)↔(w∈q.wa∨∃x∈q.sl,pnP x=true/\wOf x=w)
 rw [b6v (P:=λx=>pnP x=true/\wOf x=w) hl,c09 (P:=λx=>pnP x=true/\wOf x=w) hl,n.wa,List.mem_cons]
 have h1:(pnP (⟨1,v.q,v.p⟩:Slot)=true/\wOf ⟨1,v.q,v.p⟩=w)↔w=v:=by
  constructor
  ·rintro ⟨_,e⟩;exact e.symm
  ·rintro rfl;exact ⟨H0.mpr (.inl Z),Z⟩
 rw [h1]
 rcases n.st with ⟨_,f2,f3⟩ | ⟨_,_,f2,_,f4⟩
 ·grind [H0]
 ·grind [a3h,H0]
theorem b7I:∀{n:Nat} {q:Que},QF q→∀{w:Wtr},Pn (a6w n q) w↔Pn q w
 | 0,q,_,w=>Iff.rfl
 | n+1,q,h,w=>by
  unfold a6w
  cases hs:setd q
  ·simp_all [b7I,b0Y,c7J]
  ·simp only [if_true]
theorem b7J {q:Que} (h:QF q) {w:Wtr}:Pn (a14 q) w↔Pn q w:=b7I h
theorem SlF.ne (h:SlF sl) {j k:Nat} (hj:j < 4) (hk:k < 4) (hjk:j≠k) (h1:(sl.getD j default).s≠0) (h2:(sl.getD k default).s≠0):(sl.getD j default).q≠(sl.getD k default).q:=by
 rcases Nat.lt_or_ge j k with g | g
 ·exact h.dif j k g hk h1 h2
 ·exact λe=>h.dif k j J hj h2 h1 e.symm
theorem a7Y {α:Type} [Inhabited α] {l:List α} {k:Nat} (hk:k < l.length):l.set k (l.getD k default)=l:=by
 simp_all
theorem b7K (h:SlF sl):∀i,i<=4→∀j,j < i→(sl.getD j default).s=1→0<=G0 sl true i/\((G0 sl true i).toNat=j∨lessW (wOf (sl.getD (G0 sl true i).toNat default)) (wOf (sl.getD j default))=true)
 | 0,_,j,hj,_=>by omega
 | i+1,hi,j,hj,h1=>by
  have ih:=b7K h i J
  cases hc:a4L sl true (G0 sl true i) i
  ·rw [a2F hc]
   by_cases e:j=i
   ·subst e
    by_cases hb:G0 sl true j < 0
    ·rw [a5F h1 hb] at hc;cases hc
    ·rw [a4N h1 hb,if_pos Z] at hc
     have hbl:=@a1n sl true j
     have h1':=a3f (sl:=sl) (most:=true) j J
     refine ⟨by omega,.inr ?_⟩
     rw [a1x (show (wOf (sl.getD (G0 sl true j).toNat default)).q≠(wOf (sl.getD j default)).q from h.ne J J J J J),hc]
     rfl
   grind
  ·grind [a2E,a5E,a4N,R5]
theorem b7L (h:SlF sl):∀i,i<=4→∀j,j < i→(sl.getD j default).s=1→0<=G0 sl false i/\((G0 sl false i).toNat=j∨lessW (wOf (sl.getD j default)) (wOf (sl.getD (G0 sl false i).toNat default))=true)
 | 0,_,j,hj,_=>by omega
 | i+1,hi,j,hj,h1=>by
  have ih:=b7L h i J
  cases hc:a4L sl false (G0 sl false i) i
  ·rw [a2F hc]
   by_cases e:j=i
   ·subst e
    by_cases hb:G0 sl false j < 0
    ·rw [a5F h1 hb] at hc;cases hc
    ·rw [a4N h1 hb,if_neg (by decide)] at hc
     have hbl:=@a1n sl false j
     have h1':=a3f (sl:=sl) (most:=false) j J
     refine ⟨by omega,.inr ?_⟩
     rw [a1x (show (wOf (sl.getD j default)).q≠(wOf (sl.getD (G0 sl false j).toNat default)).q from h.ne J J J J J),hc]
     rfl
   grind
  ·grind [a2E,a5E,a4N,R5]
theorem c3b {sl:List Slot} {most:Bool} (h:SlF sl) (hb:bstS sl most < 0):∀x∈sl,x.s≠1:=λx hx=>by
 obtain ⟨j,hj,rfl⟩:=j5.mp hx
 exact b0T sl.length |>.mp hb j hj
theorem c1a:freS sl < 0↔∀x∈sl,x.s≠0:=by
 grind [b2l,j5]
theorem a7Z {q:Que} (h:QF q):setd q=true↔(q.wa.length≠0→∀x∈q.sl,x.s≠0)/\∀x∈q.sl,x.s=1→∀w∈q.wa,lessW (wOf x) w=true:=by
 have h4:=h.sl.len
 constructor
 ·intro hs
  by_cases h0:q.wa.length=0
  ·grind
  ·have hf:freS q.sl < 0:=by
    grind [b6b]
   refine ⟨λ_=>c1a.mp hf,λx hx h1 w hw=>?_⟩
   obtain ⟨j,hj,rfl⟩:=j5.mp hx
   obtain ⟨g1,g2⟩:=b7L h.sl 4 (Nat.le_refl _) j J h1
   have eb:bstS q.sl false=G0 q.sl false 4:=by unfold bstS;rw [h4]
   rw [b3s h0 hf J,eb] at hs
   have h2:lessW (wOf (q.sl.getD j default)) (q.wa.getD 0 default)=true:=by
    rcases g2 with g2 | g2
    ·rw [← g2];exact hs
    ·exact R5 g2 hs
   obtain ⟨i,hi,rfl⟩:=j5.mp hw
   rcases Nat.eq_zero_or_pos i with g | g
   ·subst g;exact h2
   ·exact R5 h2 (a5H.mp h.pw 0 i g hi).1
 ·grind [b3r,c1a,b6c,b3s,H5]
section
variable {q:Que} {w:Wtr}
theorem b7M (hb:0<=bstS q.sl true):∀x∈(a4P q).sl,x.s=2∨x∈q.sl:=λx hx=>by
 obtain ⟨k,e1,e2,e3⟩:=H5 hb
 have hx:x∈q.sl.set (bstS q.sl true).toNat ⟨2,(q.sl.getD (bstS q.sl true).toNat default).q,(q.sl.getD (bstS q.sl true).toNat default).p⟩:=hx
 grind
theorem c1b (h:QF q) (hs:setd q=true) (hb:0<=bstS q.sl true):setd (a4P q)=true:=by
 rw [a7Z (b6d h hb)]
 rw [a7Z h] at hs
 refine ⟨λhw x hx=>?_,λx hx h1 w hw=>?_⟩
 ·rcases b7M hb x hx with g | g
  ·omega
  ·exact hs.1 hw x g
 ·rcases b7M hb x hx with g | g
  ·omega
  ·exact hs.2 x g h1 w hw
theorem c7K (h:QF q) (hb:0<=bstS q.sl true):Pn (a4P q) w↔Pn q w/\w.q≠tkI q.sl:=by
 obtain ⟨k,e1,e2,e3⟩:=H5 hb
 have hk:k < 4:=by rw [← h.sl.len];exact e2
 have et:tkI q.sl=(q.sl.getD k default).q:=by unfold tkI;rw [e1,Int.toNat_natCast]
 rw [et]
 unfold Pn a4P tkS
 rw [e1,Int.toNat_natCast]
 dsimp only
 rw [b6v (P:=λx=>pnP x=true/\wOf x=w) e2,c09 (P:=λx=>pnP x=true/\wOf x=w) e2]
 constructor
 ·rintro (g | ⟨g,_⟩ | ⟨j,h1,h2,h3,rfl⟩)
  ·exact ⟨.inl g,λe=>(h.wa w g).2.2 _ (j5.mpr ⟨k,e2,Z⟩) J e.symm⟩
  ·grind [H0]
  ·refine ⟨.inr (.inr ⟨j,h1,h2,h3,Z⟩),?_⟩
   exact h.sl.ne (by rw [← h.sl.len];exact h1) hk h2 (by rcases H0.mp h3 with g | g<;>omega) J
 ·rintro ⟨g | ⟨_,rfl⟩ | g,h2⟩
  ·exact .inl g
  ·exact absurd Z h2
  ·exact .inr (.inr g)
theorem c3c (h:QF q) (hb:0<=bstS q.sl true) (hw:w∈actL (a4P q).sl):(w.q=tkI q.sl/\∃y∈q.sl,y.s=1/\wOf y=w)∨w∈actL q.sl:=by
 obtain ⟨k,e1,e2,e3⟩:=H5 hb
 obtain ⟨x,hx,h1,h2⟩:=B3.mp hw
 have hx:x∈q.sl.set (bstS q.sl true).toNat ⟨2,(q.sl.getD (bstS q.sl true).toNat default).q,(q.sl.getD (bstS q.sl true).toNat default).p⟩:=hx
 have et:tkI q.sl=(q.sl.getD k default).q:=by unfold tkI;rw [e1,Int.toNat_natCast]
 rw [e1,Int.toNat_natCast] at hx
 rcases a3V e2 hx with rfl | ⟨j,hj,_,rfl⟩
 ·refine .inl ⟨by rw [et,← h2];rfl,_,j5.mpr ⟨k,e2,Z⟩,e3,h2⟩
 ·exact .inr (B3.mpr ⟨_,j5.mpr ⟨j,hj,Z⟩,h1,h2⟩)
theorem c9P (h:QF q) {i:Int} (hf:0<=r5 q.sl i) (ha:(q.sl.getD (r5 q.sl i).toNat default).s=2):Pn ⟨edS q.sl i,q.wa⟩ w↔Pn q w:=by
 obtain ⟨k,e1,e2,e3,e4⟩:=a1M hf
 rw [b7q J,e1,Int.toNat_natCast]
 rw [e1,Int.toNat_natCast] at ha
 unfold Pn
 dsimp only
 rw [b6v (P:=λx=>pnP x=true/\wOf x=w) e2,c09 (P:=λx=>pnP x=true/\wOf x=w) e2]
 have h1:¬ (pnP zSl=true/\wOf zSl=w):=λg=>by cases g.1
 have h2:¬ (pnP (q.sl.getD k default)=true/\wOf (q.sl.getD k default)=w):=λg=>by rcases H0.mp g.1 with g | g<;>omega
 grind
theorem c7L (h:QF q) {i:Int} (hf:0<=r5 q.sl i) (ha:(q.sl.getD (r5 q.sl i).toNat default).s=2) (hw:w∈actL (edS q.sl i)):w∈actL q.sl/\w.q≠i:=by
 obtain ⟨k,e1,e2,e3,e4⟩:=a1M hf
 have hk:k < 4:=by rw [← h.sl.len];exact e2
 rw [b7q J,e1,Int.toNat_natCast] at hw
 obtain ⟨x,hx,h1,rfl⟩:=B3.mp hw
 rcases a3V e2 hx with rfl | ⟨j,hj,hjk,rfl⟩
 ·cases h1
 ·refine ⟨B3.mpr ⟨_,j5.mpr ⟨j,hj,Z⟩,h1,Z⟩,?_⟩
  rw [← e4]
  exact h.sl.ne (by rw [← h.sl.len];exact hj) hk hjk (by rcases u5.mp h1 with g | g<;>omega) e3
end
def Rt (rs:List Route) (k:Nat) (w:Wtr):Prop:=tgI rs w.q=k/\prI rs w.q=w.p
structure IG (rs:List Route) (k:Nat) (x:Ifc):Prop where
 f:IfF x
 s:setd x.qu=true
 ma:0<=x.ma/\x.ma<=16
 nd:x.st.Nodup
 ac:∀w∈actL x.qu.sl,w.q∈x.st/\Rt rs k w
 dn:∀j,0 < j→j < x.st.length→prI rs (x.st.getD j default) < prI rs (x.st.getD (j - 1) default)
 pp:∀w,Pn x.qu w→w.q∉x.st/\Rt rs k w
section
variable {rs:List Route} {k:Nat} {x:Ifc} {i:Int}
theorem IG.G (h:IG rs k x):IfG x:=⟨h.f,h.nd⟩
theorem IG.no3 (h:IG rs k x) {y:Slot} (hy:y∈x.qu.sl):y.s≠3:=λe=>(h.pp (wOf y) (.inr ⟨y,hy,H0.mpr (.inr e),Z⟩)).1 (h.ac (wOf y) (B3.mpr ⟨y,hy,u5.mpr (.inr e),Z⟩)).1
theorem IG.sb (h:IG rs k x) {y:Slot} (hy:y∈x.qu.sl) (h0:y.s≠0):y.s=1∨y.s=2:=by
 have h3:=h.no3 hy
 obtain ⟨j,hj,rfl⟩:=j5.mp hy
 have hb:=(h.f.qu.sl.ok j (by rw [← h.f.qu.sl.len];exact hj) h0).1
 omega
theorem IG.rt (h:IG rs k x) {y:Slot} (hy:y∈x.qu.sl) (h0:y.s≠0):Rt rs k (wOf y):=by
 rcases h.sb hy h0 with e | e
 ·exact (h.pp _ (.inr ⟨y,hy,H0.mpr (.inl e),Z⟩)).2
 ·exact (h.ac _ (B3.mpr ⟨y,hy,u5.mpr (.inl e),Z⟩)).2
theorem IG.off (h:IG rs k x) (ht:tgI rs i=k) (hn:i∉x.st) {w:Wtr}:Pn (a6x x.qu i (prI rs i)) w↔w=⟨i,prI rs i⟩∨Pn x.qu w:=by
 have stay:a6x x.qu i (prI rs i)=x.qu→Pn x.qu ⟨i,prI rs i⟩→(Pn (a6x x.qu i (prI rs i)) w↔w=⟨i,prI rs i⟩∨Pn x.qu w):=λe g=>by
  grind
 by_cases h1:0<=r5 x.qu.sl i
 ·obtain ⟨j,e1,e2,e3,e4⟩:=a1M h1
  have hm:x.qu.sl.getD j default∈x.qu.sl:=j5.mpr ⟨j,e2,Z⟩
  have hs1:(x.qu.sl.getD j default).s=1:=by
   rcases h.sb hm e3 with e | e
   ·exact e
   ·exact absurd (h.ac _ (B3.mpr ⟨_,hm,u5.mpr (.inl e),Z⟩)).1 (by show ¬ (x.qu.sl.getD j default).q∈x.st;rw [e4];exact hn)
  have e5:(x.qu.sl.getD j default).p=prI rs i:=by rw [← e4];exact (h.rt hm e3).2.symm
  have hw:wOf (x.qu.sl.getD j default)=⟨i,prI rs i⟩:=by
   show (⟨(x.qu.sl.getD j default).q,(x.qu.sl.getD j default).p⟩:Wtr)=_
   rw [e4,e5]
  refine stay ?_ (.inr ⟨_,hm,H0.mpr (.inl hs1),hw⟩)
  have e6:ptS x.qu.sl i=x.qu.sl:=by
   rw [b4Z (by rw [e1,Int.toNat_natCast];omega),e1,Int.toNat_natCast]
   exact a7Y e2
  rw [b6h h1,e6]
 ·by_cases h2:0<=inW x.qu.wa i
  ·have hx:∃w∈x.qu.wa,w.q=i:=by
    rcases Classical.em (∃w∈x.qu.wa,w.q=i) with g | g
    ·exact g
    ·exact absurd (b69.mpr λw hw e=>g ⟨w,hw,e⟩) J
   obtain ⟨v,hv,e⟩:=hx
   have ew:v=⟨i,prI rs i⟩:=by
    have:=(h.pp v (.inl hv)).2.2
    rw [e] at this
    cases v
    grind
   exact stay (b6j J h2) (.inl (ew▸hv))
  ·rw [b6i J J]
   show (w∈insW x.qu.wa ⟨i,prI rs i⟩∨_)↔_
   rw [a3h]
   exact or_assoc
theorem IG.raise (h:IG rs k x) (hi:0<=i/\i<=7) (hp:0<=prI rs i/\prI rs i<=15) (ht:tgI rs i=k) (hn:i∉x.st):IG rs k (a4R x i (prI rs i))/\∀w,Pn (a4R x i (prI rs i)).qu w↔w=⟨i,prI rs i⟩∨Pn x.qu w:=by
 obtain ⟨g1,g2,g3⟩:=a4O h.f.qu hi hp
 have hP:∀w,Pn (a1L x.qu i (prI rs i)) w↔w=⟨i,prI rs i⟩∨Pn x.qu w:=λw=>by unfold a1L;rw [b7J (b3w h.f.qu hi hp).1,h.off ht hn]
 refine ⟨⟨b6g h.f hi hp,g2,h.ma,h.nd,λw hw=>?_,h.dn,λw hw=>?_⟩,hP⟩
 ·have hw:w∈actL (a1L x.qu i (prI rs i)).sl:=hw
  rw [g3] at hw
  exact h.ac w hw
 ·rcases (hP w).mp hw with rfl | g
  ·exact ⟨hn,ht,Z⟩
  ·exact h.pp w g
theorem IG.lv (h:IG rs k x) (hi:i∈x.st):lvl x.qu.sl i=prI rs i:=by
 have hf:=a3W (h.f.st i hi)
 obtain ⟨j,e1,e2,e3,e4⟩:=a1M hf
 unfold lvl
 rw [e1,Int.toNat_natCast,← e4]
 exact (h.rt (j5.mpr ⟨j,e2,Z⟩) e3).2.symm
theorem IG.run (h:IG rs k x):a7B x=if x.st.length=0 then 16 else prI rs (x.st.getD (x.st.length - 1) default):=by
 unfold a7B
 split
 ·rfl
 ·exact h.lv (j5.mpr ⟨x.st.length - 1,by omega,Z⟩)
theorem IG.take (h:IG rs k x) (ho:okT x=true):IG rs k (a3j x)/\∀w,Pn (a3j x).qu w↔Pn x.qu w/\w.q≠tkI x.qu.sl:=by
 obtain ⟨hb,hl⟩:=J7.mp ho
 have hP:∀w,Pn (a4P x.qu) w↔Pn x.qu w/\w.q≠tkI x.qu.sl:=λw=>c7K h.f.qu hb
 obtain ⟨k',e1,e2,e3⟩:=H5 hb
 have hm:x.qu.sl.getD k' default∈x.qu.sl:=j5.mpr ⟨k',e2,Z⟩
 have hr:prI rs (tkI x.qu.sl)=(x.qu.sl.getD (bstS x.qu.sl true).toNat default).p:=by
  unfold tkI
  rw [e1,Int.toNat_natCast]
  exact (h.rt hm J).2
 refine ⟨⟨(c2O h.G ho).f,c1b h.f.qu h.s hb,h.ma,(c2O h.G ho).nd,λw hw=>?_,λj hj0 hj=>?_,λw hw=>?_⟩,hP⟩
 ·rcases c3c h.f.qu hb hw with ⟨g1,y,y1,y2,rfl⟩ | g
  ·exact ⟨List.mem_append_right _ (List.mem_singleton.mpr g1),h.rt y1 J⟩
  ·exact ⟨List.mem_append_left _ (h.ac w g).1,(h.ac w g).2⟩
 ·have hj:j < (x.st++[tkI x.qu.sl]).length:=hj
  rw [List.length_append,List.length_cons,List.length_nil] at hj
  show prI rs ((x.st++[tkI x.qu.sl]).getD j default) < prI rs ((x.st++[tkI x.qu.sl]).getD (j - 1) default)
  rw [a8I (show j - 1 < x.st.length by omega)]
  rcases Nat.lt_or_ge j x.st.length with g | g
  ·rw [a8I g];exact h.dn j hj0 g
  ·rw [a8J g,show j - x.st.length=0 by omega]
   show prI rs (tkI x.qu.sl) < _
   rw [hr]
   have:b8A x<=a7B x:=Int.min_le_right _ _
   rw [h.run,if_neg J] at this
   grind
 ·obtain ⟨g1,g2⟩:=(hP w).mp hw
  refine ⟨λg=>?_,(h.pp w g1).2⟩
  rcases List.mem_append.mp g with g | g
  ·exact (h.pp w g1).1 g
  grind
theorem IG.leave (h:IG rs k x) (h0:x.st.length≠0):IG rs k (a2H x)/\∀w,Pn (a2H x).qu w↔Pn x.qu w:=by
 have hlm:=a3l h0
 obtain ⟨hf,ha⟩:=b7y h.G h0
 obtain ⟨k',e1,e2,e3,e4⟩:=a1M hf
 have h2:(x.qu.sl.getD (r5 x.qu.sl (M7 x)).toNat default).s=2:=by
  have hm:x.qu.sl.getD (r5 x.qu.sl (M7 x)).toNat default∈x.qu.sl:=by rw [e1,Int.toNat_natCast];exact j5.mpr ⟨k',e2,Z⟩
  have:=h.no3 hm
  rcases u5.mp ha with g | g
  ·exact g
  ·exact absurd g this
 have hQ:=a7y h.f.qu hf
 have hP:∀w,Pn (a4Q x.qu (M7 x)) w↔Pn x.qu w:=λw=>by unfold a4Q;rw [b7J hQ,c9P h.f.qu hf h2]
 refine ⟨⟨(c2Q h.G h0).f,(b6e h.f.qu hf).2,h.ma,(c2Q h.G h0).nd,λw hw=>?_,λj hj0 hj=>?_,λw hw=>?_⟩,hP⟩
 ·have hw:w∈actL (a14 ⟨edS x.qu.sl (M7 x),x.qu.wa⟩).sl:=hw
  rw [b0Z hQ] at hw
  obtain ⟨g1,g2⟩:=c7L h.f.qu hf h2 hw
  refine ⟨?_,(h.ac w g1).2⟩
  obtain ⟨j,hj,e⟩:=j5.mp (h.ac w g1).1
  refine (a7K J).mpr ⟨j,?_,e⟩
  by_cases ej:j=x.st.length - 1
  ·subst ej;exact absurd e.symm g2
  ·omega
 ·have hj:j < (x.st.take (x.st.length - 1)).length:=hj
  rw [List.length_take] at hj
  show prI rs ((x.st.take (x.st.length - 1)).getD j default) < prI rs ((x.st.take (x.st.length - 1)).getD (j - 1) default)
  rw [a3g J,a3g J]
  exact h.dn j hj0 J
 ·have g:=(hP w).mp hw
  exact ⟨λq=>(h.pp w g).1 (List.mem_of_mem_take q),(h.pp w g).2⟩
theorem IG.mask (h:IG rs k x) {v:Int} (hv:0<=v/\v<=16):IG rs k ⟨v,x.st,x.qu⟩:=⟨⟨h.f.qu,h.f.sn,h.f.st⟩,h.s,hv,h.nd,h.ac,h.dn,h.pp⟩
end
theorem b2P {rs:List Route} {a:Abs} {c:Nat}:∀n,(∀i,i < n→(a.po.getD i default=true/\(rs.getD i default).t=c)→0<=u9 rs a c n/\((rs.getD (u9 rs a c n).toNat default).p < (rs.getD i default).p∨((rs.getD (u9 rs a c n).toNat default).p=(rs.getD i default).p/\u9 rs a c n<=i)))/\(0<=u9 rs a c n→a.po.getD (u9 rs a c n).toNat default=true/\(rs.getD (u9 rs a c n).toNat default).t=c)
 | 0=>⟨λi hi=>by omega,λh=>by simp [u9] at h⟩
 | n+1=>by
  obtain ⟨ih1,ih2⟩:=@b2P rs a c n
  have hb:=@a3d rs a c n
  by_cases hc:(a.po.getD n default=true/\(rs.getD n default).t=c)/\(u9 rs a c n < 0∨(rs.getD n default).p < (rs.getD (u9 rs a c n).toNat default).p)
  ·rw [b3o hc.1.1 hc.1.2 hc.2]
   refine ⟨λi hi hci=>⟨by omega,?_⟩,λ_=>by rw [Int.toNat_natCast];exact hc.1⟩
   rw [Int.toNat_natCast]
   grind
  ·grind [u9]
theorem b2Q:∀i,(∀j,j < i→T3 (sl.getD j default)=true)→(actN sl i).length=i
 | 0,_=>rfl
 | i+1,h=>by rw [c0a (h i J),List.length_append,b2Q i (λj hj=>h j J)];rfl
theorem IG.next {a:Abs} (h:IG rs k x) (hst:a.st.getD k default=x.st) (hma:a.ma.getD k default=x.ma) (hr:∀i,i < 8→0<=(rs.getD i default).p/\(rs.getD i default).p<=15) (hpo:∀i,i < 8→((a.po.getD i default=true/\(rs.getD i default).t=k)↔∃w,Pn x.qu w/\w.q=i)):(okT x=true→B8 rs a k=tkI x.qu.sl)/\(okT x=false→B8 rs a k=-1):=by
 have h4:=h.f.qu.sl.len
 have hbl:=@a3d rs a k 8
 obtain ⟨m1,m2⟩:=@b2P rs a k 8
 by_cases hb:0<=bstS x.qu.sl true
 ·obtain ⟨j,e1,e2,e3⟩:=H5 hb
  have hm:x.qu.sl.getD j default∈x.qu.sl:=j5.mpr ⟨j,e2,Z⟩
  have ht:tkI x.qu.sl=(x.qu.sl.getD j default).q:=by unfold tkI;rw [e1,Int.toNat_natCast]
  obtain ⟨t1,t2⟩:=b6l h.f.qu.sl hb
  have hlt:=h.G.lt hb
  have hrt:=h.rt hm J
  have hp0:prI rs (x.qu.sl.getD j default).q=(x.qu.sl.getD j default).p:=hrt.2
  have hmin:∀w,Pn x.qu w→w=wOf (x.qu.sl.getD j default)∨lessW (wOf (x.qu.sl.getD j default)) w=true:=by
   rintro w (g | ⟨y,g1,g2,rfl⟩)
   ·exact .inr (((a7Z h.f.qu).mp h.s).2 _ hm e3 w g)
   ·obtain ⟨i,hi,rfl⟩:=j5.mp g1
    have hs1:(x.qu.sl.getD i default).s=1:=by
     rcases H0.mp g2 with g | g
     ·exact g
     ·exact absurd g (h.no3 g1)
    obtain ⟨q1,q2⟩:=b7K h.f.qu.sl 4 (Nat.le_refl _) i J hs1
    have eb:G0 x.qu.sl true 4=(j:Int):=by rw [← h4];exact e1
    rw [eb,Int.toNat_natCast] at q2
    grind
  obtain ⟨n,hn⟩:∃n:Nat,tkI x.qu.sl=n:=⟨(tkI x.qu.sl).toNat,by omega⟩
  have hq0:(x.qu.sl.getD j default).q=n:=by rw [← ht];exact hn
  have hc0:a.po.getD n default=true/\(rs.getD n default).t=k:=(hpo n J).mpr ⟨wOf (x.qu.sl.getD j default),.inr ⟨_,hm,H0.mpr (.inl e3),Z⟩,hq0⟩
  obtain ⟨g1,g2⟩:=m1 n J hc0
  obtain ⟨w,w1,w2⟩:=(hpo (u9 rs a k 8).toNat J).mp (m2 g1)
  have hwp:prI rs w.q=w.p:=(h.pp w w1).2.2
  rw [hq0] at hp0
  have hp0:(rs.getD n default).p=(x.qu.sl.getD j default).p:=hp0
  rw [w2] at hwp
  have hwp:(rs.getD (u9 rs a k 8).toNat default).p=w.p:=hwp
  have hbn:u9 rs a k 8=n:=by
   rcases hmin w w1 with g | g
   ·rw [g] at w2
    have w2:(x.qu.sl.getD j default).q=((u9 rs a k 8).toNat:Int):=w2
    omega
   ·rw [Y0] at g
    have g:(x.qu.sl.getD j default).p < w.p∨((x.qu.sl.getD j default).p=w.p/\(x.qu.sl.getD j default).q < w.q):=g
    omega
  have hok:okT x=true↔((x.qu.sl.getD j default).p < x.ma/\(x.qu.sl.getD j default).p < a7B x):=by
   unfold okT
   rw [J7,e1,Int.toNat_natCast]
   unfold b8A
   omega
  have htop:b5Z rs (a.st.getD k default)=prI rs (x.st.getD (x.st.length - 1) default):=by rw [hst];rfl
  have hrun:=h.run
  have h15:=hr n J
  rw [a98,hbn,Int.toNat_natCast,hma,htop,hst,hn]
  grind
 ·have hno:∀y∈x.qu.sl,y.s≠1:=c3b (most:=true) h.f.qu.sl J
  have ho:okT x=false:=by unfold okT;rw [a5G];exact λg=>hb g.1
  refine ⟨λg=>(by rw [ho] at g;cases g),λ_=>?_⟩
  by_cases hw:x.qu.wa.length=0
  ·rw [a98]
   refine if_pos (.inl ?_)
   rcases Int.lt_or_le (u9 rs a k 8) 0 with g | g
   ·exact g
   ·exfalso
    obtain ⟨w,w1,w2⟩:=(hpo (u9 rs a k 8).toNat J).mp (m2 g)
    rcases w1 with w1 | ⟨y,y1,y2,_⟩
    ·grind
    ·rcases H0.mp y2 with e | e
     ·exact hno y y1 e
     ·exact h.no3 y1 e
  ·have hall:=((a7Z h.f.qu).mp h.s).1 hw
   have hact:∀j,j < 4→T3 (x.qu.sl.getD j default)=true:=λj hj=>by
    have hm:x.qu.sl.getD j default∈x.qu.sl:=j5.mpr ⟨j,by omega,Z⟩
    rcases h.sb hm (hall _ hm) with e | e
    ·grind
    ·exact u5.mpr (.inl e)
   have hlen:=a5M (a5I h.f.qu.sl 4 (Nat.le_refl _)) (b:=x.st) (λq hq=>by
    obtain ⟨w,w1,w2⟩:=(a0G h4).mpr hq
    rw [← w2];exact (h.ac w w1).1)
   rw [b2Q 4 hact] at hlen
   have:=h.f.sn
   exact b62 (by rw [hst];omega)
structure MG (m:Mach):Prop where
 rt:okRts m.rs m.cp.length=true
 en:m.en.length=8
 ra:m.ra.length=8
 ok:∀k,k < m.cp.length→IG m.rs k (m.cp.getD k default)
theorem c9Q (h:a2G x=true) (h2:okRq rs x.qu k=true):IG rs k x:=by
 obtain ⟨f,s,ma,sr⟩:=b3G h
 simp only [a2G,a5Q,Bool.and_eq_true,decide_eq_true_eq,E3] at h
 obtain ⟨_,_,_,hl⟩:=h
 simp only [okRq,Bool.and_eq_true,E3] at h2
 obtain ⟨hs,hw⟩:=h2
 have hp:=a2j.mp sr
 have h4:=f.qu.sl.len
 have hsl:∀y∈x.qu.sl,y.s≠3/\(y.s=0∨Rt rs k (wOf y)):=λy hy=>by
  obtain ⟨j,hj,rfl⟩:=j5.mp hy
  exact a5J.mp (hs j J)
 have hnd:x.st.Nodup:=hp.nodup_iff.mpr (a5I f.qu.sl 4 (Nat.le_refl _))
 have hac:∀w∈actL x.qu.sl,w.q∈x.st/\Rt rs k w:=λw hw=>by
  grind [a0G,B3,u5]
 have hpp:∀w,Pn x.qu w→w.q∉x.st/\Rt rs k w:=by
  intro w hw'
  have key:w.q∈x.st→∃j,j < 4/\T3 (x.qu.sl.getD j default)=true/\(x.qu.sl.getD j default).q=w.q:=λg=>(N5 4).mp (hp.mem_iff.mp g)
  rcases hw' with g | ⟨y,y1,y2,rfl⟩
  ·refine ⟨λq=>?_,?_⟩
   ·obtain ⟨j,j1,j2,j3⟩:=key q
    exact (f.qu.wa w g).2.2 _ (j5.mpr ⟨j,by omega,Z⟩) (by rcases u5.mp j2 with e | e<;>omega) j3
   ·obtain ⟨i,hi,rfl⟩:=j5.mp g
    exact a2k.mp (hw i hi)
  ·obtain ⟨i,hi,rfl⟩:=j5.mp y1
   have e1:(x.qu.sl.getD i default).s=1:=by
    grind [H0]
   refine ⟨λq=>?_,?_⟩
   ·obtain ⟨j,j1,j2,j3⟩:=key q
    have hne:j≠i:=λe=>by subst e;rcases u5.mp j2 with e | e<;>omega
    exact f.qu.sl.ne j1 J hne (by rcases u5.mp j2 with e | e<;>omega) J j3
   grind
 have hdn:∀j,0 < j→j < x.st.length→lvl x.qu.sl (x.st.getD j default) < lvl x.qu.sl (x.st.getD (j - 1) default):=λj h0 hj=>by
  grind [lvD]
 have hlv:∀q∈x.st,lvl x.qu.sl q=prI rs q:=λq hq=>by
  obtain ⟨j,e1,e2,e3,e4⟩:=a1M (a3W (f.st q hq))
  unfold lvl
  rw [e1,Int.toNat_natCast,← e4]
  rcases (hsl _ (j5.mpr ⟨j,e2,Z⟩)).2 with g | g
  ·exact absurd g e3
  ·exact g.2.symm
 refine ⟨f,s,ma,hnd,hac,λj h0 hj=>?_,hpp⟩
 grind
theorem IG.ok (h:IG rs k x):a2G x=true/\okRq rs x.qu k=true:=by
 have h4:=h.f.qu.sl.len
 constructor
 ·simp only [a2G,a5Q,Bool.and_eq_true,decide_eq_true_eq,E3]
  refine ⟨v6.mpr h.ma,a7x.mpr ⟨h.f.qu,h.s⟩,a2j.mpr (b3C h.nd (λq hq=>(a0G h4).mp (h.f.st q hq)) (a5M (a5I h.f.qu.sl 4 (Nat.le_refl _)) λq hq=>?_)),λi hi=>?_⟩
  ·obtain ⟨w,w1,w2⟩:=(a0G h4).mpr hq
   rw [← w2];exact (h.ac w w1).1
  ·rcases Nat.eq_zero_or_pos i with g | g
   ·subst g;exact c0h
   ·refine c0i ?_
    rw [h.lv (j5.mpr ⟨i,hi,Z⟩),h.lv (j5.mpr ⟨i - 1,by omega,Z⟩)]
    exact h.dn i g hi
 ·simp only [okRq,Bool.and_eq_true,E3]
  refine ⟨λi hi=>a5J.mpr ?_,λi hi=>a2k.mpr (h.pp _ (.inl (j5.mpr ⟨i,hi,Z⟩))).2⟩
  have hm:x.qu.sl.getD i default∈x.qu.sl:=j5.mpr ⟨i,by omega,Z⟩
  refine ⟨h.no3 hm,?_⟩
  by_cases h0:(x.qu.sl.getD i default).s=0
  ·exact .inl h0
  ·exact .inr (h.rt hm h0)
theorem mG:W0 m=true↔MG m:=by
 constructor
 ·intro h
  have hF:=maF h
  simp only [W0,a7I,Bool.and_eq_true,decide_eq_true_eq,E3] at h
  exact ⟨hF.rt,hF.en,hF.ra,λk hk=>c9Q (h.2.2.2 k hk).1 (h.2.2.2 k hk).2⟩
 ·intro h
  simp only [W0,a7I,Bool.and_eq_true,decide_eq_true_eq,E3]
  exact ⟨h.rt,h.en,h.ra,λk hk=>(h.ok k hk).ok⟩
theorem MG.G (h:MG m):MaG m:=(maF (mG.mpr h)).g
theorem b5k {po:List Bool} {l:List Int} (hp:po.length=8) (hl:∀j,j < l.length→0<=l.getD j default/\l.getD j default<=7) {i:Nat}:∀n,n<=l.length→((b3J po l n).getD i default=true↔po.getD i default=true∨∃j,j < n/\l.getD j default=i)
 | 0,_=>⟨.inl,λh=>by
  rcases h with h | ⟨j,h,_⟩
  ·exact h
  ·omega⟩
 | n+1,hn=>by
  have ih:=b5k hp hl (i:=i) n J
  have hb:=hl n J
  rw [a0x,E5 (by rw [J8];omega)]
  grind
theorem b7N {m:Mach} (h:∀k,k < m.cp.length→QF (m.cp.getD k default).qu) {i:Nat}:∀n,n<=m.cp.length→((poN m n).getD i default=true↔∃c w,c < n/\Pn (m.cp.getD c default).qu w/\w.q=i)
 | 0,_=>by
  refine ⟨λg=>?_,λ⟨c,_,g,_⟩=>by omega⟩
  change (List.replicate 8 false).getD i default=true at g
  rw [List.getD_eq_getElem?_getD,List.getElem?_replicate] at g
  split at g<;>cases g
 | n+1,hn=>by
  have ih:=b7N h (i:=i) n J
  have hq:=h n J
  rw [a7L,b5k (B9 n) (λj hj=>b0c hq hj) _ (Nat.le_refl _),ih]
  have e:(∃j,j < (E6 (m.cp.getD n default).qu).length/\(E6 (m.cp.getD n default).qu).getD j default=(i:Int))↔∃w,Pn (m.cp.getD n default).qu w/\w.q=i:=by rw [← j5,c3a hq]
  grind
theorem MG.po (h:MG m) {i:Nat}:(y9 m).po.getD i default=true↔∃c w,c < m.cp.length/\Pn (m.cp.getD c default).qu w/\w.q=i:=b7N (λk hk=>(h.ok k hk).f.qu) _ (Nat.le_refl _)
theorem MG.pok (h:MG m) {i k:Nat} (hk:k < m.cp.length):((y9 m).po.getD i default=true/\(m.rs.getD i default).t=k)↔∃w,Pn (m.cp.getD k default).qu w/\w.q=i:=by
 rw [h.po]
 constructor
 ·rintro ⟨⟨c,w,g1,g2,g3⟩,g4⟩
  have:=((h.ok c g1).pp w g2).2.1
  rw [g3] at this
  have:(m.rs.getD i default).t=c:=this
  grind
 ·rintro ⟨w,g1,g2⟩
  refine ⟨⟨k,w,hk,g1,g2⟩,?_⟩
  have:=((h.ok k hk).pp w g1).2.1
  rw [g2] at this
  exact this
theorem MG.pr (h:MG m) {i:Nat} (hi:i < 8):0<=(m.rs.getD i default).p/\(m.rs.getD i default).p<=15:=((C7.mp h.rt).2.2 i hi).1
theorem MG.tg (h:MG m) {i:Nat} (hi:i < 8):(m.rs.getD i default).t=tgM m i/\tgM m i < m.cp.length:=by
 have:=((C7.mp h.rt).2.2 i hi).2
 unfold tgM
 omega
theorem MG.st {m:Mach} {k:Nat} (hk:k < m.cp.length):(y9 m).st.getD k default=(m.cp.getD k default).st:=a0w (f:=λx:Ifc=>x.st) hk
theorem MG.mak (hk:k < m.cp.length):(y9 m).ma.getD k default=(m.cp.getD k default).ma:=a0w (f:=λx:Ifc=>x.ma) hk
theorem MG.nx (h:MG m) {k:Nat} (hk:k < m.cp.length):(okT (m.cp.getD k default)=true→B8 m.rs (y9 m) k=tkI (m.cp.getD k default).qu.sl)/\(okT (m.cp.getD k default)=false→B8 m.rs (y9 m) k=-1):=(h.ok k hk).next (MG.st hk) (MG.mak hk) (λi hi=>h.pr hi) (λi _=>h.pok hk)
theorem MG.put (h:MG m) {k:Nat} {x:Ifc} (hx:IG m.rs k x):MG ⟨m.rs,m.en,m.ra,m.cp.set k x⟩:=by
 refine ⟨by show okRts m.rs (m.cp.set k x).length=true;rw [List.length_set];exact h.rt,h.en,h.ra,λj hj=>?_⟩
 have hj:j < (m.cp.set k x).length:=hj
 rw [List.length_set] at hj
 show IG m.rs j ((m.cp.set k x).getD j default)
 by_cases e:k=j
 ·grind
 ·rw [List.getD_eq_getElem?_getD,List.getElem?_set_ne e,← List.getD_eq_getElem?_getD];exact h.ok j hj
theorem b6w {m m':Mach} (h:m.cp=m'.cp):∀n,poN m n=poN m' n
 | 0=>rfl
 | n+1=>by rw [a7L,a7L,b6w h n,h]
theorem c4j (h:MG m) {l:List Bool} (hl:l.length=8) (hi:∀i,i < 8→(l.getD i default=true↔∃c w,c < m.cp.length/\Pn (m.cp.getD c default).qu w/\w.q=i)):(y9 m).po=l :=
 b0u (i:=8) (by rw [hl];exact B9 _) (λj hj=>by rw [Bool.eq_iff_iff,hi j hj];exact h.po) (by rw [show (y9 m).po.length=8 from B9 _];exact Nat.le_refl _)
theorem b6x (h:MG m) {i:Nat} (hi:i < 8):b1G m.rs (y9 m) i=a3m m i:=by
 have:=MG.st (m:=m) (h.tg hi).2
 unfold b1G a3m
 show (m.en.getD i default && (m.ra.getD i default && !a9v ((y9 m).st.getD (tgM m i) default) i))=_
 rw [this]
theorem b1f (h:MG m):∀n,n<=8→∀k,k < m.cp.length→IG m.rs k ((R6 m n).getD k default)/\((R6 m n).getD k default).st=(m.cp.getD k default).st/\((R6 m n).getD k default).ma=(m.cp.getD k default).ma/\∀w,Pn ((R6 m n).getD k default).qu w↔Pn (m.cp.getD k default).qu w∨∃i,i < n/\a3m m i=true/\tgM m i=k/\w=⟨(i:Int),prI m.rs i⟩
 | 0,_,k,hk=>⟨h.ok k hk,Z,Z,λw=>⟨.inl,λg=>by
  rcases g with g | ⟨i,g,_⟩
  ·exact g
  ·omega⟩⟩
 | n+1,hn,k,hk=>by
  obtain ⟨i1,i2,i3,i4⟩:=b1f h n J k hk
  obtain ⟨t1,t2⟩:=h.tg (i:=n) J
  cases hc:a3m m n
  ·grind [a1S]
  ·rw [a1R hc,E5 (by rw [I8];exact t2)]
   by_cases e:tgM m n=k
   ·rw [if_pos e,e]
    have hn':(n:Int)∉((R6 m n).getD k default).st:=by
     grind [a3m,b3I]
    obtain ⟨r1,r2⟩:=i1.raise (i:=(n:Int)) J (h.pr J) (by rw [← e];exact t1) hn'
    refine ⟨r1,i2,i3,λw=>(r2 w).trans ?_⟩
    grind
   grind
theorem c4k (h:MG m):∀n,n<=8→a6z m n=a7t m.rs (y9 m) n
 | 0,_=>rfl
 | n+1,hn=>by
  have ih:=c4k h n J
  cases hc:a3m m n
  ·rw [a1Q hc,c2k (by rw [b6x h J];exact hc),ih]
  ·rw [a1P hc,c2j (by rw [b6x h J];exact hc),ih]
theorem b2R {rs:List Route} {a:Abs} (ha:a.po.length=8) {j:Nat} (hj:j < 8):∀n,n<=8→((a4a rs a n).getD j default=true↔a.po.getD j default=true∨(j < n/\b1G rs a j=true))
 | 0,_=>⟨.inl,λh=>by
  rcases h with h | h
  ·exact h
  ·omega⟩
 | n+1,hn=>by
  have ih:=b2R (rs:=rs) ha hj n J
  cases hc:b1G rs a n
  ·grind [c2m]
  ·grind [c2l,a8H]
theorem b5l {α:Type} {f:Ifc→α} [Inhabited α] {a b:List Ifc} (hl:a.length=b.length) (h:∀k,k < a.length→f (a.getD k default)=f (b.getD k default)):a.map f=b.map f:=by
 refine List.ext_getElem (by simp [hl]) λk h1 h2=>?_
 grind
theorem c1c (h:MG m):MG (b08 m):=by
 refine ⟨by show okRts m.rs (R6 m 8).length=true;rw [I8];exact h.rt,h.en,by show (a6z m 8).length=8;rw [a4W];exact h.ra,λk hk=>?_⟩
 have hk:k < (R6 m 8).length:=hk
 rw [I8] at hk
 exact (b1f h 8 (Nat.le_refl _) k hk).1
theorem c7M (h:MG m):y9 (b08 m)=b9A m.rs (y9 m):=by
 have hs:=c1c h
 have hl:(R6 m 8).length=m.cp.length:=I8 8
 have e1:(R6 m 8).map (λx:Ifc=>x.ma)=m.cp.map (λx:Ifc=>x.ma):=b5l (f:=λx:Ifc=>x.ma) hl (λk hk=>(b1f h 8 (Nat.le_refl _) k J).2.2.1)
 have e2:(R6 m 8).map (λx:Ifc=>x.st)=m.cp.map (λx:Ifc=>x.st):=b5l (f:=λx:Ifc=>x.st) hl (λk hk=>(b1f h 8 (Nat.le_refl _) k J).2.1)
 have e3:(y9 (b08 m)).po=a4a m.rs (y9 m) 8:=c4j hs (by rw [a8H];exact B9 _) λi hi=>by
  rw [b2R (B9 _) hi 8 (Nat.le_refl _),b6x h hi,h.po]
  show _↔∃c w,c < (R6 m 8).length/\Pn ((R6 m 8).getD c default).qu w/\w.q=i
  rw [hl]
  constructor
  ·rintro (⟨c,w,g1,g2,g3⟩ | ⟨_,g⟩)
   ·exact ⟨c,w,g1,((b1f h 8 (Nat.le_refl _) c g1).2.2.2 w).mpr (.inl g2),g3⟩
   ·exact ⟨tgM m i,⟨(i:Int),prI m.rs i⟩,(h.tg hi).2,((b1f h 8 (Nat.le_refl _) _ (h.tg hi).2).2.2.2 _).mpr (.inr ⟨i,hi,g,Z,Z⟩),Z⟩
  ·rintro ⟨c,w,g1,g2,g3⟩
   rcases ((b1f h 8 (Nat.le_refl _) c g1).2.2.2 w).mp g2 with g | ⟨j,j1,j2,j3,rfl⟩
   ·exact .inl ⟨c,w,g1,g,g3⟩
   ·have ej:j=i:=by
     have g3:(j:Int)=i:=g3
     omega
    subst ej;exact .inr ⟨hi,j2⟩
 show (⟨m.en,a6z m 8,(y9 (b08 m)).po,(R6 m 8).map (λx:Ifc=>x.ma),(R6 m 8).map (λx:Ifc=>x.st)⟩:Abs)=⟨m.en,a7t m.rs (y9 m) 8,a4a m.rs (y9 m) 8,m.cp.map (λx:Ifc=>x.ma),m.cp.map (λx:Ifc=>x.st)⟩
 rw [e1,e2,e3,c4k h 8 (Nat.le_refl _)]
theorem b6y {m:Mach} (h:MG m) {k:Nat} (hk:k < m.cp.length) {x:Ifc} (hx:IG m.rs k x) {l:List Bool} (hl:l.length=8) (hp:∀i,i < 8→(l.getD i default=true↔(∃w,Pn x.qu w/\w.q=i)∨((y9 m).po.getD i default=true/\¬ (m.rs.getD i default).t=k))):y9 ⟨m.rs,m.en,m.ra,m.cp.set k x⟩=⟨m.en,m.ra,l,(y9 m).ma.set k x.ma,(y9 m).st.set k x.st⟩:=by
 have hM:=h.put hx
 have e3:(y9 ⟨m.rs,m.en,m.ra,m.cp.set k x⟩).po=l:=c4j hM hl λi hi=>by
  rw [hp i hi,h.po]
  show _↔∃c w,c < (m.cp.set k x).length/\Pn ((m.cp.set k x).getD c default).qu w/\w.q=i
  rw [List.length_set]
  constructor
  ·rintro (⟨w,g⟩ | ⟨⟨c,w,g1,g2,g3⟩,g4⟩)
   ·exact ⟨k,w,hk,by rw [E5 hk,if_pos Z];exact g.1,g.2⟩
   ·have hc:¬ k=c:=λe=>g4 (by
     have:=((h.ok c g1).pp w g2).2.1
     rw [g3] at this
     have:(m.rs.getD i default).t=c:=this
     omega)
    exact ⟨c,w,g1,by rw [E5 hk,if_neg hc];exact g2,g3⟩
  ·rintro ⟨c,w,g1,g2,g3⟩
   rw [E5 hk] at g2
   by_cases e:k=c
   ·grind
   ·rw [if_neg e] at g2
    refine .inr ⟨⟨c,w,g1,g2,g3⟩,?_⟩
    have:=((h.ok c g1).pp w g2).2.1
    rw [g3] at this
    have:(m.rs.getD i default).t=c:=this
    omega
 show (⟨m.en,m.ra,(y9 ⟨m.rs,m.en,m.ra,m.cp.set k x⟩).po,(m.cp.set k x).map (λx:Ifc=>x.ma),(m.cp.set k x).map (λx:Ifc=>x.st)⟩:Abs)=⟨m.en,m.ra,l,(m.cp.map (λx:Ifc=>x.ma)).set k x.ma,(m.cp.map (λx:Ifc=>x.st)).set k x.st⟩
 simp_all
theorem c7N {s:MStep} (h:MG m) (hv:T6 m.cp.length s=true):(stM m s).2.2=(a4K m.rs (y9 m) s).2.2/\((stM m s).2.2=true→((stM m s).2.1=(a4K m.rs (y9 m) s).2.1/\y9 (stM m s).1=(a4K m.rs (y9 m) s).1)/\MG (stM m s).1):=by
 obtain ⟨sk,sq,sc,sv⟩:=s
 have hcc:=λhk=>b1H (n:=m.cp.length) (k:=sk) (q:=sq) (c:=sc) (v:=sv) hv hk
 have hqq:=λhk=>b9B (n:=m.cp.length) (k:=sk) (q:=sq) (c:=sc) (v:=sv) hv hk
 by_cases h1:sk=1
 ·obtain ⟨q,rfl⟩:∃q:Nat,sq=q:=⟨sq.toNat,by have:=hqq (.inl h1);omega⟩
  rw [sm1 h1,mk1 h1]
  refine ⟨Z,λ_=>⟨⟨Z,?_⟩,⟨h.rt,h.en,by show (m.ra.set q true).length=8;rw [List.length_set];exact h.ra,h.ok⟩⟩⟩
  show (⟨m.en,m.ra.set q true,poN ⟨m.rs,m.en,m.ra.set q true,m.cp⟩ m.cp.length,m.cp.map (λx:Ifc=>x.ma),m.cp.map (λx:Ifc=>x.st)⟩:Abs)=_
  rw [b6w (m:=⟨m.rs,m.en,m.ra.set q true,m.cp⟩) (m':=m) Z]
  rfl
 by_cases h2:sk=2
 ·grind [sm2,mk2,c7M,c1c]
 by_cases h3:sk=3
 ·obtain ⟨c,rfl⟩:∃c:Nat,sc=c:=⟨sc.toNat,by have:=hcc (.inl h3);omega⟩
  have hc:c < m.cp.length:=by have:=hcc (.inl h3);omega
  obtain ⟨n1,n2⟩:=h.nx hc
  cases ho:okT (m.cp.getD c default)
  ·grind [c9l,d04]
  ·have hb:=b0f (h.ok c hc).G ho
   have en:=n1 ho
   obtain ⟨t1,t2⟩:=(h.ok c hc).take ho
   rw [sm3 h3 ho,mk3 h3 (by rw [en];omega)]
   refine ⟨Z,λ_=>⟨⟨en.symm,?_⟩,h.put t1⟩⟩
   have e:=b6y h hc t1 (l:=(y9 m).po.set (B8 m.rs (y9 m) c).toNat false) (by rw [List.length_set];exact B9 _) λi hi=>by
    have hpl:(y9 m).po.length=8:=B9 _
    rw [E5 (by rw [hpl,en];omega),en]
    by_cases e:(tkI (m.cp.getD c default).qu.sl).toNat=i
    ·rw [if_pos e]
     refine ⟨λg=>(by cases g),λg=>?_⟩
     rcases g with ⟨w,g1,g2⟩ | ⟨g1,g2⟩
     ·grind
     ·exfalso
      refine g2 ?_
      obtain ⟨k',e1,e2,e3⟩:=H5 (J7.mp ho).1
      have hr:=(h.ok c hc).rt (j5.mpr ⟨k',e2,Z⟩) J
      have ht:tkI (m.cp.getD c default).qu.sl=((m.cp.getD c default).qu.sl.getD k' default).q:=by unfold tkI;rw [e1,Int.toNat_natCast]
      have:=hr.1
      rw [← e,ht]
      exact this
    ·rw [if_neg e]
     by_cases et:(m.rs.getD i default).t=c
     ·constructor
      ·intro g
       obtain ⟨w,w1,w2⟩:=(h.pok hc).mp ⟨g,et⟩
       grind
      ·rintro (⟨w,w1,w2⟩ | ⟨_,g⟩)
       ·exact ((h.pok hc).mpr ⟨w,((t2 w).mp w1).1,w2⟩).1
       ·exact absurd et g
     ·constructor
      ·grind
      ·rintro (⟨w,w1,w2⟩ | ⟨g,_⟩)
       ·exact ((h.pok hc).mpr ⟨w,((t2 w).mp w1).1,w2⟩).1
       ·exact g
   show y9 ⟨m.rs,m.en,m.ra,m.cp.set c (a3j (m.cp.getD c default))⟩=_
   rw [e,en]
   show (⟨m.en,m.ra,_,(y9 m).ma.set c (m.cp.getD c default).ma,(y9 m).st.set c ((m.cp.getD c default).st++[tkI (m.cp.getD c default).qu.sl])⟩:Abs)=_
   rw [← MG.mak hc,a7Y (by show c < (m.cp.map _).length;rw [List.length_map];exact hc),← MG.st hc]
   rfl
 by_cases h4:sk=4
 ·obtain ⟨c,rfl⟩:∃c:Nat,sc=c:=⟨sc.toNat,by have:=hcc (.inr (.inl h4));omega⟩
  have hc:c < m.cp.length:=by have:=hcc (.inr (.inl h4));omega
  by_cases ho:(m.cp.getD c default).st.length=0
  ·grind [c9m,d05,MG.st]
  ·obtain ⟨t1,t2⟩:=(h.ok c hc).leave ho
   rw [sm4 h4 ho,mk4 h4 (by rw [MG.st hc];exact ho)]
   refine ⟨Z,λ_=>⟨⟨by rw [MG.st hc];rfl,?_⟩,h.put t1⟩⟩
   have e:=b6y h hc t1 (l:=(y9 m).po) (B9 _) λi hi=>by
    by_cases et:(m.rs.getD i default).t=c
    ·constructor
     ·intro g
      obtain ⟨w,w1,w2⟩:=(h.pok hc).mp ⟨g,et⟩
      grind
     ·rintro (⟨w,w1,w2⟩ | ⟨_,g⟩)
      ·exact ((h.pok hc).mpr ⟨w,(t2 w).mp w1,w2⟩).1
      ·exact absurd et g
    ·constructor
     ·grind
     ·rintro (⟨w,w1,w2⟩ | ⟨g,_⟩)
      ·exact ((h.pok hc).mpr ⟨w,(t2 w).mp w1,w2⟩).1
      ·exact g
   show y9 ⟨m.rs,m.en,m.ra,m.cp.set c (a2H (m.cp.getD c default))⟩=_
   rw [e]
   show (⟨m.en,m.ra,(y9 m).po,(y9 m).ma.set c (m.cp.getD c default).ma,(y9 m).st.set c ((m.cp.getD c default).st.take ((m.cp.getD c default).st.length - 1))⟩:Abs)=_
   rw [← MG.mak hc,a7Y (by show c < (m.cp.map _).length;rw [List.length_map];exact hc),← MG.st hc]
   rfl
 by_cases h5:sk=5
 ·obtain ⟨c,rfl⟩:∃c:Nat,sc=c:=⟨sc.toNat,by have:=hcc (.inr (.inr h5));omega⟩
  have hc:c < m.cp.length:=by have:=hcc (.inr (.inr h5));omega
  subst h5
  have hv5:0<=sv/\sv<=16:=by simp [T6,v6] at hv;omega
  have t1:=(h.ok c hc).mask hv5
  rw [sm5 Z,mk5 Z]
  refine ⟨Z,λ_=>⟨⟨Z,?_⟩,h.put t1⟩⟩
  have e:=b6y h hc t1 (l:=(y9 m).po) (B9 _) λi hi=>by
   by_cases et:(m.rs.getD i default).t=c
   ·constructor
    ·exact λg=>.inl ((h.pok hc).mp ⟨g,et⟩)
    ·rintro (g | ⟨_,g⟩)
     ·exact ((h.pok hc).mpr g).1
     ·exact absurd et g
   ·constructor
    ·grind
    ·rintro (g | ⟨g,_⟩)
     ·exact ((h.pok hc).mpr g).1
     ·exact g
  show y9 ⟨m.rs,m.en,m.ra,m.cp.set c ⟨sv,(m.cp.getD c default).st,(m.cp.getD c default).qu⟩⟩=_
  rw [e]
  show (⟨m.en,m.ra,(y9 m).po,(y9 m).ma.set c sv,(y9 m).st.set c (m.cp.getD c default).st⟩:Abs)=_
  rw [← MG.st hc,a7Y (by show c < (m.cp.map _).length;rw [List.length_map];exact hc)]
  rfl
 ·have h6:sk=6:=by have:=c6C hv;omega
  obtain ⟨q,rfl⟩:∃q:Nat,sq=q:=⟨sq.toNat,by have:=hqq (.inr h6);omega⟩
  rw [sm6 h6,mk6 h6]
  refine ⟨Z,λ_=>⟨⟨Z,?_⟩,⟨h.rt,by show (m.en.set q _).length=8;rw [List.length_set];exact h.en,h.ra,h.ok⟩⟩⟩
  show (⟨m.en.set q (decide (sv=1)),m.ra,poN ⟨m.rs,m.en.set q (decide (sv=1)),m.ra,m.cp⟩ m.cp.length,m.cp.map (λx:Ifc=>x.ma),m.cp.map (λx:Ifc=>x.st)⟩:Abs)=_
  rw [b6w (m:=⟨m.rs,m.en.set q (decide (sv=1)),m.ra,m.cp⟩) (m':=m) Z]
  rfl
def plU (u:UInt8):Prop:=32<=u.toNat/\u.toNat<=126/\u.toNat≠35
def plL (s:ByteArray):Prop:=∀u∈s.data.toList,plU u
theorem c1d {s:ByteArray} (h:plL s):Z0 s=true:=E3.mpr λj hj=>by
 have hl:s.data.toList.length=s.size:=Array.length_toList
 have hm:s.data.toList.getD j 0∈s.data.toList:=by
  grind
 obtain ⟨h1,h2,h3⟩:=h _ hm
 have e:s9 s j=((s.data.toList.getD j 0).toNat:Int):=rfl
 simp only [a4C,Bool.and_eq_true,decide_eq_true_eq,Bool.not_eq_true',beq_eq_false_iff_ne,ne_eq]
 omega
theorem a5P {s t:ByteArray} (h1:plL s) (h2:plL t):plL (s++t):=λu hu=>by
 rw [N3] at hu
 exact (List.mem_append.mp hu).elim (h1 u) (h2 u)
theorem a0H {s:ByteArray} (h:s.data.toList.all (λu=>decide (32<=u.toNat/\u.toNat<=126/\u.toNat≠35))=true):plL s:=λu hu=>(by have:=List.all_eq_true.mp h u hu;exact of_decide_eq_true (p:=32<=u.toNat/\u.toNat<=126/\u.toNat≠35) this)
theorem b5m:plL ⟨#[]⟩:=λu hu=>by cases hu
theorem c3d {s:ByteArray} {a b:Nat} (h:plL s):plL (s.extract a b):=λu hu=>by
 rw [N2] at hu
 exact h u (List.mem_of_mem_drop (List.mem_of_mem_take hu))
theorem a71 {n:Int}:plL (u7 n):=by
 rcases Int.lt_or_le n 0 with h | h
 ·rw [a4B h]
  refine a5P (a0H (by decide)) λu hu=>?_
  have:=a8B (n:=-n) J u hu
  exact ⟨by omega,by omega,by omega⟩
 ·intro u hu
  have:=a8B h u hu
  exact ⟨by omega,by omega,by omega⟩
theorem b6z {ws:List ByteArray} (h:∀i,i < ws.length→plL (ws.getD i ⟨#[]⟩)):∀n,n<=ws.length→plL (jnS ws n)
 | 0,_=>b5m
 | n+1,hn=>by
  have ih:=b6z h n J
  show plL ((if n=0 then ⟨#[]⟩ else jnS ws n++spB)++ws.getD n ⟨#[]⟩)
  refine a5P ?_ (h n J)
  split
  ·exact b5m
  ·exact a5P ih (a0H (by decide))
theorem b30 {l:List Int}:plL (a4U l):=by
 unfold a4U
 split
 ·exact a0H (by decide)
 ·refine b6z (λi hi=>?_) _ (Nat.le_refl _)
  rw [Z5] at hi
  rw [a1N hi]
  exact a71
theorem c1e {l:List Slot}:plL (a4V l):=by
 refine b6z (λi hi=>?_) _ (Nat.le_refl _)
 rw [a0V] at hi
 rw [a7N hi]
 have hb:∀k,plL (a6y k):=λk=>c3d (a0H (by decide))
 unfold b49
 split
 ·exact hb _
 ·exact a5P (hb _) (a5P (a5P a71 (a0H (by decide))) a71)
theorem c3e {s:ByteArray}:plL (F6 m s).2:=by
 have hq:plL qmB:=a0H (by decide)
 have ht:∀(k:Nat) (c:Int),plL (Y1 m k c).1:=λk c=>by
  unfold Y1
  split
  ·exact b5m
  split
  ·exact b30
  split
  ·exact b30
  split
  ·exact c1e
  split
  ·show plL (if _ then _ else _)
   split
   ·exact a0H (by decide)
   ·exact a71
  ·exact b5m
 have ha:∀(k:Nat) (l:List Int),plL (a4Y m k l).1:=λk l=>by
  grind [a4Y,b30,a0H]
 have hm:∀t:MStep,plL (a9n m t).2.1:=λt=>by
  grind [a9n,a0H,a71]
 have hr:plL (a2J m s).2.1:=by
  grind [a2J,b5m]
 show plL (if (a2J m s).2.2 then (a2J m s).2.1 else qmB)
 grind
theorem c7O {m:Mach} {s:ByteArray} (h:C9 ⟨s,⟨#[]⟩⟩=true):C9 ⟨s,a7T (F6 m s).2⟩=true:=by
 grind [a7T,c1d,a0H,c3e,c2Z,C9]
theorem c9R {s:MStep} (h:(smT m s).2.2=true):W0 (smT m s).1=true:=by
 grind [smT,b6r,mG,c7N]
theorem c7P {s:ByteArray} (h:W0 m=true):W0 (F6 m s).1=true:=by
 show W0 (a2J m s).1=true
 unfold a2J
 split
 ·grind [a9n,c9R]
 ·exact h
structure ExY (m:Mach) (x:Lg) (s:ByteArray):Prop where
 co:okCo m x=true
 ok:okCo (exC m x s).1 (exC m x s).2.1=true
 lg:okLg (exC m x s).2.1=true
 lr:lrT (exC m x s).2.1=lrT x++[⟨s,(exC m x s).2.2⟩]
 n:(exC m x s).2.1.n=x.n+1
 d:(exC m x s).2.1.d=x.d
theorem c1f (m:Mach) (x:Lg) (s:ByteArray):(((exC m x s).1=m/\(exC m x s).2.1=x)/\((exC m x s).2.2=noB∨(exC m x s).2.2=c7p∨(exC m x s).2.2=c0N))∨ExY m x s:=by
 cases h1:okCo m x
 ·left;rw [c0O h1];exact ⟨⟨Z,Z⟩,.inl Z⟩
 cases h2:C9 ⟨s,⟨#[]⟩⟩
 ·left;rw [c0P h1 h2];exact ⟨⟨Z,Z⟩,.inr (.inl Z)⟩
 by_cases h3:x.n=60
 ·left;rw [c0Q h1 h2 h3];exact ⟨⟨Z,Z⟩,.inr (.inr Z)⟩
 ·right
  obtain ⟨g1,g2⟩:=b07 h1
  obtain ⟨q1,q2,q3,q4⟩:=c9K g2 (c7O (m:=m) h2) h3
  have e:exC m x s=((F6 m s).1,apE x ⟨s,a7T (F6 m s).2⟩,a7T (F6 m s).2):=P5 h1 h2 h3 Z
  refine ⟨h1,?_,?_,?_,?_,?_⟩
  ·rw [e];show okCo (F6 m s).1 (apE x _)=true;rw [okCo,c7P g1,q2];rfl
  ·rw [e];exact q2
  ·rw [e];exact q1
  ·rw [e];exact q3
  ·rw [e];exact q4
theorem ExY.len {x:Lg} {s:ByteArray} (h:ExY m x s):((lrT (exC m x s).2.1).length:Int)=x.n+1:=by rw [b6u h.lg,h.n]
theorem b1g {m:Mach} {x:Lg} {cs cs':Nat→ByteArray}:∀{i:Nat},(∀j,j < i→cs j=cs' j)→runC m x cs i=runC m x cs' i
 | 0,_=>rfl
 | i+1,h=>by
  have ih:=b1g (m:=m) (x:=x) (i:=i) (λj hj=>h j J)
  show ((exC (runC m x cs i).1 (runC m x cs i).2 (cs i)).1,(exC (runC m x cs i).1 (runC m x cs i).2 (cs i)).2.1)=((exC (runC m x cs' i).1 (runC m x cs' i).2 (cs' i)).1,(exC (runC m x cs' i).1 (runC m x cs' i).2 (cs' i)).2.1)
  rw [ih,h i J]
theorem b6A {x:Lg} {cs':Nat→ByteArray} (h:∀j,j<=i→cs j=cs' j):repC m x cs i=repC m x cs' i:=by
 show (exC (runC m x cs i).1 (runC m x cs i).2 (cs i)).2.2=(exC (runC m x cs' i).1 (runC m x cs' i).2 (cs' i)).2.2
 rw [b1g (λj hj=>h j J),h i (Nat.le_refl _)]
structure RunF (m:Mach) (cs:Nat→ByteArray) (i:Nat):Prop where
 co:okCo (runC m lg0 cs i).1 (runC m lg0 cs i).2=true
 re:∀cs':Nat→ByteArray,(∀j,j < (lrT (runC m lg0 cs i).2).length→cs' j=((lrT (runC m lg0 cs i).2).getD j default).c)→runC m lg0 cs' (lrT (runC m lg0 cs i).2).length=runC m lg0 cs i/\∀j,j < (lrT (runC m lg0 cs i).2).length→repC m lg0 cs' j=((lrT (runC m lg0 cs i).2).getD j default).r
theorem b7O {j:Nat} (h:j < l.length):(l++[r]).getD j default=l.getD j default:=a8I h
theorem b7P:(l++[r]).getD l.length default=r:=by rw [a8J (Nat.le_refl _),Nat.sub_self];rfl
theorem c1g {m:Mach} {cs:Nat→ByteArray} (h0:okCo m lg0=true):∀i,RunF m cs i
 | 0=>by
  have e:lrT lg0=[]:=by
   have h:=(b07 h0).2
   have hl:=b6u h
   exact List.eq_nil_of_length_eq_zero (by have:lg0.n=0:=Z;omega)
  refine ⟨h0,λcs' _=>?_⟩
  show runC m lg0 cs' (lrT lg0).length=(m,lg0)/\_
  rw [e]
  exact ⟨Z,λj hj=>by have hj:j < (lrT lg0).length:=hj;rw [e] at hj;exact absurd hj (Nat.not_lt_zero _)⟩
 | i+1=>by
  have ih:=c1g h0 (cs:=cs) i
  have e1:(runC m lg0 cs (i+1))=((exC (runC m lg0 cs i).1 (runC m lg0 cs i).2 (cs i)).1,(exC (runC m lg0 cs i).1 (runC m lg0 cs i).2 (cs i)).2.1):=rfl
  rcases c1f (runC m lg0 cs i).1 (runC m lg0 cs i).2 (cs i) with ⟨⟨g1,g2⟩,_⟩ | g
  ·have e2:runC m lg0 cs (i+1)=runC m lg0 cs i:=by rw [e1,g1,g2]
   exact ⟨by rw [e2];exact ih.co,by rw [e2];exact ih.re⟩
  ·refine ⟨by rw [e1];exact g.ok,λcs' hc=>?_⟩
   have el:lrT (runC m lg0 cs (i+1)).2=lrT (runC m lg0 cs i).2++[⟨cs i,(exC (runC m lg0 cs i).1 (runC m lg0 cs i).2 (cs i)).2.2⟩]:=by rw [e1];exact g.lr
   rw [el,List.length_append,List.length_cons,List.length_nil] at hc ⊢
   obtain ⟨q1,q2⟩:=ih.re cs' λj hj=>by rw [hc j J,b7O hj]
   have hlast:cs' (lrT (runC m lg0 cs i).2).length=cs i:=by rw [hc _ J,b7P]
   have q3:repC m lg0 cs' (lrT (runC m lg0 cs i).2).length=(exC (runC m lg0 cs i).1 (runC m lg0 cs i).2 (cs i)).2.2:=by
    show (exC (runC m lg0 cs' (lrT (runC m lg0 cs i).2).length).1 (runC m lg0 cs' (lrT (runC m lg0 cs i).2).length).2 (cs' (lrT (runC m lg0 cs i).2).length)).2.2=_
    rw [q1,hlast]
   refine ⟨?_,λj hj=>?_⟩
   ·show ((exC (runC m lg0 cs' (lrT (runC m lg0 cs i).2).length).1 (runC m lg0 cs' (lrT (runC m lg0 cs i).2).length).2 (cs' (lrT (runC m lg0 cs i).2).length)).1,(exC (runC m lg0 cs' (lrT (runC m lg0 cs i).2).length).1 (runC m lg0 cs' (lrT (runC m lg0 cs i).2).length).2 (cs' (lrT (runC m lg0 cs i).2).length)).2.1)=_
    rw [q1,hlast,e1]
   ·by_cases e:j=(lrT (runC m lg0 cs i).2).length
    ·subst e;rw [b7P];exact q3
    ·rw [b7O J];exact q2 j J
theorem b7Q {l:Lg} (hm:(m8 rs c).2=true) (h0:okCo (m8 rs c).1 lg0=true) (hl:okLg l=true) (hn:(lrT l).length<=(lrT (runC (m8 rs c).1 lg0 cs i).2).length) (hg:∀j,j < (lrT l).length→(lrT l).getD j default=(lrT (runC (m8 rs c).1 lg0 cs i).2).getD j default):a8T rs c l=(l.n,true):=by
 have hF:=c1g h0 (cs:=cs) i
 obtain ⟨_,h2⟩:=hF.re (λj=>((lrT (runC (m8 rs c).1 lg0 cs i).2).getD j default).c) (λj _=>Z)
 rw [c0X hm hl (i:=(lrT l).length) (λj hj=>c0W ?_) (Nat.le_refl _),b6u hl]
 have e:repC (m8 rs c).1 lg0 (csL l) j=repC (m8 rs c).1 lg0 (λj=>((lrT (runC (m8 rs c).1 lg0 cs i).2).getD j default).c) j:=b6A λt ht=>by
  show ((lrT l).getD t default).c=_
  rw [hg t J]
 grind
theorem c7Q (h:(m8 rs c).2=true):okCo (m8 rs c).1 lg0=true:=by
 have hr:okRts rs c=true:=by
  cases hr:okRts rs c
  ·rw [b0a hr] at h;cases h
  ·rfl
 have hM:W0 (m8 rs c).1=true:=by
  rw [a7A hr]
  have hb:=(C7.mp hr).1
  have hl:(a7z rs c.toNat).cp.length=c.toNat:=by show (List.replicate c.toNat a9x).length=c.toNat;rw [List.length_replicate]
  refine mG.mpr ⟨by rw [hl,show (c.toNat:Int)=c by omega];exact hr,by show (List.replicate 8 false).length=8;rw [List.length_replicate],by show (List.replicate 8 false).length=8;rw [List.length_replicate],λk hk=>?_⟩
  rw [hl] at hk
  show IG rs k ((List.replicate c.toNat a9x).getD k default)
  rw [b4W hk]
  have hz:∀i,i < 4→([zSl,zSl,zSl,zSl]:List Slot).getD i default=zSl:=λi hi=>by
   grind
  have hm:∀y∈([zSl,zSl,zSl,zSl]:List Slot),y=zSl:=λy hy=>by
   grind
  refine ⟨⟨⟨⟨Z,λi hi _=>hz i hi,λi hi h0=>absurd ?_ h0,λi j hij hj h0=>absurd ?_ h0⟩,Nat.zero_le _,λw hw=>(by cases hw),List.Pairwise.nil⟩,Nat.zero_le _,λq hq=>(by cases hq)⟩,b3r Z,⟨by show (0:Int)<=16;decide,by show (16:Int)<=16;decide⟩,List.nodup_nil,λw hw=>?_,λj h0 hj=>(by exact absurd hj (Nat.not_lt_zero _)),?_⟩
  ·show (([zSl,zSl,zSl,zSl]:List Slot).getD i default).s=0;rw [hz i hi];rfl
  ·show (([zSl,zSl,zSl,zSl]:List Slot).getD i default).s=0;rw [hz i J];rfl
  ·obtain ⟨y,y1,y2,_⟩:=B3.mp hw
   rw [hm y y1] at y2;cases y2
  ·rintro w (g | ⟨y,y1,y2,_⟩)
   ·cases g
   ·rw [hm y y1] at y2;cases y2
 have hL:okLg lg0=true:=by
  rfl
 rw [okCo,hM,hL];rfl
end Go.Rf
namespace Go.Rf
theorem rfb :
 ((∀(p:Prop) [Decidable p],(decide p=true)=p)/\(∀(p:Prop) [Decidable p],(decide p=false)↔¬p) /\
 (∀{α:Type} [BEq α] [LawfulBEq α] {a b:α},a==b↔a=b)/\(∀{α:Type} [BEq α] [LawfulBEq α] {a b:α},a != b↔a≠b)/\(∀{α:Type} (a b:α),(a≠b)=¬(a=b))) /\
 ((∀b:Bool,((!b)=true)=(b=false))/\(∀b:Bool,((!b)=false)=(b=true)) /\
 (∀{α:Type} [BEq α] [LawfulBEq α] {a b:α},(a==b)=false↔a≠b)/\(∀{α:Type} [BEq α] [LawfulBEq α] {a b:α},(a != b)=false↔a=b) /\
 (∀b:Bool,(¬(b=true))=(b=false))/\(∀b:Bool,(¬(b=false))=(b=true))) /\
 ((∀{a b:Int},¬(a < b)↔b<=a)/\(∀{a b:Int},¬(a<=b)↔b < a)/\(∀{a b:Int},a > b↔b < a)/\(∀{a b:Int},a≥b↔b<=a)) /\
 ((∀a b:Bool,((a && b)=true)=(a=true/\b=true))/\(∀{a b:Bool},(a && b)=false↔a=false∨b=false)/\(∀a b:Bool,((a || b)=true)=(a=true∨b=true))/\(∀{a b:Bool},(a || b)=false↔a=false/\b=false)) :=
 ⟨⟨λp _=>decide_eq_true_eq,λp _=>decide_eq_false_iff_not,beq_iff_eq,bne_iff_ne,λa b=>ne_eq a b⟩,⟨Bool.not_eq_true',Bool.not_eq_false',beq_eq_false_iff_ne,bne_eq_false_iff_eq,Bool.not_eq_true,Bool.not_eq_false⟩,⟨Int.not_lt,Int.not_le,gt_iff_lt,ge_iff_le⟩,⟨Bool.and_eq_true,Bool.and_eq_false_iff,Bool.or_eq_true,Bool.or_eq_false_iff⟩⟩
end Go.Rf
namespace Go.Rf
open Go Go.RowKit
section
variable {P:Program} [Env P] {w0:Base} {ops:Array Oper} {tb:List (Nat×TyI)} {o:Oper} {T:List (Nat×AV)} {m m0:List (Nat×Option Row)} {nx nt d fuel:Nat} {Q:Exit→St→Prop} {S:St} {A K:St→Prop} {c:Code} {listed:Array Bool} {b:Base} {r:AV} {id:Nat}
theorem b5n {t:TypeId} {x:Operand} {k off ft id a0:Nat} {fs:List (Nat×Nat)} {zs:List Value} (G:Good P tb) (ho:o.op=.fieldAddr t x k) (hx:ev T x=some (.ptr id a0)) (ht:look t tb=some (.struct fs zs)) (hk:nth fs k=some (off,ft)):QStep P o T m nx nt (.ptr id (Nat.add a0 off)):=d5 G ho ht hk hx
theorem b6B {t:TypeId} {x:Operand} {i:TyI} {id off:Nat} {cs:List AV} (G:Good P tb) (ho:o.op=.load t x) (hx:ev T x=some (.ptr id off)) (hm:mem m id=some (.box cs)) (hr:nth cs off=some r) (ht:look t tb=some i) (hf:a1e i=true) (hd:b22 r=true):QStep P o T m nx nt r:=f9 G ho ht hf hx hm hr hd
theorem c9S {t:TypeId} {x:Operand} {i:TyI} {id off sz:Nat} {cs:List AV} {z:Value} {ys:List (List Value)} (G:Good P tb) (ho:o.op=.load t x) (hx:ev T x=some (.ptr id off)) (hm:mem m id=some (.box cs)) (hr:nth cs off=some (.pin z sz ys)) (ht:look t tb=some i) (hf:a1e i=true):QStep P o T m nx nt (.lst sz ys):=a7l (f9 G ho ht hf hx hm hr Z)
theorem c9T {t:TypeId} {x:Operand} {i:TyI} {id off sz:Nat} {cs:List AV} {z:Option Value} {yss:List (List CI)} (G:Good P tb) (ho:o.op=.load t x) (hx:ev T x=some (.ptr id off)) (hm:mem m id=some (.box cs)) (hr:nth cs off=some (.nst z sz yss)) (hd:b22 (.nst z sz yss)=true) (ht:look t tb=some i) (hf:a1e i=true):QStep P o T m nx nt (.nst none sz yss):=b9s (f9 G ho ht hf hx hm hr hd)
theorem a73 {t:TypeId} {x:Operand} {fs:List (Nat×Nat)} {zs:List Value} {id off:Nat} {cs rs:List AV} (G:Good P tb) (ho:o.op=.load t x) (hx:ev T x=some (.ptr id off)) (hm:mem m id=some (.box cs)) (ht:look t tb=some (.struct fs zs)) (hr:a38 zs.length (a1c off cs) []=some rs) (hd:a50 rs=true):QStep P o T m nx nt (.agg rs):=c6 G ho ht hx hm hr hd
theorem b6C {t:TypeId} {x:Operand} {i:TyI} {c:List Value} {u:Value} (G:Good P tb) (ho:o.op=.load t x) (hx:ev T x=some (.ept c)) (hr:nth c 0=some u) (ht:look t tb=some i) (hf:a1e i=true):QStep P o T m nx nt (.v u):=b0i G ho ht hf hx hr
theorem a74 {t:TypeId} {x:Operand} {fs:List (Nat×Nat)} {zs:List Value} {c us:List Value} (G:Good P tb) (ho:o.op=.load t x) (hx:ev T x=some (.ept c)) (ht:look t tb=some (.struct fs zs)) (hr:a38 zs.length c []=some us):QStep P o T m nx nt (.agg (avR us [])):=a6W G ho ht hx hr
theorem c9U {x:Operand} {t e sz by_ n:Nat} {zs:List Value} {ax:AV} (G:Good P tb) (ho:o.op=.call { callee:=.builtin .len,args:=#[x],argTypes:=#[t] }) (hx:ev T x=some ax) (hn:b77 m ax=some n) (ht:look t tb=some (.slice e sz by_ zs)):QStep P o T m nx nt (.v (.int .i64 n)):=a1y G ho ht hx hn
theorem c7R {x:Operand} {t e sz by_ n n':Nat} {zs:List Value} {ax:AV} (G:Good P tb) (ho:o.op=.call { callee:=.builtin .len,args:=#[x],argTypes:=#[t] }) (hx:ev T x=some ax) (hn:b77 m ax=some n) (he:n=n') (ht:look t tb=some (.slice e sz by_ zs)):QStep P o T m nx nt (.v (.int .i64 n')):=V6 G ho ht hx hn he
theorem a42 {x y:Operand} {t e sz by_:Nat} {zs:List Value} {ys:List (List Value)} {k:IntKind} {i:Int} {c:List Value} (G:Good P tb) (ho:o.op=.indexAddr t x y) (hx:ev T x=some (.lst sz ys)) (hy:ev T y=some (.v (.int k i))) (h0:0<=i) (hc:ys[i.toNat]?=some c) (ht:look t tb=some (.slice e sz by_ zs)):QStep P o T m nx nt (.ept c):=b4l G ho ht hx hy h0 hc
def Ph (n:Nat) (p:Prop):Prop:=p
structure Hd (q:Prop):Prop where o:q
structure Sg (P:Program) [Env P] (o:Oper) (T:List (Nat×AV)) (m:List (Nat×Option Row)) (nx nt:Nat) (K:AV→Prop):Prop where o:∃r,QStep P o T m nx nt r/\K r
theorem Sg.of {K:AV→Prop} (h:QStep P o T m nx nt r) (k:K r):Sg P o T m nx nt K:=⟨r,h,k⟩
theorem b31 [EnvAt P w0] {l:List Oper} {Q:Exit→St→Prop} (hd:o.dst=some d) (hlt:Nat.blt d nt=true) (h:Sg P o T m nx nt (λr=>WL P w0 ops l ⟨(d,r) :: T,m,nx,nt⟩ Q)):WX P w0 ops o l ⟨T,m,nx,nt⟩ Q:=h.o.elim λ_ h=>b5 hd hlt h.1 h.2
theorem b32 [EnvAt P w0] {l:List Oper} {K:List (Nat×AV)→Prop} (hd:o.dst=some d) (hlt:Nat.blt d nt=true) (h:Sg P o T m nx nt (λr=>QL P w0 ops l ((d,r) :: T) m nx nt K)):QX P w0 ops o l T m nx nt K:=h.o.elim λ_ h=>l8 hd hlt h.1 h.2
theorem c9V [EnvAt P b] {o1:Option Nat} {o2:Op} {o3:TypeId} {o4:String} {o5:Array Edge} {o6:Option (Nat×Bool)} {i:Nat} (hi:ops[i]?=some ⟨o1,o2,o3,o4,o5,o6⟩) (hg:o6=none) (hd:o1=some d) (hlt:Nat.blt d nt=true) (hf:Region.free .any ops listed i=true) (hr:(Region.ready .any ops listed).contains i=true) (hp:a6n o2=true) (h:Sg P ⟨o1,o2,o3,o4,o5,o6⟩ T m0 nx nt (λr=>WA P b ops m0 fuel (listed.setIfInBounds i true) ⟨(d,r) :: T,m,nx,nt⟩ A)):Ph i (WA P b ops m0 (fuel+1) listed ⟨T,m,nx,nt⟩ A):=h.o.elim λ_ h=>c8 i hi hf hr hp hg hd hlt h.1 h.2
theorem c9W [EnvAt P b] {o1:Option Nat} {o2:Op} {o3:TypeId} {o4:String} {o5:Array Edge} {o6:Option (Nat×Bool)} {i j gd:Nat} {want:Bool} (hi:ops[i]?=some ⟨o1,o2,o3,o4,o5,o6⟩) (hg:o6=some (j,want)) (hj:(ops[j]?).bind (·.dst)=some gd) (hb:look gd T=some (.v (.bool want))) (hd:o1=some d) (hlt:Nat.blt d nt=true) (hf:Region.free .any ops listed i=true) (hr:(Region.ready .any ops listed).contains i=true) (hp:a6n o2=true) (h:Sg P ⟨o1,o2,o3,o4,o5,o6⟩ T m0 nx nt (λr=>WA P b ops m0 fuel (listed.setIfInBounds i true) ⟨(d,r) :: T,m,nx,nt⟩ A)):Ph i (WA P b ops m0 (fuel+1) listed ⟨T,m,nx,nt⟩ A):=h.o.elim λ_ h=>X6 i hi hf hr hp hg hj hb hd hlt h.1 h.2
theorem g9 (ms:List Nat) {o1:Option Nat} {o2:Op} {o3:TypeId} {o4:String} {o5:Array Edge} {o6:Option (Nat×Bool)} {i:Nat} {S:St} (hi:ops[i]?=some ⟨o1,o2,o3,o4,o5,o6⟩) (hg:o6=none) (h:WX P b ops ⟨o1,o2,o3,o4,o5,o6⟩ [] S (nq (λS'=>R0 b.n0 S'.m ms []=some m0/\WA P b ops m0 fuel (listed.setIfInBounds i true) S' A))):WB P b ops m0 fuel listed i S A:=e9 ms hi hg h
theorem c9X {i j gd:Nat} {want bb:Bool} (hi:ops[i]?=some o) (hg:o.guard=some (j,want)) (hj:(ops[j]?).bind (·.dst)=some gd) (hb:look gd T=some (.v (.bool bb))) (hne:(bb==want)=false) (hf:Region.free .any ops listed i=true) (hr:(Region.ready .any ops listed).contains i=true) (hd:o.dst=some d) (hlt:Nat.blt d nt=true) (hk:WA P b ops m0 fuel (listed.setIfInBounds i true) ⟨(d,.v undef) :: T,m,nx,nt⟩ A):Ph i (WA P b ops m0 (fuel+1) listed ⟨T,m,nx,nt⟩ A):=a3J i hi hf hr hg hj hb hne hd hlt hk
theorem c9Y {i j gd:Nat} {want:Bool} (hi:ops[i]?=some o) (hg:o.guard=some (j,want)) (hj:(ops[j]?).bind (·.dst)=some gd) (hb:look gd T=some (.v undef)) (hf:Region.free .any ops listed i=true) (hr:(Region.ready .any ops listed).contains i=true) (hd:o.dst=some d) (hlt:Nat.blt d nt=true) (hk:WA P b ops m0 fuel (listed.setIfInBounds i true) ⟨(d,.v undef) :: T,m,nx,nt⟩ A):Ph i (WA P b ops m0 (fuel+1) listed ⟨T,m,nx,nt⟩ A):=b8h i hi hf hr hg hj hb hd hlt hk
theorem c3f {x:Operand} {o1:Option Nat} {o3:TypeId} {o4:String} {o5:Array Edge} {o6:Option (Nat×Bool)} {K:AV→Prop} (h:Sg P ⟨o1,.move x,o3,o4,o5,o6⟩ T m nx nt K):Sg P ⟨o1,.move x,o3,o4,o5,o6⟩ T m nx nt K:=h
theorem b8L {x:Operand} {o1:Option Nat} {o3:TypeId} {o4:String} {o5:Array Edge} {o6:Option (Nat×Bool)} {K:AV→Prop} (h:Sg P ⟨o1,.assign x,o3,o4,o5,o6⟩ T m nx nt K):Sg P ⟨o1,.assign x,o3,o4,o5,o6⟩ T m nx nt K:=h
theorem c1h {t:TypeId} {x:Operand} {k:Nat} {o1:Option Nat} {o3:TypeId} {o4:String} {o5:Array Edge} {o6:Option (Nat×Bool)} {K:AV→Prop} (h:Sg P ⟨o1,.fieldAddr t x k,o3,o4,o5,o6⟩ T m nx nt K):Sg P ⟨o1,.fieldAddr t x k,o3,o4,o5,o6⟩ T m nx nt K:=h
theorem c3g {t:TypeId} {x:Operand} {o1:Option Nat} {o3:TypeId} {o4:String} {o5:Array Edge} {o6:Option (Nat×Bool)} {K:AV→Prop} (h:Sg P ⟨o1,.load t x,o3,o4,o5,o6⟩ T m nx nt K):Sg P ⟨o1,.load t x,o3,o4,o5,o6⟩ T m nx nt K:=h
theorem c7S {u:BinOp} {t t2:TypeId} {x y:Operand} {o1:Option Nat} {o3:TypeId} {o4:String} {o5:Array Edge} {o6:Option (Nat×Bool)} {K:AV→Prop} (h:Sg P ⟨o1,.binOp u t x y t2,o3,o4,o5,o6⟩ T m nx nt K):Sg P ⟨o1,.binOp u t x y t2,o3,o4,o5,o6⟩ T m nx nt K:=h
theorem c3h {c x y:Operand} {o1:Option Nat} {o3:TypeId} {o4:String} {o5:Array Edge} {o6:Option (Nat×Bool)} {K:AV→Prop} (h:Sg P ⟨o1,.pick c x y,o3,o4,o5,o6⟩ T m nx nt K):Sg P ⟨o1,.pick c x y,o3,o4,o5,o6⟩ T m nx nt K:=h
theorem b6D {x:Operand} {k:Nat} {o1:Option Nat} {o3:TypeId} {o4:String} {o5:Array Edge} {o6:Option (Nat×Bool)} {K:AV→Prop} (h:Sg P ⟨o1,.extract x k,o3,o4,o5,o6⟩ T m nx nt K):Sg P ⟨o1,.extract x k,o3,o4,o5,o6⟩ T m nx nt K:=h
theorem c7T {t:TypeId} {x:Operand} {o1:Option Nat} {o3:TypeId} {o4:String} {o5:Array Edge} {o6:Option (Nat×Bool)} {K:AV→Prop} (h:Sg P ⟨o1,.unOp .not t x,o3,o4,o5,o6⟩ T m nx nt K):Sg P ⟨o1,.unOp .not t x,o3,o4,o5,o6⟩ T m nx nt K:=h
theorem c1i {t:TypeId} {l:Array (Nat×Operand)} {o1:Option Nat} {o3:TypeId} {o4:String} {o5:Array Edge} {o6:Option (Nat×Bool)} {K:AV→Prop} (h:Sg P ⟨o1,.build t l,o3,o4,o5,o6⟩ T m nx nt K):Sg P ⟨o1,.build t l,o3,o4,o5,o6⟩ T m nx nt K:=h
theorem c1j {t:TypeId} {x y:Operand} {o1:Option Nat} {o3:TypeId} {o4:String} {o5:Array Edge} {o6:Option (Nat×Bool)} {K:AV→Prop} (h:Sg P ⟨o1,.indexAddr t x y,o3,o4,o5,o6⟩ T m nx nt K):Sg P ⟨o1,.indexAddr t x y,o3,o4,o5,o6⟩ T m nx nt K:=h
theorem c7U {c:Call} {o1:Option Nat} {o3:TypeId} {o4:String} {o5:Array Edge} {o6:Option (Nat×Bool)} {K:AV→Prop} (h:Sg P ⟨o1,.call c,o3,o4,o5,o6⟩ T m nx nt K):Sg P ⟨o1,.call c,o3,o4,o5,o6⟩ T m nx nt K:=h
theorem t8 {x y:Code} {S:St} {Q:Exit→St→Prop} (h:W P w0 x S (sq (λS=>W P w0 y S Q) Q)):W P w0 (.seq x y) S Q:=c1 λK hK=>b5C h λe S' q=>by cases e<;>first | exact hK _ q | exact q
theorem aW {S:St} {Q:Exit→St→Prop} {c:Code} (h:W P w0 c S Q):W P w0 c S Q:=h
theorem aWL {S:St} {Q:Exit→St→Prop} {l:List Oper} (h:WL P w0 ops l S Q):WL P w0 ops l S Q:=h
theorem aWX {S:St} {Q:Exit→St→Prop} {l:List Oper} (h:WX P w0 ops o l S Q):WX P w0 ops o l S Q:=h
theorem aQX {K:List (Nat×AV)→Prop} {l:List Oper} (h:QX P w0 ops o l T m nx nt K):QX P w0 ops o l T m nx nt K:=h
theorem aQL {K:List (Nat×AV)→Prop} {l:List Oper} (h:QL P w0 ops l T m nx nt K):QL P w0 ops l T m nx nt K:=h
end
section
variable {K:St→Prop} {Q:Exit→St→Prop} {S:St} {i id:Nat}
theorem c7V (h:K S):sq K Q .normal S:=h
theorem c7W (h:K S):nq K .normal S:=h
theorem c7X (h:Q (.exit i) S):sq K Q (.exit i) S:=h
theorem c7Y (h:Q .ret S):sq K Q .ret S:=h
theorem c7Z (h:Q .normal S):bq id Q .normal S:=h
theorem c70 (h:Q .ret S):bq id Q .ret S:=h
theorem c71 (h:Q .normal S):bq id Q (.exit id) S:=by simp only [bq,Nat.beq_refl,cond_true];exact h
theorem c72 (h:Q (.exit i) S) (e:Nat.beq i id=false:=by rfl):bq id Q (.exit i) S:=by simp only [bq,e,cond_false];exact h
end
theorem zq {p q:Prop} (k:q) (h:Hd q→p:=by
 intro kk
 first
  | (with_reducible refine c3f ?_;first | refine Sg.of (b8 Z Z) ?_)
  | (with_reducible refine b8L ?_;first | refine Sg.of (b9 Z Z) ?_)
  | (with_reducible refine c1h ?_;first | refine Sg.of (b5n G Z Z Z Z) ?_ | refine Sg.of (b4j G Z Z Z Z) ?_)
  | (with_reducible refine c3g ?_;first | refine Sg.of (c9S G Z Z Z Z Z Z) ?_ | refine Sg.of (c9T G Z Z Z Z Z Z) ?_ | refine Sg.of (b6B G Z Z Z Z Z Z Z) ?_ | refine Sg.of (a73 G Z Z Z Z Z Z) ?_ | refine Sg.of (b6C G Z Z Z Z Z) ?_ | refine Sg.of (a74 G Z Z Z Z) ?_ | refine Sg.of (V2 G Z Z Z Z) ?_)
  | (with_reducible refine c7S ?_;first | refine Sg.of (u4 Z Z Z Z) ?_ | refine Sg.of (q9 Z Z Z Z J J) ?_)
  | (with_reducible refine c3h ?_;first | refine Sg.of (B7 Z Z Z) ?_ | refine Sg.of (z6 Z Z Z) ?_)
  | (with_reducible refine b6D ?_;first | refine Sg.of (e7 Z Z Z) ?_)
  | (with_reducible refine c7T ?_;first | refine Sg.of (b6J Z Z) ?_ | refine Sg.of (c1T Z Z) ?_ | refine Sg.of (a1d Z Z) ?_)
  | (with_reducible refine c1i ?_;first | refine Sg.of (u3 G Z Z Z Z) ?_)
  | (with_reducible refine c1j ?_;first | refine Sg.of (a42 G Z Z Z J (a2z J) Z) ?_ | refine Sg.of (a42 G Z Z Z J (H1 J J) Z) ?_ | refine Sg.of (a42 G Z Z Z J (C3 J J) Z) ?_ | refine Sg.of (I7 G Z Z Z Z J (a2z J) Z) ?_ | refine Sg.of (I7 G Z Z Z Z J (H1 J J) Z) ?_ | refine Sg.of (I7 G Z Z Z Z J (C3 J J) Z) ?_)
  | (with_reducible refine c7U ?_;first | refine Sg.of (c7R G Z Z Z (List.length_map _) Z) ?_ | refine Sg.of (c9U G Z Z Z Z) ?_)
 exact kk.o):p:=h ⟨k⟩
theorem zgo {p q:Prop} (k:q) (h:Hd q→p:=by
 intro kk
 first | (with_reducible refine aWX ?_;first | (refine b31 Z Z ?_;refine zq ?_) | refine f6 G Z Z Z Z Z Z Z Z Z Z Z ?_) | (with_reducible refine aQX ?_;first | (refine b32 Z Z ?_;refine zq ?_)) | skip
 repeat (first
  | (with_reducible refine aW ?_;with_reducible first | refine t8 ?_ | refine b6 ?_ | refine p8 ?_ | refine r7 ?_ | refine J0 ?_)
  | (with_reducible refine aWL ?_;first | (refine a7 Z ?_;first | (refine b31 Z Z ?_;refine zq ?_) | refine f6 G Z Z Z Z Z Z Z Z Z Z Z ?_) | (refine m7 Z Z Z ?_;first | (refine b31 Z Z ?_;refine zq ?_) | refine f6 G Z Z Z Z Z Z Z Z Z Z Z ?_) | refine l7 Z Z Z Z Z Z ?_ | refine a8q Z Z Z Z Z ?_ | with_reducible refine b4 ?_)
  | (with_reducible refine aQL ?_;first | (refine d8 Z ?_;first | (refine b32 Z Z ?_;refine zq ?_)) | (refine a4p Z Z Z ?_;first | (refine b32 Z Z ?_;refine zq ?_)) | refine b2Z Z Z Z Z Z Z ?_ | refine a8r Z Z Z Z Z ?_ | with_reducible refine a03 ?_)
  | (with_reducible first | refine c7V ?_ | refine c7W ?_ | refine c7Z ?_ | refine c7X ?_ | refine c71 ?_ | refine c7Y ?_ | refine c70 ?_ | (refine c72 ?_ ?_;rotate_left)))
 exact kk.o):p:=h ⟨k⟩
theorem zgn {p q:Prop} (k:q) (h:Hd q→p:=by
 intro kk
 repeat (with_reducible first | refine t8 ?_ | refine b6 ?_ | refine p8 ?_)
 first | (with_reducible refine aWX ?_;first | (refine b31 Z Z ?_;refine zq ?_) | refine f6 G Z Z Z Z Z Z Z Z Z Z Z ?_) | (with_reducible refine aQX ?_;first | (refine b32 Z Z ?_;refine zq ?_)) | skip
 repeat (first
  | (with_reducible refine aWL ?_;first | (refine a7 Z ?_;first | (refine b31 Z Z ?_;refine zq ?_) | refine f6 G Z Z Z Z Z Z Z Z Z Z Z ?_) | (refine m7 Z Z Z ?_;first | (refine b31 Z Z ?_;refine zq ?_) | refine f6 G Z Z Z Z Z Z Z Z Z Z Z ?_) | refine l7 Z Z Z Z Z Z ?_ | refine a8q Z Z Z Z Z ?_)
  | (with_reducible refine aQL ?_;first | (refine d8 Z ?_;first | (refine b32 Z Z ?_;refine zq ?_)) | (refine a4p Z Z Z ?_;first | (refine b32 Z Z ?_;refine zq ?_)) | refine b2Z Z Z Z Z Z Z ?_ | refine a8r Z Z Z Z Z ?_))
 with_reducible first | refine b4 ?_ | refine a03 ?_ | refine r7 ?_ | refine J0 ?_
 repeat (with_reducible first | refine c7V ?_ | refine c7W ?_ | refine c7Z ?_ | refine c7X ?_ | refine c71 ?_ | refine c7Y ?_ | refine c70 ?_ | (refine c72 ?_ ?_;rotate_left))
 exact kk.o):p:=h ⟨k⟩
theorem znk {p q:Prop} (k:q) (h:Hd q→p:=by
 intro kk
 repeat (with_reducible first | refine c7V ?_ | refine c7W ?_ | refine c7Z ?_ | refine c7X ?_ | refine c71 ?_ | refine c7Y ?_ | refine c70 ?_ | (refine c72 ?_ ?_;rotate_left))
 exact kk.o):p:=h ⟨k⟩
theorem zst {p q:Prop} (k:q) (h:Hd q→p:=by
 intro kk
 first
  | (with_reducible refine aWX ?_;first | (refine b31 Z Z ?_;refine zq ?_) | refine f6 G Z Z Z Z Z Z Z Z Z Z Z ?_)
  | (with_reducible refine aQX ?_;first | (refine b32 Z Z ?_;refine zq ?_))
  | (with_reducible refine aWL ?_;first | (refine a7 Z ?_;first | (refine b31 Z Z ?_;refine zq ?_) | refine f6 G Z Z Z Z Z Z Z Z Z Z Z ?_) | (refine m7 Z Z Z ?_;first | (refine b31 Z Z ?_;refine zq ?_) | refine f6 G Z Z Z Z Z Z Z Z Z Z Z ?_) | refine l7 Z Z Z Z Z Z ?_ | refine a8q Z Z Z Z Z ?_)
  | (with_reducible refine aQL ?_;first | (refine d8 Z ?_;first | (refine b32 Z Z ?_;refine zq ?_)) | (refine a4p Z Z Z ?_;first | (refine b32 Z Z ?_;refine zq ?_)) | refine b2Z Z Z Z Z Z Z ?_ | refine a8r Z Z Z Z Z ?_)
 exact kk.o):p:=h ⟨k⟩
theorem zgd {p q:Prop} (k:q) (h:Hd q→p:=by
 intro kk
 refine zgo ?_
 refine S5 mixed (by kernel_rfl) ?_
 exact kk.o):p:=h ⟨k⟩
theorem zcd {p a b:Prop} {q1:a→Prop} {q2:b→Prop} (k1:∀h,q1 h) (k2:∀h,q2 h) (h:Hd (∀h,q1 h)→Hd (∀h,q2 h)→p:=by
 intro k1 k2
 refine zgo ?_
 first | refine l1 Z (λhc=>?_) (λhc=>?_) | refine D9 Z Z Z (λhc=>?_) (λhc=>?_) | refine b20 Z Z Z (λhc=>?_) (λhc=>?_)
 ·(try rw [hc]);(try simp only [rfb] at hc);exact k1.o hc
 ·(try rw [hc]);(try simp only [rfb] at hc);exact k2.o hc):p:=h ⟨k1⟩ ⟨k2⟩
theorem zwt {p q:Prop} (k:q) (h:Hd q→p:=by
 intro kk
 refine zgo ?_
 refine M8 Z ?_
 exact kk.o):p:=h ⟨k⟩
theorem zwf {p q:Prop} (k:q) (h:Hd q→p:=by
 intro kk
 refine zgo ?_
 refine Y6 Z ?_
 exact kk.o):p:=h ⟨k⟩
theorem zf1 {p q:Prop} (k:q) (h:Hd q→p:=by
 intro kk
 refine zgo ?_
 refine d7 (P3 Z (i8 ?_))
 exact kk.o):p:=h ⟨k⟩
theorem zfo {p q:Prop} (k:q) (h:Hd q→p:=by
 intro kk
 refine zgo ?_
 refine d7 (P3 Z (c7 Z ?_))
 exact kk.o):p:=h ⟨k⟩
theorem zcl {p q c:Prop} (x:c) (k:q) (h:c→Hd q→p:=by
 intro x kk
 refine zgo ?_
 first | exact a7 Z (b5 Z Z (i7 Z (ArgsOK.of Z) x Z) kk.o) | exact m7 Z Z Z (b5 Z Z (i7 Z (ArgsOK.of Z) x Z) kk.o) | exact d8 Z (l8 Z Z (i7 Z (ArgsOK.of Z) x Z) kk.o) | exact a4p Z Z Z (l8 Z Z (i7 Z (ArgsOK.of Z) x Z) kk.o)):p:=h x ⟨k⟩
theorem zsa (n:Nat) {p q:Prop} (k:q) (h:Hd q→Ph n p:=by
 intro kk
 first
 | (refine c9V Z Z Z Z (by kernel_rfl) (by kernel_rfl) Z ?_;refine zq ?_)
 | (refine c9W Z Z Z Z Z Z (by kernel_rfl) (by kernel_rfl) Z ?_;refine zq ?_)
 | refine c9X Z Z Z Z Z (by kernel_rfl) (by kernel_rfl) Z Z ?_
 | refine c9Y Z Z Z Z (by kernel_rfl) (by kernel_rfl) Z Z ?_
 exact kk.o):p:=h ⟨k⟩
theorem Y {p:Prop} (h:p:=by kernel_rfl):p:=h
end Go.Rf
