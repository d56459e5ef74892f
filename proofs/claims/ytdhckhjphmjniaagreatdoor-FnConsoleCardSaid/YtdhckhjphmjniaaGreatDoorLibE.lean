/- Texts merged into one: RfNZ, RfCJ, RfMR, RfCD, RfCE, Rf7, RfCF, RfDA, RfDE, RfNW, RfDK, RfCI, RfLA, RfXE, RfLB, RfCG, RfMS, RfMT, RfLC, RfLE, RfNI, RfSR. -/
import Derived.Test.YtdhckhjphmjniaaGreatDoorLibD
import Derived.Lib.ConvBytes
import Derived.KernelRfl
set_option linter.unusedSectionVars false
set_option linter.unusedSimpArgs false
set_option linter.unusedVariables false
namespace Go.Rf
open Go Go.RowKit
section
variable {P:Program} [Env P] {w0:Base} {ops:Array Oper} {tb:List (Nat×TyI)} {o:Oper} {rest:List Oper} {T:List (Nat×AV)} {m:List (Nat×Option Row)} {nx nt d:Nat} {Q:Exit→St→Prop}
theorem c12 [EnvAt P w0] {f:FuncId} {fn:Func} {c:Code} {as:Array Operand} {ts:Array TypeId} {args:List AV} {n:Nat} (hd:o.dst=some d) (hlt:Nat.blt d nt=true) (ho:o.op=.call { callee:=.value (.func f),args:=as,argTypes:=ts })
 (hf:P.funcs[f]?=some fn) (hb:fn.body=some c) (hname:(fn.name == "runtime.NumGoroutine")=false) (hl:fn.results=#[]) (hn:fn.ntmps=n) (hlen:Nat.ble args.length n=true) (ha:evL T as.toList []=some args)
 (h:∃m1 n1,(∀b:Base,[EnvAt P b]→b.n0=nx→W P b c ⟨a55 args 0,m,nx,n⟩ (c8g m1 n1))/\Nat.ble nx n1=true/\WL P w0 ops rest ⟨(d,.tup []) :: T,m1,n1,nt⟩ Q):WX P w0 ops o rest ⟨T,m,nx,nt⟩ Q:=by
 obtain ⟨m1,n1,h1,h2,h3⟩:=h
 exact c6i m1 n1 hd hlt ho hf hb hname hl hn hlen ha h2 h1 h3
end
variable {B b e eS eW:Nat} {P:Program} {a:List CI} {c:CI} {r r':RC} {w:World} {x yss yss':List (List CI)} {y:Value} {ys:List (List Value)} {ρ:Nat→Value}
def CILe (c c':CI):Prop:=c=c'∨∃e sz ys f,c=.l e sz ys f/\c'=.l e sz ys true
def FlR (a b:List CI):Prop:=a.length=b.length/\∀(k:Nat) (c':CI),b[k]?=some c'→∃c,a[k]?=some c/\CILe c c'
def FlLe (x y:List (List CI)):Prop:=x.length=y.length/\∀(i:Nat) (b:List CI),y[i]?=some b→∃a,x[i]?=some a/\FlR a b
theorem FlR.nil:FlR [] []:=⟨Z,λk c' h=>by simp at h⟩
theorem FlR.cons {c':CI} {b:List CI} (h:CILe c c') (hr:FlR a b):FlR (c :: a) (c' :: b):=⟨by simp [hr.1],λk d hd=>by
 match k with
 | 0=>exact ⟨c,Z,by simp at hd;subst hd;exact h⟩
 | k+1=>exact hr.2 k d (by simpa using hd)⟩
theorem FlR.rfl':FlR a a:=⟨Z,λk c h=>⟨c,h,.inl Z⟩⟩
theorem CILe.s:CILe c c:=.inl Z
theorem CILe.t {sz:Nat} {f:Bool}:CILe (.l e sz ys f) (.l e sz ys true):=.inr ⟨e,sz,ys,f,Z,Z⟩
theorem FlLe.refl:FlLe x x:=⟨Z,λi b h=>⟨b,h,FlR.rfl'⟩⟩
theorem FlLe.map {α:Type} {f g:α→List CI} {xs:List α} (h:∀x,FlR (f x) (g x)):FlLe (xs.map f) (xs.map g):=⟨by simp,λi b hb=>by
 rw [List.getElem?_map] at hb
 obtain ⟨x,hx,rfl⟩:=Option.map_eq_some_iff.1 hb
 exact ⟨f x,by rw [List.getElem?_map,hx];rfl,h x⟩⟩
theorem FlLe.set {y:List (List CI)} {b:List CI} {i:Nat} (h:FlLe x y) (hr:FlR a b):FlLe (x.set i a) (y.set i b):=⟨by simp [h.1],λj c hc=>by
 by_cases e:i=j
 ·subst e
  have hl:i < y.length:=by
   grind
  rw [List.getElem?_set_self (by simpa using hl)] at hc
  cases hc
  exact ⟨a,by rw [List.getElem?_set_self (by rw [h.1];exact hl)],hr⟩
 ·rw [List.getElem?_set_ne e] at hc ⊢
  exact h.2 j c hc⟩
theorem FlLe.trans {y z:List (List CI)} (h:FlLe x y) (h':FlLe y z):FlLe x z:=⟨h.1.trans h'.1,λi b hb=>by
 obtain ⟨a,ha,hr⟩:=h'.2 i b hb
 obtain ⟨a2,ha2,hr2⟩:=h.2 i a ha
 refine ⟨a2,ha2,hr2.1.trans hr.1,λk c hc=>?_⟩
 obtain ⟨d,hd,hd'⟩:=hr.2 k c hc
 obtain ⟨d2,hd2,hd2'⟩:=hr2.2 k d hd
 refine ⟨d2,hd2,?_⟩
 rcases hd2' with rfl | ⟨e,sz,ys,f,rfl,rfl⟩
 ·exact hd'
 ·rcases hd' with rfl | ⟨e2,sz2,ys2,f2,q1,rfl⟩
  ·exact .inr ⟨e,sz,ys,f,Z,Z⟩
  ·cases q1;exact .inr ⟨e,sz,ys,f,Z,Z⟩⟩
theorem FlLe.nget {y:List (List CI)} (h:FlLe x y) {i k:Nat} {c':CI} (hc:C3 y i k=some c'):∃c,C3 x i k=some c/\CILe c c':=by
 simp only [Go.Rf.C3] at hc ⊢
 cases hb:y[i]? with
 | none=>rw [hb] at hc;cases hc
 | some b =>
  rw [hb] at hc
  obtain ⟨a,ha,hr⟩:=h.2 i b hb
  obtain ⟨c,h1,h2⟩:=hr.2 k c' hc
  grind
section
variable {w0:Base} {T:List (Nat×AV)} {m:List (Nat×Option Row)} {nx nt:Nat}
theorem Gh.nestF {id e sz:Nat} {yss:List (List CI)} (yss':List (List CI)) (hm:mem m id=some (.nest e sz yss [])) (h:FlLe yss yss'):Gh w0 ⟨T,m,nx,nt⟩ ⟨T,(id,some (.nest e sz yss' [])) :: m,nx,nt⟩:=by
 intro ρ a w hT hC
 obtain ⟨hlt,cells,hN,hop⟩:=hC.nestC hm
 obtain ⟨n1,n2,n3,n4,n5⟩:=hN
 refine ⟨ρ,hT,hC.retell hm (row':=.nest e sz yss' []) ⟨cells,⟨by rw [← h.1];exact n1,by rw [← h.1];exact n2,n3,λcs hcs=>?_,λi k c hc=>?_⟩,λq hq=>by cases hq⟩ λp b hb=>?_⟩
 ·obtain ⟨i,hi,rfl⟩:=List.getElem_of_mem hcs
  obtain ⟨a',ha,hr⟩:=h.2 i _ (List.getElem?_eq_getElem hi)
  rw [← hr.1]
  grind
 ·obtain ⟨d,hd,hle⟩:=h.nget hc
  obtain ⟨u,hu,hr⟩:=n5 i k d hd
  refine ⟨u,hu,?_⟩
  rcases hle with rfl | ⟨e1,sz1,ys,f,rfl,rfl⟩
  ·exact hr
  ·exact ⟨OwnR.gen hr.1,hr.2⟩
 ·have hb:A2 w (ρ id) sz yss' p=some b:=hb
  show A2 w (ρ id) sz yss p=some b
  unfold A2 at hb ⊢
  cases hc:Go.Rf.C3 yss' p.1 p.2 with
  | none=>rw [hc] at hb;cases hb
  | some c =>
   rw [hc] at hb
   obtain ⟨d,hd,hle⟩:=h.nget hc
   rw [hd]
   rcases hle with rfl | ⟨e1,sz1,ys,f,rfl,rfl⟩
   ·exact hb
   ·exact hb
end
section
variable {w0:Base} {T:List (Nat×AV)} {m:List (Nat×Option Row)} {nx nt:Nat}
end
theorem Ctr.argsTo [Env P] {f:FuncId} {args args':List AV} {res:Res} (h:Ctr P f args res) (ha:∀w vs,RelVs w noRho 0 args' vs→RelVs w noRho 0 args vs):Ctr P f args' res:=⟨h.callable,λw vs he hv=>h.calls w vs he (ha w vs hv)⟩
theorem NReadsAt.fl {sz:Nat} (hf:FlLe yss yss') (h:NReadsAt w sz yss' y):NReadsAt w sz yss y:=by
 obtain ⟨A,cap,he,hc,hl,hr⟩:=h
 refine ⟨A,cap,by rw [he,hf.1],by rw [hf.1];exact hc,λcs hcs=>?_,λh0=>?_⟩
 ·obtain ⟨i,hi,rfl⟩:=List.getElem_of_mem hcs
  have hi':i < yss'.length:=by rw [← hf.1];exact hi
  obtain ⟨a,ha,hr⟩:=hf.2 i _ (List.getElem?_eq_getElem hi')
  rw [List.getElem?_eq_getElem hi] at ha
  cases ha
  rw [hr.1]
  grind
 ·obtain ⟨ad,h1,h2,h3⟩:=hr (by rw [← hf.1];exact h0)
  refine ⟨ad,h1,h2,λi k c hc=>?_⟩
  have:∃c',Go.Rf.C3 yss' i k=some c'/\CILe c c':=by
   simp only [Go.Rf.C3] at hc ⊢
   cases hb:yss[i]? with
   | none=>rw [hb] at hc;cases hc
   | some b =>
    rw [hb] at hc
    have hi:i < yss'.length:=by rw [← hf.1];exact (List.getElem?_eq_some_iff.1 hb).1
    obtain ⟨a,ha,hr⟩:=hf.2 i _ (List.getElem?_eq_getElem hi)
    rw [hb] at ha
    cases ha
    have hc:b[k]?=some c:=hc
    have hk:k < (yss'[i]).length:=by rw [← hr.1];exact (List.getElem?_eq_some_iff.1 hc).1
    obtain ⟨c2,h1,h2⟩:=hr.2 k _ (List.getElem?_eq_getElem hk)
    grind
  obtain ⟨c',hc',hle⟩:=this
  obtain ⟨u,q1,q2,q3⟩:=h3 i k c' hc'
  refine ⟨u,q1,q2,?_⟩
  rcases hle with rfl | ⟨e1,sz1,ys,f,rfl,rfl⟩
  ·exact q3
  ·exact q3
def a3I (eS eW:Nat) (x:Ifc):List CI:=[.v (.int .i64 x.ma),.l 3 1 (x.st.map r5),.l eS 3 (x.qu.sl.map g8),.l eW 2 (x.qu.wa.map j6) true]
theorem flI (x:Ifc):FlR (r4 eS eW x) (a3I eS eW x):=.cons .s (.cons .s (.cons .s (.cons .t .nil)))
theorem flM {xs:List Ifc}:FlLe (xs.map (r4 eS eW)) (xs.map (a3I eS eW)):=FlLe.map flI
theorem c8h {nx:Nat} {a b c:AV} {rest:List AV} (hf:FlLe yss yss'):∀vs,RelVs w ρ nx (.agg [a,b,c,.nst none 4 yss'] :: rest) vs→RelVs w ρ nx (.agg [a,b,c,.nst none 4 yss] :: rest) vs:=by
 intro vs h
 simp only [RelVs,RelV] at h ⊢
 obtain ⟨y,ys',rfl,⟨zs,rfl,y0,t0,rfl,h0,y1,t1,rfl,h1,y2,t2,rfl,h2,y3,t3,rfl,⟨h3,h4⟩,rfl⟩,hr⟩:=h
 exact ⟨_,_,Z,⟨_,Z,_,_,Z,h0,_,_,Z,h1,_,_,Z,h2,_,_,Z,⟨by simp,NReadsAt.fl hf h4⟩,Z⟩,hr⟩
theorem a0F {α:Type} [Inhabited α] {xs:List α} {f:α→List CI} {i:Nat} {c c':List CI} (hi:i < xs.length) (hc:c'=f (xs.getD i default)):((xs.map f).set i c).set i c'=xs.map f:=by
 subst hc
 rw [List.set_set]
 apply List.ext_getElem?
 grind
section
variable {P:Program} [Env P] {w0:Base} {ops:Array Oper} {tb:List (Nat×TyI)} {o:Oper} {rest:List Oper} {T:List (Nat×AV)} {m:List (Nat×Option Row)} {nx nt d:Nat} {Q:Exit→St→Prop} {c:Code}
theorem c13 {t sz:Nat} (ht:look t T=some (.lst sz ys)) (h:∀y,WL P w0 ops rest ⟨(t,.pin y sz ys) :: T,m,nx,nt⟩ Q):WL P w0 ops rest ⟨T,m,nx,nt⟩ Q:=by
 intro ρ a w hT hC
 have h1:=hT.tmps t _ ht
 simp only [RelV] at h1
 refine h (a.tmps.getD t undef) ρ a w ⟨λi x hi=>?_,hT.size,hT.defers⟩ hC
 by_cases e:i=t
 ·grind [p9,RelV]
 ·rw [l6 (λe'=>e e'.symm)] at hi
  exact hT.tmps i x hi
theorem b0C {w0:World} {u:Nat→Value}:∀{cs:List AV} {us:List Value} {k:Nat} {acc rs:List AV} {acc':List Value},a63 cs u k acc=some rs→RelVs w0 ρ nx cs us→(∀j y,us[j]?=some y→(∃A l c,y=.slice A l c)→u (k+j)=y)→RelVs w0 ρ nx acc.reverse acc'→RelVs w0 ρ nx rs (acc'++us)
 | [],us,k,acc,rs,acc',h,hr,_,ha=>by
  simp [a63,G6] at h
  simp only [RelVs] at hr
  subst h;subst hr
  simpa using ha
 | x :: cs,_,k,acc,rs,acc',h,hr,hu,ha=>by
  simp only [RelVs] at hr
  obtain ⟨y,us,rfl,h1,h2⟩:=hr
  have h0:(∃A l c,y=.slice A l c)→u k=y:=λhs=>by simpa using hu 0 y Z hs
  have key:∀(a:AV),RelV w0 ρ nx a y→a63 cs u (Nat.succ k) (a :: acc)=some rs→RelVs w0 ρ nx rs (acc'++y :: us):=λa hy h'=>by
   have:=b0C h' h2 (λj y hj=>by rw [show Nat.succ k+j=k+(j+1) by omega];exact hu (j+1) y (by simpa using hj)) (acc':=acc'++[y]) (by
    rw [List.reverse_cons]
    refine RelVs.append _ ha ?_
    simp only [RelVs]
    exact ⟨_,_,Z,hy,Z⟩)
   simpa using this
  cases x<;>simp only [a63] at h
  case lst sz ys=>exact key _ (by simp only [RelV] at h1 ⊢;obtain ⟨A,c,e,_⟩:=id h1;exact ⟨(h0 ⟨_,_,_,e⟩).symm,h1⟩) h
  case nst z sz ys=>exact key _ (by simp only [RelV] at h1 ⊢;obtain ⟨_,A,c,e,_⟩:=id h1;exact ⟨λv hv=>by cases hv;exact (h0 ⟨_,_,_,e⟩).symm,h1.2⟩) h
  all_goals exact key _ h1 h
theorem c6j (t:Nat) {cs:List AV} (ht:look t T=some (.agg cs)) {rs:(Nat→Value)→List AV} (hr:∀u,a63 cs u 0 []=some (rs u)) (h:∀u:Nat→Option Addr×Nat×Nat,W P w0 c ⟨(t,.agg (rs λj=>.slice (u j).1 (u j).2.1 (u j).2.2)) :: T,m,nx,nt⟩ Q):W P w0 c ⟨T,m,nx,nt⟩ Q:=by
 intro ρ a w hT hC
 have h1:=hT.tmps t _ ht
 simp only [RelV] at h1
 obtain ⟨us,he,h1⟩:=h1
 let p:Value→Option Addr×Nat×Nat:=λv=>match v with
  | .slice A l c=>(A,l,c)
  | _=>(none,0,0)
 let u:Nat→Option Addr×Nat×Nat:=λi=>p (us.getD i undef)
 refine h u ρ a w ⟨λi x hi=>?_,hT.size,hT.defers⟩ hC
 by_cases e:i=t
 ·subst e
  rw [p9] at hi
  cases hi
  simp only [RelV]
  have key:∀j y,us[j]?=some y→(∃A l c,y=.slice A l c)→(λj=>Value.slice (u j).1 (u j).2.1 (u j).2.2) (0+j)=y:=λj y hj hs=>by
   grind
  have:=b0C (acc':=[]) (hr λj=>.slice (u j).1 (u j).2.1 (u j).2.2) h1 key (by simp [RelVs])
  grind
 ·rw [l6 (λe'=>e e'.symm)] at hi
  exact hT.tmps i x hi
end
def a8p (x:Ifc):List CI:=[.x,.x,.x,.x]
section
variable {w0:Base} {T:List (Nat×AV)} {m:List (Nat×Option Row)} {nx nt:Nat}
theorem Gh.nestX {id e:Nat} {yss:List (List CI)} (xs:List Ifc) (hm:mem m id=some (.nest e 4 yss [])) (h:yss.length=xs.length):Gh w0 ⟨T,m,nx,nt⟩ ⟨T,(id,some (.nest e 4 (xs.map a8p) [])) :: m,nx,nt⟩:=by
 intro ρ a w hT hC
 obtain ⟨hlt,cells,hN,hop⟩:=hC.nestC hm
 obtain ⟨n1,n2,n3,n4,n5⟩:=hN
 have hx:∀{i k:Nat} {c:CI},C3 (xs.map a8p) i k=some c→c=.x/\i < xs.length/\k < 4:=λ{i k c} hc=>by
  simp only [C3,List.getElem?_map] at hc
  cases hi:xs[i]? with
  | none=>rw [hi] at hc;cases hc
  | some x =>
   grind [a8p]
 refine ⟨ρ,hT,hC.retell hm (row':=.nest e 4 (xs.map a8p) []) ⟨cells,⟨by rw [List.length_map,← h];exact n1,by rw [List.length_map,← h];exact n2,n3,λcs hcs=>?_,λi k c hc=>?_⟩,λq hq=>by cases hq⟩ λp b hb=>?_⟩
 ·obtain ⟨x,_,rfl⟩:=List.mem_map.1 hcs;rfl
 ·obtain ⟨rfl,hi,hk⟩:=hx hc
  have hi':i < cells.length:=by rw [n2,h];exact hi
  have hk':k < (cells[i]).length:=by rw [(n3 _ (List.getElem_mem hi')).1];exact hk
  exact ⟨(cells[i])[k],by simp only [C3,List.getElem?_eq_getElem hi'];exact List.getElem?_eq_getElem hk',trivial⟩
 ·have hb:A2 w (ρ id) 4 (xs.map a8p) p=some b:=hb
  exfalso
  unfold A2 at hb
  grind
end
theorem b0D {sz:Nat} {p:Nat×Nat} (h:FlLe yss yss') (hb:A2 w y sz yss' p=some b):A2 w y sz yss p=some b:=by
 unfold A2 at hb ⊢
 cases hc:Go.Rf.C3 yss' p.1 p.2 with
 | none=>rw [hc] at hb;cases hb
 | some c =>
  rw [hc] at hb
  obtain ⟨d,hd,hle⟩:=h.nget hc
  rw [hd]
  rcases hle with rfl | ⟨e1,sz1,ys,f,rfl,rfl⟩
  ·exact hb
  ·exact hb
theorem NestR.fl {sz:Nat} (h:FlLe yss yss') (hn:NestR B w y e sz yss):NestR B w y e sz yss':=by
 obtain ⟨cells,⟨n1,n2,n3,n4,n5⟩,hi⟩:=hn
 refine ⟨cells,⟨by rw [← h.1];exact n1,by rw [← h.1];exact n2,n3,λcs hcs=>?_,λi k c hc=>?_⟩,λp b hb=>?_⟩
 ·obtain ⟨i,hi,rfl⟩:=List.getElem_of_mem hcs
  obtain ⟨a',ha,hr⟩:=h.2 i _ (List.getElem?_eq_getElem hi)
  rw [← hr.1]
  grind
 ·obtain ⟨d,hd,hle⟩:=h.nget hc
  obtain ⟨u,hu,hr⟩:=n5 i k d hd
  refine ⟨u,hu,?_⟩
  rcases hle with rfl | ⟨e1,sz1,ys,f,rfl,rfl⟩
  ·exact hr
  ·exact ⟨OwnR.gen hr.1,hr.2⟩
 ·obtain ⟨h1,h2⟩:=hi p b (b0D h hb)
  exact ⟨h1,λp' hp'=>h2 p' (b0D h hp')⟩
inductive RCLe:RC→RC→Prop
 | s {r:RC}:RCLe r r
 | n {e sz:Nat} {yss yss':List (List CI)} (h:FlLe yss yss'):RCLe (.ne e sz yss) (.ne e sz yss')
inductive RCsLe:List RC→List RC→Prop
 | nil:RCsLe [] []
 | cons {r r':RC} {a b:List RC} (h:RCLe r r') (hr:RCsLe a b):RCsLe (r :: a) (r' :: b)
theorem RCLe.rel (h:RCLe r r') (hr:RCRel B w r y):RCRel B w r' y:=by
 cases h with
 | s=>exact hr
 | n h=>exact NestR.fl h hr
theorem RCLe.foot (h:RCLe r r') (hr:a4e w r' y b):a4e w r y b:=by
 cases h with
 | s=>exact hr
 | n h =>
  simp only [a4e] at hr ⊢
  rcases hr with hr | ⟨p,hp⟩
  ·exact .inl hr
  ·exact .inr ⟨p,b0D h hp⟩
theorem RCsLe.foot:∀{r r':List RC} {ys:List Value},RCsLe r r'→a0L w r' ys b→a0L w r ys b
 | _,_,ys,.nil,hr=>by cases ys<;>simp [a0L] at hr
 | _,_,[],.cons h hr,g=>by simp [a0L] at g
 | _,_,y :: ys,.cons h hr,g=>by
  simp only [a0L] at g ⊢
  rcases g with g | g
  ·exact .inl (h.foot g)
  ·exact .inr (RCsLe.foot hr g)
theorem RCsLe.rel:∀{r r':List RC} {ys:List Value},RCsLe r r'→RCRels B w r ys→RCRels B w r' ys
 | _,_,ys,.nil,h=>h
 | _,_,ys,.cons h hr,g=>by
  simp only [RCRels] at g ⊢
  obtain ⟨y,ys',rfl,h1,h2,h3⟩:=g
  exact ⟨y,ys',Z,h.rel h1,RCsLe.rel hr h2,λb hb hf=>h3 b (h.foot hb) (hr.foot hf)⟩
theorem Ctr.shpTo [Env P] {f:FuncId} {args:List AV} {sg:Bool} {sh:List (Option Nat)} {rs rs':List RC} (h:Ctr P f args (.shp sg sh rs)) (hr:RCsLe rs rs'):Ctr P f args (.shp sg sh rs') :=
 ⟨h.callable,λw vs he hv=>(h.calls w vs he hv).mono λe w' ⟨v,h1,h2,h3⟩=>⟨v,h1,by
  simp only [ResRel] at h2 ⊢
  obtain ⟨ys,vs,g1,g2,g3⟩:=h2
  exact ⟨ys,vs,hr.rel g1,g2,g3⟩,h3⟩⟩
end Go.Rf
namespace Go.Rf
open Go
variable {i:Nat} {m m':Mach} {r:ByteArray} {x:Ifc}
theorem c6k {w:World} {ρ:Nat→Value} {nx:Nat} {a b c d e f:AV} {yss yss':List (List CI)} {rest:List AV} (hf:FlLe yss yss'):∀vs,RelVs w ρ nx (.agg [a,b,c,.nst none 4 yss',d,e,f] :: rest) vs→RelVs w ρ nx (.agg [a,b,c,.nst none 4 yss,d,e,f] :: rest) vs:=by
 intro vs h
 simp only [RelVs,RelV] at h ⊢
 obtain ⟨y,ys',rfl,⟨zs,rfl,y0,t0,rfl,h0,y1,t1,rfl,h1,y2,t2,rfl,h2,y3,t3,rfl,⟨h3,h4⟩,y4,t4,rfl,h5,y5,t5,rfl,h6,y6,t6,rfl,h7,rfl⟩,hr⟩:=h
 exact ⟨_,_,Z,⟨_,Z,_,_,Z,h0,_,_,Z,h1,_,_,Z,h2,_,_,Z,⟨by simp,NReadsAt.fl hf h4⟩,_,_,Z,h5,_,_,Z,h6,_,_,Z,h7,Z⟩,hr⟩
theorem b9U {sl:List Slot} {q:Int} (h0:0<=o9 sl q) (h:(sl.getD (o9 sl q).toNat default).s=3):edS sl q=sl.set (o9 sl q).toNat ⟨1,(sl.getD (o9 sl q).toNat default).q,(sl.getD (o9 sl q).toNat default).p⟩:=by rw [b9N h,(c7W h0).1]
theorem b6S (h:IfG x) (h0:x.st.length≠0):0<=o9 x.qu.sl (J4 x)/\R2 (x.qu.sl.getD (o9 x.qu.sl (J4 x)).toNat default)=true:=⟨a3E (h.f.st _ (a23 h0)),c1V h.f.qu.sl (h.f.st _ (a23 h0))⟩
theorem a8q (h0:x.st.length≠0):x.st.getD ((x.st.length:Int) - 1).toNat default=J4 x:=by
 rw [show ((x.st.length:Int) - 1).toNat=x.st.length - 1 by omega];rfl
theorem c6l {α β:Type} [Inhabited α] {l:List α} {f:α→β} {i:Nat} (h:i < l.length):(l.map f)[i]?=some (f (l.getD i default)):=by simp [h]
theorem b0E {xs:List Int}:List.take (((xs.length:Int) - 1).toNat - Int.toNat 0) (List.drop (Int.toNat 0) (xs.map r5))=(xs.take (xs.length - 1)).map r5:=by
 simp
def a0G (x:Ifc):Ifc×Int×Bool:=if x.st.length=0 then (noI,0,false) else (a2o x,J4 x,true)
theorem b6T (h:x.st.length=0):a0G x=(noI,0,false):=if_pos h
theorem b6U (h:x.st.length≠0):a0G x=(a2o x,J4 x,true):=if_neg h
theorem c93 {m:Mach} {sk sq sv:Int} {c:Nat} (h:sk=3):stM m ⟨sk,sq,(c:Int),sv⟩=(⟨m.rs,m.en,m.ra,m.cp.set c (X7 (m.cp.getD c default)).1⟩,(X7 (m.cp.getD c default)).2.1,(X7 (m.cp.getD c default)).2.2):=by
 cases hk:okT (m.cp.getD c default)
 ·rw [c8c h hk,b6z hk]
 ·rw [sm3 h hk,b6y hk]
theorem c94 {m:Mach} {sk sq sv:Int} {c:Nat} (h:sk=4):stM m ⟨sk,sq,(c:Int),sv⟩=(⟨m.rs,m.en,m.ra,m.cp.set c (a0G (m.cp.getD c default)).1⟩,(a0G (m.cp.getD c default)).2.1,(a0G (m.cp.getD c default)).2.2):=by
 by_cases hk:(m.cp.getD c default).st.length=0
 ·rw [c8d h hk,b6T hk]
 ·rw [sm4 h hk,b6U hk]
theorem Z4 {eS eW:Nat} {xs:List Ifc} {c:Nat} {x:Ifc} {row:List CI} (h:FlR row (a3I eS eW x)):FlLe ((xs.map (a3I eS eW)).set c row) ((xs.set c x).map (a3I eS eW)):=by rw [List.map_set];exact FlLe.refl.set h
theorem c6m {eS eW:Nat} {xs:List Ifc} {c:Nat} {row:List CI} (h:row=r4 eS eW x):(xs.map (r4 eS eW)).set c row=(xs.set c x).map (r4 eS eW):=by rw [List.map_set,h]
theorem b0F (h:IfG x) (h0:x.st.length≠0):0<=J4 x/\J4 x<=7:=by
 obtain ⟨j,h1,h2,h3⟩:=(J8 4).mp ((a0r h.f.qu.sl.len).mp (h.f.st _ (a23 h0)))
 rw [← h3]
 exact (h.f.qu.sl.ok j h1 (by rcases s8.mp h2 with g | g<;>omega)).2.1
theorem a9L (h:IfG x) (hk:okT x=true):0<=tkI x.qu.sl/\tkI x.qu.sl<=7:=b5F h.f.qu.sl (I8.mp hk).1
def wrd (s:ByteArray) (i:Nat):ByteArray:=(j7 s 32).getD i default
def wn (s:ByteArray):Nat:=(j7 s 32).length
def E6 (s:ByteArray):Nat→List Int
 | 0=>[]
 | i+1=>E6 s i++[nmN (wrd s (i+1))]
theorem b2e {s:ByteArray}:E6 s (i+1)=E6 s i++[nmN (wrd s (i+1))]:=rfl
theorem a4L {s:ByteArray}:∀{i:Nat},(E6 s i).length=i
 | 0=>rfl
 | i+1=>by rw [b2e,List.length_append,a4L];rfl
theorem b0G {s:ByteArray} {b:Int}:∀i,∀x∈(spO s b i).1,x.size<=s.size
 | 0=>λx hx=>by cases hx
 | i+1=>λx hx=>by
  by_cases hb:s4 s i=b
  ·rw [a0V hb] at hx
   rcases List.mem_append.1 hx with h | h
   ·exact b0G i x h
   (simp_all;omega)
  ·rw [a3S hb] at hx
   exact b0G i x hx
theorem b9V {s:ByteArray} {i:Nat}:(wrd s i).size<=s.size:=by
 unfold wrd
 rw [List.getD_eq_getElem?_getD]
 cases h:(j7 s 32)[i]? with
 | none=>exact Nat.zero_le _
 | some x =>
  rcases List.mem_append.1 (List.mem_of_getElem? h) with h | h
  ·exact b0G _ x h
  simp_all
def H0 (s:ByteArray):Bool:=a2h (wn s - 1) (λj=>nmK (wrd s (j+1)))
def C2 (s:ByteArray):List Int:=E6 s (wn s - 1)
theorem b7V {s:ByteArray}:(C2 s).length=wn s - 1:=a4L
theorem b9W {s:ByteArray} (h:nmK (wrd s (i+1))=false) (hi:i < wn s - 1):H0 s=false:=a1h h hi
theorem b9X {s:ByteArray} (h:∀j,j < i→nmK (wrd s (j+1))=true) (hi:wn s - 1<=i):H0 s=true:=a3o h hi
theorem c6n {s:ByteArray} (h:wn s=1):s=wrd s 0:=by
 grind [wn,wrd,b0b,b31,u5]
theorem a6l {m:Mach} {s:MStep} (h:(smT m s).2.2=true):(smT m s).2.1≠-1↔(s.k=3∨s.k=4):=by
 unfold smT at h ⊢
 split at h
 ·next hk =>
  rw [if_pos hk]
  simp only [b5K,Bool.and_eq_true] at hk
  obtain ⟨⟨h1,h2⟩,h3⟩:=hk
  have hM:=(maF h1).g
  show (stM m s).2.1≠-1↔_
  unfold stM at h3 ⊢
  by_cases k1:s.k=1
  ·grind
  rw [if_neg k1] at h3 ⊢
  by_cases k2:s.k=2
  ·grind
  rw [if_neg k2] at h3 ⊢
  have hin:(s.k=3∨s.k=4)→s.c.toNat < m.cp.length:=λhk=>by
   grind [R4,n8]
  by_cases k3:s.k=3
  ·rw [if_pos k3] at h3 ⊢
   have hI:=hM.ok _ (hin (.inl k3))
   split at h3
   ·next ho =>
    rw [if_pos ho]
    have:=a9L hI ho
    grind
   ·cases h3
  rw [if_neg k3] at h3 ⊢
  by_cases k4:s.k=4
  ·rw [if_pos k4] at h3 ⊢
   have hI:=hM.ok _ (hin (.inr k4))
   split at h3
   ·cases h3
   ·next ho =>
    rw [if_neg ho]
    have:=b0F hI ho
    grind
  grind
 ·cases h
theorem a4M {m:Mach} {s:MStep}:-1<=(smT m s).2.1/\(smT m s).2.1<=7:=by
 unfold smT
 split
 ·next hk =>
  simp only [b5K,Bool.and_eq_true] at hk
  obtain ⟨⟨h1,h2⟩,h3⟩:=hk
  have hM:=(maF h1).g
  show -1<=(stM m s).2.1/\(stM m s).2.1<=7
  have hin:(s.k=3∨s.k=4)→s.c.toNat < m.cp.length:=λhk=>by
   grind [R4,n8]
  unfold stM at h3 ⊢
  by_cases k1:s.k=1
  ·grind
  rw [if_neg k1] at h3 ⊢
  by_cases k2:s.k=2
  ·grind
  rw [if_neg k2] at h3 ⊢
  by_cases k3:s.k=3
  ·rw [if_pos k3] at h3 ⊢
   have hI:=hM.ok _ (hin (.inl k3))
   split at h3
   ·next ho =>
    rw [if_pos ho]
    have:=a9L hI ho
    grind
   ·cases h3
  rw [if_neg k3] at h3 ⊢
  by_cases k4:s.k=4
  ·rw [if_pos k4] at h3 ⊢
   have hI:=hM.ok _ (hin (.inr k4))
   split at h3
   ·cases h3
   ·next ho =>
    rw [if_neg ho]
    have:=b0F hI ho
    grind
  grind
 simp
def a8U (m:Mach) (s:MStep):Mach×ByteArray×Bool:=if (smT m s).2.2 then ((smT m s).1,if (smT m s).2.1=-1 then okB else u3 (smT m s).2.1,true) else (m,⟨#[]⟩,false)
def a2q (m:Mach) (s:ByteArray):Mach×ByteArray×Bool :=
 if a2p (m9 (wrd s 0))=(wn s:Int) - 1 then
  if H0 s then
   if (a0E (m9 (wrd s 0)) (C2 s)).2 then a8U m (a0E (m9 (wrd s 0)) (C2 s)).1
   else (m,a4K m (m9 (wrd s 0)) (C2 s))
  else (m,⟨#[]⟩,false)
 else (m,⟨#[]⟩,false)
def E7 (m:Mach) (s:ByteArray):Mach×ByteArray:=((a2q m s).1,if (a2q m s).2.2 then (a2q m s).2.1 else qmB)
section
variable {m:Mach} {s:ByteArray}
theorem b9Y (h:¬ a2p (m9 (wrd s 0))=(wn s:Int) - 1):a2q m s=(m,⟨#[]⟩,false):=by unfold a2q;rw [if_neg h]
theorem b9Z (h:H0 s=false):a2q m s=(m,⟨#[]⟩,false):=by unfold a2q;split<;>simp [h]
theorem b90 (h1:a2p (m9 (wrd s 0))=(wn s:Int) - 1) (h2:H0 s=true) (h3:(a0E (m9 (wrd s 0)) (C2 s)).2=false):a2q m s=(m,a4K m (m9 (wrd s 0)) (C2 s)):=by unfold a2q;rw [if_pos h1,if_pos h2,if_neg (by simp [h3])]
theorem b91 (h1:a2p (m9 (wrd s 0))=(wn s:Int) - 1) (h2:H0 s=true) (h3:(a0E (m9 (wrd s 0)) (C2 s)).2=true):a2q m s=a8U m (a0E (m9 (wrd s 0)) (C2 s)).1:=by unfold a2q;rw [if_pos h1,if_pos h2,if_pos h3]
end
theorem a6m {s:ByteArray} {x:ByteArray} (h:a2q m s=(m',x,false)):E7 m s=(m',qmB):=by unfold E7;rw [h];rfl
theorem b3h {s:ByteArray} {x:ByteArray} (h:a2q m s=(m',x,true)):E7 m s=(m',x):=by unfold E7;rw [h];rfl
abbrev c14:ByteArray:=⟨#[98,97,100]⟩
abbrev b6V:ByteArray:=⟨#[102,117,108,108]⟩
abbrev c3c:ByteArray:=⟨#[108,111,110,103]⟩
def a7x (r:ByteArray):ByteArray:=if r.size > 200 then c3c else r
theorem c15 {α β:Type} [Inhabited α] {l:List α} {f:α→β} {i:Nat} (h:i+1 < l.length):(l.map f)[1+((i:Int)).toNat]?=some (f (l.getD (i+1) default)):=by rw [show 1+((i:Int)).toNat=i+1 by omega];simp [h]
theorem b7W {α β:Type} [Inhabited α] {l:List α} {f:α→β} {i:Nat} (h:i+1 < l.length):(l.map f)[((i:Int)+1).toNat]?=some (f (l.getD (i+1) default)):=by rw [show ((i:Int)+1).toNat=i+1 by omega];simp [h]
theorem N5 {c:ByteArray} (h:r.size<=200):(⟨c,r⟩:Rec).r.size<=9223372036854775807:=Nat.le_trans h (by decide)
theorem P7 {a:Array UInt8} (h:a.size<=200):(⟨a⟩:ByteArray).size<=9223372036854775807:=by show a.size<=_;omega
theorem b3i (h:(r.size:Int) > 200):a7x r=c3c:=by unfold a7x;rw [if_pos J]
theorem a2r (h:¬ (r.size:Int) > 200):a7x r=r:=by unfold a7x;rw [if_neg J]
theorem c16:(a7x r).size<=200:=by
 unfold a7x
 split
 ·decide
 ·omega
def exC (m:Mach) (x:Lg) (s:ByteArray):Mach×Lg×ByteArray :=
 if okCo m x=false then (m,x,noB)
 else if C7 ⟨s,⟨#[]⟩⟩=false then (m,x,c14)
 else if x.n=60 then (m,x,b6V)
 else ((E7 m s).1,apE x ⟨s,a7x (E7 m s).2⟩,a7x (E7 m s).2)
section
variable {m:Mach} {x:Lg} {s:ByteArray}
theorem b92 (h:okCo m x=false):exC m x s=(m,x,noB):=by unfold exC;rw [if_pos h]
theorem b93 (h:okCo m x=true) (h2:C7 ⟨s,⟨#[]⟩⟩=false):exC m x s=(m,x,c14):=by unfold exC;rw [if_neg (by simp [h]),if_pos h2]
theorem b94 (h:okCo m x=true) (h2:C7 ⟨s,⟨#[]⟩⟩=true) (h3:x.n=60):exC m x s=(m,x,b6V):=by unfold exC;rw [if_neg (by simp [h]),if_neg (by simp [h2]),if_pos h3]
theorem O5 (h:okCo m x=true) (h2:C7 ⟨s,⟨#[]⟩⟩=true) (h3:¬ x.n=60) {m':Mach} {r:ByteArray} (h4:E7 m s=(m',r)):exC m x s=(m',apE x ⟨s,a7x r⟩,a7x r):=by unfold exC;rw [if_neg (by simp [h]),if_neg (by simp [h2]),if_neg h3,h4]
end
def a4N (m:Mach) (k:Nat) (c:Int):ByteArray:=if (V7 m k c).2 then (V7 m k c).1 else qmB
def P8 (m:Mach) (s:MStep):Mach×ByteArray:=if (smT m s).2.2 then ((smT m s).1,if (smT m s).2.1=-1 then okB else u3 (smT m s).2.1) else (m,qmB)
section
variable {m:Mach} {k:Nat} {c:Int} {s:ByteArray}
theorem c6o (h:n8 c 0 ((m.cp.length:Int) - 1)=false):a4N m k c=qmB:=by unfold a4N;rw [b6O h];rfl
theorem c6p (h:n8 c 0 ((m.cp.length:Int) - 1)=true) (hk:k=8):a4N m k c=a4G (C9 (m.cp.getD c.toNat default).qu):=by unfold a4N;rw [b6P h hk];rfl
theorem c6q (h:n8 c 0 ((m.cp.length:Int) - 1)=true) (hk:k=9):a4N m k c=a4G (m.cp.getD c.toNat default).st:=by unfold a4N;rw [b6Q h hk];rfl
theorem c17 (h:n8 c 0 ((m.cp.length:Int) - 1)=true) (hk:k=11):a4N m k c=a4H (m.cp.getD c.toNat default).qu.sl:=by unfold a4N;rw [b4y h hk];rfl
theorem b95 (h:n8 c 0 ((m.cp.length:Int) - 1)=true) (hk:k=10) (hn:A5 m.rs (w9 m) c.toNat < 0):a4N m k c=b4s:=by
 have:=@b0m m.rs (w9 m) c.toNat
 unfold a4N;rw [b2c h hk J];rfl
theorem b96 (h:n8 c 0 ((m.cp.length:Int) - 1)=true) (hk:k=10) (hn:¬ A5 m.rs (w9 m) c.toNat < 0):a4N m k c=u3 (A5 m.rs (w9 m) c.toNat):=by unfold a4N;rw [b2d h hk J];rfl
theorem b97 (h1:k≠8) (h2:k≠9) (h3:k≠11) (h4:k≠10):a4N m k c=qmB:=by unfold a4N;rw [c1Z h1 h2 h3 h4];rfl
theorem c6r (h:H0 s=false):E7 m s=(m,qmB):=a6m (b9Z h)
theorem b3j (h:¬ a2p (m9 (wrd s 0))=(wn s:Int) - 1):E7 m s=(m,qmB):=a6m (b9Y h)
theorem a3J (h1:a2p (m9 (wrd s 0))=(wn s:Int) - 1) (h2:H0 s=true) (h3:(a0E (m9 (wrd s 0)) (C2 s)).2=true):E7 m s=P8 m (a0E (m9 (wrd s 0)) (C2 s)).1:=by
 grind [b91,a8U,P8,b3h,a6m]
theorem b3k (h1:a2p (m9 (wrd s 0))=(wn s:Int) - 1) (h2:H0 s=true) (h3:(a0E (m9 (wrd s 0)) (C2 s)).2=false):E7 m s=(m,if (a4K m (m9 (wrd s 0)) (C2 s)).2 then (a4K m (m9 (wrd s 0)) (C2 s)).1 else qmB):=by
 unfold E7
 rw [b90 h1 h2 h3]
theorem c8i (h:wn s=1) (h2:H0 s=true) (hk:m9 (wrd s 0)=0):E7 m s=P8 m ⟨2,0,0,0⟩:=by
 rw [a3J (by rw [a4J J];omega) h2 (by rw [hk];rfl),hk];rfl
theorem c8j (h:wn s=1) (h2:H0 s=true) (hk:m9 (wrd s 0)=1):E7 m s=(m,a4G (raN m)):=by
 rw [b3k (by rw [a4J J];omega) h2 (by rw [hk];rfl),b9Q hk];rfl
theorem c6s (h:wn s=1) (h2:H0 s=true) (hk:m9 (wrd s 0)=2) (hi:a8o m=true):E7 m s=(m,c6g):=by
 rw [b3k (by rw [a4J J];omega) h2 (by rw [hk];rfl),b6M hk hi];rfl
theorem c6t (h:wn s=1) (h2:H0 s=true) (hk:m9 (wrd s 0)=2) (hi:a8o m=false):E7 m s=(m,noB):=by
 rw [b3k (by rw [a4J J];omega) h2 (by rw [hk];rfl),b6N hk hi];rfl
theorem c8k (h:wn s=1) (h0:¬ m9 (wrd s 0)=0) (h1:¬ m9 (wrd s 0)=1) (h3:¬ m9 (wrd s 0)=2):E7 m s=(m,qmB):=by
 have hl:=@b3f (wrd s 0)
 refine b3j ?_
 by_cases g:m9 (wrd s 0)<=11
 ·rw [a0M J];omega
 ·grind [a8n,a6k]
theorem c8l (h:wn s=2) (h2:H0 s=true) (hk:m9 (wrd s 0)=3):E7 m s=P8 m ⟨1,(C2 s).getD 0 default,0,0⟩:=by
 rw [a3J (by rw [a0M J];omega) h2 (by rw [hk];rfl),hk];rfl
theorem c8m (h:wn s=2) (h2:H0 s=true) (hk:m9 (wrd s 0)=4):E7 m s=P8 m ⟨6,(C2 s).getD 0 default,0,1⟩:=by
 rw [a3J (by rw [a0M J];omega) h2 (by rw [hk];rfl),hk];rfl
theorem c8n (h:wn s=2) (h2:H0 s=true) (hk:m9 (wrd s 0)=5):E7 m s=P8 m ⟨6,(C2 s).getD 0 default,0,0⟩:=by
 rw [a3J (by rw [a0M J];omega) h2 (by rw [hk];rfl),hk];rfl
theorem c8o (h:wn s=2) (h2:H0 s=true) (hk:m9 (wrd s 0)=6):E7 m s=P8 m ⟨3,0,(C2 s).getD 0 default,0⟩:=by
 rw [a3J (by rw [a0M J];omega) h2 (by rw [hk];rfl),hk];rfl
theorem c8p (h:wn s=2) (h2:H0 s=true) (hk:m9 (wrd s 0)=7):E7 m s=P8 m ⟨4,0,(C2 s).getD 0 default,0⟩:=by
 rw [a3J (by rw [a0M J];omega) h2 (by rw [hk];rfl),hk];rfl
theorem c8q (h:wn s=2) (h2:H0 s=true) (h3:¬ m9 (wrd s 0)=3) (h4:¬ m9 (wrd s 0)=4) (h5:¬ m9 (wrd s 0)=5) (h6:¬ m9 (wrd s 0)=6) (h7:¬ m9 (wrd s 0)=7):E7 m s=(m,a4N m (m9 (wrd s 0)) ((C2 s).getD 0 default)):=by
 have hl:=@b3f (wrd s 0)
 by_cases g:8<=m9 (wrd s 0)/\m9 (wrd s 0)<=11
 ·rw [b3k (by rw [a0M J];omega) h2 (by unfold a0E;rw [if_neg J,if_neg J,if_neg J,if_neg J,if_neg J,if_neg J,if_neg J]),b9R J J]
  rfl
 ·rw [b97 J J J J]
  refine b3j ?_
  by_cases g1:m9 (wrd s 0)<=2
  ·rw [a4J g1];omega
  ·by_cases g2:m9 (wrd s 0)=12
   ·rw [a8n g2];omega
   ·rw [a6k J];omega
theorem c6u (h:wn s=3) (h2:H0 s=true) (hk:m9 (wrd s 0)=12):E7 m s=P8 m ⟨5,0,(C2 s).getD 0 default,(C2 s).getD 1 default⟩:=by
 rw [a3J (by rw [a8n hk];omega) h2 (by rw [hk];rfl),hk];rfl
theorem c8r (h:wn s=3) (hk:¬ m9 (wrd s 0)=12):E7 m s=(m,qmB):=by
 refine b3j ?_
 have hl:=@b3f (wrd s 0)
 by_cases g1:m9 (wrd s 0)<=2
 ·rw [a4J g1];omega
 ·grind [a0M,a6k]
theorem ct3 (h:4<=wn s):E7 m s=(m,qmB):=by
 grind [b3j,a4J,a0M,a8n,a6k]
theorem V8 {t:MStep} (h:(smT m t).2.2=true):SmallM (smT m t).1:=by
 unfold smT at h ⊢
 split at h
 ·next hk =>
  rw [if_pos hk]
  simp only [b5K,Bool.and_eq_true] at hk
  obtain ⟨⟨h1,h2⟩,h3⟩:=hk
  exact (c3a (maF h1).g h2 h3).1.small
 ·cases h
end
end Go.Rf
namespace Go.Rf
open Go Go.RowKit
def lrT (x:Lg):List Rec:=if okLg x then pre (Z2 (x.d++x.p)) (r6 (x.d++x.p)) else []
theorem c95 {x:Lg} (h:okLg x=false):lrT x=[]/\okLg x=false:=by rw [lrT,h];exact ⟨Z,Z⟩
theorem c18 {x:Lg} (h:okLg x=true):lrT x=pre (Z2 (x.d++x.p)) (r6 (x.d++x.p))/\okLg x=true:=by rw [lrT,h];exact ⟨Z,Z⟩
end Go.Rf
namespace Go.Rf
open Go
variable {c:Int} {e:Nat} {m:Mach} {rs:List Route} {x:Lg}
theorem c3d {r:Rec} (hx:x.d.size+x.p.size<=1048576):(apE x r).d.size+(apE x r).p.size<=1048576:=by
 grind [apE,okLg,apG,a5v,a5w]
theorem b7X {s:ByteArray} (h:SmallM m):SmallM (E7 m s).1:=by
 show SmallM (a2q m s).1
 unfold a2q
 split
 ·grind [a8U,V8]
 ·exact h
theorem a0n {s:ByteArray} (h:SmallM m) (hx:x.d.size+x.p.size<=1048576):SmallM (exC m x s).1/\(exC m x s).2.1.d.size+(exC m x s).2.1.p.size<=1048576:=by
 unfold exC
 split
 ·exact ⟨h,hx⟩
 ·split
  ·exact ⟨h,hx⟩
  ·split
   ·exact ⟨h,hx⟩
   ·exact ⟨b7X h,c3d hx⟩
def lg0:Lg:=⟨⟨#[]⟩,⟨#[]⟩,0⟩
section
variable {rs:List Route} {c:Int} {l:Lg} {i:Nat}
end
theorem ArgsOK.sub1 {T:List (Nat×AV)} {m:List (Nat×Option Row)} {nx:Nat} {x:Operand} {id sz i n:Nat} {ys us:List (List Value)} (hx:ev T x=some (.sub id sz i n)) (hm:mem m id=some (.row e sz ys)) (hle:i+n<=ys.length) (he:(ys.drop i).take n=us):ArgsOK T m nx [x] [.lst sz us]:=by
 subst he
 exact ⟨_,_,_,Z,hx,ArgOK.sub hm hle,Z⟩
def ptG (sl:List Slot) (irq p:Int):List Slot×Bool:=if 0<=o9 sl irq then (ptS sl irq,true) else if 0<=freS sl then (sl.set (freS sl).toNat ⟨1,irq,p⟩,true) else ([],false)
def edQ (sl:List Slot) (irq:Int):List Slot:=if (sl.getD (o9 sl irq).toNat default).s=2 then sl.set (o9 sl irq).toNat zSl else sl.set (o9 sl irq).toNat ⟨1,(sl.getD (o9 sl irq).toNat default).q,(sl.getD (o9 sl irq).toNat default).p⟩
def edG (sl:List Slot) (irq:Int):List Slot×Bool:=if 0<=o9 sl irq/\¬ (sl.getD (o9 sl irq).toNat default).s=1 then (edQ sl irq,true) else ([],false)
def tkA (sl:List Slot) (lim:Int):List Slot×Int:=if a0h sl lim then (tkS sl,tkI sl) else (sl,-1)
section
variable {sl:List Slot} {irq p lim:Int}
theorem c8s (h:0<=o9 sl irq):ptG sl irq p=(ptS sl irq,true):=by unfold ptG;rw [if_pos h]
theorem c8t (h:o9 sl irq < 0) (h2:0<=freS sl):ptG sl irq p=(sl.set (freS sl).toNat ⟨1,irq,p⟩,true):=by unfold ptG;rw [if_neg J,if_pos h2]
theorem c8u (h:o9 sl irq < 0) (h2:freS sl < 0):ptG sl irq p=([],false):=by unfold ptG;rw [if_neg J,if_neg J]
theorem a7y (h:(ptG sl irq p).2=true):(ptG sl irq p).1.length=sl.length:=by
 grind [ptG,ptS]
theorem b98 (h:o9 sl irq < 0∨(sl.getD (o9 sl irq).toNat default).s=1):edG sl irq=([],false):=by
 grind [edG]
theorem c8v (h:0<=o9 sl irq) (h2:(sl.getD (o9 sl irq).toNat default).s=2):edG sl irq=(sl.set (o9 sl irq).toNat zSl,true):=by
 unfold edG edQ
 grind
theorem c8w (h:0<=o9 sl irq) (h1:¬ (sl.getD (o9 sl irq).toNat default).s=1) (h2:¬ (sl.getD (o9 sl irq).toNat default).s=2):edG sl irq=(sl.set (o9 sl irq).toNat ⟨1,(sl.getD (o9 sl irq).toNat default).q,(sl.getD (o9 sl irq).toNat default).p⟩,true):=by
 unfold edG edQ
 grind
theorem a7z (h:(edG sl irq).2=true):(edG sl irq).1.length=sl.length:=by
 grind [edG,edQ]
theorem c3e (h:a0h sl lim=true):tkA sl lim=(tkS sl,tkI sl):=by unfold tkA;rw [h];rfl
theorem b99 (h:a0h sl lim=false):tkA sl lim=(sl,-1):=by unfold tkA;rw [h];rfl
theorem a7A:(tkA sl lim).1.length=sl.length:=by
 cases h:a0h sl lim
 ·rw [b99 h]
 ·rw [c3e h];exact List.length_set
end
def tkQ (q:Que) (lim:Int):Que×Int:=if a0h q.sl lim then (a4B q,tkI q.sl) else (q,-1)
def enG (q:Que) (irq:Int):Que×Bool:=if 0<=o9 q.sl irq/\R2 (q.sl.getD (o9 q.sl irq).toNat default)=true then (a4C q irq,true) else (⟨[],[]⟩,false)
section
variable {q:Que} {irq p lim:Int}
theorem c3f (h:a0h q.sl lim=true):tkQ q lim=(a4B q,tkI q.sl):=by unfold tkQ;rw [h];rfl
theorem c3g (h:a0h q.sl lim=false):tkQ q lim=(q,-1):=by unfold tkQ;rw [h];rfl
theorem b2f (h:QF q):QF (tkQ q lim).1:=by
 grind [c3g,c3f,b5y,I8]
theorem c3h (h:0<=o9 q.sl irq) (h2:R2 (q.sl.getD (o9 q.sl irq).toNat default)=true):enG q irq=(a4C q irq,true):=by unfold enG;rw [if_pos ⟨h,h2⟩]
theorem c3i (h:¬ (0<=o9 q.sl irq/\R2 (q.sl.getD (o9 q.sl irq).toNat default)=true)):enG q irq=(⟨[],[]⟩,false):=by unfold enG;rw [if_neg h]
theorem b2g (h:QF q) (hk:(enG q irq).2=true):QF (enG q irq).1:=by
 grind [c3h,b5z,c3i]
theorem c6v (h:QF q) (hn:¬ (0<=o9 q.sl irq/\R2 (q.sl.getD (o9 q.sl irq).toNat default)=true)):edG q.sl irq=([],false):=by
 refine b98 ?_
 rcases Int.lt_or_le (o9 q.sl irq) 0 with g | g
 ·exact .inl g
 ·obtain ⟨k,e1,e2,e3,e4⟩:=a1t g
  have hb:=(h.sl.ok k (by rw [← h.sl.len];exact e2) e3).1
  refine .inr ?_
  rw [e1,Int.toNat_natCast] at hn ⊢
  have:¬ ((q.sl.getD k default).s=2∨(q.sl.getD k default).s=3):=λe=>hn ⟨by omega,s8.mpr e⟩
  omega
theorem c0a (h:QF q) (hn:¬ (0<=o9 q.sl irq/\R2 (q.sl.getD (o9 q.sl irq).toNat default)=true)):Res.many [.fr e 3 ((edG q.sl irq).1.map g8),.v (.bool (edG q.sl irq).2)]=.many [.fr e 3 (([]:List Slot).map g8),.v (.bool false)]:=by rw [c6v h hn]
def q0:Que:=⟨[zSl,zSl,zSl,zSl],[]⟩
theorem c8x:QF q0:=by
 have hz:∀i,i < 4→([zSl,zSl,zSl,zSl]:List Slot).getD i default=zSl:=λi hi=>by
  grind
 refine ⟨⟨Z,λi hi _=>hz i hi,λi hi h0=>absurd ?_ h0,λi j hij hj h0=>absurd ?_ h0⟩,Nat.zero_le _,λw hw=>(by cases hw),List.Pairwise.nil⟩
 ·show (([zSl,zSl,zSl,zSl]:List Slot).getD i default).s=0;rw [hz i hi];rfl
 ·show (([zSl,zSl,zSl,zSl]:List Slot).getD i default).s=0;rw [hz i J];rfl
end
def tkX (x:Ifc):Ifc×Int:=if okT x then (a2Z x,tkI x.qu.sl) else (x,-1)
def lvX (x:Ifc):Ifc×Int:=if x.st.length=0 then (x,-1) else (a2o x,J4 x)
section
variable {x:Ifc}
theorem c3j (h:okT x=true):tkX x=(a2Z x,tkI x.qu.sl):=by unfold tkX;rw [h];rfl
theorem c3k (h:okT x=false):tkX x=(x,-1):=by unfold tkX;rw [h];rfl
theorem b6W (h:IfG x):IfG (tkX x).1:=by
 cases hk:okT x
 ·rw [c3k hk];exact h
 ·rw [c3j hk];exact c1U h hk
theorem c3l (h:¬ x.st.length=0):lvX x=(a2o x,J4 x):=by unfold lvX;rw [if_neg h]
theorem c3m (h:x.st.length=0):lvX x=(x,-1):=by unfold lvX;rw [if_pos h]
theorem b6X (h:IfG x):IfG (lvX x).1:=by
 grind [c3m,c3l,c1W]
theorem c0b:IfG b7M:=⟨⟨c8x,Nat.zero_le _,λq hq=>(by cases hq)⟩,List.nodup_nil⟩
end
def DrQ (q:Que):Prop:=q.sl.length<=5/\q.wa.length<=10
def DrI (x:Ifc):Prop:=x.st.length<=5/\x.qu.sl.length<=5/\x.qu.wa.length<=10
structure DrM (m:Mach):Prop where
 rs:m.rs.length=8
 en:m.en.length=8
 ra:m.ra.length<=9
 n:1<=m.cp.length/\m.cp.length<=3
 cp:∀x∈m.cp,DrI x
theorem QF.dr {q:Que} (h:QF q):DrQ q:=⟨by rw [h.sl.len];decide,by have:=h.wn8;omega⟩
theorem IfG.dr {x:Ifc} (h:IfG x):DrI x:=⟨by have:=h.f.sn;omega,h.f.qu.dr.1,h.f.qu.dr.2⟩
theorem DrI.sz {x:Ifc} (h:DrI x):szI x<=20:=by
 obtain ⟨h1,h2,h3⟩:=h
 unfold szI
 omega
theorem DrM.small (h:DrM m):SmallM m:=by
 have h1:=h.n
 refine ⟨by rw [h.rs];decide,by rw [h.en];decide,by have:=h.ra;omega,by omega,?_⟩
 have key:∀i,i<=m.cp.length→sumI m.cp i<=20 * i:=by
  intro i
  induction i with
  | zero=>intro _;exact Int.le_refl _
  | succ i ih =>
   intro hi
   rw [a2Y]
   have:=ih J
   have:=(h.cp (m.cp.getD i default) (i6.mpr ⟨i,by omega,Z⟩)).sz
   push_cast
   omega
 grind
theorem MaG.dr (h:MaG m):DrM m:=⟨h.rn,h.en,by rw [h.ra];decide,by have:=h.n;omega,λx hx=>by
 obtain ⟨k,hk,rfl⟩:=i6.mp hx
 exact (h.ok k hk).dr⟩
theorem DrM.setR (h:DrM m) {k:Nat} {r:Route}:DrM ⟨m.rs.set k r,m.en,m.ra,m.cp⟩:=⟨by show (m.rs.set k r).length=8;rw [List.length_set];exact h.rs,h.en,h.ra,h.n,h.cp⟩
theorem DrM.addA (h:DrM m) (h8:m.ra.length=8) {b:Bool}:DrM ⟨m.rs,m.en,m.ra++[b],m.cp⟩:=⟨h.rs,h.en,by show (m.ra++[b]).length<=9;rw [List.length_append,List.length_cons,List.length_nil,h8];decide,h.n,h.cp⟩
theorem DrM.setC (h:DrM m) {k:Nat} {x:Ifc} (hx:DrI x):DrM ⟨m.rs,m.en,m.ra,m.cp.set k x⟩:=⟨h.rs,h.en,h.ra,by show 1<=(m.cp.set k x).length/\(m.cp.set k x).length<=3;rw [List.length_set];exact h.n,λy hy=>by
 rcases List.mem_or_eq_of_mem_set hy with g | g
 ·exact h.cp y g
 ·rw [g];exact hx⟩
theorem DrM.addC (h:DrM m) (hn:m.cp.length<=2) {x:Ifc} (hx:DrI x):DrM ⟨m.rs,m.en,m.ra,m.cp++[x]⟩:=⟨h.rs,h.en,h.ra,by show 1<=(m.cp++[x]).length/\(m.cp++[x]).length<=3;rw [List.length_append,List.length_cons,List.length_nil];omega,λy hy=>by
 rcases List.mem_append.mp hy with g | g
 ·exact h.cp y g
 ·rw [List.mem_singleton.mp g];exact hx⟩
def b6Y (cpus:Int) (rs:List Route):Prop:=∀r∈rs,(0<=r.p/\r.p<=15)/\0<=r.t/\r.t<=cpus - 1
theorem c0c {r:Route} (h:b6Y c rs) (hr:(0<=r.p/\r.p<=15)/\0<=r.t/\r.t<=c - 1):b6Y c (rs++[r]):=λx hx=>by
 rcases List.mem_append.mp hx with g | g
 ·exact h x g
 grind
theorem c6w (h:b6Y c rs) (hl:rs.length=8) (hc:1<=c/\c<=2):okRts rs c=true:=H4.mpr ⟨hc,hl,λi hi=>h _ (i6.mpr ⟨i,by omega,Z⟩)⟩
theorem c6x {c:Nat} (h:okRts rs c=true):MaG (b4h rs c):=by
 have hr:=H4.mp h
 have hl:(b4h rs c).cp.length=c:=by show (List.replicate c b7M).length=c;rw [List.length_replicate]
 refine ⟨by rw [hl];exact h,by rw [hl];omega,hr.2.1,by show (List.replicate 8 false).length=8;rw [List.length_replicate],by show (List.replicate 8 false).length=8;rw [List.length_replicate],λk hk=>?_⟩
 rw [hl] at hk
 show IfG ((List.replicate c b7M).getD k default)
 rw [b87 hk]
 exact c0b
theorem MaG.lines (h:MaG m) {en ra:List Bool} (h1:en.length=8) (h2:ra.length=8):MaG ⟨m.rs,en,ra,m.cp⟩:=⟨h.rt,h.n,h.rn,h1,h2,h.ok⟩
theorem a0H {l:List ByteArray} {z:ByteArray} {n:Nat} (h:z∈l) (hl:∀z∈l,z.size<=n):z.size<=n:=hl z h
structure DrC (x:Mach×Lg):Prop where
 m:SmallM x.1
 l:x.2.d.size+x.2.p.size<=1048576
theorem DrC.next {x:Mach×Lg} (h:DrC x) {s:ByteArray}:DrC ((exC x.1 x.2 s).1,(exC x.1 x.2 s).2.1):=⟨(a0n h.m h.l).1,(a0n h.m h.l).2⟩
theorem DrC.cp {x:Mach×Lg} (h:DrC x):x.1.cp.length<=1048576:=h.m.cp
theorem b7Y {x:Lg} {r:Rec} {b:Nat} (hb:31000<=b) (hx:x.d.size+x.p.size<=b):(apE x r).d.size+(apE x r).p.size<=b:=by
 grind [apE,okLg,apG,a5v,a5w]
theorem c8y {b:Nat} (hx:x.d.size+x.p.size<=b):(syE x).d.size+(syE x).p.size<=b:=by
 unfold syE
 split
 ·show (x.d++x.p).size+0<=b
  rw [ByteArray.size_append];omega
 ·exact Nat.zero_le _
theorem c8z {t:ByteArray} (h:¬ t.toList=(⟨#[]⟩:ByteArray).toList):1<=t.size:=by
 rcases Nat.eq_zero_or_pos t.size with h1 | h1
 ·exfalso
  apply h
  have:t=⟨#[]⟩:=ByteArray.ext (by
   have h2:t.data.size=0:=h1
   exact Array.eq_empty_of_size_eq_zero h2)
  rw [this]
 ·exact h1
end Go.Rf
namespace Go.Rf
open Go Go.RowKit
section
variable {P:Program} {w0:Base} {ops:Array Oper} {o:Oper} {rest:List Oper} {T:List (Nat×AV)} {m:List (Nat×Option Row)} {nx nt:Nat} {Q:Exit→St→Prop}
theorem a7B (t:Nat) {cs:List AV} (ht:look t T=some (.agg cs)) {rs:(Nat→Value)→List AV} (hr:∀u,a63 cs u 0 []=some (rs u)) (h:∀u,WX P w0 ops o rest ⟨(t,.agg (rs u)) :: T,m,nx,nt⟩ Q):WX P w0 ops o rest ⟨T,m,nx,nt⟩ Q:=by
 intro ρ a w hT hC
 have h1:=hT.tmps t _ ht
 simp only [RelV] at h1
 obtain ⟨us,he,h1⟩:=h1
 let u:Nat→Value:=λi=>us.getD i undef
 refine h u ρ a w ⟨λi x hi=>?_,hT.size,hT.defers⟩ hC
 by_cases e:i=t
 ·subst e
  rw [p9] at hi
  cases hi
  simp only [RelV]
  exact ⟨us,he,by simpa using a8g (acc':=[]) (hr u) h1 (λj y hj=>by simp only [u,Nat.zero_add,List.getD_eq_getElem?_getD,hj,Option.getD_some]) (by simp [RelVs])⟩
 ·rw [l6 (λe'=>e e'.symm)] at hi
  exact hT.tmps i x hi
end
section
variable {P:Program} {ops:Array Oper} {Q:Exit→Act→World→Prop} {md:Region.Mode} {S:World→Prop} {ks:List Nat}
def b4z (ks:List Nat) (listed:Array Bool):Bool:=ks.any λk=>listed.getD k true
def a8r (P:Program) (md:Region.Mode) (ops:Array Oper) (Q:Exit→Act→World→Prop) (S:World→Prop) (ks:List Nat):Nat→Array Bool→Act→World→Prop
 | 0,listed,a,w=>Region.ready md ops listed=[]/\Q .normal a w
 | fuel+1,listed,a,w=>(Region.ready md ops listed=[]→Q .normal a w) /\
  ∀i∈Region.ready md ops listed,wpOp P ops Q i (λa' w'=>(b4z ks (listed.setIfInBounds i true)=false→S w')/\a8r P md ops Q S ks fuel (listed.setIfInBounds i true) a' w') a w
theorem b0H:∀(fuel:Nat) (listed:Array Bool) (a:Act) (w:World),a8r P md ops Q S ks fuel listed a w→wpAny P md ops Q fuel listed a w
 | 0,_,_,_,h=>h
 | fuel+1,_,_,_,h=>⟨h.1,λi hi=>wpOp_mono (λa' w' h'=>b0H fuel _ a' w' h'.2) (h.2 i hi)⟩
def b6Z (md:Region.Mode) (ops:Array Oper) (i:Nat) (D:List Nat):Bool :=
 D.all λd=>!(d==i) && match ops[d]? with
  | some o=>o.after.any λe=>Region.binds md e && (e.on==i || D.contains e.on)
  | none=>false
theorem c0d {i j:Nat} {D:List Nat} {listed:Array Bool} (hi:listed.getD i true=false) (hu:∀d∈D,listed.getD d true=false) (hD:b6Z md ops i D=true) (hj:j∈D):j∉Region.ready md ops listed:=λhr=>by
 obtain ⟨_,o,ho,hall⟩:=mem_ready.1 hr
 have h:=List.all_eq_true.1 hD j hj
 grind
theorem c19 {i:Nat} {D:List Nat} (hD:b6Z md ops i D=true) {d:Nat} (hd:d∈D):i≠d:=λe=>by
 have h:=List.all_eq_true.1 hD d hd
 grind
theorem b3l {i:Nat} {oi:Oper} {v:Value} {D:List Nat} (hi:ops[i]?=some oi) (hsel:∀(j:Nat) (o:Oper) cs b,ops[j]?=some o→o.op≠.select cs b)
 (hQ:∀c a w,Q (.panic c) (a.put oi.dst v) w→Q (.panic c) a w) (hD:b6Z md ops i D=true) (hk:∀k∈ks,k∈D) :
 ∀(fuel:Nat) (listed:Array Bool) (a:Act) (w:World),
  (∀j oj,ops[j]?=some oj→j≠i→listed.getD j true=false→(∀e∈oj.after,Region.binds md e=true→e.on≠i)→oi.apart ops oj=true)→(∀d∈D,listed.getD d true=false) →
  i∈Region.ready md ops listed→YieldsIf P ops S oi v a→S w →
  a8r P md ops Q S ks fuel (listed.setIfInBounds i true) (a.put oi.dst v) w→a8r P md ops Q S ks (fuel+1) listed a w:=by
 intro fuel
 induction fuel with
 | zero =>
  intro listed a w _ _ hr hy hS H
  refine ⟨λh=>(by rw [h] at hr;cases hr),λj hj=>?_⟩
  by_cases hji:j=i
  ·subst hji;exact hy.wpOp hi hS ⟨λ_=>hS,H⟩
  ·have:=ready_mono hj hji
   rw [H.1] at this
   cases this
 | succ fuel ih =>
  intro listed a w hfree hu hr hy hS H
  refine ⟨λh=>(by rw [h] at hr;cases hr),λj hj=>?_⟩
  by_cases hji:j=i
  ·subst hji;exact hy.wpOp hi hS ⟨λ_=>hS,H⟩
  ·have h1:=H.2 j (ready_mono hj hji)
   obtain ⟨hjun,oj,hoj,hall⟩:=mem_ready.1 hj
   have hiun:=(mem_ready.1 hr).1
   have hnot:∀e∈oj.after,Region.binds md e=true→e.on≠i:=λe he hb heq=>by
    grind
   have hjD:∀d∈D,j≠d:=λd hd e=>c0d hiun hu hD (e▸hd) hj
   have h2:=wpOp_putIf hoj (hfree j oj hoj hji hjun hnot) (λcs b=>hsel i oi cs b hi) (λcs b=>hsel j oj cs b hoj) hQ hy h1
   have hfree':∀k ok,ops[k]?=some ok→k≠i→(listed.setIfInBounds j true).getD k true=false →
    (∀e∈ok.after,Region.binds md e=true→e.on≠i)→oi.apart ops ok=true:=λk ok hk hki hun hno=>by
    refine hfree k ok hk hki ?_ hno
    by_cases hjk:j=k
    ·subst hjk;exact hjun
    ·rw [getD_set_ne true hjk] at hun;exact hun
   have hu':∀d∈D,(listed.setIfInBounds j true).getD d true=false:=λd hd=>by rw [getD_set_ne true (hjD d hd)];exact hu d hd
   have hoff:b4z ks ((listed.setIfInBounds i true).setIfInBounds j true)=false:=by
    rw [← Bool.not_eq_true,b4z,List.any_eq_true]
    rintro ⟨k,hks,hkt⟩
    rw [getD_set_ne true (hjD k (hk k hks)),getD_set_ne true (c19 hD (hk k hks)),hu k (hk k hks)] at hkt
    cases hkt
   refine wpOp_mono (λa' w' h3=>?_) h2
   have hS':=h3.2.1 hoff
   refine ⟨λ_=>hS',ih (listed.setIfInBounds j true) a' w' hfree' hu' (ready_mono hr (Ne.symm hji)) h3.1 hS' ?_⟩
   rw [Array.setIfInBounds_comm _ _ hji]
   exact h3.2.2
end
section
variable {P:Program} [Env P] {b:Base} {ops:Array Oper} {o:Oper} {T:List (Nat×AV)} {m m0:List (Nat×Option Row)} {nx nt d i fuel:Nat} {listed:Array Bool} {r:AV} {K:St→Prop} {ks:List Nat}
def WAk (P:Program) (b:Base) (ops:Array Oper) (m0:List (Nat×Option Row)) (ks:List Nat) (fuel:Nat) (listed:Array Bool) (S:St) (K:St→Prop):Prop :=
 Region.noSelect ops=true→∀ρ a w,RelT b.w ρ S.T S.nx S.nt a→RelC b ρ S.m S.nx w→(b4z ks listed=false→Cls b m0 w)→a8r P .any ops (a3d b (nq K)) (Cls b m0) ks fuel listed a w
theorem v6 [EnvAt P b] (i:Nat) (D:List Nat) (hi:ops[i]?=some o) (hf:Region.free .any ops listed i=true) (hr:(Region.ready .any ops listed).contains i=true) (hw:(b6Z .any ops i D && (ks.all λk=>D.contains k) && D.all λd=>!listed.getD d true)=true) (hp:a56 o.op=true) (hg:o.guard=none)
 (hd:o.dst=some d) (hlt:Nat.blt d nt=true) (hq:QStep P o T m0 nx nt r) (hk:WAk P b ops m0 ks fuel (listed.setIfInBounds i true) ⟨(d,r) :: T,m,nx,nt⟩ K):WAk P b ops m0 ks (fuel+1) listed ⟨T,m,nx,nt⟩ K:=by
 intro hs ρ a w hT hC hS0
 simp only [Bool.and_eq_true,List.all_eq_true,List.contains_iff_mem,Bool.not_eq_true'] at hw
 obtain ⟨⟨h1,h2⟩,h3⟩:=hw
 have hoff:b4z ks listed=false:=by
  grind [b4z]
 have hS:=hS0 hoff
 obtain ⟨y,hy,hq⟩:=hq b ρ a w hT (hC.pinned hS)
 refine b3l hi (Region.noSelect_spec hs) (λc a w h=>absurd (H3 h) (by simp)) h1 h2 fuel listed a w (Region.free_spec hi hf) h3 (by simpa using hr) (v:=y) (.inl ⟨by simp [Region.wanted,hg],λw' hw'=>?_⟩) hS ?_
 ·have h1:=hq w' (hC.pinned hw')
  unfold Oper.quietAt at h1
  generalize hres:(execOp a.eval o).run P w'=res at *
  cases res with
  | ok n w'' =>
   obtain ⟨v,rfl⟩:=a79 hp hres
   simp only [Oper.quietUpon] at h1
   rw [h1.1,h1.2]
  | halt x w''=>simp only [Oper.quietUpon] at h1
 ·rw [hd]
  exact hk hs ρ _ w (hT.put hlt hy) hC λ_=>hS
def WBk (P:Program) (b:Base) (ops:Array Oper) (m0:List (Nat×Option Row)) (ks:List Nat) (fuel:Nat) (listed:Array Bool) (i:Nat) (S:St) (K:St→Prop):Prop :=
 Region.noSelect ops=true→∀ρ a w,RelT b.w ρ S.T S.nx S.nt a→RelC b ρ S.m S.nx w→wpOp P ops (a3d b (nq K)) i (λa' w'=>(b4z ks (listed.setIfInBounds i true)=false→Cls b m0 w')/\a8r P .any ops (a3d b (nq K)) (Cls b m0) ks fuel (listed.setIfInBounds i true) a' w') a w
theorem w8 (i:Nat) {S:St} (hr:Region.ready .any ops listed=[i]) (h:WBk P b ops m0 ks fuel listed i S K):WAk P b ops m0 ks (fuel+1) listed S K :=
 λhs ρ a w hT hC hS=>⟨λh0=>(by rw [hr] at h0;cases h0),λj hj=>by
  rw [hr] at hj
  rw [List.mem_singleton.1 hj]
  exact h hs ρ a w hT hC⟩
theorem c6y {S:St} (hr:Region.ready .any ops listed=[]) (h:K S):WAk P b ops m0 ks fuel listed S K:=λhs ρ a w hT hC hS=>by
 have hq:a3d b (nq K) .normal a w:=⟨ρ,S,h,hT,hC⟩
 cases fuel with
 | zero=>exact ⟨hr,hq⟩
 | succ f=>exact ⟨λ_=>hq,by rw [hr];simp⟩
theorem C0 (ms:List Nat) {S:St} (hi:ops[i]?=some o) (hg:o.guard=none)
 (h:WX P b ops o [] S (nq (λS'=>P0 b.n0 S'.m ms []=some m0/\WAk P b ops m0 ks fuel (listed.setIfInBounds i true) S' K))):WBk P b ops m0 ks fuel listed i S K:=by
 intro hs ρ a w hT hC
 unfold wpOp
 simp only [hi]
 rw [if_pos (by simp [Region.wanted,hg])]
 refine .inl (b54 (h ρ a w hT hC) ?_)
 rintro a' w' ⟨ρ',S',⟨h1,h2⟩,hT',hC'⟩
 exact ⟨λ_=>hC'.cls h1,h2 hs ρ' a' w' hT' hC' λ_=>hC'.cls h1⟩
theorem a6n {S:St} (hi:ops[i]?=some o) (hg:o.guard=none) (hoff:b4z ks (listed.setIfInBounds i true)=true)
 (h:WX P b ops o [] S (nq (λS'=>WAk P b ops m0 ks fuel (listed.setIfInBounds i true) S' K))):WBk P b ops m0 ks fuel listed i S K:=by
 intro hs ρ a w hT hC
 unfold wpOp
 simp only [hi]
 rw [if_pos (by simp [Region.wanted,hg])]
 refine .inl (b54 (h ρ a w hT hC) ?_)
 rintro a' w' ⟨ρ',S',h2,hT',hC'⟩
 exact ⟨λe=>(by rw [hoff] at e;cases e),h2 hs ρ' a' w' hT' hC' λe=>(by rw [hoff] at e;cases e)⟩
theorem S7 {w0:Base} (n:Nat) (ms ks:List Nat) {id:Nat} {l:List Oper} {Q:Exit→St→Prop} (hm:P.follows .mixedOrders=true) (hs:Region.noSelect l.toArray=true) (hn:l.toArray.size=n) (hK:P0 nx m ms []=some m0)
 (h:∀r0,WAk P ⟨w0.w,nx,r0,w0.ws,w0.keep,w0.kb,w0.E,w0.hE⟩ l.toArray m0 ks n (Array.replicate n false) ⟨T,m,nx,nt⟩ K) (hq:∀S',K S'→Q .normal S'):W P w0 (.region id l.toArray true) ⟨T,m,nx,nt⟩ Q:=by
 intro ρ a w hT hC
 have hC1:RelC ⟨w0.w,nx,ρ,w0.ws,w0.keep,w0.kb,w0.E,w0.hE⟩ ρ m nx w.drew:=let h:=hC.drew;⟨h.rows,h.apart,h.below,⟨Nat.le_refl _,λ_ _=>Z⟩,h.kept,h.inner⟩
 subst hn
 have h1:=h ρ hs ρ a w.drew hT hC1 λ_=>RelC.cls (ms:=ms) hC1 hK
 refine wp_mono (wp_region_any hm (b0H _ _ _ _ h1)) ?_
 rintro e a' w' ⟨ρ',S',h2,h3,h4⟩
 cases e<;>simp only [nq] at h2
 exact ⟨ρ',S',hq S' h2,h3,h4.rows,h4.apart,h4.below,⟨Nat.le_trans hC.pin.1 h4.pin.1,λi hi=>(h4.pin.2 i (Nat.lt_of_lt_of_le hi hC.pin.1)).trans (hC.pin.2 i hi)⟩,h4.kept,h4.inner⟩
end
def pkR:List AV→AV
 | [x]=>x
 | xs=>.tup xs
theorem c0e {w0:World} {ρ:Nat→Value} {nx:Nat}:∀{avs:List AV} {ys:List Value},RelVs w0 ρ nx avs ys→RelV w0 ρ nx (pkR avs) (if h:ys.toArray.size=1 then ys.toArray[0] else .tuple ys.toArray)
 | [],ys,h=>by simp only [RelVs] at h;subst h;exact ⟨[],Z,Z⟩
 | [x],ys,h=>by
  simp only [RelVs] at h
  obtain ⟨y,t,rfl,h1,rfl⟩:=h
  exact h1
 | x :: y :: r,ys,h=>by
  have h0:=h
  simp only [RelVs] at h
  obtain ⟨a,t,rfl,h1,b,t2,rfl,h2,h3⟩:=h
  rw [dif_neg (by simp)]
  exact ⟨_,Z,h0⟩
def c96 (tb:List (Nat×TyI)) (l:List ResultVar) (K:AV→List (Nat×Option Row)→Nat→Prop) (e:Exit) (S:St):Prop:=(e=.normal∨e=.ret)/\∃xs,V0 tb S l []=some xs/\K (pkR xs) S.m S.nx
section
variable {P:Program} [Env P] {w0:Base} {ops:Array Oper} {tb:List (Nat×TyI)} {o:Oper} {rest:List Oper} {T:List (Nat×AV)} {m:List (Nat×Option Row)} {nx nt d:Nat} {Q:Exit→St→Prop}
theorem a17 [EnvAt P w0] (G:Good P tb) {f:FuncId} {fn:Func} {c:Code} {as:Array Operand} {ts:Array TypeId} {args:List AV} {l:List ResultVar} {n:Nat} (hd:o.dst=some d) (hlt:Nat.blt d nt=true) (ho:o.op=.call { callee:=.value (.func f),args:=as,argTypes:=ts })
 (hf:P.funcs[f]?=some fn) (hb:fn.body=some c) (hname:(fn.name == "runtime.NumGoroutine")=false) (hl:fn.results=l.toArray) (hn:fn.ntmps=n) (hlen:Nat.ble args.length n=true) (ha:evL T as.toList []=some args)
 (h:∀b:Base,[EnvAt P b]→b.n0=nx→W P b c ⟨a55 args 0,m,nx,n⟩ (c96 tb l (λr m1 n1=>Nat.ble nx n1=true/\WL P w0 ops rest ⟨(d,r) :: T,m1,n1,nt⟩ Q))):WX P w0 ops o rest ⟨T,m,nx,nt⟩ Q:=by
 rename_i hw0
 intro ρ a w hT hC
 obtain ⟨bs,h1,h2⟩:=a6P hT ha
 simp at h1
 subst h1
 have hcal:Callable P f:=⟨fn,hf,hname,by rw [hb];rfl⟩
 have hrun:(execOp a.eval o).run P w=.ok (.enter f (as.toList.map a.eval).toArray) w:=by
  simp [execOp,ho,resolve,Deferred.ofValue,invoke,Act.eval,a0w hcal,← Array.toList_map]
 unfold Oper.wp
 rw [hrun,Oper.upon_enter]
 let b:Base:=⟨w0.w,nx,ρ,w,w0.keep,λc hc=>Nat.lt_of_lt_of_le (w0.kb c hc) hC.kept.1,w0.E,w0.hE⟩
 have hen:EnvAt P b:=⟨hw0.e⟩
 have hCb:RelC b ρ m nx w:=⟨hC.rows,hC.apart,hC.below,⟨Nat.le_refl _,λ_ _=>Z⟩,⟨Nat.le_refl _,λ_ _=>Z,hC.kept.2.2⟩,hC.inner⟩
 have hlen':args.length<=n:=Nat.le_of_ble_eq_true hlen
 have hTb:=a3r (b:=b) (fn:=fn) (show RelVs b.w ρ nx args (as.toList.map a.eval) from h2) hlen' hn
 have hcalls:Calls P f (as.toList.map a.eval).toArray w (λen w'=>∃v ρ' r m1 n1,en=.returned v/\(∀i,i < nx→ρ' i=ρ i)/\RelV w0.w ρ' n1 r v/\RelC b ρ' m1 n1 w'/\Nat.ble nx n1=true/\WL P w0 ops rest ⟨(d,r) :: T,m1,n1,nt⟩ Q):=by
  refine calls_of_wp hf hb ?_
  refine wp_mono (h b Z ρ _ w hTb hCb) ?_
  have fin:∀(ρ':Nat→Value) (S:St) (a':Act) (w':World),(∃xs,V0 tb S l []=some xs/\Nat.ble nx S.nx=true/\WL P w0 ops rest ⟨(d,pkR xs) :: T,S.m,S.nx,nt⟩ Q)→RelT b ρ' S.T S.nx S.nt a'→RelC b ρ' S.m S.nx w' →
   a'.defers=[]/\∃v,(results fn a'.tmps).run P w'=.ok v w'/\∃u ρ' r m1 n1,Ending.returned v=.returned u/\(∀i,i < nx→ρ' i=ρ i)/\RelV w0.w ρ' n1 r u/\RelC b ρ' m1 n1 w'/\Nat.ble nx n1=true/\WL P w0 ops rest ⟨(d,r) :: T,m1,n1,nt⟩ Q:=by
   intro ρ' S a' w' ⟨xs,e1,e2,e3⟩ hT' hC'
   obtain ⟨ys,avs,g1,g2,g3⟩:=a0c G hT' hC' e1
   simp at g1
   subst g1
   exact ⟨hT'.defers,_,V2 hl g3,_,ρ',pkR xs,S.m,S.nx,Z,λi hi=>hC'.pin.2 i hi,c0e g2,hC',e2,e3⟩
  rintro e a' w' ⟨ρ',S,⟨hq,e1⟩,hT',hC'⟩
  rcases hq with rfl | rfl
  ·exact fin ρ' S a' w' e1 hT' hC'
  ·exact fin ρ' S a' w' e1 hT' hC'
 refine hcalls.mono λex w' ⟨v,ρ',r,m1,n1,he,q1,q2,q3,q4,hk⟩=>?_
 subst he
 have hn1:=Nat.le_of_ble_eq_true q4
 refine hk ρ' _ w' ?_ ⟨q3.rows,q3.apart,q3.below,⟨Nat.le_trans hC.pin.1 hn1,λi hi=>by rw [q1 i (Nat.lt_of_lt_of_le hi hC.pin.1)];exact hC.pin.2 i hi⟩,⟨Nat.le_trans hC.kept.1 q3.kept.1,λc hc=>(q3.kept.2.1 c hc).trans (hC.kept.2.1 c hc),q3.kept.2.2⟩,q3.inner⟩
 rw [hd]
 have hT':RelT w0 ρ' T n1 nt a:=⟨λt x hx=>(hT.tmps t x hx).mono hn1 q1,hT.size,hT.defers⟩
 exact hT'.put hlt q2
end
end Go.Rf
namespace Go.Rf
open Go
variable {r:Rec} {x:Lg}
theorem b4A {s:ByteArray} (h:X3 s=true):m5 s 10=false :=
 a2i (i:=s.size) (λj hj=>by
  have:=C5.mp h j hj
  simp only [a4p,Bool.and_eq_true,decide_eq_true_eq] at this
  simp only [beq_eq_false_iff_ne,ne_eq]
  omega) (Nat.le_refl _)
theorem c2a {k:Int} {x:Rec} (hk:0<=k) (h:C7 x=true):m5 (S4 (F0 k x)) 10=false:=by
 obtain ⟨_,_,h1,h2,_⟩:=a1k h
 have hs:=a6U (F0 k x) (F0 k x).size
 unfold S4 F0
 exact I1 (I1 (I1 (I1 (I1 (I1 (a3v hk J) (a1b (by decide))) (b4A h1)) (a1b (by decide))) (b4A h2)) (a1b (by decide))) (a3v (by unfold F0 at hs;omega) J)
theorem c2b {D P:ByteArray} {n:Nat} (h:∀j,j < n→okN D j=true):∀j,j < n→Z2 (D++P) j=Z2 D j:=λj hj=>by
 have h1:=(b5a (D:=D) (P:=P) (n:=j) (λi hi=>h i J)).2
 have h2:=h j hj
 have h3:=(b2E h1 (a3w h2) (Nat.le_of_lt (a6X h2).1)).2
 rw [Z2,Z2,h3]
theorem b4B {S:ByteArray} (hS:B9 S (r6 S)=S.size) (hN:r6 S < 60) (hr:C7 r=true) :
 r6 (S++E2 (r6 S) r)=r6 S+1/\B9 (S++E2 (r6 S) r) (r6 S+1)=(S++E2 (r6 S) r).size/\Z2 (S++E2 (r6 S) r) (r6 S)=r/\∀j,j < r6 S→Z2 (S++E2 (r6 S) r) j=Z2 S j:=by
 obtain ⟨h1,h2⟩:=b5a (D:=S) (P:=E2 (r6 S) r) (n:=r6 S) a3x.1
 have h10:=c2a (k:=(r6 S:Int)) (x:=r) J hr
 have hrest:G0 (S++E2 (r6 S) r) (r6 S)=E2 (r6 S) r:=by
  rw [G0,h2,hS]
  exact a5i
 have hline0:E2 (r6 S) r=S4 (F0 (r6 S) r)++(⟨#[10]⟩:ByteArray)++⟨#[]⟩:=by
  apply a2j
  rw [S6,E2]
  simp
 have hst:m5 (E2 (r6 S) r) 10=true:=by rw [hline0];exact (a93 (u:=10) h10).2
 have hfi:m3 (E2 (r6 S) r) 10=S4 (F0 (r6 S) r):=by
  grind [a5h]
 obtain ⟨h3,h4⟩:=b8s (s:=S4 (F0 (r6 S) r)) (k:=(r6 S:Int)) (x:=r) J hr Z
 have hok:okN (S++E2 (r6 S) r) (r6 S)=true:=by
  rw [okN,okL,hrest,hst,hfi,h3,decide_eq_true J];rfl
 have hl:O3 (S++E2 (r6 S) r) (r6 S)=S4 (F0 (r6 S) r):=by rw [O3,hrest,hfi]
 have hsz:(E2 (r6 S) r).size=(S4 (F0 (r6 S) r)).size+1:=by rw [E2,ByteArray.size_append];rfl
 have hp:B9 (S++E2 (r6 S) r) (r6 S+1)=(S++E2 (r6 S) r).size:=by
  rw [a0f,h2,hS,hl,ByteArray.size_append,hsz]
  omega
 refine ⟨a1W (s2 h1 hok) (b48 J),hp,?_,c2b a3x.1⟩
 rw [Z2,hl,h4]
theorem b60 (h:apN x r=0):okLg x=true/\C7 r=true/\¬ x.n=60/\apE x r=⟨x.d,x.p++E2 x.n r,x.n+1⟩:=by
 grind [apN,apG,b7U]
def sx (x:Lg):ByteArray:=x.d++x.p
def apS (x:Lg) (r:Rec):ByteArray:=sx x++E2 (r6 (sx x)) r
theorem a7C (h:okLg x=true):(x.d.size+x.p.size<=30000)/\B9 (sx x) (r6 (sx x))=(sx x).size/\B9 x.d (r6 x.d)=x.d.size/\(r6 (sx x):Int)=x.n:=by
 grind [okLg,sx]
theorem b5M (h:apN x r=0):r6 (apS x r)=r6 (sx x)+1/\B9 (apS x r) (r6 (sx x)+1)=(apS x r).size/\Z2 (apS x r) (r6 (sx x))=r/\∀j,j < r6 (sx x)→Z2 (apS x r) j=Z2 (sx x) j:=by
 obtain ⟨h1,h2,h3,_⟩:=b60 h
 have h4:=a7C h1
 have h5:=a16 (s:=sx x)
 exact b4B h4.2.1 J h2
theorem c0f (h:apN x r=0):(apE x r).d++(apE x r).p=apS x r:=by
 obtain ⟨h1,h2,h3,h4⟩:=b60 h
 rw [h4,apS,(a7C h1).2.2.2]
 exact ByteArray.append_assoc.symm
theorem c6z (h:apN x r=0):(apE x r).n=((r6 (sx x)+1:Nat):Int):=by
 obtain ⟨h1,h2,h3,h4⟩:=b60 h
 have:=(a7C h1).2.2.2
 grind
theorem c6A (h:apN x r=0):(apS x r).size<=25380:=by
 grind [b5M,a16]
theorem c2c (h:apN x r=0):okLg (apE x r)=true:=by
 obtain ⟨h1,h2,h3,h4⟩:=b60 h
 obtain ⟨g1,g2,_⟩:=b5M h
 have hc:=c0f h
 have hl:=c6A h
 have hs:(apE x r).d.size+(apE x r).p.size=(apS x r).size:=by rw [← hc];exact ByteArray.size_append.symm
 refine b9G J (by rw [hc,g1,hs];exact g2) ?_ (by rw [hc,g1,c6z h])
 rw [h4]
 exact (a7C h1).2.2.1
theorem c8A (h1:okLg x=true) (h2:C7 r=true) (h3:¬ x.n=60):lrT (apE x r)=lrT x++[r]/\okLg (apE x r)=true/\(apE x r).n=x.n+1/\(apE x r).d=x.d:=by
 have h:=(b7U h1 h2 h3).2
 obtain ⟨g1,g2,g3,g4⟩:=b5M h
 have ho:=c2c h
 refine ⟨?_,ho,by rw [(b7U h1 h2 h3).1],by rw [(b7U h1 h2 h3).1]⟩
 rw [(c18 ho).1,(c18 h1).1,c0f h,g1]
 have e:pre (Z2 (apS x r)) (r6 (sx x)+1)=pre (Z2 (apS x r)) (r6 (sx x))++[Z2 (apS x r) (r6 (sx x))]:=by simp [pre,List.range_succ]
 rw [e,g3,b7J g4]
 rfl
theorem c6B (h:okLg x=true):((lrT x).length:Int)=x.n:=by
 rw [(c18 h).1,T5]
 exact (a7C h).2.2.2
end Go.Rf
namespace Go.Rf
open Go Go.RowKit
section
variable {P:Program} [Env P] {w0:Base} {ops:Array Oper} {tb:List (Nat×TyI)} {o:Oper} {rest:List Oper} {T:List (Nat×AV)} {m:List (Nat×Option Row)} {nx nt d:Nat} {Q:Exit→St→Prop}
theorem RelC.byt {ρ:Nat→Value} {w:World} (hC:RelC w0 ρ m nx w) {id:Nat} {bs:List Int} (hm:mem m id=some (.byt bs)):∃g cap cur e fz,ρ id=.slice (some ⟨g,0,none⟩) bs.length cap/\w0.w.heap.size<=g/\w.heap[g]?=some (.cells cur e fz)/\bs.length<=cap/\bs.length<=fz.1/\cur.toList.take bs.length=bs.map (Value.int .u8):=(hC.rows id _ hm).2
end
end Go.Rf
namespace Go.Rf
open Go
section
variable {m:Mach} {y:Lg} {t:ByteArray}
end
end Go.Rf
namespace Go.Rf
end Go.Rf
namespace Go.Rf
open Go
variable {k:Nat} {m:Mach} {rs:List Route} {sl:List Slot} {x:Lg}
def Pn (q:Que) (w:Wtr):Prop:=w∈q.wa∨∃x∈q.sl,pnP x=true/\wOf x=w
theorem b3m {q:Que} {w:Wtr}:∀i,w∈pnL q i↔w∈q.wa∨∃j,j < i/\pnP (q.sl.getD j default)=true/\wOf (q.sl.getD j default)=w
 | 0=>⟨.inl,λh=>by
  rcases h with h | ⟨j,h,_⟩
  ·exact h
  ·omega⟩
 | i+1=>by
  have ih:=@b3m q w i
  show w∈(if pnP _ then _ else _:List Wtr)↔_
  split
  ·next h =>
   rw [List.mem_append,List.mem_singleton,ih]
   constructor
   ·rintro ((g | ⟨j,h1,h2⟩) | g)
    ·exact .inl g
    ·exact .inr ⟨j,by omega,h2⟩
    ·exact .inr ⟨i,by omega,h,g.symm⟩
   ·rintro (g | ⟨j,h1,h2,h3⟩)
    ·exact .inl (.inl g)
    ·by_cases e:j=i
     ·subst e;exact .inr h3.symm
     ·exact .inl (.inr ⟨j,by omega,h2,h3⟩)
  ·next h =>
   rw [ih]
   constructor
   ·rintro (g | ⟨j,h1,h2⟩)
    ·exact .inl g
    ·exact .inr ⟨j,by omega,h2⟩
   ·rintro (g | ⟨j,h1,h2,h3⟩)
    ·exact .inl g
    ·by_cases e:j=i
     ·subst e;exact absurd h2 h
     ·exact .inr ⟨j,by omega,h2,h3⟩
theorem c2d {q:Que} (h:QF q) {z:Int}:z∈C9 q↔∃w,Pn q w/\w.q=z:=by
 unfold C9
 rw [List.mem_map]
 constructor
 ·rintro ⟨w,h1,h2⟩
  rw [b21 h,b3m] at h1
  refine ⟨w,?_,h2⟩
  rcases h1 with g | ⟨j,g1,g2,g3⟩
  ·exact .inl g
  ·exact .inr ⟨_,i6.mpr ⟨j,by rw [h.sl.len];exact g1,Z⟩,g2,g3⟩
 ·rintro ⟨w,h1,h2⟩
  refine ⟨w,?_,h2⟩
  rw [b21 h,b3m]
  rcases h1 with g | ⟨x,g1,g2,g3⟩
  ·exact .inl g
  ·obtain ⟨j,hj,rfl⟩:=i6.mp g1
   exact .inr ⟨j,by rw [← h.sl.len];exact hj,g2,g3⟩
theorem b5N {l:List Slot} {k:Nat} {x:Slot} {P:Slot→Prop} (hk:k < l.length):(∃y∈l.set k x,P y)↔P x∨∃j,j < l.length/\j≠k/\P (l.getD j default):=by
 constructor
 ·grind [a3D]
 ·rintro (p | ⟨j,h1,h2,p⟩)
  ·exact ⟨x,i6.mpr ⟨k,by rw [List.length_set];exact hk,by rw [C8 hk,if_pos Z]⟩,p⟩
  ·grind [i6]
theorem c0g {l:List Slot} {k:Nat} {P:Slot→Prop} (hk:k < l.length):(∃y∈l,P y)↔P (l.getD k default)∨∃j,j < l.length/\j≠k/\P (l.getD j default):=by
 grind [i6]
theorem c6C {q:Que} (h:QF q) (hs:setd q=false) {w:Wtr}:Pn (stQ q) w↔Pn q w:=by
 obtain ⟨k,v,r,n⟩:=b2V h hs
 have hl:k < q.sl.length:=by rw [h.sl.len];exact n.kl
 rw [n.eq]
 show (w∈stW q∨∃x∈q.sl.set k ⟨1,v.q,v.p⟩,pnP x=true/\wOf x=w)↔(w∈q.wa∨∃x∈q.sl,pnP x=true/\wOf x=w)
 rw [b5N (P:=λx=>pnP x=true/\wOf x=w) hl,c0g (P:=λx=>pnP x=true/\wOf x=w) hl,n.wa,List.mem_cons]
 have h1:(pnP (⟨1,v.q,v.p⟩:Slot)=true/\wOf ⟨1,v.q,v.p⟩=w)↔w=v:=by
  constructor
  ·rintro ⟨_,e⟩;exact e.symm
  ·rintro rfl;exact ⟨F4.mpr (.inl Z),Z⟩
 rw [h1]
 rcases n.st with ⟨_,f2,f3⟩ | ⟨_,_,f2,_,f4⟩
 ·grind [F4]
 ·grind [a2X,F4]
theorem b61:∀{n:Nat} {q:Que},QF q→∀{w:Wtr},Pn (a6g n q) w↔Pn q w
 | 0,q,_,w=>Iff.rfl
 | n+1,q,h,w=>by
  unfold a6g
  cases hs:setd q
  ·simp_all [b61,b0t,c6C]
  ·simp only [if_true]
theorem b62 {q:Que} (h:QF q) {w:Wtr}:Pn (a1L q) w↔Pn q w:=b61 h
theorem SlF.ne (h:SlF sl) {j k:Nat} (hj:j < 4) (hk:k < 4) (hjk:j≠k) (h1:(sl.getD j default).s≠0) (h2:(sl.getD k default).s≠0):(sl.getD j default).q≠(sl.getD k default).q:=by
 rcases Nat.lt_or_ge j k with g | g
 ·exact h.dif j k g hk h1 h2
 ·exact λe=>h.dif k j J hj h2 h1 e.symm
theorem a7D {α:Type} [Inhabited α] {l:List α} {k:Nat} (hk:k < l.length):l.set k (l.getD k default)=l:=by
 simp_all
theorem b63 (h:SlF sl):∀i,i<=4→∀j,j < i→(sl.getD j default).s=1→0<=F2 sl true i/\((F2 sl true i).toNat=j∨lessW (wOf (sl.getD (F2 sl true i).toNat default)) (wOf (sl.getD j default))=true)
 | 0,_,j,hj,_=>by omega
 | i+1,hi,j,hj,h1=>by
  have ih:=b63 h i J
  cases hc:a4x sl true (F2 sl true i) i
  ·rw [a2m hc]
   by_cases e:j=i
   ·subst e
    by_cases hb:F2 sl true j < 0
    ·rw [a5q h1 hb] at hc;cases hc
    ·rw [a4z h1 hb,if_pos Z] at hc
     have hbl:=@a03 sl true j
     have h1':=a2V (sl:=sl) (most:=true) j J
     refine ⟨by omega,.inr ?_⟩
     rw [a1d (show (wOf (sl.getD (F2 sl true j).toNat default)).q≠(wOf (sl.getD j default)).q from h.ne J J J J J),hc]
     rfl
   grind
  ·grind [a2l,a5p,a4z,P5]
theorem b64 (h:SlF sl):∀i,i<=4→∀j,j < i→(sl.getD j default).s=1→0<=F2 sl false i/\((F2 sl false i).toNat=j∨lessW (wOf (sl.getD j default)) (wOf (sl.getD (F2 sl false i).toNat default))=true)
 | 0,_,j,hj,_=>by omega
 | i+1,hi,j,hj,h1=>by
  have ih:=b64 h i J
  cases hc:a4x sl false (F2 sl false i) i
  ·rw [a2m hc]
   by_cases e:j=i
   ·subst e
    by_cases hb:F2 sl false j < 0
    ·rw [a5q h1 hb] at hc;cases hc
    ·rw [a4z h1 hb,if_neg (by decide)] at hc
     have hbl:=@a03 sl false j
     have h1':=a2V (sl:=sl) (most:=false) j J
     refine ⟨by omega,.inr ?_⟩
     rw [a1d (show (wOf (sl.getD j default)).q≠(wOf (sl.getD (F2 sl false j).toNat default)).q from h.ne J J J J J),hc]
     rfl
   grind
  ·grind [a2l,a5p,a4z,P5]
theorem c2e {sl:List Slot} {most:Bool} (h:SlF sl) (hb:bstS sl most < 0):∀x∈sl,x.s≠1:=λx hx=>by
 obtain ⟨j,hj,rfl⟩:=i6.mp hx
 exact b0o sl.length |>.mp hb j hj
theorem c0h:freS sl < 0↔∀x∈sl,x.s≠0:=by
 grind [b1L,i6]
theorem a7E {q:Que} (h:QF q):setd q=true↔(q.wa.length≠0→∀x∈q.sl,x.s≠0)/\∀x∈q.sl,x.s=1→∀w∈q.wa,lessW (wOf x) w=true:=by
 have h4:=h.sl.len
 constructor
 ·intro hs
  by_cases h0:q.wa.length=0
  ·grind
  ·have hf:freS q.sl < 0:=by
    grind [b5w]
   refine ⟨λ_=>c0h.mp hf,λx hx h1 w hw=>?_⟩
   obtain ⟨j,hj,rfl⟩:=i6.mp hx
   obtain ⟨g1,g2⟩:=b64 h.sl 4 (Nat.le_refl _) j J h1
   have eb:bstS q.sl false=F2 q.sl false 4:=by unfold bstS;rw [h4]
   rw [b2S h0 hf J,eb] at hs
   have h2:lessW (wOf (q.sl.getD j default)) (q.wa.getD 0 default)=true:=by
    rcases g2 with g2 | g2
    ·rw [← g2];exact hs
    ·exact P5 g2 hs
   obtain ⟨i,hi,rfl⟩:=i6.mp hw
   rcases Nat.eq_zero_or_pos i with g | g
   ·subst g;exact h2
   ·exact P5 h2 (a5s.mp h.pw 0 i g hi).1
 ·grind [b5v,c0h,b5x,b2S,F7]
section
variable {q:Que} {w:Wtr}
theorem b65 (hb:0<=bstS q.sl true):∀x∈(a4B q).sl,x.s=2∨x∈q.sl:=λx hx=>by
 obtain ⟨k,e1,e2,e3⟩:=F7 hb
 have hx:x∈q.sl.set (bstS q.sl true).toNat ⟨2,(q.sl.getD (bstS q.sl true).toNat default).q,(q.sl.getD (bstS q.sl true).toNat default).p⟩:=hx
 grind
theorem c0i (h:QF q) (hs:setd q=true) (hb:0<=bstS q.sl true):setd (a4B q)=true:=by
 rw [a7E (b5y h hb)]
 rw [a7E h] at hs
 refine ⟨λhw x hx=>?_,λx hx h1 w hw=>?_⟩
 ·rcases b65 hb x hx with g | g
  ·omega
  ·exact hs.1 hw x g
 ·rcases b65 hb x hx with g | g
  ·omega
  ·exact hs.2 x g h1 w hw
theorem c6D (h:QF q) (hb:0<=bstS q.sl true):Pn (a4B q) w↔Pn q w/\w.q≠tkI q.sl:=by
 obtain ⟨k,e1,e2,e3⟩:=F7 hb
 have hk:k < 4:=by rw [← h.sl.len];exact e2
 have et:tkI q.sl=(q.sl.getD k default).q:=by unfold tkI;rw [e1,Int.toNat_natCast]
 rw [et]
 unfold Pn a4B tkS
 rw [e1,Int.toNat_natCast]
 dsimp only
 rw [b5N (P:=λx=>pnP x=true/\wOf x=w) e2,c0g (P:=λx=>pnP x=true/\wOf x=w) e2]
 constructor
 ·rintro (g | ⟨g,_⟩ | ⟨j,h1,h2,h3,rfl⟩)
  ·exact ⟨.inl g,λe=>(h.wa w g).2.2 _ (i6.mpr ⟨k,e2,Z⟩) J e.symm⟩
  ·grind [F4]
  ·refine ⟨.inr (.inr ⟨j,h1,h2,h3,Z⟩),?_⟩
   exact h.sl.ne (by rw [← h.sl.len];exact h1) hk h2 (by rcases F4.mp h3 with g | g<;>omega) J
 ·rintro ⟨g | ⟨_,rfl⟩ | g,h2⟩
  ·exact .inl g
  ·exact absurd Z h2
  ·exact .inr (.inr g)
theorem c2f (h:QF q) (hb:0<=bstS q.sl true) (hw:w∈actL (a4B q).sl):(w.q=tkI q.sl/\∃y∈q.sl,y.s=1/\wOf y=w)∨w∈actL q.sl:=by
 obtain ⟨k,e1,e2,e3⟩:=F7 hb
 obtain ⟨x,hx,h1,h2⟩:=A6.mp hw
 have hx:x∈q.sl.set (bstS q.sl true).toNat ⟨2,(q.sl.getD (bstS q.sl true).toNat default).q,(q.sl.getD (bstS q.sl true).toNat default).p⟩:=hx
 have et:tkI q.sl=(q.sl.getD k default).q:=by unfold tkI;rw [e1,Int.toNat_natCast]
 rw [e1,Int.toNat_natCast] at hx
 rcases a3D e2 hx with rfl | ⟨j,hj,_,rfl⟩
 ·refine .inl ⟨by rw [et,← h2];rfl,_,i6.mpr ⟨k,e2,Z⟩,e3,h2⟩
 ·exact .inr (A6.mpr ⟨_,i6.mpr ⟨j,hj,Z⟩,h1,h2⟩)
theorem c8B (h:QF q) {i:Int} (hf:0<=o9 q.sl i) (ha:(q.sl.getD (o9 q.sl i).toNat default).s=2):Pn ⟨edS q.sl i,q.wa⟩ w↔Pn q w:=by
 obtain ⟨k,e1,e2,e3,e4⟩:=a1t hf
 rw [b6K J,e1,Int.toNat_natCast]
 rw [e1,Int.toNat_natCast] at ha
 unfold Pn
 dsimp only
 rw [b5N (P:=λx=>pnP x=true/\wOf x=w) e2,c0g (P:=λx=>pnP x=true/\wOf x=w) e2]
 have h1:¬ (pnP zSl=true/\wOf zSl=w):=λg=>by cases g.1
 have h2:¬ (pnP (q.sl.getD k default)=true/\wOf (q.sl.getD k default)=w):=λg=>by rcases F4.mp g.1 with g | g<;>omega
 grind
theorem c6E (h:QF q) {i:Int} (hf:0<=o9 q.sl i) (ha:(q.sl.getD (o9 q.sl i).toNat default).s=2) (hw:w∈actL (edS q.sl i)):w∈actL q.sl/\w.q≠i:=by
 obtain ⟨k,e1,e2,e3,e4⟩:=a1t hf
 have hk:k < 4:=by rw [← h.sl.len];exact e2
 rw [b6K J,e1,Int.toNat_natCast] at hw
 obtain ⟨x,hx,h1,rfl⟩:=A6.mp hw
 rcases a3D e2 hx with rfl | ⟨j,hj,hjk,rfl⟩
 ·cases h1
 ·refine ⟨A6.mpr ⟨_,i6.mpr ⟨j,hj,Z⟩,h1,Z⟩,?_⟩
  rw [← e4]
  exact h.sl.ne (by rw [← h.sl.len];exact hj) hk hjk (by rcases s8.mp h1 with g | g<;>omega) e3
end
def Rt (rs:List Route) (k:Nat) (w:Wtr):Prop:=tgI rs w.q=k/\prI rs w.q=w.p
structure IG (rs:List Route) (k:Nat) (x:Ifc):Prop where
 f:IfF x
 s:setd x.qu=true
 ma:0<=x.ma/\x.ma<=16
 nd:x.st.Nodup
 ac:∀w∈actL x.qu.sl,w.q∈x.st/\Rt rs k w
 dn:∀j,0 < j→j < x.st.length→prI rs (x.st.getD j default) < prI rs (x.st.getD (j - 1) default)
 pp:∀w,Pn x.qu w→w.q∉x.st/\Rt rs k w
section
variable {rs:List Route} {k:Nat} {x:Ifc} {i:Int}
theorem IG.G (h:IG rs k x):IfG x:=⟨h.f,h.nd⟩
theorem IG.no3 (h:IG rs k x) {y:Slot} (hy:y∈x.qu.sl):y.s≠3:=λe=>(h.pp (wOf y) (.inr ⟨y,hy,F4.mpr (.inr e),Z⟩)).1 (h.ac (wOf y) (A6.mpr ⟨y,hy,s8.mpr (.inr e),Z⟩)).1
theorem IG.sb (h:IG rs k x) {y:Slot} (hy:y∈x.qu.sl) (h0:y.s≠0):y.s=1∨y.s=2:=by
 have h3:=h.no3 hy
 obtain ⟨j,hj,rfl⟩:=i6.mp hy
 have hb:=(h.f.qu.sl.ok j (by rw [← h.f.qu.sl.len];exact hj) h0).1
 omega
theorem IG.rt (h:IG rs k x) {y:Slot} (hy:y∈x.qu.sl) (h0:y.s≠0):Rt rs k (wOf y):=by
 rcases h.sb hy h0 with e | e
 ·exact (h.pp _ (.inr ⟨y,hy,F4.mpr (.inl e),Z⟩)).2
 ·exact (h.ac _ (A6.mpr ⟨y,hy,s8.mpr (.inl e),Z⟩)).2
theorem IG.off (h:IG rs k x) (ht:tgI rs i=k) (hn:i∉x.st) {w:Wtr}:Pn (a6h x.qu i (prI rs i)) w↔w=⟨i,prI rs i⟩∨Pn x.qu w:=by
 have stay:a6h x.qu i (prI rs i)=x.qu→Pn x.qu ⟨i,prI rs i⟩→(Pn (a6h x.qu i (prI rs i)) w↔w=⟨i,prI rs i⟩∨Pn x.qu w):=λe g=>by
  grind
 by_cases h1:0<=o9 x.qu.sl i
 ·obtain ⟨j,e1,e2,e3,e4⟩:=a1t h1
  have hm:x.qu.sl.getD j default∈x.qu.sl:=i6.mpr ⟨j,e2,Z⟩
  have hs1:(x.qu.sl.getD j default).s=1:=by
   rcases h.sb hm e3 with e | e
   ·exact e
   ·exact absurd (h.ac _ (A6.mpr ⟨_,hm,s8.mpr (.inl e),Z⟩)).1 (by show ¬ (x.qu.sl.getD j default).q∈x.st;rw [e4];exact hn)
  have e5:(x.qu.sl.getD j default).p=prI rs i:=by rw [← e4];exact (h.rt hm e3).2.symm
  have hw:wOf (x.qu.sl.getD j default)=⟨i,prI rs i⟩:=by
   show (⟨(x.qu.sl.getD j default).q,(x.qu.sl.getD j default).p⟩:Wtr)=_
   rw [e4,e5]
  refine stay ?_ (.inr ⟨_,hm,F4.mpr (.inl hs1),hw⟩)
  have e6:ptS x.qu.sl i=x.qu.sl:=by
   rw [b4k (by rw [e1,Int.toNat_natCast];omega),e1,Int.toNat_natCast]
   exact a7D e2
  rw [b5B h1,e6]
 ·by_cases h2:0<=inW x.qu.wa i
  ·have hx:∃w∈x.qu.wa,w.q=i:=by
    rcases Classical.em (∃w∈x.qu.wa,w.q=i) with g | g
    ·exact g
    ·exact absurd (b6s.mpr λw hw e=>g ⟨w,hw,e⟩) J
   obtain ⟨v,hv,e⟩:=hx
   have ew:v=⟨i,prI rs i⟩:=by
    have:=(h.pp v (.inl hv)).2.2
    rw [e] at this
    cases v
    grind
   exact stay (b5D J h2) (.inl (ew▸hv))
  ·rw [b5C J J]
   show (w∈insW x.qu.wa ⟨i,prI rs i⟩∨_)↔_
   rw [a2X]
   exact or_assoc
theorem IG.raise (h:IG rs k x) (hi:0<=i/\i<=7) (hp:0<=prI rs i/\prI rs i<=15) (ht:tgI rs i=k) (hn:i∉x.st):IG rs k (a4D x i (prI rs i))/\∀w,Pn (a4D x i (prI rs i)).qu w↔w=⟨i,prI rs i⟩∨Pn x.qu w:=by
 obtain ⟨g1,g2,g3⟩:=a4A h.f.qu hi hp
 have hP:∀w,Pn (a1s x.qu i (prI rs i)) w↔w=⟨i,prI rs i⟩∨Pn x.qu w:=λw=>by unfold a1s;rw [b62 (b2W h.f.qu hi hp).1,h.off ht hn]
 refine ⟨⟨b5A h.f hi hp,g2,h.ma,h.nd,λw hw=>?_,h.dn,λw hw=>?_⟩,hP⟩
 ·have hw:w∈actL (a1s x.qu i (prI rs i)).sl:=hw
  rw [g3] at hw
  exact h.ac w hw
 ·rcases (hP w).mp hw with rfl | g
  ·exact ⟨hn,ht,Z⟩
  ·exact h.pp w g
theorem IG.lv (h:IG rs k x) (hi:i∈x.st):lvl x.qu.sl i=prI rs i:=by
 have hf:=a3E (h.f.st i hi)
 obtain ⟨j,e1,e2,e3,e4⟩:=a1t hf
 unfold lvl
 rw [e1,Int.toNat_natCast,← e4]
 exact (h.rt (i6.mpr ⟨j,e2,Z⟩) e3).2.symm
theorem IG.run (h:IG rs k x):a7h x=if x.st.length=0 then 16 else prI rs (x.st.getD (x.st.length - 1) default):=by
 unfold a7h
 split
 ·rfl
 ·exact h.lv (i6.mpr ⟨x.st.length - 1,by omega,Z⟩)
theorem IG.take (h:IG rs k x) (ho:okT x=true):IG rs k (a2Z x)/\∀w,Pn (a2Z x).qu w↔Pn x.qu w/\w.q≠tkI x.qu.sl:=by
 obtain ⟨hb,hl⟩:=I8.mp ho
 have hP:∀w,Pn (a4B x.qu) w↔Pn x.qu w/\w.q≠tkI x.qu.sl:=λw=>c6D h.f.qu hb
 obtain ⟨k',e1,e2,e3⟩:=F7 hb
 have hm:x.qu.sl.getD k' default∈x.qu.sl:=i6.mpr ⟨k',e2,Z⟩
 have hr:prI rs (tkI x.qu.sl)=(x.qu.sl.getD (bstS x.qu.sl true).toNat default).p:=by
  unfold tkI
  rw [e1,Int.toNat_natCast]
  exact (h.rt hm J).2
 refine ⟨⟨(c1U h.G ho).f,c0i h.f.qu h.s hb,h.ma,(c1U h.G ho).nd,λw hw=>?_,λj hj0 hj=>?_,λw hw=>?_⟩,hP⟩
 ·rcases c2f h.f.qu hb hw with ⟨g1,y,y1,y2,rfl⟩ | g
  ·exact ⟨List.mem_append_right _ (List.mem_singleton.mpr g1),h.rt y1 J⟩
  ·exact ⟨List.mem_append_left _ (h.ac w g).1,(h.ac w g).2⟩
 ·have hj:j < (x.st++[tkI x.qu.sl]).length:=hj
  rw [List.length_append,List.length_cons,List.length_nil] at hj
  show prI rs ((x.st++[tkI x.qu.sl]).getD j default) < prI rs ((x.st++[tkI x.qu.sl]).getD (j - 1) default)
  rw [b1Q (show j - 1 < x.st.length by omega)]
  rcases Nat.lt_or_ge j x.st.length with g | g
  ·rw [b1Q g];exact h.dn j hj0 g
  ·rw [b1R g,show j - x.st.length=0 by omega]
   show prI rs (tkI x.qu.sl) < _
   rw [hr]
   have:b7O x<=a7h x:=Int.min_le_right _ _
   rw [h.run,if_neg J] at this
   grind
 ·obtain ⟨g1,g2⟩:=(hP w).mp hw
  refine ⟨λg=>?_,(h.pp w g1).2⟩
  rcases List.mem_append.mp g with g | g
  ·exact (h.pp w g1).1 g
  grind
theorem IG.leave (h:IG rs k x) (h0:x.st.length≠0):IG rs k (a2o x)/\∀w,Pn (a2o x).qu w↔Pn x.qu w:=by
 have hlm:=a23 h0
 obtain ⟨hf,ha⟩:=b6S h.G h0
 obtain ⟨k',e1,e2,e3,e4⟩:=a1t hf
 have h2:(x.qu.sl.getD (o9 x.qu.sl (J4 x)).toNat default).s=2:=by
  have hm:x.qu.sl.getD (o9 x.qu.sl (J4 x)).toNat default∈x.qu.sl:=by rw [e1,Int.toNat_natCast];exact i6.mpr ⟨k',e2,Z⟩
  have:=h.no3 hm
  rcases s8.mp ha with g | g
  ·exact g
  ·exact absurd g this
 have hQ:=a7f h.f.qu hf
 have hP:∀w,Pn (a4C x.qu (J4 x)) w↔Pn x.qu w:=λw=>by unfold a4C;rw [b62 hQ,c8B h.f.qu hf h2]
 refine ⟨⟨(c1W h.G h0).f,(b5z h.f.qu hf).2,h.ma,(c1W h.G h0).nd,λw hw=>?_,λj hj0 hj=>?_,λw hw=>?_⟩,hP⟩
 ·have hw:w∈actL (a1L ⟨edS x.qu.sl (J4 x),x.qu.wa⟩).sl:=hw
  rw [b0u hQ] at hw
  obtain ⟨g1,g2⟩:=c6E h.f.qu hf h2 hw
  refine ⟨?_,(h.ac w g1).2⟩
  obtain ⟨j,hj,e⟩:=i6.mp (h.ac w g1).1
  refine (a7q J).mpr ⟨j,?_,e⟩
  by_cases ej:j=x.st.length - 1
  ·subst ej;exact absurd e.symm g2
  ·omega
 ·have hj:j < (x.st.take (x.st.length - 1)).length:=hj
  rw [List.length_take] at hj
  show prI rs ((x.st.take (x.st.length - 1)).getD j default) < prI rs ((x.st.take (x.st.length - 1)).getD (j - 1) default)
  rw [a2W J,a2W J]
  exact h.dn j hj0 J
 ·have g:=(hP w).mp hw
  exact ⟨λq=>(h.pp w g).1 (List.mem_of_mem_take q),(h.pp w g).2⟩
theorem IG.mask (h:IG rs k x) {v:Int} (hv:0<=v/\v<=16):IG rs k ⟨v,x.st,x.qu⟩:=⟨⟨h.f.qu,h.f.sn,h.f.st⟩,h.s,hv,h.nd,h.ac,h.dn,h.pp⟩
end
theorem b2h {rs:List Route} {a:Abs} {c:Nat}:∀n,(∀i,i < n→(a.po.getD i default=true/\(rs.getD i default).t=c)→0<=u4 rs a c n/\((rs.getD (u4 rs a c n).toNat default).p < (rs.getD i default).p∨((rs.getD (u4 rs a c n).toNat default).p=(rs.getD i default).p/\u4 rs a c n<=i)))/\(0<=u4 rs a c n→a.po.getD (u4 rs a c n).toNat default=true/\(rs.getD (u4 rs a c n).toNat default).t=c)
 | 0=>⟨λi hi=>by omega,λh=>by simp [u4] at h⟩
 | n+1=>by
  obtain ⟨ih1,ih2⟩:=@b2h rs a c n
  have hb:=@a2T rs a c n
  by_cases hc:(a.po.getD n default=true/\(rs.getD n default).t=c)/\(u4 rs a c n < 0∨(rs.getD n default).p < (rs.getD (u4 rs a c n).toNat default).p)
  ·rw [b2P hc.1.1 hc.1.2 hc.2]
   refine ⟨λi hi hci=>⟨by omega,?_⟩,λ_=>by rw [Int.toNat_natCast];exact hc.1⟩
   rw [Int.toNat_natCast]
   grind
  ·grind [u4]
theorem b2i:∀i,(∀j,j < i→R2 (sl.getD j default)=true)→(actN sl i).length=i
 | 0,_=>rfl
 | i+1,h=>by rw [b9n (h i J),List.length_append,b2i i (λj hj=>h j J)];rfl
theorem IG.next {x:Ifc} {a:Abs} (h:IG rs k x) (hst:a.st.getD k default=x.st) (hma:a.ma.getD k default=x.ma) (hr:∀i,i < 8→0<=(rs.getD i default).p/\(rs.getD i default).p<=15) (hpo:∀i,i < 8→((a.po.getD i default=true/\(rs.getD i default).t=k)↔∃w,Pn x.qu w/\w.q=i)):(okT x=true→A5 rs a k=tkI x.qu.sl)/\(okT x=false→A5 rs a k=-1):=by
 have h4:=h.f.qu.sl.len
 have hbl:=@a2T rs a k 8
 obtain ⟨m1,m2⟩:=@b2h rs a k 8
 by_cases hb:0<=bstS x.qu.sl true
 ·obtain ⟨j,e1,e2,e3⟩:=F7 hb
  have hm:x.qu.sl.getD j default∈x.qu.sl:=i6.mpr ⟨j,e2,Z⟩
  have ht:tkI x.qu.sl=(x.qu.sl.getD j default).q:=by unfold tkI;rw [e1,Int.toNat_natCast]
  obtain ⟨t1,t2⟩:=b5F h.f.qu.sl hb
  have hlt:=h.G.lt hb
  have hrt:=h.rt hm J
  have hp0:prI rs (x.qu.sl.getD j default).q=(x.qu.sl.getD j default).p:=hrt.2
  have hmin:∀w,Pn x.qu w→w=wOf (x.qu.sl.getD j default)∨lessW (wOf (x.qu.sl.getD j default)) w=true:=by
   rintro w (g | ⟨y,g1,g2,rfl⟩)
   ·exact .inr (((a7E h.f.qu).mp h.s).2 _ hm e3 w g)
   ·obtain ⟨i,hi,rfl⟩:=i6.mp g1
    have hs1:(x.qu.sl.getD i default).s=1:=by
     rcases F4.mp g2 with g | g
     ·exact g
     ·exact absurd g (h.no3 g1)
    obtain ⟨q1,q2⟩:=b63 h.f.qu.sl 4 (Nat.le_refl _) i J hs1
    have eb:F2 x.qu.sl true 4=(j:Int):=by rw [← h4];exact e1
    rw [eb,Int.toNat_natCast] at q2
    grind
  obtain ⟨n,hn⟩:∃n:Nat,tkI x.qu.sl=n:=⟨(tkI x.qu.sl).toNat,by omega⟩
  have hq0:(x.qu.sl.getD j default).q=n:=by rw [← ht];exact hn
  have hc0:a.po.getD n default=true/\(rs.getD n default).t=k:=(hpo n J).mpr ⟨wOf (x.qu.sl.getD j default),.inr ⟨_,hm,F4.mpr (.inl e3),Z⟩,hq0⟩
  obtain ⟨g1,g2⟩:=m1 n J hc0
  obtain ⟨w,w1,w2⟩:=(hpo (u4 rs a k 8).toNat J).mp (m2 g1)
  have hwp:prI rs w.q=w.p:=(h.pp w w1).2.2
  rw [hq0] at hp0
  have hp0:(rs.getD n default).p=(x.qu.sl.getD j default).p:=hp0
  rw [w2] at hwp
  have hwp:(rs.getD (u4 rs a k 8).toNat default).p=w.p:=hwp
  have hbn:u4 rs a k 8=n:=by
   rcases hmin w w1 with g | g
   ·rw [g] at w2
    have w2:(x.qu.sl.getD j default).q=((u4 rs a k 8).toNat:Int):=w2
    omega
   ·rw [V6] at g
    have g:(x.qu.sl.getD j default).p < w.p∨((x.qu.sl.getD j default).p=w.p/\(x.qu.sl.getD j default).q < w.q):=g
    omega
  have hok:okT x=true↔((x.qu.sl.getD j default).p < x.ma/\(x.qu.sl.getD j default).p < a7h x):=by
   unfold okT
   rw [I8,e1,Int.toNat_natCast]
   unfold b7O
   omega
  have htop:b5j rs (a.st.getD k default)=prI rs (x.st.getD (x.st.length - 1) default):=by rw [hst];rfl
  have hrun:=h.run
  have h15:=hr n J
  rw [a9F,hbn,Int.toNat_natCast,hma,htop,hst,hn]
  grind
 ·have hno:∀y∈x.qu.sl,y.s≠1:=c2e (most:=true) h.f.qu.sl J
  have ho:okT x=false:=by unfold okT;rw [a5r];exact λg=>hb g.1
  refine ⟨λg=>(by rw [ho] at g;cases g),λ_=>?_⟩
  by_cases hw:x.qu.wa.length=0
  ·rw [a9F]
   refine if_pos (.inl ?_)
   rcases Int.lt_or_le (u4 rs a k 8) 0 with g | g
   ·exact g
   ·exfalso
    obtain ⟨w,w1,w2⟩:=(hpo (u4 rs a k 8).toNat J).mp (m2 g)
    rcases w1 with w1 | ⟨y,y1,y2,_⟩
    ·grind
    ·rcases F4.mp y2 with e | e
     ·exact hno y y1 e
     ·exact h.no3 y1 e
  ·have hall:=((a7E h.f.qu).mp h.s).1 hw
   have hact:∀j,j < 4→R2 (x.qu.sl.getD j default)=true:=λj hj=>by
    have hm:x.qu.sl.getD j default∈x.qu.sl:=i6.mpr ⟨j,by omega,Z⟩
    rcases h.sb hm (hall _ hm) with e | e
    ·grind
    ·exact s8.mpr (.inl e)
   have hlen:=a5x (a5t h.f.qu.sl 4 (Nat.le_refl _)) (b:=x.st) (λq hq=>by
    obtain ⟨w,w1,w2⟩:=(a0r h4).mpr hq
    rw [← w2];exact (h.ac w w1).1)
   rw [b2i 4 hact] at hlen
   have:=h.f.sn
   exact b6l (by rw [hst];omega)
structure MG (m:Mach):Prop where
 rt:okRts m.rs m.cp.length=true
 en:m.en.length=8
 ra:m.ra.length=8
 ok:∀k,k < m.cp.length→IG m.rs k (m.cp.getD k default)
theorem c8C {x:Ifc} (h:a2n x=true) (h2:okRq rs x.qu k=true):IG rs k x:=by
 obtain ⟨f,s,ma,sr⟩:=b26 h
 simp only [a2n,a5z,Bool.and_eq_true,decide_eq_true_eq,C5] at h
 obtain ⟨_,_,_,hl⟩:=h
 simp only [okRq,Bool.and_eq_true,C5] at h2
 obtain ⟨hs,hw⟩:=h2
 have hp:=a12.mp sr
 have h4:=f.qu.sl.len
 have hsl:∀y∈x.qu.sl,y.s≠3/\(y.s=0∨Rt rs k (wOf y)):=λy hy=>by
  obtain ⟨j,hj,rfl⟩:=i6.mp hy
  exact a5u.mp (hs j J)
 have hnd:x.st.Nodup:=hp.nodup_iff.mpr (a5t f.qu.sl 4 (Nat.le_refl _))
 have hac:∀w∈actL x.qu.sl,w.q∈x.st/\Rt rs k w:=λw hw=>by
  grind [a0r,A6,s8]
 have hpp:∀w,Pn x.qu w→w.q∉x.st/\Rt rs k w:=by
  intro w hw'
  have key:w.q∈x.st→∃j,j < 4/\R2 (x.qu.sl.getD j default)=true/\(x.qu.sl.getD j default).q=w.q:=λg=>(J8 4).mp (hp.mem_iff.mp g)
  rcases hw' with g | ⟨y,y1,y2,rfl⟩
  ·refine ⟨λq=>?_,?_⟩
   ·obtain ⟨j,j1,j2,j3⟩:=key q
    exact (f.qu.wa w g).2.2 _ (i6.mpr ⟨j,by omega,Z⟩) (by rcases s8.mp j2 with e | e<;>omega) j3
   ·obtain ⟨i,hi,rfl⟩:=i6.mp g
    exact a13.mp (hw i hi)
  ·obtain ⟨i,hi,rfl⟩:=i6.mp y1
   have e1:(x.qu.sl.getD i default).s=1:=by
    grind [F4]
   refine ⟨λq=>?_,?_⟩
   ·obtain ⟨j,j1,j2,j3⟩:=key q
    have hne:j≠i:=λe=>by subst e;rcases s8.mp j2 with e | e<;>omega
    exact f.qu.sl.ne j1 J hne (by rcases s8.mp j2 with e | e<;>omega) J j3
   grind
 have hdn:∀j,0 < j→j < x.st.length→lvl x.qu.sl (x.st.getD j default) < lvl x.qu.sl (x.st.getD (j - 1) default):=λj h0 hj=>by
  grind [lvD]
 have hlv:∀q∈x.st,lvl x.qu.sl q=prI rs q:=λq hq=>by
  obtain ⟨j,e1,e2,e3,e4⟩:=a1t (a3E (f.st q hq))
  unfold lvl
  rw [e1,Int.toNat_natCast,← e4]
  rcases (hsl _ (i6.mpr ⟨j,e2,Z⟩)).2 with g | g
  ·exact absurd g e3
  ·exact g.2.symm
 refine ⟨f,s,ma,hnd,hac,λj h0 hj=>?_,hpp⟩
 grind
theorem IG.ok {x:Ifc} (h:IG rs k x):a2n x=true/\okRq rs x.qu k=true:=by
 have h4:=h.f.qu.sl.len
 constructor
 ·simp only [a2n,a5z,Bool.and_eq_true,decide_eq_true_eq,C5]
  refine ⟨v7.mpr h.ma,a7e.mpr ⟨h.f.qu,h.s⟩,a12.mpr (b22 h.nd (λq hq=>(a0r h4).mp (h.f.st q hq)) (a5x (a5t h.f.qu.sl 4 (Nat.le_refl _)) λq hq=>?_)),λi hi=>?_⟩
  ·obtain ⟨w,w1,w2⟩:=(a0r h4).mpr hq
   rw [← w2];exact (h.ac w w1).1
  ·rcases Nat.eq_zero_or_pos i with g | g
   ·subst g;exact b9u
   ·refine b9v ?_
    rw [h.lv (i6.mpr ⟨i,hi,Z⟩),h.lv (i6.mpr ⟨i - 1,by omega,Z⟩)]
    exact h.dn i g hi
 ·simp only [okRq,Bool.and_eq_true,C5]
  refine ⟨λi hi=>a5u.mpr ?_,λi hi=>a13.mpr (h.pp _ (.inl (i6.mpr ⟨i,hi,Z⟩))).2⟩
  have hm:x.qu.sl.getD i default∈x.qu.sl:=i6.mpr ⟨i,by omega,Z⟩
  refine ⟨h.no3 hm,?_⟩
  by_cases h0:(x.qu.sl.getD i default).s=0
  ·exact .inl h0
  ·exact .inr (h.rt hm h0)
theorem mG:W0 m=true↔MG m:=by
 constructor
 ·intro h
  have hF:=maF h
  simp only [W0,a7o,Bool.and_eq_true,decide_eq_true_eq,C5] at h
  exact ⟨hF.rt,hF.en,hF.ra,λk hk=>c8C (h.2.2.2 k hk).1 (h.2.2.2 k hk).2⟩
 ·intro h
  simp only [W0,a7o,Bool.and_eq_true,decide_eq_true_eq,C5]
  exact ⟨h.rt,h.en,h.ra,λk hk=>(h.ok k hk).ok⟩
theorem MG.G (h:MG m):MaG m:=(maF (mG.mpr h)).g
theorem b4C {po:List Bool} {l:List Int} (hp:po.length=8) (hl:∀j,j < l.length→0<=l.getD j default/\l.getD j default<=7) {i:Nat}:∀n,n<=l.length→((b29 po l n).getD i default=true↔po.getD i default=true∨∃j,j < n/\l.getD j default=i)
 | 0,_=>⟨.inl,λh=>by
  rcases h with h | ⟨j,h,_⟩
  ·exact h
  ·omega⟩
 | n+1,hn=>by
  have ih:=b4C hp hl (i:=i) n J
  have hb:=hl n J
  rw [a0k,C8 (by rw [I9];omega)]
  grind
theorem b66 {m:Mach} (h:∀k,k < m.cp.length→QF (m.cp.getD k default).qu) {i:Nat}:∀n,n<=m.cp.length→((poN m n).getD i default=true↔∃c w,c < n/\Pn (m.cp.getD c default).qu w/\w.q=i)
 | 0,_=>by
  refine ⟨λg=>?_,λ⟨c,_,g,_⟩=>by omega⟩
  change (List.replicate 8 false).getD i default=true at g
  rw [List.getD_eq_getElem?_getD,List.getElem?_replicate] at g
  split at g<;>cases g
 | n+1,hn=>by
  have ih:=b66 h (i:=i) n J
  have hq:=h n J
  rw [a7r,b4C (A7 n) (λj hj=>a9I hq hj) _ (Nat.le_refl _),ih]
  have e:(∃j,j < (C9 (m.cp.getD n default).qu).length/\(C9 (m.cp.getD n default).qu).getD j default=(i:Int))↔∃w,Pn (m.cp.getD n default).qu w/\w.q=i:=by rw [← i6,c2d hq]
  grind
theorem MG.po (h:MG m) {i:Nat}:(w9 m).po.getD i default=true↔∃c w,c < m.cp.length/\Pn (m.cp.getD c default).qu w/\w.q=i:=b66 (λk hk=>(h.ok k hk).f.qu) _ (Nat.le_refl _)
theorem MG.pok (h:MG m) {i k:Nat} (hk:k < m.cp.length):((w9 m).po.getD i default=true/\(m.rs.getD i default).t=k)↔∃w,Pn (m.cp.getD k default).qu w/\w.q=i:=by
 rw [h.po]
 constructor
 ·rintro ⟨⟨c,w,g1,g2,g3⟩,g4⟩
  have:=((h.ok c g1).pp w g2).2.1
  rw [g3] at this
  have:(m.rs.getD i default).t=c:=this
  grind
 ·rintro ⟨w,g1,g2⟩
  refine ⟨⟨k,w,hk,g1,g2⟩,?_⟩
  have:=((h.ok k hk).pp w g1).2.1
  rw [g2] at this
  exact this
theorem MG.pr (h:MG m) {i:Nat} (hi:i < 8):0<=(m.rs.getD i default).p/\(m.rs.getD i default).p<=15:=((H4.mp h.rt).2.2 i hi).1
theorem MG.tg (h:MG m) {i:Nat} (hi:i < 8):(m.rs.getD i default).t=tgM m i/\tgM m i < m.cp.length:=by
 have:=((H4.mp h.rt).2.2 i hi).2
 unfold tgM
 omega
theorem MG.st {m:Mach} {k:Nat} (hk:k < m.cp.length):(w9 m).st.getD k default=(m.cp.getD k default).st:=a0j (f:=λx:Ifc=>x.st) hk
theorem MG.mak (hk:k < m.cp.length):(w9 m).ma.getD k default=(m.cp.getD k default).ma:=a0j (f:=λx:Ifc=>x.ma) hk
theorem MG.nx (h:MG m) {k:Nat} (hk:k < m.cp.length):(okT (m.cp.getD k default)=true→A5 m.rs (w9 m) k=tkI (m.cp.getD k default).qu.sl)/\(okT (m.cp.getD k default)=false→A5 m.rs (w9 m) k=-1):=(h.ok k hk).next (MG.st hk) (MG.mak hk) (λi hi=>h.pr hi) (λi _=>h.pok hk)
theorem MG.put (h:MG m) {k:Nat} {x:Ifc} (hx:IG m.rs k x):MG ⟨m.rs,m.en,m.ra,m.cp.set k x⟩:=by
 refine ⟨by show okRts m.rs (m.cp.set k x).length=true;rw [List.length_set];exact h.rt,h.en,h.ra,λj hj=>?_⟩
 have hj:j < (m.cp.set k x).length:=hj
 rw [List.length_set] at hj
 show IG m.rs j ((m.cp.set k x).getD j default)
 by_cases e:k=j
 ·grind
 ·rw [List.getD_eq_getElem?_getD,List.getElem?_set_ne e,← List.getD_eq_getElem?_getD];exact h.ok j hj
theorem b5O {m m':Mach} (h:m.cp=m'.cp):∀n,poN m n=poN m' n
 | 0=>rfl
 | n+1=>by rw [a7r,a7r,b5O h n,h]
theorem c3n (h:MG m) {l:List Bool} (hl:l.length=8) (hi:∀i,i < 8→(l.getD i default=true↔∃c w,c < m.cp.length/\Pn (m.cp.getD c default).qu w/\w.q=i)):(w9 m).po=l :=
 a90 (i:=8) (by rw [hl];exact A7 _) (λj hj=>by rw [Bool.eq_iff_iff,hi j hj];exact h.po) (by rw [show (w9 m).po.length=8 from A7 _];exact Nat.le_refl _)
theorem b5P (h:MG m) {i:Nat} (hi:i < 8):b07 m.rs (w9 m) i=a24 m i:=by
 have:=MG.st (m:=m) (h.tg hi).2
 unfold b07 a24
 show (m.en.getD i default && (m.ra.getD i default && !a83 ((w9 m).st.getD (tgM m i) default) i))=_
 rw [this]
theorem b0I (h:MG m):∀n,n<=8→∀k,k < m.cp.length→IG m.rs k ((P6 m n).getD k default)/\((P6 m n).getD k default).st=(m.cp.getD k default).st/\((P6 m n).getD k default).ma=(m.cp.getD k default).ma/\∀w,Pn ((P6 m n).getD k default).qu w↔Pn (m.cp.getD k default).qu w∨∃i,i < n/\a24 m i=true/\tgM m i=k/\w=⟨(i:Int),prI m.rs i⟩
 | 0,_,k,hk=>⟨h.ok k hk,Z,Z,λw=>⟨.inl,λg=>by
  rcases g with g | ⟨i,g,_⟩
  ·exact g
  ·omega⟩⟩
 | n+1,hn,k,hk=>by
  obtain ⟨i1,i2,i3,i4⟩:=b0I h n J k hk
  obtain ⟨t1,t2⟩:=h.tg (i:=n) J
  cases hc:a24 m n
  ·grind [a1z]
  ·rw [a1y hc,C8 (by rw [H7];exact t2)]
   by_cases e:tgM m n=k
   ·rw [if_pos e,e]
    have hn':(n:Int)∉((P6 m n).getD k default).st:=by
     grind [a24,b28]
    obtain ⟨r1,r2⟩:=i1.raise (i:=(n:Int)) J (h.pr J) (by rw [← e];exact t1) hn'
    refine ⟨r1,i2,i3,λw=>(r2 w).trans ?_⟩
    grind
   grind
theorem c3o (h:MG m):∀n,n<=8→a6j m n=a7a m.rs (w9 m) n
 | 0,_=>rfl
 | n+1,hn=>by
  have ih:=c3o h n J
  cases hc:a24 m n
  ·rw [a1x hc,c1p (by rw [b5P h J];exact hc),ih]
  ·rw [a1w hc,c1o (by rw [b5P h J];exact hc),ih]
theorem b2j {rs:List Route} {a:Abs} (ha:a.po.length=8) {j:Nat} (hj:j < 8):∀n,n<=8→((a3U rs a n).getD j default=true↔a.po.getD j default=true∨(j < n/\b07 rs a j=true))
 | 0,_=>⟨.inl,λh=>by
  rcases h with h | h
  ·exact h
  ·omega⟩
 | n+1,hn=>by
  have ih:=b2j (rs:=rs) ha hj n J
  cases hc:b07 rs a n
  ·grind [c1r]
  ·grind [c1q,a8i]
theorem b4D {α:Type} {f:Ifc→α} [Inhabited α] {a b:List Ifc} (hl:a.length=b.length) (h:∀k,k < a.length→f (a.getD k default)=f (b.getD k default)):a.map f=b.map f:=by
 refine List.ext_getElem (by simp [hl]) λk h1 h2=>?_
 grind
theorem c0j (h:MG m):MG (b0B m):=by
 refine ⟨by show okRts m.rs (P6 m 8).length=true;rw [H7];exact h.rt,h.en,by show (a6j m 8).length=8;rw [a4I];exact h.ra,λk hk=>?_⟩
 have hk:k < (P6 m 8).length:=hk
 rw [H7] at hk
 exact (b0I h 8 (Nat.le_refl _) k hk).1
theorem c6F (h:MG m):w9 (b0B m)=b8M m.rs (w9 m):=by
 have hs:=c0j h
 have hl:(P6 m 8).length=m.cp.length:=H7 8
 have e1:(P6 m 8).map (λx:Ifc=>x.ma)=m.cp.map (λx:Ifc=>x.ma):=b4D (f:=λx:Ifc=>x.ma) hl (λk hk=>(b0I h 8 (Nat.le_refl _) k J).2.2.1)
 have e2:(P6 m 8).map (λx:Ifc=>x.st)=m.cp.map (λx:Ifc=>x.st):=b4D (f:=λx:Ifc=>x.st) hl (λk hk=>(b0I h 8 (Nat.le_refl _) k J).2.1)
 have e3:(w9 (b0B m)).po=a3U m.rs (w9 m) 8:=c3n hs (by rw [a8i];exact A7 _) λi hi=>by
  rw [b2j (A7 _) hi 8 (Nat.le_refl _),b5P h hi,h.po]
  show _↔∃c w,c < (P6 m 8).length/\Pn ((P6 m 8).getD c default).qu w/\w.q=i
  rw [hl]
  constructor
  ·rintro (⟨c,w,g1,g2,g3⟩ | ⟨_,g⟩)
   ·exact ⟨c,w,g1,((b0I h 8 (Nat.le_refl _) c g1).2.2.2 w).mpr (.inl g2),g3⟩
   ·exact ⟨tgM m i,⟨(i:Int),prI m.rs i⟩,(h.tg hi).2,((b0I h 8 (Nat.le_refl _) _ (h.tg hi).2).2.2.2 _).mpr (.inr ⟨i,hi,g,Z,Z⟩),Z⟩
  ·rintro ⟨c,w,g1,g2,g3⟩
   rcases ((b0I h 8 (Nat.le_refl _) c g1).2.2.2 w).mp g2 with g | ⟨j,j1,j2,j3,rfl⟩
   ·exact .inl ⟨c,w,g1,g,g3⟩
   ·have ej:j=i:=by
     have g3:(j:Int)=i:=g3
     omega
    subst ej;exact .inr ⟨hi,j2⟩
 show (⟨m.en,a6j m 8,(w9 (b0B m)).po,(P6 m 8).map (λx:Ifc=>x.ma),(P6 m 8).map (λx:Ifc=>x.st)⟩:Abs)=⟨m.en,a7a m.rs (w9 m) 8,a3U m.rs (w9 m) 8,m.cp.map (λx:Ifc=>x.ma),m.cp.map (λx:Ifc=>x.st)⟩
 rw [e1,e2,e3,c3o h 8 (Nat.le_refl _)]
theorem b5Q {m:Mach} (h:MG m) {k:Nat} (hk:k < m.cp.length) {x:Ifc} (hx:IG m.rs k x) {l:List Bool} (hl:l.length=8) (hp:∀i,i < 8→(l.getD i default=true↔(∃w,Pn x.qu w/\w.q=i)∨((w9 m).po.getD i default=true/\¬ (m.rs.getD i default).t=k))):w9 ⟨m.rs,m.en,m.ra,m.cp.set k x⟩=⟨m.en,m.ra,l,(w9 m).ma.set k x.ma,(w9 m).st.set k x.st⟩:=by
 have hM:=h.put hx
 have e3:(w9 ⟨m.rs,m.en,m.ra,m.cp.set k x⟩).po=l:=c3n hM hl λi hi=>by
  rw [hp i hi,h.po]
  show _↔∃c w,c < (m.cp.set k x).length/\Pn ((m.cp.set k x).getD c default).qu w/\w.q=i
  rw [List.length_set]
  constructor
  ·rintro (⟨w,g⟩ | ⟨⟨c,w,g1,g2,g3⟩,g4⟩)
   ·exact ⟨k,w,hk,by rw [C8 hk,if_pos Z];exact g.1,g.2⟩
   ·have hc:¬ k=c:=λe=>g4 (by
     have:=((h.ok c g1).pp w g2).2.1
     rw [g3] at this
     have:(m.rs.getD i default).t=c:=this
     omega)
    exact ⟨c,w,g1,by rw [C8 hk,if_neg hc];exact g2,g3⟩
  ·rintro ⟨c,w,g1,g2,g3⟩
   rw [C8 hk] at g2
   by_cases e:k=c
   ·grind
   ·rw [if_neg e] at g2
    refine .inr ⟨⟨c,w,g1,g2,g3⟩,?_⟩
    have:=((h.ok c g1).pp w g2).2.1
    rw [g3] at this
    have:(m.rs.getD i default).t=c:=this
    omega
 show (⟨m.en,m.ra,(w9 ⟨m.rs,m.en,m.ra,m.cp.set k x⟩).po,(m.cp.set k x).map (λx:Ifc=>x.ma),(m.cp.set k x).map (λx:Ifc=>x.st)⟩:Abs)=⟨m.en,m.ra,l,(m.cp.map (λx:Ifc=>x.ma)).set k x.ma,(m.cp.map (λx:Ifc=>x.st)).set k x.st⟩
 simp_all
theorem c6G {s:MStep} (h:MG m) (hv:R4 m.cp.length s=true):(stM m s).2.2=(a4w m.rs (w9 m) s).2.2/\((stM m s).2.2=true→((stM m s).2.1=(a4w m.rs (w9 m) s).2.1/\w9 (stM m s).1=(a4w m.rs (w9 m) s).1)/\MG (stM m s).1):=by
 obtain ⟨sk,sq,sc,sv⟩:=s
 have hcc:=λhk=>b08 (n:=m.cp.length) (k:=sk) (q:=sq) (c:=sc) (v:=sv) hv hk
 have hqq:=λhk=>b8N (n:=m.cp.length) (k:=sk) (q:=sq) (c:=sc) (v:=sv) hv hk
 by_cases h1:sk=1
 ·obtain ⟨q,rfl⟩:∃q:Nat,sq=q:=⟨sq.toNat,by have:=hqq (.inl h1);omega⟩
  rw [sm1 h1,mk1 h1]
  refine ⟨Z,λ_=>⟨⟨Z,?_⟩,⟨h.rt,h.en,by show (m.ra.set q true).length=8;rw [List.length_set];exact h.ra,h.ok⟩⟩⟩
  show (⟨m.en,m.ra.set q true,poN ⟨m.rs,m.en,m.ra.set q true,m.cp⟩ m.cp.length,m.cp.map (λx:Ifc=>x.ma),m.cp.map (λx:Ifc=>x.st)⟩:Abs)=_
  rw [b5O (m:=⟨m.rs,m.en,m.ra.set q true,m.cp⟩) (m':=m) Z]
  rfl
 by_cases h2:sk=2
 ·grind [sm2,mk2,c6F,c0j]
 by_cases h3:sk=3
 ·obtain ⟨c,rfl⟩:∃c:Nat,sc=c:=⟨sc.toNat,by have:=hcc (.inl h3);omega⟩
  have hc:c < m.cp.length:=by have:=hcc (.inl h3);omega
  obtain ⟨n1,n2⟩:=h.nx hc
  cases ho:okT (m.cp.getD c default)
  ·grind [c8c,c9U]
  ·have hb:=a9L (h.ok c hc).G ho
   have en:=n1 ho
   obtain ⟨t1,t2⟩:=(h.ok c hc).take ho
   rw [sm3 h3 ho,mk3 h3 (by rw [en];omega)]
   refine ⟨Z,λ_=>⟨⟨en.symm,?_⟩,h.put t1⟩⟩
   have e:=b5Q h hc t1 (l:=(w9 m).po.set (A5 m.rs (w9 m) c).toNat false) (by rw [List.length_set];exact A7 _) λi hi=>by
    have hpl:(w9 m).po.length=8:=A7 _
    rw [C8 (by rw [hpl,en];omega),en]
    by_cases e:(tkI (m.cp.getD c default).qu.sl).toNat=i
    ·rw [if_pos e]
     refine ⟨λg=>(by cases g),λg=>?_⟩
     rcases g with ⟨w,g1,g2⟩ | ⟨g1,g2⟩
     ·grind
     ·exfalso
      refine g2 ?_
      obtain ⟨k',e1,e2,e3⟩:=F7 (I8.mp ho).1
      have hr:=(h.ok c hc).rt (i6.mpr ⟨k',e2,Z⟩) J
      have ht:tkI (m.cp.getD c default).qu.sl=((m.cp.getD c default).qu.sl.getD k' default).q:=by unfold tkI;rw [e1,Int.toNat_natCast]
      have:=hr.1
      rw [← e,ht]
      exact this
    ·rw [if_neg e]
     by_cases et:(m.rs.getD i default).t=c
     ·constructor
      ·intro g
       obtain ⟨w,w1,w2⟩:=(h.pok hc).mp ⟨g,et⟩
       grind
      ·rintro (⟨w,w1,w2⟩ | ⟨_,g⟩)
       ·exact ((h.pok hc).mpr ⟨w,((t2 w).mp w1).1,w2⟩).1
       ·exact absurd et g
     ·constructor
      ·grind
      ·rintro (⟨w,w1,w2⟩ | ⟨g,_⟩)
       ·exact ((h.pok hc).mpr ⟨w,((t2 w).mp w1).1,w2⟩).1
       ·exact g
   show w9 ⟨m.rs,m.en,m.ra,m.cp.set c (a2Z (m.cp.getD c default))⟩=_
   rw [e,en]
   show (⟨m.en,m.ra,_,(w9 m).ma.set c (m.cp.getD c default).ma,(w9 m).st.set c ((m.cp.getD c default).st++[tkI (m.cp.getD c default).qu.sl])⟩:Abs)=_
   rw [← MG.mak hc,a7D (by show c < (m.cp.map _).length;rw [List.length_map];exact hc),← MG.st hc]
   rfl
 by_cases h4:sk=4
 ·obtain ⟨c,rfl⟩:∃c:Nat,sc=c:=⟨sc.toNat,by have:=hcc (.inr (.inl h4));omega⟩
  have hc:c < m.cp.length:=by have:=hcc (.inr (.inl h4));omega
  by_cases ho:(m.cp.getD c default).st.length=0
  ·grind [c8d,c9V,MG.st]
  ·obtain ⟨t1,t2⟩:=(h.ok c hc).leave ho
   rw [sm4 h4 ho,mk4 h4 (by rw [MG.st hc];exact ho)]
   refine ⟨Z,λ_=>⟨⟨by rw [MG.st hc];rfl,?_⟩,h.put t1⟩⟩
   have e:=b5Q h hc t1 (l:=(w9 m).po) (A7 _) λi hi=>by
    by_cases et:(m.rs.getD i default).t=c
    ·constructor
     ·intro g
      obtain ⟨w,w1,w2⟩:=(h.pok hc).mp ⟨g,et⟩
      grind
     ·rintro (⟨w,w1,w2⟩ | ⟨_,g⟩)
      ·exact ((h.pok hc).mpr ⟨w,(t2 w).mp w1,w2⟩).1
      ·exact absurd et g
    ·constructor
     ·grind
     ·rintro (⟨w,w1,w2⟩ | ⟨g,_⟩)
      ·exact ((h.pok hc).mpr ⟨w,(t2 w).mp w1,w2⟩).1
      ·exact g
   show w9 ⟨m.rs,m.en,m.ra,m.cp.set c (a2o (m.cp.getD c default))⟩=_
   rw [e]
   show (⟨m.en,m.ra,(w9 m).po,(w9 m).ma.set c (m.cp.getD c default).ma,(w9 m).st.set c ((m.cp.getD c default).st.take ((m.cp.getD c default).st.length - 1))⟩:Abs)=_
   rw [← MG.mak hc,a7D (by show c < (m.cp.map _).length;rw [List.length_map];exact hc),← MG.st hc]
   rfl
 by_cases h5:sk=5
 ·obtain ⟨c,rfl⟩:∃c:Nat,sc=c:=⟨sc.toNat,by have:=hcc (.inr (.inr h5));omega⟩
  have hc:c < m.cp.length:=by have:=hcc (.inr (.inr h5));omega
  subst h5
  have hv5:0<=sv/\sv<=16:=by simp [R4,v7] at hv;omega
  have t1:=(h.ok c hc).mask hv5
  rw [sm5 Z,mk5 Z]
  refine ⟨Z,λ_=>⟨⟨Z,?_⟩,h.put t1⟩⟩
  have e:=b5Q h hc t1 (l:=(w9 m).po) (A7 _) λi hi=>by
   by_cases et:(m.rs.getD i default).t=c
   ·constructor
    ·exact λg=>.inl ((h.pok hc).mp ⟨g,et⟩)
    ·rintro (g | ⟨_,g⟩)
     ·exact ((h.pok hc).mpr g).1
     ·exact absurd et g
   ·constructor
    ·grind
    ·rintro (g | ⟨g,_⟩)
     ·exact ((h.pok hc).mpr g).1
     ·exact g
  show w9 ⟨m.rs,m.en,m.ra,m.cp.set c ⟨sv,(m.cp.getD c default).st,(m.cp.getD c default).qu⟩⟩=_
  rw [e]
  show (⟨m.en,m.ra,(w9 m).po,(w9 m).ma.set c sv,(w9 m).st.set c (m.cp.getD c default).st⟩:Abs)=_
  rw [← MG.st hc,a7D (by show c < (m.cp.map _).length;rw [List.length_map];exact hc)]
  rfl
 ·have h6:sk=6:=by have:=c5A hv;omega
  obtain ⟨q,rfl⟩:∃q:Nat,sq=q:=⟨sq.toNat,by have:=hqq (.inr h6);omega⟩
  rw [sm6 h6,mk6 h6]
  refine ⟨Z,λ_=>⟨⟨Z,?_⟩,⟨h.rt,by show (m.en.set q _).length=8;rw [List.length_set];exact h.en,h.ra,h.ok⟩⟩⟩
  show (⟨m.en.set q (decide (sv=1)),m.ra,poN ⟨m.rs,m.en.set q (decide (sv=1)),m.ra,m.cp⟩ m.cp.length,m.cp.map (λx:Ifc=>x.ma),m.cp.map (λx:Ifc=>x.st)⟩:Abs)=_
  rw [b5O (m:=⟨m.rs,m.en.set q (decide (sv=1)),m.ra,m.cp⟩) (m':=m) Z]
  rfl
def plU (u:UInt8):Prop:=32<=u.toNat/\u.toNat<=126/\u.toNat≠35
def plL (s:ByteArray):Prop:=∀u∈s.data.toList,plU u
theorem c0k {s:ByteArray} (h:plL s):X3 s=true:=C5.mpr λj hj=>by
 have hl:s.data.toList.length=s.size:=Array.length_toList
 have hm:s.data.toList.getD j 0∈s.data.toList:=by
  grind
 obtain ⟨h1,h2,h3⟩:=h _ hm
 have e:s4 s j=((s.data.toList.getD j 0).toNat:Int):=rfl
 simp only [a4p,Bool.and_eq_true,decide_eq_true_eq,Bool.not_eq_true',beq_eq_false_iff_ne,ne_eq]
 omega
theorem a5y {s t:ByteArray} (h1:plL s) (h2:plL t):plL (s++t):=λu hu=>by
 rw [S6] at hu
 exact (List.mem_append.mp hu).elim (h1 u) (h2 u)
theorem a0s {s:ByteArray} (h:s.data.toList.all (λu=>decide (32<=u.toNat/\u.toNat<=126/\u.toNat≠35))=true):plL s:=λu hu=>(by have:=List.all_eq_true.mp h u hu;exact of_decide_eq_true (p:=32<=u.toNat/\u.toNat<=126/\u.toNat≠35) this)
theorem b4E:plL ⟨#[]⟩:=λu hu=>by cases hu
theorem c2g {s:ByteArray} {a b:Nat} (h:plL s):plL (s.extract a b):=λu hu=>by
 rw [S5] at hu
 exact h u (List.mem_of_mem_drop (List.mem_of_mem_take hu))
theorem a7F {n:Int}:plL (u3 n):=by
 rcases Int.lt_or_le n 0 with h | h
 ·rw [a4n h]
  refine a5y (a0s (by decide)) λu hu=>?_
  have:=a8c (n:=-n) J u hu
  exact ⟨by omega,by omega,by omega⟩
 ·intro u hu
  have:=a8c h u hu
  exact ⟨by omega,by omega,by omega⟩
theorem b5R {ws:List ByteArray} (h:∀i,i < ws.length→plL (ws.getD i ⟨#[]⟩)):∀n,n<=ws.length→plL (jnS ws n)
 | 0,_=>b4E
 | n+1,hn=>by
  have ih:=b5R h n J
  show plL ((if n=0 then ⟨#[]⟩ else jnS ws n++spB)++ws.getD n ⟨#[]⟩)
  refine a5y ?_ (h n J)
  split
  ·exact b4E
  ·exact a5y ih (a0s (by decide))
theorem b3n {l:List Int}:plL (a4G l):=by
 unfold a4G
 split
 ·exact a0s (by decide)
 ·refine b5R (λi hi=>?_) _ (Nat.le_refl _)
  rw [X8] at hi
  rw [a1u hi]
  exact a7F
theorem c0l {l:List Slot}:plL (a4H l):=by
 refine b5R (λi hi=>?_) _ (Nat.le_refl _)
 rw [a0D] at hi
 rw [a7t hi]
 have hb:∀k,plL (a6i k):=λk=>c2g (a0s (by decide))
 unfold b4t
 split
 ·exact hb _
 ·exact a5y (hb _) (a5y (a5y a7F (a0s (by decide))) a7F)
theorem c2h {s:ByteArray}:plL (E7 m s).2:=by
 have hq:plL qmB:=a0s (by decide)
 have ht:∀(k:Nat) (c:Int),plL (V7 m k c).1:=λk c=>by
  unfold V7
  split
  ·exact b4E
  split
  ·exact b3n
  split
  ·exact b3n
  split
  ·exact c0l
  split
  ·show plL (if _ then _ else _)
   split
   ·exact a0s (by decide)
   ·exact a7F
  ·exact b4E
 have ha:∀(k:Nat) (l:List Int),plL (a4K m k l).1:=λk l=>by
  grind [a4K,b3n,a0s]
 have hm:∀t:MStep,plL (a8U m t).2.1:=λt=>by
  grind [a8U,a0s,a7F]
 have hr:plL (a2q m s).2.1:=by
  grind [a2q,b4E]
 show plL (if (a2q m s).2.2 then (a2q m s).2.1 else qmB)
 grind
theorem c6H {m:Mach} {s:ByteArray} (h:C7 ⟨s,⟨#[]⟩⟩=true):C7 ⟨s,a7x (E7 m s).2⟩=true:=by
 grind [a7x,c0k,a0s,c2h,c16,C7]
theorem c8D {s:MStep} (h:(smT m s).2.2=true):W0 (smT m s).1=true:=by
 grind [smT,b5K,mG,c6G]
theorem c6I {s:ByteArray} (h:W0 m=true):W0 (E7 m s).1=true:=by
 show W0 (a2q m s).1=true
 unfold a2q
 split
 ·grind [a8U,c8D]
 ·exact h
structure ExY (m:Mach) (x:Lg) (s:ByteArray):Prop where
 co:okCo m x=true
 ok:okCo (exC m x s).1 (exC m x s).2.1=true
 lg:okLg (exC m x s).2.1=true
 lr:lrT (exC m x s).2.1=lrT x++[⟨s,(exC m x s).2.2⟩]
 n:(exC m x s).2.1.n=x.n+1
 d:(exC m x s).2.1.d=x.d
theorem b4F (m:Mach) (x:Lg) (s:ByteArray):(((exC m x s).1=m/\(exC m x s).2.1=x)/\((exC m x s).2.2=noB∨(exC m x s).2.2=c14∨(exC m x s).2.2=b6V))∨ExY m x s:=by
 cases h1:okCo m x
 ·left;rw [b92 h1];exact ⟨⟨Z,Z⟩,.inl Z⟩
 cases h2:C7 ⟨s,⟨#[]⟩⟩
 ·left;rw [b93 h1 h2];exact ⟨⟨Z,Z⟩,.inr (.inl Z)⟩
 by_cases h3:x.n=60
 ·left;rw [b94 h1 h2 h3];exact ⟨⟨Z,Z⟩,.inr (.inr Z)⟩
 ·right
  obtain ⟨g1,g2⟩:=b3d h1
  obtain ⟨q1,q2,q3,q4⟩:=c8A g2 (c6H (m:=m) h2) h3
  have e:exC m x s=((E7 m s).1,apE x ⟨s,a7x (E7 m s).2⟩,a7x (E7 m s).2):=O5 h1 h2 h3 Z
  refine ⟨h1,?_,?_,?_,?_,?_⟩
  ·rw [e];show okCo (E7 m s).1 (apE x _)=true;rw [okCo,c6I g1,q2];rfl
  ·rw [e];exact q2
  ·rw [e];exact q1
  ·rw [e];exact q3
  ·rw [e];exact q4
theorem c2i {s:ByteArray} (h:eqL (exC m x s).2.1 x=true):((exC m x s).1=m/\(exC m x s).2.1=x)/\((exC m x s).2.2=noB∨(exC m x s).2.2=c14∨(exC m x s).2.2=b6V):=by
 rcases b4F m x s with g | g
 ·exact g
 ·exfalso
  simp only [eqL,Bool.and_eq_true,beq_iff_eq] at h
  have:=g.n
  omega
theorem c2j {s:ByteArray} (h:eqL (exC m x s).2.1 x=false):ExY m x s:=by
 grind [b4F,b9F]
theorem ExY.len {s:ByteArray} (h:ExY m x s):((lrT (exC m x s).2.1).length:Int)=x.n+1:=by rw [c6B h.lg,h.n]
theorem ExY.last {s:ByteArray} (h:ExY m x s):(lrT (exC m x s).2.1).getD ((lrT (exC m x s).2.1).length - 1) default=⟨s,(exC m x s).2.2⟩:=by
 rw [h.lr,List.length_append,List.length_cons,List.length_nil,List.getD_eq_getElem?_getD,List.getElem?_append_right J]
 simp
theorem c3p {y:Lg}:B3 [.string x.d,.string x.p,.int .i64 x.n] [.string y.d,.string y.p,.int .i64 y.n]=eqL x y:=by
 simp only [B3,X2,eqL,a5K,Bool.and_true]
 rw [Bool.and_assoc]
 rfl
end Go.Rf
namespace Go.Rf
theorem rfb :
 ((∀(p:Prop) [Decidable p],(decide p=true)=p)/\(∀(p:Prop) [Decidable p],(decide p=false)↔¬p) /\
 (∀{α:Type} [BEq α] [LawfulBEq α] {a b:α},a==b↔a=b)/\(∀{α:Type} [BEq α] [LawfulBEq α] {a b:α},a != b↔a≠b)/\(∀{α:Type} (a b:α),(a≠b)=¬(a=b))) /\
 ((∀b:Bool,((!b)=true)=(b=false))/\(∀b:Bool,((!b)=false)=(b=true)) /\
 (∀{α:Type} [BEq α] [LawfulBEq α] {a b:α},(a==b)=false↔a≠b)/\(∀{α:Type} [BEq α] [LawfulBEq α] {a b:α},(a != b)=false↔a=b) /\
 (∀b:Bool,(¬(b=true))=(b=false))/\(∀b:Bool,(¬(b=false))=(b=true))) /\
 ((∀{a b:Int},¬(a < b)↔b<=a)/\(∀{a b:Int},¬(a<=b)↔b < a)/\(∀{a b:Int},a > b↔b < a)/\(∀{a b:Int},a≥b↔b<=a)) /\
 ((∀a b:Bool,((a && b)=true)=(a=true/\b=true))/\(∀{a b:Bool},(a && b)=false↔a=false∨b=false)/\(∀a b:Bool,((a || b)=true)=(a=true∨b=true))/\(∀{a b:Bool},(a || b)=false↔a=false/\b=false)) :=
 ⟨⟨λp _=>decide_eq_true_eq,λp _=>decide_eq_false_iff_not,beq_iff_eq,bne_iff_ne,λa b=>ne_eq a b⟩,⟨Bool.not_eq_true',Bool.not_eq_false',beq_eq_false_iff_ne,bne_eq_false_iff_eq,Bool.not_eq_true,Bool.not_eq_false⟩,⟨Int.not_lt,Int.not_le,gt_iff_lt,ge_iff_le⟩,⟨Bool.and_eq_true,Bool.and_eq_false_iff,Bool.or_eq_true,Bool.or_eq_false_iff⟩⟩
end Go.Rf
namespace Go.Rf
open Go Go.RowKit
section
variable {P:Program} [Env P] {w0:Base} {ops:Array Oper} {tb:List (Nat×TyI)} {o:Oper} {T:List (Nat×AV)} {m m0:List (Nat×Option Row)} {nx nt d fuel:Nat} {Q:Exit→St→Prop} {S:St} {A K:St→Prop} {c:Code} {listed:Array Bool} {b:Base} {r:AV} {id:Nat}
theorem b4G {t:TypeId} {x:Operand} {k off ft id a0:Nat} {fs:List (Nat×Nat)} {zs:List Value} (G:Good P tb) (ho:o.op=.fieldAddr t x k) (hx:ev T x=some (.ptr id a0)) (ht:look t tb=some (.struct fs zs)) (hk:nth fs k=some (off,ft)):QStep P o T m nx nt (.ptr id (Nat.add a0 off)):=d5 G ho ht hk hx
theorem b5S {t:TypeId} {x:Operand} {i:TyI} {id off:Nat} {cs:List AV} (G:Good P tb) (ho:o.op=.load t x) (hx:ev T x=some (.ptr id off)) (hm:mem m id=some (.box cs)) (hr:nth cs off=some r) (ht:look t tb=some i) (hf:a0S i=true) (hd:b2u r=true):QStep P o T m nx nt r:=i8 G ho ht hf hx hm hr hd
theorem c8E {t:TypeId} {x:Operand} {i:TyI} {id off sz:Nat} {cs:List AV} {z:Value} {ys:List (List Value)} (G:Good P tb) (ho:o.op=.load t x) (hx:ev T x=some (.ptr id off)) (hm:mem m id=some (.box cs)) (hr:nth cs off=some (.pin z sz ys)) (ht:look t tb=some i) (hf:a0S i=true):QStep P o T m nx nt (.lst sz ys):=a62 (i8 G ho ht hf hx hm hr Z)
theorem c8F {t:TypeId} {x:Operand} {i:TyI} {id off sz:Nat} {cs:List AV} {z:Option Value} {yss:List (List CI)} (G:Good P tb) (ho:o.op=.load t x) (hx:ev T x=some (.ptr id off)) (hm:mem m id=some (.box cs)) (hr:nth cs off=some (.nst z sz yss)) (hd:b2u (.nst z sz yss)=true) (ht:look t tb=some i) (hf:a0S i=true):QStep P o T m nx nt (.nst none sz yss):=b8E (i8 G ho ht hf hx hm hr hd)
theorem a7G {t:TypeId} {x:Operand} {fs:List (Nat×Nat)} {zs:List Value} {id off:Nat} {cs rs:List AV} (G:Good P tb) (ho:o.op=.load t x) (hx:ev T x=some (.ptr id off)) (hm:mem m id=some (.box cs)) (ht:look t tb=some (.struct fs zs)) (hr:a3R zs.length (a0R off cs) []=some rs) (hd:a5I rs=true):QStep P o T m nx nt (.agg rs):=c1 G ho ht hx hm hr hd
theorem b5T {t:TypeId} {x:Operand} {i:TyI} {c:List Value} {u:Value} (G:Good P tb) (ho:o.op=.load t x) (hx:ev T x=some (.ept c)) (hr:nth c 0=some u) (ht:look t tb=some i) (hf:a0S i=true):QStep P o T m nx nt (.v u):=a9O G ho ht hf hx hr
theorem a7H {t:TypeId} {x:Operand} {fs:List (Nat×Nat)} {zs:List Value} {c us:List Value} (G:Good P tb) (ho:o.op=.load t x) (hx:ev T x=some (.ept c)) (ht:look t tb=some (.struct fs zs)) (hr:a3R zs.length c []=some us):QStep P o T m nx nt (.agg (avR us [])):=a6E G ho ht hx hr
theorem c8G {x:Operand} {t e sz by_ n:Nat} {zs:List Value} {ax:AV} (G:Good P tb) (ho:o.op=.call { callee:=.builtin .len,args:=#[x],argTypes:=#[t] }) (hx:ev T x=some ax) (hn:b7k m ax=some n) (ht:look t tb=some (.slice e sz by_ zs)):QStep P o T m nx nt (.v (.int .i64 n)):=a0T G ho ht hx hn
theorem c6J {x:Operand} {t e sz by_ n n':Nat} {zs:List Value} {ax:AV} (G:Good P tb) (ho:o.op=.call { callee:=.builtin .len,args:=#[x],argTypes:=#[t] }) (hx:ev T x=some ax) (hn:b7k m ax=some n) (he:n=n') (ht:look t tb=some (.slice e sz by_ zs)):QStep P o T m nx nt (.v (.int .i64 n')):=R6 G ho ht hx hn he
theorem a4O {x y:Operand} {t e sz by_:Nat} {zs:List Value} {ys:List (List Value)} {k:IntKind} {i:Int} {c:List Value} (G:Good P tb) (ho:o.op=.indexAddr t x y) (hx:ev T x=some (.lst sz ys)) (hy:ev T y=some (.v (.int k i))) (h0:0<=i) (hc:ys[i.toNat]?=some c) (ht:look t tb=some (.slice e sz by_ zs)):QStep P o T m nx nt (.ept c):=b3F G ho ht hx hy h0 hc
def Ph (n:Nat) (p:Prop):Prop:=p
structure Hd (q:Prop):Prop where o:q
structure Sg (P:Program) [Env P] (o:Oper) (T:List (Nat×AV)) (m:List (Nat×Option Row)) (nx nt:Nat) (K:AV→Prop):Prop where o:∃r,QStep P o T m nx nt r/\K r
theorem Sg.of {K:AV→Prop} (h:QStep P o T m nx nt r) (k:K r):Sg P o T m nx nt K:=⟨r,h,k⟩
theorem b3o [EnvAt P w0] {l:List Oper} {Q:Exit→St→Prop} (hd:o.dst=some d) (hlt:Nat.blt d nt=true) (h:Sg P o T m nx nt (λr=>WL P w0 ops l ⟨(d,r) :: T,m,nx,nt⟩ Q)):WX P w0 ops o l ⟨T,m,nx,nt⟩ Q:=h.o.elim λ_ h=>b5 hd hlt h.1 h.2
theorem b3p [EnvAt P w0] {l:List Oper} {K:List (Nat×AV)→Prop} (hd:o.dst=some d) (hlt:Nat.blt d nt=true) (h:Sg P o T m nx nt (λr=>QL P w0 ops l ((d,r) :: T) m nx nt K)):QX P w0 ops o l T m nx nt K:=h.o.elim λ_ h=>l2 hd hlt h.1 h.2
theorem c8H [EnvAt P b] {o1:Option Nat} {o2:Op} {o3:TypeId} {o4:String} {o5:Array Edge} {o6:Option (Nat×Bool)} {i:Nat} (hi:ops[i]?=some ⟨o1,o2,o3,o4,o5,o6⟩) (hg:o6=none) (hd:o1=some d) (hlt:Nat.blt d nt=true) (hf:Region.free .any ops listed i=true) (hr:(Region.ready .any ops listed).contains i=true) (hp:a56 o2=true) (h:Sg P ⟨o1,o2,o3,o4,o5,o6⟩ T m0 nx nt (λr=>WA P b ops m0 fuel (listed.setIfInBounds i true) ⟨(d,r) :: T,m,nx,nt⟩ A)):Ph i (WA P b ops m0 (fuel+1) listed ⟨T,m,nx,nt⟩ A):=h.o.elim λ_ h=>d7 i hi hf hr hp hg hd hlt h.1 h.2
theorem c8I [EnvAt P b] {o1:Option Nat} {o2:Op} {o3:TypeId} {o4:String} {o5:Array Edge} {o6:Option (Nat×Bool)} {i j gd:Nat} {want:Bool} (hi:ops[i]?=some ⟨o1,o2,o3,o4,o5,o6⟩) (hg:o6=some (j,want)) (hj:(ops[j]?).bind (·.dst)=some gd) (hb:look gd T=some (.v (.bool want))) (hd:o1=some d) (hlt:Nat.blt d nt=true) (hf:Region.free .any ops listed i=true) (hr:(Region.ready .any ops listed).contains i=true) (hp:a56 o2=true) (h:Sg P ⟨o1,o2,o3,o4,o5,o6⟩ T m0 nx nt (λr=>WA P b ops m0 fuel (listed.setIfInBounds i true) ⟨(d,r) :: T,m,nx,nt⟩ A)):Ph i (WA P b ops m0 (fuel+1) listed ⟨T,m,nx,nt⟩ A):=h.o.elim λ_ h=>V3 i hi hf hr hp hg hj hb hd hlt h.1 h.2
theorem f8 (ms:List Nat) {o1:Option Nat} {o2:Op} {o3:TypeId} {o4:String} {o5:Array Edge} {o6:Option (Nat×Bool)} {i:Nat} {S:St} (hi:ops[i]?=some ⟨o1,o2,o3,o4,o5,o6⟩) (hg:o6=none) (h:WX P b ops ⟨o1,o2,o3,o4,o5,o6⟩ [] S (nq (λS'=>P0 b.n0 S'.m ms []=some m0/\WA P b ops m0 fuel (listed.setIfInBounds i true) S' A))):WB P b ops m0 fuel listed i S A:=f7 ms hi hg h
theorem c8J {i j gd:Nat} {want bb:Bool} (hi:ops[i]?=some o) (hg:o.guard=some (j,want)) (hj:(ops[j]?).bind (·.dst)=some gd) (hb:look gd T=some (.v (.bool bb))) (hne:(bb==want)=false) (hf:Region.free .any ops listed i=true) (hr:(Region.ready .any ops listed).contains i=true) (hd:o.dst=some d) (hlt:Nat.blt d nt=true) (hk:WA P b ops m0 fuel (listed.setIfInBounds i true) ⟨(d,.v undef) :: T,m,nx,nt⟩ A):Ph i (WA P b ops m0 (fuel+1) listed ⟨T,m,nx,nt⟩ A):=a3p i hi hf hr hg hj hb hne hd hlt hk
theorem c8K {i j gd:Nat} {want:Bool} (hi:ops[i]?=some o) (hg:o.guard=some (j,want)) (hj:(ops[j]?).bind (·.dst)=some gd) (hb:look gd T=some (.v undef)) (hf:Region.free .any ops listed i=true) (hr:(Region.ready .any ops listed).contains i=true) (hd:o.dst=some d) (hlt:Nat.blt d nt=true) (hk:WA P b ops m0 fuel (listed.setIfInBounds i true) ⟨(d,.v undef) :: T,m,nx,nt⟩ A):Ph i (WA P b ops m0 (fuel+1) listed ⟨T,m,nx,nt⟩ A):=b7u i hi hf hr hg hj hb hd hlt hk
theorem c2k {x:Operand} {o1:Option Nat} {o3:TypeId} {o4:String} {o5:Array Edge} {o6:Option (Nat×Bool)} {K:AV→Prop} (h:Sg P ⟨o1,.move x,o3,o4,o5,o6⟩ T m nx nt K):Sg P ⟨o1,.move x,o3,o4,o5,o6⟩ T m nx nt K:=h
theorem b7Z {x:Operand} {o1:Option Nat} {o3:TypeId} {o4:String} {o5:Array Edge} {o6:Option (Nat×Bool)} {K:AV→Prop} (h:Sg P ⟨o1,.assign x,o3,o4,o5,o6⟩ T m nx nt K):Sg P ⟨o1,.assign x,o3,o4,o5,o6⟩ T m nx nt K:=h
theorem c0m {t:TypeId} {x:Operand} {k:Nat} {o1:Option Nat} {o3:TypeId} {o4:String} {o5:Array Edge} {o6:Option (Nat×Bool)} {K:AV→Prop} (h:Sg P ⟨o1,.fieldAddr t x k,o3,o4,o5,o6⟩ T m nx nt K):Sg P ⟨o1,.fieldAddr t x k,o3,o4,o5,o6⟩ T m nx nt K:=h
theorem c2l {t:TypeId} {x:Operand} {o1:Option Nat} {o3:TypeId} {o4:String} {o5:Array Edge} {o6:Option (Nat×Bool)} {K:AV→Prop} (h:Sg P ⟨o1,.load t x,o3,o4,o5,o6⟩ T m nx nt K):Sg P ⟨o1,.load t x,o3,o4,o5,o6⟩ T m nx nt K:=h
theorem c6K {u:BinOp} {t t2:TypeId} {x y:Operand} {o1:Option Nat} {o3:TypeId} {o4:String} {o5:Array Edge} {o6:Option (Nat×Bool)} {K:AV→Prop} (h:Sg P ⟨o1,.binOp u t x y t2,o3,o4,o5,o6⟩ T m nx nt K):Sg P ⟨o1,.binOp u t x y t2,o3,o4,o5,o6⟩ T m nx nt K:=h
theorem c2m {c x y:Operand} {o1:Option Nat} {o3:TypeId} {o4:String} {o5:Array Edge} {o6:Option (Nat×Bool)} {K:AV→Prop} (h:Sg P ⟨o1,.pick c x y,o3,o4,o5,o6⟩ T m nx nt K):Sg P ⟨o1,.pick c x y,o3,o4,o5,o6⟩ T m nx nt K:=h
theorem b5U {x:Operand} {k:Nat} {o1:Option Nat} {o3:TypeId} {o4:String} {o5:Array Edge} {o6:Option (Nat×Bool)} {K:AV→Prop} (h:Sg P ⟨o1,.extract x k,o3,o4,o5,o6⟩ T m nx nt K):Sg P ⟨o1,.extract x k,o3,o4,o5,o6⟩ T m nx nt K:=h
theorem c6L {t:TypeId} {x:Operand} {o1:Option Nat} {o3:TypeId} {o4:String} {o5:Array Edge} {o6:Option (Nat×Bool)} {K:AV→Prop} (h:Sg P ⟨o1,.unOp .not t x,o3,o4,o5,o6⟩ T m nx nt K):Sg P ⟨o1,.unOp .not t x,o3,o4,o5,o6⟩ T m nx nt K:=h
theorem c0n {t:TypeId} {l:Array (Nat×Operand)} {o1:Option Nat} {o3:TypeId} {o4:String} {o5:Array Edge} {o6:Option (Nat×Bool)} {K:AV→Prop} (h:Sg P ⟨o1,.build t l,o3,o4,o5,o6⟩ T m nx nt K):Sg P ⟨o1,.build t l,o3,o4,o5,o6⟩ T m nx nt K:=h
theorem c0o {t:TypeId} {x y:Operand} {o1:Option Nat} {o3:TypeId} {o4:String} {o5:Array Edge} {o6:Option (Nat×Bool)} {K:AV→Prop} (h:Sg P ⟨o1,.indexAddr t x y,o3,o4,o5,o6⟩ T m nx nt K):Sg P ⟨o1,.indexAddr t x y,o3,o4,o5,o6⟩ T m nx nt K:=h
theorem c6M {c:Call} {o1:Option Nat} {o3:TypeId} {o4:String} {o5:Array Edge} {o6:Option (Nat×Bool)} {K:AV→Prop} (h:Sg P ⟨o1,.call c,o3,o4,o5,o6⟩ T m nx nt K):Sg P ⟨o1,.call c,o3,o4,o5,o6⟩ T m nx nt K:=h
theorem s5 {x y:Code} {S:St} {Q:Exit→St→Prop} (h:W P w0 x S (sq (λS=>W P w0 y S Q) Q)):W P w0 (.seq x y) S Q:=c6 λK hK=>b4W h λe S' q=>by cases e<;>first | exact hK _ q | exact q
theorem aW {S:St} {Q:Exit→St→Prop} {c:Code} (h:W P w0 c S Q):W P w0 c S Q:=h
theorem aWL {S:St} {Q:Exit→St→Prop} {l:List Oper} (h:WL P w0 ops l S Q):WL P w0 ops l S Q:=h
theorem aWX {S:St} {Q:Exit→St→Prop} {l:List Oper} (h:WX P w0 ops o l S Q):WX P w0 ops o l S Q:=h
theorem aQX {K:List (Nat×AV)→Prop} {l:List Oper} (h:QX P w0 ops o l T m nx nt K):QX P w0 ops o l T m nx nt K:=h
theorem aQL {K:List (Nat×AV)→Prop} {l:List Oper} (h:QL P w0 ops l T m nx nt K):QL P w0 ops l T m nx nt K:=h
end
section
variable {K:St→Prop} {Q:Exit→St→Prop} {S:St} {i id:Nat}
theorem c6N (h:K S):sq K Q .normal S:=h
theorem c6O (h:K S):nq K .normal S:=h
theorem c6P (h:Q (.exit i) S):sq K Q (.exit i) S:=h
theorem c6Q (h:Q .ret S):sq K Q .ret S:=h
theorem c6R (h:Q .normal S):bq id Q .normal S:=h
theorem c6S (h:Q .ret S):bq id Q .ret S:=h
theorem c6T (h:Q .normal S):bq id Q (.exit id) S:=by simp only [bq,Nat.beq_refl,cond_true];exact h
theorem c6U (h:Q (.exit i) S) (e:Nat.beq i id=false:=by rfl):bq id Q (.exit i) S:=by simp only [bq,e,cond_false];exact h
end
theorem zq {p q:Prop} (k:q) (h:Hd q→p:=by
 intro kk
 first
  | (with_reducible refine c2k ?_;first | refine Sg.of (b8 Z Z) ?_)
  | (with_reducible refine b7Z ?_;first | refine Sg.of (b9 Z Z) ?_)
  | (with_reducible refine c0m ?_;first | refine Sg.of (b4G G Z Z Z Z) ?_ | refine Sg.of (b3D G Z Z Z Z) ?_)
  | (with_reducible refine c2l ?_;first | refine Sg.of (c8E G Z Z Z Z Z Z) ?_ | refine Sg.of (c8F G Z Z Z Z Z Z) ?_ | refine Sg.of (b5S G Z Z Z Z Z Z Z) ?_ | refine Sg.of (a7G G Z Z Z Z Z Z) ?_ | refine Sg.of (b5T G Z Z Z Z Z) ?_ | refine Sg.of (a7H G Z Z Z Z) ?_ | refine Sg.of (T7 G Z Z Z Z) ?_)
  | (with_reducible refine c6K ?_;first | refine Sg.of (w4 Z Z Z Z) ?_ | refine Sg.of (r3 Z Z Z Z J J) ?_)
  | (with_reducible refine c2m ?_;first | refine Sg.of (B4 Z Z Z) ?_ | refine Sg.of (u9 Z Z Z) ?_)
  | (with_reducible refine b5U ?_;first | refine Sg.of (f9 Z Z Z) ?_)
  | (with_reducible refine c6L ?_;first | refine Sg.of (b50 Z Z) ?_ | refine Sg.of (c0X Z Z) ?_ | refine Sg.of (a4c Z Z) ?_)
  | (with_reducible refine c0n ?_;first | refine Sg.of (w3 G Z Z Z Z) ?_)
  | (with_reducible refine c0o ?_;first | refine Sg.of (a4O G Z Z Z J (a2D J) Z) ?_ | refine Sg.of (a4O G Z Z Z J (F9 J J) Z) ?_ | refine Sg.of (a4O G Z Z Z J (B6 J J) Z) ?_ | refine Sg.of (H6 G Z Z Z Z J (a2D J) Z) ?_ | refine Sg.of (H6 G Z Z Z Z J (F9 J J) Z) ?_ | refine Sg.of (H6 G Z Z Z Z J (B6 J J) Z) ?_)
  | (with_reducible refine c6M ?_;first | refine Sg.of (c6J G Z Z Z (List.length_map _) Z) ?_ | refine Sg.of (c8G G Z Z Z Z) ?_)
 exact kk.o):p:=h ⟨k⟩
theorem zgo {p q:Prop} (k:q) (h:Hd q→p:=by
 intro kk
 first | (with_reducible refine aWX ?_;first | (refine b3o Z Z ?_;refine zq ?_) | refine e9 G Z Z Z Z Z Z Z Z Z Z Z ?_) | (with_reducible refine aQX ?_;first | (refine b3p Z Z ?_;refine zq ?_)) | skip
 repeat (first
  | (with_reducible refine aW ?_;with_reducible first | refine s5 ?_ | refine b7 ?_ | refine r9 ?_ | refine r8 ?_ | refine R5 ?_)
  | (with_reducible refine aWL ?_;first | (refine a7 Z ?_;first | (refine b3o Z Z ?_;refine zq ?_) | refine e9 G Z Z Z Z Z Z Z Z Z Z Z ?_) | (refine l7 Z Z Z ?_;first | (refine b3o Z Z ?_;refine zq ?_) | refine e9 G Z Z Z Z Z Z Z Z Z Z Z ?_) | refine l9 Z Z Z Z Z Z ?_ | refine a7W Z Z Z Z Z ?_ | with_reducible refine b4 ?_)
  | (with_reducible refine aQL ?_;first | (refine d4 Z ?_;first | (refine b3p Z Z ?_;refine zq ?_)) | (refine O8 Z Z Z ?_;first | (refine b3p Z Z ?_;refine zq ?_)) | refine b2r Z Z Z Z Z Z ?_ | refine a7X Z Z Z Z Z ?_ | with_reducible refine Z7 ?_)
  | (with_reducible first | refine c6N ?_ | refine c6O ?_ | refine c6R ?_ | refine c6P ?_ | refine c6T ?_ | refine c6Q ?_ | refine c6S ?_ | (refine c6U ?_ ?_;rotate_left)))
 exact kk.o):p:=h ⟨k⟩
theorem zgn {p q:Prop} (k:q) (h:Hd q→p:=by
 intro kk
 repeat (with_reducible first | refine s5 ?_ | refine b7 ?_ | refine r9 ?_)
 first | (with_reducible refine aWX ?_;first | (refine b3o Z Z ?_;refine zq ?_) | refine e9 G Z Z Z Z Z Z Z Z Z Z Z ?_) | (with_reducible refine aQX ?_;first | (refine b3p Z Z ?_;refine zq ?_)) | skip
 repeat (first
  | (with_reducible refine aWL ?_;first | (refine a7 Z ?_;first | (refine b3o Z Z ?_;refine zq ?_) | refine e9 G Z Z Z Z Z Z Z Z Z Z Z ?_) | (refine l7 Z Z Z ?_;first | (refine b3o Z Z ?_;refine zq ?_) | refine e9 G Z Z Z Z Z Z Z Z Z Z Z ?_) | refine l9 Z Z Z Z Z Z ?_ | refine a7W Z Z Z Z Z ?_)
  | (with_reducible refine aQL ?_;first | (refine d4 Z ?_;first | (refine b3p Z Z ?_;refine zq ?_)) | (refine O8 Z Z Z ?_;first | (refine b3p Z Z ?_;refine zq ?_)) | refine b2r Z Z Z Z Z Z ?_ | refine a7X Z Z Z Z Z ?_))
 with_reducible first | refine b4 ?_ | refine Z7 ?_ | refine r8 ?_ | refine R5 ?_
 repeat (with_reducible first | refine c6N ?_ | refine c6O ?_ | refine c6R ?_ | refine c6P ?_ | refine c6T ?_ | refine c6Q ?_ | refine c6S ?_ | (refine c6U ?_ ?_;rotate_left))
 exact kk.o):p:=h ⟨k⟩
theorem znk {p q:Prop} (k:q) (h:Hd q→p:=by
 intro kk
 repeat (with_reducible first | refine c6N ?_ | refine c6O ?_ | refine c6R ?_ | refine c6P ?_ | refine c6T ?_ | refine c6Q ?_ | refine c6S ?_ | (refine c6U ?_ ?_;rotate_left))
 exact kk.o):p:=h ⟨k⟩
theorem zst {p q:Prop} (k:q) (h:Hd q→p:=by
 intro kk
 first
  | (with_reducible refine aWX ?_;first | (refine b3o Z Z ?_;refine zq ?_) | refine e9 G Z Z Z Z Z Z Z Z Z Z Z ?_)
  | (with_reducible refine aQX ?_;first | (refine b3p Z Z ?_;refine zq ?_))
  | (with_reducible refine aWL ?_;first | (refine a7 Z ?_;first | (refine b3o Z Z ?_;refine zq ?_) | refine e9 G Z Z Z Z Z Z Z Z Z Z Z ?_) | (refine l7 Z Z Z ?_;first | (refine b3o Z Z ?_;refine zq ?_) | refine e9 G Z Z Z Z Z Z Z Z Z Z Z ?_) | refine l9 Z Z Z Z Z Z ?_ | refine a7W Z Z Z Z Z ?_)
  | (with_reducible refine aQL ?_;first | (refine d4 Z ?_;first | (refine b3p Z Z ?_;refine zq ?_)) | (refine O8 Z Z Z ?_;first | (refine b3p Z Z ?_;refine zq ?_)) | refine b2r Z Z Z Z Z Z ?_ | refine a7X Z Z Z Z Z ?_)
 exact kk.o):p:=h ⟨k⟩
theorem zgd {p q:Prop} (k:q) (h:Hd q→p:=by
 intro kk
 refine zgo ?_
 refine O0 mixed (by kernel_rfl) ?_
 exact kk.o):p:=h ⟨k⟩
theorem zcd {p a b:Prop} {q1:a→Prop} {q2:b→Prop} (k1:∀h,q1 h) (k2:∀h,q2 h) (h:Hd (∀h,q1 h)→Hd (∀h,q2 h)→p:=by
 intro k1 k2
 refine zgo ?_
 first | refine l4 Z (λhc=>?_) (λhc=>?_) | refine B2 Z Z Z (λhc=>?_) (λhc=>?_) | refine b2s Z Z Z (λhc=>?_) (λhc=>?_)
 ·(try rw [hc]);(try simp only [rfb] at hc);exact k1.o hc
 ·(try rw [hc]);(try simp only [rfb] at hc);exact k2.o hc):p:=h ⟨k1⟩ ⟨k2⟩
theorem zwt {p q:Prop} (k:q) (h:Hd q→p:=by
 intro kk
 refine zgo ?_
 refine N1 Z ?_
 exact kk.o):p:=h ⟨k⟩
theorem zwf {p q:Prop} (k:q) (h:Hd q→p:=by
 intro kk
 refine zgo ?_
 refine a0Y Z ?_
 exact kk.o):p:=h ⟨k⟩
theorem zf1 {p q:Prop} (k:q) (h:Hd q→p:=by
 intro kk
 refine zgo ?_
 refine d8 (O2 Z (j4 ?_))
 exact kk.o):p:=h ⟨k⟩
theorem zfo {p q:Prop} (k:q) (h:Hd q→p:=by
 intro kk
 refine zgo ?_
 refine d8 (O2 Z (c7 Z ?_))
 exact kk.o):p:=h ⟨k⟩
theorem zcl {p q c:Prop} (x:c) (k:q) (h:c→Hd q→p:=by
 intro x kk
 refine zgo ?_
 first | exact a7 Z (b5 Z Z (i7 Z (ArgsOK.of Z) x Z) kk.o) | exact l7 Z Z Z (b5 Z Z (i7 Z (ArgsOK.of Z) x Z) kk.o) | exact d4 Z (l2 Z Z (i7 Z (ArgsOK.of Z) x Z) kk.o) | exact O8 Z Z Z (l2 Z Z (i7 Z (ArgsOK.of Z) x Z) kk.o)):p:=h x ⟨k⟩
theorem zsa (n:Nat) {p q:Prop} (k:q) (h:Hd q→Ph n p:=by
 intro kk
 first
 | (refine c8H Z Z Z Z (by kernel_rfl) (by kernel_rfl) Z ?_;refine zq ?_)
 | (refine c8I Z Z Z Z Z Z (by kernel_rfl) (by kernel_rfl) Z ?_;refine zq ?_)
 | refine c8J Z Z Z Z Z (by kernel_rfl) (by kernel_rfl) Z Z ?_
 | refine c8K Z Z Z Z (by kernel_rfl) (by kernel_rfl) Z Z ?_
 exact kk.o):p:=h ⟨k⟩
theorem Y {p:Prop} (h:p:=by kernel_rfl):p:=h
end Go.Rf
