/- Texts merged into one: RfNZ, RfCJ, RfMR, RfCD, RfCE, Rf7, RfCF, RfDA, RfDE, RfNW, RfDK, RfCI, RfCG, RfLD, RfLA, RfXE, RfLB, RfMS, RfMT, RfLC, RfLE, RfNI, RfSR. -/
import Derived.Test.YtdhckhjphmjniaaGreatDoorLibD
import Derived.Lib.ConvBytes
import Derived.KernelRfl
set_option linter.unusedSectionVars false
set_option linter.unusedSimpArgs false
set_option linter.unusedVariables false
namespace Go.Rf
open Go Go.RowKit
section
variable {P:Program} [Env P] {w0:Base} {ops:Array Oper} {tb:List (Nat×TyI)} {o:Oper} {rest:List Oper} {T:List (Nat×AV)} {m:List (Nat×Option Row)} {nx nt d:Nat} {Q:Exit→St→Prop}
theorem c1D [EnvAt P w0] {f:FuncId} {fn:Func} {c:Code} {as:Array Operand} {ts:Array TypeId} {args:List AV} {n:Nat} (hd:o.dst=some d) (hlt:Nat.blt d nt=true) (ho:o.op=.call { callee:=.value (.func f),args:=as,argTypes:=ts })
 (hf:P.funcs[f]?=some fn) (hb:fn.body=some c) (hname:(fn.name == "runtime.NumGoroutine")=false) (hl:fn.results=#[]) (hn:fn.ntmps=n) (hlen:Nat.ble args.length n=true) (ha:evL T as.toList []=some args)
 (h:∃m1 n1,(∀b:Base,[EnvAt P b]→b.n0=nx→W P b c ⟨a5U args 0,m,nx,n⟩ (c7S m1 n1))/\Nat.ble nx n1=true/\WL P w0 ops rest ⟨(d,.tup []) :: T,m1,n1,nt⟩ Q):WX P w0 ops o rest ⟨T,m,nx,nt⟩ Q:=by
 obtain ⟨m1,n1,h1,h2,h3⟩:=h
 exact c5T m1 n1 hd hlt ho hf hb hname hl hn hlen ha h2 h1 h3
end
variable {B b e eS eW:Nat} {P:Program} {a:List CI} {c:CI} {r r':RC} {w:World} {x yss yss':List (List CI)} {y:Value} {ys:List (List Value)} {ρ:Nat→Value}
def CILe (c c':CI):Prop:=c=c'∨∃e sz ys f,c=.l e sz ys f/\c'=.l e sz ys true
def FlR (a b:List CI):Prop:=a.length=b.length/\∀(k:Nat) (c':CI),b[k]?=some c'→∃c,a[k]?=some c/\CILe c c'
def FlLe (x y:List (List CI)):Prop:=x.length=y.length/\∀(i:Nat) (b:List CI),y[i]?=some b→∃a,x[i]?=some a/\FlR a b
theorem FlR.nil:FlR [] []:=⟨Z,λk c' h=>by simp at h⟩
theorem FlR.cons {c':CI} {b:List CI} (h:CILe c c') (hr:FlR a b):FlR (c :: a) (c' :: b):=⟨by simp [hr.1],λk d hd=>by
 match k with
 | 0=>exact ⟨c,Z,by simp at hd;subst hd;exact h⟩
 | k+1=>exact hr.2 k d (by simpa using hd)⟩
theorem FlR.rfl':FlR a a:=⟨Z,λk c h=>⟨c,h,.inl Z⟩⟩
theorem CILe.s:CILe c c:=.inl Z
theorem CILe.t {sz:Nat} {f:Bool}:CILe (.l e sz ys f) (.l e sz ys true):=.inr ⟨e,sz,ys,f,Z,Z⟩
theorem FlLe.refl:FlLe x x:=⟨Z,λi b h=>⟨b,h,FlR.rfl'⟩⟩
theorem FlLe.map {α:Type} {f g:α→List CI} {xs:List α} (h:∀x,FlR (f x) (g x)):FlLe (xs.map f) (xs.map g):=⟨by simp,λi b hb=>by
 rw [List.getElem?_map] at hb
 obtain ⟨x,hx,rfl⟩:=Option.map_eq_some_iff.1 hb
 exact ⟨f x,by rw [List.getElem?_map,hx];rfl,h x⟩⟩
theorem FlLe.set {y:List (List CI)} {b:List CI} {i:Nat} (h:FlLe x y) (hr:FlR a b):FlLe (x.set i a) (y.set i b):=⟨by simp [h.1],λj c hc=>by
 by_cases e:i=j
 ·subst e
  have hl:i < y.length:=by
   grind
  rw [List.getElem?_set_self (by simpa using hl)] at hc
  cases hc
  exact ⟨a,by rw [List.getElem?_set_self (by rw [h.1];exact hl)],hr⟩
 ·rw [List.getElem?_set_ne e] at hc ⊢
  exact h.2 j c hc⟩
theorem FlLe.trans {y z:List (List CI)} (h:FlLe x y) (h':FlLe y z):FlLe x z:=⟨h.1.trans h'.1,λi b hb=>by
 obtain ⟨a,ha,hr⟩:=h'.2 i b hb
 obtain ⟨a2,ha2,hr2⟩:=h.2 i a ha
 refine ⟨a2,ha2,hr2.1.trans hr.1,λk c hc=>?_⟩
 obtain ⟨d,hd,hd'⟩:=hr.2 k c hc
 obtain ⟨d2,hd2,hd2'⟩:=hr2.2 k d hd
 refine ⟨d2,hd2,?_⟩
 rcases hd2' with rfl | ⟨e,sz,ys,f,rfl,rfl⟩
 ·exact hd'
 ·rcases hd' with rfl | ⟨e2,sz2,ys2,f2,q1,rfl⟩
  ·exact .inr ⟨e,sz,ys,f,Z,Z⟩
  ·cases q1;exact .inr ⟨e,sz,ys,f,Z,Z⟩⟩
theorem FlLe.nget {y:List (List CI)} (h:FlLe x y) {i k:Nat} {c':CI} (hc:C0 y i k=some c'):∃c,C0 x i k=some c/\CILe c c':=by
 simp only [Go.Rf.C0] at hc ⊢
 cases hb:y[i]? with
 | none=>rw [hb] at hc;cases hc
 | some b =>
  rw [hb] at hc
  obtain ⟨a,ha,hr⟩:=h.2 i b hb
  obtain ⟨c,h1,h2⟩:=hr.2 k c' hc
  grind
section
variable {w0:Base} {T:List (Nat×AV)} {m:List (Nat×Option Row)} {nx nt:Nat}
theorem Gh.nestF {id e sz:Nat} {yss:List (List CI)} (yss':List (List CI)) (hm:mem m id=some (.nest e sz yss [])) (h:FlLe yss yss'):Gh w0 ⟨T,m,nx,nt⟩ ⟨T,(id,some (.nest e sz yss' [])) :: m,nx,nt⟩:=by
 intro ρ a w hT hC
 obtain ⟨hlt,cells,hN,hop⟩:=hC.nestC hm
 obtain ⟨n1,n2,n3,n4,n5⟩:=hN
 refine ⟨ρ,hT,hC.retell hm (row':=.nest e sz yss' []) ⟨cells,⟨by rw [← h.1];exact n1,by rw [← h.1];exact n2,n3,λcs hcs=>?_,λi k c hc=>?_⟩,λq hq=>by cases hq⟩ λp b hb=>?_⟩
 ·obtain ⟨i,hi,rfl⟩:=List.getElem_of_mem hcs
  obtain ⟨a',ha,hr⟩:=h.2 i _ (List.getElem?_eq_getElem hi)
  rw [← hr.1]
  grind
 ·obtain ⟨d,hd,hle⟩:=h.nget hc
  obtain ⟨u,hu,hr⟩:=n5 i k d hd
  refine ⟨u,hu,?_⟩
  rcases hle with rfl | ⟨e1,sz1,ys,f,rfl,rfl⟩
  ·exact hr
  ·exact ⟨OwnR.gen hr.1,hr.2⟩
 ·have hb:A3 w (ρ id) sz yss' p=some b:=hb
  show A3 w (ρ id) sz yss p=some b
  unfold A3 at hb ⊢
  cases hc:Go.Rf.C0 yss' p.1 p.2 with
  | none=>rw [hc] at hb;cases hb
  | some c =>
   rw [hc] at hb
   obtain ⟨d,hd,hle⟩:=h.nget hc
   rw [hd]
   rcases hle with rfl | ⟨e1,sz1,ys,f,rfl,rfl⟩
   ·exact hb
   ·exact hb
end
section
variable {w0:Base} {T:List (Nat×AV)} {m:List (Nat×Option Row)} {nx nt:Nat}
theorem Gh.bump (nx':Nat) (h:nx<=nx'):Gh w0 ⟨T,m,nx,nt⟩ ⟨T,m,nx',nt⟩:=by
 intro ρ a w hT hC
 refine ⟨ρ,⟨λt x hx=>(hT.tmps t x hx).mono h λ_ _=>Z,hT.size,hT.defers⟩,⟨λid r hr=>?_,hC.apart,hC.below,⟨Nat.le_trans hC.pin.1 h,hC.pin.2⟩,hC.kept,hC.inner⟩⟩
 obtain ⟨h1,h2⟩:=hC.rows id r hr
 refine ⟨Nat.lt_of_lt_of_le h1 h,?_⟩
 cases r
 case box cs =>
  obtain ⟨b,cur,ty,q1,q2,q3,q4,q5⟩:=h2
  exact ⟨b,cur,ty,q1,q2,q3,RelVs.mono h (λ_ _=>Z) _ q4,q5⟩
 case nest e sz yss op =>
  obtain ⟨cells,q1,q2⟩:=h2
  exact ⟨cells,q1,λq hq=>⟨Nat.lt_of_lt_of_le (q2 q hq).1 h,(q2 q hq).2⟩⟩
 all_goals exact h2
end
theorem Ctr.argsTo [Env P] {f:FuncId} {args args':List AV} {res:Res} (h:Ctr P f args res) (ha:∀w vs,RelVs w noRho 0 args' vs→RelVs w noRho 0 args vs):Ctr P f args' res:=⟨h.callable,λw vs he hv=>h.calls w vs he (ha w vs hv)⟩
theorem NReadsAt.fl {sz:Nat} (hf:FlLe yss yss') (h:NReadsAt w sz yss' y):NReadsAt w sz yss y:=by
 obtain ⟨A,cap,he,hc,hl,hr⟩:=h
 refine ⟨A,cap,by rw [he,hf.1],by rw [hf.1];exact hc,λcs hcs=>?_,λh0=>?_⟩
 ·obtain ⟨i,hi,rfl⟩:=List.getElem_of_mem hcs
  have hi':i < yss'.length:=by rw [← hf.1];exact hi
  obtain ⟨a,ha,hr⟩:=hf.2 i _ (List.getElem?_eq_getElem hi')
  rw [List.getElem?_eq_getElem hi] at ha
  cases ha
  rw [hr.1]
  grind
 ·obtain ⟨ad,h1,h2,h3⟩:=hr (by rw [← hf.1];exact h0)
  refine ⟨ad,h1,h2,λi k c hc=>?_⟩
  have:∃c',Go.Rf.C0 yss' i k=some c'/\CILe c c':=by
   simp only [Go.Rf.C0] at hc ⊢
   cases hb:yss[i]? with
   | none=>rw [hb] at hc;cases hc
   | some b =>
    rw [hb] at hc
    have hi:i < yss'.length:=by rw [← hf.1];exact (List.getElem?_eq_some_iff.1 hb).1
    obtain ⟨a,ha,hr⟩:=hf.2 i _ (List.getElem?_eq_getElem hi)
    rw [hb] at ha
    cases ha
    have hc:b[k]?=some c:=hc
    have hk:k < (yss'[i]).length:=by rw [← hr.1];exact (List.getElem?_eq_some_iff.1 hc).1
    obtain ⟨c2,h1,h2⟩:=hr.2 k _ (List.getElem?_eq_getElem hk)
    grind
  obtain ⟨c',hc',hle⟩:=this
  obtain ⟨u,q1,q2,q3⟩:=h3 i k c' hc'
  refine ⟨u,q1,q2,?_⟩
  rcases hle with rfl | ⟨e1,sz1,ys,f,rfl,rfl⟩
  ·exact q3
  ·exact q3
def a2k (eS eW:Nat) (x:Ifc):List CI:=[.v (.int .i64 x.ma),.l 3 1 (x.st.map r7),.l eS 3 (x.qu.sl.map j5),.l eW 2 (x.qu.wa.map j9) true]
theorem flI (x:Ifc):FlR (r6 eS eW x) (a2k eS eW x):=.cons .s (.cons .s (.cons .s (.cons .t .nil)))
theorem flM {xs:List Ifc}:FlLe (xs.map (r6 eS eW)) (xs.map (a2k eS eW)):=FlLe.map flI
theorem c7T {nx:Nat} {a b c:AV} {rest:List AV} (hf:FlLe yss yss'):∀vs,RelVs w ρ nx (.agg [a,b,c,.nst none 4 yss'] :: rest) vs→RelVs w ρ nx (.agg [a,b,c,.nst none 4 yss] :: rest) vs:=by
 intro vs h
 simp only [RelVs,RelV] at h ⊢
 obtain ⟨y,ys',rfl,⟨zs,rfl,y0,t0,rfl,h0,y1,t1,rfl,h1,y2,t2,rfl,h2,y3,t3,rfl,⟨h3,h4⟩,rfl⟩,hr⟩:=h
 exact ⟨_,_,Z,⟨_,Z,_,_,Z,h0,_,_,Z,h1,_,_,Z,h2,_,_,Z,⟨by simp,NReadsAt.fl hf h4⟩,Z⟩,hr⟩
theorem a0E {α:Type} [Inhabited α] {xs:List α} {f:α→List CI} {i:Nat} {c c':List CI} (hi:i < xs.length) (hc:c'=f (xs.getD i default)):((xs.map f).set i c).set i c'=xs.map f:=by
 subst hc
 rw [List.set_set]
 apply List.ext_getElem?
 grind
section
variable {P:Program} [Env P] {w0:Base} {ops:Array Oper} {tb:List (Nat×TyI)} {o:Oper} {rest:List Oper} {T:List (Nat×AV)} {m:List (Nat×Option Row)} {nx nt d:Nat} {Q:Exit→St→Prop} {c:Code}
theorem c1E {t sz:Nat} (ht:look t T=some (.lst sz ys)) (h:∀y,WL P w0 ops rest ⟨(t,.pin y sz ys) :: T,m,nx,nt⟩ Q):WL P w0 ops rest ⟨T,m,nx,nt⟩ Q:=by
 intro ρ a w hT hC
 have h1:=hT.tmps t _ ht
 simp only [RelV] at h1
 refine h (a.tmps.getD t undef) ρ a w ⟨λi x hi=>?_,hT.size,hT.defers⟩ hC
 by_cases e:i=t
 ·grind [r3,RelV]
 ·rw [l6 (λe'=>e e'.symm)] at hi
  exact hT.tmps i x hi
theorem b0w {w0:World} {u:Nat→Value}:∀{cs:List AV} {us:List Value} {k:Nat} {acc rs:List AV} {acc':List Value},a6Z cs u k acc=some rs→RelVs w0 ρ nx cs us→(∀j y,us[j]?=some y→(∃A l c,y=.slice A l c)→u (k+j)=y)→RelVs w0 ρ nx acc.reverse acc'→RelVs w0 ρ nx rs (acc'++us)
 | [],us,k,acc,rs,acc',h,hr,_,ha=>by
  simp [a6Z,F9] at h
  simp only [RelVs] at hr
  subst h;subst hr
  simpa using ha
 | x :: cs,_,k,acc,rs,acc',h,hr,hu,ha=>by
  simp only [RelVs] at hr
  obtain ⟨y,us,rfl,h1,h2⟩:=hr
  have h0:(∃A l c,y=.slice A l c)→u k=y:=λhs=>by simpa using hu 0 y Z hs
  have key:∀(a:AV),RelV w0 ρ nx a y→a6Z cs u (Nat.succ k) (a :: acc)=some rs→RelVs w0 ρ nx rs (acc'++y :: us):=λa hy h'=>by
   have:=b0w h' h2 (λj y hj=>by rw [show Nat.succ k+j=k+(j+1) by omega];exact hu (j+1) y (by simpa using hj)) (acc':=acc'++[y]) (by
    rw [List.reverse_cons]
    refine RelVs.append _ ha ?_
    simp only [RelVs]
    exact ⟨_,_,Z,hy,Z⟩)
   simpa using this
  cases x<;>simp only [a6Z] at h
  case lst sz ys=>exact key _ (by simp only [RelV] at h1 ⊢;obtain ⟨A,c,e,_⟩:=id h1;exact ⟨(h0 ⟨_,_,_,e⟩).symm,h1⟩) h
  case nst z sz ys=>exact key _ (by simp only [RelV] at h1 ⊢;obtain ⟨_,A,c,e,_⟩:=id h1;exact ⟨λv hv=>by cases hv;exact (h0 ⟨_,_,_,e⟩).symm,h1.2⟩) h
  all_goals exact key _ h1 h
theorem c5U (t:Nat) {cs:List AV} (ht:look t T=some (.agg cs)) {rs:(Nat→Value)→List AV} (hr:∀u,a6Z cs u 0 []=some (rs u)) (h:∀u:Nat→Option Addr×Nat×Nat,W P w0 c ⟨(t,.agg (rs λj=>.slice (u j).1 (u j).2.1 (u j).2.2)) :: T,m,nx,nt⟩ Q):W P w0 c ⟨T,m,nx,nt⟩ Q:=by
 intro ρ a w hT hC
 have h1:=hT.tmps t _ ht
 simp only [RelV] at h1
 obtain ⟨us,he,h1⟩:=h1
 let p:Value→Option Addr×Nat×Nat:=λv=>match v with
  | .slice A l c=>(A,l,c)
  | _=>(none,0,0)
 let u:Nat→Option Addr×Nat×Nat:=λi=>p (us.getD i undef)
 refine h u ρ a w ⟨λi x hi=>?_,hT.size,hT.defers⟩ hC
 by_cases e:i=t
 ·subst e
  rw [r3] at hi
  cases hi
  simp only [RelV]
  have key:∀j y,us[j]?=some y→(∃A l c,y=.slice A l c)→(λj=>Value.slice (u j).1 (u j).2.1 (u j).2.2) (0+j)=y:=λj y hj hs=>by
   grind
  have:=b0w (acc':=[]) (hr λj=>.slice (u j).1 (u j).2.1 (u j).2.2) h1 key (by simp [RelVs])
  grind
 ·rw [l6 (λe'=>e e'.symm)] at hi
  exact hT.tmps i x hi
end
def a8m (x:Ifc):List CI:=[.x,.x,.x,.x]
section
variable {w0:Base} {T:List (Nat×AV)} {m:List (Nat×Option Row)} {nx nt:Nat}
theorem Gh.nestX {id e:Nat} {yss:List (List CI)} (xs:List Ifc) (hm:mem m id=some (.nest e 4 yss [])) (h:yss.length=xs.length):Gh w0 ⟨T,m,nx,nt⟩ ⟨T,(id,some (.nest e 4 (xs.map a8m) [])) :: m,nx,nt⟩:=by
 intro ρ a w hT hC
 obtain ⟨hlt,cells,hN,hop⟩:=hC.nestC hm
 obtain ⟨n1,n2,n3,n4,n5⟩:=hN
 have hx:∀{i k:Nat} {c:CI},C0 (xs.map a8m) i k=some c→c=.x/\i < xs.length/\k < 4:=λ{i k c} hc=>by
  simp only [C0,List.getElem?_map] at hc
  cases hi:xs[i]? with
  | none=>rw [hi] at hc;cases hc
  | some x =>
   grind [a8m]
 refine ⟨ρ,hT,hC.retell hm (row':=.nest e 4 (xs.map a8m) []) ⟨cells,⟨by rw [List.length_map,← h];exact n1,by rw [List.length_map,← h];exact n2,n3,λcs hcs=>?_,λi k c hc=>?_⟩,λq hq=>by cases hq⟩ λp b hb=>?_⟩
 ·obtain ⟨x,_,rfl⟩:=List.mem_map.1 hcs;rfl
 ·obtain ⟨rfl,hi,hk⟩:=hx hc
  have hi':i < cells.length:=by rw [n2,h];exact hi
  have hk':k < (cells[i]).length:=by rw [(n3 _ (List.getElem_mem hi')).1];exact hk
  exact ⟨(cells[i])[k],by simp only [C0,List.getElem?_eq_getElem hi'];exact List.getElem?_eq_getElem hk',trivial⟩
 ·have hb:A3 w (ρ id) 4 (xs.map a8m) p=some b:=hb
  exfalso
  unfold A3 at hb
  grind
end
theorem b0x {sz:Nat} {p:Nat×Nat} (h:FlLe yss yss') (hb:A3 w y sz yss' p=some b):A3 w y sz yss p=some b:=by
 unfold A3 at hb ⊢
 cases hc:Go.Rf.C0 yss' p.1 p.2 with
 | none=>rw [hc] at hb;cases hb
 | some c =>
  rw [hc] at hb
  obtain ⟨d,hd,hle⟩:=h.nget hc
  rw [hd]
  rcases hle with rfl | ⟨e1,sz1,ys,f,rfl,rfl⟩
  ·exact hb
  ·exact hb
theorem NestR.fl {sz:Nat} (h:FlLe yss yss') (hn:NestR B w y e sz yss):NestR B w y e sz yss':=by
 obtain ⟨cells,⟨n1,n2,n3,n4,n5⟩,hi⟩:=hn
 refine ⟨cells,⟨by rw [← h.1];exact n1,by rw [← h.1];exact n2,n3,λcs hcs=>?_,λi k c hc=>?_⟩,λp b hb=>?_⟩
 ·obtain ⟨i,hi,rfl⟩:=List.getElem_of_mem hcs
  obtain ⟨a',ha,hr⟩:=h.2 i _ (List.getElem?_eq_getElem hi)
  rw [← hr.1]
  grind
 ·obtain ⟨d,hd,hle⟩:=h.nget hc
  obtain ⟨u,hu,hr⟩:=n5 i k d hd
  refine ⟨u,hu,?_⟩
  rcases hle with rfl | ⟨e1,sz1,ys,f,rfl,rfl⟩
  ·exact hr
  ·exact ⟨OwnR.gen hr.1,hr.2⟩
 ·obtain ⟨h1,h2⟩:=hi p b (b0x h hb)
  exact ⟨h1,λp' hp'=>h2 p' (b0x h hp')⟩
inductive RCLe:RC→RC→Prop
 | s {r:RC}:RCLe r r
 | n {e sz:Nat} {yss yss':List (List CI)} (h:FlLe yss yss'):RCLe (.ne e sz yss) (.ne e sz yss')
inductive RCsLe:List RC→List RC→Prop
 | nil:RCsLe [] []
 | cons {r r':RC} {a b:List RC} (h:RCLe r r') (hr:RCsLe a b):RCsLe (r :: a) (r' :: b)
theorem RCLe.rel (h:RCLe r r') (hr:RCRel B w r y):RCRel B w r' y:=by
 cases h with
 | s=>exact hr
 | n h=>exact NestR.fl h hr
theorem RCLe.foot (h:RCLe r r') (hr:a35 w r' y b):a35 w r y b:=by
 cases h with
 | s=>exact hr
 | n h =>
  simp only [a35] at hr ⊢
  rcases hr with hr | ⟨p,hp⟩
  ·exact .inl hr
  ·exact .inr ⟨p,b0x h hp⟩
theorem RCsLe.foot:∀{r r':List RC} {ys:List Value},RCsLe r r'→a0K w r' ys b→a0K w r ys b
 | _,_,ys,.nil,hr=>by cases ys<;>simp [a0K] at hr
 | _,_,[],.cons h hr,g=>by simp [a0K] at g
 | _,_,y :: ys,.cons h hr,g=>by
  simp only [a0K] at g ⊢
  rcases g with g | g
  ·exact .inl (h.foot g)
  ·exact .inr (RCsLe.foot hr g)
theorem RCsLe.rel:∀{r r':List RC} {ys:List Value},RCsLe r r'→RCRels B w r ys→RCRels B w r' ys
 | _,_,ys,.nil,h=>h
 | _,_,ys,.cons h hr,g=>by
  simp only [RCRels] at g ⊢
  obtain ⟨y,ys',rfl,h1,h2,h3⟩:=g
  exact ⟨y,ys',Z,h.rel h1,RCsLe.rel hr h2,λb hb hf=>h3 b (h.foot hb) (hr.foot hf)⟩
theorem Ctr.shpTo [Env P] {f:FuncId} {args:List AV} {sg:Bool} {sh:List (Option Nat)} {rs rs':List RC} (h:Ctr P f args (.shp sg sh rs)) (hr:RCsLe rs rs'):Ctr P f args (.shp sg sh rs') :=
 ⟨h.callable,λw vs he hv=>(h.calls w vs he hv).mono λe w' ⟨v,h1,h2,h3⟩=>⟨v,h1,by
  simp only [ResRel] at h2 ⊢
  obtain ⟨ys,vs,g1,g2,g3⟩:=h2
  exact ⟨ys,vs,hr.rel g1,g2,g3⟩,h3⟩⟩
end Go.Rf
namespace Go.Rf
open Go
variable {i:Nat} {m m':Mach} {r:ByteArray} {x:Ifc}
theorem c9H {w:World} {ρ:Nat→Value} {nx:Nat} {a b c d e f:AV} {yss yss':List (List CI)} {rest:List AV} (hf:FlLe yss yss'):∀vs,RelVs w ρ nx (.agg [a,b,c,.nst none 4 yss',d,e,f] :: rest) vs→RelVs w ρ nx (.agg [a,b,c,.nst none 4 yss,d,e,f] :: rest) vs:=by
 intro vs h
 simp only [RelVs,RelV] at h ⊢
 obtain ⟨y,ys',rfl,⟨zs,rfl,y0,t0,rfl,h0,y1,t1,rfl,h1,y2,t2,rfl,h2,y3,t3,rfl,⟨h3,h4⟩,y4,t4,rfl,h5,y5,t5,rfl,h6,y6,t6,rfl,h7,rfl⟩,hr⟩:=h
 exact ⟨_,_,Z,⟨_,Z,_,_,Z,h0,_,_,Z,h1,_,_,Z,h2,_,_,Z,⟨by simp,NReadsAt.fl hf h4⟩,_,_,Z,h5,_,_,Z,h6,_,_,Z,h7,Z⟩,hr⟩
theorem b9w {sl:List Slot} {q:Int} (h0:0<=p7 sl q) (h:(sl.getD (p7 sl q).toNat default).s=3):edS sl q=sl.set (p7 sl q).toNat ⟨1,(sl.getD (p7 sl q).toNat default).q,(sl.getD (p7 sl q).toNat default).p⟩:=by rw [b9p h,(c7A h0).1]
theorem b9x (h:IfG x) (h0:x.st.length≠0):0<=p7 x.qu.sl (S3 x)/\R7 (x.qu.sl.getD (p7 x.qu.sl (S3 x)).toNat default)=true:=⟨a3A (h.f.st _ (a5m h0)),c1x h.f.qu.sl (h.f.st _ (a5m h0))⟩
theorem a8n (h0:x.st.length≠0):x.st.getD ((x.st.length:Int) - 1).toNat default=S3 x:=by
 rw [show ((x.st.length:Int) - 1).toNat=x.st.length - 1 by omega];rfl
theorem c5V {α β:Type} [Inhabited α] {l:List α} {f:α→β} {i:Nat} (h:i < l.length):(l.map f)[i]?=some (f (l.getD i default)):=by simp [h]
theorem b0y {xs:List Int}:List.take (((xs.length:Int) - 1).toNat - Int.toNat 0) (List.drop (Int.toNat 0) (xs.map r7))=(xs.take (xs.length - 1)).map r7:=by
 simp
def a0F (x:Ifc):Ifc×Int×Bool:=if x.st.length=0 then (noI,0,false) else (a6c x,S3 x,true)
theorem b6r (h:x.st.length=0):a0F x=(noI,0,false):=if_pos h
theorem b6s (h:x.st.length≠0):a0F x=(a6c x,S3 x,true):=if_neg h
theorem c9I {m:Mach} {sk sq sv:Int} {c:Nat} (h:sk=3):stM m ⟨sk,sq,(c:Int),sv⟩=(⟨m.rs,m.en,m.ra,m.cp.set c (X7 (m.cp.getD c default)).1⟩,(X7 (m.cp.getD c default)).2.1,(X7 (m.cp.getD c default)).2.2):=by
 cases hk:okT (m.cp.getD c default)
 ·rw [c9D h hk,b57 hk]
 ·rw [sm3 h hk,b56 hk]
theorem c9J {m:Mach} {sk sq sv:Int} {c:Nat} (h:sk=4):stM m ⟨sk,sq,(c:Int),sv⟩=(⟨m.rs,m.en,m.ra,m.cp.set c (a0F (m.cp.getD c default)).1⟩,(a0F (m.cp.getD c default)).2.1,(a0F (m.cp.getD c default)).2.2):=by
 by_cases hk:(m.cp.getD c default).st.length=0
 ·rw [c9E h hk,b6r hk]
 ·rw [sm4 h hk,b6s hk]
theorem Z1 {eS eW:Nat} {xs:List Ifc} {c:Nat} {x:Ifc} {row:List CI} (h:FlR row (a2k eS eW x)):FlLe ((xs.map (a2k eS eW)).set c row) ((xs.set c x).map (a2k eS eW)):=by rw [List.map_set];exact FlLe.refl.set h
theorem c5W {eS eW:Nat} {xs:List Ifc} {c:Nat} {row:List CI} (h:row=r6 eS eW x):(xs.map (r6 eS eW)).set c row=(xs.set c x).map (r6 eS eW):=by rw [List.map_set,h]
theorem b0z (h:IfG x) (h0:x.st.length≠0):0<=S3 x/\S3 x<=7:=by
 obtain ⟨j,h1,h2,h3⟩:=(M7 4).mp ((a0o h.f.qu.sl.len).mp (h.f.st _ (a5m h0)))
 rw [← h3]
 exact (h.f.qu.sl.ok j h1 (by rcases u3.mp h2 with g | g<;>omega)).2.1
theorem b21 (h:IfG x) (hk:okT x=true):0<=tkI x.qu.sl/\tkI x.qu.sl<=7:=b5i h.f.qu.sl (L9.mp hk).1
def wrd (s:ByteArray) (i:Nat):ByteArray:=(i6 s 32).getD i default
def wn (s:ByteArray):Nat:=(i6 s 32).length
def E3 (s:ByteArray):Nat→List Int
 | 0=>[]
 | i+1=>E3 s i++[nmN (wrd s (i+1))]
theorem b12 {s:ByteArray}:E3 s (i+1)=E3 s i++[nmN (wrd s (i+1))]:=rfl
theorem a4t {s:ByteArray}:∀{i:Nat},(E3 s i).length=i
 | 0=>rfl
 | i+1=>by rw [b12,List.length_append,a4t];rfl
theorem a7r {s:ByteArray} {b:Int}:∀i,∀x∈(spO s b i).1,x.size<=s.size
 | 0=>λx hx=>by cases hx
 | i+1=>λx hx=>by
  by_cases hb:s2 s i=b
  ·rw [a0V hb] at hx
   rcases List.mem_append.1 hx with h | h
   ·exact a7r i x h
   (simp_all;omega)
  ·rw [a3O hb] at hx
   exact a7r i x hx
theorem b9y {s:ByteArray} {i:Nat}:(wrd s i).size<=s.size:=by
 unfold wrd
 rw [List.getD_eq_getElem?_getD]
 cases h:(i6 s 32)[i]? with
 | none=>exact Nat.zero_le _
 | some x =>
  rcases List.mem_append.1 (List.mem_of_getElem? h) with h | h
  ·exact a7r _ x h
  simp_all
def G5 (s:ByteArray):Bool:=a18 (wn s - 1) (λj=>nmK (wrd s (j+1)))
def B9 (s:ByteArray):List Int:=E3 s (wn s - 1)
theorem b7u {s:ByteArray}:(B9 s).length=wn s - 1:=a4t
theorem b9z {s:ByteArray} (h:nmK (wrd s (i+1))=false) (hi:i < wn s - 1):G5 s=false:=a1i h hi
theorem b9A {s:ByteArray} (h:∀j,j < i→nmK (wrd s (j+1))=true) (hi:wn s - 1<=i):G5 s=true:=a3i h hi
theorem c5X {s:ByteArray} (h:wn s=1):s=wrd s 0:=by
 grind [wn,wrd,a6W,b3I,u4]
theorem a6f {m:Mach} {s:MStep} (h:(smT m s).2.2=true):(smT m s).2.1≠-1↔(s.k=3∨s.k=4):=by
 unfold smT at h ⊢
 split at h
 ·next hk =>
  rw [if_pos hk]
  simp only [b7t,Bool.and_eq_true] at hk
  obtain ⟨⟨h1,h2⟩,h3⟩:=hk
  have hM:=(maF h1).g
  show (stM m s).2.1≠-1↔_
  unfold stM at h3 ⊢
  by_cases k1:s.k=1
  ·grind
  rw [if_neg k1] at h3 ⊢
  by_cases k2:s.k=2
  ·grind
  rw [if_neg k2] at h3 ⊢
  have hin:(s.k=3∨s.k=4)→s.c.toNat < m.cp.length:=λhk=>by
   grind [V9,n7]
  by_cases k3:s.k=3
  ·rw [if_pos k3] at h3 ⊢
   have hI:=hM.ok _ (hin (.inl k3))
   split at h3
   ·next ho =>
    rw [if_pos ho]
    have:=b21 hI ho
    grind
   ·cases h3
  rw [if_neg k3] at h3 ⊢
  by_cases k4:s.k=4
  ·rw [if_pos k4] at h3 ⊢
   have hI:=hM.ok _ (hin (.inr k4))
   split at h3
   ·cases h3
   ·next ho =>
    rw [if_neg ho]
    have:=b0z hI ho
    grind
  grind
 ·cases h
theorem a4u {m:Mach} {s:MStep}:-1<=(smT m s).2.1/\(smT m s).2.1<=7:=by
 unfold smT
 split
 ·next hk =>
  simp only [b7t,Bool.and_eq_true] at hk
  obtain ⟨⟨h1,h2⟩,h3⟩:=hk
  have hM:=(maF h1).g
  show -1<=(stM m s).2.1/\(stM m s).2.1<=7
  have hin:(s.k=3∨s.k=4)→s.c.toNat < m.cp.length:=λhk=>by
   grind [V9,n7]
  unfold stM at h3 ⊢
  by_cases k1:s.k=1
  ·grind
  rw [if_neg k1] at h3 ⊢
  by_cases k2:s.k=2
  ·grind
  rw [if_neg k2] at h3 ⊢
  by_cases k3:s.k=3
  ·rw [if_pos k3] at h3 ⊢
   have hI:=hM.ok _ (hin (.inl k3))
   split at h3
   ·next ho =>
    rw [if_pos ho]
    have:=b21 hI ho
    grind
   ·cases h3
  rw [if_neg k3] at h3 ⊢
  by_cases k4:s.k=4
  ·rw [if_pos k4] at h3 ⊢
   have hI:=hM.ok _ (hin (.inr k4))
   split at h3
   ·cases h3
   ·next ho =>
    rw [if_neg ho]
    have:=b0z hI ho
    grind
  grind
 simp
def b4i (m:Mach) (s:MStep):Mach×ByteArray×Bool:=if (smT m s).2.2 then ((smT m s).1,if (smT m s).2.1=-1 then okB else s5 (smT m s).2.1,true) else (m,⟨#[]⟩,false)
def a6g (m:Mach) (s:ByteArray):Mach×ByteArray×Bool :=
 if a2j (m9 (wrd s 0))=(wn s:Int) - 1 then
  if G5 s then
   if (a0D (m9 (wrd s 0)) (B9 s)).2 then b4i m (a0D (m9 (wrd s 0)) (B9 s)).1
   else (m,a6e m (m9 (wrd s 0)) (B9 s))
  else (m,⟨#[]⟩,false)
 else (m,⟨#[]⟩,false)
def H5 (m:Mach) (s:ByteArray):Mach×ByteArray:=((a6g m s).1,if (a6g m s).2.2 then (a6g m s).2.1 else qmB)
section
variable {m:Mach} {s:ByteArray}
theorem b9B (h:¬ a2j (m9 (wrd s 0))=(wn s:Int) - 1):a6g m s=(m,⟨#[]⟩,false):=by unfold a6g;rw [if_neg h]
theorem b9C (h:G5 s=false):a6g m s=(m,⟨#[]⟩,false):=by unfold a6g;split<;>simp [h]
theorem b9D (h1:a2j (m9 (wrd s 0))=(wn s:Int) - 1) (h2:G5 s=true) (h3:(a0D (m9 (wrd s 0)) (B9 s)).2=false):a6g m s=(m,a6e m (m9 (wrd s 0)) (B9 s)):=by unfold a6g;rw [if_pos h1,if_pos h2,if_neg (by simp [h3])]
theorem b9E (h1:a2j (m9 (wrd s 0))=(wn s:Int) - 1) (h2:G5 s=true) (h3:(a0D (m9 (wrd s 0)) (B9 s)).2=true):a6g m s=b4i m (a0D (m9 (wrd s 0)) (B9 s)).1:=by unfold a6g;rw [if_pos h1,if_pos h2,if_pos h3]
end
theorem a6h {s:ByteArray} {x:ByteArray} (h:a6g m s=(m',x,false)):H5 m s=(m',qmB):=by unfold H5;rw [h];rfl
theorem b22 {s:ByteArray} {x:ByteArray} (h:a6g m s=(m',x,true)):H5 m s=(m',x):=by unfold H5;rw [h];rfl
abbrev c7U:ByteArray:=⟨#[98,97,100]⟩
abbrev c2G:ByteArray:=⟨#[102,117,108,108]⟩
abbrev c2H:ByteArray:=⟨#[108,111,110,103]⟩
def b4j (r:ByteArray):ByteArray:=if r.size > 200 then c2H else r
theorem c1F {α β:Type} [Inhabited α] {l:List α} {f:α→β} {i:Nat} (h:i+1 < l.length):(l.map f)[1+((i:Int)).toNat]?=some (f (l.getD (i+1) default)):=by rw [show 1+((i:Int)).toNat=i+1 by omega];simp [h]
theorem b7v {α β:Type} [Inhabited α] {l:List α} {f:α→β} {i:Nat} (h:i+1 < l.length):(l.map f)[((i:Int)+1).toNat]?=some (f (l.getD (i+1) default)):=by rw [show ((i:Int)+1).toNat=i+1 by omega];simp [h]
theorem N7 {c:ByteArray} (h:r.size<=200):(⟨c,r⟩:Rec).r.size<=9223372036854775807:=Nat.le_trans h (by decide)
theorem P7 {a:Array UInt8} (h:a.size<=200):(⟨a⟩:ByteArray).size<=9223372036854775807:=by show a.size<=_;omega
theorem b23 (h:(r.size:Int) > 200):b4j r=c2H:=by unfold b4j;rw [if_pos J]
theorem a2l (h:¬ (r.size:Int) > 200):b4j r=r:=by unfold b4j;rw [if_neg J]
def exC (m:Mach) (x:Lg) (s:ByteArray):Mach×Lg×ByteArray :=
 if okCo m x=false then (m,x,noB)
 else if I7 ⟨s,⟨#[]⟩⟩=false then (m,x,c7U)
 else if x.n=60 then (m,x,c2G)
 else ((H5 m s).1,apE x ⟨s,b4j (H5 m s).2⟩,b4j (H5 m s).2)
section
variable {m:Mach} {x:Lg} {s:ByteArray}
theorem c2I (h:okCo m x=false):exC m x s=(m,x,noB):=by unfold exC;rw [if_pos h]
theorem c2J (h:okCo m x=true) (h2:I7 ⟨s,⟨#[]⟩⟩=false):exC m x s=(m,x,c7U):=by unfold exC;rw [if_neg (by simp [h]),if_pos h2]
theorem c2K (h:okCo m x=true) (h2:I7 ⟨s,⟨#[]⟩⟩=true) (h3:x.n=60):exC m x s=(m,x,c2G):=by unfold exC;rw [if_neg (by simp [h]),if_neg (by simp [h2]),if_pos h3]
theorem P8 (h:okCo m x=true) (h2:I7 ⟨s,⟨#[]⟩⟩=true) (h3:¬ x.n=60) {m':Mach} {r:ByteArray} (h4:H5 m s=(m',r)):exC m x s=(m',apE x ⟨s,b4j r⟩,b4j r):=by unfold exC;rw [if_neg (by simp [h]),if_neg (by simp [h2]),if_neg h3,h4]
end
def a4v (m:Mach) (k:Nat) (c:Int):ByteArray:=if (Z0 m k c).2 then (Z0 m k c).1 else qmB
def P9 (m:Mach) (s:MStep):Mach×ByteArray:=if (smT m s).2.2 then ((smT m s).1,if (smT m s).2.1=-1 then okB else s5 (smT m s).2.1) else (m,qmB)
section
variable {m:Mach} {k:Nat} {c:Int} {s:ByteArray}
theorem c5Y (h:n7 c 0 ((m.cp.length:Int) - 1)=false):a4v m k c=qmB:=by unfold a4v;rw [b6n h];rfl
theorem c5Z (h:n7 c 0 ((m.cp.length:Int) - 1)=true) (hk:k=8):a4v m k c=a3D (C7 (m.cp.getD c.toNat default).qu):=by unfold a4v;rw [b6o h hk];rfl
theorem c50 (h:n7 c 0 ((m.cp.length:Int) - 1)=true) (hk:k=9):a4v m k c=a3D (m.cp.getD c.toNat default).st:=by unfold a4v;rw [b6p h hk];rfl
theorem c1G (h:n7 c 0 ((m.cp.length:Int) - 1)=true) (hk:k=11):a4v m k c=a1U (m.cp.getD c.toNat default).qu.sl:=by unfold a4v;rw [b4h h hk];rfl
theorem b9F (h:n7 c 0 ((m.cp.length:Int) - 1)=true) (hk:k=10) (hn:B8 m.rs (R8 m) c.toNat < 0):a4v m k c=b4b:=by
 have:=@b0f m.rs (R8 m) c.toNat
 unfold a4v;rw [b10 h hk J];rfl
theorem b9G (h:n7 c 0 ((m.cp.length:Int) - 1)=true) (hk:k=10) (hn:¬ B8 m.rs (R8 m) c.toNat < 0):a4v m k c=s5 (B8 m.rs (R8 m) c.toNat):=by unfold a4v;rw [b11 h hk J];rfl
theorem b9H (h1:k≠8) (h2:k≠9) (h3:k≠11) (h4:k≠10):a4v m k c=qmB:=by unfold a4v;rw [c1A h1 h2 h3 h4];rfl
theorem c52 (h:G5 s=false):H5 m s=(m,qmB):=a6h (b9C h)
theorem b24 (h:¬ a2j (m9 (wrd s 0))=(wn s:Int) - 1):H5 m s=(m,qmB):=a6h (b9B h)
theorem a3G (h1:a2j (m9 (wrd s 0))=(wn s:Int) - 1) (h2:G5 s=true) (h3:(a0D (m9 (wrd s 0)) (B9 s)).2=true):H5 m s=P9 m (a0D (m9 (wrd s 0)) (B9 s)).1:=by
 grind [b9E,b4i,P9,b22,a6h]
theorem b25 (h1:a2j (m9 (wrd s 0))=(wn s:Int) - 1) (h2:G5 s=true) (h3:(a0D (m9 (wrd s 0)) (B9 s)).2=false):H5 m s=(m,if (a6e m (m9 (wrd s 0)) (B9 s)).2 then (a6e m (m9 (wrd s 0)) (B9 s)).1 else qmB):=by
 unfold H5
 rw [b9D h1 h2 h3]
theorem c7V (h:wn s=1) (h2:G5 s=true) (hk:m9 (wrd s 0)=0):H5 m s=P9 m ⟨2,0,0,0⟩:=by
 rw [a3G (by rw [a4s J];omega) h2 (by rw [hk];rfl),hk];rfl
theorem c7W (h:wn s=1) (h2:G5 s=true) (hk:m9 (wrd s 0)=1):H5 m s=(m,a3D (raN m)):=by
 rw [b25 (by rw [a4s J];omega) h2 (by rw [hk];rfl),b9s hk];rfl
theorem c54 (h:wn s=1) (h2:G5 s=true) (hk:m9 (wrd s 0)=2) (hi:a8l m=true):H5 m s=(m,c5R):=by
 rw [b25 (by rw [a4s J];omega) h2 (by rw [hk];rfl),b6l hk hi];rfl
theorem c55 (h:wn s=1) (h2:G5 s=true) (hk:m9 (wrd s 0)=2) (hi:a8l m=false):H5 m s=(m,noB):=by
 rw [b25 (by rw [a4s J];omega) h2 (by rw [hk];rfl),b6m hk hi];rfl
theorem c7X (h:wn s=1) (h0:¬ m9 (wrd s 0)=0) (h1:¬ m9 (wrd s 0)=1) (h3:¬ m9 (wrd s 0)=2):H5 m s=(m,qmB):=by
 have hl:=@b2Z (wrd s 0)
 refine b24 ?_
 by_cases g:m9 (wrd s 0)<=11
 ·rw [a0N J];omega
 ·grind [a8k,a6d]
theorem c7Y (h:wn s=2) (h2:G5 s=true) (hk:m9 (wrd s 0)=3):H5 m s=P9 m ⟨1,(B9 s).getD 0 default,0,0⟩:=by
 rw [a3G (by rw [a0N J];omega) h2 (by rw [hk];rfl),hk];rfl
theorem c7Z (h:wn s=2) (h2:G5 s=true) (hk:m9 (wrd s 0)=4):H5 m s=P9 m ⟨6,(B9 s).getD 0 default,0,1⟩:=by
 rw [a3G (by rw [a0N J];omega) h2 (by rw [hk];rfl),hk];rfl
theorem c70 (h:wn s=2) (h2:G5 s=true) (hk:m9 (wrd s 0)=5):H5 m s=P9 m ⟨6,(B9 s).getD 0 default,0,0⟩:=by
 rw [a3G (by rw [a0N J];omega) h2 (by rw [hk];rfl),hk];rfl
theorem c71 (h:wn s=2) (h2:G5 s=true) (hk:m9 (wrd s 0)=6):H5 m s=P9 m ⟨3,0,(B9 s).getD 0 default,0⟩:=by
 rw [a3G (by rw [a0N J];omega) h2 (by rw [hk];rfl),hk];rfl
theorem c72 (h:wn s=2) (h2:G5 s=true) (hk:m9 (wrd s 0)=7):H5 m s=P9 m ⟨4,0,(B9 s).getD 0 default,0⟩:=by
 rw [a3G (by rw [a0N J];omega) h2 (by rw [hk];rfl),hk];rfl
theorem c73 (h:wn s=2) (h2:G5 s=true) (h3:¬ m9 (wrd s 0)=3) (h4:¬ m9 (wrd s 0)=4) (h5:¬ m9 (wrd s 0)=5) (h6:¬ m9 (wrd s 0)=6) (h7:¬ m9 (wrd s 0)=7):H5 m s=(m,a4v m (m9 (wrd s 0)) ((B9 s).getD 0 default)):=by
 have hl:=@b2Z (wrd s 0)
 by_cases g:8<=m9 (wrd s 0)/\m9 (wrd s 0)<=11
 ·rw [b25 (by rw [a0N J];omega) h2 (by unfold a0D;rw [if_neg J,if_neg J,if_neg J,if_neg J,if_neg J,if_neg J,if_neg J]),b9t J J]
  rfl
 ·rw [b9H J J J J]
  refine b24 ?_
  by_cases g1:m9 (wrd s 0)<=2
  ·rw [a4s g1];omega
  ·by_cases g2:m9 (wrd s 0)=12
   ·rw [a8k g2];omega
   ·rw [a6d J];omega
theorem c56 (h:wn s=3) (h2:G5 s=true) (hk:m9 (wrd s 0)=12):H5 m s=P9 m ⟨5,0,(B9 s).getD 0 default,(B9 s).getD 1 default⟩:=by
 rw [a3G (by rw [a8k hk];omega) h2 (by rw [hk];rfl),hk];rfl
theorem c74 (h:wn s=3) (hk:¬ m9 (wrd s 0)=12):H5 m s=(m,qmB):=by
 refine b24 ?_
 have hl:=@b2Z (wrd s 0)
 by_cases g1:m9 (wrd s 0)<=2
 ·rw [a4s g1];omega
 ·grind [a0N,a6d]
theorem ct3 (h:4<=wn s):H5 m s=(m,qmB):=by
 grind [b24,a4s,a0N,a8k,a6d]
theorem W3 {t:MStep} (h:(smT m t).2.2=true):SmallM (smT m t).1:=by
 unfold smT at h ⊢
 split at h
 ·next hk =>
  rw [if_pos hk]
  simp only [b7t,Bool.and_eq_true] at hk
  obtain ⟨⟨h1,h2⟩,h3⟩:=hk
  exact (c2D (maF h1).g h2 h3).1.small
 ·cases h
end
end Go.Rf
namespace Go.Rf
open Go Go.RowKit
def lrT (x:Lg):List Rec:=if okLg x then pre (a6S (x.d++x.p)) (z8 (x.d++x.p)) else []
theorem c9K {x:Lg} (h:okLg x=true):lrT x=pre (a6S (x.d++x.p)) (z8 (x.d++x.p))/\okLg x=true:=by rw [lrT,h];exact ⟨Z,Z⟩
end Go.Rf
namespace Go.Rf
open Go
variable {c:Int} {e:Nat} {m:Mach} {rs:List Route} {x:Lg}
theorem c77 {r:Rec} (hx:x.d.size+x.p.size<=1048576):(apE x r).d.size+(apE x r).p.size<=1048576:=by
 grind [apE,okLg,apG,a3F,a5j]
theorem b7w {s:ByteArray} (h:SmallM m):SmallM (H5 m s).1:=by
 show SmallM (a6g m s).1
 unfold a6g
 split
 ·grind [b4i,W3]
 ·exact h
theorem a8o {s:ByteArray} (h:SmallM m) (hx:x.d.size+x.p.size<=1048576):SmallM (exC m x s).1/\(exC m x s).2.1.d.size+(exC m x s).2.1.p.size<=1048576:=by
 unfold exC
 split
 ·exact ⟨h,hx⟩
 ·split
  ·exact ⟨h,hx⟩
  ·split
   ·exact ⟨h,hx⟩
   ·exact ⟨b7w h,c77 hx⟩
def a0j (m:Mach) (x:Lg) (cs:Nat→ByteArray):Nat→Mach×Lg
 | 0=>(m,x)
 | i+1=>((exC (a0j m x cs i).1 (a0j m x cs i).2 (cs i)).1,(exC (a0j m x cs i).1 (a0j m x cs i).2 (cs i)).2.1)
def c1H (m:Mach) (x:Lg) (cs:Nat→ByteArray) (i:Nat):ByteArray:=(exC (a0j m x cs i).1 (a0j m x cs i).2 (cs i)).2.2
theorem a9I {m:Mach} {x:Lg} {cs:Nat→ByteArray} (h:SmallM m) (hx:x.d.size+x.p.size<=1048576):∀i,SmallM (a0j m x cs i).1/\(a0j m x cs i).2.d.size+(a0j m x cs i).2.p.size<=1048576
 | 0=>⟨h,hx⟩
 | i+1=>a8o (a9I h hx i).1 (a9I h hx i).2
def lg0:Lg:=⟨⟨#[]⟩,⟨#[]⟩,0⟩
section
variable {rs:List Route} {c:Int} {l:Lg} {i:Nat}
end
theorem ArgsOK.sub1 {T:List (Nat×AV)} {m:List (Nat×Option Row)} {nx:Nat} {x:Operand} {id sz i n:Nat} {ys us:List (List Value)} (hx:ev T x=some (.sub id sz i n)) (hm:mem m id=some (.row e sz ys)) (hle:i+n<=ys.length) (he:(ys.drop i).take n=us):ArgsOK T m nx [x] [.lst sz us]:=by
 subst he
 exact ⟨_,_,_,Z,hx,ArgOK.sub hm hle,Z⟩
def ptG (sl:List Slot) (irq p:Int):List Slot×Bool:=if 0<=p7 sl irq then (ptS sl irq,true) else if 0<=freS sl then (sl.set (freS sl).toNat ⟨1,irq,p⟩,true) else ([],false)
def edQ (sl:List Slot) (irq:Int):List Slot:=if (sl.getD (p7 sl irq).toNat default).s=2 then sl.set (p7 sl irq).toNat zSl else sl.set (p7 sl irq).toNat ⟨1,(sl.getD (p7 sl irq).toNat default).q,(sl.getD (p7 sl irq).toNat default).p⟩
def edG (sl:List Slot) (irq:Int):List Slot×Bool:=if 0<=p7 sl irq/\¬ (sl.getD (p7 sl irq).toNat default).s=1 then (edQ sl irq,true) else ([],false)
def tkA (sl:List Slot) (lim:Int):List Slot×Int:=if a0d sl lim then (tkS sl,tkI sl) else (sl,-1)
section
variable {sl:List Slot} {irq p lim:Int}
theorem c78 (h:0<=p7 sl irq):ptG sl irq p=(ptS sl irq,true):=by unfold ptG;rw [if_pos h]
theorem c79 (h:p7 sl irq < 0) (h2:0<=freS sl):ptG sl irq p=(sl.set (freS sl).toNat ⟨1,irq,p⟩,true):=by unfold ptG;rw [if_neg J,if_pos h2]
theorem c8a (h:p7 sl irq < 0) (h2:freS sl < 0):ptG sl irq p=([],false):=by unfold ptG;rw [if_neg J,if_neg J]
theorem a7s (h:(ptG sl irq p).2=true):(ptG sl irq p).1.length=sl.length:=by
 grind [ptG,ptS]
theorem b9I (h:p7 sl irq < 0∨(sl.getD (p7 sl irq).toNat default).s=1):edG sl irq=([],false):=by
 grind [edG]
theorem c8b (h:0<=p7 sl irq) (h2:(sl.getD (p7 sl irq).toNat default).s=2):edG sl irq=(sl.set (p7 sl irq).toNat zSl,true):=by
 unfold edG edQ
 grind
theorem c8c (h:0<=p7 sl irq) (h1:¬ (sl.getD (p7 sl irq).toNat default).s=1) (h2:¬ (sl.getD (p7 sl irq).toNat default).s=2):edG sl irq=(sl.set (p7 sl irq).toNat ⟨1,(sl.getD (p7 sl irq).toNat default).q,(sl.getD (p7 sl irq).toNat default).p⟩,true):=by
 unfold edG edQ
 grind
theorem a7t (h:(edG sl irq).2=true):(edG sl irq).1.length=sl.length:=by
 grind [edG,edQ]
theorem c2L (h:a0d sl lim=true):tkA sl lim=(tkS sl,tkI sl):=by unfold tkA;rw [h];rfl
theorem b9J (h:a0d sl lim=false):tkA sl lim=(sl,-1):=by unfold tkA;rw [h];rfl
theorem a7u:(tkA sl lim).1.length=sl.length:=by
 cases h:a0d sl lim
 ·rw [b9J h]
 ·rw [c2L h];exact List.length_set
end
def tkQ (q:Que) (lim:Int):Que×Int:=if a0d q.sl lim then (a4p q,tkI q.sl) else (q,-1)
def enG (q:Que) (irq:Int):Que×Bool:=if 0<=p7 q.sl irq/\R7 (q.sl.getD (p7 q.sl irq).toNat default)=true then (a6a q irq,true) else (⟨[],[]⟩,false)
section
variable {q:Que} {irq p lim:Int}
theorem c2M (h:a0d q.sl lim=true):tkQ q lim=(a4p q,tkI q.sl):=by unfold tkQ;rw [h];rfl
theorem c2N (h:a0d q.sl lim=false):tkQ q lim=(q,-1):=by unfold tkQ;rw [h];rfl
theorem b13 (h:QF q):QF (tkQ q lim).1:=by
 grind [c2N,c2M,b5d,L9]
theorem c2O (h:0<=p7 q.sl irq) (h2:R7 (q.sl.getD (p7 q.sl irq).toNat default)=true):enG q irq=(a6a q irq,true):=by unfold enG;rw [if_pos ⟨h,h2⟩]
theorem c2P (h:¬ (0<=p7 q.sl irq/\R7 (q.sl.getD (p7 q.sl irq).toNat default)=true)):enG q irq=(⟨[],[]⟩,false):=by unfold enG;rw [if_neg h]
theorem b14 (h:QF q) (hk:(enG q irq).2=true):QF (enG q irq).1:=by
 grind [c2O,b8C,c2P]
theorem c57 (h:QF q) (hn:¬ (0<=p7 q.sl irq/\R7 (q.sl.getD (p7 q.sl irq).toNat default)=true)):edG q.sl irq=([],false):=by
 refine b9I ?_
 rcases Int.lt_or_le (p7 q.sl irq) 0 with g | g
 ·exact .inl g
 ·obtain ⟨k,e1,e2,e3,e4⟩:=a4o g
  have hb:=(h.sl.ok k (by rw [← h.sl.len];exact e2) e3).1
  refine .inr ?_
  rw [e1,Int.toNat_natCast] at hn ⊢
  have:¬ ((q.sl.getD k default).s=2∨(q.sl.getD k default).s=3):=λe=>hn ⟨by omega,u3.mpr e⟩
  omega
theorem b9K (h:QF q) (hn:¬ (0<=p7 q.sl irq/\R7 (q.sl.getD (p7 q.sl irq).toNat default)=true)):Res.many [.fr e 3 ((edG q.sl irq).1.map j5),.v (.bool (edG q.sl irq).2)]=.many [.fr e 3 (([]:List Slot).map j5),.v (.bool false)]:=by rw [c57 h hn]
def q0:Que:=⟨[zSl,zSl,zSl,zSl],[]⟩
theorem c8d:QF q0:=by
 have hz:∀i,i < 4→([zSl,zSl,zSl,zSl]:List Slot).getD i default=zSl:=λi hi=>by
  grind
 refine ⟨⟨Z,λi hi _=>hz i hi,λi hi h0=>absurd ?_ h0,λi j hij hj h0=>absurd ?_ h0⟩,Nat.zero_le _,λw hw=>(by cases hw),List.Pairwise.nil⟩
 ·show (([zSl,zSl,zSl,zSl]:List Slot).getD i default).s=0;rw [hz i hi];rfl
 ·show (([zSl,zSl,zSl,zSl]:List Slot).getD i default).s=0;rw [hz i J];rfl
end
def tkX (x:Ifc):Ifc×Int:=if okT x then (a3z x,tkI x.qu.sl) else (x,-1)
def lvX (x:Ifc):Ifc×Int:=if x.st.length=0 then (x,-1) else (a6c x,S3 x)
section
variable {x:Ifc}
theorem c2Q (h:okT x=true):tkX x=(a3z x,tkI x.qu.sl):=by unfold tkX;rw [h];rfl
theorem c2R (h:okT x=false):tkX x=(x,-1):=by unfold tkX;rw [h];rfl
theorem b6t (h:IfG x):IfG (tkX x).1:=by
 cases hk:okT x
 ·rw [c2R hk];exact h
 ·rw [c2Q hk];exact c1w h hk
theorem c2S (h:¬ x.st.length=0):lvX x=(a6c x,S3 x):=by unfold lvX;rw [if_neg h]
theorem c2T (h:x.st.length=0):lvX x=(x,-1):=by unfold lvX;rw [if_pos h]
theorem b6u (h:IfG x):IfG (lvX x).1:=by
 grind [c2T,c2S,c7P]
theorem b9L:IfG b7j:=⟨⟨c8d,Nat.zero_le _,λq hq=>(by cases hq)⟩,List.nodup_nil⟩
end
def DrQ (q:Que):Prop:=q.sl.length<=5/\q.wa.length<=10
def DrI (x:Ifc):Prop:=x.st.length<=5/\x.qu.sl.length<=5/\x.qu.wa.length<=10
structure DrM (m:Mach):Prop where
 rs:m.rs.length=8
 en:m.en.length=8
 ra:m.ra.length<=9
 n:1<=m.cp.length/\m.cp.length<=3
 cp:∀x∈m.cp,DrI x
theorem QF.dr {q:Que} (h:QF q):DrQ q:=⟨by rw [h.sl.len];decide,by have:=h.wn8;omega⟩
theorem IfG.dr {x:Ifc} (h:IfG x):DrI x:=⟨by have:=h.f.sn;omega,h.f.qu.dr.1,h.f.qu.dr.2⟩
theorem DrI.sz {x:Ifc} (h:DrI x):szI x<=20:=by
 obtain ⟨h1,h2,h3⟩:=h
 unfold szI
 omega
theorem DrM.small (h:DrM m):SmallM m:=by
 have h1:=h.n
 refine ⟨by rw [h.rs];decide,by rw [h.en];decide,by have:=h.ra;omega,by omega,?_⟩
 have key:∀i,i<=m.cp.length→sumI m.cp i<=20 * i:=by
  intro i
  induction i with
  | zero=>intro _;exact Int.le_refl _
  | succ i ih =>
   intro hi
   rw [a2R]
   have:=ih J
   have:=(h.cp (m.cp.getD i default) (j6.mpr ⟨i,by omega,Z⟩)).sz
   push_cast
   omega
 grind
theorem MaG.dr (h:MaG m):DrM m:=⟨h.rn,h.en,by rw [h.ra];decide,by have:=h.n;omega,λx hx=>by
 obtain ⟨k,hk,rfl⟩:=j6.mp hx
 exact (h.ok k hk).dr⟩
theorem DrM.setR (h:DrM m) {k:Nat} {r:Route}:DrM ⟨m.rs.set k r,m.en,m.ra,m.cp⟩:=⟨by show (m.rs.set k r).length=8;rw [List.length_set];exact h.rs,h.en,h.ra,h.n,h.cp⟩
theorem DrM.addA (h:DrM m) (h8:m.ra.length=8) {b:Bool}:DrM ⟨m.rs,m.en,m.ra++[b],m.cp⟩:=⟨h.rs,h.en,by show (m.ra++[b]).length<=9;rw [List.length_append,List.length_cons,List.length_nil,h8];decide,h.n,h.cp⟩
theorem DrM.setC (h:DrM m) {k:Nat} {x:Ifc} (hx:DrI x):DrM ⟨m.rs,m.en,m.ra,m.cp.set k x⟩:=⟨h.rs,h.en,h.ra,by show 1<=(m.cp.set k x).length/\(m.cp.set k x).length<=3;rw [List.length_set];exact h.n,λy hy=>by
 rcases List.mem_or_eq_of_mem_set hy with g | g
 ·exact h.cp y g
 ·rw [g];exact hx⟩
theorem DrM.addC (h:DrM m) (hn:m.cp.length<=2) {x:Ifc} (hx:DrI x):DrM ⟨m.rs,m.en,m.ra,m.cp++[x]⟩:=⟨h.rs,h.en,h.ra,by show 1<=(m.cp++[x]).length/\(m.cp++[x]).length<=3;rw [List.length_append,List.length_cons,List.length_nil];omega,λy hy=>by
 rcases List.mem_append.mp hy with g | g
 ·exact h.cp y g
 ·rw [List.mem_singleton.mp g];exact hx⟩
def b6v (cpus:Int) (rs:List Route):Prop:=∀r∈rs,(0<=r.p/\r.p<=15)/\0<=r.t/\r.t<=cpus - 1
theorem b9M {r:Route} (h:b6v c rs) (hr:(0<=r.p/\r.p<=15)/\0<=r.t/\r.t<=c - 1):b6v c (rs++[r]):=λx hx=>by
 rcases List.mem_append.mp hx with g | g
 ·exact h x g
 grind
theorem c58 (h:b6v c rs) (hl:rs.length=8) (hc:1<=c/\c<=2):okRts rs c=true:=H1.mpr ⟨hc,hl,λi hi=>h _ (j6.mpr ⟨i,by omega,Z⟩)⟩
theorem c59 {c:Nat} (h:okRts rs c=true):MaG (b3Z rs c):=by
 have hr:=H1.mp h
 have hl:(b3Z rs c).cp.length=c:=by show (List.replicate c b7j).length=c;rw [List.length_replicate]
 refine ⟨by rw [hl];exact h,by rw [hl];omega,hr.2.1,by show (List.replicate 8 false).length=8;rw [List.length_replicate],by show (List.replicate 8 false).length=8;rw [List.length_replicate],λk hk=>?_⟩
 rw [hl] at hk
 show IfG ((List.replicate c b7j).getD k default)
 rw [b8H hk]
 exact b9L
theorem MaG.lines (h:MaG m) {en ra:List Bool} (h1:en.length=8) (h2:ra.length=8):MaG ⟨m.rs,en,ra,m.cp⟩:=⟨h.rt,h.n,h.rn,h1,h2,h.ok⟩
theorem a0G {l:List ByteArray} {z:ByteArray} {n:Nat} (h:z∈l) (hl:∀z∈l,z.size<=n):z.size<=n:=hl z h
structure DrC (x:Mach×Lg):Prop where
 m:SmallM x.1
 l:x.2.d.size+x.2.p.size<=1048576
theorem DrC.next {x:Mach×Lg} (h:DrC x) {s:ByteArray}:DrC ((exC x.1 x.2 s).1,(exC x.1 x.2 s).2.1):=⟨(a8o h.m h.l).1,(a8o h.m h.l).2⟩
theorem DrC.cp {x:Mach×Lg} (h:DrC x):x.1.cp.length<=1048576:=h.m.cp
def c6a (s:ByteArray):List ByteArray:=if 4000 < s.size then [] else i6 s 10
theorem c6b {s:ByteArray} (h:4000 < s.size):c6a s=[]:=if_pos h
theorem b9N {s:ByteArray} (h:¬ 4000 < s.size):c6a s=i6 s 10:=if_neg h
theorem b7x {x:Lg} {r:Rec} {b:Nat} (hb:31000<=b) (hx:x.d.size+x.p.size<=b):(apE x r).d.size+(apE x r).p.size<=b:=by
 grind [apE,okLg,apG,a3F,a5j]
theorem c8e {b:Nat} (hx:x.d.size+x.p.size<=b):(syE x).d.size+(syE x).p.size<=b:=by
 unfold syE
 split
 ·show (x.d++x.p).size+0<=b
  rw [ByteArray.size_append];omega
 ·exact Nat.zero_le _
theorem c8f {t:ByteArray} (h:¬ t.toList=(⟨#[]⟩:ByteArray).toList):1<=t.size:=by
 rcases Nat.eq_zero_or_pos t.size with h1 | h1
 ·exfalso
  apply h
  have:t=⟨#[]⟩:=ByteArray.ext (by
   have h2:t.data.size=0:=h1
   exact Array.eq_empty_of_size_eq_zero h2)
  rw [this]
 ·exact h1
end Go.Rf
namespace Go.Rf
open Go Go.RowKit
section
variable {P:Program} {w0:Base} {ops:Array Oper} {o:Oper} {rest:List Oper} {T:List (Nat×AV)} {m:List (Nat×Option Row)} {nx nt:Nat} {Q:Exit→St→Prop}
theorem a3H (t:Nat) {cs:List AV} (ht:look t T=some (.agg cs)) {rs:(Nat→Value)→List AV} (hr:∀u,a6Z cs u 0 []=some (rs u)) (h:∀u,WX P w0 ops o rest ⟨(t,.agg (rs u)) :: T,m,nx,nt⟩ Q):WX P w0 ops o rest ⟨T,m,nx,nt⟩ Q:=by
 intro ρ a w hT hC
 have h1:=hT.tmps t _ ht
 simp only [RelV] at h1
 obtain ⟨us,he,h1⟩:=h1
 let u:Nat→Value:=λi=>us.getD i undef
 refine h u ρ a w ⟨λi x hi=>?_,hT.size,hT.defers⟩ hC
 by_cases e:i=t
 ·subst e
  rw [r3] at hi
  cases hi
  simp only [RelV]
  exact ⟨us,he,by simpa using a78 (acc':=[]) (hr u) h1 (λj y hj=>by simp only [u,Nat.zero_add,List.getD_eq_getElem?_getD,hj,Option.getD_some]) (by simp [RelVs])⟩
 ·rw [l6 (λe'=>e e'.symm)] at hi
  exact hT.tmps i x hi
end
section
variable {P:Program} {ops:Array Oper} {Q:Exit→Act→World→Prop} {md:Region.Mode} {S:World→Prop} {ks:List Nat}
def b4k (ks:List Nat) (listed:Array Bool):Bool:=ks.any λk=>listed.getD k true
def a8p (P:Program) (md:Region.Mode) (ops:Array Oper) (Q:Exit→Act→World→Prop) (S:World→Prop) (ks:List Nat):Nat→Array Bool→Act→World→Prop
 | 0,listed,a,w=>Region.ready md ops listed=[]/\Q .normal a w
 | fuel+1,listed,a,w=>(Region.ready md ops listed=[]→Q .normal a w) /\
  ∀i∈Region.ready md ops listed,wpOp P ops Q i (λa' w'=>(b4k ks (listed.setIfInBounds i true)=false→S w')/\a8p P md ops Q S ks fuel (listed.setIfInBounds i true) a' w') a w
theorem b0A:∀(fuel:Nat) (listed:Array Bool) (a:Act) (w:World),a8p P md ops Q S ks fuel listed a w→wpAny P md ops Q fuel listed a w
 | 0,_,_,_,h=>h
 | fuel+1,_,_,_,h=>⟨h.1,λi hi=>wpOp_mono (λa' w' h'=>b0A fuel _ a' w' h'.2) (h.2 i hi)⟩
def b6w (md:Region.Mode) (ops:Array Oper) (i:Nat) (D:List Nat):Bool :=
 D.all λd=>!(d==i) && match ops[d]? with
  | some o=>o.after.any λe=>Region.binds md e && (e.on==i || D.contains e.on)
  | none=>false
theorem b9O {i j:Nat} {D:List Nat} {listed:Array Bool} (hi:listed.getD i true=false) (hu:∀d∈D,listed.getD d true=false) (hD:b6w md ops i D=true) (hj:j∈D):j∉Region.ready md ops listed:=λhr=>by
 obtain ⟨_,o,ho,hall⟩:=mem_ready.1 hr
 have h:=List.all_eq_true.1 hD j hj
 grind
theorem c1I {i:Nat} {D:List Nat} (hD:b6w md ops i D=true) {d:Nat} (hd:d∈D):i≠d:=λe=>by
 have h:=List.all_eq_true.1 hD d hd
 grind
theorem b26 {i:Nat} {oi:Oper} {v:Value} {D:List Nat} (hi:ops[i]?=some oi) (hsel:∀(j:Nat) (o:Oper) cs b,ops[j]?=some o→o.op≠.select cs b)
 (hQ:∀c a w,Q (.panic c) (a.put oi.dst v) w→Q (.panic c) a w) (hD:b6w md ops i D=true) (hk:∀k∈ks,k∈D) :
 ∀(fuel:Nat) (listed:Array Bool) (a:Act) (w:World),
  (∀j oj,ops[j]?=some oj→j≠i→listed.getD j true=false→(∀e∈oj.after,Region.binds md e=true→e.on≠i)→oi.apart ops oj=true)→(∀d∈D,listed.getD d true=false) →
  i∈Region.ready md ops listed→YieldsIf P ops S oi v a→S w →
  a8p P md ops Q S ks fuel (listed.setIfInBounds i true) (a.put oi.dst v) w→a8p P md ops Q S ks (fuel+1) listed a w:=by
 intro fuel
 induction fuel with
 | zero =>
  intro listed a w _ _ hr hy hS H
  refine ⟨λh=>(by rw [h] at hr;cases hr),λj hj=>?_⟩
  by_cases hji:j=i
  ·subst hji;exact hy.wpOp hi hS ⟨λ_=>hS,H⟩
  ·have:=ready_mono hj hji
   rw [H.1] at this
   cases this
 | succ fuel ih =>
  intro listed a w hfree hu hr hy hS H
  refine ⟨λh=>(by rw [h] at hr;cases hr),λj hj=>?_⟩
  by_cases hji:j=i
  ·subst hji;exact hy.wpOp hi hS ⟨λ_=>hS,H⟩
  ·have h1:=H.2 j (ready_mono hj hji)
   obtain ⟨hjun,oj,hoj,hall⟩:=mem_ready.1 hj
   have hiun:=(mem_ready.1 hr).1
   have hnot:∀e∈oj.after,Region.binds md e=true→e.on≠i:=λe he hb heq=>by
    grind
   have hjD:∀d∈D,j≠d:=λd hd e=>b9O hiun hu hD (e▸hd) hj
   have h2:=wpOp_putIf hoj (hfree j oj hoj hji hjun hnot) (λcs b=>hsel i oi cs b hi) (λcs b=>hsel j oj cs b hoj) hQ hy h1
   have hfree':∀k ok,ops[k]?=some ok→k≠i→(listed.setIfInBounds j true).getD k true=false →
    (∀e∈ok.after,Region.binds md e=true→e.on≠i)→oi.apart ops ok=true:=λk ok hk hki hun hno=>by
    refine hfree k ok hk hki ?_ hno
    by_cases hjk:j=k
    ·subst hjk;exact hjun
    ·rw [getD_set_ne true hjk] at hun;exact hun
   have hu':∀d∈D,(listed.setIfInBounds j true).getD d true=false:=λd hd=>by rw [getD_set_ne true (hjD d hd)];exact hu d hd
   have hoff:b4k ks ((listed.setIfInBounds i true).setIfInBounds j true)=false:=by
    rw [← Bool.not_eq_true,b4k,List.any_eq_true]
    rintro ⟨k,hks,hkt⟩
    rw [getD_set_ne true (hjD k (hk k hks)),getD_set_ne true (c1I hD (hk k hks)),hu k (hk k hks)] at hkt
    cases hkt
   refine wpOp_mono (λa' w' h3=>?_) h2
   have hS':=h3.2.1 hoff
   refine ⟨λ_=>hS',ih (listed.setIfInBounds j true) a' w' hfree' hu' (ready_mono hr (Ne.symm hji)) h3.1 hS' ?_⟩
   rw [Array.setIfInBounds_comm _ _ hji]
   exact h3.2.2
end
section
variable {P:Program} [Env P] {b:Base} {ops:Array Oper} {o:Oper} {T:List (Nat×AV)} {m m0:List (Nat×Option Row)} {nx nt d i fuel:Nat} {listed:Array Bool} {r:AV} {K:St→Prop} {ks:List Nat}
def WAk (P:Program) (b:Base) (ops:Array Oper) (m0:List (Nat×Option Row)) (ks:List Nat) (fuel:Nat) (listed:Array Bool) (S:St) (K:St→Prop):Prop :=
 Region.noSelect ops=true→∀ρ a w,RelT b.w ρ S.T S.nx S.nt a→RelC b ρ S.m S.nx w→(b4k ks listed=false→Cls b m0 w)→a8p P .any ops (a25 b (nq K)) (Cls b m0) ks fuel listed a w
theorem v1 [EnvAt P b] (i:Nat) (D:List Nat) (hi:ops[i]?=some o) (hf:Region.free .any ops listed i=true) (hr:(Region.ready .any ops listed).contains i=true) (hw:(b6w .any ops i D && (ks.all λk=>D.contains k) && D.all λd=>!listed.getD d true)=true) (hp:a5V o.op=true) (hg:o.guard=none)
 (hd:o.dst=some d) (hlt:Nat.blt d nt=true) (hq:QStep P o T m0 nx nt r) (hk:WAk P b ops m0 ks fuel (listed.setIfInBounds i true) ⟨(d,r) :: T,m,nx,nt⟩ K):WAk P b ops m0 ks (fuel+1) listed ⟨T,m,nx,nt⟩ K:=by
 intro hs ρ a w hT hC hS0
 simp only [Bool.and_eq_true,List.all_eq_true,List.contains_iff_mem,Bool.not_eq_true'] at hw
 obtain ⟨⟨h1,h2⟩,h3⟩:=hw
 have hoff:b4k ks listed=false:=by
  grind [b4k]
 have hS:=hS0 hoff
 obtain ⟨y,hy,hq⟩:=hq b ρ a w hT (hC.pinned hS)
 refine b26 hi (Region.noSelect_spec hs) (λc a w h=>absurd (H0 h) (by simp)) h1 h2 fuel listed a w (Region.free_spec hi hf) h3 (by simpa using hr) (v:=y) (.inl ⟨by simp [Region.wanted,hg],λw' hw'=>?_⟩) hS ?_
 ·have h1:=hq w' (hC.pinned hw')
  unfold Oper.quietAt at h1
  generalize hres:(execOp a.eval o).run P w'=res at *
  cases res with
  | ok n w'' =>
   obtain ⟨v,rfl⟩:=a7V hp hres
   simp only [Oper.quietUpon] at h1
   rw [h1.1,h1.2]
  | halt x w''=>simp only [Oper.quietUpon] at h1
 ·rw [hd]
  exact hk hs ρ _ w (hT.put hlt hy) hC λ_=>hS
def WBk (P:Program) (b:Base) (ops:Array Oper) (m0:List (Nat×Option Row)) (ks:List Nat) (fuel:Nat) (listed:Array Bool) (i:Nat) (S:St) (K:St→Prop):Prop :=
 Region.noSelect ops=true→∀ρ a w,RelT b.w ρ S.T S.nx S.nt a→RelC b ρ S.m S.nx w→wpOp P ops (a25 b (nq K)) i (λa' w'=>(b4k ks (listed.setIfInBounds i true)=false→Cls b m0 w')/\a8p P .any ops (a25 b (nq K)) (Cls b m0) ks fuel (listed.setIfInBounds i true) a' w') a w
theorem w6 (i:Nat) {S:St} (hr:Region.ready .any ops listed=[i]) (h:WBk P b ops m0 ks fuel listed i S K):WAk P b ops m0 ks (fuel+1) listed S K :=
 λhs ρ a w hT hC hS=>⟨λh0=>(by rw [hr] at h0;cases h0),λj hj=>by
  rw [hr] at hj
  rw [List.mem_singleton.1 hj]
  exact h hs ρ a w hT hC⟩
theorem c6c {S:St} (hr:Region.ready .any ops listed=[]) (h:K S):WAk P b ops m0 ks fuel listed S K:=λhs ρ a w hT hC hS=>by
 have hq:a25 b (nq K) .normal a w:=⟨ρ,S,h,hT,hC⟩
 cases fuel with
 | zero=>exact ⟨hr,hq⟩
 | succ f=>exact ⟨λ_=>hq,by rw [hr];simp⟩
theorem B7 (ms:List Nat) {S:St} (hi:ops[i]?=some o) (hg:o.guard=none)
 (h:WX P b ops o [] S (nq (λS'=>S0 b.n0 S'.m ms []=some m0/\WAk P b ops m0 ks fuel (listed.setIfInBounds i true) S' K))):WBk P b ops m0 ks fuel listed i S K:=by
 intro hs ρ a w hT hC
 unfold wpOp
 simp only [hi]
 rw [if_pos (by simp [Region.wanted,hg])]
 refine .inl (b5C (h ρ a w hT hC) ?_)
 rintro a' w' ⟨ρ',S',⟨h1,h2⟩,hT',hC'⟩
 exact ⟨λ_=>hC'.cls h1,h2 hs ρ' a' w' hT' hC' λ_=>hC'.cls h1⟩
theorem a6i {S:St} (hi:ops[i]?=some o) (hg:o.guard=none) (hoff:b4k ks (listed.setIfInBounds i true)=true)
 (h:WX P b ops o [] S (nq (λS'=>WAk P b ops m0 ks fuel (listed.setIfInBounds i true) S' K))):WBk P b ops m0 ks fuel listed i S K:=by
 intro hs ρ a w hT hC
 unfold wpOp
 simp only [hi]
 rw [if_pos (by simp [Region.wanted,hg])]
 refine .inl (b5C (h ρ a w hT hC) ?_)
 rintro a' w' ⟨ρ',S',h2,hT',hC'⟩
 exact ⟨λe=>(by rw [hoff] at e;cases e),h2 hs ρ' a' w' hT' hC' λe=>(by rw [hoff] at e;cases e)⟩
theorem T4 {w0:Base} (n:Nat) (ms ks:List Nat) {id:Nat} {l:List Oper} {Q:Exit→St→Prop} (hm:P.follows .mixedOrders=true) (hs:Region.noSelect l.toArray=true) (hn:l.toArray.size=n) (hK:S0 nx m ms []=some m0)
 (h:∀r0,WAk P ⟨w0.w,nx,r0,w0.ws,w0.keep,w0.kb,w0.E,w0.hE⟩ l.toArray m0 ks n (Array.replicate n false) ⟨T,m,nx,nt⟩ K) (hq:∀S',K S'→Q .normal S'):W P w0 (.region id l.toArray true) ⟨T,m,nx,nt⟩ Q:=by
 intro ρ a w hT hC
 have hC1:RelC ⟨w0.w,nx,ρ,w0.ws,w0.keep,w0.kb,w0.E,w0.hE⟩ ρ m nx w.drew:=let h:=hC.drew;⟨h.rows,h.apart,h.below,⟨Nat.le_refl _,λ_ _=>Z⟩,h.kept,h.inner⟩
 subst hn
 have h1:=h ρ hs ρ a w.drew hT hC1 λ_=>RelC.cls (ms:=ms) hC1 hK
 refine wp_mono (wp_region_any hm (b0A _ _ _ _ h1)) ?_
 rintro e a' w' ⟨ρ',S',h2,h3,h4⟩
 cases e<;>simp only [nq] at h2
 exact ⟨ρ',S',hq S' h2,h3,h4.rows,h4.apart,h4.below,⟨Nat.le_trans hC.pin.1 h4.pin.1,λi hi=>(h4.pin.2 i (Nat.lt_of_lt_of_le hi hC.pin.1)).trans (hC.pin.2 i hi)⟩,h4.kept,h4.inner⟩
end
def pkR:List AV→AV
 | [x]=>x
 | xs=>.tup xs
theorem b9P {w0:World} {ρ:Nat→Value} {nx:Nat}:∀{avs:List AV} {ys:List Value},RelVs w0 ρ nx avs ys→RelV w0 ρ nx (pkR avs) (if h:ys.toArray.size=1 then ys.toArray[0] else .tuple ys.toArray)
 | [],ys,h=>by simp only [RelVs] at h;subst h;exact ⟨[],Z,Z⟩
 | [x],ys,h=>by
  simp only [RelVs] at h
  obtain ⟨y,t,rfl,h1,rfl⟩:=h
  exact h1
 | x :: y :: r,ys,h=>by
  have h0:=h
  simp only [RelVs] at h
  obtain ⟨a,t,rfl,h1,b,t2,rfl,h2,h3⟩:=h
  rw [dif_neg (by simp)]
  exact ⟨_,Z,h0⟩
def c9L (tb:List (Nat×TyI)) (l:List ResultVar) (K:AV→List (Nat×Option Row)→Nat→Prop) (e:Exit) (S:St):Prop:=(e=.normal∨e=.ret)/\∃xs,V5 tb S l []=some xs/\K (pkR xs) S.m S.nx
section
variable {P:Program} [Env P] {w0:Base} {ops:Array Oper} {tb:List (Nat×TyI)} {o:Oper} {rest:List Oper} {T:List (Nat×AV)} {m:List (Nat×Option Row)} {nx nt d:Nat} {Q:Exit→St→Prop}
theorem a1W [EnvAt P w0] (G:Good P tb) {f:FuncId} {fn:Func} {c:Code} {as:Array Operand} {ts:Array TypeId} {args:List AV} {l:List ResultVar} {n:Nat} (hd:o.dst=some d) (hlt:Nat.blt d nt=true) (ho:o.op=.call { callee:=.value (.func f),args:=as,argTypes:=ts })
 (hf:P.funcs[f]?=some fn) (hb:fn.body=some c) (hname:(fn.name == "runtime.NumGoroutine")=false) (hl:fn.results=l.toArray) (hn:fn.ntmps=n) (hlen:Nat.ble args.length n=true) (ha:evL T as.toList []=some args)
 (h:∀b:Base,[EnvAt P b]→b.n0=nx→W P b c ⟨a5U args 0,m,nx,n⟩ (c9L tb l (λr m1 n1=>Nat.ble nx n1=true/\WL P w0 ops rest ⟨(d,r) :: T,m1,n1,nt⟩ Q))):WX P w0 ops o rest ⟨T,m,nx,nt⟩ Q:=by
 rename_i hw0
 intro ρ a w hT hC
 obtain ⟨bs,h1,h2⟩:=a6K hT ha
 simp at h1
 subst h1
 have hcal:Callable P f:=⟨fn,hf,hname,by rw [hb];rfl⟩
 have hrun:(execOp a.eval o).run P w=.ok (.enter f (as.toList.map a.eval).toArray) w:=by
  simp [execOp,ho,resolve,Deferred.ofValue,invoke,Act.eval,a0s hcal,← Array.toList_map]
 unfold Oper.wp
 rw [hrun,Oper.upon_enter]
 let b:Base:=⟨w0.w,nx,ρ,w,w0.keep,λc hc=>Nat.lt_of_lt_of_le (w0.kb c hc) hC.kept.1,w0.E,w0.hE⟩
 have hen:EnvAt P b:=⟨hw0.e⟩
 have hCb:RelC b ρ m nx w:=⟨hC.rows,hC.apart,hC.below,⟨Nat.le_refl _,λ_ _=>Z⟩,⟨Nat.le_refl _,λ_ _=>Z,hC.kept.2.2⟩,hC.inner⟩
 have hlen':args.length<=n:=Nat.le_of_ble_eq_true hlen
 have hTb:=a3l (b:=b) (fn:=fn) (show RelVs b.w ρ nx args (as.toList.map a.eval) from h2) hlen' hn
 have hcalls:Calls P f (as.toList.map a.eval).toArray w (λen w'=>∃v ρ' r m1 n1,en=.returned v/\(∀i,i < nx→ρ' i=ρ i)/\RelV w0.w ρ' n1 r v/\RelC b ρ' m1 n1 w'/\Nat.ble nx n1=true/\WL P w0 ops rest ⟨(d,r) :: T,m1,n1,nt⟩ Q):=by
  refine calls_of_wp hf hb ?_
  refine wp_mono (h b Z ρ _ w hTb hCb) ?_
  have fin:∀(ρ':Nat→Value) (S:St) (a':Act) (w':World),(∃xs,V5 tb S l []=some xs/\Nat.ble nx S.nx=true/\WL P w0 ops rest ⟨(d,pkR xs) :: T,S.m,S.nx,nt⟩ Q)→RelT b ρ' S.T S.nx S.nt a'→RelC b ρ' S.m S.nx w' →
   a'.defers=[]/\∃v,(results fn a'.tmps).run P w'=.ok v w'/\∃u ρ' r m1 n1,Ending.returned v=.returned u/\(∀i,i < nx→ρ' i=ρ i)/\RelV w0.w ρ' n1 r u/\RelC b ρ' m1 n1 w'/\Nat.ble nx n1=true/\WL P w0 ops rest ⟨(d,r) :: T,m1,n1,nt⟩ Q:=by
   intro ρ' S a' w' ⟨xs,e1,e2,e3⟩ hT' hC'
   obtain ⟨ys,avs,g1,g2,g3⟩:=Z9 G hT' hC' e1
   simp at g1
   subst g1
   exact ⟨hT'.defers,_,V6 hl g3,_,ρ',pkR xs,S.m,S.nx,Z,λi hi=>hC'.pin.2 i hi,b9P g2,hC',e2,e3⟩
  rintro e a' w' ⟨ρ',S,⟨hq,e1⟩,hT',hC'⟩
  rcases hq with rfl | rfl
  ·exact fin ρ' S a' w' e1 hT' hC'
  ·exact fin ρ' S a' w' e1 hT' hC'
 refine hcalls.mono λex w' ⟨v,ρ',r,m1,n1,he,q1,q2,q3,q4,hk⟩=>?_
 subst he
 have hn1:=Nat.le_of_ble_eq_true q4
 refine hk ρ' _ w' ?_ ⟨q3.rows,q3.apart,q3.below,⟨Nat.le_trans hC.pin.1 hn1,λi hi=>by rw [q1 i (Nat.lt_of_lt_of_le hi hC.pin.1)];exact hC.pin.2 i hi⟩,⟨Nat.le_trans hC.kept.1 q3.kept.1,λc hc=>(q3.kept.2.1 c hc).trans (hC.kept.2.1 c hc),q3.kept.2.2⟩,q3.inner⟩
 rw [hd]
 have hT':RelT w0 ρ' T n1 nt a:=⟨λt x hx=>(hT.tmps t x hx).mono hn1 q1,hT.size,hT.defers⟩
 exact hT'.put hlt q2
end
end Go.Rf
namespace Go.Rf
open Go
def csT (t:ByteArray) (i:Nat):ByteArray:=(i6 t 10).getD i default
theorem a8q {t:ByteArray} {i:Nat}:(csT t i).size<=t.size:=by
 unfold csT
 rw [List.getD_eq_getElem?_getD]
 cases h:(i6 t 10)[i]? with
 | none=>exact Nat.zero_le _
 | some x =>
  rcases List.mem_append.1 (List.mem_of_getElem? h) with h | h
  ·exact a7r _ x h
  simp_all
def a3Q (m:Mach) (y:Lg) (t:ByteArray):Nat→List ByteArray
 | 0=>[]
 | i+1=>a3Q m y t i++[c1H m y (csT t) i]
theorem B0 {m:Mach} {y:Lg} {t:ByteArray} {i:Nat}:a3Q m y t (i+1)=a3Q m y t i++[c1H m y (csT t) i]:=rfl
theorem W8 {m:Mach} {y:Lg} {t:ByteArray}:∀{i:Nat},(a3Q m y t i).length=i
 | 0=>rfl
 | i+1=>by rw [B0,List.length_append,W8];rfl
def scT (m:Mach) (y:Lg) (t:ByteArray):List ByteArray×Bool :=
 if okCo m y && decide (t.size<=4000) && decide ((i6 t 10).length<=30) then (a3Q m y t (i6 t 10).length,true) else ([],false)
section
variable {m:Mach} {y:Lg} {t:ByteArray}
theorem b9Q (h:okCo m y=false):scT m y t=([],false):=by unfold scT;rw [h];rfl
theorem b9R (h:¬ t.size<=4000):scT m y t=([],false):=by unfold scT;rw [decide_eq_false h,Bool.and_false];rfl
theorem b9S (h:¬ (i6 t 10).length<=30):scT m y t=([],false):=by unfold scT;rw [decide_eq_false h,Bool.and_false];rfl
theorem b9T (h1:okCo m y=true) (h2:t.size<=4000) (h3:(i6 t 10).length<=30):scT m y t=(a3Q m y t (i6 t 10).length,true):=by unfold scT;rw [h1,decide_eq_true h2,decide_eq_true h3];rfl
end
end Go.Rf
namespace Go.Rf
end Go.Rf
namespace Go.Rf
open Go
variable {m:Mach} {x y:Lg}
theorem b9U {s:ByteArray} {b:Int}:m4 (l9 s b) b=false :=
 a19 (i:=J5 s b) (λj hj=>by
  have h1:s2 (l9 s b) j=s2 s (0+j):=b1n (s:=s) (a:=0) (b:=J5 s b) (i:=j) J
  rw [h1,Nat.zero_add]
  cases hs:m4 s b
  ·grind [a43,m4,S5]
  ·exact (C5 hs).2.2 j hj) (by rw [P4];exact Nat.le_refl _)
theorem c8g {t:ByteArray}:csT t 0=l9 t 10:=R3.1
theorem b9V {t:ByteArray} (h:(scT m y t).2=true):scT m y (csT t 0)=([(exC m y (csT t 0)).2.2],true)/\(scT m y t).1.getD 0 default=(exC m y (csT t 0)).2.2/\t.size<=4000/\(scT m y t).1.length=(i6 t 10).length:=by
 have h1:okCo m y=true:=by
  cases e:okCo m y
  ·rw [b9Q e] at h;cases h
  ·rfl
 have h2:t.size<=4000:=by
  by_cases e:t.size<=4000
  ·exact e
  ·rw [b9R e] at h;cases h
 have h3:(i6 t 10).length<=30:=by
  grind [b9S]
 have hs:i6 (csT t 0) 10=[csT t 0]:=a6W (by rw [c8g];exact b9U)
 have hz:(csT t 0).size<=4000:=Nat.le_trans a8q h2
 have e0:csT (csT t 0) 0=csT t 0:=by show (i6 (csT t 0) 10).getD 0 default=_;rw [hs];rfl
 have hr:∀u:ByteArray,c1H m y (csT u) 0=(exC m y (csT u 0)).2.2:=λu=>Z
 have hg:∀n,0 < n→(a3Q m y t n).getD 0 default=(exC m y (csT t 0)).2.2:=by
  intro n
  induction n with
  | zero=>intro h;omega
  | succ n ih =>
   grind [B0,W8]
 refine ⟨?_,?_,h2,?_⟩
 ·rw [b9T h1 hz (by rw [hs];exact Nat.le_of_ble_eq_true Z),hs]
  show ([]++[c1H m y (csT (csT t 0)) 0],true)=_
  rw [hr,e0];rfl
 ·rw [b9T h1 h2 h3]
  exact hg _ F7.1
 ·rw [b9T h1 h2 h3]
  exact W8
theorem c2U {t:ByteArray} (h:(scT m y t).2=false):(scT m y t).1=[]:=by
 grind [scT]
def sx (x:Lg):ByteArray:=x.d++x.p
theorem c1J (h:okLg x=true):(x.d.size+x.p.size<=30000)/\E2 (sx x) (z8 (sx x))=(sx x).size/\E2 x.d (z8 x.d)=x.d.size/\(z8 (sx x):Int)=x.n:=by
 grind [okLg,sx]
theorem c6d (h:okLg x=true):((lrT x).length:Int)=x.n:=by
 rw [(c9K h).1,U1]
 exact (c1J h).2.2.2
end Go.Rf
namespace Go.Rf
open Go Go.RowKit
section
variable {P:Program} [Env P] {w0:Base} {ops:Array Oper} {tb:List (Nat×TyI)} {o:Oper} {rest:List Oper} {T:List (Nat×AV)} {m:List (Nat×Option Row)} {nx nt d:Nat} {Q:Exit→St→Prop}
theorem RelC.byt {ρ:Nat→Value} {w:World} (hC:RelC w0 ρ m nx w) {id:Nat} {bs:List Int} (hm:mem m id=some (.byt bs)):∃g cap cur e fz,ρ id=.slice (some ⟨g,0,none⟩) bs.length cap/\w0.w.heap.size<=g/\w.heap[g]?=some (.cells cur e fz)/\bs.length<=cap/\bs.length<=fz.1/\cur.toList.take bs.length=bs.map (Value.int .u8):=(hC.rows id _ hm).2
end
end Go.Rf
namespace Go.Rf
open Go
variable {k:Nat} {m:Mach} {rs:List Route} {sl:List Slot} {x:Ifc}
def Pn (q:Que) (w:Wtr):Prop:=w∈q.wa∨∃x∈q.sl,pnP x=true/\wOf x=w
theorem b27 {q:Que} {w:Wtr}:∀i,w∈pnL q i↔w∈q.wa∨∃j,j < i/\pnP (q.sl.getD j default)=true/\wOf (q.sl.getD j default)=w
 | 0=>⟨.inl,λh=>by
  rcases h with h | ⟨j,h,_⟩
  ·exact h
  ·omega⟩
 | i+1=>by
  have ih:=@b27 q w i
  show w∈(if pnP _ then _ else _:List Wtr)↔_
  split
  ·next h =>
   rw [List.mem_append,List.mem_singleton,ih]
   constructor
   ·rintro ((g | ⟨j,h1,h2⟩) | g)
    ·exact .inl g
    ·exact .inr ⟨j,by omega,h2⟩
    ·exact .inr ⟨i,by omega,h,g.symm⟩
   ·rintro (g | ⟨j,h1,h2,h3⟩)
    ·exact .inl (.inl g)
    ·by_cases e:j=i
     ·subst e;exact .inr h3.symm
     ·exact .inl (.inr ⟨j,by omega,h2,h3⟩)
  ·next h =>
   rw [ih]
   constructor
   ·rintro (g | ⟨j,h1,h2⟩)
    ·exact .inl g
    ·exact .inr ⟨j,by omega,h2⟩
   ·rintro (g | ⟨j,h1,h2,h3⟩)
    ·exact .inl g
    ·by_cases e:j=i
     ·subst e;exact absurd h2 h
     ·exact .inr ⟨j,by omega,h2,h3⟩
theorem c1K {q:Que} (h:QF q) {z:Int}:z∈C7 q↔∃w,Pn q w/\w.q=z:=by
 unfold C7
 rw [List.mem_map]
 constructor
 ·rintro ⟨w,h1,h2⟩
  rw [b2M h,b27] at h1
  refine ⟨w,?_,h2⟩
  rcases h1 with g | ⟨j,g1,g2,g3⟩
  ·exact .inl g
  ·exact .inr ⟨_,j6.mpr ⟨j,by rw [h.sl.len];exact g1,Z⟩,g2,g3⟩
 ·rintro ⟨w,h1,h2⟩
  refine ⟨w,?_,h2⟩
  rw [b2M h,b27]
  rcases h1 with g | ⟨x,g1,g2,g3⟩
  ·exact .inl g
  ·obtain ⟨j,hj,rfl⟩:=j6.mp g1
   exact .inr ⟨j,by rw [← h.sl.len];exact hj,g2,g3⟩
theorem c6e {l:List Slot} {k:Nat} {x:Slot} {P:Slot→Prop} (hk:k < l.length):(∃y∈l.set k x,P y)↔P x∨∃j,j < l.length/\j≠k/\P (l.getD j default):=by
 constructor
 ·grind [a5f]
 ·rintro (p | ⟨j,h1,h2,p⟩)
  ·exact ⟨x,j6.mpr ⟨k,by rw [List.length_set];exact hk,by rw [M6 hk,if_pos Z]⟩,p⟩
  ·grind [j6]
theorem c8h {l:List Slot} {k:Nat} {P:Slot→Prop} (hk:k < l.length):(∃y∈l,P y)↔P (l.getD k default)∨∃j,j < l.length/\j≠k/\P (l.getD j default):=by
 grind [j6]
theorem SlF.ne (h:SlF sl) {j k:Nat} (hj:j < 4) (hk:k < 4) (hjk:j≠k) (h1:(sl.getD j default).s≠0) (h2:(sl.getD k default).s≠0):(sl.getD j default).q≠(sl.getD k default).q:=by
 rcases Nat.lt_or_ge j k with g | g
 ·exact h.dif j k g hk h1 h2
 ·exact λe=>h.dif k j J hj h2 h1 e.symm
theorem b9W {α:Type} [Inhabited α] {l:List α} {k:Nat} (hk:k < l.length):l.set k (l.getD k default)=l:=by
 simp_all
theorem b6x (h:SlF sl):∀i,i<=4→∀j,j < i→(sl.getD j default).s=1→0<=E6 sl true i/\((E6 sl true i).toNat=j∨lessW (wOf (sl.getD (E6 sl true i).toNat default)) (wOf (sl.getD j default))=true)
 | 0,_,j,hj,_=>by omega
 | i+1,hi,j,hj,h1=>by
  have ih:=b6x h i J
  cases hc:a4k sl true (E6 sl true i) i
  ·rw [a2c hc]
   by_cases e:j=i
   ·subst e
    by_cases hb:E6 sl true j < 0
    ·rw [a5c h1 hb] at hc;cases hc
    ·rw [a4m h1 hb,if_pos Z] at hc
     have hbl:=@a03 sl true j
     have h1':=a2O (sl:=sl) (most:=true) j J
     refine ⟨by omega,.inr ?_⟩
     rw [a1e (show (wOf (sl.getD (E6 sl true j).toNat default)).q≠(wOf (sl.getD j default)).q from h.ne J J J J J),hc]
     rfl
   grind
  ·grind [a2b,a5b,a4m,P6]
theorem b6y (h:SlF sl):∀i,i<=4→∀j,j < i→(sl.getD j default).s=1→0<=E6 sl false i/\((E6 sl false i).toNat=j∨lessW (wOf (sl.getD j default)) (wOf (sl.getD (E6 sl false i).toNat default))=true)
 | 0,_,j,hj,_=>by omega
 | i+1,hi,j,hj,h1=>by
  have ih:=b6y h i J
  cases hc:a4k sl false (E6 sl false i) i
  ·rw [a2c hc]
   by_cases e:j=i
   ·subst e
    by_cases hb:E6 sl false j < 0
    ·rw [a5c h1 hb] at hc;cases hc
    ·rw [a4m h1 hb,if_neg (by decide)] at hc
     have hbl:=@a03 sl false j
     have h1':=a2O (sl:=sl) (most:=false) j J
     refine ⟨by omega,.inr ?_⟩
     rw [a1e (show (wOf (sl.getD j default)).q≠(wOf (sl.getD (E6 sl false j).toNat default)).q from h.ne J J J J J),hc]
     rfl
   grind
  ·grind [a2b,a5b,a4m,P6]
theorem c1L {sl:List Slot} {most:Bool} (h:SlF sl) (hb:bstS sl most < 0):∀x∈sl,x.s≠1:=λx hx=>by
 obtain ⟨j,hj,rfl⟩:=j6.mp hx
 exact b0i sl.length |>.mp hb j hj
theorem b9X:freS sl < 0↔∀x∈sl,x.s≠0:=by
 grind [b1z,j6]
theorem a7v {q:Que} (h:QF q):setd q=true↔(q.wa.length≠0→∀x∈q.sl,x.s≠0)/\∀x∈q.sl,x.s=1→∀w∈q.wa,lessW (wOf x) w=true:=by
 have h4:=h.sl.len
 constructor
 ·intro hs
  by_cases h0:q.wa.length=0
  ·grind
  ·have hf:freS q.sl < 0:=by
    grind [b49]
   refine ⟨λ_=>b9X.mp hf,λx hx h1 w hw=>?_⟩
   obtain ⟨j,hj,rfl⟩:=j6.mp hx
   obtain ⟨g1,g2⟩:=b6y h.sl 4 (Nat.le_refl _) j J h1
   have eb:bstS q.sl false=E6 q.sl false 4:=by unfold bstS;rw [h4]
   rw [b2F h0 hf J,eb] at hs
   have h2:lessW (wOf (q.sl.getD j default)) (q.wa.getD 0 default)=true:=by
    rcases g2 with g2 | g2
    ·rw [← g2];exact hs
    ·exact P6 g2 hs
   obtain ⟨i,hi,rfl⟩:=j6.mp hw
   rcases Nat.eq_zero_or_pos i with g | g
   ·subst g;exact h2
   ·exact P6 h2 (a5e.mp h.pw 0 i g hi).1
 ·grind [b48,b9X,b5a,b2F,H2]
section
variable {q:Que} {w:Wtr}
theorem b6z (hb:0<=bstS q.sl true):∀x∈(a4p q).sl,x.s=2∨x∈q.sl:=λx hx=>by
 obtain ⟨k,e1,e2,e3⟩:=H2 hb
 have hx:x∈q.sl.set (bstS q.sl true).toNat ⟨2,(q.sl.getD (bstS q.sl true).toNat default).q,(q.sl.getD (bstS q.sl true).toNat default).p⟩:=hx
 grind
theorem b9Y (h:QF q) (hs:setd q=true) (hb:0<=bstS q.sl true):setd (a4p q)=true:=by
 rw [a7v (b5d h hb)]
 rw [a7v h] at hs
 refine ⟨λhw x hx=>?_,λx hx h1 w hw=>?_⟩
 ·rcases b6z hb x hx with g | g
  ·omega
  ·exact hs.1 hw x g
 ·rcases b6z hb x hx with g | g
  ·omega
  ·exact hs.2 x g h1 w hw
theorem c6f (h:QF q) (hb:0<=bstS q.sl true):Pn (a4p q) w↔Pn q w/\w.q≠tkI q.sl:=by
 obtain ⟨k,e1,e2,e3⟩:=H2 hb
 have hk:k < 4:=by rw [← h.sl.len];exact e2
 have et:tkI q.sl=(q.sl.getD k default).q:=by unfold tkI;rw [e1,Int.toNat_natCast]
 rw [et]
 unfold Pn a4p tkS
 rw [e1,Int.toNat_natCast]
 dsimp only
 rw [c6e (P:=λx=>pnP x=true/\wOf x=w) e2,c8h (P:=λx=>pnP x=true/\wOf x=w) e2]
 constructor
 ·rintro (g | ⟨g,_⟩ | ⟨j,h1,h2,h3,rfl⟩)
  ·exact ⟨.inl g,λe=>(h.wa w g).2.2 _ (j6.mpr ⟨k,e2,Z⟩) J e.symm⟩
  ·grind [J7]
  ·refine ⟨.inr (.inr ⟨j,h1,h2,h3,Z⟩),?_⟩
   exact h.sl.ne (by rw [← h.sl.len];exact h1) hk h2 (by rcases J7.mp h3 with g | g<;>omega) J
 ·rintro ⟨g | ⟨_,rfl⟩ | g,h2⟩
  ·exact .inl g
  ·exact absurd Z h2
  ·exact .inr (.inr g)
theorem c1M (h:QF q) (hb:0<=bstS q.sl true) (hw:w∈actL (a4p q).sl):(w.q=tkI q.sl/\∃y∈q.sl,y.s=1/\wOf y=w)∨w∈actL q.sl:=by
 obtain ⟨k,e1,e2,e3⟩:=H2 hb
 obtain ⟨x,hx,h1,h2⟩:=C6.mp hw
 have hx:x∈q.sl.set (bstS q.sl true).toNat ⟨2,(q.sl.getD (bstS q.sl true).toNat default).q,(q.sl.getD (bstS q.sl true).toNat default).p⟩:=hx
 have et:tkI q.sl=(q.sl.getD k default).q:=by unfold tkI;rw [e1,Int.toNat_natCast]
 rw [e1,Int.toNat_natCast] at hx
 rcases a5f e2 hx with rfl | ⟨j,hj,_,rfl⟩
 ·refine .inl ⟨by rw [et,← h2];rfl,_,j6.mpr ⟨k,e2,Z⟩,e3,h2⟩
 ·exact .inr (C6.mpr ⟨_,j6.mpr ⟨j,hj,Z⟩,h1,h2⟩)
end
def Rt (rs:List Route) (k:Nat) (w:Wtr):Prop:=tgI rs w.q=k/\prI rs w.q=w.p
structure IG (rs:List Route) (k:Nat) (x:Ifc):Prop where
 f:IfF x
 s:setd x.qu=true
 ma:0<=x.ma/\x.ma<=16
 nd:x.st.Nodup
 ac:∀w∈actL x.qu.sl,w.q∈x.st/\Rt rs k w
 dn:∀j,0 < j→j < x.st.length→prI rs (x.st.getD j default) < prI rs (x.st.getD (j - 1) default)
 pp:∀w,Pn x.qu w→w.q∉x.st/\Rt rs k w
section
variable {rs:List Route} {k:Nat} {x:Ifc} {i:Int}
theorem IG.G (h:IG rs k x):IfG x:=⟨h.f,h.nd⟩
theorem IG.no3 (h:IG rs k x) {y:Slot} (hy:y∈x.qu.sl):y.s≠3:=λe=>(h.pp (wOf y) (.inr ⟨y,hy,J7.mpr (.inr e),Z⟩)).1 (h.ac (wOf y) (C6.mpr ⟨y,hy,u3.mpr (.inr e),Z⟩)).1
theorem IG.sb (h:IG rs k x) {y:Slot} (hy:y∈x.qu.sl) (h0:y.s≠0):y.s=1∨y.s=2:=by
 have h3:=h.no3 hy
 obtain ⟨j,hj,rfl⟩:=j6.mp hy
 have hb:=(h.f.qu.sl.ok j (by rw [← h.f.qu.sl.len];exact hj) h0).1
 omega
theorem IG.rt (h:IG rs k x) {y:Slot} (hy:y∈x.qu.sl) (h0:y.s≠0):Rt rs k (wOf y):=by
 rcases h.sb hy h0 with e | e
 ·exact (h.pp _ (.inr ⟨y,hy,J7.mpr (.inl e),Z⟩)).2
 ·exact (h.ac _ (C6.mpr ⟨y,hy,u3.mpr (.inl e),Z⟩)).2
theorem IG.off (h:IG rs k x) (ht:tgI rs i=k) (hn:i∉x.st) {w:Wtr}:Pn (a57 x.qu i (prI rs i)) w↔w=⟨i,prI rs i⟩∨Pn x.qu w:=by
 have stay:a57 x.qu i (prI rs i)=x.qu→Pn x.qu ⟨i,prI rs i⟩→(Pn (a57 x.qu i (prI rs i)) w↔w=⟨i,prI rs i⟩∨Pn x.qu w):=λe g=>by
  grind
 by_cases h1:0<=p7 x.qu.sl i
 ·obtain ⟨j,e1,e2,e3,e4⟩:=a4o h1
  have hm:x.qu.sl.getD j default∈x.qu.sl:=j6.mpr ⟨j,e2,Z⟩
  have hs1:(x.qu.sl.getD j default).s=1:=by
   rcases h.sb hm e3 with e | e
   ·exact e
   ·exact absurd (h.ac _ (C6.mpr ⟨_,hm,u3.mpr (.inl e),Z⟩)).1 (by show ¬ (x.qu.sl.getD j default).q∈x.st;rw [e4];exact hn)
  have e5:(x.qu.sl.getD j default).p=prI rs i:=by rw [← e4];exact (h.rt hm e3).2.symm
  have hw:wOf (x.qu.sl.getD j default)=⟨i,prI rs i⟩:=by
   show (⟨(x.qu.sl.getD j default).q,(x.qu.sl.getD j default).p⟩:Wtr)=_
   rw [e4,e5]
  refine stay ?_ (.inr ⟨_,hm,J7.mpr (.inl hs1),hw⟩)
  have e6:ptS x.qu.sl i=x.qu.sl:=by
   rw [b32 (by rw [e1,Int.toNat_natCast];omega),e1,Int.toNat_natCast]
   exact b9W e2
  rw [b5e h1,e6]
 ·by_cases h2:0<=inW x.qu.wa i
  ·have hx:∃w∈x.qu.wa,w.q=i:=by
    rcases Classical.em (∃w∈x.qu.wa,w.q=i) with g | g
    ·exact g
    ·exact absurd (b50.mpr λw hw e=>g ⟨w,hw,e⟩) J
   obtain ⟨v,hv,e⟩:=hx
   have ew:v=⟨i,prI rs i⟩:=by
    have:=(h.pp v (.inl hv)).2.2
    rw [e] at this
    cases v
    grind
   exact stay (b5g J h2) (.inl (ew▸hv))
  ·rw [b5f J J]
   show (w∈insW x.qu.wa ⟨i,prI rs i⟩∨_)↔_
   rw [a4n]
   exact or_assoc
theorem IG.lv (h:IG rs k x) (hi:i∈x.st):lvl x.qu.sl i=prI rs i:=by
 have hf:=a3A (h.f.st i hi)
 obtain ⟨j,e1,e2,e3,e4⟩:=a4o hf
 unfold lvl
 rw [e1,Int.toNat_natCast,← e4]
 exact (h.rt (j6.mpr ⟨j,e2,Z⟩) e3).2.symm
theorem IG.run (h:IG rs k x):a7b x=if x.st.length=0 then 16 else prI rs (x.st.getD (x.st.length - 1) default):=by
 unfold a7b
 split
 ·rfl
 ·exact h.lv (j6.mpr ⟨x.st.length - 1,by omega,Z⟩)
theorem IG.take (h:IG rs k x) (ho:okT x=true):IG rs k (a3z x)/\∀w,Pn (a3z x).qu w↔Pn x.qu w/\w.q≠tkI x.qu.sl:=by
 obtain ⟨hb,hl⟩:=L9.mp ho
 have hP:∀w,Pn (a4p x.qu) w↔Pn x.qu w/\w.q≠tkI x.qu.sl:=λw=>c6f h.f.qu hb
 obtain ⟨k',e1,e2,e3⟩:=H2 hb
 have hm:x.qu.sl.getD k' default∈x.qu.sl:=j6.mpr ⟨k',e2,Z⟩
 have hr:prI rs (tkI x.qu.sl)=(x.qu.sl.getD (bstS x.qu.sl true).toNat default).p:=by
  unfold tkI
  rw [e1,Int.toNat_natCast]
  exact (h.rt hm J).2
 refine ⟨⟨(c1w h.G ho).f,b9Y h.f.qu h.s hb,h.ma,(c1w h.G ho).nd,λw hw=>?_,λj hj0 hj=>?_,λw hw=>?_⟩,hP⟩
 ·rcases c1M h.f.qu hb hw with ⟨g1,y,y1,y2,rfl⟩ | g
  ·exact ⟨List.mem_append_right _ (List.mem_singleton.mpr g1),h.rt y1 J⟩
  ·exact ⟨List.mem_append_left _ (h.ac w g).1,(h.ac w g).2⟩
 ·have hj:j < (x.st++[tkI x.qu.sl]).length:=hj
  rw [List.length_append,List.length_cons,List.length_nil] at hj
  show prI rs ((x.st++[tkI x.qu.sl]).getD j default) < prI rs ((x.st++[tkI x.qu.sl]).getD (j - 1) default)
  rw [b1F (show j - 1 < x.st.length by omega)]
  rcases Nat.lt_or_ge j x.st.length with g | g
  ·rw [b1F g];exact h.dn j hj0 g
  ·rw [b1G g,show j - x.st.length=0 by omega]
   show prI rs (tkI x.qu.sl) < _
   rw [hr]
   have:b7l x<=a7b x:=Int.min_le_right _ _
   rw [h.run,if_neg J] at this
   grind
 ·obtain ⟨g1,g2⟩:=(hP w).mp hw
  refine ⟨λg=>?_,(h.pp w g1).2⟩
  rcases List.mem_append.mp g with g | g
  ·exact (h.pp w g1).1 g
  grind
end
theorem b15 {rs:List Route} {a:Abs} {c:Nat}:∀n,(∀i,i < n→(a.po.getD i default=true/\(rs.getD i default).t=c)→0<=t7 rs a c n/\((rs.getD (t7 rs a c n).toNat default).p < (rs.getD i default).p∨((rs.getD (t7 rs a c n).toNat default).p=(rs.getD i default).p/\t7 rs a c n<=i)))/\(0<=t7 rs a c n→a.po.getD (t7 rs a c n).toNat default=true/\(rs.getD (t7 rs a c n).toNat default).t=c)
 | 0=>⟨λi hi=>by omega,λh=>by simp [t7] at h⟩
 | n+1=>by
  obtain ⟨ih1,ih2⟩:=@b15 rs a c n
  have hb:=@a2M rs a c n
  by_cases hc:(a.po.getD n default=true/\(rs.getD n default).t=c)/\(t7 rs a c n < 0∨(rs.getD n default).p < (rs.getD (t7 rs a c n).toNat default).p)
  ·rw [b2B hc.1.1 hc.1.2 hc.2]
   refine ⟨λi hi hci=>⟨by omega,?_⟩,λ_=>by rw [Int.toNat_natCast];exact hc.1⟩
   rw [Int.toNat_natCast]
   grind
  ·grind [t7]
theorem b16:∀i,(∀j,j < i→R7 (sl.getD j default)=true)→(actN sl i).length=i
 | 0,_=>rfl
 | i+1,h=>by rw [b8X (h i J),List.length_append,b16 i (λj hj=>h j J)];rfl
theorem IG.next {a:Abs} (h:IG rs k x) (hst:a.st.getD k default=x.st) (hma:a.ma.getD k default=x.ma) (hr:∀i,i < 8→0<=(rs.getD i default).p/\(rs.getD i default).p<=15) (hpo:∀i,i < 8→((a.po.getD i default=true/\(rs.getD i default).t=k)↔∃w,Pn x.qu w/\w.q=i)):(okT x=true→B8 rs a k=tkI x.qu.sl)/\(okT x=false→B8 rs a k=-1):=by
 have h4:=h.f.qu.sl.len
 have hbl:=@a2M rs a k 8
 obtain ⟨m1,m2⟩:=@b15 rs a k 8
 by_cases hb:0<=bstS x.qu.sl true
 ·obtain ⟨j,e1,e2,e3⟩:=H2 hb
  have hm:x.qu.sl.getD j default∈x.qu.sl:=j6.mpr ⟨j,e2,Z⟩
  have ht:tkI x.qu.sl=(x.qu.sl.getD j default).q:=by unfold tkI;rw [e1,Int.toNat_natCast]
  obtain ⟨t1,t2⟩:=b5i h.f.qu.sl hb
  have hlt:=h.G.lt hb
  have hrt:=h.rt hm J
  have hp0:prI rs (x.qu.sl.getD j default).q=(x.qu.sl.getD j default).p:=hrt.2
  have hmin:∀w,Pn x.qu w→w=wOf (x.qu.sl.getD j default)∨lessW (wOf (x.qu.sl.getD j default)) w=true:=by
   rintro w (g | ⟨y,g1,g2,rfl⟩)
   ·exact .inr (((a7v h.f.qu).mp h.s).2 _ hm e3 w g)
   ·obtain ⟨i,hi,rfl⟩:=j6.mp g1
    have hs1:(x.qu.sl.getD i default).s=1:=by
     rcases J7.mp g2 with g | g
     ·exact g
     ·exact absurd g (h.no3 g1)
    obtain ⟨q1,q2⟩:=b6x h.f.qu.sl 4 (Nat.le_refl _) i J hs1
    have eb:E6 x.qu.sl true 4=(j:Int):=by rw [← h4];exact e1
    rw [eb,Int.toNat_natCast] at q2
    grind
  obtain ⟨n,hn⟩:∃n:Nat,tkI x.qu.sl=n:=⟨(tkI x.qu.sl).toNat,by omega⟩
  have hq0:(x.qu.sl.getD j default).q=n:=by rw [← ht];exact hn
  have hc0:a.po.getD n default=true/\(rs.getD n default).t=k:=(hpo n J).mpr ⟨wOf (x.qu.sl.getD j default),.inr ⟨_,hm,J7.mpr (.inl e3),Z⟩,hq0⟩
  obtain ⟨g1,g2⟩:=m1 n J hc0
  obtain ⟨w,w1,w2⟩:=(hpo (t7 rs a k 8).toNat J).mp (m2 g1)
  have hwp:prI rs w.q=w.p:=(h.pp w w1).2.2
  rw [hq0] at hp0
  have hp0:(rs.getD n default).p=(x.qu.sl.getD j default).p:=hp0
  rw [w2] at hwp
  have hwp:(rs.getD (t7 rs a k 8).toNat default).p=w.p:=hwp
  have hbn:t7 rs a k 8=n:=by
   rcases hmin w w1 with g | g
   ·rw [g] at w2
    have w2:(x.qu.sl.getD j default).q=((t7 rs a k 8).toNat:Int):=w2
    omega
   ·rw [W0] at g
    have g:(x.qu.sl.getD j default).p < w.p∨((x.qu.sl.getD j default).p=w.p/\(x.qu.sl.getD j default).q < w.q):=g
    omega
  have hok:okT x=true↔((x.qu.sl.getD j default).p < x.ma/\(x.qu.sl.getD j default).p < a7b x):=by
   unfold okT
   rw [L9,e1,Int.toNat_natCast]
   unfold b7l
   omega
  have htop:b4W rs (a.st.getD k default)=prI rs (x.st.getD (x.st.length - 1) default):=by rw [hst];rfl
  have hrun:=h.run
  have h15:=hr n J
  rw [a9A,hbn,Int.toNat_natCast,hma,htop,hst,hn]
  grind
 ·have hno:∀y∈x.qu.sl,y.s≠1:=c1L (most:=true) h.f.qu.sl J
  have ho:okT x=false:=by unfold okT;rw [a5d];exact λg=>hb g.1
  refine ⟨λg=>(by rw [ho] at g;cases g),λ_=>?_⟩
  by_cases hw:x.qu.wa.length=0
  ·rw [a9A]
   refine if_pos (.inl ?_)
   rcases Int.lt_or_le (t7 rs a k 8) 0 with g | g
   ·exact g
   ·exfalso
    obtain ⟨w,w1,w2⟩:=(hpo (t7 rs a k 8).toNat J).mp (m2 g)
    rcases w1 with w1 | ⟨y,y1,y2,_⟩
    ·grind
    ·rcases J7.mp y2 with e | e
     ·exact hno y y1 e
     ·exact h.no3 y1 e
  ·have hall:=((a7v h.f.qu).mp h.s).1 hw
   have hact:∀j,j < 4→R7 (x.qu.sl.getD j default)=true:=λj hj=>by
    have hm:x.qu.sl.getD j default∈x.qu.sl:=j6.mpr ⟨j,by omega,Z⟩
    rcases h.sb hm (hall _ hm) with e | e
    ·grind
    ·exact u3.mpr (.inl e)
   have hlen:=a5l (a5g h.f.qu.sl 4 (Nat.le_refl _)) (b:=x.st) (λq hq=>by
    obtain ⟨w,w1,w2⟩:=(a0o h4).mpr hq
    rw [← w2];exact (h.ac w w1).1)
   rw [b16 4 hact] at hlen
   have:=h.f.sn
   exact b5T (by rw [hst];omega)
structure MG (m:Mach):Prop where
 rt:okRts m.rs m.cp.length=true
 en:m.en.length=8
 ra:m.ra.length=8
 ok:∀k,k < m.cp.length→IG m.rs k (m.cp.getD k default)
theorem c8i (h:a2d x=true) (h2:okRq rs x.qu k=true):IG rs k x:=by
 obtain ⟨f,s,ma,sr⟩:=b2R h
 simp only [a2d,a5o,Bool.and_eq_true,decide_eq_true_eq,F6] at h
 obtain ⟨_,_,_,hl⟩:=h
 simp only [okRq,Bool.and_eq_true,F6] at h2
 obtain ⟨hs,hw⟩:=h2
 have hp:=a1Q.mp sr
 have h4:=f.qu.sl.len
 have hsl:∀y∈x.qu.sl,y.s≠3/\(y.s=0∨Rt rs k (wOf y)):=λy hy=>by
  obtain ⟨j,hj,rfl⟩:=j6.mp hy
  exact a5h.mp (hs j J)
 have hnd:x.st.Nodup:=hp.nodup_iff.mpr (a5g f.qu.sl 4 (Nat.le_refl _))
 have hac:∀w∈actL x.qu.sl,w.q∈x.st/\Rt rs k w:=λw hw=>by
  grind [a0o,C6,u3]
 have hpp:∀w,Pn x.qu w→w.q∉x.st/\Rt rs k w:=by
  intro w hw'
  have key:w.q∈x.st→∃j,j < 4/\R7 (x.qu.sl.getD j default)=true/\(x.qu.sl.getD j default).q=w.q:=λg=>(M7 4).mp (hp.mem_iff.mp g)
  rcases hw' with g | ⟨y,y1,y2,rfl⟩
  ·refine ⟨λq=>?_,?_⟩
   ·obtain ⟨j,j1,j2,j3⟩:=key q
    exact (f.qu.wa w g).2.2 _ (j6.mpr ⟨j,by omega,Z⟩) (by rcases u3.mp j2 with e | e<;>omega) j3
   ·obtain ⟨i,hi,rfl⟩:=j6.mp g
    exact a1R.mp (hw i hi)
  ·obtain ⟨i,hi,rfl⟩:=j6.mp y1
   have e1:(x.qu.sl.getD i default).s=1:=by
    grind [J7]
   refine ⟨λq=>?_,?_⟩
   ·obtain ⟨j,j1,j2,j3⟩:=key q
    have hne:j≠i:=λe=>by subst e;rcases u3.mp j2 with e | e<;>omega
    exact f.qu.sl.ne j1 J hne (by rcases u3.mp j2 with e | e<;>omega) J j3
   grind
 have hdn:∀j,0 < j→j < x.st.length→lvl x.qu.sl (x.st.getD j default) < lvl x.qu.sl (x.st.getD (j - 1) default):=λj h0 hj=>by
  grind [lvD]
 have hlv:∀q∈x.st,lvl x.qu.sl q=prI rs q:=λq hq=>by
  obtain ⟨j,e1,e2,e3,e4⟩:=a4o (a3A (f.st q hq))
  unfold lvl
  rw [e1,Int.toNat_natCast,← e4]
  rcases (hsl _ (j6.mpr ⟨j,e2,Z⟩)).2 with g | g
  ·exact absurd g e3
  ·exact g.2.symm
 refine ⟨f,s,ma,hnd,hac,λj h0 hj=>?_,hpp⟩
 grind
theorem IG.ok (h:IG rs k x):a2d x=true/\okRq rs x.qu k=true:=by
 have h4:=h.f.qu.sl.len
 constructor
 ·simp only [a2d,a5o,Bool.and_eq_true,decide_eq_true_eq,F6]
  refine ⟨v8.mpr h.ma,a69.mpr ⟨h.f.qu,h.s⟩,a1Q.mpr (b2N h.nd (λq hq=>(a0o h4).mp (h.f.st q hq)) (a5l (a5g h.f.qu.sl 4 (Nat.le_refl _)) λq hq=>?_)),λi hi=>?_⟩
  ·obtain ⟨w,w1,w2⟩:=(a0o h4).mpr hq
   rw [← w2];exact (h.ac w w1).1
  ·rcases Nat.eq_zero_or_pos i with g | g
   ·subst g;exact b84
   ·refine b85 ?_
    rw [h.lv (j6.mpr ⟨i,hi,Z⟩),h.lv (j6.mpr ⟨i - 1,by omega,Z⟩)]
    exact h.dn i g hi
 ·simp only [okRq,Bool.and_eq_true,F6]
  refine ⟨λi hi=>a5h.mpr ?_,λi hi=>a1R.mpr (h.pp _ (.inl (j6.mpr ⟨i,hi,Z⟩))).2⟩
  have hm:x.qu.sl.getD i default∈x.qu.sl:=j6.mpr ⟨i,by omega,Z⟩
  refine ⟨h.no3 hm,?_⟩
  by_cases h0:(x.qu.sl.getD i default).s=0
  ·exact .inl h0
  ·exact .inr (h.rt hm h0)
theorem mG:a0A m=true↔MG m:=by
 constructor
 ·intro h
  have hF:=maF h
  simp only [a0A,a7i,Bool.and_eq_true,decide_eq_true_eq,F6] at h
  exact ⟨hF.rt,hF.en,hF.ra,λk hk=>c8i (h.2.2.2 k hk).1 (h.2.2.2 k hk).2⟩
 ·intro h
  simp only [a0A,a7i,Bool.and_eq_true,decide_eq_true_eq,F6]
  exact ⟨h.rt,h.en,h.ra,λk hk=>(h.ok k hk).ok⟩
theorem MG.G (h:MG m):MaG m:=(maF (mG.mpr h)).g
theorem b4l {po:List Bool} {l:List Int} (hp:po.length=8) (hl:∀j,j < l.length→0<=l.getD j default/\l.getD j default<=7) {i:Nat}:∀n,n<=l.length→((b2T po l n).getD i default=true↔po.getD i default=true∨∃j,j < n/\l.getD j default=i)
 | 0,_=>⟨.inl,λh=>by
  rcases h with h | ⟨j,h,_⟩
  ·exact h
  ·omega⟩
 | n+1,hn=>by
  have ih:=b4l hp hl (i:=i) n J
  have hb:=hl n J
  rw [a0g,M6 (by rw [I8];omega)]
  grind
theorem b6A {m:Mach} (h:∀k,k < m.cp.length→QF (m.cp.getD k default).qu) {i:Nat}:∀n,n<=m.cp.length→((poN m n).getD i default=true↔∃c w,c < n/\Pn (m.cp.getD c default).qu w/\w.q=i)
 | 0,_=>by
  refine ⟨λg=>?_,λ⟨c,_,g,_⟩=>by omega⟩
  change (List.replicate 8 false).getD i default=true at g
  rw [List.getD_eq_getElem?_getD,List.getElem?_replicate] at g
  split at g<;>cases g
 | n+1,hn=>by
  have ih:=b6A h (i:=i) n J
  have hq:=h n J
  rw [b39,b4l (J8 n) (λj hj=>a9E hq hj) _ (Nat.le_refl _),ih]
  have e:(∃j,j < (C7 (m.cp.getD n default).qu).length/\(C7 (m.cp.getD n default).qu).getD j default=(i:Int))↔∃w,Pn (m.cp.getD n default).qu w/\w.q=i:=by rw [← j6,c1K hq]
  grind
theorem MG.po (h:MG m) {i:Nat}:(R8 m).po.getD i default=true↔∃c w,c < m.cp.length/\Pn (m.cp.getD c default).qu w/\w.q=i:=b6A (λk hk=>(h.ok k hk).f.qu) _ (Nat.le_refl _)
theorem MG.pok (h:MG m) {i k:Nat} (hk:k < m.cp.length):((R8 m).po.getD i default=true/\(m.rs.getD i default).t=k)↔∃w,Pn (m.cp.getD k default).qu w/\w.q=i:=by
 rw [h.po]
 constructor
 ·rintro ⟨⟨c,w,g1,g2,g3⟩,g4⟩
  have:=((h.ok c g1).pp w g2).2.1
  rw [g3] at this
  have:(m.rs.getD i default).t=c:=this
  grind
 ·rintro ⟨w,g1,g2⟩
  refine ⟨⟨k,w,hk,g1,g2⟩,?_⟩
  have:=((h.ok k hk).pp w g1).2.1
  rw [g2] at this
  exact this
theorem MG.pr (h:MG m) {i:Nat} (hi:i < 8):0<=(m.rs.getD i default).p/\(m.rs.getD i default).p<=15:=((H1.mp h.rt).2.2 i hi).1
theorem MG.tg (h:MG m) {i:Nat} (hi:i < 8):(m.rs.getD i default).t=tgM m i/\tgM m i < m.cp.length:=by
 have:=((H1.mp h.rt).2.2 i hi).2
 unfold tgM
 omega
theorem MG.st (hk:k < m.cp.length):(R8 m).st.getD k default=(m.cp.getD k default).st:=a0f (f:=λx:Ifc=>x.st) hk
theorem MG.mak (hk:k < m.cp.length):(R8 m).ma.getD k default=(m.cp.getD k default).ma:=a0f (f:=λx:Ifc=>x.ma) hk
theorem MG.nx (h:MG m) {k:Nat} (hk:k < m.cp.length):(okT (m.cp.getD k default)=true→B8 m.rs (R8 m) k=tkI (m.cp.getD k default).qu.sl)/\(okT (m.cp.getD k default)=false→B8 m.rs (R8 m) k=-1):=(h.ok k hk).next (MG.st hk) (MG.mak hk) (λi hi=>h.pr hi) (λi _=>h.pok hk)
theorem MG.put (h:MG m) {k:Nat} {x:Ifc} (hx:IG m.rs k x):MG ⟨m.rs,m.en,m.ra,m.cp.set k x⟩:=by
 refine ⟨by show okRts m.rs (m.cp.set k x).length=true;rw [List.length_set];exact h.rt,h.en,h.ra,λj hj=>?_⟩
 have hj:j < (m.cp.set k x).length:=hj
 rw [List.length_set] at hj
 show IG m.rs j ((m.cp.set k x).getD j default)
 by_cases e:k=j
 ·grind
 ·rw [List.getD_eq_getElem?_getD,List.getElem?_set_ne e,← List.getD_eq_getElem?_getD];exact h.ok j hj
structure ExY (m:Mach) (x:Lg) (s:ByteArray):Prop where
 co:okCo m x=true
 ok:okCo (exC m x s).1 (exC m x s).2.1=true
 lg:okLg (exC m x s).2.1=true
 lr:lrT (exC m x s).2.1=lrT x++[⟨s,(exC m x s).2.2⟩]
 n:(exC m x s).2.1.n=x.n+1
 d:(exC m x s).2.1.d=x.d
theorem ExY.len {x:Lg} {s:ByteArray} (h:ExY m x s):((lrT (exC m x s).2.1).length:Int)=x.n+1:=by rw [c6d h.lg,h.n]
theorem c6g {m:Mach} {y:Lg} {t:ByteArray}:(scT m y t).1.length<=t.size+1:=by
 unfold scT
 split
 ·show (a3Q m y t _).length<=_
  rw [W8]
  exact F7.2
 ·exact Nat.zero_le _
end Go.Rf
namespace Go.Rf
theorem rfb :
 ((∀(p:Prop) [Decidable p],(decide p=true)=p)/\(∀(p:Prop) [Decidable p],(decide p=false)↔¬p) /\
 (∀{α:Type} [BEq α] [LawfulBEq α] {a b:α},a==b↔a=b)/\(∀{α:Type} [BEq α] [LawfulBEq α] {a b:α},a != b↔a≠b)/\(∀{α:Type} (a b:α),(a≠b)=¬(a=b))) /\
 ((∀b:Bool,((!b)=true)=(b=false))/\(∀b:Bool,((!b)=false)=(b=true)) /\
 (∀{α:Type} [BEq α] [LawfulBEq α] {a b:α},(a==b)=false↔a≠b)/\(∀{α:Type} [BEq α] [LawfulBEq α] {a b:α},(a != b)=false↔a=b) /\
 (∀b:Bool,(¬(b=true))=(b=false))/\(∀b:Bool,(¬(b=false))=(b=true))) /\
 ((∀{a b:Int},¬(a < b)↔b<=a)/\(∀{a b:Int},¬(a<=b)↔b < a)/\(∀{a b:Int},a > b↔b < a)/\(∀{a b:Int},a≥b↔b<=a)) /\
 ((∀a b:Bool,((a && b)=true)=(a=true/\b=true))/\(∀{a b:Bool},(a && b)=false↔a=false∨b=false)/\(∀a b:Bool,((a || b)=true)=(a=true∨b=true))/\(∀{a b:Bool},(a || b)=false↔a=false/\b=false)) :=
 ⟨⟨λp _=>decide_eq_true_eq,λp _=>decide_eq_false_iff_not,beq_iff_eq,bne_iff_ne,λa b=>ne_eq a b⟩,⟨Bool.not_eq_true',Bool.not_eq_false',beq_eq_false_iff_ne,bne_eq_false_iff_eq,Bool.not_eq_true,Bool.not_eq_false⟩,⟨Int.not_lt,Int.not_le,gt_iff_lt,ge_iff_le⟩,⟨Bool.and_eq_true,Bool.and_eq_false_iff,Bool.or_eq_true,Bool.or_eq_false_iff⟩⟩
end Go.Rf
namespace Go.Rf
open Go Go.RowKit
section
variable {P:Program} [Env P] {w0:Base} {ops:Array Oper} {tb:List (Nat×TyI)} {o:Oper} {T:List (Nat×AV)} {m m0:List (Nat×Option Row)} {nx nt d fuel:Nat} {Q:Exit→St→Prop} {S:St} {A K:St→Prop} {c:Code} {listed:Array Bool} {b:Base} {r:AV} {id:Nat}
theorem b4m {t:TypeId} {x:Operand} {k off ft id a0:Nat} {fs:List (Nat×Nat)} {zs:List Value} (G:Good P tb) (ho:o.op=.fieldAddr t x k) (hx:ev T x=some (.ptr id a0)) (ht:look t tb=some (.struct fs zs)) (hk:nth fs k=some (off,ft)):QStep P o T m nx nt (.ptr id (Nat.add a0 off)):=d3 G ho ht hk hx
theorem b5s {t:TypeId} {x:Operand} {i:TyI} {id off:Nat} {cs:List AV} (G:Good P tb) (ho:o.op=.load t x) (hx:ev T x=some (.ptr id off)) (hm:mem m id=some (.box cs)) (hr:nth cs off=some r) (ht:look t tb=some i) (hf:a0T i=true) (hd:b2h r=true):QStep P o T m nx nt r:=f7 G ho ht hf hx hm hr hd
theorem c8j {t:TypeId} {x:Operand} {i:TyI} {id off sz:Nat} {cs:List AV} {z:Value} {ys:List (List Value)} (G:Good P tb) (ho:o.op=.load t x) (hx:ev T x=some (.ptr id off)) (hm:mem m id=some (.box cs)) (hr:nth cs off=some (.pin z sz ys)) (ht:look t tb=some i) (hf:a0T i=true):QStep P o T m nx nt (.lst sz ys):=a1K (f7 G ho ht hf hx hm hr Z)
theorem c8k {t:TypeId} {x:Operand} {i:TyI} {id off sz:Nat} {cs:List AV} {z:Option Value} {yss:List (List CI)} (G:Good P tb) (ho:o.op=.load t x) (hx:ev T x=some (.ptr id off)) (hm:mem m id=some (.box cs)) (hr:nth cs off=some (.nst z sz yss)) (hd:b2h (.nst z sz yss)=true) (ht:look t tb=some i) (hf:a0T i=true):QStep P o T m nx nt (.nst none sz yss):=b1v (f7 G ho ht hf hx hm hr hd)
theorem a7w {t:TypeId} {x:Operand} {fs:List (Nat×Nat)} {zs:List Value} {id off:Nat} {cs rs:List AV} (G:Good P tb) (ho:o.op=.load t x) (hx:ev T x=some (.ptr id off)) (hm:mem m id=some (.box cs)) (ht:look t tb=some (.struct fs zs)) (hr:a3N zs.length (a0S off cs) []=some rs) (hd:a5y rs=true):QStep P o T m nx nt (.agg rs):=d1 G ho ht hx hm hr hd
theorem b5t {t:TypeId} {x:Operand} {i:TyI} {c:List Value} {u:Value} (G:Good P tb) (ho:o.op=.load t x) (hx:ev T x=some (.ept c)) (hr:nth c 0=some u) (ht:look t tb=some i) (hf:a0T i=true):QStep P o T m nx nt (.v u):=a5O G ho ht hf hx hr
theorem a7x {t:TypeId} {x:Operand} {fs:List (Nat×Nat)} {zs:List Value} {c us:List Value} (G:Good P tb) (ho:o.op=.load t x) (hx:ev T x=some (.ept c)) (ht:look t tb=some (.struct fs zs)) (hr:a3N zs.length c []=some us):QStep P o T m nx nt (.agg (avR us [])):=a1A G ho ht hx hr
theorem c8l {x:Operand} {t e sz by_ n:Nat} {zs:List Value} {ax:AV} (G:Good P tb) (ho:o.op=.call { callee:=.builtin .len,args:=#[x],argTypes:=#[t] }) (hx:ev T x=some ax) (hn:b6S m ax=some n) (ht:look t tb=some (.slice e sz by_ zs)):QStep P o T m nx nt (.v (.int .i64 n)):=K0 G ho ht hx hn
theorem c6h {x:Operand} {t e sz by_ n n':Nat} {zs:List Value} {ax:AV} (G:Good P tb) (ho:o.op=.call { callee:=.builtin .len,args:=#[x],argTypes:=#[t] }) (hx:ev T x=some ax) (hn:b6S m ax=some n) (he:n=n') (ht:look t tb=some (.slice e sz by_ zs)):QStep P o T m nx nt (.v (.int .i64 n')):=E1 G ho ht hx hn he
theorem a4w {x y:Operand} {t e sz by_:Nat} {zs:List Value} {ys:List (List Value)} {k:IntKind} {i:Int} {c:List Value} (G:Good P tb) (ho:o.op=.indexAddr t x y) (hx:ev T x=some (.lst sz ys)) (hy:ev T y=some (.v (.int k i))) (h0:0<=i) (hc:ys[i.toNat]?=some c) (ht:look t tb=some (.slice e sz by_ zs)):QStep P o T m nx nt (.ept c):=O8 G ho ht hx hy h0 hc
def Ph (n:Nat) (p:Prop):Prop:=p
structure Hd (q:Prop):Prop where o:q
structure Sg (P:Program) [Env P] (o:Oper) (T:List (Nat×AV)) (m:List (Nat×Option Row)) (nx nt:Nat) (K:AV→Prop):Prop where o:∃r,QStep P o T m nx nt r/\K r
theorem Sg.of {K:AV→Prop} (h:QStep P o T m nx nt r) (k:K r):Sg P o T m nx nt K:=⟨r,h,k⟩
theorem b28 [EnvAt P w0] {l:List Oper} {Q:Exit→St→Prop} (hd:o.dst=some d) (hlt:Nat.blt d nt=true) (h:Sg P o T m nx nt (λr=>WL P w0 ops l ⟨(d,r) :: T,m,nx,nt⟩ Q)):WX P w0 ops o l ⟨T,m,nx,nt⟩ Q:=h.o.elim λ_ h=>b5 hd hlt h.1 h.2
theorem b29 [EnvAt P w0] {l:List Oper} {K:List (Nat×AV)→Prop} (hd:o.dst=some d) (hlt:Nat.blt d nt=true) (h:Sg P o T m nx nt (λr=>QL P w0 ops l ((d,r) :: T) m nx nt K)):QX P w0 ops o l T m nx nt K:=h.o.elim λ_ h=>g8 hd hlt h.1 h.2
theorem c8m [EnvAt P b] {o1:Option Nat} {o2:Op} {o3:TypeId} {o4:String} {o5:Array Edge} {o6:Option (Nat×Bool)} {i:Nat} (hi:ops[i]?=some ⟨o1,o2,o3,o4,o5,o6⟩) (hg:o6=none) (hd:o1=some d) (hlt:Nat.blt d nt=true) (hf:Region.free .any ops listed i=true) (hr:(Region.ready .any ops listed).contains i=true) (hp:a5V o2=true) (h:Sg P ⟨o1,o2,o3,o4,o5,o6⟩ T m0 nx nt (λr=>WA P b ops m0 fuel (listed.setIfInBounds i true) ⟨(d,r) :: T,m,nx,nt⟩ A)):Ph i (WA P b ops m0 (fuel+1) listed ⟨T,m,nx,nt⟩ A):=h.o.elim λ_ h=>d5 i hi hf hr hp hg hd hlt h.1 h.2
theorem c8n [EnvAt P b] {o1:Option Nat} {o2:Op} {o3:TypeId} {o4:String} {o5:Array Edge} {o6:Option (Nat×Bool)} {i j gd:Nat} {want:Bool} (hi:ops[i]?=some ⟨o1,o2,o3,o4,o5,o6⟩) (hg:o6=some (j,want)) (hj:(ops[j]?).bind (·.dst)=some gd) (hb:look gd T=some (.v (.bool want))) (hd:o1=some d) (hlt:Nat.blt d nt=true) (hf:Region.free .any ops listed i=true) (hr:(Region.ready .any ops listed).contains i=true) (hp:a5V o2=true) (h:Sg P ⟨o1,o2,o3,o4,o5,o6⟩ T m0 nx nt (λr=>WA P b ops m0 fuel (listed.setIfInBounds i true) ⟨(d,r) :: T,m,nx,nt⟩ A)):Ph i (WA P b ops m0 (fuel+1) listed ⟨T,m,nx,nt⟩ A):=h.o.elim λ_ h=>V7 i hi hf hr hp hg hj hb hd hlt h.1 h.2
theorem g9 (ms:List Nat) {o1:Option Nat} {o2:Op} {o3:TypeId} {o4:String} {o5:Array Edge} {o6:Option (Nat×Bool)} {i:Nat} {S:St} (hi:ops[i]?=some ⟨o1,o2,o3,o4,o5,o6⟩) (hg:o6=none) (h:WX P b ops ⟨o1,o2,o3,o4,o5,o6⟩ [] S (nq (λS'=>S0 b.n0 S'.m ms []=some m0/\WA P b ops m0 fuel (listed.setIfInBounds i true) S' A))):WB P b ops m0 fuel listed i S A:=f9 ms hi hg h
theorem c8o {i j gd:Nat} {want bb:Bool} (hi:ops[i]?=some o) (hg:o.guard=some (j,want)) (hj:(ops[j]?).bind (·.dst)=some gd) (hb:look gd T=some (.v (.bool bb))) (hne:(bb==want)=false) (hf:Region.free .any ops listed i=true) (hr:(Region.ready .any ops listed).contains i=true) (hd:o.dst=some d) (hlt:Nat.blt d nt=true) (hk:WA P b ops m0 fuel (listed.setIfInBounds i true) ⟨(d,.v undef) :: T,m,nx,nt⟩ A):Ph i (WA P b ops m0 (fuel+1) listed ⟨T,m,nx,nt⟩ A):=a3j i hi hf hr hg hj hb hne hd hlt hk
theorem c8p {i j gd:Nat} {want:Bool} (hi:ops[i]?=some o) (hg:o.guard=some (j,want)) (hj:(ops[j]?).bind (·.dst)=some gd) (hb:look gd T=some (.v undef)) (hf:Region.free .any ops listed i=true) (hr:(Region.ready .any ops listed).contains i=true) (hd:o.dst=some d) (hlt:Nat.blt d nt=true) (hk:WA P b ops m0 fuel (listed.setIfInBounds i true) ⟨(d,.v undef) :: T,m,nx,nt⟩ A):Ph i (WA P b ops m0 (fuel+1) listed ⟨T,m,nx,nt⟩ A):=b62 i hi hf hr hg hj hb hd hlt hk
theorem c1N {x:Operand} {o1:Option Nat} {o3:TypeId} {o4:String} {o5:Array Edge} {o6:Option (Nat×Bool)} {K:AV→Prop} (h:Sg P ⟨o1,.move x,o3,o4,o5,o6⟩ T m nx nt K):Sg P ⟨o1,.move x,o3,o4,o5,o6⟩ T m nx nt K:=h
theorem b7y {x:Operand} {o1:Option Nat} {o3:TypeId} {o4:String} {o5:Array Edge} {o6:Option (Nat×Bool)} {K:AV→Prop} (h:Sg P ⟨o1,.assign x,o3,o4,o5,o6⟩ T m nx nt K):Sg P ⟨o1,.assign x,o3,o4,o5,o6⟩ T m nx nt K:=h
theorem b9Z {t:TypeId} {x:Operand} {k:Nat} {o1:Option Nat} {o3:TypeId} {o4:String} {o5:Array Edge} {o6:Option (Nat×Bool)} {K:AV→Prop} (h:Sg P ⟨o1,.fieldAddr t x k,o3,o4,o5,o6⟩ T m nx nt K):Sg P ⟨o1,.fieldAddr t x k,o3,o4,o5,o6⟩ T m nx nt K:=h
theorem c1O {t:TypeId} {x:Operand} {o1:Option Nat} {o3:TypeId} {o4:String} {o5:Array Edge} {o6:Option (Nat×Bool)} {K:AV→Prop} (h:Sg P ⟨o1,.load t x,o3,o4,o5,o6⟩ T m nx nt K):Sg P ⟨o1,.load t x,o3,o4,o5,o6⟩ T m nx nt K:=h
theorem c6i {u:BinOp} {t t2:TypeId} {x y:Operand} {o1:Option Nat} {o3:TypeId} {o4:String} {o5:Array Edge} {o6:Option (Nat×Bool)} {K:AV→Prop} (h:Sg P ⟨o1,.binOp u t x y t2,o3,o4,o5,o6⟩ T m nx nt K):Sg P ⟨o1,.binOp u t x y t2,o3,o4,o5,o6⟩ T m nx nt K:=h
theorem c1P {c x y:Operand} {o1:Option Nat} {o3:TypeId} {o4:String} {o5:Array Edge} {o6:Option (Nat×Bool)} {K:AV→Prop} (h:Sg P ⟨o1,.pick c x y,o3,o4,o5,o6⟩ T m nx nt K):Sg P ⟨o1,.pick c x y,o3,o4,o5,o6⟩ T m nx nt K:=h
theorem b5u {x:Operand} {k:Nat} {o1:Option Nat} {o3:TypeId} {o4:String} {o5:Array Edge} {o6:Option (Nat×Bool)} {K:AV→Prop} (h:Sg P ⟨o1,.extract x k,o3,o4,o5,o6⟩ T m nx nt K):Sg P ⟨o1,.extract x k,o3,o4,o5,o6⟩ T m nx nt K:=h
theorem c6j {t:TypeId} {x:Operand} {o1:Option Nat} {o3:TypeId} {o4:String} {o5:Array Edge} {o6:Option (Nat×Bool)} {K:AV→Prop} (h:Sg P ⟨o1,.unOp .not t x,o3,o4,o5,o6⟩ T m nx nt K):Sg P ⟨o1,.unOp .not t x,o3,o4,o5,o6⟩ T m nx nt K:=h
theorem b90 {t:TypeId} {l:Array (Nat×Operand)} {o1:Option Nat} {o3:TypeId} {o4:String} {o5:Array Edge} {o6:Option (Nat×Bool)} {K:AV→Prop} (h:Sg P ⟨o1,.build t l,o3,o4,o5,o6⟩ T m nx nt K):Sg P ⟨o1,.build t l,o3,o4,o5,o6⟩ T m nx nt K:=h
theorem b91 {t:TypeId} {x y:Operand} {o1:Option Nat} {o3:TypeId} {o4:String} {o5:Array Edge} {o6:Option (Nat×Bool)} {K:AV→Prop} (h:Sg P ⟨o1,.indexAddr t x y,o3,o4,o5,o6⟩ T m nx nt K):Sg P ⟨o1,.indexAddr t x y,o3,o4,o5,o6⟩ T m nx nt K:=h
theorem c6k {c:Call} {o1:Option Nat} {o3:TypeId} {o4:String} {o5:Array Edge} {o6:Option (Nat×Bool)} {K:AV→Prop} (h:Sg P ⟨o1,.call c,o3,o4,o5,o6⟩ T m nx nt K):Sg P ⟨o1,.call c,o3,o4,o5,o6⟩ T m nx nt K:=h
theorem s9 {x y:Code} {S:St} {Q:Exit→St→Prop} (h:W P w0 x S (sq (λS=>W P w0 y S Q) Q)):W P w0 (.seq x y) S Q:=c1 λK hK=>b4A h λe S' q=>by cases e<;>first | exact hK _ q | exact q
theorem aW {S:St} {Q:Exit→St→Prop} {c:Code} (h:W P w0 c S Q):W P w0 c S Q:=h
theorem aWL {S:St} {Q:Exit→St→Prop} {l:List Oper} (h:WL P w0 ops l S Q):WL P w0 ops l S Q:=h
theorem aWX {S:St} {Q:Exit→St→Prop} {l:List Oper} (h:WX P w0 ops o l S Q):WX P w0 ops o l S Q:=h
theorem aQX {K:List (Nat×AV)→Prop} {l:List Oper} (h:QX P w0 ops o l T m nx nt K):QX P w0 ops o l T m nx nt K:=h
theorem aQL {K:List (Nat×AV)→Prop} {l:List Oper} (h:QL P w0 ops l T m nx nt K):QL P w0 ops l T m nx nt K:=h
end
section
variable {K:St→Prop} {Q:Exit→St→Prop} {S:St} {i id:Nat}
theorem c6l (h:K S):sq K Q .normal S:=h
theorem c6m (h:K S):nq K .normal S:=h
theorem c6n (h:Q (.exit i) S):sq K Q (.exit i) S:=h
theorem c6o (h:Q .ret S):sq K Q .ret S:=h
theorem c6p (h:Q .normal S):bq id Q .normal S:=h
theorem c6q (h:Q .ret S):bq id Q .ret S:=h
theorem c6r (h:Q .normal S):bq id Q (.exit id) S:=by simp only [bq,Nat.beq_refl,cond_true];exact h
theorem c6s (h:Q (.exit i) S) (e:Nat.beq i id=false:=by rfl):bq id Q (.exit i) S:=by simp only [bq,e,cond_false];exact h
end
theorem zq {p q:Prop} (k:q) (h:Hd q→p:=by
 intro kk
 first
  | (with_reducible refine c1N ?_;first | refine Sg.of (b9 Z Z) ?_)
  | (with_reducible refine b7y ?_;first | refine Sg.of (b8 Z Z) ?_)
  | (with_reducible refine b9Z ?_;first | refine Sg.of (b4m G Z Z Z Z) ?_ | refine Sg.of (a8B G Z Z Z Z) ?_)
  | (with_reducible refine c1O ?_;first | refine Sg.of (c8j G Z Z Z Z Z Z) ?_ | refine Sg.of (c8k G Z Z Z Z Z Z) ?_ | refine Sg.of (b5s G Z Z Z Z Z Z Z) ?_ | refine Sg.of (a7w G Z Z Z Z Z Z) ?_ | refine Sg.of (b5t G Z Z Z Z Z) ?_ | refine Sg.of (a7x G Z Z Z Z) ?_ | refine Sg.of (F5 G Z Z Z Z) ?_)
  | (with_reducible refine c6i ?_;first | refine Sg.of (t8 Z Z Z Z) ?_ | refine Sg.of (p5 Z Z Z Z J J) ?_)
  | (with_reducible refine c1P ?_;first | refine Sg.of (A6 Z Z Z) ?_ | refine Sg.of (w5 Z Z Z) ?_)
  | (with_reducible refine b5u ?_;first | refine Sg.of (i1 Z Z Z) ?_)
  | (with_reducible refine c6j ?_;first | refine Sg.of (c0A Z Z) ?_ | refine Sg.of (c0B Z Z) ?_ | refine Sg.of (a1z Z Z) ?_)
  | (with_reducible refine b90 ?_;first | refine Sg.of (w9 G Z Z Z Z) ?_)
  | (with_reducible refine b91 ?_;first | refine Sg.of (a4w G Z Z Z J (R1 J) Z) ?_ | refine Sg.of (a4w G Z Z Z J (A7 J J) Z) ?_ | refine Sg.of (a4w G Z Z Z J (A1 J J) Z) ?_ | refine Sg.of (y7 G Z Z Z Z J (R1 J) Z) ?_ | refine Sg.of (y7 G Z Z Z Z J (A7 J J) Z) ?_ | refine Sg.of (y7 G Z Z Z Z J (A1 J J) Z) ?_)
  | (with_reducible refine c6k ?_;first | refine Sg.of (c6h G Z Z Z (List.length_map _) Z) ?_ | refine Sg.of (c8l G Z Z Z Z) ?_)
 exact kk.o):p:=h ⟨k⟩
theorem zgo {p q:Prop} (k:q) (h:Hd q→p:=by
 intro kk
 first | (with_reducible refine aWX ?_;first | (refine b28 Z Z ?_;refine zq ?_) | refine e9 G Z Z Z Z Z Z Z Z Z Z Z ?_) | (with_reducible refine aQX ?_;first | (refine b29 Z Z ?_;refine zq ?_)) | skip
 repeat (first
  | (with_reducible refine aW ?_;with_reducible first | refine s9 ?_ | refine b6 ?_ | refine o7 ?_ | refine p8 ?_ | refine G2 ?_)
  | (with_reducible refine aWL ?_;first | (refine a7 Z ?_;first | (refine b28 Z Z ?_;refine zq ?_) | refine e9 G Z Z Z Z Z Z Z Z Z Z Z ?_) | (refine o9 Z Z Z ?_;first | (refine b28 Z Z ?_;refine zq ?_) | refine e9 G Z Z Z Z Z Z Z Z Z Z Z ?_) | refine l7 Z Z Z Z Z Z ?_ | refine a7M Z Z Z Z Z ?_ | with_reducible refine b4 ?_)
  | (with_reducible refine aQL ?_;first | (refine c6 Z ?_;first | (refine b29 Z Z ?_;refine zq ?_)) | (refine E9 Z Z Z ?_;first | (refine b29 Z Z ?_;refine zq ?_)) | refine b2e Z Z Z Z Z Z ?_ | refine a7N Z Z Z Z Z ?_ | with_reducible refine S4 ?_)
  | (with_reducible first | refine c6l ?_ | refine c6m ?_ | refine c6p ?_ | refine c6n ?_ | refine c6r ?_ | refine c6o ?_ | refine c6q ?_ | (refine c6s ?_ ?_;rotate_left)))
 exact kk.o):p:=h ⟨k⟩
theorem zgn {p q:Prop} (k:q) (h:Hd q→p:=by
 intro kk
 repeat (with_reducible first | refine s9 ?_ | refine b6 ?_ | refine o7 ?_)
 first | (with_reducible refine aWX ?_;first | (refine b28 Z Z ?_;refine zq ?_) | refine e9 G Z Z Z Z Z Z Z Z Z Z Z ?_) | (with_reducible refine aQX ?_;first | (refine b29 Z Z ?_;refine zq ?_)) | skip
 repeat (first
  | (with_reducible refine aWL ?_;first | (refine a7 Z ?_;first | (refine b28 Z Z ?_;refine zq ?_) | refine e9 G Z Z Z Z Z Z Z Z Z Z Z ?_) | (refine o9 Z Z Z ?_;first | (refine b28 Z Z ?_;refine zq ?_) | refine e9 G Z Z Z Z Z Z Z Z Z Z Z ?_) | refine l7 Z Z Z Z Z Z ?_ | refine a7M Z Z Z Z Z ?_)
  | (with_reducible refine aQL ?_;first | (refine c6 Z ?_;first | (refine b29 Z Z ?_;refine zq ?_)) | (refine E9 Z Z Z ?_;first | (refine b29 Z Z ?_;refine zq ?_)) | refine b2e Z Z Z Z Z Z ?_ | refine a7N Z Z Z Z Z ?_))
 with_reducible first | refine b4 ?_ | refine S4 ?_ | refine p8 ?_ | refine G2 ?_
 repeat (with_reducible first | refine c6l ?_ | refine c6m ?_ | refine c6p ?_ | refine c6n ?_ | refine c6r ?_ | refine c6o ?_ | refine c6q ?_ | (refine c6s ?_ ?_;rotate_left))
 exact kk.o):p:=h ⟨k⟩
theorem znk {p q:Prop} (k:q) (h:Hd q→p:=by
 intro kk
 repeat (with_reducible first | refine c6l ?_ | refine c6m ?_ | refine c6p ?_ | refine c6n ?_ | refine c6r ?_ | refine c6o ?_ | refine c6q ?_ | (refine c6s ?_ ?_;rotate_left))
 exact kk.o):p:=h ⟨k⟩
theorem zst {p q:Prop} (k:q) (h:Hd q→p:=by
 intro kk
 first
  | (with_reducible refine aWX ?_;first | (refine b28 Z Z ?_;refine zq ?_) | refine e9 G Z Z Z Z Z Z Z Z Z Z Z ?_)
  | (with_reducible refine aQX ?_;first | (refine b29 Z Z ?_;refine zq ?_))
  | (with_reducible refine aWL ?_;first | (refine a7 Z ?_;first | (refine b28 Z Z ?_;refine zq ?_) | refine e9 G Z Z Z Z Z Z Z Z Z Z Z ?_) | (refine o9 Z Z Z ?_;first | (refine b28 Z Z ?_;refine zq ?_) | refine e9 G Z Z Z Z Z Z Z Z Z Z Z ?_) | refine l7 Z Z Z Z Z Z ?_ | refine a7M Z Z Z Z Z ?_)
  | (with_reducible refine aQL ?_;first | (refine c6 Z ?_;first | (refine b29 Z Z ?_;refine zq ?_)) | (refine E9 Z Z Z ?_;first | (refine b29 Z Z ?_;refine zq ?_)) | refine b2e Z Z Z Z Z Z ?_ | refine a7N Z Z Z Z Z ?_)
 exact kk.o):p:=h ⟨k⟩
theorem zgd {p q:Prop} (k:q) (h:Hd q→p:=by
 intro kk
 refine zgo ?_
 refine I2 mixed (by kernel_rfl) ?_
 exact kk.o):p:=h ⟨k⟩
theorem zcd {p a b:Prop} {q1:a→Prop} {q2:b→Prop} (k1:∀h,q1 h) (k2:∀h,q2 h) (h:Hd (∀h,q1 h)→Hd (∀h,q2 h)→p:=by
 intro k1 k2
 refine zgo ?_
 first | refine l4 Z (λhc=>?_) (λhc=>?_) | refine A5 Z Z Z (λhc=>?_) (λhc=>?_) | refine b2f Z Z Z (λhc=>?_) (λhc=>?_)
 ·(try rw [hc]);(try simp only [rfb] at hc);exact k1.o hc
 ·(try rw [hc]);(try simp only [rfb] at hc);exact k2.o hc):p:=h ⟨k1⟩ ⟨k2⟩
theorem zwt {p q:Prop} (k:q) (h:Hd q→p:=by
 intro kk
 refine zgo ?_
 refine J4 Z ?_
 exact kk.o):p:=h ⟨k⟩
theorem zwf {p q:Prop} (k:q) (h:Hd q→p:=by
 intro kk
 refine zgo ?_
 refine a27 Z ?_
 exact kk.o):p:=h ⟨k⟩
theorem zf1 {p q:Prop} (k:q) (h:Hd q→p:=by
 intro kk
 refine zgo ?_
 refine d8 (O3 Z (j8 ?_))
 exact kk.o):p:=h ⟨k⟩
theorem zfo {p q:Prop} (k:q) (h:Hd q→p:=by
 intro kk
 refine zgo ?_
 refine d8 (O3 Z (c8 Z ?_))
 exact kk.o):p:=h ⟨k⟩
theorem zcl {p q c:Prop} (x:c) (k:q) (h:c→Hd q→p:=by
 intro x kk
 refine zgo ?_
 first | exact a7 Z (b5 Z Z (j4 Z (ArgsOK.of Z) x Z) kk.o) | exact o9 Z Z Z (b5 Z Z (j4 Z (ArgsOK.of Z) x Z) kk.o) | exact c6 Z (g8 Z Z (j4 Z (ArgsOK.of Z) x Z) kk.o) | exact E9 Z Z Z (g8 Z Z (j4 Z (ArgsOK.of Z) x Z) kk.o)):p:=h x ⟨k⟩
theorem zsa (n:Nat) {p q:Prop} (k:q) (h:Hd q→Ph n p:=by
 intro kk
 first
 | (refine c8m Z Z Z Z (by kernel_rfl) (by kernel_rfl) Z ?_;refine zq ?_)
 | (refine c8n Z Z Z Z Z Z (by kernel_rfl) (by kernel_rfl) Z ?_;refine zq ?_)
 | refine c8o Z Z Z Z Z (by kernel_rfl) (by kernel_rfl) Z Z ?_
 | refine c8p Z Z Z Z (by kernel_rfl) (by kernel_rfl) Z Z ?_
 exact kk.o):p:=h ⟨k⟩
theorem Y {p:Prop} (h:p:=by kernel_rfl):p:=h
end Go.Rf
