/- Texts merged into one: RfNZ, RfXD, RfMR, RfCC, Rf6, RfCJ, RfCD, RfCI, RfCE, Rf7, RfCF, RfCG, RfNI, RfSR. -/
import Derived.Test.YtpfhomblkgmkkaaGreatDoorLibD
import Derived.KernelRfl
set_option linter.unusedSectionVars false
set_option linter.unusedSimpArgs false
set_option linter.unusedVariables false
namespace Go.Rf
open Go Go.RowKit
section
variable {P:Program} [Env P] {w0:Base} {ops:Array Oper} {tb:List (Nat×TyI)} {o:Oper} {rest:List Oper} {T:List (Nat×AV)} {m:List (Nat×Option Row)} {nx nt d:Nat} {Q:Exit→St→Prop}
theorem c1a [EnvAt P w0] {f:FuncId} {fn:Func} {c:Code} {as:Array Operand} {ts:Array TypeId} {args:List AV} {n:Nat} (hd:o.dst=some d) (hlt:Nat.blt d nt=true) (ho:o.op=.call { callee:=.value (.func f),args:=as,argTypes:=ts })
 (hf:P.funcs[f]?=some fn) (hb:fn.body=some c) (hname:(fn.name == "runtime.NumGoroutine")=false) (hl:fn.results=#[]) (hn:fn.ntmps=n) (hlen:Nat.ble args.length n=true) (ha:evL T as.toList []=some args)
 (h:∃m1 n1,(∀b:Base,[EnvAt P b]→b.n0=nx→W P b c ⟨a4H args 0,m,nx,n⟩ (c65 m1 n1))/\Nat.ble nx n1=true/\WL P w0 ops rest ⟨(d,.tup []) :: T,m1,n1,nt⟩ Q):WX P w0 ops o rest ⟨T,m,nx,nt⟩ Q:=by
 obtain ⟨m1,n1,h1,h2,h3⟩:=h
 exact c5f m1 n1 hd hlt ho hf hb hname hl hn hlen ha h2 h1 h3
end
variable {a b:List CI} {c:CI} {eS eW:Nat} {w:World} {x y yss yss':List (List CI)} {ys:List (List Value)} {ρ:Nat→Value}
def CILe (c c':CI):Prop:=c=c'∨∃e sz ys f,c=.l e sz ys f/\c'=.l e sz ys true
def FlR (a b:List CI):Prop:=a.length=b.length/\∀(k:Nat) (c':CI),b[k]?=some c'→∃c,a[k]?=some c/\CILe c c'
def FlLe (x y:List (List CI)):Prop:=x.length=y.length/\∀(i:Nat) (b:List CI),y[i]?=some b→∃a,x[i]?=some a/\FlR a b
theorem FlR.nil:FlR [] []:=⟨Z,λk c' h=>by simp at h⟩
theorem FlR.cons {c':CI} (h:CILe c c') (hr:FlR a b):FlR (c :: a) (c' :: b):=⟨by simp [hr.1],λk d hd=>by
 match k with
 | 0=>exact ⟨c,Z,by simp at hd;subst hd;exact h⟩
 | k+1=>exact hr.2 k d (by simpa using hd)⟩
theorem FlR.rfl':FlR a a:=⟨Z,λk c h=>⟨c,h,.inl Z⟩⟩
theorem CILe.s:CILe c c:=.inl Z
theorem CILe.t {e sz:Nat} {f:Bool}:CILe (.l e sz ys f) (.l e sz ys true):=.inr ⟨e,sz,ys,f,Z,Z⟩
theorem FlLe.refl:FlLe x x:=⟨Z,λi b h=>⟨b,h,FlR.rfl'⟩⟩
theorem FlLe.map {α:Type} {f g:α→List CI} {xs:List α} (h:∀x,FlR (f x) (g x)):FlLe (xs.map f) (xs.map g):=⟨by simp,λi b hb=>by
 rw [List.getElem?_map] at hb
 obtain ⟨x,hx,rfl⟩:=Option.map_eq_some_iff.1 hb
 exact ⟨f x,by rw [List.getElem?_map,hx];rfl,h x⟩⟩
theorem FlLe.set {i:Nat} (h:FlLe x y) (hr:FlR a b):FlLe (x.set i a) (y.set i b):=⟨by simp [h.1],λj c hc=>by
 by_cases e:i=j
 ·subst e
  have hl:i < y.length:=by
   grind
  rw [List.getElem?_set_self (by simpa using hl)] at hc
  cases hc
  exact ⟨a,by rw [List.getElem?_set_self (by rw [h.1];exact hl)],hr⟩
 ·rw [List.getElem?_set_ne e] at hc ⊢
  exact h.2 j c hc⟩
theorem FlLe.trans {z:List (List CI)} (h:FlLe x y) (h':FlLe y z):FlLe x z:=⟨h.1.trans h'.1,λi b hb=>by
 obtain ⟨a,ha,hr⟩:=h'.2 i b hb
 obtain ⟨a2,ha2,hr2⟩:=h.2 i a ha
 refine ⟨a2,ha2,hr2.1.trans hr.1,λk c hc=>?_⟩
 obtain ⟨d,hd,hd'⟩:=hr.2 k c hc
 obtain ⟨d2,hd2,hd2'⟩:=hr2.2 k d hd
 refine ⟨d2,hd2,?_⟩
 rcases hd2' with rfl | ⟨e,sz,ys,f,rfl,rfl⟩
 ·exact hd'
 ·rcases hd' with rfl | ⟨e2,sz2,ys2,f2,q1,rfl⟩
  ·exact .inr ⟨e,sz,ys,f,Z,Z⟩
  ·cases q1;exact .inr ⟨e,sz,ys,f,Z,Z⟩⟩
theorem FlLe.nget (h:FlLe x y) {i k:Nat} {c':CI} (hc:w7 y i k=some c'):∃c,w7 x i k=some c/\CILe c c':=by
 simp only [Go.Rf.w7] at hc ⊢
 cases hb:y[i]? with
 | none=>rw [hb] at hc;cases hc
 | some b =>
  rw [hb] at hc
  obtain ⟨a,ha,hr⟩:=h.2 i b hb
  obtain ⟨c,h1,h2⟩:=hr.2 k c' hc
  grind
section
variable {w0:Base} {T:List (Nat×AV)} {m:List (Nat×Option Row)} {nx nt:Nat}
theorem Gh.nestF {id e sz:Nat} {yss:List (List CI)} (yss':List (List CI)) (hm:mem m id=some (.nest e sz yss [])) (h:FlLe yss yss'):Gh w0 ⟨T,m,nx,nt⟩ ⟨T,(id,some (.nest e sz yss' [])) :: m,nx,nt⟩:=by
 intro ρ a w hT hC
 obtain ⟨hlt,cells,hN,hop⟩:=hC.nestC hm
 obtain ⟨n1,n2,n3,n4,n5⟩:=hN
 refine ⟨ρ,hT,hC.retell hm (row':=.nest e sz yss' []) ⟨cells,⟨by rw [← h.1];exact n1,by rw [← h.1];exact n2,n3,λcs hcs=>?_,λi k c hc=>?_⟩,λq hq=>by cases hq⟩ λp b hb=>?_⟩
 ·obtain ⟨i,hi,rfl⟩:=List.getElem_of_mem hcs
  obtain ⟨a',ha,hr⟩:=h.2 i _ (List.getElem?_eq_getElem hi)
  rw [← hr.1]
  grind
 ·obtain ⟨d,hd,hle⟩:=h.nget hc
  obtain ⟨u,hu,hr⟩:=n5 i k d hd
  refine ⟨u,hu,?_⟩
  rcases hle with rfl | ⟨e1,sz1,ys,f,rfl,rfl⟩
  ·exact hr
  ·exact ⟨OwnR.gen hr.1,hr.2⟩
 ·have hb:v7 w (ρ id) sz yss' p=some b:=hb
  show v7 w (ρ id) sz yss p=some b
  unfold v7 at hb ⊢
  cases hc:Go.Rf.w7 yss' p.1 p.2 with
  | none=>rw [hc] at hb;cases hb
  | some c =>
   rw [hc] at hb
   obtain ⟨d,hd,hle⟩:=h.nget hc
   rw [hd]
   rcases hle with rfl | ⟨e1,sz1,ys,f,rfl,rfl⟩
   ·exact hb
   ·exact hb
end
section
variable {w0:Base} {T:List (Nat×AV)} {m:List (Nat×Option Row)} {nx nt:Nat}
theorem Gh.bump (nx':Nat) (h:nx<=nx'):Gh w0 ⟨T,m,nx,nt⟩ ⟨T,m,nx',nt⟩:=by
 intro ρ a w hT hC
 refine ⟨ρ,⟨λt x hx=>(hT.tmps t x hx).mono h λ_ _=>Z,hT.size,hT.defers⟩,⟨λid r hr=>?_,hC.apart,hC.below,⟨Nat.le_trans hC.pin.1 h,hC.pin.2⟩,hC.kept,hC.inner⟩⟩
 obtain ⟨h1,h2⟩:=hC.rows id r hr
 refine ⟨Nat.lt_of_lt_of_le h1 h,?_⟩
 cases r
 case box cs =>
  obtain ⟨b,cur,ty,q1,q2,q3,q4,q5⟩:=h2
  exact ⟨b,cur,ty,q1,q2,q3,RelVs.mono h (λ_ _=>Z) _ q4,q5⟩
 case nest e sz yss op =>
  obtain ⟨cells,q1,q2⟩:=h2
  exact ⟨cells,q1,λq hq=>⟨Nat.lt_of_lt_of_le (q2 q hq).1 h,(q2 q hq).2⟩⟩
 all_goals exact h2
end
theorem Ctr.argsTo {P:Program} [Env P] {f:FuncId} {args args':List AV} {res:Res} (h:Ctr P f args res) (ha:∀w vs,RelVs w noRho 0 args' vs→RelVs w noRho 0 args vs):Ctr P f args' res:=⟨h.callable,λw vs he hv=>h.calls w vs he (ha w vs hv)⟩
theorem NReadsAt.fl {sz:Nat} {y:Value} (hf:FlLe yss yss') (h:NReadsAt w sz yss' y):NReadsAt w sz yss y:=by
 obtain ⟨A,cap,he,hc,hl,hr⟩:=h
 refine ⟨A,cap,by rw [he,hf.1],by rw [hf.1];exact hc,λcs hcs=>?_,λh0=>?_⟩
 ·obtain ⟨i,hi,rfl⟩:=List.getElem_of_mem hcs
  have hi':i < yss'.length:=by rw [← hf.1];exact hi
  obtain ⟨a,ha,hr⟩:=hf.2 i _ (List.getElem?_eq_getElem hi')
  rw [List.getElem?_eq_getElem hi] at ha
  cases ha
  rw [hr.1]
  grind
 ·obtain ⟨ad,h1,h2,h3⟩:=hr (by rw [← hf.1];exact h0)
  refine ⟨ad,h1,h2,λi k c hc=>?_⟩
  have:∃c',Go.Rf.w7 yss' i k=some c'/\CILe c c':=by
   simp only [Go.Rf.w7] at hc ⊢
   cases hb:yss[i]? with
   | none=>rw [hb] at hc;cases hc
   | some b =>
    rw [hb] at hc
    have hi:i < yss'.length:=by rw [← hf.1];exact (List.getElem?_eq_some_iff.1 hb).1
    obtain ⟨a,ha,hr⟩:=hf.2 i _ (List.getElem?_eq_getElem hi)
    rw [hb] at ha
    cases ha
    have hc:b[k]?=some c:=hc
    have hk:k < (yss'[i]).length:=by rw [← hr.1];exact (List.getElem?_eq_some_iff.1 hc).1
    obtain ⟨c2,h1,h2⟩:=hr.2 k _ (List.getElem?_eq_getElem hk)
    grind
  obtain ⟨c',hc',hle⟩:=this
  obtain ⟨u,q1,q2,q3⟩:=h3 i k c' hc'
  refine ⟨u,q1,q2,?_⟩
  rcases hle with rfl | ⟨e1,sz1,ys,f,rfl,rfl⟩
  ·exact q3
  ·exact q3
def a1h (eS eW:Nat) (x:Ifc):List CI:=[.v (.int .i64 x.ma),.l 3 1 (x.st.map n8),.l eS 3 (x.qu.sl.map e9),.l eW 2 (x.qu.wa.map f7) true]
theorem flI (x:Ifc):FlR (l6 eS eW x) (a1h eS eW x):=.cons .s (.cons .s (.cons .s (.cons .t .nil)))
theorem flM {xs:List Ifc}:FlLe (xs.map (l6 eS eW)) (xs.map (a1h eS eW)):=FlLe.map flI
theorem c66 {nx:Nat} {a b c:AV} {rest:List AV} (hf:FlLe yss yss'):∀vs,RelVs w ρ nx (.agg [a,b,c,.nst none 4 yss'] :: rest) vs→RelVs w ρ nx (.agg [a,b,c,.nst none 4 yss] :: rest) vs:=by
 intro vs h
 simp only [RelVs,RelV] at h ⊢
 obtain ⟨y,ys',rfl,⟨zs,rfl,y0,t0,rfl,h0,y1,t1,rfl,h1,y2,t2,rfl,h2,y3,t3,rfl,⟨h3,h4⟩,rfl⟩,hr⟩:=h
 exact ⟨_,_,Z,⟨_,Z,_,_,Z,h0,_,_,Z,h1,_,_,Z,h2,_,_,Z,⟨by simp,NReadsAt.fl hf h4⟩,Z⟩,hr⟩
theorem X7 {α:Type} [Inhabited α] {xs:List α} {f:α→List CI} {i:Nat} {c c':List CI} (hi:i < xs.length) (hc:c'=f (xs.getD i default)):((xs.map f).set i c).set i c'=xs.map f:=by
 subst hc
 rw [List.set_set]
 apply List.ext_getElem?
 grind
section
variable {P:Program} [Env P] {w0:Base} {ops:Array Oper} {tb:List (Nat×TyI)} {o:Oper} {rest:List Oper} {T:List (Nat×AV)} {m:List (Nat×Option Row)} {nx nt d:Nat} {Q:Exit→St→Prop} {c:Code}
theorem c1b {t sz:Nat} (ht:look t T=some (.lst sz ys)) (h:∀y,WL P w0 ops rest ⟨(t,.pin y sz ys) :: T,m,nx,nt⟩ Q):WL P w0 ops rest ⟨T,m,nx,nt⟩ Q:=by
 intro ρ a w hT hC
 have h1:=hT.tmps t _ ht
 simp only [RelV] at h1
 refine h (a.tmps.getD t undef) ρ a w ⟨λi x hi=>?_,hT.size,hT.defers⟩ hC
 by_cases e:i=t
 ·grind [n6,RelV]
 ·rw [j2 (λe'=>e e'.symm)] at hi
  exact hT.tmps i x hi
theorem a9R {w0:World} {u:Nat→Value}:∀{cs:List AV} {us:List Value} {k:Nat} {acc rs:List AV} {acc':List Value},a5N cs u k acc=some rs→RelVs w0 ρ nx cs us→(∀j y,us[j]?=some y→(∃A l c,y=.slice A l c)→u (k+j)=y)→RelVs w0 ρ nx acc.reverse acc'→RelVs w0 ρ nx rs (acc'++us)
 | [],us,k,acc,rs,acc',h,hr,_,ha=>by
  simp [a5N,B2] at h
  simp only [RelVs] at hr
  subst h;subst hr
  simpa using ha
 | x :: cs,_,k,acc,rs,acc',h,hr,hu,ha=>by
  simp only [RelVs] at hr
  obtain ⟨y,us,rfl,h1,h2⟩:=hr
  have h0:(∃A l c,y=.slice A l c)→u k=y:=λhs=>by simpa using hu 0 y Z hs
  have key:∀(a:AV),RelV w0 ρ nx a y→a5N cs u (Nat.succ k) (a :: acc)=some rs→RelVs w0 ρ nx rs (acc'++y :: us):=λa hy h'=>by
   have:=a9R h' h2 (λj y hj=>by rw [show Nat.succ k+j=k+(j+1) by omega];exact hu (j+1) y (by simpa using hj)) (acc':=acc'++[y]) (by
    rw [List.reverse_cons]
    refine RelVs.append _ ha ?_
    simp only [RelVs]
    exact ⟨_,_,Z,hy,Z⟩)
   simpa using this
  cases x<;>simp only [a5N] at h
  case lst sz ys=>exact key _ (by simp only [RelV] at h1 ⊢;obtain ⟨A,c,e,_⟩:=id h1;exact ⟨(h0 ⟨_,_,_,e⟩).symm,h1⟩) h
  case nst z sz ys=>exact key _ (by simp only [RelV] at h1 ⊢;obtain ⟨_,A,c,e,_⟩:=id h1;exact ⟨λv hv=>by cases hv;exact (h0 ⟨_,_,_,e⟩).symm,h1.2⟩) h
  all_goals exact key _ h1 h
theorem c5g (t:Nat) {cs:List AV} (ht:look t T=some (.agg cs)) {rs:(Nat→Value)→List AV} (hr:∀u,a5N cs u 0 []=some (rs u)) (h:∀u:Nat→Option Addr×Nat×Nat,W P w0 c ⟨(t,.agg (rs λj=>.slice (u j).1 (u j).2.1 (u j).2.2)) :: T,m,nx,nt⟩ Q):W P w0 c ⟨T,m,nx,nt⟩ Q:=by
 intro ρ a w hT hC
 have h1:=hT.tmps t _ ht
 simp only [RelV] at h1
 obtain ⟨us,he,h1⟩:=h1
 let p:Value→Option Addr×Nat×Nat:=λv=>match v with
  | .slice A l c=>(A,l,c)
  | _=>(none,0,0)
 let u:Nat→Option Addr×Nat×Nat:=λi=>p (us.getD i undef)
 refine h u ρ a w ⟨λi x hi=>?_,hT.size,hT.defers⟩ hC
 by_cases e:i=t
 ·subst e
  rw [n6] at hi
  cases hi
  simp only [RelV]
  have key:∀j y,us[j]?=some y→(∃A l c,y=.slice A l c)→(λj=>Value.slice (u j).1 (u j).2.1 (u j).2.2) (0+j)=y:=λj y hj hs=>by
   grind
  have:=a9R (acc':=[]) (hr λj=>.slice (u j).1 (u j).2.1 (u j).2.2) h1 key (by simp [RelVs])
  grind
 ·rw [j2 (λe'=>e e'.symm)] at hi
  exact hT.tmps i x hi
end
def a7c (x:Ifc):List CI:=[.x,.x,.x,.x]
section
variable {w0:Base} {T:List (Nat×AV)} {m:List (Nat×Option Row)} {nx nt:Nat}
theorem Gh.nestX {id e:Nat} {yss:List (List CI)} (xs:List Ifc) (hm:mem m id=some (.nest e 4 yss [])) (h:yss.length=xs.length):Gh w0 ⟨T,m,nx,nt⟩ ⟨T,(id,some (.nest e 4 (xs.map a7c) [])) :: m,nx,nt⟩:=by
 intro ρ a w hT hC
 obtain ⟨hlt,cells,hN,hop⟩:=hC.nestC hm
 obtain ⟨n1,n2,n3,n4,n5⟩:=hN
 have hx:∀{i k:Nat} {c:CI},w7 (xs.map a7c) i k=some c→c=.x/\i < xs.length/\k < 4:=λ{i k c} hc=>by
  simp only [w7,List.getElem?_map] at hc
  cases hi:xs[i]? with
  | none=>rw [hi] at hc;cases hc
  | some x =>
   grind [a7c]
 refine ⟨ρ,hT,hC.retell hm (row':=.nest e 4 (xs.map a7c) []) ⟨cells,⟨by rw [List.length_map,← h];exact n1,by rw [List.length_map,← h];exact n2,n3,λcs hcs=>?_,λi k c hc=>?_⟩,λq hq=>by cases hq⟩ λp b hb=>?_⟩
 ·obtain ⟨x,_,rfl⟩:=List.mem_map.1 hcs;rfl
 ·obtain ⟨rfl,hi,hk⟩:=hx hc
  have hi':i < cells.length:=by rw [n2,h];exact hi
  have hk':k < (cells[i]).length:=by rw [(n3 _ (List.getElem_mem hi')).1];exact hk
  exact ⟨(cells[i])[k],by simp only [w7,List.getElem?_eq_getElem hi'];exact List.getElem?_eq_getElem hk',trivial⟩
 ·have hb:v7 w (ρ id) 4 (xs.map a7c) p=some b:=hb
  exfalso
  unfold v7 at hb
  grind
end
end Go.Rf
namespace Go.Rf
open Go
variable {l:List Int} {w:ByteArray} {x:Ifc}
theorem b87 {sl:List Slot} {q:Int} (h0:0<=r9 sl q) (h:(sl.getD (r9 sl q).toNat default).s=3):edS sl q=sl.set (r9 sl q).toNat ⟨1,(sl.getD (r9 sl q).toNat default).q,(sl.getD (r9 sl q).toNat default).p⟩:=by rw [b84 h,(c6G h0).1]
theorem c19 (h:IfG x) (h0:x.st.length≠0):0<=r9 x.qu.sl (O6 x)/\a0b (x.qu.sl.getD (r9 x.qu.sl (O6 x)).toNat default)=true:=⟨a54 (h.f.st _ (a38 h0)),c07 h.f.qu.sl (h.f.st _ (a38 h0))⟩
theorem b1y (h0:x.st.length≠0):x.st.getD ((x.st.length:Int) - 1).toNat default=O6 x:=by
 rw [show ((x.st.length:Int) - 1).toNat=x.st.length - 1 by omega];rfl
theorem c5h {α β:Type} [Inhabited α] {l:List α} {f:α→β} {i:Nat} (h:i < l.length):(l.map f)[i]?=some (f (l.getD i default)):=by simp [h]
theorem b3R {xs:List Int}:List.take (((xs.length:Int) - 1).toNat - Int.toNat 0) (List.drop (Int.toNat 0) (xs.map n8))=(xs.take (xs.length - 1)).map n8:=by
 simp
def X8 (x:Ifc):Ifc×Int×Bool:=if x.st.length=0 then (noI,0,false) else (a9Q x,O6 x,true)
theorem b5M (h:x.st.length=0):X8 x=(noI,0,false):=if_pos h
theorem b5N (h:x.st.length≠0):X8 x=(a9Q x,O6 x,true):=if_neg h
theorem c8B {m:Mach} {sk sq sv:Int} {c:Nat} (h:sk=3):stM m ⟨sk,sq,(c:Int),sv⟩=(⟨m.rs,m.en,m.ra,m.cp.set c (R1 (m.cp.getD c default)).1⟩,(R1 (m.cp.getD c default)).2.1,(R1 (m.cp.getD c default)).2.2):=by
 cases hk:okT (m.cp.getD c default)
 ·rw [c8x h hk,b5x hk]
 ·rw [sm3 h hk,b5w hk]
theorem c8C {m:Mach} {sk sq sv:Int} {c:Nat} (h:sk=4):stM m ⟨sk,sq,(c:Int),sv⟩=(⟨m.rs,m.en,m.ra,m.cp.set c (X8 (m.cp.getD c default)).1⟩,(X8 (m.cp.getD c default)).2.1,(X8 (m.cp.getD c default)).2.2):=by
 by_cases hk:(m.cp.getD c default).st.length=0
 ·rw [c8y h hk,b5M hk]
 ·rw [sm4 h hk,b5N hk]
theorem S4 {eS eW:Nat} {xs:List Ifc} {c:Nat} {x:Ifc} {row:List CI} (h:FlR row (a1h eS eW x)):FlLe ((xs.map (a1h eS eW)).set c row) ((xs.set c x).map (a1h eS eW)):=by rw [List.map_set];exact FlLe.refl.set h
theorem c5i {eS eW:Nat} {xs:List Ifc} {c:Nat} {row:List CI} (h:row=l6 eS eW x):(xs.map (l6 eS eW)).set c row=(xs.set c x).map (l6 eS eW):=by rw [List.map_set,h]
theorem a9S (h:IfG x) (h0:x.st.length≠0):0<=O6 x/\O6 x<=7:=by
 obtain ⟨j,h1,h2,h3⟩:=(H0 4).mp ((a36 h.f.qu.sl.len).mp (h.f.st _ (a38 h0)))
 rw [← h3]
 exact (h.f.qu.sl.ok j h1 (by rcases u9.mp h2 with g | g<;>omega)).2.1
theorem b2x (h:IfG x) (hk:okT x=true):0<=tkI x.qu.sl/\tkI x.qu.sl<=7:=b8y h.f.qu.sl (X2.mp hk).1
def S5 (m:Mach) (k:Nat) (c:Int):ByteArray×Bool :=
 if m3 c 0 ((m.cp.length:Int) - 1)=false then (⟨#[]⟩,false)
 else if k=8 then (a4V (A6 (m.cp.getD c.toNat default).qu),true)
 else if k=9 then (a4V (m.cp.getD c.toNat default).st,true)
 else if k=11 then (a4p (m.cp.getD c.toNat default).qu.sl,true)
 else if k=10 then (if A9 m.rs (S3 m) c.toNat=-1 then b3L else s1 (A9 m.rs (S3 m) c.toNat),true)
 else (⟨#[]⟩,false)
abbrev c5j:ByteArray:=⟨#[121,101,115]⟩
abbrev noB:ByteArray:=⟨#[110,111]⟩
abbrev okB:ByteArray:=⟨#[111,107]⟩
abbrev qmB:ByteArray:=⟨#[63]⟩
def a4X (m:Mach) (k:Nat) (l:List Int):ByteArray×Bool :=
 if k=1 then (a4V (raN m),true) else if k=2 then (if a7b m then c5j else noB,true) else S5 m k (l.getD 0 default)
section
variable {m:Mach} {k:Nat} {c:Int} {l:List Int}
theorem b88 (h:k=1):a4X m k l=(a4V (raN m),true):=by unfold a4X;rw [if_pos h]
theorem b5O (h:k=2) (hi:a7b m=true):a4X m k l=(c5j,true):=by unfold a4X;rw [if_neg J,if_pos h,if_pos hi]
theorem b5P (h:k=2) (hi:a7b m=false):a4X m k l=(noB,true):=by unfold a4X;rw [if_neg J,if_pos h,if_neg (by simp [hi])]
theorem b89 (h1:k≠1) (h2:k≠2):a4X m k l=S5 m k (l.getD 0 default):=by unfold a4X;rw [if_neg h1,if_neg h2]
theorem b5Q (h:m3 c 0 ((m.cp.length:Int) - 1)=false):S5 m k c=(⟨#[]⟩,false):=by unfold S5;rw [if_pos h]
theorem b5R (h:m3 c 0 ((m.cp.length:Int) - 1)=true) (hk:k=8):S5 m k c=(a4V (A6 (m.cp.getD c.toNat default).qu),true):=by unfold S5;rw [if_neg (by simp [h]),if_pos hk]
theorem b5S (h:m3 c 0 ((m.cp.length:Int) - 1)=true) (hk:k=9):S5 m k c=(a4V (m.cp.getD c.toNat default).st,true):=by unfold S5;rw [if_neg (by simp [h]),if_neg J,if_pos hk]
theorem b3S (h:m3 c 0 ((m.cp.length:Int) - 1)=true) (hk:k=11):S5 m k c=(a4p (m.cp.getD c.toNat default).qu.sl,true):=by unfold S5;rw [if_neg (by simp [h]),if_neg J,if_neg J,if_pos hk]
theorem b1z (h:m3 c 0 ((m.cp.length:Int) - 1)=true) (hk:k=10) (hn:A9 m.rs (S3 m) c.toNat=-1):S5 m k c=(b3L,true):=by unfold S5;rw [if_neg (by simp [h]),if_neg J,if_neg J,if_neg J,if_pos hk,if_pos hn]
theorem b1A (h:m3 c 0 ((m.cp.length:Int) - 1)=true) (hk:k=10) (hn:¬ A9 m.rs (S3 m) c.toNat=-1):S5 m k c=(s1 (A9 m.rs (S3 m) c.toNat),true):=by unfold S5;rw [if_neg (by simp [h]),if_neg J,if_neg J,if_neg J,if_pos hk,if_neg hn]
theorem c1c (h1:k≠8) (h2:k≠9) (h3:k≠11) (h4:k≠10):S5 m k c=(⟨#[]⟩,false):=by
 grind [S5]
end
theorem c5k {k:Nat} (h:(X6 k l).2=false):k≠0/\k≠3/\k≠4/\k≠5/\k≠6/\k≠7/\k≠12:=by
 refine ⟨?_,?_,?_,?_,?_,?_,?_⟩<;>(rintro rfl;simp [X6] at h)
theorem c1d (hl:a1g (l9 w)=l.length) (h1:¬ l9 w=1) (h2:¬ l9 w=2) (h:l9 w≠0/\l9 w≠3/\l9 w≠4/\l9 w≠5/\l9 w≠6/\l9 w≠7/\l9 w≠12):l.length=1:=by
 grind [a4W,Y5]
theorem c1e (hl:a1g (l9 w)=l.length) (h1:¬ l9 w=1) (h2:¬ l9 w=2) (h:l9 w≠0/\l9 w≠3/\l9 w≠4/\l9 w≠5/\l9 w≠6/\l9 w≠7/\l9 w≠12) (h5:¬ l9 w=8) (h6:¬ l9 w=9) (h7:¬ l9 w=11):l9 w=10:=by
 grind [a4W]
theorem b9a {q:Que} (h:QF q):∀i,i < (A6 q).length→a0z ((A6 q).getD i default):=λi hi=>by have:=b2i h hi;exact ⟨by omega,by omega⟩
theorem b9b (h:IfF x):∀i,i < x.st.length→a0z (x.st.getD i default):=λi hi=>by
 have hm:x.st.getD i default∈x.st:=by rw [List.getD_eq_getElem?_getD,List.getElem?_eq_getElem hi];exact List.getElem_mem hi
 obtain ⟨j,h1,h2,h3⟩:=(H0 4).mp ((a36 h.qu.sl.len).mp (h.st _ hm))
 have hl:=h.qu.sl.len
 have:=h.qu.sl.nums (i:=j) J (by rcases u9.mp h2 with g | g<;>omega)
 exact ⟨by omega,by omega⟩
theorem b5T {m:Mach}:(S3 m).ma.length=m.cp.length:=by unfold S3;simp
end Go.Rf
namespace Go.Rf
open Go Go.RowKit
variable {B b:Nat} {r r':RC} {w:World} {y:Value} {yss yss':List (List CI)}
theorem a7d {k:Int} {x:Rec} (h0:0<=k) (h1:k<=9223372036854775807) (h:D4 x=true):(a0Q k x).size<=423:=by
 have hb:=a3R h0 h1 h
 have hs:=a1A (s:=G4 k x)
 have e1:(⟨#[10]⟩:ByteArray).size=1:=rfl
 rw [a0Q,ByteArray.size_append]
 omega
theorem a9T {sz:Nat} {p:Nat×Nat} (h:FlLe yss yss') (hb:v7 w y sz yss' p=some b):v7 w y sz yss p=some b:=by
 unfold v7 at hb ⊢
 cases hc:Go.Rf.w7 yss' p.1 p.2 with
 | none=>rw [hc] at hb;cases hb
 | some c =>
  rw [hc] at hb
  obtain ⟨d,hd,hle⟩:=h.nget hc
  rw [hd]
  rcases hle with rfl | ⟨e1,sz1,ys,f,rfl,rfl⟩
  ·exact hb
  ·exact hb
theorem NestR.fl {e sz:Nat} (h:FlLe yss yss') (hn:NestR B w y e sz yss):NestR B w y e sz yss':=by
 obtain ⟨cells,⟨n1,n2,n3,n4,n5⟩,hi⟩:=hn
 refine ⟨cells,⟨by rw [← h.1];exact n1,by rw [← h.1];exact n2,n3,λcs hcs=>?_,λi k c hc=>?_⟩,λp b hb=>?_⟩
 ·obtain ⟨i,hi,rfl⟩:=List.getElem_of_mem hcs
  obtain ⟨a',ha,hr⟩:=h.2 i _ (List.getElem?_eq_getElem hi)
  rw [← hr.1]
  grind
 ·obtain ⟨d,hd,hle⟩:=h.nget hc
  obtain ⟨u,hu,hr⟩:=n5 i k d hd
  refine ⟨u,hu,?_⟩
  rcases hle with rfl | ⟨e1,sz1,ys,f,rfl,rfl⟩
  ·exact hr
  ·exact ⟨OwnR.gen hr.1,hr.2⟩
 ·obtain ⟨h1,h2⟩:=hi p b (a9T h hb)
  exact ⟨h1,λp' hp'=>h2 p' (a9T h hp')⟩
inductive RCLe:RC→RC→Prop
 | s {r:RC}:RCLe r r
 | n {e sz:Nat} {yss yss':List (List CI)} (h:FlLe yss yss'):RCLe (.ne e sz yss) (.ne e sz yss')
inductive RCsLe:List RC→List RC→Prop
 | nil:RCsLe [] []
 | cons {r r':RC} {a b:List RC} (h:RCLe r r') (hr:RCsLe a b):RCsLe (r :: a) (r' :: b)
theorem RCLe.rel (h:RCLe r r') (hr:RCRel B w r y):RCRel B w r' y:=by
 cases h with
 | s=>exact hr
 | n h=>exact NestR.fl h hr
theorem RCLe.foot (h:RCLe r r') (hr:a2U w r' y b):a2U w r y b:=by
 cases h with
 | s=>exact hr
 | n h =>
  simp only [a2U] at hr ⊢
  rcases hr with hr | ⟨p,hp⟩
  ·exact .inl hr
  ·exact .inr ⟨p,a9T h hp⟩
theorem RCsLe.foot:∀{r r':List RC} {ys:List Value},RCsLe r r'→Y2 w r' ys b→Y2 w r ys b
 | _,_,ys,.nil,hr=>by cases ys<;>simp [Y2] at hr
 | _,_,[],.cons h hr,g=>by simp [Y2] at g
 | _,_,y :: ys,.cons h hr,g=>by
  simp only [Y2] at g ⊢
  rcases g with g | g
  ·exact .inl (h.foot g)
  ·exact .inr (RCsLe.foot hr g)
theorem RCsLe.rel:∀{r r':List RC} {ys:List Value},RCsLe r r'→RCRels B w r ys→RCRels B w r' ys
 | _,_,ys,.nil,h=>h
 | _,_,ys,.cons h hr,g=>by
  simp only [RCRels] at g ⊢
  obtain ⟨y,ys',rfl,h1,h2,h3⟩:=g
  exact ⟨y,ys',Z,h.rel h1,RCsLe.rel hr h2,λb hb hf=>h3 b (h.foot hb) (hr.foot hf)⟩
theorem Ctr.shpTo {P:Program} [Env P] {f:FuncId} {args:List AV} {sg:Bool} {sh:List (Option Nat)} {rs rs':List RC} (h:Ctr P f args (.shp sg sh rs)) (hr:RCsLe rs rs'):Ctr P f args (.shp sg sh rs') :=
 ⟨h.callable,λw vs he hv=>(h.calls w vs he hv).mono λe w' ⟨v,h1,h2,h3⟩=>⟨v,h1,by
  simp only [ResRel] at h2 ⊢
  obtain ⟨ys,vs,g1,g2,g3⟩:=h2
  exact ⟨ys,vs,hr.rel g1,g2,g3⟩,h3⟩⟩
end Go.Rf
namespace Go.Rf
open Go
variable {i:Nat} {m m':Mach} {r x:ByteArray}
theorem c8D {w:World} {ρ:Nat→Value} {nx:Nat} {a b c d e f:AV} {yss yss':List (List CI)} {rest:List AV} (hf:FlLe yss yss'):∀vs,RelVs w ρ nx (.agg [a,b,c,.nst none 4 yss',d,e,f] :: rest) vs→RelVs w ρ nx (.agg [a,b,c,.nst none 4 yss,d,e,f] :: rest) vs:=by
 intro vs h
 simp only [RelVs,RelV] at h ⊢
 obtain ⟨y,ys',rfl,⟨zs,rfl,y0,t0,rfl,h0,y1,t1,rfl,h1,y2,t2,rfl,h2,y3,t3,rfl,⟨h3,h4⟩,y4,t4,rfl,h5,y5,t5,rfl,h6,y6,t6,rfl,h7,rfl⟩,hr⟩:=h
 exact ⟨_,_,Z,⟨_,Z,_,_,Z,h0,_,_,Z,h1,_,_,Z,h2,_,_,Z,⟨by simp,NReadsAt.fl hf h4⟩,_,_,Z,h5,_,_,Z,h6,_,_,Z,h7,Z⟩,hr⟩
def wrd (s:ByteArray) (i:Nat):ByteArray:=(e7 s 32).getD i default
def wn (s:ByteArray):Nat:=(e7 s 32).length
def z6 (s:ByteArray):Nat→List Int
 | 0=>[]
 | i+1=>z6 s i++[nmN (wrd s (i+1))]
theorem b1B {s:ByteArray}:z6 s (i+1)=z6 s i++[nmN (wrd s (i+1))]:=rfl
theorem a3r {s:ByteArray}:∀{i:Nat},(z6 s i).length=i
 | 0=>rfl
 | i+1=>by rw [b1B,List.length_append,a3r];rfl
theorem a6m {s:ByteArray} {b:Int}:∀i,∀x∈(spO s b i).1,x.size<=s.size
 | 0=>λx hx=>by cases hx
 | i+1=>λx hx=>by
  by_cases hb:p9 s i=b
  ·rw [Z2 hb] at hx
   rcases List.mem_append.1 hx with h | h
   ·exact a6m i x h
   (simp_all;omega)
  ·rw [a2C hb] at hx
   exact a6m i x hx
theorem b9c {s:ByteArray} {i:Nat}:(wrd s i).size<=s.size:=by
 unfold wrd
 rw [List.getD_eq_getElem?_getD]
 cases h:(e7 s 32)[i]? with
 | none=>exact Nat.zero_le _
 | some x =>
  rcases List.mem_append.1 (List.mem_of_getElem? h) with h | h
  ·exact a6m _ x h
  simp_all
def B5 (s:ByteArray):Bool:=a09 (wn s - 1) (λj=>nmK (wrd s (j+1)))
def x4 (s:ByteArray):List Int:=z6 s (wn s - 1)
theorem b6V {s:ByteArray}:(x4 s).length=wn s - 1:=a3r
theorem b9d {s:ByteArray} (h:nmK (wrd s (i+1))=false) (hi:i < wn s - 1):B5 s=false:=a0r h hi
theorem b9e {s:ByteArray} (h:∀j,j < i→nmK (wrd s (j+1))=true) (hi:wn s - 1<=i):B5 s=true:=a17 h hi
theorem c5l {s:ByteArray} (h:wn s=1):s=wrd s 0:=by
 grind [wn,wrd,a9m,b3f,r6]
theorem a4Y {m:Mach} {s:MStep} (h:(smT m s).2.2=true):(smT m s).2.1≠-1↔(s.k=3∨s.k=4):=by
 unfold smT at h ⊢
 split at h
 ·next hk =>
  rw [if_pos hk]
  simp only [b6U,Bool.and_eq_true] at hk
  obtain ⟨⟨h1,h2⟩,h3⟩:=hk
  have hM:=(maF h1).g
  show (stM m s).2.1≠-1↔_
  unfold stM at h3 ⊢
  by_cases k1:s.k=1
  ·grind
  rw [if_neg k1] at h3 ⊢
  by_cases k2:s.k=2
  ·grind
  rw [if_neg k2] at h3 ⊢
  have hin:(s.k=3∨s.k=4)→s.c.toNat < m.cp.length:=λhk=>by
   grind [O4,m3]
  by_cases k3:s.k=3
  ·rw [if_pos k3] at h3 ⊢
   have hI:=hM.ok _ (hin (.inl k3))
   split at h3
   ·next ho =>
    rw [if_pos ho]
    have:=b2x hI ho
    grind
   ·cases h3
  rw [if_neg k3] at h3 ⊢
  by_cases k4:s.k=4
  ·rw [if_pos k4] at h3 ⊢
   have hI:=hM.ok _ (hin (.inr k4))
   split at h3
   ·cases h3
   ·next ho =>
    rw [if_neg ho]
    have:=a9S hI ho
    grind
  grind
 ·cases h
theorem a3s {m:Mach} {s:MStep}:-1<=(smT m s).2.1/\(smT m s).2.1<=7:=by
 unfold smT
 split
 ·next hk =>
  simp only [b6U,Bool.and_eq_true] at hk
  obtain ⟨⟨h1,h2⟩,h3⟩:=hk
  have hM:=(maF h1).g
  show -1<=(stM m s).2.1/\(stM m s).2.1<=7
  have hin:(s.k=3∨s.k=4)→s.c.toNat < m.cp.length:=λhk=>by
   grind [O4,m3]
  unfold stM at h3 ⊢
  by_cases k1:s.k=1
  ·grind
  rw [if_neg k1] at h3 ⊢
  by_cases k2:s.k=2
  ·grind
  rw [if_neg k2] at h3 ⊢
  by_cases k3:s.k=3
  ·rw [if_pos k3] at h3 ⊢
   have hI:=hM.ok _ (hin (.inl k3))
   split at h3
   ·next ho =>
    rw [if_pos ho]
    have:=b2x hI ho
    grind
   ·cases h3
  rw [if_neg k3] at h3 ⊢
  by_cases k4:s.k=4
  ·rw [if_pos k4] at h3 ⊢
   have hI:=hM.ok _ (hin (.inr k4))
   split at h3
   ·cases h3
   ·next ho =>
    rw [if_neg ho]
    have:=a9S hI ho
    grind
  grind
 simp
def b3T (m:Mach) (s:MStep):Mach×ByteArray×Bool:=if (smT m s).2.2 then ((smT m s).1,if (smT m s).2.1=-1 then okB else s1 (smT m s).2.1,true) else (m,⟨#[]⟩,false)
def a4Z (m:Mach) (s:ByteArray):Mach×ByteArray×Bool :=
 if a1g (l9 (wrd s 0))=(wn s:Int) - 1 then
  if B5 s then
   if (X6 (l9 (wrd s 0)) (x4 s)).2 then b3T m (X6 (l9 (wrd s 0)) (x4 s)).1
   else (m,a4X m (l9 (wrd s 0)) (x4 s))
  else (m,⟨#[]⟩,false)
 else (m,⟨#[]⟩,false)
def C2 (m:Mach) (s:ByteArray):Mach×ByteArray:=((a4Z m s).1,if (a4Z m s).2.2 then (a4Z m s).2.1 else qmB)
section
variable {m:Mach} {s:ByteArray}
theorem b9f (h:¬ a1g (l9 (wrd s 0))=(wn s:Int) - 1):a4Z m s=(m,⟨#[]⟩,false):=by unfold a4Z;rw [if_neg h]
theorem b9g (h:B5 s=false):a4Z m s=(m,⟨#[]⟩,false):=by unfold a4Z;split<;>simp [h]
theorem b9h (h1:a1g (l9 (wrd s 0))=(wn s:Int) - 1) (h2:B5 s=true) (h3:(X6 (l9 (wrd s 0)) (x4 s)).2=false):a4Z m s=(m,a4X m (l9 (wrd s 0)) (x4 s)):=by unfold a4Z;rw [if_pos h1,if_pos h2,if_neg (by simp [h3])]
theorem b9i (h1:a1g (l9 (wrd s 0))=(wn s:Int) - 1) (h2:B5 s=true) (h3:(X6 (l9 (wrd s 0)) (x4 s)).2=true):a4Z m s=b3T m (X6 (l9 (wrd s 0)) (x4 s)).1:=by unfold a4Z;rw [if_pos h1,if_pos h2,if_pos h3]
end
theorem a40 {s:ByteArray} (h:a4Z m s=(m',x,false)):C2 m s=(m',qmB):=by unfold C2;rw [h];rfl
theorem b2y {s:ByteArray} (h:a4Z m s=(m',x,true)):C2 m s=(m',x):=by unfold C2;rw [h];rfl
abbrev c67:ByteArray:=⟨#[98,97,100]⟩
abbrev c2a:ByteArray:=⟨#[102,117,108,108]⟩
abbrev c2b:ByteArray:=⟨#[108,111,110,103]⟩
def b3U (r:ByteArray):ByteArray:=if r.size > 200 then c2b else r
theorem c1f {α β:Type} [Inhabited α] {l:List α} {f:α→β} {i:Nat} (h:i+1 < l.length):(l.map f)[1+((i:Int)).toNat]?=some (f (l.getD (i+1) default)):=by rw [show 1+((i:Int)).toNat=i+1 by omega];simp [h]
theorem b6W {α β:Type} [Inhabited α] {l:List α} {f:α→β} {i:Nat} (h:i+1 < l.length):(l.map f)[((i:Int)+1).toNat]?=some (f (l.getD (i+1) default)):=by rw [show ((i:Int)+1).toNat=i+1 by omega];simp [h]
theorem F2 {c:ByteArray} (h:r.size<=200):(⟨c,r⟩:Rec).r.size<=9223372036854775807:=Nat.le_trans h (by decide)
theorem H1 {a:Array UInt8} (h:a.size<=200):(⟨a⟩:ByteArray).size<=9223372036854775807:=by show a.size<=_;omega
theorem b2z (h:(r.size:Int) > 200):b3U r=c2b:=by unfold b3U;rw [if_pos J]
theorem a1i (h:¬ (r.size:Int) > 200):b3U r=r:=by unfold b3U;rw [if_neg J]
def exC (m:Mach) (x:Lg) (s:ByteArray):Mach×Lg×ByteArray :=
 if a3p m x=false then (m,x,noB)
 else if D4 ⟨s,⟨#[]⟩⟩=false then (m,x,c67)
 else if x.n=60 then (m,x,c2a)
 else ((C2 m s).1,apE x ⟨s,b3U (C2 m s).2⟩,b3U (C2 m s).2)
section
variable {m:Mach} {x:Lg} {s:ByteArray}
theorem c2c (h:a3p m x=false):exC m x s=(m,x,noB):=by unfold exC;rw [if_pos h]
theorem c2d (h:a3p m x=true) (h2:D4 ⟨s,⟨#[]⟩⟩=false):exC m x s=(m,x,c67):=by unfold exC;rw [if_neg (by simp [h]),if_pos h2]
theorem c2e (h:a3p m x=true) (h2:D4 ⟨s,⟨#[]⟩⟩=true) (h3:x.n=60):exC m x s=(m,x,c2a):=by unfold exC;rw [if_neg (by simp [h]),if_neg (by simp [h2]),if_pos h3]
theorem H2 (h:a3p m x=true) (h2:D4 ⟨s,⟨#[]⟩⟩=true) (h3:¬ x.n=60) {m':Mach} {r:ByteArray} (h4:C2 m s=(m',r)):exC m x s=(m',apE x ⟨s,b3U r⟩,b3U r):=by unfold exC;rw [if_neg (by simp [h]),if_neg (by simp [h2]),if_neg h3,h4]
end
end Go.Rf
namespace Go.Rf
open Go Go.RowKit
def pkR:List AV→AV
 | [x]=>x
 | xs=>.tup xs
theorem b9j {w0:World} {ρ:Nat→Value} {nx:Nat}:∀{avs:List AV} {ys:List Value},RelVs w0 ρ nx avs ys→RelV w0 ρ nx (pkR avs) (if h:ys.toArray.size=1 then ys.toArray[0] else .tuple ys.toArray)
 | [],ys,h=>by simp only [RelVs] at h;subst h;exact ⟨[],Z,Z⟩
 | [x],ys,h=>by
  simp only [RelVs] at h
  obtain ⟨y,t,rfl,h1,rfl⟩:=h
  exact h1
 | x :: y :: r,ys,h=>by
  have h0:=h
  simp only [RelVs] at h
  obtain ⟨a,t,rfl,h1,b,t2,rfl,h2,h3⟩:=h
  rw [dif_neg (by simp)]
  exact ⟨_,Z,h0⟩
def c8E (tb:List (Nat×TyI)) (l:List ResultVar) (K:AV→List (Nat×Option Row)→Nat→Prop) (e:Exit) (S:St):Prop:=(e=.normal∨e=.ret)/\∃xs,P5 tb S l []=some xs/\K (pkR xs) S.m S.nx
section
variable {P:Program} [Env P] {w0:Base} {ops:Array Oper} {tb:List (Nat×TyI)} {o:Oper} {rest:List Oper} {T:List (Nat×AV)} {m:List (Nat×Option Row)} {nx nt d:Nat} {Q:Exit→St→Prop}
theorem a01 [EnvAt P w0] (G:Good P tb) {f:FuncId} {fn:Func} {c:Code} {as:Array Operand} {ts:Array TypeId} {args:List AV} {l:List ResultVar} {n:Nat} (hd:o.dst=some d) (hlt:Nat.blt d nt=true) (ho:o.op=.call { callee:=.value (.func f),args:=as,argTypes:=ts })
 (hf:P.funcs[f]?=some fn) (hb:fn.body=some c) (hname:(fn.name == "runtime.NumGoroutine")=false) (hl:fn.results=l.toArray) (hn:fn.ntmps=n) (hlen:Nat.ble args.length n=true) (ha:evL T as.toList []=some args)
 (h:∀b:Base,[EnvAt P b]→b.n0=nx→W P b c ⟨a4H args 0,m,nx,n⟩ (c8E tb l (λr m1 n1=>Nat.ble nx n1=true/\WL P w0 ops rest ⟨(d,r) :: T,m1,n1,nt⟩ Q))):WX P w0 ops o rest ⟨T,m,nx,nt⟩ Q:=by
 rename_i hw0
 intro ρ a w hT hC
 obtain ⟨bs,h1,h2⟩:=a5z hT ha
 simp at h1
 subst h1
 have hcal:Callable P f:=⟨fn,hf,hname,by rw [hb];rfl⟩
 have hrun:(execOp a.eval o).run P w=.ok (.enter f (as.toList.map a.eval).toArray) w:=by
  simp [execOp,ho,resolve,Deferred.ofValue,invoke,Act.eval,V8 hcal,← Array.toList_map]
 unfold Oper.wp
 rw [hrun,Oper.upon_enter]
 let b:Base:=⟨w0.w,nx,ρ,w,w0.keep,λc hc=>Nat.lt_of_lt_of_le (w0.kb c hc) hC.kept.1,w0.E,w0.hE⟩
 have hen:EnvAt P b:=⟨hw0.e⟩
 have hCb:RelC b ρ m nx w:=⟨hC.rows,hC.apart,hC.below,⟨Nat.le_refl _,λ_ _=>Z⟩,⟨Nat.le_refl _,λ_ _=>Z,hC.kept.2.2⟩,hC.inner⟩
 have hlen':args.length<=n:=Nat.le_of_ble_eq_true hlen
 have hTb:=a2c (b:=b) (fn:=fn) (show RelVs b.w ρ nx args (as.toList.map a.eval) from h2) hlen' hn
 have hcalls:Calls P f (as.toList.map a.eval).toArray w (λen w'=>∃v ρ' r m1 n1,en=.returned v/\(∀i,i < nx→ρ' i=ρ i)/\RelV w0.w ρ' n1 r v/\RelC b ρ' m1 n1 w'/\Nat.ble nx n1=true/\WL P w0 ops rest ⟨(d,r) :: T,m1,n1,nt⟩ Q):=by
  refine calls_of_wp hf hb ?_
  refine wp_mono (h b Z ρ _ w hTb hCb) ?_
  have fin:∀(ρ':Nat→Value) (S:St) (a':Act) (w':World),(∃xs,P5 tb S l []=some xs/\Nat.ble nx S.nx=true/\WL P w0 ops rest ⟨(d,pkR xs) :: T,S.m,S.nx,nt⟩ Q)→RelT b ρ' S.T S.nx S.nt a'→RelC b ρ' S.m S.nx w' →
   a'.defers=[]/\∃v,(results fn a'.tmps).run P w'=.ok v w'/\∃u ρ' r m1 n1,Ending.returned v=.returned u/\(∀i,i < nx→ρ' i=ρ i)/\RelV w0.w ρ' n1 r u/\RelC b ρ' m1 n1 w'/\Nat.ble nx n1=true/\WL P w0 ops rest ⟨(d,r) :: T,m1,n1,nt⟩ Q:=by
   intro ρ' S a' w' ⟨xs,e1,e2,e3⟩ hT' hC'
   obtain ⟨ys,avs,g1,g2,g3⟩:=T6 G hT' hC' e1
   simp at g1
   subst g1
   exact ⟨hT'.defers,_,N8 hl g3,_,ρ',pkR xs,S.m,S.nx,Z,λi hi=>hC'.pin.2 i hi,b9j g2,hC',e2,e3⟩
  rintro e a' w' ⟨ρ',S,⟨hq,e1⟩,hT',hC'⟩
  rcases hq with rfl | rfl
  ·exact fin ρ' S a' w' e1 hT' hC'
  ·exact fin ρ' S a' w' e1 hT' hC'
 refine hcalls.mono λex w' ⟨v,ρ',r,m1,n1,he,q1,q2,q3,q4,hk⟩=>?_
 subst he
 have hn1:=Nat.le_of_ble_eq_true q4
 refine hk ρ' _ w' ?_ ⟨q3.rows,q3.apart,q3.below,⟨Nat.le_trans hC.pin.1 hn1,λi hi=>by rw [q1 i (Nat.lt_of_lt_of_le hi hC.pin.1)];exact hC.pin.2 i hi⟩,⟨Nat.le_trans hC.kept.1 q3.kept.1,λc hc=>(q3.kept.2.1 c hc).trans (hC.kept.2.1 c hc),q3.kept.2.2⟩,q3.inner⟩
 rw [hd]
 have hT':RelT w0 ρ' T n1 nt a:=⟨λt x hx=>(hT.tmps t x hx).mono hn1 q1,hT.size,hT.defers⟩
 exact hT'.put hlt q2
end
end Go.Rf
namespace Go.Rf
open Go
def a3t (m:Mach) (k:Nat) (c:Int):ByteArray:=if (S5 m k c).2 then (S5 m k c).1 else qmB
def H3 (m:Mach) (s:MStep):Mach×ByteArray:=if (smT m s).2.2 then ((smT m s).1,if (smT m s).2.1=-1 then okB else s1 (smT m s).2.1) else (m,qmB)
section
variable {m:Mach} {k:Nat} {c:Int} {s:ByteArray}
theorem c5m (h:m3 c 0 ((m.cp.length:Int) - 1)=false):a3t m k c=qmB:=by unfold a3t;rw [b5Q h];rfl
theorem c5n (h:m3 c 0 ((m.cp.length:Int) - 1)=true) (hk:k=8):a3t m k c=a4V (A6 (m.cp.getD c.toNat default).qu):=by unfold a3t;rw [b5R h hk];rfl
theorem c5o (h:m3 c 0 ((m.cp.length:Int) - 1)=true) (hk:k=9):a3t m k c=a4V (m.cp.getD c.toNat default).st:=by unfold a3t;rw [b5S h hk];rfl
theorem c1g (h:m3 c 0 ((m.cp.length:Int) - 1)=true) (hk:k=11):a3t m k c=a4p (m.cp.getD c.toNat default).qu.sl:=by unfold a3t;rw [b3S h hk];rfl
theorem b9k (h:m3 c 0 ((m.cp.length:Int) - 1)=true) (hk:k=10) (hn:A9 m.rs (S3 m) c.toNat < 0):a3t m k c=b3L:=by
 have:=@a9y m.rs (S3 m) c.toNat
 unfold a3t;rw [b1z h hk J];rfl
theorem b9l (h:m3 c 0 ((m.cp.length:Int) - 1)=true) (hk:k=10) (hn:¬ A9 m.rs (S3 m) c.toNat < 0):a3t m k c=s1 (A9 m.rs (S3 m) c.toNat):=by unfold a3t;rw [b1A h hk J];rfl
theorem b9m (h1:k≠8) (h2:k≠9) (h3:k≠11) (h4:k≠10):a3t m k c=qmB:=by unfold a3t;rw [c1c h1 h2 h3 h4];rfl
theorem c5p (h:B5 s=false):C2 m s=(m,qmB):=a40 (b9g h)
theorem b2A (h:¬ a1g (l9 (wrd s 0))=(wn s:Int) - 1):C2 m s=(m,qmB):=a40 (b9f h)
theorem a2t (h1:a1g (l9 (wrd s 0))=(wn s:Int) - 1) (h2:B5 s=true) (h3:(X6 (l9 (wrd s 0)) (x4 s)).2=true):C2 m s=H3 m (X6 (l9 (wrd s 0)) (x4 s)).1:=by
 grind [b9i,b3T,H3,b2y,a40]
theorem b2B (h1:a1g (l9 (wrd s 0))=(wn s:Int) - 1) (h2:B5 s=true) (h3:(X6 (l9 (wrd s 0)) (x4 s)).2=false):C2 m s=(m,if (a4X m (l9 (wrd s 0)) (x4 s)).2 then (a4X m (l9 (wrd s 0)) (x4 s)).1 else qmB):=by
 unfold C2
 rw [b9h h1 h2 h3]
theorem c68 (h:wn s=1) (h2:B5 s=true) (hk:l9 (wrd s 0)=0):C2 m s=H3 m ⟨2,0,0,0⟩:=by
 rw [a2t (by rw [a3q J];omega) h2 (by rw [hk];rfl),hk];rfl
theorem c69 (h:wn s=1) (h2:B5 s=true) (hk:l9 (wrd s 0)=1):C2 m s=(m,a4V (raN m)):=by
 rw [b2B (by rw [a3q J];omega) h2 (by rw [hk];rfl),b88 hk];rfl
theorem c5q (h:wn s=1) (h2:B5 s=true) (hk:l9 (wrd s 0)=2) (hi:a7b m=true):C2 m s=(m,c5j):=by
 rw [b2B (by rw [a3q J];omega) h2 (by rw [hk];rfl),b5O hk hi];rfl
theorem c5r (h:wn s=1) (h2:B5 s=true) (hk:l9 (wrd s 0)=2) (hi:a7b m=false):C2 m s=(m,noB):=by
 rw [b2B (by rw [a3q J];omega) h2 (by rw [hk];rfl),b5P hk hi];rfl
theorem c7a (h:wn s=1) (h0:¬ l9 (wrd s 0)=0) (h1:¬ l9 (wrd s 0)=1) (h3:¬ l9 (wrd s 0)=2):C2 m s=(m,qmB):=by
 have hl:=@b2v (wrd s 0)
 refine b2A ?_
 by_cases g:l9 (wrd s 0)<=11
 ·rw [Y5 J];omega
 ·grind [a7a,a4W]
theorem c7b (h:wn s=2) (h2:B5 s=true) (hk:l9 (wrd s 0)=3):C2 m s=H3 m ⟨1,(x4 s).getD 0 default,0,0⟩:=by
 rw [a2t (by rw [Y5 J];omega) h2 (by rw [hk];rfl),hk];rfl
theorem c7c (h:wn s=2) (h2:B5 s=true) (hk:l9 (wrd s 0)=4):C2 m s=H3 m ⟨6,(x4 s).getD 0 default,0,1⟩:=by
 rw [a2t (by rw [Y5 J];omega) h2 (by rw [hk];rfl),hk];rfl
theorem c7d (h:wn s=2) (h2:B5 s=true) (hk:l9 (wrd s 0)=5):C2 m s=H3 m ⟨6,(x4 s).getD 0 default,0,0⟩:=by
 rw [a2t (by rw [Y5 J];omega) h2 (by rw [hk];rfl),hk];rfl
theorem c7e (h:wn s=2) (h2:B5 s=true) (hk:l9 (wrd s 0)=6):C2 m s=H3 m ⟨3,0,(x4 s).getD 0 default,0⟩:=by
 rw [a2t (by rw [Y5 J];omega) h2 (by rw [hk];rfl),hk];rfl
theorem c7f (h:wn s=2) (h2:B5 s=true) (hk:l9 (wrd s 0)=7):C2 m s=H3 m ⟨4,0,(x4 s).getD 0 default,0⟩:=by
 rw [a2t (by rw [Y5 J];omega) h2 (by rw [hk];rfl),hk];rfl
theorem c7g (h:wn s=2) (h2:B5 s=true) (h3:¬ l9 (wrd s 0)=3) (h4:¬ l9 (wrd s 0)=4) (h5:¬ l9 (wrd s 0)=5) (h6:¬ l9 (wrd s 0)=6) (h7:¬ l9 (wrd s 0)=7):C2 m s=(m,a3t m (l9 (wrd s 0)) ((x4 s).getD 0 default)):=by
 have hl:=@b2v (wrd s 0)
 by_cases g:8<=l9 (wrd s 0)/\l9 (wrd s 0)<=11
 ·rw [b2B (by rw [Y5 J];omega) h2 (by unfold X6;rw [if_neg J,if_neg J,if_neg J,if_neg J,if_neg J,if_neg J,if_neg J]),b89 J J]
  rfl
 ·rw [b9m J J J J]
  refine b2A ?_
  by_cases g1:l9 (wrd s 0)<=2
  ·rw [a3q g1];omega
  ·by_cases g2:l9 (wrd s 0)=12
   ·rw [a7a g2];omega
   ·rw [a4W J];omega
theorem c5s (h:wn s=3) (h2:B5 s=true) (hk:l9 (wrd s 0)=12):C2 m s=H3 m ⟨5,0,(x4 s).getD 0 default,(x4 s).getD 1 default⟩:=by
 rw [a2t (by rw [a7a hk];omega) h2 (by rw [hk];rfl),hk];rfl
theorem c7h (h:wn s=3) (hk:¬ l9 (wrd s 0)=12):C2 m s=(m,qmB):=by
 refine b2A ?_
 have hl:=@b2v (wrd s 0)
 by_cases g1:l9 (wrd s 0)<=2
 ·rw [a3q g1];omega
 ·grind [Y5,a4W]
theorem ct3 (h:4<=wn s):C2 m s=(m,qmB):=by
 grind [b2A,a3q,Y5,a7a,a4W]
theorem O7 {t:MStep} (h:(smT m t).2.2=true):SmallM (smT m t).1:=by
 unfold smT at h ⊢
 split at h
 ·next hk =>
  rw [if_pos hk]
  simp only [b6U,Bool.and_eq_true] at hk
  obtain ⟨⟨h1,h2⟩,h3⟩:=hk
  exact (c62 (maF h1).g h2 h3).1.small
 ·cases h
end
end Go.Rf
namespace Go.Rf
open Go Go.RowKit
end Go.Rf
namespace Go.Rf
open Go
variable {m:Mach} {x:Lg}
theorem c7i {r:Rec} (hx:x.d.size+x.p.size<=1048576):(apE x r).d.size+(apE x r).p.size<=1048576:=by
 grind [apE,U1,apG,a8R,a7d]
theorem b6X {s:ByteArray} (h:SmallM m):SmallM (C2 m s).1:=by
 show SmallM (a4Z m s).1
 unfold a4Z
 split
 ·grind [b3T,O7]
 ·exact h
theorem b6Y {s:ByteArray} (h:SmallM m) (hx:x.d.size+x.p.size<=1048576):SmallM (exC m x s).1/\(exC m x s).2.1.d.size+(exC m x s).2.1.p.size<=1048576:=by
 unfold exC
 split
 ·exact ⟨h,hx⟩
 ·split
  ·exact ⟨h,hx⟩
  ·split
   ·exact ⟨h,hx⟩
   ·exact ⟨b6X h,c7i hx⟩
def U9 (m:Mach) (x:Lg) (cs:Nat→ByteArray):Nat→Mach×Lg
 | 0=>(m,x)
 | i+1=>((exC (U9 m x cs i).1 (U9 m x cs i).2 (cs i)).1,(exC (U9 m x cs i).1 (U9 m x cs i).2 (cs i)).2.1)
def c7j (m:Mach) (x:Lg) (cs:Nat→ByteArray) (i:Nat):ByteArray:=(exC (U9 m x cs i).1 (U9 m x cs i).2 (cs i)).2.2
theorem a8U {m:Mach} {x:Lg} {cs:Nat→ByteArray} (h:SmallM m) (hx:x.d.size+x.p.size<=1048576):∀i,SmallM (U9 m x cs i).1/\(U9 m x cs i).2.d.size+(U9 m x cs i).2.p.size<=1048576
 | 0=>⟨h,hx⟩
 | i+1=>b6Y (a8U h hx i).1 (a8U h hx i).2
section
variable {rs:List Route} {c:Int} {l:Lg} {i:Nat}
end
def csT (t:ByteArray) (i:Nat):ByteArray:=(e7 t 10).getD i default
theorem b2C {t:ByteArray} {i:Nat}:(csT t i).size<=t.size:=by
 unfold csT
 rw [List.getD_eq_getElem?_getD]
 cases h:(e7 t 10)[i]? with
 | none=>exact Nat.zero_le _
 | some x =>
  rcases List.mem_append.1 (List.mem_of_getElem? h) with h | h
  ·exact a6m _ x h
  simp_all
def a3u (m:Mach) (y:Lg) (t:ByteArray):Nat→List ByteArray
 | 0=>[]
 | i+1=>a3u m y t i++[c7j m y (csT t) i]
theorem w9 {y:Lg} {t:ByteArray} {i:Nat}:a3u m y t (i+1)=a3u m y t i++[c7j m y (csT t) i]:=rfl
theorem a0n {m:Mach} {y:Lg} {t:ByteArray}:∀{i:Nat},(a3u m y t i).length=i
 | 0=>rfl
 | i+1=>by rw [w9,List.length_append,a0n];rfl
def scT (m:Mach) (y:Lg) (t:ByteArray):List ByteArray×Bool :=
 if a3p m y && decide (t.size<=4000) && decide ((e7 t 10).length<=30) then (a3u m y t (e7 t 10).length,true) else ([],false)
section
variable {m:Mach} {y:Lg} {t:ByteArray}
theorem c2f (h:a3p m y=false):scT m y t=([],false):=by unfold scT;rw [h];rfl
theorem c2g (h:¬ t.size<=4000):scT m y t=([],false):=by unfold scT;rw [decide_eq_false h,Bool.and_false];rfl
theorem c2h (h:¬ (e7 t 10).length<=30):scT m y t=([],false):=by unfold scT;rw [decide_eq_false h,Bool.and_false];rfl
theorem c7k (h1:a3p m y=true) (h2:t.size<=4000) (h3:(e7 t 10).length<=30):scT m y t=(a3u m y t (e7 t 10).length,true):=by unfold scT;rw [h1,decide_eq_true h2,decide_eq_true h3];rfl
end
end Go.Rf
namespace Go.Rf
def mkW (k:Int) (j:Nat):ByteArray:=mtT (k+j)
theorem rfb :
 ((∀(p:Prop) [Decidable p],(decide p=true)=p)/\(∀(p:Prop) [Decidable p],(decide p=false)↔¬p) /\
 (∀{α:Type} [BEq α] [LawfulBEq α] {a b:α},a==b↔a=b)/\(∀{α:Type} [BEq α] [LawfulBEq α] {a b:α},a != b↔a≠b)/\(∀{α:Type} (a b:α),(a≠b)=¬(a=b))) /\
 ((∀b:Bool,((!b)=true)=(b=false))/\(∀b:Bool,((!b)=false)=(b=true)) /\
 (∀{α:Type} [BEq α] [LawfulBEq α] {a b:α},(a==b)=false↔a≠b)/\(∀{α:Type} [BEq α] [LawfulBEq α] {a b:α},(a != b)=false↔a=b) /\
 (∀b:Bool,(¬(b=true))=(b=false))/\(∀b:Bool,(¬(b=false))=(b=true))) /\
 ((∀{a b:Int},¬(a < b)↔b<=a)/\(∀{a b:Int},¬(a<=b)↔b < a)/\(∀{a b:Int},a > b↔b < a)/\(∀{a b:Int},a≥b↔b<=a)) /\
 ((∀a b:Bool,((a && b)=true)=(a=true/\b=true))/\(∀{a b:Bool},(a && b)=false↔a=false∨b=false)/\(∀a b:Bool,((a || b)=true)=(a=true∨b=true))/\(∀{a b:Bool},(a || b)=false↔a=false/\b=false)) :=
 ⟨⟨λp _=>decide_eq_true_eq,λp _=>decide_eq_false_iff_not,beq_iff_eq,bne_iff_ne,λa b=>ne_eq a b⟩,⟨Bool.not_eq_true',Bool.not_eq_false',beq_eq_false_iff_ne,bne_eq_false_iff_eq,Bool.not_eq_true,Bool.not_eq_false⟩,⟨Int.not_lt,Int.not_le,gt_iff_lt,ge_iff_le⟩,⟨Bool.and_eq_true,Bool.and_eq_false_iff,Bool.or_eq_true,Bool.or_eq_false_iff⟩⟩
end Go.Rf
namespace Go.Rf
open Go Go.RowKit
section
variable {P:Program} [Env P] {w0:Base} {ops:Array Oper} {tb:List (Nat×TyI)} {o:Oper} {T:List (Nat×AV)} {m m0:List (Nat×Option Row)} {nx nt d fuel:Nat} {Q:Exit→St→Prop} {S:St} {A K:St→Prop} {c:Code} {listed:Array Bool} {b:Base} {r:AV} {id:Nat}
theorem b3V {t:TypeId} {x:Operand} {k off ft id a0:Nat} {fs:List (Nat×Nat)} {zs:List Value} (G:Good P tb) (ho:o.op=.fieldAddr t x k) (hx:ev T x=some (.ptr id a0)) (ht:look t tb=some (.struct fs zs)) (hk:nth fs k=some (off,ft)):QStep P o T m nx nt (.ptr id (Nat.add a0 off)):=m9 G ho ht hk hx
theorem b4T {t:TypeId} {x:Operand} {i:TyI} {id off:Nat} {cs:List AV} (G:Good P tb) (ho:o.op=.load t x) (hx:ev T x=some (.ptr id off)) (hm:mem m id=some (.box cs)) (hr:nth cs off=some r) (ht:look t tb=some i) (hf:Z0 i=true) (hd:b1L r=true):QStep P o T m nx nt r:=o7 G ho ht hf hx hm hr hd
theorem c7l {t:TypeId} {x:Operand} {i:TyI} {id off sz:Nat} {cs:List AV} {z:Value} {ys:List (List Value)} (G:Good P tb) (ho:o.op=.load t x) (hx:ev T x=some (.ptr id off)) (hm:mem m id=some (.box cs)) (hr:nth cs off=some (.pin z sz ys)) (ht:look t tb=some i) (hf:Z0 i=true):QStep P o T m nx nt (.lst sz ys):=a5M (o7 G ho ht hf hx hm hr Z)
theorem c7m {t:TypeId} {x:Operand} {i:TyI} {id off sz:Nat} {cs:List AV} {z:Option Value} {yss:List (List CI)} (G:Good P tb) (ho:o.op=.load t x) (hx:ev T x=some (.ptr id off)) (hm:mem m id=some (.box cs)) (hr:nth cs off=some (.nst z sz yss)) (hd:b1L (.nst z sz yss)=true) (ht:look t tb=some i) (hf:Z0 i=true):QStep P o T m nx nt (.nst none sz yss):=b7L (o7 G ho ht hf hx hm hr hd)
theorem a6n {t:TypeId} {x:Operand} {fs:List (Nat×Nat)} {zs:List Value} {id off:Nat} {cs rs:List AV} (G:Good P tb) (ho:o.op=.load t x) (hx:ev T x=some (.ptr id off)) (hm:mem m id=some (.box cs)) (ht:look t tb=some (.struct fs zs)) (hr:a2B zs.length (Y9 off cs) []=some rs) (hd:a4m rs=true):QStep P o T m nx nt (.agg rs):=i6 G ho ht hx hm hr hd
theorem b4U {t:TypeId} {x:Operand} {i:TyI} {c:List Value} {u:Value} (G:Good P tb) (ho:o.op=.load t x) (hx:ev T x=some (.ept c)) (hr:nth c 0=some u) (ht:look t tb=some i) (hf:Z0 i=true):QStep P o T m nx nt (.v u):=b39 G ho ht hf hx hr
theorem a6o {t:TypeId} {x:Operand} {fs:List (Nat×Nat)} {zs:List Value} {c us:List Value} (G:Good P tb) (ho:o.op=.load t x) (hx:ev T x=some (.ept c)) (ht:look t tb=some (.struct fs zs)) (hr:a2B zs.length c []=some us):QStep P o T m nx nt (.agg (avR us [])):=a5o G ho ht hx hr
theorem c7n {x:Operand} {t e sz by_ n:Nat} {zs:List Value} {ax:AV} (G:Good P tb) (ho:o.op=.call { callee:=.builtin .len,args:=#[x],argTypes:=#[t] }) (hx:ev T x=some ax) (hn:b6c m ax=some n) (ht:look t tb=some (.slice e sz by_ zs)):QStep P o T m nx nt (.v (.int .i64 n)):=a1o G ho ht hx hn
theorem c5t {x:Operand} {t e sz by_ n n':Nat} {zs:List Value} {ax:AV} (G:Good P tb) (ho:o.op=.call { callee:=.builtin .len,args:=#[x],argTypes:=#[t] }) (hx:ev T x=some ax) (hn:b6c m ax=some n) (he:n=n') (ht:look t tb=some (.slice e sz by_ zs)):QStep P o T m nx nt (.v (.int .i64 n')):=T7 G ho ht hx hn he
theorem a3v {x y:Operand} {t e sz by_:Nat} {zs:List Value} {ys:List (List Value)} {k:IntKind} {i:Int} {c:List Value} (G:Good P tb) (ho:o.op=.indexAddr t x y) (hx:ev T x=some (.lst sz ys)) (hy:ev T y=some (.v (.int k i))) (h0:0<=i) (hc:ys[i.toNat]?=some c) (ht:look t tb=some (.slice e sz by_ zs)):QStep P o T m nx nt (.ept c):=a7z G ho ht hx hy h0 hc
def Ph (n:Nat) (p:Prop):Prop:=p
structure Hd (q:Prop):Prop where o:q
structure Sg (P:Program) [Env P] (o:Oper) (T:List (Nat×AV)) (m:List (Nat×Option Row)) (nx nt:Nat) (K:AV→Prop):Prop where o:∃r,QStep P o T m nx nt r/\K r
theorem Sg.of {K:AV→Prop} (h:QStep P o T m nx nt r) (k:K r):Sg P o T m nx nt K:=⟨r,h,k⟩
theorem b2D [EnvAt P w0] {l:List Oper} {Q:Exit→St→Prop} (hd:o.dst=some d) (hlt:Nat.blt d nt=true) (h:Sg P o T m nx nt (λr=>WL P w0 ops l ⟨(d,r) :: T,m,nx,nt⟩ Q)):WX P w0 ops o l ⟨T,m,nx,nt⟩ Q:=h.o.elim λ_ h=>b5 hd hlt h.1 h.2
theorem b2E [EnvAt P w0] {l:List Oper} {K:List (Nat×AV)→Prop} (hd:o.dst=some d) (hlt:Nat.blt d nt=true) (h:Sg P o T m nx nt (λr=>QL P w0 ops l ((d,r) :: T) m nx nt K)):QX P w0 ops o l T m nx nt K:=h.o.elim λ_ h=>r5 hd hlt h.1 h.2
theorem c7o [EnvAt P b] {o1:Option Nat} {o2:Op} {o3:TypeId} {o4:String} {o5:Array Edge} {o6:Option (Nat×Bool)} {i:Nat} (hi:ops[i]?=some ⟨o1,o2,o3,o4,o5,o6⟩) (hg:o6=none) (hd:o1=some d) (hlt:Nat.blt d nt=true) (hf:Region.free .any ops listed i=true) (hr:(Region.ready .any ops listed).contains i=true) (hp:a6N o2=true) (h:Sg P ⟨o1,o2,o3,o4,o5,o6⟩ T m0 nx nt (λr=>WA P b ops m0 fuel (listed.setIfInBounds i true) ⟨(d,r) :: T,m,nx,nt⟩ A)):Ph i (WA P b ops m0 (fuel+1) listed ⟨T,m,nx,nt⟩ A):=h.o.elim λ_ h=>d4 i hi hf hr hp hg hd hlt h.1 h.2
theorem c7p [EnvAt P b] {o1:Option Nat} {o2:Op} {o3:TypeId} {o4:String} {o5:Array Edge} {o6:Option (Nat×Bool)} {i j gd:Nat} {want:Bool} (hi:ops[i]?=some ⟨o1,o2,o3,o4,o5,o6⟩) (hg:o6=some (j,want)) (hj:(ops[j]?).bind (·.dst)=some gd) (hb:look gd T=some (.v (.bool want))) (hd:o1=some d) (hlt:Nat.blt d nt=true) (hf:Region.free .any ops listed i=true) (hr:(Region.ready .any ops listed).contains i=true) (hp:a6N o2=true) (h:Sg P ⟨o1,o2,o3,o4,o5,o6⟩ T m0 nx nt (λr=>WA P b ops m0 fuel (listed.setIfInBounds i true) ⟨(d,r) :: T,m,nx,nt⟩ A)):Ph i (WA P b ops m0 (fuel+1) listed ⟨T,m,nx,nt⟩ A):=h.o.elim λ_ h=>O1 i hi hf hr hp hg hj hb hd hlt h.1 h.2
theorem f8 (ms:List Nat) {o1:Option Nat} {o2:Op} {o3:TypeId} {o4:String} {o5:Array Edge} {o6:Option (Nat×Bool)} {i:Nat} {S:St} (hi:ops[i]?=some ⟨o1,o2,o3,o4,o5,o6⟩) (hg:o6=none) (h:WX P b ops ⟨o1,o2,o3,o4,o5,o6⟩ [] S (nq (λS'=>N9 b.n0 S'.m ms []=some m0/\WA P b ops m0 fuel (listed.setIfInBounds i true) S' A))):WB P b ops m0 fuel listed i S A:=g8 ms hi hg h
theorem c7q {i j gd:Nat} {want bb:Bool} (hi:ops[i]?=some o) (hg:o.guard=some (j,want)) (hj:(ops[j]?).bind (·.dst)=some gd) (hb:look gd T=some (.v (.bool bb))) (hne:(bb==want)=false) (hf:Region.free .any ops listed i=true) (hr:(Region.ready .any ops listed).contains i=true) (hd:o.dst=some d) (hlt:Nat.blt d nt=true) (hk:WA P b ops m0 fuel (listed.setIfInBounds i true) ⟨(d,.v undef) :: T,m,nx,nt⟩ A):Ph i (WA P b ops m0 (fuel+1) listed ⟨T,m,nx,nt⟩ A):=a2a i hi hf hr hg hj hb hne hd hlt hk
theorem c7r {i j gd:Nat} {want:Bool} (hi:ops[i]?=some o) (hg:o.guard=some (j,want)) (hj:(ops[j]?).bind (·.dst)=some gd) (hb:look gd T=some (.v undef)) (hf:Region.free .any ops listed i=true) (hr:(Region.ready .any ops listed).contains i=true) (hd:o.dst=some d) (hlt:Nat.blt d nt=true) (hk:WA P b ops m0 fuel (listed.setIfInBounds i true) ⟨(d,.v undef) :: T,m,nx,nt⟩ A):Ph i (WA P b ops m0 (fuel+1) listed ⟨T,m,nx,nt⟩ A):=b6n i hi hf hr hg hj hb hd hlt hk
theorem c1h {x:Operand} {o1:Option Nat} {o3:TypeId} {o4:String} {o5:Array Edge} {o6:Option (Nat×Bool)} {K:AV→Prop} (h:Sg P ⟨o1,.move x,o3,o4,o5,o6⟩ T m nx nt K):Sg P ⟨o1,.move x,o3,o4,o5,o6⟩ T m nx nt K:=h
theorem b6Z {x:Operand} {o1:Option Nat} {o3:TypeId} {o4:String} {o5:Array Edge} {o6:Option (Nat×Bool)} {K:AV→Prop} (h:Sg P ⟨o1,.assign x,o3,o4,o5,o6⟩ T m nx nt K):Sg P ⟨o1,.assign x,o3,o4,o5,o6⟩ T m nx nt K:=h
theorem b9n {t:TypeId} {x:Operand} {k:Nat} {o1:Option Nat} {o3:TypeId} {o4:String} {o5:Array Edge} {o6:Option (Nat×Bool)} {K:AV→Prop} (h:Sg P ⟨o1,.fieldAddr t x k,o3,o4,o5,o6⟩ T m nx nt K):Sg P ⟨o1,.fieldAddr t x k,o3,o4,o5,o6⟩ T m nx nt K:=h
theorem c1i {t:TypeId} {x:Operand} {o1:Option Nat} {o3:TypeId} {o4:String} {o5:Array Edge} {o6:Option (Nat×Bool)} {K:AV→Prop} (h:Sg P ⟨o1,.load t x,o3,o4,o5,o6⟩ T m nx nt K):Sg P ⟨o1,.load t x,o3,o4,o5,o6⟩ T m nx nt K:=h
theorem c5u {u:BinOp} {t t2:TypeId} {x y:Operand} {o1:Option Nat} {o3:TypeId} {o4:String} {o5:Array Edge} {o6:Option (Nat×Bool)} {K:AV→Prop} (h:Sg P ⟨o1,.binOp u t x y t2,o3,o4,o5,o6⟩ T m nx nt K):Sg P ⟨o1,.binOp u t x y t2,o3,o4,o5,o6⟩ T m nx nt K:=h
theorem c1j {c x y:Operand} {o1:Option Nat} {o3:TypeId} {o4:String} {o5:Array Edge} {o6:Option (Nat×Bool)} {K:AV→Prop} (h:Sg P ⟨o1,.pick c x y,o3,o4,o5,o6⟩ T m nx nt K):Sg P ⟨o1,.pick c x y,o3,o4,o5,o6⟩ T m nx nt K:=h
theorem b4V {x:Operand} {k:Nat} {o1:Option Nat} {o3:TypeId} {o4:String} {o5:Array Edge} {o6:Option (Nat×Bool)} {K:AV→Prop} (h:Sg P ⟨o1,.extract x k,o3,o4,o5,o6⟩ T m nx nt K):Sg P ⟨o1,.extract x k,o3,o4,o5,o6⟩ T m nx nt K:=h
theorem c5v {t:TypeId} {x:Operand} {o1:Option Nat} {o3:TypeId} {o4:String} {o5:Array Edge} {o6:Option (Nat×Bool)} {K:AV→Prop} (h:Sg P ⟨o1,.unOp .not t x,o3,o4,o5,o6⟩ T m nx nt K):Sg P ⟨o1,.unOp .not t x,o3,o4,o5,o6⟩ T m nx nt K:=h
theorem b9o {t:TypeId} {l:Array (Nat×Operand)} {o1:Option Nat} {o3:TypeId} {o4:String} {o5:Array Edge} {o6:Option (Nat×Bool)} {K:AV→Prop} (h:Sg P ⟨o1,.build t l,o3,o4,o5,o6⟩ T m nx nt K):Sg P ⟨o1,.build t l,o3,o4,o5,o6⟩ T m nx nt K:=h
theorem b9p {t:TypeId} {x y:Operand} {o1:Option Nat} {o3:TypeId} {o4:String} {o5:Array Edge} {o6:Option (Nat×Bool)} {K:AV→Prop} (h:Sg P ⟨o1,.indexAddr t x y,o3,o4,o5,o6⟩ T m nx nt K):Sg P ⟨o1,.indexAddr t x y,o3,o4,o5,o6⟩ T m nx nt K:=h
theorem c5w {c:Call} {o1:Option Nat} {o3:TypeId} {o4:String} {o5:Array Edge} {o6:Option (Nat×Bool)} {K:AV→Prop} (h:Sg P ⟨o1,.call c,o3,o4,o5,o6⟩ T m nx nt K):Sg P ⟨o1,.call c,o3,o4,o5,o6⟩ T m nx nt K:=h
theorem p6 {x y:Code} {S:St} {Q:Exit→St→Prop} (h:W P w0 x S (sq (λS=>W P w0 y S Q) Q)):W P w0 (.seq x y) S Q:=d3 λK hK=>b37 h λe S' q=>by cases e<;>first | exact hK _ q | exact q
theorem aW {S:St} {Q:Exit→St→Prop} {c:Code} (h:W P w0 c S Q):W P w0 c S Q:=h
theorem aWL {S:St} {Q:Exit→St→Prop} {l:List Oper} (h:WL P w0 ops l S Q):WL P w0 ops l S Q:=h
theorem aWX {S:St} {Q:Exit→St→Prop} {l:List Oper} (h:WX P w0 ops o l S Q):WX P w0 ops o l S Q:=h
theorem aQX {K:List (Nat×AV)→Prop} {l:List Oper} (h:QX P w0 ops o l T m nx nt K):QX P w0 ops o l T m nx nt K:=h
theorem aQL {K:List (Nat×AV)→Prop} {l:List Oper} (h:QL P w0 ops l T m nx nt K):QL P w0 ops l T m nx nt K:=h
end
section
variable {K:St→Prop} {Q:Exit→St→Prop} {S:St} {i id:Nat}
theorem c5x (h:K S):sq K Q .normal S:=h
theorem c5y (h:K S):nq K .normal S:=h
theorem c5z (h:Q (.exit i) S):sq K Q (.exit i) S:=h
theorem c5A (h:Q .ret S):sq K Q .ret S:=h
theorem c5B (h:Q .normal S):bq id Q .normal S:=h
theorem c5C (h:Q .ret S):bq id Q .ret S:=h
theorem c5D (h:Q .normal S):bq id Q (.exit id) S:=by simp only [bq,Nat.beq_refl,cond_true];exact h
theorem c5E (h:Q (.exit i) S) (e:Nat.beq i id=false:=by rfl):bq id Q (.exit i) S:=by simp only [bq,e,cond_false];exact h
end
theorem zq {p q:Prop} (k:q) (h:Hd q→p:=by
 intro kk
 first
  | (with_reducible refine c1h ?_;first | refine Sg.of (c7 Z Z) ?_)
  | (with_reducible refine b6Z ?_;first | refine Sg.of (c6 Z Z) ?_)
  | (with_reducible refine b9n ?_;first | refine Sg.of (b3V G Z Z Z Z) ?_ | refine Sg.of (b2U G Z Z Z Z) ?_)
  | (with_reducible refine c1i ?_;first | refine Sg.of (c7l G Z Z Z Z Z Z) ?_ | refine Sg.of (c7m G Z Z Z Z Z Z) ?_ | refine Sg.of (b4T G Z Z Z Z Z Z Z) ?_ | refine Sg.of (a6n G Z Z Z Z Z Z) ?_ | refine Sg.of (b4U G Z Z Z Z Z) ?_ | refine Sg.of (a6o G Z Z Z Z) ?_ | refine Sg.of (K0 G Z Z Z Z) ?_)
  | (with_reducible refine c5u ?_;first | refine Sg.of (B3 Z Z Z Z) ?_ | refine Sg.of (v6 Z Z Z Z J J) ?_)
  | (with_reducible refine c1j ?_;first | refine Sg.of (x6 Z Z Z) ?_ | refine Sg.of (A0 Z Z Z) ?_)
  | (with_reducible refine b4V ?_;first | refine Sg.of (j8 Z Z Z) ?_)
  | (with_reducible refine c5v ?_;first | refine Sg.of (a5m Z Z) ?_ | refine Sg.of (b91 Z Z) ?_ | refine Sg.of (a2T Z Z) ?_)
  | (with_reducible refine b9o ?_;first | refine Sg.of (w5 G Z Z Z Z) ?_)
  | (with_reducible refine b9p ?_;first | refine Sg.of (a3v G Z Z Z J (a1r J) Z) ?_ | refine Sg.of (a3v G Z Z Z J (V9 J J) Z) ?_ | refine Sg.of (a3v G Z Z Z J (x7 J J) Z) ?_ | refine Sg.of (B9 G Z Z Z Z J (a1r J) Z) ?_ | refine Sg.of (B9 G Z Z Z Z J (V9 J J) Z) ?_ | refine Sg.of (B9 G Z Z Z Z J (x7 J J) Z) ?_)
  | (with_reducible refine c5w ?_;first | refine Sg.of (c5t G Z Z Z (List.length_map _) Z) ?_ | refine Sg.of (c7n G Z Z Z Z) ?_)
 exact kk.o):p:=h ⟨k⟩
theorem zgo {p q:Prop} (k:q) (h:Hd q→p:=by
 intro kk
 first | (with_reducible refine aWX ?_;first | (refine b2D Z Z ?_;refine zq ?_) | refine m4 G Z Z Z Z Z Z Z Z Z Z Z ?_) | (with_reducible refine aQX ?_;first | (refine b2E Z Z ?_;refine zq ?_)) | skip
 repeat (first
  | (with_reducible refine aW ?_;with_reducible first | refine p6 ?_ | refine b8 ?_ | refine r4 ?_ | refine s3 ?_ | refine Y1 ?_)
  | (with_reducible refine aWL ?_;first | (refine a7 Z ?_;first | (refine b2D Z Z ?_;refine zq ?_) | refine m4 G Z Z Z Z Z Z Z Z Z Z Z ?_) | (refine o8 Z Z Z ?_;first | (refine b2D Z Z ?_;refine zq ?_) | refine m4 G Z Z Z Z Z Z Z Z Z Z Z ?_) | refine l5 Z Z Z Z Z Z ?_ | refine a6C Z Z Z Z Z ?_ | with_reducible refine b6 ?_)
  | (with_reducible refine aQL ?_;first | (refine j4 Z ?_;first | (refine b2E Z Z ?_;refine zq ?_)) | (refine a2Q Z Z Z ?_;first | (refine b2E Z Z ?_;refine zq ?_)) | refine b1I Z Z Z Z Z Z ?_ | refine a6D Z Z Z Z Z ?_ | with_reducible refine a8V ?_)
  | (with_reducible first | refine c5x ?_ | refine c5y ?_ | refine c5B ?_ | refine c5z ?_ | refine c5D ?_ | refine c5A ?_ | refine c5C ?_ | (refine c5E ?_ ?_;rotate_left)))
 exact kk.o):p:=h ⟨k⟩
theorem zgn {p q:Prop} (k:q) (h:Hd q→p:=by
 intro kk
 repeat (with_reducible first | refine p6 ?_ | refine b8 ?_ | refine r4 ?_)
 first | (with_reducible refine aWX ?_;first | (refine b2D Z Z ?_;refine zq ?_) | refine m4 G Z Z Z Z Z Z Z Z Z Z Z ?_) | (with_reducible refine aQX ?_;first | (refine b2E Z Z ?_;refine zq ?_)) | skip
 repeat (first
  | (with_reducible refine aWL ?_;first | (refine a7 Z ?_;first | (refine b2D Z Z ?_;refine zq ?_) | refine m4 G Z Z Z Z Z Z Z Z Z Z Z ?_) | (refine o8 Z Z Z ?_;first | (refine b2D Z Z ?_;refine zq ?_) | refine m4 G Z Z Z Z Z Z Z Z Z Z Z ?_) | refine l5 Z Z Z Z Z Z ?_ | refine a6C Z Z Z Z Z ?_)
  | (with_reducible refine aQL ?_;first | (refine j4 Z ?_;first | (refine b2E Z Z ?_;refine zq ?_)) | (refine a2Q Z Z Z ?_;first | (refine b2E Z Z ?_;refine zq ?_)) | refine b1I Z Z Z Z Z Z ?_ | refine a6D Z Z Z Z Z ?_))
 with_reducible first | refine b6 ?_ | refine a8V ?_ | refine s3 ?_ | refine Y1 ?_
 repeat (with_reducible first | refine c5x ?_ | refine c5y ?_ | refine c5B ?_ | refine c5z ?_ | refine c5D ?_ | refine c5A ?_ | refine c5C ?_ | (refine c5E ?_ ?_;rotate_left))
 exact kk.o):p:=h ⟨k⟩
theorem znk {p q:Prop} (k:q) (h:Hd q→p:=by
 intro kk
 repeat (with_reducible first | refine c5x ?_ | refine c5y ?_ | refine c5B ?_ | refine c5z ?_ | refine c5D ?_ | refine c5A ?_ | refine c5C ?_ | (refine c5E ?_ ?_;rotate_left))
 exact kk.o):p:=h ⟨k⟩
theorem zst {p q:Prop} (k:q) (h:Hd q→p:=by
 intro kk
 first
  | (with_reducible refine aWX ?_;first | (refine b2D Z Z ?_;refine zq ?_) | refine m4 G Z Z Z Z Z Z Z Z Z Z Z ?_)
  | (with_reducible refine aQX ?_;first | (refine b2E Z Z ?_;refine zq ?_))
  | (with_reducible refine aWL ?_;first | (refine a7 Z ?_;first | (refine b2D Z Z ?_;refine zq ?_) | refine m4 G Z Z Z Z Z Z Z Z Z Z Z ?_) | (refine o8 Z Z Z ?_;first | (refine b2D Z Z ?_;refine zq ?_) | refine m4 G Z Z Z Z Z Z Z Z Z Z Z ?_) | refine l5 Z Z Z Z Z Z ?_ | refine a6C Z Z Z Z Z ?_)
  | (with_reducible refine aQL ?_;first | (refine j4 Z ?_;first | (refine b2E Z Z ?_;refine zq ?_)) | (refine a2Q Z Z Z ?_;first | (refine b2E Z Z ?_;refine zq ?_)) | refine b1I Z Z Z Z Z Z ?_ | refine a6D Z Z Z Z Z ?_)
 exact kk.o):p:=h ⟨k⟩
theorem zgd {p q:Prop} (k:q) (h:Hd q→p:=by
 intro kk
 refine zgo ?_
 refine a5j mixed (by kernel_rfl) ?_
 exact kk.o):p:=h ⟨k⟩
theorem zcd {p a b:Prop} {q1:a→Prop} {q2:b→Prop} (k1:∀h,q1 h) (k2:∀h,q2 h) (h:Hd (∀h,q1 h)→Hd (∀h,q2 h)→p:=by
 intro k1 k2
 refine zgo ?_
 first | refine m6 Z (λhc=>?_) (λhc=>?_) | refine A3 Z Z Z (λhc=>?_) (λhc=>?_) | refine b1J Z Z Z (λhc=>?_) (λhc=>?_)
 ·(try rw [hc]);(try simp only [rfb] at hc);exact k1.o hc
 ·(try rw [hc]);(try simp only [rfb] at hc);exact k2.o hc):p:=h ⟨k1⟩ ⟨k2⟩
theorem zwt {p q:Prop} (k:q) (h:Hd q→p:=by
 intro kk
 refine zgo ?_
 refine J9 Z ?_
 exact kk.o):p:=h ⟨k⟩
theorem zwf {p q:Prop} (k:q) (h:Hd q→p:=by
 intro kk
 refine zgo ?_
 refine J8 Z ?_
 exact kk.o):p:=h ⟨k⟩
theorem zf1 {p q:Prop} (k:q) (h:Hd q→p:=by
 intro kk
 refine zgo ?_
 refine e6 (C9 Z (l3 ?_))
 exact kk.o):p:=h ⟨k⟩
theorem zfo {p q:Prop} (k:q) (h:Hd q→p:=by
 intro kk
 refine zgo ?_
 refine e6 (C9 Z (d6 Z ?_))
 exact kk.o):p:=h ⟨k⟩
theorem zcl {p q c:Prop} (x:c) (k:q) (h:c→Hd q→p:=by
 intro x kk
 refine zgo ?_
 first | exact a7 Z (b5 Z Z (f9 Z (ArgsOK.of Z) x Z) kk.o) | exact o8 Z Z Z (b5 Z Z (f9 Z (ArgsOK.of Z) x Z) kk.o) | exact j4 Z (r5 Z Z (f9 Z (ArgsOK.of Z) x Z) kk.o) | exact a2Q Z Z Z (r5 Z Z (f9 Z (ArgsOK.of Z) x Z) kk.o)):p:=h x ⟨k⟩
theorem zsa (n:Nat) {p q:Prop} (k:q) (h:Hd q→Ph n p:=by
 intro kk
 first
 | (refine c7o Z Z Z Z (by kernel_rfl) (by kernel_rfl) Z ?_;refine zq ?_)
 | (refine c7p Z Z Z Z Z Z (by kernel_rfl) (by kernel_rfl) Z ?_;refine zq ?_)
 | refine c7q Z Z Z Z Z (by kernel_rfl) (by kernel_rfl) Z Z ?_
 | refine c7r Z Z Z Z (by kernel_rfl) (by kernel_rfl) Z Z ?_
 exact kk.o):p:=h ⟨k⟩
theorem Y {p:Prop} (h:p:=by kernel_rfl):p:=h
end Go.Rf
