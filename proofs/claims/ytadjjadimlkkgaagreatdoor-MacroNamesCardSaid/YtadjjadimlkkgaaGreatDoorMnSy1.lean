/-
  Several texts in one: XSymA, XSymB, XSymC, XSymD, XSymE, XSymF, XSymG.
-/
import Derived.Test.YtadjjadimlkkgaaGreatDoorMnEv3
set_option linter.unusedSimpArgs false
set_option linter.unusedVariables false
section

namespace Go.Proofs.YtadjjadimlkkgaaGreatDoor
open Go

def zm(c c':Uc):Prop:= ∀f args st r,c f args st=some r→c' f args st=some r
theorem UO{α β:Type}{x:Option α}{k k':α→Option β}{r:β}(h:ob x k=some r)(hk: ∀a,x=some a→k a=some r→k' a=some r):ob x k'=some r:=by
 obtain⟨a,ha,h⟩:=Qi h;rw[ha];exact hk a ha h
theorem Wj{β:Type}{b:Bool}{k k':Option β}{r:β}(h:QD b k=some r)(hk:k=some r→k'=some r):QD b k'=some r:=by
 obtain⟨hb,h⟩:=Qo h;subst hb;exact hk h
variable {P:Program} {G:Env}
theorem Tz{R:Operand→Option AV}{c c':Uc}(hc:zm c c'){o:Oper}{st:St}{r:AV×St}(h:Ib P R c o st=some r):Ib P R c' o st=some r:=by
 obtain⟨dst,op,ty,pos,af,g⟩:=o
 cases op with
 |call cl=>
  obtain⟨callee,args,tys⟩:=cl
  cases callee with
  |value f=>
   have h:(ob (R f) fun v=>(match v with
    |.fn fid a cap=>ob (JW R args.toList) fun l=>c fid (Yu a (Yu l cap)) st
    |_=>none))=some r:=h
   show(ob (R f) fun v=>(match v with
    |.fn fid a cap=>ob (JW R args.toList) fun l=>c' fid (Yu a (Yu l cap)) st
    |_=>none))=some r
   refine UO h fun v _ h=>?_
   cases v with
   |fn fid a cap=>exact UO h fun l _ h=>hc _ _ _ _ h
   |_=>cases h
  |invoke f name=>
   have h:(ob (R f) fun v=>(match v with
    |.ifc t u=>ob (Ig P t name) fun fid=>ob (JW R args.toList) fun l=>c fid (u::l) st
    |_=>none))=some r:=h
   show(ob (R f) fun v=>(match v with
    |.ifc t u=>ob (Ig P t name) fun fid=>ob (JW R args.toList) fun l=>c' fid (u::l) st
    |_=>none))=some r
   refine UO h fun v _ h=>?_
   cases v with
   |ifc t u=>exact UO h fun fid _ h=>UO h fun l _ h=>hc _ _ _ _ h
   |_=>cases h
  |_=>exact h
 |_=>exact h
theorem IX{c c':Uc}(hc:zm c c'){ops:List Oper}{o:Oper}{T:Tr AV}{st:St}{r:AV×St}(h:JH P G c ops o T st=some r):JH P G c' ops o T st=some r:=by
 unfold JH at h ⊢
 cases hw:Jp ops o T with
 |true=>rw[hw]at h;exact Tz hc h
 |false=>rw[hw]at h;exact h
theorem EW{β:Type}{N:Nat}{d:Option Nat}{v:AV}{T:Tr AV}{k k':Tr AV→Option β}{r:β}(h:Yt N d v T k=some r)(hk: ∀T,k T=some r→k' T=some r):Yt N d v T k'=some r:=by
 cases d with
 |none=>exact hk _ h
 |some t=>
  have h:QD (Nat.ble (t+1) N) (T.put t v k)=some r:=h;show QD (Nat.ble (t+1) N) (T.put t v k')=some r;refine Wj h fun h=>?_;rw[Tr.put_eq]at h ⊢;exact hk _ h
theorem Na{c c':Uc}(hc:zm c c'){N:Nat}{ops:List Oper}: ∀(l:List Oper) (T:Tr AV) (st:St) (r:Tr AV×St),Ez P G c N ops l T st=some r→Ez P G c' N ops l T st=some r:=by
 intro l
 induction l with
 |nil=>intro T st r h;exact h
 |cons o l ih=>
  intro T st r h;have h:(ob (JH P G c ops o T st) fun r=>Yt N o.dst r.1 T fun T=>tl (Ez P G c N ops l T r.2))=some r:=h;show(ob (JH P G c' ops o T st) fun r=>Yt N o.dst r.1 T fun T=>tl (Ez P G c' N ops l T r.2))=some r;obtain⟨a,ha,h⟩:=Qi h;rw[IX hc ha,Qh];exact EW h fun T h=>ih T a.2 r h
theorem Nb{c c':Uc}(hc:zm c c'){N:Nat}{ops:List Oper}: ∀(l:List (Nat×Oper×Nat)) (T:Tr AV) (st:St) (sn:List St) (r:Tr AV×St),VN P G c N ops l T st sn=some r→VN P G c' N ops l T st sn=some r:=by
 intro l
 induction l with
 |nil=>intro T st sn r h;exact h
 |cons q l ih=>
  intro T st sn r h
  have h:(ob (JH P G c ops q.2.1 T st) fun r=>QD (Qg (Jp ops q.2.1 T) (again P G q.2.1 T r.1 q.2.2 (List.rec [] (fun _ t _=>t) sn)) true)
   (Yt N q.2.1.dst r.1 T fun T=>tl (VN P G c N ops l T r.2 (Qg (Nat.beq (QG P q.2.1.op) 3) (r.2::sn) sn))))=some r:=h
  show(ob (JH P G c' ops q.2.1 T st) fun r=>QD (Qg (Jp ops q.2.1 T) (again P G q.2.1 T r.1 q.2.2 (List.rec [] (fun _ t _=>t) sn)) true)
   (Yt N q.2.1.dst r.1 T fun T=>tl (VN P G c' N ops l T r.2 (Qg (Nat.beq (QG P q.2.1.op) 3) (r.2::sn) sn))))=some r
  obtain⟨a,ha,h⟩:=Qi h;rw[IX hc ha,Qh];refine Wj h fun h=>EW h fun T h=>ih T a.2 _ r h
theorem Kx{f f':Tr AV→St→Option (Ex×Tr AV×St)}(hf: ∀T st r,f T st=some r→f' T st=some r): ∀(L L':Nat),L≤L'→ ∀T st r,F8 L f T st=some r→F8 L' f' T st=some r:=by
 intro L
 induction L with
 |zero=>intro L' _ T st r h;cases h
 |succ L ih=>
  intro L' hL T st r h;obtain⟨M,rfl⟩: ∃M,L'=M+1:=⟨L'-1,by omega⟩;have h:Xb (f T st) (F8 L f)=some r:=h;show Xb (f' T st) (F8 M f')=some r;rcases Ft h with⟨T1,st1,h1,h2⟩|⟨h1,h2⟩
  ·rw[hf _ _ _ h1];exact ih M (by omega) _ _ _ h2
  ·rw[hf _ _ _ h1];obtain⟨e,T,st⟩:=r
   cases e with
   |nor=>exact absurd rfl h2
   |exit i=>rfl
   |ret=>rfl
theorem Ln{N:Nat}{ts te:TypeId}{cap:AV}{ps:List Tmp}{fa fb fa' fb':Tr AV→St→Option (Ex×Tr AV×St)}(ha: ∀T st r,fa T st=some r→fa' T st=some r)(hb: ∀T st r,fb T st=some r→fb' T st=some r){T:Tr AV}:
  ∀(n:Nat) (st:St) (r:Ex×Tr AV×St),Xe P N ts te cap ps fa fb T n st=some r→Xe P N ts te cap ps fa' fb' T n st=some r:=by
 intro n
 induction n with
 |zero=>intro st r h;exact h
 |succ n ih=>
  intro st r h
  have h:(ob (QX P ts cap st.h.get) fun s=>ob (Jy P ts s (.int .i64 (Int.ofNat n))) fun q=>ob (QX P te q st.h.get) fun v=>
   AA N ps (.int .i64 (Int.ofNat n)) v T fun T1=>ob (fa T1 st) fun r=>Ex.rec (ob (fb r.2.1 r.2.2) fun q=>Ex.rec (tl (Xe P N ts te cap ps fa fb T n q.2.2)) (fun id=>some (.exit id,T,q.2.2)) (some (.ret,T,q.2.2)) q.1) (fun _=>none) none r.1)=some r:=h
  show(ob (QX P ts cap st.h.get) fun s=>ob (Jy P ts s (.int .i64 (Int.ofNat n))) fun q=>ob (QX P te q st.h.get) fun v=>
   AA N ps (.int .i64 (Int.ofNat n)) v T fun T1=>ob (fa' T1 st) fun r=>Ex.rec (ob (fb' r.2.1 r.2.2) fun q=>Ex.rec (tl (Xe P N ts te cap ps fa' fb' T n q.2.2)) (fun id=>some (.exit id,T,q.2.2)) (some (.ret,T,q.2.2)) q.1) (fun _=>none) none r.1)=some r
  refine UO h fun s _ h=>UO h fun q _ h=>UO h fun v _ h=>?_;unfold AA at h ⊢
  split at h
  ·refine EW h fun T h=>EW h fun T h=>?_;obtain⟨⟨e1,T2,st2⟩,h1,h⟩:=Qi h;rw[ha _ _ _ h1,Qh]
   cases e1 with
   |exit i=>cases h
   |ret=>cases h
   |nor=>
    obtain⟨⟨e,T3,st3⟩,h2,h⟩:=Qi h;show(ob (fb' T2 st2) _)=_;rw[hb _ _ _ h2,Qh]
    cases e with
    |nor=>exact ih _ _ h
    |exit i=>exact h
    |ret=>exact h
  ·cases h
theorem NM{c c':Uc}(hc:zm c c'){N L L':Nat}(hL:L≤L'): ∀(k:Code) (T:Tr AV) (st:St) (r:Ex×Tr AV×St),codeF P G c N L k T st=some r→codeF P G c' N L' k T st=some r:=by
 intro k
 induction k with
 |region id ops draw=>
  intro T st r h
  cases draw with
  |true=>
   have h:(ob (ZK P ops.toList) fun pl=>ob (VN P G c N ops.toList pl T st [st]) fun r=>some (Ex.nor,r))=some r:=h;show(ob (ZK P ops.toList) fun pl=>ob (VN P G c' N ops.toList pl T st [st]) fun r=>some (Ex.nor,r))=some r;refine UO h fun pl _ h=>?_;obtain⟨a,ha,h⟩:=Qi h;rw[Nb hc _ _ _ _ _ ha];exact h
  |false=>
   have h:(ob (Ez P G c N ops.toList ops.toList T st) fun r=>some (Ex.nor,r))=some r:=h;show(ob (Ez P G c' N ops.toList ops.toList T st) fun r=>some (Ex.nor,r))=some r;obtain⟨a,ha,h⟩:=Qi h;rw[Na hc _ _ _ _ ha];exact h
 |seq x y ihx ihy=>
  intro T st r h;have h:Xb (codeF P G c N L x T st) (codeF P G c N L y)=some r:=h;show Xb (codeF P G c' N L' x T st) (codeF P G c' N L' y)=some r;rcases Ft h with⟨T1,st1,h1,h2⟩|⟨h1,h2⟩
  ·rw[ihx _ _ _ h1];exact ihy _ _ _ h2
  ·rw[ihx _ _ _ h1];obtain⟨e,T,st⟩:=r
   cases e with
   |nor=>exact absurd rfl h2
   |exit i=>rfl
   |ret=>rfl
 |cond g x y ihx ihy=>
  intro T st r h;have h:Lb (QF G T g) (tl (codeF P G c N L x T st)) (tl (codeF P G c N L y T st))=some r:=h;show Lb (QF G T g) (tl (codeF P G c' N L' x T st)) (tl (codeF P G c' N L' y T st))=some r;refine UO h fun v _ h=>?_
  cases v with
  |bool b=>
   cases b with
   |true=>exact ihx _ _ _ h
   |false=>exact ihy _ _ _ h
  |_=>cases h
 |block id x ih=>
  intro T st r h;have h:HA id (codeF P G c N L x T st)=some r:=h;show HA id (codeF P G c' N L' x T st)=some r;obtain⟨a,ha,h⟩:=Qi h;rw[ih _ _ _ ha];exact h
 |loop x ih=>intro T st r h;exact Kx ih L L' hL T st r h
 |rangeFunc g ps a b iha ihb=>
  intro T st r h;have h:Vh P G N g ps.toList (Qg (JX a) (JX b) false) (codeF P G c N L a) (codeF P G c N L b) T st=some r:=h;show Vh P G N g ps.toList (Qg (JX a) (JX b) false) (codeF P G c' N L' a) (codeF P G c' N L' b) T st=some r;unfold Vh at h ⊢;refine Wj h fun h=>UO h fun v _ h=>?_
  split at h
  ·refine UO h fun q _ h=>?_
   split at h
   ·split at h
    ·refine UO h fun s _ h=>UO h fun n _ h=>?_
     split at h
     ·exact UO h fun n _ h=>Wj h fun h=>Ln iha ihb _ _ _ h
     ·cases h
    ·cases h
   ·cases h
  ·cases h
 |_=>intro T st r h;exact h
theorem RY: ∀(l:List AV) (i:Nat) (T:Tr AV),(∀t,i≤t→UH T t=.tup [])→ ∃T',(∀(β:Type) (k:Tr AV→β),List.rec (motive:=fun _=>Nat→Tr AV→β) (fun(_:Nat) T=>k T) (fun v _ ih i T=>T.put i v (ih (i+1))) l i T=k T')∧
  ∀t,UH T' t=if t<i then UH T t else(l[t-i]?).getD (.tup []):=by
 intro l
 induction l with
 |nil=>
  intro i T hT;refine⟨T,fun _ _=>rfl,fun t=>?_⟩
  by_cases h:t<i
  ·rw[if_pos h]
  ·rw[if_neg h,hT t (by omega)];simp
 |cons v l ih=>
  intro i T hT
  obtain⟨T',h1,h2⟩:=ih (i+1) (T.set i v) fun t ht=>by rw[Yi,if_neg (by omega)];exact hT t (by omega)
  refine⟨T',fun β k=>?_,fun t=>?_⟩
  ·show T.put i v _=_;rw[Tr.put_eq];exact h1 β k
  ·rw[h2,Yi]
   by_cases h:t<i
   ·rw[if_pos (by omega),if_neg (by omega),if_pos h]
   ·rw[if_neg h]
    by_cases h3:t=i
    ·subst h3;rw[if_pos (by omega),if_pos rfl];simp
    ·rw[if_neg (by omega),show t-i=(t-(i+1))+1 by omega];simp
theorem NT(l:List AV): ∃T,(∀(β:Type) (k:Tr AV→β),ER l k=k T)∧ ∀t,UH T t=(l[t]?).getD (.tup []):=by
 obtain⟨T,h1,h2⟩:=RY l 0 .nil fun t _=>rfl;exact⟨T,h1,fun t=>by rw[h2,if_neg (by omega),Nat.sub_zero]⟩
theorem Vv: ∀(n m L L':Nat),n≤m→L≤L'→zm (Jg P G L n) (Jg P G L' m):=by
 intro n
 induction n with
 |zero=>intro m L L' _ _ f args st r h;cases h
 |succ n ih=>
  intro m L L' hnm hL f args st r h;obtain⟨k,rfl⟩: ∃k,m=k+1:=⟨m-1,by omega⟩;have h:(Option.rec (ob (FI P f) fun q=>QD (Nat.ble (Y2 args) q.2.1) (ER args fun T=>H5 (codeF P G (Jg P G L n) q.2.1 L q.1 T st) fun T st=>ob (Jl P q.2.2 T st) fun v=>some (v,st))) (fun sm=>sm args st) (G.s f):Option (AV×St))=some r:=h;show(Option.rec (ob (FI P f) fun q=>QD (Nat.ble (Y2 args) q.2.1) (ER args fun T=>H5 (codeF P G (Jg P G L' k) q.2.1 L' q.1 T st) fun T st=>ob (Jl P q.2.2 T st) fun v=>some (v,st))) (fun sm=>sm args st) (G.s f):Option (AV×St))=some r
  cases hs:G.s f with
  |some sm=>rw[hs]at h;exact h
  |none=>
   rw[hs]at h;refine UO h fun q _ h=>Wj h fun h=>?_;obtain⟨T,h1,_⟩:=NT args;rw[h1]at h ⊢;obtain⟨⟨e,T2,st2⟩,hc,h⟩:=Qi h;have hc':=NM (ih k L L' (by omega) hL) hL q.1 T st _ hc;show H5 (codeF P G (Jg P G L' k) q.2.1 L' q.1 T st) _=_;rw[hc'];exact h

end Go.Proofs.YtadjjadimlkkgaaGreatDoor
end

section

namespace Go.Proofs.YtadjjadimlkkgaaGreatDoor
open Go

def Ev(P:Program)(G:Env)(f:FuncId)(args:List AV)(st:St)(v:AV)(st':St):Prop:= ∃L n,Jg P G L n f args st=some (v,st')
def W(P:Program)(G:Env)(N:Nat)(c:Code)(Q:Ex→Tr AV→St→Prop)(T:Tr AV)(st:St):Prop:= ∃L n x T' st',codeF P G (Jg P G L n) N L c T st=some (x,T',st')∧Q x T' st'
def WR(P:Program)(G:Env)(N:Nat)(ops l:List Oper)(Q:Tr AV→St→Prop)(T:Tr AV)(st:St):Prop:= ∃L n T' st',Ez P G (Jg P G L n) N ops l T st=some (T',st')∧Q T' st'
def WD(P:Program)(G:Env)(N:Nat)(ops:List Oper)(l:List (Nat×Oper×Nat))(Q:Tr AV→St→Prop)(T:Tr AV)(st:St)(sn:List St):Prop:= ∃L n T' st',VN P G (Jg P G L n) N ops l T st sn=some (T',st')∧Q T' st'

def LP(k:Tr AV→St→Prop)(Q:Ex→Tr AV→St→Prop):Ex→Tr AV→St→Prop
 |.nor=>k
 |x=>Q x
def Dv(id:Nat)(Q:Ex→Tr AV→St→Prop):Ex→Tr AV→St→Prop
 |.exit i=>if i=id then Q .nor else Q (.exit i)
 |x=>Q x

variable {P:Program} {G:Env} {N:Nat} {Q:Ex→Tr AV→St→Prop} {T:Tr AV} {st:St}

theorem Yq{L L' n n':Nat}(hL:L≤L')(hn:n≤n'){c:Code}{T:Tr AV}{st:St}{r:Ex×Tr AV×St}(h:codeF P G (Jg P G L n) N L c T st=some r):codeF P G (Jg P G L' n') N L' c T st=some r:=
 NM (Vv n n' L L' hn hL) hL c T st r h
theorem Sv{c:Code}{Q':Ex→Tr AV→St→Prop}(h:W P G N c Q T st)(hq: ∀x T st,Q x T st→Q' x T st):W P G N c Q' T st:=by
 obtain⟨L,n,x,T',st',h1,h2⟩:=h;exact⟨L,n,x,T',st',h1,hq _ _ _ h2⟩
theorem Q8(h:Q .nor T st):W P G N .skip Q T st:=⟨0,0,_,_,_,rfl,h⟩
theorem qM{l:Nat}(h:Q .nor T st):W P G N (.label l) Q T st:=⟨0,0,_,_,_,rfl,h⟩
theorem J7{id:Nat}(h:Q (.exit id) T st):W P G N (.exit id) Q T st:=⟨0,0,_,_,_,rfl,h⟩
theorem Qe(h:Q .ret T st):W P G N .ret Q T st:=⟨0,0,_,_,_,rfl,h⟩
theorem Qn{a b:Code}(h:W P G N a (LP (W P G N b Q) Q) T st):W P G N (.seq a b) Q T st:=by
 obtain⟨L,n,x,T1,st1,h1,h2⟩:=h
 cases x with
 |nor=>
  obtain⟨L',n',y,T2,st2,h3,h4⟩:=h2;refine⟨max L L',max n n',y,T2,st2,?_,h4⟩;show Xb (codeF P G _ N _ a T st) (codeF P G _ N _ b)=_;rw[Yq (Nat.le_max_left L L') (Nat.le_max_left n n') h1];exact Yq (Nat.le_max_right L L') (Nat.le_max_right n n') h3
 |exit i=>exact⟨L,n,_,T1,st1,by show Xb (codeF P G _ N _ a T st) (codeF P G _ N _ b)=_;rw[h1];rfl,h2⟩
 |ret=>exact⟨L,n,_,T1,st1,by show Xb (codeF P G _ N _ a T st) (codeF P G _ N _ b)=_;rw[h1];rfl,h2⟩
theorem Qm{g:Operand}{a b:Code}{t:Bool}(hg:QF G T g=some (.bool t))(ha:t=true→W P G N a Q T st)(hb:t=false→W P G N b Q T st):W P G N (.cond g a b) Q T st:=by
 cases t with
 |true=>
  obtain⟨L,n,x,T',st',h1,h2⟩:=ha rfl;exact⟨L,n,x,T',st',by show Lb (QF G T g) _ _=_;rw[hg];exact h1,h2⟩
 |false=>
  obtain⟨L,n,x,T',st',h1,h2⟩:=hb rfl;exact⟨L,n,x,T',st',by show Lb (QF G T g) _ _=_;rw[hg];exact h1,h2⟩
theorem Uq{id:Nat}{c:Code}(h:W P G N c (Dv id Q) T st):W P G N (.block id c) Q T st:=by
 obtain⟨L,n,x,T',st',h1,h2⟩:=h;have e:codeF P G (Jg P G L n) N L (.block id c) T st=HA id (codeF P G (Jg P G L n) N L c T st):=rfl;rw[h1]at e
 cases x with
 |nor=>exact⟨L,n,_,T',st',e,h2⟩
 |ret=>exact⟨L,n,_,T',st',e,h2⟩
 |exit i=>
  by_cases hi:i=id
  ·subst hi;have h2:(if i=i then Q .nor else Q (.exit i)) T' st':=h2;rw[if_pos rfl]at h2;refine⟨L,n,.nor,T',st',?_,h2⟩;rw[e];show Qg (Nat.beq i i) _ _=_;rw[Nat.beq_refl];rfl
  ·have h2:(if i=id then Q .nor else Q (.exit i)) T' st':=h2;rw[if_neg hi]at h2;refine⟨L,n,.exit i,T',st',?_,h2⟩;rw[e];show Qg (Nat.beq i id) _ _=_
   have:Nat.beq i id=false:=by
    cases hb:Nat.beq i id with
    |false=>rfl
    |true=>exact absurd (Nat.eq_of_beq_eq_true hb) hi
   rw[this];rfl
theorem V8{c:Code}(h:W P G N c (LP (W P G N (.loop c) Q) Q) T st):W P G N (.loop c) Q T st:=by
 obtain⟨L,n,x,T1,st1,h1,h2⟩:=h;have e: ∀L n,codeF P G (Jg P G (L+1) n) N (L+1) (.loop c) T st=Xb (codeF P G (Jg P G (L+1) n) N (L+1) c T st) (F8 L (codeF P G (Jg P G (L+1) n) N (L+1) c)):=fun _ _=>rfl
 cases x with
 |nor=>
  obtain⟨L',n',y,T2,st2,h3,h4⟩:=h2;refine⟨max L L'+1,max n n',y,T2,st2,?_,h4⟩;rw[e,Yq (Nat.le_succ_of_le (Nat.le_max_left L L')) (Nat.le_max_left n n') h1];have h3:F8 L' (codeF P G (Jg P G L' n') N L' c) T1 st1=some (y,T2,st2):=h3;exact Kx (fun T st r h=>Yq (Nat.le_succ_of_le (Nat.le_max_right L L')) (Nat.le_max_right n n') h) L' (max L L') (Nat.le_max_right _ _) T1 st1 _ h3
 |exit i=>exact⟨L+1,n,_,T1,st1,by rw[e,Yq (Nat.le_succ L) (Nat.le_refl n) h1];rfl,h2⟩
 |ret=>exact⟨L+1,n,_,T1,st1,by rw[e,Yq (Nat.le_succ L) (Nat.le_refl n) h1];rfl,h2⟩
theorem JN{c:Code}(I:Nat→Tr AV→St→Prop)(hstep: ∀n T st,I n T st→W P G N c (LP (fun T' st'=> ∃m,m<n∧I m T' st') Q) T st): ∀n T st,I n T st→W P G N (.loop c) Q T st:=by
 intro n
 induction n using Nat.strongRecOn with
 |_ n ih=>
  intro T st h;refine V8 (Sv (hstep n T st h) fun x T' st' hx=>?_)
  cases x with
  |nor=>
   obtain⟨m,hm,hI⟩:=hx;exact ih m hm T' st' hI
  |exit i=>exact hx
  |ret=>exact hx
theorem Qb{id:Nat}{ops:Array Oper}(h:WR P G N ops.toList ops.toList (Q .nor) T st):W P G N (.region id ops false) Q T st:=by
 obtain⟨L,n,T',st',h1,h2⟩:=h;refine⟨L,n,.nor,T',st',?_,h2⟩;show(ob (Ez P G _ N ops.toList ops.toList T st) fun r=>some (Ex.nor,r))=_;rw[h1];rfl
theorem yl{id:Nat}{ops:Array Oper}{pl:List (Nat×Oper×Nat)}(hp:ZK P ops.toList=some pl)(h:WD P G N ops.toList pl (Q .nor) T st [st]):W P G N (.region id ops true) Q T st:=by
 obtain⟨L,n,T',st',h1,h2⟩:=h;refine⟨L,n,.nor,T',st',?_,h2⟩;show(ob (ZK P ops.toList) fun pl=>ob (VN P G _ N ops.toList pl T st [st]) fun r=>some (Ex.nor,r))=_;rw[hp,Qh,h1];rfl

def QT(K:List (Nat×AV))(T:Tr AV):Prop:= ∀t v,K.lookup t=some v→UH T t=v
theorem QT.set{K:List (Nat×AV)}{T:Tr AV}(h:QT K T)(d:Nat)(v:AV):QT ((d,v)::K) (T.set d v):=by
 intro t u hl;rw[Yi]
 by_cases ht:t=d
 ·subst ht;rw[List.lookup_cons,beq_self_eq_true]at hl
  injection hl with hl
  rw[if_pos rfl,hl]
 ·rw[List.lookup_cons,beq_false_of_ne ht]at hl;rw[if_neg ht];exact h t u hl
theorem QT.nil{T:Tr AV}:QT [] T:=fun t v h=>(by cases h)
theorem QT.cons{K:List (Nat×AV)}{T:Tr AV}{d:Nat}{v:AV}(hd:UH T d=v)(h:QT K T):QT ((d,v)::K) T:=by
 intro t u hl
 by_cases ht:t=d
 ·subst ht;rw[List.lookup_cons,beq_self_eq_true]at hl
  injection hl with hl
  rw[←hl];exact hd
 ·rw[List.lookup_cons,beq_false_of_ne ht]at hl;exact h t u hl
noncomputable def Jq(G:Env)(K:List (Nat×AV))(x:Operand):Option AV:=match x with
 |.tmp t=>K.lookup t
 |.const v=>ofConst v
 |.global g=>QD (G.g g) (some (.ptr g 0 0))
 |.func f=>some (.fn f [] [])
theorem QT.QF{K:List (Nat×AV)}{T:Tr AV}(h:QT K T){x:Operand}{v:AV}(hx:Jq G K x=some v):QF G T x=some v:=by
 cases x with
 |tmp t=>exact congrArg some (h t v hx)
 |const c=>exact hx
 |global g=>exact hx
 |func f=>exact hx
theorem QT.row{K:List (Nat×AV)}{T:Tr AV}(h:QT K T): ∀(l:List Operand) (vs:List AV),JW (Jq G K) l=some vs→JW (Proofs.YtadjjadimlkkgaaGreatDoor.QF G T) l=some vs:=by
 intro l
 induction l with
 |nil=>intro vs hv;exact hv
 |cons x l ih=>
  intro vs hv;rw[Jm]at hv ⊢;obtain⟨b,hb,hv⟩:=Qi hv;obtain⟨t,ht,hv⟩:=Qi hv;rw[h.QF hb,Qh,ih t ht,Qh];exact hv
def Zo(P:Program)(G:Env)(K:List (Nat×AV))(op:Op)(st:St)(v:AV)(st1:St):Prop:= ∀T,QT K T→ ∀(d:Option Tmp) (ty:TypeId) (pos:String) (af:Array Edge) (g:Option (Nat×Bool)),∃L n,∀L' n',L≤L'→n≤n'→Ib P (QF G T) (Jg P G L' n') ⟨d,op,ty,pos,af,g⟩ st=some (v,st1)
section ops
variable {ops rest:List Oper} {K:List (Nat×AV)} {R:Tr AV→St→Prop}
theorem Qy(h:R T st):WR P G N ops [] R T st:=⟨0,0,T,st,rfl,h⟩
theorem NW{o:Oper}{v:AV}{st1:St}(hw:Jp ops o T=true)(h: ∃L n,∀L' n',L≤L'→n≤n'→Ib P (QF G T) (Jg P G L' n') o st=some (v,st1))(hd: ∀d,o.dst=some d→d<N)
  (hn:WR P G N ops rest R (match o.dst with|some d=>T.set d v|none=>T) st1):WR P G N ops (o::rest) R T st:=by
 obtain⟨L,n,h⟩:=h;obtain⟨L',n',T',st',h1,h2⟩:=hn;refine⟨max L L',max n n',T',st',?_,h2⟩;show(ob (JH P G _ ops o T st) fun r=>Yt N o.dst r.1 T fun T=>tl (Ez P G _ N ops rest T r.2))=_
 have e:JH P G (Jg P G (max L L') (max n n')) ops o T st=some (v,st1):=by
  unfold JH;rw[hw,QB];exact h _ _ (Nat.le_max_left _ _) (Nat.le_max_left _ _)
 rw[e,Qh];have h1':=Na (Vv n' (max n n') L' (max L L') (Nat.le_max_right _ _) (Nat.le_max_right _ _)) _ _ _ _ h1
 cases hdst:o.dst with
 |none=>rw[hdst]at h1';exact h1'
 |some d=>
  rw[hdst]at h1';show QD (Nat.ble (d+1) N) (T.put d v _)=_;rw[Nat.ble_eq_true_of_le (hd d hdst),Tr.put_eq];exact h1'
theorem IJ{d:Nat}{op:Op}{ty:TypeId}{pos:String}{af:Array Edge}{v:AV}{st1:St}(hK:QT K T)(h:Zo P G K op st v st1)(hN:d<N)(hn: ∀T',QT ((d,v)::K) T'→WR P G N ops rest R T' st1):
  WR P G N ops (⟨some d,op,ty,pos,af,none⟩::rest) R T st:=
 NW rfl (h T hK _ _ _ _ _) (fun e he=>by injection he with he;rw[←he];exact hN) (hn _ (hK.set d v))
theorem zp{op:Op}{ty:TypeId}{pos:String}{af:Array Edge}{v:AV}{st1:St}(hK:QT K T)(h:Zo P G K op st v st1)(hn:WR P G N ops rest R T st1):
  WR P G N ops (⟨none,op,ty,pos,af,none⟩::rest) R T st:=
 NW rfl (h T hK _ _ _ _ _) (fun e he=>by cases he) hn
end ops
end Go.Proofs.YtadjjadimlkkgaaGreatDoor
end

section

namespace Go.Proofs.YtadjjadimlkkgaaGreatDoor
open Go

variable {P:Program} {G:Env} {K:List (Nat×AV)} {st:St}
theorem Zo.of{op:Op}{v:AV}{st1:St}(h: ∀T,QT K T→ ∀(c:Uc) (d:Option Tmp) (ty:TypeId) (pos:String) (af:Array Edge) (g:Option (Nat×Bool)),Ib P (QF G T) c ⟨d,op,ty,pos,af,g⟩ st=some (v,st1)):Zo P G K op st v st1:=
 fun T hT d ty pos af g=>⟨0,0,fun _ _ _ _=>h T hT _ d ty pos af g⟩
theorem Qd{x:Operand}{v:AV}(hx:Jq G K x=some v):Zo P G K (.move x) st v st:=.of fun T hT c d ty pos af g=>by
 show ret (QF G T x) st=_;rw[hT.QF hx];rfl
theorem Q0{x:Operand}{v:AV}(hx:Jq G K x=some v):Zo P G K (.assign x) st v st:=.of fun T hT c d ty pos af g=>by
 show ret (QF G T x) st=_;rw[hT.QF hx];rfl
theorem ZN{x a b:Operand}{t:Bool}{u v:AV}(hx:Jq G K x=some (.bool t))(ha:Jq G K a=some u)(hb:Jq G K b=some v):Zo P G K (.pick x a b) st (Qg t u v) st:=.of fun T hT c d ty pos af g=>by
 show(ob (QF G T x) fun c=>(match c with
  |.bool t=>ret (Qg t (QF G T a) (QF G T b)) st
  |_=>none))=_
 rw[hT.QF hx,Qh];show ret (Qg t (QF G T a) (QF G T b)) st=_;rw[hT.QF ha,hT.QF hb]
 cases t<;>rfl
theorem YU{op:BinOp}{t yt:TypeId}{x y:Operand}{u w v:AV}(hx:Jq G K x=some u)(hy:Jq G K y=some w)(h:b2 P op t u w=some v):Zo P G K (.binOp op t x y yt) st v st:=.of fun T hT c d ty pos af g=>by
 show ret (ob (QF G T x) fun x=>ob (QF G T y) fun y=>b2 P op t x y) st=_;rw[hT.QF hx,hT.QF hy,Qh,Qh,h];rfl
theorem B7(k:IntKind):IC k k=true:=decide_eq_true rfl
theorem EO{op:BinOp}{t:TypeId}{k:IntKind}{a b:Int}(h1:op≠ .shl)(h2:op≠ .shr):b2 P op t (.int k a) (.int k b)=ya op k a b:=by
 cases op<;>first
  |exact absurd rfl h1
  |exact absurd rfl h2
  |(show QD (IC k k) _=_;rw[B7];rfl)
theorem Hr{t yt:TypeId}{x y:Operand}{k:IntKind}{a b:Int}(hx:Jq G K x=some (.int k a))(hy:Jq G K y=some (.int k b)):Zo P G K (.binOp .lss t x y yt) st (.bool (decide (a<b))) st:=
 YU hx hy (by rw[EO (by decide) (by decide)];show some (AV.bool (Nv a b))=_;rw[ZQ])
theorem O0{t yt:TypeId}{x y:Operand}{k:IntKind}{a b:Int}(hx:Jq G K x=some (.int k a))(hy:Jq G K y=some (.int k b)):Zo P G K (.binOp .gtr t x y yt) st (.bool (decide (b<a))) st:=
 YU hx hy (by rw[EO (by decide) (by decide)];show some (AV.bool (Nv b a))=_;rw[ZQ])
theorem Ko(a b:Int):(!decide (a<b))=decide (b≤a):=by
 by_cases h:a<b
 ·rw[decide_eq_true h,decide_eq_false (by omega)];rfl
 ·rw[decide_eq_false h,decide_eq_true (by omega)];rfl
theorem CM{t yt:TypeId}{x y:Operand}{k:IntKind}{a b:Int}(hx:Jq G K x=some (.int k a))(hy:Jq G K y=some (.int k b)):Zo P G K (.binOp .leq t x y yt) st (.bool (decide (a≤b))) st:=
 YU hx hy (by rw[EO (by decide) (by decide)];show some (AV.bool (!Nv b a))=_;rw[ZQ,Ko])
theorem O1{t yt:TypeId}{x y:Operand}{k:IntKind}{a b:Int}(hx:Jq G K x=some (.int k a))(hy:Jq G K y=some (.int k b)):Zo P G K (.binOp .geq t x y yt) st (.bool (decide (b≤a))) st:=
 YU hx hy (by rw[EO (by decide) (by decide)];show some (AV.bool (!Nv a b))=_;rw[ZQ,Ko])
theorem FP(a b:Int):ID a b=decide (a=b):=by rw[Zw];exact Bool.beq_eq_decide_eq a b
theorem Tx{t yt:TypeId}{x y:Operand}{k:IntKind}{a b:Int}(hx:Jq G K x=some (.int k a))(hy:Jq G K y=some (.int k b)):Zo P G K (.binOp .eql t x y yt) st (.bool (decide (a=b))) st:=
 YU hx hy (by rw[EO (by decide) (by decide)];show some (AV.bool (ID a b))=_;rw[FP])
theorem Tv{t yt:TypeId}{x y:Operand}{k:IntKind}{a b:Int}(hx:Jq G K x=some (.int k a))(hy:Jq G K y=some (.int k b)):Zo P G K (.binOp .neq t x y yt) st (.bool (!decide (a=b))) st:=
 YU hx hy (by rw[EO (by decide) (by decide)];show some (AV.bool (!ID a b))=_;rw[FP])
theorem wrap64{n:Int}(h1: -9223372036854775808≤n)(h2:n≤9223372036854775807):IntKind.i64.wrap n=n:=IntWalk.i64_in n (by omega)
theorem Jf{t yt:TypeId}{x y:Operand}{a b:Int}(hx:Jq G K x=some (.int .i64 a))(hy:Jq G K y=some (.int .i64 b))(h1: -9223372036854775808≤a+b)(h2:a+b≤9223372036854775807):Zo P G K (.binOp .add t x y yt) st (.int .i64 (a+b)) st:=
 YU hx hy (by rw[EO (by decide) (by decide)];show Et (Wa .i64 (a+b)) (fun z=>some (AV.int .i64 z))=_;rw[XK,Yg,wrap64 h1 h2])
theorem Hq{t yt:TypeId}{x y:Operand}{a b:Int}(hx:Jq G K x=some (.int .i64 a))(hy:Jq G K y=some (.int .i64 b))(h1: -9223372036854775808≤a-b)(h2:a-b≤9223372036854775807):Zo P G K (.binOp .sub t x y yt) st (.int .i64 (a-b)) st:=
 YU hx hy (by rw[EO (by decide) (by decide)];show Et (Wa .i64 (a-b)) (fun z=>some (AV.int .i64 z))=_;rw[XK,Yg,wrap64 h1 h2])
theorem QC{t yt:TypeId}{x y:Operand}{a b:List Nat}(hx:Jq G K x=some (.str a))(hy:Jq G K y=some (.str b)):Zo P G K (.binOp .eql t x y yt) st (.bool (decide (a=b))) st:=
 YU hx hy (by show some (AV.bool (Bx a b))=_;rw[XB])
theorem E3{t yt:TypeId}{x y:Operand}{a b:List Nat}(hx:Jq G K x=some (.str a))(hy:Jq G K y=some (.str b)):Zo P G K (.binOp .neq t x y yt) st (.bool (!decide (a=b))) st:=
 YU hx hy (by show some (AV.bool (!Bx a b))=_;rw[XB])
theorem jg{t yt:TypeId}{x y:Operand}{a b:List Nat}(hx:Jq G K x=some (.str a))(hy:Jq G K y=some (.str b))(hl:a.length+b.length≤9223372036854775807):Zo P G K (.binOp .add t x y yt) st (.str (a++b)) st:=
 YU hx hy (by
  show Qg (Nat.ble (Y2 a+Y2 b) UP) (Xc (Yu a b) fun l=>some (AV.str l)) none=_
  rw[JJ,JJ,Nat.ble_eq_true_of_le (show a.length+b.length≤UP from hl),QB,JD,Uw])
theorem Ts{t:TypeId}{x:Operand}{b:Bool}(hx:Jq G K x=some (.bool b)):Zo P G K (.unOp .not t x) st (.bool (!b)) st:=.of fun T hT c d ty pos af g=>by
 show ret (ob (QF G T x) fun x=>xp .not x) st=_;rw[hT.QF hx];rfl
theorem WE{x:Operand}{v:AV}(hx:Jq G K x=some v)(hv:(match v with|.ptr _ _ _=>true|.fn _ _ _=>true|_=>false)=true):Zo P G K (.nilCheck x) st v st:=.of fun T hT c d ty pos af g=>by
 show ret (ob (QF G T x) fun v=>(match v with
  |.ptr c m off=>some (.ptr c m off)
  |.fn f a c=>some (.fn f a c)
  |_=>none)) st=_
 rw[hT.QF hx,Qh]
 cases v<;>first|rfl|cases hv
theorem Qw{t:TypeId}{x:Operand}{f c m off o:Nat}(ho:QY P t f=some o)(hx:Jq G K x=some (.ptr c m off)):Zo P G K (.fieldAddr t x f) st (.ptr c m (off+o)) st:=.of fun T hT cc d ty pos af g=>by
 show ret (ob (QF G T x) fun x=>Xm P t x f) st=_;rw[hT.QF hx,Qh];show ret (ob (QY P t f) fun o=>JP (off+o) fun z=>some (AV.ptr c m z)) st=_;rw[ho,Qh,QQ];rfl
theorem WG{x:Operand}{i:Nat}{l:List AV}{v:AV}(hx:Jq G K x=some (.tup l))(h:nth l i=some v):Zo P G K (.extract x i) st v st:=.of fun T hT cc d ty pos af g=>by
 show ret (ob (QF G T x) fun v=>(match v with
  |.tup l=>nth l i
  |_=>none)) st=_
 rw[hT.QF hx,Qh];show ret (nth l i) st=_;rw[h];rfl
theorem Qj{t:TypeId}{x i:Operand}{c m off len z z':Nat}{k:IntKind}{j:Nat}(he:Ua P t=some z)(hx:Jq G K x=some (.sl c m off len z'))(hi:Jq G K i=some (.int k (j:Int)))(hj:j<len):
  Zo P G K (.indexAddr t x i) st (.ptr c m (off+j *z)) st:=.of fun T hT cc d ty pos af g=>by
 show ret (ob (QF G T x) fun x=>ob (QF G T i) fun i=>Jy P t x i) st=_;rw[hT.QF hx,hT.QF hi,Qh,Qh];show ret (ob (El (j:Int)) fun i=>QD (Nat.ble (i+1) len) (ob (Ua P t) fun z=>JP (off+i *z) fun o=>some (AV.ptr c m o))) st=_;show ret (QD (Nat.ble (j+1) len) (ob (Ua P t) fun z=>JP (off+j *z) fun o=>some (AV.ptr c m o))) st=_;rw[Nat.ble_eq_true_of_le hj,he];show ret (JP (off+j *z) fun o=>some (AV.ptr c m o)) st=_;rw[QQ];rfl
theorem Ry{t e:TypeId}(ht:P.underlying t=some (.slice e)):XA P [t]=false:=by unfold XA;simp only[ht]
def ZH:AV→Option Nat
 |.nils=>some 0
 |.slz _ _ _ _ _=>some 0
 |.sl0 _ _ _=>some 0
 |.sl _ _ _ n _=>some n
 |_=>none
theorem QL{tys:Array TypeId}{t e:TypeId}{x:Operand}{u:AV}{n:Nat}(ht:P.underlying t=some (.slice e))(htys:tys= #[t])(hx:Jq G K x=some u)(hn:ZH u=some n):
  Zo P G K (.call {callee:=.builtin .len,args:= #[x],argTypes:=tys}) st (.int .i64 (n:Int)) st:=.of fun T hT cc d ty pos af g=>by
 subst htys;show Qg (XA P [t]) _ (ret (ob (QF G T x) fun x=>AN P [t] x) st)=_;rw[Ry ht,Q3,hT.QF hx,Qh]
 cases u<;>simp only[ZH]at hn<;>first|(cases hn;done)|skip
 all_goals
  injection hn with hn
  subst hn;unfold AN;simp only[ht];rfl
theorem Ql{f:FuncId}{args:Array Operand}{tys:Array TypeId}{l:List AV}{v:AV}{st1:St}(ha:JW (Jq G K) args.toList=some l)(h:Ev P G f l st v st1):
  Zo P G K (.call {callee:=.value (.func f),args:=args,argTypes:=tys}) st v st1:=fun T hT d ty pos af g=>by
 obtain⟨L,n,h⟩:=h;refine⟨L,n,fun L' n' hL hn=>?_⟩
 show(ob (QF G T (.func f)) fun v=>(match v with
  |.fn fid a cap=>ob (JW (QF G T) args.toList) fun l=>Jg P G L' n' fid (Yu a (Yu l cap)) st
  |_=>none))=_
 show(ob (JW (QF G T) args.toList) fun l=>Jg P G L' n' f (Yu [] (Yu l [])) st)=_;rw[hT.row _ _ ha,Qh,Uw,Uw,List.nil_append,List.append_nil];exact Vv n n' L L' hn hL _ _ _ _ h
theorem F5{g:Operand}{args:Array Operand}{tys:Array TypeId}{f:FuncId}{a l cap:List AV}{v:AV}{st1:St}(hg:Jq G K g=some (.fn f a cap))(ha:JW (Jq G K) args.toList=some l)(h:Ev P G f (a++(l++cap)) st v st1):
  Zo P G K (.call {callee:=.value g,args:=args,argTypes:=tys}) st v st1:=fun T hT d ty pos af gg=>by
 obtain⟨L,n,h⟩:=h;refine⟨L,n,fun L' n' hL hn=>?_⟩
 show(ob (QF G T g) fun v=>(match v with
  |.fn fid a cap=>ob (JW (QF G T) args.toList) fun l=>Jg P G L' n' fid (Yu a (Yu l cap)) st
  |_=>none))=_
 rw[hT.QF hg,Qh];show(ob (JW (QF G T) args.toList) fun l=>Jg P G L' n' f (Yu a (Yu l cap)) st)=_;rw[hT.row _ _ ha,Qh,Uw,Uw];exact Vv n n' L L' hn hL _ _ _ _ h
theorem F4{f:FuncId}{first cap:Array Operand}{a c:List AV}(ha:JW (Jq G K) first.toList=some a)(hc:JW (Jq G K) cap.toList=some c):Zo P G K (.makeFunc (.func f) first cap) st (.fn f a c) st:=.of fun T hT cc d ty pos af g=>by
 show ret (ob (JW (QF G T) first.toList) fun l=>ob (JW (QF G T) cap.toList) fun r=>some (AV.fn f l r)) st=_;rw[hT.row _ _ ha,hT.row _ _ hc];rfl
theorem Qr{t:TypeId}{x:Operand}{u v:AV}(hx:Jq G K x=some u)(h:QX P t u st.h.get=some v):Zo P G K (.load t x) st v st:=.of fun T hT cc d ty pos af g=>by
 show(ob (QF G T x) fun x=>ret (QX P t x st.h.get) st)=_;rw[hT.QF hx,Qh,h];rfl
theorem GO{t:TypeId}{x:Operand}{lo hi:Option Operand}{u v:AV}(hx:Jq G K x=some u)(h: ∀T,QT K T→VL P t u (QF G T) lo hi=some v):Zo P G K (.slice t x lo hi none) st v st:=.of fun T hT cc d ty pos af g=>by
 show ret (ob (QF G T x) fun x=>VL P t x (QF G T) lo hi) st=_;rw[hT.QF hx,Qh,h T hT];rfl
theorem uS{f:FuncId}{fn:Func}{c:Code}{N:Nat}{rs:List ResultVar}{args:List AV}{Q:AV→St→Prop}(hs:G.s f=none)(hf:P.funcs[f]? =some fn)(hb:fn.body=some c)(hN:fn.ntmps=N)(hr:fn.results.toList=rs)(hname:(fn.name== "runtime.NumGoroutine")=false)(hl:args.length≤N)
  (h: ∀T,(∀t,UH T t=(args[t]?).getD (.tup []))→W P G N c (fun x T st=>(x=.nor∨x=.ret)∧ ∃v,Jl P rs T st=some v∧Q v st) T st): ∃v st',Ev P G f args st v st'∧Q v st':=by
 obtain⟨T,hT1,hT2⟩:=NT args;obtain⟨L,n,x,T',st',h1,hx,v,h2,h3⟩:=h T hT2;refine⟨v,st',⟨L,n+1,?_⟩,h3⟩;show(Option.rec (ob (FI P f) fun q=>QD (Nat.ble (Y2 args) q.2.1) (ER args fun T=>H5 (codeF P G (Jg P G L n) q.2.1 L q.1 T st) fun T st=>ob (Jl P q.2.2 T st) fun v=>some (v,st))) (fun sm=>sm args st) (G.s f):Option (AV×St))=some (v,st');rw[hs];show(ob (FI P f) fun q=>QD (Nat.ble (Y2 args) q.2.1) (ER args fun T=>H5 (codeF P G (Jg P G L n) q.2.1 L q.1 T st) fun T st=>ob (Jl P q.2.2 T st) fun v=>some (v,st)))=some (v,st')
 have hfn:FI P f=some (c,N,rs):=by
  unfold FI;rw[hf];simp only[hb,hname,hN,hr];rfl
 rw[hfn,Qh,JJ,Nat.ble_eq_true_of_le hl,hT1,QR];show H5 (codeF P G (Jg P G L n) N L c T st) _=_;rw[h1];rcases hx with rfl|rfl
 ·show ob (Jl P rs T' st') _=_;rw[h2];rfl
 ·show ob (Jl P rs T' st') _=_;rw[h2];rfl
end Go.Proofs.YtadjjadimlkkgaaGreatDoor
end

section

namespace Go.Proofs.YtadjjadimlkkgaaGreatDoor
open Go

structure Mem(h0:Hp)(n0:Nat)(X:List Nat)(st:St)(M:List (Nat×Nat×List AV)):Prop where
 fresh:Qu st
 le:n0≤st.n
 base: ∀c,n0≤c→h0 c=none
 row: ∀c m l,(c,m,l)∈M→ ∃vs ms,st.h.get c=some (.row false ms)∧ms[m]? =some (l.length,vs,some l)
 lt: ∀c m l,(c,m,l)∈M→c<st.n
 own: ∀c m l,(c,m,l)∈M→n0≤c∨c∈X
 nodup:(M.map Prod.fst).Nodup
 old: ∀c,c<n0→c∉X→st.h.get c=h0 c
structure Qt(st st':St):Prop where
 fresh:Qu st'
 le:st.n≤st'.n
 old: ∀c,c<st.n→st'.h.get c=st.h.get c
theorem Qt.refl{st:St}(h:Qu st):Qt st st:=⟨h,Nat.le_refl _,fun _ _=>rfl⟩
theorem Qt.trans{a b c:St}(x:Qt a b)(y:Qt b c):Qt a c:=⟨y.fresh,Nat.le_trans x.le y.le,fun k hk=>by rw[y.old k (Nat.lt_of_lt_of_le hk x.le),x.old k hk]⟩
theorem Mem.start{st:St}(h:Qu st):Mem st.h.get st.n [] st []:=
 ⟨h,Nat.le_refl _,h,fun c m l h=>(by cases h),fun c m l h=>(by cases h),fun c m l h=>(by cases h),List.nodup_nil,fun _ _ _=>rfl⟩
section
variable {P:Program} {G:Env} {N:Nat} {h0:Hp} {n0:Nat} {X:List Nat} {st:St} {M:List (Nat×Nat×List AV)}
theorem Mem.qt{st0:St}(h:Mem st0.h.get st0.n [] st M):Qt st0 st:=⟨h.fresh,h.le,fun c hc=>h.old c hc (by simp)⟩
theorem Mem.less(h:Mem h0 n0 X st M){M':List (Nat×Nat×List AV)}(hs:M'.Sublist M):Mem h0 n0 X st M':=
 ⟨h.fresh,h.le,h.base,fun c m l hm=>h.row c m l (hs.subset hm),fun c m l hm=>h.lt c m l (hs.subset hm),fun c m l hm=>h.own c m l (hs.subset hm),h.nodup.sublist (hs.map _),h.old⟩
theorem Mem.quiet(h:Mem h0 n0 X st M){st':St}(q:Qt st st'):Mem h0 n0 X st' M:=
 ⟨q.fresh,Nat.le_trans h.le q.le,h.base,fun c m l hm=>by
  obtain⟨vs,ms,h1,h2⟩:=h.row c m l hm
  exact⟨vs,ms,by rw[q.old c (h.lt c m l hm)];exact h1,h2⟩,fun c m l hm=>Nat.lt_of_lt_of_le (h.lt c m l hm) q.le,h.own,h.nodup,fun c hc hx=>by rw[q.old c (Nat.lt_of_lt_of_le hc h.le)];exact h.old c hc hx⟩
theorem Mem.alloc(h:Mem h0 n0 X st M)(l:List AV):Mem h0 n0 X ⟨st.n+1,st.h.set st.n (.row false [(l.length,0,some l)])⟩ ((st.n,0,l)::M):=by
 have hg: ∀c,(st.h.set st.n (.row false [(l.length,0,some l)])).get c=if c=st.n then some (.row false [(l.length,0,some l)])else st.h.get c:=fun c=>Tr.YO _ _ _ _
 refine⟨fun c hc=>?_,Nat.le_succ_of_le h.le,h.base,fun c m l' hm=>?_,fun c m l' hm=>?_,fun c m l' hm=>?_,?_,fun c hc hx=>?_⟩
 ·have hc:st.n+1≤c:=hc;show(st.h.set st.n _).get c=none;rw[hg,if_neg (by omega)];exact h.fresh c (by omega)
 ·rcases List.mem_cons.1 hm with e|hm
  ·injection e with e1 e2
   injection e2 with e2 e3
   subst e1 e2 e3;exact⟨0,_,(hg _).trans (if_pos rfl),rfl⟩
  ·obtain⟨vs,ms,h1,h2⟩:=h.row c m l' hm;have:=h.lt c m l' hm;exact⟨vs,ms,by show(st.h.set st.n _).get c=_;rw[hg,if_neg (by omega)];exact h1,h2⟩
 ·rcases List.mem_cons.1 hm with e|hm
  ·injection e with e1 e2;subst e1;exact Nat.lt_succ_self _
  ·exact Nat.lt_succ_of_lt (h.lt c m l' hm)
 ·rcases List.mem_cons.1 hm with e|hm
  ·injection e with e1 e2;subst e1;exact .inl h.le
  ·exact h.own c m l' hm
 ·rw[List.map_cons];refine List.nodup_cons.2 ⟨fun hm=>?_,h.nodup⟩;obtain⟨⟨c,m,l'⟩,h1,h2⟩:=List.mem_map.1 hm;have:=h.lt c m l' h1;simp only at h2;omega
 ·show(st.h.set st.n _).get c=_;have:=h.le;rw[hg,if_neg (by omega)];exact h.old c hc hx
theorem G3{k:Nat}{c m:Nat}{l l':List AV}{M:List (Nat×Nat×List AV)}(hk:M[k]? =some (c,m,l)):(M.set k (c,m,l')).map Prod.fst=M.map Prod.fst:=by
 apply List.ext_getElem?;intro i;rw[List.getElem?_map,List.getElem?_map,List.getElem?_set]
 by_cases h:k=i
 ·subst h;rw[if_pos rfl,hk];have:=(List.getElem?_eq_some_iff.1 hk).1;simp[this]
 ·rw[if_neg h]
theorem E5{k:Nat}{c m:Nat}{l l':List AV}{M:List (Nat×Nat×List AV)}(hk:M[k]? =some (c,m,l))(hn:(M.map Prod.fst).Nodup){x:Nat×Nat×List AV}(hx:x∈M.set k (c,m,l')):
  x=(c,m,l')∨(x∈M∧x.1≠c):=by
 obtain⟨i,hi⟩:=List.getElem?_of_mem hx;rw[List.getElem?_set]at hi
 by_cases h:k=i
 ·subst h;have:=(List.getElem?_eq_some_iff.1 hk).1;simp[this]at hi;exact .inl hi.symm
 ·rw[if_neg h]at hi;refine .inr ⟨List.mem_of_getElem? hi,fun e=>h ?_⟩
  have h1:(M.map Prod.fst)[k]? =some c:=by rw[List.getElem?_map,hk];rfl
  have h2:(M.map Prod.fst)[i]? =some c:=by rw[List.getElem?_map,hi];simp[e]
  exact(List.getElem?_inj (List.getElem?_eq_some_iff.1 h1).1 hn).1 (h1.trans h2.symm)
theorem Mem.store(h:Mem h0 n0 X st M){k c m off:Nat}{l l':List AV}{t:TypeId}{w:AV}{n:Nat}(hk:M[k]? =some (c,m,l))(hz:ZI P t=some n)(hn:(Jw w).length=n)(hc:VV QI (Jw w)=true)(ho:ZM (Jw w) off l=some l'):
  ∃st1,W8 P t (.ptr c m off) w st=some (.tup [],st1)∧Mem h0 n0 X st1 (M.set k (c,m,l'))∧st1.n=st.n:=by
 have hm:=List.mem_of_getElem? hk;obtain⟨vs,ms,h1,h2⟩:=h.row c m l hm;have hlen:l'.length=l.length:=(Vk _ _ _ _ ho).2.1
 have hr:rowOf st.h.get c m=some (l.length,vs,l,false,ms):=by
  unfold rowOf;rw[h1,Qh];show ob (nth ms m) _=_;rw[Uh,h2];rfl
 have e: ∃ms',W8 P t (.ptr c m off) w st=some (.tup [],⟨st.n,st.h.set c (.row false ms')⟩)∧ms'[m]? =some (l.length,vs,some l'):=by
  unfold W8;simp only[hr,Qh,hz,JJ,hn,Nat.beq_refl,QR,hc,ho,Bool.not_false];refine⟨yv (l.length,vs,some l') (YV (vs+off) (vs+off+n) ms) m,by rw[JD,JD,Ya],?_⟩;rw[DH,List.getElem?_set_self];rw[Jr];exact(List.getElem?_eq_some_iff.1 h2).1
 obtain⟨ms',e1,e2⟩:=e
 have hg: ∀x,(st.h.set c (.row false ms')).get x=if x=c then some (.row false ms')else st.h.get x:=fun x=>Tr.YO _ _ _ _
 refine⟨_,e1,⟨fun x hx=>?_,h.le,h.base,fun x y z hm'=>?_,fun x y z hm'=>?_,fun x y z hm'=>?_,?_,fun x hx hX=>?_⟩,rfl⟩
 ·show(st.h.set c _).get x=none;have:=h.lt c m l hm;have hx:st.n≤x:=hx;rw[hg,if_neg (by omega)];exact h.fresh x hx
 ·rcases E5 hk h.nodup hm' with e|⟨h3,h4⟩
  ·injection e with e1 e2
   injection e2 with e2 e3
   subst e1 e2 e3;exact⟨vs,ms',(hg _).trans (if_pos rfl),by rw[hlen];exact e2⟩
  ·obtain⟨vs',ms2,h5,h6⟩:=h.row x y z h3;exact⟨vs',ms2,by show(st.h.set c _).get x=_;rw[hg,if_neg h4];exact h5,h6⟩
 ·rcases E5 hk h.nodup hm' with e|⟨h3,h4⟩
  ·injection e with e1 e2;subst e1;exact h.lt _ m l hm
  ·exact h.lt x y z h3
 ·rcases E5 hk h.nodup hm' with e|⟨h3,h4⟩
  ·injection e with e1 e2;subst e1;exact h.own _ m l hm
  ·exact h.own x y z h3
 ·rw[G3 hk];exact h.nodup
 ·show(st.h.set c _).get x=_
  have hxc:x≠c:=fun e=>by
   subst e;rcases h.own x m l hm with h5|h5
   ·omega
   ·exact hX h5
  rw[hg,if_neg hxc];exact h.old x hx hX
theorem Mem.load(h:Mem h0 n0 X st M){k c m off:Nat}{l:List AV}{t:TypeId}{v:AV}(hk:M[k]? =some (c,m,l))(hp:Z2 P t l off=some v):QX P t (.ptr c m off) st.h.get=some v:=by
 obtain⟨vs,ms,h1,h2⟩:=h.row c m l (List.mem_of_getElem? hk);show ob (rowOf st.h.get c m) _=_;unfold rowOf;rw[h1,Qh];show ob (ob (nth ms m) _) _=_;rw[Uh,h2];exact hp

variable {ops rest:List Oper} {K:List (Nat×AV)} {R:Tr AV→St→Prop} {T:Tr AV}
theorem Ul{d:Nat}{t ty:TypeId}{pos:String}{af:Array Edge}{l:List AV}(hK:QT K T)(hM:Mem h0 n0 X st M)(hz:zeroOf P t=some l)(hN:d<N)
  (hn: ∀(c:Nat) T' st',QT ((d,.ptr c 0 0)::K) T'→Mem h0 n0 X st' ((c,0,l)::M)→WR P G N ops rest R T' st'):WR P G N ops (⟨some d,.alloc t,ty,pos,af,none⟩::rest) R T st:=by
 refine IJ (v:=.ptr st.n 0 0) (st1:=⟨st.n+1,st.h.set st.n (.row false [(l.length,0,some l)])⟩) hK (.of fun T hT c d ty pos af g=>?_) hN fun T' hT'=>hn st.n T' _ hT' (hM.alloc l);show Fj P t st=_;unfold Fj;rw[hz,Qh,YL]
theorem QO{d:Nat}{t ty:TypeId}{pos:String}{af:Array Edge}{x:Operand}{v:AV}(hK:QT K T)(hM:Mem h0 n0 X st M)(hx:Jq G K x=some v)(hc:VV QI (Jw v)=true)(hN:d<N)
  (hn: ∀(c:Nat) T' st',QT ((d,.ptr c 0 0)::K) T'→Mem h0 n0 X st' ((c,0,Jw v)::M)→WR P G N ops rest R T' st'):WR P G N ops (⟨some d,.box t x,ty,pos,af,none⟩::rest) R T st:=by
 refine IJ (v:=.ptr st.n 0 0) (st1:=⟨st.n+1,st.h.set st.n (.row false [((Jw v).length,0,some (Jw v))])⟩) hK (.of fun T hT c d ty pos af g=>?_) hN fun T' hT'=>hn st.n T' _ hT' (hM.alloc _);show(ob (QF G T x) fun x=>qj x st)=_;rw[hT.QF hx,Qh];unfold qj;rw[hc,QR,YL]
theorem Q5{t ty:TypeId}{pos:String}{af:Array Edge}{x y:Operand}{w:AV}{k c m off n:Nat}{l l':List AV}(hK:QT K T)(hM:Mem h0 n0 X st M)(hx:Jq G K x=some (.ptr c m off))(hy:Jq G K y=some w)(hk:M[k]? =some (c,m,l))(hz:ZI P t=some n)(hn:(Jw w).length=n)
  (hc:VV QI (Jw w)=true) (ho:ZM (Jw w) off l=some l') (hr: ∀st',Mem h0 n0 X st' (M.set k (c,m,l'))→WR P G N ops rest R T st'):WR P G N ops (⟨none,.store t x y,ty,pos,af,none⟩::rest) R T st:=by
 obtain⟨st1,h1,h2,_⟩:=hM.store hk hz hn hc ho;refine zp (v:=.tup []) (st1:=st1) hK (.of fun T hT c d ty pos af g=>?_) (hr st1 h2);show(ob (QF G T x) fun x=>ob (QF G T y) fun y=>W8 P t x y st)=_;rw[hT.QF hx,hT.QF hy,Qh,Qh,h1]
end
theorem Ji{P:Program}{t:TypeId}{n:Nat}{l r:List AV}{off:Nat}(h:tk P t=.agg n)(hl:Ve n (Vt off l) (fun r=>some (AV.agg r))=some (.agg r)):Z2 P t l off=some (.agg r):=by
 unfold Z2;rw[h];exact hl
theorem QA{P:Program}{t:TypeId}{l:List AV}{off:Nat}{v:AV}(h:tk P t=.one)(hl:nth l off=some v):Z2 P t l off=some v:=by
 unfold Z2;rw[h];exact hl
end Go.Proofs.YtadjjadimlkkgaaGreatDoor
end

section

namespace Go.Proofs.YtadjjadimlkkgaaGreatDoor
open Go

variable {P:Program} {G:Env} {N:Nat} {st:St} {K:List (Nat×AV)} {T:Tr AV} {ops rest:List Oper} {R:Tr AV→St→Prop}
theorem yj{d:Nat}{op:Op}{ty:TypeId}{pos:String}{af:Array Edge}{x:Bool}{st1:St}(hK:QT K T)(h:Zo P G K op st (.bool x) st1)(hN:d<N)(hn: ∀(b:Bool) T',x=b→QT ((d,.bool b)::K) T'→WR P G N ops rest R T' st1):
 WR P G N ops (⟨some d,op,ty,pos,af,none⟩::rest) R T st:=IJ hK h hN fun T' hT'=>hn x T' rfl hT'
theorem V7{j t:Nat}{d:Option Nat}{op:Op}{ty:TypeId}{pos:String}{af:Array Edge}{b pol:Bool}(hK:QT K T)(ht:JL ops j=some t)(hb:K.lookup t=some (.bool b)):Jp ops ⟨d,op,ty,pos,af,some (j,pol)⟩ T=(b==pol):=by
 unfold Jp;simp only[ht];rw[show UH T t=.bool b from hK t _ hb]
 cases b<;>cases pol<;>rfl
theorem zn{d j t:Nat}{op:Op}{ty:TypeId}{pos:String}{af:Array Edge}{pol:Bool}{v:AV}{st1:St}(hK:QT K T)(ht:JL ops j=some t)(hb:K.lookup t=some (.bool pol))(h:Zo P G K op st v st1)(hN:d<N)
  (hn: ∀T',QT ((d,v)::K) T'→WR P G N ops rest R T' st1):WR P G N ops (⟨some d,op,ty,pos,af,some (j,pol)⟩::rest) R T st:=
 NW (by rw[V7 hK ht hb];cases pol<;>rfl) (h T hK _ _ _ _ _) (fun e he=>by injection he with he;rw[←he];exact hN) (hn _ (hK.set d v))
theorem zo{d j t:Nat}{op:Op}{ty:TypeId}{pos:String}{af:Array Edge}{b pol:Bool}(hK:QT K T)(ht:JL ops j=some t)(hb:K.lookup t=some (.bool b))(hne:(b==pol)=false)(hN:d<N)
  (hn: ∀T',QT ((d,.tup [])::K) T'→WR P G N ops rest R T' st):WR P G N ops (⟨some d,op,ty,pos,af,some (j,pol)⟩::rest) R T st:=by
 obtain⟨L',n',T',st',h1,h2⟩:=hn _ (hK.set d (.tup []));refine⟨L',n',T',st',?_,h2⟩;show(ob (JH P G _ ops _ T st) fun r=>Yt N (some d) r.1 T fun T=>tl (Ez P G _ N ops rest T r.2))=_;unfold JH;rw[V7 hK ht hb,hne,Q3,Qh];show QD (Nat.ble (d+1) N) (T.put d (.tup []) _)=_;rw[Nat.ble_eq_true_of_le hN,Tr.put_eq];exact h1
theorem Tw{x y:Operand}{tys:Array TypeId}{a b:Int}{k:IntKind}(hx:Jq G K x=some (.int k a))(hy:Jq G K y=some (.int k b)):Zo P G K (.call {callee:=.builtin .max,args:= #[x,y],argTypes:=tys}) st (.int k (max a b)) st:=.of fun T hT cc d ty pos af g=>by
 show ret (ob (JW (QF G T) [x,y]) (zg true)) st=_;rw[Jm,hT.QF hx,Qh,Jm,hT.QF hy,Qh];show ret (some (AV.int k (Qg (Nv a b) b a))) st=_;rw[ZQ]
 by_cases h:a<b
 ·rw[decide_eq_true h,QB,show max a b=b by omega];rfl
 ·rw[decide_eq_false h,Q3,show max a b=a by omega];rfl
theorem CL{x y:Operand}{tys:Array TypeId}{a b:Int}{k:IntKind}(hx:Jq G K x=some (.int k a))(hy:Jq G K y=some (.int k b)):Zo P G K (.call {callee:=.builtin .min,args:= #[x,y],argTypes:=tys}) st (.int k (min a b)) st:=.of fun T hT cc d ty pos af g=>by
 show ret (ob (JW (QF G T) [x,y]) (zg false)) st=_;rw[Jm,hT.QF hx,Qh,Jm,hT.QF hy,Qh];show ret (some (AV.int k (Qg (Nv b a) b a))) st=_;rw[ZQ]
 by_cases h:b<a
 ·rw[decide_eq_true h,QB,show min a b=b by omega];rfl
 ·rw[decide_eq_false h,Q3,show min a b=a by omega];rfl
end Go.Proofs.YtadjjadimlkkgaaGreatDoor
end

section

namespace Go.Proofs.YtadjjadimlkkgaaGreatDoor
open Go

variable {P:Program} {G:Env} {N:Nat} {st:St} {K:List (Nat×AV)} {T:Tr AV} {ops:List Oper} {rest:List (Nat×Oper×Nat)} {R:Tr AV→St→Prop} {sn:List St}
def VO(ops:List Oper)(q:Nat×Nat):Nat×Oper×Nat:=(q.1,(ops[q.1]?).getD ⟨none,.move (.tmp 0),0,"",#[],none⟩,q.2)
theorem Wg{ops:List Oper}{i n:Nat}{o:Oper}(ho:ops[i]? =some o)(r:List (Nat×Nat)):((i,n)::r).map (VO ops)=(i,o,n)::r.map (VO ops):=by
 rw[List.map_cons];unfold VO;rw[ho];rfl
theorem Up{id:Nat}{ops:Array Oper}{Q:Ex→Tr AV→St→Prop}{l:List (Nat×Nat)}(hp:ZK P ops.toList=some (l.map (VO ops.toList)))
 (h:WD P G N ops.toList (l.map (VO ops.toList)) (Q .nor) T st [st]):W P G N (.region id ops true) Q T st:=yl hp h
theorem UG(h:R T st):WD P G N ops (([]:List (Nat×Nat)).map (VO ops)) R T st sn:=⟨0,0,T,st,rfl,h⟩
theorem Fq{i n:Nat}{o:Oper}{v:AV}{st1:St}(hw:Jp ops o T=true)(h: ∃L n,∀L' n',L≤L'→n≤n'→Ib P (QF G T) (Jg P G L' n') o st=some (v,st1))(ha:again P G o T v n sn.tail=true)(hd: ∀d,o.dst=some d→d<N)
  (hn:WD P G N ops rest R (match o.dst with|some d=>T.set d v|none=>T) st1 (Qg (Nat.beq (QG P o.op) 3) (st1::sn) sn)):WD P G N ops ((i,o,n)::rest) R T st sn:=by
 obtain⟨L,m,h⟩:=h;obtain⟨L',m',T',st',h1,h2⟩:=hn;refine⟨max L L',max m m',T',st',?_,h2⟩
 show(ob (JH P G _ ops o T st) fun r=>QD (Qg (Jp ops o T) (again P G o T r.1 n (List.rec [] (fun _ t _=>t) sn)) true)
  (Yt N o.dst r.1 T fun T=>tl (VN P G _ N ops rest T r.2 (Qg (Nat.beq (QG P o.op) 3) (r.2::sn) sn))))=_
 have e:JH P G (Jg P G (max L L') (max m m')) ops o T st=some (v,st1):=by
  unfold JH;rw[hw,QB];exact h _ _ (Nat.le_max_left _ _) (Nat.le_max_left _ _)
 rw[e,Qh,hw,QB,GG];show QD (again P G o T v n sn.tail) _=_;rw[ha,QR];have h1':=Nb (Vv m' (max m m') L' (max L L') (Nat.le_max_right _ _) (Nat.le_max_right _ _)) _ _ _ _ _ h1
 cases hdst:o.dst with
 |none=>rw[hdst]at h1';exact h1'
 |some d=>
  rw[hdst]at h1';show QD (Nat.ble (d+1) N) (T.put d v _)=_;rw[Nat.ble_eq_true_of_le (hd d hdst),Tr.put_eq];exact h1'
section
variable {r:List (Nat×Nat)} {i d:Nat} {op:Op} {ty:TypeId} {pos:String} {af:Array Edge} {v:AV} {st1:St}
theorem Sp(ho:ops[i]? =some ⟨some d,op,ty,pos,af,none⟩)(hK:QT K T)(h:Zo P G K op st v st1)(hk:Nat.beq (QG P op) 3=false)(hN:d<N)(hn: ∀T',QT ((d,v)::K) T'→WD P G N ops (r.map (VO ops)) R T' st1 sn):
  WD P G N ops (((i,0)::r).map (VO ops)) R T st sn:=by
 rw[Wg ho]
 exact Fq rfl (h T hK _ _ _ _ _) rfl (fun e he=>by injection he with he;rw[←he];exact hN) (by
  show WD P G N ops (r.map (VO ops)) R _ st1 (Qg (Nat.beq (QG P op) 3) _ _)
  rw[hk];exact hn _ (hK.set d v))
theorem Cn(ho:ops[i]? =some ⟨some d,op,ty,pos,af,none⟩)(hK:QT K T)(h:Zo P G K op st v st1)(hk:Nat.beq (QG P op) 3=true)(hN:d<N)(hn: ∀T',QT ((d,v)::K) T'→WD P G N ops (r.map (VO ops)) R T' st1 (st1::sn)):
  WD P G N ops (((i,0)::r).map (VO ops)) R T st sn:=by
 rw[Wg ho]
 exact Fq rfl (h T hK _ _ _ _ _) rfl (fun e he=>by injection he with he;rw[←he];exact hN) (by
  show WD P G N ops (r.map (VO ops)) R _ st1 (Qg (Nat.beq (QG P op) 3) _ _)
  rw[hk];exact hn _ (hK.set d v))
theorem Yh{t:TypeId}{x:Operand}{u:AV}{s0 s1:St}(ho:ops[i]? =some ⟨some d,.load t x,ty,pos,af,none⟩)(hK:QT K T)(hx:Jq G K x=some u)(h:QX P t u st.h.get=some v)(h1:QX P t u s1.h.get=some v)(he:Gf v v=true)(hk:Nat.beq (QG P (.load t x)) 3=false)(hN:d<N)
  (hn: ∀T',QT ((d,v)::K) T'→WD P G N ops (r.map (VO ops)) R T' st (s0::s1::sn)):WD P G N ops (((i,1)::r).map (VO ops)) R T st (s0::s1::sn):=by
 rw[Wg ho]
 exact Fq rfl (Qr hx h T hK _ _ _ _ _) (by
  show Qg (Option.rec false (fun x=>Option.rec false (fun u=>Gf u v) (QX P t x s1.h.get)) (QF G T x)) true false=true;rw[hK.QF hx];show Qg (Option.rec false (fun u=>Gf u v) (QX P t u s1.h.get)) true false=true;rw[h1];show Qg (Gf v v) true false=true
  rw[he];rfl) (fun e he=>by injection he with he;rw[←he];exact hN) (by
  show WD P G N ops (r.map (VO ops)) R _ st (Qg (Nat.beq (QG P (.load t x)) 3) _ _)
  rw[hk];exact hn _ (hK.set d v))
theorem yk{x:Bool}(ho:ops[i]? =some ⟨some d,op,ty,pos,af,none⟩)(hK:QT K T)(h:Zo P G K op st (.bool x) st1)(hk:Nat.beq (QG P op) 3=false)(hN:d<N)(hn: ∀(b:Bool) T',x=b→QT ((d,.bool b)::K) T'→WD P G N ops (r.map (VO ops)) R T' st1 sn):
 WD P G N ops (((i,0)::r).map (VO ops)) R T st sn:=Sp ho hK h hk hN fun T' hT'=>hn x T' rfl hT'
theorem zq{j t:Nat}{pol:Bool}(ho:ops[i]? =some ⟨some d,op,ty,pos,af,some (j,pol)⟩)(hK:QT K T)(ht:JL ops j=some t)(hb:K.lookup t=some (.bool pol))(h:Zo P G K op st v st1)(hk:Nat.beq (QG P op) 3=false)(hN:d<N)
  (hn: ∀T',QT ((d,v)::K) T'→WD P G N ops (r.map (VO ops)) R T' st1 sn):WD P G N ops (((i,0)::r).map (VO ops)) R T st sn:=by
 rw[Wg ho]
 exact Fq (by rw[V7 hK ht hb];cases pol<;>rfl) (h T hK _ _ _ _ _) rfl (fun e he=>by injection he with he;rw[←he];exact hN) (by
  show WD P G N ops (r.map (VO ops)) R _ st1 (Qg (Nat.beq (QG P op) 3) _ _)
  rw[hk];exact hn _ (hK.set d v))
theorem zr{j t n:Nat}{b pol:Bool}(ho:ops[i]? =some ⟨some d,op,ty,pos,af,some (j,pol)⟩)(hK:QT K T)(ht:JL ops j=some t)(hb:K.lookup t=some (.bool b))(hne:(b==pol)=false)(hN:d<N)
  (hn: ∀T' sn',QT ((d,.tup [])::K) T'→WD P G N ops (r.map (VO ops)) R T' st sn'):WD P G N ops (((i,n)::r).map (VO ops)) R T st sn:=by
 rw[Wg ho];obtain⟨L',n',T',st',h1,h2⟩:=hn _ (Qg (Nat.beq (QG P op) 3) (st::sn) sn) (hK.set d (.tup []));refine⟨L',n',T',st',?_,h2⟩;show(ob (JH P G _ ops _ T st) fun x=>QD (Qg (Jp ops _ T) _ true) (Yt N (some d) x.1 T fun T=>tl (VN P G _ N ops (r.map (VO ops)) T x.2 (Qg (Nat.beq (QG P op) 3) (x.2::sn) sn))))=_;unfold JH;rw[V7 hK ht hb,hne,Q3,Qh,Q3,QR];show QD (Nat.ble (d+1) N) (T.put d (.tup []) _)=_;rw[Nat.ble_eq_true_of_le hN,Tr.put_eq];exact h1
end
end Go.Proofs.YtadjjadimlkkgaaGreatDoor
end

section

namespace Go.Proofs.YtadjjadimlkkgaaGreatDoor
open Go

variable {P:Program} {G:Env} {N:Nat} {st:St} {K:List (Nat×AV)} {T:Tr AV} {ops:List Oper} {r:List (Nat×Nat)} {R:Tr AV→St→Prop} {sn:List St} {h0:Hp} {n0:Nat} {X:List Nat} {M:List (Nat×Nat×List AV)}
theorem IN{i:Nat}{t ty:TypeId}{pos:String}{af:Array Edge}{x y:Operand}{w:AV}{k c m off n:Nat}{l l':List AV}(ho:ops[i]? =some ⟨none,.store t x y,ty,pos,af,none⟩)(hK:QT K T)(hM:Mem h0 n0 X st M)(hx:Jq G K x=some (.ptr c m off))(hy:Jq G K y=some w)
  (hk:M[k]? =some (c,m,l)) (hz:ZI P t=some n) (hn:(Jw w).length=n) (hc:VV QI (Jw w)=true) (hv:ZM (Jw w) off l=some l')
  (hr: ∀st',Mem h0 n0 X st' (M.set k (c,m,l'))→WD P G N ops (r.map (VO ops)) R T st' (st'::sn)):WD P G N ops (((i,0)::r).map (VO ops)) R T st sn:=by
 obtain⟨st1,h1,h2,_⟩:=hM.store hk hz hn hc hv;rw[Wg ho]
 have hS:Zo P G K (.store t x y) st (.tup []) st1:=.of fun T hT c d ty pos af g=>by
  show(ob (QF G T x) fun x=>ob (QF G T y) fun y=>W8 P t x y st)=_;rw[hT.QF hx,hT.QF hy,Qh,Qh,h1]
 exact Fq rfl (hS T hK _ _ _ _ _) rfl (fun e he=>by cases he) (hr st1 h2)
end Go.Proofs.YtadjjadimlkkgaaGreatDoor
end
