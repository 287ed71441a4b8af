/-
  Several texts in one: XSymA, XSymB, XSymC, XSymD, XSymE, XSymF, XSymG.
-/
import Derived.Test.YtiknomepbklibaaGreatDoorQsEnv
set_option linter.unusedSimpArgs false
set_option linter.unusedVariables false
namespace Go.Proofs.YtiknomepbklibaaGreatDoor
section
open Go
variable {N:Nat} {T:Tr AV} {ops:List Oper}

def aN(c c':YR):Prop:= ∀f args st r,c f args st=some r→c' f args st=some r
theorem Yv{α β:Type}{x:Option α}{k k':α→Option β}{r:β}(h:ob x k=some r)(hk: ∀a,x=some a→k a=some r→k' a=some r):ob x k'=some r:=by
 obtain⟨a,ha,h⟩:=Qm h;rw[ha];exact hk a ha h
theorem WM{β:Type}{b:Bool}{k k':Option β}{r:β}(h:QJ b k=some r)(hk:k=some r→k'=some r):QJ b k'=some r:=by
 obtain⟨hb,h⟩:=Qv h;subst hb;exact hk h
variable {P:Program} {G:Env}
theorem uc{R:Operand→Option AV}{c c':YR}(hc:aN c c'){o:Oper}{st:St}{r:AV×St}(h:RD P R c o st=some r):RD P R c' o st=some r:=by
 obtain⟨dst,op,ty,pos,af,g⟩:=o
 cases op with
 |call cl=>
  obtain⟨callee,args,tys⟩:=cl
  cases callee with
  |value f=>
   have h:(ob (R f) fun v=>(match v with
    |.fn fid a cap=>ob (Uw R args.toList) fun l=>c fid (ZB a (ZB l cap)) st
    |_=>none))=some r:=h
   show(ob (R f) fun v=>(match v with
    |.fn fid a cap=>ob (Uw R args.toList) fun l=>c' fid (ZB a (ZB l cap)) st
    |_=>none))=some r
   refine Yv h fun v _ h=>?_
   cases v with
   |fn fid a cap=>exact Yv h fun l _ h=>hc _ _ _ _ h
   |_=>cases h
  |invoke f name=>
   have h:(ob (R f) fun v=>(match v with
    |.ifc t u=>ob (Av P t name) fun fid=>ob (Uw R args.toList) fun l=>c fid (u::l) st
    |_=>none))=some r:=h
   show(ob (R f) fun v=>(match v with
    |.ifc t u=>ob (Av P t name) fun fid=>ob (Uw R args.toList) fun l=>c' fid (u::l) st
    |_=>none))=some r
   refine Yv h fun v _ h=>?_
   cases v with
   |ifc t u=>exact Yv h fun fid _ h=>Yv h fun l _ h=>hc _ _ _ _ h
   |_=>cases h
  |_=>exact h
 |_=>exact h
theorem LU{c c':YR}(hc:aN c c'){o:Oper}{st:St}{r:AV×St}(h:UJ P G c ops o T st=some r):UJ P G c' ops o T st=some r:=by
 unfold UJ at h ⊢
 cases hw:U3 ops o T with
 |true=>rw[hw]at h;exact uc hc h
 |false=>rw[hw]at h;exact h
theorem Fa{β:Type}{d:Option Nat}{v:AV}{k k':Tr AV→Option β}{r:β}(h:Ek N d v T k=some r)(hk: ∀T,k T=some r→k' T=some r):Ek N d v T k'=some r:=by
 cases d with
 |none=>exact hk _ h
 |some t=>
  have h:QJ (Nat.ble (t+1) N) (T.put t v k)=some r:=h;show QJ (Nat.ble (t+1) N) (T.put t v k')=some r;refine WM h fun h=>?_;rw[Tr.put_eq]at h ⊢;exact hk _ h
theorem G2{c c':YR}(hc:aN c c'): ∀(l:List Oper) (T:Tr AV) (st:St) (r:Tr AV×St),Ha P G c N ops l T st=some r→Ha P G c' N ops l T st=some r:=by
 intro l
 induction l with
 |nil=>intro T st r h;exact h
 |cons o l ih=>
  intro T st r h;have h:(ob (UJ P G c ops o T st) fun r=>Ek N o.dst r.1 T fun T=>tl (Ha P G c N ops l T r.2))=some r:=h;show(ob (UJ P G c' ops o T st) fun r=>Ek N o.dst r.1 T fun T=>tl (Ha P G c' N ops l T r.2))=some r;obtain⟨a,ha,h⟩:=Qm h;rw[LU hc ha,Ql];exact Fa h fun T h=>ih T a.2 r h
theorem G3{c c':YR}(hc:aN c c'): ∀(l:List (Nat×Oper×Nat)) (T:Tr AV) (st:St) (sn:List St) (r:Tr AV×St),Ak P G c N ops l T st sn=some r→Ak P G c' N ops l T st sn=some r:=by
 intro l
 induction l with
 |nil=>intro T st sn r h;exact h
 |cons q l ih=>
  intro T st sn r h
  have h:(ob (UJ P G c ops q.2.1 T st) fun r=>QJ (Qj (U3 ops q.2.1 T) (again P G q.2.1 T r.1 q.2.2 (List.rec [] (fun _ t _=>t) sn)) true)
   (Ek N q.2.1.dst r.1 T fun T=>tl (Ak P G c N ops l T r.2 (Qj (Nat.beq (QE P q.2.1.op) 3) (r.2::sn) sn))))=some r:=h
  show(ob (UJ P G c' ops q.2.1 T st) fun r=>QJ (Qj (U3 ops q.2.1 T) (again P G q.2.1 T r.1 q.2.2 (List.rec [] (fun _ t _=>t) sn)) true)
   (Ek N q.2.1.dst r.1 T fun T=>tl (Ak P G c' N ops l T r.2 (Qj (Nat.beq (QE P q.2.1.op) 3) (r.2::sn) sn))))=some r
  obtain⟨a,ha,h⟩:=Qm h;rw[LU hc ha,Ql];refine WM h fun h=>Fa h fun T h=>ih T a.2 _ r h
theorem NC{f f':Tr AV→St→Option (Ex×Tr AV×St)}(hf: ∀T st r,f T st=some r→f' T st=some r): ∀(L L':Nat),L≤L'→ ∀T st r,Ib L f T st=some r→Ib L' f' T st=some r:=by
 intro L
 induction L with
 |zero=>intro L' _ T st r h;cases h
 |succ L ih=>
  intro L' hL T st r h;obtain⟨M,rfl⟩: ∃M,L'=M+1:=⟨L'-1,by omega⟩;have h:W9 (f T st) (Ib L f)=some r:=h;show W9 (f' T st) (Ib M f')=some r;rcases HB h with⟨T1,st1,h1,h2⟩|⟨h1,h2⟩
  ·rw[hf _ _ _ h1];exact ih M Qc _ _ _ h2
  ·rw[hf _ _ _ h1];obtain⟨e,T,st⟩:=r
   cases e with
   |nor=>exact absurd rfl h2
   |exit i=>rfl
   |ret=>rfl
theorem Sx{ts te:TypeId}{cap:AV}{ps:List Tmp}{fa fb fa' fb':Tr AV→St→Option (Ex×Tr AV×St)}(ha: ∀T st r,fa T st=some r→fa' T st=some r)(hb: ∀T st r,fb T st=some r→fb' T st=some r):
  ∀(n:Nat) (st:St) (r:Ex×Tr AV×St),AL P N ts te cap ps fa fb T n st=some r→AL P N ts te cap ps fa' fb' T n st=some r:=by
 intro n
 induction n with
 |zero=>intro st r h;exact h
 |succ n ih=>
  intro st r h
  have h:(ob (Js P ts cap st.h.get) fun s=>ob (Yl P ts s (.int .i64 (Int.ofNat n))) fun q=>ob (Js P te q st.h.get) fun v=>
   O5 N ps (.int .i64 (Int.ofNat n)) v T fun T1=>ob (fa T1 st) fun r=>Ex.rec (ob (fb r.2.1 r.2.2) fun q=>Ex.rec (tl (AL P N ts te cap ps fa fb T n q.2.2)) (fun id=>some (.exit id,T,q.2.2)) (some (.ret,T,q.2.2)) q.1) (fun _=>none) none r.1)=some r:=h
  show(ob (Js P ts cap st.h.get) fun s=>ob (Yl P ts s (.int .i64 (Int.ofNat n))) fun q=>ob (Js P te q st.h.get) fun v=>
   O5 N ps (.int .i64 (Int.ofNat n)) v T fun T1=>ob (fa' T1 st) fun r=>Ex.rec (ob (fb' r.2.1 r.2.2) fun q=>Ex.rec (tl (AL P N ts te cap ps fa' fb' T n q.2.2)) (fun id=>some (.exit id,T,q.2.2)) (some (.ret,T,q.2.2)) q.1) (fun _=>none) none r.1)=some r
  refine Yv h fun s _ h=>Yv h fun q _ h=>Yv h fun v _ h=>?_;unfold O5 at h ⊢
  split at h
  ·refine Fa h fun T h=>Fa h fun T h=>?_;obtain⟨⟨e1,T2,st2⟩,h1,h⟩:=Qm h;rw[ha _ _ _ h1,Ql]
   cases e1 with
   |exit i=>cases h
   |ret=>cases h
   |nor=>
    obtain⟨⟨e,T3,st3⟩,h2,h⟩:=Qm h;show(ob (fb' T2 st2) _)=_;rw[hb _ _ _ h2,Ql]
    cases e with
    |nor=>exact ih _ _ h
    |exit i=>exact h
    |ret=>exact h
  ·cases h
theorem Be{c c':YR}(hc:aN c c'){L L':Nat}(hL:L≤L'): ∀(k:Code) (T:Tr AV) (st:St) (r:Ex×Tr AV×St),codeF P G c N L k T st=some r→codeF P G c' N L' k T st=some r:=by
 intro k
 induction k with
 |region id ops draw=>
  intro T st r h
  cases draw with
  |true=>
   have h:(ob (Wn P ops.toList) fun pl=>ob (Ak P G c N ops.toList pl T st [st]) fun r=>some (Ex.nor,r))=some r:=h;show(ob (Wn P ops.toList) fun pl=>ob (Ak P G c' N ops.toList pl T st [st]) fun r=>some (Ex.nor,r))=some r;refine Yv h fun pl _ h=>?_;obtain⟨a,ha,h⟩:=Qm h;rw[G3 hc _ _ _ _ _ ha];exact h
  |false=>
   have h:(ob (Ha P G c N ops.toList ops.toList T st) fun r=>some (Ex.nor,r))=some r:=h;show(ob (Ha P G c' N ops.toList ops.toList T st) fun r=>some (Ex.nor,r))=some r;obtain⟨a,ha,h⟩:=Qm h;rw[G2 hc _ _ _ _ ha];exact h
 |seq x y ihx ihy=>
  intro T st r h;have h:W9 (codeF P G c N L x T st) (codeF P G c N L y)=some r:=h;show W9 (codeF P G c' N L' x T st) (codeF P G c' N L' y)=some r;rcases HB h with⟨T1,st1,h1,h2⟩|⟨h1,h2⟩
  ·rw[ihx _ _ _ h1];exact ihy _ _ _ h2
  ·rw[ihx _ _ _ h1];obtain⟨e,T,st⟩:=r
   cases e with
   |nor=>exact absurd rfl h2
   |exit i=>rfl
   |ret=>rfl
 |cond g x y ihx ihy=>
  intro T st r h;have h:Bc (Jq G T g) (tl (codeF P G c N L x T st)) (tl (codeF P G c N L y T st))=some r:=h;show Bc (Jq G T g) (tl (codeF P G c' N L' x T st)) (tl (codeF P G c' N L' y T st))=some r;refine Yv h fun v _ h=>?_
  cases v with
  |bool b=>
   cases b with
   |true=>exact ihx _ _ _ h
   |false=>exact ihy _ _ _ h
  |_=>cases h
 |block id x ih=>
  intro T st r h;have h:Oy id (codeF P G c N L x T st)=some r:=h;show Oy id (codeF P G c' N L' x T st)=some r;obtain⟨a,ha,h⟩:=Qm h;rw[ih _ _ _ ha];exact h
 |loop x ih=>intro T st r h;exact NC ih L L' hL T st r h
 |rangeFunc g ps a b iha ihb=>
  intro T st r h;have h:II P G N g ps.toList (Qj (Xy a) (Xy b) false) (codeF P G c N L a) (codeF P G c N L b) T st=some r:=h;show II P G N g ps.toList (Qj (Xy a) (Xy b) false) (codeF P G c' N L' a) (codeF P G c' N L' b) T st=some r;unfold II at h ⊢;refine WM h fun h=>Yv h fun v _ h=>?_
  split at h
  ·refine Yv h fun q _ h=>?_
   split at h
   ·split at h
    ·refine Yv h fun s _ h=>Yv h fun n _ h=>?_
     split at h
     ·exact Yv h fun n _ h=>WM h fun h=>Sx iha ihb _ _ _ h
     ·cases h
    ·cases h
   ·cases h
  ·cases h
 |_=>intro T st r h;exact h
theorem qF: ∀(l:List AV) (i:Nat) (T:Tr AV),(∀t,i≤t→Y1 T t=.tup [])→ ∃T',(∀(β:Type) (k:Tr AV→β),List.rec (motive:=fun _=>Nat→Tr AV→β) (fun(_:Nat) T=>k T) (fun v _ ih i T=>T.put i v (ih (i+1))) l i T=k T')∧
  ∀t,Y1 T' t=if t<i then Y1 T t else(l[t-i]?).getD (.tup []):=by
 intro l
 induction l with
 |nil=>
  intro i T hT;refine⟨T,fun _ _=>rfl,fun t=>?_⟩
  by_cases h:t<i
  ·rw[if_pos h]
  ·rw[if_neg h,hT t Qc];simp
 |cons v l ih=>
  intro i T hT
  obtain⟨T',h1,h2⟩:=ih (i+1) (T.set i v) fun t ht=>by rw[ZV,if_neg Qc];exact hT t Qc
  refine⟨T',fun β k=>?_,fun t=>?_⟩
  ·show T.put i v _=_;rw[Tr.put_eq];exact h1 β k
  ·rw[h2,ZV]
   by_cases h:t<i
   ·rw[if_pos Qc,if_neg Qc,if_pos h]
   ·rw[if_neg h]
    by_cases h3:t=i
    ·subst h3;rw[if_pos Qc,if_pos rfl];simp
    ·rw[if_neg Qc,show t-i=(t-(i+1))+1 by omega];simp
theorem Bk(l:List AV): ∃T,(∀(β:Type) (k:Tr AV→β),KQ l k=k T)∧ ∀t,Y1 T t=(l[t]?).getD (.tup []):=by
 obtain⟨T,h1,h2⟩:=qF l 0 .nil fun t _=>rfl;exact⟨T,h1,fun t=>by rw[h2,if_neg Qc,Nat.sub_zero]⟩
theorem X2: ∀(n m L L':Nat),n≤m→L≤L'→aN (Uh P G L n) (Uh P G L' m):=by
 intro n
 induction n with
 |zero=>intro m L L' _ _ f args st r h;cases h
 |succ n ih=>
  intro m L L' hnm hL f args st r h;obtain⟨k,rfl⟩: ∃k,m=k+1:=⟨m-1,by omega⟩;have h:(Option.rec (ob (NS P f) fun q=>QJ (Nat.ble (Zh args) q.2.1) (KQ args fun T=>Og (codeF P G (Uh P G L n) q.2.1 L q.1 T st) fun T st=>ob (J8 P q.2.2 T st) fun v=>some (v,st))) (fun sm=>sm args st) (G.s f):Option (AV×St))=some r:=h;show(Option.rec (ob (NS P f) fun q=>QJ (Nat.ble (Zh args) q.2.1) (KQ args fun T=>Og (codeF P G (Uh P G L' k) q.2.1 L' q.1 T st) fun T st=>ob (J8 P q.2.2 T st) fun v=>some (v,st))) (fun sm=>sm args st) (G.s f):Option (AV×St))=some r
  cases hs:G.s f with
  |some sm=>rw[hs]at h;exact h
  |none=>
   rw[hs]at h;refine Yv h fun q _ h=>WM h fun h=>?_;obtain⟨T,h1,_⟩:=Bk args;rw[h1]at h ⊢;obtain⟨⟨e,T2,st2⟩,hc,h⟩:=Qm h;have hc':=Be (ih k L L' Qc hL) hL q.1 T st _ hc;show Og (codeF P G (Uh P G L' k) q.2.1 L' q.1 T st) _=_;rw[hc'];exact h

end
section
open Go
variable {c:Code} {id:Nat} {st1:St} {v:AV}

def Ev(P:Program)(G:Env)(f:FuncId)(args:List AV)(st:St)(v:AV)(st':St):Prop:= ∃L n,Uh P G L n f args st=some (v,st')
def W(P:Program)(G:Env)(N:Nat)(c:Code)(Q:Ex→Tr AV→St→Prop)(T:Tr AV)(st:St):Prop:= ∃L n x T' st',codeF P G (Uh P G L n) N L c T st=some (x,T',st')∧Q x T' st'
def WR(P:Program)(G:Env)(N:Nat)(ops l:List Oper)(Q:Tr AV→St→Prop)(T:Tr AV)(st:St):Prop:= ∃L n T' st',Ha P G (Uh P G L n) N ops l T st=some (T',st')∧Q T' st'
def WD(P:Program)(G:Env)(N:Nat)(ops:List Oper)(l:List (Nat×Oper×Nat))(Q:Tr AV→St→Prop)(T:Tr AV)(st:St)(sn:List St):Prop:= ∃L n T' st',Ak P G (Uh P G L n) N ops l T st sn=some (T',st')∧Q T' st'

def LP(k:Tr AV→St→Prop)(Q:Ex→Tr AV→St→Prop):Ex→Tr AV→St→Prop
 |.nor=>k
 |x=>Q x
def C5(id:Nat)(Q:Ex→Tr AV→St→Prop):Ex→Tr AV→St→Prop
 |.exit i=>if i=id then Q .nor else Q (.exit i)
 |x=>Q x

variable {P:Program} {G:Env} {N:Nat} {Q:Ex→Tr AV→St→Prop} {T:Tr AV} {st:St}

theorem Vy{L L' n n':Nat}(hL:L≤L')(hn:n≤n'){T:Tr AV}{st:St}{r:Ex×Tr AV×St}(h:codeF P G (Uh P G L n) N L c T st=some r):codeF P G (Uh P G L' n') N L' c T st=some r:=
 Be (X2 n n' L L' hn hL) hL c T st r h
theorem qV{Q':Ex→Tr AV→St→Prop}(h:W P G N c Q T st)(hq: ∀x T st,Q x T st→Q' x T st):W P G N c Q' T st:=by
 obtain⟨L,n,x,T',st',h1,h2⟩:=h;exact⟨L,n,x,T',st',h1,hq _ _ _ h2⟩
theorem Ra(h:Q .nor T st):W P G N .skip Q T st:=⟨0,0,_,_,_,rfl,h⟩
theorem zS{l:Nat}(h:Q .nor T st):W P G N (.label l) Q T st:=⟨0,0,_,_,_,rfl,h⟩
theorem QK(h:Q (.exit id) T st):W P G N (.exit id) Q T st:=⟨0,0,_,_,_,rfl,h⟩
theorem Jx(h:Q .ret T st):W P G N .ret Q T st:=⟨0,0,_,_,_,rfl,h⟩
theorem Jy{a b:Code}(h:W P G N a (LP (W P G N b Q) Q) T st):W P G N (.seq a b) Q T st:=by
 obtain⟨L,n,x,T1,st1,h1,h2⟩:=h
 cases x with
 |nor=>
  obtain⟨L',n',y,T2,st2,h3,h4⟩:=h2;refine⟨max L L',max n n',y,T2,st2,?_,h4⟩;show W9 (codeF P G _ N _ a T st) (codeF P G _ N _ b)=_;rw[Vy (Nat.le_max_left L L') (Nat.le_max_left n n') h1];exact Vy (Nat.le_max_right L L') (Nat.le_max_right n n') h3
 |exit i=>exact⟨L,n,_,T1,st1,by show W9 (codeF P G _ N _ a T st) (codeF P G _ N _ b)=_;rw[h1];rfl,h2⟩
 |ret=>exact⟨L,n,_,T1,st1,by show W9 (codeF P G _ N _ a T st) (codeF P G _ N _ b)=_;rw[h1];rfl,h2⟩
theorem FW{g:Operand}{a b:Code}{t:Bool}(hg:Jq G T g=some (.bool t))(ha:t=true→W P G N a Q T st)(hb:t=false→W P G N b Q T st):W P G N (.cond g a b) Q T st:=by
 cases t with
 |true=>
  obtain⟨L,n,x,T',st',h1,h2⟩:=ha rfl;exact⟨L,n,x,T',st',by show Bc (Jq G T g) _ _=_;rw[hg];exact h1,h2⟩
 |false=>
  obtain⟨L,n,x,T',st',h1,h2⟩:=hb rfl;exact⟨L,n,x,T',st',by show Bc (Jq G T g) _ _=_;rw[hg];exact h1,h2⟩
theorem By(h:W P G N c (C5 id Q) T st):W P G N (.block id c) Q T st:=by
 obtain⟨L,n,x,T',st',h1,h2⟩:=h;have e:codeF P G (Uh P G L n) N L (.block id c) T st=Oy id (codeF P G (Uh P G L n) N L c T st):=rfl;rw[h1]at e
 cases x with
 |nor=>exact⟨L,n,_,T',st',e,h2⟩
 |ret=>exact⟨L,n,_,T',st',e,h2⟩
 |exit i=>
  by_cases hi:i=id
  ·subst hi;have h2:(if i=i then Q .nor else Q (.exit i)) T' st':=h2;rw[if_pos rfl]at h2;refine⟨L,n,.nor,T',st',?_,h2⟩;rw[e];show Qj (Nat.beq i i) _ _=_;rw[Nat.beq_refl];rfl
  ·have h2:(if i=id then Q .nor else Q (.exit i)) T' st':=h2;rw[if_neg hi]at h2;refine⟨L,n,.exit i,T',st',?_,h2⟩;rw[e];show Qj (Nat.beq i id) _ _=_
   have:Nat.beq i id=false:=by
    cases hb:Nat.beq i id with
    |false=>rfl
    |true=>exact absurd (Nat.eq_of_beq_eq_true hb) hi
   rw[this];rfl
theorem Jd(h:W P G N c (LP (W P G N (.loop c) Q) Q) T st):W P G N (.loop c) Q T st:=by
 obtain⟨L,n,x,T1,st1,h1,h2⟩:=h;have e: ∀L n,codeF P G (Uh P G (L+1) n) N (L+1) (.loop c) T st=W9 (codeF P G (Uh P G (L+1) n) N (L+1) c T st) (Ib L (codeF P G (Uh P G (L+1) n) N (L+1) c)):=fun _ _=>rfl
 cases x with
 |nor=>
  obtain⟨L',n',y,T2,st2,h3,h4⟩:=h2;refine⟨max L L'+1,max n n',y,T2,st2,?_,h4⟩;rw[e,Vy (Nat.le_succ_of_le (Nat.le_max_left L L')) (Nat.le_max_left n n') h1];have h3:Ib L' (codeF P G (Uh P G L' n') N L' c) T1 st1=some (y,T2,st2):=h3;exact NC (fun T st r h=>Vy (Nat.le_succ_of_le (Nat.le_max_right L L')) (Nat.le_max_right n n') h) L' (max L L') (Nat.le_max_right _ _) T1 st1 _ h3
 |exit i=>exact⟨L+1,n,_,T1,st1,by rw[e,Vy (Nat.le_succ L) (Nat.le_refl n) h1];rfl,h2⟩
 |ret=>exact⟨L+1,n,_,T1,st1,by rw[e,Vy (Nat.le_succ L) (Nat.le_refl n) h1];rfl,h2⟩
theorem QX(I:Nat→Tr AV→St→Prop)(hstep: ∀n T st,I n T st→W P G N c (LP (fun T' st'=> ∃m,m<n∧I m T' st') Q) T st): ∀n T st,I n T st→W P G N (.loop c) Q T st:=by
 intro n
 induction n using Nat.strongRecOn with
 |_ n ih=>
  intro T st h;refine Jd (qV (hstep n T st h) fun x T' st' hx=>?_)
  cases x with
  |nor=>
   obtain⟨m,hm,hI⟩:=hx;exact ih m hm T' st' hI
  |exit i=>exact hx
  |ret=>exact hx
theorem W7{ops:Array Oper}(h:WR P G N ops.toList ops.toList (Q .nor) T st):W P G N (.region id ops false) Q T st:=by
 obtain⟨L,n,T',st',h1,h2⟩:=h;refine⟨L,n,.nor,T',st',?_,h2⟩;show(ob (Ha P G _ N ops.toList ops.toList T st) fun r=>some (Ex.nor,r))=_;rw[h1];rfl
theorem wC{ops:Array Oper}{pl:List (Nat×Oper×Nat)}(hp:Wn P ops.toList=some pl)(h:WD P G N ops.toList pl (Q .nor) T st [st]):W P G N (.region id ops true) Q T st:=by
 obtain⟨L,n,T',st',h1,h2⟩:=h;refine⟨L,n,.nor,T',st',?_,h2⟩;show(ob (Wn P ops.toList) fun pl=>ob (Ak P G _ N ops.toList pl T st [st]) fun r=>some (Ex.nor,r))=_;rw[hp,Ql,h1];rfl

def QS(K:List (Nat×AV))(T:Tr AV):Prop:= ∀t v,K.lookup t=some v→Y1 T t=v
theorem QS.set{K:List (Nat×AV)}{T:Tr AV}(h:QS K T)(d:Nat)(v:AV):QS ((d,v)::K) (T.set d v):=by
 intro t u hl;rw[ZV]
 by_cases ht:t=d
 ·subst ht;rw[List.lookup_cons,beq_self_eq_true]at hl
  injection hl with hl
  rw[if_pos rfl,hl]
 ·rw[List.lookup_cons,beq_false_of_ne ht]at hl;rw[if_neg ht];exact h t u hl
theorem QS.nil{T:Tr AV}:QS [] T:=fun t v h=>(by cases h)
theorem QS.cons{K:List (Nat×AV)}{T:Tr AV}{d:Nat}(hd:Y1 T d=v)(h:QS K T):QS ((d,v)::K) T:=by
 intro t u hl
 by_cases ht:t=d
 ·subst ht;rw[List.lookup_cons,beq_self_eq_true]at hl
  injection hl with hl
  rw[←hl];exact hd
 ·rw[List.lookup_cons,beq_false_of_ne ht]at hl;exact h t u hl
noncomputable def QT(G:Env)(K:List (Nat×AV))(x:Operand):Option AV:=match x with
 |.tmp t=>K.lookup t
 |.const v=>ofConst v
 |.global g=>QJ (G.g g) (some (.ptr g 0 0))
 |.func f=>some (.fn f [] [])
theorem QS.sub{K L:List (Nat×AV)}{T:Tr AV}(h:QS K T)(e:L.map (fun p=>K.lookup p.1)=L.map fun p=>some p.2):QS L T:=by
 induction L with
 |nil=>exact .nil
 |cons p L ih=>
  injection e with e1 e2
  exact .cons (h _ _ e1) (ih e2)
theorem yT{p:Prop} [Decidable p](h:(!decide p)=false):p:=by simpa using h
theorem yF{p:Prop} [Decidable p](h:(!decide p)=true): ¬p:=by simpa using h
theorem QS.Jq{K:List (Nat×AV)}{T:Tr AV}(h:QS K T){x:Operand}{v:AV}(hx:QT G K x=some v):Jq G T x=some v:=by
 cases x with
 |tmp t=>exact congrArg some (h t v hx)
 |const c=>exact hx
 |global g=>exact hx
 |func f=>exact hx
theorem QS.row{K:List (Nat×AV)}{T:Tr AV}(h:QS K T): ∀(l:List Operand) (vs:List AV),Uw (QT G K) l=some vs→Uw (Proofs.YtiknomepbklibaaGreatDoor.Jq G T) l=some vs:=by
 intro l
 induction l with
 |nil=>intro vs hv;exact hv
 |cons x l ih=>
  intro vs hv;rw[JA]at hv ⊢;obtain⟨b,hb,hv⟩:=Qm hv;obtain⟨t,ht,hv⟩:=Qm hv;rw[h.Jq hb,Ql,ih t ht,Ql];exact hv
def U2(P:Program)(G:Env)(K:List (Nat×AV))(op:Op)(st:St)(v:AV)(st1:St):Prop:= ∀T,QS K T→ ∀(d:Option Tmp) (ty:TypeId) (pos:String) (af:Array Edge) (g:Option (Nat×Bool)),∃L n,∀L' n',L≤L'→n≤n'→RD P (Jq G T) (Uh P G L' n') ⟨d,op,ty,pos,af,g⟩ st=some (v,st1)
section ops
variable {ops rest:List Oper} {K:List (Nat×AV)} {R:Tr AV→St→Prop}
theorem XT(h:R T st):WR P G N ops [] R T st:=⟨0,0,T,st,rfl,h⟩
theorem Bv{o:Oper}(hw:U3 ops o T=true)(h: ∃L n,∀L' n',L≤L'→n≤n'→RD P (Jq G T) (Uh P G L' n') o st=some (v,st1))(hd: ∀d,o.dst=some d→d<N)
  (hn:WR P G N ops rest R (match o.dst with|some d=>T.set d v|none=>T) st1):WR P G N ops (o::rest) R T st:=by
 obtain⟨L,n,h⟩:=h;obtain⟨L',n',T',st',h1,h2⟩:=hn;refine⟨max L L',max n n',T',st',?_,h2⟩;show(ob (UJ P G _ ops o T st) fun r=>Ek N o.dst r.1 T fun T=>tl (Ha P G _ N ops rest T r.2))=_
 have e:UJ P G (Uh P G (max L L') (max n n')) ops o T st=some (v,st1):=by
  unfold UJ;rw[hw,Q0];exact h _ _ (Nat.le_max_left _ _) (Nat.le_max_left _ _)
 rw[e,Ql];have h1':=G2 (X2 n' (max n n') L' (max L L') (Nat.le_max_right _ _) (Nat.le_max_right _ _)) _ _ _ _ h1
 cases hdst:o.dst with
 |none=>rw[hdst]at h1';exact h1'
 |some d=>
  rw[hdst]at h1';show QJ (Nat.ble (d+1) N) (T.put d v _)=_;rw[Nat.ble_eq_true_of_le (hd d hdst),Tr.put_eq];exact h1'
theorem EF{d:Nat}{op:Op}{ty:TypeId}{pos:String}{af:Array Edge}(hK:QS K T)(h:U2 P G K op st v st1)(hN:d<N)(hn: ∀T',QS ((d,v)::K) T'→WR P G N ops rest R T' st1):
  WR P G N ops (⟨some d,op,ty,pos,af,none⟩::rest) R T st:=
 Bv rfl (h T hK _ _ _ _ _) (fun e he=>by injection he with he;rw[←he];exact hN) (hn _ (hK.set d v))
theorem SF{op:Op}{ty:TypeId}{pos:String}{af:Array Edge}(hK:QS K T)(h:U2 P G K op st v st1)(hn:WR P G N ops rest R T st1):
  WR P G N ops (⟨none,op,ty,pos,af,none⟩::rest) R T st:=
 Bv rfl (h T hK _ _ _ _ _) (fun e he=>by cases he) hn
end ops
end
section
open Go
variable {a b:Int} {f:FuncId} {k:IntKind} {l:List AV} {st1:St} {t yt:TypeId} {u v:AV} {x y:Operand}

variable {P:Program} {G:Env} {K:List (Nat×AV)} {st:St}
theorem U2.of{op:Op}(h: ∀T,QS K T→ ∀(c:YR) (d:Option Tmp) (ty:TypeId) (pos:String) (af:Array Edge) (g:Option (Nat×Bool)),RD P (Jq G T) c ⟨d,op,ty,pos,af,g⟩ st=some (v,st1)):U2 P G K op st v st1:=
 fun T hT d ty pos af g=>⟨0,0,fun _ _ _ _=>h T hT _ d ty pos af g⟩
theorem Qy(hx:QT G K x=some v):U2 P G K (.move x) st v st:=.of fun T hT c d ty pos af g=>by
 show ret (Jq G T x) st=_;rw[hT.Jq hx];rfl
theorem JV(hx:QT G K x=some v):U2 P G K (.assign x) st v st:=.of fun T hT c d ty pos af g=>by
 show ret (Jq G T x) st=_;rw[hT.Jq hx];rfl
theorem xF{a b:Operand}{t:Bool}(hx:QT G K x=some (.bool t))(ha:QT G K a=some u)(hb:QT G K b=some v):U2 P G K (.pick x a b) st (Qj t u v) st:=.of fun T hT c d ty pos af g=>by
 show(ob (Jq G T x) fun c=>(match c with
  |.bool t=>ret (Qj t (Jq G T a) (Jq G T b)) st
  |_=>none))=_
 rw[hT.Jq hx,Ql];show ret (Qj t (Jq G T a) (Jq G T b)) st=_;rw[hT.Jq ha,hT.Jq hb]
 cases t<;>rfl
theorem UN{op:BinOp}{w:AV}(hx:QT G K x=some u)(hy:QT G K y=some w)(h:b2 P op t u w=some v):U2 P G K (.binOp op t x y yt) st v st:=.of fun T hT c d ty pos af g=>by
 show ret (ob (Jq G T x) fun x=>ob (Jq G T y) fun y=>b2 P op t x y) st=_;rw[hT.Jq hx,hT.Jq hy,Ql,Ql,h];rfl
theorem WV(k:IntKind):Gj k k=true:=decide_eq_true rfl
theorem Va{op:BinOp}(h1:op≠ .shl)(h2:op≠ .shr):b2 P op t (.int k a) (.int k b)=fY op k a b:=by
 cases op<;>first
  |exact absurd rfl h1
  |exact absurd rfl h2
  |(show QJ (Gj k k) _=_;rw[WV];rfl)
theorem jX(hx:QT G K x=some (.int k a))(hy:QT G K y=some (.int k b)):U2 P G K (.binOp .lss t x y yt) st (.bool (decide (a<b))) st:=
 UN hx hy (by rw[Va Q8 Q8];show some (AV.bool (Cd a b))=_;rw[Zb])
theorem ea(hx:QT G K x=some (.int k a))(hy:QT G K y=some (.int k b)):U2 P G K (.binOp .gtr t x y yt) st (.bool (decide (b<a))) st:=
 UN hx hy (by rw[Va Q8 Q8];show some (AV.bool (Cd b a))=_;rw[Zb])
theorem N3(a b:Int):(!decide (a<b))=decide (b≤a):=by
 by_cases h:a<b
 ·rw[decide_eq_true h,decide_eq_false Qc];rfl
 ·rw[decide_eq_false h,decide_eq_true Qc];rfl
theorem wZ(hx:QT G K x=some (.int k a))(hy:QT G K y=some (.int k b)):U2 P G K (.binOp .leq t x y yt) st (.bool (decide (a≤b))) st:=
 UN hx hy (by rw[Va Q8 Q8];show some (AV.bool (!Cd b a))=_;rw[Zb,N3])
theorem ec(hx:QT G K x=some (.int k a))(hy:QT G K y=some (.int k b)):U2 P G K (.binOp .geq t x y yt) st (.bool (decide (b≤a))) st:=
 UN hx hy (by rw[Va Q8 Q8];show some (AV.bool (!Cd a b))=_;rw[Zb,N3])
theorem Yw(a b:Int):Hk a b=decide (a=b):=by rw[Z8];exact Bool.beq_eq_decide_eq a b
theorem jZ(hx:QT G K x=some (.int k a))(hy:QT G K y=some (.int k b)):U2 P G K (.binOp .eql t x y yt) st (.bool (decide (a=b))) st:=
 UN hx hy (by rw[Va Q8 Q8];show some (AV.bool (Hk a b))=_;rw[Yw])
theorem R9(hx:QT G K x=some (.int k a))(hy:QT G K y=some (.int k b)):U2 P G K (.binOp .neq t x y yt) st (.bool (!decide (a=b))) st:=
 UN hx hy (by rw[Va Q8 Q8];show some (AV.bool (!Hk a b))=_;rw[Yw])
theorem wrap64{n:Int}(h1: -9223372036854775808≤n)(h2:n≤9223372036854775807):IntKind.i64.wrap n=n:=IntWalk.i64_in n Qc
theorem ee(hx:QT G K x=some (.int .i64 a))(hy:QT G K y=some (.int .i64 b))(h1: -9223372036854775808≤a+b)(h2:a+b≤9223372036854775807):U2 P G K (.binOp .add t x y yt) st (.int .i64 (a+b)) st:=
 UN hx hy (by rw[Va Q8 Q8];show XU (Ve .i64 (a+b)) (fun z=>some (AV.int .i64 z))=_;rw[Yu,UH,wrap64 h1 h2])
theorem jT(hx:QT G K x=some (.int .i64 a))(hy:QT G K y=some (.int .i64 b))(h1: -9223372036854775808≤a-b)(h2:a-b≤9223372036854775807):U2 P G K (.binOp .sub t x y yt) st (.int .i64 (a-b)) st:=
 UN hx hy (by rw[Va Q8 Q8];show XU (Ve .i64 (a-b)) (fun z=>some (AV.int .i64 z))=_;rw[Yu,UH,wrap64 h1 h2])
theorem QG{a b:List Nat}(hx:QT G K x=some (.str a))(hy:QT G K y=some (.str b)):U2 P G K (.binOp .eql t x y yt) st (.bool (decide (a=b))) st:=
 UN hx hy (by show some (AV.bool (GW a b))=_;rw[Xd])
theorem Hd{a b:List Nat}(hx:QT G K x=some (.str a))(hy:QT G K y=some (.str b)):U2 P G K (.binOp .neq t x y yt) st (.bool (!decide (a=b))) st:=
 UN hx hy (by show some (AV.bool (!GW a b))=_;rw[Xd])
theorem Ny{b:Bool}(hx:QT G K x=some (.bool b)):U2 P G K (.unOp .not t x) st (.bool (!b)) st:=.of fun T hT c d ty pos af g=>by
 show ret (ob (Jq G T x) fun x=>fT .not x) st=_;rw[hT.Jq hx];rfl
theorem wX(hx:QT G K x=some v)(hv:(match v with|.ptr _ _ _=>true|.fn _ _ _=>true|_=>false)=true):U2 P G K (.nilCheck x) st v st:=.of fun T hT c d ty pos af g=>by
 show ret (ob (Jq G T x) fun v=>(match v with
  |.ptr c m off=>some (.ptr c m off)
  |.fn f a c=>some (.fn f a c)
  |_=>none)) st=_
 rw[hT.Jq hx,Ql]
 cases v<;>first|rfl|cases hv
theorem Yf{f c m off o:Nat}(ho:QH P t f=some o)(hx:QT G K x=some (.ptr c m off)):U2 P G K (.fieldAddr t x f) st (.ptr c m (off+o)) st:=.of fun T hT cc d ty pos af g=>by
 show ret (ob (Jq G T x) fun x=>E5 P t x f) st=_;rw[hT.Jq hx,Ql];show ret (ob (QH P t f) fun o=>UB (off+o) fun z=>some (AV.ptr c m z)) st=_;rw[ho,Ql,Jh];rfl
theorem Ap{f:Nat}(hx:QT G K x=some u)(h:Kc P t u f=some v):U2 P G K (.field t x f) st v st:=.of fun T hT cc d ty pos af g=>by
 show ret (ob (Jq G T x) fun x=>Kc P t x f) st=_;rw[hT.Jq hx,Ql,h];rfl
theorem RB{i:Nat}(hx:QT G K x=some (.tup l))(h:nth l i=some v):U2 P G K (.extract x i) st v st:=.of fun T hT cc d ty pos af g=>by
 show ret (ob (Jq G T x) fun v=>(match v with
  |.tup l=>nth l i
  |_=>none)) st=_
 rw[hT.Jq hx,Ql];show ret (nth l i) st=_;rw[h];rfl
theorem Qe{i:Operand}{c m off len z z':Nat}{j:Nat}(he:Ue P t=some z)(hx:QT G K x=some (.sl c m off len z'))(hi:QT G K i=some (.int k (j:Int)))(hj:j<len):
  U2 P G K (.indexAddr t x i) st (.ptr c m (off+j *z)) st:=.of fun T hT cc d ty pos af g=>by
 show ret (ob (Jq G T x) fun x=>ob (Jq G T i) fun i=>Yl P t x i) st=_;rw[hT.Jq hx,hT.Jq hi,Ql,Ql];show ret (ob (OE (j:Int)) fun i=>QJ (Nat.ble (i+1) len) (ob (Ue P t) fun z=>UB (off+i *z) fun o=>some (AV.ptr c m o))) st=_;show ret (QJ (Nat.ble (j+1) len) (ob (Ue P t) fun z=>UB (off+j *z) fun o=>some (AV.ptr c m o))) st=_;rw[Nat.ble_eq_true_of_le hj,he];show ret (UB (off+j *z) fun o=>some (AV.ptr c m o)) st=_;rw[Jh];rfl
theorem M4{i:Operand}{l:List Nat}{j b:Nat}(ht:P.underlying t=some .string)(hx:QT G K x=some (.str l))(hi:QT G K i=some (.int k (j:Int)))(hj:l[j]? =some b):
  U2 P G K (.index t x i) st (.int .u8 (b:Int)) st:=.of fun T hT cc d ty pos af g=>by
 show ret (ob (Jq G T x) fun x=>ob (Jq G T i) fun i=>Hh P t x i) st=_;rw[hT.Jq hx,hT.Jq hi,Ql,Ql];unfold Hh;simp only[ht];show ret (ob (nth l j) fun b=>some (AV.int .u8 (Int.ofNat b))) st=_;rw[U6,hj];rfl
theorem RP(ht:P.underlying t=some .string):Xb P [t]=false:=by unfold Xb;simp only[ht]
theorem MW{e:TypeId}(ht:P.underlying t=some (.slice e)):Xb P [t]=false:=by unfold Xb;simp only[ht]
theorem xJ{tys:Array TypeId}{l:List Nat}(ht:P.underlying t=some .string)(htys:tys= #[t])(hx:QT G K x=some (.str l)):
  U2 P G K (.call {callee:=.builtin .len,args:= #[x],argTypes:=tys}) st (.int .i64 (l.length:Int)) st:=.of fun T hT cc d ty pos af g=>by
 subst htys;show Qj (Xb P [t]) _ (ret (ob (Jq G T x) fun x=>NK P [t] x) st)=_;rw[RP ht,Qs,hT.Jq hx,Ql];unfold NK;simp only[ht,Jh,Us];rfl
def YD:AV→Option Nat
 |.nils=>some 0
 |.slz _ _ _ _ _=>some 0
 |.sl0 _ _ _=>some 0
 |.sl _ _ _ n _=>some n
 |_=>none
theorem Q5{tys:Array TypeId}{e:TypeId}{n:Nat}(ht:P.underlying t=some (.slice e))(htys:tys= #[t])(hx:QT G K x=some u)(hn:YD u=some n):
  U2 P G K (.call {callee:=.builtin .len,args:= #[x],argTypes:=tys}) st (.int .i64 (n:Int)) st:=.of fun T hT cc d ty pos af g=>by
 subst htys;show Qj (Xb P [t]) _ (ret (ob (Jq G T x) fun x=>NK P [t] x) st)=_;rw[MW ht,Qs,hT.Jq hx,Ql]
 cases u<;>simp only[YD]at hn<;>first|(cases hn;done)|skip
 all_goals
  injection hn with hn
  subst hn;unfold NK;simp only[ht];rfl
theorem Qf{args:Array Operand}{tys:Array TypeId}(ha:Uw (QT G K) args.toList=some l)(h:Ev P G f l st v st1):
  U2 P G K (.call {callee:=.value (.func f),args:=args,argTypes:=tys}) st v st1:=fun T hT d ty pos af g=>by
 obtain⟨L,n,h⟩:=h;refine⟨L,n,fun L' n' hL hn=>?_⟩
 show(ob (Jq G T (.func f)) fun v=>(match v with
  |.fn fid a cap=>ob (Uw (Jq G T) args.toList) fun l=>Uh P G L' n' fid (ZB a (ZB l cap)) st
  |_=>none))=_
 show(ob (Uw (Jq G T) args.toList) fun l=>Uh P G L' n' f (ZB [] (ZB l [])) st)=_;rw[hT.row _ _ ha,Ql,U4,U4,List.nil_append,List.append_nil];exact X2 n n' L L' hn hL _ _ _ _ h
theorem ZZ{g:Operand}{args:Array Operand}{tys:Array TypeId}{a cap:List AV}(hg:QT G K g=some (.fn f a cap))(ha:Uw (QT G K) args.toList=some l)(h:Ev P G f (a++(l++cap)) st v st1):
  U2 P G K (.call {callee:=.value g,args:=args,argTypes:=tys}) st v st1:=fun T hT d ty pos af gg=>by
 obtain⟨L,n,h⟩:=h;refine⟨L,n,fun L' n' hL hn=>?_⟩
 show(ob (Jq G T g) fun v=>(match v with
  |.fn fid a cap=>ob (Uw (Jq G T) args.toList) fun l=>Uh P G L' n' fid (ZB a (ZB l cap)) st
  |_=>none))=_
 rw[hT.Jq hg,Ql];show(ob (Uw (Jq G T) args.toList) fun l=>Uh P G L' n' f (ZB a (ZB l cap)) st)=_;rw[hT.row _ _ ha,Ql,U4,U4];exact X2 n n' L L' hn hL _ _ _ _ h
theorem X9{first cap:Array Operand}{a c:List AV}(ha:Uw (QT G K) first.toList=some a)(hc:Uw (QT G K) cap.toList=some c):U2 P G K (.makeFunc (.func f) first cap) st (.fn f a c) st:=.of fun T hT cc d ty pos af g=>by
 show ret (ob (Uw (Jq G T) first.toList) fun l=>ob (Uw (Jq G T) cap.toList) fun r=>some (AV.fn f l r)) st=_;rw[hT.row _ _ ha,hT.row _ _ hc];rfl
theorem Qg(hx:QT G K x=some u)(h:Js P t u st.h.get=some v):U2 P G K (.load t x) st v st:=.of fun T hT cc d ty pos af g=>by
 show(ob (Jq G T x) fun x=>ret (Js P t x st.h.get) st)=_;rw[hT.Jq hx,Ql,h];rfl
theorem D4{lo hi:Option Operand}(hx:QT G K x=some u)(h: ∀T,QS K T→Wl P t u (Jq G T) lo hi=some v):U2 P G K (.slice t x lo hi none) st v st:=.of fun T hT cc d ty pos af g=>by
 show ret (ob (Jq G T x) fun x=>Wl P t x (Jq G T) lo hi) st=_;rw[hT.Jq hx,Ql,h T hT];rfl
theorem RC{s d:TypeId}(hx:QT G K x=some u)(h:Pv P s d u st.h.get=some v):U2 P G K (.convert s d x) st v st:=.of fun T hT cc dd ty pos af g=>by
 show ret (ob (Jq G T x) fun x=>Pv P s d x st.h.get) st=_;rw[hT.Jq hx,Ql,h];rfl

theorem wh{fn:Func}{c:Code}{N:Nat}{rs:List ResultVar}{args:List AV}{Q:AV→St→Prop}(hs:G.s f=none)(hf:P.funcs[f]? =some fn)(hb:fn.body=some c)(hN:fn.ntmps=N)(hr:fn.results.toList=rs)(hname:(fn.name== "runtime.NumGoroutine")=false)(hl:args.length≤N)
  (h: ∀T,(∀t,Y1 T t=(args[t]?).getD (.tup []))→W P G N c (fun x T st=>(x=.nor∨x=.ret)∧ ∃v,J8 P rs T st=some v∧Q v st) T st): ∃v st',Ev P G f args st v st'∧Q v st':=by
 obtain⟨T,hT1,hT2⟩:=Bk args;obtain⟨L,n,x,T',st',h1,hx,v,h2,h3⟩:=h T hT2;refine⟨v,st',⟨L,n+1,?_⟩,h3⟩;show(Option.rec (ob (NS P f) fun q=>QJ (Nat.ble (Zh args) q.2.1) (KQ args fun T=>Og (codeF P G (Uh P G L n) q.2.1 L q.1 T st) fun T st=>ob (J8 P q.2.2 T st) fun v=>some (v,st))) (fun sm=>sm args st) (G.s f):Option (AV×St))=some (v,st');rw[hs];show(ob (NS P f) fun q=>QJ (Nat.ble (Zh args) q.2.1) (KQ args fun T=>Og (codeF P G (Uh P G L n) q.2.1 L q.1 T st) fun T st=>ob (J8 P q.2.2 T st) fun v=>some (v,st)))=some (v,st')
 have hfn:NS P f=some (c,N,rs):=by
  unfold NS;rw[hf];simp only[hb,hname,hN,hr];rfl
 rw[hfn,Ql,Us,Nat.ble_eq_true_of_le hl,hT1,QO];show Og (codeF P G (Uh P G L n) N L c T st) _=_;rw[h1];rcases hx with rfl|rfl
 ·show ob (J8 P rs T' st') _=_;rw[h2];rfl
 ·show ob (J8 P rs T' st') _=_;rw[h2];rfl
end
section
open Go
variable {af:Array Edge} {c k m n off:Nat} {l l':List AV} {pos:String} {t ty:TypeId} {v:AV}

structure Mem(h0:Hp)(n0:Nat)(X:List Nat)(st:St)(M:List (Nat×Nat×List AV)):Prop where
 fresh:Qi st
 le:n0≤st.n
 base: ∀c,n0≤c→h0 c=none
 row: ∀c m l,(c,m,l)∈M→ ∃vs ms,st.h.get c=some (.row false ms)∧ms[m]? =some (l.length,vs,some l)
 lt: ∀c m l,(c,m,l)∈M→c<st.n
 own: ∀c m l,(c,m,l)∈M→n0≤c∨c∈X
 nodup:(M.map Prod.fst).Nodup
 J9: ∀c,c<n0→c∉X→st.h.get c=h0 c
structure Qt(st st':St):Prop where
 fresh:Qi st'
 le:st.n≤st'.n
 J9: ∀c,c<st.n→st'.h.get c=st.h.get c
theorem Qt.trans{a b c:St}(x:Qt a b)(y:Qt b c):Qt a c:=⟨y.fresh,Nat.le_trans x.le y.le,fun k hk=>by rw[y.J9 k (Nat.lt_of_lt_of_le hk x.le),x.J9 k hk]⟩
theorem Mem.start{st:St}(h:Qi st):Mem st.h.get st.n [] st []:=
 ⟨h,Nat.le_refl _,h,fun c m l h=>(by cases h),fun c m l h=>(by cases h),fun c m l h=>(by cases h),List.nodup_nil,fun _ _ _=>rfl⟩
section
variable {P:Program} {G:Env} {N:Nat} {h0:Hp} {n0:Nat} {X:List Nat} {st:St} {M:List (Nat×Nat×List AV)}
theorem Mem.qt{st0:St}(h:Mem st0.h.get st0.n [] st M):Qt st0 st:=⟨h.fresh,h.le,fun c hc=>h.J9 c hc Q4⟩
theorem Mem.less(h:Mem h0 n0 X st M){M':List (Nat×Nat×List AV)}(hs:M'.Sublist M):Mem h0 n0 X st M':=
 ⟨h.fresh,h.le,h.base,fun c m l hm=>h.row c m l (hs.subset hm),fun c m l hm=>h.lt c m l (hs.subset hm),fun c m l hm=>h.own c m l (hs.subset hm),h.nodup.sublist (hs.map _),h.J9⟩
theorem Mem.quiet(h:Mem h0 n0 X st M){st':St}(q:Qt st st'):Mem h0 n0 X st' M:=
 ⟨q.fresh,Nat.le_trans h.le q.le,h.base,fun c m l hm=>by
  obtain⟨vs,ms,h1,h2⟩:=h.row c m l hm
  exact⟨vs,ms,by rw[q.J9 c (h.lt c m l hm)];exact h1,h2⟩,fun c m l hm=>Nat.lt_of_lt_of_le (h.lt c m l hm) q.le,h.own,h.nodup,fun c hc hx=>by rw[q.J9 c (Nat.lt_of_lt_of_le hc h.le)];exact h.J9 c hc hx⟩
theorem Mem.alloc(h:Mem h0 n0 X st M)(l:List AV):Mem h0 n0 X ⟨st.n+1,st.h.set st.n (.row false [(l.length,0,some l)])⟩ ((st.n,0,l)::M):=by
 have hg: ∀c,(st.h.set st.n (.row false [(l.length,0,some l)])).get c=if c=st.n then some (.row false [(l.length,0,some l)])else st.h.get c:=fun c=>Tr.VZ _ _ _ _
 refine⟨fun c hc=>?_,Nat.le_succ_of_le h.le,h.base,fun c m l' hm=>?_,fun c m l' hm=>?_,fun c m l' hm=>?_,?_,fun c hc hx=>?_⟩
 ·have hc:st.n+1≤c:=hc;show(st.h.set st.n _).get c=none;rw[hg,if_neg Qc];exact h.fresh c Qc
 ·rcases List.mem_cons.1 hm with e|hm
  ·injection e with e1 e2
   injection e2 with e2 e3
   subst e1 e2 e3;exact⟨0,_,(hg _).trans (if_pos rfl),rfl⟩
  ·obtain⟨vs,ms,h1,h2⟩:=h.row c m l' hm;have:=h.lt c m l' hm;exact⟨vs,ms,by show(st.h.set st.n _).get c=_;rw[hg,if_neg Qc];exact h1,h2⟩
 ·rcases List.mem_cons.1 hm with e|hm
  ·injection e with e1 e2;subst e1;exact Nat.lt_succ_self _
  ·exact Nat.lt_succ_of_lt (h.lt c m l' hm)
 ·rcases List.mem_cons.1 hm with e|hm
  ·injection e with e1 e2;subst e1;exact .inl h.le
  ·exact h.own c m l' hm
 ·rw[List.map_cons];refine List.nodup_cons.2 ⟨fun hm=>?_,h.nodup⟩;obtain⟨⟨c,m,l'⟩,h1,h2⟩:=List.mem_map.1 hm;have:=h.lt c m l' h1;simp only at h2;omega
 ·show(st.h.set st.n _).get c=_;have:=h.le;rw[hg,if_neg Qc];exact h.J9 c hc hx
theorem Dj{M:List (Nat×Nat×List AV)}(hk:M[k]? =some (c,m,l)):(M.set k (c,m,l')).map Prod.fst=M.map Prod.fst:=by
 apply List.ext_getElem?;intro i;rw[List.getElem?_map,List.getElem?_map,List.getElem?_set]
 by_cases h:k=i
 ·subst h;rw[if_pos rfl,hk];have:=(List.getElem?_eq_some_iff.1 hk).1;simp[this]
 ·rw[if_neg h]
theorem Ay{M:List (Nat×Nat×List AV)}(hk:M[k]? =some (c,m,l))(hn:(M.map Prod.fst).Nodup){x:Nat×Nat×List AV}(hx:x∈M.set k (c,m,l')):
  x=(c,m,l')∨(x∈M∧x.1≠c):=by
 obtain⟨i,hi⟩:=List.getElem?_of_mem hx;rw[List.getElem?_set]at hi
 by_cases h:k=i
 ·subst h;have:=(List.getElem?_eq_some_iff.1 hk).1;simp[this]at hi;exact .inl hi.symm
 ·rw[if_neg h]at hi;refine .inr ⟨List.mem_of_getElem? hi,fun e=>h ?_⟩
  have h1:(M.map Prod.fst)[k]? =some c:=by rw[List.getElem?_map,hk];rfl
  have h2:(M.map Prod.fst)[i]? =some c:=by rw[List.getElem?_map,hi];simp[e]
  exact(List.getElem?_inj (List.getElem?_eq_some_iff.1 h1).1 hn).1 (h1.trans h2.symm)
theorem Mem.store(h:Mem h0 n0 X st M){w:AV}(hk:M[k]? =some (c,m,l))(hz:YM P t=some n)(hn:(Jn w).length=n)(hc:Vv Qr (Jn w)=true)(ho:Zn (Jn w) off l=some l'):
  ∃st1,Ad P t (.ptr c m off) w st=some (.tup [],st1)∧Mem h0 n0 X st1 (M.set k (c,m,l'))∧st1.n=st.n:=by
 have hm:=List.mem_of_getElem? hk;obtain⟨vs,ms,h1,h2⟩:=h.row c m l hm;have hlen:l'.length=l.length:=(V7 _ _ _ _ ho).2.1
 have hr:rowOf st.h.get c m=some (l.length,vs,l,false,ms):=by
  unfold rowOf;rw[h1,Ql];show ob (nth ms m) _=_;rw[U6,h2];rfl
 have e: ∃ms',Ad P t (.ptr c m off) w st=some (.tup [],⟨st.n,st.h.set c (.row false ms')⟩)∧ms'[m]? =some (l.length,vs,some l'):=by
  unfold Ad;simp only[hr,Ql,hz,Us,hn,Nat.beq_refl,QO,hc,ho,Bool.not_false];refine⟨wK (l.length,vs,some l') (Z7 (vs+off) (vs+off+n) ms) m,by rw[Ua,Ua,UI],?_⟩;rw[SP,List.getElem?_set_self];rw[JO];exact(List.getElem?_eq_some_iff.1 h2).1
 obtain⟨ms',e1,e2⟩:=e
 have hg: ∀x,(st.h.set c (.row false ms')).get x=if x=c then some (.row false ms')else st.h.get x:=fun x=>Tr.VZ _ _ _ _
 refine⟨_,e1,⟨fun x hx=>?_,h.le,h.base,fun x y z hm'=>?_,fun x y z hm'=>?_,fun x y z hm'=>?_,?_,fun x hx hX=>?_⟩,rfl⟩
 ·show(st.h.set c _).get x=none;have:=h.lt c m l hm;have hx:st.n≤x:=hx;rw[hg,if_neg Qc];exact h.fresh x hx
 ·rcases Ay hk h.nodup hm' with e|⟨h3,h4⟩
  ·injection e with e1 e2
   injection e2 with e2 e3
   subst e1 e2 e3;exact⟨vs,ms',(hg _).trans (if_pos rfl),by rw[hlen];exact e2⟩
  ·obtain⟨vs',ms2,h5,h6⟩:=h.row x y z h3;exact⟨vs',ms2,by show(st.h.set c _).get x=_;rw[hg,if_neg h4];exact h5,h6⟩
 ·rcases Ay hk h.nodup hm' with e|⟨h3,h4⟩
  ·injection e with e1 e2;subst e1;exact h.lt _ m l hm
  ·exact h.lt x y z h3
 ·rcases Ay hk h.nodup hm' with e|⟨h3,h4⟩
  ·injection e with e1 e2;subst e1;exact h.own _ m l hm
  ·exact h.own x y z h3
 ·rw[Dj hk];exact h.nodup
 ·show(st.h.set c _).get x=_
  have hxc:x≠c:=fun e=>by
   subst e;rcases h.own x m l hm with h5|h5
   ·omega
   ·exact hX h5
  rw[hg,if_neg hxc];exact h.J9 x hx hX
theorem Mem.load(h:Mem h0 n0 X st M)(hk:M[k]? =some (c,m,l))(hp:Vi P t l off=some v):Js P t (.ptr c m off) st.h.get=some v:=by
 obtain⟨vs,ms,h1,h2⟩:=h.row c m l (List.mem_of_getElem? hk);show ob (rowOf st.h.get c m) _=_;unfold rowOf;rw[h1,Ql];show ob (ob (nth ms m) _) _=_;rw[U6,h2];exact hp

variable {ops rest:List Oper} {K:List (Nat×AV)} {R:Tr AV→St→Prop} {T:Tr AV}
theorem LI{d:Nat}(hK:QS K T)(hM:Mem h0 n0 X st M)(hz:zeroOf P t=some l)(hN:d<N)
  (hn: ∀(c:Nat) T' st',QS ((d,.ptr c 0 0)::K) T'→Mem h0 n0 X st' ((c,0,l)::M)→WR P G N ops rest R T' st'):WR P G N ops (⟨some d,.alloc t,ty,pos,af,none⟩::rest) R T st:=by
 refine EF (v:=.ptr st.n 0 0) (st1:=⟨st.n+1,st.h.set st.n (.row false [(l.length,0,some l)])⟩) hK (.of fun T hT c d ty pos af g=>?_) hN fun T' hT'=>hn st.n T' _ hT' (hM.alloc l);show Hv P t st=_;unfold Hv;rw[hz,Ql,Yd]
theorem Jv{d:Nat}{x:Operand}(hK:QS K T)(hM:Mem h0 n0 X st M)(hx:QT G K x=some v)(hc:Vv Qr (Jn v)=true)(hN:d<N)
  (hn: ∀(c:Nat) T' st',QS ((d,.ptr c 0 0)::K) T'→Mem h0 n0 X st' ((c,0,Jn v)::M)→WR P G N ops rest R T' st'):WR P G N ops (⟨some d,.box t x,ty,pos,af,none⟩::rest) R T st:=by
 refine EF (v:=.ptr st.n 0 0) (st1:=⟨st.n+1,st.h.set st.n (.row false [((Jn v).length,0,some (Jn v))])⟩) hK (.of fun T hT c d ty pos af g=>?_) hN fun T' hT'=>hn st.n T' _ hT' (hM.alloc _);show(ob (Jq G T x) fun x=>Ss x st)=_;rw[hT.Jq hx,Ql];unfold Ss;rw[hc,QO,Yd]
theorem QU{x y:Operand}{w:AV}(hK:QS K T)(hM:Mem h0 n0 X st M)(hx:QT G K x=some (.ptr c m off))(hy:QT G K y=some w)(hk:M[k]? =some (c,m,l))(hz:YM P t=some n)(hn:(Jn w).length=n)
  (hc:Vv Qr (Jn w)=true) (ho:Zn (Jn w) off l=some l') (hr: ∀st',Mem h0 n0 X st' (M.set k (c,m,l'))→WR P G N ops rest R T st'):WR P G N ops (⟨none,.store t x y,ty,pos,af,none⟩::rest) R T st:=by
 obtain⟨st1,h1,h2,_⟩:=hM.store hk hz hn hc ho;refine SF (v:=.tup []) (st1:=st1) hK (.of fun T hT c d ty pos af g=>?_) (hr st1 h2);show(ob (Jq G T x) fun x=>ob (Jq G T y) fun y=>Ad P t x y st)=_;rw[hT.Jq hx,hT.Jq hy,Ql,Ql,h1]
end
theorem QN{P:Program}{r:List AV}(h:tk P t=.agg n)(hl:EI n (EL off l) (fun r=>some (AV.agg r))=some (.agg r)):Vi P t l off=some (.agg r):=by
 unfold Vi;rw[h];exact hl
theorem Qd{P:Program}(h:tk P t=.one)(hl:nth l off=some v):Vi P t l off=some v:=by
 unfold Vi;rw[h];exact hl
end
section
open Go
variable {af:Array Edge} {d j t:Nat} {op:Op} {pol:Bool} {pos:String} {ty:TypeId}

variable {P:Program} {G:Env} {N:Nat} {st:St} {K:List (Nat×AV)} {T:Tr AV} {ops rest:List Oper} {R:Tr AV→St→Prop}
theorem w7{x:Bool}{st1:St}(hK:QS K T)(h:U2 P G K op st (.bool x) st1)(hN:d<N)(hn: ∀(b:Bool) T',x=b→QS ((d,.bool b)::K) T'→WR P G N ops rest R T' st1):
 WR P G N ops (⟨some d,op,ty,pos,af,none⟩::rest) R T st:=EF hK h hN fun T' hT'=>hn x T' rfl hT'
theorem XE{d:Option Nat}{b:Bool}(hK:QS K T)(ht:Yh ops j=some t)(hb:K.lookup t=some (.bool b)):U3 ops ⟨d,op,ty,pos,af,some (j,pol)⟩ T=(b==pol):=by
 unfold U3;simp only[ht];rw[show Y1 T t=.bool b from hK t _ hb]
 cases b<;>cases pol<;>rfl
theorem vS{v:AV}{st1:St}(hK:QS K T)(ht:Yh ops j=some t)(hb:K.lookup t=some (.bool pol))(h:U2 P G K op st v st1)(hN:d<N)
  (hn: ∀T',QS ((d,v)::K) T'→WR P G N ops rest R T' st1):WR P G N ops (⟨some d,op,ty,pos,af,some (j,pol)⟩::rest) R T st:=
 Bv (by rw[XE hK ht hb];cases pol<;>rfl) (h T hK _ _ _ _ _) (fun e he=>by injection he with he;rw[←he];exact hN) (hn _ (hK.set d v))
theorem aQ{b:Bool}(hK:QS K T)(ht:Yh ops j=some t)(hb:K.lookup t=some (.bool b))(hne:(b==pol)=false)(hN:d<N)
  (hn: ∀T',QS ((d,.tup [])::K) T'→WR P G N ops rest R T' st):WR P G N ops (⟨some d,op,ty,pos,af,some (j,pol)⟩::rest) R T st:=by
 obtain⟨L',n',T',st',h1,h2⟩:=hn _ (hK.set d (.tup []));refine⟨L',n',T',st',?_,h2⟩;show(ob (UJ P G _ ops _ T st) fun r=>Ek N (some d) r.1 T fun T=>tl (Ha P G _ N ops rest T r.2))=_;unfold UJ;rw[XE hK ht hb,hne,Qs,Ql];show QJ (Nat.ble (d+1) N) (T.put d (.tup []) _)=_;rw[Nat.ble_eq_true_of_le hN,Tr.put_eq];exact h1
theorem jV{x y:Operand}{tys:Array TypeId}{a b:Int}{k:IntKind}(hx:QT G K x=some (.int k a))(hy:QT G K y=some (.int k b)):U2 P G K (.call {callee:=.builtin .max,args:= #[x,y],argTypes:=tys}) st (.int k (max a b)) st:=.of fun T hT cc d ty pos af g=>by
 show ret (ob (Uw (Jq G T) [x,y]) (aJ true)) st=_;rw[JA,hT.Jq hx,Ql,JA,hT.Jq hy,Ql];show ret (some (AV.int k (Qj (Cd a b) b a))) st=_;rw[Zb]
 by_cases h:a<b
 ·rw[decide_eq_true h,Q0,show max a b=b by omega];rfl
 ·rw[decide_eq_false h,Qs,show max a b=a by omega];rfl
theorem jU{x y:Operand}{tys:Array TypeId}{a b:Int}{k:IntKind}(hx:QT G K x=some (.int k a))(hy:QT G K y=some (.int k b)):U2 P G K (.call {callee:=.builtin .min,args:= #[x,y],argTypes:=tys}) st (.int k (min a b)) st:=.of fun T hT cc d ty pos af g=>by
 show ret (ob (Uw (Jq G T) [x,y]) (aJ false)) st=_;rw[JA,hT.Jq hx,Ql,JA,hT.Jq hy,Ql];show ret (some (AV.int k (Qj (Cd b a) b a))) st=_;rw[Zb]
 by_cases h:b<a
 ·rw[decide_eq_true h,Q0,show min a b=b by omega];rfl
 ·rw[decide_eq_false h,Qs,show min a b=a by omega];rfl
end
section
open Go
variable {j n t:Nat} {pol:Bool}

variable {P:Program} {G:Env} {N:Nat} {st:St} {K:List (Nat×AV)} {T:Tr AV} {ops:List Oper} {rest:List (Nat×Oper×Nat)} {R:Tr AV→St→Prop} {sn:List St}
def Yo(ops:List Oper)(q:Nat×Nat):Nat×Oper×Nat:=(q.1,(ops[q.1]?).getD ⟨none,.move (.tmp 0),0,"",#[],none⟩,q.2)
theorem YY{ops:List Oper}{i:Nat}{o:Oper}(ho:ops[i]? =some o)(r:List (Nat×Nat)):((i,n)::r).map (Yo ops)=(i,o,n)::r.map (Yo ops):=by
 rw[List.map_cons];unfold Yo;rw[ho];rfl
theorem QA{id:Nat}{ops:Array Oper}{Q:Ex→Tr AV→St→Prop}{l:List (Nat×Nat)}(hp:Wn P ops.toList=some (l.map (Yo ops.toList)))
 (h:WD P G N ops.toList (l.map (Yo ops.toList)) (Q .nor) T st [st]):W P G N (.region id ops true) Q T st:=wC hp h
theorem QF(h:R T st):WD P G N ops (([]:List (Nat×Nat)).map (Yo ops)) R T st sn:=⟨0,0,T,st,rfl,h⟩
theorem Vm{i:Nat}{o:Oper}{v:AV}{st1:St}(hw:U3 ops o T=true)(h: ∃L n,∀L' n',L≤L'→n≤n'→RD P (Jq G T) (Uh P G L' n') o st=some (v,st1))(ha:again P G o T v n sn.tail=true)(hd: ∀d,o.dst=some d→d<N)
  (hn:WD P G N ops rest R (match o.dst with|some d=>T.set d v|none=>T) st1 (Qj (Nat.beq (QE P o.op) 3) (st1::sn) sn)):WD P G N ops ((i,o,n)::rest) R T st sn:=by
 obtain⟨L,m,h⟩:=h;obtain⟨L',m',T',st',h1,h2⟩:=hn;refine⟨max L L',max m m',T',st',?_,h2⟩
 show(ob (UJ P G _ ops o T st) fun r=>QJ (Qj (U3 ops o T) (again P G o T r.1 n (List.rec [] (fun _ t _=>t) sn)) true)
  (Ek N o.dst r.1 T fun T=>tl (Ak P G _ N ops rest T r.2 (Qj (Nat.beq (QE P o.op) 3) (r.2::sn) sn))))=_
 have e:UJ P G (Uh P G (max L L') (max m m')) ops o T st=some (v,st1):=by
  unfold UJ;rw[hw,Q0];exact h _ _ (Nat.le_max_left _ _) (Nat.le_max_left _ _)
 rw[e,Ql,hw,Q0,Dx];show QJ (again P G o T v n sn.tail) _=_;rw[ha,QO];have h1':=G3 (X2 m' (max m m') L' (max L L') (Nat.le_max_right _ _) (Nat.le_max_right _ _)) _ _ _ _ _ h1
 cases hdst:o.dst with
 |none=>rw[hdst]at h1';exact h1'
 |some d=>
  rw[hdst]at h1';show QJ (Nat.ble (d+1) N) (T.put d v _)=_;rw[Nat.ble_eq_true_of_le (hd d hdst),Tr.put_eq];exact h1'
section
variable {r:List (Nat×Nat)} {i d:Nat} {op:Op} {ty:TypeId} {pos:String} {af:Array Edge} {v:AV} {st1:St}
theorem Gt(ho:ops[i]? =some ⟨some d,op,ty,pos,af,none⟩)(hK:QS K T)(h:U2 P G K op st v st1)(hk:Nat.beq (QE P op) 3=false)(hN:d<N)(hn: ∀T',QS ((d,v)::K) T'→WD P G N ops (r.map (Yo ops)) R T' st1 sn):
  WD P G N ops (((i,0)::r).map (Yo ops)) R T st sn:=by
 rw[YY ho]
 exact Vm rfl (h T hK _ _ _ _ _) rfl (fun e he=>by injection he with he;rw[←he];exact hN) (by
  show WD P G N ops (r.map (Yo ops)) R _ st1 (Qj (Nat.beq (QE P op) 3) _ _)
  rw[hk];exact hn _ (hK.set d v))
theorem LM(ho:ops[i]? =some ⟨some d,op,ty,pos,af,none⟩)(hK:QS K T)(h:U2 P G K op st v st1)(hk:Nat.beq (QE P op) 3=true)(hN:d<N)(hn: ∀T',QS ((d,v)::K) T'→WD P G N ops (r.map (Yo ops)) R T' st1 (st1::sn)):
  WD P G N ops (((i,0)::r).map (Yo ops)) R T st sn:=by
 rw[YY ho]
 exact Vm rfl (h T hK _ _ _ _ _) rfl (fun e he=>by injection he with he;rw[←he];exact hN) (by
  show WD P G N ops (r.map (Yo ops)) R _ st1 (Qj (Nat.beq (QE P op) 3) _ _)
  rw[hk];exact hn _ (hK.set d v))
theorem Ju{t:TypeId}{x:Operand}{u:AV}{s0 s1:St}(ho:ops[i]? =some ⟨some d,.load t x,ty,pos,af,none⟩)(hK:QS K T)(hx:QT G K x=some u)(h:Js P t u st.h.get=some v)(h1:Js P t u s1.h.get=some v)(he:Gi v v=true)(hk:Nat.beq (QE P (.load t x)) 3=false)(hN:d<N)
  (hn: ∀T',QS ((d,v)::K) T'→WD P G N ops (r.map (Yo ops)) R T' st (s0::s1::sn)):WD P G N ops (((i,1)::r).map (Yo ops)) R T st (s0::s1::sn):=by
 rw[YY ho]
 exact Vm rfl (Qg hx h T hK _ _ _ _ _) (by
  show Qj (Option.rec false (fun x=>Option.rec false (fun u=>Gi u v) (Js P t x s1.h.get)) (Jq G T x)) true false=true;rw[hK.Jq hx];show Qj (Option.rec false (fun u=>Gi u v) (Js P t u s1.h.get)) true false=true;rw[h1];show Qj (Gi v v) true false=true
  rw[he];rfl) (fun e he=>by injection he with he;rw[←he];exact hN) (by
  show WD P G N ops (r.map (Yo ops)) R _ st (Qj (Nat.beq (QE P (.load t x)) 3) _ _)
  rw[hk];exact hn _ (hK.set d v))
theorem w8{x:Bool}(ho:ops[i]? =some ⟨some d,op,ty,pos,af,none⟩)(hK:QS K T)(h:U2 P G K op st (.bool x) st1)(hk:Nat.beq (QE P op) 3=false)(hN:d<N)(hn: ∀(b:Bool) T',x=b→QS ((d,.bool b)::K) T'→WD P G N ops (r.map (Yo ops)) R T' st1 sn):
 WD P G N ops (((i,0)::r).map (Yo ops)) R T st sn:=Gt ho hK h hk hN fun T' hT'=>hn x T' rfl hT'
theorem vT(ho:ops[i]? =some ⟨some d,op,ty,pos,af,some (j,pol)⟩)(hK:QS K T)(ht:Yh ops j=some t)(hb:K.lookup t=some (.bool pol))(h:U2 P G K op st v st1)(hk:Nat.beq (QE P op) 3=false)(hN:d<N)
  (hn: ∀T',QS ((d,v)::K) T'→WD P G N ops (r.map (Yo ops)) R T' st1 sn):WD P G N ops (((i,0)::r).map (Yo ops)) R T st sn:=by
 rw[YY ho]
 exact Vm (by rw[XE hK ht hb];cases pol<;>rfl) (h T hK _ _ _ _ _) rfl (fun e he=>by injection he with he;rw[←he];exact hN) (by
  show WD P G N ops (r.map (Yo ops)) R _ st1 (Qj (Nat.beq (QE P op) 3) _ _)
  rw[hk];exact hn _ (hK.set d v))
theorem wA(ho:ops[i]? =some ⟨some d,op,ty,pos,af,some (j,pol)⟩)(hK:QS K T)(ht:Yh ops j=some t)(hb:K.lookup t=some (.bool pol))(h:U2 P G K op st v st1)(hk:Nat.beq (QE P op) 3=true)(hN:d<N)
  (hn: ∀T',QS ((d,v)::K) T'→WD P G N ops (r.map (Yo ops)) R T' st1 (st1::sn)):WD P G N ops (((i,0)::r).map (Yo ops)) R T st sn:=by
 rw[YY ho]
 exact Vm (by rw[XE hK ht hb];cases pol<;>rfl) (h T hK _ _ _ _ _) rfl (fun e he=>by injection he with he;rw[←he];exact hN) (by
  show WD P G N ops (r.map (Yo ops)) R _ st1 (Qj (Nat.beq (QE P op) 3) _ _)
  rw[hk];exact hn _ (hK.set d v))
theorem aR{b:Bool}(ho:ops[i]? =some ⟨some d,op,ty,pos,af,some (j,pol)⟩)(hK:QS K T)(ht:Yh ops j=some t)(hb:K.lookup t=some (.bool b))(hne:(b==pol)=false)(hN:d<N)
  (hn: ∀T' sn',QS ((d,.tup [])::K) T'→WD P G N ops (r.map (Yo ops)) R T' st sn'):WD P G N ops (((i,n)::r).map (Yo ops)) R T st sn:=by
 rw[YY ho];obtain⟨L',n',T',st',h1,h2⟩:=hn _ (Qj (Nat.beq (QE P op) 3) (st::sn) sn) (hK.set d (.tup []));refine⟨L',n',T',st',?_,h2⟩;show(ob (UJ P G _ ops _ T st) fun x=>QJ (Qj (U3 ops _ T) _ true) (Ek N (some d) x.1 T fun T=>tl (Ak P G _ N ops (r.map (Yo ops)) T x.2 (Qj (Nat.beq (QE P op) 3) (x.2::sn) sn))))=_;unfold UJ;rw[XE hK ht hb,hne,Qs,Ql,Qs,QO];show QJ (Nat.ble (d+1) N) (T.put d (.tup []) _)=_;rw[Nat.ble_eq_true_of_le hN,Tr.put_eq];exact h1
end
end
section
open Go

variable {P:Program} {G:Env} {N:Nat} {st:St} {K:List (Nat×AV)} {T:Tr AV} {ops:List Oper} {r:List (Nat×Nat)} {R:Tr AV→St→Prop} {sn:List St} {h0:Hp} {n0:Nat} {X:List Nat} {M:List (Nat×Nat×List AV)}
theorem W6{i d:Nat}{t ty:TypeId}{pos:String}{af:Array Edge}{l:List AV}(ho:ops[i]? =some ⟨some d,.alloc t,ty,pos,af,none⟩)(hK:QS K T)(hM:Mem h0 n0 X st M)(hz:zeroOf P t=some l)(hN:d<N)
  (hn: ∀(c:Nat) T' st',QS ((d,.ptr c 0 0)::K) T'→Mem h0 n0 X st' ((c,0,l)::M)→WD P G N ops (r.map (Yo ops)) R T' st' sn):WD P G N ops (((i,0)::r).map (Yo ops)) R T st sn:=by
 refine Gt (v:=.ptr st.n 0 0) (st1:=⟨st.n+1,st.h.set st.n (.row false [(l.length,0,some l)])⟩) ho hK (.of fun T hT c d ty pos af g=>?_) rfl hN fun T' hT'=>hn st.n T' _ hT' (hM.alloc l);show Hv P t st=_;unfold Hv;rw[hz,Ql,Yd]
theorem V2{i:Nat}{t ty:TypeId}{pos:String}{af:Array Edge}{x y:Operand}{w:AV}{k c m off n:Nat}{l l':List AV}(ho:ops[i]? =some ⟨none,.store t x y,ty,pos,af,none⟩)(hK:QS K T)(hM:Mem h0 n0 X st M)(hx:QT G K x=some (.ptr c m off))(hy:QT G K y=some w)
  (hk:M[k]? =some (c,m,l)) (hz:YM P t=some n) (hn:(Jn w).length=n) (hc:Vv Qr (Jn w)=true) (hv:Zn (Jn w) off l=some l')
  (hr: ∀st',Mem h0 n0 X st' (M.set k (c,m,l'))→WD P G N ops (r.map (Yo ops)) R T st' (st'::sn)):WD P G N ops (((i,0)::r).map (Yo ops)) R T st sn:=by
 obtain⟨st1,h1,h2,_⟩:=hM.store hk hz hn hc hv;rw[YY ho]
 have hS:U2 P G K (.store t x y) st (.tup []) st1:=.of fun T hT c d ty pos af g=>by
  show(ob (Jq G T x) fun x=>ob (Jq G T y) fun y=>Ad P t x y st)=_;rw[hT.Jq hx,hT.Jq hy,Ql,Ql,h1]
 exact Vm rfl (hS T hK _ _ _ _ _) rfl (fun e he=>by cases he) (hr st1 h2)
end
end Go.Proofs.YtiknomepbklibaaGreatDoor
