/-
  Several texts in one: XSymA, XSymB, XSymC, XSymD, XSymE, XSymF, XSymG.
-/
import Derived.Test.YtiknomepbklibaaGreatDoorQhEv3
set_option linter.unusedSimpArgs false
set_option linter.unusedVariables false
namespace Go.Proofs.YtiknomepbklibaaGreatDoor
section
open Go
variable {N:Nat} {T:Tr AV} {ops:List Oper}

def aG(c c':YR):Prop:= ∀f args st r,c f args st=some r→c' f args st=some r
theorem Yx{α β:Type}{x:Option α}{k k':α→Option β}{r:β}(h:ob x k=some r)(hk: ∀a,x=some a→k a=some r→k' a=some r):ob x k'=some r:=by
 obtain⟨a,ha,h⟩:=Qm h;rw[ha];exact hk a ha h
theorem WM{β:Type}{b:Bool}{k k':Option β}{r:β}(h:QK b k=some r)(hk:k=some r→k'=some r):QK b k'=some r:=by
 obtain⟨hb,h⟩:=Qw h;subst hb;exact hk h
variable {P:Program} {G:Env}
theorem uk{R:Operand→Option AV}{c c':YR}(hc:aG c c'){o:Oper}{st:St}{r:AV×St}(h:R6 P R c o st=some r):R6 P R c' o st=some r:=by
 obtain⟨dst,op,ty,pos,af,g⟩:=o
 cases op with
 |call cl=>
  obtain⟨callee,args,tys⟩:=cl
  cases callee with
  |value f=>
   have h:(ob (R f) fun v=>(match v with
    |.fn fid a cap=>ob (Uz R args.toList) fun l=>c fid (ZB a (ZB l cap)) st
    |_=>none))=some r:=h
   show(ob (R f) fun v=>(match v with
    |.fn fid a cap=>ob (Uz R args.toList) fun l=>c' fid (ZB a (ZB l cap)) st
    |_=>none))=some r
   refine Yx h fun v _ h=>?_
   cases v with
   |fn fid a cap=>exact Yx h fun l _ h=>hc _ _ _ _ h
   |_=>cases h
  |invoke f name=>
   have h:(ob (R f) fun v=>(match v with
    |.ifc t u=>ob (Ai P t name) fun fid=>ob (Uz R args.toList) fun l=>c fid (u::l) st
    |_=>none))=some r:=h
   show(ob (R f) fun v=>(match v with
    |.ifc t u=>ob (Ai P t name) fun fid=>ob (Uz R args.toList) fun l=>c' fid (u::l) st
    |_=>none))=some r
   refine Yx h fun v _ h=>?_
   cases v with
   |ifc t u=>exact Yx h fun fid _ h=>Yx h fun l _ h=>hc _ _ _ _ h
   |_=>cases h
  |_=>exact h
 |_=>exact h
theorem LP{c c':YR}(hc:aG c c'){o:Oper}{st:St}{r:AV×St}(h:UM P G c ops o T st=some r):UM P G c' ops o T st=some r:=by
 unfold UM at h ⊢
 cases hw:U4 ops o T with
 |true=>rw[hw]at h;exact uk hc h
 |false=>rw[hw]at h;exact h
theorem AW{β:Type}{d:Option Nat}{v:AV}{k k':Tr AV→Option β}{r:β}(h:Ek N d v T k=some r)(hk: ∀T,k T=some r→k' T=some r):Ek N d v T k'=some r:=by
 cases d with
 |none=>exact hk _ h
 |some t=>
  have h:QK (Nat.ble (t+1) N) (T.put t v k)=some r:=h;show QK (Nat.ble (t+1) N) (T.put t v k')=some r;refine WM h fun h=>?_;rw[Tr.put_eq]at h ⊢;exact hk _ h
theorem Gx{c c':YR}(hc:aG c c'): ∀(l:List Oper) (T:Tr AV) (st:St) (r:Tr AV×St),FT P G c N ops l T st=some r→FT P G c' N ops l T st=some r:=by
 intro l
 induction l with
 |nil=>intro T st r h;exact h
 |cons o l ih=>
  intro T st r h;have h:(ob (UM P G c ops o T st) fun r=>Ek N o.dst r.1 T fun T=>tl (FT P G c N ops l T r.2))=some r:=h;show(ob (UM P G c' ops o T st) fun r=>Ek N o.dst r.1 T fun T=>tl (FT P G c' N ops l T r.2))=some r;obtain⟨a,ha,h⟩:=Qm h;rw[LP hc ha,Ql];exact AW h fun T h=>ih T a.2 r h
theorem Gy{c c':YR}(hc:aG c c'): ∀(l:List (Nat×Oper×Nat)) (T:Tr AV) (st:St) (sn:List St) (r:Tr AV×St),Ae P G c N ops l T st sn=some r→Ae P G c' N ops l T st sn=some r:=by
 intro l
 induction l with
 |nil=>intro T st sn r h;exact h
 |cons q l ih=>
  intro T st sn r h
  have h:(ob (UM P G c ops q.2.1 T st) fun r=>QK (Qj (U4 ops q.2.1 T) (again P G q.2.1 T r.1 q.2.2 (List.rec [] (fun _ t _=>t) sn)) true)
   (Ek N q.2.1.dst r.1 T fun T=>tl (Ae P G c N ops l T r.2 (Qj (Nat.beq (QE P q.2.1.op) 3) (r.2::sn) sn))))=some r:=h
  show(ob (UM P G c' ops q.2.1 T st) fun r=>QK (Qj (U4 ops q.2.1 T) (again P G q.2.1 T r.1 q.2.2 (List.rec [] (fun _ t _=>t) sn)) true)
   (Ek N q.2.1.dst r.1 T fun T=>tl (Ae P G c' N ops l T r.2 (Qj (Nat.beq (QE P q.2.1.op) 3) (r.2::sn) sn))))=some r
  obtain⟨a,ha,h⟩:=Qm h;rw[LP hc ha,Ql];refine WM h fun h=>AW h fun T h=>ih T a.2 _ r h
theorem N7{f f':Tr AV→St→Option (Ex×Tr AV×St)}(hf: ∀T st r,f T st=some r→f' T st=some r): ∀(L L':Nat),L≤L'→ ∀T st r,HU L f T st=some r→HU L' f' T st=some r:=by
 intro L
 induction L with
 |zero=>intro L' _ T st r h;cases h
 |succ L ih=>
  intro L' hL T st r h;obtain⟨M,rfl⟩: ∃M,L'=M+1:=⟨L'-1,by omega⟩;have h:W9 (f T st) (HU L f)=some r:=h;show W9 (f' T st) (HU M f')=some r;rcases H4 h with⟨T1,st1,h1,h2⟩|⟨h1,h2⟩
  ·rw[hf _ _ _ h1];exact ih M Qc _ _ _ h2
  ·rw[hf _ _ _ h1];obtain⟨e,T,st⟩:=r
   cases e with
   |nor=>exact absurd rfl h2
   |exit i=>rfl
   |ret=>rfl
theorem Ss{ts te:TypeId}{cap:AV}{ps:List Tmp}{fa fb fa' fb':Tr AV→St→Option (Ex×Tr AV×St)}(ha: ∀T st r,fa T st=some r→fa' T st=some r)(hb: ∀T st r,fb T st=some r→fb' T st=some r):
  ∀(n:Nat) (st:St) (r:Ex×Tr AV×St),AG P N ts te cap ps fa fb T n st=some r→AG P N ts te cap ps fa' fb' T n st=some r:=by
 intro n
 induction n with
 |zero=>intro st r h;exact h
 |succ n ih=>
  intro st r h
  have h:(ob (Js P ts cap st.h.get) fun s=>ob (Yn P ts s (.int .i64 (Int.ofNat n))) fun q=>ob (Js P te q st.h.get) fun v=>
   Ow N ps (.int .i64 (Int.ofNat n)) v T fun T1=>ob (fa T1 st) fun r=>Ex.rec (ob (fb r.2.1 r.2.2) fun q=>Ex.rec (tl (AG P N ts te cap ps fa fb T n q.2.2)) (fun id=>some (.exit id,T,q.2.2)) (some (.ret,T,q.2.2)) q.1) (fun _=>none) none r.1)=some r:=h
  show(ob (Js P ts cap st.h.get) fun s=>ob (Yn P ts s (.int .i64 (Int.ofNat n))) fun q=>ob (Js P te q st.h.get) fun v=>
   Ow N ps (.int .i64 (Int.ofNat n)) v T fun T1=>ob (fa' T1 st) fun r=>Ex.rec (ob (fb' r.2.1 r.2.2) fun q=>Ex.rec (tl (AG P N ts te cap ps fa' fb' T n q.2.2)) (fun id=>some (.exit id,T,q.2.2)) (some (.ret,T,q.2.2)) q.1) (fun _=>none) none r.1)=some r
  refine Yx h fun s _ h=>Yx h fun q _ h=>Yx h fun v _ h=>?_;unfold Ow at h ⊢
  split at h
  ·refine AW h fun T h=>AW h fun T h=>?_;obtain⟨⟨e1,T2,st2⟩,h1,h⟩:=Qm h;rw[ha _ _ _ h1,Ql]
   cases e1 with
   |exit i=>cases h
   |ret=>cases h
   |nor=>
    obtain⟨⟨e,T3,st3⟩,h2,h⟩:=Qm h;show(ob (fb' T2 st2) _)=_;rw[hb _ _ _ h2,Ql]
    cases e with
    |nor=>exact ih _ _ h
    |exit i=>exact h
    |ret=>exact h
  ·cases h
theorem GX{c c':YR}(hc:aG c c'){L L':Nat}(hL:L≤L'): ∀(k:Code) (T:Tr AV) (st:St) (r:Ex×Tr AV×St),codeF P G c N L k T st=some r→codeF P G c' N L' k T st=some r:=by
 intro k
 induction k with
 |region id ops draw=>
  intro T st r h
  cases draw with
  |true=>
   have h:(ob (Wm P ops.toList) fun pl=>ob (Ae P G c N ops.toList pl T st [st]) fun r=>some (Ex.nor,r))=some r:=h;show(ob (Wm P ops.toList) fun pl=>ob (Ae P G c' N ops.toList pl T st [st]) fun r=>some (Ex.nor,r))=some r;refine Yx h fun pl _ h=>?_;obtain⟨a,ha,h⟩:=Qm h;rw[Gy hc _ _ _ _ _ ha];exact h
  |false=>
   have h:(ob (FT P G c N ops.toList ops.toList T st) fun r=>some (Ex.nor,r))=some r:=h;show(ob (FT P G c' N ops.toList ops.toList T st) fun r=>some (Ex.nor,r))=some r;obtain⟨a,ha,h⟩:=Qm h;rw[Gx hc _ _ _ _ ha];exact h
 |seq x y ihx ihy=>
  intro T st r h;have h:W9 (codeF P G c N L x T st) (codeF P G c N L y)=some r:=h;show W9 (codeF P G c' N L' x T st) (codeF P G c' N L' y)=some r;rcases H4 h with⟨T1,st1,h1,h2⟩|⟨h1,h2⟩
  ·rw[ihx _ _ _ h1];exact ihy _ _ _ h2
  ·rw[ihx _ _ _ h1];obtain⟨e,T,st⟩:=r
   cases e with
   |nor=>exact absurd rfl h2
   |exit i=>rfl
   |ret=>rfl
 |cond g x y ihx ihy=>
  intro T st r h;have h:GV (QG G T g) (tl (codeF P G c N L x T st)) (tl (codeF P G c N L y T st))=some r:=h;show GV (QG G T g) (tl (codeF P G c' N L' x T st)) (tl (codeF P G c' N L' y T st))=some r;refine Yx h fun v _ h=>?_
  cases v with
  |bool b=>
   cases b with
   |true=>exact ihx _ _ _ h
   |false=>exact ihy _ _ _ h
  |_=>cases h
 |block id x ih=>
  intro T st r h;have h:Oq id (codeF P G c N L x T st)=some r:=h;show Oq id (codeF P G c' N L' x T st)=some r;obtain⟨a,ha,h⟩:=Qm h;rw[ih _ _ _ ha];exact h
 |loop x ih=>intro T st r h;exact N7 ih L L' hL T st r h
 |rangeFunc g ps a b iha ihb=>
  intro T st r h;have h:IB P G N g ps.toList (Qj (Xs a) (Xs b) false) (codeF P G c N L a) (codeF P G c N L b) T st=some r:=h;show IB P G N g ps.toList (Qj (Xs a) (Xs b) false) (codeF P G c' N L' a) (codeF P G c' N L' b) T st=some r;unfold IB at h ⊢;refine WM h fun h=>Yx h fun v _ h=>?_
  split at h
  ·refine Yx h fun q _ h=>?_
   split at h
   ·split at h
    ·refine Yx h fun s _ h=>Yx h fun n _ h=>?_
     split at h
     ·exact Yx h fun n _ h=>WM h fun h=>Ss iha ihb _ _ _ h
     ·cases h
    ·cases h
   ·cases h
  ·cases h
 |_=>intro T st r h;exact h
theorem qO: ∀(l:List AV) (i:Nat) (T:Tr AV),(∀t,i≤t→Y3 T t=.tup [])→ ∃T',(∀(β:Type) (k:Tr AV→β),List.rec (motive:=fun _=>Nat→Tr AV→β) (fun(_:Nat) T=>k T) (fun v _ ih i T=>T.put i v (ih (i+1))) l i T=k T')∧
  ∀t,Y3 T' t=if t<i then Y3 T t else(l[t-i]?).getD (.tup []):=by
 intro l
 induction l with
 |nil=>
  intro i T hT;refine⟨T,fun _ _=>rfl,fun t=>?_⟩
  by_cases h:t<i
  ·rw[if_pos h]
  ·rw[if_neg h,hT t Qc];simp
 |cons v l ih=>
  intro i T hT
  obtain⟨T',h1,h2⟩:=ih (i+1) (T.set i v) fun t ht=>by rw[ZT,if_neg Qc];exact hT t Qc
  refine⟨T',fun β k=>?_,fun t=>?_⟩
  ·show T.put i v _=_;rw[Tr.put_eq];exact h1 β k
  ·rw[h2,ZT]
   by_cases h:t<i
   ·rw[if_pos Qc,if_neg Qc,if_pos h]
   ·rw[if_neg h]
    by_cases h3:t=i
    ·subst h3;rw[if_pos Qc,if_pos rfl];simp
    ·rw[if_neg Qc,show t-i=(t-(i+1))+1 by omega];simp
theorem Bd(l:List AV): ∃T,(∀(β:Type) (k:Tr AV→β),KJ l k=k T)∧ ∀t,Y3 T t=(l[t]?).getD (.tup []):=by
 obtain⟨T,h1,h2⟩:=qO l 0 .nil fun t _=>rfl;exact⟨T,h1,fun t=>by rw[h2,if_neg Qc,Nat.sub_zero]⟩
theorem Xv: ∀(n m L L':Nat),n≤m→L≤L'→aG (Ug P G L n) (Ug P G L' m):=by
 intro n
 induction n with
 |zero=>intro m L L' _ _ f args st r h;cases h
 |succ n ih=>
  intro m L L' hnm hL f args st r h;obtain⟨k,rfl⟩: ∃k,m=k+1:=⟨m-1,by omega⟩;have h:(Option.rec (ob (NM P f) fun q=>QK (Nat.ble (Zh args) q.2.1) (KJ args fun T=>NZ (codeF P G (Ug P G L n) q.2.1 L q.1 T st) fun T st=>ob (J8 P q.2.2 T st) fun v=>some (v,st))) (fun sm=>sm args st) (G.s f):Option (AV×St))=some r:=h;show(Option.rec (ob (NM P f) fun q=>QK (Nat.ble (Zh args) q.2.1) (KJ args fun T=>NZ (codeF P G (Ug P G L' k) q.2.1 L' q.1 T st) fun T st=>ob (J8 P q.2.2 T st) fun v=>some (v,st))) (fun sm=>sm args st) (G.s f):Option (AV×St))=some r
  cases hs:G.s f with
  |some sm=>rw[hs]at h;exact h
  |none=>
   rw[hs]at h;refine Yx h fun q _ h=>WM h fun h=>?_;obtain⟨T,h1,_⟩:=Bd args;rw[h1]at h ⊢;obtain⟨⟨e,T2,st2⟩,hc,h⟩:=Qm h;have hc':=GX (ih k L L' Qc hL) hL q.1 T st _ hc;show NZ (codeF P G (Ug P G L' k) q.2.1 L' q.1 T st) _=_;rw[hc'];exact h

end
section
open Go
variable {c:Code} {id:Nat} {st1:St} {v:AV}

def Ev(P:Program)(G:Env)(f:FuncId)(args:List AV)(st:St)(v:AV)(st':St):Prop:= ∃L n,Ug P G L n f args st=some (v,st')
def W(P:Program)(G:Env)(N:Nat)(c:Code)(Q:Ex→Tr AV→St→Prop)(T:Tr AV)(st:St):Prop:= ∃L n x T' st',codeF P G (Ug P G L n) N L c T st=some (x,T',st')∧Q x T' st'
def WR(P:Program)(G:Env)(N:Nat)(ops l:List Oper)(Q:Tr AV→St→Prop)(T:Tr AV)(st:St):Prop:= ∃L n T' st',FT P G (Ug P G L n) N ops l T st=some (T',st')∧Q T' st'
def WD(P:Program)(G:Env)(N:Nat)(ops:List Oper)(l:List (Nat×Oper×Nat))(Q:Tr AV→St→Prop)(T:Tr AV)(st:St)(sn:List St):Prop:= ∃L n T' st',Ae P G (Ug P G L n) N ops l T st sn=some (T',st')∧Q T' st'

def LM(k:Tr AV→St→Prop)(Q:Ex→Tr AV→St→Prop):Ex→Tr AV→St→Prop
 |.nor=>k
 |x=>Q x
def Cy(id:Nat)(Q:Ex→Tr AV→St→Prop):Ex→Tr AV→St→Prop
 |.exit i=>if i=id then Q .nor else Q (.exit i)
 |x=>Q x

variable {P:Program} {G:Env} {N:Nat} {Q:Ex→Tr AV→St→Prop} {T:Tr AV} {st:St}

theorem Vu{L L' n n':Nat}(hL:L≤L')(hn:n≤n'){T:Tr AV}{st:St}{r:Ex×Tr AV×St}(h:codeF P G (Ug P G L n) N L c T st=some r):codeF P G (Ug P G L' n') N L' c T st=some r:=
 GX (Xv n n' L L' hn hL) hL c T st r h
theorem je{Q':Ex→Tr AV→St→Prop}(h:W P G N c Q T st)(hq: ∀x T st,Q x T st→Q' x T st):W P G N c Q' T st:=by
 obtain⟨L,n,x,T',st',h1,h2⟩:=h;exact⟨L,n,x,T',st',h1,hq _ _ _ h2⟩
theorem PS(h:Q .nor T st):W P G N .skip Q T st:=⟨0,0,_,_,_,rfl,h⟩
theorem zS{l:Nat}(h:Q .nor T st):W P G N (.label l) Q T st:=⟨0,0,_,_,_,rfl,h⟩
theorem QM(h:Q (.exit id) T st):W P G N (.exit id) Q T st:=⟨0,0,_,_,_,rfl,h⟩
theorem Jw(h:Q .ret T st):W P G N .ret Q T st:=⟨0,0,_,_,_,rfl,h⟩
theorem Jz{a b:Code}(h:W P G N a (LM (W P G N b Q) Q) T st):W P G N (.seq a b) Q T st:=by
 obtain⟨L,n,x,T1,st1,h1,h2⟩:=h
 cases x with
 |nor=>
  obtain⟨L',n',y,T2,st2,h3,h4⟩:=h2;refine⟨max L L',max n n',y,T2,st2,?_,h4⟩;show W9 (codeF P G _ N _ a T st) (codeF P G _ N _ b)=_;rw[Vu (Nat.le_max_left L L') (Nat.le_max_left n n') h1];exact Vu (Nat.le_max_right L L') (Nat.le_max_right n n') h3
 |exit i=>exact⟨L,n,_,T1,st1,by show W9 (codeF P G _ N _ a T st) (codeF P G _ N _ b)=_;rw[h1];rfl,h2⟩
 |ret=>exact⟨L,n,_,T1,st1,by show W9 (codeF P G _ N _ a T st) (codeF P G _ N _ b)=_;rw[h1];rfl,h2⟩
theorem Qp{g:Operand}{a b:Code}{t:Bool}(hg:QG G T g=some (.bool t))(ha:t=true→W P G N a Q T st)(hb:t=false→W P G N b Q T st):W P G N (.cond g a b) Q T st:=by
 cases t with
 |true=>
  obtain⟨L,n,x,T',st',h1,h2⟩:=ha rfl;exact⟨L,n,x,T',st',by show GV (QG G T g) _ _=_;rw[hg];exact h1,h2⟩
 |false=>
  obtain⟨L,n,x,T',st',h1,h2⟩:=hb rfl;exact⟨L,n,x,T',st',by show GV (QG G T g) _ _=_;rw[hg];exact h1,h2⟩
theorem Bo(h:W P G N c (Cy id Q) T st):W P G N (.block id c) Q T st:=by
 obtain⟨L,n,x,T',st',h1,h2⟩:=h;have e:codeF P G (Ug P G L n) N L (.block id c) T st=Oq id (codeF P G (Ug P G L n) N L c T st):=rfl;rw[h1]at e
 cases x with
 |nor=>exact⟨L,n,_,T',st',e,h2⟩
 |ret=>exact⟨L,n,_,T',st',e,h2⟩
 |exit i=>
  by_cases hi:i=id
  ·subst hi;have h2:(if i=i then Q .nor else Q (.exit i)) T' st':=h2;rw[if_pos rfl]at h2;refine⟨L,n,.nor,T',st',?_,h2⟩;rw[e];show Qj (Nat.beq i i) _ _=_;rw[Nat.beq_refl];rfl
  ·have h2:(if i=id then Q .nor else Q (.exit i)) T' st':=h2;rw[if_neg hi]at h2;refine⟨L,n,.exit i,T',st',?_,h2⟩;rw[e];show Qj (Nat.beq i id) _ _=_
   have:Nat.beq i id=false:=by
    cases hb:Nat.beq i id with
    |false=>rfl
    |true=>exact absurd (Nat.eq_of_beq_eq_true hb) hi
   rw[this];rfl
theorem Je(h:W P G N c (LM (W P G N (.loop c) Q) Q) T st):W P G N (.loop c) Q T st:=by
 obtain⟨L,n,x,T1,st1,h1,h2⟩:=h;have e: ∀L n,codeF P G (Ug P G (L+1) n) N (L+1) (.loop c) T st=W9 (codeF P G (Ug P G (L+1) n) N (L+1) c T st) (HU L (codeF P G (Ug P G (L+1) n) N (L+1) c)):=fun _ _=>rfl
 cases x with
 |nor=>
  obtain⟨L',n',y,T2,st2,h3,h4⟩:=h2;refine⟨max L L'+1,max n n',y,T2,st2,?_,h4⟩;rw[e,Vu (Nat.le_succ_of_le (Nat.le_max_left L L')) (Nat.le_max_left n n') h1];have h3:HU L' (codeF P G (Ug P G L' n') N L' c) T1 st1=some (y,T2,st2):=h3;exact N7 (fun T st r h=>Vu (Nat.le_succ_of_le (Nat.le_max_right L L')) (Nat.le_max_right n n') h) L' (max L L') (Nat.le_max_right _ _) T1 st1 _ h3
 |exit i=>exact⟨L+1,n,_,T1,st1,by rw[e,Vu (Nat.le_succ L) (Nat.le_refl n) h1];rfl,h2⟩
 |ret=>exact⟨L+1,n,_,T1,st1,by rw[e,Vu (Nat.le_succ L) (Nat.le_refl n) h1];rfl,h2⟩
theorem QY(I:Nat→Tr AV→St→Prop)(hstep: ∀n T st,I n T st→W P G N c (LM (fun T' st'=> ∃m,m<n∧I m T' st') Q) T st): ∀n T st,I n T st→W P G N (.loop c) Q T st:=by
 intro n
 induction n using Nat.strongRecOn with
 |_ n ih=>
  intro T st h;refine Je (je (hstep n T st h) fun x T' st' hx=>?_)
  cases x with
  |nor=>
   obtain⟨m,hm,hI⟩:=hx;exact ih m hm T' st' hI
  |exit i=>exact hx
  |ret=>exact hx
theorem W7{ops:Array Oper}(h:WR P G N ops.toList ops.toList (Q .nor) T st):W P G N (.region id ops false) Q T st:=by
 obtain⟨L,n,T',st',h1,h2⟩:=h;refine⟨L,n,.nor,T',st',?_,h2⟩;show(ob (FT P G _ N ops.toList ops.toList T st) fun r=>some (Ex.nor,r))=_;rw[h1];rfl
theorem w8{ops:Array Oper}{pl:List (Nat×Oper×Nat)}(hp:Wm P ops.toList=some pl)(h:WD P G N ops.toList pl (Q .nor) T st [st]):W P G N (.region id ops true) Q T st:=by
 obtain⟨L,n,T',st',h1,h2⟩:=h;refine⟨L,n,.nor,T',st',?_,h2⟩;show(ob (Wm P ops.toList) fun pl=>ob (Ae P G _ N ops.toList pl T st [st]) fun r=>some (Ex.nor,r))=_;rw[hp,Ql,h1];rfl

def QT(K:List (Nat×AV))(T:Tr AV):Prop:= ∀t v,K.lookup t=some v→Y3 T t=v
theorem QT.set{K:List (Nat×AV)}{T:Tr AV}(h:QT K T)(d:Nat)(v:AV):QT ((d,v)::K) (T.set d v):=by
 intro t u hl;rw[ZT]
 by_cases ht:t=d
 ·subst ht;rw[List.lookup_cons,beq_self_eq_true]at hl
  injection hl with hl
  rw[if_pos rfl,hl]
 ·rw[List.lookup_cons,beq_false_of_ne ht]at hl;rw[if_neg ht];exact h t u hl
theorem QT.nil{T:Tr AV}:QT [] T:=fun t v h=>(by cases h)
theorem QT.cons{K:List (Nat×AV)}{T:Tr AV}{d:Nat}(hd:Y3 T d=v)(h:QT K T):QT ((d,v)::K) T:=by
 intro t u hl
 by_cases ht:t=d
 ·subst ht;rw[List.lookup_cons,beq_self_eq_true]at hl
  injection hl with hl
  rw[←hl];exact hd
 ·rw[List.lookup_cons,beq_false_of_ne ht]at hl;exact h t u hl
noncomputable def QV(G:Env)(K:List (Nat×AV))(x:Operand):Option AV:=match x with
 |.tmp t=>K.lookup t
 |.const v=>ofConst v
 |.global g=>QK (G.g g) (some (.ptr g 0 0))
 |.func f=>some (.fn f [] [])
theorem QT.sub{K L:List (Nat×AV)}{T:Tr AV}(h:QT K T)(e:L.map (fun p=>K.lookup p.1)=L.map fun p=>some p.2):QT L T:=by
 induction L with
 |nil=>exact .nil
 |cons p L ih=>
  injection e with e1 e2
  exact .cons (h _ _ e1) (ih e2)
theorem yT{p:Prop} [Decidable p](h:(!decide p)=false):p:=by simpa using h
theorem yF{p:Prop} [Decidable p](h:(!decide p)=true): ¬p:=by simpa using h
theorem QT.QG{K:List (Nat×AV)}{T:Tr AV}(h:QT K T){x:Operand}{v:AV}(hx:QV G K x=some v):QG G T x=some v:=by
 cases x with
 |tmp t=>exact congrArg some (h t v hx)
 |const c=>exact hx
 |global g=>exact hx
 |func f=>exact hx
theorem QT.row{K:List (Nat×AV)}{T:Tr AV}(h:QT K T): ∀(l:List Operand) (vs:List AV),Uz (QV G K) l=some vs→Uz (Proofs.YtiknomepbklibaaGreatDoor.QG G T) l=some vs:=by
 intro l
 induction l with
 |nil=>intro vs hv;exact hv
 |cons x l ih=>
  intro vs hv;rw[JC]at hv ⊢;obtain⟨b,hb,hv⟩:=Qm hv;obtain⟨t,ht,hv⟩:=Qm hv;rw[h.QG hb,Ql,ih t ht,Ql];exact hv
def U3(P:Program)(G:Env)(K:List (Nat×AV))(op:Op)(st:St)(v:AV)(st1:St):Prop:= ∀T,QT K T→ ∀(d:Option Tmp) (ty:TypeId) (pos:String) (af:Array Edge) (g:Option (Nat×Bool)),∃L n,∀L' n',L≤L'→n≤n'→R6 P (QG G T) (Ug P G L' n') ⟨d,op,ty,pos,af,g⟩ st=some (v,st1)
section ops
variable {ops rest:List Oper} {K:List (Nat×AV)} {R:Tr AV→St→Prop}
theorem XM(h:R T st):WR P G N ops [] R T st:=⟨0,0,T,st,rfl,h⟩
theorem Bk{o:Oper}(hw:U4 ops o T=true)(h: ∃L n,∀L' n',L≤L'→n≤n'→R6 P (QG G T) (Ug P G L' n') o st=some (v,st1))(hd: ∀d,o.dst=some d→d<N)
  (hn:WR P G N ops rest R (match o.dst with|some d=>T.set d v|none=>T) st1):WR P G N ops (o::rest) R T st:=by
 obtain⟨L,n,h⟩:=h;obtain⟨L',n',T',st',h1,h2⟩:=hn;refine⟨max L L',max n n',T',st',?_,h2⟩;show(ob (UM P G _ ops o T st) fun r=>Ek N o.dst r.1 T fun T=>tl (FT P G _ N ops rest T r.2))=_
 have e:UM P G (Ug P G (max L L') (max n n')) ops o T st=some (v,st1):=by
  unfold UM;rw[hw,Qz];exact h _ _ (Nat.le_max_left _ _) (Nat.le_max_left _ _)
 rw[e,Ql];have h1':=Gx (Xv n' (max n n') L' (max L L') (Nat.le_max_right _ _) (Nat.le_max_right _ _)) _ _ _ _ h1
 cases hdst:o.dst with
 |none=>rw[hdst]at h1';exact h1'
 |some d=>
  rw[hdst]at h1';show QK (Nat.ble (d+1) N) (T.put d v _)=_;rw[Nat.ble_eq_true_of_le (hd d hdst),Tr.put_eq];exact h1'
theorem EC{d:Nat}{op:Op}{ty:TypeId}{pos:String}{af:Array Edge}(hK:QT K T)(h:U3 P G K op st v st1)(hN:d<N)(hn: ∀T',QT ((d,v)::K) T'→WR P G N ops rest R T' st1):
  WR P G N ops (⟨some d,op,ty,pos,af,none⟩::rest) R T st:=
 Bk rfl (h T hK _ _ _ _ _) (fun e he=>by injection he with he;rw[←he];exact hN) (hn _ (hK.set d v))
theorem SC{op:Op}{ty:TypeId}{pos:String}{af:Array Edge}(hK:QT K T)(h:U3 P G K op st v st1)(hn:WR P G N ops rest R T st1):
  WR P G N ops (⟨none,op,ty,pos,af,none⟩::rest) R T st:=
 Bk rfl (h T hK _ _ _ _ _) (fun e he=>by cases he) hn
end ops
end
section
open Go
variable {a b:Int} {f:FuncId} {k:IntKind} {l:List AV} {st1:St} {t yt:TypeId} {u v:AV} {x y:Operand}

variable {P:Program} {G:Env} {K:List (Nat×AV)} {st:St}
theorem U3.of{op:Op}(h: ∀T,QT K T→ ∀(c:YR) (d:Option Tmp) (ty:TypeId) (pos:String) (af:Array Edge) (g:Option (Nat×Bool)),R6 P (QG G T) c ⟨d,op,ty,pos,af,g⟩ st=some (v,st1)):U3 P G K op st v st1:=
 fun T hT d ty pos af g=>⟨0,0,fun _ _ _ _=>h T hT _ d ty pos af g⟩
theorem Q0(hx:QV G K x=some v):U3 P G K (.move x) st v st:=.of fun T hT c d ty pos af g=>by
 show ret (QG G T x) st=_;rw[hT.QG hx];rfl
theorem JW(hx:QV G K x=some v):U3 P G K (.assign x) st v st:=.of fun T hT c d ty pos af g=>by
 show ret (QG G T x) st=_;rw[hT.QG hx];rfl
theorem xE{a b:Operand}{t:Bool}(hx:QV G K x=some (.bool t))(ha:QV G K a=some u)(hb:QV G K b=some v):U3 P G K (.pick x a b) st (Qj t u v) st:=.of fun T hT c d ty pos af g=>by
 show(ob (QG G T x) fun c=>(match c with
  |.bool t=>ret (Qj t (QG G T a) (QG G T b)) st
  |_=>none))=_
 rw[hT.QG hx,Ql];show ret (Qj t (QG G T a) (QG G T b)) st=_;rw[hT.QG ha,hT.QG hb]
 cases t<;>rfl
theorem UP{op:BinOp}{w:AV}(hx:QV G K x=some u)(hy:QV G K y=some w)(h:b2 P op t u w=some v):U3 P G K (.binOp op t x y yt) st v st:=.of fun T hT c d ty pos af g=>by
 show ret (ob (QG G T x) fun x=>ob (QG G T y) fun y=>b2 P op t x y) st=_;rw[hT.QG hx,hT.QG hy,Ql,Ql,h];rfl
theorem WV(k:IntKind):Gd k k=true:=decide_eq_true rfl
theorem XT{op:BinOp}(h1:op≠ .shl)(h2:op≠ .shr):b2 P op t (.int k a) (.int k b)=fD op k a b:=by
 cases op<;>first
  |exact absurd rfl h1
  |exact absurd rfl h2
  |(show QK (Gd k k) _=_;rw[WV];rfl)
theorem uf(hx:QV G K x=some (.int k a))(hy:QV G K y=some (.int k b)):U3 P G K (.binOp .lss t x y yt) st (.bool (decide (a<b))) st:=
 UP hx hy (by rw[XT Q9 Q9];show some (AV.bool (BX a b))=_;rw[Zb])
theorem wR(hx:QV G K x=some (.int k a))(hy:QV G K y=some (.int k b)):U3 P G K (.binOp .gtr t x y yt) st (.bool (decide (b<a))) st:=
 UP hx hy (by rw[XT Q9 Q9];show some (AV.bool (BX b a))=_;rw[Zb])
theorem Ny(a b:Int):(!decide (a<b))=decide (b≤a):=by
 by_cases h:a<b
 ·rw[decide_eq_true h,decide_eq_false Qc];rfl
 ·rw[decide_eq_false h,decide_eq_true Qc];rfl
theorem wQ(hx:QV G K x=some (.int k a))(hy:QV G K y=some (.int k b)):U3 P G K (.binOp .leq t x y yt) st (.bool (decide (a≤b))) st:=
 UP hx hy (by rw[XT Q9 Q9];show some (AV.bool (!BX b a))=_;rw[Zb,Ny])
theorem wT(hx:QV G K x=some (.int k a))(hy:QV G K y=some (.int k b)):U3 P G K (.binOp .geq t x y yt) st (.bool (decide (b≤a))) st:=
 UP hx hy (by rw[XT Q9 Q9];show some (AV.bool (!BX a b))=_;rw[Zb,Ny])
theorem Yy(a b:Int):Hb a b=decide (a=b):=by rw[Z8];exact Bool.beq_eq_decide_eq a b
theorem uh(hx:QV G K x=some (.int k a))(hy:QV G K y=some (.int k b)):U3 P G K (.binOp .eql t x y yt) st (.bool (decide (a=b))) st:=
 UP hx hy (by rw[XT Q9 Q9];show some (AV.bool (Hb a b))=_;rw[Yy])
theorem R2(hx:QV G K x=some (.int k a))(hy:QV G K y=some (.int k b)):U3 P G K (.binOp .neq t x y yt) st (.bool (!decide (a=b))) st:=
 UP hx hy (by rw[XT Q9 Q9];show some (AV.bool (!Hb a b))=_;rw[Yy])
theorem wrap64{n:Int}(h1: -9223372036854775808≤n)(h2:n≤9223372036854775807):IntKind.i64.wrap n=n:=IntWalk.i64_in n Qc
theorem wU(hx:QV G K x=some (.int .i64 a))(hy:QV G K y=some (.int .i64 b))(h1: -9223372036854775808≤a+b)(h2:a+b≤9223372036854775807):U3 P G K (.binOp .add t x y yt) st (.int .i64 (a+b)) st:=
 UP hx hy (by rw[XT Q9 Q9];show XN (XX .i64 (a+b)) (fun z=>some (AV.int .i64 z))=_;rw[Yw,UJ,wrap64 h1 h2])
theorem ua(hx:QV G K x=some (.int .i64 a))(hy:QV G K y=some (.int .i64 b))(h1: -9223372036854775808≤a-b)(h2:a-b≤9223372036854775807):U3 P G K (.binOp .sub t x y yt) st (.int .i64 (a-b)) st:=
 UP hx hy (by rw[XT Q9 Q9];show XN (XX .i64 (a-b)) (fun z=>some (AV.int .i64 z))=_;rw[Yw,UJ,wrap64 h1 h2])
theorem QU{a b:List Nat}(hx:QV G K x=some (.str a))(hy:QV G K y=some (.str b)):U3 P G K (.binOp .eql t x y yt) st (.bool (decide (a=b))) st:=
 UP hx hy (by show some (AV.bool (GO a b))=_;rw[Xa])
theorem ID{a b:List Nat}(hx:QV G K x=some (.str a))(hy:QV G K y=some (.str b)):U3 P G K (.binOp .neq t x y yt) st (.bool (!decide (a=b))) st:=
 UP hx hy (by show some (AV.bool (!GO a b))=_;rw[Xa])
theorem Nt{b:Bool}(hx:QV G K x=some (.bool b)):U3 P G K (.unOp .not t x) st (.bool (!b)) st:=.of fun T hT c d ty pos af g=>by
 show ret (ob (QG G T x) fun x=>fA .not x) st=_;rw[hT.QG hx];rfl
theorem wO(hx:QV G K x=some v)(hv:(match v with|.ptr _ _ _=>true|.fn _ _ _=>true|_=>false)=true):U3 P G K (.nilCheck x) st v st:=.of fun T hT c d ty pos af g=>by
 show ret (ob (QG G T x) fun v=>(match v with
  |.ptr c m off=>some (.ptr c m off)
  |.fn f a c=>some (.fn f a c)
  |_=>none)) st=_
 rw[hT.QG hx,Ql]
 cases v<;>first|rfl|cases hv
theorem Yg{f c m off o:Nat}(ho:QH P t f=some o)(hx:QV G K x=some (.ptr c m off)):U3 P G K (.fieldAddr t x f) st (.ptr c m (off+o)) st:=.of fun T hT cc d ty pos af g=>by
 show ret (ob (QG G T x) fun x=>E0 P t x f) st=_;rw[hT.QG hx,Ql];show ret (ob (QH P t f) fun o=>UC (off+o) fun z=>some (AV.ptr c m z)) st=_;rw[ho,Ql,Ji];rfl
theorem Af{f:Nat}(hx:QV G K x=some u)(h:IU P t u f=some v):U3 P G K (.field t x f) st v st:=.of fun T hT cc d ty pos af g=>by
 show ret (ob (QG G T x) fun x=>IU P t x f) st=_;rw[hT.QG hx,Ql,h];rfl
theorem R4{i:Nat}(hx:QV G K x=some (.tup l))(h:nth l i=some v):U3 P G K (.extract x i) st v st:=.of fun T hT cc d ty pos af g=>by
 show ret (ob (QG G T x) fun v=>(match v with
  |.tup l=>nth l i
  |_=>none)) st=_
 rw[hT.QG hx,Ql];show ret (nth l i) st=_;rw[h];rfl
theorem Qe{i:Operand}{c m off len z z':Nat}{j:Nat}(he:Ue P t=some z)(hx:QV G K x=some (.sl c m off len z'))(hi:QV G K i=some (.int k (j:Int)))(hj:j<len):
  U3 P G K (.indexAddr t x i) st (.ptr c m (off+j *z)) st:=.of fun T hT cc d ty pos af g=>by
 show ret (ob (QG G T x) fun x=>ob (QG G T i) fun i=>Yn P t x i) st=_;rw[hT.QG hx,hT.QG hi,Ql,Ql];show ret (ob (O7 (j:Int)) fun i=>QK (Nat.ble (i+1) len) (ob (Ue P t) fun z=>UC (off+i *z) fun o=>some (AV.ptr c m o))) st=_;show ret (QK (Nat.ble (j+1) len) (ob (Ue P t) fun z=>UC (off+j *z) fun o=>some (AV.ptr c m o))) st=_;rw[Nat.ble_eq_true_of_le hj,he];show ret (UC (off+j *z) fun o=>some (AV.ptr c m o)) st=_;rw[Ji];rfl
theorem MF{i:Operand}{l:List Nat}{j b:Nat}(ht:P.underlying t=some .string)(hx:QV G K x=some (.str l))(hi:QV G K i=some (.int k (j:Int)))(hj:l[j]? =some b):
  U3 P G K (.index t x i) st (.int .u8 (b:Int)) st:=.of fun T hT cc d ty pos af g=>by
 show ret (ob (QG G T x) fun x=>ob (QG G T i) fun i=>FY P t x i) st=_;rw[hT.QG hx,hT.QG hi,Ql,Ql];unfold FY;simp only[ht];show ret (ob (nth l j) fun b=>some (AV.int .u8 (Int.ofNat b))) st=_;rw[U7,hj];rfl
theorem RL(ht:P.underlying t=some .string):ZY P [t]=false:=by unfold ZY;simp only[ht]
theorem qg{e:TypeId}(ht:P.underlying t=some (.slice e)):ZY P [t]=false:=by unfold ZY;simp only[ht]
theorem xI{tys:Array TypeId}{l:List Nat}(ht:P.underlying t=some .string)(htys:tys= #[t])(hx:QV G K x=some (.str l)):
  U3 P G K (.call {callee:=.builtin .len,args:= #[x],argTypes:=tys}) st (.int .i64 (l.length:Int)) st:=.of fun T hT cc d ty pos af g=>by
 subst htys;show Qj (ZY P [t]) _ (ret (ob (QG G T x) fun x=>NF P [t] x) st)=_;rw[RL ht,Qu,hT.QG hx,Ql];unfold NF;simp only[ht,Ji,Us];rfl
def YE:AV→Option Nat
 |.nils=>some 0
 |.slz _ _ _ _ _=>some 0
 |.sl0 _ _ _=>some 0
 |.sl _ _ _ n _=>some n
 |_=>none
theorem Q5{tys:Array TypeId}{e:TypeId}{n:Nat}(ht:P.underlying t=some (.slice e))(htys:tys= #[t])(hx:QV G K x=some u)(hn:YE u=some n):
  U3 P G K (.call {callee:=.builtin .len,args:= #[x],argTypes:=tys}) st (.int .i64 (n:Int)) st:=.of fun T hT cc d ty pos af g=>by
 subst htys;show Qj (ZY P [t]) _ (ret (ob (QG G T x) fun x=>NF P [t] x) st)=_;rw[qg ht,Qu,hT.QG hx,Ql]
 cases u<;>simp only[YE]at hn<;>first|(cases hn;done)|skip
 all_goals
  injection hn with hn
  subst hn;unfold NF;simp only[ht];rfl
theorem Qg{args:Array Operand}{tys:Array TypeId}(ha:Uz (QV G K) args.toList=some l)(h:Ev P G f l st v st1):
  U3 P G K (.call {callee:=.value (.func f),args:=args,argTypes:=tys}) st v st1:=fun T hT d ty pos af g=>by
 obtain⟨L,n,h⟩:=h;refine⟨L,n,fun L' n' hL hn=>?_⟩
 show(ob (QG G T (.func f)) fun v=>(match v with
  |.fn fid a cap=>ob (Uz (QG G T) args.toList) fun l=>Ug P G L' n' fid (ZB a (ZB l cap)) st
  |_=>none))=_
 show(ob (Uz (QG G T) args.toList) fun l=>Ug P G L' n' f (ZB [] (ZB l [])) st)=_;rw[hT.row _ _ ha,Ql,U6,U6,List.nil_append,List.append_nil];exact Xv n n' L L' hn hL _ _ _ _ h
theorem ZW{g:Operand}{args:Array Operand}{tys:Array TypeId}{a cap:List AV}(hg:QV G K g=some (.fn f a cap))(ha:Uz (QV G K) args.toList=some l)(h:Ev P G f (a++(l++cap)) st v st1):
  U3 P G K (.call {callee:=.value g,args:=args,argTypes:=tys}) st v st1:=fun T hT d ty pos af gg=>by
 obtain⟨L,n,h⟩:=h;refine⟨L,n,fun L' n' hL hn=>?_⟩
 show(ob (QG G T g) fun v=>(match v with
  |.fn fid a cap=>ob (Uz (QG G T) args.toList) fun l=>Ug P G L' n' fid (ZB a (ZB l cap)) st
  |_=>none))=_
 rw[hT.QG hg,Ql];show(ob (Uz (QG G T) args.toList) fun l=>Ug P G L' n' f (ZB a (ZB l cap)) st)=_;rw[hT.row _ _ ha,Ql,U6,U6];exact Xv n n' L L' hn hL _ _ _ _ h
theorem X1{first cap:Array Operand}{a c:List AV}(ha:Uz (QV G K) first.toList=some a)(hc:Uz (QV G K) cap.toList=some c):U3 P G K (.makeFunc (.func f) first cap) st (.fn f a c) st:=.of fun T hT cc d ty pos af g=>by
 show ret (ob (Uz (QG G T) first.toList) fun l=>ob (Uz (QG G T) cap.toList) fun r=>some (AV.fn f l r)) st=_;rw[hT.row _ _ ha,hT.row _ _ hc];rfl
theorem Qf(hx:QV G K x=some u)(h:Js P t u st.h.get=some v):U3 P G K (.load t x) st v st:=.of fun T hT cc d ty pos af g=>by
 show(ob (QG G T x) fun x=>ret (Js P t x st.h.get) st)=_;rw[hT.QG hx,Ql,h];rfl
theorem D1{lo hi:Option Operand}(hx:QV G K x=some u)(h: ∀T,QT K T→Wk P t u (QG G T) lo hi=some v):U3 P G K (.slice t x lo hi none) st v st:=.of fun T hT cc d ty pos af g=>by
 show ret (ob (QG G T x) fun x=>Wk P t x (QG G T) lo hi) st=_;rw[hT.QG hx,Ql,h T hT];rfl
theorem R5{s d:TypeId}(hx:QV G K x=some u)(h:Pp P s d u st.h.get=some v):U3 P G K (.convert s d x) st v st:=.of fun T hT cc dd ty pos af g=>by
 show ret (ob (QG G T x) fun x=>Pp P s d x st.h.get) st=_;rw[hT.QG hx,Ql,h];rfl

theorem wc{fn:Func}{c:Code}{N:Nat}{rs:List ResultVar}{args:List AV}{Q:AV→St→Prop}(hs:G.s f=none)(hf:P.funcs[f]? =some fn)(hb:fn.body=some c)(hN:fn.ntmps=N)(hr:fn.results.toList=rs)(hname:(fn.name== "runtime.NumGoroutine")=false)(hl:args.length≤N)
  (h: ∀T,(∀t,Y3 T t=(args[t]?).getD (.tup []))→W P G N c (fun x T st=>(x=.nor∨x=.ret)∧ ∃v,J8 P rs T st=some v∧Q v st) T st): ∃v st',Ev P G f args st v st'∧Q v st':=by
 obtain⟨T,hT1,hT2⟩:=Bd args;obtain⟨L,n,x,T',st',h1,hx,v,h2,h3⟩:=h T hT2;refine⟨v,st',⟨L,n+1,?_⟩,h3⟩;show(Option.rec (ob (NM P f) fun q=>QK (Nat.ble (Zh args) q.2.1) (KJ args fun T=>NZ (codeF P G (Ug P G L n) q.2.1 L q.1 T st) fun T st=>ob (J8 P q.2.2 T st) fun v=>some (v,st))) (fun sm=>sm args st) (G.s f):Option (AV×St))=some (v,st');rw[hs];show(ob (NM P f) fun q=>QK (Nat.ble (Zh args) q.2.1) (KJ args fun T=>NZ (codeF P G (Ug P G L n) q.2.1 L q.1 T st) fun T st=>ob (J8 P q.2.2 T st) fun v=>some (v,st)))=some (v,st')
 have hfn:NM P f=some (c,N,rs):=by
  unfold NM;rw[hf];simp only[hb,hname,hN,hr];rfl
 rw[hfn,Ql,Us,Nat.ble_eq_true_of_le hl,hT1,QO];show NZ (codeF P G (Ug P G L n) N L c T st) _=_;rw[h1];rcases hx with rfl|rfl
 ·show ob (J8 P rs T' st') _=_;rw[h2];rfl
 ·show ob (J8 P rs T' st') _=_;rw[h2];rfl
end
section
open Go
variable {af:Array Edge} {c k m n off:Nat} {l l':List AV} {pos:String} {t ty:TypeId} {v:AV}

structure Mem(h0:Hp)(n0:Nat)(X:List Nat)(st:St)(M:List (Nat×Nat×List AV)):Prop where
 fresh:Qi st
 le:n0≤st.n
 base: ∀c,n0≤c→h0 c=none
 row: ∀c m l,(c,m,l)∈M→ ∃vs ms,st.h.get c=some (.row false ms)∧ms[m]? =some (l.length,vs,some l)
 lt: ∀c m l,(c,m,l)∈M→c<st.n
 own: ∀c m l,(c,m,l)∈M→n0≤c∨c∈X
 nodup:(M.map Prod.fst).Nodup
 JB: ∀c,c<n0→c∉X→st.h.get c=h0 c
structure Qt(st st':St):Prop where
 fresh:Qi st'
 le:st.n≤st'.n
 JB: ∀c,c<st.n→st'.h.get c=st.h.get c
theorem Qt.trans{a b c:St}(x:Qt a b)(y:Qt b c):Qt a c:=⟨y.fresh,Nat.le_trans x.le y.le,fun k hk=>by rw[y.JB k (Nat.lt_of_lt_of_le hk x.le),x.JB k hk]⟩
theorem Mem.start{st:St}(h:Qi st):Mem st.h.get st.n [] st []:=
 ⟨h,Nat.le_refl _,h,fun c m l h=>(by cases h),fun c m l h=>(by cases h),fun c m l h=>(by cases h),List.nodup_nil,fun _ _ _=>rfl⟩
section
variable {P:Program} {G:Env} {N:Nat} {h0:Hp} {n0:Nat} {X:List Nat} {st:St} {M:List (Nat×Nat×List AV)}
theorem Mem.qt{st0:St}(h:Mem st0.h.get st0.n [] st M):Qt st0 st:=⟨h.fresh,h.le,fun c hc=>h.JB c hc Q7⟩
theorem Mem.less(h:Mem h0 n0 X st M){M':List (Nat×Nat×List AV)}(hs:M'.Sublist M):Mem h0 n0 X st M':=
 ⟨h.fresh,h.le,h.base,fun c m l hm=>h.row c m l (hs.subset hm),fun c m l hm=>h.lt c m l (hs.subset hm),fun c m l hm=>h.own c m l (hs.subset hm),h.nodup.sublist (hs.map _),h.JB⟩
theorem Mem.quiet(h:Mem h0 n0 X st M){st':St}(q:Qt st st'):Mem h0 n0 X st' M:=
 ⟨q.fresh,Nat.le_trans h.le q.le,h.base,fun c m l hm=>by
  obtain⟨vs,ms,h1,h2⟩:=h.row c m l hm
  exact⟨vs,ms,by rw[q.JB c (h.lt c m l hm)];exact h1,h2⟩,fun c m l hm=>Nat.lt_of_lt_of_le (h.lt c m l hm) q.le,h.own,h.nodup,fun c hc hx=>by rw[q.JB c (Nat.lt_of_lt_of_le hc h.le)];exact h.JB c hc hx⟩
theorem Mem.alloc(h:Mem h0 n0 X st M)(l:List AV):Mem h0 n0 X ⟨st.n+1,st.h.set st.n (.row false [(l.length,0,some l)])⟩ ((st.n,0,l)::M):=by
 have hg: ∀c,(st.h.set st.n (.row false [(l.length,0,some l)])).get c=if c=st.n then some (.row false [(l.length,0,some l)])else st.h.get c:=fun c=>Tr.VY _ _ _ _
 refine⟨fun c hc=>?_,Nat.le_succ_of_le h.le,h.base,fun c m l' hm=>?_,fun c m l' hm=>?_,fun c m l' hm=>?_,?_,fun c hc hx=>?_⟩
 ·have hc:st.n+1≤c:=hc;show(st.h.set st.n _).get c=none;rw[hg,if_neg Qc];exact h.fresh c Qc
 ·rcases List.mem_cons.1 hm with e|hm
  ·injection e with e1 e2
   injection e2 with e2 e3
   subst e1 e2 e3;exact⟨0,_,(hg _).trans (if_pos rfl),rfl⟩
  ·obtain⟨vs,ms,h1,h2⟩:=h.row c m l' hm;have:=h.lt c m l' hm;exact⟨vs,ms,by show(st.h.set st.n _).get c=_;rw[hg,if_neg Qc];exact h1,h2⟩
 ·rcases List.mem_cons.1 hm with e|hm
  ·injection e with e1 e2;subst e1;exact Nat.lt_succ_self _
  ·exact Nat.lt_succ_of_lt (h.lt c m l' hm)
 ·rcases List.mem_cons.1 hm with e|hm
  ·injection e with e1 e2;subst e1;exact .inl h.le
  ·exact h.own c m l' hm
 ·rw[List.map_cons];refine List.nodup_cons.2 ⟨fun hm=>?_,h.nodup⟩;obtain⟨⟨c,m,l'⟩,h1,h2⟩:=List.mem_map.1 hm;have:=h.lt c m l' h1;simp only at h2;omega
 ·show(st.h.set st.n _).get c=_;have:=h.le;rw[hg,if_neg Qc];exact h.JB c hc hx
theorem Df{M:List (Nat×Nat×List AV)}(hk:M[k]? =some (c,m,l)):(M.set k (c,m,l')).map Prod.fst=M.map Prod.fst:=by
 apply List.ext_getElem?;intro i;rw[List.getElem?_map,List.getElem?_map,List.getElem?_set]
 by_cases h:k=i
 ·subst h;rw[if_pos rfl,hk];have:=(List.getElem?_eq_some_iff.1 hk).1;simp[this]
 ·rw[if_neg h]
theorem Aj{M:List (Nat×Nat×List AV)}(hk:M[k]? =some (c,m,l))(hn:(M.map Prod.fst).Nodup){x:Nat×Nat×List AV}(hx:x∈M.set k (c,m,l')):
  x=(c,m,l')∨(x∈M∧x.1≠c):=by
 obtain⟨i,hi⟩:=List.getElem?_of_mem hx;rw[List.getElem?_set]at hi
 by_cases h:k=i
 ·subst h;have:=(List.getElem?_eq_some_iff.1 hk).1;simp[this]at hi;exact .inl hi.symm
 ·rw[if_neg h]at hi;refine .inr ⟨List.mem_of_getElem? hi,fun e=>h ?_⟩
  have h1:(M.map Prod.fst)[k]? =some c:=by rw[List.getElem?_map,hk];rfl
  have h2:(M.map Prod.fst)[i]? =some c:=by rw[List.getElem?_map,hi];simp[e]
  exact(List.getElem?_inj (List.getElem?_eq_some_iff.1 h1).1 hn).1 (h1.trans h2.symm)
theorem Mem.store(h:Mem h0 n0 X st M){w:AV}(hk:M[k]? =some (c,m,l))(hz:YM P t=some n)(hn:(Jp w).length=n)(hc:Vr Qs (Jp w)=true)(ho:Zn (Jp w) off l=some l'):
  ∃st1,EV P t (.ptr c m off) w st=some (.tup [],st1)∧Mem h0 n0 X st1 (M.set k (c,m,l'))∧st1.n=st.n:=by
 have hm:=List.mem_of_getElem? hk;obtain⟨vs,ms,h1,h2⟩:=h.row c m l hm;have hlen:l'.length=l.length:=(V4 _ _ _ _ ho).2.1
 have hr:rowOf st.h.get c m=some (l.length,vs,l,false,ms):=by
  unfold rowOf;rw[h1,Ql];show ob (nth ms m) _=_;rw[U7,h2];rfl
 have e: ∃ms',EV P t (.ptr c m off) w st=some (.tup [],⟨st.n,st.h.set c (.row false ms')⟩)∧ms'[m]? =some (l.length,vs,some l'):=by
  unfold EV;simp only[hr,Ql,hz,Us,hn,Nat.beq_refl,QO,hc,ho,Bool.not_false];refine⟨wH (l.length,vs,some l') (Z7 (vs+off) (vs+off+n) ms) m,by rw[Ub,Ub,UK],?_⟩;rw[SM,List.getElem?_set_self];rw[JO];exact(List.getElem?_eq_some_iff.1 h2).1
 obtain⟨ms',e1,e2⟩:=e
 have hg: ∀x,(st.h.set c (.row false ms')).get x=if x=c then some (.row false ms')else st.h.get x:=fun x=>Tr.VY _ _ _ _
 refine⟨_,e1,⟨fun x hx=>?_,h.le,h.base,fun x y z hm'=>?_,fun x y z hm'=>?_,fun x y z hm'=>?_,?_,fun x hx hX=>?_⟩,rfl⟩
 ·show(st.h.set c _).get x=none;have:=h.lt c m l hm;have hx:st.n≤x:=hx;rw[hg,if_neg Qc];exact h.fresh x hx
 ·rcases Aj hk h.nodup hm' with e|⟨h3,h4⟩
  ·injection e with e1 e2
   injection e2 with e2 e3
   subst e1 e2 e3;exact⟨vs,ms',(hg _).trans (if_pos rfl),by rw[hlen];exact e2⟩
  ·obtain⟨vs',ms2,h5,h6⟩:=h.row x y z h3;exact⟨vs',ms2,by show(st.h.set c _).get x=_;rw[hg,if_neg h4];exact h5,h6⟩
 ·rcases Aj hk h.nodup hm' with e|⟨h3,h4⟩
  ·injection e with e1 e2;subst e1;exact h.lt _ m l hm
  ·exact h.lt x y z h3
 ·rcases Aj hk h.nodup hm' with e|⟨h3,h4⟩
  ·injection e with e1 e2;subst e1;exact h.own _ m l hm
  ·exact h.own x y z h3
 ·rw[Df hk];exact h.nodup
 ·show(st.h.set c _).get x=_
  have hxc:x≠c:=fun e=>by
   subst e;rcases h.own x m l hm with h5|h5
   ·omega
   ·exact hX h5
  rw[hg,if_neg hxc];exact h.JB x hx hX
theorem Mem.load(h:Mem h0 n0 X st M)(hk:M[k]? =some (c,m,l))(hp:Vb P t l off=some v):Js P t (.ptr c m off) st.h.get=some v:=by
 obtain⟨vs,ms,h1,h2⟩:=h.row c m l (List.mem_of_getElem? hk);show ob (rowOf st.h.get c m) _=_;unfold rowOf;rw[h1,Ql];show ob (ob (nth ms m) _) _=_;rw[U7,h2];exact hp

variable {ops rest:List Oper} {K:List (Nat×AV)} {R:Tr AV→St→Prop} {T:Tr AV}
theorem LD{d:Nat}(hK:QT K T)(hM:Mem h0 n0 X st M)(hz:zeroOf P t=some l)(hN:d<N)
  (hn: ∀(c:Nat) T' st',QT ((d,.ptr c 0 0)::K) T'→Mem h0 n0 X st' ((c,0,l)::M)→WR P G N ops rest R T' st'):WR P G N ops (⟨some d,.alloc t,ty,pos,af,none⟩::rest) R T st:=by
 refine EC (v:=.ptr st.n 0 0) (st1:=⟨st.n+1,st.h.set st.n (.row false [(l.length,0,some l)])⟩) hK (.of fun T hT c d ty pos af g=>?_) hN fun T' hT'=>hn st.n T' _ hT' (hM.alloc l);show Hm P t st=_;unfold Hm;rw[hz,Ql,Ye]
theorem Ju{d:Nat}{x:Operand}(hK:QT K T)(hM:Mem h0 n0 X st M)(hx:QV G K x=some v)(hc:Vr Qs (Jp v)=true)(hN:d<N)
  (hn: ∀(c:Nat) T' st',QT ((d,.ptr c 0 0)::K) T'→Mem h0 n0 X st' ((c,0,Jp v)::M)→WR P G N ops rest R T' st'):WR P G N ops (⟨some d,.box t x,ty,pos,af,none⟩::rest) R T st:=by
 refine EC (v:=.ptr st.n 0 0) (st1:=⟨st.n+1,st.h.set st.n (.row false [((Jp v).length,0,some (Jp v))])⟩) hK (.of fun T hT c d ty pos af g=>?_) hN fun T' hT'=>hn st.n T' _ hT' (hM.alloc _);show(ob (QG G T x) fun x=>Sn x st)=_;rw[hT.QG hx,Ql];unfold Sn;rw[hc,QO,Ye]
theorem QW{x y:Operand}{w:AV}(hK:QT K T)(hM:Mem h0 n0 X st M)(hx:QV G K x=some (.ptr c m off))(hy:QV G K y=some w)(hk:M[k]? =some (c,m,l))(hz:YM P t=some n)(hn:(Jp w).length=n)
  (hc:Vr Qs (Jp w)=true) (ho:Zn (Jp w) off l=some l') (hr: ∀st',Mem h0 n0 X st' (M.set k (c,m,l'))→WR P G N ops rest R T st'):WR P G N ops (⟨none,.store t x y,ty,pos,af,none⟩::rest) R T st:=by
 obtain⟨st1,h1,h2,_⟩:=hM.store hk hz hn hc ho;refine SC (v:=.tup []) (st1:=st1) hK (.of fun T hT c d ty pos af g=>?_) (hr st1 h2);show(ob (QG G T x) fun x=>ob (QG G T y) fun y=>EV P t x y st)=_;rw[hT.QG hx,hT.QG hy,Ql,Ql,h1]
end
theorem QN{P:Program}{r:List AV}(h:tk P t=.agg n)(hl:EF n (EI off l) (fun r=>some (AV.agg r))=some (.agg r)):Vb P t l off=some (.agg r):=by
 unfold Vb;rw[h];exact hl
theorem Qd{P:Program}(h:tk P t=.one)(hl:nth l off=some v):Vb P t l off=some v:=by
 unfold Vb;rw[h];exact hl
end
section
open Go
variable {af:Array Edge} {d j t:Nat} {op:Op} {pol:Bool} {pos:String} {ty:TypeId}

variable {P:Program} {G:Env} {N:Nat} {st:St} {K:List (Nat×AV)} {T:Tr AV} {ops rest:List Oper} {R:Tr AV→St→Prop}
theorem wu{x:Bool}{st1:St}(hK:QT K T)(h:U3 P G K op st (.bool x) st1)(hN:d<N)(hn: ∀(b:Bool) T',x=b→QT ((d,.bool b)::K) T'→WR P G N ops rest R T' st1):
 WR P G N ops (⟨some d,op,ty,pos,af,none⟩::rest) R T st:=EC hK h hN fun T' hT'=>hn x T' rfl hT'
theorem X7{d:Option Nat}{b:Bool}(hK:QT K T)(ht:Yj ops j=some t)(hb:K.lookup t=some (.bool b)):U4 ops ⟨d,op,ty,pos,af,some (j,pol)⟩ T=(b==pol):=by
 unfold U4;simp only[ht];rw[show Y3 T t=.bool b from hK t _ hb]
 cases b<;>cases pol<;>rfl
theorem vP{v:AV}{st1:St}(hK:QT K T)(ht:Yj ops j=some t)(hb:K.lookup t=some (.bool pol))(h:U3 P G K op st v st1)(hN:d<N)
  (hn: ∀T',QT ((d,v)::K) T'→WR P G N ops rest R T' st1):WR P G N ops (⟨some d,op,ty,pos,af,some (j,pol)⟩::rest) R T st:=
 Bk (by rw[X7 hK ht hb];cases pol<;>rfl) (h T hK _ _ _ _ _) (fun e he=>by injection he with he;rw[←he];exact hN) (hn _ (hK.set d v))
theorem aI{b:Bool}(hK:QT K T)(ht:Yj ops j=some t)(hb:K.lookup t=some (.bool b))(hne:(b==pol)=false)(hN:d<N)
  (hn: ∀T',QT ((d,.tup [])::K) T'→WR P G N ops rest R T' st):WR P G N ops (⟨some d,op,ty,pos,af,some (j,pol)⟩::rest) R T st:=by
 obtain⟨L',n',T',st',h1,h2⟩:=hn _ (hK.set d (.tup []));refine⟨L',n',T',st',?_,h2⟩;show(ob (UM P G _ ops _ T st) fun r=>Ek N (some d) r.1 T fun T=>tl (FT P G _ N ops rest T r.2))=_;unfold UM;rw[X7 hK ht hb,hne,Qu,Ql];show QK (Nat.ble (d+1) N) (T.put d (.tup []) _)=_;rw[Nat.ble_eq_true_of_le hN,Tr.put_eq];exact h1
theorem uc{x y:Operand}{tys:Array TypeId}{a b:Int}{k:IntKind}(hx:QV G K x=some (.int k a))(hy:QV G K y=some (.int k b)):U3 P G K (.call {callee:=.builtin .max,args:= #[x,y],argTypes:=tys}) st (.int k (max a b)) st:=.of fun T hT cc d ty pos af g=>by
 show ret (ob (Uz (QG G T) [x,y]) (aC true)) st=_;rw[JC,hT.QG hx,Ql,JC,hT.QG hy,Ql];show ret (some (AV.int k (Qj (BX a b) b a))) st=_;rw[Zb]
 by_cases h:a<b
 ·rw[decide_eq_true h,Qz,show max a b=b by omega];rfl
 ·rw[decide_eq_false h,Qu,show max a b=a by omega];rfl
theorem ub{x y:Operand}{tys:Array TypeId}{a b:Int}{k:IntKind}(hx:QV G K x=some (.int k a))(hy:QV G K y=some (.int k b)):U3 P G K (.call {callee:=.builtin .min,args:= #[x,y],argTypes:=tys}) st (.int k (min a b)) st:=.of fun T hT cc d ty pos af g=>by
 show ret (ob (Uz (QG G T) [x,y]) (aC false)) st=_;rw[JC,hT.QG hx,Ql,JC,hT.QG hy,Ql];show ret (some (AV.int k (Qj (BX b a) b a))) st=_;rw[Zb]
 by_cases h:b<a
 ·rw[decide_eq_true h,Qz,show min a b=b by omega];rfl
 ·rw[decide_eq_false h,Qu,show min a b=a by omega];rfl
end
section
open Go
variable {j n t:Nat} {pol:Bool}

variable {P:Program} {G:Env} {N:Nat} {st:St} {K:List (Nat×AV)} {T:Tr AV} {ops:List Oper} {rest:List (Nat×Oper×Nat)} {R:Tr AV→St→Prop} {sn:List St}
def Yq(ops:List Oper)(q:Nat×Nat):Nat×Oper×Nat:=(q.1,(ops[q.1]?).getD ⟨none,.move (.tmp 0),0,"",#[],none⟩,q.2)
theorem YY{ops:List Oper}{i:Nat}{o:Oper}(ho:ops[i]? =some o)(r:List (Nat×Nat)):((i,n)::r).map (Yq ops)=(i,o,n)::r.map (Yq ops):=by
 rw[List.map_cons];unfold Yq;rw[ho];rfl
theorem QC{id:Nat}{ops:Array Oper}{Q:Ex→Tr AV→St→Prop}{l:List (Nat×Nat)}(hp:Wm P ops.toList=some (l.map (Yq ops.toList)))
 (h:WD P G N ops.toList (l.map (Yq ops.toList)) (Q .nor) T st [st]):W P G N (.region id ops true) Q T st:=w8 hp h
theorem QF(h:R T st):WD P G N ops (([]:List (Nat×Nat)).map (Yq ops)) R T st sn:=⟨0,0,T,st,rfl,h⟩
theorem Vg{i:Nat}{o:Oper}{v:AV}{st1:St}(hw:U4 ops o T=true)(h: ∃L n,∀L' n',L≤L'→n≤n'→R6 P (QG G T) (Ug P G L' n') o st=some (v,st1))(ha:again P G o T v n sn.tail=true)(hd: ∀d,o.dst=some d→d<N)
  (hn:WD P G N ops rest R (match o.dst with|some d=>T.set d v|none=>T) st1 (Qj (Nat.beq (QE P o.op) 3) (st1::sn) sn)):WD P G N ops ((i,o,n)::rest) R T st sn:=by
 obtain⟨L,m,h⟩:=h;obtain⟨L',m',T',st',h1,h2⟩:=hn;refine⟨max L L',max m m',T',st',?_,h2⟩
 show(ob (UM P G _ ops o T st) fun r=>QK (Qj (U4 ops o T) (again P G o T r.1 n (List.rec [] (fun _ t _=>t) sn)) true)
  (Ek N o.dst r.1 T fun T=>tl (Ae P G _ N ops rest T r.2 (Qj (Nat.beq (QE P o.op) 3) (r.2::sn) sn))))=_
 have e:UM P G (Ug P G (max L L') (max m m')) ops o T st=some (v,st1):=by
  unfold UM;rw[hw,Qz];exact h _ _ (Nat.le_max_left _ _) (Nat.le_max_left _ _)
 rw[e,Ql,hw,Qz,Dt];show QK (again P G o T v n sn.tail) _=_;rw[ha,QO];have h1':=Gy (Xv m' (max m m') L' (max L L') (Nat.le_max_right _ _) (Nat.le_max_right _ _)) _ _ _ _ _ h1
 cases hdst:o.dst with
 |none=>rw[hdst]at h1';exact h1'
 |some d=>
  rw[hdst]at h1';show QK (Nat.ble (d+1) N) (T.put d v _)=_;rw[Nat.ble_eq_true_of_le (hd d hdst),Tr.put_eq];exact h1'
section
variable {r:List (Nat×Nat)} {i d:Nat} {op:Op} {ty:TypeId} {pos:String} {af:Array Edge} {v:AV} {st1:St}
theorem Gm(ho:ops[i]? =some ⟨some d,op,ty,pos,af,none⟩)(hK:QT K T)(h:U3 P G K op st v st1)(hk:Nat.beq (QE P op) 3=false)(hN:d<N)(hn: ∀T',QT ((d,v)::K) T'→WD P G N ops (r.map (Yq ops)) R T' st1 sn):
  WD P G N ops (((i,0)::r).map (Yq ops)) R T st sn:=by
 rw[YY ho]
 exact Vg rfl (h T hK _ _ _ _ _) rfl (fun e he=>by injection he with he;rw[←he];exact hN) (by
  show WD P G N ops (r.map (Yq ops)) R _ st1 (Qj (Nat.beq (QE P op) 3) _ _)
  rw[hk];exact hn _ (hK.set d v))
theorem LH(ho:ops[i]? =some ⟨some d,op,ty,pos,af,none⟩)(hK:QT K T)(h:U3 P G K op st v st1)(hk:Nat.beq (QE P op) 3=true)(hN:d<N)(hn: ∀T',QT ((d,v)::K) T'→WD P G N ops (r.map (Yq ops)) R T' st1 (st1::sn)):
  WD P G N ops (((i,0)::r).map (Yq ops)) R T st sn:=by
 rw[YY ho]
 exact Vg rfl (h T hK _ _ _ _ _) rfl (fun e he=>by injection he with he;rw[←he];exact hN) (by
  show WD P G N ops (r.map (Yq ops)) R _ st1 (Qj (Nat.beq (QE P op) 3) _ _)
  rw[hk];exact hn _ (hK.set d v))
theorem Jt{t:TypeId}{x:Operand}{u:AV}{s0 s1:St}(ho:ops[i]? =some ⟨some d,.load t x,ty,pos,af,none⟩)(hK:QT K T)(hx:QV G K x=some u)(h:Js P t u st.h.get=some v)(h1:Js P t u s1.h.get=some v)(he:Gc v v=true)(hk:Nat.beq (QE P (.load t x)) 3=false)(hN:d<N)
  (hn: ∀T',QT ((d,v)::K) T'→WD P G N ops (r.map (Yq ops)) R T' st (s0::s1::sn)):WD P G N ops (((i,1)::r).map (Yq ops)) R T st (s0::s1::sn):=by
 rw[YY ho]
 exact Vg rfl (Qf hx h T hK _ _ _ _ _) (by
  show Qj (Option.rec false (fun x=>Option.rec false (fun u=>Gc u v) (Js P t x s1.h.get)) (QG G T x)) true false=true;rw[hK.QG hx];show Qj (Option.rec false (fun u=>Gc u v) (Js P t u s1.h.get)) true false=true;rw[h1];show Qj (Gc v v) true false=true
  rw[he];rfl) (fun e he=>by injection he with he;rw[←he];exact hN) (by
  show WD P G N ops (r.map (Yq ops)) R _ st (Qj (Nat.beq (QE P (.load t x)) 3) _ _)
  rw[hk];exact hn _ (hK.set d v))
theorem wv{x:Bool}(ho:ops[i]? =some ⟨some d,op,ty,pos,af,none⟩)(hK:QT K T)(h:U3 P G K op st (.bool x) st1)(hk:Nat.beq (QE P op) 3=false)(hN:d<N)(hn: ∀(b:Bool) T',x=b→QT ((d,.bool b)::K) T'→WD P G N ops (r.map (Yq ops)) R T' st1 sn):
 WD P G N ops (((i,0)::r).map (Yq ops)) R T st sn:=Gm ho hK h hk hN fun T' hT'=>hn x T' rfl hT'
theorem vQ(ho:ops[i]? =some ⟨some d,op,ty,pos,af,some (j,pol)⟩)(hK:QT K T)(ht:Yj ops j=some t)(hb:K.lookup t=some (.bool pol))(h:U3 P G K op st v st1)(hk:Nat.beq (QE P op) 3=false)(hN:d<N)
  (hn: ∀T',QT ((d,v)::K) T'→WD P G N ops (r.map (Yq ops)) R T' st1 sn):WD P G N ops (((i,0)::r).map (Yq ops)) R T st sn:=by
 rw[YY ho]
 exact Vg (by rw[X7 hK ht hb];cases pol<;>rfl) (h T hK _ _ _ _ _) rfl (fun e he=>by injection he with he;rw[←he];exact hN) (by
  show WD P G N ops (r.map (Yq ops)) R _ st1 (Qj (Nat.beq (QE P op) 3) _ _)
  rw[hk];exact hn _ (hK.set d v))
theorem wz(ho:ops[i]? =some ⟨some d,op,ty,pos,af,some (j,pol)⟩)(hK:QT K T)(ht:Yj ops j=some t)(hb:K.lookup t=some (.bool pol))(h:U3 P G K op st v st1)(hk:Nat.beq (QE P op) 3=true)(hN:d<N)
  (hn: ∀T',QT ((d,v)::K) T'→WD P G N ops (r.map (Yq ops)) R T' st1 (st1::sn)):WD P G N ops (((i,0)::r).map (Yq ops)) R T st sn:=by
 rw[YY ho]
 exact Vg (by rw[X7 hK ht hb];cases pol<;>rfl) (h T hK _ _ _ _ _) rfl (fun e he=>by injection he with he;rw[←he];exact hN) (by
  show WD P G N ops (r.map (Yq ops)) R _ st1 (Qj (Nat.beq (QE P op) 3) _ _)
  rw[hk];exact hn _ (hK.set d v))
theorem aJ{b:Bool}(ho:ops[i]? =some ⟨some d,op,ty,pos,af,some (j,pol)⟩)(hK:QT K T)(ht:Yj ops j=some t)(hb:K.lookup t=some (.bool b))(hne:(b==pol)=false)(hN:d<N)
  (hn: ∀T' sn',QT ((d,.tup [])::K) T'→WD P G N ops (r.map (Yq ops)) R T' st sn'):WD P G N ops (((i,n)::r).map (Yq ops)) R T st sn:=by
 rw[YY ho];obtain⟨L',n',T',st',h1,h2⟩:=hn _ (Qj (Nat.beq (QE P op) 3) (st::sn) sn) (hK.set d (.tup []));refine⟨L',n',T',st',?_,h2⟩;show(ob (UM P G _ ops _ T st) fun x=>QK (Qj (U4 ops _ T) _ true) (Ek N (some d) x.1 T fun T=>tl (Ae P G _ N ops (r.map (Yq ops)) T x.2 (Qj (Nat.beq (QE P op) 3) (x.2::sn) sn))))=_;unfold UM;rw[X7 hK ht hb,hne,Qu,Ql,Qu,QO];show QK (Nat.ble (d+1) N) (T.put d (.tup []) _)=_;rw[Nat.ble_eq_true_of_le hN,Tr.put_eq];exact h1
end
end
section
open Go

variable {P:Program} {G:Env} {N:Nat} {st:St} {K:List (Nat×AV)} {T:Tr AV} {ops:List Oper} {r:List (Nat×Nat)} {R:Tr AV→St→Prop} {sn:List St} {h0:Hp} {n0:Nat} {X:List Nat} {M:List (Nat×Nat×List AV)}
theorem W6{i d:Nat}{t ty:TypeId}{pos:String}{af:Array Edge}{l:List AV}(ho:ops[i]? =some ⟨some d,.alloc t,ty,pos,af,none⟩)(hK:QT K T)(hM:Mem h0 n0 X st M)(hz:zeroOf P t=some l)(hN:d<N)
  (hn: ∀(c:Nat) T' st',QT ((d,.ptr c 0 0)::K) T'→Mem h0 n0 X st' ((c,0,l)::M)→WD P G N ops (r.map (Yq ops)) R T' st' sn):WD P G N ops (((i,0)::r).map (Yq ops)) R T st sn:=by
 refine Gm (v:=.ptr st.n 0 0) (st1:=⟨st.n+1,st.h.set st.n (.row false [(l.length,0,some l)])⟩) ho hK (.of fun T hT c d ty pos af g=>?_) rfl hN fun T' hT'=>hn st.n T' _ hT' (hM.alloc l);show Hm P t st=_;unfold Hm;rw[hz,Ql,Ye]
theorem Vx{i:Nat}{t ty:TypeId}{pos:String}{af:Array Edge}{x y:Operand}{w:AV}{k c m off n:Nat}{l l':List AV}(ho:ops[i]? =some ⟨none,.store t x y,ty,pos,af,none⟩)(hK:QT K T)(hM:Mem h0 n0 X st M)(hx:QV G K x=some (.ptr c m off))(hy:QV G K y=some w)
  (hk:M[k]? =some (c,m,l)) (hz:YM P t=some n) (hn:(Jp w).length=n) (hc:Vr Qs (Jp w)=true) (hv:Zn (Jp w) off l=some l')
  (hr: ∀st',Mem h0 n0 X st' (M.set k (c,m,l'))→WD P G N ops (r.map (Yq ops)) R T st' (st'::sn)):WD P G N ops (((i,0)::r).map (Yq ops)) R T st sn:=by
 obtain⟨st1,h1,h2,_⟩:=hM.store hk hz hn hc hv;rw[YY ho]
 have hS:U3 P G K (.store t x y) st (.tup []) st1:=.of fun T hT c d ty pos af g=>by
  show(ob (QG G T x) fun x=>ob (QG G T y) fun y=>EV P t x y st)=_;rw[hT.QG hx,hT.QG hy,Ql,Ql,h1]
 exact Vg rfl (hS T hK _ _ _ _ _) rfl (fun e he=>by cases he) (hr st1 h2)
end
end Go.Proofs.YtiknomepbklibaaGreatDoor
