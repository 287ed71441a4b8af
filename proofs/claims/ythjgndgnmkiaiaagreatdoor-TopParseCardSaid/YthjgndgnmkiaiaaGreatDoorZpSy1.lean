/-
  Several texts in one: XSymA, XSymB, XSymC, XSymD, XSymE, XSymF, XSymG.
-/
import Derived.Test.YthjgndgnmkiaiaaGreatDoorZpEv3
set_option linter.unusedSimpArgs false
set_option linter.unusedVariables false
namespace Go.Proofs.YthjgndgnmkiaiaaGreatDoor
section
open Go
variable {N:Nat} {T:Tr AV} {ops:List Oper}

def kz(c c':Z7):Prop:= ∀f args st r,c f args st=some r→c' f args st=some r
theorem YQ{α β:Type}{x:Option α}{k k':α→Option β}{r:β}(h:ob x k=some r)(hk: ∀a,x=some a→k a=some r→k' a=some r):ob x k'=some r:=by
 obtain⟨a,ha,h⟩:=Qm h;rw[ha];exact hk a ha h
theorem Ez{β:Type}{b:Bool}{k k':Option β}{r:β}(h:QW b k=some r)(hk:k=some r→k'=some r):QW b k'=some r:=by
 obtain⟨hb,h⟩:=Qx h;subst hb;exact hk h
variable {P:Program} {G:Env}
theorem z7{R:Operand→Option AV}{c c':Z7}(hc:kz c c'){o:Oper}{st:St}{r:AV×St}(h:Td P R c o st=some r):Td P R c' o st=some r:=by
 obtain⟨dst,op,ty,pos,af,g⟩:=o
 cases op with
 |call cl=>
  obtain⟨callee,args,tys⟩:=cl
  cases callee with
  |value f=>
   have h:(ob (R f) fun v=>(match v with
    |.fn fid a cap=>ob (Yc R args.toList) fun l=>c fid (X0 a (X0 l cap)) st
    |_=>none))=some r:=h
   show(ob (R f) fun v=>(match v with
    |.fn fid a cap=>ob (Yc R args.toList) fun l=>c' fid (X0 a (X0 l cap)) st
    |_=>none))=some r
   refine YQ h fun v _ h=>?_
   cases v with
   |fn fid a cap=>exact YQ h fun l _ h=>hc _ _ _ _ h
   |_=>cases h
  |invoke f name=>
   have h:(ob (R f) fun v=>(match v with
    |.ifc t u=>ob (PH P t name) fun fid=>ob (Yc R args.toList) fun l=>c fid (u::l) st
    |_=>none))=some r:=h
   show(ob (R f) fun v=>(match v with
    |.ifc t u=>ob (PH P t name) fun fid=>ob (Yc R args.toList) fun l=>c' fid (u::l) st
    |_=>none))=some r
   refine YQ h fun v _ h=>?_
   cases v with
   |ifc t u=>exact YQ h fun fid _ h=>YQ h fun l _ h=>hc _ _ _ _ h
   |_=>cases h
  |_=>exact h
 |_=>exact h
theorem NK{c c':Z7}(hc:kz c c'){o:Oper}{st:St}{r:AV×St}(h:YA P G c ops o T st=some r):YA P G c' ops o T st=some r:=by
 unfold YA at h ⊢
 cases hw:Yg ops o T with
 |true=>rw[hw]at h;exact z7 hc h
 |false=>rw[hw]at h;exact h
theorem F9{β:Type}{d:Option Nat}{v:AV}{k k':Tr AV→Option β}{r:β}(h:Az N d v T k=some r)(hk: ∀T,k T=some r→k' T=some r):Az N d v T k'=some r:=by
 cases d with
 |none=>exact hk _ h
 |some t=>
  have h:QW (Nat.ble (t+1) N) (T.put t v k)=some r:=h;show QW (Nat.ble (t+1) N) (T.put t v k')=some r;refine Ez h fun h=>?_;rw[Tr.put_eq]at h ⊢;exact hk _ h
theorem Bn{c c':Z7}(hc:kz c c'): ∀(l:List Oper) (T:Tr AV) (st:St) (r:Tr AV×St),Hv P G c N ops l T st=some r→Hv P G c' N ops l T st=some r:=by
 intro l
 induction l with
 |nil=>intro T st r h;exact h
 |cons o l ih=>
  intro T st r h;have h:(ob (YA P G c ops o T st) fun r=>Az N o.dst r.1 T fun T=>tl (Hv P G c N ops l T r.2))=some r:=h;show(ob (YA P G c' ops o T st) fun r=>Az N o.dst r.1 T fun T=>tl (Hv P G c' N ops l T r.2))=some r;obtain⟨a,ha,h⟩:=Qm h;rw[NK hc ha,Q6];exact F9 h fun T h=>ih T a.2 r h
theorem Bo{c c':Z7}(hc:kz c c'): ∀(l:List (Nat×Oper×Nat)) (T:Tr AV) (st:St) (sn:List St) (r:Tr AV×St),FU P G c N ops l T st sn=some r→FU P G c' N ops l T st sn=some r:=by
 intro l
 induction l with
 |nil=>intro T st sn r h;exact h
 |cons q l ih=>
  intro T st sn r h
  have h:(ob (YA P G c ops q.2.1 T st) fun r=>QW (Ql (Yg ops q.2.1 T) (again P G q.2.1 T r.1 q.2.2 (List.rec [] (fun _ t _=>t) sn)) true)
   (Az N q.2.1.dst r.1 T fun T=>tl (FU P G c N ops l T r.2 (Ql (Nat.beq (QH P q.2.1.op) 3) (r.2::sn) sn))))=some r:=h
  show(ob (YA P G c' ops q.2.1 T st) fun r=>QW (Ql (Yg ops q.2.1 T) (again P G q.2.1 T r.1 q.2.2 (List.rec [] (fun _ t _=>t) sn)) true)
   (Az N q.2.1.dst r.1 T fun T=>tl (FU P G c' N ops l T r.2 (Ql (Nat.beq (QH P q.2.1.op) 3) (r.2::sn) sn))))=some r
  obtain⟨a,ha,h⟩:=Qm h;rw[NK hc ha,Q6];refine Ez h fun h=>F9 h fun T h=>ih T a.2 _ r h
theorem Oy{f f':Tr AV→St→Option (Ex×Tr AV×St)}(hf: ∀T st r,f T st=some r→f' T st=some r): ∀(L L':Nat),L≤L'→ ∀T st r,IP L f T st=some r→IP L' f' T st=some r:=by
 intro L
 induction L with
 |zero=>intro L' _ T st r h;cases h
 |succ L ih=>
  intro L' hL T st r h;obtain⟨M,rfl⟩: ∃M,L'=M+1:=⟨L'-1,by omega⟩;have h:Ei (f T st) (IP L f)=some r:=h;show Ei (f' T st) (IP M f')=some r;rcases Iw h with⟨T1,st1,h1,h2⟩|⟨h1,h2⟩
  ·rw[hf _ _ _ h1];exact ih M Qk _ _ _ h2
  ·rw[hf _ _ _ h1];obtain⟨e,T,st⟩:=r
   cases e with
   |nor=>exact absurd rfl h2
   |exit i=>rfl
   |ret=>rfl
theorem TP{ts te:TypeId}{cap:AV}{ps:List Tmp}{fa fb fa' fb':Tr AV→St→Option (Ex×Tr AV×St)}(ha: ∀T st r,fa T st=some r→fa' T st=some r)(hb: ∀T st r,fb T st=some r→fb' T st=some r):
  ∀(n:Nat) (st:St) (r:Ex×Tr AV×St),Fv P N ts te cap ps fa fb T n st=some r→Fv P N ts te cap ps fa' fb' T n st=some r:=by
 intro n
 induction n with
 |zero=>intro st r h;exact h
 |succ n ih=>
  intro st r h
  have h:(ob (JB P ts cap st.h.get) fun s=>ob (Zk P ts s (.int .i64 (Int.ofNat n))) fun q=>ob (JB P te q st.h.get) fun v=>
   Gm N ps (.int .i64 (Int.ofNat n)) v T fun T1=>ob (fa T1 st) fun r=>Ex.rec (ob (fb r.2.1 r.2.2) fun q=>Ex.rec (tl (Fv P N ts te cap ps fa fb T n q.2.2)) (fun id=>some (.exit id,T,q.2.2)) (some (.ret,T,q.2.2)) q.1) (fun _=>none) none r.1)=some r:=h
  show(ob (JB P ts cap st.h.get) fun s=>ob (Zk P ts s (.int .i64 (Int.ofNat n))) fun q=>ob (JB P te q st.h.get) fun v=>
   Gm N ps (.int .i64 (Int.ofNat n)) v T fun T1=>ob (fa' T1 st) fun r=>Ex.rec (ob (fb' r.2.1 r.2.2) fun q=>Ex.rec (tl (Fv P N ts te cap ps fa' fb' T n q.2.2)) (fun id=>some (.exit id,T,q.2.2)) (some (.ret,T,q.2.2)) q.1) (fun _=>none) none r.1)=some r
  refine YQ h fun s _ h=>YQ h fun q _ h=>YQ h fun v _ h=>?_;unfold Gm at h ⊢
  split at h
  ·refine F9 h fun T h=>F9 h fun T h=>?_;obtain⟨⟨e1,T2,st2⟩,h1,h⟩:=Qm h;rw[ha _ _ _ h1,Q6]
   cases e1 with
   |exit i=>cases h
   |ret=>cases h
   |nor=>
    obtain⟨⟨e,T3,st3⟩,h2,h⟩:=Qm h;show(ob (fb' T2 st2) _)=_;rw[hb _ _ _ h2,Q6]
    cases e with
    |nor=>exact ih _ _ h
    |exit i=>exact h
    |ret=>exact h
  ·cases h
theorem BV{c c':Z7}(hc:kz c c'){L L':Nat}(hL:L≤L'): ∀(k:Code) (T:Tr AV) (st:St) (r:Ex×Tr AV×St),codeF P G c N L k T st=some r→codeF P G c' N L' k T st=some r:=by
 intro k
 induction k with
 |region id ops draw=>
  intro T st r h
  cases draw with
  |true=>
   have h:(ob (WZ P ops.toList) fun pl=>ob (FU P G c N ops.toList pl T st [st]) fun r=>some (Ex.nor,r))=some r:=h;show(ob (WZ P ops.toList) fun pl=>ob (FU P G c' N ops.toList pl T st [st]) fun r=>some (Ex.nor,r))=some r;refine YQ h fun pl _ h=>?_;obtain⟨a,ha,h⟩:=Qm h;rw[Bo hc _ _ _ _ _ ha];exact h
  |false=>
   have h:(ob (Hv P G c N ops.toList ops.toList T st) fun r=>some (Ex.nor,r))=some r:=h;show(ob (Hv P G c' N ops.toList ops.toList T st) fun r=>some (Ex.nor,r))=some r;obtain⟨a,ha,h⟩:=Qm h;rw[Bn hc _ _ _ _ ha];exact h
 |seq x y ihx ihy=>
  intro T st r h;have h:Ei (codeF P G c N L x T st) (codeF P G c N L y)=some r:=h;show Ei (codeF P G c' N L' x T st) (codeF P G c' N L' y)=some r;rcases Iw h with⟨T1,st1,h1,h2⟩|⟨h1,h2⟩
  ·rw[ihx _ _ _ h1];exact ihy _ _ _ h2
  ·rw[ihx _ _ _ h1];obtain⟨e,T,st⟩:=r
   cases e with
   |nor=>exact absurd rfl h2
   |exit i=>rfl
   |ret=>rfl
 |cond g x y ihx ihy=>
  intro T st r h;have h:BU (Ul G T g) (tl (codeF P G c N L x T st)) (tl (codeF P G c N L y T st))=some r:=h;show BU (Ul G T g) (tl (codeF P G c' N L' x T st)) (tl (codeF P G c' N L' y T st))=some r;refine YQ h fun v _ h=>?_
  cases v with
  |bool b=>
   cases b with
   |true=>exact ihx _ _ _ h
   |false=>exact ihy _ _ _ h
  |_=>cases h
 |block id x ih=>
  intro T st r h;have h:Gk id (codeF P G c N L x T st)=some r:=h;show Gk id (codeF P G c' N L' x T st)=some r;obtain⟨a,ha,h⟩:=Qm h;rw[ih _ _ _ ha];exact h
 |loop x ih=>intro T st r h;exact Oy ih L L' hL T st r h
 |rangeFunc g ps a b iha ihb=>
  intro T st r h;have h:KM P G N g ps.toList (Ql (Vm a) (Vm b) false) (codeF P G c N L a) (codeF P G c N L b) T st=some r:=h;show KM P G N g ps.toList (Ql (Vm a) (Vm b) false) (codeF P G c' N L' a) (codeF P G c' N L' b) T st=some r;unfold KM at h ⊢;refine Ez h fun h=>YQ h fun v _ h=>?_
  split at h
  ·refine YQ h fun q _ h=>?_
   split at h
   ·split at h
    ·refine YQ h fun s _ h=>YQ h fun n _ h=>?_
     split at h
     ·exact YQ h fun n _ h=>Ez h fun h=>TP iha ihb _ _ _ h
     ·cases h
    ·cases h
   ·cases h
  ·cases h
 |_=>intro T st r h;exact h
theorem uw: ∀(l:List AV) (i:Nat) (T:Tr AV),(∀t,i≤t→Zc T t=.tup [])→ ∃T',(∀(β:Type) (k:Tr AV→β),List.rec (motive:=fun _=>Nat→Tr AV→β) (fun(_:Nat) T=>k T) (fun v _ ih i T=>T.put i v (ih (i+1))) l i T=k T')∧
  ∀t,Zc T' t=if t<i then Zc T t else(l[t-i]?).getD (.tup []):=by
 intro l
 induction l with
 |nil=>
  intro i T hT;refine⟨T,fun _ _=>rfl,fun t=>?_⟩
  by_cases h:t<i
  ·rw[if_pos h]
  ·rw[if_neg h,hT t Qk];simp
 |cons v l ih=>
  intro i T hT
  obtain⟨T',h1,h2⟩:=ih (i+1) (T.set i v) fun t ht=>by rw[XH,if_neg Qk];exact hT t Qk
  refine⟨T',fun β k=>?_,fun t=>?_⟩
  ·show T.put i v _=_;rw[Tr.put_eq];exact h1 β k
  ·rw[h2,XH]
   by_cases h:t<i
   ·rw[if_pos Qk,if_neg Qk,if_pos h]
   ·rw[if_neg h]
    by_cases h3:t=i
    ·subst h3;rw[if_pos Qk,if_pos rfl];simp
    ·rw[if_neg Qk,show t-i=(t-(i+1))+1 by omega];simp
theorem Cb(l:List AV): ∃T,(∀(β:Type) (k:Tr AV→β),LR l k=k T)∧ ∀t,Zc T t=(l[t]?).getD (.tup []):=by
 obtain⟨T,h1,h2⟩:=uw l 0 .nil fun t _=>rfl;exact⟨T,h1,fun t=>by rw[h2,if_neg Qk,Nat.sub_zero]⟩
theorem Xz: ∀(n m L L':Nat),n≤m→L≤L'→kz (U9 P G L n) (U9 P G L' m):=by
 intro n
 induction n with
 |zero=>intro m L L' _ _ f args st r h;cases h
 |succ n ih=>
  intro m L L' hnm hL f args st r h;obtain⟨k,rfl⟩: ∃k,m=k+1:=⟨m-1,by omega⟩;have h:(Option.rec (ob (OF P f) fun q=>QW (Nat.ble (ZT args) q.2.1) (LR args fun T=>OY (codeF P G (U9 P G L n) q.2.1 L q.1 T st) fun T st=>ob (JG P q.2.2 T st) fun v=>some (v,st))) (fun sm=>sm args st) (G.s f):Option (AV×St))=some r:=h;show(Option.rec (ob (OF P f) fun q=>QW (Nat.ble (ZT args) q.2.1) (LR args fun T=>OY (codeF P G (U9 P G L' k) q.2.1 L' q.1 T st) fun T st=>ob (JG P q.2.2 T st) fun v=>some (v,st))) (fun sm=>sm args st) (G.s f):Option (AV×St))=some r
  cases hs:G.s f with
  |some sm=>rw[hs]at h;exact h
  |none=>
   rw[hs]at h;refine YQ h fun q _ h=>Ez h fun h=>?_;obtain⟨T,h1,_⟩:=Cb args;rw[h1]at h ⊢;obtain⟨⟨e,T2,st2⟩,hc,h⟩:=Qm h;have hc':=BV (ih k L L' Qk hL) hL q.1 T st _ hc;show OY (codeF P G (U9 P G L' k) q.2.1 L' q.1 T st) _=_;rw[hc'];exact h

end
section
open Go
variable {c:Code} {id:Nat} {st1:St} {v:AV}

def Ev(P:Program)(G:Env)(f:FuncId)(args:List AV)(st:St)(v:AV)(st':St):Prop:= ∃L n,U9 P G L n f args st=some (v,st')
def W(P:Program)(G:Env)(N:Nat)(c:Code)(Q:Ex→Tr AV→St→Prop)(T:Tr AV)(st:St):Prop:= ∃L n x T' st',codeF P G (U9 P G L n) N L c T st=some (x,T',st')∧Q x T' st'
def WR(P:Program)(G:Env)(N:Nat)(ops l:List Oper)(Q:Tr AV→St→Prop)(T:Tr AV)(st:St):Prop:= ∃L n T' st',Hv P G (U9 P G L n) N ops l T st=some (T',st')∧Q T' st'
def WD(P:Program)(G:Env)(N:Nat)(ops:List Oper)(l:List (Nat×Oper×Nat))(Q:Tr AV→St→Prop)(T:Tr AV)(st:St)(sn:List St):Prop:= ∃L n T' st',FU P G (U9 P G L n) N ops l T st sn=some (T',st')∧Q T' st'

def NB(k:Tr AV→St→Prop)(Q:Ex→Tr AV→St→Prop):Ex→Tr AV→St→Prop
 |.nor=>k
 |x=>Q x
def D4(id:Nat)(Q:Ex→Tr AV→St→Prop):Ex→Tr AV→St→Prop
 |.exit i=>if i=id then Q .nor else Q (.exit i)
 |x=>Q x

variable {P:Program} {G:Env} {N:Nat} {Q:Ex→Tr AV→St→Prop} {T:Tr AV} {st:St}

theorem Wd{L L' n n':Nat}(hL:L≤L')(hn:n≤n'){T:Tr AV}{st:St}{r:Ex×Tr AV×St}(h:codeF P G (U9 P G L n) N L c T st=some r):codeF P G (U9 P G L' n') N L' c T st=some r:=
 BV (Xz n n' L L' hn hL) hL c T st r h
theorem uL{Q':Ex→Tr AV→St→Prop}(h:W P G N c Q T st)(hq: ∀x T st,Q x T st→Q' x T st):W P G N c Q' T st:=by
 obtain⟨L,n,x,T',st',h1,h2⟩:=h;exact⟨L,n,x,T',st',h1,hq _ _ _ h2⟩
theorem Zg(h:Q .nor T st):W P G N .skip Q T st:=⟨0,0,_,_,_,rfl,h⟩
theorem vQ{l:Nat}(h:Q .nor T st):W P G N (.label l) Q T st:=⟨0,0,_,_,_,rfl,h⟩
theorem Uz(h:Q (.exit id) T st):W P G N (.exit id) Q T st:=⟨0,0,_,_,_,rfl,h⟩
theorem UR(h:Q .ret T st):W P G N .ret Q T st:=⟨0,0,_,_,_,rfl,h⟩
theorem JK{a b:Code}(h:W P G N a (NB (W P G N b Q) Q) T st):W P G N (.seq a b) Q T st:=by
 obtain⟨L,n,x,T1,st1,h1,h2⟩:=h
 cases x with
 |nor=>
  obtain⟨L',n',y,T2,st2,h3,h4⟩:=h2;refine⟨max L L',max n n',y,T2,st2,?_,h4⟩;show Ei (codeF P G _ N _ a T st) (codeF P G _ N _ b)=_;rw[Wd (Nat.le_max_left L L') (Nat.le_max_left n n') h1];exact Wd (Nat.le_max_right L L') (Nat.le_max_right n n') h3
 |exit i=>exact⟨L,n,_,T1,st1,by show Ei (codeF P G _ N _ a T st) (codeF P G _ N _ b)=_;rw[h1];rfl,h2⟩
 |ret=>exact⟨L,n,_,T1,st1,by show Ei (codeF P G _ N _ a T st) (codeF P G _ N _ b)=_;rw[h1];rfl,h2⟩
theorem Wf{g:Operand}{a b:Code}{t:Bool}(hg:Ul G T g=some (.bool t))(ha:t=true→W P G N a Q T st)(hb:t=false→W P G N b Q T st):W P G N (.cond g a b) Q T st:=by
 cases t with
 |true=>
  obtain⟨L,n,x,T',st',h1,h2⟩:=ha rfl;exact⟨L,n,x,T',st',by show BU (Ul G T g) _ _=_;rw[hg];exact h1,h2⟩
 |false=>
  obtain⟨L,n,x,T',st',h1,h2⟩:=hb rfl;exact⟨L,n,x,T',st',by show BU (Ul G T g) _ _=_;rw[hg];exact h1,h2⟩
theorem F3(h:W P G N c (D4 id Q) T st):W P G N (.block id c) Q T st:=by
 obtain⟨L,n,x,T',st',h1,h2⟩:=h;have e:codeF P G (U9 P G L n) N L (.block id c) T st=Gk id (codeF P G (U9 P G L n) N L c T st):=rfl;rw[h1]at e
 cases x with
 |nor=>exact⟨L,n,_,T',st',e,h2⟩
 |ret=>exact⟨L,n,_,T',st',e,h2⟩
 |exit i=>
  by_cases hi:i=id
  ·subst hi;have h2:(if i=i then Q .nor else Q (.exit i)) T' st':=h2;rw[if_pos rfl]at h2;refine⟨L,n,.nor,T',st',?_,h2⟩;rw[e];show Ql (Nat.beq i i) _ _=_;rw[Nat.beq_refl];rfl
  ·have h2:(if i=id then Q .nor else Q (.exit i)) T' st':=h2;rw[if_neg hi]at h2;refine⟨L,n,.exit i,T',st',?_,h2⟩;rw[e];show Ql (Nat.beq i id) _ _=_
   have:Nat.beq i id=false:=by
    cases hb:Nat.beq i id with
    |false=>rfl
    |true=>exact absurd (Nat.eq_of_beq_eq_true hb) hi
   rw[this];rfl
theorem DK(h:W P G N c (NB (W P G N (.loop c) Q) Q) T st):W P G N (.loop c) Q T st:=by
 obtain⟨L,n,x,T1,st1,h1,h2⟩:=h;have e: ∀L n,codeF P G (U9 P G (L+1) n) N (L+1) (.loop c) T st=Ei (codeF P G (U9 P G (L+1) n) N (L+1) c T st) (IP L (codeF P G (U9 P G (L+1) n) N (L+1) c)):=fun _ _=>rfl
 cases x with
 |nor=>
  obtain⟨L',n',y,T2,st2,h3,h4⟩:=h2;refine⟨max L L'+1,max n n',y,T2,st2,?_,h4⟩;rw[e,Wd (Nat.le_succ_of_le (Nat.le_max_left L L')) (Nat.le_max_left n n') h1];have h3:IP L' (codeF P G (U9 P G L' n') N L' c) T1 st1=some (y,T2,st2):=h3;exact Oy (fun T st r h=>Wd (Nat.le_succ_of_le (Nat.le_max_right L L')) (Nat.le_max_right n n') h) L' (max L L') (Nat.le_max_right _ _) T1 st1 _ h3
 |exit i=>exact⟨L+1,n,_,T1,st1,by rw[e,Wd (Nat.le_succ L) (Nat.le_refl n) h1];rfl,h2⟩
 |ret=>exact⟨L+1,n,_,T1,st1,by rw[e,Wd (Nat.le_succ L) (Nat.le_refl n) h1];rfl,h2⟩
theorem UE(I:Nat→Tr AV→St→Prop)(hstep: ∀n T st,I n T st→W P G N c (NB (fun T' st'=> ∃m,m<n∧I m T' st') Q) T st): ∀n T st,I n T st→W P G N (.loop c) Q T st:=by
 intro n
 induction n using Nat.strongRecOn with
 |_ n ih=>
  intro T st h;refine DK (uL (hstep n T st h) fun x T' st' hx=>?_)
  cases x with
  |nor=>
   obtain⟨m,hm,hI⟩:=hx;exact ih m hm T' st' hI
  |exit i=>exact hx
  |ret=>exact hx
theorem US{ops:Array Oper}(h:WR P G N ops.toList ops.toList (Q .nor) T st):W P G N (.region id ops false) Q T st:=by
 obtain⟨L,n,T',st',h1,h2⟩:=h;refine⟨L,n,.nor,T',st',?_,h2⟩;show(ob (Hv P G _ N ops.toList ops.toList T st) fun r=>some (Ex.nor,r))=_;rw[h1];rfl
theorem fg{ops:Array Oper}{pl:List (Nat×Oper×Nat)}(hp:WZ P ops.toList=some pl)(h:WD P G N ops.toList pl (Q .nor) T st [st]):W P G N (.region id ops true) Q T st:=by
 obtain⟨L,n,T',st',h1,h2⟩:=h;refine⟨L,n,.nor,T',st',?_,h2⟩;show(ob (WZ P ops.toList) fun pl=>ob (FU P G _ N ops.toList pl T st [st]) fun r=>some (Ex.nor,r))=_;rw[hp,Q6,h1];rfl

def Jn(K:List (Nat×AV))(T:Tr AV):Prop:= ∀t v,K.lookup t=some v→Zc T t=v
theorem Jn.set{K:List (Nat×AV)}{T:Tr AV}(h:Jn K T)(d:Nat)(v:AV):Jn ((d,v)::K) (T.set d v):=by
 intro t u hl;rw[XH]
 by_cases ht:t=d
 ·subst ht;rw[List.lookup_cons,beq_self_eq_true]at hl
  injection hl with hl
  rw[if_pos rfl,hl]
 ·rw[List.lookup_cons,beq_false_of_ne ht]at hl;rw[if_neg ht];exact h t u hl
theorem Jn.nil{T:Tr AV}:Jn [] T:=fun t v h=>(by cases h)
theorem Jn.cons{K:List (Nat×AV)}{T:Tr AV}{d:Nat}(hd:Zc T d=v)(h:Jn K T):Jn ((d,v)::K) T:=by
 intro t u hl
 by_cases ht:t=d
 ·subst ht;rw[List.lookup_cons,beq_self_eq_true]at hl
  injection hl with hl
  rw[←hl];exact hd
 ·rw[List.lookup_cons,beq_false_of_ne ht]at hl;exact h t u hl
noncomputable def JM(G:Env)(K:List (Nat×AV))(x:Operand):Option AV:=match x with
 |.tmp t=>K.lookup t
 |.const v=>ofConst v
 |.global g=>QW (G.g g) (some (.ptr g 0 0))
 |.func f=>some (.fn f [] [])
theorem Jn.sub{K L:List (Nat×AV)}{T:Tr AV}(h:Jn K T)(e:L.map (fun p=>K.lookup p.1)=L.map fun p=>some p.2):Jn L T:=by
 induction L with
 |nil=>exact .nil
 |cons p L ih=>
  injection e with e1 e2
  exact .cons (h _ _ e1) (ih e2)
theorem yT{p:Prop} [Decidable p](h:(!decide p)=false):p:=by simpa using h
theorem yF{p:Prop} [Decidable p](h:(!decide p)=true): ¬p:=by simpa using h
theorem Jn.Ul{K:List (Nat×AV)}{T:Tr AV}(h:Jn K T){x:Operand}{v:AV}(hx:JM G K x=some v):Ul G T x=some v:=by
 cases x with
 |tmp t=>exact congrArg some (h t v hx)
 |const c=>exact hx
 |global g=>exact hx
 |func f=>exact hx
theorem Jn.row{K:List (Nat×AV)}{T:Tr AV}(h:Jn K T): ∀(l:List Operand) (vs:List AV),Yc (JM G K) l=some vs→Yc (Proofs.YthjgndgnmkiaiaaGreatDoor.Ul G T) l=some vs:=by
 intro l
 induction l with
 |nil=>intro vs hv;exact hv
 |cons x l ih=>
  intro vs hv;rw[JN]at hv ⊢;obtain⟨b,hb,hv⟩:=Qm hv;obtain⟨t,ht,hv⟩:=Qm hv;rw[h.Ul hb,Q6,ih t ht,Q6];exact hv
def Z6(P:Program)(G:Env)(K:List (Nat×AV))(op:Op)(st:St)(v:AV)(st1:St):Prop:= ∀T,Jn K T→ ∀(d:Option Tmp) (ty:TypeId) (pos:String) (af:Array Edge) (g:Option (Nat×Bool)),∃L n,∀L' n',L≤L'→n≤n'→Td P (Ul G T) (U9 P G L' n') ⟨d,op,ty,pos,af,g⟩ st=some (v,st1)
section ops
variable {ops rest:List Oper} {K:List (Nat×AV)} {R:Tr AV→St→Prop}
theorem Xr(h:R T st):WR P G N ops [] R T st:=⟨0,0,T,st,rfl,h⟩
theorem Ck{o:Oper}(hw:Yg ops o T=true)(h: ∃L n,∀L' n',L≤L'→n≤n'→Td P (Ul G T) (U9 P G L' n') o st=some (v,st1))(hd: ∀d,o.dst=some d→d<N)
  (hn:WR P G N ops rest R (match o.dst with|some d=>T.set d v|none=>T) st1):WR P G N ops (o::rest) R T st:=by
 obtain⟨L,n,h⟩:=h;obtain⟨L',n',T',st',h1,h2⟩:=hn;refine⟨max L L',max n n',T',st',?_,h2⟩;show(ob (YA P G _ ops o T st) fun r=>Az N o.dst r.1 T fun T=>tl (Hv P G _ N ops rest T r.2))=_
 have e:YA P G (U9 P G (max L L') (max n n')) ops o T st=some (v,st1):=by
  unfold YA;rw[hw,QN];exact h _ _ (Nat.le_max_left _ _) (Nat.le_max_left _ _)
 rw[e,Q6];have h1':=Bn (Xz n' (max n n') L' (max L L') (Nat.le_max_right _ _) (Nat.le_max_right _ _)) _ _ _ _ h1
 cases hdst:o.dst with
 |none=>rw[hdst]at h1';exact h1'
 |some d=>
  rw[hdst]at h1';show QW (Nat.ble (d+1) N) (T.put d v _)=_;rw[Nat.ble_eq_true_of_le (hd d hdst),Tr.put_eq];exact h1'
theorem GR{d:Nat}{op:Op}{ty:TypeId}{pos:String}{af:Array Edge}(hK:Jn K T)(h:Z6 P G K op st v st1)(hN:d<N)(hn: ∀T',Jn ((d,v)::K) T'→WR P G N ops rest R T' st1):
  WR P G N ops (⟨some d,op,ty,pos,af,none⟩::rest) R T st:=
 Ck rfl (h T hK _ _ _ _ _) (fun e he=>by injection he with he;rw[←he];exact hN) (hn _ (hK.set d v))
theorem kB{op:Op}{ty:TypeId}{pos:String}{af:Array Edge}(hK:Jn K T)(h:Z6 P G K op st v st1)(hn:WR P G N ops rest R T st1):
  WR P G N ops (⟨none,op,ty,pos,af,none⟩::rest) R T st:=
 Ck rfl (h T hK _ _ _ _ _) (fun e he=>by cases he) hn
end ops
end
section
open Go
variable {a b:Int} {f:FuncId} {k:IntKind} {l:List AV} {st1:St} {t yt:TypeId} {u v:AV} {x y:Operand}

variable {P:Program} {G:Env} {K:List (Nat×AV)} {st:St}
theorem Z6.of{op:Op}(h: ∀T,Jn K T→ ∀(c:Z7) (d:Option Tmp) (ty:TypeId) (pos:String) (af:Array Edge) (g:Option (Nat×Bool)),Td P (Ul G T) c ⟨d,op,ty,pos,af,g⟩ st=some (v,st1)):Z6 P G K op st v st1:=
 fun T hT d ty pos af g=>⟨0,0,fun _ _ _ _=>h T hT _ d ty pos af g⟩
theorem Q7(hx:JM G K x=some v):Z6 P G K (.move x) st v st:=.of fun T hT c d ty pos af g=>by
 show ret (Ul G T x) st=_;rw[hT.Ul hx];rfl
theorem JL(hx:JM G K x=some v):Z6 P G K (.assign x) st v st:=.of fun T hT c d ty pos af g=>by
 show ret (Ul G T x) st=_;rw[hT.Ul hx];rfl
theorem wK{a b:Operand}{t:Bool}(hx:JM G K x=some (.bool t))(ha:JM G K a=some u)(hb:JM G K b=some v):Z6 P G K (.pick x a b) st (Ql t u v) st:=.of fun T hT c d ty pos af g=>by
 show(ob (Ul G T x) fun c=>(match c with
  |.bool t=>ret (Ql t (Ul G T a) (Ul G T b)) st
  |_=>none))=_
 rw[hT.Ul hx,Q6];show ret (Ql t (Ul G T a) (Ul G T b)) st=_;rw[hT.Ul ha,hT.Ul hb]
 cases t<;>rfl
theorem Xu{op:BinOp}{w:AV}(hx:JM G K x=some u)(hy:JM G K y=some w)(h:b2 P op t u w=some v):Z6 P G K (.binOp op t x y yt) st v st:=.of fun T hT c d ty pos af g=>by
 show ret (ob (Ul G T x) fun x=>ob (Ul G T y) fun y=>b2 P op t x y) st=_;rw[hT.Ul hx,hT.Ul hy,Q6,Q6,h];rfl
theorem Ru(k:IntKind):BP k k=true:=decide_eq_true rfl
theorem VK{op:BinOp}(h1:op≠ .shl)(h2:op≠ .shr):b2 P op t (.int k a) (.int k b)=n8 op k a b:=by
 cases op<;>first
  |exact absurd rfl h1
  |exact absurd rfl h2
  |(show QW (BP k k) _=_;rw[Ru];rfl)
theorem Ta(hx:JM G K x=some (.int k a))(hy:JM G K y=some (.int k b)):Z6 P G K (.binOp .lss t x y yt) st (.bool (decide (a<b))) st:=
 Xu hx hy (by rw[VK Qo Qo];show some (AV.bool (Si a b))=_;rw[XP])
theorem fY(hx:JM G K x=some (.int k a))(hy:JM G K y=some (.int k b)):Z6 P G K (.binOp .gtr t x y yt) st (.bool (decide (b<a))) st:=
 Xu hx hy (by rw[VK Qo Qo];show some (AV.bool (Si b a))=_;rw[XP])
theorem Om(a b:Int):(!decide (a<b))=decide (b≤a):=by
 by_cases h:a<b
 ·rw[decide_eq_true h,decide_eq_false Qk];rfl
 ·rw[decide_eq_false h,decide_eq_true Qk];rfl
theorem fX(hx:JM G K x=some (.int k a))(hy:JM G K y=some (.int k b)):Z6 P G K (.binOp .leq t x y yt) st (.bool (decide (a≤b))) st:=
 Xu hx hy (by rw[VK Qo Qo];show some (AV.bool (!Si b a))=_;rw[XP,Om])
theorem CL(hx:JM G K x=some (.int k a))(hy:JM G K y=some (.int k b)):Z6 P G K (.binOp .geq t x y yt) st (.bool (decide (b≤a))) st:=
 Xu hx hy (by rw[VK Qo Qo];show some (AV.bool (!Si a b))=_;rw[XP,Om])
theorem Dk(a b:Int):OR a b=decide (a=b):=by rw[Z1];exact Bool.beq_eq_decide_eq a b
theorem fZ(hx:JM G K x=some (.int k a))(hy:JM G K y=some (.int k b)):Z6 P G K (.binOp .eql t x y yt) st (.bool (decide (a=b))) st:=
 Xu hx hy (by rw[VK Qo Qo];show some (AV.bool (OR a b))=_;rw[Dk])
theorem fV(hx:JM G K x=some (.int k a))(hy:JM G K y=some (.int k b)):Z6 P G K (.binOp .neq t x y yt) st (.bool (!decide (a=b))) st:=
 Xu hx hy (by rw[VK Qo Qo];show some (AV.bool (!OR a b))=_;rw[Dk])
theorem wrap64{n:Int}(h1: -9223372036854775808≤n)(h2:n≤9223372036854775807):IntKind.i64.wrap n=n:=IntWalk.i64_in n Qk
theorem ia(hx:JM G K x=some (.int .i64 a))(hy:JM G K y=some (.int .i64 b))(h1: -9223372036854775808≤a+b)(h2:a+b≤9223372036854775807):Z6 P G K (.binOp .add t x y yt) st (.int .i64 (a+b)) st:=
 Xu hx hy (by rw[VK Qo Qo];show WE (VM .i64 (a+b)) (fun z=>some (AV.int .i64 z))=_;rw[ZR,Yw,wrap64 h1 h2])
theorem fT(hx:JM G K x=some (.int .i64 a))(hy:JM G K y=some (.int .i64 b))(h1: -9223372036854775808≤a-b)(h2:a-b≤9223372036854775807):Z6 P G K (.binOp .sub t x y yt) st (.int .i64 (a-b)) st:=
 Xu hx hy (by rw[VK Qo Qo];show WE (VM .i64 (a-b)) (fun z=>some (AV.int .i64 z))=_;rw[ZR,Yw,wrap64 h1 h2])
theorem Jw{a b:List Nat}(hx:JM G K x=some (.str a))(hy:JM G K y=some (.str b)):Z6 P G K (.binOp .eql t x y yt) st (.bool (decide (a=b))) st:=
 Xu hx hy (by show some (AV.bool (Rr a b))=_;rw[VJ])
theorem Ol{a b:List Nat}(hx:JM G K x=some (.str a))(hy:JM G K y=some (.str b)):Z6 P G K (.binOp .neq t x y yt) st (.bool (!decide (a=b))) st:=
 Xu hx hy (by show some (AV.bool (!Rr a b))=_;rw[VJ])
theorem Jt{a b:List Nat}(hx:JM G K x=some (.str a))(hy:JM G K y=some (.str b))(hl:a.length+b.length≤9223372036854775807):Z6 P G K (.binOp .add t x y yt) st (.str (a++b)) st:=
 Xu hx hy (by
  show Ql (Nat.ble (ZT a+ZT b) VU) (Vc (X0 a b) fun l=>some (AV.str l)) none=_
  rw[Ur,Ur,Nat.ble_eq_true_of_le (show a.length+b.length≤VU from hl),QN,UW,YS])
theorem zt{b:Bool}(hx:JM G K x=some (.bool b)):Z6 P G K (.unOp .not t x) st (.bool (!b)) st:=.of fun T hT c d ty pos af g=>by
 show ret (ob (Ul G T x) fun x=>nj .not x) st=_;rw[hT.Ul hx];rfl
theorem fU(hx:JM G K x=some v)(hv:(match v with|.ptr _ _ _=>true|.fn _ _ _=>true|_=>false)=true):Z6 P G K (.nilCheck x) st v st:=.of fun T hT c d ty pos af g=>by
 show ret (ob (Ul G T x) fun v=>(match v with
  |.ptr c m off=>some (.ptr c m off)
  |.fn f a c=>some (.fn f a c)
  |_=>none)) st=_
 rw[hT.Ul hx,Q6]
 cases v<;>first|rfl|cases hv
theorem IJ{f c m off o:Nat}(ho:Jm P t f=some o)(hx:JM G K x=some (.ptr c m off)):Z6 P G K (.fieldAddr t x f) st (.ptr c m (off+o)) st:=.of fun T hT cc d ty pos af g=>by
 show ret (ob (Ul G T x) fun x=>Am P t x f) st=_;rw[hT.Ul hx,Q6];show ret (ob (Jm P t f) fun o=>Y9 (off+o) fun z=>some (AV.ptr c m z)) st=_;rw[ho,Q6,J6];rfl
theorem UX{f:Nat}(hx:JM G K x=some u)(h:Fk P t u f=some v):Z6 P G K (.field t x f) st v st:=.of fun T hT cc d ty pos af g=>by
 show ret (ob (Ul G T x) fun x=>Fk P t x f) st=_;rw[hT.Ul hx,Q6,h];rfl
theorem Tb{i:Nat}(hx:JM G K x=some (.tup l))(h:nth l i=some v):Z6 P G K (.extract x i) st v st:=.of fun T hT cc d ty pos af g=>by
 show ret (ob (Ul G T x) fun v=>(match v with
  |.tup l=>nth l i
  |_=>none)) st=_
 rw[hT.Ul hx,Q6];show ret (nth l i) st=_;rw[h];rfl
theorem Qp{i:Operand}{c m off len z z':Nat}{j:Nat}(he:Y5 P t=some z)(hx:JM G K x=some (.sl c m off len z'))(hi:JM G K i=some (.int k (j:Int)))(hj:j<len):
  Z6 P G K (.indexAddr t x i) st (.ptr c m (off+j *z)) st:=.of fun T hT cc d ty pos af g=>by
 show ret (ob (Ul G T x) fun x=>ob (Ul G T i) fun i=>Zk P t x i) st=_;rw[hT.Ul hx,hT.Ul hi,Q6,Q6];show ret (ob (GV (j:Int)) fun i=>QW (Nat.ble (i+1) len) (ob (Y5 P t) fun z=>Y9 (off+i *z) fun o=>some (AV.ptr c m o))) st=_;show ret (QW (Nat.ble (j+1) len) (ob (Y5 P t) fun z=>Y9 (off+j *z) fun o=>some (AV.ptr c m o))) st=_;rw[Nat.ble_eq_true_of_le hj,he];show ret (Y9 (off+j *z) fun o=>some (AV.ptr c m o)) st=_;rw[J6];rfl
theorem jw{i:Operand}{l:List Nat}{j b:Nat}(ht:P.underlying t=some .string)(hx:JM G K x=some (.str l))(hi:JM G K i=some (.int k (j:Int)))(hj:l[j]? =some b):
  Z6 P G K (.index t x i) st (.int .u8 (b:Int)) st:=.of fun T hT cc d ty pos af g=>by
 show ret (ob (Ul G T x) fun x=>ob (Ul G T i) fun i=>O6 P t x i) st=_;rw[hT.Ul hx,hT.Ul hi,Q6,Q6];unfold O6;simp only[ht];show ret (ob (nth l j) fun b=>some (AV.int .u8 (Int.ofNat b))) st=_;rw[Yo,hj];rfl
theorem Tt(ht:P.underlying t=some .string):Wr P [t]=false:=by unfold Wr;simp only[ht]
theorem jN{e:TypeId}(ht:P.underlying t=some (.slice e)):Wr P [t]=false:=by unfold Wr;simp only[ht]
theorem Ad{tys:Array TypeId}{l:List Nat}(ht:P.underlying t=some .string)(htys:tys= #[t])(hx:JM G K x=some (.str l)):
  Z6 P G K (.call {callee:=.builtin .len,args:= #[x],argTypes:=tys}) st (.int .i64 (l.length:Int)) st:=.of fun T hT cc d ty pos af g=>by
 subst htys;show Ql (Wr P [t]) _ (ret (ob (Ul G T x) fun x=>O1 P [t] x) st)=_;rw[Tt ht,QL,hT.Ul hx,Q6];unfold O1;simp only[ht,J6,Ur];rfl
def VN:AV→Option Nat
 |.nils=>some 0
 |.slz _ _ _ _ _=>some 0
 |.sl0 _ _ _=>some 0
 |.sl _ _ _ n _=>some n
 |_=>none
theorem Jp{tys:Array TypeId}{e:TypeId}{n:Nat}(ht:P.underlying t=some (.slice e))(htys:tys= #[t])(hx:JM G K x=some u)(hn:VN u=some n):
  Z6 P G K (.call {callee:=.builtin .len,args:= #[x],argTypes:=tys}) st (.int .i64 (n:Int)) st:=.of fun T hT cc d ty pos af g=>by
 subst htys;show Ql (Wr P [t]) _ (ret (ob (Ul G T x) fun x=>O1 P [t] x) st)=_;rw[jN ht,QL,hT.Ul hx,Q6]
 cases u<;>simp only[VN]at hn<;>first|(cases hn;done)|skip
 all_goals
  injection hn with hn
  subst hn;unfold O1;simp only[ht];rfl
theorem Qh{args:Array Operand}{tys:Array TypeId}(ha:Yc (JM G K) args.toList=some l)(h:Ev P G f l st v st1):
  Z6 P G K (.call {callee:=.value (.func f),args:=args,argTypes:=tys}) st v st1:=fun T hT d ty pos af g=>by
 obtain⟨L,n,h⟩:=h;refine⟨L,n,fun L' n' hL hn=>?_⟩
 show(ob (Ul G T (.func f)) fun v=>(match v with
  |.fn fid a cap=>ob (Yc (Ul G T) args.toList) fun l=>U9 P G L' n' fid (X0 a (X0 l cap)) st
  |_=>none))=_
 show(ob (Yc (Ul G T) args.toList) fun l=>U9 P G L' n' f (X0 [] (X0 l [])) st)=_;rw[hT.row _ _ ha,Q6,YS,YS,List.nil_append,List.append_nil];exact Xz n n' L L' hn hL _ _ _ _ h
theorem AT{g:Operand}{args:Array Operand}{tys:Array TypeId}{a cap:List AV}(hg:JM G K g=some (.fn f a cap))(ha:Yc (JM G K) args.toList=some l)(h:Ev P G f (a++(l++cap)) st v st1):
  Z6 P G K (.call {callee:=.value g,args:=args,argTypes:=tys}) st v st1:=fun T hT d ty pos af gg=>by
 obtain⟨L,n,h⟩:=h;refine⟨L,n,fun L' n' hL hn=>?_⟩
 show(ob (Ul G T g) fun v=>(match v with
  |.fn fid a cap=>ob (Yc (Ul G T) args.toList) fun l=>U9 P G L' n' fid (X0 a (X0 l cap)) st
  |_=>none))=_
 rw[hT.Ul hg,Q6];show(ob (Yc (Ul G T) args.toList) fun l=>U9 P G L' n' f (X0 a (X0 l cap)) st)=_;rw[hT.row _ _ ha,Q6,YS,YS];exact Xz n n' L L' hn hL _ _ _ _ h
theorem Nn{first cap:Array Operand}{a c:List AV}(ha:Yc (JM G K) first.toList=some a)(hc:Yc (JM G K) cap.toList=some c):Z6 P G K (.makeFunc (.func f) first cap) st (.fn f a c) st:=.of fun T hT cc d ty pos af g=>by
 show ret (ob (Yc (Ul G T) first.toList) fun l=>ob (Yc (Ul G T) cap.toList) fun r=>some (AV.fn f l r)) st=_;rw[hT.row _ _ ha,hT.row _ _ hc];rfl
theorem QK(hx:JM G K x=some u)(h:JB P t u st.h.get=some v):Z6 P G K (.load t x) st v st:=.of fun T hT cc d ty pos af g=>by
 show(ob (Ul G T x) fun x=>ret (JB P t x st.h.get) st)=_;rw[hT.Ul hx,Q6,h];rfl
theorem zr{lo hi:Option Operand}(hx:JM G K x=some u)(h: ∀T,Jn K T→EU P t u (Ul G T) lo hi=some v):Z6 P G K (.slice t x lo hi none) st v st:=.of fun T hT cc d ty pos af g=>by
 show ret (ob (Ul G T x) fun x=>EU P t x (Ul G T) lo hi) st=_;rw[hT.Ul hx,Q6,h T hT];rfl
theorem Tc{s d:TypeId}(hx:JM G K x=some u)(h:RA P s d u st.h.get=some v):Z6 P G K (.convert s d x) st v st:=.of fun T hT cc dd ty pos af g=>by
 show ret (ob (Ul G T x) fun x=>RA P s d x st.h.get) st=_;rw[hT.Ul hx,Q6,h];rfl

theorem aN{fn:Func}{c:Code}{N:Nat}{rs:List ResultVar}{args:List AV}{Q:AV→St→Prop}(hs:G.s f=none)(hf:P.funcs[f]? =some fn)(hb:fn.body=some c)(hN:fn.ntmps=N)(hr:fn.results.toList=rs)(hname:(fn.name== "runtime.NumGoroutine")=false)(hl:args.length≤N)
  (h: ∀T,(∀t,Zc T t=(args[t]?).getD (.tup []))→W P G N c (fun x T st=>(x=.nor∨x=.ret)∧ ∃v,JG P rs T st=some v∧Q v st) T st): ∃v st',Ev P G f args st v st'∧Q v st':=by
 obtain⟨T,hT1,hT2⟩:=Cb args;obtain⟨L,n,x,T',st',h1,hx,v,h2,h3⟩:=h T hT2;refine⟨v,st',⟨L,n+1,?_⟩,h3⟩;show(Option.rec (ob (OF P f) fun q=>QW (Nat.ble (ZT args) q.2.1) (LR args fun T=>OY (codeF P G (U9 P G L n) q.2.1 L q.1 T st) fun T st=>ob (JG P q.2.2 T st) fun v=>some (v,st))) (fun sm=>sm args st) (G.s f):Option (AV×St))=some (v,st');rw[hs];show(ob (OF P f) fun q=>QW (Nat.ble (ZT args) q.2.1) (LR args fun T=>OY (codeF P G (U9 P G L n) q.2.1 L q.1 T st) fun T st=>ob (JG P q.2.2 T st) fun v=>some (v,st)))=some (v,st')
 have hfn:OF P f=some (c,N,rs):=by
  unfold OF;rw[hf];simp only[hb,hname,hN,hr];rfl
 rw[hfn,Q6,Ur,Nat.ble_eq_true_of_le hl,hT1,Ut];show OY (codeF P G (U9 P G L n) N L c T st) _=_;rw[h1];rcases hx with rfl|rfl
 ·show ob (JG P rs T' st') _=_;rw[h2];rfl
 ·show ob (JG P rs T' st') _=_;rw[h2];rfl
end
section
open Go
variable {af:Array Edge} {c k m n off:Nat} {l l':List AV} {pos:String} {t ty:TypeId} {v:AV}

structure Mem(h0:Hp)(n0:Nat)(X:List Nat)(st:St)(M:List (Nat×Nat×List AV)):Prop where
 fresh:Q3 st
 le:n0≤st.n
 base: ∀c,n0≤c→h0 c=none
 row: ∀c m l,(c,m,l)∈M→ ∃vs ms,st.h.get c=some (.row false ms)∧ms[m]? =some (l.length,vs,some l)
 lt: ∀c m l,(c,m,l)∈M→c<st.n
 own: ∀c m l,(c,m,l)∈M→n0≤c∨c∈X
 nodup:(M.map Prod.fst).Nodup
 old: ∀c,c<n0→c∉X→st.h.get c=h0 c
structure Qt(st st':St):Prop where
 fresh:Q3 st'
 le:st.n≤st'.n
 old: ∀c,c<st.n→st'.h.get c=st.h.get c
theorem Qt.refl{st:St}(h:Q3 st):Qt st st:=⟨h,Nat.le_refl _,fun _ _=>rfl⟩
theorem Mem.start{st:St}(h:Q3 st):Mem st.h.get st.n [] st []:=
 ⟨h,Nat.le_refl _,h,fun c m l h=>(by cases h),fun c m l h=>(by cases h),fun c m l h=>(by cases h),List.nodup_nil,fun _ _ _=>rfl⟩
section
variable {P:Program} {G:Env} {N:Nat} {h0:Hp} {n0:Nat} {X:List Nat} {st:St} {M:List (Nat×Nat×List AV)}
theorem Mem.qt{st0:St}(h:Mem st0.h.get st0.n [] st M):Qt st0 st:=⟨h.fresh,h.le,fun c hc=>h.old c hc Q1⟩
theorem Mem.less(h:Mem h0 n0 X st M){M':List (Nat×Nat×List AV)}(hs:M'.Sublist M):Mem h0 n0 X st M':=
 ⟨h.fresh,h.le,h.base,fun c m l hm=>h.row c m l (hs.subset hm),fun c m l hm=>h.lt c m l (hs.subset hm),fun c m l hm=>h.own c m l (hs.subset hm),h.nodup.sublist (hs.map _),h.old⟩
theorem Mem.quiet(h:Mem h0 n0 X st M){st':St}(q:Qt st st'):Mem h0 n0 X st' M:=
 ⟨q.fresh,Nat.le_trans h.le q.le,h.base,fun c m l hm=>by
  obtain⟨vs,ms,h1,h2⟩:=h.row c m l hm
  exact⟨vs,ms,by rw[q.old c (h.lt c m l hm)];exact h1,h2⟩,fun c m l hm=>Nat.lt_of_lt_of_le (h.lt c m l hm) q.le,h.own,h.nodup,fun c hc hx=>by rw[q.old c (Nat.lt_of_lt_of_le hc h.le)];exact h.old c hc hx⟩
theorem Mem.alloc(h:Mem h0 n0 X st M)(l:List AV):Mem h0 n0 X ⟨st.n+1,st.h.set st.n (.row false [(l.length,0,some l)])⟩ ((st.n,0,l)::M):=by
 have hg: ∀c,(st.h.set st.n (.row false [(l.length,0,some l)])).get c=if c=st.n then some (.row false [(l.length,0,some l)])else st.h.get c:=fun c=>Tr.VV _ _ _ _
 refine⟨fun c hc=>?_,Nat.le_succ_of_le h.le,h.base,fun c m l' hm=>?_,fun c m l' hm=>?_,fun c m l' hm=>?_,?_,fun c hc hx=>?_⟩
 ·have hc:st.n+1≤c:=hc;show(st.h.set st.n _).get c=none;rw[hg,if_neg Qk];exact h.fresh c Qk
 ·rcases List.mem_cons.1 hm with e|hm
  ·injection e with e1 e2
   injection e2 with e2 e3
   subst e1 e2 e3;exact⟨0,_,(hg _).trans (if_pos rfl),rfl⟩
  ·obtain⟨vs,ms,h1,h2⟩:=h.row c m l' hm;have:=h.lt c m l' hm;exact⟨vs,ms,by show(st.h.set st.n _).get c=_;rw[hg,if_neg Qk];exact h1,h2⟩
 ·rcases List.mem_cons.1 hm with e|hm
  ·injection e with e1 e2;subst e1;exact Nat.lt_succ_self _
  ·exact Nat.lt_succ_of_lt (h.lt c m l' hm)
 ·rcases List.mem_cons.1 hm with e|hm
  ·injection e with e1 e2;subst e1;exact .inl h.le
  ·exact h.own c m l' hm
 ·rw[List.map_cons];refine List.nodup_cons.2 ⟨fun hm=>?_,h.nodup⟩;obtain⟨⟨c,m,l'⟩,h1,h2⟩:=List.mem_map.1 hm;have:=h.lt c m l' h1;simp only at h2;omega
 ·show(st.h.set st.n _).get c=_;have:=h.le;rw[hg,if_neg Qk];exact h.old c hc hx
theorem Pj{M:List (Nat×Nat×List AV)}(hk:M[k]? =some (c,m,l)):(M.set k (c,m,l')).map Prod.fst=M.map Prod.fst:=by
 apply List.ext_getElem?;intro i;rw[List.getElem?_map,List.getElem?_map,List.getElem?_set]
 by_cases h:k=i
 ·subst h;rw[if_pos rfl,hk];have:=(List.getElem?_eq_some_iff.1 hk).1;simp[this]
 ·rw[if_neg h]
theorem AX{M:List (Nat×Nat×List AV)}(hk:M[k]? =some (c,m,l))(hn:(M.map Prod.fst).Nodup){x:Nat×Nat×List AV}(hx:x∈M.set k (c,m,l')):
  x=(c,m,l')∨(x∈M∧x.1≠c):=by
 obtain⟨i,hi⟩:=List.getElem?_of_mem hx;rw[List.getElem?_set]at hi
 by_cases h:k=i
 ·subst h;have:=(List.getElem?_eq_some_iff.1 hk).1;simp[this]at hi;exact .inl hi.symm
 ·rw[if_neg h]at hi;refine .inr ⟨List.mem_of_getElem? hi,fun e=>h ?_⟩
  have h1:(M.map Prod.fst)[k]? =some c:=by rw[List.getElem?_map,hk];rfl
  have h2:(M.map Prod.fst)[i]? =some c:=by rw[List.getElem?_map,hi];simp[e]
  exact(List.getElem?_inj (List.getElem?_eq_some_iff.1 h1).1 hn).1 (h1.trans h2.symm)
theorem Mem.store(h:Mem h0 n0 X st M){w:AV}(hk:M[k]? =some (c,m,l))(hz:Xh P t=some n)(hn:(J1 w).length=n)(hc:W4 QI (J1 w)=true)(ho:Xl (J1 w) off l=some l'):
  ∃st1,AF P t (.ptr c m off) w st=some (.tup [],st1)∧Mem h0 n0 X st1 (M.set k (c,m,l'))∧st1.n=st.n:=by
 have hm:=List.mem_of_getElem? hk;obtain⟨vs,ms,h1,h2⟩:=h.row c m l hm;have hlen:l'.length=l.length:=(Wm _ _ _ _ ho).2.1
 have hr:rowOf st.h.get c m=some (l.length,vs,l,false,ms):=by
  unfold rowOf;rw[h1,Q6];show ob (nth ms m) _=_;rw[Yo,h2];rfl
 have e: ∃ms',AF P t (.ptr c m off) w st=some (.tup [],⟨st.n,st.h.set c (.row false ms')⟩)∧ms'[m]? =some (l.length,vs,some l'):=by
  unfold AF;simp only[hr,Q6,hz,Ur,hn,Nat.beq_refl,Ut,hc,ho,Bool.not_false];refine⟨fH (l.length,vs,some l') (Xx (vs+off) (vs+off+n) ms) m,by rw[UW,UW,Xs],?_⟩;rw[Ms,List.getElem?_set_self];rw[JW];exact(List.getElem?_eq_some_iff.1 h2).1
 obtain⟨ms',e1,e2⟩:=e
 have hg: ∀x,(st.h.set c (.row false ms')).get x=if x=c then some (.row false ms')else st.h.get x:=fun x=>Tr.VV _ _ _ _
 refine⟨_,e1,⟨fun x hx=>?_,h.le,h.base,fun x y z hm'=>?_,fun x y z hm'=>?_,fun x y z hm'=>?_,?_,fun x hx hX=>?_⟩,rfl⟩
 ·show(st.h.set c _).get x=none;have:=h.lt c m l hm;have hx:st.n≤x:=hx;rw[hg,if_neg Qk];exact h.fresh x hx
 ·rcases AX hk h.nodup hm' with e|⟨h3,h4⟩
  ·injection e with e1 e2
   injection e2 with e2 e3
   subst e1 e2 e3;exact⟨vs,ms',(hg _).trans (if_pos rfl),by rw[hlen];exact e2⟩
  ·obtain⟨vs',ms2,h5,h6⟩:=h.row x y z h3;exact⟨vs',ms2,by show(st.h.set c _).get x=_;rw[hg,if_neg h4];exact h5,h6⟩
 ·rcases AX hk h.nodup hm' with e|⟨h3,h4⟩
  ·injection e with e1 e2;subst e1;exact h.lt _ m l hm
  ·exact h.lt x y z h3
 ·rcases AX hk h.nodup hm' with e|⟨h3,h4⟩
  ·injection e with e1 e2;subst e1;exact h.own _ m l hm
  ·exact h.own x y z h3
 ·rw[Pj hk];exact h.nodup
 ·show(st.h.set c _).get x=_
  have hxc:x≠c:=fun e=>by
   subst e;rcases h.own x m l hm with h5|h5
   ·omega
   ·exact hX h5
  rw[hg,if_neg hxc];exact h.old x hx hX
theorem Mem.load(h:Mem h0 n0 X st M)(hk:M[k]? =some (c,m,l))(hp:Ve P t l off=some v):JB P t (.ptr c m off) st.h.get=some v:=by
 obtain⟨vs,ms,h1,h2⟩:=h.row c m l (List.mem_of_getElem? hk);show ob (rowOf st.h.get c m) _=_;unfold rowOf;rw[h1,Q6];show ob (ob (nth ms m) _) _=_;rw[Yo,h2];exact hp

variable {ops rest:List Oper} {K:List (Nat×AV)} {R:Tr AV→St→Prop} {T:Tr AV}
theorem Ip{d:Nat}(hK:Jn K T)(hM:Mem h0 n0 X st M)(hz:zeroOf P t=some l)(hN:d<N)
  (hn: ∀(c:Nat) T' st',Jn ((d,.ptr c 0 0)::K) T'→Mem h0 n0 X st' ((c,0,l)::M)→WR P G N ops rest R T' st'):WR P G N ops (⟨some d,.alloc t,ty,pos,af,none⟩::rest) R T st:=by
 refine GR (v:=.ptr st.n 0 0) (st1:=⟨st.n+1,st.h.set st.n (.row false [(l.length,0,some l)])⟩) hK (.of fun T hT c d ty pos af g=>?_) hN fun T' hT'=>hn st.n T' _ hT' (hM.alloc l);show Il P t st=_;unfold Il;rw[hz,Q6,Zw]
theorem Y8{d:Nat}{x:Operand}(hK:Jn K T)(hM:Mem h0 n0 X st M)(hx:JM G K x=some v)(hc:W4 QI (J1 v)=true)(hN:d<N)
  (hn: ∀(c:Nat) T' st',Jn ((d,.ptr c 0 0)::K) T'→Mem h0 n0 X st' ((c,0,J1 v)::M)→WR P G N ops rest R T' st'):WR P G N ops (⟨some d,.box t x,ty,pos,af,none⟩::rest) R T st:=by
 refine GR (v:=.ptr st.n 0 0) (st1:=⟨st.n+1,st.h.set st.n (.row false [((J1 v).length,0,some (J1 v))])⟩) hK (.of fun T hT c d ty pos af g=>?_) hN fun T' hT'=>hn st.n T' _ hT' (hM.alloc _);show(ob (Ul G T x) fun x=>vo x st)=_;rw[hT.Ul hx,Q6];unfold vo;rw[hc,Ut,Zw]
theorem Jr{x y:Operand}{w:AV}(hK:Jn K T)(hM:Mem h0 n0 X st M)(hx:JM G K x=some (.ptr c m off))(hy:JM G K y=some w)(hk:M[k]? =some (c,m,l))(hz:Xh P t=some n)(hn:(J1 w).length=n)
  (hc:W4 QI (J1 w)=true) (ho:Xl (J1 w) off l=some l') (hr: ∀st',Mem h0 n0 X st' (M.set k (c,m,l'))→WR P G N ops rest R T st'):WR P G N ops (⟨none,.store t x y,ty,pos,af,none⟩::rest) R T st:=by
 obtain⟨st1,h1,h2,_⟩:=hM.store hk hz hn hc ho;refine kB (v:=.tup []) (st1:=st1) hK (.of fun T hT c d ty pos af g=>?_) (hr st1 h2);show(ob (Ul G T x) fun x=>ob (Ul G T y) fun y=>AF P t x y st)=_;rw[hT.Ul hx,hT.Ul hy,Q6,Q6,h1]
end
theorem Jl{P:Program}{r:List AV}(h:tk P t=.agg n)(hl:WK n (EA off l) (fun r=>some (AV.agg r))=some (.agg r)):Ve P t l off=some (.agg r):=by
 unfold Ve;rw[h];exact hl
theorem Qj{P:Program}(h:tk P t=.one)(hl:nth l off=some v):Ve P t l off=some v:=by
 unfold Ve;rw[h];exact hl
end
section
open Go
variable {af:Array Edge} {d j t:Nat} {op:Op} {pol:Bool} {pos:String} {ty:TypeId}

variable {P:Program} {G:Env} {N:Nat} {st:St} {K:List (Nat×AV)} {T:Tr AV} {ops rest:List Oper} {R:Tr AV→St→Prop}
theorem fc{x:Bool}{st1:St}(hK:Jn K T)(h:Z6 P G K op st (.bool x) st1)(hN:d<N)(hn: ∀(b:Bool) T',x=b→Jn ((d,.bool b)::K) T'→WR P G N ops rest R T' st1):
 WR P G N ops (⟨some d,op,ty,pos,af,none⟩::rest) R T st:=GR hK h hN fun T' hT'=>hn x T' rfl hT'
theorem V1{d:Option Nat}{b:Bool}(hK:Jn K T)(ht:YY ops j=some t)(hb:K.lookup t=some (.bool b)):Yg ops ⟨d,op,ty,pos,af,some (j,pol)⟩ T=(b==pol):=by
 unfold Yg;simp only[ht];rw[show Zc T t=.bool b from hK t _ hb]
 cases b<;>cases pol<;>rfl
theorem ao{v:AV}{st1:St}(hK:Jn K T)(ht:YY ops j=some t)(hb:K.lookup t=some (.bool pol))(h:Z6 P G K op st v st1)(hN:d<N)
  (hn: ∀T',Jn ((d,v)::K) T'→WR P G N ops rest R T' st1):WR P G N ops (⟨some d,op,ty,pos,af,some (j,pol)⟩::rest) R T st:=
 Ck (by rw[V1 hK ht hb];cases pol<;>rfl) (h T hK _ _ _ _ _) (fun e he=>by injection he with he;rw[←he];exact hN) (hn _ (hK.set d v))
theorem kA{b:Bool}(hK:Jn K T)(ht:YY ops j=some t)(hb:K.lookup t=some (.bool b))(hne:(b==pol)=false)(hN:d<N)
  (hn: ∀T',Jn ((d,.tup [])::K) T'→WR P G N ops rest R T' st):WR P G N ops (⟨some d,op,ty,pos,af,some (j,pol)⟩::rest) R T st:=by
 obtain⟨L',n',T',st',h1,h2⟩:=hn _ (hK.set d (.tup []));refine⟨L',n',T',st',?_,h2⟩;show(ob (YA P G _ ops _ T st) fun r=>Az N (some d) r.1 T fun T=>tl (Hv P G _ N ops rest T r.2))=_;unfold YA;rw[V1 hK ht hb,hne,QL,Q6];show QW (Nat.ble (d+1) N) (T.put d (.tup []) _)=_;rw[Nat.ble_eq_true_of_le hN,Tr.put_eq];exact h1
theorem fW{x y:Operand}{tys:Array TypeId}{a b:Int}{k:IntKind}(hx:JM G K x=some (.int k a))(hy:JM G K y=some (.int k b)):Z6 P G K (.call {callee:=.builtin .max,args:= #[x,y],argTypes:=tys}) st (.int k (max a b)) st:=.of fun T hT cc d ty pos af g=>by
 show ret (ob (Yc (Ul G T) [x,y]) (ko true)) st=_;rw[JN,hT.Ul hx,Q6,JN,hT.Ul hy,Q6];show ret (some (AV.int k (Ql (Si a b) b a))) st=_;rw[XP]
 by_cases h:a<b
 ·rw[decide_eq_true h,QN,show max a b=b by omega];rfl
 ·rw[decide_eq_false h,QL,show max a b=a by omega];rfl
theorem CK{x y:Operand}{tys:Array TypeId}{a b:Int}{k:IntKind}(hx:JM G K x=some (.int k a))(hy:JM G K y=some (.int k b)):Z6 P G K (.call {callee:=.builtin .min,args:= #[x,y],argTypes:=tys}) st (.int k (min a b)) st:=.of fun T hT cc d ty pos af g=>by
 show ret (ob (Yc (Ul G T) [x,y]) (ko false)) st=_;rw[JN,hT.Ul hx,Q6,JN,hT.Ul hy,Q6];show ret (some (AV.int k (Ql (Si b a) b a))) st=_;rw[XP]
 by_cases h:b<a
 ·rw[decide_eq_true h,QN,show min a b=b by omega];rfl
 ·rw[decide_eq_false h,QL,show min a b=a by omega];rfl
end
section
open Go
variable {j n t:Nat} {pol:Bool}

variable {P:Program} {G:Env} {N:Nat} {st:St} {K:List (Nat×AV)} {T:Tr AV} {ops:List Oper} {rest:List (Nat×Oper×Nat)} {R:Tr AV→St→Prop} {sn:List St}
def ZP(ops:List Oper)(q:Nat×Nat):Nat×Oper×Nat:=(q.1,(ops[q.1]?).getD ⟨none,.move (.tmp 0),0,"",#[],none⟩,q.2)
theorem V6{ops:List Oper}{i:Nat}{o:Oper}(ho:ops[i]? =some o)(r:List (Nat×Nat)):((i,n)::r).map (ZP ops)=(i,o,n)::r.map (ZP ops):=by
 rw[List.map_cons];unfold ZP;rw[ho];rfl
theorem QU{id:Nat}{ops:Array Oper}{Q:Ex→Tr AV→St→Prop}{l:List (Nat×Nat)}(hp:WZ P ops.toList=some (l.map (ZP ops.toList)))
 (h:WD P G N ops.toList (l.map (ZP ops.toList)) (Q .nor) T st [st]):W P G N (.region id ops true) Q T st:=fg hp h
theorem QZ(h:R T st):WD P G N ops (([]:List (Nat×Nat)).map (ZP ops)) R T st sn:=⟨0,0,T,st,rfl,h⟩
theorem EL{i:Nat}{o:Oper}{v:AV}{st1:St}(hw:Yg ops o T=true)(h: ∃L n,∀L' n',L≤L'→n≤n'→Td P (Ul G T) (U9 P G L' n') o st=some (v,st1))(ha:again P G o T v n sn.tail=true)(hd: ∀d,o.dst=some d→d<N)
  (hn:WD P G N ops rest R (match o.dst with|some d=>T.set d v|none=>T) st1 (Ql (Nat.beq (QH P o.op) 3) (st1::sn) sn)):WD P G N ops ((i,o,n)::rest) R T st sn:=by
 obtain⟨L,m,h⟩:=h;obtain⟨L',m',T',st',h1,h2⟩:=hn;refine⟨max L L',max m m',T',st',?_,h2⟩
 show(ob (YA P G _ ops o T st) fun r=>QW (Ql (Yg ops o T) (again P G o T r.1 n (List.rec [] (fun _ t _=>t) sn)) true)
  (Az N o.dst r.1 T fun T=>tl (FU P G _ N ops rest T r.2 (Ql (Nat.beq (QH P o.op) 3) (r.2::sn) sn))))=_
 have e:YA P G (U9 P G (max L L') (max m m')) ops o T st=some (v,st1):=by
  unfold YA;rw[hw,QN];exact h _ _ (Nat.le_max_left _ _) (Nat.le_max_left _ _)
 rw[e,Q6,hw,QN,Pv];show QW (again P G o T v n sn.tail) _=_;rw[ha,Ut];have h1':=Bo (Xz m' (max m m') L' (max L L') (Nat.le_max_right _ _) (Nat.le_max_right _ _)) _ _ _ _ _ h1
 cases hdst:o.dst with
 |none=>rw[hdst]at h1';exact h1'
 |some d=>
  rw[hdst]at h1';show QW (Nat.ble (d+1) N) (T.put d v _)=_;rw[Nat.ble_eq_true_of_le (hd d hdst),Tr.put_eq];exact h1'
section
variable {r:List (Nat×Nat)} {i d:Nat} {op:Op} {ty:TypeId} {pos:String} {af:Array Edge} {v:AV} {st1:St}
theorem Mb(ho:ops[i]? =some ⟨some d,op,ty,pos,af,none⟩)(hK:Jn K T)(h:Z6 P G K op st v st1)(hk:Nat.beq (QH P op) 3=false)(hN:d<N)(hn: ∀T',Jn ((d,v)::K) T'→WD P G N ops (r.map (ZP ops)) R T' st1 sn):
  WD P G N ops (((i,0)::r).map (ZP ops)) R T st sn:=by
 rw[V6 ho]
 exact EL rfl (h T hK _ _ _ _ _) rfl (fun e he=>by injection he with he;rw[←he];exact hN) (by
  show WD P G N ops (r.map (ZP ops)) R _ st1 (Ql (Nat.beq (QH P op) 3) _ _)
  rw[hk];exact hn _ (hK.set d v))
theorem Sm(ho:ops[i]? =some ⟨some d,op,ty,pos,af,none⟩)(hK:Jn K T)(h:Z6 P G K op st v st1)(hk:Nat.beq (QH P op) 3=true)(hN:d<N)(hn: ∀T',Jn ((d,v)::K) T'→WD P G N ops (r.map (ZP ops)) R T' st1 (st1::sn)):
  WD P G N ops (((i,0)::r).map (ZP ops)) R T st sn:=by
 rw[V6 ho]
 exact EL rfl (h T hK _ _ _ _ _) rfl (fun e he=>by injection he with he;rw[←he];exact hN) (by
  show WD P G N ops (r.map (ZP ops)) R _ st1 (Ql (Nat.beq (QH P op) 3) _ _)
  rw[hk];exact hn _ (hK.set d v))
theorem QO{t:TypeId}{x:Operand}{u:AV}{s0 s1:St}(ho:ops[i]? =some ⟨some d,.load t x,ty,pos,af,none⟩)(hK:Jn K T)(hx:JM G K x=some u)(h:JB P t u st.h.get=some v)(h1:JB P t u s1.h.get=some v)(he:Rp v v=true)(hk:Nat.beq (QH P (.load t x)) 3=false)(hN:d<N)
  (hn: ∀T',Jn ((d,v)::K) T'→WD P G N ops (r.map (ZP ops)) R T' st (s0::s1::sn)):WD P G N ops (((i,1)::r).map (ZP ops)) R T st (s0::s1::sn):=by
 rw[V6 ho]
 exact EL rfl (QK hx h T hK _ _ _ _ _) (by
  show Ql (Option.rec false (fun x=>Option.rec false (fun u=>Rp u v) (JB P t x s1.h.get)) (Ul G T x)) true false=true;rw[hK.Ul hx];show Ql (Option.rec false (fun u=>Rp u v) (JB P t u s1.h.get)) true false=true;rw[h1];show Ql (Rp v v) true false=true
  rw[he];rfl) (fun e he=>by injection he with he;rw[←he];exact hN) (by
  show WD P G N ops (r.map (ZP ops)) R _ st (Ql (Nat.beq (QH P (.load t x)) 3) _ _)
  rw[hk];exact hn _ (hK.set d v))
theorem fe{x:Bool}(ho:ops[i]? =some ⟨some d,op,ty,pos,af,none⟩)(hK:Jn K T)(h:Z6 P G K op st (.bool x) st1)(hk:Nat.beq (QH P op) 3=false)(hN:d<N)(hn: ∀(b:Bool) T',x=b→Jn ((d,.bool b)::K) T'→WD P G N ops (r.map (ZP ops)) R T' st1 sn):
 WD P G N ops (((i,0)::r).map (ZP ops)) R T st sn:=Mb ho hK h hk hN fun T' hT'=>hn x T' rfl hT'
theorem kC(ho:ops[i]? =some ⟨some d,op,ty,pos,af,some (j,pol)⟩)(hK:Jn K T)(ht:YY ops j=some t)(hb:K.lookup t=some (.bool pol))(h:Z6 P G K op st v st1)(hk:Nat.beq (QH P op) 3=false)(hN:d<N)
  (hn: ∀T',Jn ((d,v)::K) T'→WD P G N ops (r.map (ZP ops)) R T' st1 sn):WD P G N ops (((i,0)::r).map (ZP ops)) R T st sn:=by
 rw[V6 ho]
 exact EL (by rw[V1 hK ht hb];cases pol<;>rfl) (h T hK _ _ _ _ _) rfl (fun e he=>by injection he with he;rw[←he];exact hN) (by
  show WD P G N ops (r.map (ZP ops)) R _ st1 (Ql (Nat.beq (QH P op) 3) _ _)
  rw[hk];exact hn _ (hK.set d v))
theorem ff(ho:ops[i]? =some ⟨some d,op,ty,pos,af,some (j,pol)⟩)(hK:Jn K T)(ht:YY ops j=some t)(hb:K.lookup t=some (.bool pol))(h:Z6 P G K op st v st1)(hk:Nat.beq (QH P op) 3=true)(hN:d<N)
  (hn: ∀T',Jn ((d,v)::K) T'→WD P G N ops (r.map (ZP ops)) R T' st1 (st1::sn)):WD P G N ops (((i,0)::r).map (ZP ops)) R T st sn:=by
 rw[V6 ho]
 exact EL (by rw[V1 hK ht hb];cases pol<;>rfl) (h T hK _ _ _ _ _) rfl (fun e he=>by injection he with he;rw[←he];exact hN) (by
  show WD P G N ops (r.map (ZP ops)) R _ st1 (Ql (Nat.beq (QH P op) 3) _ _)
  rw[hk];exact hn _ (hK.set d v))
theorem kD{b:Bool}(ho:ops[i]? =some ⟨some d,op,ty,pos,af,some (j,pol)⟩)(hK:Jn K T)(ht:YY ops j=some t)(hb:K.lookup t=some (.bool b))(hne:(b==pol)=false)(hN:d<N)
  (hn: ∀T' sn',Jn ((d,.tup [])::K) T'→WD P G N ops (r.map (ZP ops)) R T' st sn'):WD P G N ops (((i,n)::r).map (ZP ops)) R T st sn:=by
 rw[V6 ho];obtain⟨L',n',T',st',h1,h2⟩:=hn _ (Ql (Nat.beq (QH P op) 3) (st::sn) sn) (hK.set d (.tup []));refine⟨L',n',T',st',?_,h2⟩;show(ob (YA P G _ ops _ T st) fun x=>QW (Ql (Yg ops _ T) _ true) (Az N (some d) x.1 T fun T=>tl (FU P G _ N ops (r.map (ZP ops)) T x.2 (Ql (Nat.beq (QH P op) 3) (x.2::sn) sn))))=_;unfold YA;rw[V1 hK ht hb,hne,QL,Q6,QL,Ut];show QW (Nat.ble (d+1) N) (T.put d (.tup []) _)=_;rw[Nat.ble_eq_true_of_le hN,Tr.put_eq];exact h1
end
end
section
open Go

variable {P:Program} {G:Env} {N:Nat} {st:St} {K:List (Nat×AV)} {T:Tr AV} {ops:List Oper} {r:List (Nat×Nat)} {R:Tr AV→St→Prop} {sn:List St} {h0:Hp} {n0:Nat} {X:List Nat} {M:List (Nat×Nat×List AV)}
theorem Ir{i d:Nat}{t ty:TypeId}{pos:String}{af:Array Edge}{l:List AV}(ho:ops[i]? =some ⟨some d,.alloc t,ty,pos,af,none⟩)(hK:Jn K T)(hM:Mem h0 n0 X st M)(hz:zeroOf P t=some l)(hN:d<N)
  (hn: ∀(c:Nat) T' st',Jn ((d,.ptr c 0 0)::K) T'→Mem h0 n0 X st' ((c,0,l)::M)→WD P G N ops (r.map (ZP ops)) R T' st' sn):WD P G N ops (((i,0)::r).map (ZP ops)) R T st sn:=by
 refine Mb (v:=.ptr st.n 0 0) (st1:=⟨st.n+1,st.h.set st.n (.row false [(l.length,0,some l)])⟩) ho hK (.of fun T hT c d ty pos af g=>?_) rfl hN fun T' hT'=>hn st.n T' _ hT' (hM.alloc l);show Il P t st=_;unfold Il;rw[hz,Q6,Zw]
theorem Um{i:Nat}{t ty:TypeId}{pos:String}{af:Array Edge}{x y:Operand}{w:AV}{k c m off n:Nat}{l l':List AV}(ho:ops[i]? =some ⟨none,.store t x y,ty,pos,af,none⟩)(hK:Jn K T)(hM:Mem h0 n0 X st M)(hx:JM G K x=some (.ptr c m off))(hy:JM G K y=some w)
  (hk:M[k]? =some (c,m,l)) (hz:Xh P t=some n) (hn:(J1 w).length=n) (hc:W4 QI (J1 w)=true) (hv:Xl (J1 w) off l=some l')
  (hr: ∀st',Mem h0 n0 X st' (M.set k (c,m,l'))→WD P G N ops (r.map (ZP ops)) R T st' (st'::sn)):WD P G N ops (((i,0)::r).map (ZP ops)) R T st sn:=by
 obtain⟨st1,h1,h2,_⟩:=hM.store hk hz hn hc hv;rw[V6 ho]
 have hS:Z6 P G K (.store t x y) st (.tup []) st1:=.of fun T hT c d ty pos af g=>by
  show(ob (Ul G T x) fun x=>ob (Ul G T y) fun y=>AF P t x y st)=_;rw[hT.Ul hx,hT.Ul hy,Q6,Q6,h1]
 exact EL rfl (hS T hK _ _ _ _ _) rfl (fun e he=>by cases he) (hr st1 h2)
end
end Go.Proofs.YthjgndgnmkiaiaaGreatDoor
