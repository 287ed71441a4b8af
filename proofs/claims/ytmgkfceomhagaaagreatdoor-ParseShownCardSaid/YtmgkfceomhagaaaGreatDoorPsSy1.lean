/-
  Several texts in one: XSymA, XSymB, XSymC, XSymD, XSymE, XSymF, XSymG.
-/
import Derived.Test.YtmgkfceomhagaaaGreatDoorPsEv3
set_option linter.unusedSimpArgs false
set_option linter.unusedVariables false
namespace Go.Proofs.YtmgkfceomhagaaaGreatDoor
section
open Go
variable {N:Nat} {T:Tr AV} {ops:List Oper}

def eP(c c':Yv):Prop:= ∀f args st r,c f args st=some r→c' f args st=some r
theorem Zn{α β:Type}{x:Option α}{k k':α→Option β}{r:β}(h:ob x k=some r)(hk: ∀a,x=some a→k a=some r→k' a=some r):ob x k'=some r:=by
 obtain⟨a,ha,h⟩:=Qy h;rw[ha];exact hk a ha h
theorem E8{β:Type}{b:Bool}{k k':Option β}{r:β}(h:Jm b k=some r)(hk:k=some r→k'=some r):Jm b k'=some r:=by
 obtain⟨hb,h⟩:=QA h;subst hb;exact hk h
variable {P:Program} {G:Env}
theorem uc{R:Operand→Option AV}{c c':Yv}(hc:eP c c'){o:Oper}{st:St}{r:AV×St}(h:Ll P R c o st=some r):Ll P R c' o st=some r:=by
 obtain⟨dst,op,ty,pos,af,g⟩:=o
 cases op with
 |call cl=>
  obtain⟨callee,args,tys⟩:=cl
  cases callee with
  |value f=>
   have h:(ob (R f) fun v=>(match v with
    |.fn fid a cap=>ob (Ye R args.toList) fun l=>c fid (ZQ a (ZQ l cap)) st
    |_=>none))=some r:=h
   show(ob (R f) fun v=>(match v with
    |.fn fid a cap=>ob (Ye R args.toList) fun l=>c' fid (ZQ a (ZQ l cap)) st
    |_=>none))=some r
   refine Zn h fun v _ h=>?_
   cases v with
   |fn fid a cap=>exact Zn h fun l _ h=>hc _ _ _ _ h
   |_=>cases h
  |invoke f name=>
   have h:(ob (R f) fun v=>(match v with
    |.ifc t u=>ob (Ln P t name) fun fid=>ob (Ye R args.toList) fun l=>c fid (u::l) st
    |_=>none))=some r:=h
   show(ob (R f) fun v=>(match v with
    |.ifc t u=>ob (Ln P t name) fun fid=>ob (Ye R args.toList) fun l=>c' fid (u::l) st
    |_=>none))=some r
   refine Zn h fun v _ h=>?_
   cases v with
   |ifc t u=>exact Zn h fun fid _ h=>Zn h fun l _ h=>hc _ _ _ _ h
   |_=>cases h
  |_=>exact h
 |_=>exact h
theorem Nw{c c':Yv}(hc:eP c c'){o:Oper}{st:St}{r:AV×St}(h:UP P G c ops o T st=some r):UP P G c' ops o T st=some r:=by
 unfold UP at h ⊢
 cases hw:Ui ops o T with
 |true=>rw[hw]at h;exact uc hc h
 |false=>rw[hw]at h;exact h
theorem F7{β:Type}{d:Option Nat}{v:AV}{k k':Tr AV→Option β}{r:β}(h:Xm N d v T k=some r)(hk: ∀T,k T=some r→k' T=some r):Xm N d v T k'=some r:=by
 cases d with
 |none=>exact hk _ h
 |some t=>
  have h:Jm (Nat.ble (t+1) N) (T.put t v k)=some r:=h;show Jm (Nat.ble (t+1) N) (T.put t v k')=some r;refine E8 h fun h=>?_;rw[Tr.put_eq]at h ⊢;exact hk _ h
theorem G3{c c':Yv}(hc:eP c c'): ∀(l:List Oper) (T:Tr AV) (st:St) (r:Tr AV×St),AQ P G c N ops l T st=some r→AQ P G c' N ops l T st=some r:=by
 intro l
 induction l with
 |nil=>intro T st r h;exact h
 |cons o l ih=>
  intro T st r h;have h:(ob (UP P G c ops o T st) fun r=>Xm N o.dst r.1 T fun T=>tl (AQ P G c N ops l T r.2))=some r:=h;show(ob (UP P G c' ops o T st) fun r=>Xm N o.dst r.1 T fun T=>tl (AQ P G c' N ops l T r.2))=some r;obtain⟨a,ha,h⟩:=Qy h;rw[Nw hc ha,Q0];exact F7 h fun T h=>ih T a.2 r h
theorem G4{c c':Yv}(hc:eP c c'): ∀(l:List (Nat×Oper×Nat)) (T:Tr AV) (st:St) (sn:List St) (r:Tr AV×St),Ep P G c N ops l T st sn=some r→Ep P G c' N ops l T st sn=some r:=by
 intro l
 induction l with
 |nil=>intro T st sn r h;exact h
 |cons q l ih=>
  intro T st sn r h
  have h:(ob (UP P G c ops q.2.1 T st) fun r=>Jm (Qs (Ui ops q.2.1 T) (again P G q.2.1 T r.1 q.2.2 (List.rec [] (fun _ t _=>t) sn)) true)
   (Xm N q.2.1.dst r.1 T fun T=>tl (Ep P G c N ops l T r.2 (Qs (Nat.beq (QZ P q.2.1.op) 3) (r.2::sn) sn))))=some r:=h
  show(ob (UP P G c' ops q.2.1 T st) fun r=>Jm (Qs (Ui ops q.2.1 T) (again P G q.2.1 T r.1 q.2.2 (List.rec [] (fun _ t _=>t) sn)) true)
   (Xm N q.2.1.dst r.1 T fun T=>tl (Ep P G c' N ops l T r.2 (Qs (Nat.beq (QZ P q.2.1.op) 3) (r.2::sn) sn))))=some r
  obtain⟨a,ha,h⟩:=Qy h;rw[Nw hc ha,Q0];refine E8 h fun h=>F7 h fun T h=>ih T a.2 _ r h
theorem NU{f f':Tr AV→St→Option (Ex×Tr AV×St)}(hf: ∀T st r,f T st=some r→f' T st=some r): ∀(L L':Nat),L≤L'→ ∀T st r,IB L f T st=some r→IB L' f' T st=some r:=by
 intro L
 induction L with
 |zero=>intro L' _ T st r h;cases h
 |succ L ih=>
  intro L' hL T st r h;obtain⟨M,rfl⟩: ∃M,L'=M+1:=⟨L'-1,by omega⟩;have h:Vv (f T st) (IB L f)=some r:=h;show Vv (f' T st) (IB M f')=some r;rcases Il h with⟨T1,st1,h1,h2⟩|⟨h1,h2⟩
  ·rw[hf _ _ _ h1];exact ih M Qq _ _ _ h2
  ·rw[hf _ _ _ h1];obtain⟨e,T,st⟩:=r
   cases e with
   |nor=>exact absurd rfl h2
   |exit i=>rfl
   |ret=>rfl
theorem Sm{ts te:TypeId}{cap:AV}{ps:List Tmp}{fa fb fa' fb':Tr AV→St→Option (Ex×Tr AV×St)}(ha: ∀T st r,fa T st=some r→fa' T st=some r)(hb: ∀T st r,fb T st=some r→fb' T st=some r):
  ∀(n:Nat) (st:St) (r:Ex×Tr AV×St),Ek P N ts te cap ps fa fb T n st=some r→Ek P N ts te cap ps fa' fb' T n st=some r:=by
 intro n
 induction n with
 |zero=>intro st r h;exact h
 |succ n ih=>
  intro st r h
  have h:(ob (J3 P ts cap st.h.get) fun s=>ob (Yi P ts s (.int .i64 (Int.ofNat n))) fun q=>ob (J3 P te q st.h.get) fun v=>
   Lz N ps (.int .i64 (Int.ofNat n)) v T fun T1=>ob (fa T1 st) fun r=>Ex.rec (ob (fb r.2.1 r.2.2) fun q=>Ex.rec (tl (Ek P N ts te cap ps fa fb T n q.2.2)) (fun id=>some (.exit id,T,q.2.2)) (some (.ret,T,q.2.2)) q.1) (fun _=>none) none r.1)=some r:=h
  show(ob (J3 P ts cap st.h.get) fun s=>ob (Yi P ts s (.int .i64 (Int.ofNat n))) fun q=>ob (J3 P te q st.h.get) fun v=>
   Lz N ps (.int .i64 (Int.ofNat n)) v T fun T1=>ob (fa' T1 st) fun r=>Ex.rec (ob (fb' r.2.1 r.2.2) fun q=>Ex.rec (tl (Ek P N ts te cap ps fa' fb' T n q.2.2)) (fun id=>some (.exit id,T,q.2.2)) (some (.ret,T,q.2.2)) q.1) (fun _=>none) none r.1)=some r
  refine Zn h fun s _ h=>Zn h fun q _ h=>Zn h fun v _ h=>?_;unfold Lz at h ⊢
  split at h
  ·refine F7 h fun T h=>F7 h fun T h=>?_;obtain⟨⟨e1,T2,st2⟩,h1,h⟩:=Qy h;rw[ha _ _ _ h1,Q0]
   cases e1 with
   |exit i=>cases h
   |ret=>cases h
   |nor=>
    obtain⟨⟨e,T3,st3⟩,h2,h⟩:=Qy h;show(ob (fb' T2 st2) _)=_;rw[hb _ _ _ h2,Q0]
    cases e with
    |nor=>exact ih _ _ h
    |exit i=>exact h
    |ret=>exact h
  ·cases h
theorem GY{c c':Yv}(hc:eP c c'){L L':Nat}(hL:L≤L'): ∀(k:Code) (T:Tr AV) (st:St) (r:Ex×Tr AV×St),codeF P G c N L k T st=some r→codeF P G c' N L' k T st=some r:=by
 intro k
 induction k with
 |region id ops draw=>
  intro T st r h
  cases draw with
  |true=>
   have h:(ob (Va P ops.toList) fun pl=>ob (Ep P G c N ops.toList pl T st [st]) fun r=>some (Ex.nor,r))=some r:=h;show(ob (Va P ops.toList) fun pl=>ob (Ep P G c' N ops.toList pl T st [st]) fun r=>some (Ex.nor,r))=some r;refine Zn h fun pl _ h=>?_;obtain⟨a,ha,h⟩:=Qy h;rw[G4 hc _ _ _ _ _ ha];exact h
  |false=>
   have h:(ob (AQ P G c N ops.toList ops.toList T st) fun r=>some (Ex.nor,r))=some r:=h;show(ob (AQ P G c' N ops.toList ops.toList T st) fun r=>some (Ex.nor,r))=some r;obtain⟨a,ha,h⟩:=Qy h;rw[G3 hc _ _ _ _ ha];exact h
 |seq x y ihx ihy=>
  intro T st r h;have h:Vv (codeF P G c N L x T st) (codeF P G c N L y)=some r:=h;show Vv (codeF P G c' N L' x T st) (codeF P G c' N L' y)=some r;rcases Il h with⟨T1,st1,h1,h2⟩|⟨h1,h2⟩
  ·rw[ihx _ _ _ h1];exact ihy _ _ _ h2
  ·rw[ihx _ _ _ h1];obtain⟨e,T,st⟩:=r
   cases e with
   |nor=>exact absurd rfl h2
   |exit i=>rfl
   |ret=>rfl
 |cond g x y ihx ihy=>
  intro T st r h;have h:O1 (JW G T g) (tl (codeF P G c N L x T st)) (tl (codeF P G c N L y T st))=some r:=h;show O1 (JW G T g) (tl (codeF P G c' N L' x T st)) (tl (codeF P G c' N L' y T st))=some r;refine Zn h fun v _ h=>?_
  cases v with
  |bool b=>
   cases b with
   |true=>exact ihx _ _ _ h
   |false=>exact ihy _ _ _ h
  |_=>cases h
 |block id x ih=>
  intro T st r h;have h:KQ id (codeF P G c N L x T st)=some r:=h;show KQ id (codeF P G c' N L' x T st)=some r;obtain⟨a,ha,h⟩:=Qy h;rw[ih _ _ _ ha];exact h
 |loop x ih=>intro T st r h;exact NU ih L L' hL T st r h
 |rangeFunc g ps a b iha ihb=>
  intro T st r h;have h:EX P G N g ps.toList (Qs (Zc a) (Zc b) false) (codeF P G c N L a) (codeF P G c N L b) T st=some r:=h;show EX P G N g ps.toList (Qs (Zc a) (Zc b) false) (codeF P G c' N L' a) (codeF P G c' N L' b) T st=some r;unfold EX at h ⊢;refine E8 h fun h=>Zn h fun v _ h=>?_
  split at h
  ·refine Zn h fun q _ h=>?_
   split at h
   ·split at h
    ·refine Zn h fun s _ h=>Zn h fun n _ h=>?_
     split at h
     ·exact Zn h fun n _ h=>E8 h fun h=>Sm iha ihb _ _ _ h
     ·cases h
    ·cases h
   ·cases h
  ·cases h
 |_=>intro T st r h;exact h
theorem qn: ∀(l:List AV) (i:Nat) (T:Tr AV),(∀t,i≤t→YW T t=.tup [])→ ∃T',(∀(β:Type) (k:Tr AV→β),List.rec (motive:=fun _=>Nat→Tr AV→β) (fun(_:Nat) T=>k T) (fun v _ ih i T=>T.put i v (ih (i+1))) l i T=k T')∧
  ∀t,YW T' t=if t<i then YW T t else(l[t-i]?).getD (.tup []):=by
 intro l
 induction l with
 |nil=>
  intro i T hT;refine⟨T,fun _ _=>rfl,fun t=>?_⟩
  by_cases h:t<i
  ·rw[if_pos h]
  ·rw[if_neg h,hT t Qq];simp
 |cons v l ih=>
  intro i T hT
  obtain⟨T',h1,h2⟩:=ih (i+1) (T.set i v) fun t ht=>by rw[Z8,if_neg Qq];exact hT t Qq
  refine⟨T',fun β k=>?_,fun t=>?_⟩
  ·show T.put i v _=_;rw[Tr.put_eq];exact h1 β k
  ·rw[h2,Z8]
   by_cases h:t<i
   ·rw[if_pos Qq,if_neg Qq,if_pos h]
   ·rw[if_neg h]
    by_cases h3:t=i
    ·subst h3;rw[if_pos Qq,if_pos rfl];simp
    ·rw[if_neg Qq,show t-i=(t-(i+1))+1 by omega];simp
theorem Bf(l:List AV): ∃T,(∀(β:Type) (k:Tr AV→β),Fv l k=k T)∧ ∀t,YW T t=(l[t]?).getD (.tup []):=by
 obtain⟨T,h1,h2⟩:=qn l 0 .nil fun t _=>rfl;exact⟨T,h1,fun t=>by rw[h2,if_neg Qq,Nat.sub_zero]⟩
theorem WQ: ∀(n m L L':Nat),n≤m→L≤L'→eP (U4 P G L n) (U4 P G L' m):=by
 intro n
 induction n with
 |zero=>intro m L L' _ _ f args st r h;cases h
 |succ n ih=>
  intro m L L' hnm hL f args st r h;obtain⟨k,rfl⟩: ∃k,m=k+1:=⟨m-1,by omega⟩;have h:(Option.rec (ob (IU P f) fun q=>Jm (Nat.ble (Z9 args) q.2.1) (Fv args fun T=>KM (codeF P G (U4 P G L n) q.2.1 L q.1 T st) fun T st=>ob (JF P q.2.2 T st) fun v=>some (v,st))) (fun sm=>sm args st) (G.s f):Option (AV×St))=some r:=h;show(Option.rec (ob (IU P f) fun q=>Jm (Nat.ble (Z9 args) q.2.1) (Fv args fun T=>KM (codeF P G (U4 P G L' k) q.2.1 L' q.1 T st) fun T st=>ob (JF P q.2.2 T st) fun v=>some (v,st))) (fun sm=>sm args st) (G.s f):Option (AV×St))=some r
  cases hs:G.s f with
  |some sm=>rw[hs]at h;exact h
  |none=>
   rw[hs]at h;refine Zn h fun q _ h=>E8 h fun h=>?_;obtain⟨T,h1,_⟩:=Bf args;rw[h1]at h ⊢;obtain⟨⟨e,T2,st2⟩,hc,h⟩:=Qy h;have hc':=GY (ih k L L' Qq hL) hL q.1 T st _ hc;show KM (codeF P G (U4 P G L' k) q.2.1 L' q.1 T st) _=_;rw[hc'];exact h

end
section
open Go
variable {c:Code} {id:Nat} {st1:St} {v:AV}

def Ev(P:Program)(G:Env)(f:FuncId)(args:List AV)(st:St)(v:AV)(st':St):Prop:= ∃L n,U4 P G L n f args st=some (v,st')
def W(P:Program)(G:Env)(N:Nat)(c:Code)(Q:Ex→Tr AV→St→Prop)(T:Tr AV)(st:St):Prop:= ∃L n x T' st',codeF P G (U4 P G L n) N L c T st=some (x,T',st')∧Q x T' st'
def WR(P:Program)(G:Env)(N:Nat)(ops l:List Oper)(Q:Tr AV→St→Prop)(T:Tr AV)(st:St):Prop:= ∃L n T' st',AQ P G (U4 P G L n) N ops l T st=some (T',st')∧Q T' st'
def WD(P:Program)(G:Env)(N:Nat)(ops:List Oper)(l:List (Nat×Oper×Nat))(Q:Tr AV→St→Prop)(T:Tr AV)(st:St)(sn:List St):Prop:= ∃L n T' st',Ep P G (U4 P G L n) N ops l T st sn=some (T',st')∧Q T' st'

def Np(k:Tr AV→St→Prop)(Q:Ex→Tr AV→St→Prop):Ex→Tr AV→St→Prop
 |.nor=>k
 |x=>Q x
def Cx(id:Nat)(Q:Ex→Tr AV→St→Prop):Ex→Tr AV→St→Prop
 |.exit i=>if i=id then Q .nor else Q (.exit i)
 |x=>Q x

variable {P:Program} {G:Env} {N:Nat} {Q:Ex→Tr AV→St→Prop} {T:Tr AV} {st:St}

theorem Wy{L L' n n':Nat}(hL:L≤L')(hn:n≤n'){T:Tr AV}{st:St}{r:Ex×Tr AV×St}(h:codeF P G (U4 P G L n) N L c T st=some r):codeF P G (U4 P G L' n') N L' c T st=some r:=
 GY (WQ n n' L L' hn hL) hL c T st r h
theorem qH{Q':Ex→Tr AV→St→Prop}(h:W P G N c Q T st)(hq: ∀x T st,Q x T st→Q' x T st):W P G N c Q' T st:=by
 obtain⟨L,n,x,T',st',h1,h2⟩:=h;exact⟨L,n,x,T',st',h1,hq _ _ _ h2⟩
theorem Yd(h:Q .nor T st):W P G N .skip Q T st:=⟨0,0,_,_,_,rfl,h⟩
theorem zp{l:Nat}(h:Q .nor T st):W P G N (.label l) Q T st:=⟨0,0,_,_,_,rfl,h⟩
theorem Un(h:Q (.exit id) T st):W P G N (.exit id) Q T st:=⟨0,0,_,_,_,rfl,h⟩
theorem JX(h:Q .ret T st):W P G N .ret Q T st:=⟨0,0,_,_,_,rfl,h⟩
theorem Ud{a b:Code}(h:W P G N a (Np (W P G N b Q) Q) T st):W P G N (.seq a b) Q T st:=by
 obtain⟨L,n,x,T1,st1,h1,h2⟩:=h
 cases x with
 |nor=>
  obtain⟨L',n',y,T2,st2,h3,h4⟩:=h2;refine⟨max L L',max n n',y,T2,st2,?_,h4⟩;show Vv (codeF P G _ N _ a T st) (codeF P G _ N _ b)=_;rw[Wy (Nat.le_max_left L L') (Nat.le_max_left n n') h1];exact Wy (Nat.le_max_right L L') (Nat.le_max_right n n') h3
 |exit i=>exact⟨L,n,_,T1,st1,by show Vv (codeF P G _ N _ a T st) (codeF P G _ N _ b)=_;rw[h1];rfl,h2⟩
 |ret=>exact⟨L,n,_,T1,st1,by show Vv (codeF P G _ N _ a T st) (codeF P G _ N _ b)=_;rw[h1];rfl,h2⟩
theorem Vy{g:Operand}{a b:Code}{t:Bool}(hg:JW G T g=some (.bool t))(ha:t=true→W P G N a Q T st)(hb:t=false→W P G N b Q T st):W P G N (.cond g a b) Q T st:=by
 cases t with
 |true=>
  obtain⟨L,n,x,T',st',h1,h2⟩:=ha rfl;exact⟨L,n,x,T',st',by show O1 (JW G T g) _ _=_;rw[hg];exact h1,h2⟩
 |false=>
  obtain⟨L,n,x,T',st',h1,h2⟩:=hb rfl;exact⟨L,n,x,T',st',by show O1 (JW G T g) _ _=_;rw[hg];exact h1,h2⟩
theorem F3(h:W P G N c (Cx id Q) T st):W P G N (.block id c) Q T st:=by
 obtain⟨L,n,x,T',st',h1,h2⟩:=h;have e:codeF P G (U4 P G L n) N L (.block id c) T st=KQ id (codeF P G (U4 P G L n) N L c T st):=rfl;rw[h1]at e
 cases x with
 |nor=>exact⟨L,n,_,T',st',e,h2⟩
 |ret=>exact⟨L,n,_,T',st',e,h2⟩
 |exit i=>
  by_cases hi:i=id
  ·subst hi;have h2:(if i=i then Q .nor else Q (.exit i)) T' st':=h2;rw[if_pos rfl]at h2;refine⟨L,n,.nor,T',st',?_,h2⟩;rw[e];show Qs (Nat.beq i i) _ _=_;rw[Nat.beq_refl];rfl
  ·have h2:(if i=id then Q .nor else Q (.exit i)) T' st':=h2;rw[if_neg hi]at h2;refine⟨L,n,.exit i,T',st',?_,h2⟩;rw[e];show Qs (Nat.beq i id) _ _=_
   have:Nat.beq i id=false:=by
    cases hb:Nat.beq i id with
    |false=>rfl
    |true=>exact absurd (Nat.eq_of_beq_eq_true hb) hi
   rw[this];rfl
theorem J1(h:W P G N c (Np (W P G N (.loop c) Q) Q) T st):W P G N (.loop c) Q T st:=by
 obtain⟨L,n,x,T1,st1,h1,h2⟩:=h;have e: ∀L n,codeF P G (U4 P G (L+1) n) N (L+1) (.loop c) T st=Vv (codeF P G (U4 P G (L+1) n) N (L+1) c T st) (IB L (codeF P G (U4 P G (L+1) n) N (L+1) c)):=fun _ _=>rfl
 cases x with
 |nor=>
  obtain⟨L',n',y,T2,st2,h3,h4⟩:=h2;refine⟨max L L'+1,max n n',y,T2,st2,?_,h4⟩;rw[e,Wy (Nat.le_succ_of_le (Nat.le_max_left L L')) (Nat.le_max_left n n') h1];have h3:IB L' (codeF P G (U4 P G L' n') N L' c) T1 st1=some (y,T2,st2):=h3;exact NU (fun T st r h=>Wy (Nat.le_succ_of_le (Nat.le_max_right L L')) (Nat.le_max_right n n') h) L' (max L L') (Nat.le_max_right _ _) T1 st1 _ h3
 |exit i=>exact⟨L+1,n,_,T1,st1,by rw[e,Wy (Nat.le_succ L) (Nat.le_refl n) h1];rfl,h2⟩
 |ret=>exact⟨L+1,n,_,T1,st1,by rw[e,Wy (Nat.le_succ L) (Nat.le_refl n) h1];rfl,h2⟩
theorem UM(I:Nat→Tr AV→St→Prop)(hstep: ∀n T st,I n T st→W P G N c (Np (fun T' st'=> ∃m,m<n∧I m T' st') Q) T st): ∀n T st,I n T st→W P G N (.loop c) Q T st:=by
 intro n
 induction n using Nat.strongRecOn with
 |_ n ih=>
  intro T st h;refine J1 (qH (hstep n T st h) fun x T' st' hx=>?_)
  cases x with
  |nor=>
   obtain⟨m,hm,hI⟩:=hx;exact ih m hm T' st' hI
  |exit i=>exact hx
  |ret=>exact hx
theorem Yo{ops:Array Oper}(h:WR P G N ops.toList ops.toList (Q .nor) T st):W P G N (.region id ops false) Q T st:=by
 obtain⟨L,n,T',st',h1,h2⟩:=h;refine⟨L,n,.nor,T',st',?_,h2⟩;show(ob (AQ P G _ N ops.toList ops.toList T st) fun r=>some (Ex.nor,r))=_;rw[h1];rfl
theorem vP{ops:Array Oper}{pl:List (Nat×Oper×Nat)}(hp:Va P ops.toList=some pl)(h:WD P G N ops.toList pl (Q .nor) T st [st]):W P G N (.region id ops true) Q T st:=by
 obtain⟨L,n,T',st',h1,h2⟩:=h;refine⟨L,n,.nor,T',st',?_,h2⟩;show(ob (Va P ops.toList) fun pl=>ob (Ep P G _ N ops.toList pl T st [st]) fun r=>some (Ex.nor,r))=_;rw[hp,Q0,h1];rfl

def JC(K:List (Nat×AV))(T:Tr AV):Prop:= ∀t v,K.lookup t=some v→YW T t=v
theorem JC.set{K:List (Nat×AV)}{T:Tr AV}(h:JC K T)(d:Nat)(v:AV):JC ((d,v)::K) (T.set d v):=by
 intro t u hl;rw[Z8]
 by_cases ht:t=d
 ·subst ht;rw[List.lookup_cons,beq_self_eq_true]at hl
  injection hl with hl
  rw[if_pos rfl,hl]
 ·rw[List.lookup_cons,beq_false_of_ne ht]at hl;rw[if_neg ht];exact h t u hl
theorem JC.nil{T:Tr AV}:JC [] T:=fun t v h=>(by cases h)
theorem JC.cons{K:List (Nat×AV)}{T:Tr AV}{d:Nat}(hd:YW T d=v)(h:JC K T):JC ((d,v)::K) T:=by
 intro t u hl
 by_cases ht:t=d
 ·subst ht;rw[List.lookup_cons,beq_self_eq_true]at hl
  injection hl with hl
  rw[←hl];exact hd
 ·rw[List.lookup_cons,beq_false_of_ne ht]at hl;exact h t u hl
noncomputable def Ut(G:Env)(K:List (Nat×AV))(x:Operand):Option AV:=match x with
 |.tmp t=>K.lookup t
 |.const v=>ofConst v
 |.global g=>Jm (G.g g) (some (.ptr g 0 0))
 |.func f=>some (.fn f [] [])
theorem JC.sub{K L:List (Nat×AV)}{T:Tr AV}(h:JC K T)(e:L.map (fun p=>K.lookup p.1)=L.map fun p=>some p.2):JC L T:=by
 induction L with
 |nil=>exact .nil
 |cons p L ih=>
  injection e with e1 e2
  exact .cons (h _ _ e1) (ih e2)
theorem yT{p:Prop} [Decidable p](h:(!decide p)=false):p:=by simpa using h
theorem yF{p:Prop} [Decidable p](h:(!decide p)=true): ¬p:=by simpa using h
theorem JC.JW{K:List (Nat×AV)}{T:Tr AV}(h:JC K T){x:Operand}{v:AV}(hx:Ut G K x=some v):JW G T x=some v:=by
 cases x with
 |tmp t=>exact congrArg some (h t v hx)
 |const c=>exact hx
 |global g=>exact hx
 |func f=>exact hx
theorem JC.row{K:List (Nat×AV)}{T:Tr AV}(h:JC K T): ∀(l:List Operand) (vs:List AV),Ye (Ut G K) l=some vs→Ye (Proofs.YtmgkfceomhagaaaGreatDoor.JW G T) l=some vs:=by
 intro l
 induction l with
 |nil=>intro vs hv;exact hv
 |cons x l ih=>
  intro vs hv;rw[Uf]at hv ⊢;obtain⟨b,hb,hv⟩:=Qy hv;obtain⟨t,ht,hv⟩:=Qy hv;rw[h.JW hb,Q0,ih t ht,Q0];exact hv
def ZS(P:Program)(G:Env)(K:List (Nat×AV))(op:Op)(st:St)(v:AV)(st1:St):Prop:= ∀T,JC K T→ ∀(d:Option Tmp) (ty:TypeId) (pos:String) (af:Array Edge) (g:Option (Nat×Bool)),∃L n,∀L' n',L≤L'→n≤n'→Ll P (JW G T) (U4 P G L' n') ⟨d,op,ty,pos,af,g⟩ st=some (v,st1)
section ops
variable {ops rest:List Oper} {K:List (Nat×AV)} {R:Tr AV→St→Prop}
theorem Xs(h:R T st):WR P G N ops [] R T st:=⟨0,0,T,st,rfl,h⟩
theorem Bk{o:Oper}(hw:Ui ops o T=true)(h: ∃L n,∀L' n',L≤L'→n≤n'→Ll P (JW G T) (U4 P G L' n') o st=some (v,st1))(hd: ∀d,o.dst=some d→d<N)
  (hn:WR P G N ops rest R (match o.dst with|some d=>T.set d v|none=>T) st1):WR P G N ops (o::rest) R T st:=by
 obtain⟨L,n,h⟩:=h;obtain⟨L',n',T',st',h1,h2⟩:=hn;refine⟨max L L',max n n',T',st',?_,h2⟩;show(ob (UP P G _ ops o T st) fun r=>Xm N o.dst r.1 T fun T=>tl (AQ P G _ N ops rest T r.2))=_
 have e:UP P G (U4 P G (max L L') (max n n')) ops o T st=some (v,st1):=by
  unfold UP;rw[hw,Jg];exact h _ _ (Nat.le_max_left _ _) (Nat.le_max_left _ _)
 rw[e,Q0];have h1':=G3 (WQ n' (max n n') L' (max L L') (Nat.le_max_right _ _) (Nat.le_max_right _ _)) _ _ _ _ h1
 cases hdst:o.dst with
 |none=>rw[hdst]at h1';exact h1'
 |some d=>
  rw[hdst]at h1';show Jm (Nat.ble (d+1) N) (T.put d v _)=_;rw[Nat.ble_eq_true_of_le (hd d hdst),Tr.put_eq];exact h1'
theorem Gm{d:Nat}{op:Op}{ty:TypeId}{pos:String}{af:Array Edge}(hK:JC K T)(h:ZS P G K op st v st1)(hN:d<N)(hn: ∀T',JC ((d,v)::K) T'→WR P G N ops rest R T' st1):
  WR P G N ops (⟨some d,op,ty,pos,af,none⟩::rest) R T st:=
 Bk rfl (h T hK _ _ _ _ _) (fun e he=>by injection he with he;rw[←he];exact hN) (hn _ (hK.set d v))
theorem eR{op:Op}{ty:TypeId}{pos:String}{af:Array Edge}(hK:JC K T)(h:ZS P G K op st v st1)(hn:WR P G N ops rest R T st1):
  WR P G N ops (⟨none,op,ty,pos,af,none⟩::rest) R T st:=
 Bk rfl (h T hK _ _ _ _ _) (fun e he=>by cases he) hn
end ops
end
section
open Go
variable {a b:Int} {f:FuncId} {k:IntKind} {l:List AV} {st1:St} {t yt:TypeId} {u v:AV} {x y:Operand}

variable {P:Program} {G:Env} {K:List (Nat×AV)} {st:St}
theorem ZS.of{op:Op}(h: ∀T,JC K T→ ∀(c:Yv) (d:Option Tmp) (ty:TypeId) (pos:String) (af:Array Edge) (g:Option (Nat×Bool)),Ll P (JW G T) c ⟨d,op,ty,pos,af,g⟩ st=some (v,st1)):ZS P G K op st v st1:=
 fun T hT d ty pos af g=>⟨0,0,fun _ _ _ _=>h T hT _ d ty pos af g⟩
theorem QH(hx:Ut G K x=some v):ZS P G K (.move x) st v st:=.of fun T hT c d ty pos af g=>by
 show ret (JW G T x) st=_;rw[hT.JW hx];rfl
theorem Uv(hx:Ut G K x=some v):ZS P G K (.assign x) st v st:=.of fun T hT c d ty pos af g=>by
 show ret (JW G T x) st=_;rw[hT.JW hx];rfl
theorem zY{a b:Operand}{t:Bool}(hx:Ut G K x=some (.bool t))(ha:Ut G K a=some u)(hb:Ut G K b=some v):ZS P G K (.pick x a b) st (Qs t u v) st:=.of fun T hT c d ty pos af g=>by
 show(ob (JW G T x) fun c=>(match c with
  |.bool t=>ret (Qs t (JW G T a) (JW G T b)) st
  |_=>none))=_
 rw[hT.JW hx,Q0];show ret (Qs t (JW G T a) (JW G T b)) st=_;rw[hT.JW ha,hT.JW hb]
 cases t<;>rfl
theorem XB{op:BinOp}{w:AV}(hx:Ut G K x=some u)(hy:Ut G K y=some w)(h:b2 P op t u w=some v):ZS P G K (.binOp op t x y yt) st v st:=.of fun T hT c d ty pos af g=>by
 show ret (ob (JW G T x) fun x=>ob (JW G T y) fun y=>b2 P op t x y) st=_;rw[hT.JW hx,hT.JW hy,Q0,Q0,h];rfl
theorem DX(k:IntKind):LX k k=true:=decide_eq_true rfl
theorem VZ{op:BinOp}(h1:op≠ .shl)(h2:op≠ .shr):b2 P op t (.int k a) (.int k b)=vC op k a b:=by
 cases op<;>first
  |exact absurd rfl h1
  |exact absurd rfl h2
  |(show Jm (LX k k) _=_;rw[DX];rfl)
theorem R8(hx:Ut G K x=some (.int k a))(hy:Ut G K y=some (.int k b)):ZS P G K (.binOp .lss t x y yt) st (.bool (decide (a<b))) st:=
 XB hx hy (by rw[VZ Qz Qz];show some (AV.bool (GG a b))=_;rw[Vc])
theorem wI(hx:Ut G K x=some (.int k a))(hy:Ut G K y=some (.int k b)):ZS P G K (.binOp .gtr t x y yt) st (.bool (decide (b<a))) st:=
 XB hx hy (by rw[VZ Qz Qz];show some (AV.bool (GG b a))=_;rw[Vc])
theorem NM(a b:Int):(!decide (a<b))=decide (b≤a):=by
 by_cases h:a<b
 ·rw[decide_eq_true h,decide_eq_false Qq];rfl
 ·rw[decide_eq_false h,decide_eq_true Qq];rfl
theorem wH(hx:Ut G K x=some (.int k a))(hy:Ut G K y=some (.int k b)):ZS P G K (.binOp .leq t x y yt) st (.bool (decide (a≤b))) st:=
 XB hx hy (by rw[VZ Qz Qz];show some (AV.bool (!GG b a))=_;rw[Vc,NM])
theorem BK(hx:Ut G K x=some (.int k a))(hy:Ut G K y=some (.int k b)):ZS P G K (.binOp .geq t x y yt) st (.bool (decide (b≤a))) st:=
 XB hx hy (by rw[VZ Qz Qz];show some (AV.bool (!GG a b))=_;rw[Vc,NM])
theorem Ch(a b:Int):LY a b=decide (a=b):=by rw[Xi];exact Bool.beq_eq_decide_eq a b
theorem wJ(hx:Ut G K x=some (.int k a))(hy:Ut G K y=some (.int k b)):ZS P G K (.binOp .eql t x y yt) st (.bool (decide (a=b))) st:=
 XB hx hy (by rw[VZ Qz Qz];show some (AV.bool (LY a b))=_;rw[Ch])
theorem wF(hx:Ut G K x=some (.int k a))(hy:Ut G K y=some (.int k b)):ZS P G K (.binOp .neq t x y yt) st (.bool (!decide (a=b))) st:=
 XB hx hy (by rw[VZ Qz Qz];show some (AV.bool (!LY a b))=_;rw[Ch])
theorem wrap64{n:Int}(h1: -9223372036854775808≤n)(h2:n≤9223372036854775807):IntKind.i64.wrap n=n:=IntWalk.i64_in n Qq
theorem ua(hx:Ut G K x=some (.int .i64 a))(hy:Ut G K y=some (.int .i64 b))(h1: -9223372036854775808≤a+b)(h2:a+b≤9223372036854775807):ZS P G K (.binOp .add t x y yt) st (.int .i64 (a+b)) st:=
 XB hx hy (by rw[VZ Qz Qz];show WW (Wc .i64 (a+b)) (fun z=>some (AV.int .i64 z))=_;rw[ZT,Yz,wrap64 h1 h2])
theorem wD(hx:Ut G K x=some (.int .i64 a))(hy:Ut G K y=some (.int .i64 b))(h1: -9223372036854775808≤a-b)(h2:a-b≤9223372036854775807):ZS P G K (.binOp .sub t x y yt) st (.int .i64 (a-b)) st:=
 XB hx hy (by rw[VZ Qz Qz];show WW (Wc .i64 (a-b)) (fun z=>some (AV.int .i64 z))=_;rw[ZT,Yz,wrap64 h1 h2])
theorem JK{a b:List Nat}(hx:Ut G K x=some (.str a))(hy:Ut G K y=some (.str b)):ZS P G K (.binOp .eql t x y yt) st (.bool (decide (a=b))) st:=
 XB hx hy (by show some (AV.bool (DU a b))=_;rw[VY])
theorem V1{a b:List Nat}(hx:Ut G K x=some (.str a))(hy:Ut G K y=some (.str b)):ZS P G K (.binOp .neq t x y yt) st (.bool (!decide (a=b))) st:=
 XB hx hy (by show some (AV.bool (!DU a b))=_;rw[VY])
theorem QS{a b:List Nat}(hx:Ut G K x=some (.str a))(hy:Ut G K y=some (.str b))(hl:a.length+b.length≤9223372036854775807):ZS P G K (.binOp .add t x y yt) st (.str (a++b)) st:=
 XB hx hy (by
  show Qs (Nat.ble (Z9 a+Z9 b) ZV) (Vw (ZQ a b) fun l=>some (AV.str l)) none=_
  rw[UI,UI,Nat.ble_eq_true_of_le (show a.length+b.length≤ZV from hl),Jg,Yg,YN])
theorem R7{b:Bool}(hx:Ut G K x=some (.bool b)):ZS P G K (.unOp .not t x) st (.bool (!b)) st:=.of fun T hT c d ty pos af g=>by
 show ret (ob (JW G T x) fun x=>fL .not x) st=_;rw[hT.JW hx];rfl
theorem wE(hx:Ut G K x=some v)(hv:(match v with|.ptr _ _ _=>true|.fn _ _ _=>true|_=>false)=true):ZS P G K (.nilCheck x) st v st:=.of fun T hT c d ty pos af g=>by
 show ret (ob (JW G T x) fun v=>(match v with
  |.ptr c m off=>some (.ptr c m off)
  |.fn f a c=>some (.fn f a c)
  |_=>none)) st=_
 rw[hT.JW hx,Q0]
 cases v<;>first|rfl|cases hv
theorem I4{f c m off o:Nat}(ho:Jw P t f=some o)(hx:Ut G K x=some (.ptr c m off)):ZS P G K (.fieldAddr t x f) st (.ptr c m (off+o)) st:=.of fun T hT cc d ty pos af g=>by
 show ret (ob (JW G T x) fun x=>V5 P t x f) st=_;rw[hT.JW hx,Q0];show ret (ob (Jw P t f) fun o=>Yw (off+o) fun z=>some (AV.ptr c m z)) st=_;rw[ho,Q0,JH];rfl
theorem Ue{f:Nat}(hx:Ut G K x=some u)(h:Fh P t u f=some v):ZS P G K (.field t x f) st v st:=.of fun T hT cc d ty pos af g=>by
 show ret (ob (JW G T x) fun x=>Fh P t x f) st=_;rw[hT.JW hx,Q0,h];rfl
theorem R9{i:Nat}(hx:Ut G K x=some (.tup l))(h:nth l i=some v):ZS P G K (.extract x i) st v st:=.of fun T hT cc d ty pos af g=>by
 show ret (ob (JW G T x) fun v=>(match v with
  |.tup l=>nth l i
  |_=>none)) st=_
 rw[hT.JW hx,Q0];show ret (nth l i) st=_;rw[h];rfl
theorem Qo{i:Operand}{c m off len z z':Nat}{j:Nat}(he:Zo P t=some z)(hx:Ut G K x=some (.sl c m off len z'))(hi:Ut G K i=some (.int k (j:Int)))(hj:j<len):
  ZS P G K (.indexAddr t x i) st (.ptr c m (off+j *z)) st:=.of fun T hT cc d ty pos af g=>by
 show ret (ob (JW G T x) fun x=>ob (JW G T i) fun i=>Yi P t x i) st=_;rw[hT.JW hx,hT.JW hi,Q0,Q0];show ret (ob (Gq (j:Int)) fun i=>Jm (Nat.ble (i+1) len) (ob (Zo P t) fun z=>Yw (off+i *z) fun o=>some (AV.ptr c m o))) st=_;show ret (Jm (Nat.ble (j+1) len) (ob (Zo P t) fun z=>Yw (off+j *z) fun o=>some (AV.ptr c m o))) st=_;rw[Nat.ble_eq_true_of_le hj,he];show ret (Yw (off+j *z) fun o=>some (AV.ptr c m o)) st=_;rw[JH];rfl
theorem M4{i:Operand}{l:List Nat}{j b:Nat}(ht:P.underlying t=some .string)(hx:Ut G K x=some (.str l))(hi:Ut G K i=some (.int k (j:Int)))(hj:l[j]? =some b):
  ZS P G K (.index t x i) st (.int .u8 (b:Int)) st:=.of fun T hT cc d ty pos af g=>by
 show ret (ob (JW G T x) fun x=>ob (JW G T i) fun i=>Hz P t x i) st=_;rw[hT.JW hx,hT.JW hi,Q0,Q0];unfold Hz;simp only[ht];show ret (ob (nth l j) fun b=>some (AV.int .u8 (Int.ofNat b))) st=_;rw[Y7,hj];rfl
theorem RN(ht:P.underlying t=some .string):XF P [t]=false:=by unfold XF;simp only[ht]
theorem MG{e:TypeId}(ht:P.underlying t=some (.slice e)):XF P [t]=false:=by unfold XF;simp only[ht]
theorem X5{tys:Array TypeId}{l:List Nat}(ht:P.underlying t=some .string)(htys:tys= #[t])(hx:Ut G K x=some (.str l)):
  ZS P G K (.call {callee:=.builtin .len,args:= #[x],argTypes:=tys}) st (.int .i64 (l.length:Int)) st:=.of fun T hT cc d ty pos af g=>by
 subst htys;show Qs (XF P [t]) _ (ret (ob (JW G T x) fun x=>IE P [t] x) st)=_;rw[RN ht,QT,hT.JW hx,Q0];unfold IE;simp only[ht,JH,UI];rfl
def Ee:AV→Option Nat
 |.nils=>some 0
 |.slz _ _ _ _ _=>some 0
 |.sl0 _ _ _=>some 0
 |.sl _ _ _ n _=>some n
 |_=>none
theorem JJ{tys:Array TypeId}{e:TypeId}{n:Nat}(ht:P.underlying t=some (.slice e))(htys:tys= #[t])(hx:Ut G K x=some u)(hn:Ee u=some n):
  ZS P G K (.call {callee:=.builtin .len,args:= #[x],argTypes:=tys}) st (.int .i64 (n:Int)) st:=.of fun T hT cc d ty pos af g=>by
 subst htys;show Qs (XF P [t]) _ (ret (ob (JW G T x) fun x=>IE P [t] x) st)=_;rw[MG ht,QT,hT.JW hx,Q0]
 cases u<;>simp only[Ee]at hn<;>first|(cases hn;done)|skip
 all_goals
  injection hn with hn
  subst hn;unfold IE;simp only[ht];rfl
theorem Qe{args:Array Operand}{tys:Array TypeId}(ha:Ye (Ut G K) args.toList=some l)(h:Ev P G f l st v st1):
  ZS P G K (.call {callee:=.value (.func f),args:=args,argTypes:=tys}) st v st1:=fun T hT d ty pos af g=>by
 obtain⟨L,n,h⟩:=h;refine⟨L,n,fun L' n' hL hn=>?_⟩
 show(ob (JW G T (.func f)) fun v=>(match v with
  |.fn fid a cap=>ob (Ye (JW G T) args.toList) fun l=>U4 P G L' n' fid (ZQ a (ZQ l cap)) st
  |_=>none))=_
 show(ob (Ye (JW G T) args.toList) fun l=>U4 P G L' n' f (ZQ [] (ZQ l [])) st)=_;rw[hT.row _ _ ha,Q0,YN,YN,List.nil_append,List.append_nil];exact WQ n n' L L' hn hL _ _ _ _ h
theorem AS{g:Operand}{args:Array Operand}{tys:Array TypeId}{a cap:List AV}(hg:Ut G K g=some (.fn f a cap))(ha:Ye (Ut G K) args.toList=some l)(h:Ev P G f (a++(l++cap)) st v st1):
  ZS P G K (.call {callee:=.value g,args:=args,argTypes:=tys}) st v st1:=fun T hT d ty pos af gg=>by
 obtain⟨L,n,h⟩:=h;refine⟨L,n,fun L' n' hL hn=>?_⟩
 show(ob (JW G T g) fun v=>(match v with
  |.fn fid a cap=>ob (Ye (JW G T) args.toList) fun l=>U4 P G L' n' fid (ZQ a (ZQ l cap)) st
  |_=>none))=_
 rw[hT.JW hg,Q0];show(ob (Ye (JW G T) args.toList) fun l=>U4 P G L' n' f (ZQ a (ZQ l cap)) st)=_;rw[hT.row _ _ ha,Q0,YN,YN];exact WQ n n' L L' hn hL _ _ _ _ h
theorem LN{first cap:Array Operand}{a c:List AV}(ha:Ye (Ut G K) first.toList=some a)(hc:Ye (Ut G K) cap.toList=some c):ZS P G K (.makeFunc (.func f) first cap) st (.fn f a c) st:=.of fun T hT cc d ty pos af g=>by
 show ret (ob (Ye (JW G T) first.toList) fun l=>ob (Ye (JW G T) cap.toList) fun r=>some (AV.fn f l r)) st=_;rw[hT.row _ _ ha,hT.row _ _ hc];rfl
theorem Je(hx:Ut G K x=some u)(h:J3 P t u st.h.get=some v):ZS P G K (.load t x) st v st:=.of fun T hT cc d ty pos af g=>by
 show(ob (JW G T x) fun x=>ret (J3 P t x st.h.get) st)=_;rw[hT.JW hx,Q0,h];rfl
theorem jZ{lo hi:Option Operand}(hx:Ut G K x=some u)(h: ∀T,JC K T→ES P t u (JW G T) lo hi=some v):ZS P G K (.slice t x lo hi none) st v st:=.of fun T hT cc d ty pos af g=>by
 show ret (ob (JW G T x) fun x=>ES P t x (JW G T) lo hi) st=_;rw[hT.JW hx,Q0,h T hT];rfl
theorem NJ{s d:TypeId}(hx:Ut G K x=some u)(h:GW P s d u st.h.get=some v):ZS P G K (.convert s d x) st v st:=.of fun T hT cc dd ty pos af g=>by
 show ret (ob (JW G T x) fun x=>GW P s d x st.h.get) st=_;rw[hT.JW hx,Q0,h];rfl

theorem vt{fn:Func}{c:Code}{N:Nat}{rs:List ResultVar}{args:List AV}{Q:AV→St→Prop}(hs:G.s f=none)(hf:P.funcs[f]? =some fn)(hb:fn.body=some c)(hN:fn.ntmps=N)(hr:fn.results.toList=rs)(hname:(fn.name== "runtime.NumGoroutine")=false)(hl:args.length≤N)
  (h: ∀T,(∀t,YW T t=(args[t]?).getD (.tup []))→W P G N c (fun x T st=>(x=.nor∨x=.ret)∧ ∃v,JF P rs T st=some v∧Q v st) T st): ∃v st',Ev P G f args st v st'∧Q v st':=by
 obtain⟨T,hT1,hT2⟩:=Bf args;obtain⟨L,n,x,T',st',h1,hx,v,h2,h3⟩:=h T hT2;refine⟨v,st',⟨L,n+1,?_⟩,h3⟩;show(Option.rec (ob (IU P f) fun q=>Jm (Nat.ble (Z9 args) q.2.1) (Fv args fun T=>KM (codeF P G (U4 P G L n) q.2.1 L q.1 T st) fun T st=>ob (JF P q.2.2 T st) fun v=>some (v,st))) (fun sm=>sm args st) (G.s f):Option (AV×St))=some (v,st');rw[hs];show(ob (IU P f) fun q=>Jm (Nat.ble (Z9 args) q.2.1) (Fv args fun T=>KM (codeF P G (U4 P G L n) q.2.1 L q.1 T st) fun T st=>ob (JF P q.2.2 T st) fun v=>some (v,st)))=some (v,st')
 have hfn:IU P f=some (c,N,rs):=by
  unfold IU;rw[hf];simp only[hb,hname,hN,hr];rfl
 rw[hfn,Q0,UI,Nat.ble_eq_true_of_le hl,hT1,Uo];show KM (codeF P G (U4 P G L n) N L c T st) _=_;rw[h1];rcases hx with rfl|rfl
 ·show ob (JF P rs T' st') _=_;rw[h2];rfl
 ·show ob (JF P rs T' st') _=_;rw[h2];rfl
end
section
open Go
variable {af:Array Edge} {c k m n off:Nat} {l l':List AV} {pos:String} {t ty:TypeId} {v:AV}

structure Mem(h0:Hp)(n0:Nat)(X:List Nat)(st:St)(M:List (Nat×Nat×List AV)):Prop where
 fresh:QC st
 le:n0≤st.n
 base: ∀c,n0≤c→h0 c=none
 row: ∀c m l,(c,m,l)∈M→ ∃vs ms,st.h.get c=some (.row false ms)∧ms[m]? =some (l.length,vs,some l)
 lt: ∀c m l,(c,m,l)∈M→c<st.n
 own: ∀c m l,(c,m,l)∈M→n0≤c∨c∈X
 nodup:(M.map Prod.fst).Nodup
 old: ∀c,c<n0→c∉X→st.h.get c=h0 c
structure Qt(st st':St):Prop where
 fresh:QC st'
 le:st.n≤st'.n
 old: ∀c,c<st.n→st'.h.get c=st.h.get c
theorem Qt.refl{st:St}(h:QC st):Qt st st:=⟨h,Nat.le_refl _,fun _ _=>rfl⟩
theorem Mem.start{st:St}(h:QC st):Mem st.h.get st.n [] st []:=
 ⟨h,Nat.le_refl _,h,fun c m l h=>(by cases h),fun c m l h=>(by cases h),fun c m l h=>(by cases h),List.nodup_nil,fun _ _ _=>rfl⟩
section
variable {P:Program} {G:Env} {N:Nat} {h0:Hp} {n0:Nat} {X:List Nat} {st:St} {M:List (Nat×Nat×List AV)}
theorem Mem.qt{st0:St}(h:Mem st0.h.get st0.n [] st M):Qt st0 st:=⟨h.fresh,h.le,fun c hc=>h.old c hc Q3⟩
theorem Mem.less(h:Mem h0 n0 X st M){M':List (Nat×Nat×List AV)}(hs:M'.Sublist M):Mem h0 n0 X st M':=
 ⟨h.fresh,h.le,h.base,fun c m l hm=>h.row c m l (hs.subset hm),fun c m l hm=>h.lt c m l (hs.subset hm),fun c m l hm=>h.own c m l (hs.subset hm),h.nodup.sublist (hs.map _),h.old⟩
theorem Mem.quiet(h:Mem h0 n0 X st M){st':St}(q:Qt st st'):Mem h0 n0 X st' M:=
 ⟨q.fresh,Nat.le_trans h.le q.le,h.base,fun c m l hm=>by
  obtain⟨vs,ms,h1,h2⟩:=h.row c m l hm
  exact⟨vs,ms,by rw[q.old c (h.lt c m l hm)];exact h1,h2⟩,fun c m l hm=>Nat.lt_of_lt_of_le (h.lt c m l hm) q.le,h.own,h.nodup,fun c hc hx=>by rw[q.old c (Nat.lt_of_lt_of_le hc h.le)];exact h.old c hc hx⟩
theorem Mem.alloc(h:Mem h0 n0 X st M)(l:List AV):Mem h0 n0 X ⟨st.n+1,st.h.set st.n (.row false [(l.length,0,some l)])⟩ ((st.n,0,l)::M):=by
 have hg: ∀c,(st.h.set st.n (.row false [(l.length,0,some l)])).get c=if c=st.n then some (.row false [(l.length,0,some l)])else st.h.get c:=fun c=>Tr.F9 _ _ _ _
 refine⟨fun c hc=>?_,Nat.le_succ_of_le h.le,h.base,fun c m l' hm=>?_,fun c m l' hm=>?_,fun c m l' hm=>?_,?_,fun c hc hx=>?_⟩
 ·have hc:st.n+1≤c:=hc;show(st.h.set st.n _).get c=none;rw[hg,if_neg Qq];exact h.fresh c Qq
 ·rcases List.mem_cons.1 hm with e|hm
  ·injection e with e1 e2
   injection e2 with e2 e3
   subst e1 e2 e3;exact⟨0,_,(hg _).trans (if_pos rfl),rfl⟩
  ·obtain⟨vs,ms,h1,h2⟩:=h.row c m l' hm;have:=h.lt c m l' hm;exact⟨vs,ms,by show(st.h.set st.n _).get c=_;rw[hg,if_neg Qq];exact h1,h2⟩
 ·rcases List.mem_cons.1 hm with e|hm
  ·injection e with e1 e2;subst e1;exact Nat.lt_succ_self _
  ·exact Nat.lt_succ_of_lt (h.lt c m l' hm)
 ·rcases List.mem_cons.1 hm with e|hm
  ·injection e with e1 e2;subst e1;exact .inl h.le
  ·exact h.own c m l' hm
 ·rw[List.map_cons];refine List.nodup_cons.2 ⟨fun hm=>?_,h.nodup⟩;obtain⟨⟨c,m,l'⟩,h1,h2⟩:=List.mem_map.1 hm;have:=h.lt c m l' h1;simp only at h2;omega
 ·show(st.h.set st.n _).get c=_;have:=h.le;rw[hg,if_neg Qq];exact h.old c hc hx
theorem CZ{M:List (Nat×Nat×List AV)}(hk:M[k]? =some (c,m,l)):(M.set k (c,m,l')).map Prod.fst=M.map Prod.fst:=by
 apply List.ext_getElem?;intro i;rw[List.getElem?_map,List.getElem?_map,List.getElem?_set]
 by_cases h:k=i
 ·subst h;rw[if_pos rfl,hk];have:=(List.getElem?_eq_some_iff.1 hk).1;simp[this]
 ·rw[if_neg h]
theorem AW{M:List (Nat×Nat×List AV)}(hk:M[k]? =some (c,m,l))(hn:(M.map Prod.fst).Nodup){x:Nat×Nat×List AV}(hx:x∈M.set k (c,m,l')):
  x=(c,m,l')∨(x∈M∧x.1≠c):=by
 obtain⟨i,hi⟩:=List.getElem?_of_mem hx;rw[List.getElem?_set]at hi
 by_cases h:k=i
 ·subst h;have:=(List.getElem?_eq_some_iff.1 hk).1;simp[this]at hi;exact .inl hi.symm
 ·rw[if_neg h]at hi;refine .inr ⟨List.mem_of_getElem? hi,fun e=>h ?_⟩
  have h1:(M.map Prod.fst)[k]? =some c:=by rw[List.getElem?_map,hk];rfl
  have h2:(M.map Prod.fst)[i]? =some c:=by rw[List.getElem?_map,hi];simp[e]
  exact(List.getElem?_inj (List.getElem?_eq_some_iff.1 h1).1 hn).1 (h1.trans h2.symm)
theorem Mem.store(h:Mem h0 n0 X st M){w:AV}(hk:M[k]? =some (c,m,l))(hz:Xz P t=some n)(hn:(JU w).length=n)(hc:WT Jn (JU w)=true)(ho:X0 (JU w) off l=some l'):
  ∃st1,ER P t (.ptr c m off) w st=some (.tup [],st1)∧Mem h0 n0 X st1 (M.set k (c,m,l'))∧st1.n=st.n:=by
 have hm:=List.mem_of_getElem? hk;obtain⟨vs,ms,h1,h2⟩:=h.row c m l hm;have hlen:l'.length=l.length:=(WC _ _ _ _ ho).2.1
 have hr:rowOf st.h.get c m=some (l.length,vs,l,false,ms):=by
  unfold rowOf;rw[h1,Q0];show ob (nth ms m) _=_;rw[Y7,h2];rfl
 have e: ∃ms',ER P t (.ptr c m off) w st=some (.tup [],⟨st.n,st.h.set c (.row false ms')⟩)∧ms'[m]? =some (l.length,vs,some l'):=by
  unfold ER;simp only[hr,Q0,hz,UI,hn,Nat.beq_refl,Uo,hc,ho,Bool.not_false];refine⟨wh (l.length,vs,some l') (XE (vs+off) (vs+off+n) ms) m,by rw[Yg,Yg,X8],?_⟩;rw[SI,List.getElem?_set_self];rw[U3];exact(List.getElem?_eq_some_iff.1 h2).1
 obtain⟨ms',e1,e2⟩:=e
 have hg: ∀x,(st.h.set c (.row false ms')).get x=if x=c then some (.row false ms')else st.h.get x:=fun x=>Tr.F9 _ _ _ _
 refine⟨_,e1,⟨fun x hx=>?_,h.le,h.base,fun x y z hm'=>?_,fun x y z hm'=>?_,fun x y z hm'=>?_,?_,fun x hx hX=>?_⟩,rfl⟩
 ·show(st.h.set c _).get x=none;have:=h.lt c m l hm;have hx:st.n≤x:=hx;rw[hg,if_neg Qq];exact h.fresh x hx
 ·rcases AW hk h.nodup hm' with e|⟨h3,h4⟩
  ·injection e with e1 e2
   injection e2 with e2 e3
   subst e1 e2 e3;exact⟨vs,ms',(hg _).trans (if_pos rfl),by rw[hlen];exact e2⟩
  ·obtain⟨vs',ms2,h5,h6⟩:=h.row x y z h3;exact⟨vs',ms2,by show(st.h.set c _).get x=_;rw[hg,if_neg h4];exact h5,h6⟩
 ·rcases AW hk h.nodup hm' with e|⟨h3,h4⟩
  ·injection e with e1 e2;subst e1;exact h.lt _ m l hm
  ·exact h.lt x y z h3
 ·rcases AW hk h.nodup hm' with e|⟨h3,h4⟩
  ·injection e with e1 e2;subst e1;exact h.own _ m l hm
  ·exact h.own x y z h3
 ·rw[CZ hk];exact h.nodup
 ·show(st.h.set c _).get x=_
  have hxc:x≠c:=fun e=>by
   subst e;rcases h.own x m l hm with h5|h5
   ·omega
   ·exact hX h5
  rw[hg,if_neg hxc];exact h.old x hx hX
theorem Mem.load(h:Mem h0 n0 X st M)(hk:M[k]? =some (c,m,l))(hp:Xc P t l off=some v):J3 P t (.ptr c m off) st.h.get=some v:=by
 obtain⟨vs,ms,h1,h2⟩:=h.row c m l (List.mem_of_getElem? hk);show ob (rowOf st.h.get c m) _=_;unfold rowOf;rw[h1,Q0];show ob (ob (nth ms m) _) _=_;rw[Y7,h2];exact hp

variable {ops rest:List Oper} {K:List (Nat×AV)} {R:Tr AV→St→Prop} {T:Tr AV}
theorem Ie{d:Nat}(hK:JC K T)(hM:Mem h0 n0 X st M)(hz:zeroOf P t=some l)(hN:d<N)
  (hn: ∀(c:Nat) T' st',JC ((d,.ptr c 0 0)::K) T'→Mem h0 n0 X st' ((c,0,l)::M)→WR P G N ops rest R T' st'):WR P G N ops (⟨some d,.alloc t,ty,pos,af,none⟩::rest) R T st:=by
 refine Gm (v:=.ptr st.n 0 0) (st1:=⟨st.n+1,st.h.set st.n (.row false [(l.length,0,some l)])⟩) hK (.of fun T hT c d ty pos af g=>?_) hN fun T' hT'=>hn st.n T' _ hT' (hM.alloc l);show Ar P t st=_;unfold Ar;rw[hz,Q0,ZH]
theorem Y2{d:Nat}{x:Operand}(hK:JC K T)(hM:Mem h0 n0 X st M)(hx:Ut G K x=some v)(hc:WT Jn (JU v)=true)(hN:d<N)
  (hn: ∀(c:Nat) T' st',JC ((d,.ptr c 0 0)::K) T'→Mem h0 n0 X st' ((c,0,JU v)::M)→WR P G N ops rest R T' st'):WR P G N ops (⟨some d,.box t x,ty,pos,af,none⟩::rest) R T st:=by
 refine Gm (v:=.ptr st.n 0 0) (st1:=⟨st.n+1,st.h.set st.n (.row false [((JU v).length,0,some (JU v))])⟩) hK (.of fun T hT c d ty pos af g=>?_) hN fun T' hT'=>hn st.n T' _ hT' (hM.alloc _);show(ob (JW G T x) fun x=>yL x st)=_;rw[hT.JW hx,Q0];unfold yL;rw[hc,Uo,ZH]
theorem QX{x y:Operand}{w:AV}(hK:JC K T)(hM:Mem h0 n0 X st M)(hx:Ut G K x=some (.ptr c m off))(hy:Ut G K y=some w)(hk:M[k]? =some (c,m,l))(hz:Xz P t=some n)(hn:(JU w).length=n)
  (hc:WT Jn (JU w)=true) (ho:X0 (JU w) off l=some l') (hr: ∀st',Mem h0 n0 X st' (M.set k (c,m,l'))→WR P G N ops rest R T st'):WR P G N ops (⟨none,.store t x y,ty,pos,af,none⟩::rest) R T st:=by
 obtain⟨st1,h1,h2,_⟩:=hM.store hk hz hn hc ho;refine eR (v:=.tup []) (st1:=st1) hK (.of fun T hT c d ty pos af g=>?_) (hr st1 h2);show(ob (JW G T x) fun x=>ob (JW G T y) fun y=>ER P t x y st)=_;rw[hT.JW hx,hT.JW hy,Q0,Q0,h1]
end
theorem QO{P:Program}{r:List AV}(h:tk P t=.agg n)(hl:W7 n (Ej off l) (fun r=>some (AV.agg r))=some (.agg r)):Xc P t l off=some (.agg r):=by
 unfold Xc;rw[h];exact hl
theorem Qg{P:Program}(h:tk P t=.one)(hl:nth l off=some v):Xc P t l off=some v:=by
 unfold Xc;rw[h];exact hl
end
section
open Go
variable {af:Array Edge} {d j t:Nat} {op:Op} {pol:Bool} {pos:String} {ty:TypeId}

variable {P:Program} {G:Env} {N:Nat} {st:St} {K:List (Nat×AV)} {T:Tr AV} {ops rest:List Oper} {R:Tr AV→St→Prop}
theorem vM{x:Bool}{st1:St}(hK:JC K T)(h:ZS P G K op st (.bool x) st1)(hN:d<N)(hn: ∀(b:Bool) T',x=b→JC ((d,.bool b)::K) T'→WR P G N ops rest R T' st1):
 WR P G N ops (⟨some d,op,ty,pos,af,none⟩::rest) R T st:=Gm hK h hN fun T' hT'=>hn x T' rfl hT'
theorem VF{d:Option Nat}{b:Bool}(hK:JC K T)(ht:YS ops j=some t)(hb:K.lookup t=some (.bool b)):Ui ops ⟨d,op,ty,pos,af,some (j,pol)⟩ T=(b==pol):=by
 unfold Ui;simp only[ht];rw[show YW T t=.bool b from hK t _ hb]
 cases b<;>cases pol<;>rfl
theorem va{v:AV}{st1:St}(hK:JC K T)(ht:YS ops j=some t)(hb:K.lookup t=some (.bool pol))(h:ZS P G K op st v st1)(hN:d<N)
  (hn: ∀T',JC ((d,v)::K) T'→WR P G N ops rest R T' st1):WR P G N ops (⟨some d,op,ty,pos,af,some (j,pol)⟩::rest) R T st:=
 Bk (by rw[VF hK ht hb];cases pol<;>rfl) (h T hK _ _ _ _ _) (fun e he=>by injection he with he;rw[←he];exact hN) (hn _ (hK.set d v))
theorem eQ{b:Bool}(hK:JC K T)(ht:YS ops j=some t)(hb:K.lookup t=some (.bool b))(hne:(b==pol)=false)(hN:d<N)
  (hn: ∀T',JC ((d,.tup [])::K) T'→WR P G N ops rest R T' st):WR P G N ops (⟨some d,op,ty,pos,af,some (j,pol)⟩::rest) R T st:=by
 obtain⟨L',n',T',st',h1,h2⟩:=hn _ (hK.set d (.tup []));refine⟨L',n',T',st',?_,h2⟩;show(ob (UP P G _ ops _ T st) fun r=>Xm N (some d) r.1 T fun T=>tl (AQ P G _ N ops rest T r.2))=_;unfold UP;rw[VF hK ht hb,hne,QT,Q0];show Jm (Nat.ble (d+1) N) (T.put d (.tup []) _)=_;rw[Nat.ble_eq_true_of_le hN,Tr.put_eq];exact h1
theorem wG{x y:Operand}{tys:Array TypeId}{a b:Int}{k:IntKind}(hx:Ut G K x=some (.int k a))(hy:Ut G K y=some (.int k b)):ZS P G K (.call {callee:=.builtin .max,args:= #[x,y],argTypes:=tys}) st (.int k (max a b)) st:=.of fun T hT cc d ty pos af g=>by
 show ret (ob (Ye (JW G T) [x,y]) (eM true)) st=_;rw[Uf,hT.JW hx,Q0,Uf,hT.JW hy,Q0];show ret (some (AV.int k (Qs (GG a b) b a))) st=_;rw[Vc]
 by_cases h:a<b
 ·rw[decide_eq_true h,Jg,show max a b=b by omega];rfl
 ·rw[decide_eq_false h,QT,show max a b=a by omega];rfl
theorem BJ{x y:Operand}{tys:Array TypeId}{a b:Int}{k:IntKind}(hx:Ut G K x=some (.int k a))(hy:Ut G K y=some (.int k b)):ZS P G K (.call {callee:=.builtin .min,args:= #[x,y],argTypes:=tys}) st (.int k (min a b)) st:=.of fun T hT cc d ty pos af g=>by
 show ret (ob (Ye (JW G T) [x,y]) (eM false)) st=_;rw[Uf,hT.JW hx,Q0,Uf,hT.JW hy,Q0];show ret (some (AV.int k (Qs (GG b a) b a))) st=_;rw[Vc]
 by_cases h:b<a
 ·rw[decide_eq_true h,Jg,show min a b=b by omega];rfl
 ·rw[decide_eq_false h,QT,show min a b=a by omega];rfl
end
section
open Go
variable {j n t:Nat} {pol:Bool}

variable {P:Program} {G:Env} {N:Nat} {st:St} {K:List (Nat×AV)} {T:Tr AV} {ops:List Oper} {rest:List (Nat×Oper×Nat)} {R:Tr AV→St→Prop} {sn:List St}
def Xk(ops:List Oper)(q:Nat×Nat):Nat×Oper×Nat:=(q.1,(ops[q.1]?).getD ⟨none,.move (.tmp 0),0,"",#[],none⟩,q.2)
theorem VK{ops:List Oper}{i:Nat}{o:Oper}(ho:ops[i]? =some o)(r:List (Nat×Nat)):((i,n)::r).map (Xk ops)=(i,o,n)::r.map (Xk ops):=by
 rw[List.map_cons];unfold Xk;rw[ho];rfl
theorem QR{id:Nat}{ops:Array Oper}{Q:Ex→Tr AV→St→Prop}{l:List (Nat×Nat)}(hp:Va P ops.toList=some (l.map (Xk ops.toList)))
 (h:WD P G N ops.toList (l.map (Xk ops.toList)) (Q .nor) T st [st]):W P G N (.region id ops true) Q T st:=vP hp h
theorem QY(h:R T st):WD P G N ops (([]:List (Nat×Nat)).map (Xk ops)) R T st sn:=⟨0,0,T,st,rfl,h⟩
theorem EJ{i:Nat}{o:Oper}{v:AV}{st1:St}(hw:Ui ops o T=true)(h: ∃L n,∀L' n',L≤L'→n≤n'→Ll P (JW G T) (U4 P G L' n') o st=some (v,st1))(ha:again P G o T v n sn.tail=true)(hd: ∀d,o.dst=some d→d<N)
  (hn:WD P G N ops rest R (match o.dst with|some d=>T.set d v|none=>T) st1 (Qs (Nat.beq (QZ P o.op) 3) (st1::sn) sn)):WD P G N ops ((i,o,n)::rest) R T st sn:=by
 obtain⟨L,m,h⟩:=h;obtain⟨L',m',T',st',h1,h2⟩:=hn;refine⟨max L L',max m m',T',st',?_,h2⟩
 show(ob (UP P G _ ops o T st) fun r=>Jm (Qs (Ui ops o T) (again P G o T r.1 n (List.rec [] (fun _ t _=>t) sn)) true)
  (Xm N o.dst r.1 T fun T=>tl (Ep P G _ N ops rest T r.2 (Qs (Nat.beq (QZ P o.op) 3) (r.2::sn) sn))))=_
 have e:UP P G (U4 P G (max L L') (max m m')) ops o T st=some (v,st1):=by
  unfold UP;rw[hw,Jg];exact h _ _ (Nat.le_max_left _ _) (Nat.le_max_left _ _)
 rw[e,Q0,hw,Jg,Dq];show Jm (again P G o T v n sn.tail) _=_;rw[ha,Uo];have h1':=G4 (WQ m' (max m m') L' (max L L') (Nat.le_max_right _ _) (Nat.le_max_right _ _)) _ _ _ _ _ h1
 cases hdst:o.dst with
 |none=>rw[hdst]at h1';exact h1'
 |some d=>
  rw[hdst]at h1';show Jm (Nat.ble (d+1) N) (T.put d v _)=_;rw[Nat.ble_eq_true_of_le (hd d hdst),Tr.put_eq];exact h1'
section
variable {r:List (Nat×Nat)} {i d:Nat} {op:Op} {ty:TypeId} {pos:String} {af:Array Edge} {v:AV} {st1:St}
theorem Sz(ho:ops[i]? =some ⟨some d,op,ty,pos,af,none⟩)(hK:JC K T)(h:ZS P G K op st v st1)(hk:Nat.beq (QZ P op) 3=false)(hN:d<N)(hn: ∀T',JC ((d,v)::K) T'→WD P G N ops (r.map (Xk ops)) R T' st1 sn):
  WD P G N ops (((i,0)::r).map (Xk ops)) R T st sn:=by
 rw[VK ho]
 exact EJ rfl (h T hK _ _ _ _ _) rfl (fun e he=>by injection he with he;rw[←he];exact hN) (by
  show WD P G N ops (r.map (Xk ops)) R _ st1 (Qs (Nat.beq (QZ P op) 3) _ _)
  rw[hk];exact hn _ (hK.set d v))
theorem PU(ho:ops[i]? =some ⟨some d,op,ty,pos,af,none⟩)(hK:JC K T)(h:ZS P G K op st v st1)(hk:Nat.beq (QZ P op) 3=true)(hN:d<N)(hn: ∀T',JC ((d,v)::K) T'→WD P G N ops (r.map (Xk ops)) R T' st1 (st1::sn)):
  WD P G N ops (((i,0)::r).map (Xk ops)) R T st sn:=by
 rw[VK ho]
 exact EJ rfl (h T hK _ _ _ _ _) rfl (fun e he=>by injection he with he;rw[←he];exact hN) (by
  show WD P G N ops (r.map (Xk ops)) R _ st1 (Qs (Nat.beq (QZ P op) 3) _ _)
  rw[hk];exact hn _ (hK.set d v))
theorem Q8{t:TypeId}{x:Operand}{u:AV}{s0 s1:St}(ho:ops[i]? =some ⟨some d,.load t x,ty,pos,af,none⟩)(hK:JC K T)(hx:Ut G K x=some u)(h:J3 P t u st.h.get=some v)(h1:J3 P t u s1.h.get=some v)(he:LW v v=true)(hk:Nat.beq (QZ P (.load t x)) 3=false)(hN:d<N)
  (hn: ∀T',JC ((d,v)::K) T'→WD P G N ops (r.map (Xk ops)) R T' st (s0::s1::sn)):WD P G N ops (((i,1)::r).map (Xk ops)) R T st (s0::s1::sn):=by
 rw[VK ho]
 exact EJ rfl (Je hx h T hK _ _ _ _ _) (by
  show Qs (Option.rec false (fun x=>Option.rec false (fun u=>LW u v) (J3 P t x s1.h.get)) (JW G T x)) true false=true;rw[hK.JW hx];show Qs (Option.rec false (fun u=>LW u v) (J3 P t u s1.h.get)) true false=true;rw[h1];show Qs (LW v v) true false=true
  rw[he];rfl) (fun e he=>by injection he with he;rw[←he];exact hN) (by
  show WD P G N ops (r.map (Xk ops)) R _ st (Qs (Nat.beq (QZ P (.load t x)) 3) _ _)
  rw[hk];exact hn _ (hK.set d v))
theorem vN{x:Bool}(ho:ops[i]? =some ⟨some d,op,ty,pos,af,none⟩)(hK:JC K T)(h:ZS P G K op st (.bool x) st1)(hk:Nat.beq (QZ P op) 3=false)(hN:d<N)(hn: ∀(b:Bool) T',x=b→JC ((d,.bool b)::K) T'→WD P G N ops (r.map (Xk ops)) R T' st1 sn):
 WD P G N ops (((i,0)::r).map (Xk ops)) R T st sn:=Sz ho hK h hk hN fun T' hT'=>hn x T' rfl hT'
theorem eS(ho:ops[i]? =some ⟨some d,op,ty,pos,af,some (j,pol)⟩)(hK:JC K T)(ht:YS ops j=some t)(hb:K.lookup t=some (.bool pol))(h:ZS P G K op st v st1)(hk:Nat.beq (QZ P op) 3=false)(hN:d<N)
  (hn: ∀T',JC ((d,v)::K) T'→WD P G N ops (r.map (Xk ops)) R T' st1 sn):WD P G N ops (((i,0)::r).map (Xk ops)) R T st sn:=by
 rw[VK ho]
 exact EJ (by rw[VF hK ht hb];cases pol<;>rfl) (h T hK _ _ _ _ _) rfl (fun e he=>by injection he with he;rw[←he];exact hN) (by
  show WD P G N ops (r.map (Xk ops)) R _ st1 (Qs (Nat.beq (QZ P op) 3) _ _)
  rw[hk];exact hn _ (hK.set d v))
theorem vO(ho:ops[i]? =some ⟨some d,op,ty,pos,af,some (j,pol)⟩)(hK:JC K T)(ht:YS ops j=some t)(hb:K.lookup t=some (.bool pol))(h:ZS P G K op st v st1)(hk:Nat.beq (QZ P op) 3=true)(hN:d<N)
  (hn: ∀T',JC ((d,v)::K) T'→WD P G N ops (r.map (Xk ops)) R T' st1 (st1::sn)):WD P G N ops (((i,0)::r).map (Xk ops)) R T st sn:=by
 rw[VK ho]
 exact EJ (by rw[VF hK ht hb];cases pol<;>rfl) (h T hK _ _ _ _ _) rfl (fun e he=>by injection he with he;rw[←he];exact hN) (by
  show WD P G N ops (r.map (Xk ops)) R _ st1 (Qs (Nat.beq (QZ P op) 3) _ _)
  rw[hk];exact hn _ (hK.set d v))
theorem eT{b:Bool}(ho:ops[i]? =some ⟨some d,op,ty,pos,af,some (j,pol)⟩)(hK:JC K T)(ht:YS ops j=some t)(hb:K.lookup t=some (.bool b))(hne:(b==pol)=false)(hN:d<N)
  (hn: ∀T' sn',JC ((d,.tup [])::K) T'→WD P G N ops (r.map (Xk ops)) R T' st sn'):WD P G N ops (((i,n)::r).map (Xk ops)) R T st sn:=by
 rw[VK ho];obtain⟨L',n',T',st',h1,h2⟩:=hn _ (Qs (Nat.beq (QZ P op) 3) (st::sn) sn) (hK.set d (.tup []));refine⟨L',n',T',st',?_,h2⟩;show(ob (UP P G _ ops _ T st) fun x=>Jm (Qs (Ui ops _ T) _ true) (Xm N (some d) x.1 T fun T=>tl (Ep P G _ N ops (r.map (Xk ops)) T x.2 (Qs (Nat.beq (QZ P op) 3) (x.2::sn) sn))))=_;unfold UP;rw[VF hK ht hb,hne,QT,Q0,QT,Uo];show Jm (Nat.ble (d+1) N) (T.put d (.tup []) _)=_;rw[Nat.ble_eq_true_of_le hN,Tr.put_eq];exact h1
end
end
section
open Go

variable {P:Program} {G:Env} {N:Nat} {st:St} {K:List (Nat×AV)} {T:Tr AV} {ops:List Oper} {r:List (Nat×Nat)} {R:Tr AV→St→Prop} {sn:List St} {h0:Hp} {n0:Nat} {X:List Nat} {M:List (Nat×Nat×List AV)}
theorem Ih{i d:Nat}{t ty:TypeId}{pos:String}{af:Array Edge}{l:List AV}(ho:ops[i]? =some ⟨some d,.alloc t,ty,pos,af,none⟩)(hK:JC K T)(hM:Mem h0 n0 X st M)(hz:zeroOf P t=some l)(hN:d<N)
  (hn: ∀(c:Nat) T' st',JC ((d,.ptr c 0 0)::K) T'→Mem h0 n0 X st' ((c,0,l)::M)→WD P G N ops (r.map (Xk ops)) R T' st' sn):WD P G N ops (((i,0)::r).map (Xk ops)) R T st sn:=by
 refine Sz (v:=.ptr st.n 0 0) (st1:=⟨st.n+1,st.h.set st.n (.row false [(l.length,0,some l)])⟩) ho hK (.of fun T hT c d ty pos af g=>?_) rfl hN fun T' hT'=>hn st.n T' _ hT' (hM.alloc l);show Ar P t st=_;unfold Ar;rw[hz,Q0,ZH]
theorem Ju{i:Nat}{t ty:TypeId}{pos:String}{af:Array Edge}{x y:Operand}{w:AV}{k c m off n:Nat}{l l':List AV}(ho:ops[i]? =some ⟨none,.store t x y,ty,pos,af,none⟩)(hK:JC K T)(hM:Mem h0 n0 X st M)(hx:Ut G K x=some (.ptr c m off))(hy:Ut G K y=some w)
  (hk:M[k]? =some (c,m,l)) (hz:Xz P t=some n) (hn:(JU w).length=n) (hc:WT Jn (JU w)=true) (hv:X0 (JU w) off l=some l')
  (hr: ∀st',Mem h0 n0 X st' (M.set k (c,m,l'))→WD P G N ops (r.map (Xk ops)) R T st' (st'::sn)):WD P G N ops (((i,0)::r).map (Xk ops)) R T st sn:=by
 obtain⟨st1,h1,h2,_⟩:=hM.store hk hz hn hc hv;rw[VK ho]
 have hS:ZS P G K (.store t x y) st (.tup []) st1:=.of fun T hT c d ty pos af g=>by
  show(ob (JW G T x) fun x=>ob (JW G T y) fun y=>ER P t x y st)=_;rw[hT.JW hx,hT.JW hy,Q0,Q0,h1]
 exact EJ rfl (hS T hK _ _ _ _ _) rfl (fun e he=>by cases he) (hr st1 h2)
end
end Go.Proofs.YtmgkfceomhagaaaGreatDoor
