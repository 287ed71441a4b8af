/-
  Several texts in one: XSymA, XSymB, XSymC, XSymD, XSymE, XSymF, XSymG.
-/
import Derived.Test.YtildagdnomiahaaGreatDoorQvEv3
set_option linter.unusedSimpArgs false
set_option linter.unusedVariables false
namespace Go.Proofs.YtildagdnomiahaaGreatDoor
section
open Go
variable {N:Nat} {T:Tr AV} {ops:List Oper}

def fR(c c':JO):Prop:= ∀f args st r,c f args st=some r→c' f args st=some r
theorem UB{α β:Type}{x:Option α}{k k':α→Option β}{r:β}(h:ob x k=some r)(hk: ∀a,x=some a→k a=some r→k' a=some r):ob x k'=some r:=by
 obtain⟨a,ha,h⟩:=Qk h;rw[ha];exact hk a ha h
theorem Wg{β:Type}{b:Bool}{k k':Option β}{r:β}(h:Q6 b k=some r)(hk:k=some r→k'=some r):Q6 b k'=some r:=by
 obtain⟨hb,h⟩:=Qp h;subst hb;exact hk h
variable {P:Program} {G:Env}
theorem jQ{R:Operand→Option AV}{c c':JO}(hc:fR c c'){o:Oper}{st:St}{r:AV×St}(h:IJ P R c o st=some r):IJ P R c' o st=some r:=by
 obtain⟨dst,op,ty,pos,af,g⟩:=o
 cases op with
 |call cl=>
  obtain⟨callee,args,tys⟩:=cl
  cases callee with
  |value f=>
   have h:(ob (R f) fun v=>(match v with
    |.fn fid a cap=>ob (JB R args.toList) fun l=>c fid (Yk a (Yk l cap)) st
    |_=>none))=some r:=h
   show(ob (R f) fun v=>(match v with
    |.fn fid a cap=>ob (JB R args.toList) fun l=>c' fid (Yk a (Yk l cap)) st
    |_=>none))=some r
   refine UB h fun v _ h=>?_
   cases v with
   |fn fid a cap=>exact UB h fun l _ h=>hc _ _ _ _ h
   |_=>cases h
  |invoke f name=>
   have h:(ob (R f) fun v=>(match v with
    |.ifc t u=>ob (Vw P t name) fun fid=>ob (JB R args.toList) fun l=>c fid (u::l) st
    |_=>none))=some r:=h
   show(ob (R f) fun v=>(match v with
    |.ifc t u=>ob (Vw P t name) fun fid=>ob (JB R args.toList) fun l=>c' fid (u::l) st
    |_=>none))=some r
   refine UB h fun v _ h=>?_
   cases v with
   |ifc t u=>exact UB h fun fid _ h=>UB h fun l _ h=>hc _ _ _ _ h
   |_=>cases h
  |_=>exact h
 |_=>exact h
theorem Lk{c c':JO}(hc:fR c c'){o:Oper}{st:St}{r:AV×St}(h:Jz P G c ops o T st=some r):Jz P G c' ops o T st=some r:=by
 unfold Jz at h ⊢
 cases hw:QX ops o T with
 |true=>rw[hw]at h;exact jQ hc h
 |false=>rw[hw]at h;exact h
theorem Ak{β:Type}{d:Option Nat}{v:AV}{k k':Tr AV→Option β}{r:β}(h:Yy N d v T k=some r)(hk: ∀T,k T=some r→k' T=some r):Yy N d v T k'=some r:=by
 cases d with
 |none=>exact hk _ h
 |some t=>
  have h:Q6 (Nat.ble (t+1) N) (T.put t v k)=some r:=h;show Q6 (Nat.ble (t+1) N) (T.put t v k')=some r;refine Wg h fun h=>?_;rw[Tr.put_eq]at h ⊢;exact hk _ h
theorem OK{c c':JO}(hc:fR c c'): ∀(l:List Oper) (T:Tr AV) (st:St) (r:Tr AV×St),Ez P G c N ops l T st=some r→Ez P G c' N ops l T st=some r:=by
 intro l
 induction l with
 |nil=>intro T st r h;exact h
 |cons o l ih=>
  intro T st r h;have h:(ob (Jz P G c ops o T st) fun r=>Yy N o.dst r.1 T fun T=>tl (Ez P G c N ops l T r.2))=some r:=h;show(ob (Jz P G c' ops o T st) fun r=>Yy N o.dst r.1 T fun T=>tl (Ez P G c' N ops l T r.2))=some r;obtain⟨a,ha,h⟩:=Qk h;rw[Lk hc ha,Qg];exact Ak h fun T h=>ih T a.2 r h
theorem OL{c c':JO}(hc:fR c c'): ∀(l:List (Nat×Oper×Nat)) (T:Tr AV) (st:St) (sn:List St) (r:Tr AV×St),Vm P G c N ops l T st sn=some r→Vm P G c' N ops l T st sn=some r:=by
 intro l
 induction l with
 |nil=>intro T st sn r h;exact h
 |cons q l ih=>
  intro T st sn r h
  have h:(ob (Jz P G c ops q.2.1 T st) fun r=>Q6 (Qj (QX ops q.2.1 T) (again P G q.2.1 T r.1 q.2.2 (List.rec [] (fun _ t _=>t) sn)) true)
   (Yy N q.2.1.dst r.1 T fun T=>tl (Vm P G c N ops l T r.2 (Qj (Nat.beq (Qz P q.2.1.op) 3) (r.2::sn) sn))))=some r:=h
  show(ob (Jz P G c' ops q.2.1 T st) fun r=>Q6 (Qj (QX ops q.2.1 T) (again P G q.2.1 T r.1 q.2.2 (List.rec [] (fun _ t _=>t) sn)) true)
   (Yy N q.2.1.dst r.1 T fun T=>tl (Vm P G c' N ops l T r.2 (Qj (Nat.beq (Qz P q.2.1.op) 3) (r.2::sn) sn))))=some r
  obtain⟨a,ha,h⟩:=Qk h;rw[Lk hc ha,Qg];refine Wg h fun h=>Ak h fun T h=>ih T a.2 _ r h
theorem LJ{f f':Tr AV→St→Option (Ex×Tr AV×St)}(hf: ∀T st r,f T st=some r→f' T st=some r): ∀(L L':Nat),L≤L'→ ∀T st r,Hg L f T st=some r→Hg L' f' T st=some r:=by
 intro L
 induction L with
 |zero=>intro L' _ T st r h;cases h
 |succ L ih=>
  intro L' hL T st r h;obtain⟨M,rfl⟩: ∃M,L'=M+1:=⟨L'-1,by omega⟩;have h:ZD (f T st) (Hg L f)=some r:=h;show ZD (f' T st) (Hg M f')=some r;rcases FQ h with⟨T1,st1,h1,h2⟩|⟨h1,h2⟩
  ·rw[hf _ _ _ h1];exact ih M Qd _ _ _ h2
  ·rw[hf _ _ _ h1];obtain⟨e,T,st⟩:=r
   cases e with
   |nor=>exact absurd rfl h2
   |exit i=>rfl
   |ret=>rfl
theorem RT{ts te:TypeId}{cap:AV}{ps:List Tmp}{fa fb fa' fb':Tr AV→St→Option (Ex×Tr AV×St)}(ha: ∀T st r,fa T st=some r→fa' T st=some r)(hb: ∀T st r,fb T st=some r→fb' T st=some r):
  ∀(n:Nat) (st:St) (r:Ex×Tr AV×St),V5 P N ts te cap ps fa fb T n st=some r→V5 P N ts te cap ps fa' fb' T n st=some r:=by
 intro n
 induction n with
 |zero=>intro st r h;exact h
 |succ n ih=>
  intro st r h
  have h:(ob (QF P ts cap st.h.get) fun s=>ob (JA P ts s (.int .i64 (Int.ofNat n))) fun q=>ob (QF P te q st.h.get) fun v=>
   IW N ps (.int .i64 (Int.ofNat n)) v T fun T1=>ob (fa T1 st) fun r=>Ex.rec (ob (fb r.2.1 r.2.2) fun q=>Ex.rec (tl (V5 P N ts te cap ps fa fb T n q.2.2)) (fun id=>some (.exit id,T,q.2.2)) (some (.ret,T,q.2.2)) q.1) (fun _=>none) none r.1)=some r:=h
  show(ob (QF P ts cap st.h.get) fun s=>ob (JA P ts s (.int .i64 (Int.ofNat n))) fun q=>ob (QF P te q st.h.get) fun v=>
   IW N ps (.int .i64 (Int.ofNat n)) v T fun T1=>ob (fa' T1 st) fun r=>Ex.rec (ob (fb' r.2.1 r.2.2) fun q=>Ex.rec (tl (V5 P N ts te cap ps fa' fb' T n q.2.2)) (fun id=>some (.exit id,T,q.2.2)) (some (.ret,T,q.2.2)) q.1) (fun _=>none) none r.1)=some r
  refine UB h fun s _ h=>UB h fun q _ h=>UB h fun v _ h=>?_;unfold IW at h ⊢
  split at h
  ·refine Ak h fun T h=>Ak h fun T h=>?_;obtain⟨⟨e1,T2,st2⟩,h1,h⟩:=Qk h;rw[ha _ _ _ h1,Qg]
   cases e1 with
   |exit i=>cases h
   |ret=>cases h
   |nor=>
    obtain⟨⟨e,T3,st3⟩,h2,h⟩:=Qk h;show(ob (fb' T2 st2) _)=_;rw[hb _ _ _ h2,Qg]
    cases e with
    |nor=>exact ih _ _ h
    |exit i=>exact h
    |ret=>exact h
  ·cases h
theorem Gr{c c':JO}(hc:fR c c'){L L':Nat}(hL:L≤L'): ∀(k:Code) (T:Tr AV) (st:St) (r:Ex×Tr AV×St),codeF P G c N L k T st=some r→codeF P G c' N L' k T st=some r:=by
 intro k
 induction k with
 |region id ops draw=>
  intro T st r h
  cases draw with
  |true=>
   have h:(ob (Z0 P ops.toList) fun pl=>ob (Vm P G c N ops.toList pl T st [st]) fun r=>some (Ex.nor,r))=some r:=h;show(ob (Z0 P ops.toList) fun pl=>ob (Vm P G c' N ops.toList pl T st [st]) fun r=>some (Ex.nor,r))=some r;refine UB h fun pl _ h=>?_;obtain⟨a,ha,h⟩:=Qk h;rw[OL hc _ _ _ _ _ ha];exact h
  |false=>
   have h:(ob (Ez P G c N ops.toList ops.toList T st) fun r=>some (Ex.nor,r))=some r:=h;show(ob (Ez P G c' N ops.toList ops.toList T st) fun r=>some (Ex.nor,r))=some r;obtain⟨a,ha,h⟩:=Qk h;rw[OK hc _ _ _ _ ha];exact h
 |seq x y ihx ihy=>
  intro T st r h;have h:ZD (codeF P G c N L x T st) (codeF P G c N L y)=some r:=h;show ZD (codeF P G c' N L' x T st) (codeF P G c' N L' y)=some r;rcases FQ h with⟨T1,st1,h1,h2⟩|⟨h1,h2⟩
  ·rw[ihx _ _ _ h1];exact ihy _ _ _ h2
  ·rw[ihx _ _ _ h1];obtain⟨e,T,st⟩:=r
   cases e with
   |nor=>exact absurd rfl h2
   |exit i=>rfl
   |ret=>rfl
 |cond g x y ihx ihy=>
  intro T st r h;have h:Nx (QN G T g) (tl (codeF P G c N L x T st)) (tl (codeF P G c N L y T st))=some r:=h;show Nx (QN G T g) (tl (codeF P G c' N L' x T st)) (tl (codeF P G c' N L' y T st))=some r;refine UB h fun v _ h=>?_
  cases v with
  |bool b=>
   cases b with
   |true=>exact ihx _ _ _ h
   |false=>exact ihy _ _ _ h
  |_=>cases h
 |block id x ih=>
  intro T st r h;have h:I0 id (codeF P G c N L x T st)=some r:=h;show I0 id (codeF P G c' N L' x T st)=some r;obtain⟨a,ha,h⟩:=Qk h;rw[ih _ _ _ ha];exact h
 |loop x ih=>intro T st r h;exact LJ ih L L' hL T st r h
 |rangeFunc g ps a b iha ihb=>
  intro T st r h;have h:WC P G N g ps.toList (Qj (U3 a) (U3 b) false) (codeF P G c N L a) (codeF P G c N L b) T st=some r:=h;show WC P G N g ps.toList (Qj (U3 a) (U3 b) false) (codeF P G c' N L' a) (codeF P G c' N L' b) T st=some r;unfold WC at h ⊢;refine Wg h fun h=>UB h fun v _ h=>?_
  split at h
  ·refine UB h fun q _ h=>?_
   split at h
   ·split at h
    ·refine UB h fun s _ h=>UB h fun n _ h=>?_
     split at h
     ·exact UB h fun n _ h=>Wg h fun h=>RT iha ihb _ _ _ h
     ·cases h
    ·cases h
   ·cases h
  ·cases h
 |_=>intro T st r h;exact h
theorem qf: ∀(l:List AV) (i:Nat) (T:Tr AV),(∀t,i≤t→Ux T t=.tup [])→ ∃T',(∀(β:Type) (k:Tr AV→β),List.rec (motive:=fun _=>Nat→Tr AV→β) (fun(_:Nat) T=>k T) (fun v _ ih i T=>T.put i v (ih (i+1))) l i T=k T')∧
  ∀t,Ux T' t=if t<i then Ux T t else(l[t-i]?).getD (.tup []):=by
 intro l
 induction l with
 |nil=>
  intro i T hT;refine⟨T,fun _ _=>rfl,fun t=>?_⟩
  by_cases h:t<i
  ·rw[if_pos h]
  ·rw[if_neg h,hT t Qd];simp
 |cons v l ih=>
  intro i T hT
  obtain⟨T',h1,h2⟩:=ih (i+1) (T.set i v) fun t ht=>by rw[UU,if_neg Qd];exact hT t Qd
  refine⟨T',fun β k=>?_,fun t=>?_⟩
  ·show T.put i v _=_;rw[Tr.put_eq];exact h1 β k
  ·rw[h2,UU]
   by_cases h:t<i
   ·rw[if_pos Qd,if_neg Qd,if_pos h]
   ·rw[if_neg h]
    by_cases h3:t=i
    ·subst h3;rw[if_pos Qd,if_pos rfl];simp
    ·rw[if_neg Qd,show t-i=(t-(i+1))+1 by omega];simp
theorem Gy(l:List AV): ∃T,(∀(β:Type) (k:Tr AV→β),ER l k=k T)∧ ∀t,Ux T t=(l[t]?).getD (.tup []):=by
 obtain⟨T,h1,h2⟩:=qf l 0 .nil fun t _=>rfl;exact⟨T,h1,fun t=>by rw[h2,if_neg Qd,Nat.sub_zero]⟩
theorem ZT: ∀(n m L L':Nat),n≤m→L≤L'→fR (Jp P G L n) (Jp P G L' m):=by
 intro n
 induction n with
 |zero=>intro m L L' _ _ f args st r h;cases h
 |succ n ih=>
  intro m L L' hnm hL f args st r h;obtain⟨k,rfl⟩: ∃k,m=k+1:=⟨m-1,by omega⟩;have h:(Option.rec (ob (Hq P f) fun q=>Q6 (Nat.ble (UZ args) q.2.1) (ER args fun T=>Iv (codeF P G (Jp P G L n) q.2.1 L q.1 T st) fun T st=>ob (QS P q.2.2 T st) fun v=>some (v,st))) (fun sm=>sm args st) (G.s f):Option (AV×St))=some r:=h;show(Option.rec (ob (Hq P f) fun q=>Q6 (Nat.ble (UZ args) q.2.1) (ER args fun T=>Iv (codeF P G (Jp P G L' k) q.2.1 L' q.1 T st) fun T st=>ob (QS P q.2.2 T st) fun v=>some (v,st))) (fun sm=>sm args st) (G.s f):Option (AV×St))=some r
  cases hs:G.s f with
  |some sm=>rw[hs]at h;exact h
  |none=>
   rw[hs]at h;refine UB h fun q _ h=>Wg h fun h=>?_;obtain⟨T,h1,_⟩:=Gy args;rw[h1]at h ⊢;obtain⟨⟨e,T2,st2⟩,hc,h⟩:=Qk h;have hc':=Gr (ih k L L' Qd hL) hL q.1 T st _ hc;show Iv (codeF P G (Jp P G L' k) q.2.1 L' q.1 T st) _=_;rw[hc'];exact h

end
section
open Go
variable {c:Code} {id:Nat} {st1:St} {v:AV}

def Ev(P:Program)(G:Env)(f:FuncId)(args:List AV)(st:St)(v:AV)(st':St):Prop:= ∃L n,Jp P G L n f args st=some (v,st')
def W(P:Program)(G:Env)(N:Nat)(c:Code)(Q:Ex→Tr AV→St→Prop)(T:Tr AV)(st:St):Prop:= ∃L n x T' st',codeF P G (Jp P G L n) N L c T st=some (x,T',st')∧Q x T' st'
def WR(P:Program)(G:Env)(N:Nat)(ops l:List Oper)(Q:Tr AV→St→Prop)(T:Tr AV)(st:St):Prop:= ∃L n T' st',Ez P G (Jp P G L n) N ops l T st=some (T',st')∧Q T' st'
def WD(P:Program)(G:Env)(N:Nat)(ops:List Oper)(l:List (Nat×Oper×Nat))(Q:Tr AV→St→Prop)(T:Tr AV)(st:St)(sn:List St):Prop:= ∃L n T' st',Vm P G (Jp P G L n) N ops l T st sn=some (T',st')∧Q T' st'

def Le(k:Tr AV→St→Prop)(Q:Ex→Tr AV→St→Prop):Ex→Tr AV→St→Prop
 |.nor=>k
 |x=>Q x
def BO(id:Nat)(Q:Ex→Tr AV→St→Prop):Ex→Tr AV→St→Prop
 |.exit i=>if i=id then Q .nor else Q (.exit i)
 |x=>Q x

variable {P:Program} {G:Env} {N:Nat} {Q:Ex→Tr AV→St→Prop} {T:Tr AV} {st:St}

theorem XM{L L' n n':Nat}(hL:L≤L')(hn:n≤n'){T:Tr AV}{st:St}{r:Ex×Tr AV×St}(h:codeF P G (Jp P G L n) N L c T st=some r):codeF P G (Jp P G L' n') N L' c T st=some r:=
 Gr (ZT n n' L L' hn hL) hL c T st r h
theorem qB{Q':Ex→Tr AV→St→Prop}(h:W P G N c Q T st)(hq: ∀x T st,Q x T st→Q' x T st):W P G N c Q' T st:=by
 obtain⟨L,n,x,T',st',h1,h2⟩:=h;exact⟨L,n,x,T',st',h1,hq _ _ _ h2⟩
theorem wZ(h:Q .nor T st):W P G N .skip Q T st:=⟨0,0,_,_,_,rfl,h⟩
theorem zM{l:Nat}(h:Q .nor T st):W P G N (.label l) Q T st:=⟨0,0,_,_,_,rfl,h⟩
theorem QM(h:Q (.exit id) T st):W P G N (.exit id) Q T st:=⟨0,0,_,_,_,rfl,h⟩
theorem Xd(h:Q .ret T st):W P G N .ret Q T st:=⟨0,0,_,_,_,rfl,h⟩
theorem Xc{a b:Code}(h:W P G N a (Le (W P G N b Q) Q) T st):W P G N (.seq a b) Q T st:=by
 obtain⟨L,n,x,T1,st1,h1,h2⟩:=h
 cases x with
 |nor=>
  obtain⟨L',n',y,T2,st2,h3,h4⟩:=h2;refine⟨max L L',max n n',y,T2,st2,?_,h4⟩;show ZD (codeF P G _ N _ a T st) (codeF P G _ N _ b)=_;rw[XM (Nat.le_max_left L L') (Nat.le_max_left n n') h1];exact XM (Nat.le_max_right L L') (Nat.le_max_right n n') h3
 |exit i=>exact⟨L,n,_,T1,st1,by show ZD (codeF P G _ N _ a T st) (codeF P G _ N _ b)=_;rw[h1];rfl,h2⟩
 |ret=>exact⟨L,n,_,T1,st1,by show ZD (codeF P G _ N _ a T st) (codeF P G _ N _ b)=_;rw[h1];rfl,h2⟩
theorem Lb{g:Operand}{a b:Code}{t:Bool}(hg:QN G T g=some (.bool t))(ha:t=true→W P G N a Q T st)(hb:t=false→W P G N b Q T st):W P G N (.cond g a b) Q T st:=by
 cases t with
 |true=>
  obtain⟨L,n,x,T',st',h1,h2⟩:=ha rfl;exact⟨L,n,x,T',st',by show Nx (QN G T g) _ _=_;rw[hg];exact h1,h2⟩
 |false=>
  obtain⟨L,n,x,T',st',h1,h2⟩:=hb rfl;exact⟨L,n,x,T',st',by show Nx (QN G T g) _ _=_;rw[hg];exact h1,h2⟩
theorem zO(h:W P G N c (BO id Q) T st):W P G N (.block id c) Q T st:=by
 obtain⟨L,n,x,T',st',h1,h2⟩:=h;have e:codeF P G (Jp P G L n) N L (.block id c) T st=I0 id (codeF P G (Jp P G L n) N L c T st):=rfl;rw[h1]at e
 cases x with
 |nor=>exact⟨L,n,_,T',st',e,h2⟩
 |ret=>exact⟨L,n,_,T',st',e,h2⟩
 |exit i=>
  by_cases hi:i=id
  ·subst hi;have h2:(if i=i then Q .nor else Q (.exit i)) T' st':=h2;rw[if_pos rfl]at h2;refine⟨L,n,.nor,T',st',?_,h2⟩;rw[e];show Qj (Nat.beq i i) _ _=_;rw[Nat.beq_refl];rfl
  ·have h2:(if i=id then Q .nor else Q (.exit i)) T' st':=h2;rw[if_neg hi]at h2;refine⟨L,n,.exit i,T',st',?_,h2⟩;rw[e];show Qj (Nat.beq i id) _ _=_
   have:Nat.beq i id=false:=by
    cases hb:Nat.beq i id with
    |false=>rfl
    |true=>exact absurd (Nat.eq_of_beq_eq_true hb) hi
   rw[this];rfl
theorem QC(h:W P G N c (Le (W P G N (.loop c) Q) Q) T st):W P G N (.loop c) Q T st:=by
 obtain⟨L,n,x,T1,st1,h1,h2⟩:=h;have e: ∀L n,codeF P G (Jp P G (L+1) n) N (L+1) (.loop c) T st=ZD (codeF P G (Jp P G (L+1) n) N (L+1) c T st) (Hg L (codeF P G (Jp P G (L+1) n) N (L+1) c)):=fun _ _=>rfl
 cases x with
 |nor=>
  obtain⟨L',n',y,T2,st2,h3,h4⟩:=h2;refine⟨max L L'+1,max n n',y,T2,st2,?_,h4⟩;rw[e,XM (Nat.le_succ_of_le (Nat.le_max_left L L')) (Nat.le_max_left n n') h1];have h3:Hg L' (codeF P G (Jp P G L' n') N L' c) T1 st1=some (y,T2,st2):=h3;exact LJ (fun T st r h=>XM (Nat.le_succ_of_le (Nat.le_max_right L L')) (Nat.le_max_right n n') h) L' (max L L') (Nat.le_max_right _ _) T1 st1 _ h3
 |exit i=>exact⟨L+1,n,_,T1,st1,by rw[e,XM (Nat.le_succ L) (Nat.le_refl n) h1];rfl,h2⟩
 |ret=>exact⟨L+1,n,_,T1,st1,by rw[e,XM (Nat.le_succ L) (Nat.le_refl n) h1];rfl,h2⟩
theorem Je(I:Nat→Tr AV→St→Prop)(hstep: ∀n T st,I n T st→W P G N c (Le (fun T' st'=> ∃m,m<n∧I m T' st') Q) T st): ∀n T st,I n T st→W P G N (.loop c) Q T st:=by
 intro n
 induction n using Nat.strongRecOn with
 |_ n ih=>
  intro T st h;refine QC (qB (hstep n T st h) fun x T' st' hx=>?_)
  cases x with
  |nor=>
   obtain⟨m,hm,hI⟩:=hx;exact ih m hm T' st' hI
  |exit i=>exact hx
  |ret=>exact hx
theorem q6{ops:Array Oper}(h:WR P G N ops.toList ops.toList (Q .nor) T st):W P G N (.region id ops false) Q T st:=by
 obtain⟨L,n,T',st',h1,h2⟩:=h;refine⟨L,n,.nor,T',st',?_,h2⟩;show(ob (Ez P G _ N ops.toList ops.toList T st) fun r=>some (Ex.nor,r))=_;rw[h1];rfl
theorem ea{ops:Array Oper}{pl:List (Nat×Oper×Nat)}(hp:Z0 P ops.toList=some pl)(h:WD P G N ops.toList pl (Q .nor) T st [st]):W P G N (.region id ops true) Q T st:=by
 obtain⟨L,n,T',st',h1,h2⟩:=h;refine⟨L,n,.nor,T',st',?_,h2⟩;show(ob (Z0 P ops.toList) fun pl=>ob (Vm P G _ N ops.toList pl T st [st]) fun r=>some (Ex.nor,r))=_;rw[hp,Qg,h1];rfl

def QH(K:List (Nat×AV))(T:Tr AV):Prop:= ∀t v,K.lookup t=some v→Ux T t=v
theorem QH.set{K:List (Nat×AV)}{T:Tr AV}(h:QH K T)(d:Nat)(v:AV):QH ((d,v)::K) (T.set d v):=by
 intro t u hl;rw[UU]
 by_cases ht:t=d
 ·subst ht;rw[List.lookup_cons,beq_self_eq_true]at hl
  injection hl with hl
  rw[if_pos rfl,hl]
 ·rw[List.lookup_cons,beq_false_of_ne ht]at hl;rw[if_neg ht];exact h t u hl
theorem QH.nil{T:Tr AV}:QH [] T:=fun t v h=>(by cases h)
theorem QH.cons{K:List (Nat×AV)}{T:Tr AV}{d:Nat}(hd:Ux T d=v)(h:QH K T):QH ((d,v)::K) T:=by
 intro t u hl
 by_cases ht:t=d
 ·subst ht;rw[List.lookup_cons,beq_self_eq_true]at hl
  injection hl with hl
  rw[←hl];exact hd
 ·rw[List.lookup_cons,beq_false_of_ne ht]at hl;exact h t u hl
noncomputable def QG(G:Env)(K:List (Nat×AV))(x:Operand):Option AV:=match x with
 |.tmp t=>K.lookup t
 |.const v=>ofConst v
 |.global g=>Q6 (G.g g) (some (.ptr g 0 0))
 |.func f=>some (.fn f [] [])
theorem QH.sub{K L:List (Nat×AV)}{T:Tr AV}(h:QH K T)(e:L.map (fun p=>K.lookup p.1)=L.map fun p=>some p.2):QH L T:=by
 induction L with
 |nil=>exact .nil
 |cons p L ih=>
  injection e with e1 e2
  exact .cons (h _ _ e1) (ih e2)
theorem yT{p:Prop} [Decidable p](h:(!decide p)=false):p:=by simpa using h
theorem yF{p:Prop} [Decidable p](h:(!decide p)=true): ¬p:=by simpa using h
theorem QH.QN{K:List (Nat×AV)}{T:Tr AV}(h:QH K T){x:Operand}{v:AV}(hx:QG G K x=some v):QN G T x=some v:=by
 cases x with
 |tmp t=>exact congrArg some (h t v hx)
 |const c=>exact hx
 |global g=>exact hx
 |func f=>exact hx
theorem QH.row{K:List (Nat×AV)}{T:Tr AV}(h:QH K T): ∀(l:List Operand) (vs:List AV),JB (QG G K) l=some vs→JB (Proofs.YtildagdnomiahaaGreatDoor.QN G T) l=some vs:=by
 intro l
 induction l with
 |nil=>intro vs hv;exact hv
 |cons x l ih=>
  intro vs hv;rw[Jw]at hv ⊢;obtain⟨b,hb,hv⟩:=Qk hv;obtain⟨t,ht,hv⟩:=Qk hv;rw[h.QN hb,Qg,ih t ht,Qg];exact hv
def Us(P:Program)(G:Env)(K:List (Nat×AV))(op:Op)(st:St)(v:AV)(st1:St):Prop:= ∀T,QH K T→ ∀(d:Option Tmp) (ty:TypeId) (pos:String) (af:Array Edge) (g:Option (Nat×Bool)),∃L n,∀L' n',L≤L'→n≤n'→IJ P (QN G T) (Jp P G L' n') ⟨d,op,ty,pos,af,g⟩ st=some (v,st1)
section ops
variable {ops rest:List Oper} {K:List (Nat×AV)} {R:Tr AV→St→Prop}
theorem wW(h:R T st):WR P G N ops [] R T st:=⟨0,0,T,st,rfl,h⟩
theorem G8{o:Oper}(hw:QX ops o T=true)(h: ∃L n,∀L' n',L≤L'→n≤n'→IJ P (QN G T) (Jp P G L' n') o st=some (v,st1))(hd: ∀d,o.dst=some d→d<N)
  (hn:WR P G N ops rest R (match o.dst with|some d=>T.set d v|none=>T) st1):WR P G N ops (o::rest) R T st:=by
 obtain⟨L,n,h⟩:=h;obtain⟨L',n',T',st',h1,h2⟩:=hn;refine⟨max L L',max n n',T',st',?_,h2⟩;show(ob (Jz P G _ ops o T st) fun r=>Yy N o.dst r.1 T fun T=>tl (Ez P G _ N ops rest T r.2))=_
 have e:Jz P G (Jp P G (max L L') (max n n')) ops o T st=some (v,st1):=by
  unfold Jz;rw[hw,Qv];exact h _ _ (Nat.le_max_left _ _) (Nat.le_max_left _ _)
 rw[e,Qg];have h1':=OK (ZT n' (max n n') L' (max L L') (Nat.le_max_right _ _) (Nat.le_max_right _ _)) _ _ _ _ h1
 cases hdst:o.dst with
 |none=>rw[hdst]at h1';exact h1'
 |some d=>
  rw[hdst]at h1';show Q6 (Nat.ble (d+1) N) (T.put d v _)=_;rw[Nat.ble_eq_true_of_le (hd d hdst),Tr.put_eq];exact h1'
theorem WW{d:Nat}{op:Op}{ty:TypeId}{pos:String}{af:Array Edge}(hK:QH K T)(h:Us P G K op st v st1)(hN:d<N)(hn: ∀T',QH ((d,v)::K) T'→WR P G N ops rest R T' st1):
  WR P G N ops (⟨some d,op,ty,pos,af,none⟩::rest) R T st:=
 G8 rfl (h T hK _ _ _ _ _) (fun e he=>by injection he with he;rw[←he];exact hN) (hn _ (hK.set d v))
theorem Sg{op:Op}{ty:TypeId}{pos:String}{af:Array Edge}(hK:QH K T)(h:Us P G K op st v st1)(hn:WR P G N ops rest R T st1):
  WR P G N ops (⟨none,op,ty,pos,af,none⟩::rest) R T st:=
 G8 rfl (h T hK _ _ _ _ _) (fun e he=>by cases he) hn
end ops
end
section
open Go
variable {a b:Int} {f:FuncId} {k:IntKind} {l:List AV} {st1:St} {t yt:TypeId} {u v:AV} {x y:Operand}

variable {P:Program} {G:Env} {K:List (Nat×AV)} {st:St}
theorem Us.of{op:Op}(h: ∀T,QH K T→ ∀(c:JO) (d:Option Tmp) (ty:TypeId) (pos:String) (af:Array Edge) (g:Option (Nat×Bool)),IJ P (QN G T) c ⟨d,op,ty,pos,af,g⟩ st=some (v,st1)):Us P G K op st v st1:=
 fun T hT d ty pos af g=>⟨0,0,fun _ _ _ _=>h T hT _ d ty pos af g⟩
theorem Q8(hx:QG G K x=some v):Us P G K (.move x) st v st:=.of fun T hT c d ty pos af g=>by
 show ret (QN G T x) st=_;rw[hT.QN hx];rfl
theorem Uu(hx:QG G K x=some v):Us P G K (.assign x) st v st:=.of fun T hT c d ty pos af g=>by
 show ret (QN G T x) st=_;rw[hT.QN hx];rfl
theorem xC{a b:Operand}{t:Bool}(hx:QG G K x=some (.bool t))(ha:QG G K a=some u)(hb:QG G K b=some v):Us P G K (.pick x a b) st (Qj t u v) st:=.of fun T hT c d ty pos af g=>by
 show(ob (QN G T x) fun c=>(match c with
  |.bool t=>ret (Qj t (QN G T a) (QN G T b)) st
  |_=>none))=_
 rw[hT.QN hx,Qg];show ret (Qj t (QN G T a) (QN G T b)) st=_;rw[hT.QN ha,hT.QN hb]
 cases t<;>rfl
theorem UF{op:BinOp}{w:AV}(hx:QG G K x=some u)(hy:QG G K y=some w)(h:b2 P op t u w=some v):Us P G K (.binOp op t x y yt) st v st:=.of fun T hT c d ty pos af g=>by
 show ret (ob (QN G T x) fun x=>ob (QN G T y) fun y=>b2 P op t x y) st=_;rw[hT.QN hx,hT.QN hy,Qg,Qg,h];rfl
theorem Wn(k:IntKind):Ku k k=true:=decide_eq_true rfl
theorem Vj{op:BinOp}(h1:op≠ .shl)(h2:op≠ .shr):b2 P op t (.int k a) (.int k b)=wM op k a b:=by
 cases op<;>first
  |exact absurd rfl h1
  |exact absurd rfl h2
  |(show Q6 (Ku k k) _=_;rw[Wn];rfl)
theorem eP(hx:QG G K x=some (.int k a))(hy:QG G K y=some (.int k b)):Us P G K (.binOp .lss t x y yt) st (.bool (decide (a<b))) st:=
 UF hx hy (by rw[Vj Q9 Q9];show some (AV.bool (NK a b))=_;rw[YE])
theorem eS(hx:QG G K x=some (.int k a))(hy:QG G K y=some (.int k b)):Us P G K (.binOp .gtr t x y yt) st (.bool (decide (b<a))) st:=
 UF hx hy (by rw[Vj Q9 Q9];show some (AV.bool (NK b a))=_;rw[YE])
theorem L9(a b:Int):(!decide (a<b))=decide (b≤a):=by
 by_cases h:a<b
 ·rw[decide_eq_true h,decide_eq_false Qd];rfl
 ·rw[decide_eq_false h,decide_eq_true Qd];rfl
theorem eQ(hx:QG G K x=some (.int k a))(hy:QG G K y=some (.int k b)):Us P G K (.binOp .leq t x y yt) st (.bool (decide (a≤b))) st:=
 UF hx hy (by rw[Vj Q9 Q9];show some (AV.bool (!NK b a))=_;rw[YE,L9])
theorem eT(hx:QG G K x=some (.int k a))(hy:QG G K y=some (.int k b)):Us P G K (.binOp .geq t x y yt) st (.bool (decide (b≤a))) st:=
 UF hx hy (by rw[Vj Q9 Q9];show some (AV.bool (!NK a b))=_;rw[YE,L9])
theorem Yp(a b:Int):Fu a b=decide (a=b):=by rw[Zf];exact Bool.beq_eq_decide_eq a b
theorem jN(hx:QG G K x=some (.int k a))(hy:QG G K y=some (.int k b)):Us P G K (.binOp .eql t x y yt) st (.bool (decide (a=b))) st:=
 UF hx hy (by rw[Vj Q9 Q9];show some (AV.bool (Fu a b))=_;rw[Yp])
theorem jL(hx:QG G K x=some (.int k a))(hy:QG G K y=some (.int k b)):Us P G K (.binOp .neq t x y yt) st (.bool (!decide (a=b))) st:=
 UF hx hy (by rw[Vj Q9 Q9];show some (AV.bool (!Fu a b))=_;rw[Yp])
theorem wrap64{n:Int}(h1: -9223372036854775808≤n)(h2:n≤9223372036854775807):IntKind.i64.wrap n=n:=IntWalk.i64_in n Qd
theorem eU(hx:QG G K x=some (.int .i64 a))(hy:QG G K y=some (.int .i64 b))(h1: -9223372036854775808≤a+b)(h2:a+b≤9223372036854775807):Us P G K (.binOp .add t x y yt) st (.int .i64 (a+b)) st:=
 UF hx hy (by rw[Vj Q9 Q9];show X8 (X3 .i64 (a+b)) (fun z=>some (AV.int .i64 z))=_;rw[UP,Ug,wrap64 h1 h2])
theorem jI(hx:QG G K x=some (.int .i64 a))(hy:QG G K y=some (.int .i64 b))(h1: -9223372036854775808≤a-b)(h2:a-b≤9223372036854775807):Us P G K (.binOp .sub t x y yt) st (.int .i64 (a-b)) st:=
 UF hx hy (by rw[Vj Q9 Q9];show X8 (X3 .i64 (a-b)) (fun z=>some (AV.int .i64 z))=_;rw[UP,Ug,wrap64 h1 h2])
theorem JM{a b:List Nat}(hx:QG G K x=some (.str a))(hy:QG G K y=some (.str b)):Us P G K (.binOp .eql t x y yt) st (.bool (decide (a=b))) st:=
 UF hx hy (by show some (AV.bool (Gh a b))=_;rw[Z5])
theorem Bf{a b:List Nat}(hx:QG G K x=some (.str a))(hy:QG G K y=some (.str b)):Us P G K (.binOp .neq t x y yt) st (.bool (!decide (a=b))) st:=
 UF hx hy (by show some (AV.bool (!Gh a b))=_;rw[Z5])
theorem jK{b:Bool}(hx:QG G K x=some (.bool b)):Us P G K (.unOp .not t x) st (.bool (!b)) st:=.of fun T hT c d ty pos af g=>by
 show ret (ob (QN G T x) fun x=>kO .not x) st=_;rw[hT.QN hx];rfl
theorem eN(hx:QG G K x=some v)(hv:(match v with|.ptr _ _ _=>true|.fn _ _ _=>true|_=>false)=true):Us P G K (.nilCheck x) st v st:=.of fun T hT c d ty pos af g=>by
 show ret (ob (QN G T x) fun v=>(match v with
  |.ptr c m off=>some (.ptr c m off)
  |.fn f a c=>some (.fn f a c)
  |_=>none)) st=_
 rw[hT.QN hx,Qg]
 cases v<;>first|rfl|cases hv
theorem Uz{f c m off o:Nat}(ho:Q5 P t f=some o)(hx:QG G K x=some (.ptr c m off)):Us P G K (.fieldAddr t x f) st (.ptr c m (off+o)) st:=.of fun T hT cc d ty pos af g=>by
 show ret (ob (QN G T x) fun x=>ZR P t x f) st=_;rw[hT.QN hx,Qg];show ret (ob (Q5 P t f) fun o=>JF (off+o) fun z=>some (AV.ptr c m z)) st=_;rw[ho,Qg,QE];rfl
theorem XV{f:Nat}(hx:QG G K x=some u)(h:Is P t u f=some v):Us P G K (.field t x f) st v st:=.of fun T hT cc d ty pos af g=>by
 show ret (ob (QN G T x) fun x=>Is P t x f) st=_;rw[hT.QN hx,Qg,h];rfl
theorem Re{i:Nat}(hx:QG G K x=some (.tup l))(h:nth l i=some v):Us P G K (.extract x i) st v st:=.of fun T hT cc d ty pos af g=>by
 show ret (ob (QN G T x) fun v=>(match v with
  |.tup l=>nth l i
  |_=>none)) st=_
 rw[hT.QN hx,Qg];show ret (nth l i) st=_;rw[h];rfl
theorem Qn{i:Operand}{c m off len z z':Nat}{j:Nat}(he:JQ P t=some z)(hx:QG G K x=some (.sl c m off len z'))(hi:QG G K i=some (.int k (j:Int)))(hj:j<len):
  Us P G K (.indexAddr t x i) st (.ptr c m (off+j *z)) st:=.of fun T hT cc d ty pos af g=>by
 show ret (ob (QN G T x) fun x=>ob (QN G T i) fun i=>JA P t x i) st=_;rw[hT.QN hx,hT.QN hi,Qg,Qg];show ret (ob (Cu (j:Int)) fun i=>Q6 (Nat.ble (i+1) len) (ob (JQ P t) fun z=>JF (off+i *z) fun o=>some (AV.ptr c m o))) st=_;show ret (Q6 (Nat.ble (j+1) len) (ob (JQ P t) fun z=>JF (off+j *z) fun o=>some (AV.ptr c m o))) st=_;rw[Nat.ble_eq_true_of_le hj,he];show ret (JF (off+j *z) fun o=>some (AV.ptr c m o)) st=_;rw[QE];rfl
theorem M5{e:TypeId}(ht:P.underlying t=some (.slice e)):Ze P [t]=false:=by unfold Ze;simp only[ht]
def J8:AV→Option Nat
 |.nils=>some 0
 |.slz _ _ _ _ _=>some 0
 |.sl0 _ _ _=>some 0
 |.sl _ _ _ n _=>some n
 |_=>none
theorem Q0{tys:Array TypeId}{e:TypeId}{n:Nat}(ht:P.underlying t=some (.slice e))(htys:tys= #[t])(hx:QG G K x=some u)(hn:J8 u=some n):
  Us P G K (.call {callee:=.builtin .len,args:= #[x],argTypes:=tys}) st (.int .i64 (n:Int)) st:=.of fun T hT cc d ty pos af g=>by
 subst htys;show Qj (Ze P [t]) _ (ret (ob (QN G T x) fun x=>Kh P [t] x) st)=_;rw[M5 ht,Qq,hT.QN hx,Qg]
 cases u<;>simp only[J8]at hn<;>first|(cases hn;done)|skip
 all_goals
  injection hn with hn
  subst hn;unfold Kh;simp only[ht];rfl
theorem Qf{args:Array Operand}{tys:Array TypeId}(ha:JB (QG G K) args.toList=some l)(h:Ev P G f l st v st1):
  Us P G K (.call {callee:=.value (.func f),args:=args,argTypes:=tys}) st v st1:=fun T hT d ty pos af g=>by
 obtain⟨L,n,h⟩:=h;refine⟨L,n,fun L' n' hL hn=>?_⟩
 show(ob (QN G T (.func f)) fun v=>(match v with
  |.fn fid a cap=>ob (JB (QN G T) args.toList) fun l=>Jp P G L' n' fid (Yk a (Yk l cap)) st
  |_=>none))=_
 show(ob (JB (QN G T) args.toList) fun l=>Jp P G L' n' f (Yk [] (Yk l [])) st)=_;rw[hT.row _ _ ha,Qg,JD,JD,List.nil_append,List.append_nil];exact ZT n n' L L' hn hL _ _ _ _ h
theorem Z2{g:Operand}{args:Array Operand}{tys:Array TypeId}{a cap:List AV}(hg:QG G K g=some (.fn f a cap))(ha:JB (QG G K) args.toList=some l)(h:Ev P G f (a++(l++cap)) st v st1):
  Us P G K (.call {callee:=.value g,args:=args,argTypes:=tys}) st v st1:=fun T hT d ty pos af gg=>by
 obtain⟨L,n,h⟩:=h;refine⟨L,n,fun L' n' hL hn=>?_⟩
 show(ob (QN G T g) fun v=>(match v with
  |.fn fid a cap=>ob (JB (QN G T) args.toList) fun l=>Jp P G L' n' fid (Yk a (Yk l cap)) st
  |_=>none))=_
 rw[hT.QN hg,Qg];show(ob (JB (QN G T) args.toList) fun l=>Jp P G L' n' f (Yk a (Yk l cap)) st)=_;rw[hT.row _ _ ha,Qg,JD,JD];exact ZT n n' L L' hn hL _ _ _ _ h
theorem Y6{first cap:Array Operand}{a c:List AV}(ha:JB (QG G K) first.toList=some a)(hc:JB (QG G K) cap.toList=some c):Us P G K (.makeFunc (.func f) first cap) st (.fn f a c) st:=.of fun T hT cc d ty pos af g=>by
 show ret (ob (JB (QN G T) first.toList) fun l=>ob (JB (QN G T) cap.toList) fun r=>some (AV.fn f l r)) st=_;rw[hT.row _ _ ha,hT.row _ _ hc];rfl
theorem Qi(hx:QG G K x=some u)(h:QF P t u st.h.get=some v):Us P G K (.load t x) st v st:=.of fun T hT cc d ty pos af g=>by
 show(ob (QN G T x) fun x=>ret (QF P t x st.h.get) st)=_;rw[hT.QN hx,Qg,h];rfl
theorem wF{fn:Func}{c:Code}{N:Nat}{rs:List ResultVar}{args:List AV}{Q:AV→St→Prop}(hs:G.s f=none)(hf:P.funcs[f]? =some fn)(hb:fn.body=some c)(hN:fn.ntmps=N)(hr:fn.results.toList=rs)(hname:(fn.name== "runtime.NumGoroutine")=false)(hl:args.length≤N)
  (h: ∀T,(∀t,Ux T t=(args[t]?).getD (.tup []))→W P G N c (fun x T st=>(x=.nor∨x=.ret)∧ ∃v,QS P rs T st=some v∧Q v st) T st): ∃v st',Ev P G f args st v st'∧Q v st':=by
 obtain⟨T,hT1,hT2⟩:=Gy args;obtain⟨L,n,x,T',st',h1,hx,v,h2,h3⟩:=h T hT2;refine⟨v,st',⟨L,n+1,?_⟩,h3⟩;show(Option.rec (ob (Hq P f) fun q=>Q6 (Nat.ble (UZ args) q.2.1) (ER args fun T=>Iv (codeF P G (Jp P G L n) q.2.1 L q.1 T st) fun T st=>ob (QS P q.2.2 T st) fun v=>some (v,st))) (fun sm=>sm args st) (G.s f):Option (AV×St))=some (v,st');rw[hs];show(ob (Hq P f) fun q=>Q6 (Nat.ble (UZ args) q.2.1) (ER args fun T=>Iv (codeF P G (Jp P G L n) q.2.1 L q.1 T st) fun T st=>ob (QS P q.2.2 T st) fun v=>some (v,st)))=some (v,st')
 have hfn:Hq P f=some (c,N,rs):=by
  unfold Hq;rw[hf];simp only[hb,hname,hN,hr];rfl
 rw[hfn,Qg,JC,Nat.ble_eq_true_of_le hl,hT1,Q7];show Iv (codeF P G (Jp P G L n) N L c T st) _=_;rw[h1];rcases hx with rfl|rfl
 ·show ob (QS P rs T' st') _=_;rw[h2];rfl
 ·show ob (QS P rs T' st') _=_;rw[h2];rfl
end
section
open Go
variable {af:Array Edge} {c k m n off:Nat} {l l':List AV} {pos:String} {t ty:TypeId} {v:AV}

structure Mem(h0:Hp)(n0:Nat)(X:List Nat)(st:St)(M:List (Nat×Nat×List AV)):Prop where
 fresh:Qh st
 le:n0≤st.n
 base: ∀c,n0≤c→h0 c=none
 row: ∀c m l,(c,m,l)∈M→ ∃vs ms,st.h.get c=some (.row false ms)∧ms[m]? =some (l.length,vs,some l)
 lt: ∀c m l,(c,m,l)∈M→c<st.n
 own: ∀c m l,(c,m,l)∈M→n0≤c∨c∈X
 nodup:(M.map Prod.fst).Nodup
 J5: ∀c,c<n0→c∉X→st.h.get c=h0 c
structure Qt(st st':St):Prop where
 fresh:Qh st'
 le:st.n≤st'.n
 J5: ∀c,c<st.n→st'.h.get c=st.h.get c
theorem Qt.trans{a b c:St}(x:Qt a b)(y:Qt b c):Qt a c:=⟨y.fresh,Nat.le_trans x.le y.le,fun k hk=>by rw[y.J5 k (Nat.lt_of_lt_of_le hk x.le),x.J5 k hk]⟩
theorem Mem.start{st:St}(h:Qh st):Mem st.h.get st.n [] st []:=
 ⟨h,Nat.le_refl _,h,fun c m l h=>(by cases h),fun c m l h=>(by cases h),fun c m l h=>(by cases h),List.nodup_nil,fun _ _ _=>rfl⟩
section
variable {P:Program} {G:Env} {N:Nat} {h0:Hp} {n0:Nat} {X:List Nat} {st:St} {M:List (Nat×Nat×List AV)}
theorem Mem.qt{st0:St}(h:Mem st0.h.get st0.n [] st M):Qt st0 st:=⟨h.fresh,h.le,fun c hc=>h.J5 c hc Qx⟩
theorem Mem.less(h:Mem h0 n0 X st M){M':List (Nat×Nat×List AV)}(hs:M'.Sublist M):Mem h0 n0 X st M':=
 ⟨h.fresh,h.le,h.base,fun c m l hm=>h.row c m l (hs.subset hm),fun c m l hm=>h.lt c m l (hs.subset hm),fun c m l hm=>h.own c m l (hs.subset hm),h.nodup.sublist (hs.map _),h.J5⟩
theorem Mem.quiet(h:Mem h0 n0 X st M){st':St}(q:Qt st st'):Mem h0 n0 X st' M:=
 ⟨q.fresh,Nat.le_trans h.le q.le,h.base,fun c m l hm=>by
  obtain⟨vs,ms,h1,h2⟩:=h.row c m l hm
  exact⟨vs,ms,by rw[q.J5 c (h.lt c m l hm)];exact h1,h2⟩,fun c m l hm=>Nat.lt_of_lt_of_le (h.lt c m l hm) q.le,h.own,h.nodup,fun c hc hx=>by rw[q.J5 c (Nat.lt_of_lt_of_le hc h.le)];exact h.J5 c hc hx⟩
theorem Mem.alloc(h:Mem h0 n0 X st M)(l:List AV):Mem h0 n0 X ⟨st.n+1,st.h.set st.n (.row false [(l.length,0,some l)])⟩ ((st.n,0,l)::M):=by
 have hg: ∀c,(st.h.set st.n (.row false [(l.length,0,some l)])).get c=if c=st.n then some (.row false [(l.length,0,some l)])else st.h.get c:=fun c=>Tr.YX _ _ _ _
 refine⟨fun c hc=>?_,Nat.le_succ_of_le h.le,h.base,fun c m l' hm=>?_,fun c m l' hm=>?_,fun c m l' hm=>?_,?_,fun c hc hx=>?_⟩
 ·have hc:st.n+1≤c:=hc;show(st.h.set st.n _).get c=none;rw[hg,if_neg Qd];exact h.fresh c Qd
 ·rcases List.mem_cons.1 hm with e|hm
  ·injection e with e1 e2
   injection e2 with e2 e3
   subst e1 e2 e3;exact⟨0,_,(hg _).trans (if_pos rfl),rfl⟩
  ·obtain⟨vs,ms,h1,h2⟩:=h.row c m l' hm;have:=h.lt c m l' hm;exact⟨vs,ms,by show(st.h.set st.n _).get c=_;rw[hg,if_neg Qd];exact h1,h2⟩
 ·rcases List.mem_cons.1 hm with e|hm
  ·injection e with e1 e2;subst e1;exact Nat.lt_succ_self _
  ·exact Nat.lt_succ_of_lt (h.lt c m l' hm)
 ·rcases List.mem_cons.1 hm with e|hm
  ·injection e with e1 e2;subst e1;exact .inl h.le
  ·exact h.own c m l' hm
 ·rw[List.map_cons];refine List.nodup_cons.2 ⟨fun hm=>?_,h.nodup⟩;obtain⟨⟨c,m,l'⟩,h1,h2⟩:=List.mem_map.1 hm;have:=h.lt c m l' h1;simp only at h2;omega
 ·show(st.h.set st.n _).get c=_;have:=h.le;rw[hg,if_neg Qd];exact h.J5 c hc hx
theorem CJ{M:List (Nat×Nat×List AV)}(hk:M[k]? =some (c,m,l)):(M.set k (c,m,l')).map Prod.fst=M.map Prod.fst:=by
 apply List.ext_getElem?;intro i;rw[List.getElem?_map,List.getElem?_map,List.getElem?_set]
 by_cases h:k=i
 ·subst h;rw[if_pos rfl,hk];have:=(List.getElem?_eq_some_iff.1 hk).1;simp[this]
 ·rw[if_neg h]
theorem E2{M:List (Nat×Nat×List AV)}(hk:M[k]? =some (c,m,l))(hn:(M.map Prod.fst).Nodup){x:Nat×Nat×List AV}(hx:x∈M.set k (c,m,l')):
  x=(c,m,l')∨(x∈M∧x.1≠c):=by
 obtain⟨i,hi⟩:=List.getElem?_of_mem hx;rw[List.getElem?_set]at hi
 by_cases h:k=i
 ·subst h;have:=(List.getElem?_eq_some_iff.1 hk).1;simp[this]at hi;exact .inl hi.symm
 ·rw[if_neg h]at hi;refine .inr ⟨List.mem_of_getElem? hi,fun e=>h ?_⟩
  have h1:(M.map Prod.fst)[k]? =some c:=by rw[List.getElem?_map,hk];rfl
  have h2:(M.map Prod.fst)[i]? =some c:=by rw[List.getElem?_map,hi];simp[e]
  exact(List.getElem?_inj (List.getElem?_eq_some_iff.1 h1).1 hn).1 (h1.trans h2.symm)
theorem Mem.store(h:Mem h0 n0 X st M){w:AV}(hk:M[k]? =some (c,m,l))(hz:UX P t=some n)(hn:(QO w).length=n)(hc:XH Qw (QO w)=true)(ho:YB (QO w) off l=some l'):
  ∃st1,W7 P t (.ptr c m off) w st=some (.tup [],st1)∧Mem h0 n0 X st1 (M.set k (c,m,l'))∧st1.n=st.n:=by
 have hm:=List.mem_of_getElem? hk;obtain⟨vs,ms,h1,h2⟩:=h.row c m l hm;have hlen:l'.length=l.length:=(XU _ _ _ _ ho).2.1
 have hr:rowOf st.h.get c m=some (l.length,vs,l,false,ms):=by
  unfold rowOf;rw[h1,Qg];show ob (nth ms m) _=_;rw[JV,h2];rfl
 have e: ∃ms',W7 P t (.ptr c m off) w st=some (.tup [],⟨st.n,st.h.set c (.row false ms')⟩)∧ms'[m]? =some (l.length,vs,some l'):=by
  unfold W7;simp only[hr,Qg,hz,JC,hn,Nat.beq_refl,Q7,hc,ho,Bool.not_false];refine⟨eu (l.length,vs,some l') (Zd (vs+off) (vs+off+n) ms) m,by rw[J1,J1,Ui],?_⟩;rw[Sp,List.getElem?_set_self];rw[Jq];exact(List.getElem?_eq_some_iff.1 h2).1
 obtain⟨ms',e1,e2⟩:=e
 have hg: ∀x,(st.h.set c (.row false ms')).get x=if x=c then some (.row false ms')else st.h.get x:=fun x=>Tr.YX _ _ _ _
 refine⟨_,e1,⟨fun x hx=>?_,h.le,h.base,fun x y z hm'=>?_,fun x y z hm'=>?_,fun x y z hm'=>?_,?_,fun x hx hX=>?_⟩,rfl⟩
 ·show(st.h.set c _).get x=none;have:=h.lt c m l hm;have hx:st.n≤x:=hx;rw[hg,if_neg Qd];exact h.fresh x hx
 ·rcases E2 hk h.nodup hm' with e|⟨h3,h4⟩
  ·injection e with e1 e2
   injection e2 with e2 e3
   subst e1 e2 e3;exact⟨vs,ms',(hg _).trans (if_pos rfl),by rw[hlen];exact e2⟩
  ·obtain⟨vs',ms2,h5,h6⟩:=h.row x y z h3;exact⟨vs',ms2,by show(st.h.set c _).get x=_;rw[hg,if_neg h4];exact h5,h6⟩
 ·rcases E2 hk h.nodup hm' with e|⟨h3,h4⟩
  ·injection e with e1 e2;subst e1;exact h.lt _ m l hm
  ·exact h.lt x y z h3
 ·rcases E2 hk h.nodup hm' with e|⟨h3,h4⟩
  ·injection e with e1 e2;subst e1;exact h.own _ m l hm
  ·exact h.own x y z h3
 ·rw[CJ hk];exact h.nodup
 ·show(st.h.set c _).get x=_
  have hxc:x≠c:=fun e=>by
   subst e;rcases h.own x m l hm with h5|h5
   ·omega
   ·exact hX h5
  rw[hg,if_neg hxc];exact h.J5 x hx hX
theorem Mem.load(h:Mem h0 n0 X st M)(hk:M[k]? =some (c,m,l))(hp:YJ P t l off=some v):QF P t (.ptr c m off) st.h.get=some v:=by
 obtain⟨vs,ms,h1,h2⟩:=h.row c m l (List.mem_of_getElem? hk);show ob (rowOf st.h.get c m) _=_;unfold rowOf;rw[h1,Qg];show ob (ob (nth ms m) _) _=_;rw[JV,h2];exact hp

variable {ops rest:List Oper} {K:List (Nat×AV)} {R:Tr AV→St→Prop} {T:Tr AV}
theorem Cl{d:Nat}(hK:QH K T)(hM:Mem h0 n0 X st M)(hz:zeroOf P t=some l)(hN:d<N)
  (hn: ∀(c:Nat) T' st',QH ((d,.ptr c 0 0)::K) T'→Mem h0 n0 X st' ((c,0,l)::M)→WR P G N ops rest R T' st'):WR P G N ops (⟨some d,.alloc t,ty,pos,af,none⟩::rest) R T st:=by
 refine WW (v:=.ptr st.n 0 0) (st1:=⟨st.n+1,st.h.set st.n (.row false [(l.length,0,some l)])⟩) hK (.of fun T hT c d ty pos af g=>?_) hN fun T' hT'=>hn st.n T' _ hT' (hM.alloc l);show WU P t st=_;unfold WU;rw[hz,Qg,Uv]
theorem JK{d:Nat}{x:Operand}(hK:QH K T)(hM:Mem h0 n0 X st M)(hx:QG G K x=some v)(hc:XH Qw (QO v)=true)(hN:d<N)
  (hn: ∀(c:Nat) T' st',QH ((d,.ptr c 0 0)::K) T'→Mem h0 n0 X st' ((c,0,QO v)::M)→WR P G N ops rest R T' st'):WR P G N ops (⟨some d,.box t x,ty,pos,af,none⟩::rest) R T st:=by
 refine WW (v:=.ptr st.n 0 0) (st1:=⟨st.n+1,st.h.set st.n (.row false [((QO v).length,0,some (QO v))])⟩) hK (.of fun T hT c d ty pos af g=>?_) hN fun T' hT'=>hn st.n T' _ hT' (hM.alloc _);show(ob (QN G T x) fun x=>RQ x st)=_;rw[hT.QN hx,Qg];unfold RQ;rw[hc,Q7,Uv]
theorem Uh{x y:Operand}{w:AV}(hK:QH K T)(hM:Mem h0 n0 X st M)(hx:QG G K x=some (.ptr c m off))(hy:QG G K y=some w)(hk:M[k]? =some (c,m,l))(hz:UX P t=some n)(hn:(QO w).length=n)
  (hc:XH Qw (QO w)=true) (ho:YB (QO w) off l=some l') (hr: ∀st',Mem h0 n0 X st' (M.set k (c,m,l'))→WR P G N ops rest R T st'):WR P G N ops (⟨none,.store t x y,ty,pos,af,none⟩::rest) R T st:=by
 obtain⟨st1,h1,h2,_⟩:=hM.store hk hz hn hc ho;refine Sg (v:=.tup []) (st1:=st1) hK (.of fun T hT c d ty pos af g=>?_) (hr st1 h2);show(ob (QN G T x) fun x=>ob (QN G T y) fun y=>W7 P t x y st)=_;rw[hT.QN hx,hT.QN hy,Qg,Qg,h1]
end
theorem QZ{P:Program}{r:List AV}(h:tk P t=.agg n)(hl:VW n (Wr off l) (fun r=>some (AV.agg r))=some (.agg r)):YJ P t l off=some (.agg r):=by
 unfold YJ;rw[h];exact hl
theorem Qc{P:Program}(h:tk P t=.one)(hl:nth l off=some v):YJ P t l off=some v:=by
 unfold YJ;rw[h];exact hl
end
section
open Go
variable {af:Array Edge} {d j t:Nat} {op:Op} {pol:Bool} {pos:String} {ty:TypeId}

variable {P:Program} {G:Env} {N:Nat} {st:St} {K:List (Nat×AV)} {T:Tr AV} {ops rest:List Oper} {R:Tr AV→St→Prop}
theorem wV{x:Bool}{st1:St}(hK:QH K T)(h:Us P G K op st (.bool x) st1)(hN:d<N)(hn: ∀(b:Bool) T',x=b→QH ((d,.bool b)::K) T'→WR P G N ops rest R T' st1):
 WR P G N ops (⟨some d,op,ty,pos,af,none⟩::rest) R T st:=WW hK h hN fun T' hT'=>hn x T' rfl hT'
theorem Vs{d:Option Nat}{b:Bool}(hK:QH K T)(ht:Ur ops j=some t)(hb:K.lookup t=some (.bool b)):QX ops ⟨d,op,ty,pos,af,some (j,pol)⟩ T=(b==pol):=by
 unfold QX;simp only[ht];rw[show Ux T t=.bool b from hK t _ hb]
 cases b<;>cases pol<;>rfl
theorem we{v:AV}{st1:St}(hK:QH K T)(ht:Ur ops j=some t)(hb:K.lookup t=some (.bool pol))(h:Us P G K op st v st1)(hN:d<N)
  (hn: ∀T',QH ((d,v)::K) T'→WR P G N ops rest R T' st1):WR P G N ops (⟨some d,op,ty,pos,af,some (j,pol)⟩::rest) R T st:=
 G8 (by rw[Vs hK ht hb];cases pol<;>rfl) (h T hK _ _ _ _ _) (fun e he=>by injection he with he;rw[←he];exact hN) (hn _ (hK.set d v))
theorem fS{b:Bool}(hK:QH K T)(ht:Ur ops j=some t)(hb:K.lookup t=some (.bool b))(hne:(b==pol)=false)(hN:d<N)
  (hn: ∀T',QH ((d,.tup [])::K) T'→WR P G N ops rest R T' st):WR P G N ops (⟨some d,op,ty,pos,af,some (j,pol)⟩::rest) R T st:=by
 obtain⟨L',n',T',st',h1,h2⟩:=hn _ (hK.set d (.tup []));refine⟨L',n',T',st',?_,h2⟩;show(ob (Jz P G _ ops _ T st) fun r=>Yy N (some d) r.1 T fun T=>tl (Ez P G _ N ops rest T r.2))=_;unfold Jz;rw[Vs hK ht hb,hne,Qq,Qg];show Q6 (Nat.ble (d+1) N) (T.put d (.tup []) _)=_;rw[Nat.ble_eq_true_of_le hN,Tr.put_eq];exact h1
theorem eO{x y:Operand}{tys:Array TypeId}{a b:Int}{k:IntKind}(hx:QG G K x=some (.int k a))(hy:QG G K y=some (.int k b)):Us P G K (.call {callee:=.builtin .max,args:= #[x,y],argTypes:=tys}) st (.int k (max a b)) st:=.of fun T hT cc d ty pos af g=>by
 show ret (ob (JB (QN G T) [x,y]) (iS true)) st=_;rw[Jw,hT.QN hx,Qg,Jw,hT.QN hy,Qg];show ret (some (AV.int k (Qj (NK a b) b a))) st=_;rw[YE]
 by_cases h:a<b
 ·rw[decide_eq_true h,Qv,show max a b=b by omega];rfl
 ·rw[decide_eq_false h,Qq,show max a b=a by omega];rfl
end
section
open Go
variable {n:Nat}

variable {P:Program} {G:Env} {N:Nat} {st:St} {K:List (Nat×AV)} {T:Tr AV} {ops:List Oper} {rest:List (Nat×Oper×Nat)} {R:Tr AV→St→Prop} {sn:List St}
def UY(ops:List Oper)(q:Nat×Nat):Nat×Oper×Nat:=(q.1,(ops[q.1]?).getD ⟨none,.move (.tmp 0),0,"",#[],none⟩,q.2)
theorem YI{ops:List Oper}{i:Nat}{o:Oper}(ho:ops[i]? =some o)(r:List (Nat×Nat)):((i,n)::r).map (UY ops)=(i,o,n)::r.map (UY ops):=by
 rw[List.map_cons];unfold UY;rw[ho];rfl
theorem QT{id:Nat}{ops:Array Oper}{Q:Ex→Tr AV→St→Prop}{l:List (Nat×Nat)}(hp:Z0 P ops.toList=some (l.map (UY ops.toList)))
 (h:WD P G N ops.toList (l.map (UY ops.toList)) (Q .nor) T st [st]):W P G N (.region id ops true) Q T st:=ea hp h
theorem Jd(h:R T st):WD P G N ops (([]:List (Nat×Nat)).map (UY ops)) R T st sn:=⟨0,0,T,st,rfl,h⟩
theorem Vr{i:Nat}{o:Oper}{v:AV}{st1:St}(hw:QX ops o T=true)(h: ∃L n,∀L' n',L≤L'→n≤n'→IJ P (QN G T) (Jp P G L' n') o st=some (v,st1))(ha:again P G o T v n sn.tail=true)(hd: ∀d,o.dst=some d→d<N)
  (hn:WD P G N ops rest R (match o.dst with|some d=>T.set d v|none=>T) st1 (Qj (Nat.beq (Qz P o.op) 3) (st1::sn) sn)):WD P G N ops ((i,o,n)::rest) R T st sn:=by
 obtain⟨L,m,h⟩:=h;obtain⟨L',m',T',st',h1,h2⟩:=hn;refine⟨max L L',max m m',T',st',?_,h2⟩
 show(ob (Jz P G _ ops o T st) fun r=>Q6 (Qj (QX ops o T) (again P G o T r.1 n (List.rec [] (fun _ t _=>t) sn)) true)
  (Yy N o.dst r.1 T fun T=>tl (Vm P G _ N ops rest T r.2 (Qj (Nat.beq (Qz P o.op) 3) (r.2::sn) sn))))=_
 have e:Jz P G (Jp P G (max L L') (max m m')) ops o T st=some (v,st1):=by
  unfold Jz;rw[hw,Qv];exact h _ _ (Nat.le_max_left _ _) (Nat.le_max_left _ _)
 rw[e,Qg,hw,Qv,CU];show Q6 (again P G o T v n sn.tail) _=_;rw[ha,Q7];have h1':=OL (ZT m' (max m m') L' (max L L') (Nat.le_max_right _ _) (Nat.le_max_right _ _)) _ _ _ _ _ h1
 cases hdst:o.dst with
 |none=>rw[hdst]at h1';exact h1'
 |some d=>
  rw[hdst]at h1';show Q6 (Nat.ble (d+1) N) (T.put d v _)=_;rw[Nat.ble_eq_true_of_le (hd d hdst),Tr.put_eq];exact h1'
section
variable {r:List (Nat×Nat)} {i d:Nat} {op:Op} {ty:TypeId} {pos:String} {af:Array Edge} {v:AV} {st1:St}
theorem Co(ho:ops[i]? =some ⟨some d,op,ty,pos,af,none⟩)(hK:QH K T)(h:Us P G K op st v st1)(hk:Nat.beq (Qz P op) 3=false)(hN:d<N)(hn: ∀T',QH ((d,v)::K) T'→WD P G N ops (r.map (UY ops)) R T' st1 sn):
  WD P G N ops (((i,0)::r).map (UY ops)) R T st sn:=by
 rw[YI ho]
 exact Vr rfl (h T hK _ _ _ _ _) rfl (fun e he=>by injection he with he;rw[←he];exact hN) (by
  show WD P G N ops (r.map (UY ops)) R _ st1 (Qj (Nat.beq (Qz P op) 3) _ _)
  rw[hk];exact hn _ (hK.set d v))
theorem GB(ho:ops[i]? =some ⟨some d,op,ty,pos,af,none⟩)(hK:QH K T)(h:Us P G K op st v st1)(hk:Nat.beq (Qz P op) 3=true)(hN:d<N)(hn: ∀T',QH ((d,v)::K) T'→WD P G N ops (r.map (UY ops)) R T' st1 (st1::sn)):
  WD P G N ops (((i,0)::r).map (UY ops)) R T st sn:=by
 rw[YI ho]
 exact Vr rfl (h T hK _ _ _ _ _) rfl (fun e he=>by injection he with he;rw[←he];exact hN) (by
  show WD P G N ops (r.map (UY ops)) R _ st1 (Qj (Nat.beq (Qz P op) 3) _ _)
  rw[hk];exact hn _ (hK.set d v))
theorem JE{t:TypeId}{x:Operand}{u:AV}{s0 s1:St}(ho:ops[i]? =some ⟨some d,.load t x,ty,pos,af,none⟩)(hK:QH K T)(hx:QG G K x=some u)(h:QF P t u st.h.get=some v)(h1:QF P t u s1.h.get=some v)(he:HI v v=true)(hk:Nat.beq (Qz P (.load t x)) 3=false)(hN:d<N)
  (hn: ∀T',QH ((d,v)::K) T'→WD P G N ops (r.map (UY ops)) R T' st (s0::s1::sn)):WD P G N ops (((i,1)::r).map (UY ops)) R T st (s0::s1::sn):=by
 rw[YI ho]
 exact Vr rfl (Qi hx h T hK _ _ _ _ _) (by
  show Qj (Option.rec false (fun x=>Option.rec false (fun u=>HI u v) (QF P t x s1.h.get)) (QN G T x)) true false=true;rw[hK.QN hx];show Qj (Option.rec false (fun u=>HI u v) (QF P t u s1.h.get)) true false=true;rw[h1];show Qj (HI v v) true false=true
  rw[he];rfl) (fun e he=>by injection he with he;rw[←he];exact hN) (by
  show WD P G N ops (r.map (UY ops)) R _ st (Qj (Nat.beq (Qz P (.load t x)) 3) _ _)
  rw[hk];exact hn _ (hK.set d v))
theorem wX{x:Bool}(ho:ops[i]? =some ⟨some d,op,ty,pos,af,none⟩)(hK:QH K T)(h:Us P G K op st (.bool x) st1)(hk:Nat.beq (Qz P op) 3=false)(hN:d<N)(hn: ∀(b:Bool) T',x=b→QH ((d,.bool b)::K) T'→WD P G N ops (r.map (UY ops)) R T' st1 sn):
 WD P G N ops (((i,0)::r).map (UY ops)) R T st sn:=Co ho hK h hk hN fun T' hT'=>hn x T' rfl hT'
theorem wg{j t:Nat}{pol:Bool}(ho:ops[i]? =some ⟨some d,op,ty,pos,af,some (j,pol)⟩)(hK:QH K T)(ht:Ur ops j=some t)(hb:K.lookup t=some (.bool pol))(h:Us P G K op st v st1)(hk:Nat.beq (Qz P op) 3=false)(hN:d<N)
  (hn: ∀T',QH ((d,v)::K) T'→WD P G N ops (r.map (UY ops)) R T' st1 sn):WD P G N ops (((i,0)::r).map (UY ops)) R T st sn:=by
 rw[YI ho]
 exact Vr (by rw[Vs hK ht hb];cases pol<;>rfl) (h T hK _ _ _ _ _) rfl (fun e he=>by injection he with he;rw[←he];exact hN) (by
  show WD P G N ops (r.map (UY ops)) R _ st1 (Qj (Nat.beq (Qz P op) 3) _ _)
  rw[hk];exact hn _ (hK.set d v))
theorem fT{j t:Nat}{b pol:Bool}(ho:ops[i]? =some ⟨some d,op,ty,pos,af,some (j,pol)⟩)(hK:QH K T)(ht:Ur ops j=some t)(hb:K.lookup t=some (.bool b))(hne:(b==pol)=false)(hN:d<N)
  (hn: ∀T' sn',QH ((d,.tup [])::K) T'→WD P G N ops (r.map (UY ops)) R T' st sn'):WD P G N ops (((i,n)::r).map (UY ops)) R T st sn:=by
 rw[YI ho];obtain⟨L',n',T',st',h1,h2⟩:=hn _ (Qj (Nat.beq (Qz P op) 3) (st::sn) sn) (hK.set d (.tup []));refine⟨L',n',T',st',?_,h2⟩;show(ob (Jz P G _ ops _ T st) fun x=>Q6 (Qj (QX ops _ T) _ true) (Yy N (some d) x.1 T fun T=>tl (Vm P G _ N ops (r.map (UY ops)) T x.2 (Qj (Nat.beq (Qz P op) 3) (x.2::sn) sn))))=_;unfold Jz;rw[Vs hK ht hb,hne,Qq,Qg,Qq,Q7];show Q6 (Nat.ble (d+1) N) (T.put d (.tup []) _)=_;rw[Nat.ble_eq_true_of_le hN,Tr.put_eq];exact h1
end
end
section
open Go

variable {P:Program} {G:Env} {N:Nat} {st:St} {K:List (Nat×AV)} {T:Tr AV} {ops:List Oper} {r:List (Nat×Nat)} {R:Tr AV→St→Prop} {sn:List St} {h0:Hp} {n0:Nat} {X:List Nat} {M:List (Nat×Nat×List AV)}
theorem Cp{i d:Nat}{t ty:TypeId}{pos:String}{af:Array Edge}{l:List AV}(ho:ops[i]? =some ⟨some d,.alloc t,ty,pos,af,none⟩)(hK:QH K T)(hM:Mem h0 n0 X st M)(hz:zeroOf P t=some l)(hN:d<N)
  (hn: ∀(c:Nat) T' st',QH ((d,.ptr c 0 0)::K) T'→Mem h0 n0 X st' ((c,0,l)::M)→WD P G N ops (r.map (UY ops)) R T' st' sn):WD P G N ops (((i,0)::r).map (UY ops)) R T st sn:=by
 refine Co (v:=.ptr st.n 0 0) (st1:=⟨st.n+1,st.h.set st.n (.row false [(l.length,0,some l)])⟩) ho hK (.of fun T hT c d ty pos af g=>?_) rfl hN fun T' hT'=>hn st.n T' _ hT' (hM.alloc l);show WU P t st=_;unfold WU;rw[hz,Qg,Uv]
theorem La{i:Nat}{t ty:TypeId}{pos:String}{af:Array Edge}{x y:Operand}{w:AV}{k c m off n:Nat}{l l':List AV}(ho:ops[i]? =some ⟨none,.store t x y,ty,pos,af,none⟩)(hK:QH K T)(hM:Mem h0 n0 X st M)(hx:QG G K x=some (.ptr c m off))(hy:QG G K y=some w)
  (hk:M[k]? =some (c,m,l)) (hz:UX P t=some n) (hn:(QO w).length=n) (hc:XH Qw (QO w)=true) (hv:YB (QO w) off l=some l')
  (hr: ∀st',Mem h0 n0 X st' (M.set k (c,m,l'))→WD P G N ops (r.map (UY ops)) R T st' (st'::sn)):WD P G N ops (((i,0)::r).map (UY ops)) R T st sn:=by
 obtain⟨st1,h1,h2,_⟩:=hM.store hk hz hn hc hv;rw[YI ho]
 have hS:Us P G K (.store t x y) st (.tup []) st1:=.of fun T hT c d ty pos af g=>by
  show(ob (QN G T x) fun x=>ob (QN G T y) fun y=>W7 P t x y st)=_;rw[hT.QN hx,hT.QN hy,Qg,Qg,h1]
 exact Vr rfl (hS T hK _ _ _ _ _) rfl (fun e he=>by cases he) (hr st1 h2)
end
end Go.Proofs.YtildagdnomiahaaGreatDoor
