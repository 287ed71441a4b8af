/-
  Several texts in one: XSymA, XSymB, XSymC, XSymD, XSymE, XSymF, XSymG.
-/
import Derived.Test.YtaomhhkflohhgaaGreatDoorMgEv3
set_option linter.unusedSimpArgs false
set_option linter.unusedVariables false
namespace Go.Proofs.YtaomhhkflohhgaaGreatDoor
section
open Go
variable {N:Nat} {T:Tr AV} {ops:List Oper}

def vN(c c':Z7):Prop:= ∀f args st r,c f args st=some r→c' f args st=some r
theorem YM{α β:Type}{x:Option α}{k k':α→Option β}{r:β}(h:ob x k=some r)(hk: ∀a,x=some a→k a=some r→k' a=some r):ob x k'=some r:=by
 obtain⟨a,ha,h⟩:=Qq h;rw[ha];exact hk a ha h
theorem EO{β:Type}{b:Bool}{k k':Option β}{r:β}(h:QZ b k=some r)(hk:k=some r→k'=some r):QZ b k'=some r:=by
 obtain⟨hb,h⟩:=Q4 h;subst hb;exact hk h
variable {P:Program} {G:Env}
theorem js{R:Operand→Option AV}{c c':Z7}(hc:vN c c'){o:Oper}{st:St}{r:AV×St}(h:Rk P R c o st=some r):Rk P R c' o st=some r:=by
 obtain⟨dst,op,ty,pos,af,g⟩:=o
 cases op with
 |call cl=>
  obtain⟨callee,args,tys⟩:=cl
  cases callee with
  |value f=>
   have h:(ob (R f) fun v=>(match v with
    |.fn fid a cap=>ob (UZ R args.toList) fun l=>c fid (XD a (XD l cap)) st
    |_=>none))=some r:=h
   show(ob (R f) fun v=>(match v with
    |.fn fid a cap=>ob (UZ R args.toList) fun l=>c' fid (XD a (XD l cap)) st
    |_=>none))=some r
   refine YM h fun v _ h=>?_
   cases v with
   |fn fid a cap=>exact YM h fun l _ h=>hc _ _ _ _ h
   |_=>cases h
  |invoke f name=>
   have h:(ob (R f) fun v=>(match v with
    |.ifc t u=>ob (Dv P t name) fun fid=>ob (UZ R args.toList) fun l=>c fid (u::l) st
    |_=>none))=some r:=h
   show(ob (R f) fun v=>(match v with
    |.ifc t u=>ob (Dv P t name) fun fid=>ob (UZ R args.toList) fun l=>c' fid (u::l) st
    |_=>none))=some r
   refine YM h fun v _ h=>?_
   cases v with
   |ifc t u=>exact YM h fun fid _ h=>YM h fun l _ h=>hc _ _ _ _ h
   |_=>cases h
  |_=>exact h
 |_=>exact h
theorem No{c c':Z7}(hc:vN c c'){o:Oper}{st:St}{r:AV×St}(h:Y8 P G c ops o T st=some r):Y8 P G c' ops o T st=some r:=by
 unfold Y8 at h ⊢
 cases hw:Ym ops o T with
 |true=>rw[hw]at h;exact js hc h
 |false=>rw[hw]at h;exact h
theorem FQ{β:Type}{d:Option Nat}{v:AV}{k k':Tr AV→Option β}{r:β}(h:E4 N d v T k=some r)(hk: ∀T,k T=some r→k' T=some r):E4 N d v T k'=some r:=by
 cases d with
 |none=>exact hk _ h
 |some t=>
  have h:QZ (Nat.ble (t+1) N) (T.put t v k)=some r:=h;show QZ (Nat.ble (t+1) N) (T.put t v k')=some r;refine EO h fun h=>?_;rw[Tr.put_eq]at h ⊢;exact hk _ h
theorem G4{c c':Z7}(hc:vN c c'): ∀(l:List Oper) (T:Tr AV) (st:St) (r:Tr AV×St),HU P G c N ops l T st=some r→HU P G c' N ops l T st=some r:=by
 intro l
 induction l with
 |nil=>intro T st r h;exact h
 |cons o l ih=>
  intro T st r h;have h:(ob (Y8 P G c ops o T st) fun r=>E4 N o.dst r.1 T fun T=>tl (HU P G c N ops l T r.2))=some r:=h;show(ob (Y8 P G c' ops o T st) fun r=>E4 N o.dst r.1 T fun T=>tl (HU P G c' N ops l T r.2))=some r;obtain⟨a,ha,h⟩:=Qq h;rw[No hc ha,Q1];exact FQ h fun T h=>ih T a.2 r h
theorem G5{c c':Z7}(hc:vN c c'): ∀(l:List (Nat×Oper×Nat)) (T:Tr AV) (st:St) (sn:List St) (r:Tr AV×St),Hk P G c N ops l T st sn=some r→Hk P G c' N ops l T st sn=some r:=by
 intro l
 induction l with
 |nil=>intro T st sn r h;exact h
 |cons q l ih=>
  intro T st sn r h
  have h:(ob (Y8 P G c ops q.2.1 T st) fun r=>QZ (Qp (Ym ops q.2.1 T) (again P G q.2.1 T r.1 q.2.2 (List.rec [] (fun _ t _=>t) sn)) true)
   (E4 N q.2.1.dst r.1 T fun T=>tl (Hk P G c N ops l T r.2 (Qp (Nat.beq (QP P q.2.1.op) 3) (r.2::sn) sn))))=some r:=h
  show(ob (Y8 P G c' ops q.2.1 T st) fun r=>QZ (Qp (Ym ops q.2.1 T) (again P G q.2.1 T r.1 q.2.2 (List.rec [] (fun _ t _=>t) sn)) true)
   (E4 N q.2.1.dst r.1 T fun T=>tl (Hk P G c' N ops l T r.2 (Qp (Nat.beq (QP P q.2.1.op) 3) (r.2::sn) sn))))=some r
  obtain⟨a,ha,h⟩:=Qq h;rw[No hc ha,Q1];refine EO h fun h=>FQ h fun T h=>ih T a.2 _ r h
theorem NM{f f':Tr AV→St→Option (Ex×Tr AV×St)}(hf: ∀T st r,f T st=some r→f' T st=some r): ∀(L L':Nat),L≤L'→ ∀T st r,Kb L f T st=some r→Kb L' f' T st=some r:=by
 intro L
 induction L with
 |zero=>intro L' _ T st r h;cases h
 |succ L ih=>
  intro L' hL T st r h;obtain⟨M,rfl⟩: ∃M,L'=M+1:=⟨L'-1,by omega⟩;have h:EE (f T st) (Kb L f)=some r:=h;show EE (f' T st) (Kb M f')=some r;rcases IE h with⟨T1,st1,h1,h2⟩|⟨h1,h2⟩
  ·rw[hf _ _ _ h1];exact ih M Qh _ _ _ h2
  ·rw[hf _ _ _ h1];obtain⟨e,T,st⟩:=r
   cases e with
   |nor=>exact absurd rfl h2
   |exit i=>rfl
   |ret=>rfl
theorem O6{ts te:TypeId}{cap:AV}{ps:List Tmp}{fa fb fa' fb':Tr AV→St→Option (Ex×Tr AV×St)}(ha: ∀T st r,fa T st=some r→fa' T st=some r)(hb: ∀T st r,fb T st=some r→fb' T st=some r):
  ∀(n:Nat) (st:St) (r:Ex×Tr AV×St),WX P N ts te cap ps fa fb T n st=some r→WX P N ts te cap ps fa' fb' T n st=some r:=by
 intro n
 induction n with
 |zero=>intro st r h;exact h
 |succ n ih=>
  intro st r h
  have h:(ob (JD P ts cap st.h.get) fun s=>ob (UF P ts s (.int .i64 (Int.ofNat n))) fun q=>ob (JD P te q st.h.get) fun v=>
   Kz N ps (.int .i64 (Int.ofNat n)) v T fun T1=>ob (fa T1 st) fun r=>Ex.rec (ob (fb r.2.1 r.2.2) fun q=>Ex.rec (tl (WX P N ts te cap ps fa fb T n q.2.2)) (fun id=>some (.exit id,T,q.2.2)) (some (.ret,T,q.2.2)) q.1) (fun _=>none) none r.1)=some r:=h
  show(ob (JD P ts cap st.h.get) fun s=>ob (UF P ts s (.int .i64 (Int.ofNat n))) fun q=>ob (JD P te q st.h.get) fun v=>
   Kz N ps (.int .i64 (Int.ofNat n)) v T fun T1=>ob (fa' T1 st) fun r=>Ex.rec (ob (fb' r.2.1 r.2.2) fun q=>Ex.rec (tl (WX P N ts te cap ps fa' fb' T n q.2.2)) (fun id=>some (.exit id,T,q.2.2)) (some (.ret,T,q.2.2)) q.1) (fun _=>none) none r.1)=some r
  refine YM h fun s _ h=>YM h fun q _ h=>YM h fun v _ h=>?_;unfold Kz at h ⊢
  split at h
  ·refine FQ h fun T h=>FQ h fun T h=>?_;obtain⟨⟨e1,T2,st2⟩,h1,h⟩:=Qq h;rw[ha _ _ _ h1,Q1]
   cases e1 with
   |exit i=>cases h
   |ret=>cases h
   |nor=>
    obtain⟨⟨e,T3,st3⟩,h2,h⟩:=Qq h;show(ob (fb' T2 st2) _)=_;rw[hb _ _ _ h2,Q1]
    cases e with
    |nor=>exact ih _ _ h
    |exit i=>exact h
    |ret=>exact h
  ·cases h
theorem Bj{c c':Z7}(hc:vN c c'){L L':Nat}(hL:L≤L'): ∀(k:Code) (T:Tr AV) (st:St) (r:Ex×Tr AV×St),codeF P G c N L k T st=some r→codeF P G c' N L' k T st=some r:=by
 intro k
 induction k with
 |region id ops draw=>
  intro T st r h
  cases draw with
  |true=>
   have h:(ob (E5 P ops.toList) fun pl=>ob (Hk P G c N ops.toList pl T st [st]) fun r=>some (Ex.nor,r))=some r:=h;show(ob (E5 P ops.toList) fun pl=>ob (Hk P G c' N ops.toList pl T st [st]) fun r=>some (Ex.nor,r))=some r;refine YM h fun pl _ h=>?_;obtain⟨a,ha,h⟩:=Qq h;rw[G5 hc _ _ _ _ _ ha];exact h
  |false=>
   have h:(ob (HU P G c N ops.toList ops.toList T st) fun r=>some (Ex.nor,r))=some r:=h;show(ob (HU P G c' N ops.toList ops.toList T st) fun r=>some (Ex.nor,r))=some r;obtain⟨a,ha,h⟩:=Qq h;rw[G4 hc _ _ _ _ ha];exact h
 |seq x y ihx ihy=>
  intro T st r h;have h:EE (codeF P G c N L x T st) (codeF P G c N L y)=some r:=h;show EE (codeF P G c' N L' x T st) (codeF P G c' N L' y)=some r;rcases IE h with⟨T1,st1,h1,h2⟩|⟨h1,h2⟩
  ·rw[ihx _ _ _ h1];exact ihy _ _ _ h2
  ·rw[ihx _ _ _ h1];obtain⟨e,T,st⟩:=r
   cases e with
   |nor=>exact absurd rfl h2
   |exit i=>rfl
   |ret=>rfl
 |cond g x y ihx ihy=>
  intro T st r h;have h:Bi (Ug G T g) (tl (codeF P G c N L x T st)) (tl (codeF P G c N L y T st))=some r:=h;show Bi (Ug G T g) (tl (codeF P G c' N L' x T st)) (tl (codeF P G c' N L' y T st))=some r;refine YM h fun v _ h=>?_
  cases v with
  |bool b=>
   cases b with
   |true=>exact ihx _ _ _ h
   |false=>exact ihy _ _ _ h
  |_=>cases h
 |block id x ih=>
  intro T st r h;have h:O4 id (codeF P G c N L x T st)=some r:=h;show O4 id (codeF P G c' N L' x T st)=some r;obtain⟨a,ha,h⟩:=Qq h;rw[ih _ _ _ ha];exact h
 |loop x ih=>intro T st r h;exact NM ih L L' hL T st r h
 |rangeFunc g ps a b iha ihb=>
  intro T st r h;have h:Ft P G N g ps.toList (Qp (Zh a) (Zh b) false) (codeF P G c N L a) (codeF P G c N L b) T st=some r:=h;show Ft P G N g ps.toList (Qp (Zh a) (Zh b) false) (codeF P G c' N L' a) (codeF P G c' N L' b) T st=some r;unfold Ft at h ⊢;refine EO h fun h=>YM h fun v _ h=>?_
  split at h
  ·refine YM h fun q _ h=>?_
   split at h
   ·split at h
    ·refine YM h fun s _ h=>YM h fun n _ h=>?_
     split at h
     ·exact YM h fun n _ h=>EO h fun h=>O6 iha ihb _ _ _ h
     ·cases h
    ·cases h
   ·cases h
  ·cases h
 |_=>intro T st r h;exact h
theorem MT: ∀(l:List AV) (i:Nat) (T:Tr AV),(∀t,i≤t→Zb T t=.tup [])→ ∃T',(∀(β:Type) (k:Tr AV→β),List.rec (motive:=fun _=>Nat→Tr AV→β) (fun(_:Nat) T=>k T) (fun v _ ih i T=>T.put i v (ih (i+1))) l i T=k T')∧
  ∀t,Zb T' t=if t<i then Zb T t else(l[t-i]?).getD (.tup []):=by
 intro l
 induction l with
 |nil=>
  intro i T hT;refine⟨T,fun _ _=>rfl,fun t=>?_⟩
  by_cases h:t<i
  ·rw[if_pos h]
  ·rw[if_neg h,hT t Qh];simp
 |cons v l ih=>
  intro i T hT
  obtain⟨T',h1,h2⟩:=ih (i+1) (T.set i v) fun t ht=>by rw[XY,if_neg Qh];exact hT t Qh
  refine⟨T',fun β k=>?_,fun t=>?_⟩
  ·show T.put i v _=_;rw[Tr.put_eq];exact h1 β k
  ·rw[h2,XY]
   by_cases h:t<i
   ·rw[if_pos Qh,if_neg Qh,if_pos h]
   ·rw[if_neg h]
    by_cases h3:t=i
    ·subst h3;rw[if_pos Qh,if_pos rfl];simp
    ·rw[if_neg Qh,show t-i=(t-(i+1))+1 by omega];simp
theorem Bq(l:List AV): ∃T,(∀(β:Type) (k:Tr AV→β),L8 l k=k T)∧ ∀t,Zb T t=(l[t]?).getD (.tup []):=by
 obtain⟨T,h1,h2⟩:=MT l 0 .nil fun t _=>rfl;exact⟨T,h1,fun t=>by rw[h2,if_neg Qh,Nat.sub_zero]⟩
theorem WU: ∀(n m L L':Nat),n≤m→L≤L'→vN (JT P G L n) (JT P G L' m):=by
 intro n
 induction n with
 |zero=>intro m L L' _ _ f args st r h;cases h
 |succ n ih=>
  intro m L L' hnm hL f args st r h;obtain⟨k,rfl⟩: ∃k,m=k+1:=⟨m-1,by omega⟩;have h:(Option.rec (ob (Ob P f) fun q=>QZ (Nat.ble (ZZ args) q.2.1) (L8 args fun T=>On (codeF P G (JT P G L n) q.2.1 L q.1 T st) fun T st=>ob (JS P q.2.2 T st) fun v=>some (v,st))) (fun sm=>sm args st) (G.s f):Option (AV×St))=some r:=h;show(Option.rec (ob (Ob P f) fun q=>QZ (Nat.ble (ZZ args) q.2.1) (L8 args fun T=>On (codeF P G (JT P G L' k) q.2.1 L' q.1 T st) fun T st=>ob (JS P q.2.2 T st) fun v=>some (v,st))) (fun sm=>sm args st) (G.s f):Option (AV×St))=some r
  cases hs:G.s f with
  |some sm=>rw[hs]at h;exact h
  |none=>
   rw[hs]at h;refine YM h fun q _ h=>EO h fun h=>?_;obtain⟨T,h1,_⟩:=Bq args;rw[h1]at h ⊢;obtain⟨⟨e,T2,st2⟩,hc,h⟩:=Qq h;have hc':=Bj (ih k L L' Qh hL) hL q.1 T st _ hc;show On (codeF P G (JT P G L' k) q.2.1 L' q.1 T st) _=_;rw[hc'];exact h

end
section
open Go
variable {c:Code} {id:Nat} {st1:St} {v:AV}

def Ev(P:Program)(G:Env)(f:FuncId)(args:List AV)(st:St)(v:AV)(st':St):Prop:= ∃L n,JT P G L n f args st=some (v,st')
def W(P:Program)(G:Env)(N:Nat)(c:Code)(Q:Ex→Tr AV→St→Prop)(T:Tr AV)(st:St):Prop:= ∃L n x T' st',codeF P G (JT P G L n) N L c T st=some (x,T',st')∧Q x T' st'
def WR(P:Program)(G:Env)(N:Nat)(ops l:List Oper)(Q:Tr AV→St→Prop)(T:Tr AV)(st:St):Prop:= ∃L n T' st',HU P G (JT P G L n) N ops l T st=some (T',st')∧Q T' st'
def WD(P:Program)(G:Env)(N:Nat)(ops:List Oper)(l:List (Nat×Oper×Nat))(Q:Tr AV→St→Prop)(T:Tr AV)(st:St)(sn:List St):Prop:= ∃L n T' st',Hk P G (JT P G L n) N ops l T st sn=some (T',st')∧Q T' st'

def Nj(k:Tr AV→St→Prop)(Q:Ex→Tr AV→St→Prop):Ex→Tr AV→St→Prop
 |.nor=>k
 |x=>Q x
def Cs(id:Nat)(Q:Ex→Tr AV→St→Prop):Ex→Tr AV→St→Prop
 |.exit i=>if i=id then Q .nor else Q (.exit i)
 |x=>Q x

variable {P:Program} {G:Env} {N:Nat} {Q:Ex→Tr AV→St→Prop} {T:Tr AV} {st:St}

theorem Zx{L L' n n':Nat}(hL:L≤L')(hn:n≤n'){T:Tr AV}{st:St}{r:Ex×Tr AV×St}(h:codeF P G (JT P G L n) N L c T st=some r):codeF P G (JT P G L' n') N L' c T st=some r:=
 Bj (WU n n' L L' hn hL) hL c T st r h
theorem qh{Q':Ex→Tr AV→St→Prop}(h:W P G N c Q T st)(hq: ∀x T st,Q x T st→Q' x T st):W P G N c Q' T st:=by
 obtain⟨L,n,x,T',st',h1,h2⟩:=h;exact⟨L,n,x,T',st',h1,hq _ _ _ h2⟩
theorem JM(h:Q .nor T st):W P G N .skip Q T st:=⟨0,0,_,_,_,rfl,h⟩
theorem yB{l:Nat}(h:Q .nor T st):W P G N (.label l) Q T st:=⟨0,0,_,_,_,rfl,h⟩
theorem Jx(h:Q (.exit id) T st):W P G N (.exit id) Q T st:=⟨0,0,_,_,_,rfl,h⟩
theorem Jv(h:Q .ret T st):W P G N .ret Q T st:=⟨0,0,_,_,_,rfl,h⟩
theorem UR{a b:Code}(h:W P G N a (Nj (W P G N b Q) Q) T st):W P G N (.seq a b) Q T st:=by
 obtain⟨L,n,x,T1,st1,h1,h2⟩:=h
 cases x with
 |nor=>
  obtain⟨L',n',y,T2,st2,h3,h4⟩:=h2;refine⟨max L L',max n n',y,T2,st2,?_,h4⟩;show EE (codeF P G _ N _ a T st) (codeF P G _ N _ b)=_;rw[Zx (Nat.le_max_left L L') (Nat.le_max_left n n') h1];exact Zx (Nat.le_max_right L L') (Nat.le_max_right n n') h3
 |exit i=>exact⟨L,n,_,T1,st1,by show EE (codeF P G _ N _ a T st) (codeF P G _ N _ b)=_;rw[h1];rfl,h2⟩
 |ret=>exact⟨L,n,_,T1,st1,by show EE (codeF P G _ N _ a T st) (codeF P G _ N _ b)=_;rw[h1];rfl,h2⟩
theorem Zz{g:Operand}{a b:Code}{t:Bool}(hg:Ug G T g=some (.bool t))(ha:t=true→W P G N a Q T st)(hb:t=false→W P G N b Q T st):W P G N (.cond g a b) Q T st:=by
 cases t with
 |true=>
  obtain⟨L,n,x,T',st',h1,h2⟩:=ha rfl;exact⟨L,n,x,T',st',by show Bi (Ug G T g) _ _=_;rw[hg];exact h1,h2⟩
 |false=>
  obtain⟨L,n,x,T',st',h1,h2⟩:=hb rfl;exact⟨L,n,x,T',st',by show Bi (Ug G T g) _ _=_;rw[hg];exact h1,h2⟩
theorem Wh(h:W P G N c (Cs id Q) T st):W P G N (.block id c) Q T st:=by
 obtain⟨L,n,x,T',st',h1,h2⟩:=h;have e:codeF P G (JT P G L n) N L (.block id c) T st=O4 id (codeF P G (JT P G L n) N L c T st):=rfl;rw[h1]at e
 cases x with
 |nor=>exact⟨L,n,_,T',st',e,h2⟩
 |ret=>exact⟨L,n,_,T',st',e,h2⟩
 |exit i=>
  by_cases hi:i=id
  ·subst hi;have h2:(if i=i then Q .nor else Q (.exit i)) T' st':=h2;rw[if_pos rfl]at h2;refine⟨L,n,.nor,T',st',?_,h2⟩;rw[e];show Qp (Nat.beq i i) _ _=_;rw[Nat.beq_refl];rfl
  ·have h2:(if i=id then Q .nor else Q (.exit i)) T' st':=h2;rw[if_neg hi]at h2;refine⟨L,n,.exit i,T',st',?_,h2⟩;rw[e];show Qp (Nat.beq i id) _ _=_
   have:Nat.beq i id=false:=by
    cases hb:Nat.beq i id with
    |false=>rfl
    |true=>exact absurd (Nat.eq_of_beq_eq_true hb) hi
   rw[this];rfl
theorem Uc(h:W P G N c (Nj (W P G N (.loop c) Q) Q) T st):W P G N (.loop c) Q T st:=by
 obtain⟨L,n,x,T1,st1,h1,h2⟩:=h;have e: ∀L n,codeF P G (JT P G (L+1) n) N (L+1) (.loop c) T st=EE (codeF P G (JT P G (L+1) n) N (L+1) c T st) (Kb L (codeF P G (JT P G (L+1) n) N (L+1) c)):=fun _ _=>rfl
 cases x with
 |nor=>
  obtain⟨L',n',y,T2,st2,h3,h4⟩:=h2;refine⟨max L L'+1,max n n',y,T2,st2,?_,h4⟩;rw[e,Zx (Nat.le_succ_of_le (Nat.le_max_left L L')) (Nat.le_max_left n n') h1];have h3:Kb L' (codeF P G (JT P G L' n') N L' c) T1 st1=some (y,T2,st2):=h3;exact NM (fun T st r h=>Zx (Nat.le_succ_of_le (Nat.le_max_right L L')) (Nat.le_max_right n n') h) L' (max L L') (Nat.le_max_right _ _) T1 st1 _ h3
 |exit i=>exact⟨L+1,n,_,T1,st1,by rw[e,Zx (Nat.le_succ L) (Nat.le_refl n) h1];rfl,h2⟩
 |ret=>exact⟨L+1,n,_,T1,st1,by rw[e,Zx (Nat.le_succ L) (Nat.le_refl n) h1];rfl,h2⟩
theorem JQ(I:Nat→Tr AV→St→Prop)(hstep: ∀n T st,I n T st→W P G N c (Nj (fun T' st'=> ∃m,m<n∧I m T' st') Q) T st): ∀n T st,I n T st→W P G N (.loop c) Q T st:=by
 intro n
 induction n using Nat.strongRecOn with
 |_ n ih=>
  intro T st h;refine Uc (qh (hstep n T st h) fun x T' st' hx=>?_)
  cases x with
  |nor=>
   obtain⟨m,hm,hI⟩:=hx;exact ih m hm T' st' hI
  |exit i=>exact hx
  |ret=>exact hx
theorem Uf{ops:Array Oper}(h:WR P G N ops.toList ops.toList (Q .nor) T st):W P G N (.region id ops false) Q T st:=by
 obtain⟨L,n,T',st',h1,h2⟩:=h;refine⟨L,n,.nor,T',st',?_,h2⟩;show(ob (HU P G _ N ops.toList ops.toList T st) fun r=>some (Ex.nor,r))=_;rw[h1];rfl
theorem x9{ops:Array Oper}{pl:List (Nat×Oper×Nat)}(hp:E5 P ops.toList=some pl)(h:WD P G N ops.toList pl (Q .nor) T st [st]):W P G N (.region id ops true) Q T st:=by
 obtain⟨L,n,T',st',h1,h2⟩:=h;refine⟨L,n,.nor,T',st',?_,h2⟩;show(ob (E5 P ops.toList) fun pl=>ob (Hk P G _ N ops.toList pl T st [st]) fun r=>some (Ex.nor,r))=_;rw[hp,Q1,h1];rfl

def Jr(K:List (Nat×AV))(T:Tr AV):Prop:= ∀t v,K.lookup t=some v→Zb T t=v
theorem Jr.set{K:List (Nat×AV)}{T:Tr AV}(h:Jr K T)(d:Nat)(v:AV):Jr ((d,v)::K) (T.set d v):=by
 intro t u hl;rw[XY]
 by_cases ht:t=d
 ·subst ht;rw[List.lookup_cons,beq_self_eq_true]at hl
  injection hl with hl
  rw[if_pos rfl,hl]
 ·rw[List.lookup_cons,beq_false_of_ne ht]at hl;rw[if_neg ht];exact h t u hl
theorem Jr.nil{T:Tr AV}:Jr [] T:=fun t v h=>(by cases h)
theorem Jr.cons{K:List (Nat×AV)}{T:Tr AV}{d:Nat}(hd:Zb T d=v)(h:Jr K T):Jr ((d,v)::K) T:=by
 intro t u hl
 by_cases ht:t=d
 ·subst ht;rw[List.lookup_cons,beq_self_eq_true]at hl
  injection hl with hl
  rw[←hl];exact hd
 ·rw[List.lookup_cons,beq_false_of_ne ht]at hl;exact h t u hl
noncomputable def JF(G:Env)(K:List (Nat×AV))(x:Operand):Option AV:=match x with
 |.tmp t=>K.lookup t
 |.const v=>ofConst v
 |.global g=>QZ (G.g g) (some (.ptr g 0 0))
 |.func f=>some (.fn f [] [])
theorem Jr.Ug{K:List (Nat×AV)}{T:Tr AV}(h:Jr K T){x:Operand}{v:AV}(hx:JF G K x=some v):Ug G T x=some v:=by
 cases x with
 |tmp t=>exact congrArg some (h t v hx)
 |const c=>exact hx
 |global g=>exact hx
 |func f=>exact hx
theorem Jr.row{K:List (Nat×AV)}{T:Tr AV}(h:Jr K T): ∀(l:List Operand) (vs:List AV),UZ (JF G K) l=some vs→UZ (Proofs.YtaomhhkflohhgaaGreatDoor.Ug G T) l=some vs:=by
 intro l
 induction l with
 |nil=>intro vs hv;exact hv
 |cons x l ih=>
  intro vs hv;rw[Ub]at hv ⊢;obtain⟨b,hb,hv⟩:=Qq hv;obtain⟨t,ht,hv⟩:=Qq hv;rw[h.Ug hb,Q1,ih t ht,Q1];exact hv
def YK(P:Program)(G:Env)(K:List (Nat×AV))(op:Op)(st:St)(v:AV)(st1:St):Prop:= ∀T,Jr K T→ ∀(d:Option Tmp) (ty:TypeId) (pos:String) (af:Array Edge) (g:Option (Nat×Bool)),∃L n,∀L' n',L≤L'→n≤n'→Rk P (Ug G T) (JT P G L' n') ⟨d,op,ty,pos,af,g⟩ st=some (v,st1)
section ops
variable {ops rest:List Oper} {K:List (Nat×AV)} {R:Tr AV→St→Prop}
theorem Y5(h:R T st):WR P G N ops [] R T st:=⟨0,0,T,st,rfl,h⟩
theorem Bu{o:Oper}(hw:Ym ops o T=true)(h: ∃L n,∀L' n',L≤L'→n≤n'→Rk P (Ug G T) (JT P G L' n') o st=some (v,st1))(hd: ∀d,o.dst=some d→d<N)
  (hn:WR P G N ops rest R (match o.dst with|some d=>T.set d v|none=>T) st1):WR P G N ops (o::rest) R T st:=by
 obtain⟨L,n,h⟩:=h;obtain⟨L',n',T',st',h1,h2⟩:=hn;refine⟨max L L',max n n',T',st',?_,h2⟩;show(ob (Y8 P G _ ops o T st) fun r=>E4 N o.dst r.1 T fun T=>tl (HU P G _ N ops rest T r.2))=_
 have e:Y8 P G (JT P G (max L L') (max n n')) ops o T st=some (v,st1):=by
  unfold Y8;rw[hw,QV];exact h _ _ (Nat.le_max_left _ _) (Nat.le_max_left _ _)
 rw[e,Q1];have h1':=G4 (WU n' (max n n') L' (max L L') (Nat.le_max_right _ _) (Nat.le_max_right _ _)) _ _ _ _ h1
 cases hdst:o.dst with
 |none=>rw[hdst]at h1';exact h1'
 |some d=>
  rw[hdst]at h1';show QZ (Nat.ble (d+1) N) (T.put d v _)=_;rw[Nat.ble_eq_true_of_le (hd d hdst),Tr.put_eq];exact h1'
theorem LZ{d:Nat}{op:Op}{ty:TypeId}{pos:String}{af:Array Edge}(hK:Jr K T)(h:YK P G K op st v st1)(hN:d<N)(hn: ∀T',Jr ((d,v)::K) T'→WR P G N ops rest R T' st1):
  WR P G N ops (⟨some d,op,ty,pos,af,none⟩::rest) R T st:=
 Bu rfl (h T hK _ _ _ _ _) (fun e he=>by injection he with he;rw[←he];exact hN) (hn _ (hK.set d v))
theorem vP{op:Op}{ty:TypeId}{pos:String}{af:Array Edge}(hK:Jr K T)(h:YK P G K op st v st1)(hn:WR P G N ops rest R T st1):
  WR P G N ops (⟨none,op,ty,pos,af,none⟩::rest) R T st:=
 Bu rfl (h T hK _ _ _ _ _) (fun e he=>by cases he) hn
end ops
end
section
open Go
variable {a b:Int} {f:FuncId} {k:IntKind} {l:List AV} {st1:St} {t yt:TypeId} {u v:AV} {x y:Operand}

variable {P:Program} {G:Env} {K:List (Nat×AV)} {st:St}
theorem YK.of{op:Op}(h: ∀T,Jr K T→ ∀(c:Z7) (d:Option Tmp) (ty:TypeId) (pos:String) (af:Array Edge) (g:Option (Nat×Bool)),Rk P (Ug G T) c ⟨d,op,ty,pos,af,g⟩ st=some (v,st1)):YK P G K op st v st1:=
 fun T hT d ty pos af g=>⟨0,0,fun _ _ _ _=>h T hT _ d ty pos af g⟩
theorem Q9(hx:JF G K x=some v):YK P G K (.move x) st v st:=.of fun T hT c d ty pos af g=>by
 show ret (Ug G T x) st=_;rw[hT.Ug hx];rfl
theorem JH(hx:JF G K x=some v):YK P G K (.assign x) st v st:=.of fun T hT c d ty pos af g=>by
 show ret (Ug G T x) st=_;rw[hT.Ug hx];rfl
theorem yZ{a b:Operand}{t:Bool}(hx:JF G K x=some (.bool t))(ha:JF G K a=some u)(hb:JF G K b=some v):YK P G K (.pick x a b) st (Qp t u v) st:=.of fun T hT c d ty pos af g=>by
 show(ob (Ug G T x) fun c=>(match c with
  |.bool t=>ret (Qp t (Ug G T a) (Ug G T b)) st
  |_=>none))=_
 rw[hT.Ug hx,Q1];show ret (Qp t (Ug G T a) (Ug G T b)) st=_;rw[hT.Ug ha,hT.Ug hb]
 cases t<;>rfl
theorem YS{op:BinOp}{w:AV}(hx:JF G K x=some u)(hy:JF G K y=some w)(h:b2 P op t u w=some v):YK P G K (.binOp op t x y yt) st v st:=.of fun T hT c d ty pos af g=>by
 show ret (ob (Ug G T x) fun x=>ob (Ug G T y) fun y=>b2 P op t x y) st=_;rw[hT.Ug hx,hT.Ug hy,Q1,Q1,h];rfl
theorem DJ(k:IntKind):Bf k k=true:=decide_eq_true rfl
theorem WY{op:BinOp}(h1:op≠ .shl)(h2:op≠ .shr):b2 P op t (.int k a) (.int k b)=ej op k a b:=by
 cases op<;>first
  |exact absurd rfl h1
  |exact absurd rfl h2
  |(show QZ (Bf k k) _=_;rw[DJ];rfl)
theorem Rf(hx:JF G K x=some (.int k a))(hy:JF G K y=some (.int k b)):YK P G K (.binOp .lss t x y yt) st (.bool (decide (a<b))) st:=
 YS hx hy (by rw[WY QT QT];show some (AV.bool (Dz a b))=_;rw[X9])
theorem xW(hx:JF G K x=some (.int k a))(hy:JF G K y=some (.int k b)):YK P G K (.binOp .gtr t x y yt) st (.bool (decide (b<a))) st:=
 YS hx hy (by rw[WY QT QT];show some (AV.bool (Dz b a))=_;rw[X9])
theorem NB(a b:Int):(!decide (a<b))=decide (b≤a):=by
 by_cases h:a<b
 ·rw[decide_eq_true h,decide_eq_false Qh];rfl
 ·rw[decide_eq_false h,decide_eq_true Qh];rfl
theorem xV(hx:JF G K x=some (.int k a))(hy:JF G K y=some (.int k b)):YK P G K (.binOp .leq t x y yt) st (.bool (decide (a≤b))) st:=
 YS hx hy (by rw[WY QT QT];show some (AV.bool (!Dz b a))=_;rw[X9,NB])
theorem N5(hx:JF G K x=some (.int k a))(hy:JF G K y=some (.int k b)):YK P G K (.binOp .geq t x y yt) st (.bool (decide (b≤a))) st:=
 YS hx hy (by rw[WY QT QT];show some (AV.bool (!Dz a b))=_;rw[X9,NB])
theorem Kq(a b:Int):OF a b=decide (a=b):=by rw[XC];exact Bool.beq_eq_decide_eq a b
theorem xX(hx:JF G K x=some (.int k a))(hy:JF G K y=some (.int k b)):YK P G K (.binOp .eql t x y yt) st (.bool (decide (a=b))) st:=
 YS hx hy (by rw[WY QT QT];show some (AV.bool (OF a b))=_;rw[Kq])
theorem xT(hx:JF G K x=some (.int k a))(hy:JF G K y=some (.int k b)):YK P G K (.binOp .neq t x y yt) st (.bool (!decide (a=b))) st:=
 YS hx hy (by rw[WY QT QT];show some (AV.bool (!OF a b))=_;rw[Kq])
theorem wrap64{n:Int}(h1: -9223372036854775808≤n)(h2:n≤9223372036854775807):IntKind.i64.wrap n=n:=IntWalk.i64_in n Qh
theorem jq(hx:JF G K x=some (.int .i64 a))(hy:JF G K y=some (.int .i64 b))(h1: -9223372036854775808≤a+b)(h2:a+b≤9223372036854775807):YK P G K (.binOp .add t x y yt) st (.int .i64 (a+b)) st:=
 YS hx hy (by rw[WY QT QT];show E3 (V6 .i64 (a+b)) (fun z=>some (AV.int .i64 z))=_;rw[ZX,Yl,wrap64 h1 h2])
theorem xQ(hx:JF G K x=some (.int .i64 a))(hy:JF G K y=some (.int .i64 b))(h1: -9223372036854775808≤a-b)(h2:a-b≤9223372036854775807):YK P G K (.binOp .sub t x y yt) st (.int .i64 (a-b)) st:=
 YS hx hy (by rw[WY QT QT];show E3 (V6 .i64 (a-b)) (fun z=>some (AV.int .i64 z))=_;rw[ZX,Yl,wrap64 h1 h2])
theorem QU{a b:List Nat}(hx:JF G K x=some (.str a))(hy:JF G K y=some (.str b)):YK P G K (.binOp .eql t x y yt) st (.bool (decide (a=b))) st:=
 YS hx hy (by show some (AV.bool (DF a b))=_;rw[VV])
theorem VS{a b:List Nat}(hx:JF G K x=some (.str a))(hy:JF G K y=some (.str b)):YK P G K (.binOp .neq t x y yt) st (.bool (!decide (a=b))) st:=
 YS hx hy (by show some (AV.bool (!DF a b))=_;rw[VV])
theorem UW{a b:List Nat}(hx:JF G K x=some (.str a))(hy:JF G K y=some (.str b))(hl:a.length+b.length≤9223372036854775807):YK P G K (.binOp .add t x y yt) st (.str (a++b)) st:=
 YS hx hy (by
  show Qp (Nat.ble (ZZ a+ZZ b) Vc) (Vn (XD a b) fun l=>some (AV.str l)) none=_
  rw[Uv,Uv,Nat.ble_eq_true_of_le (show a.length+b.length≤Vc from hl),QV,Uy,YB])
theorem xR{b:Bool}(hx:JF G K x=some (.bool b)):YK P G K (.unOp .not t x) st (.bool (!b)) st:=.of fun T hT c d ty pos af g=>by
 show ret (ob (Ug G T x) fun x=>ef .not x) st=_;rw[hT.Ug hx];rfl
theorem xS(hx:JF G K x=some v)(hv:(match v with|.ptr _ _ _=>true|.fn _ _ _=>true|_=>false)=true):YK P G K (.nilCheck x) st v st:=.of fun T hT c d ty pos af g=>by
 show ret (ob (Ug G T x) fun v=>(match v with
  |.ptr c m off=>some (.ptr c m off)
  |.fn f a c=>some (.fn f a c)
  |_=>none)) st=_
 rw[hT.Ug hx,Q1]
 cases v<;>first|rfl|cases hv
theorem IU{f c m off o:Nat}(ho:Jh P t f=some o)(hx:JF G K x=some (.ptr c m off)):YK P G K (.fieldAddr t x f) st (.ptr c m (off+o)) st:=.of fun T hT cc d ty pos af g=>by
 show ret (ob (Ug G T x) fun x=>A0 P t x f) st=_;rw[hT.Ug hx,Q1];show ret (ob (Jh P t f) fun o=>Ye (off+o) fun z=>some (AV.ptr c m z)) st=_;rw[ho,Q1,Ju];rfl
theorem Yy{f:Nat}(hx:JF G K x=some u)(h:F6 P t u f=some v):YK P G K (.field t x f) st v st:=.of fun T hT cc d ty pos af g=>by
 show ret (ob (Ug G T x) fun x=>F6 P t x f) st=_;rw[hT.Ug hx,Q1,h];rfl
theorem Ia{i:Nat}(hx:JF G K x=some (.tup l))(h:nth l i=some v):YK P G K (.extract x i) st v st:=.of fun T hT cc d ty pos af g=>by
 show ret (ob (Ug G T x) fun v=>(match v with
  |.tup l=>nth l i
  |_=>none)) st=_
 rw[hT.Ug hx,Q1];show ret (nth l i) st=_;rw[h];rfl
theorem Q5{i:Operand}{c m off len z z':Nat}{j:Nat}(he:UA P t=some z)(hx:JF G K x=some (.sl c m off len z'))(hi:JF G K i=some (.int k (j:Int)))(hj:j<len):
  YK P G K (.indexAddr t x i) st (.ptr c m (off+j *z)) st:=.of fun T hT cc d ty pos af g=>by
 show ret (ob (Ug G T x) fun x=>ob (Ug G T i) fun i=>UF P t x i) st=_;rw[hT.Ug hx,hT.Ug hi,Q1,Q1];show ret (ob (AP (j:Int)) fun i=>QZ (Nat.ble (i+1) len) (ob (UA P t) fun z=>Ye (off+i *z) fun o=>some (AV.ptr c m o))) st=_;show ret (QZ (Nat.ble (j+1) len) (ob (UA P t) fun z=>Ye (off+j *z) fun o=>some (AV.ptr c m o))) st=_;rw[Nat.ble_eq_true_of_le hj,he];show ret (Ye (off+j *z) fun o=>some (AV.ptr c m o)) st=_;rw[Ju];rfl
theorem TM{i:Operand}{l:List Nat}{j b:Nat}(ht:P.underlying t=some .string)(hx:JF G K x=some (.str l))(hi:JF G K i=some (.int k (j:Int)))(hj:l[j]? =some b):
  YK P G K (.index t x i) st (.int .u8 (b:Int)) st:=.of fun T hT cc d ty pos af g=>by
 show ret (ob (Ug G T x) fun x=>ob (Ug G T i) fun i=>NS P t x i) st=_;rw[hT.Ug hx,hT.Ug hi,Q1,Q1];unfold NS;simp only[ht];show ret (ob (nth l j) fun b=>some (AV.int .u8 (Int.ofNat b))) st=_;rw[Yg,hj];rfl
theorem Rr(ht:P.underlying t=some .string):WM P [t]=false:=by unfold WM;simp only[ht]
theorem Mo{e:TypeId}(ht:P.underlying t=some (.slice e)):WM P [t]=false:=by unfold WM;simp only[ht]
theorem Vz{tys:Array TypeId}{l:List Nat}(ht:P.underlying t=some .string)(htys:tys= #[t])(hx:JF G K x=some (.str l)):
  YK P G K (.call {callee:=.builtin .len,args:= #[x],argTypes:=tys}) st (.int .i64 (l.length:Int)) st:=.of fun T hT cc d ty pos af g=>by
 subst htys;show Qp (WM P [t]) _ (ret (ob (Ug G T x) fun x=>Ke P [t] x) st)=_;rw[Rr ht,QN,hT.Ug hx,Q1];unfold Ke;simp only[ht,Ju,Uv];rfl
def XI:AV→Option Nat
 |.nils=>some 0
 |.slz _ _ _ _ _=>some 0
 |.sl0 _ _ _=>some 0
 |.sl _ _ _ n _=>some n
 |_=>none
theorem Jg{tys:Array TypeId}{e:TypeId}{n:Nat}(ht:P.underlying t=some (.slice e))(htys:tys= #[t])(hx:JF G K x=some u)(hn:XI u=some n):
  YK P G K (.call {callee:=.builtin .len,args:= #[x],argTypes:=tys}) st (.int .i64 (n:Int)) st:=.of fun T hT cc d ty pos af g=>by
 subst htys;show Qp (WM P [t]) _ (ret (ob (Ug G T x) fun x=>Ke P [t] x) st)=_;rw[Mo ht,QN,hT.Ug hx,Q1]
 cases u<;>simp only[XI]at hn<;>first|(cases hn;done)|skip
 all_goals
  injection hn with hn
  subst hn;unfold Ke;simp only[ht];rfl
theorem Qe{args:Array Operand}{tys:Array TypeId}(ha:UZ (JF G K) args.toList=some l)(h:Ev P G f l st v st1):
  YK P G K (.call {callee:=.value (.func f),args:=args,argTypes:=tys}) st v st1:=fun T hT d ty pos af g=>by
 obtain⟨L,n,h⟩:=h;refine⟨L,n,fun L' n' hL hn=>?_⟩
 show(ob (Ug G T (.func f)) fun v=>(match v with
  |.fn fid a cap=>ob (UZ (Ug G T) args.toList) fun l=>JT P G L' n' fid (XD a (XD l cap)) st
  |_=>none))=_
 show(ob (UZ (Ug G T) args.toList) fun l=>JT P G L' n' f (XD [] (XD l [])) st)=_;rw[hT.row _ _ ha,Q1,YB,YB,List.nil_append,List.append_nil];exact WU n n' L L' hn hL _ _ _ _ h
theorem IW{g:Operand}{args:Array Operand}{tys:Array TypeId}{a cap:List AV}(hg:JF G K g=some (.fn f a cap))(ha:UZ (JF G K) args.toList=some l)(h:Ev P G f (a++(l++cap)) st v st1):
  YK P G K (.call {callee:=.value g,args:=args,argTypes:=tys}) st v st1:=fun T hT d ty pos af gg=>by
 obtain⟨L,n,h⟩:=h;refine⟨L,n,fun L' n' hL hn=>?_⟩
 show(ob (Ug G T g) fun v=>(match v with
  |.fn fid a cap=>ob (UZ (Ug G T) args.toList) fun l=>JT P G L' n' fid (XD a (XD l cap)) st
  |_=>none))=_
 rw[hT.Ug hg,Q1];show(ob (UZ (Ug G T) args.toList) fun l=>JT P G L' n' f (XD a (XD l cap)) st)=_;rw[hT.row _ _ ha,Q1,YB,YB];exact WU n n' L L' hn hL _ _ _ _ h
theorem IT{first cap:Array Operand}{a c:List AV}(ha:UZ (JF G K) first.toList=some a)(hc:UZ (JF G K) cap.toList=some c):YK P G K (.makeFunc (.func f) first cap) st (.fn f a c) st:=.of fun T hT cc d ty pos af g=>by
 show ret (ob (UZ (Ug G T) first.toList) fun l=>ob (UZ (Ug G T) cap.toList) fun r=>some (AV.fn f l r)) st=_;rw[hT.row _ _ ha,hT.row _ _ hc];rfl
theorem QW(hx:JF G K x=some u)(h:JD P t u st.h.get=some v):YK P G K (.load t x) st v st:=.of fun T hT cc d ty pos af g=>by
 show(ob (Ug G T x) fun x=>ret (JD P t x st.h.get) st)=_;rw[hT.Ug hx,Q1,h];rfl
theorem Dm{lo hi:Option Operand}(hx:JF G K x=some u)(h: ∀T,Jr K T→E2 P t u (Ug G T) lo hi=some v):YK P G K (.slice t x lo hi none) st v st:=.of fun T hT cc d ty pos af g=>by
 show ret (ob (Ug G T x) fun x=>E2 P t x (Ug G T) lo hi) st=_;rw[hT.Ug hx,Q1,h T hT];rfl
theorem N6{s d:TypeId}(hx:JF G K x=some u)(h:Bh P s d u st.h.get=some v):YK P G K (.convert s d x) st v st:=.of fun T hT cc dd ty pos af g=>by
 show ret (ob (Ug G T x) fun x=>Bh P s d x st.h.get) st=_;rw[hT.Ug hx,Q1,h];rfl

theorem uE{fn:Func}{c:Code}{N:Nat}{rs:List ResultVar}{args:List AV}{Q:AV→St→Prop}(hs:G.s f=none)(hf:P.funcs[f]? =some fn)(hb:fn.body=some c)(hN:fn.ntmps=N)(hr:fn.results.toList=rs)(hname:(fn.name== "runtime.NumGoroutine")=false)(hl:args.length≤N)
  (h: ∀T,(∀t,Zb T t=(args[t]?).getD (.tup []))→W P G N c (fun x T st=>(x=.nor∨x=.ret)∧ ∃v,JS P rs T st=some v∧Q v st) T st): ∃v st',Ev P G f args st v st'∧Q v st':=by
 obtain⟨T,hT1,hT2⟩:=Bq args;obtain⟨L,n,x,T',st',h1,hx,v,h2,h3⟩:=h T hT2;refine⟨v,st',⟨L,n+1,?_⟩,h3⟩;show(Option.rec (ob (Ob P f) fun q=>QZ (Nat.ble (ZZ args) q.2.1) (L8 args fun T=>On (codeF P G (JT P G L n) q.2.1 L q.1 T st) fun T st=>ob (JS P q.2.2 T st) fun v=>some (v,st))) (fun sm=>sm args st) (G.s f):Option (AV×St))=some (v,st');rw[hs];show(ob (Ob P f) fun q=>QZ (Nat.ble (ZZ args) q.2.1) (L8 args fun T=>On (codeF P G (JT P G L n) q.2.1 L q.1 T st) fun T st=>ob (JS P q.2.2 T st) fun v=>some (v,st)))=some (v,st')
 have hfn:Ob P f=some (c,N,rs):=by
  unfold Ob;rw[hf];simp only[hb,hname,hN,hr];rfl
 rw[hfn,Q1,Uv,Nat.ble_eq_true_of_le hl,hT1,Jy];show On (codeF P G (JT P G L n) N L c T st) _=_;rw[h1];rcases hx with rfl|rfl
 ·show ob (JS P rs T' st') _=_;rw[h2];rfl
 ·show ob (JS P rs T' st') _=_;rw[h2];rfl
end
section
open Go
variable {af:Array Edge} {c k m n off:Nat} {l l':List AV} {pos:String} {t ty:TypeId} {v:AV}

structure Mem(h0:Hp)(n0:Nat)(X:List Nat)(st:St)(M:List (Nat×Nat×List AV)):Prop where
 fresh:Qw st
 le:n0≤st.n
 base: ∀c,n0≤c→h0 c=none
 row: ∀c m l,(c,m,l)∈M→ ∃vs ms,st.h.get c=some (.row false ms)∧ms[m]? =some (l.length,vs,some l)
 lt: ∀c m l,(c,m,l)∈M→c<st.n
 own: ∀c m l,(c,m,l)∈M→n0≤c∨c∈X
 nodup:(M.map Prod.fst).Nodup
 old: ∀c,c<n0→c∉X→st.h.get c=h0 c
structure Qt(st st':St):Prop where
 fresh:Qw st'
 le:st.n≤st'.n
 old: ∀c,c<st.n→st'.h.get c=st.h.get c
theorem Qt.refl{st:St}(h:Qw st):Qt st st:=⟨h,Nat.le_refl _,fun _ _=>rfl⟩
theorem Qt.trans{a b c:St}(x:Qt a b)(y:Qt b c):Qt a c:=⟨y.fresh,Nat.le_trans x.le y.le,fun k hk=>by rw[y.old k (Nat.lt_of_lt_of_le hk x.le),x.old k hk]⟩
theorem Mem.start{st:St}(h:Qw st):Mem st.h.get st.n [] st []:=
 ⟨h,Nat.le_refl _,h,fun c m l h=>(by cases h),fun c m l h=>(by cases h),fun c m l h=>(by cases h),List.nodup_nil,fun _ _ _=>rfl⟩
section
variable {P:Program} {G:Env} {N:Nat} {h0:Hp} {n0:Nat} {X:List Nat} {st:St} {M:List (Nat×Nat×List AV)}
theorem Mem.qt{st0:St}(h:Mem st0.h.get st0.n [] st M):Qt st0 st:=⟨h.fresh,h.le,fun c hc=>h.old c hc Q3⟩
theorem Mem.less(h:Mem h0 n0 X st M){M':List (Nat×Nat×List AV)}(hs:M'.Sublist M):Mem h0 n0 X st M':=
 ⟨h.fresh,h.le,h.base,fun c m l hm=>h.row c m l (hs.subset hm),fun c m l hm=>h.lt c m l (hs.subset hm),fun c m l hm=>h.own c m l (hs.subset hm),h.nodup.sublist (hs.map _),h.old⟩
theorem Mem.quiet(h:Mem h0 n0 X st M){st':St}(q:Qt st st'):Mem h0 n0 X st' M:=
 ⟨q.fresh,Nat.le_trans h.le q.le,h.base,fun c m l hm=>by
  obtain⟨vs,ms,h1,h2⟩:=h.row c m l hm
  exact⟨vs,ms,by rw[q.old c (h.lt c m l hm)];exact h1,h2⟩,fun c m l hm=>Nat.lt_of_lt_of_le (h.lt c m l hm) q.le,h.own,h.nodup,fun c hc hx=>by rw[q.old c (Nat.lt_of_lt_of_le hc h.le)];exact h.old c hc hx⟩
theorem Mem.alloc(h:Mem h0 n0 X st M)(l:List AV):Mem h0 n0 X ⟨st.n+1,st.h.set st.n (.row false [(l.length,0,some l)])⟩ ((st.n,0,l)::M):=by
 have hg: ∀c,(st.h.set st.n (.row false [(l.length,0,some l)])).get c=if c=st.n then some (.row false [(l.length,0,some l)])else st.h.get c:=fun c=>Tr.Xb _ _ _ _
 refine⟨fun c hc=>?_,Nat.le_succ_of_le h.le,h.base,fun c m l' hm=>?_,fun c m l' hm=>?_,fun c m l' hm=>?_,?_,fun c hc hx=>?_⟩
 ·have hc:st.n+1≤c:=hc;show(st.h.set st.n _).get c=none;rw[hg,if_neg Qh];exact h.fresh c Qh
 ·rcases List.mem_cons.1 hm with e|hm
  ·injection e with e1 e2
   injection e2 with e2 e3
   subst e1 e2 e3;exact⟨0,_,(hg _).trans (if_pos rfl),rfl⟩
  ·obtain⟨vs,ms,h1,h2⟩:=h.row c m l' hm;have:=h.lt c m l' hm;exact⟨vs,ms,by show(st.h.set st.n _).get c=_;rw[hg,if_neg Qh];exact h1,h2⟩
 ·rcases List.mem_cons.1 hm with e|hm
  ·injection e with e1 e2;subst e1;exact Nat.lt_succ_self _
  ·exact Nat.lt_succ_of_lt (h.lt c m l' hm)
 ·rcases List.mem_cons.1 hm with e|hm
  ·injection e with e1 e2;subst e1;exact .inl h.le
  ·exact h.own c m l' hm
 ·rw[List.map_cons];refine List.nodup_cons.2 ⟨fun hm=>?_,h.nodup⟩;obtain⟨⟨c,m,l'⟩,h1,h2⟩:=List.mem_map.1 hm;have:=h.lt c m l' h1;simp only at h2;omega
 ·show(st.h.set st.n _).get c=_;have:=h.le;rw[hg,if_neg Qh];exact h.old c hc hx
theorem CR{M:List (Nat×Nat×List AV)}(hk:M[k]? =some (c,m,l)):(M.set k (c,m,l')).map Prod.fst=M.map Prod.fst:=by
 apply List.ext_getElem?;intro i;rw[List.getElem?_map,List.getElem?_map,List.getElem?_set]
 by_cases h:k=i
 ·subst h;rw[if_pos rfl,hk];have:=(List.getElem?_eq_some_iff.1 hk).1;simp[this]
 ·rw[if_neg h]
theorem Fz{M:List (Nat×Nat×List AV)}(hk:M[k]? =some (c,m,l))(hn:(M.map Prod.fst).Nodup){x:Nat×Nat×List AV}(hx:x∈M.set k (c,m,l')):
  x=(c,m,l')∨(x∈M∧x.1≠c):=by
 obtain⟨i,hi⟩:=List.getElem?_of_mem hx;rw[List.getElem?_set]at hi
 by_cases h:k=i
 ·subst h;have:=(List.getElem?_eq_some_iff.1 hk).1;simp[this]at hi;exact .inl hi.symm
 ·rw[if_neg h]at hi;refine .inr ⟨List.mem_of_getElem? hi,fun e=>h ?_⟩
  have h1:(M.map Prod.fst)[k]? =some c:=by rw[List.getElem?_map,hk];rfl
  have h2:(M.map Prod.fst)[i]? =some c:=by rw[List.getElem?_map,hi];simp[e]
  exact(List.getElem?_inj (List.getElem?_eq_some_iff.1 h1).1 hn).1 (h1.trans h2.symm)
theorem Mem.store(h:Mem h0 n0 X st M){w:AV}(hk:M[k]? =some (c,m,l))(hz:ZG P t=some n)(hn:(JE w).length=n)(hc:Ea Jl (JE w)=true)(ho:Xv (JE w) off l=some l'):
  ∃st1,Fj P t (.ptr c m off) w st=some (.tup [],st1)∧Mem h0 n0 X st1 (M.set k (c,m,l'))∧st1.n=st.n:=by
 have hm:=List.mem_of_getElem? hk;obtain⟨vs,ms,h1,h2⟩:=h.row c m l hm;have hlen:l'.length=l.length:=(WC _ _ _ _ ho).2.1
 have hr:rowOf st.h.get c m=some (l.length,vs,l,false,ms):=by
  unfold rowOf;rw[h1,Q1];show ob (nth ms m) _=_;rw[Yg,h2];rfl
 have e: ∃ms',Fj P t (.ptr c m off) w st=some (.tup [],⟨st.n,st.h.set c (.row false ms')⟩)∧ms'[m]? =some (l.length,vs,some l'):=by
  unfold Fj;simp only[hr,Q1,hz,Uv,hn,Nat.beq_refl,Jy,hc,ho,Bool.not_false];refine⟨xG (l.length,vs,some l') (Xo (vs+off) (vs+off+n) ms) m,by rw[Uy,Uy,Zf],?_⟩;rw[Sg,List.getElem?_set_self];rw[JP];exact(List.getElem?_eq_some_iff.1 h2).1
 obtain⟨ms',e1,e2⟩:=e
 have hg: ∀x,(st.h.set c (.row false ms')).get x=if x=c then some (.row false ms')else st.h.get x:=fun x=>Tr.Xb _ _ _ _
 refine⟨_,e1,⟨fun x hx=>?_,h.le,h.base,fun x y z hm'=>?_,fun x y z hm'=>?_,fun x y z hm'=>?_,?_,fun x hx hX=>?_⟩,rfl⟩
 ·show(st.h.set c _).get x=none;have:=h.lt c m l hm;have hx:st.n≤x:=hx;rw[hg,if_neg Qh];exact h.fresh x hx
 ·rcases Fz hk h.nodup hm' with e|⟨h3,h4⟩
  ·injection e with e1 e2
   injection e2 with e2 e3
   subst e1 e2 e3;exact⟨vs,ms',(hg _).trans (if_pos rfl),by rw[hlen];exact e2⟩
  ·obtain⟨vs',ms2,h5,h6⟩:=h.row x y z h3;exact⟨vs',ms2,by show(st.h.set c _).get x=_;rw[hg,if_neg h4];exact h5,h6⟩
 ·rcases Fz hk h.nodup hm' with e|⟨h3,h4⟩
  ·injection e with e1 e2;subst e1;exact h.lt _ m l hm
  ·exact h.lt x y z h3
 ·rcases Fz hk h.nodup hm' with e|⟨h3,h4⟩
  ·injection e with e1 e2;subst e1;exact h.own _ m l hm
  ·exact h.own x y z h3
 ·rw[CR hk];exact h.nodup
 ·show(st.h.set c _).get x=_
  have hxc:x≠c:=fun e=>by
   subst e;rcases h.own x m l hm with h5|h5
   ·omega
   ·exact hX h5
  rw[hg,if_neg hxc];exact h.old x hx hX
theorem Mem.load(h:Mem h0 n0 X st M)(hk:M[k]? =some (c,m,l))(hp:Wc P t l off=some v):JD P t (.ptr c m off) st.h.get=some v:=by
 obtain⟨vs,ms,h1,h2⟩:=h.row c m l (List.mem_of_getElem? hk);show ob (rowOf st.h.get c m) _=_;unfold rowOf;rw[h1,Q1];show ob (ob (nth ms m) _) _=_;rw[Yg,h2];exact hp

variable {ops rest:List Oper} {K:List (Nat×AV)} {R:Tr AV→St→Prop} {T:Tr AV}
theorem C4{d:Nat}(hK:Jr K T)(hM:Mem h0 n0 X st M)(hz:zeroOf P t=some l)(hN:d<N)
  (hn: ∀(c:Nat) T' st',Jr ((d,.ptr c 0 0)::K) T'→Mem h0 n0 X st' ((c,0,l)::M)→WR P G N ops rest R T' st'):WR P G N ops (⟨some d,.alloc t,ty,pos,af,none⟩::rest) R T st:=by
 refine LZ (v:=.ptr st.n 0 0) (st1:=⟨st.n+1,st.h.set st.n (.row false [(l.length,0,some l)])⟩) hK (.of fun T hT c d ty pos af g=>?_) hN fun T' hT'=>hn st.n T' _ hT' (hM.alloc l);show I4 P t st=_;unfold I4;rw[hz,Q1,Zv]
theorem J3{d:Nat}{x:Operand}(hK:Jr K T)(hM:Mem h0 n0 X st M)(hx:JF G K x=some v)(hc:Ea Jl (JE v)=true)(hN:d<N)
  (hn: ∀(c:Nat) T' st',Jr ((d,.ptr c 0 0)::K) T'→Mem h0 n0 X st' ((c,0,JE v)::M)→WR P G N ops rest R T' st'):WR P G N ops (⟨some d,.box t x,ty,pos,af,none⟩::rest) R T st:=by
 refine LZ (v:=.ptr st.n 0 0) (st1:=⟨st.n+1,st.h.set st.n (.row false [((JE v).length,0,some (JE v))])⟩) hK (.of fun T hT c d ty pos af g=>?_) hN fun T' hT'=>hn st.n T' _ hT' (hM.alloc _);show(ob (Ug G T x) fun x=>yd x st)=_;rw[hT.Ug hx,Q1];unfold yd;rw[hc,Jy,Zv]
theorem Qz{x y:Operand}{w:AV}(hK:Jr K T)(hM:Mem h0 n0 X st M)(hx:JF G K x=some (.ptr c m off))(hy:JF G K y=some w)(hk:M[k]? =some (c,m,l))(hz:ZG P t=some n)(hn:(JE w).length=n)
  (hc:Ea Jl (JE w)=true) (ho:Xv (JE w) off l=some l') (hr: ∀st',Mem h0 n0 X st' (M.set k (c,m,l'))→WR P G N ops rest R T st'):WR P G N ops (⟨none,.store t x y,ty,pos,af,none⟩::rest) R T st:=by
 obtain⟨st1,h1,h2,_⟩:=hM.store hk hz hn hc ho;refine vP (v:=.tup []) (st1:=st1) hK (.of fun T hT c d ty pos af g=>?_) (hr st1 h2);show(ob (Ug G T x) fun x=>ob (Ug G T y) fun y=>Fj P t x y st)=_;rw[hT.Ug hx,hT.Ug hy,Q1,Q1,h1]
end
theorem QA{P:Program}{r:List AV}(h:tk P t=.agg n)(hl:AH n (AL off l) (fun r=>some (AV.agg r))=some (.agg r)):Wc P t l off=some (.agg r):=by
 unfold Wc;rw[h];exact hl
theorem Qj{P:Program}(h:tk P t=.one)(hl:nth l off=some v):Wc P t l off=some v:=by
 unfold Wc;rw[h];exact hl
end
section
open Go
variable {af:Array Edge} {d j t:Nat} {op:Op} {pol:Bool} {pos:String} {ty:TypeId}

variable {P:Program} {G:Env} {N:Nat} {st:St} {K:List (Nat×AV)} {T:Tr AV} {ops rest:List Oper} {R:Tr AV→St→Prop}
theorem x6{x:Bool}{st1:St}(hK:Jr K T)(h:YK P G K op st (.bool x) st1)(hN:d<N)(hn: ∀(b:Bool) T',x=b→Jr ((d,.bool b)::K) T'→WR P G N ops rest R T' st1):
 WR P G N ops (⟨some d,op,ty,pos,af,none⟩::rest) R T st:=LZ hK h hN fun T' hT'=>hn x T' rfl hT'
theorem V7{d:Option Nat}{b:Bool}(hK:Jr K T)(ht:YY ops j=some t)(hb:K.lookup t=some (.bool b)):Ym ops ⟨d,op,ty,pos,af,some (j,pol)⟩ T=(b==pol):=by
 unfold Ym;simp only[ht];rw[show Zb T t=.bool b from hK t _ hb]
 cases b<;>cases pol<;>rfl
theorem xa{v:AV}{st1:St}(hK:Jr K T)(ht:YY ops j=some t)(hb:K.lookup t=some (.bool pol))(h:YK P G K op st v st1)(hN:d<N)
  (hn: ∀T',Jr ((d,v)::K) T'→WR P G N ops rest R T' st1):WR P G N ops (⟨some d,op,ty,pos,af,some (j,pol)⟩::rest) R T st:=
 Bu (by rw[V7 hK ht hb];cases pol<;>rfl) (h T hK _ _ _ _ _) (fun e he=>by injection he with he;rw[←he];exact hN) (hn _ (hK.set d v))
theorem vO{b:Bool}(hK:Jr K T)(ht:YY ops j=some t)(hb:K.lookup t=some (.bool b))(hne:(b==pol)=false)(hN:d<N)
  (hn: ∀T',Jr ((d,.tup [])::K) T'→WR P G N ops rest R T' st):WR P G N ops (⟨some d,op,ty,pos,af,some (j,pol)⟩::rest) R T st:=by
 obtain⟨L',n',T',st',h1,h2⟩:=hn _ (hK.set d (.tup []));refine⟨L',n',T',st',?_,h2⟩;show(ob (Y8 P G _ ops _ T st) fun r=>E4 N (some d) r.1 T fun T=>tl (HU P G _ N ops rest T r.2))=_;unfold Y8;rw[V7 hK ht hb,hne,QN,Q1];show QZ (Nat.ble (d+1) N) (T.put d (.tup []) _)=_;rw[Nat.ble_eq_true_of_le hN,Tr.put_eq];exact h1
theorem xU{x y:Operand}{tys:Array TypeId}{a b:Int}{k:IntKind}(hx:JF G K x=some (.int k a))(hy:JF G K y=some (.int k b)):YK P G K (.call {callee:=.builtin .max,args:= #[x,y],argTypes:=tys}) st (.int k (max a b)) st:=.of fun T hT cc d ty pos af g=>by
 show ret (ob (UZ (Ug G T) [x,y]) (vK true)) st=_;rw[Ub,hT.Ug hx,Q1,Ub,hT.Ug hy,Q1];show ret (some (AV.int k (Qp (Dz a b) b a))) st=_;rw[X9]
 by_cases h:a<b
 ·rw[decide_eq_true h,QV,show max a b=b by omega];rfl
 ·rw[decide_eq_false h,QN,show max a b=a by omega];rfl
theorem Re{x y:Operand}{tys:Array TypeId}{a b:Int}{k:IntKind}(hx:JF G K x=some (.int k a))(hy:JF G K y=some (.int k b)):YK P G K (.call {callee:=.builtin .min,args:= #[x,y],argTypes:=tys}) st (.int k (min a b)) st:=.of fun T hT cc d ty pos af g=>by
 show ret (ob (UZ (Ug G T) [x,y]) (vK false)) st=_;rw[Ub,hT.Ug hx,Q1,Ub,hT.Ug hy,Q1];show ret (some (AV.int k (Qp (Dz b a) b a))) st=_;rw[X9]
 by_cases h:b<a
 ·rw[decide_eq_true h,QV,show min a b=b by omega];rfl
 ·rw[decide_eq_false h,QN,show min a b=a by omega];rfl
end
section
open Go
variable {j n t:Nat} {pol:Bool}

variable {P:Program} {G:Env} {N:Nat} {st:St} {K:List (Nat×AV)} {T:Tr AV} {ops:List Oper} {rest:List (Nat×Oper×Nat)} {R:Tr AV→St→Prop} {sn:List St}
def Xm(ops:List Oper)(q:Nat×Nat):Nat×Oper×Nat:=(q.1,(ops[q.1]?).getD ⟨none,.move (.tmp 0),0,"",#[],none⟩,q.2)
theorem WB{ops:List Oper}{i:Nat}{o:Oper}(ho:ops[i]? =some o)(r:List (Nat×Nat)):((i,n)::r).map (Xm ops)=(i,o,n)::r.map (Xm ops):=by
 rw[List.map_cons];unfold Xm;rw[ho];rfl
theorem Ja{id:Nat}{ops:Array Oper}{Q:Ex→Tr AV→St→Prop}{l:List (Nat×Nat)}(hp:E5 P ops.toList=some (l.map (Xm ops.toList)))
 (h:WD P G N ops.toList (l.map (Xm ops.toList)) (Q .nor) T st [st]):W P G N (.region id ops true) Q T st:=x9 hp h
theorem Ji(h:R T st):WD P G N ops (([]:List (Nat×Nat)).map (Xm ops)) R T st sn:=⟨0,0,T,st,rfl,h⟩
theorem FM{i:Nat}{o:Oper}{v:AV}{st1:St}(hw:Ym ops o T=true)(h: ∃L n,∀L' n',L≤L'→n≤n'→Rk P (Ug G T) (JT P G L' n') o st=some (v,st1))(ha:again P G o T v n sn.tail=true)(hd: ∀d,o.dst=some d→d<N)
  (hn:WD P G N ops rest R (match o.dst with|some d=>T.set d v|none=>T) st1 (Qp (Nat.beq (QP P o.op) 3) (st1::sn) sn)):WD P G N ops ((i,o,n)::rest) R T st sn:=by
 obtain⟨L,m,h⟩:=h;obtain⟨L',m',T',st',h1,h2⟩:=hn;refine⟨max L L',max m m',T',st',?_,h2⟩
 show(ob (Y8 P G _ ops o T st) fun r=>QZ (Qp (Ym ops o T) (again P G o T r.1 n (List.rec [] (fun _ t _=>t) sn)) true)
  (E4 N o.dst r.1 T fun T=>tl (Hk P G _ N ops rest T r.2 (Qp (Nat.beq (QP P o.op) 3) (r.2::sn) sn))))=_
 have e:Y8 P G (JT P G (max L L') (max m m')) ops o T st=some (v,st1):=by
  unfold Y8;rw[hw,QV];exact h _ _ (Nat.le_max_left _ _) (Nat.le_max_left _ _)
 rw[e,Q1,hw,QV,Db];show QZ (again P G o T v n sn.tail) _=_;rw[ha,Jy];have h1':=G5 (WU m' (max m m') L' (max L L') (Nat.le_max_right _ _) (Nat.le_max_right _ _)) _ _ _ _ _ h1
 cases hdst:o.dst with
 |none=>rw[hdst]at h1';exact h1'
 |some d=>
  rw[hdst]at h1';show QZ (Nat.ble (d+1) N) (T.put d v _)=_;rw[Nat.ble_eq_true_of_le (hd d hdst),Tr.put_eq];exact h1'
section
variable {r:List (Nat×Nat)} {i d:Nat} {op:Op} {ty:TypeId} {pos:String} {af:Array Edge} {v:AV} {st1:St}
theorem RT(ho:ops[i]? =some ⟨some d,op,ty,pos,af,none⟩)(hK:Jr K T)(h:YK P G K op st v st1)(hk:Nat.beq (QP P op) 3=false)(hN:d<N)(hn: ∀T',Jr ((d,v)::K) T'→WD P G N ops (r.map (Xm ops)) R T' st1 sn):
  WD P G N ops (((i,0)::r).map (Xm ops)) R T st sn:=by
 rw[WB ho]
 exact FM rfl (h T hK _ _ _ _ _) rfl (fun e he=>by injection he with he;rw[←he];exact hN) (by
  show WD P G N ops (r.map (Xm ops)) R _ st1 (Qp (Nat.beq (QP P op) 3) _ _)
  rw[hk];exact hn _ (hK.set d v))
theorem P6(ho:ops[i]? =some ⟨some d,op,ty,pos,af,none⟩)(hK:Jr K T)(h:YK P G K op st v st1)(hk:Nat.beq (QP P op) 3=true)(hN:d<N)(hn: ∀T',Jr ((d,v)::K) T'→WD P G N ops (r.map (Xm ops)) R T' st1 (st1::sn)):
  WD P G N ops (((i,0)::r).map (Xm ops)) R T st sn:=by
 rw[WB ho]
 exact FM rfl (h T hK _ _ _ _ _) rfl (fun e he=>by injection he with he;rw[←he];exact hN) (by
  show WD P G N ops (r.map (Xm ops)) R _ st1 (Qp (Nat.beq (QP P op) 3) _ _)
  rw[hk];exact hn _ (hK.set d v))
theorem QL{t:TypeId}{x:Operand}{u:AV}{s0 s1:St}(ho:ops[i]? =some ⟨some d,.load t x,ty,pos,af,none⟩)(hK:Jr K T)(hx:JF G K x=some u)(h:JD P t u st.h.get=some v)(h1:JD P t u s1.h.get=some v)(he:qa v v=true)(hk:Nat.beq (QP P (.load t x)) 3=false)(hN:d<N)
  (hn: ∀T',Jr ((d,v)::K) T'→WD P G N ops (r.map (Xm ops)) R T' st (s0::s1::sn)):WD P G N ops (((i,1)::r).map (Xm ops)) R T st (s0::s1::sn):=by
 rw[WB ho]
 exact FM rfl (QW hx h T hK _ _ _ _ _) (by
  show Qp (Option.rec false (fun x=>Option.rec false (fun u=>qa u v) (JD P t x s1.h.get)) (Ug G T x)) true false=true;rw[hK.Ug hx];show Qp (Option.rec false (fun u=>qa u v) (JD P t u s1.h.get)) true false=true;rw[h1];show Qp (qa v v) true false=true
  rw[he];rfl) (fun e he=>by injection he with he;rw[←he];exact hN) (by
  show WD P G N ops (r.map (Xm ops)) R _ st (Qp (Nat.beq (QP P (.load t x)) 3) _ _)
  rw[hk];exact hn _ (hK.set d v))
theorem x7{x:Bool}(ho:ops[i]? =some ⟨some d,op,ty,pos,af,none⟩)(hK:Jr K T)(h:YK P G K op st (.bool x) st1)(hk:Nat.beq (QP P op) 3=false)(hN:d<N)(hn: ∀(b:Bool) T',x=b→Jr ((d,.bool b)::K) T'→WD P G N ops (r.map (Xm ops)) R T' st1 sn):
 WD P G N ops (((i,0)::r).map (Xm ops)) R T st sn:=RT ho hK h hk hN fun T' hT'=>hn x T' rfl hT'
theorem vQ(ho:ops[i]? =some ⟨some d,op,ty,pos,af,some (j,pol)⟩)(hK:Jr K T)(ht:YY ops j=some t)(hb:K.lookup t=some (.bool pol))(h:YK P G K op st v st1)(hk:Nat.beq (QP P op) 3=false)(hN:d<N)
  (hn: ∀T',Jr ((d,v)::K) T'→WD P G N ops (r.map (Xm ops)) R T' st1 sn):WD P G N ops (((i,0)::r).map (Xm ops)) R T st sn:=by
 rw[WB ho]
 exact FM (by rw[V7 hK ht hb];cases pol<;>rfl) (h T hK _ _ _ _ _) rfl (fun e he=>by injection he with he;rw[←he];exact hN) (by
  show WD P G N ops (r.map (Xm ops)) R _ st1 (Qp (Nat.beq (QP P op) 3) _ _)
  rw[hk];exact hn _ (hK.set d v))
theorem x8(ho:ops[i]? =some ⟨some d,op,ty,pos,af,some (j,pol)⟩)(hK:Jr K T)(ht:YY ops j=some t)(hb:K.lookup t=some (.bool pol))(h:YK P G K op st v st1)(hk:Nat.beq (QP P op) 3=true)(hN:d<N)
  (hn: ∀T',Jr ((d,v)::K) T'→WD P G N ops (r.map (Xm ops)) R T' st1 (st1::sn)):WD P G N ops (((i,0)::r).map (Xm ops)) R T st sn:=by
 rw[WB ho]
 exact FM (by rw[V7 hK ht hb];cases pol<;>rfl) (h T hK _ _ _ _ _) rfl (fun e he=>by injection he with he;rw[←he];exact hN) (by
  show WD P G N ops (r.map (Xm ops)) R _ st1 (Qp (Nat.beq (QP P op) 3) _ _)
  rw[hk];exact hn _ (hK.set d v))
theorem vR{b:Bool}(ho:ops[i]? =some ⟨some d,op,ty,pos,af,some (j,pol)⟩)(hK:Jr K T)(ht:YY ops j=some t)(hb:K.lookup t=some (.bool b))(hne:(b==pol)=false)(hN:d<N)
  (hn: ∀T' sn',Jr ((d,.tup [])::K) T'→WD P G N ops (r.map (Xm ops)) R T' st sn'):WD P G N ops (((i,n)::r).map (Xm ops)) R T st sn:=by
 rw[WB ho];obtain⟨L',n',T',st',h1,h2⟩:=hn _ (Qp (Nat.beq (QP P op) 3) (st::sn) sn) (hK.set d (.tup []));refine⟨L',n',T',st',?_,h2⟩;show(ob (Y8 P G _ ops _ T st) fun x=>QZ (Qp (Ym ops _ T) _ true) (E4 N (some d) x.1 T fun T=>tl (Hk P G _ N ops (r.map (Xm ops)) T x.2 (Qp (Nat.beq (QP P op) 3) (x.2::sn) sn))))=_;unfold Y8;rw[V7 hK ht hb,hne,QN,Q1,QN,Jy];show QZ (Nat.ble (d+1) N) (T.put d (.tup []) _)=_;rw[Nat.ble_eq_true_of_le hN,Tr.put_eq];exact h1
end
end
section
open Go

variable {P:Program} {G:Env} {N:Nat} {st:St} {K:List (Nat×AV)} {T:Tr AV} {ops:List Oper} {r:List (Nat×Nat)} {R:Tr AV→St→Prop} {sn:List St} {h0:Hp} {n0:Nat} {X:List Nat} {M:List (Nat×Nat×List AV)}
theorem Nc{i d:Nat}{t ty:TypeId}{pos:String}{af:Array Edge}{l:List AV}(ho:ops[i]? =some ⟨some d,.alloc t,ty,pos,af,none⟩)(hK:Jr K T)(hM:Mem h0 n0 X st M)(hz:zeroOf P t=some l)(hN:d<N)
  (hn: ∀(c:Nat) T' st',Jr ((d,.ptr c 0 0)::K) T'→Mem h0 n0 X st' ((c,0,l)::M)→WD P G N ops (r.map (Xm ops)) R T' st' sn):WD P G N ops (((i,0)::r).map (Xm ops)) R T st sn:=by
 refine RT (v:=.ptr st.n 0 0) (st1:=⟨st.n+1,st.h.set st.n (.row false [(l.length,0,some l)])⟩) ho hK (.of fun T hT c d ty pos af g=>?_) rfl hN fun T' hT'=>hn st.n T' _ hT' (hM.alloc l);show I4 P t st=_;unfold I4;rw[hz,Q1,Zv]
theorem JL{i:Nat}{t ty:TypeId}{pos:String}{af:Array Edge}{x y:Operand}{w:AV}{k c m off n:Nat}{l l':List AV}(ho:ops[i]? =some ⟨none,.store t x y,ty,pos,af,none⟩)(hK:Jr K T)(hM:Mem h0 n0 X st M)(hx:JF G K x=some (.ptr c m off))(hy:JF G K y=some w)
  (hk:M[k]? =some (c,m,l)) (hz:ZG P t=some n) (hn:(JE w).length=n) (hc:Ea Jl (JE w)=true) (hv:Xv (JE w) off l=some l')
  (hr: ∀st',Mem h0 n0 X st' (M.set k (c,m,l'))→WD P G N ops (r.map (Xm ops)) R T st' (st'::sn)):WD P G N ops (((i,0)::r).map (Xm ops)) R T st sn:=by
 obtain⟨st1,h1,h2,_⟩:=hM.store hk hz hn hc hv;rw[WB ho]
 have hS:YK P G K (.store t x y) st (.tup []) st1:=.of fun T hT c d ty pos af g=>by
  show(ob (Ug G T x) fun x=>ob (Ug G T y) fun y=>Fj P t x y st)=_;rw[hT.Ug hx,hT.Ug hy,Q1,Q1,h1]
 exact FM rfl (hS T hK _ _ _ _ _) rfl (fun e he=>by cases he) (hr st1 h2)
theorem Jr.sub{K L:List (Nat×AV)}{T:Tr AV}(h:Jr K T)(e:L.map (fun p=>K.lookup p.1)=L.map fun p=>some p.2):Jr L T:=by
 induction L with
 |nil=>exact .nil
 |cons p L ih=>
  injection e with e1 e2
  exact .cons (h _ _ e1) (ih e2)
theorem yT{p:Prop} [Decidable p](h:(!decide p)=false):p:=by simpa using h
theorem yF{p:Prop} [Decidable p](h:(!decide p)=true): ¬p:=by simpa using h
end
end Go.Proofs.YtaomhhkflohhgaaGreatDoor
