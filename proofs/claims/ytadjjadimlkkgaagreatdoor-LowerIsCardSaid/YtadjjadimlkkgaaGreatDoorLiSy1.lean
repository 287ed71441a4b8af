/-
  Several texts in one: XSymA, XSymB, XSymC, XSymD, XSymE, XSymF, XSymG.
-/
import Derived.Test.YtadjjadimlkkgaaGreatDoorLiEv3
set_option linter.unusedSimpArgs false
set_option linter.unusedVariables false
section

namespace Go.Proofs.YtadjjadimlkkgaaGreatDoor
open Go

def uL(c c':Uo):Prop:= ∀f args st r,c f args st=some r→c' f args st=some r
theorem UJ{α β:Type}{x:Option α}{k k':α→Option β}{r:β}(h:ob x k=some r)(hk: ∀a,x=some a→k a=some r→k' a=some r):ob x k'=some r:=by
 obtain⟨a,ha,h⟩:=Qn h;rw[ha];exact hk a ha h
theorem V6{β:Type}{b:Bool}{k k':Option β}{r:β}(h:QD b k=some r)(hk:k=some r→k'=some r):QD b k'=some r:=by
 obtain⟨hb,h⟩:=Qu h;subst hb;exact hk h
variable {P:Program} {G:Env}
theorem Sh{R:Operand→Option AV}{c c':Uo}(hc:uL c c'){o:Oper}{st:St}{r:AV×St}(h:FQ P R c o st=some r):FQ P R c' o st=some r:=by
 obtain⟨dst,op,ty,pos,af,g⟩:=o
 cases op with
 |call cl=>
  obtain⟨callee,args,tys⟩:=cl
  cases callee with
  |value f=>
   have h:(ob (R f) fun v=>(match v with
    |.fn fid a cap=>ob (Ug R args.toList) fun l=>c fid (Yp a (Yp l cap)) st
    |_=>none))=some r:=h
   show(ob (R f) fun v=>(match v with
    |.fn fid a cap=>ob (Ug R args.toList) fun l=>c' fid (Yp a (Yp l cap)) st
    |_=>none))=some r
   refine UJ h fun v _ h=>?_
   cases v with
   |fn fid a cap=>exact UJ h fun l _ h=>hc _ _ _ _ h
   |_=>cases h
  |invoke f name=>
   have h:(ob (R f) fun v=>(match v with
    |.ifc t u=>ob (FU P t name) fun fid=>ob (Ug R args.toList) fun l=>c fid (u::l) st
    |_=>none))=some r:=h
   show(ob (R f) fun v=>(match v with
    |.ifc t u=>ob (FU P t name) fun fid=>ob (Ug R args.toList) fun l=>c' fid (u::l) st
    |_=>none))=some r
   refine UJ h fun v _ h=>?_
   cases v with
   |ifc t u=>exact UJ h fun fid _ h=>UJ h fun l _ h=>hc _ _ _ _ h
   |_=>cases h
  |_=>exact h
 |_=>exact h
theorem Ii{c c':Uo}(hc:uL c c'){ops:List Oper}{o:Oper}{T:Tr AV}{st:St}{r:AV×St}(h:JU P G c ops o T st=some r):JU P G c' ops o T st=some r:=by
 unfold JU at h ⊢
 cases hw:J0 ops o T with
 |true=>rw[hw]at h;exact Sh hc h
 |false=>rw[hw]at h;exact h
theorem Ej{β:Type}{N:Nat}{d:Option Nat}{v:AV}{T:Tr AV}{k k':Tr AV→Option β}{r:β}(h:Yn N d v T k=some r)(hk: ∀T,k T=some r→k' T=some r):Yn N d v T k'=some r:=by
 cases d with
 |none=>exact hk _ h
 |some t=>
  have h:QD (Nat.ble (t+1) N) (T.put t v k)=some r:=h;show QD (Nat.ble (t+1) N) (T.put t v k')=some r;refine V6 h fun h=>?_;rw[Tr.put_eq]at h ⊢;exact hk _ h
theorem Lo{c c':Uo}(hc:uL c c'){N:Nat}{ops:List Oper}: ∀(l:List Oper) (T:Tr AV) (st:St) (r:Tr AV×St),W7 P G c N ops l T st=some r→W7 P G c' N ops l T st=some r:=by
 intro l
 induction l with
 |nil=>intro T st r h;exact h
 |cons o l ih=>
  intro T st r h;have h:(ob (JU P G c ops o T st) fun r=>Yn N o.dst r.1 T fun T=>tl (W7 P G c N ops l T r.2))=some r:=h;show(ob (JU P G c' ops o T st) fun r=>Yn N o.dst r.1 T fun T=>tl (W7 P G c' N ops l T r.2))=some r;obtain⟨a,ha,h⟩:=Qn h;rw[Ii hc ha,Qk];exact Ej h fun T h=>ih T a.2 r h
theorem Lp{c c':Uo}(hc:uL c c'){N:Nat}{ops:List Oper}: ∀(l:List (Nat×Oper×Nat)) (T:Tr AV) (st:St) (sn:List St) (r:Tr AV×St),V1 P G c N ops l T st sn=some r→V1 P G c' N ops l T st sn=some r:=by
 intro l
 induction l with
 |nil=>intro T st sn r h;exact h
 |cons q l ih=>
  intro T st sn r h
  have h:(ob (JU P G c ops q.2.1 T st) fun r=>QD (Qi (J0 ops q.2.1 T) (again P G q.2.1 T r.1 q.2.2 (List.rec [] (fun _ t _=>t) sn)) true)
   (Yn N q.2.1.dst r.1 T fun T=>tl (V1 P G c N ops l T r.2 (Qi (Nat.beq (QL P q.2.1.op) 3) (r.2::sn) sn))))=some r:=h
  show(ob (JU P G c' ops q.2.1 T st) fun r=>QD (Qi (J0 ops q.2.1 T) (again P G q.2.1 T r.1 q.2.2 (List.rec [] (fun _ t _=>t) sn)) true)
   (Yn N q.2.1.dst r.1 T fun T=>tl (V1 P G c' N ops l T r.2 (Qi (Nat.beq (QL P q.2.1.op) 3) (r.2::sn) sn))))=some r
  obtain⟨a,ha,h⟩:=Qn h;rw[Ii hc ha,Qk];refine V6 h fun h=>Ej h fun T h=>ih T a.2 _ r h
theorem IB{f f':Tr AV→St→Option (Ex×Tr AV×St)}(hf: ∀T st r,f T st=some r→f' T st=some r): ∀(L L':Nat),L≤L'→ ∀T st r,AB L f T st=some r→AB L' f' T st=some r:=by
 intro L
 induction L with
 |zero=>intro L' _ T st r h;cases h
 |succ L ih=>
  intro L' hL T st r h;obtain⟨M,rfl⟩: ∃M,L'=M+1:=⟨L'-1,by omega⟩;have h:Z4 (f T st) (AB L f)=some r:=h;show Z4 (f' T st) (AB M f')=some r;rcases Aq h with⟨T1,st1,h1,h2⟩|⟨h1,h2⟩
  ·rw[hf _ _ _ h1];exact ih M (by omega) _ _ _ h2
  ·rw[hf _ _ _ h1];obtain⟨e,T,st⟩:=r
   cases e with
   |nor=>exact absurd rfl h2
   |exit i=>rfl
   |ret=>rfl
theorem Kl{N:Nat}{ts te:TypeId}{cap:AV}{ps:List Tmp}{fa fb fa' fb':Tr AV→St→Option (Ex×Tr AV×St)}(ha: ∀T st r,fa T st=some r→fa' T st=some r)(hb: ∀T st r,fb T st=some r→fb' T st=some r){T:Tr AV}:
  ∀(n:Nat) (st:St) (r:Ex×Tr AV×St),Z7 P N ts te cap ps fa fb T n st=some r→Z7 P N ts te cap ps fa' fb' T n st=some r:=by
 intro n
 induction n with
 |zero=>intro st r h;exact h
 |succ n ih=>
  intro st r h
  have h:(ob (Jd P ts cap st.h.get) fun s=>ob (J5 P ts s (.int .i64 (Int.ofNat n))) fun q=>ob (Jd P te q st.h.get) fun v=>
   EF N ps (.int .i64 (Int.ofNat n)) v T fun T1=>ob (fa T1 st) fun r=>Ex.rec (ob (fb r.2.1 r.2.2) fun q=>Ex.rec (tl (Z7 P N ts te cap ps fa fb T n q.2.2)) (fun id=>some (.exit id,T,q.2.2)) (some (.ret,T,q.2.2)) q.1) (fun _=>none) none r.1)=some r:=h
  show(ob (Jd P ts cap st.h.get) fun s=>ob (J5 P ts s (.int .i64 (Int.ofNat n))) fun q=>ob (Jd P te q st.h.get) fun v=>
   EF N ps (.int .i64 (Int.ofNat n)) v T fun T1=>ob (fa' T1 st) fun r=>Ex.rec (ob (fb' r.2.1 r.2.2) fun q=>Ex.rec (tl (Z7 P N ts te cap ps fa' fb' T n q.2.2)) (fun id=>some (.exit id,T,q.2.2)) (some (.ret,T,q.2.2)) q.1) (fun _=>none) none r.1)=some r
  refine UJ h fun s _ h=>UJ h fun q _ h=>UJ h fun v _ h=>?_;unfold EF at h ⊢
  split at h
  ·refine Ej h fun T h=>Ej h fun T h=>?_;obtain⟨⟨e1,T2,st2⟩,h1,h⟩:=Qn h;rw[ha _ _ _ h1,Qk]
   cases e1 with
   |exit i=>cases h
   |ret=>cases h
   |nor=>
    obtain⟨⟨e,T3,st3⟩,h2,h⟩:=Qn h;show(ob (fb' T2 st2) _)=_;rw[hb _ _ _ h2,Qk]
    cases e with
    |nor=>exact ih _ _ h
    |exit i=>exact h
    |ret=>exact h
  ·cases h
theorem LU{c c':Uo}(hc:uL c c'){N L L':Nat}(hL:L≤L'): ∀(k:Code) (T:Tr AV) (st:St) (r:Ex×Tr AV×St),codeF P G c N L k T st=some r→codeF P G c' N L' k T st=some r:=by
 intro k
 induction k with
 |region id ops draw=>
  intro T st r h
  cases draw with
  |true=>
   have h:(ob (Zp P ops.toList) fun pl=>ob (V1 P G c N ops.toList pl T st [st]) fun r=>some (Ex.nor,r))=some r:=h;show(ob (Zp P ops.toList) fun pl=>ob (V1 P G c' N ops.toList pl T st [st]) fun r=>some (Ex.nor,r))=some r;refine UJ h fun pl _ h=>?_;obtain⟨a,ha,h⟩:=Qn h;rw[Lp hc _ _ _ _ _ ha];exact h
  |false=>
   have h:(ob (W7 P G c N ops.toList ops.toList T st) fun r=>some (Ex.nor,r))=some r:=h;show(ob (W7 P G c' N ops.toList ops.toList T st) fun r=>some (Ex.nor,r))=some r;obtain⟨a,ha,h⟩:=Qn h;rw[Lo hc _ _ _ _ ha];exact h
 |seq x y ihx ihy=>
  intro T st r h;have h:Z4 (codeF P G c N L x T st) (codeF P G c N L y)=some r:=h;show Z4 (codeF P G c' N L' x T st) (codeF P G c' N L' y)=some r;rcases Aq h with⟨T1,st1,h1,h2⟩|⟨h1,h2⟩
  ·rw[ihx _ _ _ h1];exact ihy _ _ _ h2
  ·rw[ihx _ _ _ h1];obtain⟨e,T,st⟩:=r
   cases e with
   |nor=>exact absurd rfl h2
   |exit i=>rfl
   |ret=>rfl
 |cond g x y ihx ihy=>
  intro T st r h;have h:Kc (QB G T g) (tl (codeF P G c N L x T st)) (tl (codeF P G c N L y T st))=some r:=h;show Kc (QB G T g) (tl (codeF P G c' N L' x T st)) (tl (codeF P G c' N L' y T st))=some r;refine UJ h fun v _ h=>?_
  cases v with
  |bool b=>
   cases b with
   |true=>exact ihx _ _ _ h
   |false=>exact ihy _ _ _ h
  |_=>cases h
 |block id x ih=>
  intro T st r h;have h:F8 id (codeF P G c N L x T st)=some r:=h;show F8 id (codeF P G c' N L' x T st)=some r;obtain⟨a,ha,h⟩:=Qn h;rw[ih _ _ _ ha];exact h
 |loop x ih=>intro T st r h;exact IB ih L L' hL T st r h
 |rangeFunc g ps a b iha ihb=>
  intro T st r h;have h:X8 P G N g ps.toList (Qi (JY a) (JY b) false) (codeF P G c N L a) (codeF P G c N L b) T st=some r:=h;show X8 P G N g ps.toList (Qi (JY a) (JY b) false) (codeF P G c' N L' a) (codeF P G c' N L' b) T st=some r;unfold X8 at h ⊢;refine V6 h fun h=>UJ h fun v _ h=>?_
  split at h
  ·refine UJ h fun q _ h=>?_
   split at h
   ·split at h
    ·refine UJ h fun s _ h=>UJ h fun n _ h=>?_
     split at h
     ·exact UJ h fun n _ h=>V6 h fun h=>Kl iha ihb _ _ _ h
     ·cases h
    ·cases h
   ·cases h
  ·cases h
 |_=>intro T st r h;exact h
theorem Re: ∀(l:List AV) (i:Nat) (T:Tr AV),(∀t,i≤t→UH T t=.tup [])→ ∃T',(∀(β:Type) (k:Tr AV→β),List.rec (motive:=fun _=>Nat→Tr AV→β) (fun(_:Nat) T=>k T) (fun v _ ih i T=>T.put i v (ih (i+1))) l i T=k T')∧
  ∀t,UH T' t=if t<i then UH T t else(l[t-i]?).getD (.tup []):=by
 intro l
 induction l with
 |nil=>
  intro i T hT;refine⟨T,fun _ _=>rfl,fun t=>?_⟩
  by_cases h:t<i
  ·rw[if_pos h]
  ·rw[if_neg h,hT t (by omega)];simp
 |cons v l ih=>
  intro i T hT
  obtain⟨T',h1,h2⟩:=ih (i+1) (T.set i v) fun t ht=>by rw[Ya,if_neg (by omega)];exact hT t (by omega)
  refine⟨T',fun β k=>?_,fun t=>?_⟩
  ·show T.put i v _=_;rw[Tr.put_eq];exact h1 β k
  ·rw[h2,Ya]
   by_cases h:t<i
   ·rw[if_pos (by omega),if_neg (by omega),if_pos h]
   ·rw[if_neg h]
    by_cases h3:t=i
    ·subst h3;rw[if_pos (by omega),if_pos rfl];simp
    ·rw[if_neg (by omega),show t-i=(t-(i+1))+1 by omega];simp
theorem Na(l:List AV): ∃T,(∀(β:Type) (k:Tr AV→β),Ef l k=k T)∧ ∀t,UH T t=(l[t]?).getD (.tup []):=by
 obtain⟨T,h1,h2⟩:=Re l 0 .nil fun t _=>rfl;exact⟨T,h1,fun t=>by rw[h2,if_neg (by omega),Nat.sub_zero]⟩
theorem XL: ∀(n m L L':Nat),n≤m→L≤L'→uL (Jn P G L n) (Jn P G L' m):=by
 intro n
 induction n with
 |zero=>intro m L L' _ _ f args st r h;cases h
 |succ n ih=>
  intro m L L' hnm hL f args st r h;obtain⟨k,rfl⟩: ∃k,m=k+1:=⟨m-1,by omega⟩;have h:(Option.rec (ob (AN P f) fun q=>QD (Nat.ble (Yo args) q.2.1) (Ef args fun T=>F5 (codeF P G (Jn P G L n) q.2.1 L q.1 T st) fun T st=>ob (Jp P q.2.2 T st) fun v=>some (v,st))) (fun sm=>sm args st) (G.s f):Option (AV×St))=some r:=h;show(Option.rec (ob (AN P f) fun q=>QD (Nat.ble (Yo args) q.2.1) (Ef args fun T=>F5 (codeF P G (Jn P G L' k) q.2.1 L' q.1 T st) fun T st=>ob (Jp P q.2.2 T st) fun v=>some (v,st))) (fun sm=>sm args st) (G.s f):Option (AV×St))=some r
  cases hs:G.s f with
  |some sm=>rw[hs]at h;exact h
  |none=>
   rw[hs]at h;refine UJ h fun q _ h=>V6 h fun h=>?_;obtain⟨T,h1,_⟩:=Na args;rw[h1]at h ⊢;obtain⟨⟨e,T2,st2⟩,hc,h⟩:=Qn h;have hc':=LU (ih k L L' (by omega) hL) hL q.1 T st _ hc;show F5 (codeF P G (Jn P G L' k) q.2.1 L' q.1 T st) _=_;rw[hc'];exact h

end Go.Proofs.YtadjjadimlkkgaaGreatDoor
end

section

namespace Go.Proofs.YtadjjadimlkkgaaGreatDoor
open Go

def Ev(P:Program)(G:Env)(f:FuncId)(args:List AV)(st:St)(v:AV)(st':St):Prop:= ∃L n,Jn P G L n f args st=some (v,st')
def W(P:Program)(G:Env)(N:Nat)(c:Code)(Q:Ex→Tr AV→St→Prop)(T:Tr AV)(st:St):Prop:= ∃L n x T' st',codeF P G (Jn P G L n) N L c T st=some (x,T',st')∧Q x T' st'
def WR(P:Program)(G:Env)(N:Nat)(ops l:List Oper)(Q:Tr AV→St→Prop)(T:Tr AV)(st:St):Prop:= ∃L n T' st',W7 P G (Jn P G L n) N ops l T st=some (T',st')∧Q T' st'
def WD(P:Program)(G:Env)(N:Nat)(ops:List Oper)(l:List (Nat×Oper×Nat))(Q:Tr AV→St→Prop)(T:Tr AV)(st:St)(sn:List St):Prop:= ∃L n T' st',V1 P G (Jn P G L n) N ops l T st sn=some (T',st')∧Q T' st'

def Lc(k:Tr AV→St→Prop)(Q:Ex→Tr AV→St→Prop):Ex→Tr AV→St→Prop
 |.nor=>k
 |x=>Q x
def Cq(id:Nat)(Q:Ex→Tr AV→St→Prop):Ex→Tr AV→St→Prop
 |.exit i=>if i=id then Q .nor else Q (.exit i)
 |x=>Q x

variable {P:Program} {G:Env} {N:Nat} {Q:Ex→Tr AV→St→Prop} {T:Tr AV} {st:St}

theorem Yg{L L' n n':Nat}(hL:L≤L')(hn:n≤n'){c:Code}{T:Tr AV}{st:St}{r:Ex×Tr AV×St}(h:codeF P G (Jn P G L n) N L c T st=some r):codeF P G (Jn P G L' n') N L' c T st=some r:=
 LU (XL n n' L L' hn hL) hL c T st r h
theorem Rv{c:Code}{Q':Ex→Tr AV→St→Prop}(h:W P G N c Q T st)(hq: ∀x T st,Q x T st→Q' x T st):W P G N c Q' T st:=by
 obtain⟨L,n,x,T',st',h1,h2⟩:=h;exact⟨L,n,x,T',st',h1,hq _ _ _ h2⟩
theorem QU(h:Q .nor T st):W P G N .skip Q T st:=⟨0,0,_,_,_,rfl,h⟩
theorem Mk{l:Nat}(h:Q .nor T st):W P G N (.label l) Q T st:=⟨0,0,_,_,_,rfl,h⟩
theorem Uq{id:Nat}(h:Q (.exit id) T st):W P G N (.exit id) Q T st:=⟨0,0,_,_,_,rfl,h⟩
theorem Qf(h:Q .ret T st):W P G N .ret Q T st:=⟨0,0,_,_,_,rfl,h⟩
theorem Qo{a b:Code}(h:W P G N a (Lc (W P G N b Q) Q) T st):W P G N (.seq a b) Q T st:=by
 obtain⟨L,n,x,T1,st1,h1,h2⟩:=h
 cases x with
 |nor=>
  obtain⟨L',n',y,T2,st2,h3,h4⟩:=h2;refine⟨max L L',max n n',y,T2,st2,?_,h4⟩;show Z4 (codeF P G _ N _ a T st) (codeF P G _ N _ b)=_;rw[Yg (Nat.le_max_left L L') (Nat.le_max_left n n') h1];exact Yg (Nat.le_max_right L L') (Nat.le_max_right n n') h3
 |exit i=>exact⟨L,n,_,T1,st1,by show Z4 (codeF P G _ N _ a T st) (codeF P G _ N _ b)=_;rw[h1];rfl,h2⟩
 |ret=>exact⟨L,n,_,T1,st1,by show Z4 (codeF P G _ N _ a T st) (codeF P G _ N _ b)=_;rw[h1];rfl,h2⟩
theorem Qs{g:Operand}{a b:Code}{t:Bool}(hg:QB G T g=some (.bool t))(ha:t=true→W P G N a Q T st)(hb:t=false→W P G N b Q T st):W P G N (.cond g a b) Q T st:=by
 cases t with
 |true=>
  obtain⟨L,n,x,T',st',h1,h2⟩:=ha rfl;exact⟨L,n,x,T',st',by show Kc (QB G T g) _ _=_;rw[hg];exact h1,h2⟩
 |false=>
  obtain⟨L,n,x,T',st',h1,h2⟩:=hb rfl;exact⟨L,n,x,T',st',by show Kc (QB G T g) _ _=_;rw[hg];exact h1,h2⟩
theorem Yh{id:Nat}{c:Code}(h:W P G N c (Cq id Q) T st):W P G N (.block id c) Q T st:=by
 obtain⟨L,n,x,T',st',h1,h2⟩:=h;have e:codeF P G (Jn P G L n) N L (.block id c) T st=F8 id (codeF P G (Jn P G L n) N L c T st):=rfl;rw[h1]at e
 cases x with
 |nor=>exact⟨L,n,_,T',st',e,h2⟩
 |ret=>exact⟨L,n,_,T',st',e,h2⟩
 |exit i=>
  by_cases hi:i=id
  ·subst hi;have h2:(if i=i then Q .nor else Q (.exit i)) T' st':=h2;rw[if_pos rfl]at h2;refine⟨L,n,.nor,T',st',?_,h2⟩;rw[e];show Qi (Nat.beq i i) _ _=_;rw[Nat.beq_refl];rfl
  ·have h2:(if i=id then Q .nor else Q (.exit i)) T' st':=h2;rw[if_neg hi]at h2;refine⟨L,n,.exit i,T',st',?_,h2⟩;rw[e];show Qi (Nat.beq i id) _ _=_
   have:Nat.beq i id=false:=by
    cases hb:Nat.beq i id with
    |false=>rfl
    |true=>exact absurd (Nat.eq_of_beq_eq_true hb) hi
   rw[this];rfl
theorem Jk{c:Code}(h:W P G N c (Lc (W P G N (.loop c) Q) Q) T st):W P G N (.loop c) Q T st:=by
 obtain⟨L,n,x,T1,st1,h1,h2⟩:=h;have e: ∀L n,codeF P G (Jn P G (L+1) n) N (L+1) (.loop c) T st=Z4 (codeF P G (Jn P G (L+1) n) N (L+1) c T st) (AB L (codeF P G (Jn P G (L+1) n) N (L+1) c)):=fun _ _=>rfl
 cases x with
 |nor=>
  obtain⟨L',n',y,T2,st2,h3,h4⟩:=h2;refine⟨max L L'+1,max n n',y,T2,st2,?_,h4⟩;rw[e,Yg (Nat.le_succ_of_le (Nat.le_max_left L L')) (Nat.le_max_left n n') h1];have h3:AB L' (codeF P G (Jn P G L' n') N L' c) T1 st1=some (y,T2,st2):=h3;exact IB (fun T st r h=>Yg (Nat.le_succ_of_le (Nat.le_max_right L L')) (Nat.le_max_right n n') h) L' (max L L') (Nat.le_max_right _ _) T1 st1 _ h3
 |exit i=>exact⟨L+1,n,_,T1,st1,by rw[e,Yg (Nat.le_succ L) (Nat.le_refl n) h1];rfl,h2⟩
 |ret=>exact⟨L+1,n,_,T1,st1,by rw[e,Yg (Nat.le_succ L) (Nat.le_refl n) h1];rfl,h2⟩
theorem UW{c:Code}(I:Nat→Tr AV→St→Prop)(hstep: ∀n T st,I n T st→W P G N c (Lc (fun T' st'=> ∃m,m<n∧I m T' st') Q) T st): ∀n T st,I n T st→W P G N (.loop c) Q T st:=by
 intro n
 induction n using Nat.strongRecOn with
 |_ n ih=>
  intro T st h;refine Jk (Rv (hstep n T st h) fun x T' st' hx=>?_)
  cases x with
  |nor=>
   obtain⟨m,hm,hI⟩:=hx;exact ih m hm T' st' hI
  |exit i=>exact hx
  |ret=>exact hx
theorem Qb{id:Nat}{ops:Array Oper}(h:WR P G N ops.toList ops.toList (Q .nor) T st):W P G N (.region id ops false) Q T st:=by
 obtain⟨L,n,T',st',h1,h2⟩:=h;refine⟨L,n,.nor,T',st',?_,h2⟩;show(ob (W7 P G _ N ops.toList ops.toList T st) fun r=>some (Ex.nor,r))=_;rw[h1];rfl
theorem jC{id:Nat}{ops:Array Oper}{pl:List (Nat×Oper×Nat)}(hp:Zp P ops.toList=some pl)(h:WD P G N ops.toList pl (Q .nor) T st [st]):W P G N (.region id ops true) Q T st:=by
 obtain⟨L,n,T',st',h1,h2⟩:=h;refine⟨L,n,.nor,T',st',?_,h2⟩;show(ob (Zp P ops.toList) fun pl=>ob (V1 P G _ N ops.toList pl T st [st]) fun r=>some (Ex.nor,r))=_;rw[hp,Qk,h1];rfl

def Jf(K:List (Nat×AV))(T:Tr AV):Prop:= ∀t v,K.lookup t=some v→UH T t=v
theorem Jf.set{K:List (Nat×AV)}{T:Tr AV}(h:Jf K T)(d:Nat)(v:AV):Jf ((d,v)::K) (T.set d v):=by
 intro t u hl;rw[Ya]
 by_cases ht:t=d
 ·subst ht;rw[List.lookup_cons,beq_self_eq_true]at hl
  injection hl with hl
  rw[if_pos rfl,hl]
 ·rw[List.lookup_cons,beq_false_of_ne ht]at hl;rw[if_neg ht];exact h t u hl
theorem Jf.nil{T:Tr AV}:Jf [] T:=fun t v h=>(by cases h)
theorem Jf.cons{K:List (Nat×AV)}{T:Tr AV}{d:Nat}{v:AV}(hd:UH T d=v)(h:Jf K T):Jf ((d,v)::K) T:=by
 intro t u hl
 by_cases ht:t=d
 ·subst ht;rw[List.lookup_cons,beq_self_eq_true]at hl
  injection hl with hl
  rw[←hl];exact hd
 ·rw[List.lookup_cons,beq_false_of_ne ht]at hl;exact h t u hl
noncomputable def Jy(G:Env)(K:List (Nat×AV))(x:Operand):Option AV:=match x with
 |.tmp t=>K.lookup t
 |.const v=>ofConst v
 |.global g=>QD (G.g g) (some (.ptr g 0 0))
 |.func f=>some (.fn f [] [])
theorem Jf.QB{K:List (Nat×AV)}{T:Tr AV}(h:Jf K T){x:Operand}{v:AV}(hx:Jy G K x=some v):QB G T x=some v:=by
 cases x with
 |tmp t=>exact congrArg some (h t v hx)
 |const c=>exact hx
 |global g=>exact hx
 |func f=>exact hx
theorem Jf.row{K:List (Nat×AV)}{T:Tr AV}(h:Jf K T): ∀(l:List Operand) (vs:List AV),Ug (Jy G K) l=some vs→Ug (Proofs.YtadjjadimlkkgaaGreatDoor.QB G T) l=some vs:=by
 intro l
 induction l with
 |nil=>intro vs hv;exact hv
 |cons x l ih=>
  intro vs hv;rw[Jw]at hv ⊢;obtain⟨b,hb,hv⟩:=Qn hv;obtain⟨t,ht,hv⟩:=Qn hv;rw[h.QB hb,Qk,ih t ht,Qk];exact hv
def Z1(P:Program)(G:Env)(K:List (Nat×AV))(op:Op)(st:St)(v:AV)(st1:St):Prop:= ∀T,Jf K T→ ∀(d:Option Tmp) (ty:TypeId) (pos:String) (af:Array Edge) (g:Option (Nat×Bool)),∃L n,∀L' n',L≤L'→n≤n'→FQ P (QB G T) (Jn P G L' n') ⟨d,op,ty,pos,af,g⟩ st=some (v,st1)
section ops
variable {ops rest:List Oper} {K:List (Nat×AV)} {R:Tr AV→St→Prop}
theorem QG(h:R T st):WR P G N ops [] R T st:=⟨0,0,T,st,rfl,h⟩
theorem Ng{o:Oper}{v:AV}{st1:St}(hw:J0 ops o T=true)(h: ∃L n,∀L' n',L≤L'→n≤n'→FQ P (QB G T) (Jn P G L' n') o st=some (v,st1))(hd: ∀d,o.dst=some d→d<N)
  (hn:WR P G N ops rest R (match o.dst with|some d=>T.set d v|none=>T) st1):WR P G N ops (o::rest) R T st:=by
 obtain⟨L,n,h⟩:=h;obtain⟨L',n',T',st',h1,h2⟩:=hn;refine⟨max L L',max n n',T',st',?_,h2⟩;show(ob (JU P G _ ops o T st) fun r=>Yn N o.dst r.1 T fun T=>tl (W7 P G _ N ops rest T r.2))=_
 have e:JU P G (Jn P G (max L L') (max n n')) ops o T st=some (v,st1):=by
  unfold JU;rw[hw,QA];exact h _ _ (Nat.le_max_left _ _) (Nat.le_max_left _ _)
 rw[e,Qk];have h1':=Lo (XL n' (max n n') L' (max L L') (Nat.le_max_right _ _) (Nat.le_max_right _ _)) _ _ _ _ h1
 cases hdst:o.dst with
 |none=>rw[hdst]at h1';exact h1'
 |some d=>
  rw[hdst]at h1';show QD (Nat.ble (d+1) N) (T.put d v _)=_;rw[Nat.ble_eq_true_of_le (hd d hdst),Tr.put_eq];exact h1'
theorem FF{d:Nat}{op:Op}{ty:TypeId}{pos:String}{af:Array Edge}{v:AV}{st1:St}(hK:Jf K T)(h:Z1 P G K op st v st1)(hN:d<N)(hn: ∀T',Jf ((d,v)::K) T'→WR P G N ops rest R T' st1):
  WR P G N ops (⟨some d,op,ty,pos,af,none⟩::rest) R T st:=
 Ng rfl (h T hK _ _ _ _ _) (fun e he=>by injection he with he;rw[←he];exact hN) (hn _ (hK.set d v))
theorem uO{op:Op}{ty:TypeId}{pos:String}{af:Array Edge}{v:AV}{st1:St}(hK:Jf K T)(h:Z1 P G K op st v st1)(hn:WR P G N ops rest R T st1):
  WR P G N ops (⟨none,op,ty,pos,af,none⟩::rest) R T st:=
 Ng rfl (h T hK _ _ _ _ _) (fun e he=>by cases he) hn
end ops
end Go.Proofs.YtadjjadimlkkgaaGreatDoor
end

section

namespace Go.Proofs.YtadjjadimlkkgaaGreatDoor
open Go

variable {P:Program} {G:Env} {K:List (Nat×AV)} {st:St}
theorem Z1.of{op:Op}{v:AV}{st1:St}(h: ∀T,Jf K T→ ∀(c:Uo) (d:Option Tmp) (ty:TypeId) (pos:String) (af:Array Edge) (g:Option (Nat×Bool)),FQ P (QB G T) c ⟨d,op,ty,pos,af,g⟩ st=some (v,st1)):Z1 P G K op st v st1:=
 fun T hT d ty pos af g=>⟨0,0,fun _ _ _ _=>h T hT _ d ty pos af g⟩
theorem Qc{x:Operand}{v:AV}(hx:Jy G K x=some v):Z1 P G K (.move x) st v st:=.of fun T hT c d ty pos af g=>by
 show ret (QB G T x) st=_;rw[hT.QB hx];rfl
theorem Qq{x:Operand}{v:AV}(hx:Jy G K x=some v):Z1 P G K (.assign x) st v st:=.of fun T hT c d ty pos af g=>by
 show ret (QB G T x) st=_;rw[hT.QB hx];rfl
theorem VT{x a b:Operand}{t:Bool}{u v:AV}(hx:Jy G K x=some (.bool t))(ha:Jy G K a=some u)(hb:Jy G K b=some v):Z1 P G K (.pick x a b) st (Qi t u v) st:=.of fun T hT c d ty pos af g=>by
 show(ob (QB G T x) fun c=>(match c with
  |.bool t=>ret (Qi t (QB G T a) (QB G T b)) st
  |_=>none))=_
 rw[hT.QB hx,Qk];show ret (Qi t (QB G T a) (QB G T b)) st=_;rw[hT.QB ha,hT.QB hb]
 cases t<;>rfl
theorem Xh{op:BinOp}{t yt:TypeId}{x y:Operand}{u w v:AV}(hx:Jy G K x=some u)(hy:Jy G K y=some w)(h:b2 P op t u w=some v):Z1 P G K (.binOp op t x y yt) st v st:=.of fun T hT c d ty pos af g=>by
 show ret (ob (QB G T x) fun x=>ob (QB G T y) fun y=>b2 P op t x y) st=_;rw[hT.QB hx,hT.QB hy,Qk,Qk,h];rfl
theorem G3(k:IntKind):H7 k k=true:=decide_eq_true rfl
theorem Ec{op:BinOp}{t:TypeId}{k:IntKind}{a b:Int}(h1:op≠ .shl)(h2:op≠ .shr):b2 P op t (.int k a) (.int k b)=ju op k a b:=by
 cases op<;>first
  |exact absurd rfl h1
  |exact absurd rfl h2
  |(show QD (H7 k k) _=_;rw[G3];rfl)
theorem NA{t yt:TypeId}{x y:Operand}{k:IntKind}{a b:Int}(hx:Jy G K x=some (.int k a))(hy:Jy G K y=some (.int k b)):Z1 P G K (.binOp .lss t x y yt) st (.bool (decide (a<b))) st:=
 Xh hx hy (by rw[Ec (by decide) (by decide)];show some (AV.bool (L4 a b))=_;rw[Zs])
theorem BG{t yt:TypeId}{x y:Operand}{k:IntKind}{a b:Int}(hx:Jy G K x=some (.int k a))(hy:Jy G K y=some (.int k b)):Z1 P G K (.binOp .gtr t x y yt) st (.bool (decide (b<a))) st:=
 Xh hx hy (by rw[Ec (by decide) (by decide)];show some (AV.bool (L4 b a))=_;rw[Zs])
theorem I4(a b:Int):(!decide (a<b))=decide (b≤a):=by
 by_cases h:a<b
 ·rw[decide_eq_true h,decide_eq_false (by omega)];rfl
 ·rw[decide_eq_false h,decide_eq_true (by omega)];rfl
theorem BF{t yt:TypeId}{x y:Operand}{k:IntKind}{a b:Int}(hx:Jy G K x=some (.int k a))(hy:Jy G K y=some (.int k b)):Z1 P G K (.binOp .leq t x y yt) st (.bool (decide (a≤b))) st:=
 Xh hx hy (by rw[Ec (by decide) (by decide)];show some (AV.bool (!L4 b a))=_;rw[Zs,I4])
theorem BH{t yt:TypeId}{x y:Operand}{k:IntKind}{a b:Int}(hx:Jy G K x=some (.int k a))(hy:Jy G K y=some (.int k b)):Z1 P G K (.binOp .geq t x y yt) st (.bool (decide (b≤a))) st:=
 Xh hx hy (by rw[Ec (by decide) (by decide)];show some (AV.bool (!L4 a b))=_;rw[Zs,I4])
theorem AQ(a b:Int):H8 a b=decide (a=b):=by rw[YU];exact Bool.beq_eq_decide_eq a b
theorem Se{t yt:TypeId}{x y:Operand}{k:IntKind}{a b:Int}(hx:Jy G K x=some (.int k a))(hy:Jy G K y=some (.int k b)):Z1 P G K (.binOp .eql t x y yt) st (.bool (decide (a=b))) st:=
 Xh hx hy (by rw[Ec (by decide) (by decide)];show some (AV.bool (H8 a b))=_;rw[AQ])
theorem Sc{t yt:TypeId}{x y:Operand}{k:IntKind}{a b:Int}(hx:Jy G K x=some (.int k a))(hy:Jy G K y=some (.int k b)):Z1 P G K (.binOp .neq t x y yt) st (.bool (!decide (a=b))) st:=
 Xh hx hy (by rw[Ec (by decide) (by decide)];show some (AV.bool (!H8 a b))=_;rw[AQ])
theorem wrap64{n:Int}(h1: -9223372036854775808≤n)(h2:n≤9223372036854775807):IntKind.i64.wrap n=n:=IntWalk.i64_in n (by omega)
theorem Jo{t yt:TypeId}{x y:Operand}{a b:Int}(hx:Jy G K x=some (.int .i64 a))(hy:Jy G K y=some (.int .i64 b))(h1: -9223372036854775808≤a+b)(h2:a+b≤9223372036854775807):Z1 P G K (.binOp .add t x y yt) st (.int .i64 (a+b)) st:=
 Xh hx hy (by rw[Ec (by decide) (by decide)];show Wy (Vw .i64 (a+b)) (fun z=>some (AV.int .i64 z))=_;rw[Xq,UY,wrap64 h1 h2])
theorem WB{t yt:TypeId}{x y:Operand}{a b:Int}(hx:Jy G K x=some (.int .i64 a))(hy:Jy G K y=some (.int .i64 b))(h1: -9223372036854775808≤a-b)(h2:a-b≤9223372036854775807):Z1 P G K (.binOp .sub t x y yt) st (.int .i64 (a-b)) st:=
 Xh hx hy (by rw[Ec (by decide) (by decide)];show Wy (Vw .i64 (a-b)) (fun z=>some (AV.int .i64 z))=_;rw[Xq,UY,wrap64 h1 h2])
theorem Q8{t yt:TypeId}{x y:Operand}{a b:List Nat}(hx:Jy G K x=some (.str a))(hy:Jy G K y=some (.str b)):Z1 P G K (.binOp .eql t x y yt) st (.bool (decide (a=b))) st:=
 Xh hx hy (by show some (AV.bool (G0 a b))=_;rw[Xj])
theorem N9{t yt:TypeId}{x y:Operand}{a b:List Nat}(hx:Jy G K x=some (.str a))(hy:Jy G K y=some (.str b)):Z1 P G K (.binOp .neq t x y yt) st (.bool (!decide (a=b))) st:=
 Xh hx hy (by show some (AV.bool (!G0 a b))=_;rw[Xj])
theorem N8{t:TypeId}{x:Operand}{b:Bool}(hx:Jy G K x=some (.bool b)):Z1 P G K (.unOp .not t x) st (.bool (!b)) st:=.of fun T hT c d ty pos af g=>by
 show ret (ob (QB G T x) fun x=>yD .not x) st=_;rw[hT.QB hx];rfl
theorem WC{x:Operand}{v:AV}(hx:Jy G K x=some v)(hv:(match v with|.ptr _ _ _=>true|.fn _ _ _=>true|_=>false)=true):Z1 P G K (.nilCheck x) st v st:=.of fun T hT c d ty pos af g=>by
 show ret (ob (QB G T x) fun v=>(match v with
  |.ptr c m off=>some (.ptr c m off)
  |.fn f a c=>some (.fn f a c)
  |_=>none)) st=_
 rw[hT.QB hx,Qk]
 cases v<;>first|rfl|cases hv
theorem QZ{t:TypeId}{x:Operand}{f c m off o:Nat}(ho:QR P t f=some o)(hx:Jy G K x=some (.ptr c m off)):Z1 P G K (.fieldAddr t x f) st (.ptr c m (off+o)) st:=.of fun T hT cc d ty pos af g=>by
 show ret (ob (QB G T x) fun x=>ZF P t x f) st=_;rw[hT.QB hx,Qk];show ret (ob (QR P t f) fun o=>JW (off+o) fun z=>some (AV.ptr c m z)) st=_;rw[ho,Qk,QX];rfl
theorem Iy{x:Operand}{i:Nat}{l:List AV}{v:AV}(hx:Jy G K x=some (.tup l))(h:nth l i=some v):Z1 P G K (.extract x i) st v st:=.of fun T hT cc d ty pos af g=>by
 show ret (ob (QB G T x) fun v=>(match v with
  |.tup l=>nth l i
  |_=>none)) st=_
 rw[hT.QB hx,Qk];show ret (nth l i) st=_;rw[h];rfl
theorem Qe{t:TypeId}{x i:Operand}{c m off len z z':Nat}{k:IntKind}{j:Nat}(he:JI P t=some z)(hx:Jy G K x=some (.sl c m off len z'))(hi:Jy G K i=some (.int k (j:Int)))(hj:j<len):
  Z1 P G K (.indexAddr t x i) st (.ptr c m (off+j *z)) st:=.of fun T hT cc d ty pos af g=>by
 show ret (ob (QB G T x) fun x=>ob (QB G T i) fun i=>J5 P t x i) st=_;rw[hT.QB hx,hT.QB hi,Qk,Qk];show ret (ob (Lb (j:Int)) fun i=>QD (Nat.ble (i+1) len) (ob (JI P t) fun z=>JW (off+i *z) fun o=>some (AV.ptr c m o))) st=_;show ret (QD (Nat.ble (j+1) len) (ob (JI P t) fun z=>JW (off+j *z) fun o=>some (AV.ptr c m o))) st=_;rw[Nat.ble_eq_true_of_le hj,he];show ret (JW (off+j *z) fun o=>some (AV.ptr c m o)) st=_;rw[QX];rfl
theorem DU{t:TypeId}{x i:Operand}{l:List Nat}{k:IntKind}{j b:Nat}(ht:P.underlying t=some .string)(hx:Jy G K x=some (.str l))(hi:Jy G K i=some (.int k (j:Int)))(hj:l[j]? =some b):
  Z1 P G K (.index t x i) st (.int .u8 (b:Int)) st:=.of fun T hT cc d ty pos af g=>by
 show ret (ob (QB G T x) fun x=>ob (QB G T i) fun i=>EV P t x i) st=_;rw[hT.QB hx,hT.QB hi,Qk,Qk];unfold EV;simp only[ht];show ret (ob (nth l j) fun b=>some (AV.int .u8 (Int.ofNat b))) st=_;rw[Ur,hj];rfl
theorem BS{t:TypeId}(ht:P.underlying t=some .string):YQ P [t]=false:=by unfold YQ;simp only[ht]
theorem Ps{t e:TypeId}(ht:P.underlying t=some (.slice e)):YQ P [t]=false:=by unfold YQ;simp only[ht]
theorem MJ{tys:Array TypeId}{t:TypeId}{x:Operand}{l:List Nat}(ht:P.underlying t=some .string)(htys:tys= #[t])(hx:Jy G K x=some (.str l)):
  Z1 P G K (.call {callee:=.builtin .len,args:= #[x],argTypes:=tys}) st (.int .i64 (l.length:Int)) st:=.of fun T hT cc d ty pos af g=>by
 subst htys;show Qi (YQ P [t]) _ (ret (ob (QB G T x) fun x=>WM P [t] x) st)=_;rw[BS ht,Q4,hT.QB hx,Qk];unfold WM;simp only[ht,QX,Uc];rfl
def Yj:AV→Option Nat
 |.nils=>some 0
 |.slz _ _ _ _ _=>some 0
 |.sl0 _ _ _=>some 0
 |.sl _ _ _ n _=>some n
 |_=>none
theorem QF{tys:Array TypeId}{t e:TypeId}{x:Operand}{u:AV}{n:Nat}(ht:P.underlying t=some (.slice e))(htys:tys= #[t])(hx:Jy G K x=some u)(hn:Yj u=some n):
  Z1 P G K (.call {callee:=.builtin .len,args:= #[x],argTypes:=tys}) st (.int .i64 (n:Int)) st:=.of fun T hT cc d ty pos af g=>by
 subst htys;show Qi (YQ P [t]) _ (ret (ob (QB G T x) fun x=>WM P [t] x) st)=_;rw[Ps ht,Q4,hT.QB hx,Qk]
 cases u<;>simp only[Yj]at hn<;>first|(cases hn;done)|skip
 all_goals
  injection hn with hn
  subst hn;unfold WM;simp only[ht];rfl
theorem Ql{f:FuncId}{args:Array Operand}{tys:Array TypeId}{l:List AV}{v:AV}{st1:St}(ha:Ug (Jy G K) args.toList=some l)(h:Ev P G f l st v st1):
  Z1 P G K (.call {callee:=.value (.func f),args:=args,argTypes:=tys}) st v st1:=fun T hT d ty pos af g=>by
 obtain⟨L,n,h⟩:=h;refine⟨L,n,fun L' n' hL hn=>?_⟩
 show(ob (QB G T (.func f)) fun v=>(match v with
  |.fn fid a cap=>ob (Ug (QB G T) args.toList) fun l=>Jn P G L' n' fid (Yp a (Yp l cap)) st
  |_=>none))=_
 show(ob (Ug (QB G T) args.toList) fun l=>Jn P G L' n' f (Yp [] (Yp l [])) st)=_;rw[hT.row _ _ ha,Qk,UB,UB,List.nil_append,List.append_nil];exact XL n n' L L' hn hL _ _ _ _ h
theorem Uu{g:Operand}{args:Array Operand}{tys:Array TypeId}{f:FuncId}{a l cap:List AV}{v:AV}{st1:St}(hg:Jy G K g=some (.fn f a cap))(ha:Ug (Jy G K) args.toList=some l)(h:Ev P G f (a++(l++cap)) st v st1):
  Z1 P G K (.call {callee:=.value g,args:=args,argTypes:=tys}) st v st1:=fun T hT d ty pos af gg=>by
 obtain⟨L,n,h⟩:=h;refine⟨L,n,fun L' n' hL hn=>?_⟩
 show(ob (QB G T g) fun v=>(match v with
  |.fn fid a cap=>ob (Ug (QB G T) args.toList) fun l=>Jn P G L' n' fid (Yp a (Yp l cap)) st
  |_=>none))=_
 rw[hT.QB hg,Qk];show(ob (Ug (QB G T) args.toList) fun l=>Jn P G L' n' f (Yp a (Yp l cap)) st)=_;rw[hT.row _ _ ha,Qk,UB,UB];exact XL n n' L L' hn hL _ _ _ _ h
theorem VU{f:FuncId}{first cap:Array Operand}{a c:List AV}(ha:Ug (Jy G K) first.toList=some a)(hc:Ug (Jy G K) cap.toList=some c):Z1 P G K (.makeFunc (.func f) first cap) st (.fn f a c) st:=.of fun T hT cc d ty pos af g=>by
 show ret (ob (Ug (QB G T) first.toList) fun l=>ob (Ug (QB G T) cap.toList) fun r=>some (AV.fn f l r)) st=_;rw[hT.row _ _ ha,hT.row _ _ hc];rfl
theorem Qr{t:TypeId}{x:Operand}{u v:AV}(hx:Jy G K x=some u)(h:Jd P t u st.h.get=some v):Z1 P G K (.load t x) st v st:=.of fun T hT cc d ty pos af g=>by
 show(ob (QB G T x) fun x=>ret (Jd P t x st.h.get) st)=_;rw[hT.QB hx,Qk,h];rfl
theorem OY{t:TypeId}{x:Operand}{lo hi:Option Operand}{u v:AV}(hx:Jy G K x=some u)(h: ∀T,Jf K T→Vg P t u (QB G T) lo hi=some v):Z1 P G K (.slice t x lo hi none) st v st:=.of fun T hT cc d ty pos af g=>by
 show ret (ob (QB G T x) fun x=>Vg P t x (QB G T) lo hi) st=_;rw[hT.QB hx,Qk,h T hT];rfl
theorem yl{f:FuncId}{fn:Func}{c:Code}{N:Nat}{rs:List ResultVar}{args:List AV}{Q:AV→St→Prop}(hs:G.s f=none)(hf:P.funcs[f]? =some fn)(hb:fn.body=some c)(hN:fn.ntmps=N)(hr:fn.results.toList=rs)(hname:(fn.name== "runtime.NumGoroutine")=false)(hl:args.length≤N)
  (h: ∀T,(∀t,UH T t=(args[t]?).getD (.tup []))→W P G N c (fun x T st=>(x=.nor∨x=.ret)∧ ∃v,Jp P rs T st=some v∧Q v st) T st): ∃v st',Ev P G f args st v st'∧Q v st':=by
 obtain⟨T,hT1,hT2⟩:=Na args;obtain⟨L,n,x,T',st',h1,hx,v,h2,h3⟩:=h T hT2;refine⟨v,st',⟨L,n+1,?_⟩,h3⟩;show(Option.rec (ob (AN P f) fun q=>QD (Nat.ble (Yo args) q.2.1) (Ef args fun T=>F5 (codeF P G (Jn P G L n) q.2.1 L q.1 T st) fun T st=>ob (Jp P q.2.2 T st) fun v=>some (v,st))) (fun sm=>sm args st) (G.s f):Option (AV×St))=some (v,st');rw[hs];show(ob (AN P f) fun q=>QD (Nat.ble (Yo args) q.2.1) (Ef args fun T=>F5 (codeF P G (Jn P G L n) q.2.1 L q.1 T st) fun T st=>ob (Jp P q.2.2 T st) fun v=>some (v,st)))=some (v,st')
 have hfn:AN P f=some (c,N,rs):=by
  unfold AN;rw[hf];simp only[hb,hname,hN,hr];rfl
 rw[hfn,Qk,Uc,Nat.ble_eq_true_of_le hl,hT1,Jj];show F5 (codeF P G (Jn P G L n) N L c T st) _=_;rw[h1];rcases hx with rfl|rfl
 ·show ob (Jp P rs T' st') _=_;rw[h2];rfl
 ·show ob (Jp P rs T' st') _=_;rw[h2];rfl
end Go.Proofs.YtadjjadimlkkgaaGreatDoor
end

section

namespace Go.Proofs.YtadjjadimlkkgaaGreatDoor
open Go

structure Mem(h0:Hp)(n0:Nat)(X:List Nat)(st:St)(M:List (Nat×Nat×List AV)):Prop where
 fresh:Qx st
 le:n0≤st.n
 base: ∀c,n0≤c→h0 c=none
 row: ∀c m l,(c,m,l)∈M→ ∃vs ms,st.h.get c=some (.row false ms)∧ms[m]? =some (l.length,vs,some l)
 lt: ∀c m l,(c,m,l)∈M→c<st.n
 own: ∀c m l,(c,m,l)∈M→n0≤c∨c∈X
 nodup:(M.map Prod.fst).Nodup
 old: ∀c,c<n0→c∉X→st.h.get c=h0 c
structure Qt(st st':St):Prop where
 fresh:Qx st'
 le:st.n≤st'.n
 old: ∀c,c<st.n→st'.h.get c=st.h.get c
theorem Qt.refl{st:St}(h:Qx st):Qt st st:=⟨h,Nat.le_refl _,fun _ _=>rfl⟩
theorem Qt.trans{a b c:St}(x:Qt a b)(y:Qt b c):Qt a c:=⟨y.fresh,Nat.le_trans x.le y.le,fun k hk=>by rw[y.old k (Nat.lt_of_lt_of_le hk x.le),x.old k hk]⟩
theorem Mem.start{st:St}(h:Qx st):Mem st.h.get st.n [] st []:=
 ⟨h,Nat.le_refl _,h,fun c m l h=>(by cases h),fun c m l h=>(by cases h),fun c m l h=>(by cases h),List.nodup_nil,fun _ _ _=>rfl⟩
section
variable {P:Program} {G:Env} {N:Nat} {h0:Hp} {n0:Nat} {X:List Nat} {st:St} {M:List (Nat×Nat×List AV)}
theorem Mem.qt{st0:St}(h:Mem st0.h.get st0.n [] st M):Qt st0 st:=⟨h.fresh,h.le,fun c hc=>h.old c hc (by simp)⟩
theorem Mem.less(h:Mem h0 n0 X st M){M':List (Nat×Nat×List AV)}(hs:M'.Sublist M):Mem h0 n0 X st M':=
 ⟨h.fresh,h.le,h.base,fun c m l hm=>h.row c m l (hs.subset hm),fun c m l hm=>h.lt c m l (hs.subset hm),fun c m l hm=>h.own c m l (hs.subset hm),h.nodup.sublist (hs.map _),h.old⟩
theorem Mem.quiet(h:Mem h0 n0 X st M){st':St}(q:Qt st st'):Mem h0 n0 X st' M:=
 ⟨q.fresh,Nat.le_trans h.le q.le,h.base,fun c m l hm=>by
  obtain⟨vs,ms,h1,h2⟩:=h.row c m l hm
  exact⟨vs,ms,by rw[q.old c (h.lt c m l hm)];exact h1,h2⟩,fun c m l hm=>Nat.lt_of_lt_of_le (h.lt c m l hm) q.le,h.own,h.nodup,fun c hc hx=>by rw[q.old c (Nat.lt_of_lt_of_le hc h.le)];exact h.old c hc hx⟩
theorem Mem.alloc(h:Mem h0 n0 X st M)(l:List AV):Mem h0 n0 X ⟨st.n+1,st.h.set st.n (.row false [(l.length,0,some l)])⟩ ((st.n,0,l)::M):=by
 have hg: ∀c,(st.h.set st.n (.row false [(l.length,0,some l)])).get c=if c=st.n then some (.row false [(l.length,0,some l)])else st.h.get c:=fun c=>Tr.Wf _ _ _ _
 refine⟨fun c hc=>?_,Nat.le_succ_of_le h.le,h.base,fun c m l' hm=>?_,fun c m l' hm=>?_,fun c m l' hm=>?_,?_,fun c hc hx=>?_⟩
 ·have hc:st.n+1≤c:=hc;show(st.h.set st.n _).get c=none;rw[hg,if_neg (by omega)];exact h.fresh c (by omega)
 ·rcases List.mem_cons.1 hm with e|hm
  ·injection e with e1 e2
   injection e2 with e2 e3
   subst e1 e2 e3;exact⟨0,_,(hg _).trans (if_pos rfl),rfl⟩
  ·obtain⟨vs,ms,h1,h2⟩:=h.row c m l' hm;have:=h.lt c m l' hm;exact⟨vs,ms,by show(st.h.set st.n _).get c=_;rw[hg,if_neg (by omega)];exact h1,h2⟩
 ·rcases List.mem_cons.1 hm with e|hm
  ·injection e with e1 e2;subst e1;exact Nat.lt_succ_self _
  ·exact Nat.lt_succ_of_lt (h.lt c m l' hm)
 ·rcases List.mem_cons.1 hm with e|hm
  ·injection e with e1 e2;subst e1;exact .inl h.le
  ·exact h.own c m l' hm
 ·rw[List.map_cons];refine List.nodup_cons.2 ⟨fun hm=>?_,h.nodup⟩;obtain⟨⟨c,m,l'⟩,h1,h2⟩:=List.mem_map.1 hm;have:=h.lt c m l' h1;simp only at h2;omega
 ·show(st.h.set st.n _).get c=_;have:=h.le;rw[hg,if_neg (by omega)];exact h.old c hc hx
theorem OL{k:Nat}{c m:Nat}{l l':List AV}{M:List (Nat×Nat×List AV)}(hk:M[k]? =some (c,m,l)):(M.set k (c,m,l')).map Prod.fst=M.map Prod.fst:=by
 apply List.ext_getElem?;intro i;rw[List.getElem?_map,List.getElem?_map,List.getElem?_set]
 by_cases h:k=i
 ·subst h;rw[if_pos rfl,hk];have:=(List.getElem?_eq_some_iff.1 hk).1;simp[this]
 ·rw[if_neg h]
theorem WH{k:Nat}{c m:Nat}{l l':List AV}{M:List (Nat×Nat×List AV)}(hk:M[k]? =some (c,m,l))(hn:(M.map Prod.fst).Nodup){x:Nat×Nat×List AV}(hx:x∈M.set k (c,m,l')):
  x=(c,m,l')∨(x∈M∧x.1≠c):=by
 obtain⟨i,hi⟩:=List.getElem?_of_mem hx;rw[List.getElem?_set]at hi
 by_cases h:k=i
 ·subst h;have:=(List.getElem?_eq_some_iff.1 hk).1;simp[this]at hi;exact .inl hi.symm
 ·rw[if_neg h]at hi;refine .inr ⟨List.mem_of_getElem? hi,fun e=>h ?_⟩
  have h1:(M.map Prod.fst)[k]? =some c:=by rw[List.getElem?_map,hk];rfl
  have h2:(M.map Prod.fst)[i]? =some c:=by rw[List.getElem?_map,hi];simp[e]
  exact(List.getElem?_inj (List.getElem?_eq_some_iff.1 h1).1 hn).1 (h1.trans h2.symm)
theorem Mem.store(h:Mem h0 n0 X st M){k c m off:Nat}{l l':List AV}{t:TypeId}{w:AV}{n:Nat}(hk:M[k]? =some (c,m,l))(hz:Za P t=some n)(hn:(Js w).length=n)(hc:Vq QE (Js w)=true)(ho:YC (Js w) off l=some l'):
  ∃st1,VO P t (.ptr c m off) w st=some (.tup [],st1)∧Mem h0 n0 X st1 (M.set k (c,m,l'))∧st1.n=st.n:=by
 have hm:=List.mem_of_getElem? hk;obtain⟨vs,ms,h1,h2⟩:=h.row c m l hm;have hlen:l'.length=l.length:=(XC _ _ _ _ ho).2.1
 have hr:rowOf st.h.get c m=some (l.length,vs,l,false,ms):=by
  unfold rowOf;rw[h1,Qk];show ob (nth ms m) _=_;rw[Ur,h2];rfl
 have e: ∃ms',VO P t (.ptr c m off) w st=some (.tup [],⟨st.n,st.h.set c (.row false ms')⟩)∧ms'[m]? =some (l.length,vs,some l'):=by
  unfold VO;simp only[hr,Qk,hz,Uc,hn,Nat.beq_refl,Jj,hc,ho,Bool.not_false];refine⟨jK (l.length,vs,some l') (Y9 (vs+off) (vs+off+n) ms) m,by rw[JX,JX,Yr],?_⟩;rw[CP,List.getElem?_set_self];rw[Jz];exact(List.getElem?_eq_some_iff.1 h2).1
 obtain⟨ms',e1,e2⟩:=e
 have hg: ∀x,(st.h.set c (.row false ms')).get x=if x=c then some (.row false ms')else st.h.get x:=fun x=>Tr.Wf _ _ _ _
 refine⟨_,e1,⟨fun x hx=>?_,h.le,h.base,fun x y z hm'=>?_,fun x y z hm'=>?_,fun x y z hm'=>?_,?_,fun x hx hX=>?_⟩,rfl⟩
 ·show(st.h.set c _).get x=none;have:=h.lt c m l hm;have hx:st.n≤x:=hx;rw[hg,if_neg (by omega)];exact h.fresh x hx
 ·rcases WH hk h.nodup hm' with e|⟨h3,h4⟩
  ·injection e with e1 e2
   injection e2 with e2 e3
   subst e1 e2 e3;exact⟨vs,ms',(hg _).trans (if_pos rfl),by rw[hlen];exact e2⟩
  ·obtain⟨vs',ms2,h5,h6⟩:=h.row x y z h3;exact⟨vs',ms2,by show(st.h.set c _).get x=_;rw[hg,if_neg h4];exact h5,h6⟩
 ·rcases WH hk h.nodup hm' with e|⟨h3,h4⟩
  ·injection e with e1 e2;subst e1;exact h.lt _ m l hm
  ·exact h.lt x y z h3
 ·rcases WH hk h.nodup hm' with e|⟨h3,h4⟩
  ·injection e with e1 e2;subst e1;exact h.own _ m l hm
  ·exact h.own x y z h3
 ·rw[OL hk];exact h.nodup
 ·show(st.h.set c _).get x=_
  have hxc:x≠c:=fun e=>by
   subst e;rcases h.own x m l hm with h5|h5
   ·omega
   ·exact hX h5
  rw[hg,if_neg hxc];exact h.old x hx hX
theorem Mem.load(h:Mem h0 n0 X st M){k c m off:Nat}{l:List AV}{t:TypeId}{v:AV}(hk:M[k]? =some (c,m,l))(hp:Zc P t l off=some v):Jd P t (.ptr c m off) st.h.get=some v:=by
 obtain⟨vs,ms,h1,h2⟩:=h.row c m l (List.mem_of_getElem? hk);show ob (rowOf st.h.get c m) _=_;unfold rowOf;rw[h1,Qk];show ob (ob (nth ms m) _) _=_;rw[Ur,h2];exact hp

variable {ops rest:List Oper} {K:List (Nat×AV)} {R:Tr AV→St→Prop} {T:Tr AV}
theorem UZ{d:Nat}{t ty:TypeId}{pos:String}{af:Array Edge}{l:List AV}(hK:Jf K T)(hM:Mem h0 n0 X st M)(hz:zeroOf P t=some l)(hN:d<N)
  (hn: ∀(c:Nat) T' st',Jf ((d,.ptr c 0 0)::K) T'→Mem h0 n0 X st' ((c,0,l)::M)→WR P G N ops rest R T' st'):WR P G N ops (⟨some d,.alloc t,ty,pos,af,none⟩::rest) R T st:=by
 refine FF (v:=.ptr st.n 0 0) (st1:=⟨st.n+1,st.h.set st.n (.row false [(l.length,0,some l)])⟩) hK (.of fun T hT c d ty pos af g=>?_) hN fun T' hT'=>hn st.n T' _ hT' (hM.alloc l);show Ai P t st=_;unfold Ai;rw[hz,Qk,Y0]
theorem QM{d:Nat}{t ty:TypeId}{pos:String}{af:Array Edge}{x:Operand}{v:AV}(hK:Jf K T)(hM:Mem h0 n0 X st M)(hx:Jy G K x=some v)(hc:Vq QE (Js v)=true)(hN:d<N)
  (hn: ∀(c:Nat) T' st',Jf ((d,.ptr c 0 0)::K) T'→Mem h0 n0 X st' ((c,0,Js v)::M)→WR P G N ops rest R T' st'):WR P G N ops (⟨some d,.box t x,ty,pos,af,none⟩::rest) R T st:=by
 refine FF (v:=.ptr st.n 0 0) (st1:=⟨st.n+1,st.h.set st.n (.row false [((Js v).length,0,some (Js v))])⟩) hK (.of fun T hT c d ty pos af g=>?_) hN fun T' hT'=>hn st.n T' _ hT' (hM.alloc _);show(ob (QB G T x) fun x=>TG x st)=_;rw[hT.QB hx,Qk];unfold TG;rw[hc,Jj,Y0]
theorem QI{t ty:TypeId}{pos:String}{af:Array Edge}{x y:Operand}{w:AV}{k c m off n:Nat}{l l':List AV}(hK:Jf K T)(hM:Mem h0 n0 X st M)(hx:Jy G K x=some (.ptr c m off))(hy:Jy G K y=some w)(hk:M[k]? =some (c,m,l))(hz:Za P t=some n)(hn:(Js w).length=n)
  (hc:Vq QE (Js w)=true) (ho:YC (Js w) off l=some l') (hr: ∀st',Mem h0 n0 X st' (M.set k (c,m,l'))→WR P G N ops rest R T st'):WR P G N ops (⟨none,.store t x y,ty,pos,af,none⟩::rest) R T st:=by
 obtain⟨st1,h1,h2,_⟩:=hM.store hk hz hn hc ho;refine uO (v:=.tup []) (st1:=st1) hK (.of fun T hT c d ty pos af g=>?_) (hr st1 h2);show(ob (QB G T x) fun x=>ob (QB G T y) fun y=>VO P t x y st)=_;rw[hT.QB hx,hT.QB hy,Qk,Qk,h1]
end
theorem J3{P:Program}{t:TypeId}{n:Nat}{l r:List AV}{off:Nat}(h:tk P t=.agg n)(hl:X6 n (XJ off l) (fun r=>some (AV.agg r))=some (.agg r)):Zc P t l off=some (.agg r):=by
 unfold Zc;rw[h];exact hl
theorem Qw{P:Program}{t:TypeId}{l:List AV}{off:Nat}{v:AV}(h:tk P t=.one)(hl:nth l off=some v):Zc P t l off=some v:=by
 unfold Zc;rw[h];exact hl
end Go.Proofs.YtadjjadimlkkgaaGreatDoor
end

section

namespace Go.Proofs.YtadjjadimlkkgaaGreatDoor
open Go

variable {P:Program} {G:Env} {N:Nat} {st:St} {K:List (Nat×AV)} {T:Tr AV} {ops rest:List Oper} {R:Tr AV→St→Prop}
theorem jB{d:Nat}{op:Op}{ty:TypeId}{pos:String}{af:Array Edge}{x:Bool}{st1:St}(hK:Jf K T)(h:Z1 P G K op st (.bool x) st1)(hN:d<N)(hn: ∀(b:Bool) T',x=b→Jf ((d,.bool b)::K) T'→WR P G N ops rest R T' st1):
 WR P G N ops (⟨some d,op,ty,pos,af,none⟩::rest) R T st:=FF hK h hN fun T' hT'=>hn x T' rfl hT'
theorem FG{j t:Nat}{d:Option Nat}{op:Op}{ty:TypeId}{pos:String}{af:Array Edge}{b pol:Bool}(hK:Jf K T)(ht:Uh ops j=some t)(hb:K.lookup t=some (.bool b)):J0 ops ⟨d,op,ty,pos,af,some (j,pol)⟩ T=(b==pol):=by
 unfold J0;simp only[ht];rw[show UH T t=.bool b from hK t _ hb]
 cases b<;>cases pol<;>rfl
theorem qA{d j t:Nat}{op:Op}{ty:TypeId}{pos:String}{af:Array Edge}{pol:Bool}{v:AV}{st1:St}(hK:Jf K T)(ht:Uh ops j=some t)(hb:K.lookup t=some (.bool pol))(h:Z1 P G K op st v st1)(hN:d<N)
  (hn: ∀T',Jf ((d,v)::K) T'→WR P G N ops rest R T' st1):WR P G N ops (⟨some d,op,ty,pos,af,some (j,pol)⟩::rest) R T st:=
 Ng (by rw[FG hK ht hb];cases pol<;>rfl) (h T hK _ _ _ _ _) (fun e he=>by injection he with he;rw[←he];exact hN) (hn _ (hK.set d v))
theorem uM{d j t:Nat}{op:Op}{ty:TypeId}{pos:String}{af:Array Edge}{b pol:Bool}(hK:Jf K T)(ht:Uh ops j=some t)(hb:K.lookup t=some (.bool b))(hne:(b==pol)=false)(hN:d<N)
  (hn: ∀T',Jf ((d,.tup [])::K) T'→WR P G N ops rest R T' st):WR P G N ops (⟨some d,op,ty,pos,af,some (j,pol)⟩::rest) R T st:=by
 obtain⟨L',n',T',st',h1,h2⟩:=hn _ (hK.set d (.tup []));refine⟨L',n',T',st',?_,h2⟩;show(ob (JU P G _ ops _ T st) fun r=>Yn N (some d) r.1 T fun T=>tl (W7 P G _ N ops rest T r.2))=_;unfold JU;rw[FG hK ht hb,hne,Q4,Qk];show QD (Nat.ble (d+1) N) (T.put d (.tup []) _)=_;rw[Nat.ble_eq_true_of_le hN,Tr.put_eq];exact h1
theorem Sd{x y:Operand}{tys:Array TypeId}{a b:Int}{k:IntKind}(hx:Jy G K x=some (.int k a))(hy:Jy G K y=some (.int k b)):Z1 P G K (.call {callee:=.builtin .max,args:= #[x,y],argTypes:=tys}) st (.int k (max a b)) st:=.of fun T hT cc d ty pos af g=>by
 show ret (ob (Ug (QB G T) [x,y]) (uH true)) st=_;rw[Jw,hT.QB hx,Qk,Jw,hT.QB hy,Qk];show ret (some (AV.int k (Qi (L4 a b) b a))) st=_;rw[Zs]
 by_cases h:a<b
 ·rw[decide_eq_true h,QA,show max a b=b by omega];rfl
 ·rw[decide_eq_false h,Q4,show max a b=a by omega];rfl
theorem Ix{x y:Operand}{tys:Array TypeId}{a b:Int}{k:IntKind}(hx:Jy G K x=some (.int k a))(hy:Jy G K y=some (.int k b)):Z1 P G K (.call {callee:=.builtin .min,args:= #[x,y],argTypes:=tys}) st (.int k (min a b)) st:=.of fun T hT cc d ty pos af g=>by
 show ret (ob (Ug (QB G T) [x,y]) (uH false)) st=_;rw[Jw,hT.QB hx,Qk,Jw,hT.QB hy,Qk];show ret (some (AV.int k (Qi (L4 b a) b a))) st=_;rw[Zs]
 by_cases h:b<a
 ·rw[decide_eq_true h,QA,show min a b=b by omega];rfl
 ·rw[decide_eq_false h,Q4,show min a b=a by omega];rfl
end Go.Proofs.YtadjjadimlkkgaaGreatDoor
end

section

namespace Go.Proofs.YtadjjadimlkkgaaGreatDoor
open Go

variable {P:Program} {G:Env} {N:Nat} {st:St} {K:List (Nat×AV)} {T:Tr AV} {ops:List Oper} {rest:List (Nat×Oper×Nat)} {R:Tr AV→St→Prop} {sn:List St}
def EM(ops:List Oper)(q:Nat×Nat):Nat×Oper×Nat:=(q.1,(ops[q.1]?).getD ⟨none,.move (.tmp 0),0,"",#[],none⟩,q.2)
theorem A5{ops:List Oper}{i n:Nat}{o:Oper}(ho:ops[i]? =some o)(r:List (Nat×Nat)):((i,n)::r).map (EM ops)=(i,o,n)::r.map (EM ops):=by
 rw[List.map_cons];unfold EM;rw[ho];rfl
theorem JC{id:Nat}{ops:Array Oper}{Q:Ex→Tr AV→St→Prop}{l:List (Nat×Nat)}(hp:Zp P ops.toList=some (l.map (EM ops.toList)))
 (h:WD P G N ops.toList (l.map (EM ops.toList)) (Q .nor) T st [st]):W P G N (.region id ops true) Q T st:=jC hp h
theorem Ui(h:R T st):WD P G N ops (([]:List (Nat×Nat)).map (EM ops)) R T st sn:=⟨0,0,T,st,rfl,h⟩
theorem Hu{i n:Nat}{o:Oper}{v:AV}{st1:St}(hw:J0 ops o T=true)(h: ∃L n,∀L' n',L≤L'→n≤n'→FQ P (QB G T) (Jn P G L' n') o st=some (v,st1))(ha:again P G o T v n sn.tail=true)(hd: ∀d,o.dst=some d→d<N)
  (hn:WD P G N ops rest R (match o.dst with|some d=>T.set d v|none=>T) st1 (Qi (Nat.beq (QL P o.op) 3) (st1::sn) sn)):WD P G N ops ((i,o,n)::rest) R T st sn:=by
 obtain⟨L,m,h⟩:=h;obtain⟨L',m',T',st',h1,h2⟩:=hn;refine⟨max L L',max m m',T',st',?_,h2⟩
 show(ob (JU P G _ ops o T st) fun r=>QD (Qi (J0 ops o T) (again P G o T r.1 n (List.rec [] (fun _ t _=>t) sn)) true)
  (Yn N o.dst r.1 T fun T=>tl (V1 P G _ N ops rest T r.2 (Qi (Nat.beq (QL P o.op) 3) (r.2::sn) sn))))=_
 have e:JU P G (Jn P G (max L L') (max m m')) ops o T st=some (v,st1):=by
  unfold JU;rw[hw,QA];exact h _ _ (Nat.le_max_left _ _) (Nat.le_max_left _ _)
 rw[e,Qk,hw,QA,OS];show QD (again P G o T v n sn.tail) _=_;rw[ha,Jj];have h1':=Lp (XL m' (max m m') L' (max L L') (Nat.le_max_right _ _) (Nat.le_max_right _ _)) _ _ _ _ _ h1
 cases hdst:o.dst with
 |none=>rw[hdst]at h1';exact h1'
 |some d=>
  rw[hdst]at h1';show QD (Nat.ble (d+1) N) (T.put d v _)=_;rw[Nat.ble_eq_true_of_le (hd d hdst),Tr.put_eq];exact h1'
section
variable {r:List (Nat×Nat)} {i d:Nat} {op:Op} {ty:TypeId} {pos:String} {af:Array Edge} {v:AV} {st1:St}
theorem qB(ho:ops[i]? =some ⟨some d,op,ty,pos,af,none⟩)(hK:Jf K T)(h:Z1 P G K op st v st1)(hk:Nat.beq (QL P op) 3=false)(hN:d<N)(hn: ∀T',Jf ((d,v)::K) T'→WD P G N ops (r.map (EM ops)) R T' st1 sn):
  WD P G N ops (((i,0)::r).map (EM ops)) R T st sn:=by
 rw[A5 ho]
 exact Hu rfl (h T hK _ _ _ _ _) rfl (fun e he=>by injection he with he;rw[←he];exact hN) (by
  show WD P G N ops (r.map (EM ops)) R _ st1 (Qi (Nat.beq (QL P op) 3) _ _)
  rw[hk];exact hn _ (hK.set d v))
theorem Nj(ho:ops[i]? =some ⟨some d,op,ty,pos,af,none⟩)(hK:Jf K T)(h:Z1 P G K op st v st1)(hk:Nat.beq (QL P op) 3=true)(hN:d<N)(hn: ∀T',Jf ((d,v)::K) T'→WD P G N ops (r.map (EM ops)) R T' st1 (st1::sn)):
  WD P G N ops (((i,0)::r).map (EM ops)) R T st sn:=by
 rw[A5 ho]
 exact Hu rfl (h T hK _ _ _ _ _) rfl (fun e he=>by injection he with he;rw[←he];exact hN) (by
  show WD P G N ops (r.map (EM ops)) R _ st1 (Qi (Nat.beq (QL P op) 3) _ _)
  rw[hk];exact hn _ (hK.set d v))
theorem ZM{t:TypeId}{x:Operand}{u:AV}{s0 s1:St}(ho:ops[i]? =some ⟨some d,.load t x,ty,pos,af,none⟩)(hK:Jf K T)(hx:Jy G K x=some u)(h:Jd P t u st.h.get=some v)(h1:Jd P t u s1.h.get=some v)(he:Ow v v=true)(hk:Nat.beq (QL P (.load t x)) 3=false)(hN:d<N)
  (hn: ∀T',Jf ((d,v)::K) T'→WD P G N ops (r.map (EM ops)) R T' st (s0::s1::sn)):WD P G N ops (((i,1)::r).map (EM ops)) R T st (s0::s1::sn):=by
 rw[A5 ho]
 exact Hu rfl (Qr hx h T hK _ _ _ _ _) (by
  show Qi (Option.rec false (fun x=>Option.rec false (fun u=>Ow u v) (Jd P t x s1.h.get)) (QB G T x)) true false=true;rw[hK.QB hx];show Qi (Option.rec false (fun u=>Ow u v) (Jd P t u s1.h.get)) true false=true;rw[h1];show Qi (Ow v v) true false=true
  rw[he];rfl) (fun e he=>by injection he with he;rw[←he];exact hN) (by
  show WD P G N ops (r.map (EM ops)) R _ st (Qi (Nat.beq (QL P (.load t x)) 3) _ _)
  rw[hk];exact hn _ (hK.set d v))
end
end Go.Proofs.YtadjjadimlkkgaaGreatDoor
end

section

namespace Go.Proofs.YtadjjadimlkkgaaGreatDoor
open Go

variable {P:Program} {G:Env} {N:Nat} {st:St} {K:List (Nat×AV)} {T:Tr AV} {ops:List Oper} {r:List (Nat×Nat)} {R:Tr AV→St→Prop} {sn:List St} {h0:Hp} {n0:Nat} {X:List Nat} {M:List (Nat×Nat×List AV)}
theorem Ao{i:Nat}{t ty:TypeId}{pos:String}{af:Array Edge}{x y:Operand}{w:AV}{k c m off n:Nat}{l l':List AV}(ho:ops[i]? =some ⟨none,.store t x y,ty,pos,af,none⟩)(hK:Jf K T)(hM:Mem h0 n0 X st M)(hx:Jy G K x=some (.ptr c m off))(hy:Jy G K y=some w)
  (hk:M[k]? =some (c,m,l)) (hz:Za P t=some n) (hn:(Js w).length=n) (hc:Vq QE (Js w)=true) (hv:YC (Js w) off l=some l')
  (hr: ∀st',Mem h0 n0 X st' (M.set k (c,m,l'))→WD P G N ops (r.map (EM ops)) R T st' (st'::sn)):WD P G N ops (((i,0)::r).map (EM ops)) R T st sn:=by
 obtain⟨st1,h1,h2,_⟩:=hM.store hk hz hn hc hv;rw[A5 ho]
 have hS:Z1 P G K (.store t x y) st (.tup []) st1:=.of fun T hT c d ty pos af g=>by
  show(ob (QB G T x) fun x=>ob (QB G T y) fun y=>VO P t x y st)=_;rw[hT.QB hx,hT.QB hy,Qk,Qk,h1]
 exact Hu rfl (hS T hK _ _ _ _ _) rfl (fun e he=>by cases he) (hr st1 h2)
end Go.Proofs.YtadjjadimlkkgaaGreatDoor
end
