/-
  Several texts in one: XSymA, XSymB, XSymC, XSymD, XSymE, XSymF, XSymG.
-/
import Derived.Test.YtildagdnomiahaaGreatDoorQkEv3
set_option linter.unusedSimpArgs false
set_option linter.unusedVariables false
namespace Go.Proofs.YtildagdnomiahaaGreatDoor
section
open Go
variable {N:Nat} {T:Tr AV} {ops:List Oper}

def fe(c c':JI):Prop:= ∀f args st r,c f args st=some r→c' f args st=some r
theorem U3{α β:Type}{x:Option α}{k k':α→Option β}{r:β}(h:ob x k=some r)(hk: ∀a,x=some a→k a=some r→k' a=some r):ob x k'=some r:=by
 obtain⟨a,ha,h⟩:=Qk h;rw[ha];exact hk a ha h
theorem VG{β:Type}{b:Bool}{k k':Option β}{r:β}(h:Q4 b k=some r)(hk:k=some r→k'=some r):Q4 b k'=some r:=by
 obtain⟨hb,h⟩:=Qo h;subst hb;exact hk h
variable {P:Program} {G:Env}
theorem je{R:Operand→Option AV}{c c':JI}(hc:fe c c'){o:Oper}{st:St}{r:AV×St}(h:HX P R c o st=some r):HX P R c' o st=some r:=by
 obtain⟨dst,op,ty,pos,af,g⟩:=o
 cases op with
 |call cl=>
  obtain⟨callee,args,tys⟩:=cl
  cases callee with
  |value f=>
   have h:(ob (R f) fun v=>(match v with
    |.fn fid a cap=>ob (J7 R args.toList) fun l=>c fid (UY a (UY l cap)) st
    |_=>none))=some r:=h
   show(ob (R f) fun v=>(match v with
    |.fn fid a cap=>ob (J7 R args.toList) fun l=>c' fid (UY a (UY l cap)) st
    |_=>none))=some r
   refine U3 h fun v _ h=>?_
   cases v with
   |fn fid a cap=>exact U3 h fun l _ h=>hc _ _ _ _ h
   |_=>cases h
  |invoke f name=>
   have h:(ob (R f) fun v=>(match v with
    |.ifc t u=>ob (XY P t name) fun fid=>ob (J7 R args.toList) fun l=>c fid (u::l) st
    |_=>none))=some r:=h
   show(ob (R f) fun v=>(match v with
    |.ifc t u=>ob (XY P t name) fun fid=>ob (J7 R args.toList) fun l=>c' fid (u::l) st
    |_=>none))=some r
   refine U3 h fun v _ h=>?_
   cases v with
   |ifc t u=>exact U3 h fun fid _ h=>U3 h fun l _ h=>hc _ _ _ _ h
   |_=>cases h
  |_=>exact h
 |_=>exact h
theorem Kq{c c':JI}(hc:fe c c'){o:Oper}{st:St}{r:AV×St}(h:Js P G c ops o T st=some r):Js P G c' ops o T st=some r:=by
 unfold Js at h ⊢
 cases hw:QQ ops o T with
 |true=>rw[hw]at h;exact je hc h
 |false=>rw[hw]at h;exact h
theorem E4{β:Type}{d:Option Nat}{v:AV}{k k':Tr AV→Option β}{r:β}(h:Yk N d v T k=some r)(hk: ∀T,k T=some r→k' T=some r):Yk N d v T k'=some r:=by
 cases d with
 |none=>exact hk _ h
 |some t=>
  have h:Q4 (Nat.ble (t+1) N) (T.put t v k)=some r:=h;show Q4 (Nat.ble (t+1) N) (T.put t v k')=some r;refine VG h fun h=>?_;rw[Tr.put_eq]at h ⊢;exact hk _ h
theorem NT{c c':JI}(hc:fe c c'): ∀(l:List Oper) (T:Tr AV) (st:St) (r:Tr AV×St),WK P G c N ops l T st=some r→WK P G c' N ops l T st=some r:=by
 intro l
 induction l with
 |nil=>intro T st r h;exact h
 |cons o l ih=>
  intro T st r h;have h:(ob (Js P G c ops o T st) fun r=>Yk N o.dst r.1 T fun T=>tl (WK P G c N ops l T r.2))=some r:=h;show(ob (Js P G c' ops o T st) fun r=>Yk N o.dst r.1 T fun T=>tl (WK P G c' N ops l T r.2))=some r;obtain⟨a,ha,h⟩:=Qk h;rw[Kq hc ha,Qf];exact E4 h fun T h=>ih T a.2 r h
theorem NU{c c':JI}(hc:fe c c'): ∀(l:List (Nat×Oper×Nat)) (T:Tr AV) (st:St) (sn:List St) (r:Tr AV×St),XO P G c N ops l T st sn=some r→XO P G c' N ops l T st sn=some r:=by
 intro l
 induction l with
 |nil=>intro T st sn r h;exact h
 |cons q l ih=>
  intro T st sn r h
  have h:(ob (Js P G c ops q.2.1 T st) fun r=>Q4 (Qj (QQ ops q.2.1 T) (again P G q.2.1 T r.1 q.2.2 (List.rec [] (fun _ t _=>t) sn)) true)
   (Yk N q.2.1.dst r.1 T fun T=>tl (XO P G c N ops l T r.2 (Qj (Nat.beq (Qx P q.2.1.op) 3) (r.2::sn) sn))))=some r:=h
  show(ob (Js P G c' ops q.2.1 T st) fun r=>Q4 (Qj (QQ ops q.2.1 T) (again P G q.2.1 T r.1 q.2.2 (List.rec [] (fun _ t _=>t) sn)) true)
   (Yk N q.2.1.dst r.1 T fun T=>tl (XO P G c' N ops l T r.2 (Qj (Nat.beq (Qx P q.2.1.op) 3) (r.2::sn) sn))))=some r
  obtain⟨a,ha,h⟩:=Qk h;rw[Kq hc ha,Qf];refine VG h fun h=>E4 h fun T h=>ih T a.2 _ r h
theorem KW{f f':Tr AV→St→Option (Ex×Tr AV×St)}(hf: ∀T st r,f T st=some r→f' T st=some r): ∀(L L':Nat),L≤L'→ ∀T st r,Fx L f T st=some r→Fx L' f' T st=some r:=by
 intro L
 induction L with
 |zero=>intro L' _ T st r h;cases h
 |succ L ih=>
  intro L' hL T st r h;obtain⟨M,rfl⟩: ∃M,L'=M+1:=⟨L'-1,by omega⟩;have h:Zv (f T st) (Fx L f)=some r:=h;show Zv (f' T st) (Fx M f')=some r;rcases AZ h with⟨T1,st1,h1,h2⟩|⟨h1,h2⟩
  ·rw[hf _ _ _ h1];exact ih M Qe _ _ _ h2
  ·rw[hf _ _ _ h1];obtain⟨e,T,st⟩:=r
   cases e with
   |nor=>exact absurd rfl h2
   |exit i=>rfl
   |ret=>rfl
theorem Re{ts te:TypeId}{cap:AV}{ps:List Tmp}{fa fb fa' fb':Tr AV→St→Option (Ex×Tr AV×St)}(ha: ∀T st r,fa T st=some r→fa' T st=some r)(hb: ∀T st r,fb T st=some r→fb' T st=some r):
  ∀(n:Nat) (st:St) (r:Ex×Tr AV×St),Vh P N ts te cap ps fa fb T n st=some r→Vh P N ts te cap ps fa' fb' T n st=some r:=by
 intro n
 induction n with
 |zero=>intro st r h;exact h
 |succ n ih=>
  intro st r h
  have h:(ob (QD P ts cap st.h.get) fun s=>ob (J3 P ts s (.int .i64 (Int.ofNat n))) fun q=>ob (QD P te q st.h.get) fun v=>
   Ij N ps (.int .i64 (Int.ofNat n)) v T fun T1=>ob (fa T1 st) fun r=>Ex.rec (ob (fb r.2.1 r.2.2) fun q=>Ex.rec (tl (Vh P N ts te cap ps fa fb T n q.2.2)) (fun id=>some (.exit id,T,q.2.2)) (some (.ret,T,q.2.2)) q.1) (fun _=>none) none r.1)=some r:=h
  show(ob (QD P ts cap st.h.get) fun s=>ob (J3 P ts s (.int .i64 (Int.ofNat n))) fun q=>ob (QD P te q st.h.get) fun v=>
   Ij N ps (.int .i64 (Int.ofNat n)) v T fun T1=>ob (fa' T1 st) fun r=>Ex.rec (ob (fb' r.2.1 r.2.2) fun q=>Ex.rec (tl (Vh P N ts te cap ps fa' fb' T n q.2.2)) (fun id=>some (.exit id,T,q.2.2)) (some (.ret,T,q.2.2)) q.1) (fun _=>none) none r.1)=some r
  refine U3 h fun s _ h=>U3 h fun q _ h=>U3 h fun v _ h=>?_;unfold Ij at h ⊢
  split at h
  ·refine E4 h fun T h=>E4 h fun T h=>?_;obtain⟨⟨e1,T2,st2⟩,h1,h⟩:=Qk h;rw[ha _ _ _ h1,Qf]
   cases e1 with
   |exit i=>cases h
   |ret=>cases h
   |nor=>
    obtain⟨⟨e,T3,st3⟩,h2,h⟩:=Qk h;show(ob (fb' T2 st2) _)=_;rw[hb _ _ _ h2,Qf]
    cases e with
    |nor=>exact ih _ _ h
    |exit i=>exact h
    |ret=>exact h
  ·cases h
theorem O2{c c':JI}(hc:fe c c'){L L':Nat}(hL:L≤L'): ∀(k:Code) (T:Tr AV) (st:St) (r:Ex×Tr AV×St),codeF P G c N L k T st=some r→codeF P G c' N L' k T st=some r:=by
 intro k
 induction k with
 |region id ops draw=>
  intro T st r h
  cases draw with
  |true=>
   have h:(ob (Zh P ops.toList) fun pl=>ob (XO P G c N ops.toList pl T st [st]) fun r=>some (Ex.nor,r))=some r:=h;show(ob (Zh P ops.toList) fun pl=>ob (XO P G c' N ops.toList pl T st [st]) fun r=>some (Ex.nor,r))=some r;refine U3 h fun pl _ h=>?_;obtain⟨a,ha,h⟩:=Qk h;rw[NU hc _ _ _ _ _ ha];exact h
  |false=>
   have h:(ob (WK P G c N ops.toList ops.toList T st) fun r=>some (Ex.nor,r))=some r:=h;show(ob (WK P G c' N ops.toList ops.toList T st) fun r=>some (Ex.nor,r))=some r;obtain⟨a,ha,h⟩:=Qk h;rw[NT hc _ _ _ _ ha];exact h
 |seq x y ihx ihy=>
  intro T st r h;have h:Zv (codeF P G c N L x T st) (codeF P G c N L y)=some r:=h;show Zv (codeF P G c' N L' x T st) (codeF P G c' N L' y)=some r;rcases AZ h with⟨T1,st1,h1,h2⟩|⟨h1,h2⟩
  ·rw[ihx _ _ _ h1];exact ihy _ _ _ h2
  ·rw[ihx _ _ _ h1];obtain⟨e,T,st⟩:=r
   cases e with
   |nor=>exact absurd rfl h2
   |exit i=>rfl
   |ret=>rfl
 |cond g x y ihx ihy=>
  intro T st r h;have h:L8 (QI G T g) (tl (codeF P G c N L x T st)) (tl (codeF P G c N L y T st))=some r:=h;show L8 (QI G T g) (tl (codeF P G c' N L' x T st)) (tl (codeF P G c' N L' y T st))=some r;refine U3 h fun v _ h=>?_
  cases v with
  |bool b=>
   cases b with
   |true=>exact ihx _ _ _ h
   |false=>exact ihy _ _ _ h
  |_=>cases h
 |block id x ih=>
  intro T st r h;have h:H8 id (codeF P G c N L x T st)=some r:=h;show H8 id (codeF P G c' N L' x T st)=some r;obtain⟨a,ha,h⟩:=Qk h;rw[ih _ _ _ ha];exact h
 |loop x ih=>intro T st r h;exact KW ih L L' hL T st r h
 |rangeFunc g ps a b iha ihb=>
  intro T st r h;have h:Wh P G N g ps.toList (Qj (Ux a) (Ux b) false) (codeF P G c N L a) (codeF P G c N L b) T st=some r:=h;show Wh P G N g ps.toList (Qj (Ux a) (Ux b) false) (codeF P G c' N L' a) (codeF P G c' N L' b) T st=some r;unfold Wh at h ⊢;refine VG h fun h=>U3 h fun v _ h=>?_
  split at h
  ·refine U3 h fun q _ h=>?_
   split at h
   ·split at h
    ·refine U3 h fun s _ h=>U3 h fun n _ h=>?_
     split at h
     ·exact U3 h fun n _ h=>VG h fun h=>Re iha ihb _ _ _ h
     ·cases h
    ·cases h
   ·cases h
  ·cases h
 |_=>intro T st r h;exact h
theorem M3: ∀(l:List AV) (i:Nat) (T:Tr AV),(∀t,i≤t→Up T t=.tup [])→ ∃T',(∀(β:Type) (k:Tr AV→β),List.rec (motive:=fun _=>Nat→Tr AV→β) (fun(_:Nat) T=>k T) (fun v _ ih i T=>T.put i v (ih (i+1))) l i T=k T')∧
  ∀t,Up T' t=if t<i then Up T t else(l[t-i]?).getD (.tup []):=by
 intro l
 induction l with
 |nil=>
  intro i T hT;refine⟨T,fun _ _=>rfl,fun t=>?_⟩
  by_cases h:t<i
  ·rw[if_pos h]
  ·rw[if_neg h,hT t Qe];simp
 |cons v l ih=>
  intro i T hT
  obtain⟨T',h1,h2⟩:=ih (i+1) (T.set i v) fun t ht=>by rw[UI,if_neg Qe];exact hT t Qe
  refine⟨T',fun β k=>?_,fun t=>?_⟩
  ·show T.put i v _=_;rw[Tr.put_eq];exact h1 β k
  ·rw[h2,UI]
   by_cases h:t<i
   ·rw[if_pos Qe,if_neg Qe,if_pos h]
   ·rw[if_neg h]
    by_cases h3:t=i
    ·subst h3;rw[if_pos Qe,if_pos rfl];simp
    ·rw[if_neg Qe,show t-i=(t-(i+1))+1 by omega];simp
theorem O8(l:List AV): ∃T,(∀(β:Type) (k:Tr AV→β),En l k=k T)∧ ∀t,Up T t=(l[t]?).getD (.tup []):=by
 obtain⟨T,h1,h2⟩:=M3 l 0 .nil fun t _=>rfl;exact⟨T,h1,fun t=>by rw[h2,if_neg Qe,Nat.sub_zero]⟩
theorem Z8: ∀(n m L L':Nat),n≤m→L≤L'→fe (Jf P G L n) (Jf P G L' m):=by
 intro n
 induction n with
 |zero=>intro m L L' _ _ f args st r h;cases h
 |succ n ih=>
  intro m L L' hnm hL f args st r h;obtain⟨k,rfl⟩: ∃k,m=k+1:=⟨m-1,by omega⟩;have h:(Option.rec (ob (FC P f) fun q=>Q4 (Nat.ble (UM args) q.2.1) (En args fun T=>H4 (codeF P G (Jf P G L n) q.2.1 L q.1 T st) fun T st=>ob (QM P q.2.2 T st) fun v=>some (v,st))) (fun sm=>sm args st) (G.s f):Option (AV×St))=some r:=h;show(Option.rec (ob (FC P f) fun q=>Q4 (Nat.ble (UM args) q.2.1) (En args fun T=>H4 (codeF P G (Jf P G L' k) q.2.1 L' q.1 T st) fun T st=>ob (QM P q.2.2 T st) fun v=>some (v,st))) (fun sm=>sm args st) (G.s f):Option (AV×St))=some r
  cases hs:G.s f with
  |some sm=>rw[hs]at h;exact h
  |none=>
   rw[hs]at h;refine U3 h fun q _ h=>VG h fun h=>?_;obtain⟨T,h1,_⟩:=O8 args;rw[h1]at h ⊢;obtain⟨⟨e,T2,st2⟩,hc,h⟩:=Qk h;have hc':=O2 (ih k L L' Qe hL) hL q.1 T st _ hc;show H4 (codeF P G (Jf P G L' k) q.2.1 L' q.1 T st) _=_;rw[hc'];exact h

end
section
open Go
variable {c:Code} {id:Nat} {st1:St} {v:AV}

def Ev(P:Program)(G:Env)(f:FuncId)(args:List AV)(st:St)(v:AV)(st':St):Prop:= ∃L n,Jf P G L n f args st=some (v,st')
def W(P:Program)(G:Env)(N:Nat)(c:Code)(Q:Ex→Tr AV→St→Prop)(T:Tr AV)(st:St):Prop:= ∃L n x T' st',codeF P G (Jf P G L n) N L c T st=some (x,T',st')∧Q x T' st'
def WR(P:Program)(G:Env)(N:Nat)(ops l:List Oper)(Q:Tr AV→St→Prop)(T:Tr AV)(st:St):Prop:= ∃L n T' st',WK P G (Jf P G L n) N ops l T st=some (T',st')∧Q T' st'
def WD(P:Program)(G:Env)(N:Nat)(ops:List Oper)(l:List (Nat×Oper×Nat))(Q:Tr AV→St→Prop)(T:Tr AV)(st:St)(sn:List St):Prop:= ∃L n T' st',XO P G (Jf P G L n) N ops l T st sn=some (T',st')∧Q T' st'

def Ki(k:Tr AV→St→Prop)(Q:Ex→Tr AV→St→Prop):Ex→Tr AV→St→Prop
 |.nor=>k
 |x=>Q x
def Ba(id:Nat)(Q:Ex→Tr AV→St→Prop):Ex→Tr AV→St→Prop
 |.exit i=>if i=id then Q .nor else Q (.exit i)
 |x=>Q x

variable {P:Program} {G:Env} {N:Nat} {Q:Ex→Tr AV→St→Prop} {T:Tr AV} {st:St}

theorem Xz{L L' n n':Nat}(hL:L≤L')(hn:n≤n'){T:Tr AV}{st:St}{r:Ex×Tr AV×St}(h:codeF P G (Jf P G L n) N L c T st=some r):codeF P G (Jf P G L' n') N L' c T st=some r:=
 O2 (Z8 n n' L L' hn hL) hL c T st r h
theorem ML{Q':Ex→Tr AV→St→Prop}(h:W P G N c Q T st)(hq: ∀x T st,Q x T st→Q' x T st):W P G N c Q' T st:=by
 obtain⟨L,n,x,T',st',h1,h2⟩:=h;exact⟨L,n,x,T',st',h1,hq _ _ _ h2⟩
theorem wu(h:Q .nor T st):W P G N .skip Q T st:=⟨0,0,_,_,_,rfl,h⟩
theorem zd{l:Nat}(h:Q .nor T st):W P G N (.label l) Q T st:=⟨0,0,_,_,_,rfl,h⟩
theorem QT(h:Q (.exit id) T st):W P G N (.exit id) Q T st:=⟨0,0,_,_,_,rfl,h⟩
theorem ZH(h:Q .ret T st):W P G N .ret Q T st:=⟨0,0,_,_,_,rfl,h⟩
theorem ZG{a b:Code}(h:W P G N a (Ki (W P G N b Q) Q) T st):W P G N (.seq a b) Q T st:=by
 obtain⟨L,n,x,T1,st1,h1,h2⟩:=h
 cases x with
 |nor=>
  obtain⟨L',n',y,T2,st2,h3,h4⟩:=h2;refine⟨max L L',max n n',y,T2,st2,?_,h4⟩;show Zv (codeF P G _ N _ a T st) (codeF P G _ N _ b)=_;rw[Xz (Nat.le_max_left L L') (Nat.le_max_left n n') h1];exact Xz (Nat.le_max_right L L') (Nat.le_max_right n n') h3
 |exit i=>exact⟨L,n,_,T1,st1,by show Zv (codeF P G _ N _ a T st) (codeF P G _ N _ b)=_;rw[h1];rfl,h2⟩
 |ret=>exact⟨L,n,_,T1,st1,by show Zv (codeF P G _ N _ a T st) (codeF P G _ N _ b)=_;rw[h1];rfl,h2⟩
theorem Kg{g:Operand}{a b:Code}{t:Bool}(hg:QI G T g=some (.bool t))(ha:t=true→W P G N a Q T st)(hb:t=false→W P G N b Q T st):W P G N (.cond g a b) Q T st:=by
 cases t with
 |true=>
  obtain⟨L,n,x,T',st',h1,h2⟩:=ha rfl;exact⟨L,n,x,T',st',by show L8 (QI G T g) _ _=_;rw[hg];exact h1,h2⟩
 |false=>
  obtain⟨L,n,x,T',st',h1,h2⟩:=hb rfl;exact⟨L,n,x,T',st',by show L8 (QI G T g) _ _=_;rw[hg];exact h1,h2⟩
theorem ze(h:W P G N c (Ba id Q) T st):W P G N (.block id c) Q T st:=by
 obtain⟨L,n,x,T',st',h1,h2⟩:=h;have e:codeF P G (Jf P G L n) N L (.block id c) T st=H8 id (codeF P G (Jf P G L n) N L c T st):=rfl;rw[h1]at e
 cases x with
 |nor=>exact⟨L,n,_,T',st',e,h2⟩
 |ret=>exact⟨L,n,_,T',st',e,h2⟩
 |exit i=>
  by_cases hi:i=id
  ·subst hi;have h2:(if i=i then Q .nor else Q (.exit i)) T' st':=h2;rw[if_pos rfl]at h2;refine⟨L,n,.nor,T',st',?_,h2⟩;rw[e];show Qj (Nat.beq i i) _ _=_;rw[Nat.beq_refl];rfl
  ·have h2:(if i=id then Q .nor else Q (.exit i)) T' st':=h2;rw[if_neg hi]at h2;refine⟨L,n,.exit i,T',st',?_,h2⟩;rw[e];show Qj (Nat.beq i id) _ _=_
   have:Nat.beq i id=false:=by
    cases hb:Nat.beq i id with
    |false=>rfl
    |true=>exact absurd (Nat.eq_of_beq_eq_true hb) hi
   rw[this];rfl
theorem Uo(h:W P G N c (Ki (W P G N (.loop c) Q) Q) T st):W P G N (.loop c) Q T st:=by
 obtain⟨L,n,x,T1,st1,h1,h2⟩:=h;have e: ∀L n,codeF P G (Jf P G (L+1) n) N (L+1) (.loop c) T st=Zv (codeF P G (Jf P G (L+1) n) N (L+1) c T st) (Fx L (codeF P G (Jf P G (L+1) n) N (L+1) c)):=fun _ _=>rfl
 cases x with
 |nor=>
  obtain⟨L',n',y,T2,st2,h3,h4⟩:=h2;refine⟨max L L'+1,max n n',y,T2,st2,?_,h4⟩;rw[e,Xz (Nat.le_succ_of_le (Nat.le_max_left L L')) (Nat.le_max_left n n') h1];have h3:Fx L' (codeF P G (Jf P G L' n') N L' c) T1 st1=some (y,T2,st2):=h3;exact KW (fun T st r h=>Xz (Nat.le_succ_of_le (Nat.le_max_right L L')) (Nat.le_max_right n n') h) L' (max L L') (Nat.le_max_right _ _) T1 st1 _ h3
 |exit i=>exact⟨L+1,n,_,T1,st1,by rw[e,Xz (Nat.le_succ L) (Nat.le_refl n) h1];rfl,h2⟩
 |ret=>exact⟨L+1,n,_,T1,st1,by rw[e,Xz (Nat.le_succ L) (Nat.le_refl n) h1];rfl,h2⟩
theorem Jc(I:Nat→Tr AV→St→Prop)(hstep: ∀n T st,I n T st→W P G N c (Ki (fun T' st'=> ∃m,m<n∧I m T' st') Q) T st): ∀n T st,I n T st→W P G N (.loop c) Q T st:=by
 intro n
 induction n using Nat.strongRecOn with
 |_ n ih=>
  intro T st h;refine Uo (ML (hstep n T st h) fun x T' st' hx=>?_)
  cases x with
  |nor=>
   obtain⟨m,hm,hI⟩:=hx;exact ih m hm T' st' hI
  |exit i=>exact hx
  |ret=>exact hx
theorem MK{ops:Array Oper}(h:WR P G N ops.toList ops.toList (Q .nor) T st):W P G N (.region id ops false) Q T st:=by
 obtain⟨L,n,T',st',h1,h2⟩:=h;refine⟨L,n,.nor,T',st',?_,h2⟩;show(ob (WK P G _ N ops.toList ops.toList T st) fun r=>some (Ex.nor,r))=_;rw[h1];rfl
theorem wv{ops:Array Oper}{pl:List (Nat×Oper×Nat)}(hp:Zh P ops.toList=some pl)(h:WD P G N ops.toList pl (Q .nor) T st [st]):W P G N (.region id ops true) Q T st:=by
 obtain⟨L,n,T',st',h1,h2⟩:=h;refine⟨L,n,.nor,T',st',?_,h2⟩;show(ob (Zh P ops.toList) fun pl=>ob (XO P G _ N ops.toList pl T st [st]) fun r=>some (Ex.nor,r))=_;rw[hp,Qf,h1];rfl

def QG(K:List (Nat×AV))(T:Tr AV):Prop:= ∀t v,K.lookup t=some v→Up T t=v
theorem QG.set{K:List (Nat×AV)}{T:Tr AV}(h:QG K T)(d:Nat)(v:AV):QG ((d,v)::K) (T.set d v):=by
 intro t u hl;rw[UI]
 by_cases ht:t=d
 ·subst ht;rw[List.lookup_cons,beq_self_eq_true]at hl
  injection hl with hl
  rw[if_pos rfl,hl]
 ·rw[List.lookup_cons,beq_false_of_ne ht]at hl;rw[if_neg ht];exact h t u hl
theorem QG.nil{T:Tr AV}:QG [] T:=fun t v h=>(by cases h)
theorem QG.cons{K:List (Nat×AV)}{T:Tr AV}{d:Nat}(hd:Up T d=v)(h:QG K T):QG ((d,v)::K) T:=by
 intro t u hl
 by_cases ht:t=d
 ·subst ht;rw[List.lookup_cons,beq_self_eq_true]at hl
  injection hl with hl
  rw[←hl];exact hd
 ·rw[List.lookup_cons,beq_false_of_ne ht]at hl;exact h t u hl
noncomputable def QE(G:Env)(K:List (Nat×AV))(x:Operand):Option AV:=match x with
 |.tmp t=>K.lookup t
 |.const v=>ofConst v
 |.global g=>Q4 (G.g g) (some (.ptr g 0 0))
 |.func f=>some (.fn f [] [])
theorem QG.sub{K L:List (Nat×AV)}{T:Tr AV}(h:QG K T)(e:L.map (fun p=>K.lookup p.1)=L.map fun p=>some p.2):QG L T:=by
 induction L with
 |nil=>exact .nil
 |cons p L ih=>
  injection e with e1 e2
  exact .cons (h _ _ e1) (ih e2)
theorem yT{p:Prop} [Decidable p](h:(!decide p)=false):p:=by simpa using h
theorem yF{p:Prop} [Decidable p](h:(!decide p)=true): ¬p:=by simpa using h
theorem QG.QI{K:List (Nat×AV)}{T:Tr AV}(h:QG K T){x:Operand}{v:AV}(hx:QE G K x=some v):QI G T x=some v:=by
 cases x with
 |tmp t=>exact congrArg some (h t v hx)
 |const c=>exact hx
 |global g=>exact hx
 |func f=>exact hx
theorem QG.row{K:List (Nat×AV)}{T:Tr AV}(h:QG K T): ∀(l:List Operand) (vs:List AV),J7 (QE G K) l=some vs→J7 (Proofs.YtildagdnomiahaaGreatDoor.QI G T) l=some vs:=by
 intro l
 induction l with
 |nil=>intro vs hv;exact hv
 |cons x l ih=>
  intro vs hv;rw[Jo]at hv ⊢;obtain⟨b,hb,hv⟩:=Qk hv;obtain⟨t,ht,hv⟩:=Qk hv;rw[h.QI hb,Qf,ih t ht,Qf];exact hv
def Uk(P:Program)(G:Env)(K:List (Nat×AV))(op:Op)(st:St)(v:AV)(st1:St):Prop:= ∀T,QG K T→ ∀(d:Option Tmp) (ty:TypeId) (pos:String) (af:Array Edge) (g:Option (Nat×Bool)),∃L n,∀L' n',L≤L'→n≤n'→HX P (QI G T) (Jf P G L' n') ⟨d,op,ty,pos,af,g⟩ st=some (v,st1)
section ops
variable {ops rest:List Oper} {K:List (Nat×AV)} {R:Tr AV→St→Prop}
theorem wm(h:R T st):WR P G N ops [] R T st:=⟨0,0,T,st,rfl,h⟩
theorem OI{o:Oper}(hw:QQ ops o T=true)(h: ∃L n,∀L' n',L≤L'→n≤n'→HX P (QI G T) (Jf P G L' n') o st=some (v,st1))(hd: ∀d,o.dst=some d→d<N)
  (hn:WR P G N ops rest R (match o.dst with|some d=>T.set d v|none=>T) st1):WR P G N ops (o::rest) R T st:=by
 obtain⟨L,n,h⟩:=h;obtain⟨L',n',T',st',h1,h2⟩:=hn;refine⟨max L L',max n n',T',st',?_,h2⟩;show(ob (Js P G _ ops o T st) fun r=>Yk N o.dst r.1 T fun T=>tl (WK P G _ N ops rest T r.2))=_
 have e:Js P G (Jf P G (max L L') (max n n')) ops o T st=some (v,st1):=by
  unfold Js;rw[hw,Qs];exact h _ _ (Nat.le_max_left _ _) (Nat.le_max_left _ _)
 rw[e,Qf];have h1':=NT (Z8 n' (max n n') L' (max L L') (Nat.le_max_right _ _) (Nat.le_max_right _ _)) _ _ _ _ h1
 cases hdst:o.dst with
 |none=>rw[hdst]at h1';exact h1'
 |some d=>
  rw[hdst]at h1';show Q4 (Nat.ble (d+1) N) (T.put d v _)=_;rw[Nat.ble_eq_true_of_le (hd d hdst),Tr.put_eq];exact h1'
theorem Wv{d:Nat}{op:Op}{ty:TypeId}{pos:String}{af:Array Edge}(hK:QG K T)(h:Uk P G K op st v st1)(hN:d<N)(hn: ∀T',QG ((d,v)::K) T'→WR P G N ops rest R T' st1):
  WR P G N ops (⟨some d,op,ty,pos,af,none⟩::rest) R T st:=
 OI rfl (h T hK _ _ _ _ _) (fun e he=>by injection he with he;rw[←he];exact hN) (hn _ (hK.set d v))
theorem Rr{op:Op}{ty:TypeId}{pos:String}{af:Array Edge}(hK:QG K T)(h:Uk P G K op st v st1)(hn:WR P G N ops rest R T st1):
  WR P G N ops (⟨none,op,ty,pos,af,none⟩::rest) R T st:=
 OI rfl (h T hK _ _ _ _ _) (fun e he=>by cases he) hn
end ops
end
section
open Go
variable {a b:Int} {f:FuncId} {k:IntKind} {l:List AV} {st1:St} {t yt:TypeId} {u v:AV} {x y:Operand}

variable {P:Program} {G:Env} {K:List (Nat×AV)} {st:St}
theorem Uk.of{op:Op}(h: ∀T,QG K T→ ∀(c:JI) (d:Option Tmp) (ty:TypeId) (pos:String) (af:Array Edge) (g:Option (Nat×Bool)),HX P (QI G T) c ⟨d,op,ty,pos,af,g⟩ st=some (v,st1)):Uk P G K op st v st1:=
 fun T hT d ty pos af g=>⟨0,0,fun _ _ _ _=>h T hT _ d ty pos af g⟩
theorem Q8(hx:QE G K x=some v):Uk P G K (.move x) st v st:=.of fun T hT c d ty pos af g=>by
 show ret (QI G T x) st=_;rw[hT.QI hx];rfl
theorem Ys(hx:QE G K x=some v):Uk P G K (.assign x) st v st:=.of fun T hT c d ty pos af g=>by
 show ret (QI G T x) st=_;rw[hT.QI hx];rfl
theorem zO{a b:Operand}{t:Bool}(hx:QE G K x=some (.bool t))(ha:QE G K a=some u)(hb:QE G K b=some v):Uk P G K (.pick x a b) st (Qj t u v) st:=.of fun T hT c d ty pos af g=>by
 show(ob (QI G T x) fun c=>(match c with
  |.bool t=>ret (Qj t (QI G T a) (QI G T b)) st
  |_=>none))=_
 rw[hT.QI hx,Qf];show ret (Qj t (QI G T a) (QI G T b)) st=_;rw[hT.QI ha,hT.QI hb]
 cases t<;>rfl
theorem U5{op:BinOp}{w:AV}(hx:QE G K x=some u)(hy:QE G K y=some w)(h:b2 P op t u w=some v):Uk P G K (.binOp op t x y yt) st v st:=.of fun T hT c d ty pos af g=>by
 show ret (ob (QI G T x) fun x=>ob (QI G T y) fun y=>b2 P op t x y) st=_;rw[hT.QI hx,hT.QI hy,Qf,Qf,h];rfl
theorem VN(k:IntKind):I8 k k=true:=decide_eq_true rfl
theorem XL{op:BinOp}(h1:op≠ .shl)(h2:op≠ .shr):b2 P op t (.int k a) (.int k b)=wa op k a b:=by
 cases op<;>first
  |exact absurd rfl h1
  |exact absurd rfl h2
  |(show Q4 (I8 k k) _=_;rw[VN];rfl)
theorem wY(hx:QE G K x=some (.int k a))(hy:QE G K y=some (.int k b)):Uk P G K (.binOp .lss t x y yt) st (.bool (decide (a<b))) st:=
 U5 hx hy (by rw[XL QA QA];show some (AV.bool (LX a b))=_;rw[Y0])
theorem ec(hx:QE G K x=some (.int k a))(hy:QE G K y=some (.int k b)):Uk P G K (.binOp .gtr t x y yt) st (.bool (decide (b<a))) st:=
 U5 hx hy (by rw[XL QA QA];show some (AV.bool (LX b a))=_;rw[Y0])
theorem KM(a b:Int):(!decide (a<b))=decide (b≤a):=by
 by_cases h:a<b
 ·rw[decide_eq_true h,decide_eq_false Qe];rfl
 ·rw[decide_eq_false h,decide_eq_true Qe];rfl
theorem wZ(hx:QE G K x=some (.int k a))(hy:QE G K y=some (.int k b)):Uk P G K (.binOp .leq t x y yt) st (.bool (decide (a≤b))) st:=
 U5 hx hy (by rw[XL QA QA];show some (AV.bool (!LX b a))=_;rw[Y0,KM])
theorem ee(hx:QE G K x=some (.int k a))(hy:QE G K y=some (.int k b)):Uk P G K (.binOp .geq t x y yt) st (.bool (decide (b≤a))) st:=
 U5 hx hy (by rw[XL QA QA];show some (AV.bool (!LX a b))=_;rw[Y0,KM])
theorem Ye(a b:Int):A5 a b=decide (a=b):=by rw[YL];exact Bool.beq_eq_decide_eq a b
theorem jb(hx:QE G K x=some (.int k a))(hy:QE G K y=some (.int k b)):Uk P G K (.binOp .eql t x y yt) st (.bool (decide (a=b))) st:=
 U5 hx hy (by rw[XL QA QA];show some (AV.bool (A5 a b))=_;rw[Ye])
theorem qZ(hx:QE G K x=some (.int k a))(hy:QE G K y=some (.int k b)):Uk P G K (.binOp .neq t x y yt) st (.bool (!decide (a=b))) st:=
 U5 hx hy (by rw[XL QA QA];show some (AV.bool (!A5 a b))=_;rw[Ye])
theorem wrap64{n:Int}(h1: -9223372036854775808≤n)(h2:n≤9223372036854775807):IntKind.i64.wrap n=n:=IntWalk.i64_in n Qe
theorem ef(hx:QE G K x=some (.int .i64 a))(hy:QE G K y=some (.int .i64 b))(h1: -9223372036854775808≤a+b)(h2:a+b≤9223372036854775807):Uk P G K (.binOp .add t x y yt) st (.int .i64 (a+b)) st:=
 U5 hx hy (by rw[XL QA QA];show Xl (Xe .i64 (a+b)) (fun z=>some (AV.int .i64 z))=_;rw[UE,JX,wrap64 h1 h2])
theorem qW(hx:QE G K x=some (.int .i64 a))(hy:QE G K y=some (.int .i64 b))(h1: -9223372036854775808≤a-b)(h2:a-b≤9223372036854775807):Uk P G K (.binOp .sub t x y yt) st (.int .i64 (a-b)) st:=
 U5 hx hy (by rw[XL QA QA];show Xl (Xe .i64 (a-b)) (fun z=>some (AV.int .i64 z))=_;rw[UE,JX,wrap64 h1 h2])
theorem JF{a b:List Nat}(hx:QE G K x=some (.str a))(hy:QE G K y=some (.str b)):Uk P G K (.binOp .eql t x y yt) st (.bool (decide (a=b))) st:=
 U5 hx hy (by show some (AV.bool (Ot a b))=_;rw[Zm])
theorem Gx{a b:List Nat}(hx:QE G K x=some (.str a))(hy:QE G K y=some (.str b)):Uk P G K (.binOp .neq t x y yt) st (.bool (!decide (a=b))) st:=
 U5 hx hy (by show some (AV.bool (!Ot a b))=_;rw[Zm])
theorem qY{b:Bool}(hx:QE G K x=some (.bool b)):Uk P G K (.unOp .not t x) st (.bool (!b)) st:=.of fun T hT c d ty pos af g=>by
 show ret (ob (QI G T x) fun x=>iK .not x) st=_;rw[hT.QI hx];rfl
theorem wW(hx:QE G K x=some v)(hv:(match v with|.ptr _ _ _=>true|.fn _ _ _=>true|_=>false)=true):Uk P G K (.nilCheck x) st v st:=.of fun T hT c d ty pos af g=>by
 show ret (ob (QI G T x) fun v=>(match v with
  |.ptr c m off=>some (.ptr c m off)
  |.fn f a c=>some (.fn f a c)
  |_=>none)) st=_
 rw[hT.QI hx,Qf]
 cases v<;>first|rfl|cases hv
theorem Ur{f c m off o:Nat}(ho:Q5 P t f=some o)(hx:QE G K x=some (.ptr c m off)):Uk P G K (.fieldAddr t x f) st (.ptr c m (off+o)) st:=.of fun T hT cc d ty pos af g=>by
 show ret (ob (QI G T x) fun x=>Z6 P t x f) st=_;rw[hT.QI hx,Qf];show ret (ob (Q5 P t f) fun o=>JA (off+o) fun z=>some (AV.ptr c m z)) st=_;rw[ho,Qf,QC];rfl
theorem X7{f:Nat}(hx:QE G K x=some u)(h:Hz P t u f=some v):Uk P G K (.field t x f) st v st:=.of fun T hT cc d ty pos af g=>by
 show ret (ob (QI G T x) fun x=>Hz P t x f) st=_;rw[hT.QI hx,Qf,h];rfl
theorem Pu{i:Nat}(hx:QE G K x=some (.tup l))(h:nth l i=some v):Uk P G K (.extract x i) st v st:=.of fun T hT cc d ty pos af g=>by
 show ret (ob (QI G T x) fun v=>(match v with
  |.tup l=>nth l i
  |_=>none)) st=_
 rw[hT.QI hx,Qf];show ret (nth l i) st=_;rw[h];rfl
theorem Qv{i:Operand}{c m off len z z':Nat}{j:Nat}(he:JP P t=some z)(hx:QE G K x=some (.sl c m off len z'))(hi:QE G K i=some (.int k (j:Int)))(hj:j<len):
  Uk P G K (.indexAddr t x i) st (.ptr c m (off+j *z)) st:=.of fun T hT cc d ty pos af g=>by
 show ret (ob (QI G T x) fun x=>ob (QI G T i) fun i=>J3 P t x i) st=_;rw[hT.QI hx,hT.QI hi,Qf,Qf];show ret (ob (B7 (j:Int)) fun i=>Q4 (Nat.ble (i+1) len) (ob (JP P t) fun z=>JA (off+i *z) fun o=>some (AV.ptr c m o))) st=_;show ret (Q4 (Nat.ble (j+1) len) (ob (JP P t) fun z=>JA (off+j *z) fun o=>some (AV.ptr c m o))) st=_;rw[Nat.ble_eq_true_of_le hj,he];show ret (JA (off+j *z) fun o=>some (AV.ptr c m o)) st=_;rw[QC];rfl
theorem TQ{e:TypeId}(ht:P.underlying t=some (.slice e)):YK P [t]=false:=by unfold YK;simp only[ht]
def JZ:AV→Option Nat
 |.nils=>some 0
 |.slz _ _ _ _ _=>some 0
 |.sl0 _ _ _=>some 0
 |.sl _ _ _ n _=>some n
 |_=>none
theorem Q7{tys:Array TypeId}{e:TypeId}{n:Nat}(ht:P.underlying t=some (.slice e))(htys:tys= #[t])(hx:QE G K x=some u)(hn:JZ u=some n):
  Uk P G K (.call {callee:=.builtin .len,args:= #[x],argTypes:=tys}) st (.int .i64 (n:Int)) st:=.of fun T hT cc d ty pos af g=>by
 subst htys;show Qj (YK P [t]) _ (ret (ob (QI G T x) fun x=>Iv P [t] x) st)=_;rw[TQ ht,Qp,hT.QI hx,Qf]
 cases u<;>simp only[JZ]at hn<;>first|(cases hn;done)|skip
 all_goals
  injection hn with hn
  subst hn;unfold Iv;simp only[ht];rfl
theorem Qg{args:Array Operand}{tys:Array TypeId}(ha:J7 (QE G K) args.toList=some l)(h:Ev P G f l st v st1):
  Uk P G K (.call {callee:=.value (.func f),args:=args,argTypes:=tys}) st v st1:=fun T hT d ty pos af g=>by
 obtain⟨L,n,h⟩:=h;refine⟨L,n,fun L' n' hL hn=>?_⟩
 show(ob (QI G T (.func f)) fun v=>(match v with
  |.fn fid a cap=>ob (J7 (QI G T) args.toList) fun l=>Jf P G L' n' fid (UY a (UY l cap)) st
  |_=>none))=_
 show(ob (J7 (QI G T) args.toList) fun l=>Jf P G L' n' f (UY [] (UY l [])) st)=_;rw[hT.row _ _ ha,Qf,J9,J9,List.nil_append,List.append_nil];exact Z8 n n' L L' hn hL _ _ _ _ h
theorem Zj{g:Operand}{args:Array Operand}{tys:Array TypeId}{a cap:List AV}(hg:QE G K g=some (.fn f a cap))(ha:J7 (QE G K) args.toList=some l)(h:Ev P G f (a++(l++cap)) st v st1):
  Uk P G K (.call {callee:=.value g,args:=args,argTypes:=tys}) st v st1:=fun T hT d ty pos af gg=>by
 obtain⟨L,n,h⟩:=h;refine⟨L,n,fun L' n' hL hn=>?_⟩
 show(ob (QI G T g) fun v=>(match v with
  |.fn fid a cap=>ob (J7 (QI G T) args.toList) fun l=>Jf P G L' n' fid (UY a (UY l cap)) st
  |_=>none))=_
 rw[hT.QI hg,Qf];show(ob (J7 (QI G T) args.toList) fun l=>Jf P G L' n' f (UY a (UY l cap)) st)=_;rw[hT.row _ _ ha,Qf,J9,J9];exact Z8 n n' L L' hn hL _ _ _ _ h
theorem Yr{first cap:Array Operand}{a c:List AV}(ha:J7 (QE G K) first.toList=some a)(hc:J7 (QE G K) cap.toList=some c):Uk P G K (.makeFunc (.func f) first cap) st (.fn f a c) st:=.of fun T hT cc d ty pos af g=>by
 show ret (ob (J7 (QI G T) first.toList) fun l=>ob (J7 (QI G T) cap.toList) fun r=>some (AV.fn f l r)) st=_;rw[hT.row _ _ ha,hT.row _ _ hc];rfl
theorem Qi(hx:QE G K x=some u)(h:QD P t u st.h.get=some v):Uk P G K (.load t x) st v st:=.of fun T hT cc d ty pos af g=>by
 show(ob (QI G T x) fun x=>ret (QD P t x st.h.get) st)=_;rw[hT.QI hx,Qf,h];rfl
theorem vS{fn:Func}{c:Code}{N:Nat}{rs:List ResultVar}{args:List AV}{Q:AV→St→Prop}(hs:G.s f=none)(hf:P.funcs[f]? =some fn)(hb:fn.body=some c)(hN:fn.ntmps=N)(hr:fn.results.toList=rs)(hname:(fn.name== "runtime.NumGoroutine")=false)(hl:args.length≤N)
  (h: ∀T,(∀t,Up T t=(args[t]?).getD (.tup []))→W P G N c (fun x T st=>(x=.nor∨x=.ret)∧ ∃v,QM P rs T st=some v∧Q v st) T st): ∃v st',Ev P G f args st v st'∧Q v st':=by
 obtain⟨T,hT1,hT2⟩:=O8 args;obtain⟨L,n,x,T',st',h1,hx,v,h2,h3⟩:=h T hT2;refine⟨v,st',⟨L,n+1,?_⟩,h3⟩;show(Option.rec (ob (FC P f) fun q=>Q4 (Nat.ble (UM args) q.2.1) (En args fun T=>H4 (codeF P G (Jf P G L n) q.2.1 L q.1 T st) fun T st=>ob (QM P q.2.2 T st) fun v=>some (v,st))) (fun sm=>sm args st) (G.s f):Option (AV×St))=some (v,st');rw[hs];show(ob (FC P f) fun q=>Q4 (Nat.ble (UM args) q.2.1) (En args fun T=>H4 (codeF P G (Jf P G L n) q.2.1 L q.1 T st) fun T st=>ob (QM P q.2.2 T st) fun v=>some (v,st)))=some (v,st')
 have hfn:FC P f=some (c,N,rs):=by
  unfold FC;rw[hf];simp only[hb,hname,hN,hr];rfl
 rw[hfn,Qf,J8,Nat.ble_eq_true_of_le hl,hT1,Q6];show H4 (codeF P G (Jf P G L n) N L c T st) _=_;rw[h1];rcases hx with rfl|rfl
 ·show ob (QM P rs T' st') _=_;rw[h2];rfl
 ·show ob (QM P rs T' st') _=_;rw[h2];rfl
end
section
open Go
variable {af:Array Edge} {c k m n off:Nat} {l l':List AV} {pos:String} {t ty:TypeId} {v:AV}

structure Mem(h0:Hp)(n0:Nat)(X:List Nat)(st:St)(M:List (Nat×Nat×List AV)):Prop where
 fresh:Qh st
 le:n0≤st.n
 base: ∀c,n0≤c→h0 c=none
 row: ∀c m l,(c,m,l)∈M→ ∃vs ms,st.h.get c=some (.row false ms)∧ms[m]? =some (l.length,vs,some l)
 lt: ∀c m l,(c,m,l)∈M→c<st.n
 own: ∀c m l,(c,m,l)∈M→n0≤c∨c∈X
 nodup:(M.map Prod.fst).Nodup
 Jx: ∀c,c<n0→c∉X→st.h.get c=h0 c
structure Qt(st st':St):Prop where
 fresh:Qh st'
 le:st.n≤st'.n
 Jx: ∀c,c<st.n→st'.h.get c=st.h.get c
theorem Qt.trans{a b c:St}(x:Qt a b)(y:Qt b c):Qt a c:=⟨y.fresh,Nat.le_trans x.le y.le,fun k hk=>by rw[y.Jx k (Nat.lt_of_lt_of_le hk x.le),x.Jx k hk]⟩
theorem Mem.start{st:St}(h:Qh st):Mem st.h.get st.n [] st []:=
 ⟨h,Nat.le_refl _,h,fun c m l h=>(by cases h),fun c m l h=>(by cases h),fun c m l h=>(by cases h),List.nodup_nil,fun _ _ _=>rfl⟩
section
variable {P:Program} {G:Env} {N:Nat} {h0:Hp} {n0:Nat} {X:List Nat} {st:St} {M:List (Nat×Nat×List AV)}
theorem Mem.qt{st0:St}(h:Mem st0.h.get st0.n [] st M):Qt st0 st:=⟨h.fresh,h.le,fun c hc=>h.Jx c hc Q0⟩
theorem Mem.less(h:Mem h0 n0 X st M){M':List (Nat×Nat×List AV)}(hs:M'.Sublist M):Mem h0 n0 X st M':=
 ⟨h.fresh,h.le,h.base,fun c m l hm=>h.row c m l (hs.subset hm),fun c m l hm=>h.lt c m l (hs.subset hm),fun c m l hm=>h.own c m l (hs.subset hm),h.nodup.sublist (hs.map _),h.Jx⟩
theorem Mem.quiet(h:Mem h0 n0 X st M){st':St}(q:Qt st st'):Mem h0 n0 X st' M:=
 ⟨q.fresh,Nat.le_trans h.le q.le,h.base,fun c m l hm=>by
  obtain⟨vs,ms,h1,h2⟩:=h.row c m l hm
  exact⟨vs,ms,by rw[q.Jx c (h.lt c m l hm)];exact h1,h2⟩,fun c m l hm=>Nat.lt_of_lt_of_le (h.lt c m l hm) q.le,h.own,h.nodup,fun c hc hx=>by rw[q.Jx c (Nat.lt_of_lt_of_le hc h.le)];exact h.Jx c hc hx⟩
theorem Mem.alloc(h:Mem h0 n0 X st M)(l:List AV):Mem h0 n0 X ⟨st.n+1,st.h.set st.n (.row false [(l.length,0,some l)])⟩ ((st.n,0,l)::M):=by
 have hg: ∀c,(st.h.set st.n (.row false [(l.length,0,some l)])).get c=if c=st.n then some (.row false [(l.length,0,some l)])else st.h.get c:=fun c=>Tr.ZD _ _ _ _
 refine⟨fun c hc=>?_,Nat.le_succ_of_le h.le,h.base,fun c m l' hm=>?_,fun c m l' hm=>?_,fun c m l' hm=>?_,?_,fun c hc hx=>?_⟩
 ·have hc:st.n+1≤c:=hc;show(st.h.set st.n _).get c=none;rw[hg,if_neg Qe];exact h.fresh c Qe
 ·rcases List.mem_cons.1 hm with e|hm
  ·injection e with e1 e2
   injection e2 with e2 e3
   subst e1 e2 e3;exact⟨0,_,(hg _).trans (if_pos rfl),rfl⟩
  ·obtain⟨vs,ms,h1,h2⟩:=h.row c m l' hm;have:=h.lt c m l' hm;exact⟨vs,ms,by show(st.h.set st.n _).get c=_;rw[hg,if_neg Qe];exact h1,h2⟩
 ·rcases List.mem_cons.1 hm with e|hm
  ·injection e with e1 e2;subst e1;exact Nat.lt_succ_self _
  ·exact Nat.lt_succ_of_lt (h.lt c m l' hm)
 ·rcases List.mem_cons.1 hm with e|hm
  ·injection e with e1 e2;subst e1;exact .inl h.le
  ·exact h.own c m l' hm
 ·rw[List.map_cons];refine List.nodup_cons.2 ⟨fun hm=>?_,h.nodup⟩;obtain⟨⟨c,m,l'⟩,h1,h2⟩:=List.mem_map.1 hm;have:=h.lt c m l' h1;simp only at h2;omega
 ·show(st.h.set st.n _).get c=_;have:=h.le;rw[hg,if_neg Qe];exact h.Jx c hc hx
theorem BP{M:List (Nat×Nat×List AV)}(hk:M[k]? =some (c,m,l)):(M.set k (c,m,l')).map Prod.fst=M.map Prod.fst:=by
 apply List.ext_getElem?;intro i;rw[List.getElem?_map,List.getElem?_map,List.getElem?_set]
 by_cases h:k=i
 ·subst h;rw[if_pos rfl,hk];have:=(List.getElem?_eq_some_iff.1 hk).1;simp[this]
 ·rw[if_neg h]
theorem WN{M:List (Nat×Nat×List AV)}(hk:M[k]? =some (c,m,l))(hn:(M.map Prod.fst).Nodup){x:Nat×Nat×List AV}(hx:x∈M.set k (c,m,l')):
  x=(c,m,l')∨(x∈M∧x.1≠c):=by
 obtain⟨i,hi⟩:=List.getElem?_of_mem hx;rw[List.getElem?_set]at hi
 by_cases h:k=i
 ·subst h;have:=(List.getElem?_eq_some_iff.1 hk).1;simp[this]at hi;exact .inl hi.symm
 ·rw[if_neg h]at hi;refine .inr ⟨List.mem_of_getElem? hi,fun e=>h ?_⟩
  have h1:(M.map Prod.fst)[k]? =some c:=by rw[List.getElem?_map,hk];rfl
  have h2:(M.map Prod.fst)[i]? =some c:=by rw[List.getElem?_map,hi];simp[e]
  exact(List.getElem?_inj (List.getElem?_eq_some_iff.1 h1).1 hn).1 (h1.trans h2.symm)
theorem Mem.store(h:Mem h0 n0 X st M){w:AV}(hk:M[k]? =some (c,m,l))(hz:Yb P t=some n)(hn:(QJ w).length=n)(hc:Xu Qw (QJ w)=true)(ho:Yw (QJ w) off l=some l'):
  ∃st1,Wd P t (.ptr c m off) w st=some (.tup [],st1)∧Mem h0 n0 X st1 (M.set k (c,m,l'))∧st1.n=st.n:=by
 have hm:=List.mem_of_getElem? hk;obtain⟨vs,ms,h1,h2⟩:=h.row c m l hm;have hlen:l'.length=l.length:=(X6 _ _ _ _ ho).2.1
 have hr:rowOf st.h.get c m=some (l.length,vs,l,false,ms):=by
  unfold rowOf;rw[h1,Qf];show ob (nth ms m) _=_;rw[JO,h2];rfl
 have e: ∃ms',Wd P t (.ptr c m off) w st=some (.tup [],⟨st.n,st.h.set c (.row false ms')⟩)∧ms'[m]? =some (l.length,vs,some l'):=by
  unfold Wd;simp only[hr,Qf,hz,J8,hn,Nat.beq_refl,Q6,hc,ho,Bool.not_false];refine⟨wF (l.length,vs,some l') (YJ (vs+off) (vs+off+n) ms) m,by rw[Ju,Ju,JY],?_⟩;rw[R1,List.getElem?_set_self];rw[Jg];exact(List.getElem?_eq_some_iff.1 h2).1
 obtain⟨ms',e1,e2⟩:=e
 have hg: ∀x,(st.h.set c (.row false ms')).get x=if x=c then some (.row false ms')else st.h.get x:=fun x=>Tr.ZD _ _ _ _
 refine⟨_,e1,⟨fun x hx=>?_,h.le,h.base,fun x y z hm'=>?_,fun x y z hm'=>?_,fun x y z hm'=>?_,?_,fun x hx hX=>?_⟩,rfl⟩
 ·show(st.h.set c _).get x=none;have:=h.lt c m l hm;have hx:st.n≤x:=hx;rw[hg,if_neg Qe];exact h.fresh x hx
 ·rcases WN hk h.nodup hm' with e|⟨h3,h4⟩
  ·injection e with e1 e2
   injection e2 with e2 e3
   subst e1 e2 e3;exact⟨vs,ms',(hg _).trans (if_pos rfl),by rw[hlen];exact e2⟩
  ·obtain⟨vs',ms2,h5,h6⟩:=h.row x y z h3;exact⟨vs',ms2,by show(st.h.set c _).get x=_;rw[hg,if_neg h4];exact h5,h6⟩
 ·rcases WN hk h.nodup hm' with e|⟨h3,h4⟩
  ·injection e with e1 e2;subst e1;exact h.lt _ m l hm
  ·exact h.lt x y z h3
 ·rcases WN hk h.nodup hm' with e|⟨h3,h4⟩
  ·injection e with e1 e2;subst e1;exact h.own _ m l hm
  ·exact h.own x y z h3
 ·rw[BP hk];exact h.nodup
 ·show(st.h.set c _).get x=_
  have hxc:x≠c:=fun e=>by
   subst e;rcases h.own x m l hm with h5|h5
   ·omega
   ·exact hX h5
  rw[hg,if_neg hxc];exact h.Jx x hx hX
theorem Mem.load(h:Mem h0 n0 X st M)(hk:M[k]? =some (c,m,l))(hp:Y4 P t l off=some v):QD P t (.ptr c m off) st.h.get=some v:=by
 obtain⟨vs,ms,h1,h2⟩:=h.row c m l (List.mem_of_getElem? hk);show ob (rowOf st.h.get c m) _=_;unfold rowOf;rw[h1,Qf];show ob (ob (nth ms m) _) _=_;rw[JO,h2];exact hp

variable {ops rest:List Oper} {K:List (Nat×AV)} {R:Tr AV→St→Prop} {T:Tr AV}
theorem Bu{d:Nat}(hK:QG K T)(hM:Mem h0 n0 X st M)(hz:zeroOf P t=some l)(hN:d<N)
  (hn: ∀(c:Nat) T' st',QG ((d,.ptr c 0 0)::K) T'→Mem h0 n0 X st' ((c,0,l)::M)→WR P G N ops rest R T' st'):WR P G N ops (⟨some d,.alloc t,ty,pos,af,none⟩::rest) R T st:=by
 refine Wv (v:=.ptr st.n 0 0) (st1:=⟨st.n+1,st.h.set st.n (.row false [(l.length,0,some l)])⟩) hK (.of fun T hT c d ty pos af g=>?_) hN fun T' hT'=>hn st.n T' _ hT' (hM.alloc l);show Wt P t st=_;unfold Wt;rw[hz,Qf,Um]
theorem Uj{d:Nat}{x:Operand}(hK:QG K T)(hM:Mem h0 n0 X st M)(hx:QE G K x=some v)(hc:Xu Qw (QJ v)=true)(hN:d<N)
  (hn: ∀(c:Nat) T' st',QG ((d,.ptr c 0 0)::K) T'→Mem h0 n0 X st' ((c,0,QJ v)::M)→WR P G N ops rest R T' st'):WR P G N ops (⟨some d,.box t x,ty,pos,af,none⟩::rest) R T st:=by
 refine Wv (v:=.ptr st.n 0 0) (st1:=⟨st.n+1,st.h.set st.n (.row false [((QJ v).length,0,some (QJ v))])⟩) hK (.of fun T hT c d ty pos af g=>?_) hN fun T' hT'=>hn st.n T' _ hT' (hM.alloc _);show(ob (QI G T x) fun x=>Ra x st)=_;rw[hT.QI hx,Qf];unfold Ra;rw[hc,Q6,Um]
theorem Yf{x y:Operand}{w:AV}(hK:QG K T)(hM:Mem h0 n0 X st M)(hx:QE G K x=some (.ptr c m off))(hy:QE G K y=some w)(hk:M[k]? =some (c,m,l))(hz:Yb P t=some n)(hn:(QJ w).length=n)
  (hc:Xu Qw (QJ w)=true) (ho:Yw (QJ w) off l=some l') (hr: ∀st',Mem h0 n0 X st' (M.set k (c,m,l'))→WR P G N ops rest R T st'):WR P G N ops (⟨none,.store t x y,ty,pos,af,none⟩::rest) R T st:=by
 obtain⟨st1,h1,h2,_⟩:=hM.store hk hz hn hc ho;refine Rr (v:=.tup []) (st1:=st1) hK (.of fun T hT c d ty pos af g=>?_) (hr st1 h2);show(ob (QI G T x) fun x=>ob (QI G T y) fun y=>Wd P t x y st)=_;rw[hT.QI hx,hT.QI hy,Qf,Qf,h1]
end
theorem Jh{P:Program}{r:List AV}(h:tk P t=.agg n)(hl:V7 n (VR off l) (fun r=>some (AV.agg r))=some (.agg r)):Y4 P t l off=some (.agg r):=by
 unfold Y4;rw[h];exact hl
theorem Qb{P:Program}(h:tk P t=.one)(hl:nth l off=some v):Y4 P t l off=some v:=by
 unfold Y4;rw[h];exact hl
end
section
open Go
variable {af:Array Edge} {d j t:Nat} {op:Op} {pol:Bool} {pos:String} {ty:TypeId}

variable {P:Program} {G:Env} {N:Nat} {st:St} {K:List (Nat×AV)} {T:Tr AV} {ops rest:List Oper} {R:Tr AV→St→Prop}
theorem wk{x:Bool}{st1:St}(hK:QG K T)(h:Uk P G K op st (.bool x) st1)(hN:d<N)(hn: ∀(b:Bool) T',x=b→QG ((d,.bool b)::K) T'→WR P G N ops rest R T' st1):
 WR P G N ops (⟨some d,op,ty,pos,af,none⟩::rest) R T st:=Wv hK h hN fun T' hT'=>hn x T' rfl hT'
theorem XV{d:Option Nat}{b:Bool}(hK:QG K T)(ht:Ui ops j=some t)(hb:K.lookup t=some (.bool b)):QQ ops ⟨d,op,ty,pos,af,some (j,pol)⟩ T=(b==pol):=by
 unfold QQ;simp only[ht];rw[show Up T t=.bool b from hK t _ hb]
 cases b<;>cases pol<;>rfl
theorem vq{v:AV}{st1:St}(hK:QG K T)(ht:Ui ops j=some t)(hb:K.lookup t=some (.bool pol))(h:Uk P G K op st v st1)(hN:d<N)
  (hn: ∀T',QG ((d,v)::K) T'→WR P G N ops rest R T' st1):WR P G N ops (⟨some d,op,ty,pos,af,some (j,pol)⟩::rest) R T st:=
 OI (by rw[XV hK ht hb];cases pol<;>rfl) (h T hK _ _ _ _ _) (fun e he=>by injection he with he;rw[←he];exact hN) (hn _ (hK.set d v))
theorem ff{b:Bool}(hK:QG K T)(ht:Ui ops j=some t)(hb:K.lookup t=some (.bool b))(hne:(b==pol)=false)(hN:d<N)
  (hn: ∀T',QG ((d,.tup [])::K) T'→WR P G N ops rest R T' st):WR P G N ops (⟨some d,op,ty,pos,af,some (j,pol)⟩::rest) R T st:=by
 obtain⟨L',n',T',st',h1,h2⟩:=hn _ (hK.set d (.tup []));refine⟨L',n',T',st',?_,h2⟩;show(ob (Js P G _ ops _ T st) fun r=>Yk N (some d) r.1 T fun T=>tl (WK P G _ N ops rest T r.2))=_;unfold Js;rw[XV hK ht hb,hne,Qp,Qf];show Q4 (Nat.ble (d+1) N) (T.put d (.tup []) _)=_;rw[Nat.ble_eq_true_of_le hN,Tr.put_eq];exact h1
theorem wX{x y:Operand}{tys:Array TypeId}{a b:Int}{k:IntKind}(hx:QE G K x=some (.int k a))(hy:QE G K y=some (.int k b)):Uk P G K (.call {callee:=.builtin .max,args:= #[x,y],argTypes:=tys}) st (.int k (max a b)) st:=.of fun T hT cc d ty pos af g=>by
 show ret (ob (J7 (QI G T) [x,y]) (hU true)) st=_;rw[Jo,hT.QI hx,Qf,Jo,hT.QI hy,Qf];show ret (some (AV.int k (Qj (LX a b) b a))) st=_;rw[Y0]
 by_cases h:a<b
 ·rw[decide_eq_true h,Qs,show max a b=b by omega];rfl
 ·rw[decide_eq_false h,Qp,show max a b=a by omega];rfl
end
section
open Go
variable {n:Nat}

variable {P:Program} {G:Env} {N:Nat} {st:St} {K:List (Nat×AV)} {T:Tr AV} {ops:List Oper} {rest:List (Nat×Oper×Nat)} {R:Tr AV→St→Prop} {sn:List St}
def UK(ops:List Oper)(q:Nat×Nat):Nat×Oper×Nat:=(q.1,(ops[q.1]?).getD ⟨none,.move (.tmp 0),0,"",#[],none⟩,q.2)
theorem Y3{ops:List Oper}{i:Nat}{o:Oper}(ho:ops[i]? =some o)(r:List (Nat×Nat)):((i,n)::r).map (UK ops)=(i,o,n)::r.map (UK ops):=by
 rw[List.map_cons];unfold UK;rw[ho];rfl
theorem QU{id:Nat}{ops:Array Oper}{Q:Ex→Tr AV→St→Prop}{l:List (Nat×Nat)}(hp:Zh P ops.toList=some (l.map (UK ops.toList)))
 (h:WD P G N ops.toList (l.map (UK ops.toList)) (Q .nor) T st [st]):W P G N (.region id ops true) Q T st:=wv hp h
theorem Ji(h:R T st):WD P G N ops (([]:List (Nat×Nat)).map (UK ops)) R T st sn:=⟨0,0,T,st,rfl,h⟩
theorem XU{i:Nat}{o:Oper}{v:AV}{st1:St}(hw:QQ ops o T=true)(h: ∃L n,∀L' n',L≤L'→n≤n'→HX P (QI G T) (Jf P G L' n') o st=some (v,st1))(ha:again P G o T v n sn.tail=true)(hd: ∀d,o.dst=some d→d<N)
  (hn:WD P G N ops rest R (match o.dst with|some d=>T.set d v|none=>T) st1 (Qj (Nat.beq (Qx P o.op) 3) (st1::sn) sn)):WD P G N ops ((i,o,n)::rest) R T st sn:=by
 obtain⟨L,m,h⟩:=h;obtain⟨L',m',T',st',h1,h2⟩:=hn;refine⟨max L L',max m m',T',st',?_,h2⟩
 show(ob (Js P G _ ops o T st) fun r=>Q4 (Qj (QQ ops o T) (again P G o T r.1 n (List.rec [] (fun _ t _=>t) sn)) true)
  (Yk N o.dst r.1 T fun T=>tl (XO P G _ N ops rest T r.2 (Qj (Nat.beq (Qx P o.op) 3) (r.2::sn) sn))))=_
 have e:Js P G (Jf P G (max L L') (max m m')) ops o T st=some (v,st1):=by
  unfold Js;rw[hw,Qs];exact h _ _ (Nat.le_max_left _ _) (Nat.le_max_left _ _)
 rw[e,Qf,hw,Qs,BZ];show Q4 (again P G o T v n sn.tail) _=_;rw[ha,Q6];have h1':=NU (Z8 m' (max m m') L' (max L L') (Nat.le_max_right _ _) (Nat.le_max_right _ _)) _ _ _ _ _ h1
 cases hdst:o.dst with
 |none=>rw[hdst]at h1';exact h1'
 |some d=>
  rw[hdst]at h1';show Q4 (Nat.ble (d+1) N) (T.put d v _)=_;rw[Nat.ble_eq_true_of_le (hd d hdst),Tr.put_eq];exact h1'
section
variable {r:List (Nat×Nat)} {i d:Nat} {op:Op} {ty:TypeId} {pos:String} {af:Array Edge} {v:AV} {st1:St}
theorem Bx(ho:ops[i]? =some ⟨some d,op,ty,pos,af,none⟩)(hK:QG K T)(h:Uk P G K op st v st1)(hk:Nat.beq (Qx P op) 3=false)(hN:d<N)(hn: ∀T',QG ((d,v)::K) T'→WD P G N ops (r.map (UK ops)) R T' st1 sn):
  WD P G N ops (((i,0)::r).map (UK ops)) R T st sn:=by
 rw[Y3 ho]
 exact XU rfl (h T hK _ _ _ _ _) rfl (fun e he=>by injection he with he;rw[←he];exact hN) (by
  show WD P G N ops (r.map (UK ops)) R _ st1 (Qj (Nat.beq (Qx P op) 3) _ _)
  rw[hk];exact hn _ (hK.set d v))
theorem OL(ho:ops[i]? =some ⟨some d,op,ty,pos,af,none⟩)(hK:QG K T)(h:Uk P G K op st v st1)(hk:Nat.beq (Qx P op) 3=true)(hN:d<N)(hn: ∀T',QG ((d,v)::K) T'→WD P G N ops (r.map (UK ops)) R T' st1 (st1::sn)):
  WD P G N ops (((i,0)::r).map (UK ops)) R T st sn:=by
 rw[Y3 ho]
 exact XU rfl (h T hK _ _ _ _ _) rfl (fun e he=>by injection he with he;rw[←he];exact hN) (by
  show WD P G N ops (r.map (UK ops)) R _ st1 (Qj (Nat.beq (Qx P op) 3) _ _)
  rw[hk];exact hn _ (hK.set d v))
theorem JL{t:TypeId}{x:Operand}{u:AV}{s0 s1:St}(ho:ops[i]? =some ⟨some d,.load t x,ty,pos,af,none⟩)(hK:QG K T)(hx:QE G K x=some u)(h:QD P t u st.h.get=some v)(h1:QD P t u s1.h.get=some v)(he:FY v v=true)(hk:Nat.beq (Qx P (.load t x)) 3=false)(hN:d<N)
  (hn: ∀T',QG ((d,v)::K) T'→WD P G N ops (r.map (UK ops)) R T' st (s0::s1::sn)):WD P G N ops (((i,1)::r).map (UK ops)) R T st (s0::s1::sn):=by
 rw[Y3 ho]
 exact XU rfl (Qi hx h T hK _ _ _ _ _) (by
  show Qj (Option.rec false (fun x=>Option.rec false (fun u=>FY u v) (QD P t x s1.h.get)) (QI G T x)) true false=true;rw[hK.QI hx];show Qj (Option.rec false (fun u=>FY u v) (QD P t u s1.h.get)) true false=true;rw[h1];show Qj (FY v v) true false=true
  rw[he];rfl) (fun e he=>by injection he with he;rw[←he];exact hN) (by
  show WD P G N ops (r.map (UK ops)) R _ st (Qj (Nat.beq (Qx P (.load t x)) 3) _ _)
  rw[hk];exact hn _ (hK.set d v))
theorem wo{x:Bool}(ho:ops[i]? =some ⟨some d,op,ty,pos,af,none⟩)(hK:QG K T)(h:Uk P G K op st (.bool x) st1)(hk:Nat.beq (Qx P op) 3=false)(hN:d<N)(hn: ∀(b:Bool) T',x=b→QG ((d,.bool b)::K) T'→WD P G N ops (r.map (UK ops)) R T' st1 sn):
 WD P G N ops (((i,0)::r).map (UK ops)) R T st sn:=Bx ho hK h hk hN fun T' hT'=>hn x T' rfl hT'
theorem vr{j t:Nat}{pol:Bool}(ho:ops[i]? =some ⟨some d,op,ty,pos,af,some (j,pol)⟩)(hK:QG K T)(ht:Ui ops j=some t)(hb:K.lookup t=some (.bool pol))(h:Uk P G K op st v st1)(hk:Nat.beq (Qx P op) 3=false)(hN:d<N)
  (hn: ∀T',QG ((d,v)::K) T'→WD P G N ops (r.map (UK ops)) R T' st1 sn):WD P G N ops (((i,0)::r).map (UK ops)) R T st sn:=by
 rw[Y3 ho]
 exact XU (by rw[XV hK ht hb];cases pol<;>rfl) (h T hK _ _ _ _ _) rfl (fun e he=>by injection he with he;rw[←he];exact hN) (by
  show WD P G N ops (r.map (UK ops)) R _ st1 (Qj (Nat.beq (Qx P op) 3) _ _)
  rw[hk];exact hn _ (hK.set d v))
theorem fg{j t:Nat}{b pol:Bool}(ho:ops[i]? =some ⟨some d,op,ty,pos,af,some (j,pol)⟩)(hK:QG K T)(ht:Ui ops j=some t)(hb:K.lookup t=some (.bool b))(hne:(b==pol)=false)(hN:d<N)
  (hn: ∀T' sn',QG ((d,.tup [])::K) T'→WD P G N ops (r.map (UK ops)) R T' st sn'):WD P G N ops (((i,n)::r).map (UK ops)) R T st sn:=by
 rw[Y3 ho];obtain⟨L',n',T',st',h1,h2⟩:=hn _ (Qj (Nat.beq (Qx P op) 3) (st::sn) sn) (hK.set d (.tup []));refine⟨L',n',T',st',?_,h2⟩;show(ob (Js P G _ ops _ T st) fun x=>Q4 (Qj (QQ ops _ T) _ true) (Yk N (some d) x.1 T fun T=>tl (XO P G _ N ops (r.map (UK ops)) T x.2 (Qj (Nat.beq (Qx P op) 3) (x.2::sn) sn))))=_;unfold Js;rw[XV hK ht hb,hne,Qp,Qf,Qp,Q6];show Q4 (Nat.ble (d+1) N) (T.put d (.tup []) _)=_;rw[Nat.ble_eq_true_of_le hN,Tr.put_eq];exact h1
end
end
section
open Go

variable {P:Program} {G:Env} {N:Nat} {st:St} {K:List (Nat×AV)} {T:Tr AV} {ops:List Oper} {r:List (Nat×Nat)} {R:Tr AV→St→Prop} {sn:List St} {h0:Hp} {n0:Nat} {X:List Nat} {M:List (Nat×Nat×List AV)}
theorem By{i d:Nat}{t ty:TypeId}{pos:String}{af:Array Edge}{l:List AV}(ho:ops[i]? =some ⟨some d,.alloc t,ty,pos,af,none⟩)(hK:QG K T)(hM:Mem h0 n0 X st M)(hz:zeroOf P t=some l)(hN:d<N)
  (hn: ∀(c:Nat) T' st',QG ((d,.ptr c 0 0)::K) T'→Mem h0 n0 X st' ((c,0,l)::M)→WD P G N ops (r.map (UK ops)) R T' st' sn):WD P G N ops (((i,0)::r).map (UK ops)) R T st sn:=by
 refine Bx (v:=.ptr st.n 0 0) (st1:=⟨st.n+1,st.h.set st.n (.row false [(l.length,0,some l)])⟩) ho hK (.of fun T hT c d ty pos af g=>?_) rfl hN fun T' hT'=>hn st.n T' _ hT' (hM.alloc l);show Wt P t st=_;unfold Wt;rw[hz,Qf,Um]
theorem Kf{i:Nat}{t ty:TypeId}{pos:String}{af:Array Edge}{x y:Operand}{w:AV}{k c m off n:Nat}{l l':List AV}(ho:ops[i]? =some ⟨none,.store t x y,ty,pos,af,none⟩)(hK:QG K T)(hM:Mem h0 n0 X st M)(hx:QE G K x=some (.ptr c m off))(hy:QE G K y=some w)
  (hk:M[k]? =some (c,m,l)) (hz:Yb P t=some n) (hn:(QJ w).length=n) (hc:Xu Qw (QJ w)=true) (hv:Yw (QJ w) off l=some l')
  (hr: ∀st',Mem h0 n0 X st' (M.set k (c,m,l'))→WD P G N ops (r.map (UK ops)) R T st' (st'::sn)):WD P G N ops (((i,0)::r).map (UK ops)) R T st sn:=by
 obtain⟨st1,h1,h2,_⟩:=hM.store hk hz hn hc hv;rw[Y3 ho]
 have hS:Uk P G K (.store t x y) st (.tup []) st1:=.of fun T hT c d ty pos af g=>by
  show(ob (QI G T x) fun x=>ob (QI G T y) fun y=>Wd P t x y st)=_;rw[hT.QI hx,hT.QI hy,Qf,Qf,h1]
 exact XU rfl (hS T hK _ _ _ _ _) rfl (fun e he=>by cases he) (hr st1 h2)
end
end Go.Proofs.YtildagdnomiahaaGreatDoor
