/-
  Least automata: the program's.
-/
import Derived.Test.YtiknomepbklibaaGreatDoorQhPpm
import Derived.Test.YtiknomepbklibaaGreatDoorQhPrd
import Derived.Test.YtiknomepbklibaaGreatDoorQhR24M
namespace Go.Proofs.YtiknomepbklibaaGreatDoor
open Go Go.RowKit
set_option maxHeartbeats 8000000
set_option linter.unusedVariables false
set_option linter.unusedSimpArgs false
set_option linter.unnecessarySimpa false
set_option linter.unusedSectionVars false
set_option maxRecDepth 100000
variable {S:U8} {cl xs:List Int} {ids rs:List Nat} {n r:Nat}

section
variable {α:Type} {key:α→AV} {P:Program} {G:Env} {N:Nat} {st0 st:St} {X0:Fp} {M:QS} {Os:List Ob} {T:Tr AV} {ops rest:List Oper} {K:List (Nat×AV)} {R:Tr AV→St→Prop} {t ty:TypeId} {pos:String} {af:Array Edge} {z v:AV} {cm j:Nat} {L:List (α×AV)} {a:α} {m k x:Operand}
theorem xJ{tys:Array TypeId}{kt et:TypeId}(hu:P.underlying t=some (.map kt et))(htys:tys= #[t])(hH:(Wo cm key L).H st.h.get)(hm:QV G K m=some (.mp cm)):U3 P G K (.call {callee:=.builtin .len,args:= #[m],argTypes:=tys}) st (.int .i64 (L.length:Nat)) st:=.of fun T' hT c d ty pos af g=>by
 subst htys;obtain⟨es,n,hc,he⟩:=hH
 have hl:es.length=L.length:=by have:=congrArg List.length he;rwa [List.length_map,List.length_map]at this
 show Qj (ZY P [t]) (ob (QG G T' m) fun x=>ret (BZ x st.h.get) st) _=_;rw[show ZY P [t]=true by unfold ZY;simp only[hu],Qz,hT.QG hm,Ql];show ret (ob (st.h.get cm) _) st=_;rw[hc,Ql];simp only[Ji,Us,hl];rfl
theorem xL(Tk:VQ P t key z){es:List (AV×AV×Nat)}(hc:st.h.get cm=some (.map es n))(he:O0 key es L)(hm:QV G K m=some (.mp cm))(hk:QV G K k=some (key a))(hx:QV G K x=some v)(hv:Qs v=true)(hn:Yr L a=none):
  U3 P G K (.insert t m k x) st (.tup []) (Av st cm n es (key a) v):=.of fun T' hT c d ty pos af g=>by
 obtain⟨kt,et,d',u1,u2,u3,u4,u5,u6⟩:=Tk.rule;show(ob (QG G T' m) fun m=>ob (QG G T' k) fun k=>ob (QG G T' x) fun x=>Z0 P t m k x st)=_;rw[hT.QG hm,hT.QG hk,hT.QG hx,Ql,Ql,Ql];unfold Z0 Av;obtain⟨f1,f2⟩:=VQ.find (P:=P) (t:=t) (z:=z) (et:=et) u5 u6 a L es 0 he;simp only[u1,u2,u4,QO,hc,Ql,f1 hn,hv,Bool.true_or,Ub,U6,Ji,UK]
theorem zL(hK:QT K T)(B:Qk st0 X0 st M Os)(hj:Os[j]? =some (Wo cm key L))(Tk:VQ P t key z)(hm:QV G K m=some (.mp cm))(hk:QV G K k=some (key a))(hx:QV G K x=some v)(hv:Qs v=true)(hn:Yr L a=none)
  (hr: ∀st',Qk st0 X0 st' M (Os.set j (Wo cm key (L++[(a,v)])))→WR P G N ops rest R T st'):WR P G N ops (⟨none,.insert t m k x,ty,pos,af,none⟩::rest) R T st:=by
 obtain⟨es,n,hc,he⟩:=B.at_ hj;exact SC hK (xL Tk hc he hm hk hx hv hn) (hr _ (B.BT hj hc he a v))
end
theorem Jj.fh{P:Program}{h:Hp}{X:List Nat}{z:Nat}{ls:List (List AV)}{ks:AV}(r:Jj h X z ls ks){i:Nat}{cs:List AV}(hi:ls[i]? =some cs): ∃c m off,ks=.sl c m off ls.length z∧c∉X∧ ∀(h':Hp) (Y:List Nat),Jj h' Y z ls ks→
  (∀t,tk P t=.agg z→Js P t (.ptr c m (off+i *z)) h'=some (.agg cs))∧(∀t j v,tk P t=.one→cs[j]? =some v→Js P t (.ptr c m (off+i *z+j)) h'=some v)∧
  (∀t j n,tk P t=.agg n→j+n≤z→Js P t (.ptr c m (off+i *z+j)) h'=some (.agg ((cs.drop j).take n))):=by
 obtain⟨c,m,off,e,hX,_⟩:=r.load (P:=P) hi;refine⟨c,m,off,e,hX,fun h' Y r'=>?_⟩;obtain⟨c',m',off',e',_,k⟩:=r'.load (P:=P) hi;rw[e]at e'
 injection e' with e1 e2 e3
 subst e1 e2 e3;exact k
theorem Pg{α:Type}: ∀(j:Nat) (S:List α),(UX j S).length=S.length
 |_,[]=>rfl
 |j,x::S=>by rw[UX,List.length_cons,List.length_cons,Pg (j+1) S]
theorem xK{α:Type}{key:α→AV}{P:Program}{G:Env}{st:St}{K:List (Nat×AV)}{t:TypeId}{cm:Nat}{S:List α}{m:Operand}{tys:Array TypeId}{kt et:TypeId}(hu:P.underlying t=some (.map kt et))(htys:tys= #[t])(hH:(Wo cm key (UX 0 S)).H st.h.get)(hm:QV G K m=some (.mp cm)):U3 P G K (.call {callee:=.builtin .len,args:= #[m],argTypes:=tys}) st (.int .i64 (S.length:Nat)) st:=by
 have h:=xJ (key:=key) (L:=UX 0 S) hu htys hH hm;rw[Pg]at h;exact h
def Xf(T:Nat)(S:U8)(a:Au)(rs:List Nat):Prop:= ∀(s r:Nat),rs[s]? =some r→r<S.length∧ ∀c,c<2^T→Y5 S r c=((a.go s c:Nat):Int)
theorem Xf.pre{T:Nat}{S':U8}{a:Au}(H:Xf T S a rs)(W:Xk T S)(h:S<+:S'):Xf T S' a rs:=fun s r hs=>by
 obtain⟨h1,h2⟩:=H s r hs;exact⟨Nat.lt_of_lt_of_le h1 h.length_le,fun c hc=>by rw[Zq W h h1];exact h2 c hc⟩
def KM(S:U8)(a:Au)(cl:List Int)(T:Nat)(ids:List Nat):Prop:= ∀(s r:Nat),ids[s]? =some r→r<S.length∧ ∀c,c<2^T→Y5 S r c=cv cl (a.go s c)
theorem KM.pre{T:Nat}{S':U8}{a:Au}(H:KM S a cl T ids)(W:Xk T S)(h:S<+:S'):KM S' a cl T ids:=fun s r hs=>by
 obtain⟨h1,h2⟩:=H s r hs;exact⟨Nat.lt_of_lt_of_le h1 h.length_le,fun c hc=>by rw[Zq W h h1];exact h2 c hc⟩
theorem KM.snoc{T:Nat}{a:Au}(H:KM S a cl T ids)(hr:r<S.length)(he: ∀c,c<2^T→Y5 S r c=cv cl (a.go ids.length c)):KM S a cl T (ids++[r]):=fun s q hs=>by
 by_cases hlt:s<ids.length
 ·rw[List.getElem?_append_left hlt]at hs;exact H s q hs
 ·have h3:=(List.getElem?_eq_some_iff.1 hs).1;rw[List.length_append,List.length_singleton]at h3
  have h4:s=ids.length:=by omega
  subst h4;rw[List.getElem?_append_right (Nat.le_refl _),Nat.sub_self]at hs
  injection hs with hs
  subst hs;exact⟨hr,he⟩
def OJ(n:Nat)(cl:List Int)(ids:List Nat):List Int:=(List.range ids.length).map fun s=>(((ids[s]?).getD 0:Nat):Int) *((n:Nat):Int)+cv cl s
theorem WN(n:Nat)(cl:List Int)(ids:List Nat):(OJ n cl ids).length=ids.length:=by simp[OJ]
theorem MO(n:Nat)(cl:List Int)(ids:List Nat)(r:Nat):OJ n cl (ids++[r])=OJ n cl ids++[((r:Nat):Int) *((n:Nat):Int)+cv cl ids.length]:=by
 unfold OJ;rw[List.length_append,List.length_singleton,List.range_succ,List.map_append,List.map_singleton]
 congr 1
 ·refine List.map_congr_left fun s hs=>?_;rw[List.getElem?_append_left (List.mem_range.1 hs)]
 ·rw[List.getElem?_append_right (Nat.le_refl _),Nat.sub_self];rfl
theorem Ty{s:Nat}(h:ids[s]? =some r):cv (OJ n cl ids) s=((r:Nat):Int) *((n:Nat):Int)+cv cl s:=by
 have hlt:=(List.getElem?_eq_some_iff.1 h).1;unfold OJ;rw[Sc (List.getElem?_range hlt),h];rfl
theorem R8{T:Nat}{a:Au}(W:Xk T S)(H:KM S a cl T ids)(hT:a.tr=T)(hl:ids.length=a.n)(hc: ∀s,s<a.n→0≤cv cl s∧cv cl s<((a.n:Nat):Int)):AL a cl (Uh [] (OJ a.n cl ids)):=by
 refine⟨by rw[XE,WN,hl],fun s t hs ht=>?_⟩;obtain⟨r,hr⟩: ∃r,ids[s]? =some r:=⟨_,List.getElem?_eq_getElem Qc⟩;obtain⟨q,hq⟩: ∃r,ids[t]? =some r:=⟨_,List.getElem?_eq_getElem Qc⟩;obtain⟨h1,h2⟩:=H s r hr;obtain⟨h3,h4⟩:=H t q hq;rw[HP (by rw[WN,hl];exact hs) (by rw[WN,hl];exact ht),Ty hr,Ty hq,jW (hc s hs) (hc t ht)];refine⟨fun⟨e1,e2⟩=>⟨e2,fun c hcK=>?_⟩,fun⟨e1,e2⟩=>⟨?_,e1⟩⟩
 ·have e1:r=q:=by omega
  subst e1
  have hcK:c<2^T:=by rw[←hT];exact hcK
  rw[←h2 c hcK,←h4 c hcK]
 ·have:=eL W h1 h3 fun c hcT=>by rw[h2 c hcT,h4 c hcT];exact e2 c (by unfold Au.K;rw[hT];exact hcT)
  rw[this]
theorem Xf.snoc{T:Nat}{a:Au}(H:Xf T S a rs)(hr:r<S.length)(he: ∀c,c<2^T→Y5 S r c=((a.go rs.length c:Nat):Int)):Xf T S a (rs++[r]):=fun s q hs=>by
 by_cases hlt:s<rs.length
 ·rw[List.getElem?_append_left hlt]at hs;exact H s q hs
 ·have h3:=(List.getElem?_eq_some_iff.1 hs).1;rw[List.length_append,List.length_singleton]at h3
  have h4:s=rs.length:=by omega
  subst h4;rw[List.getElem?_append_right (Nat.le_refl _),Nat.sub_self]at hs
  injection hs with hs
  subst hs;exact⟨hr,he⟩
theorem Xf.val{T:Nat}{a:Au}{s:Nat}(H:Xf T S a rs)(W:Zs a)(V:Xk T S)(ht:a.tr=T)(hs:s<a.n)(h:rs[s]? =some r)(c:Nat):0≤Y5 S r c∧Y5 S r c<((a.n:Nat):Int):=by
 have hc:c % 2^T<2^T:=Nat.mod_lt _ (Nat.two_pow_pos T);rw[←RV V,(H s r h).2 _ hc];have:=W.UR hs (c:=c % 2^T) (by unfold Au.K;rw[ht];exact hc);omega
def C8(a:Au)(i:Nat):List Int:=(List.range i).map fun s=>((E9 (a.ok s):Nat):Int)
theorem VL(a:Au)(i:Nat):(C8 a i).length=i:=by simp[C8]
theorem Bf(a:Au)(i:Nat):C8 a (i+1)=C8 a i++[((E9 (a.ok i):Nat):Int)]:=by unfold C8;rw[List.range_succ,List.map_append];rfl
theorem qX(a:Au):Ki a (Uh [] (C8 a a.n)):=NN (by rw[XE,VL]) fun s t hs ht=>by
 rw[HP (by rw[VL];exact hs) (by rw[VL];exact ht)];unfold C8;rw[Sc (List.getElem?_range hs),Sc (List.getElem?_range ht)]
 cases a.ok s<;>cases a.ok t<;>decide
theorem Tt(h:xs.length=n): ∀s,s<n→0≤cv (Uh [] xs) s∧cv (Uh [] xs) s<((n:Nat):Int):=fun s hs=>by
 have:=uq (xs:=xs) (s:=s) Qc;omega
theorem eR{l:List Int}(hl:l.length=n)(h: ∀s,s<n→0≤cv l s∧cv l s<((n:Nat):Int))(z:Int)(hz:z∈l):0≤z∧z<((n:Nat):Int):=by
 obtain⟨s,hs⟩:=List.getElem?_of_mem hz;have hlt:=(List.getElem?_eq_some_iff.1 hs).1;have:=h s Qc;unfold cv at this;rw[hs]at this;exact this
theorem jg:Tryz.prog.underlying 141=some (.map 3 3):=by kernel_rfl

theorem Kw{st:St}(hf:Qi st){kl:AV}(hl:Jj st.h.get [] 1 (zC xs) kl)(hx:xs.length≤1000000): ∃v st',Jh 140 [kl] st v st'∧ ∃kr,v=kr∧EA st st' 1 kr (zC (Uh [] xs))∧Qt st st':=by
 have B:=Qk.start hf;have hlc:=hl.cell;refine JA Tryz.func140 Tryz.ntmps140 fun T K=>?_;have M:=B.mem;refine Qb 1 K M fun _ K=>?_;replace B:=B.step M;refine W3 KU K B rfl fun c9 _ _ K B=>?_;have M:=B.mem;refine Qb 3 K M fun _ K=>?_;refine p1 K (Q5 Ja rfl rfl (hl.len.trans (congrArg some (Qq _)))) fun _ K=>?_;refine Qb 1 K M fun _ K=>?_;refine QY (fun mm1 T st9=> ∃(i:Nat) (kr:AV) (A:QS),mm1=xs.length-i∧QT [(2,.nils),(3,.mp c9),(4,kr),(10,kl),(11,iZ (xs.length:Nat)),(12,iN i)] T∧Qk st Xi st9 (A++[]) [Wo c9 KU (UX 0 (Ua [] (xs.take i)))]∧i≤xs.length∧Acc 0 1 A kr (zC (Uh [] (xs.take i)))) (fun mm1 T st9 hI=>?_) _ _ _ ⟨0,.nils,[],rfl,(K.sub rfl),(B.step M).less (.refl _),(Nat.zero_le _),(by rw[List.take_zero];exact .none)⟩;obtain⟨i,kr,A,rfl,K,B,hi,hA⟩:=hI;have M:=B.mem;refine Qb 1 K M fun _ K=>?_;refine Jy K rfl (fun h13=>?_) fun h13=>?_
 ·refine Qb 0 K M fun _ K=>?_;obtain⟨y14,hi14⟩:=Uw xs i Qc;refine oI ((B.step M).FF hf hl) (Jm hi14) K Qo Qn rfl rfl rfl fun _ _ _ _ K=>?_;refine Qb 3 K M fun _ K=>?_;refine p1 K (WI (a:=y14) HW ((B.step M).at_ (k:=0) rfl) rfl rfl) fun _ K=>?_;refine Qb 5 K M fun _ K=>?_
  have htk:xs.take (i+1)=xs.take i++[y14]:=by rw[List.take_add_one,hi14];rfl
  refine Qb 2 K M fun _ K=>?_;refine Qp (K.QG rfl) (fun h23=>?_) (fun h23=>?_)
  ·have hb23:=h23
   replace h23:((Yr (UX 0 (Ua [] (xs.take i))) (y14)).isSome)=false:=by simpa using h23
   refine Qb 1 K M fun _ K=>?_;refine p1 K (xK jg rfl ((B.step M).at_ (k:=0) rfl) rfl) fun _ K=>?_;refine Qb 4 K M fun _ K=>?_
   have hnone:Yr (UX 0 (Ua [] (xs.take i))) y14=none:=by cases hq:Yr (UX 0 (Ua [] (xs.take i))) y14 with|none=>rfl|some x=>rw[hq]at h23;cases h23
   have hnew:=Lu (xs.take i) [] (NC hnone);replace B:=B.step M;refine Hy (j:=0) (a:=y14) K B rfl HW rfl rfl rfl rfl hnone fun _ B=>?_;rw[show UX 0 (Ua [] (xs.take i))++[(y14,iZ ((Ua [] (xs.take i)).length:Nat))]=UX 0 (Ua [] (xs.take (i+1))) by rw[htk,hnew.2,Fh,Nat.zero_add]]at B;have M:=B.mem;refine au 3 K M ?_;intro c31 _ _ K _ M;refine Jf (k2:=0) (L:=[(c31,0,[iZ ((Ua [] (xs.take i)).length:Nat)])]) (A:=A) (B:=[]) K M hA QJ rfl rfl rfl rfl (by rw[Qq,XE,List.length_take];omega) rfl fun ks32 A32 _ _ K hA32 M=>?_;refine Qb 3 K M fun _ K=>?_
   have hout:Uh [] (xs.take (i+1))=Uh [] (xs.take i)++[(((Ua [] (xs.take i)).length:Nat):Int)]:=by rw[htk,hnew.1]
   exact⟨_,Qc,i+1,ks32,A32,rfl,(K.sub rfl),(B.step M).less (.cons _ (.refl _)),Qc,(by rw[hout,JX];exact hA32)⟩
  have hb23:=h23
  replace h23:((Yr (UX 0 (Ua [] (xs.take i))) (y14)).isSome)=true:=by simpa using h23
  refine Qb 0 K M fun _ K=>?_
  obtain⟨v0,hv0⟩: ∃x,Yr (UX 0 (Ua [] (xs.take i))) y14=some x:=by cases hq:Yr (UX 0 (Ua [] (xs.take i))) y14 with|none=>rw[hq]at h23;cases h23|some x=>exact⟨x,rfl⟩
  obtain⟨j,hj,rfl⟩:=NB hv0;rw[hv0]at K;obtain⟨e1,e2⟩:=Lt (xs.take i) [] List.nodup_nil hj;refine au 3 K M ?_;intro c31 _ _ K _ M;refine Jf (k2:=0) (L:=[(c31,0,[iN j])]) (A:=A) (B:=[]) K M hA QJ rfl rfl rfl rfl (by rw[Qq,XE,List.length_take];omega) rfl fun ks32 A32 _ _ K hA32 M=>?_;refine Qb 3 K M fun _ K=>?_
  have hout:Uh [] (xs.take (i+1))=Uh [] (xs.take i)++[((j:Nat):Int)]:=by rw[htk,e1]
  have hsn:Ua [] (xs.take (i+1))=Ua [] (xs.take i):=by rw[htk,e2]
  replace B:=B.step M;rw[←hsn]at B;have M:=B.mem;exact⟨_,Qc,i+1,ks32,A32,rfl,(K.sub rfl),(B.step M).less (.cons _ (.refl _)),Qc,(by rw[hout,JX];exact hA32)⟩
 refine QM ?_;show W _ _ _ _ _ _ _;refine Jz ?_;rw[List.take_of_length_le Qc]at hA;refine Qb 2 K M ?_;exact⟨_,rfl,(B.step M).newRow hA (fun c m l h=>by simp[h]),(B.step M).qt⟩

theorem q5{st:St}(hf:Qi st){ys:List Int}{ka kb:AV}(ha:Jj st.h.get [] 1 (zC xs) ka)(hb:Jj st.h.get [] 1 (zC ys) kb): ∃v st',Jh 142 [ka,kb] st v st'∧v=.bool (decide (xs=ys))∧Qt st st':=by
 have hbnxs:(xs.length:Int)≤9223372036854775807:=by have:=ha.Wv;rw[Qq]at this;exact this
 have hbnys:(ys.length:Int)≤9223372036854775807:=by have:=hb.Wv;rw[Qq]at this;exact this
 refine JA Tryz.func142 Tryz.ntmps142 fun T K=>?_;have M:=Mem.start hf;refine Qb 2 K M fun _ K=>?_;refine p1 K (Q5 Ja rfl rfl (ha.len.trans (congrArg some (Qq _)))) fun _ K=>?_;refine Qb 1 K M fun _ K=>?_;refine p1 K (Q5 Ja rfl rfl (hb.len.trans (congrArg some (Qq _)))) fun _ K=>?_;refine Qb 1 K M fun _ K=>?_;refine Qp (K.QG rfl) (fun h10=>?_) (fun h10=>?_)
 ·have hb10:=h10
  replace h10: ¬(((xs.length:Nat):Int)=((ys.length:Nat):Int)):=by first|exact of_decide_eq_false h10|exact yF h10|simpa using h10
  refine Qb 1 K M ?_;refine⟨congrArg AV.bool ?_,M.qt⟩;refine(decide_eq_false fun e=>?_).symm;subst e
  first|(exact h10 rfl)|(rw[hi18]at hi22;injection hi22 with e;exact h24 Qc)
 have hb10:=h10
 replace h10:(((xs.length:Nat):Int)=((ys.length:Nat):Int)):=by first|exact of_decide_eq_true h10|exact yT h10|simpa using h10
 refine Qb 1 K M fun _ K=>?_;refine p1 K (Q5 Ja rfl rfl (ha.len.trans (congrArg some (Qq _)))) fun _ K=>?_;refine Qb 1 K M fun _ K=>?_;refine QY (fun mm1 T st9=> ∃(i:Nat),mm1=xs.length-i∧QT [(0,ka),(1,kb),(12,iZ (xs.length:Nat)),(13,iN i)] T∧Mem st.h.get st.n [] st9 []∧i≤xs.length∧(∀j,j<i→xs[j]? =ys[j]?)) (fun mm1 T st9 hI=>?_) _ _ _ ⟨0,rfl,(K.sub rfl),M.less (.refl _),(Nat.zero_le _),(fun j hj=>absurd hj (Nat.not_lt_zero j))⟩;obtain⟨i,rfl,K,M,hi,hs⟩:=hI;refine Qb 1 K M fun _ K=>?_;refine Jy K rfl (fun h14=>?_) fun h14=>?_
 ·refine Qb 2 K M fun _ K=>?_;refine QC (l:=[(0,0),(1,0),(2,0),(3,0),(4,0),(5,0),(6,0),(7,0),(8,0)]) (by kernel_rfl) ?_;refine Jo 2 K M fun _ K=>?_;obtain⟨y18,hi18⟩:=Uw xs i Qc;refine dI rfl rfl (Jj.mem M ha Q7) (Jm hi18) K Qo Qn rfl rfl rfl fun _ _ _ _ K=>?_;refine Jo 2 K M fun _ K=>?_;obtain⟨y22,hi22⟩:=Uw ys i Qc;refine dI rfl rfl (Jj.mem M hb Q7) (Jm hi22) K Qo Qn rfl rfl rfl fun _ _ _ _ K=>?_;refine q1 rfl K (R2 rfl rfl) fun _ K=>QF ?_;show W _ _ _ _ _ _ _;refine Qp (K.QG rfl) (fun h24=>?_) (fun h24=>?_)
  ·have hb24:=h24
   replace h24: ¬(y18=y22):=by first|exact of_decide_eq_false h24|exact yF h24|simpa using h24
   refine Qb 1 K M ?_;refine⟨congrArg AV.bool ?_,M.qt⟩;refine(decide_eq_false fun e=>?_).symm;subst e
   first|(exact h10 rfl)|(rw[hi18]at hi22;injection hi22 with e;exact h24 Qc)
  have hb24:=h24
  replace h24:(y18=y22):=by first|exact of_decide_eq_true h24|exact yT h24|simpa using h24
  refine Qb 2 K M fun _ K=>?_;exact⟨_,Qc,i+1,rfl,(K.sub rfl),M.less (.refl _),Qc,(fun j hj=>by by_cases e:j=i;subst e;rw[hi18,hi22];exact congrArg some Qc;exact hs j Qc)⟩
 refine QM ?_;show W _ _ _ _ _ _ _;refine Qb 1 K M ?_;refine⟨congrArg AV.bool ?_,M.qt⟩;refine(decide_eq_true ?_).symm;apply List.ext_getElem?;intro j
 by_cases hj:j<xs.length
 ·exact hs j Qc
 ·rw[List.getElem?_eq_none Qc,List.getElem?_eq_none Qc]

theorem Rq{st:St}(hf:Qi st){FD F:Fp}{dp sp:Nat}{a:Au}(hD:UZ st FD dp a)(hS:Zm st F sp a.tr S)(hdF: ∀c,FD c→ ¬F c)(wfS0:Xk a.tr S){kr:AV}(hR:Jj st.h.get [] 1 (zC (zN rs)) kr)(offR: ∀c m o n y,kr=.sl c m o n y→ ¬F c)(hrl:rs.length=a.n)(hrs:Xf a.tr S a rs){kc:AV}(hC:Jj st.h.get [] 1 (zC cl) kc)(hcl:cl.length=a.n)(hcv: ∀s,s<a.n→0≤cv cl s∧cv cl s<((a.n:Nat):Int))(offC: ∀c m o n y,kc=.sl c m o n y→ ¬F c)(hlen:S.length+a.n *127≤1000000000): ∃v st',Jh 141 [.ptr dp 0 0,.ptr sp 0 0,kr,kc] st v st'∧ ∃kr' S' out st2,v=kr'∧XU st st2 F sp a.tr S'∧Qt st2 st'∧EA st2 st' 1 kr' (zC (Uh [] out))∧S<+:S'∧Xk a.tr S'∧S'.length≤S.length+a.n *127∧out.length=a.n∧AL a cl (Uh [] out):=by
 have wf:=hD.wf;have htr:=wf.tr;have hmo:=wf.most;have h127:2^(a.tr+1)≤128:=Nat.pow_le_pow_right Q9 (by omega:a.tr+1≤7);have hrc:=hR.cell;have hkc:=hC.cell
 have hbr:(rs.length:Int)≤9223372036854775807:=by omega
 have hn127: ∀k,k≤a.n→k *127≤a.n *127:=fun k hk=>Nat.mul_le_mul_right _ hk;have B:=Qk.UN (o:=X9 F sp a.tr S) hf hS.at_ hS.hi;refine JA Tryz.func141 Tryz.ntmps141 fun T K=>?_;have M:=B.mem;refine Qb 3 K M fun _ K=>?_;refine p1 K (Q5 Ja rfl rfl (hR.len.trans (congrArg some (by rw[Qq,List.length_map])))) fun _ K=>?_;refine Qb 1 K M fun _ K=>?_;refine QY (fun mm1 T st9=> ∃(i:Nat) (ids:List Nat) (S2:U8) (F2:Fp) (ko:AV) (A:QS),mm1=rs.length-i∧QT [(0,.ptr dp 0 0),(1,.ptr sp 0 0),(3,kc),(8,.nils),(9,ko),(12,kr),(13,iZ (rs.length:Nat)),(14,iN i)] T∧Qk st (X9 F sp a.tr S).F st9 (A++[]) [X9 F2 sp a.tr S2]∧ids.length=i∧i≤rs.length∧KM S2 a cl a.tr ids∧S<+:S2∧Xk a.tr S2∧S2.length≤S.length+i *127∧Acc 0 1 A ko (zC (OJ a.n cl ids))) (fun mm1 T st9 hI=>?_) _ _ _ ⟨0,[],S,F,.nils,[],rfl,(K.sub rfl),(B.step M).less (.refl _),rfl,(Nat.zero_le _),(fun s r h=>by simp at h),(List.prefix_refl _),wfS0,Qc,.none⟩;obtain⟨i,ids,S2,F2,ko,A,rfl,K,B,hil,hi,himg,hpre,wfS,hSl,hA⟩:=hI;have M:=B.mem;have hni:=hn127 i Qc;refine Qb 1 K M fun _ K=>?_;refine Jy K rfl (fun h15=>?_) fun h15=>?_
 ·refine Qb 1 K M fun _ K=>?_;obtain⟨y17,hi17⟩:=Uw rs i Qc;refine oI ((B.step M).rd hf hR offR) (Xq hi17) K Qo Qn rfl rfl rfl fun _ _ _ _ K=>?_;refine Qb 2 K M fun _ K=>?_;refine QC (l:=[(1,0),(2,0),(3,0),(4,0),(5,0),(6,0),(0,0),(7,0),(8,0),(9,0),(10,0),(11,2),(12,0),(13,0),(14,0),(15,0)]) (by kernel_rfl) ?_;have Mq:=M;have Mz0:=M;have Bz0:=B;refine Jo 3 K M fun _ K=>?_;replace B:=B.step M;have hRi:=hrs.pre wfS0 hpre;have hr17:=hRi i y17 hi17;have hvl:=hRi.val wf wfS rfl Qc hi17;obtain⟨v23,st23,ev23,r1,S3,rfl,hout,mb,hev⟩:=jR B.fresh (B.Kq (k:=0) rfl) wf.tr wfS hr17.1 (B.rd hf hC offC) (B.off (k:=0) rfl hf hC offC) (fun z hz=>by have:=eR hcl hcv z hz;omega) (fun c=>by rw[hcl];exact hvl c) Qc;refine qA rfl K (Qg rfl ev23) fun _ K=>?_;obtain⟨F3,B⟩:=B.We hout;have M:=B.mem;have hmbl:=mb.len;have hmlt:=mb.lt
  have hrn:0≤((r1:Nat):Int) *((a.n:Nat):Int)∧((r1:Nat):Int) *((a.n:Nat):Int)≤400000000000:=by
   have h1:=Nat.mul_le_mul (show r1≤1000000000 by omega) (show a.n≤400 from hmo);rw[←Int.natCast_mul];omega
  have Mp:=Mq;have Mq:=M;have Mz1:=M;have Bz1:=B;refine q1 rfl K (Q0 rfl) fun _ K=>?_;obtain⟨v25,st25,ev25,rfl,q25⟩:=GU M.fresh (hD.O5 (B.step M).JN hdF);refine qA rfl K (Qg rfl ev25) fun _ K=>?_;replace M:=M.quiet q25;have Mp:=Mq;have Mq:=M;have Mz2:=M;have Bz2:=B;refine q1 rfl K (Q0 rfl) fun _ K=>q1 rfl K (Tm (c:=((r1:Nat):Int) *((a.n:Nat):Int)) rfl rfl (IntWalk.i64_in _ Qc)) fun _ K=>?_;refine Jo 2 K M fun _ K=>?_;obtain⟨y29,hi29⟩:=Uw cl i Qc
  have hcy29:cv cl i=y29:=by unfold cv;rw[hi29];rfl
  have hcb29:=hcv i Qc;obtain⟨x29,m29,f29,q29,_,lf29⟩:=Jj.fh ((B.step M).rd hf hC offC) (i:=i) (cs:=_) (Jm hi29);refine q1 rfl K (Qe (j:=i) Qo (congrArg some q29) rfl (by rw[Qq];omega)) fun _ K=>?_
  refine W5 rfl K rfl ((lf29 _ _ ((B.step M).rd hf hC offC)).2.1 _ 0 _ Qn rfl) Q7 (by intro s hs;simp only[List.take_succ_cons,List.take_zero,List.mem_cons,List.not_mem_nil,or_false]at hs;rcases hs with rfl|rfl<;>first|exact((lf29 _ _ ((Bz1.step Mz1).rd hf hC offC)).2.1 _ 0 _ Qn rfl)|exact((lf29 _ _ ((Bz0.step Mz0).rd hf hC offC)).2.1 _ 0 _ Qn rfl)) (JQ rfl) rfl Q9 fun _ K=>?_
  refine Jo 1 K M fun _ K=>?_;refine XY rfl K M QJ XL rfl rfl rfl rfl rfl fun c32 _ _ K M=>?_;refine X6 (k2:=0) (L:=[(c32,0,[iZ (((((r1:Nat):Int) *((a.n:Nat):Int))+y29))])]) (A:=A) (B:=[]) rfl K M hA QJ rfl rfl rfl rfl (by rw[Qq,WN];omega) rfl fun ks33 A33 _ _ K hA33 M=>?_;have Mp:=Mq;have Mq:=M;have Mz3:=M;have Bz3:=B;refine q1 rfl K (JW rfl) fun _ K=>QF ?_;show W _ _ _ _ _ _ _;refine Qb 2 K M fun _ K=>?_;have hni2:=hn127 (i+1) Qc;exact⟨_,Qc,i+1,(ids++[r1]),S3,F3,ks33,A33,rfl,(K.sub rfl),(B.step M).less (.cons _ (.refl _)),(by rw[List.length_append,hil];rfl),Qc,((himg.pre wfS mb.pre).snoc mb.lt (fun c hc=>by rw[hev,hr17.2 c hc,hil,Int.toNat_natCast])),(hpre.trans mb.pre),mb.wf,Qc,(by rw[MO,hil,hcy29,JX];exact hA33)⟩
 refine QM ?_;show W _ _ _ _ _ _ _;refine Qb 1 K M fun _ K=>?_;replace B:=B.step M;have B9:=B;obtain⟨v36,st36,ev36,kr9,rfl,nr9,q9⟩:=Kw B.fresh (Mem.Y6 (L:=[]) (A:=A) (B:=[]) M hA) (by rw[WN];omega);refine p1 K (Qg rfl ev36) fun _ K=>?_;replace B:=B.quiet q9;have M:=B.mem;refine Qb 1 K M ?_
 have hin:i=a.n:=by omega
 exact⟨_,S2,OJ a.n cl ids,_,rfl,B9.Nq,q9,nr9,hpre,wfS,by rw[hin]at hSl;exact hSl,by rw[WN];omega,R8 wfS himg rfl Qc hcv⟩
end Go.Proofs.YtiknomepbklibaaGreatDoor
