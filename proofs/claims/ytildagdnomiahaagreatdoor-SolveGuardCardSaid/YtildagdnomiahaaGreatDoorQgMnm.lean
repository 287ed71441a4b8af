/-
  The reference's classes and least automaton.
-/
import Derived.Test.YtildagdnomiahaaGreatDoorQgPpm
import Derived.Test.YtildagdnomiahaaGreatDoorQgPrd
set_option maxRecDepth 100000
set_option maxHeartbeats 8000000
set_option linter.unnecessarySimpa false
set_option linter.unusedSectionVars false
set_option linter.unusedSimpArgs false
set_option linter.unusedVariables false
namespace Go.Proofs.YtildagdnomiahaaGreatDoor
open Go Go.RowKit
section

theorem Qj.newRow{st0 st:St}{M A:QK}{Os:List Ob}{z:Nat}{ks:AV}{ls:List (List AV)}(B:Qj st0 WA st M Os)(hA:Acc 0 z A ks ls)(hs: ∀c m l,(c,m,l)∈A→(c,m,l)∈M):F9 st0 st z ks ls:=by
 refine⟨A,?_,fun c m l hm=>B.row c m l (hs c m l hm)⟩
 cases hA with
 |none=>exact .none
 |own h1 h2 h3=>exact .own ((B.lo _ _ _ (hs _ _ _ (List.mem_cons_self ..))).resolve_right id) h2 h3

end
section
variable {S:JW} {cl xs:List Int} {ids rs:List Nat} {n r:Nat}

section
variable {α:Type} {key:α→AV} {P:Program} {G:Env} {N:Nat} {st0 st:St} {X0:Fp} {M:QK} {Os:List Ob} {T:Tr AV} {ops rest:List Oper} {K:List (Nat×AV)} {R:Tr AV→St→Prop} {t ty:TypeId} {pos:String} {af:Array Edge} {z v:AV} {cm j:Nat} {L:List (α×AV)} {a:α} {m k x:Operand}
theorem uF{tys:Array TypeId}{kt et:TypeId}(hu:P.underlying t=some (.map kt et))(htys:tys= #[t])(hH:(XZ cm key L).H st.h.get)(hm:QD G K m=some (.mp cm)):Uf P G K (.call {callee:=.builtin .len,args:= #[m],argTypes:=tys}) st (.int .i64 (L.length:Nat)) st:=.of fun T' hT c d ty pos af g=>by
 subst htys;obtain⟨es,n,hc,he⟩:=hH
 have hl:es.length=L.length:=by have:=congrArg List.length he;rwa [List.length_map,List.length_map]at this
 show Ql (X5 P [t]) (ob (QU G T' m) fun x=>ret (OX x st.h.get) st) _=_;rw[show X5 P [t]=true by unfold X5;simp only[hu],Qv,hT.QU hm,Qk];show ret (ob (st.h.get cm) _) st=_;rw[hc,Qk];simp only[QI,J8,hl];rfl
theorem uH(Tk:XF P t key z){es:List (AV×AV×Nat)}(hc:st.h.get cm=some (.map es n))(he:L7 key es L)(hm:QD G K m=some (.mp cm))(hk:QD G K k=some (key a))(hx:QD G K x=some v)(hv:Qu v=true)(hn:Uz L a=none):
  Uf P G K (.insert t m k x) st (.tup []) (WI st cm n es (key a) v):=.of fun T' hT c d ty pos af g=>by
 obtain⟨kt,et,d',u1,u2,u3,u4,u5,u6⟩:=Tk.rule;show(ob (QU G T' m) fun m=>ob (QU G T' k) fun k=>ob (QU G T' x) fun x=>Y4 P t m k x st)=_;rw[hT.QU hm,hT.QU hk,hT.QU hx,Qk,Qk,Qk];unfold Y4 WI;obtain⟨f1,f2⟩:=XF.find (P:=P) (t:=t) (z:=z) (et:=et) u5 u6 a L es 0 he;simp only[u1,u2,u4,Q7,hc,Qk,f1 hn,hv,Bool.true_or,Ju,JL,QI,JX]
theorem jF(hK:QE K T)(B:Qj st0 X0 st M Os)(hj:Os[j]? =some (XZ cm key L))(Tk:XF P t key z)(hm:QD G K m=some (.mp cm))(hk:QD G K k=some (key a))(hx:QD G K x=some v)(hv:Qu v=true)(hn:Uz L a=none)
  (hr: ∀st',Qj st0 X0 st' M (Os.set j (XZ cm key (L++[(a,v)])))→WR P G N ops rest R T st'):WR P G N ops (⟨none,.insert t m k x,ty,pos,af,none⟩::rest) R T st:=by
 obtain⟨es,n,hc,he⟩:=B.at_ hj;exact P4 hK (uH Tk hc he hm hk hx hv hn) (hr _ (B.OT hj hc he a v))
end
theorem Je.wu{P:Program}{h:Hp}{X:List Nat}{z:Nat}{ls:List (List AV)}{ks:AV}(r:Je h X z ls ks){i:Nat}{cs:List AV}(hi:ls[i]? =some cs): ∃c m off,ks=.sl c m off ls.length z∧c∉X∧ ∀(h':Hp) (Y:List Nat),Je h' Y z ls ks→
  (∀t,tk P t=.agg z→QN P t (.ptr c m (off+i *z)) h'=some (.agg cs))∧(∀t j v,tk P t=.one→cs[j]? =some v→QN P t (.ptr c m (off+i *z+j)) h'=some v)∧
  (∀t j n,tk P t=.agg n→j+n≤z→QN P t (.ptr c m (off+i *z+j)) h'=some (.agg ((cs.drop j).take n))):=by
 obtain⟨c,m,off,e,hX,_⟩:=r.load (P:=P) hi;refine⟨c,m,off,e,hX,fun h' Y r'=>?_⟩;obtain⟨c',m',off',e',_,k⟩:=r'.load (P:=P) hi;rw[e]at e'
 injection e' with e1 e2 e3
 subst e1 e2 e3;exact k
theorem Cm{α:Type}: ∀(j:Nat) (S:List α),(Ud j S).length=S.length
 |_,[]=>rfl
 |j,x::S=>by rw[Ud,List.length_cons,List.length_cons,Cm (j+1) S]
theorem uG{α:Type}{key:α→AV}{P:Program}{G:Env}{st:St}{K:List (Nat×AV)}{t:TypeId}{cm:Nat}{S:List α}{m:Operand}{tys:Array TypeId}{kt et:TypeId}(hu:P.underlying t=some (.map kt et))(htys:tys= #[t])(hH:(XZ cm key (Ud 0 S)).H st.h.get)(hm:QD G K m=some (.mp cm)):Uf P G K (.call {callee:=.builtin .len,args:= #[m],argTypes:=tys}) st (.int .i64 (S.length:Nat)) st:=by
 have h:=uF (key:=key) (L:=Ud 0 S) hu htys hH hm;rw[Cm]at h;exact h
def Zi(T:Nat)(S:JW)(a:Au)(rs:List Nat):Prop:= ∀(s r:Nat),rs[s]? =some r→r<S.length∧ ∀c,c<2^T→UF S r c=((a.go s c:Nat):Int)
theorem Zi.pre{T:Nat}{S':JW}{a:Au}(H:Zi T S a rs)(W:Zo T S)(h:S<+:S'):Zi T S' a rs:=fun s r hs=>by
 obtain⟨h1,h2⟩:=H s r hs;exact⟨Nat.lt_of_lt_of_le h1 h.length_le,fun c hc=>by rw[Yx W h h1];exact h2 c hc⟩
def HV(S:JW)(a:Au)(cl:List Int)(T:Nat)(ids:List Nat):Prop:= ∀(s r:Nat),ids[s]? =some r→r<S.length∧ ∀c,c<2^T→UF S r c=cv cl (a.go s c)
theorem HV.pre{T:Nat}{S':JW}{a:Au}(H:HV S a cl T ids)(W:Zo T S)(h:S<+:S'):HV S' a cl T ids:=fun s r hs=>by
 obtain⟨h1,h2⟩:=H s r hs;exact⟨Nat.lt_of_lt_of_le h1 h.length_le,fun c hc=>by rw[Yx W h h1];exact h2 c hc⟩
theorem HV.snoc{T:Nat}{a:Au}(H:HV S a cl T ids)(hr:r<S.length)(he: ∀c,c<2^T→UF S r c=cv cl (a.go ids.length c)):HV S a cl T (ids++[r]):=fun s q hs=>by
 by_cases hlt:s<ids.length
 ·rw[List.getElem?_append_left hlt]at hs;exact H s q hs
 ·have h3:=(List.getElem?_eq_some_iff.1 hs).1;rw[List.length_append,List.length_singleton]at h3
  have h4:s=ids.length:=by omega
  subst h4;rw[List.getElem?_append_right (Nat.le_refl _),Nat.sub_self]at hs
  injection hs with hs
  subst hs;exact⟨hr,he⟩
def LO(n:Nat)(cl:List Int)(ids:List Nat):List Int:=(List.range ids.length).map fun s=>(((ids[s]?).getD 0:Nat):Int) *((n:Nat):Int)+cv cl s
theorem V5(n:Nat)(cl:List Int)(ids:List Nat):(LO n cl ids).length=ids.length:=by simp[LO]
theorem Sn(n:Nat)(cl:List Int)(ids:List Nat)(r:Nat):LO n cl (ids++[r])=LO n cl ids++[((r:Nat):Int) *((n:Nat):Int)+cv cl ids.length]:=by
 unfold LO;rw[List.length_append,List.length_singleton,List.range_succ,List.map_append,List.map_singleton]
 congr 1
 ·refine List.map_congr_left fun s hs=>?_;rw[List.getElem?_append_left (List.mem_range.1 hs)]
 ·rw[List.getElem?_append_right (Nat.le_refl _),Nat.sub_self];rfl
theorem PV{s:Nat}(h:ids[s]? =some r):cv (LO n cl ids) s=((r:Nat):Int) *((n:Nat):Int)+cv cl s:=by
 have hlt:=(List.getElem?_eq_some_iff.1 h).1;unfold LO;rw[Pd (List.getElem?_range hlt),h];rfl
theorem D7{T:Nat}{a:Au}(W:Zo T S)(H:HV S a cl T ids)(hT:a.tr=T)(hl:ids.length=a.n)(hc: ∀s,s<a.n→0≤cv cl s∧cv cl s<((a.n:Nat):Int)):FF a cl (Jy [] (LO a.n cl ids)):=by
 refine⟨by rw[ZJ,V5,hl],fun s t hs ht=>?_⟩;obtain⟨r,hr⟩: ∃r,ids[s]? =some r:=⟨_,List.getElem?_eq_getElem Qe⟩;obtain⟨q,hq⟩: ∃r,ids[t]? =some r:=⟨_,List.getElem?_eq_getElem Qe⟩;obtain⟨h1,h2⟩:=H s r hr;obtain⟨h3,h4⟩:=H t q hq;rw[AW (by rw[V5,hl];exact hs) (by rw[V5,hl];exact ht),PV hr,PV hq,Mk (hc s hs) (hc t ht)];refine⟨fun⟨e1,e2⟩=>⟨e2,fun c hcK=>?_⟩,fun⟨e1,e2⟩=>⟨?_,e1⟩⟩
 ·have e1:r=q:=by omega
  subst e1
  have hcK:c<2^T:=by rw[←hT];exact hcK
  rw[←h2 c hcK,←h4 c hcK]
 ·have:=xH W h1 h3 fun c hcT=>by rw[h2 c hcT,h4 c hcT];exact e2 c (by unfold Au.K;rw[hT];exact hcT)
  rw[this]
theorem Zi.snoc{T:Nat}{a:Au}(H:Zi T S a rs)(hr:r<S.length)(he: ∀c,c<2^T→UF S r c=((a.go rs.length c:Nat):Int)):Zi T S a (rs++[r]):=fun s q hs=>by
 by_cases hlt:s<rs.length
 ·rw[List.getElem?_append_left hlt]at hs;exact H s q hs
 ·have h3:=(List.getElem?_eq_some_iff.1 hs).1;rw[List.length_append,List.length_singleton]at h3
  have h4:s=rs.length:=by omega
  subst h4;rw[List.getElem?_append_right (Nat.le_refl _),Nat.sub_self]at hs
  injection hs with hs
  subst hs;exact⟨hr,he⟩
theorem Zi.val{T:Nat}{a:Au}{s:Nat}(H:Zi T S a rs)(W:ZP a)(V:Zo T S)(ht:a.tr=T)(hs:s<a.n)(h:rs[s]? =some r)(c:Nat):0≤UF S r c∧UF S r c<((a.n:Nat):Int):=by
 have hc:c % 2^T<2^T:=Nat.mod_lt _ (Nat.two_pow_pos T);rw[←DW V,(H s r h).2 _ hc];have:=W.UJ hs (c:=c % 2^T) (by unfold Au.K;rw[ht];exact hc);omega
def Gy(a:Au)(i:Nat):List Int:=(List.range i).map fun s=>((Wh (a.ok s):Nat):Int)
theorem XC(a:Au)(i:Nat):(Gy a i).length=i:=by simp[Gy]
theorem Og(a:Au)(i:Nat):Gy a (i+1)=Gy a i++[((Wh (a.ok i):Nat):Int)]:=by unfold Gy;rw[List.range_succ,List.map_append];rfl
theorem Tv(a:Au):L6 a (Jy [] (Gy a a.n)):=KM (by rw[ZJ,XC]) fun s t hs ht=>by
 rw[AW (by rw[XC];exact hs) (by rw[XC];exact ht)];unfold Gy;rw[Pd (List.getElem?_range hs),Pd (List.getElem?_range ht)]
 cases a.ok s<;>cases a.ok t<;>decide
theorem PR(h:xs.length=n): ∀s,s<n→0≤cv (Jy [] xs) s∧cv (Jy [] xs) s<((n:Nat):Int):=fun s hs=>by
 have:=M1 (xs:=xs) (s:=s) Qe;omega
theorem xR{l:List Int}(hl:l.length=n)(h: ∀s,s<n→0≤cv l s∧cv l s<((n:Nat):Int))(z:Int)(hz:z∈l):0≤z∧z<((n:Nat):Int):=by
 obtain⟨s,hs⟩:=List.getElem?_of_mem hz;have hlt:=(List.getElem?_eq_some_iff.1 hs).1;have:=h s Qe;unfold cv at this;rw[hs]at this;exact this
theorem T8:Tryz.prog.underlying 246=some (.map 3 3):=by kernel_rfl

theorem HC{st:St}(hf:Qg st){kl:AV}(hl:Je st.h.get [] 1 (zC xs) kl)(hx:xs.length≤1000000): ∃v st',QR 256 [kl] st v st'∧ ∃kr,v=kr∧F9 st st' 1 kr (zC (Jy [] xs))∧Qt st st':=by
 have B:=Qj.start hf;have hlc:=hl.cell;refine Jq Tryz.func256 Tryz.ntmps256 fun T K=>?_;have M:=B.mem;refine Qb 1 K M fun _ K=>?_;replace B:=B.step M;refine Vm Ib K B rfl fun c9 _ _ K B=>?_;have M:=B.mem;refine Qb 3 K M fun _ K=>?_;refine p1 K (Q4 Js rfl rfl (hl.len.trans (congrArg some (Q0 _)))) fun _ K=>?_;refine Qb 1 K M fun _ K=>?_;refine QV (fun mm1 T st9=> ∃(i:Nat) (kr:AV) (A:QK),mm1=xs.length-i∧QE [(2,.nils),(3,.mp c9),(4,kr),(10,kl),(11,iZ (xs.length:Nat)),(12,iN i)] T∧Qj st WA st9 (A++[]) [XZ c9 Ib (Ud 0 (Jt [] (xs.take i)))]∧i≤xs.length∧Acc 0 1 A kr (zC (Jy [] (xs.take i)))) (fun mm1 T st9 hI=>?_) _ _ _ ⟨0,.nils,[],rfl,(K.sub rfl),(B.step M).less (.refl _),(Nat.zero_le _),(by rw[List.take_zero];exact .none)⟩;obtain⟨i,kr,A,rfl,K,B,hi,hA⟩:=hI;have M:=B.mem;refine Qb 1 K M fun _ K=>?_;refine Uk K rfl (fun h13=>?_) fun h13=>?_
 ·refine Qb 0 K M fun _ K=>?_;obtain⟨y14,hi14⟩:=YP xs i Qe;refine oI ((B.step M).Dq hf hl) (JA hi14) K QG Qq rfl rfl rfl fun _ _ _ _ K=>?_;refine Qb 3 K M fun _ K=>?_;refine p1 K (V2 (a:=y14) Ff ((B.step M).at_ (k:=0) rfl) rfl rfl) fun _ K=>?_;refine Qb 5 K M fun _ K=>?_
  have htk:xs.take (i+1)=xs.take i++[y14]:=by rw[List.take_add_one,hi14];rfl
  refine Qb 2 K M fun _ K=>?_;refine YU K rfl (fun h23=>?_) fun h23=>?_
  ·have hb23:=h23
   replace h23:((Uz (Ud 0 (Jt [] (xs.take i))) (y14)).isSome)=false:=by simpa using h23
   refine Qb 1 K M fun _ K=>?_;refine p1 K (uG T8 rfl ((B.step M).at_ (k:=0) rfl) rfl) fun _ K=>?_;refine Qb 4 K M fun _ K=>?_
   have hnone:Uz (Ud 0 (Jt [] (xs.take i))) y14=none:=by cases hq:Uz (Ud 0 (Jt [] (xs.take i))) y14 with|none=>rfl|some x=>rw[hq]at h23;cases h23
   have hnew:=I2 (xs.take i) [] (KB hnone);replace B:=B.step M;refine AG (j:=0) (a:=y14) K B rfl Ff rfl rfl rfl rfl hnone fun _ B=>?_;rw[show Ud 0 (Jt [] (xs.take i))++[(y14,iZ ((Jt [] (xs.take i)).length:Nat))]=Ud 0 (Jt [] (xs.take (i+1))) by rw[htk,hnew.2,E3,Nat.zero_add]]at B;have M:=B.mem;refine au 3 K M ?_;intro c31 _ _ K _ M;refine Jr (k2:=0) (L:=[(c31,0,[iZ ((Jt [] (xs.take i)).length:Nat)])]) (B:=[]) K M hA QT rfl rfl rfl rfl (by rw[Q0,ZJ,List.length_take];omega) rfl fun ks32 A32 _ _ K hA32 M=>?_;refine Qb 3 K M fun _ K=>?_
   have hout:Jy [] (xs.take (i+1))=Jy [] (xs.take i)++[(((Jt [] (xs.take i)).length:Nat):Int)]:=by rw[htk,hnew.1]
   exact⟨_,Qe,i+1,ks32,A32,rfl,(K.sub rfl),(B.step M).less (.cons _ (.refl _)),Qe,(by rw[hout,Us];exact hA32)⟩
  have hb23:=h23
  replace h23:((Uz (Ud 0 (Jt [] (xs.take i))) (y14)).isSome)=true:=by simpa using h23
  refine Qb 0 K M fun _ K=>?_
  obtain⟨v0,hv0⟩: ∃x,Uz (Ud 0 (Jt [] (xs.take i))) y14=some x:=by cases hq:Uz (Ud 0 (Jt [] (xs.take i))) y14 with|none=>rw[hq]at h23;cases h23|some x=>exact⟨x,rfl⟩
  obtain⟨j,hj,rfl⟩:=KA hv0;rw[hv0]at K;obtain⟨e1,e2⟩:=I1 (xs.take i) [] List.nodup_nil hj;refine au 3 K M ?_;intro c31 _ _ K _ M;refine Jr (k2:=0) (L:=[(c31,0,[iN j])]) (B:=[]) K M hA QT rfl rfl rfl rfl (by rw[Q0,ZJ,List.length_take];omega) rfl fun ks32 A32 _ _ K hA32 M=>?_;refine Qb 3 K M fun _ K=>?_
  have hout:Jy [] (xs.take (i+1))=Jy [] (xs.take i)++[((j:Nat):Int)]:=by rw[htk,e1]
  have hsn:Jt [] (xs.take (i+1))=Jt [] (xs.take i):=by rw[htk,e2]
  replace B:=B.step M;rw[←hsn]at B;have M:=B.mem;exact⟨_,Qe,i+1,ks32,A32,rfl,(K.sub rfl),(B.step M).less (.cons _ (.refl _)),Qe,(by rw[hout,Us];exact hA32)⟩
 refine QO ?_;show W _ _ _ _ _ _ _;refine Z7 ?_;rw[List.take_of_length_le Qe]at hA;refine Qb 2 K M ?_;exact⟨_,rfl,(B.step M).newRow hA (fun c m l h=>by simp[h]),(B.step M).qt⟩

theorem SQ{st:St}(hf:Qg st){ys:List Int}{ka kb:AV}(ha:Je st.h.get [] 1 (zC xs) ka)(hb:Je st.h.get [] 1 (zC ys) kb): ∃v st',QR 258 [ka,kb] st v st'∧v=.bool (decide (xs=ys))∧Qt st st':=by
 have hbnxs:(xs.length:Int)≤9223372036854775807:=by have:=ha.EA;rw[Q0]at this;exact this
 have hbnys:(ys.length:Int)≤9223372036854775807:=by have:=hb.EA;rw[Q0]at this;exact this
 refine Jq Tryz.func258 Tryz.ntmps258 fun T K=>?_;have M:=Mem.start hf;refine Qb 2 K M fun _ K=>?_;refine p1 K (Q4 Js rfl rfl (ha.len.trans (congrArg some (Q0 _)))) fun _ K=>?_;refine Qb 1 K M fun _ K=>?_;refine p1 K (Q4 Js rfl rfl (hb.len.trans (congrArg some (Q0 _)))) fun _ K=>?_;refine Qb 1 K M fun _ K=>?_;refine YU K rfl (fun h10=>?_) fun h10=>?_
 ·have hb10:=h10
  replace h10: ¬(((xs.length:Nat):Int)=((ys.length:Nat):Int)):=by first|exact of_decide_eq_false h10|exact yF h10|simpa using h10
  refine Qb 1 K M ?_;refine⟨congrArg AV.bool ?_,M.qt⟩;refine(decide_eq_false fun e=>?_).symm;subst e
  first|(exact h10 rfl)|(rw[hi18]at hi22;injection hi22 with e;exact h24 Qe)
 have hb10:=h10
 replace h10:(((xs.length:Nat):Int)=((ys.length:Nat):Int)):=by first|exact of_decide_eq_true h10|exact yT h10|simpa using h10
 refine Qb 1 K M fun _ K=>?_;refine p1 K (Q4 Js rfl rfl (ha.len.trans (congrArg some (Q0 _)))) fun _ K=>?_;refine Qb 1 K M fun _ K=>?_;refine QV (fun mm1 T st9=> ∃(i:Nat),mm1=xs.length-i∧QE [(0,ka),(1,kb),(12,iZ (xs.length:Nat)),(13,iN i)] T∧Mem st.h.get st.n [] st9 []∧i≤xs.length∧(∀j,j<i→xs[j]? =ys[j]?)) (fun mm1 T st9 hI=>?_) _ _ _ ⟨0,rfl,(K.sub rfl),M.less (.refl _),(Nat.zero_le _),(fun j hj=>absurd hj (Nat.not_lt_zero j))⟩;obtain⟨i,rfl,K,M,hi,hs⟩:=hI;refine Qb 1 K M fun _ K=>?_;refine Uk K rfl (fun h14=>?_) fun h14=>?_
 ·refine Qb 2 K M fun _ K=>?_;refine QQ (l:=[(0,0),(1,0),(2,0),(3,0),(4,0),(5,0),(6,0),(7,0),(8,0)]) (by kernel_rfl) ?_;refine Yd 2 K M fun _ K=>?_;obtain⟨y18,hi18⟩:=YP xs i Qe;refine dI rfl rfl (Je.mem M ha Qx) (JA hi18) K QG Qq rfl rfl rfl fun _ _ _ _ K=>?_;refine Yd 2 K M fun _ K=>?_;obtain⟨y22,hi22⟩:=YP ys i Qe;refine dI rfl rfl (Je.mem M hb Qx) (JA hi22) K QG Qq rfl rfl rfl fun _ _ _ _ K=>?_;refine q1 rfl K (D1 rfl rfl) fun _ K=>Jf ?_;show W _ _ _ _ _ _ _;refine YU K rfl (fun h24=>?_) fun h24=>?_
  ·have hb24:=h24
   replace h24: ¬(y18=y22):=by first|exact of_decide_eq_false h24|exact yF h24|simpa using h24
   refine Qb 1 K M ?_;refine⟨congrArg AV.bool ?_,M.qt⟩;refine(decide_eq_false fun e=>?_).symm;subst e
   first|(exact h10 rfl)|(rw[hi18]at hi22;injection hi22 with e;exact h24 Qe)
  have hb24:=h24
  replace h24:(y18=y22):=by first|exact of_decide_eq_true h24|exact yT h24|simpa using h24
  refine Qb 2 K M fun _ K=>?_;exact⟨_,Qe,i+1,rfl,(K.sub rfl),M.less (.refl _),Qe,(fun j hj=>by by_cases e:j=i;subst e;rw[hi18,hi22];exact congrArg some Qe;exact hs j Qe)⟩
 refine QO ?_;show W _ _ _ _ _ _ _;refine Qb 1 K M ?_;refine⟨congrArg AV.bool ?_,M.qt⟩;refine(decide_eq_true ?_).symm;apply List.ext_getElem?;intro j
 by_cases hj:j<xs.length
 ·exact hs j Qe
 ·rw[List.getElem?_eq_none Qe,List.getElem?_eq_none Qe]

theorem Dp{st:St}(hf:Qg st){FD F:Fp}{dp sp:Nat}{a:Au}(hD:JH st FD dp a)(hS:Y0 st F sp a.tr S)(hdF: ∀c,FD c→ ¬F c)(wfS0:Zo a.tr S){kr:AV}(hR:Je st.h.get [] 1 (zC (zN rs)) kr)(offR: ∀c m o n y,kr=.sl c m o n y→ ¬F c)(hrl:rs.length=a.n)(hrs:Zi a.tr S a rs){kc:AV}(hC:Je st.h.get [] 1 (zC cl) kc)(hcl:cl.length=a.n)(hcv: ∀s,s<a.n→0≤cv cl s∧cv cl s<((a.n:Nat):Int))(offC: ∀c m o n y,kc=.sl c m o n y→ ¬F c)(hlen:S.length+a.n *127≤1000000000): ∃v st',QR 257 [.ptr dp 0 0,.ptr sp 0 0,kr,kc] st v st'∧ ∃kr' S' out st2,v=kr'∧ZW st st2 F sp a.tr S'∧Qt st2 st'∧F9 st2 st' 1 kr' (zC (Jy [] out))∧S<+:S'∧Zo a.tr S'∧S'.length≤S.length+a.n *127∧out.length=a.n∧FF a cl (Jy [] out):=by
 have wf:=hD.wf;have htr:=wf.tr;have hmo:=wf.most;have h127:2^(a.tr+1)≤128:=Nat.pow_le_pow_right Q8 (by omega:a.tr+1≤7);have hrc:=hR.cell;have hkc:=hC.cell
 have hbr:(rs.length:Int)≤9223372036854775807:=by omega
 have hn127: ∀k,k≤a.n→k *127≤a.n *127:=fun k hk=>Nat.mul_le_mul_right _ hk;have B:=Qj.UR (o:=ZC F sp a.tr S) hf hS.at_ hS.hi;refine Jq Tryz.func257 Tryz.ntmps257 fun T K=>?_;have M:=B.mem;refine Qb 3 K M fun _ K=>?_;refine p1 K (Q4 Js rfl rfl (hR.len.trans (congrArg some (by rw[Q0,List.length_map])))) fun _ K=>?_;refine Qb 1 K M fun _ K=>?_;refine QV (fun mm1 T st9=> ∃(i:Nat) (ids:List Nat) (S2:JW) (F2:Fp) (ko:AV) (A:QK),mm1=rs.length-i∧QE [(0,.ptr dp 0 0),(1,.ptr sp 0 0),(3,kc),(8,.nils),(9,ko),(12,kr),(13,iZ (rs.length:Nat)),(14,iN i)] T∧Qj st (ZC F sp a.tr S).F st9 (A++[]) [ZC F2 sp a.tr S2]∧ids.length=i∧i≤rs.length∧HV S2 a cl a.tr ids∧S<+:S2∧Zo a.tr S2∧S2.length≤S.length+i *127∧Acc 0 1 A ko (zC (LO a.n cl ids))) (fun mm1 T st9 hI=>?_) _ _ _ ⟨0,[],S,F,.nils,[],rfl,(K.sub rfl),(B.step M).less (.refl _),rfl,(Nat.zero_le _),(fun s r h=>by simp at h),(List.prefix_refl _),wfS0,Qe,.none⟩;obtain⟨i,ids,S2,F2,ko,A,rfl,K,B,hil,hi,himg,hpre,wfS,hSl,hA⟩:=hI;have M:=B.mem;have hni:=hn127 i Qe;refine Qb 1 K M fun _ K=>?_;refine Uk K rfl (fun h15=>?_) fun h15=>?_
 ·refine Qb 1 K M fun _ K=>?_;obtain⟨y17,hi17⟩:=YP rs i Qe;refine oI ((B.step M).rd hf hR offR) (IH hi17) K QG Qq rfl rfl rfl fun _ _ _ _ K=>?_;refine Qb 2 K M fun _ K=>?_;refine QQ (l:=[(1,0),(2,0),(3,0),(4,0),(5,0),(6,0),(0,0),(7,0),(8,0),(9,0),(10,0),(11,2),(12,0),(13,0),(14,0),(15,0)]) (by kernel_rfl) ?_;have Mq:=M;have Mz0:=M;have Bz0:=B;refine Yd 3 K M fun _ K=>?_;replace B:=B.step M;have hRi:=hrs.pre wfS0 hpre;have hr17:=hRi i y17 hi17;have hvl:=hRi.val wf wfS rfl Qe hi17;obtain⟨v23,st23,ev23,r1,S3,rfl,hout,mb,hev⟩:=Mf B.fresh (B.H6 (k:=0) rfl) wf.tr wfS hr17.1 (B.rd hf hC offC) (B.off (k:=0) rfl hf hC offC) (fun z hz=>by have:=xR hcl hcv z hz;omega) (fun c=>by rw[hcl];exact hvl c) Qe;refine qA rfl K (Qf rfl ev23) fun _ K=>?_;obtain⟨F3,B⟩:=B.XP hout;have M:=B.mem;have hmbl:=mb.len;have hmlt:=mb.lt
  have hrn:0≤((r1:Nat):Int) *((a.n:Nat):Int)∧((r1:Nat):Int) *((a.n:Nat):Int)≤400000000000:=by
   have h1:=Nat.mul_le_mul (show r1≤1000000000 by omega) (show a.n≤400 from hmo);rw[←Int.natCast_mul];omega
  have Mp:=Mq;have Mq:=M;have Mz1:=M;have Bz1:=B;refine q1 rfl K (QA rfl) fun _ K=>?_;obtain⟨v25,st25,ev25,rfl,q25⟩:=E5 M.fresh (hD.Lm (B.step M).U7 hdF);refine qA rfl K (Qf rfl ev25) fun _ K=>?_;replace M:=M.quiet q25;have Mp:=Mq;have Mq:=M;have Mz2:=M;have Bz2:=B;refine q1 rfl K (QA rfl) fun _ K=>q1 rfl K (PM (c:=((r1:Nat):Int) *((a.n:Nat):Int)) rfl rfl (IntWalk.i64_in _ Qe)) fun _ K=>?_;refine Yd 2 K M fun _ K=>?_;obtain⟨y29,hi29⟩:=YP cl i Qe
  have hcy29:cv cl i=y29:=by unfold cv;rw[hi29];rfl
  have hcb29:=hcv i Qe;obtain⟨x29,m29,f29,q29,_,lf29⟩:=Je.wu ((B.step M).rd hf hC offC) (i:=i) (cs:=_) (JA hi29);refine q1 rfl K (Qs (j:=i) QG (congrArg some q29) rfl (by rw[Q0];omega)) fun _ K=>?_
  refine Vp rfl K rfl ((lf29 _ _ ((B.step M).rd hf hC offC)).2.1 _ 0 _ Qq rfl) Qx (by intro s hs;simp only[List.take_succ_cons,List.take_zero,List.mem_cons,List.not_mem_nil,or_false]at hs;rcases hs with rfl|rfl<;>first|exact((lf29 _ _ ((Bz1.step Mz1).rd hf hC offC)).2.1 _ 0 _ Qq rfl)|exact((lf29 _ _ ((Bz0.step Mz0).rd hf hC offC)).2.1 _ 0 _ Qq rfl)) (Ua rfl) rfl Q8 fun _ K=>?_
  refine Yd 1 K M fun _ K=>?_;refine H2 rfl K M QT FI rfl rfl rfl rfl rfl fun c32 _ _ K M=>?_;refine Vq (k2:=0) (L:=[(c32,0,[iZ (((((r1:Nat):Int) *((a.n:Nat):Int))+y29))])]) (B:=[]) rfl K M hA QT rfl rfl rfl rfl (by rw[Q0,V5];omega) rfl fun ks33 A33 _ _ K hA33 M=>?_;have Mp:=Mq;have Mq:=M;have Mz3:=M;have Bz3:=B;refine q1 rfl K (Yo rfl) fun _ K=>Jf ?_;show W _ _ _ _ _ _ _;refine Qb 2 K M fun _ K=>?_;have hni2:=hn127 (i+1) Qe;exact⟨_,Qe,i+1,(ids++[r1]),S3,F3,ks33,A33,rfl,(K.sub rfl),(B.step M).less (.cons _ (.refl _)),(by rw[List.length_append,hil];rfl),Qe,((himg.pre wfS mb.pre).snoc mb.lt (fun c hc=>by rw[hev,hr17.2 c hc,hil,Int.toNat_natCast])),(hpre.trans mb.pre),mb.wf,Qe,(by rw[Sn,hil,hcy29,Us];exact hA33)⟩
 refine QO ?_;show W _ _ _ _ _ _ _;refine Qb 1 K M fun _ K=>?_;replace B:=B.step M;have B9:=B;obtain⟨v36,st36,ev36,kr9,rfl,nr9,q9⟩:=HC B.fresh (Mem.Zj (L:=[]) (B:=[]) M hA) (by rw[V5];omega);refine p1 K (Qf rfl ev36) fun _ K=>?_;replace B:=B.quiet q9;have M:=B.mem;refine Qb 1 K M ?_
 have hin:i=a.n:=by omega
 exact⟨_,S2,LO a.n cl ids,_,rfl,B9.Kk,q9,nr9,hpre,wfS,by rw[hin]at hSl;exact hSl,by rw[V5];omega,D7 wfS himg rfl Qe hcv⟩
end
end Go.Proofs.YtildagdnomiahaaGreatDoor
