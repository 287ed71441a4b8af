/-
  The reference's classes and least automaton.
-/
import Derived.Test.YtildagdnomiahaaGreatDoorQvPpm
import Derived.Test.YtildagdnomiahaaGreatDoorQvPrd
set_option maxRecDepth 100000
set_option maxHeartbeats 8000000
set_option linter.unnecessarySimpa false
set_option linter.unusedSectionVars false
set_option linter.unusedSimpArgs false
set_option linter.unusedVariables false
namespace Go.Proofs.YtildagdnomiahaaGreatDoor
open Go Go.RowKit
section

theorem Ql.newRow{st0 st:St}{M A:QP}{Os:List Ob}{z:Nat}{ks:AV}{ls:List (List AV)}(B:Ql st0 Ei st M Os)(hA:Acc 0 z A ks ls)(hs: ∀c m l,(c,m,l)∈A→(c,m,l)∈M):HB st0 st z ks ls:=by
 refine⟨A,?_,fun c m l hm=>B.row c m l (hs c m l hm)⟩
 cases hA with
 |none=>exact .none
 |own h1 h2 h3=>exact .own ((B.lo _ _ _ (hs _ _ _ (List.mem_cons_self ..))).resolve_right id) h2 h3

end
section
variable {S:Uf} {cl xs:List Int} {ids rs:List Nat} {n r:Nat}

section
variable {α:Type} {key:α→AV} {P:Program} {G:Env} {N:Nat} {st0 st:St} {X0:Fp} {M:QP} {Os:List Ob} {T:Tr AV} {ops rest:List Oper} {K:List (Nat×AV)} {R:Tr AV→St→Prop} {t ty:TypeId} {pos:String} {af:Array Edge} {z v:AV} {cm j:Nat} {L:List (α×AV)} {a:α} {m k x:Operand}
theorem xH{tys:Array TypeId}{kt et:TypeId}(hu:P.underlying t=some (.map kt et))(htys:tys= #[t])(hH:(VB cm key L).H st.h.get)(hm:QG G K m=some (.mp cm)):Us P G K (.call {callee:=.builtin .len,args:= #[m],argTypes:=tys}) st (.int .i64 (L.length:Nat)) st:=.of fun T' hT c d ty pos af g=>by
 subst htys;obtain⟨es,n,hc,he⟩:=hH
 have hl:es.length=L.length:=by have:=congrArg List.length he;rwa [List.length_map,List.length_map]at this
 show Qj (Ze P [t]) (ob (QN G T' m) fun x=>ret (Bu x st.h.get) st) _=_;rw[show Ze P [t]=true by unfold Ze;simp only[hu],Qv,hT.QN hm,Qg];show ret (ob (st.h.get cm) _) st=_;rw[hc,Qg];simp only[QE,JC,hl];rfl
theorem xJ(Tk:Vo P t key z){es:List (AV×AV×Nat)}(hc:st.h.get cm=some (.map es n))(he:NJ key es L)(hm:QG G K m=some (.mp cm))(hk:QG G K k=some (key a))(hx:QG G K x=some v)(hv:Qw v=true)(hn:U9 L a=none):
  Us P G K (.insert t m k x) st (.tup []) (E6 st cm n es (key a) v):=.of fun T' hT c d ty pos af g=>by
 obtain⟨kt,et,d',u1,u2,u3,u4,u5,u6⟩:=Tk.rule;show(ob (QN G T' m) fun m=>ob (QN G T' k) fun k=>ob (QN G T' x) fun x=>YV P t m k x st)=_;rw[hT.QN hm,hT.QN hk,hT.QN hx,Qg,Qg,Qg];unfold YV E6;obtain⟨f1,f2⟩:=Vo.find (P:=P) (t:=t) (z:=z) (et:=et) u5 u6 a L es 0 he;simp only[u1,u2,u4,Q7,hc,Qg,f1 hn,hv,Bool.true_or,J1,JD,QE,Ui]
theorem zF(hK:QH K T)(B:Ql st0 X0 st M Os)(hj:Os[j]? =some (VB cm key L))(Tk:Vo P t key z)(hm:QG G K m=some (.mp cm))(hk:QG G K k=some (key a))(hx:QG G K x=some v)(hv:Qw v=true)(hn:U9 L a=none)
  (hr: ∀st',Ql st0 X0 st' M (Os.set j (VB cm key (L++[(a,v)])))→WR P G N ops rest R T st'):WR P G N ops (⟨none,.insert t m k x,ty,pos,af,none⟩::rest) R T st:=by
 obtain⟨es,n,hc,he⟩:=B.at_ hj;exact Sg hK (xJ Tk hc he hm hk hx hv hn) (hr _ (B.Bo hj hc he a v))
end
theorem Jg.iU{P:Program}{h:Hp}{X:List Nat}{z:Nat}{ls:List (List AV)}{ks:AV}(r:Jg h X z ls ks){i:Nat}{cs:List AV}(hi:ls[i]? =some cs): ∃c m off,ks=.sl c m off ls.length z∧c∉X∧ ∀(h':Hp) (Y:List Nat),Jg h' Y z ls ks→
  (∀t,tk P t=.agg z→QF P t (.ptr c m (off+i *z)) h'=some (.agg cs))∧(∀t j v,tk P t=.one→cs[j]? =some v→QF P t (.ptr c m (off+i *z+j)) h'=some v)∧
  (∀t j n,tk P t=.agg n→j+n≤z→QF P t (.ptr c m (off+i *z+j)) h'=some (.agg ((cs.drop j).take n))):=by
 obtain⟨c,m,off,e,hX,_⟩:=r.load (P:=P) hi;refine⟨c,m,off,e,hX,fun h' Y r'=>?_⟩;obtain⟨c',m',off',e',_,k⟩:=r'.load (P:=P) hi;rw[e]at e'
 injection e' with e1 e2 e3
 subst e1 e2 e3;exact k
theorem DP{α:Type}: ∀(j:Nat) (S:List α),(Uo j S).length=S.length
 |_,[]=>rfl
 |j,x::S=>by rw[Uo,List.length_cons,List.length_cons,DP (j+1) S]
theorem xI{α:Type}{key:α→AV}{P:Program}{G:Env}{st:St}{K:List (Nat×AV)}{t:TypeId}{cm:Nat}{S:List α}{m:Operand}{tys:Array TypeId}{kt et:TypeId}(hu:P.underlying t=some (.map kt et))(htys:tys= #[t])(hH:(VB cm key (Uo 0 S)).H st.h.get)(hm:QG G K m=some (.mp cm)):Us P G K (.call {callee:=.builtin .len,args:= #[m],argTypes:=tys}) st (.int .i64 (S.length:Nat)) st:=by
 have h:=xH (key:=key) (L:=Uo 0 S) hu htys hH hm;rw[DP]at h;exact h
def Z8(T:Nat)(S:Uf)(a:Au)(rs:List Nat):Prop:= ∀(s r:Nat),rs[s]? =some r→r<S.length∧ ∀c,c<2^T→US S r c=((a.go s c:Nat):Int)
theorem Z8.pre{T:Nat}{S':Uf}{a:Au}(H:Z8 T S a rs)(W:ZI T S)(h:S<+:S'):Z8 T S' a rs:=fun s r hs=>by
 obtain⟨h1,h2⟩:=H s r hs;exact⟨Nat.lt_of_lt_of_le h1 h.length_le,fun c hc=>by rw[YF W h h1];exact h2 c hc⟩
def Ka(S:Uf)(a:Au)(cl:List Int)(T:Nat)(ids:List Nat):Prop:= ∀(s r:Nat),ids[s]? =some r→r<S.length∧ ∀c,c<2^T→US S r c=cv cl (a.go s c)
theorem Ka.pre{T:Nat}{S':Uf}{a:Au}(H:Ka S a cl T ids)(W:ZI T S)(h:S<+:S'):Ka S' a cl T ids:=fun s r hs=>by
 obtain⟨h1,h2⟩:=H s r hs;exact⟨Nat.lt_of_lt_of_le h1 h.length_le,fun c hc=>by rw[YF W h h1];exact h2 c hc⟩
theorem Ka.snoc{T:Nat}{a:Au}(H:Ka S a cl T ids)(hr:r<S.length)(he: ∀c,c<2^T→US S r c=cv cl (a.go ids.length c)):Ka S a cl T (ids++[r]):=fun s q hs=>by
 by_cases hlt:s<ids.length
 ·rw[List.getElem?_append_left hlt]at hs;exact H s q hs
 ·have h3:=(List.getElem?_eq_some_iff.1 hs).1;rw[List.length_append,List.length_singleton]at h3
  have h4:s=ids.length:=by omega
  subst h4;rw[List.getElem?_append_right (Nat.le_refl _),Nat.sub_self]at hs
  injection hs with hs
  subst hs;exact⟨hr,he⟩
def NZ(n:Nat)(cl:List Int)(ids:List Nat):List Int:=(List.range ids.length).map fun s=>(((ids[s]?).getD 0:Nat):Int) *((n:Nat):Int)+cv cl s
theorem Wh(n:Nat)(cl:List Int)(ids:List Nat):(NZ n cl ids).length=ids.length:=by simp[NZ]
theorem Mm(n:Nat)(cl:List Int)(ids:List Nat)(r:Nat):NZ n cl (ids++[r])=NZ n cl ids++[((r:Nat):Int) *((n:Nat):Int)+cv cl ids.length]:=by
 unfold NZ;rw[List.length_append,List.length_singleton,List.range_succ,List.map_append,List.map_singleton]
 congr 1
 ·refine List.map_congr_left fun s hs=>?_;rw[List.getElem?_append_left (List.mem_range.1 hs)]
 ·rw[List.getElem?_append_right (Nat.le_refl _),Nat.sub_self];rfl
theorem SD{s:Nat}(h:ids[s]? =some r):cv (NZ n cl ids) s=((r:Nat):Int) *((n:Nat):Int)+cv cl s:=by
 have hlt:=(List.getElem?_eq_some_iff.1 h).1;unfold NZ;rw[RI (List.getElem?_range hlt),h];rfl
theorem Rh{T:Nat}{a:Au}(W:ZI T S)(H:Ka S a cl T ids)(hT:a.tr=T)(hl:ids.length=a.n)(hc: ∀s,s<a.n→0≤cv cl s∧cv cl s<((a.n:Nat):Int)):HD a cl (J4 [] (NZ a.n cl ids)):=by
 refine⟨by rw[Xo,Wh,hl],fun s t hs ht=>?_⟩;obtain⟨r,hr⟩: ∃r,ids[s]? =some r:=⟨_,List.getElem?_eq_getElem Qd⟩;obtain⟨q,hq⟩: ∃r,ids[t]? =some r:=⟨_,List.getElem?_eq_getElem Qd⟩;obtain⟨h1,h2⟩:=H s r hr;obtain⟨h3,h4⟩:=H t q hq;rw[Hb (by rw[Wh,hl];exact hs) (by rw[Wh,hl];exact ht),SD hr,SD hq,jD (hc s hs) (hc t ht)];refine⟨fun⟨e1,e2⟩=>⟨e2,fun c hcK=>?_⟩,fun⟨e1,e2⟩=>⟨?_,e1⟩⟩
 ·have e1:r=q:=by omega
  subst e1
  have hcK:c<2^T:=by rw[←hT];exact hcK
  rw[←h2 c hcK,←h4 c hcK]
 ·have:=aO W h1 h3 fun c hcT=>by rw[h2 c hcT,h4 c hcT];exact e2 c (by unfold Au.K;rw[hT];exact hcT)
  rw[this]
theorem Z8.snoc{T:Nat}{a:Au}(H:Z8 T S a rs)(hr:r<S.length)(he: ∀c,c<2^T→US S r c=((a.go rs.length c:Nat):Int)):Z8 T S a (rs++[r]):=fun s q hs=>by
 by_cases hlt:s<rs.length
 ·rw[List.getElem?_append_left hlt]at hs;exact H s q hs
 ·have h3:=(List.getElem?_eq_some_iff.1 hs).1;rw[List.length_append,List.length_singleton]at h3
  have h4:s=rs.length:=by omega
  subst h4;rw[List.getElem?_append_right (Nat.le_refl _),Nat.sub_self]at hs
  injection hs with hs
  subst hs;exact⟨hr,he⟩
theorem Z8.val{T:Nat}{a:Au}{s:Nat}(H:Z8 T S a rs)(W:Xu a)(V:ZI T S)(ht:a.tr=T)(hs:s<a.n)(h:rs[s]? =some r)(c:Nat):0≤US S r c∧US S r c<((a.n:Nat):Int):=by
 have hc:c % 2^T<2^T:=Nat.mod_lt _ (Nat.two_pow_pos T);rw[←R7 V,(H s r h).2 _ hc];have:=W.Ya hs (c:=c % 2^T) (by unfold Au.K;rw[ht];exact hc);omega
def BW(a:Au)(i:Nat):List Int:=(List.range i).map fun s=>((WS (a.ok s):Nat):Int)
theorem Vk(a:Au)(i:Nat):(BW a i).length=i:=by simp[BW]
theorem G1(a:Au)(i:Nat):BW a (i+1)=BW a i++[((WS (a.ok i):Nat):Int)]:=by unfold BW;rw[List.range_succ,List.map_append];rfl
theorem qj(a:Au):NI a (J4 [] (BW a a.n)):=Na (by rw[Xo,Vk]) fun s t hs ht=>by
 rw[Hb (by rw[Vk];exact hs) (by rw[Vk];exact ht)];unfold BW;rw[RI (List.getElem?_range hs),RI (List.getElem?_range ht)]
 cases a.ok s<;>cases a.ok t<;>decide
theorem S8(h:xs.length=n): ∀s,s<n→0≤cv (J4 [] xs) s∧cv (J4 [] xs) s<((n:Nat):Int):=fun s hs=>by
 have:=jU (xs:=xs) (s:=s) Qd;omega
theorem aZ{l:List Int}(hl:l.length=n)(h: ∀s,s<n→0≤cv l s∧cv l s<((n:Nat):Int))(z:Int)(hz:z∈l):0≤z∧z<((n:Nat):Int):=by
 obtain⟨s,hs⟩:=List.getElem?_of_mem hz;have hlt:=(List.getElem?_eq_some_iff.1 hs).1;have:=h s Qd;unfold cv at this;rw[hs]at this;exact this
theorem qC:Tryz.prog.underlying 246=some (.map 3 3):=by kernel_rfl

theorem IL{st:St}(hf:Qh st){kl:AV}(hl:Jg st.h.get [] 1 (zC xs) kl)(hx:xs.length≤1000000): ∃v st',QV 256 [kl] st v st'∧ ∃kr,v=kr∧HB st st' 1 kr (zC (J4 [] xs))∧Qt st st':=by
 have B:=Ql.start hf;have hlc:=hl.cell;refine Jv Tryz.func256 Tryz.ntmps256 fun T K=>?_;have M:=B.mem;refine Qb 1 K M fun _ K=>?_;replace B:=B.step M;refine VN Ki K B rfl fun c9 _ _ K B=>?_;have M:=B.mem;refine Qb 3 K M fun _ K=>?_;refine p1 K (Q0 Jm rfl rfl (hl.len.trans (congrArg some (Qy _)))) fun _ K=>?_;refine Qb 1 K M fun _ K=>?_;refine Je (fun mm1 T st9=> ∃(i:Nat) (kr:AV) (A:QP),mm1=xs.length-i∧QH [(2,.nils),(3,.mp c9),(4,kr),(10,kl),(11,iZ (xs.length:Nat)),(12,iN i)] T∧Ql st Ei st9 (A++[]) [VB c9 Ki (Uo 0 (J0 [] (xs.take i)))]∧i≤xs.length∧Acc 0 1 A kr (zC (J4 [] (xs.take i)))) (fun mm1 T st9 hI=>?_) _ _ _ ⟨0,.nils,[],rfl,(K.sub rfl),(B.step M).less (.refl _),(Nat.zero_le _),(by rw[List.take_zero];exact .none)⟩;obtain⟨i,kr,A,rfl,K,B,hi,hA⟩:=hI;have M:=B.mem;refine Qb 1 K M fun _ K=>?_;refine U8 K rfl (fun h13=>?_) fun h13=>?_
 ·refine Qb 0 K M fun _ K=>?_;obtain⟨y14,hi14⟩:=YL xs i Qd;refine oI ((B.step M).Cf hf hl) (JG hi14) K QD Qs rfl rfl rfl fun _ _ _ _ K=>?_;refine Qb 3 K M fun _ K=>?_;refine p1 K (Wd (a:=y14) Hi ((B.step M).at_ (k:=0) rfl) rfl rfl) fun _ K=>?_;refine Qb 5 K M fun _ K=>?_
  have htk:xs.take (i+1)=xs.take i++[y14]:=by rw[List.take_add_one,hi14];rfl
  refine Qb 2 K M fun _ K=>?_;refine UJ K rfl (fun h23=>?_) fun h23=>?_
  ·have hb23:=h23
   replace h23:((U9 (Uo 0 (J0 [] (xs.take i))) (y14)).isSome)=false:=by simpa using h23
   refine Qb 1 K M fun _ K=>?_;refine p1 K (xI qC rfl ((B.step M).at_ (k:=0) rfl) rfl) fun _ K=>?_;refine Qb 4 K M fun _ K=>?_
   have hnone:U9 (Uo 0 (J0 [] (xs.take i))) y14=none:=by cases hq:U9 (Uo 0 (J0 [] (xs.take i))) y14 with|none=>rfl|some x=>rw[hq]at h23;cases h23
   have hnew:=KH (xs.take i) [] (LP hnone);replace B:=B.step M;refine FJ (j:=0) (a:=y14) K B rfl Hi rfl rfl rfl rfl hnone fun _ B=>?_;rw[show Uo 0 (J0 [] (xs.take i))++[(y14,iZ ((J0 [] (xs.take i)).length:Nat))]=Uo 0 (J0 [] (xs.take (i+1))) by rw[htk,hnew.2,A9,Nat.zero_add]]at B;have M:=B.mem;refine au 3 K M ?_;intro c31 _ _ K _ M;refine Jx (k2:=0) (L:=[(c31,0,[iZ ((J0 [] (xs.take i)).length:Nat)])]) (B:=[]) K M hA QR rfl rfl rfl rfl (by rw[Qy,Xo,List.length_take];omega) rfl fun ks32 A32 _ _ K hA32 M=>?_;refine Qb 3 K M fun _ K=>?_
   have hout:J4 [] (xs.take (i+1))=J4 [] (xs.take i)++[(((J0 [] (xs.take i)).length:Nat):Int)]:=by rw[htk,hnew.1]
   exact⟨_,Qd,i+1,ks32,A32,rfl,(K.sub rfl),(B.step M).less (.cons _ (.refl _)),Qd,(by rw[hout,JJ];exact hA32)⟩
  have hb23:=h23
  replace h23:((U9 (Uo 0 (J0 [] (xs.take i))) (y14)).isSome)=true:=by simpa using h23
  refine Qb 0 K M fun _ K=>?_
  obtain⟨v0,hv0⟩: ∃x,U9 (Uo 0 (J0 [] (xs.take i))) y14=some x:=by cases hq:U9 (Uo 0 (J0 [] (xs.take i))) y14 with|none=>rw[hq]at h23;cases h23|some x=>exact⟨x,rfl⟩
  obtain⟨j,hj,rfl⟩:=LO hv0;rw[hv0]at K;obtain⟨e1,e2⟩:=KG (xs.take i) [] List.nodup_nil hj;refine au 3 K M ?_;intro c31 _ _ K _ M;refine Jx (k2:=0) (L:=[(c31,0,[iN j])]) (B:=[]) K M hA QR rfl rfl rfl rfl (by rw[Qy,Xo,List.length_take];omega) rfl fun ks32 A32 _ _ K hA32 M=>?_;refine Qb 3 K M fun _ K=>?_
  have hout:J4 [] (xs.take (i+1))=J4 [] (xs.take i)++[((j:Nat):Int)]:=by rw[htk,e1]
  have hsn:J0 [] (xs.take (i+1))=J0 [] (xs.take i):=by rw[htk,e2]
  replace B:=B.step M;rw[←hsn]at B;have M:=B.mem;exact⟨_,Qd,i+1,ks32,A32,rfl,(K.sub rfl),(B.step M).less (.cons _ (.refl _)),Qd,(by rw[hout,JJ];exact hA32)⟩
 refine QM ?_;show W _ _ _ _ _ _ _;refine Xc ?_;rw[List.take_of_length_le Qd]at hA;refine Qb 2 K M ?_;exact⟨_,rfl,(B.step M).newRow hA (fun c m l h=>by simp[h]),(B.step M).qt⟩

theorem MO{st:St}(hf:Qh st){ys:List Int}{ka kb:AV}(ha:Jg st.h.get [] 1 (zC xs) ka)(hb:Jg st.h.get [] 1 (zC ys) kb): ∃v st',QV 258 [ka,kb] st v st'∧v=.bool (decide (xs=ys))∧Qt st st':=by
 have hbnxs:(xs.length:Int)≤9223372036854775807:=by have:=ha.AW;rw[Qy]at this;exact this
 have hbnys:(ys.length:Int)≤9223372036854775807:=by have:=hb.AW;rw[Qy]at this;exact this
 refine Jv Tryz.func258 Tryz.ntmps258 fun T K=>?_;have M:=Mem.start hf;refine Qb 2 K M fun _ K=>?_;refine p1 K (Q0 Jm rfl rfl (ha.len.trans (congrArg some (Qy _)))) fun _ K=>?_;refine Qb 1 K M fun _ K=>?_;refine p1 K (Q0 Jm rfl rfl (hb.len.trans (congrArg some (Qy _)))) fun _ K=>?_;refine Qb 1 K M fun _ K=>?_;refine UJ K rfl (fun h10=>?_) fun h10=>?_
 ·have hb10:=h10
  replace h10: ¬(((xs.length:Nat):Int)=((ys.length:Nat):Int)):=by first|exact of_decide_eq_false h10|exact yF h10|simpa using h10
  refine Qb 1 K M ?_;refine⟨congrArg AV.bool ?_,M.qt⟩;refine(decide_eq_false fun e=>?_).symm;subst e
  first|(exact h10 rfl)|(rw[hi18]at hi22;injection hi22 with e;exact h24 Qd)
 have hb10:=h10
 replace h10:(((xs.length:Nat):Int)=((ys.length:Nat):Int)):=by first|exact of_decide_eq_true h10|exact yT h10|simpa using h10
 refine Qb 1 K M fun _ K=>?_;refine p1 K (Q0 Jm rfl rfl (ha.len.trans (congrArg some (Qy _)))) fun _ K=>?_;refine Qb 1 K M fun _ K=>?_;refine Je (fun mm1 T st9=> ∃(i:Nat),mm1=xs.length-i∧QH [(0,ka),(1,kb),(12,iZ (xs.length:Nat)),(13,iN i)] T∧Mem st.h.get st.n [] st9 []∧i≤xs.length∧(∀j,j<i→xs[j]? =ys[j]?)) (fun mm1 T st9 hI=>?_) _ _ _ ⟨0,rfl,(K.sub rfl),M.less (.refl _),(Nat.zero_le _),(fun j hj=>absurd hj (Nat.not_lt_zero j))⟩;obtain⟨i,rfl,K,M,hi,hs⟩:=hI;refine Qb 1 K M fun _ K=>?_;refine U8 K rfl (fun h14=>?_) fun h14=>?_
 ·refine Qb 2 K M fun _ K=>?_;refine QT (l:=[(0,0),(1,0),(2,0),(3,0),(4,0),(5,0),(6,0),(7,0),(8,0)]) (by kernel_rfl) ?_;refine UT 2 K M fun _ K=>?_;obtain⟨y18,hi18⟩:=YL xs i Qd;refine dI rfl rfl (Jg.mem M ha Qx) (JG hi18) K QD Qs rfl rfl rfl fun _ _ _ _ K=>?_;refine UT 2 K M fun _ K=>?_;obtain⟨y22,hi22⟩:=YL ys i Qd;refine dI rfl rfl (Jg.mem M hb Qx) (JG hi22) K QD Qs rfl rfl rfl fun _ _ _ _ K=>?_;refine q1 rfl K (jL rfl rfl) fun _ K=>Jd ?_;show W _ _ _ _ _ _ _;refine UJ K rfl (fun h24=>?_) fun h24=>?_
  ·have hb24:=h24
   replace h24: ¬(y18=y22):=by first|exact of_decide_eq_false h24|exact yF h24|simpa using h24
   refine Qb 1 K M ?_;refine⟨congrArg AV.bool ?_,M.qt⟩;refine(decide_eq_false fun e=>?_).symm;subst e
   first|(exact h10 rfl)|(rw[hi18]at hi22;injection hi22 with e;exact h24 Qd)
  have hb24:=h24
  replace h24:(y18=y22):=by first|exact of_decide_eq_true h24|exact yT h24|simpa using h24
  refine Qb 2 K M fun _ K=>?_;exact⟨_,Qd,i+1,rfl,(K.sub rfl),M.less (.refl _),Qd,(fun j hj=>by by_cases e:j=i;subst e;rw[hi18,hi22];exact congrArg some Qd;exact hs j Qd)⟩
 refine QM ?_;show W _ _ _ _ _ _ _;refine Qb 1 K M ?_;refine⟨congrArg AV.bool ?_,M.qt⟩;refine(decide_eq_true ?_).symm;apply List.ext_getElem?;intro j
 by_cases hj:j<xs.length
 ·exact hs j Qd
 ·rw[List.getElem?_eq_none Qd,List.getElem?_eq_none Qd]

theorem PU{st:St}(hf:Qh st){FD F:Fp}{dp sp:Nat}{a:Au}(hD:JH st FD dp a)(hS:YO st F sp a.tr S)(hdF: ∀c,FD c→ ¬F c)(wfS0:ZI a.tr S){kr:AV}(hR:Jg st.h.get [] 1 (zC (zN rs)) kr)(offR: ∀c m o n y,kr=.sl c m o n y→ ¬F c)(hrl:rs.length=a.n)(hrs:Z8 a.tr S a rs){kc:AV}(hC:Jg st.h.get [] 1 (zC cl) kc)(hcl:cl.length=a.n)(hcv: ∀s,s<a.n→0≤cv cl s∧cv cl s<((a.n:Nat):Int))(offC: ∀c m o n y,kc=.sl c m o n y→ ¬F c)(hlen:S.length+a.n *127≤1000000000): ∃v st',QV 257 [.ptr dp 0 0,.ptr sp 0 0,kr,kc] st v st'∧ ∃kr' S' out st2,v=kr'∧X2 st st2 F sp a.tr S'∧Qt st2 st'∧HB st2 st' 1 kr' (zC (J4 [] out))∧S<+:S'∧ZI a.tr S'∧S'.length≤S.length+a.n *127∧out.length=a.n∧HD a cl (J4 [] out):=by
 have wf:=hD.wf;have htr:=wf.tr;have hmo:=wf.most;have h127:2^(a.tr+1)≤128:=Nat.pow_le_pow_right Q9 (by omega:a.tr+1≤7);have hrc:=hR.cell;have hkc:=hC.cell
 have hbr:(rs.length:Int)≤9223372036854775807:=by omega
 have hn127: ∀k,k≤a.n→k *127≤a.n *127:=fun k hk=>Nat.mul_le_mul_right _ hk;have B:=Ql.UD (o:=Xi F sp a.tr S) hf hS.at_ hS.hi;refine Jv Tryz.func257 Tryz.ntmps257 fun T K=>?_;have M:=B.mem;refine Qb 3 K M fun _ K=>?_;refine p1 K (Q0 Jm rfl rfl (hR.len.trans (congrArg some (by rw[Qy,List.length_map])))) fun _ K=>?_;refine Qb 1 K M fun _ K=>?_;refine Je (fun mm1 T st9=> ∃(i:Nat) (ids:List Nat) (S2:Uf) (F2:Fp) (ko:AV) (A:QP),mm1=rs.length-i∧QH [(0,.ptr dp 0 0),(1,.ptr sp 0 0),(3,kc),(8,.nils),(9,ko),(12,kr),(13,iZ (rs.length:Nat)),(14,iN i)] T∧Ql st (Xi F sp a.tr S).F st9 (A++[]) [Xi F2 sp a.tr S2]∧ids.length=i∧i≤rs.length∧Ka S2 a cl a.tr ids∧S<+:S2∧ZI a.tr S2∧S2.length≤S.length+i *127∧Acc 0 1 A ko (zC (NZ a.n cl ids))) (fun mm1 T st9 hI=>?_) _ _ _ ⟨0,[],S,F,.nils,[],rfl,(K.sub rfl),(B.step M).less (.refl _),rfl,(Nat.zero_le _),(fun s r h=>by simp at h),(List.prefix_refl _),wfS0,Qd,.none⟩;obtain⟨i,ids,S2,F2,ko,A,rfl,K,B,hil,hi,himg,hpre,wfS,hSl,hA⟩:=hI;have M:=B.mem;have hni:=hn127 i Qd;refine Qb 1 K M fun _ K=>?_;refine U8 K rfl (fun h15=>?_) fun h15=>?_
 ·refine Qb 1 K M fun _ K=>?_;obtain⟨y17,hi17⟩:=YL rs i Qd;refine oI ((B.step M).rd hf hR offR) (Fa hi17) K QD Qs rfl rfl rfl fun _ _ _ _ K=>?_;refine Qb 2 K M fun _ K=>?_;refine QT (l:=[(1,0),(2,0),(3,0),(4,0),(5,0),(6,0),(0,0),(7,0),(8,0),(9,0),(10,0),(11,2),(12,0),(13,0),(14,0),(15,0)]) (by kernel_rfl) ?_;have Mq:=M;have Mz0:=M;have Bz0:=B;refine UT 3 K M fun _ K=>?_;replace B:=B.step M;have hRi:=hrs.pre wfS0 hpre;have hr17:=hRi i y17 hi17;have hvl:=hRi.val wf wfS rfl Qd hi17;obtain⟨v23,st23,ev23,r1,S3,rfl,hout,mb,hev⟩:=jw B.fresh (B.ID (k:=0) rfl) wf.tr wfS hr17.1 (B.rd hf hC offC) (B.off (k:=0) rfl hf hC offC) (fun z hz=>by have:=aZ hcl hcv z hz;omega) (fun c=>by rw[hcl];exact hvl c) Qd;refine qA rfl K (Qf rfl ev23) fun _ K=>?_;obtain⟨F3,B⟩:=B.V2 hout;have M:=B.mem;have hmbl:=mb.len;have hmlt:=mb.lt
  have hrn:0≤((r1:Nat):Int) *((a.n:Nat):Int)∧((r1:Nat):Int) *((a.n:Nat):Int)≤400000000000:=by
   have h1:=Nat.mul_le_mul (show r1≤1000000000 by omega) (show a.n≤400 from hmo);rw[←Int.natCast_mul];omega
  have Mp:=Mq;have Mq:=M;have Mz1:=M;have Bz1:=B;refine q1 rfl K (Q8 rfl) fun _ K=>?_;obtain⟨v25,st25,ev25,rfl,q25⟩:=AB M.fresh (hD.KR (B.step M).U7 hdF);refine qA rfl K (Qf rfl ev25) fun _ K=>?_;replace M:=M.quiet q25;have Mp:=Mq;have Mq:=M;have Mz2:=M;have Bz2:=B;refine q1 rfl K (Q8 rfl) fun _ K=>q1 rfl K (S5 (c:=((r1:Nat):Int) *((a.n:Nat):Int)) rfl rfl (IntWalk.i64_in _ Qd)) fun _ K=>?_;refine UT 2 K M fun _ K=>?_;obtain⟨y29,hi29⟩:=YL cl i Qd
  have hcy29:cv cl i=y29:=by unfold cv;rw[hi29];rfl
  have hcb29:=hcv i Qd;obtain⟨x29,m29,f29,q29,_,lf29⟩:=Jg.iU ((B.step M).rd hf hC offC) (i:=i) (cs:=_) (JG hi29);refine q1 rfl K (Qn (j:=i) QD (congrArg some q29) rfl (by rw[Qy];omega)) fun _ K=>?_
  refine VQ rfl K rfl ((lf29 _ _ ((B.step M).rd hf hC offC)).2.1 _ 0 _ Qs rfl) Qx (by intro s hs;simp only[List.take_succ_cons,List.take_zero,List.mem_cons,List.not_mem_nil,or_false]at hs;rcases hs with rfl|rfl<;>first|exact((lf29 _ _ ((Bz1.step Mz1).rd hf hC offC)).2.1 _ 0 _ Qs rfl)|exact((lf29 _ _ ((Bz0.step Mz0).rd hf hC offC)).2.1 _ 0 _ Qs rfl)) (Ul rfl) rfl Q9 fun _ K=>?_
  refine UT 1 K M fun _ K=>?_;refine Eo rfl K M QR HJ rfl rfl rfl rfl rfl fun c32 _ _ K M=>?_;refine Zx (k2:=0) (L:=[(c32,0,[iZ (((((r1:Nat):Int) *((a.n:Nat):Int))+y29))])]) (B:=[]) rfl K M hA QR rfl rfl rfl rfl (by rw[Qy,Wh];omega) rfl fun ks33 A33 _ _ K hA33 M=>?_;have Mp:=Mq;have Mq:=M;have Mz3:=M;have Bz3:=B;refine q1 rfl K (Uu rfl) fun _ K=>Jd ?_;show W _ _ _ _ _ _ _;refine Qb 2 K M fun _ K=>?_;have hni2:=hn127 (i+1) Qd;exact⟨_,Qd,i+1,(ids++[r1]),S3,F3,ks33,A33,rfl,(K.sub rfl),(B.step M).less (.cons _ (.refl _)),(by rw[List.length_append,hil];rfl),Qd,((himg.pre wfS mb.pre).snoc mb.lt (fun c hc=>by rw[hev,hr17.2 c hc,hil,Int.toNat_natCast])),(hpre.trans mb.pre),mb.wf,Qd,(by rw[Mm,hil,hcy29,JJ];exact hA33)⟩
 refine QM ?_;show W _ _ _ _ _ _ _;refine Qb 1 K M fun _ K=>?_;replace B:=B.step M;have B9:=B;obtain⟨v36,st36,ev36,kr9,rfl,nr9,q9⟩:=IL B.fresh (Mem.Zv (L:=[]) (B:=[]) M hA) (by rw[Wh];omega);refine p1 K (Qf rfl ev36) fun _ K=>?_;replace B:=B.quiet q9;have M:=B.mem;refine Qb 1 K M ?_
 have hin:i=a.n:=by omega
 exact⟨_,S2,NZ a.n cl ids,_,rfl,B9.L7,q9,nr9,hpre,wfS,by rw[hin]at hSl;exact hSl,by rw[Wh];omega,Rh wfS himg rfl Qd hcv⟩
end
end Go.Proofs.YtildagdnomiahaaGreatDoor
