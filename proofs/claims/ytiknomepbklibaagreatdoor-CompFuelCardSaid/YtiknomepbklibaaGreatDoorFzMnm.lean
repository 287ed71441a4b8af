/-
  Least automata: the program's.
-/
import Derived.Test.YtiknomepbklibaaGreatDoorFzPpm
import Derived.Test.YtiknomepbklibaaGreatDoorFzPrd
import Derived.Test.YtiknomepbklibaaGreatDoorFzR24M
namespace Go.Proofs.YtiknomepbklibaaGreatDoor
open Go Go.RowKit
set_option maxHeartbeats 8000000
set_option linter.unusedVariables false
set_option linter.unusedSimpArgs false
set_option linter.unnecessarySimpa false
set_option linter.unusedSectionVars false
set_option maxRecDepth 100000
variable {S:UG} {cl xs:List Int} {ids rs:List Nat} {n r:Nat}

section
variable {α:Type} {key:α→AV} {P:Program} {G:Env} {N:Nat} {st0 st:St} {X0:Fp} {M:QU} {Os:List Ob} {T:Tr AV} {ops rest:List Oper} {K:List (Nat×AV)} {R:Tr AV→St→Prop} {t ty:TypeId} {pos:String} {af:Array Edge} {z v:AV} {cm j:Nat} {L:List (α×AV)} {a:α} {m k x:Operand}
theorem zj{tys:Array TypeId}{kt et:TypeId}(hu:P.underlying t=some (.map kt et))(htys:tys= #[t])(hH:(VY cm key L).H st.h.get)(hm:QX G K m=some (.mp cm)):U3 P G K (.call {callee:=.builtin .len,args:= #[m],argTypes:=tys}) st (.int .i64 (L.length:Nat)) st:=.of fun T' hT c d ty pos af g=>by
 subst htys;obtain⟨es,n,hc,he⟩:=hH
 have hl:es.length=L.length:=by have:=congrArg List.length he;rwa [List.length_map,List.length_map]at this
 show Qo (ZR P [t]) (ob (QI G T' m) fun x=>ret (Bv x st.h.get) st) _=_;rw[show ZR P [t]=true by unfold ZR;simp only[hu],Q6,hT.QI hm,Ql];show ret (ob (st.h.get cm) _) st=_;rw[hc,Ql];simp only[Jg,Uq,hl];rfl
theorem zm(Tk:VE P t key z){es:List (AV×AV×Nat)}(hc:st.h.get cm=some (.map es n))(he:NM key es L)(hm:QX G K m=some (.mp cm))(hk:QX G K k=some (key a))(hx:QX G K x=some v)(hv:Qu v=true)(hn:Yk L a=none):
  U3 P G K (.insert t m k x) st (.tup []) (EP st cm n es (key a) v):=.of fun T' hT c d ty pos af g=>by
 obtain⟨kt,et,d',u1,u2,u3,u4,u5,u6⟩:=Tk.rule;show(ob (QI G T' m) fun m=>ob (QI G T' k) fun k=>ob (QI G T' x) fun x=>Zv P t m k x st)=_;rw[hT.QI hm,hT.QI hk,hT.QI hx,Ql,Ql,Ql];unfold Zv EP;obtain⟨f1,f2⟩:=VE.find (P:=P) (t:=t) (z:=z) (et:=et) u5 u6 a L es 0 he;simp only[u1,u2,u4,QO,hc,Ql,f1 hn,hv,Bool.true_or,JX,U6,Jg,UJ]
theorem yw(hK:QY K T)(B:Qk st0 X0 st M Os)(hj:Os[j]? =some (VY cm key L))(Tk:VE P t key z)(hm:QX G K m=some (.mp cm))(hk:QX G K k=some (key a))(hx:QX G K x=some v)(hv:Qu v=true)(hn:Yk L a=none)
  (hr: ∀st',Qk st0 X0 st' M (Os.set j (VY cm key (L++[(a,v)])))→WR P G N ops rest R T st'):WR P G N ops (⟨none,.insert t m k x,ty,pos,af,none⟩::rest) R T st:=by
 obtain⟨es,n,hc,he⟩:=B.at_ hj;exact RH hK (zm Tk hc he hm hk hx hv hn) (hr _ (B.Bm hj hc he a v))
end
theorem Ji.ea{P:Program}{h:Hp}{X:List Nat}{z:Nat}{ls:List (List AV)}{ks:AV}(r:Ji h X z ls ks){i:Nat}{cs:List AV}(hi:ls[i]? =some cs): ∃c m off,ks=.sl c m off ls.length z∧c∉X∧ ∀(h':Hp) (Y:List Nat),Ji h' Y z ls ks→
  (∀t,tk P t=.agg z→Jo P t (.ptr c m (off+i *z)) h'=some (.agg cs))∧(∀t j v,tk P t=.one→cs[j]? =some v→Jo P t (.ptr c m (off+i *z+j)) h'=some v)∧
  (∀t j n,tk P t=.agg n→j+n≤z→Jo P t (.ptr c m (off+i *z+j)) h'=some (.agg ((cs.drop j).take n))):=by
 obtain⟨c,m,off,e,hX,_⟩:=r.load (P:=P) hi;refine⟨c,m,off,e,hX,fun h' Y r'=>?_⟩;obtain⟨c',m',off',e',_,k⟩:=r'.load (P:=P) hi;rw[e]at e'
 injection e' with e1 e2 e3
 subst e1 e2 e3;exact k
theorem D4{α:Type}: ∀(j:Nat) (S:List α),(UR j S).length=S.length
 |_,[]=>rfl
 |j,x::S=>by rw[UR,List.length_cons,List.length_cons,D4 (j+1) S]
theorem zk{α:Type}{key:α→AV}{P:Program}{G:Env}{st:St}{K:List (Nat×AV)}{t:TypeId}{cm:Nat}{S:List α}{m:Operand}{tys:Array TypeId}{kt et:TypeId}(hu:P.underlying t=some (.map kt et))(htys:tys= #[t])(hH:(VY cm key (UR 0 S)).H st.h.get)(hm:QX G K m=some (.mp cm)):U3 P G K (.call {callee:=.builtin .len,args:= #[m],argTypes:=tys}) st (.int .i64 (S.length:Nat)) st:=by
 have h:=zj (key:=key) (L:=UR 0 S) hu htys hH hm;rw[D4]at h;exact h
def ZW(T:Nat)(S:UG)(a:Au)(rs:List Nat):Prop:= ∀(s r:Nat),rs[s]? =some r→r<S.length∧ ∀c,c<2^T→Y6 S r c=((a.go s c:Nat):Int)
theorem ZW.pre{T:Nat}{S':UG}{a:Au}(H:ZW T S a rs)(W:Xg T S)(h:S<+:S'):ZW T S' a rs:=fun s r hs=>by
 obtain⟨h1,h2⟩:=H s r hs;exact⟨Nat.lt_of_lt_of_le h1 h.length_le,fun c hc=>by rw[Zm W h h1];exact h2 c hc⟩
def Ki(S:UG)(a:Au)(cl:List Int)(T:Nat)(ids:List Nat):Prop:= ∀(s r:Nat),ids[s]? =some r→r<S.length∧ ∀c,c<2^T→Y6 S r c=cv cl (a.go s c)
theorem Ki.pre{T:Nat}{S':UG}{a:Au}(H:Ki S a cl T ids)(W:Xg T S)(h:S<+:S'):Ki S' a cl T ids:=fun s r hs=>by
 obtain⟨h1,h2⟩:=H s r hs;exact⟨Nat.lt_of_lt_of_le h1 h.length_le,fun c hc=>by rw[Zm W h h1];exact h2 c hc⟩
theorem Ki.snoc{T:Nat}{a:Au}(H:Ki S a cl T ids)(hr:r<S.length)(he: ∀c,c<2^T→Y6 S r c=cv cl (a.go ids.length c)):Ki S a cl T (ids++[r]):=fun s q hs=>by
 by_cases hlt:s<ids.length
 ·rw[List.getElem?_append_left hlt]at hs;exact H s q hs
 ·have h3:=(List.getElem?_eq_some_iff.1 hs).1;rw[List.length_append,List.length_singleton]at h3
  have h4:s=ids.length:=by omega
  subst h4;rw[List.getElem?_append_right (Nat.le_refl _),Nat.sub_self]at hs
  injection hs with hs
  subst hs;exact⟨hr,he⟩
def Oe(n:Nat)(cl:List Int)(ids:List Nat):List Int:=(List.range ids.length).map fun s=>(((ids[s]?).getD 0:Nat):Int) *((n:Nat):Int)+cv cl s
theorem W5(n:Nat)(cl:List Int)(ids:List Nat):(Oe n cl ids).length=ids.length:=by simp[Oe]
theorem TS(n:Nat)(cl:List Int)(ids:List Nat)(r:Nat):Oe n cl (ids++[r])=Oe n cl ids++[((r:Nat):Int) *((n:Nat):Int)+cv cl ids.length]:=by
 unfold Oe;rw[List.length_append,List.length_singleton,List.range_succ,List.map_append,List.map_singleton]
 congr 1
 ·refine List.map_congr_left fun s hs=>?_;rw[List.getElem?_append_left (List.mem_range.1 hs)]
 ·rw[List.getElem?_append_right (Nat.le_refl _),Nat.sub_self];rfl
theorem Sy{s:Nat}(h:ids[s]? =some r):cv (Oe n cl ids) s=((r:Nat):Int) *((n:Nat):Int)+cv cl s:=by
 have hlt:=(List.getElem?_eq_some_iff.1 h).1;unfold Oe;rw[Rp (List.getElem?_range hlt),h];rfl
theorem PQ{T:Nat}{a:Au}(W:Xg T S)(H:Ki S a cl T ids)(hT:a.tr=T)(hl:ids.length=a.n)(hc: ∀s,s<a.n→0≤cv cl s∧cv cl s<((a.n:Nat):Int)):Ay a cl (Ud [] (Oe a.n cl ids)):=by
 refine⟨by rw[X7,W5,hl],fun s t hs ht=>?_⟩;obtain⟨r,hr⟩: ∃r,ids[s]? =some r:=⟨_,List.getElem?_eq_getElem Qe⟩;obtain⟨q,hq⟩: ∃r,ids[t]? =some r:=⟨_,List.getElem?_eq_getElem Qe⟩;obtain⟨h1,h2⟩:=H s r hr;obtain⟨h3,h4⟩:=H t q hq;rw[Hs (by rw[W5,hl];exact hs) (by rw[W5,hl];exact ht),Sy hr,Sy hq,qP (hc s hs) (hc t ht)];refine⟨fun⟨e1,e2⟩=>⟨e2,fun c hcK=>?_⟩,fun⟨e1,e2⟩=>⟨?_,e1⟩⟩
 ·have e1:r=q:=by omega
  subst e1
  have hcK:c<2^T:=by rw[←hT];exact hcK
  rw[←h2 c hcK,←h4 c hcK]
 ·have:=vQ W h1 h3 fun c hcT=>by rw[h2 c hcT,h4 c hcT];exact e2 c (by unfold Au.K;rw[hT];exact hcT)
  rw[this]
theorem ZW.snoc{T:Nat}{a:Au}(H:ZW T S a rs)(hr:r<S.length)(he: ∀c,c<2^T→Y6 S r c=((a.go rs.length c:Nat):Int)):ZW T S a (rs++[r]):=fun s q hs=>by
 by_cases hlt:s<rs.length
 ·rw[List.getElem?_append_left hlt]at hs;exact H s q hs
 ·have h3:=(List.getElem?_eq_some_iff.1 hs).1;rw[List.length_append,List.length_singleton]at h3
  have h4:s=rs.length:=by omega
  subst h4;rw[List.getElem?_append_right (Nat.le_refl _),Nat.sub_self]at hs
  injection hs with hs
  subst hs;exact⟨hr,he⟩
theorem ZW.val{T:Nat}{a:Au}{s:Nat}(H:ZW T S a rs)(W:Zr a)(V:Xg T S)(ht:a.tr=T)(hs:s<a.n)(h:rs[s]? =some r)(c:Nat):0≤Y6 S r c∧Y6 S r c<((a.n:Nat):Int):=by
 have hc:c % 2^T<2^T:=Nat.mod_lt _ (Nat.two_pow_pos T);rw[←Ri V,(H s r h).2 _ hc];have:=W.UT hs (c:=c % 2^T) (by unfold Au.K;rw[ht];exact hc);omega
def BS(a:Au)(i:Nat):List Int:=(List.range i).map fun s=>((Ek (a.ok s):Nat):Int)
theorem VB(a:Au)(i:Nat):(BS a i).length=i:=by simp[BS]
theorem G1(a:Au)(i:Nat):BS a (i+1)=BS a i++[((Ek (a.ok i):Nat):Int)]:=by unfold BS;rw[List.range_succ,List.map_append];rfl
theorem MS(a:Au):IC a (Ud [] (BS a a.n)):=Nn (by rw[X7,VB]) fun s t hs ht=>by
 rw[Hs (by rw[VB];exact hs) (by rw[VB];exact ht)];unfold BS;rw[Rp (List.getElem?_range hs),Rp (List.getElem?_range ht)]
 cases a.ok s<;>cases a.ok t<;>decide
theorem Ss(h:xs.length=n): ∀s,s<n→0≤cv (Ud [] xs) s∧cv (Ud [] xs) s<((n:Nat):Int):=fun s hs=>by
 have:=jg (xs:=xs) (s:=s) Qe;omega
theorem vW{l:List Int}(hl:l.length=n)(h: ∀s,s<n→0≤cv l s∧cv l s<((n:Nat):Int))(z:Int)(hz:z∈l):0≤z∧z<((n:Nat):Int):=by
 obtain⟨s,hs⟩:=List.getElem?_of_mem hz;have hlt:=(List.getElem?_eq_some_iff.1 hs).1;have:=h s Qe;unfold cv at this;rw[hs]at this;exact this
theorem qa:Tryz.prog.underlying 141=some (.map 3 3):=by kernel_rfl

theorem IQ{st:St}(hf:Qj st){kl:AV}(hl:Ji st.h.get [] 1 (zC xs) kl)(hx:xs.length≤1000000): ∃v st',Ev Tryz.prog Q4 140 [kl] st v st'∧ ∃kr,v=kr∧Em st st' 1 kr (zC (Ud [] xs))∧Qt st st':=by
 have B:=Qk.start hf;have hlc:=hl.cell;refine JF Tryz.func140 Tryz.ntmps140 fun T K=>?_;have M:=B.mem;refine Qc 1 K M ?_;intro _ K;replace B:=B.step M;refine Wn Kr K B rfl fun c9 _ _ K B=>?_;have M:=B.mem;refine Qc 3 K M ?_;intro _ K;refine p1 K (Q8 Jp rfl rfl (hl.len.trans (congrArg some (Qn _)))) fun _ K=>?_;refine Qc 1 K M ?_;intro _ K;refine Jc (fun mm1 T st9=> ∃(i:Nat) (kr:AV) (A:QU),mm1=xs.length-i∧QY [(2,.nils),(3,.mp c9),(4,kr),(10,kl),(11,iZ (xs.length:Nat)),(12,iN i)] T∧Qk st Xv st9 (A++[]) [VY c9 Kr (UR 0 (JW [] (xs.take i)))]∧i≤xs.length∧Acc 0 1 A kr (zC (Ud [] (xs.take i)))) (fun mm1 T st9 hI=>?_) _ _ _ ⟨0,.nils,[],rfl,(K.sub rfl),(B.step M).less (.refl _),(Nat.zero_le _),(by rw[List.take_zero];exact .none)⟩;obtain⟨i,kr,A,rfl,K,B,hi,hA⟩:=hI;have M:=B.mem;refine Qc 1 K M ?_;intro _ K;refine JP K rfl (fun h13=>?_) fun h13=>?_
 ·refine Qc 0 K M ?_;intro _ K;obtain⟨y14,hi14⟩:=U8 xs i Qe;obtain⟨x14,m14,f14,q14,_,la14,lo14,lp14⟩:=((B.step M).GO hf hl).load (i:=i) (cs:=_) (Jr hi14);refine p1 K (Qa (j:=i) Qw (congrArg some q14) rfl (by rw[Qn];omega)) fun _ K=>p1 K (Qd rfl (lo14 _ 0 _ Qr rfl)) fun _ K=>?_;refine Qc 3 K M ?_;intro _ K;refine p1 K (Wz (a:=y14) H3 ((B.step M).at_ (k:=0) rfl) rfl rfl) fun _ K=>?_;refine Qc 5 K M ?_;intro _ K
  have htk:xs.take (i+1)=xs.take i++[y14]:=by rw[List.take_add_one,hi14];rfl
  refine Qc 2 K M ?_;intro _ K;refine Qq (K.QI rfl) (fun h23=>?_) (fun h23=>?_)
  ·have hb23:=h23
   replace h23:((Yk (UR 0 (JW [] (xs.take i))) (y14)).isSome)=false:=by simpa using h23
   refine Qc 1 K M ?_;intro _ K;refine p1 K (zk qa rfl ((B.step M).at_ (k:=0) rfl) rfl) fun _ K=>?_;refine Qc 4 K M ?_;intro _ K
   have hnone:Yk (UR 0 (JW [] (xs.take i))) y14=none:=by cases hq:Yk (UR 0 (JW [] (xs.take i))) y14 with|none=>rfl|some x=>rw[hq]at h23;cases h23
   have hnew:=KQ (xs.take i) [] (Na hnone);replace B:=B.step M;refine Hb (j:=0) (a:=y14) K B rfl H3 rfl rfl rfl rfl hnone fun _ B=>?_;rw[show UR 0 (JW [] (xs.take i))++[(y14,iZ ((JW [] (xs.take i)).length:Nat))]=UR 0 (JW [] (xs.take (i+1))) by rw[htk,hnew.2,AJ,Nat.zero_add]]at B;have M:=B.mem;refine au 3 K M ?_;intro c31 _ _ K _ M;refine Je (k2:=0) (L:=[(c31,0,[iZ ((JW [] (xs.take i)).length:Nat)])]) (A:=A) (B:=[]) K M hA QM rfl rfl rfl rfl (by rw[Qn,X7,List.length_take];omega) rfl fun ks32 A32 _ _ K hA32 M=>?_;refine Qc 3 K M ?_;intro _ K
   have hout:Ud [] (xs.take (i+1))=Ud [] (xs.take i)++[(((JW [] (xs.take i)).length:Nat):Int)]:=by rw[htk,hnew.1]
   exact⟨_,Qe,i+1,ks32,A32,rfl,(K.sub rfl),(B.step M).less (.cons _ (.refl _)),Qe,(by rw[hout,JV];exact hA32)⟩
  have hb23:=h23
  replace h23:((Yk (UR 0 (JW [] (xs.take i))) (y14)).isSome)=true:=by simpa using h23
  refine Xh ?_;show W _ _ _ _ _ _ _
  obtain⟨v0,hv0⟩: ∃x,Yk (UR 0 (JW [] (xs.take i))) y14=some x:=by cases hq:Yk (UR 0 (JW [] (xs.take i))) y14 with|none=>rw[hq]at h23;cases h23|some x=>exact⟨x,rfl⟩
  obtain⟨j,hj,rfl⟩:=LZ hv0;rw[hv0]at K;obtain⟨e1,e2⟩:=KP (xs.take i) [] List.nodup_nil hj;refine au 3 K M ?_;intro c31 _ _ K _ M;refine Je (k2:=0) (L:=[(c31,0,[iN j])]) (A:=A) (B:=[]) K M hA QM rfl rfl rfl rfl (by rw[Qn,X7,List.length_take];omega) rfl fun ks32 A32 _ _ K hA32 M=>?_;refine Qc 3 K M ?_;intro _ K
  have hout:Ud [] (xs.take (i+1))=Ud [] (xs.take i)++[((j:Nat):Int)]:=by rw[htk,e1]
  have hsn:JW [] (xs.take (i+1))=JW [] (xs.take i):=by rw[htk,e2]
  replace B:=B.step M;rw[←hsn]at B;have M:=B.mem;exact⟨_,Qe,i+1,ks32,A32,rfl,(K.sub rfl),(B.step M).less (.cons _ (.refl _)),Qe,(by rw[hout,JV];exact hA32)⟩
 refine QT ?_;show W _ _ _ _ _ _ _;refine QC ?_;rw[List.take_of_length_le Qe]at hA;refine Qc 2 K M ?_;exact⟨_,rfl,(B.step M).newRow hA (fun c m l h=>by simp[h]),(B.step M).qt⟩

theorem M1{st:St}(hf:Qj st){ys:List Int}{ka kb:AV}(ha:Ji st.h.get [] 1 (zC xs) ka)(hb:Ji st.h.get [] 1 (zC ys) kb): ∃v st',Ev Tryz.prog Q4 142 [ka,kb] st v st'∧v=.bool (decide (xs=ys))∧Qt st st':=by
 have hbnxs:(xs.length:Int)≤9223372036854775807:=by have:=ha.Ew;rw[Qn]at this;exact this
 have hbnys:(ys.length:Int)≤9223372036854775807:=by have:=hb.Ew;rw[Qn]at this;exact this
 refine JF Tryz.func142 Tryz.ntmps142 fun T K=>?_;have M:=Mem.start hf;refine Qc 2 K M ?_;intro _ K;refine p1 K (Q8 Jp rfl rfl (ha.len.trans (congrArg some (Qn _)))) fun _ K=>?_;refine Qc 1 K M ?_;intro _ K;refine p1 K (Q8 Jp rfl rfl (hb.len.trans (congrArg some (Qn _)))) fun _ K=>?_;refine Qc 1 K M ?_;intro _ K;refine Qq (K.QI rfl) (fun h10=>?_) (fun h10=>?_)
 ·have hb10:=h10
  replace h10: ¬(((xs.length:Nat):Int)=((ys.length:Nat):Int)):=by first|exact of_decide_eq_false h10|exact yF h10|simpa using h10
  refine Qc 1 K M ?_;refine⟨congrArg AV.bool ?_,M.qt⟩;refine(decide_eq_false fun e=>?_).symm;subst e
  first|(exact h10 rfl)|(rw[hi18]at hi22;injection hi22 with e;exact h24 Qe)
 have hb10:=h10
 replace h10:(((xs.length:Nat):Int)=((ys.length:Nat):Int)):=by first|exact of_decide_eq_true h10|exact yT h10|simpa using h10
 refine Qc 1 K M ?_;intro _ K;refine p1 K (Q8 Jp rfl rfl (ha.len.trans (congrArg some (Qn _)))) fun _ K=>?_;refine Qc 1 K M ?_;intro _ K;refine Jc (fun mm1 T st9=> ∃(i:Nat),mm1=xs.length-i∧QY [(0,ka),(1,kb),(12,iZ (xs.length:Nat)),(13,iN i)] T∧Mem st.h.get st.n [] st9 []∧i≤xs.length∧(∀j,j<i→xs[j]? =ys[j]?)) (fun mm1 T st9 hI=>?_) _ _ _ ⟨0,rfl,(K.sub rfl),M.less (.refl _),(Nat.zero_le _),(fun j hj=>absurd hj (Nat.not_lt_zero j))⟩;obtain⟨i,rfl,K,M,hi,hs⟩:=hI;refine Qc 1 K M ?_;intro _ K;refine JP K rfl (fun h14=>?_) fun h14=>?_
 ·refine Qc 2 K M ?_;intro _ K;refine QD (l:=[(0,0),(1,0),(2,0),(3,0),(4,0),(5,0),(6,0),(7,0),(8,0)]) (by kernel_rfl) ?_;refine Jf 2 K M ?_;intro _ K;obtain⟨y18,hi18⟩:=U8 xs i Qe;obtain⟨x18,m18,f18,q18,_,la18,lo18,lp18⟩:=(Ji.mem M ha QA).load (i:=i) (cs:=_) (Jr hi18);refine q1 rfl K (Qa (j:=i) Qw (congrArg some q18) rfl (by rw[Qn];omega)) fun _ K=>q1 rfl K (Qd rfl (lo18 _ 0 _ Qr rfl)) fun _ K=>?_;refine Jf 2 K M ?_;intro _ K;obtain⟨y22,hi22⟩:=U8 ys i Qe;obtain⟨x22,m22,f22,q22,_,la22,lo22,lp22⟩:=(Ji.mem M hb QA).load (i:=i) (cs:=_) (Jr hi22);refine q1 rfl K (Qa (j:=i) Qw (congrArg some q22) rfl (by rw[Qn];omega)) fun _ K=>q1 rfl K (Qd rfl (lo22 _ 0 _ Qr rfl)) fun _ K=>q1 rfl K (PG rfl rfl) fun _ K=>QG ?_;show W _ _ _ _ _ _ _;refine Qq (K.QI rfl) (fun h24=>?_) (fun h24=>?_)
  ·have hb24:=h24
   replace h24: ¬(y18=y22):=by first|exact of_decide_eq_false h24|exact yF h24|simpa using h24
   refine Qc 1 K M ?_;refine⟨congrArg AV.bool ?_,M.qt⟩;refine(decide_eq_false fun e=>?_).symm;subst e
   first|(exact h10 rfl)|(rw[hi18]at hi22;injection hi22 with e;exact h24 Qe)
  have hb24:=h24
  replace h24:(y18=y22):=by first|exact of_decide_eq_true h24|exact yT h24|simpa using h24
  refine Qc 2 K M ?_;intro _ K;exact⟨_,Qe,i+1,rfl,(K.sub rfl),M.less (.refl _),Qe,(fun j hj=>by by_cases e:j=i;subst e;rw[hi18,hi22];exact congrArg some Qe;exact hs j Qe)⟩
 refine QT ?_;show W _ _ _ _ _ _ _;refine Qc 1 K M ?_;refine⟨congrArg AV.bool ?_,M.qt⟩;refine(decide_eq_true ?_).symm;apply List.ext_getElem?;intro j
 by_cases hj:j<xs.length
 ·exact hs j Qe
 ·rw[List.getElem?_eq_none Qe,List.getElem?_eq_none Qe]

theorem P5{st:St}(hf:Qj st){FD F:Fp}{dp sp:Nat}{a:Au}(hD:UY st FD dp a)(hS:Zs st F sp a.tr S)(hdF: ∀c,FD c→ ¬F c)(wfS0:Xg a.tr S){kr:AV}(hR:Ji st.h.get [] 1 (zC (zN rs)) kr)(offR: ∀c m o n y,kr=.sl c m o n y→ ¬F c)(hrl:rs.length=a.n)(hrs:ZW a.tr S a rs){kc:AV}(hC:Ji st.h.get [] 1 (zC cl) kc)(hcl:cl.length=a.n)(hcv: ∀s,s<a.n→0≤cv cl s∧cv cl s<((a.n:Nat):Int))(offC: ∀c m o n y,kc=.sl c m o n y→ ¬F c)(hlen:S.length+a.n *127≤1000000000): ∃v st',Ev Tryz.prog Q4 141 [.ptr dp 0 0,.ptr sp 0 0,kr,kc] st v st'∧ ∃kr' S' out st2,v=kr'∧XM st st2 F sp a.tr S'∧Qt st2 st'∧Em st2 st' 1 kr' (zC (Ud [] out))∧S<+:S'∧Xg a.tr S'∧S'.length≤S.length+a.n *127∧out.length=a.n∧Ay a cl (Ud [] out):=by
 have wf:=hD.wf;have htr:=wf.tr;have hmo:=wf.most;have h127:2^(a.tr+1)≤128:=Nat.pow_le_pow_right QE (by omega:a.tr+1≤7);have hrc:=hR.cell;have hkc:=hC.cell
 have hbr:(rs.length:Int)≤9223372036854775807:=by omega
 have hn127: ∀k,k≤a.n→k *127≤a.n *127:=fun k hk=>Nat.mul_le_mul_right _ hk;have B:=Qk.UM (o:=X2 F sp a.tr S) hf hS.at_ hS.hi;refine JF Tryz.func141 Tryz.ntmps141 fun T K=>?_;have M:=B.mem;refine Qc 3 K M ?_;intro _ K;refine p1 K (Q8 Jp rfl rfl (hR.len.trans (congrArg some (by rw[Qn,List.length_map])))) fun _ K=>?_;refine Qc 1 K M ?_;intro _ K;refine Jc (fun mm1 T st9=> ∃(i:Nat) (ids:List Nat) (S2:UG) (F2:Fp) (ko:AV) (A:QU),mm1=rs.length-i∧QY [(0,.ptr dp 0 0),(1,.ptr sp 0 0),(3,kc),(8,.nils),(9,ko),(12,kr),(13,iZ (rs.length:Nat)),(14,iN i)] T∧Qk st (X2 F sp a.tr S).F st9 (A++[]) [X2 F2 sp a.tr S2]∧ids.length=i∧i≤rs.length∧Ki S2 a cl a.tr ids∧S<+:S2∧Xg a.tr S2∧S2.length≤S.length+i *127∧Acc 0 1 A ko (zC (Oe a.n cl ids))) (fun mm1 T st9 hI=>?_) _ _ _ ⟨0,[],S,F,.nils,[],rfl,(K.sub rfl),(B.step M).less (.refl _),rfl,(Nat.zero_le _),(fun s r h=>by simp at h),(List.prefix_refl _),wfS0,Qe,.none⟩;obtain⟨i,ids,S2,F2,ko,A,rfl,K,B,hil,hi,himg,hpre,wfS,hSl,hA⟩:=hI;have M:=B.mem;have hni:=hn127 i Qe;refine Qc 1 K M ?_;intro _ K;refine JP K rfl (fun h15=>?_) fun h15=>?_
 ·refine Qc 1 K M ?_;intro _ K;obtain⟨y17,hi17⟩:=U8 rs i Qe;obtain⟨x17,m17,f17,q17,_,la17,lo17,lp17⟩:=((B.step M).rd hf hR offR).load (i:=i) (cs:=_) (Fj hi17);refine p1 K (Qa (j:=i) Qw (congrArg some q17) rfl (by rw[Qn,List.length_map];omega)) fun _ K=>p1 K (Qd rfl (lo17 _ 0 _ Qr rfl)) fun _ K=>?_;refine Qc 2 K M ?_;intro _ K;refine QD (l:=[(1,0),(2,0),(3,0),(4,0),(5,0),(6,0),(0,0),(7,0),(8,0),(9,0),(10,0),(11,2),(12,0),(13,0),(14,0),(15,0)]) (by kernel_rfl) ?_;have Mq:=M;have Mz0:=M;have Bz0:=B;refine Jf 3 K M ?_;intro _ K;replace B:=B.step M;have hRi:=hrs.pre wfS0 hpre;have hr17:=hRi i y17 hi17;have hvl:=hRi.val wf wfS rfl Qe hi17;obtain⟨v23,st23,ev23,r1,S3,rfl,hout,mb,hev⟩:=qK B.fresh (B.IK (k:=0) rfl) wf.tr wfS hr17.1 (B.rd hf hC offC) (B.off (k:=0) rfl hf hC offC) (fun z hz=>by have:=vW hcl hcv z hz;omega) (fun c=>by rw[hcl];exact hvl c) Qe;refine qA rfl K (Qh rfl ev23) fun _ K=>?_;obtain⟨F3,B⟩:=B.VO hout;have M:=B.mem;have hmbl:=mb.len;have hmlt:=mb.lt
  have hrn:0≤((r1:Nat):Int) *((a.n:Nat):Int)∧((r1:Nat):Int) *((a.n:Nat):Int)≤400000000000:=by
   have h1:=Nat.mul_le_mul (show r1≤1000000000 by omega) (show a.n≤400 from hmo);rw[←Int.natCast_mul];omega
  have Mp:=Mq;have Mq:=M;have Mz1:=M;have Bz1:=B;refine q1 rfl K (Qg rfl) fun _ K=>?_;obtain⟨v25,st25,ev25,rfl,q25⟩:=Gp M.fresh (hD.NP (B.step M).JM hdF);refine qA rfl K (Qh rfl ev25) fun _ K=>?_;replace M:=M.quiet q25;have Mp:=Mq;have Mq:=M;have Mz2:=M;have Bz2:=B;refine q1 rfl K (Qg rfl) fun _ K=>q1 rfl K (Sp (c:=((r1:Nat):Int) *((a.n:Nat):Int)) rfl rfl (IntWalk.i64_in _ Qe)) fun _ K=>?_;refine Jf 2 K M ?_;intro _ K;obtain⟨y29,hi29⟩:=U8 cl i Qe
  have hcy29:cv cl i=y29:=by unfold cv;rw[hi29];rfl
  have hcb29:=hcv i Qe;obtain⟨x29,m29,f29,q29,_,lf29⟩:=Ji.ea ((B.step M).rd hf hC offC) (i:=i) (cs:=_) (Jr hi29);refine q1 rfl K (Qa (j:=i) Qw (congrArg some q29) rfl (by rw[Qn];omega)) fun _ K=>?_
  refine Wp rfl K rfl ((lf29 _ _ ((B.step M).rd hf hC offC)).2.1 _ 0 _ Qr rfl) QA (by intro s hs;simp only[List.take_succ_cons,List.take_zero,List.mem_cons,List.not_mem_nil,or_false]at hs;rcases hs with rfl|rfl<;>first|exact((lf29 _ _ ((Bz1.step Mz1).rd hf hC offC)).2.1 _ 0 _ Qr rfl)|exact((lf29 _ _ ((Bz0.step Mz0).rd hf hC offC)).2.1 _ 0 _ Qr rfl)) (JR rfl) rfl QE fun _ K=>?_
  refine Jf 1 K M ?_;intro _ K;refine XR rfl K M QM Vn rfl rfl rfl rfl rfl fun c32 _ _ K M=>?_;refine Xz (k2:=0) (L:=[(c32,0,[iZ (((((r1:Nat):Int) *((a.n:Nat):Int))+y29))])]) (A:=A) (B:=[]) rfl K M hA QM rfl rfl rfl rfl (by rw[Qn,W5];omega) rfl fun ks33 A33 _ _ K hA33 M=>?_;have Mp:=Mq;have Mq:=M;have Mz3:=M;have Bz3:=B;refine q1 rfl K (U5 rfl) fun _ K=>QG ?_;show W _ _ _ _ _ _ _;refine Qc 2 K M ?_;intro _ K;have hni2:=hn127 (i+1) Qe;exact⟨_,Qe,i+1,(ids++[r1]),S3,F3,ks33,A33,rfl,(K.sub rfl),(B.step M).less (.cons _ (.refl _)),(by rw[List.length_append,hil];rfl),Qe,((himg.pre wfS mb.pre).snoc mb.lt (fun c hc=>by rw[hev,hr17.2 c hc,hil,Int.toNat_natCast])),(hpre.trans mb.pre),mb.wf,Qe,(by rw[TS,hil,hcy29,JV];exact hA33)⟩
 refine QT ?_;show W _ _ _ _ _ _ _;refine Qc 1 K M ?_;intro _ K;replace B:=B.step M;have B9:=B;obtain⟨v36,st36,ev36,kr9,rfl,nr9,q9⟩:=IQ B.fresh (Mem.Yx (L:=[]) (A:=A) (B:=[]) M hA) (by rw[W5];omega);refine p1 K (Qh rfl ev36) fun _ K=>?_;replace B:=B.quiet q9;have M:=B.mem;refine Qc 1 K M ?_
 have hin:i=a.n:=by omega
 exact⟨_,S2,Oe a.n cl ids,_,rfl,B9.LA,q9,nr9,hpre,wfS,by rw[hin]at hSl;exact hSl,by rw[W5];omega,PQ wfS himg rfl Qe hcv⟩
end Go.Proofs.YtiknomepbklibaaGreatDoor
