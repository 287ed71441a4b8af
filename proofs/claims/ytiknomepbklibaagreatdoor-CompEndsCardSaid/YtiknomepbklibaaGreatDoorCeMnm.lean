/-
  Least automata: the program's.
-/
import Derived.Test.YtiknomepbklibaaGreatDoorCePpm
import Derived.Test.YtiknomepbklibaaGreatDoorCePrd
import Derived.Test.YtiknomepbklibaaGreatDoorCeR24M
namespace Go.Proofs.YtiknomepbklibaaGreatDoor
open Go Go.RowKit
set_option maxHeartbeats 8000000
set_option linter.unusedVariables false
set_option linter.unusedSimpArgs false
set_option linter.unnecessarySimpa false
set_option linter.unusedSectionVars false
set_option maxRecDepth 100000
variable {S:U6} {cl xs:List Int} {ids rs:List Nat} {n r:Nat}

section
variable {α:Type} {key:α→AV} {P:Program} {G:Env} {N:Nat} {st0 st:St} {X0:Fp} {M:QT} {Os:List Ob} {T:Tr AV} {ops rest:List Oper} {K:List (Nat×AV)} {R:Tr AV→St→Prop} {t ty:TypeId} {pos:String} {af:Array Edge} {z v:AV} {cm j:Nat} {L:List (α×AV)} {a:α} {m k x:Operand}
theorem zR{tys:Array TypeId}{kt et:TypeId}(hu:P.underlying t=some (.map kt et))(htys:tys= #[t])(hH:(VY cm key L).H st.h.get)(hm:QW G K m=some (.mp cm)):U0 P G K (.call {callee:=.builtin .len,args:= #[m],argTypes:=tys}) st (.int .i64 (L.length:Nat)) st:=.of fun T' hT c d ty pos af g=>by
 subst htys;obtain⟨es,n,hc,he⟩:=hH
 have hl:es.length=L.length:=by have:=congrArg List.length he;rwa [List.length_map,List.length_map]at this
 show Qo (ZR P [t]) (ob (QH G T' m) fun x=>ret (BN x st.h.get) st) _=_;rw[show ZR P [t]=true by unfold ZR;simp only[hu],Q5,hT.QH hm,Qm];show ret (ob (st.h.get cm) _) st=_;rw[hc,Qm];simp only[Jf,Ur,hl];rfl
theorem zT(Tk:VE P t key z){es:List (AV×AV×Nat)}(hc:st.h.get cm=some (.map es n))(he:Of key es L)(hm:QW G K m=some (.mp cm))(hk:QW G K k=some (key a))(hx:QW G K x=some v)(hv:Qu v=true)(hn:Yk L a=none):
  U0 P G K (.insert t m k x) st (.tup []) (EW st cm n es (key a) v):=.of fun T' hT c d ty pos af g=>by
 obtain⟨kt,et,d',u1,u2,u3,u4,u5,u6⟩:=Tk.rule;show(ob (QH G T' m) fun m=>ob (QH G T' k) fun k=>ob (QH G T' x) fun x=>Zw P t m k x st)=_;rw[hT.QH hm,hT.QH hk,hT.QH hx,Qm,Qm,Qm];unfold Zw EW;obtain⟨f1,f2⟩:=VE.find (P:=P) (t:=t) (z:=z) (et:=et) u5 u6 a L es 0 he;simp only[u1,u2,u4,QP,hc,Qm,f1 hn,hv,Bool.true_or,JZ,U4,Jf,UG]
theorem yW(hK:QX K T)(B:Qk st0 X0 st M Os)(hj:Os[j]? =some (VY cm key L))(Tk:VE P t key z)(hm:QW G K m=some (.mp cm))(hk:QW G K k=some (key a))(hx:QW G K x=some v)(hv:Qu v=true)(hn:Yk L a=none)
  (hr: ∀st',Qk st0 X0 st' M (Os.set j (VY cm key (L++[(a,v)])))→WR P G N ops rest R T st'):WR P G N ops (⟨none,.insert t m k x,ty,pos,af,none⟩::rest) R T st:=by
 obtain⟨es,n,hc,he⟩:=B.at_ hj;exact Sc hK (zT Tk hc he hm hk hx hv hn) (hr _ (B.BH hj hc he a v))
end
theorem Jj.ae{P:Program}{h:Hp}{X:List Nat}{z:Nat}{ls:List (List AV)}{ks:AV}(r:Jj h X z ls ks){i:Nat}{cs:List AV}(hi:ls[i]? =some cs): ∃c m off,ks=.sl c m off ls.length z∧c∉X∧ ∀(h':Hp) (Y:List Nat),Jj h' Y z ls ks→
  (∀t,tk P t=.agg z→Jr P t (.ptr c m (off+i *z)) h'=some (.agg cs))∧(∀t j v,tk P t=.one→cs[j]? =some v→Jr P t (.ptr c m (off+i *z+j)) h'=some v)∧
  (∀t j n,tk P t=.agg n→j+n≤z→Jr P t (.ptr c m (off+i *z+j)) h'=some (.agg ((cs.drop j).take n))):=by
 obtain⟨c,m,off,e,hX,_⟩:=r.load (P:=P) hi;refine⟨c,m,off,e,hX,fun h' Y r'=>?_⟩;obtain⟨c',m',off',e',_,k⟩:=r'.load (P:=P) hi;rw[e]at e'
 injection e' with e1 e2 e3
 subst e1 e2 e3;exact k
theorem DO{α:Type}: ∀(j:Nat) (S:List α),(UR j S).length=S.length
 |_,[]=>rfl
 |j,x::S=>by rw[UR,List.length_cons,List.length_cons,DO (j+1) S]
theorem zS{α:Type}{key:α→AV}{P:Program}{G:Env}{st:St}{K:List (Nat×AV)}{t:TypeId}{cm:Nat}{S:List α}{m:Operand}{tys:Array TypeId}{kt et:TypeId}(hu:P.underlying t=some (.map kt et))(htys:tys= #[t])(hH:(VY cm key (UR 0 S)).H st.h.get)(hm:QW G K m=some (.mp cm)):U0 P G K (.call {callee:=.builtin .len,args:= #[m],argTypes:=tys}) st (.int .i64 (S.length:Nat)) st:=by
 have h:=zR (key:=key) (L:=UR 0 S) hu htys hH hm;rw[DO]at h;exact h
def ZX(T:Nat)(S:U6)(a:Au)(rs:List Nat):Prop:= ∀(s r:Nat),rs[s]? =some r→r<S.length∧ ∀c,c<2^T→Y2 S r c=((a.go s c:Nat):Int)
theorem ZX.pre{T:Nat}{S':U6}{a:Au}(H:ZX T S a rs)(W:Xb T S)(h:S<+:S'):ZX T S' a rs:=fun s r hs=>by
 obtain⟨h1,h2⟩:=H s r hs;exact⟨Nat.lt_of_lt_of_le h1 h.length_le,fun c hc=>by rw[Zp W h h1];exact h2 c hc⟩
def Ky(S:U6)(a:Au)(cl:List Int)(T:Nat)(ids:List Nat):Prop:= ∀(s r:Nat),ids[s]? =some r→r<S.length∧ ∀c,c<2^T→Y2 S r c=cv cl (a.go s c)
theorem Ky.pre{T:Nat}{S':U6}{a:Au}(H:Ky S a cl T ids)(W:Xb T S)(h:S<+:S'):Ky S' a cl T ids:=fun s r hs=>by
 obtain⟨h1,h2⟩:=H s r hs;exact⟨Nat.lt_of_lt_of_le h1 h.length_le,fun c hc=>by rw[Zp W h h1];exact h2 c hc⟩
theorem Ky.snoc{T:Nat}{a:Au}(H:Ky S a cl T ids)(hr:r<S.length)(he: ∀c,c<2^T→Y2 S r c=cv cl (a.go ids.length c)):Ky S a cl T (ids++[r]):=fun s q hs=>by
 by_cases hlt:s<ids.length
 ·rw[List.getElem?_append_left hlt]at hs;exact H s q hs
 ·have h3:=(List.getElem?_eq_some_iff.1 hs).1;rw[List.length_append,List.length_singleton]at h3
  have h4:s=ids.length:=by omega
  subst h4;rw[List.getElem?_append_right (Nat.le_refl _),Nat.sub_self]at hs
  injection hs with hs
  subst hs;exact⟨hr,he⟩
def O4(n:Nat)(cl:List Int)(ids:List Nat):List Int:=(List.range ids.length).map fun s=>(((ids[s]?).getD 0:Nat):Int) *((n:Nat):Int)+cv cl s
theorem W6(n:Nat)(cl:List Int)(ids:List Nat):(O4 n cl ids).length=ids.length:=by simp[O4]
theorem Mm(n:Nat)(cl:List Int)(ids:List Nat)(r:Nat):O4 n cl (ids++[r])=O4 n cl ids++[((r:Nat):Int) *((n:Nat):Int)+cv cl ids.length]:=by
 unfold O4;rw[List.length_append,List.length_singleton,List.range_succ,List.map_append,List.map_singleton]
 congr 1
 ·refine List.map_congr_left fun s hs=>?_;rw[List.getElem?_append_left (List.mem_range.1 hs)]
 ·rw[List.getElem?_append_right (Nat.le_refl _),Nat.sub_self];rfl
theorem SP{s:Nat}(h:ids[s]? =some r):cv (O4 n cl ids) s=((r:Nat):Int) *((n:Nat):Int)+cv cl s:=by
 have hlt:=(List.getElem?_eq_some_iff.1 h).1;unfold O4;rw[RB (List.getElem?_range hlt),h];rfl
theorem Rl{T:Nat}{a:Au}(W:Xb T S)(H:Ky S a cl T ids)(hT:a.tr=T)(hl:ids.length=a.n)(hc: ∀s,s<a.n→0≤cv cl s∧cv cl s<((a.n:Nat):Int)):A8 a cl (Ue [] (O4 a.n cl ids)):=by
 refine⟨by rw[X9,W6,hl],fun s t hs ht=>?_⟩;obtain⟨r,hr⟩: ∃r,ids[s]? =some r:=⟨_,List.getElem?_eq_getElem Qe⟩;obtain⟨q,hq⟩: ∃r,ids[t]? =some r:=⟨_,List.getElem?_eq_getElem Qe⟩;obtain⟨h1,h2⟩:=H s r hr;obtain⟨h3,h4⟩:=H t q hq;rw[H3 (by rw[W6,hl];exact hs) (by rw[W6,hl];exact ht),SP hr,SP hq,ji (hc s hs) (hc t ht)];refine⟨fun⟨e1,e2⟩=>⟨e2,fun c hcK=>?_⟩,fun⟨e1,e2⟩=>⟨?_,e1⟩⟩
 ·have e1:r=q:=by omega
  subst e1
  have hcK:c<2^T:=by rw[←hT];exact hcK
  rw[←h2 c hcK,←h4 c hcK]
 ·have:=wK W h1 h3 fun c hcT=>by rw[h2 c hcT,h4 c hcT];exact e2 c (by unfold Au.K;rw[hT];exact hcT)
  rw[this]
theorem ZX.snoc{T:Nat}{a:Au}(H:ZX T S a rs)(hr:r<S.length)(he: ∀c,c<2^T→Y2 S r c=((a.go rs.length c:Nat):Int)):ZX T S a (rs++[r]):=fun s q hs=>by
 by_cases hlt:s<rs.length
 ·rw[List.getElem?_append_left hlt]at hs;exact H s q hs
 ·have h3:=(List.getElem?_eq_some_iff.1 hs).1;rw[List.length_append,List.length_singleton]at h3
  have h4:s=rs.length:=by omega
  subst h4;rw[List.getElem?_append_right (Nat.le_refl _),Nat.sub_self]at hs
  injection hs with hs
  subst hs;exact⟨hr,he⟩
theorem ZX.val{T:Nat}{a:Au}{s:Nat}(H:ZX T S a rs)(W:Zl a)(V:Xb T S)(ht:a.tr=T)(hs:s<a.n)(h:rs[s]? =some r)(c:Nat):0≤Y2 S r c∧Y2 S r c<((a.n:Nat):Int):=by
 have hc:c % 2^T<2^T:=Nat.mod_lt _ (Nat.two_pow_pos T);rw[←R4 V,(H s r h).2 _ hc];have:=W.UN hs (c:=c % 2^T) (by unfold Au.K;rw[ht];exact hc);omega
def Cp(a:Au)(i:Nat):List Int:=(List.range i).map fun s=>((Em (a.ok s):Nat):Int)
theorem VB(a:Au)(i:Nat):(Cp a i).length=i:=by simp[Cp]
theorem GQ(a:Au)(i:Nat):Cp a (i+1)=Cp a i++[((Em (a.ok i):Nat):Int)]:=by unfold Cp;rw[List.range_succ,List.map_append];rfl
theorem ql(a:Au):IU a (Ue [] (Cp a a.n)):=N1 (by rw[X9,VB]) fun s t hs ht=>by
 rw[H3 (by rw[VB];exact hs) (by rw[VB];exact ht)];unfold Cp;rw[RB (List.getElem?_range hs),RB (List.getElem?_range ht)]
 cases a.ok s<;>cases a.ok t<;>decide
theorem SI(h:xs.length=n): ∀s,s<n→0≤cv (Ue [] xs) s∧cv (Ue [] xs) s<((n:Nat):Int):=fun s hs=>by
 have:=jB (xs:=xs) (s:=s) Qe;omega
theorem wP{l:List Int}(hl:l.length=n)(h: ∀s,s<n→0≤cv l s∧cv l s<((n:Nat):Int))(z:Int)(hz:z∈l):0≤z∧z<((n:Nat):Int):=by
 obtain⟨s,hs⟩:=List.getElem?_of_mem hz;have hlt:=(List.getElem?_eq_some_iff.1 hs).1;have:=h s Qe;unfold cv at this;rw[hs]at this;exact this
theorem qu:Tryz.prog.underlying 141=some (.map 3 3):=by kernel_rfl

theorem Ki{st:St}(hf:Qj st){kl:AV}(hl:Jj st.h.get [] 1 (zC xs) kl)(hx:xs.length≤1000000): ∃v st',Ev Tryz.prog Q0 140 [kl] st v st'∧ ∃kr,v=kr∧En st st' 1 kr (zC (Ue [] xs))∧Qt st st':=by
 have B:=Qk.start hf;have hlc:=hl.cell;refine JB Tryz.func140 Tryz.ntmps140 fun T K=>?_;have M:=B.mem;refine Qc 1 K M ?_;intro _ K;replace B:=B.step M;refine Wo KH K B rfl fun c9 _ _ K B=>?_;have M:=B.mem;refine Qc 3 K M ?_;intro _ K;refine p1 K (QA Jh rfl rfl (hl.len.trans (congrArg some (Ql _)))) fun _ K=>?_;refine Qc 1 K M ?_;intro _ K;refine Jd (fun mm1 T st9=> ∃(i:Nat) (kr:AV) (A:QT),mm1=xs.length-i∧QX [(2,.nils),(3,.mp c9),(4,kr),(10,kl),(11,iZ (xs.length:Nat)),(12,iN i)] T∧Qk st Xv st9 (A++[]) [VY c9 KH (UR 0 (JY [] (xs.take i)))]∧i≤xs.length∧Acc 0 1 A kr (zC (Ue [] (xs.take i)))) (fun mm1 T st9 hI=>?_) _ _ _ ⟨0,.nils,[],rfl,(K.sub rfl),(B.step M).less (.refl _),(Nat.zero_le _),(by rw[List.take_zero];exact .none)⟩;obtain⟨i,kr,A,rfl,K,B,hi,hA⟩:=hI;have M:=B.mem;refine Qc 1 K M ?_;intro _ K;refine JN K rfl (fun h13=>?_) fun h13=>?_
 ·refine Qc 0 K M ?_;intro _ K;obtain⟨y14,hi14⟩:=U1 xs i Qe;obtain⟨x14,m14,f14,q14,_,la14,lo14,lp14⟩:=((B.step M).Ov hf hl).load (i:=i) (cs:=_) (Jo hi14);refine p1 K (Qa (j:=i) Qv (congrArg some q14) rfl (by rw[Ql];omega)) fun _ K=>p1 K (Qd rfl (lo14 _ 0 _ Qr rfl)) fun _ K=>?_;refine Qc 3 K M ?_;intro _ K;refine p1 K (W0 (a:=y14) HA ((B.step M).at_ (k:=0) rfl) rfl rfl) fun _ K=>?_;refine Qc 5 K M ?_;intro _ K
  have htk:xs.take (i+1)=xs.take i++[y14]:=by rw[List.take_add_one,hi14];rfl
  refine Qc 2 K M ?_;intro _ K;refine Qq (K.QH rfl) (fun h23=>?_) (fun h23=>?_)
  ·have hb23:=h23
   replace h23:((Yk (UR 0 (JY [] (xs.take i))) (y14)).isSome)=false:=by simpa using h23
   refine Qc 1 K M ?_;intro _ K;refine p1 K (zS qu rfl ((B.step M).at_ (k:=0) rfl) rfl) fun _ K=>?_;refine Qc 4 K M ?_;intro _ K
   have hnone:Yk (UR 0 (JY [] (xs.take i))) y14=none:=by cases hq:Yk (UR 0 (JY [] (xs.take i))) y14 with|none=>rfl|some x=>rw[hq]at h23;cases h23
   have hnew:=Lf (xs.take i) [] (Nq hnone);replace B:=B.step M;refine Hh (j:=0) (a:=y14) K B rfl HA rfl rfl rfl rfl hnone fun _ B=>?_;rw[show UR 0 (JY [] (xs.take i))++[(y14,iZ ((JY [] (xs.take i)).length:Nat))]=UR 0 (JY [] (xs.take (i+1))) by rw[htk,hnew.2,AR,Nat.zero_add]]at B;have M:=B.mem;refine au 3 K M ?_;intro c31 _ _ K _ M;refine QZ (k2:=0) (L:=[(c31,0,[iZ ((JY [] (xs.take i)).length:Nat)])]) (A:=A) (B:=[]) K M hA QL rfl rfl rfl rfl (by rw[Ql,X9,List.length_take];omega) rfl fun ks32 A32 _ _ K hA32 M=>?_;refine Qc 3 K M ?_;intro _ K
   have hout:Ue [] (xs.take (i+1))=Ue [] (xs.take i)++[(((JY [] (xs.take i)).length:Nat):Int)]:=by rw[htk,hnew.1]
   exact⟨_,Qe,i+1,ks32,A32,rfl,(K.sub rfl),(B.step M).less (.cons _ (.refl _)),Qe,(by rw[hout,JT];exact hA32)⟩
  have hb23:=h23
  replace h23:((Yk (UR 0 (JY [] (xs.take i))) (y14)).isSome)=true:=by simpa using h23
  refine Xi ?_;show W _ _ _ _ _ _ _
  obtain⟨v0,hv0⟩: ∃x,Yk (UR 0 (JY [] (xs.take i))) y14=some x:=by cases hq:Yk (UR 0 (JY [] (xs.take i))) y14 with|none=>rw[hq]at h23;cases h23|some x=>exact⟨x,rfl⟩
  obtain⟨j,hj,rfl⟩:=Np hv0;rw[hv0]at K;obtain⟨e1,e2⟩:=Le (xs.take i) [] List.nodup_nil hj;refine au 3 K M ?_;intro c31 _ _ K _ M;refine QZ (k2:=0) (L:=[(c31,0,[iN j])]) (A:=A) (B:=[]) K M hA QL rfl rfl rfl rfl (by rw[Ql,X9,List.length_take];omega) rfl fun ks32 A32 _ _ K hA32 M=>?_;refine Qc 3 K M ?_;intro _ K
  have hout:Ue [] (xs.take (i+1))=Ue [] (xs.take i)++[((j:Nat):Int)]:=by rw[htk,e1]
  have hsn:JY [] (xs.take (i+1))=JY [] (xs.take i):=by rw[htk,e2]
  replace B:=B.step M;rw[←hsn]at B;have M:=B.mem;exact⟨_,Qe,i+1,ks32,A32,rfl,(K.sub rfl),(B.step M).less (.cons _ (.refl _)),Qe,(by rw[hout,JT];exact hA32)⟩
 refine QU ?_;show W _ _ _ _ _ _ _;refine QC ?_;rw[List.take_of_length_le Qe]at hA;refine Qc 2 K M ?_;exact⟨_,rfl,(B.step M).newRow hA (fun c m l h=>by simp[h]),(B.step M).qt⟩

theorem MM{st:St}(hf:Qj st){ys:List Int}{ka kb:AV}(ha:Jj st.h.get [] 1 (zC xs) ka)(hb:Jj st.h.get [] 1 (zC ys) kb): ∃v st',Ev Tryz.prog Q0 142 [ka,kb] st v st'∧v=.bool (decide (xs=ys))∧Qt st st':=by
 have hbnxs:(xs.length:Int)≤9223372036854775807:=by have:=ha.Ey;rw[Ql]at this;exact this
 have hbnys:(ys.length:Int)≤9223372036854775807:=by have:=hb.Ey;rw[Ql]at this;exact this
 refine JB Tryz.func142 Tryz.ntmps142 fun T K=>?_;have M:=Mem.start hf;refine Qc 2 K M ?_;intro _ K;refine p1 K (QA Jh rfl rfl (ha.len.trans (congrArg some (Ql _)))) fun _ K=>?_;refine Qc 1 K M ?_;intro _ K;refine p1 K (QA Jh rfl rfl (hb.len.trans (congrArg some (Ql _)))) fun _ K=>?_;refine Qc 1 K M ?_;intro _ K;refine Qq (K.QH rfl) (fun h10=>?_) (fun h10=>?_)
 ·have hb10:=h10
  replace h10: ¬(((xs.length:Nat):Int)=((ys.length:Nat):Int)):=by first|exact of_decide_eq_false h10|exact yF h10|simpa using h10
  refine Qc 1 K M ?_;refine⟨congrArg AV.bool ?_,M.qt⟩;refine(decide_eq_false fun e=>?_).symm;subst e
  first|(exact h10 rfl)|(rw[hi18]at hi22;injection hi22 with e;exact h24 Qe)
 have hb10:=h10
 replace h10:(((xs.length:Nat):Int)=((ys.length:Nat):Int)):=by first|exact of_decide_eq_true h10|exact yT h10|simpa using h10
 refine Qc 1 K M ?_;intro _ K;refine p1 K (QA Jh rfl rfl (ha.len.trans (congrArg some (Ql _)))) fun _ K=>?_;refine Qc 1 K M ?_;intro _ K;refine Jd (fun mm1 T st9=> ∃(i:Nat),mm1=xs.length-i∧QX [(0,ka),(1,kb),(12,iZ (xs.length:Nat)),(13,iN i)] T∧Mem st.h.get st.n [] st9 []∧i≤xs.length∧(∀j,j<i→xs[j]? =ys[j]?)) (fun mm1 T st9 hI=>?_) _ _ _ ⟨0,rfl,(K.sub rfl),M.less (.refl _),(Nat.zero_le _),(fun j hj=>absurd hj (Nat.not_lt_zero j))⟩;obtain⟨i,rfl,K,M,hi,hs⟩:=hI;refine Qc 1 K M ?_;intro _ K;refine JN K rfl (fun h14=>?_) fun h14=>?_
 ·refine Qc 2 K M ?_;intro _ K;refine QF (l:=[(0,0),(1,0),(2,0),(3,0),(4,0),(5,0),(6,0),(7,0),(8,0)]) (by kernel_rfl) ?_;refine Jn 2 K M ?_;intro _ K;obtain⟨y18,hi18⟩:=U1 xs i Qe;obtain⟨x18,m18,f18,q18,_,la18,lo18,lp18⟩:=(Jj.mem M ha Q7).load (i:=i) (cs:=_) (Jo hi18);refine q1 rfl K (Qa (j:=i) Qv (congrArg some q18) rfl (by rw[Ql];omega)) fun _ K=>q1 rfl K (Qd rfl (lo18 _ 0 _ Qr rfl)) fun _ K=>?_;refine Jn 2 K M ?_;intro _ K;obtain⟨y22,hi22⟩:=U1 ys i Qe;obtain⟨x22,m22,f22,q22,_,la22,lo22,lp22⟩:=(Jj.mem M hb Q7).load (i:=i) (cs:=_) (Jo hi22);refine q1 rfl K (Qa (j:=i) Qv (congrArg some q22) rfl (by rw[Ql];omega)) fun _ K=>q1 rfl K (Qd rfl (lo22 _ 0 _ Qr rfl)) fun _ K=>q1 rfl K (Rc rfl rfl) fun _ K=>QI ?_;show W _ _ _ _ _ _ _;refine Qq (K.QH rfl) (fun h24=>?_) (fun h24=>?_)
  ·have hb24:=h24
   replace h24: ¬(y18=y22):=by first|exact of_decide_eq_false h24|exact yF h24|simpa using h24
   refine Qc 1 K M ?_;refine⟨congrArg AV.bool ?_,M.qt⟩;refine(decide_eq_false fun e=>?_).symm;subst e
   first|(exact h10 rfl)|(rw[hi18]at hi22;injection hi22 with e;exact h24 Qe)
  have hb24:=h24
  replace h24:(y18=y22):=by first|exact of_decide_eq_true h24|exact yT h24|simpa using h24
  refine Qc 2 K M ?_;intro _ K;exact⟨_,Qe,i+1,rfl,(K.sub rfl),M.less (.refl _),Qe,(fun j hj=>by by_cases e:j=i;subst e;rw[hi18,hi22];exact congrArg some Qe;exact hs j Qe)⟩
 refine QU ?_;show W _ _ _ _ _ _ _;refine Qc 1 K M ?_;refine⟨congrArg AV.bool ?_,M.qt⟩;refine(decide_eq_true ?_).symm;apply List.ext_getElem?;intro j
 by_cases hj:j<xs.length
 ·exact hs j Qe
 ·rw[List.getElem?_eq_none Qe,List.getElem?_eq_none Qe]

theorem PS{st:St}(hf:Qj st){FD F:Fp}{dp sp:Nat}{a:Au}(hD:UT st FD dp a)(hS:Zm st F sp a.tr S)(hdF: ∀c,FD c→ ¬F c)(wfS0:Xb a.tr S){kr:AV}(hR:Jj st.h.get [] 1 (zC (zN rs)) kr)(offR: ∀c m o n y,kr=.sl c m o n y→ ¬F c)(hrl:rs.length=a.n)(hrs:ZX a.tr S a rs){kc:AV}(hC:Jj st.h.get [] 1 (zC cl) kc)(hcl:cl.length=a.n)(hcv: ∀s,s<a.n→0≤cv cl s∧cv cl s<((a.n:Nat):Int))(offC: ∀c m o n y,kc=.sl c m o n y→ ¬F c)(hlen:S.length+a.n *127≤1000000000): ∃v st',Ev Tryz.prog Q0 141 [.ptr dp 0 0,.ptr sp 0 0,kr,kc] st v st'∧ ∃kr' S' out st2,v=kr'∧XN st st2 F sp a.tr S'∧Qt st2 st'∧En st2 st' 1 kr' (zC (Ue [] out))∧S<+:S'∧Xb a.tr S'∧S'.length≤S.length+a.n *127∧out.length=a.n∧A8 a cl (Ue [] out):=by
 have wf:=hD.wf;have htr:=wf.tr;have hmo:=wf.most;have h127:2^(a.tr+1)≤128:=Nat.pow_le_pow_right QD (by omega:a.tr+1≤7);have hrc:=hR.cell;have hkc:=hC.cell
 have hbr:(rs.length:Int)≤9223372036854775807:=by omega
 have hn127: ∀k,k≤a.n→k *127≤a.n *127:=fun k hk=>Nat.mul_le_mul_right _ hk;have B:=Qk.UI (o:=X3 F sp a.tr S) hf hS.at_ hS.hi;refine JB Tryz.func141 Tryz.ntmps141 fun T K=>?_;have M:=B.mem;refine Qc 3 K M ?_;intro _ K;refine p1 K (QA Jh rfl rfl (hR.len.trans (congrArg some (by rw[Ql,List.length_map])))) fun _ K=>?_;refine Qc 1 K M ?_;intro _ K;refine Jd (fun mm1 T st9=> ∃(i:Nat) (ids:List Nat) (S2:U6) (F2:Fp) (ko:AV) (A:QT),mm1=rs.length-i∧QX [(0,.ptr dp 0 0),(1,.ptr sp 0 0),(3,kc),(8,.nils),(9,ko),(12,kr),(13,iZ (rs.length:Nat)),(14,iN i)] T∧Qk st (X3 F sp a.tr S).F st9 (A++[]) [X3 F2 sp a.tr S2]∧ids.length=i∧i≤rs.length∧Ky S2 a cl a.tr ids∧S<+:S2∧Xb a.tr S2∧S2.length≤S.length+i *127∧Acc 0 1 A ko (zC (O4 a.n cl ids))) (fun mm1 T st9 hI=>?_) _ _ _ ⟨0,[],S,F,.nils,[],rfl,(K.sub rfl),(B.step M).less (.refl _),rfl,(Nat.zero_le _),(fun s r h=>by simp at h),(List.prefix_refl _),wfS0,Qe,.none⟩;obtain⟨i,ids,S2,F2,ko,A,rfl,K,B,hil,hi,himg,hpre,wfS,hSl,hA⟩:=hI;have M:=B.mem;have hni:=hn127 i Qe;refine Qc 1 K M ?_;intro _ K;refine JN K rfl (fun h15=>?_) fun h15=>?_
 ·refine Qc 1 K M ?_;intro _ K;obtain⟨y17,hi17⟩:=U1 rs i Qe;obtain⟨x17,m17,f17,q17,_,la17,lo17,lp17⟩:=((B.step M).rd hf hR offR).load (i:=i) (cs:=_) (EB hi17);refine p1 K (Qa (j:=i) Qv (congrArg some q17) rfl (by rw[Ql,List.length_map];omega)) fun _ K=>p1 K (Qd rfl (lo17 _ 0 _ Qr rfl)) fun _ K=>?_;refine Qc 2 K M ?_;intro _ K;refine QF (l:=[(1,0),(2,0),(3,0),(4,0),(5,0),(6,0),(0,0),(7,0),(8,0),(9,0),(10,0),(11,2),(12,0),(13,0),(14,0),(15,0)]) (by kernel_rfl) ?_;have Mq:=M;have Mz0:=M;have Bz0:=B;refine Jn 3 K M ?_;intro _ K;replace B:=B.step M;have hRi:=hrs.pre wfS0 hpre;have hr17:=hRi i y17 hi17;have hvl:=hRi.val wf wfS rfl Qe hi17;obtain⟨v23,st23,ev23,r1,S3,rfl,hout,mb,hev⟩:=jd B.fresh (B.Kc (k:=0) rfl) wf.tr wfS hr17.1 (B.rd hf hC offC) (B.off (k:=0) rfl hf hC offC) (fun z hz=>by have:=wP hcl hcv z hz;omega) (fun c=>by rw[hcl];exact hvl c) Qe;refine qA rfl K (Qh rfl ev23) fun _ K=>?_;obtain⟨F3,B⟩:=B.VO hout;have M:=B.mem;have hmbl:=mb.len;have hmlt:=mb.lt
  have hrn:0≤((r1:Nat):Int) *((a.n:Nat):Int)∧((r1:Nat):Int) *((a.n:Nat):Int)≤400000000000:=by
   have h1:=Nat.mul_le_mul (show r1≤1000000000 by omega) (show a.n≤400 from hmo);rw[←Int.natCast_mul];omega
  have Mp:=Mq;have Mq:=M;have Mz1:=M;have Bz1:=B;refine q1 rfl K (Qg rfl) fun _ K=>?_;obtain⟨v25,st25,ev25,rfl,q25⟩:=GF M.fresh (hD.Oh (B.step M).JM hdF);refine qA rfl K (Qh rfl ev25) fun _ K=>?_;replace M:=M.quiet q25;have Mp:=Mq;have Mq:=M;have Mz2:=M;have Bz2:=B;refine q1 rfl K (Qg rfl) fun _ K=>q1 rfl K (SE (c:=((r1:Nat):Int) *((a.n:Nat):Int)) rfl rfl (IntWalk.i64_in _ Qe)) fun _ K=>?_;refine Jn 2 K M ?_;intro _ K;obtain⟨y29,hi29⟩:=U1 cl i Qe
  have hcy29:cv cl i=y29:=by unfold cv;rw[hi29];rfl
  have hcb29:=hcv i Qe;obtain⟨x29,m29,f29,q29,_,lf29⟩:=Jj.ae ((B.step M).rd hf hC offC) (i:=i) (cs:=_) (Jo hi29);refine q1 rfl K (Qa (j:=i) Qv (congrArg some q29) rfl (by rw[Ql];omega)) fun _ K=>?_
  refine Wq rfl K rfl ((lf29 _ _ ((B.step M).rd hf hC offC)).2.1 _ 0 _ Qr rfl) Q7 (by intro s hs;simp only[List.take_succ_cons,List.take_zero,List.mem_cons,List.not_mem_nil,or_false]at hs;rcases hs with rfl|rfl<;>first|exact((lf29 _ _ ((Bz1.step Mz1).rd hf hC offC)).2.1 _ 0 _ Qr rfl)|exact((lf29 _ _ ((Bz0.step Mz0).rd hf hC offC)).2.1 _ 0 _ Qr rfl)) (JQ rfl) rfl QD fun _ K=>?_
  refine Jn 1 K M ?_;intro _ K;refine XR rfl K M QL Vp rfl rfl rfl rfl rfl fun c32 _ _ K M=>?_;refine Xz (k2:=0) (L:=[(c32,0,[iZ (((((r1:Nat):Int) *((a.n:Nat):Int))+y29))])]) (A:=A) (B:=[]) rfl K M hA QL rfl rfl rfl rfl (by rw[Ql,W6];omega) rfl fun ks33 A33 _ _ K hA33 M=>?_;have Mp:=Mq;have Mq:=M;have Mz3:=M;have Bz3:=B;refine q1 rfl K (U3 rfl) fun _ K=>QI ?_;show W _ _ _ _ _ _ _;refine Qc 2 K M ?_;intro _ K;have hni2:=hn127 (i+1) Qe;exact⟨_,Qe,i+1,(ids++[r1]),S3,F3,ks33,A33,rfl,(K.sub rfl),(B.step M).less (.cons _ (.refl _)),(by rw[List.length_append,hil];rfl),Qe,((himg.pre wfS mb.pre).snoc mb.lt (fun c hc=>by rw[hev,hr17.2 c hc,hil,Int.toNat_natCast])),(hpre.trans mb.pre),mb.wf,Qe,(by rw[Mm,hil,hcy29,JT];exact hA33)⟩
 refine QU ?_;show W _ _ _ _ _ _ _;refine Qc 1 K M ?_;intro _ K;replace B:=B.step M;have B9:=B;obtain⟨v36,st36,ev36,kr9,rfl,nr9,q9⟩:=Ki B.fresh (Mem.Yx (L:=[]) (A:=A) (B:=[]) M hA) (by rw[W6];omega);refine p1 K (Qh rfl ev36) fun _ K=>?_;replace B:=B.quiet q9;have M:=B.mem;refine Qc 1 K M ?_
 have hin:i=a.n:=by omega
 exact⟨_,S2,O4 a.n cl ids,_,rfl,B9.LS,q9,nr9,hpre,wfS,by rw[hin]at hSl;exact hSl,by rw[W6];omega,Rl wfS himg rfl Qe hcv⟩
end Go.Proofs.YtiknomepbklibaaGreatDoor
