/-
  The reference's classes and least automaton, plainly.
-/
import Derived.Test.YtiknomepbklibaaGreatDoorQsPrd
set_option maxHeartbeats 8000000
set_option maxRecDepth 100000
set_option linter.unnecessarySimpa false
set_option linter.unusedSectionVars false
set_option linter.unusedSimpArgs false
set_option linter.unusedVariables false
namespace Go.Proofs.YtiknomepbklibaaGreatDoor
open Go Go.RowKit
section
variable {n s:Nat} {nu:List Int} {x:Int}

theorem VH{cl:List Int}{y:Int}(h:cl[s]? =some y):cv cl s=y:=by unfold cv;rw[h];rfl
theorem Ol{l:List Int}{j:Nat}(hj:j<l.length):cv (l.set j x) s=if s=j then x else cv l s:=by
 unfold cv;rw[List.getElem?_set]
 by_cases h:j=s
 ·subst h;rw[if_pos rfl,if_pos hj,if_pos rfl];rfl
 ·rw[if_neg h,if_neg fun e=>h e.symm]
def Na(a:Au)(cl:List Int)(s c:Nat):List Int:=cv cl s::(List.range c).map fun c=>cv cl (a.go s c)
def BD(a:Au)(cl:List Int)(s:Nat):List Int:=Na a cl s a.K
theorem Mi(a:Au)(cl:List Int)(s c:Nat):Na a cl s (c+1)=Na a cl s c++[cv cl (a.go s c)]:=by
 unfold Na;rw[List.range_succ,List.map_append];rfl
theorem jn(a:Au)(cl:List Int)(s c:Nat):(Na a cl s c).length=c+1:=by simp[Na]
theorem xn{a:Au}{cl:List Int}{t:Nat}:BD a cl s=BD a cl t↔cv cl s=cv cl t∧ ∀c,c<a.K→cv cl (a.go s c)=cv cl (a.go t c):=by
 unfold BD Na;rw[List.cons.injEq,List.map_inj_left];exact⟨fun h=>⟨h.1,fun c hc=>h.2 c (List.mem_range.2 hc)⟩,fun h=>⟨h.1,fun c hc=>h.2 c (List.mem_range.1 hc)⟩⟩
structure FC(a:Au)(cl:List Int)(i:Nat)(SG:List (List Int))(out:List Int):Prop where
 len:out.length=i
 nodup:SG.Nodup
 num: ∀s,s<i→ ∃v:Nat,out[s]? =some ((v:Nat):Int)∧SG[v]? =some (BD a cl s)
 all: ∀v,v<SG.length→ ∃s,s<i∧SG[v]? =some (BD a cl s)
section
variable {a:Au} {cl out:List Int} {i:Nat} {SG:List (List Int)}
theorem FC.start(a:Au)(cl:List Int):FC a cl 0 [] []:=⟨rfl,List.nodup_nil,fun s h=>absurd h (Nat.not_lt_zero s),fun v h=>absurd h (Nat.not_lt_zero v)⟩
theorem FC.J9(H:FC a cl i SG out){v:Nat}(hv:SG[v]? =some (BD a cl i)):FC a cl (i+1) SG (out++[((v:Nat):Int)]):=by
 refine⟨by simp[H.len],H.nodup,fun s hs=>?_,fun v hv=>?_⟩
 ·by_cases h:s<i
  ·obtain⟨w,h1,h2⟩:=H.num s h;exact⟨w,by rw[List.getElem?_append_left (by rw[H.len];exact h)];exact h1,h2⟩
  ·have e:s=i:=by omega
   subst e;exact⟨v,by rw[List.getElem?_append_right (by rw[H.len];exact Nat.le_refl _),H.len,Nat.sub_self];rfl,hv⟩
 ·obtain⟨s,h1,h2⟩:=H.all v hv;exact⟨s,by omega,h2⟩
theorem FC.new(H:FC a cl i SG out)(hn:BD a cl i∉SG):FC a cl (i+1) (SG++[BD a cl i]) (out++[((SG.length:Nat):Int)]):=by
 have H2:FC a cl i SG out:=H;refine⟨by simp[H.len],List.nodup_append.2 ⟨H.nodup,by simp,fun x hx y hy e=>?_⟩,fun s hs=>?_,fun v hv=>?_⟩
 ·rw[List.mem_singleton]at hy;subst hy e;exact hn hx
 ·by_cases h:s<i
  ·obtain⟨w,h1,h2⟩:=H.num s h;exact⟨w,by rw[List.getElem?_append_left (by rw[H.len];exact h)];exact h1,by rw[List.getElem?_append_left (List.getElem?_eq_some_iff.1 h2).1];exact h2⟩
  ·have e:s=i:=by omega
   subst e;exact⟨SG.length,by rw[List.getElem?_append_right (by rw[H.len];exact Nat.le_refl _),H.len,Nat.sub_self];rfl,by rw[List.getElem?_append_right (Nat.le_refl _),Nat.sub_self];rfl⟩
 ·rw[List.length_append,List.length_singleton]at hv
  by_cases h:v<SG.length
  ·obtain⟨s,h1,h2⟩:=H.all v h;exact⟨s,by omega,by rw[List.getElem?_append_left h];exact h2⟩
  ·have e:v=SG.length:=by omega
   subst e;exact⟨i,by omega,by rw[List.getElem?_append_right (Nat.le_refl _),Nat.sub_self];rfl⟩
theorem FC.le(H:FC a cl i SG out):SG.length≤i:=by
 have:=Xa (b:=(List.range i).map fun s=>BD a cl s) H.nodup fun x hx=>by
  obtain⟨v,hv⟩:=List.getElem?_of_mem hx;obtain⟨s,h1,h2⟩:=H.all v (List.getElem?_eq_some_iff.1 hv).1;rw[hv]at h2
  injection h2 with h2
  exact List.mem_map.2 ⟨s,List.mem_range.2 h1,h2.symm⟩
 simpa using this
theorem FC.done(H:FC a cl a.n SG out):AQ a cl out∧Kn a.n out SG.length:=by
 refine⟨⟨H.len,fun s t hs ht=>?_⟩,⟨fun s hs=>?_,fun v hv=>?_⟩⟩
 ·obtain⟨v,h1,h2⟩:=H.num s hs;obtain⟨w,h3,h4⟩:=H.num t ht;rw[VH h1,VH h3,←xn];constructor
  ·intro e
   have e:v=w:=by omega
   subst e;rw[h2]at h4;injection h4
  ·intro e;rw[←e]at h4;have:=(List.getElem?_inj (List.getElem?_eq_some_iff.1 h2).1 H.nodup).1 (h2.trans h4.symm);rw[this]
 ·obtain⟨v,h1,h2⟩:=H.num s hs;have:=(List.getElem?_eq_some_iff.1 h2).1;rw[VH h1];omega
 ·obtain⟨s,h1,h2⟩:=H.all v hv;obtain⟨w,h3,h4⟩:=H.num s h1;have:=(List.getElem?_inj (List.getElem?_eq_some_iff.1 h4).1 H.nodup).1 (h4.trans h2.symm);exact⟨s,h1,by rw[VH h3,this]⟩
end
theorem N1{cl:List Int}{k:Nat}(h:Kn n cl k):k≤n:=by
 have:=Xa (a:=List.range k) (b:=(List.range n).map fun s=>(cv cl s).toNat) List.nodup_range fun v hv=>by
  obtain⟨s,h1,h2⟩:=h.2 v (List.mem_range.1 hv);exact List.mem_map.2 ⟨s,List.mem_range.2 h1,by rw[h2];rfl⟩
 simpa using this
theorem yK{a:Au}(W:Zp a){cl out:List Int}{was k:Nat}(hF:Kp a cl)(hw:was=0∨Kn a.n cl was)(f:AQ a cl out)(ho:Kn a.n out k):Kp a out∧was≤k∧(k=was→ZO a out):=by
 have hk:0<k:=by
  have:=ho.1 0 W.pos;omega
 refine⟨hF.yn W f,?_,fun e=>?_⟩
 ·rcases hw with h|h
  ·omega
  ·exact(BR f h ho).1
 ·subst e;rcases hw with h|h
  ·omega
  ·exact(hF.yn W f).IG W (CZ W f (Ae f ((BR f h ho).2 rfl)))
def X6(a:Au)(i:Nat)(cl:List Int):Prop:=cl.length=a.n∧ ∀s,s<a.n→cv cl s=if s<i∧a.ok s≠a.ok 0 then 1 else 0
theorem X6.start(a:Au):X6 a 0 (List.replicate a.n 0):=⟨by simp,fun s hs=>by
 unfold cv;rw[List.getElem?_replicate,if_pos hs]
 simp⟩
theorem X6.no{a:Au}{i:Nat}{cl:List Int}(H:X6 a i cl)(h:a.ok i=a.ok 0):X6 a (i+1) cl:=⟨H.1,fun s hs=>by
 rw[H.2 s hs]
 by_cases e:s=i
 ·subst e;simp[h]
 ·have:s<i↔s<i+1:=by omega
  simp[this]⟩
theorem X6.yes{a:Au}{i:Nat}{cl:List Int}(H:X6 a i cl)(hi:i<a.n)(h:a.ok i≠a.ok 0):X6 a (i+1) (cl.set i 1):=⟨by simp[H.1],fun s hs=>by
 rw[Ol (by rw[H.1];exact hi),H.2 s hs]
 by_cases e:s=i
 ·subst e;simp[h]
 ·have:s<i↔s<i+1:=by omega
  simp[this,e]⟩
theorem X6.done{a:Au}{cl:List Int}(H:X6 a a.n cl):Kp a cl:=NT H.1 fun s t hs ht=>by
 rw[H.2 s hs,H.2 t ht]
 cases h1:a.ok s<;>cases h2:a.ok t<;>cases h3:a.ok 0<;>simp[hs,ht]
structure O7(n:Nat)(L nu:List Int):Prop where
 len:nu.length=n
 yes: ∀(j:Nat) (x:Int),L[j]? =some x→cv nu x.toNat=((j:Nat):Int)
 no: ∀(x:Int),0≤x→x<n→x∉L→cv nu x.toNat= -1
 rng: ∀x∈L,0≤x∧x<((n:Nat):Int)
theorem O7.new{L:List Int}(H:O7 n L nu)(h0:0≤x)(h1:x<n)(hx:x∉L):O7 n (L++[x]) (nu.set x.toNat ((L.length:Nat):Int)):=by
 have hl:x.toNat<nu.length:=by rw[H.len];omega
 refine⟨by simp[H.len],fun j y hj=>?_,fun y k0 k1 hy=>?_,fun y hy=>?_⟩
 ·rw[Ol hl]
  by_cases e:j<L.length
  ·rw[List.getElem?_append_left e]at hj;have hne:y≠x:=fun e=>hx (e▸List.mem_of_getElem? hj);have:=H.rng y (List.mem_of_getElem? hj);rw[if_neg Qc];exact H.yes j y hj
  ·have hlt:=(List.getElem?_eq_some_iff.1 hj).1;rw[List.length_append,List.length_singleton]at hlt
   have e:j=L.length:=by omega
   subst e;rw[List.getElem?_append_right (Nat.le_refl _),Nat.sub_self]at hj
   injection hj with hj
   subst hj;rw[if_pos rfl]
 ·rw[Ol hl];have hne:y≠x:=fun e=>hy (by rw[e];simp);rw[if_neg Qc];exact H.no y k0 k1 fun h=>hy (by simp[h])
 ·rcases List.mem_append.1 hy with hy|hy
  ·exact H.rng y hy
  ·rw[List.mem_singleton.1 hy];exact⟨h0,h1⟩
theorem O7.start(hl:nu.length=n)(h: ∀s,s<n→cv nu s= -1)(h0:0≤x)(h1:x<n):O7 n [x] (nu.set x.toNat 0):=by
 have H:O7 n [] nu:=⟨hl,fun j x hj=>by simp at hj,fun x k0 k1 _=>h _ Qc,fun x hx=>by cases hx⟩;exact H.new h0 h1 Q4
theorem O7.mem{L:List Int}(H:O7 n L nu)(h0:0≤x)(h1:x<n){y:Int}(hy:cv nu x.toNat=y):(y<0∧x∉L)∨(∃j:Nat,y=((j:Nat):Int)∧L[j]? =some x):=by
 by_cases hx:x∈L
 ·obtain⟨j,hj⟩:=List.getElem?_of_mem hx;exact .inr ⟨j,by rw[←hy,H.yes j x hj],hj⟩
 ·exact .inl ⟨by rw[←hy,H.no x h0 h1 hx];decide,hx⟩
end
section
variable {a:Au} {cl:List Int} {ka kn:AV} {ls:List (List AV)} {st:St}

theorem Qk.newRow{st0:St}{M A:QM}{Os:List Ob}{z:Nat}{ks:AV}(B:Qk st0 ZQ st M Os)(hA:Acc 0 z A ks ls)(hs: ∀c m l,(c,m,l)∈A→(c,m,l)∈M):ED st0 st z ks ls:=by
 refine⟨A,?_,fun c m l hm=>B.row c m l (hs c m l hm)⟩
 cases hA with
 |none=>exact .none
 |own h1 h2 h3=>exact .own ((B.lo _ _ _ (hs _ _ _ (List.mem_cons_self ..))).resolve_right id) h2 h3

theorem aZ(h:X5 cl)(s:Nat):X5 (BD a cl s):=by
 have key: ∀s,-9223372036854775808≤cv cl s∧cv cl s≤9223372036854775807:=fun s=>by
  unfold cv
  cases hs:cl[s]? with
  |none=>exact⟨by decide,by decide⟩
  |some y=>exact h y (List.mem_of_getElem? hs)
 intro z hz;unfold BD Na at hz;rcases List.mem_cons.1 hz with rfl|hz
 ·exact key s
 ·obtain⟨c,_,rfl⟩:=List.mem_map.1 hz;exact key _

theorem xl(hf:Qi st)(wf:Zp a)(hA:Jg st.h.get [] 1 (bC a.acc) ka)(hN:OC st.h.get a.nx kn ls){kc:AV}(hc:Jg st.h.get [] 1 (zC cl) kc)(hcl:cl.length=a.n){s:Nat}(hs:s<a.n): ∃v st',Jf 82 [.agg [iZ (a.tr:Nat),ka,kn],kc,iN s] st v st'∧ ∃kr,v=kr∧ED st st' 1 kr (zC (BD a cl s))∧Qt st st':=by
 have hac:=hA.cell;have hnc:=hN.r.cell;have hmo:=wf.most;have hps:=wf.pos;have hln:=wf.len;have hen:a.n=a.acc.length:=rfl;have htr:=wf.tr;have hp6:=JG htr;have hp0:0<2^a.tr:=Nat.two_pow_pos _;have hcc:=hc.cell;refine J7 Tryz.func82 Tryz.ntmps82 fun T K=>?_;have M:=Mem.start hf;refine Qb 0 K M fun _ K=>?_;refine Jv K M rfl (Qa rfl (Qa hA.cell (Qa hN.r.cell Qz))) Q8 fun c3 _ _ K M=>?_;refine Qb 3 K M fun _ K=>?_;obtain⟨y11,hi11⟩:=Uy cl s Qc;refine oI (Jg.mem M hc Q4) (Jm hi11) K Qo Qn rfl rfl rfl fun _ _ _ _ K=>?_;refine au 2 K M ?_;intro c13 _ _ K _ M;replace M:=Mem.cast (M':=((c3,0,[iZ (a.tr:Nat),ka,kn])::([(c13,0,[iZ y11])]++[]))) (Mem.perm M (List.perm_append_comm (α:=Nat×Nat×List AV) (l₁:=[(c13,0,[iZ y11])]) (l₂:=[(c3,0,[iZ (a.tr:Nat),ka,kn])]))) Ux;have hAS0:Acc st.n 1 [(c13,0,[iZ y11])] (.sl c13 0 0 1 1) [[iZ y11]]:=Acc.own (n0:=st.n) (z:=1) (c:=c13) (m:=0) (ls:=[[iZ y11]]) ((M.own c13 0 [iZ y11] Q4).resolve_right Q4) Q4 Q4;refine Qb 1 K M fun _ K=>?_;refine QX (fun mm1 T st9=> ∃(c:Nat) (ko:AV) (A:U9),mm1=2^a.tr-c∧QS [(1,kc),(2,iN s),(3,.ptr c3 0 0),(6,.nils),(7,ko),(8,iN c)] T∧Mem st.h.get st.n [] st9 ((c3,0,[iZ (a.tr:Nat),ka,kn])::(A++[]))∧c≤2^a.tr∧Acc st.n 1 A ko (zC (Na a cl s c))) (fun mm1 T st9 hI=>?_) _ _ _ ⟨0,(.sl c13 0 0 1 1),[(c13,0,[iZ y11])],rfl,(K.sub rfl),M.less (.refl _),(Nat.zero_le _),(by rw[show Na a cl s 0=[y11] by unfold Na;rw[VH hi11];rfl];exact hAS0)⟩;obtain⟨c,ko,A,rfl,K,M,hck,hA2⟩:=hI;refine Qb 2 K M fun _ K=>?_;refine p1 K (Qg rfl (M.load (k:=0) rfl (Qd Q7 rfl))) fun _ K=>?_;refine Qb 1 K M fun _ K=>?_;obtain⟨s18,hi18⟩:=Uy a.nx s Qc;obtain⟨_,hc18,w18,rfl,hr18,hz18⟩:=hN.at_ _ _ hi18;have hw18:=wf.row s18 (List.mem_of_getElem? hi18);have hl18:s18.length=2^a.tr:=hw18.1;refine oI (Jg.mem M hN.r Q4) hc18 K QY Ja rfl rfl rfl fun _ _ _ _ K=>?_;refine p1 K (Q5 Je rfl rfl (hr18.len.trans (congrArg some (Qp _)))) fun _ K=>?_;refine Qb 1 K M fun _ K=>?_;refine Jt K rfl (fun h21=>?_) fun h21=>?_
 ·refine Qb 3 K M fun _ K=>?_;refine p1 K (Qg rfl (M.load (k:=0) rfl (Qd Q7 rfl))) fun _ K=>?_;refine Qb 1 K M fun _ K=>?_;obtain⟨_,hc29,w29,rfl,hr29,hz29⟩:=hN.at_ _ _ hi18;refine oI (Jg.mem M hN.r Q4) hc29 K QY Ja rfl rfl rfl fun _ _ _ _ K=>?_;refine Qb 1 K M fun _ K=>?_;obtain⟨y32,hi32⟩:=Uy s18 c Qc;have hb32:=hw18.2 y32 (List.mem_of_getElem? hi32);refine oI (Jg.mem M hr29 Q4) (Jm hi32) K Qo Qn rfl rfl rfl fun _ _ _ _ K=>?_;obtain⟨y34,hi34⟩:=Uy cl ((y32).toNat) Qc;obtain⟨x34,m34,f34,q34,_,la34,lo34,lp34⟩:=(Jg.mem M hc Q4).load (i:=(y32).toNat) (cs:=_) (Jm hi34);refine p1 K (Qe (j:=(y32).toNat) Qo (congrArg some q34) (congrArg (fun z=>some (iZ z)) (by omega:_=(((y32).toNat:Nat):Int))) (by rw[Qp];omega)) fun _ K=>p1 K (Qg rfl (lo34 _ 0 _ Qn rfl)) fun _ K=>?_;refine au 1 K M ?_;intro c36 _ _ K _ M;refine SI (k2:=0) (L:=[(c36,0,[iZ y34]),(c3,0,[iZ (a.tr:Nat),ka,kn])]) (B:=[]) K M hA2 QD rfl rfl rfl rfl (by rw[Qp,jn];omega) rfl fun ks37 A37 _ _ K hA37 M=>?_;refine Qb 4 K M fun _ K=>?_;exact⟨_,Qc,c+1,ks37,A37,rfl,(K.sub rfl),M.less (.cons _ (.refl _)),Qc,(by rw[Mi,JH hi18 hi32,VH hi34,JW];exact hA37)⟩
 refine QK ?_;show W _ _ _ _ _ _ _;refine Qb 2 K M ?_;refine⟨_,rfl,?_,M.qt⟩
 have hce:c=2^a.tr:=by omega
 subst hce;have h:=Mem.BS (L:=[(c3,0,[iZ (a.tr:Nat),ka,kn])]) (B:=[]) M hA2;exact h

theorem ym(hf:Qi st)(wf:Zp a)(hA:Jg st.h.get [] 1 (bC a.acc) ka)(hN:OC st.h.get a.nx kn ls){kc:AV}(hc:Jg st.h.get [] 1 (zC cl) kc)(hcl:cl.length=a.n)(hcz:X5 cl): ∃v st',Jf 56 [.agg [iZ (a.tr:Nat),ka,kn],kc] st v st'∧ ∃kr SG out,v=.tup [kr,iZ (SG.length:Nat)]∧FC a cl a.n SG out∧ED st st' 1 kr (zC out)∧Qt st st':=by
 have hac:=hA.cell;have hnc:=hN.r.cell;have hmo:=wf.most;have hps:=wf.pos;have hln:=wf.len;have hen:a.n=a.acc.length:=rfl;have htr:=wf.tr;have hp6:=JG htr;have hp0:0<2^a.tr:=Nat.two_pow_pos _;have hcc:=hc.cell;have B:=Qk.start hf;refine J7 Tryz.func56 Tryz.ntmps56 fun T K=>?_;have M:=B.mem;refine Qb 0 K M fun _ K=>?_;refine Jv K M rfl (Qa rfl (Qa hA.cell (Qa hN.r.cell Qz))) Q8 fun c2 _ _ K M=>?_;refine Qb 2 K M fun _ K=>?_;replace B:=(B.step M).V9;have M:=B.mem;refine Qb 3 K M fun _ K=>?_;refine QX (fun mm1 T st9=> ∃(i:Nat) (SG:List (List Int)) (F:Fp) (vs:List AV) (ks:AV) (As:QM) (out:List Int) (ko:AV) (Ao:QM),mm1=a.n-i∧QS [(1,kc),(2,.ptr c2 0 0),(4,.nils),(5,iZ 0),(6,ks),(7,ko),(8,iN i)] T∧Qk st ZQ st9 ((c2,0,[iZ (a.tr:Nat),ka,kn])::(As++(Ao++[]))) [EX F vs SG]∧FC a cl i SG out∧i≤a.n∧YS As ks vs∧Acc 0 1 Ao ko (zC out)) (fun mm1 T st9 hI=>?_) _ _ _ ⟨0,[],_,[],.nils,[],[],.nils,[],rfl,(K.sub rfl),(B.step M).less (.refl _),(FC.start a cl),(Nat.zero_le _),.none,.none⟩;obtain⟨i,SG,F,vs,ks,As,out,ko,Ao,rfl,K,B,hFin,hi,hAs,hAo⟩:=hI;have M:=B.mem;have hsl:=hFin.le;refine Qb 3 K M fun _ K=>?_;refine p1 K (Q5 Yb rfl rfl (hA.len.trans (congrArg some (Up _)))) fun _ K=>?_;refine Qb 1 K M fun _ K=>?_;refine Jt K rfl (fun h15=>?_) fun h15=>?_
 ·refine Qb 3 K M fun _ K=>?_;obtain⟨v21,st21,ev21,kx,rfl,nrx,q21⟩:=xl M.fresh wf ((B.step M).F5 hf hA) (hN.J9 hf fun c hc=>(B.step M).J9 c hc id) ((B.step M).F5 hf hc) hcl (s:=i) Qc;refine p1 K (Qf rfl ev21) fun _ K=>?_;obtain⟨Ax,hAx,M⟩:=M.Yx q21 nrx;replace hAx:=hAx.z0;simp only[XB]at M;refine p1 K (JV rfl) fun _ K=>XT ?_;show W _ _ _ _ _ _ _;refine Jy<|W7<|p1 K (JV rfl) fun _ K=>XT ?_;show W _ _ _ _ _ _ _;refine CM (J:=fun T st9=> ∃(k:Nat),QS [(1,kc),(2,.ptr c2 0 0),(4,.nils),(5,iZ 0),(6,ks),(7,ko),(8,iN i),(9,v21),(10,iN k),(15,.bool (decide (((i:Nat):Int)<((a.acc.length:Nat):Int))))] T∧Qk st ZQ st9 ((c2,0,[iZ (a.tr:Nat),ka,kn])::(As++(Ao++(Ax++[])))) [EX F vs SG]∧k≤SG.length∧(∀(j:Nat) (x:List Int),j<k→SG[j]? =some x→x≠BD a cl i)∧(k<SG.length→SG[k]? =some (BD a cl i))) ?_ (fun T st9 hJ=>?_)
  ·refine By ?_;refine QX (fun mm2 T st9=> ∃(k:Nat),mm2=SG.length-k∧QS [(1,kc),(2,.ptr c2 0 0),(4,.nils),(5,iZ 0),(6,ks),(7,ko),(8,iN i),(9,v21),(10,iN k),(15,.bool (decide (((i:Nat):Int)<((a.acc.length:Nat):Int))))] T∧Qk st ZQ st9 ((c2,0,[iZ (a.tr:Nat),ka,kn])::(As++(Ao++(Ax++[])))) [EX F vs SG]∧k≤SG.length∧(∀(j:Nat) (x:List Int),j<k→SG[j]? =some x→x≠BD a cl i)) (fun mm2 T st9 hI=>?_) _ _ _ ⟨0,rfl,(K.sub rfl),(B.step M).less (.refl _),(Nat.zero_le _),(fun j x hj=>absurd hj (Nat.not_lt_zero j))⟩;obtain⟨k,rfl,K,B,hk,hno⟩:=hI;have M:=B.mem;refine Qb 2 K M fun _ K=>?_;refine p1 K (Q5 JS rfl rfl (hAs.len.trans (congrArg some (Zl.ln ((B.step M).at_ (k:=0) rfl))))) fun _ K=>?_;refine Qb 1 K M fun _ K=>?_;refine Ug K rfl (fun _ e26 K=>?_) fun _ e26 K=>?_
   ·refine Qb 9 K M fun _ K=>?_;refine QK ?_;exact⟨k,(K.sub rfl),(B.step M).less (.refl _),hk,hno,(fun h=>by first|(exfalso;omega)|(rw[hi29];simp_all))⟩
   refine Qb 2 K M fun _ K=>?_;obtain⟨s29,hi29⟩:=Uy SG k Qc;obtain⟨w29,hv29,hr29,hz29,hf29⟩:=Zl.at_ ((B.step M).at_ (k:=0) rfl) _ _ hi29;obtain⟨x29,m29,f29,q29,_,la29,lo29,lp29⟩:=(hAs.rd fun c m l hm=>M.row c m l (by simp[hm])).load (i:=k) (cs:=_) (by rw[List.getElem?_map,hv29];rfl);refine pg K rfl rfl (Qe (j:=k) QY (congrArg some q29) rfl (by rw[List.length_map,Zl.ln ((B.step M).at_ (k:=0) rfl)];omega)) fun _ K=>pg K rfl rfl (Qg rfl (lo29 _ 0 _ Ja rfl)) fun _ K=>?_;refine Qb 1 K M fun _ K=>?_;obtain⟨v32,st32,ev32,rfl,q32⟩:=Dl M.fresh hr29 (Mem.Ys (L:=((c2,0,[iZ (a.tr:Nat),ka,kn])::(As++(Ao++[])))) (B:=[]) (Mem.cast M Ux) hAx);refine pg K rfl rfl (Qf rfl ev32) fun _ K=>?_;replace M:=M.quiet q32;refine Qb 2 K M fun _ K=>?_;refine Uq K rfl (fun h34=>?_) fun h34=>?_
   ·have hb34:=h34
    replace h34: ¬(s29=BD a cl i):=by first|exact of_decide_eq_false h34|exact yF h34|simpa using h34
    refine Qb 3 K M fun _ K=>?_;exact⟨_,Qc,k+1,rfl,(K.sub rfl),(B.step M).less (.refl _),Qc,(E7 hno hi29 (by first|assumption|simp_all))⟩
   have hb34:=h34
   replace h34:(s29=BD a cl i):=by first|exact of_decide_eq_true h34|exact yT h34|simpa using h34
   refine QK ?_;exact⟨k,(K.sub rfl),(B.step M).less (.refl _),hk,hno,(fun h=>by first|(exfalso;omega)|(rw[hi29];simp_all))⟩
  obtain⟨k,K,B,hk,hno,hyes⟩:=hJ;have M:=B.mem;have hx64:X5 (BD a cl i):=aZ hcz i;refine Qb 2 K M fun _ K=>?_;refine p1 K (Q5 JS rfl rfl (hAs.len.trans (congrArg some (Zl.ln ((B.step M).at_ (k:=0) rfl))))) fun _ K=>?_;refine Qb 1 K M fun _ K=>?_;refine Jt K rfl (fun h40=>?_) fun h40=>?_
  ·refine Qb 2 K M fun _ K=>?_;refine Xo K M QQ Ut rfl ((JB rfl hAx.cell rfl).trans rfl) (Qa hAx.cell Qz) rfl rfl fun c43 _ _ K M=>?_;refine YL (k2:=0) (L:=[(c43,0,[v21]),(c2,0,[iZ (a.tr:Nat),ka,kn])]) (B:=(Ao++(Ax++[]))) K M hAs QQ rfl rfl rfl (by have:=Zl.ln ((B.step M).at_ (k:=0) rfl);have:=hFin.le;omega) rfl fun ks44 A44 _ _ K hA44 _ M=>?_;refine au 4 K M ?_;intro c47 _ _ K _ M;refine QZ (k2:=0) (L:=((c47,0,[iN k])::(c43,0,[v21])::(c2,0,[iZ (a.tr:Nat),ka,kn])::(A44++[]))) (B:=(Ax++[])) K (Mem.cast M Ux) hAo QD rfl rfl rfl rfl (by rw[Qp,hFin.len];omega) rfl fun ks48 A48 _ _ K hA48 M=>?_;simp only[XB]at M;refine Qb 4 K M fun _ K=>?_;replace B:=B.step M;obtain⟨Fr,B⟩:=Qk.ZD (L:=((c47,0,[iN k])::(c43,0,[v21])::(c2,0,[iZ (a.tr:Nat),ka,kn])::(A44++(A48++[])))) (B:=[]) (B.cast Ux) hAx hx64;replace B:=B.cast (M':=((c47,0,[iN k])::(c43,0,[v21])::(c2,0,[iZ (a.tr:Nat),ka,kn])::(A44++(A48++[])))) Ux;have M:=B.mem;exact⟨_,Qc,i+1,SG++[BD a cl i],_,_,ks44,A44,(out++[((k:Nat):Int)]),ks48,A48,rfl,(K.sub rfl),(B.step M).less (.cons _ (.cons _ (.refl _))),(by rw[show((k:Nat):Int)=((SG.length:Nat):Int) by omega];exact hFin.new fun hm=>by obtain⟨j,hj⟩:=List.getElem?_of_mem hm;exact hno j _ (by have:=(List.getElem?_eq_some_iff.1 hj).1;omega) hj rfl),Qc,hA44,(by rw[JW];exact hA48)⟩
  refine au 3 K M ?_;intro c47 _ _ K _ M;refine QZ (k2:=0) (L:=((c47,0,[iN k])::(c2,0,[iZ (a.tr:Nat),ka,kn])::(As++[]))) (B:=(Ax++[])) K (Mem.cast M Ux) hAo QD rfl rfl rfl rfl (by rw[Qp,hFin.len];omega) rfl fun ks48 A48 _ _ K hA48 M=>?_;simp only[XB]at M;refine Qb 4 K M fun _ K=>?_;exact⟨_,Qc,i+1,SG,_,_,ks,As,(out++[((k:Nat):Int)]),ks48,A48,rfl,(K.sub rfl),(B.step M).less (.cons _ (.cons_cons _ (List.Sublist.append_left (List.Sublist.append_left (List.nil_sublist _) _) _))),(hFin.J9 (hyes Qc)),Qc,hAs,(by rw[JW];exact hA48)⟩
 refine QK ?_;show W _ _ _ _ _ _ _;refine Qb 2 K M fun _ K=>?_;refine p1 K (Q5 JS rfl rfl (hAs.len.trans (congrArg some (Zl.ln ((B.step M).at_ (k:=0) rfl))))) fun _ K=>?_;refine Qb 2 K M ?_
 have hie:i=a.n:=by omega
 subst hie;exact⟨_,SG,out,rfl,hFin,(B.step M).newRow hAo (fun c m l h=>by simp[h]),(B.step M).qt⟩

theorem en{n:Nat}{k:Nat}(hl:cl.length=n)(h:Kn n cl k)(hk:k≤400):X5 cl:=fun z hz=>by
 obtain⟨s,hs⟩:=List.getElem?_of_mem hz;have h1:=h.1 s (by have:=(List.getElem?_eq_some_iff.1 hs).1;omega);rw[VH hs]at h1
 constructor<;>omega
theorem KC{i:Nat}{y:Bool}(h:a.acc[i]? =some y):a.ok i=y:=by unfold Au.ok;rw[h];rfl
theorem vr{i:Nat}(H:X6 a i cl):X5 cl:=fun z hz=>by
 obtain⟨s,hs⟩:=List.getElem?_of_mem hz;have h1:=H.2 s (by have:=(List.getElem?_eq_some_iff.1 hs).1;have:=H.1;omega);rw[VH hs]at h1;subst h1
 split<;>decide
theorem xV{n:Nat}{L nu:List Int}(H:O7 n L nu)(hn:L.Nodup):L.length≤n:=by
 have:=Xa (b:=(List.range n).map fun v=>((v:Nat):Int)) hn fun x hx=>by
  have:=H.rng x hx;exact List.mem_map.2 ⟨x.toNat,List.mem_range.2 Qc,by omega⟩
 simpa using this

theorem Sn(hf:Qi st)(wf:Zp a)(hA:Jg st.h.get [] 1 (bC a.acc) ka)(hN:OC st.h.get a.nx kn ls): ∃v st',Jf 28 [.agg [iZ (a.tr:Nat),ka,kn]] st v st'∧ ∃kr cl k,v=kr∧ZO a cl∧Kn a.n cl k∧ED st st' 1 kr (zC cl)∧Qt st st':=by
 have hac:=hA.cell;have hnc:=hN.r.cell;have hmo:=wf.most;have hps:=wf.pos;have hln:=wf.len;have hen:a.n=a.acc.length:=rfl;have htr:=wf.tr;have hp6:=JG htr;have hp0:0<2^a.tr:=Nat.two_pow_pos _;have hrep:(List.replicate a.n (0:Int)).length=a.n:=List.length_replicate ..;refine J7 Tryz.func28 Tryz.ntmps28 fun T K=>?_;have M:=Mem.start hf;refine Qb 0 K M fun _ K=>?_;refine Jv K M rfl (Qa rfl (Qa hA.cell (Qa hN.r.cell Qz))) Q8 fun c1 _ _ K M=>?_;refine Qb 3 K M fun _ K=>?_;refine p1 K (Q5 Yb rfl rfl (hA.len.trans (congrArg some (Up _)))) fun _ K=>?_;refine CJ (fun z=>iZ z) 0 (n:=a.n) K M QD Xv rfl Qc rfl fun c11 _ _ K M=>?_;refine Qb 2 K M fun _ K=>?_;refine QX (fun mm1 T st9=> ∃(i:Nat) (cur:List Int),mm1=a.n-i∧QS [(1,.ptr c1 0 0),(2,.nils),(3,.sl c11 0 0 a.n 1),(4,iN i)] T∧Mem st.h.get st.n [] st9 [(c11,0,(cur.map (fun z=>iZ z))),(c1,0,[iZ (a.tr:Nat),ka,kn])]∧i≤a.n∧X6 a i cur) (fun mm1 T st9 hI=>?_) _ _ _ ⟨0,_,rfl,(K.sub rfl),M.less (.refl _),(Nat.zero_le _),(X6.start a)⟩;obtain⟨i,cur,rfl,K,M,hi,hfi⟩:=hI;have hcl0:=hfi.1;refine Qb 3 K M fun _ K=>?_;refine p1 K (Q5 Yb rfl rfl (hA.len.trans (congrArg some (Up _)))) fun _ K=>?_;refine Qb 1 K M fun _ K=>?_;refine Jt K rfl (fun h16=>?_) fun h16=>?_
 ·refine Qb 0 K M fun _ K=>?_;refine QA (l:=[(0,0),(1,0),(2,0),(3,0),(4,0),(5,0),(6,0),(7,0),(8,0),(9,0)]) (by kernel_rfl) ?_;refine Jo 3 K M fun _ K=>?_;obtain⟨y22,hi22⟩:=Uy a.acc i Qc;refine dI rfl rfl (Jg.mem M hA Q4) (Ww hi22) K J4 J6 rfl rfl rfl fun _ _ _ _ K=>?_;refine Jo 2 K M fun _ K=>?_;obtain⟨y26,hi26⟩:=Uy a.acc 0 Qc;refine dI rfl rfl (Jg.mem M hA Q4) (Ww hi26) K J4 J6 rfl rfl rfl fun _ _ _ _ K=>?_;refine q1 rfl K (wY Y7 rfl rfl) fun _ K=>QF ?_;show W _ _ _ _ _ _ _;refine Uq K rfl (fun h28=>?_) fun h28=>?_
  ·have hb28:=h28
   replace h28:(y22==y26)=false:=by simpa using h28
   refine Qb 2 K M fun _ K=>?_;obtain⟨y31,hi31⟩:=Uy cur i Qc;refine p1 K (Qe (j:=i) Qo rfl rfl Qc) fun _ K=>?_;refine Jk (k:=0) K M rfl rfl rfl LQ rfl (Eo (fun z=>iZ z) 1 Qc) fun _ M=>?_;refine Qb 3 K M fun _ K=>?_;exact⟨_,Qc,i+1,_,rfl,(K.sub rfl),M.less (.refl _),Qc,(hfi.yes Qc (by rw[KC hi22,KC hi26];simpa using h28))⟩
  have hb28:=h28
  replace h28:(y22==y26)=true:=by simpa using h28
  refine Qb 3 K M fun _ K=>?_;exact⟨_,Qc,i+1,_,rfl,(K.sub rfl),M.less (.refl _),Qc,(hfi.no (by rw[KC hi22,KC hi26];simpa using h28))⟩
 refine QK ?_;show W _ _ _ _ _ _ _;refine Jy ?_;replace M:=Mem.cast (M':=((c1,0,[iZ (a.tr:Nat),ka,kn])::([(c11,0,(cur.map (fun z=>iZ z)))]++[]))) (Mem.perm M (List.perm_append_comm (α:=Nat×Nat×List AV) (l₁:=[(c11,0,(cur.map (fun z=>iZ z)))]) (l₂:=[(c1,0,[iZ (a.tr:Nat),ka,kn])]))) Q4
 have hAc0:Acc 0 1 [(c11,0,(cur.map (fun z=>iZ z)))] (.sl c11 0 0 a.n 1) (zC cur):=by have:=Acc.ofM (fun z=>iZ z) (c:=c11) (m:=0) (L:=cur) (by rw[hfi.1];omega);rw[hfi.1]at this;exact this
 have hie:i=a.n:=by omega
 rw[hie]at hfi;refine Qb 1 K M fun _ K=>?_;refine QX (fun mm2 T st9=> ∃(cl:List Int) (kc:AV) (Ac:U9) (was:Nat),mm2=a.n-was∧QS [(1,.ptr c1 0 0),(3,kc),(5,iN was)] T∧Mem st.h.get st.n [] st9 ((c1,0,[iZ (a.tr:Nat),ka,kn])::(Ac++[]))∧Kp a cl∧(was=0∨Kn a.n cl was)∧X5 cl∧Acc 0 1 Ac kc (zC cl)) (fun mm2 T st9 hI=>?_) _ _ _ ⟨cur,(.sl c11 0 0 a.n 1),[(c11,0,(cur.map (fun z=>iZ z)))],0,rfl,(K.sub rfl),M.less (.refl _),hfi.done,(.inl rfl),(vr hfi),hAc0⟩;obtain⟨cl,kc,Ac,was,rfl,K,M,hF,hw,hcz,hAc⟩:=hI;refine Qb 2 K M fun _ K=>?_;obtain⟨v35,st35,ev35,ko,SG,out,rfl,hFin,nro,q35⟩:=ym M.fresh wf (Jg.mem M hA Q4) (hN.J9 hf fun c hc=>M.J9 c hc Q4) (Mem.Ys (L:=[(c1,0,[iZ (a.tr:Nat),ka,kn])]) (B:=[]) M hAc) hF.len hcz;refine p1 K (Qf rfl ev35) fun _ K=>?_;obtain⟨Ao,hAo,M⟩:=M.Yx q35 nro;replace hAo:=hAo.z0;obtain⟨hfr,hon⟩:=hFin.done;obtain⟨hF2,hle2,hst2⟩:=yK wf hF hw hfr hon;have hkn:=N1 hon;simp only[XB]at M;replace M:=M.less (.cons_cons _ (List.sublist_append_right _ _));refine Qb 8 K M fun _ K=>?_;refine Jt K rfl (fun h40=>?_) fun h40=>?_
 ·refine Qb 2 K M ?_;exact⟨_,out,SG.length,rfl,hst2 Qc,hon,M.newRow hAo (fun c m l h=>by simp[h]),M.qt⟩
 refine Qb 4 K M fun _ K=>?_;exact⟨_,Qc,out,ko,Ao,SG.length,rfl,(K.sub rfl),M.less (.refl _),hF2,(.inr hon),(en hF2.len hon Qc),hAo⟩
end
section

structure VP(a:Au)(cl:List Int)(ls:List Nat)(rows:List (List Int))(row nu:List Int):Prop where
 pr:V1 (Kf a cl) (cv cl 0) (2^a.tr) (ls.map (cv cl)) rows row
 nu:O7 a.n (ls.map (cv cl)) nu
 lt: ∀s∈ls,s<a.n
section
variable {a:Au} {cl:List Int} {ls:List Nat} {rows:List (List Int)} {row nu:List Int}
theorem VP.le(H:VP a cl ls rows row nu):ls.length≤a.n:=by
 have:=xV H.nu H.pr.nodup
 simpa using this
theorem VP.start(W:Zp a){k:Nat}(ho:Kn a.n cl k){nu:List Int}(hl:nu.length=a.n)(h: ∀s,s<a.n→cv nu s= -1):VP a cl [0] [] [] (nu.set (cv cl 0).toNat 0):=by
 have h0:=ho.1 0 W.pos;have hk:=N1 ho;exact⟨V1.start _ _ _,O7.start hl h h0.1 Qc,fun s hs=>by rw[List.mem_singleton.1 hs];exact W.pos⟩
theorem VP.next(W:Zp a)(hc:ZO a cl){s y:Nat}(hs:ls[rows.length]? =some s)(hls:s<a.n)(hr:row.length<2^a.tr)(hy:a.go s row.length=y):(ls.map (cv cl))[rows.length]? =some (cv cl s)∧Kf a cl (cv cl s) row.length=cv cl y:=by
 refine⟨by rw[List.getElem?_map,hs];rfl,?_⟩;rw[LD (hc.IG W) hls hr,hy]
theorem VP.new(H:VP a cl ls rows row nu)(W:Zp a)(hc:ZO a cl){k:Nat}(ho:Kn a.n cl k){s y:Nat}(hs:ls[rows.length]? =some s)(hr:row.length<2^a.tr)(hy:a.go s row.length=y)(hyn:y<a.n)(hn:cv nu (cv cl y).toNat<0):
  VP a cl (ls++[y]) rows (row++[((ls.length:Nat):Int)]) (nu.set (cv cl y).toNat ((ls.length:Nat):Int)):=by
 have hls:=H.lt s (List.mem_of_getElem? hs);have hb:=ho.1 y hyn;have hk:=N1 ho;obtain⟨h1,h2⟩:=VP.next W hc hs hls hr hy;rcases H.nu.mem hb.1 Qc rfl with⟨_,h3⟩|⟨j,h3,_⟩
 ·have h4:=H.pr.new hr h1 (by rw[h2];exact h3);rw[h2,List.length_map]at h4;have h5:=H.nu.new hb.1 Qc h3;rw[List.length_map]at h5;refine⟨by rw[List.map_append];exact h4,by rw[List.map_append];exact h5,fun t ht=>?_⟩;rcases List.mem_append.1 ht with ht|ht
  ·exact H.lt t ht
  ·rw[List.mem_singleton.1 ht];exact hyn
 ·omega
theorem VP.J9(H:VP a cl ls rows row nu)(W:Zp a)(hc:ZO a cl){k:Nat}(ho:Kn a.n cl k){s y:Nat}(hs:ls[rows.length]? =some s)(hr:row.length<2^a.tr)(hy:a.go s row.length=y)(hyn:y<a.n){z:Int}(hz:cv nu (cv cl y).toNat=z)(hn: ¬z<0):
  VP a cl ls rows (row++[z]) nu:=by
 have hls:=H.lt s (List.mem_of_getElem? hs);have hb:=ho.1 y hyn;have hk:=N1 ho;obtain⟨h1,h2⟩:=VP.next W hc hs hls hr hy;rcases H.nu.mem hb.1 Qc hz with⟨h3,_⟩|⟨j,rfl,h3⟩
 ·exact absurd h3 hn
 ·exact⟨H.pr.J9 hr h1 (by rw[h2];exact h3),H.nu,H.lt⟩
theorem VP.whole(H:VP a cl ls rows row nu)(hr:row.length=2^a.tr):VP a cl ls (rows++[row]) [] nu:=⟨H.pr.whole hr,H.nu,H.lt⟩
theorem VP.F7(H:VP a cl ls rows row nu)(W:Zp a):X5 row:=H.pr.F7 (by rw[List.length_map];have:=H.le;have:=W.most;omega)
theorem VP.made(H:VP a cl ls rows [] nu)(W:Zp a)(hc:ZO a cl)(hl:rows.length=ls.length):UA (Kf a cl) (cv cl 0) (P0 a cl) (ls.map (cv cl)) ⟨a.tr,ls.map a.ok,rows⟩:=by
 refine H.pr.made (m:=⟨a.tr,ls.map a.ok,rows⟩) (by rw[List.length_map];exact hl) ?_ W.tr (by rw[List.length_map];have:=H.le;have:=W.most;omega);show ls.map a.ok=(ls.map (cv cl)).map (P0 a cl);rw[List.map_map];exact List.map_congr_left fun s hs=>(Cx hc (H.lt s hs)).symm
end

theorem uw{st:St}(hf:Qi st){a:Au}(wf:Zp a){ka kn:AV}{ls:List (List AV)}(hA:Jg st.h.get [] 1 (bC a.acc) ka)(hN:OC st.h.get a.nx kn ls): ∃v st',Jf 50 [.agg [iZ (a.tr:Nat),ka,kn]] st v st'∧ ∃cl l m,ZO a cl∧m.tr=a.tr∧UA (Kf a cl) (cv cl 0) (P0 a cl) l m∧AP st st' m v∧Qt st st':=by
 have hac:=hA.cell;have hnc:=hN.r.cell;have hmo:=wf.most;have hps:=wf.pos;have hln:=wf.len;have hen:a.n=a.acc.length:=rfl;have htr:=wf.tr;have hp6:=JG htr;have hp0:0<2^a.tr:=Nat.two_pow_pos _;have hrep:(List.replicate a.n (0:Int)).length=a.n:=List.length_replicate ..;have B:=Qk.start hf;refine J7 Tryz.func50 Tryz.ntmps50 fun T K=>?_;have M:=B.mem;refine Qb 0 K M fun _ K=>?_;refine Jv K M rfl (Qa rfl (Qa hA.cell (Qa hN.r.cell Qz))) Q8 fun c1 _ _ K M=>?_;refine au 2 K M ?_;intro c2 _ _ K _ M;obtain⟨v13,st13,ev13,kc,cl,kk,rfl,hcls,hon,nrc,q13⟩:=Sn M.fresh wf ((B.step M).F5 hf hA) (hN.J9 hf fun c hc=>(B.step M).J9 c hc id);refine p1 K (Qf rfl ev13) fun _ K=>?_;obtain⟨Ac,hAc,M⟩:=M.Yx q13 nrc;replace hAc:=hAc.z0;have hcll:=hcls.len;have hkn:=N1 hon;simp only[XB]at M;refine au 8 K M ?_;intro c4 _ _ K _ M;refine p1 K (Q5 Yb rfl rfl (hA.len.trans (congrArg some (Up _)))) fun _ K=>?_;refine CJ (fun z=>iZ z) 0 (n:=a.n) K M QD Xv rfl Qc rfl fun c20 _ _ K M=>?_;refine Qb 2 K M fun _ K=>?_;refine QX (fun mm1 T st9=> ∃(i:Nat) (nu:List Int),mm1=a.n-i∧QS [(1,.ptr c1 0 0),(2,.ptr c2 0 0),(3,v13),(4,.ptr c4 0 0),(5,.sl c20 0 0 a.n 1),(6,iN i)] T∧Qk st ZQ st9 ((c20,0,(nu.map (fun z=>iZ z)))::(c4,0,[iZ (a.tr:Nat),.nils,.nils])::(c2,0,[iZ 0,.nils,.nils])::(c1,0,[iZ (a.tr:Nat),ka,kn])::(Ac++[])) []∧i≤a.n∧nu.length=a.n∧(∀s,s<i→cv nu s= -1)) (fun mm1 T st9 hI=>?_) _ _ _ ⟨0,_,rfl,(K.sub rfl),(B.step M).less (.refl _),(Nat.zero_le _),hrep,(fun s hs=>absurd hs (Nat.not_lt_zero s))⟩;obtain⟨i,nu,rfl,K,B,hi,hnl,hneg⟩:=hI;have M:=B.mem;refine Qb 4 K M fun _ K=>?_;refine Jt K rfl (fun h24=>?_) fun h24=>?_
 ·refine Qb 2 K M fun _ K=>?_;obtain⟨y29,hi29⟩:=Uy nu i Qc;refine p1 K (Qe (j:=i) Qo rfl rfl Qc) fun _ K=>?_;refine Jk (k:=0) K M rfl rfl rfl LQ rfl (Eo (fun z=>iZ z) (-1) Qc) fun _ M=>?_;refine Qb 3 K M fun _ K=>?_;exact⟨_,Qc,i+1,_,rfl,(K.sub rfl),(B.step M).less (.refl _),Qc,(by rw[List.length_set];exact hnl),(fun s hs=>by rw[Ol Qc];split;rfl;exact hneg s Qc)⟩
 refine QK ?_;show W _ _ _ _ _ _ _;refine au 4 K M ?_;intro c30 _ _ K _ M;obtain⟨y33,hi33⟩:=Uy cl 0 Qc;have hb33:=hon.1 0 Qc;have hcv33:=VH hi33;rw[hcv33]at hb33;refine oI (Mem.Ys (L:=[(c30,0,[iZ 0]),(c20,0,(nu.map (fun z=>iZ z))),(c4,0,[iZ (a.tr:Nat),.nils,.nils]),(c2,0,[iZ 0,.nils,.nils]),(c1,0,[iZ (a.tr:Nat),ka,kn])]) (B:=[]) M hAc) (Jm hi33) K Qo Qn rfl rfl rfl fun _ _ _ _ K=>?_;obtain⟨y35,hi35⟩:=Uy nu ((y33).toNat) Qc;refine p1 K (Qe (j:=(y33).toNat) Qo rfl (congrArg (fun z=>some (iZ z)) (by omega:_=(((y33).toNat:Nat):Int))) Qc) fun _ K=>?_;refine Jk (k:=1) K M rfl rfl rfl LQ rfl (Eo (fun z=>iZ z) 0 Qc) fun _ M=>?_;refine Qb 0 K M fun _ K=>?_;replace M:=Mem.cast (M':=((c20,0,((nu.set ((y33).toNat) 0).map (fun z=>iZ z)))::(c4,0,[iZ (a.tr:Nat),.nils,.nils])::(c2,0,[iZ 0,.nils,.nils])::(c1,0,[iZ (a.tr:Nat),ka,kn])::(Ac++([(c30,0,[iZ 0])]++[])))) (Mem.perm M (List.perm_append_comm (α:=Nat×Nat×List AV) (l₁:=[(c30,0,[iZ 0])]) (l₂:=((c20,0,((nu.set ((y33).toNat) 0).map (fun z=>iZ z)))::(c4,0,[iZ (a.tr:Nat),.nils,.nils])::(c2,0,[iZ 0,.nils,.nils])::(c1,0,[iZ (a.tr:Nat),ka,kn])::(Ac++[]))))) Ux;have hAL0:Acc 0 1 [(c30,0,[iZ 0])] (.sl c30 0 0 1 1) [[iZ 0]]:=Acc.own (n0:=0) (z:=1) (c:=c30) (m:=0) (ls:=[[iZ 0]]) (Nat.zero_le _) Q4 Q4;replace B:=(B.step M).V9;have M:=B.mem;refine Qb 1 K M fun _ K=>?_;refine QX (fun mm2 T st9=> ∃(i:Nat) (ls:List Nat) (kl:AV) (Al:QM) (rows:List (List Int)) (vs:List AV) (F:Fp) (ka4:AV) (Aa:QM) (kr4:AV) (Ar:QM) (nu:List Int),mm2=a.n-i∧QS [(1,.ptr c1 0 0),(2,.ptr c2 0 0),(3,v13),(4,.ptr c4 0 0),(5,.sl c20 0 0 a.n 1),(7,kl),(8,iN i)] T∧Qk st ZQ st9 ((c20,0,(nu.map (fun z=>iZ z)))::(c4,0,[iZ (a.tr:Nat),ka4,kr4])::(c2,0,[iZ 0,.nils,.nils])::(c1,0,[iZ (a.tr:Nat),ka,kn])::(Ac++(Al++(Aa++(Ar++[]))))) [EX F vs rows]∧VP a cl ls rows [] nu∧rows.length=i∧i≤ls.length∧Acc 0 1 Al kl (zC (zN ls))∧Acc 0 1 Aa ka4 (bC ((ls.take i).map a.ok))∧YS Ar kr4 vs) (fun mm2 T st9 hI=>?_) _ _ _ ⟨0,[0],(.sl c30 0 0 1 1),[(c30,0,[iZ 0])],[],[],_,.nils,[],.nils,[],_,rfl,(K.sub rfl),(B.step M).less (.refl _),(by rw[←hcv33];exact VP.start wf hon hnl (fun s hs=>hneg s Qc)),rfl,(Nat.zero_le _),hAL0,.none,.none⟩;obtain⟨i,ls,kl,Al,rows,vs,F,ka4,Aa,kr4,Ar,nu,rfl,K,B,hm,hrl,hil,hAl,hAa,hAr⟩:=hI;have M:=B.mem;have hlsn:=hm.le;have hnul:=hm.nu.len;refine Qb 2 K M fun _ K=>?_;refine p1 K (Q5 Je rfl rfl (hAl.len.trans (congrArg some (by rw[Qp,List.length_map])))) fun _ K=>?_;refine Qb 1 K M fun _ K=>?_;refine Jt K rfl (fun h39=>?_) fun h39=>?_
 ·refine Qb 2 K M fun _ K=>?_;refine QX (fun mm3 T st9=> ∃(c:Nat) (ls2:List Nat) (kl2:AV) (Al2:QM) (row:List Int) (kw:AV) (Aw:QM) (nu2:List Int),mm3=2^a.tr-c∧QS [(1,.ptr c1 0 0),(2,.ptr c2 0 0),(3,v13),(4,.ptr c4 0 0),(5,.sl c20 0 0 a.n 1),(7,kl2),(8,iN i),(9,kw),(10,iN c),(39,.bool (decide (((i:Nat):Int)<((ls.length:Nat):Int))))] T∧Qk st ZQ st9 ((c20,0,(nu2.map (fun z=>iZ z)))::(c4,0,[iZ (a.tr:Nat),ka4,kr4])::(c2,0,[iZ 0,.nils,.nils])::(c1,0,[iZ (a.tr:Nat),ka,kn])::(Ac++(Al2++(Aa++(Ar++(Aw++[])))))) [EX F vs rows]∧VP a cl ls2 rows row nu2∧row.length=c∧c≤2^a.tr∧ls2.take (i+1)=ls.take (i+1)∧Acc 0 1 Al2 kl2 (zC (zN ls2))∧Acc 0 1 Aw kw (zC row)) (fun mm3 T st9 hI=>?_) _ _ _ ⟨0,ls,kl,Al,[],.nils,[],nu,rfl,(K.sub rfl),(B.step M).less (.refl _),hm,rfl,(Nat.zero_le _),rfl,hAl,.none⟩;obtain⟨c,ls2,kl2,Al2,row,kw,Aw,nu2,rfl,K,B,hm2,hrow,hcK,htk,hAl2,hAw⟩:=hI;have M:=B.mem;have hls2:=hm2.le;have hnul2:=hm2.nu.len;have hi2:=Uu htk Qc;refine Jy<|Jy ?_;refine QA (l:=[(0,0),(1,0),(2,0),(3,0),(4,0),(5,0),(6,0),(7,0),(8,0),(9,0),(10,0)]) (by kernel_rfl) ?_;refine Jo 2 K M fun _ K=>?_;refine q1 rfl K (Qg rfl (M.load (k:=3) rfl (Qd Q7 rfl))) fun _ K=>?_;refine Jo 2 K M fun _ K=>?_;obtain⟨y47,hi47⟩:=Uy ls2 i Qc;have hls47:=hm2.lt y47 (List.mem_of_getElem? hi47);refine dI rfl rfl (Mem.Ys (L:=((c20,0,(nu2.map (fun z=>iZ z)))::(c4,0,[iZ (a.tr:Nat),ka4,kr4])::(c2,0,[iZ 0,.nils,.nils])::(c1,0,[iZ (a.tr:Nat),ka,kn])::(Ac++[]))) (B:=(Aa++(Ar++(Aw++[])))) (Mem.cast M Ux) hAl2) (Xw hi47) K Qo Qn rfl rfl rfl fun _ _ _ _ K=>?_;obtain⟨s49,hi49⟩:=Uy a.nx y47 Qc;obtain⟨_,hc49,w49,rfl,hr49,hz49⟩:=hN.at_ _ _ hi49;have hw49:=wf.row s49 (List.mem_of_getElem? hi49);have hl49:s49.length=2^a.tr:=hw49.1;refine dI rfl rfl (EN.r (hN.J9 hf fun c hc=>(B.step M).J9 c hc id)) hc49 K QY Ja rfl rfl rfl fun _ _ _ _ K=>?_;refine q1 rfl K (Q5 Je rfl rfl (hr49.len.trans (congrArg some (Qp _)))) fun _ K=>q1 rfl K (jX rfl rfl) fun _ K=>QF ?_;show W _ _ _ _ _ _ _;refine Jt K rfl (fun h52=>?_) fun h52=>?_
  ·refine Qb 0 K M fun _ K=>?_;refine QA (l:=[(0,0),(1,0),(2,0),(3,0),(4,0),(5,0),(6,0),(7,0),(8,0),(9,0),(10,0),(11,0)]) (by kernel_rfl) ?_;refine Jo 1 K M fun _ K=>?_;refine q1 rfl K (Qg rfl (M.load (k:=3) rfl (Qd Q7 rfl))) fun _ K=>?_;refine Jo 2 K M fun _ K=>?_;refine dI rfl rfl (Mem.Ys (L:=((c20,0,(nu2.map (fun z=>iZ z)))::(c4,0,[iZ (a.tr:Nat),ka4,kr4])::(c2,0,[iZ 0,.nils,.nils])::(c1,0,[iZ (a.tr:Nat),ka,kn])::(Ac++[]))) (B:=(Aa++(Ar++(Aw++[])))) (Mem.cast M Ux) hAl2) (Xw hi47) K Qo Qn rfl rfl rfl fun _ _ _ _ K=>?_;obtain⟨_,hc61,w61,rfl,hr61,hz61⟩:=hN.at_ _ _ hi49;refine dI rfl rfl (EN.r (hN.J9 hf fun c hc=>(B.step M).J9 c hc id)) hc61 K QY Ja rfl rfl rfl fun _ _ _ _ K=>?_;refine q1 rfl K (Qy rfl) fun _ K=>?_;obtain⟨y64,hi64⟩:=Uy s49 c Qc;have hb64:=hw49.2 y64 (List.mem_of_getElem? hi64);refine dI rfl rfl ((B.step M).F5 hf hr61) (Jm hi64) K Qo Qn rfl rfl rfl fun _ _ _ _ K=>?_;refine q1 rfl K (JV rfl) fun _ K=>QF ?_;show W _ _ _ _ _ _ _;refine Qb 3 K M fun _ K=>?_;obtain⟨y69,hi69⟩:=Uy cl ((y64).toNat) Qc;have hb69:=hon.1 (y64).toNat Qc;have hcv69:=VH hi69;rw[hcv69]at hb69;obtain⟨x69,m69,f69,q69,_,la69,lo69,lp69⟩:=(Mem.Ys (L:=[(c20,0,(nu2.map (fun z=>iZ z))),(c4,0,[iZ (a.tr:Nat),ka4,kr4]),(c2,0,[iZ 0,.nils,.nils]),(c1,0,[iZ (a.tr:Nat),ka,kn])]) (B:=(Al2++(Aa++(Ar++(Aw++[]))))) M hAc).load (i:=(y64).toNat) (cs:=_) (Jm hi69);refine p1 K (Qe (j:=(y64).toNat) Qo (congrArg some q69) (congrArg (fun z=>some (iZ z)) (by omega:_=(((y64).toNat:Nat):Int))) (by rw[Qp];omega)) fun _ K=>p1 K (Qg rfl (lo69 _ 0 _ Qn rfl)) fun _ K=>?_;obtain⟨y71,hi71⟩:=Uy nu2 ((y69).toNat) Qc;refine p1 K (Qe (j:=(y69).toNat) Qo rfl (congrArg (fun z=>some (iZ z)) (by omega:_=(((y69).toNat:Nat):Int))) Qc) fun _ K=>p1 K (Qg rfl (M.load (k:=0) rfl (Qd Qn (Wo (fun z=>iZ z) hi71)))) fun _ K=>?_;refine Qb 1 K M fun _ K=>?_;refine Jt K rfl (fun h73=>?_) fun h73=>?_
   ·refine Qb 3 K M fun _ K=>?_;obtain⟨x77,m77,f77,q77,_,la77,lo77,lp77⟩:=(Mem.Ys (L:=[(c20,0,(nu2.map (fun z=>iZ z))),(c4,0,[iZ (a.tr:Nat),ka4,kr4]),(c2,0,[iZ 0,.nils,.nils]),(c1,0,[iZ (a.tr:Nat),ka,kn])]) (B:=(Al2++(Aa++(Ar++(Aw++[]))))) M hAc).load (i:=(y64).toNat) (cs:=_) (Jm hi69);refine p1 K (Qe (j:=(y64).toNat) Qo (congrArg some q77) (congrArg (fun z=>some (iZ z)) (by omega:_=(((y64).toNat:Nat):Int))) (by rw[Qp];omega)) fun _ K=>p1 K (Qg rfl (lo77 _ 0 _ Qn rfl)) fun _ K=>?_;refine Qb 1 K M fun _ K=>?_;refine p1 K (Q5 Je rfl rfl (hAl2.len.trans (congrArg some (by rw[Qp,List.length_map])))) fun _ K=>?_;obtain⟨y81,hi81⟩:=Uy nu2 ((y69).toNat) Qc;refine p1 K (Qe (j:=(y69).toNat) Qo rfl (congrArg (fun z=>some (iZ z)) (by omega:_=(((y69).toNat:Nat):Int))) Qc) fun _ K=>?_;refine Jk (k:=0) K M rfl rfl rfl LQ rfl (Eo (fun z=>iZ z) (((ls2.length:Nat):Int)) Qc) fun _ M=>?_;refine au 3 K M ?_;intro c84 _ _ K _ M;refine QZ (k2:=0) (L:=((c84,0,[iZ y64])::(c20,0,((nu2.set ((y69).toNat) (((ls2.length:Nat):Int))).map (fun z=>iZ z)))::(c4,0,[iZ (a.tr:Nat),ka4,kr4])::(c2,0,[iZ 0,.nils,.nils])::(c1,0,[iZ (a.tr:Nat),ka,kn])::(Ac++[]))) (B:=(Aa++(Ar++(Aw++[])))) K (Mem.cast M Ux) hAl2 QD rfl rfl rfl rfl (by simp only[Qp,zN,List.length_map];have:=hm2.le;omega) rfl fun ks85 A85 _ _ K hA85 M=>?_;simp only[XB]at M;refine Qb 5 K M fun _ K=>?_;obtain⟨x90,m90,f90,q90,_,la90,lo90,lp90⟩:=(Mem.Ys (L:=[(c84,0,[iZ y64]),(c20,0,((nu2.set ((y69).toNat) (((ls2.length:Nat):Int))).map (fun z=>iZ z))),(c4,0,[iZ (a.tr:Nat),ka4,kr4]),(c2,0,[iZ 0,.nils,.nils]),(c1,0,[iZ (a.tr:Nat),ka,kn])]) (B:=(A85++(Aa++(Ar++(Aw++[]))))) M hAc).load (i:=(y64).toNat) (cs:=_) (Jm hi69);refine p1 K (Qe (j:=(y64).toNat) Qo (congrArg some q90) (congrArg (fun z=>some (iZ z)) (by omega:_=(((y64).toNat:Nat):Int))) (by rw[Qp];omega)) fun _ K=>p1 K (Qg rfl (lo90 _ 0 _ Qn rfl)) fun _ K=>?_;obtain⟨y92,hi92⟩: ∃x,(nu2.set ((y69).toNat) (((ls2.length:Nat):Int)))[(y69).toNat]? =some x:=⟨_,List.getElem?_eq_getElem (by simp only[List.length_set];omega)⟩;refine p1 K (Qe (j:=(y69).toNat) Qo rfl (congrArg (fun z=>some (iZ z)) (by omega:_=(((y69).toNat:Nat):Int))) Qc) fun _ K=>p1 K (Qg rfl (M.load (k:=1) rfl (Qd Qn (Wo (fun z=>iZ z) hi92)))) fun _ K=>?_;refine au 1 K M ?_;intro c94 _ _ K _ M;refine QZ (k2:=0) (L:=((c94,0,[iZ y92])::(c84,0,[iZ y64])::(c20,0,((nu2.set ((y69).toNat) (((ls2.length:Nat):Int))).map (fun z=>iZ z)))::(c4,0,[iZ (a.tr:Nat),ka4,kr4])::(c2,0,[iZ 0,.nils,.nils])::(c1,0,[iZ (a.tr:Nat),ka,kn])::(Ac++(A85++(Aa++(Ar++[])))))) (B:=[]) K (Mem.cast M Ux) hAw QD rfl rfl rfl rfl (by rw[Qp];omega) rfl fun ks95 A95 _ _ K hA95 M=>?_;simp only[XB]at M;refine Qb 4 K M fun _ K=>?_
    have e92:y92=((ls2.length:Nat):Int):=by have:=VH hi92;rw[Ol Qc,if_pos rfl]at this;exact this.symm
    have hm3:=hm2.new wf hcls hon (s:=y47) (y:=(y64).toNat) (by rw[hrl];exact hi47) Qc (by rw[hrow];exact JH hi49 hi64) Qc (by rw[hcv69,VH hi71];exact h73);rw[hcv69]at hm3;exact⟨_,Qc,c+1,(ls2++[(y64).toNat]),ks85,A85,(row++[y92]),ks95,A95,_,rfl,(K.sub rfl),(B.step M).less (.cons _ (.cons _ (.refl _))),(by rw[e92];exact hm3),(by rw[List.length_append,hrow];rfl),Qc,(by rw[List.take_append_of_le_length hi2,htk]),(by rw[H7,JW,Int.toNat_of_nonneg hb64.1];exact hA85),(by rw[JW];exact hA95)⟩
   refine Qb 4 K M fun _ K=>?_;obtain⟨x90,m90,f90,q90,_,la90,lo90,lp90⟩:=(Mem.Ys (L:=[(c20,0,(nu2.map (fun z=>iZ z))),(c4,0,[iZ (a.tr:Nat),ka4,kr4]),(c2,0,[iZ 0,.nils,.nils]),(c1,0,[iZ (a.tr:Nat),ka,kn])]) (B:=(Al2++(Aa++(Ar++(Aw++[]))))) M hAc).load (i:=(y64).toNat) (cs:=_) (Jm hi69);refine p1 K (Qe (j:=(y64).toNat) Qo (congrArg some q90) (congrArg (fun z=>some (iZ z)) (by omega:_=(((y64).toNat:Nat):Int))) (by rw[Qp];omega)) fun _ K=>p1 K (Qg rfl (lo90 _ 0 _ Qn rfl)) fun _ K=>?_;obtain⟨y92,hi92⟩:=Uy nu2 ((y69).toNat) Qc;refine p1 K (Qe (j:=(y69).toNat) Qo rfl (congrArg (fun z=>some (iZ z)) (by omega:_=(((y69).toNat:Nat):Int))) Qc) fun _ K=>p1 K (Qg rfl (M.load (k:=0) rfl (Qd Qn (Wo (fun z=>iZ z) hi92)))) fun _ K=>?_;refine au 1 K M ?_;intro c94 _ _ K _ M;refine QZ (k2:=0) (L:=((c94,0,[iZ y92])::(c20,0,(nu2.map (fun z=>iZ z)))::(c4,0,[iZ (a.tr:Nat),ka4,kr4])::(c2,0,[iZ 0,.nils,.nils])::(c1,0,[iZ (a.tr:Nat),ka,kn])::(Ac++(Al2++(Aa++(Ar++[])))))) (B:=[]) K (Mem.cast M Ux) hAw QD rfl rfl rfl rfl (by rw[Qp];omega) rfl fun ks95 A95 _ _ K hA95 M=>?_;simp only[XB]at M;refine Qb 4 K M fun _ K=>?_;have e92:y92=y71:=(VH hi92).symm.trans (VH hi71);have hm3:=hm2.J9 wf hcls hon (s:=y47) (y:=(y64).toNat) (z:=y92) (by rw[hrl];exact hi47) Qc (by rw[hrow];exact JH hi49 hi64) Qc (by rw[hcv69];exact VH hi92) Qc;exact⟨_,Qc,c+1,ls2,kl2,Al2,(row++[y92]),ks95,A95,nu2,rfl,(K.sub rfl),(B.step M).less (.cons _ (.refl _)),hm3,(by rw[List.length_append,hrow];rfl),Qc,htk,hAl2,(by rw[JW];exact hA95)⟩
  refine QK ?_;show W _ _ _ _ _ _ _;refine Jy ?_;refine QA (l:=[(0,0),(1,0),(2,0),(3,0),(4,0),(5,0),(6,0),(7,0),(8,0),(9,0),(10,0),(11,0),(12,0),(13,0)]) (by kernel_rfl) ?_;refine Jo 6 K M fun _ K=>?_;obtain⟨y102,hi102⟩:=Uy ls2 i Qc;have hls102:=hm2.lt y102 (List.mem_of_getElem? hi102);refine dI rfl rfl (Mem.Ys (L:=((c20,0,(nu2.map (fun z=>iZ z)))::(c4,0,[iZ (a.tr:Nat),ka4,kr4])::(c2,0,[iZ 0,.nils,.nils])::(c1,0,[iZ (a.tr:Nat),ka,kn])::(Ac++[]))) (B:=(Aa++(Ar++(Aw++[])))) (Mem.cast M Ux) hAl2) (Xw hi102) K Qo Qn rfl rfl rfl fun _ _ _ _ K=>?_;obtain⟨y104,hi104⟩:=Uy a.acc y102 Qc;refine dI rfl rfl ((B.step M).F5 hf hA) (Ww hi104) K J4 J6 rfl rfl rfl fun _ _ _ _ K=>?_;refine Xp rfl K M J3 Vk rfl rfl rfl rfl rfl fun c106 _ _ K M=>?_;refine ZT (k2:=0) (L:=((c106,0,[.bool y104])::(c20,0,(nu2.map (fun z=>iZ z)))::(c4,0,[iZ (a.tr:Nat),ka4,kr4])::(c2,0,[iZ 0,.nils,.nils])::(c1,0,[iZ (a.tr:Nat),ka,kn])::(Ac++(Al2++[])))) (B:=(Ar++(Aw++[]))) rfl K (Mem.cast M Ux) hAa J3 rfl rfl rfl rfl (by rw[Up,List.length_map,List.length_take];omega) rfl fun ks107 A107 _ _ K hA107 M=>?_;simp only[XB]at M;refine Jo 1 K M fun _ K=>?_;refine Ze (k:=2) rfl K M rfl rfl rfl UG (hA107.cell) rfl fun _ M=>?_;refine QF ?_;show W _ _ _ _ _ _ _;refine Qb 1 K M fun _ K=>?_;refine p1 K (Qg rfl (M.load (k:=2) rfl (Qd Q7 rfl))) fun _ K=>?_;refine Qb 1 K M fun _ K=>?_;refine Xo K M QQ Ut rfl ((JB rfl hAw.cell rfl).trans rfl) (Qa hAw.cell Qz) rfl rfl fun c112 _ _ K M=>?_;refine YL (k2:=0) (L:=((c112,0,[kw])::(c106,0,[.bool y104])::(c20,0,(nu2.map (fun z=>iZ z)))::(c4,0,[iZ (a.tr:Nat),ks107,kr4])::(c2,0,[iZ 0,.nils,.nils])::(c1,0,[iZ (a.tr:Nat),ka,kn])::(Ac++(Al2++(A107++[]))))) (B:=(Aw++[])) K (Mem.cast M Ux) hAr QQ rfl rfl rfl (by have:=Zl.ln ((B.step M).at_ (k:=0) rfl);have:=hm2.le;omega) rfl fun ks113 A113 _ _ K hA113 _ M=>?_;simp only[XB]at M;refine Qb 1 K M fun _ K=>?_;refine Jk (k:=3) K M rfl rfl rfl Uv (hA113.cell) rfl fun _ M=>?_;refine Qb 3 K M fun _ K=>?_;replace B:=B.step M;obtain⟨Fr,B⟩:=Qk.ZD (L:=((c112,0,[kw])::(c106,0,[.bool y104])::(c20,0,(nu2.map (fun z=>iZ z)))::(c4,0,[iZ (a.tr:Nat),ks107,ks113])::(c2,0,[iZ 0,.nils,.nils])::(c1,0,[iZ (a.tr:Nat),ka,kn])::(Ac++(Al2++(A107++(A113++[])))))) (B:=[]) (B.cast Ux) hAw (hm2.F7 wf);replace B:=B.cast (M':=((c112,0,[kw])::(c106,0,[.bool y104])::(c20,0,(nu2.map (fun z=>iZ z)))::(c4,0,[iZ (a.tr:Nat),ks107,ks113])::(c2,0,[iZ 0,.nils,.nils])::(c1,0,[iZ (a.tr:Nat),ka,kn])::(Ac++(Al2++(A107++(A113++[])))))) Ux;have M:=B.mem;have hi2:=Uu htk Qc
  have htq:ls2.take (i+1)=ls2.take i++[y102]:=by rw[List.take_add_one,hi102];rfl
  have hti:ls2.take i=ls.take i:=by have:=congrArg (fun l=>l.take i) htk;simpa [List.take_take,Nat.min_eq_left]using this
  exact⟨_,Qc,i+1,ls2,kl2,Al2,(rows++[row]),_,_,ks107,A107,ks113,A113,nu2,rfl,(K.sub rfl),(B.step M).less (.cons _ (.cons _ (.refl _))),(hm2.whole Qc),(by rw[List.length_append,hrl];rfl),hi2,hAl2,(by rw[htq,hti,List.map_append,XZ,show [y102].map a.ok=[y104] by rw[List.map_singleton,KC hi104]];exact hA107),hA113⟩
 refine QK ?_;show W _ _ _ _ _ _ _;refine Qb 1 K M fun _ K=>?_;refine QU (k:=2) K M rfl rfl rfl Q9 rfl (Qa rfl (Qa hAa.cell (Qa hAr.cell Qz))) rfl fun _ M=>?_;refine Qb 0 K M ?_;have hlt:ls.take i=ls:=List.take_of_length_le Qc;rw[hlt]at hAa;replace B:=B.step M;obtain⟨F',B'⟩:=Qk.B6 (L:=((c20,0,(nu.map (fun z=>iZ z)))::(c4,0,[iZ (a.tr:Nat),ka4,kr4])::(c2,0,[iZ (a.tr:Nat),ka4,kr4])::(c1,0,[iZ (a.tr:Nat),ka,kn])::(Ac++(Al++Aa)))) (B:=[]) (B.cast Ux) hAr;exact⟨cl,_,⟨a.tr,ls.map a.ok,rows⟩,hcls,rfl,hm.made wf hcls Qc,Qk.B5 (a:=⟨a.tr,ls.map a.ok,rows⟩) (M:=((c20,0,(nu.map (fun z=>iZ z)))::(c4,0,[iZ (a.tr:Nat),ka4,kr4])::(c2,0,[iZ (a.tr:Nat),ka4,kr4])::(c1,0,[iZ (a.tr:Nat),ka,kn])::(Ac++Al))) (A:=Aa) (B'.cast Q4) hAa,B.qt⟩
end
section
variable {S:U7} {cl xs:List Int} {ids rs:List Nat} {n r:Nat}

section
variable {α:Type} {key:α→AV} {P:Program} {G:Env} {N:Nat} {st0 st:St} {X0:Fp} {M:QM} {Os:List Ob} {T:Tr AV} {ops rest:List Oper} {K:List (Nat×AV)} {R:Tr AV→St→Prop} {t ty:TypeId} {pos:String} {af:Array Edge} {z v:AV} {cm j:Nat} {L:List (α×AV)} {a:α} {m k x:Operand}
theorem xK{tys:Array TypeId}{kt et:TypeId}(hu:P.underlying t=some (.map kt et))(htys:tys= #[t])(hH:(Wp cm key L).H st.h.get)(hm:QT G K m=some (.mp cm)):U2 P G K (.call {callee:=.builtin .len,args:= #[m],argTypes:=tys}) st (.int .i64 (L.length:Nat)) st:=.of fun T' hT c d ty pos af g=>by
 subst htys;obtain⟨es,n,hc,he⟩:=hH
 have hl:es.length=L.length:=by have:=congrArg List.length he;rwa [List.length_map,List.length_map]at this
 show Qj (Xb P [t]) (ob (Jq G T' m) fun x=>ret (Cf x st.h.get) st) _=_;rw[show Xb P [t]=true by unfold Xb;simp only[hu],Q0,hT.Jq hm,Ql];show ret (ob (st.h.get cm) _) st=_;rw[hc,Ql];simp only[Jh,Us,hl];rfl
theorem xM(Tk:VR P t key z){es:List (AV×AV×Nat)}(hc:st.h.get cm=some (.map es n))(he:O9 key es L)(hm:QT G K m=some (.mp cm))(hk:QT G K k=some (key a))(hx:QT G K x=some v)(hv:Qr v=true)(hn:Yp L a=none):
  U2 P G K (.insert t m k x) st (.tup []) (A4 st cm n es (key a) v):=.of fun T' hT c d ty pos af g=>by
 obtain⟨kt,et,d',u1,u2,u3,u4,u5,u6⟩:=Tk.rule;show(ob (Jq G T' m) fun m=>ob (Jq G T' k) fun k=>ob (Jq G T' x) fun x=>Z1 P t m k x st)=_;rw[hT.Jq hm,hT.Jq hk,hT.Jq hx,Ql,Ql,Ql];unfold Z1 A4;obtain⟨f1,f2⟩:=VR.find (P:=P) (t:=t) (z:=z) (et:=et) u5 u6 a L es 0 he;simp only[u1,u2,u4,QO,hc,Ql,f1 hn,hv,Bool.true_or,Ua,U4,Jh,UI]
theorem zL(hK:QS K T)(B:Qk st0 X0 st M Os)(hj:Os[j]? =some (Wp cm key L))(Tk:VR P t key z)(hm:QT G K m=some (.mp cm))(hk:QT G K k=some (key a))(hx:QT G K x=some v)(hv:Qr v=true)(hn:Yp L a=none)
  (hr: ∀st',Qk st0 X0 st' M (Os.set j (Wp cm key (L++[(a,v)])))→WR P G N ops rest R T st'):WR P G N ops (⟨none,.insert t m k x,ty,pos,af,none⟩::rest) R T st:=by
 obtain⟨es,n,hc,he⟩:=B.at_ hj;exact SF hK (xM Tk hc he hm hk hx hv hn) (hr _ (B.BX hj hc he a v))
end
theorem Jg.wc{P:Program}{h:Hp}{X:List Nat}{z:Nat}{ls:List (List AV)}{ks:AV}(r:Jg h X z ls ks){i:Nat}{cs:List AV}(hi:ls[i]? =some cs): ∃c m off,ks=.sl c m off ls.length z∧c∉X∧ ∀(h':Hp) (Y:List Nat),Jg h' Y z ls ks→
  (∀t,tk P t=.agg z→Js P t (.ptr c m (off+i *z)) h'=some (.agg cs))∧(∀t j v,tk P t=.one→cs[j]? =some v→Js P t (.ptr c m (off+i *z+j)) h'=some v)∧
  (∀t j n,tk P t=.agg n→j+n≤z→Js P t (.ptr c m (off+i *z+j)) h'=some (.agg ((cs.drop j).take n))):=by
 obtain⟨c,m,off,e,hX,_⟩:=r.load (P:=P) hi;refine⟨c,m,off,e,hX,fun h' Y r'=>?_⟩;obtain⟨c',m',off',e',_,k⟩:=r'.load (P:=P) hi;rw[e]at e'
 injection e' with e1 e2 e3
 subst e1 e2 e3;exact k
theorem Po{α:Type}: ∀(j:Nat) (S:List α),(UU j S).length=S.length
 |_,[]=>rfl
 |j,x::S=>by rw[UU,List.length_cons,List.length_cons,Po (j+1) S]
theorem xL{α:Type}{key:α→AV}{P:Program}{G:Env}{st:St}{K:List (Nat×AV)}{t:TypeId}{cm:Nat}{S:List α}{m:Operand}{tys:Array TypeId}{kt et:TypeId}(hu:P.underlying t=some (.map kt et))(htys:tys= #[t])(hH:(Wp cm key (UU 0 S)).H st.h.get)(hm:QT G K m=some (.mp cm)):U2 P G K (.call {callee:=.builtin .len,args:= #[m],argTypes:=tys}) st (.int .i64 (S.length:Nat)) st:=by
 have h:=xK (key:=key) (L:=UU 0 S) hu htys hH hm;rw[Po]at h;exact h
def Xi(T:Nat)(S:U7)(a:Au)(rs:List Nat):Prop:= ∀(s r:Nat),rs[s]? =some r→r<S.length∧ ∀c,c<2^T→Y4 S r c=((a.go s c:Nat):Int)
theorem Xi.pre{T:Nat}{S':U7}{a:Au}(H:Xi T S a rs)(W:Xn T S)(h:S<+:S'):Xi T S' a rs:=fun s r hs=>by
 obtain⟨h1,h2⟩:=H s r hs;exact⟨Nat.lt_of_lt_of_le h1 h.length_le,fun c hc=>by rw[Zs W h h1];exact h2 c hc⟩
def KT(S:U7)(a:Au)(cl:List Int)(T:Nat)(ids:List Nat):Prop:= ∀(s r:Nat),ids[s]? =some r→r<S.length∧ ∀c,c<2^T→Y4 S r c=cv cl (a.go s c)
theorem KT.pre{T:Nat}{S':U7}{a:Au}(H:KT S a cl T ids)(W:Xn T S)(h:S<+:S'):KT S' a cl T ids:=fun s r hs=>by
 obtain⟨h1,h2⟩:=H s r hs;exact⟨Nat.lt_of_lt_of_le h1 h.length_le,fun c hc=>by rw[Zs W h h1];exact h2 c hc⟩
theorem KT.snoc{T:Nat}{a:Au}(H:KT S a cl T ids)(hr:r<S.length)(he: ∀c,c<2^T→Y4 S r c=cv cl (a.go ids.length c)):KT S a cl T (ids++[r]):=fun s q hs=>by
 by_cases hlt:s<ids.length
 ·rw[List.getElem?_append_left hlt]at hs;exact H s q hs
 ·have h3:=(List.getElem?_eq_some_iff.1 hs).1;rw[List.length_append,List.length_singleton]at h3
  have h4:s=ids.length:=by omega
  subst h4;rw[List.getElem?_append_right (Nat.le_refl _),Nat.sub_self]at hs
  injection hs with hs
  subst hs;exact⟨hr,he⟩
def OP(n:Nat)(cl:List Int)(ids:List Nat):List Int:=(List.range ids.length).map fun s=>(((ids[s]?).getD 0:Nat):Int) *((n:Nat):Int)+cv cl s
theorem WN(n:Nat)(cl:List Int)(ids:List Nat):(OP n cl ids).length=ids.length:=by simp[OP]
theorem MF(n:Nat)(cl:List Int)(ids:List Nat)(r:Nat):OP n cl (ids++[r])=OP n cl ids++[((r:Nat):Int) *((n:Nat):Int)+cv cl ids.length]:=by
 unfold OP;rw[List.length_append,List.length_singleton,List.range_succ,List.map_append,List.map_singleton]
 congr 1
 ·refine List.map_congr_left fun s hs=>?_;rw[List.getElem?_append_left (List.mem_range.1 hs)]
 ·rw[List.getElem?_append_right (Nat.le_refl _),Nat.sub_self];rfl
theorem Tm{s:Nat}(h:ids[s]? =some r):cv (OP n cl ids) s=((r:Nat):Int) *((n:Nat):Int)+cv cl s:=by
 have hlt:=(List.getElem?_eq_some_iff.1 h).1;unfold OP;rw[Sh (List.getElem?_range hlt),h];rfl
theorem RF{T:Nat}{a:Au}(W:Xn T S)(H:KT S a cl T ids)(hT:a.tr=T)(hl:ids.length=a.n)(hc: ∀s,s<a.n→0≤cv cl s∧cv cl s<((a.n:Nat):Int)):AQ a cl (Ui [] (OP a.n cl ids)):=by
 refine⟨by rw[XL,WN,hl],fun s t hs ht=>?_⟩;obtain⟨r,hr⟩: ∃r,ids[s]? =some r:=⟨_,List.getElem?_eq_getElem Qc⟩;obtain⟨q,hq⟩: ∃r,ids[t]? =some r:=⟨_,List.getElem?_eq_getElem Qc⟩;obtain⟨h1,h2⟩:=H s r hr;obtain⟨h3,h4⟩:=H t q hq;rw[HX (by rw[WN,hl];exact hs) (by rw[WN,hl];exact ht),Tm hr,Tm hq,jO (hc s hs) (hc t ht)];refine⟨fun⟨e1,e2⟩=>⟨e2,fun c hcK=>?_⟩,fun⟨e1,e2⟩=>⟨?_,e1⟩⟩
 ·have e1:r=q:=by omega
  subst e1
  have hcK:c<2^T:=by rw[←hT];exact hcK
  rw[←h2 c hcK,←h4 c hcK]
 ·have:=eT W h1 h3 fun c hcT=>by rw[h2 c hcT,h4 c hcT];exact e2 c (by unfold Au.K;rw[hT];exact hcT)
  rw[this]
theorem Xi.snoc{T:Nat}{a:Au}(H:Xi T S a rs)(hr:r<S.length)(he: ∀c,c<2^T→Y4 S r c=((a.go rs.length c:Nat):Int)):Xi T S a (rs++[r]):=fun s q hs=>by
 by_cases hlt:s<rs.length
 ·rw[List.getElem?_append_left hlt]at hs;exact H s q hs
 ·have h3:=(List.getElem?_eq_some_iff.1 hs).1;rw[List.length_append,List.length_singleton]at h3
  have h4:s=rs.length:=by omega
  subst h4;rw[List.getElem?_append_right (Nat.le_refl _),Nat.sub_self]at hs
  injection hs with hs
  subst hs;exact⟨hr,he⟩
theorem Xi.val{T:Nat}{a:Au}{s:Nat}(H:Xi T S a rs)(W:Zp a)(V:Xn T S)(ht:a.tr=T)(hs:s<a.n)(h:rs[s]? =some r)(c:Nat):0≤Y4 S r c∧Y4 S r c<((a.n:Nat):Int):=by
 have hc:c % 2^T<2^T:=Nat.mod_lt _ (Nat.two_pow_pos T);rw[←RZ V,(H s r h).2 _ hc];have:=W.UP hs (c:=c % 2^T) (by unfold Au.K;rw[ht];exact hc);omega
def CB(a:Au)(i:Nat):List Int:=(List.range i).map fun s=>((EC (a.ok s):Nat):Int)
theorem VM(a:Au)(i:Nat):(CB a i).length=i:=by simp[CB]
theorem Bm(a:Au)(i:Nat):CB a (i+1)=CB a i++[((EC (a.ok i):Nat):Int)]:=by unfold CB;rw[List.range_succ,List.map_append];rfl
theorem qO(a:Au):Kp a (Ui [] (CB a a.n)):=NT (by rw[XL,VM]) fun s t hs ht=>by
 rw[HX (by rw[VM];exact hs) (by rw[VM];exact ht)];unfold CB;rw[Sh (List.getElem?_range hs),Sh (List.getElem?_range ht)]
 cases a.ok s<;>cases a.ok t<;>decide
theorem Tg(h:xs.length=n): ∀s,s<n→0≤cv (Ui [] xs) s∧cv (Ui [] xs) s<((n:Nat):Int):=fun s hs=>by
 have:=ug (xs:=xs) (s:=s) Qc;omega
theorem eZ{l:List Int}(hl:l.length=n)(h: ∀s,s<n→0≤cv l s∧cv l s<((n:Nat):Int))(z:Int)(hz:z∈l):0≤z∧z<((n:Nat):Int):=by
 obtain⟨s,hs⟩:=List.getElem?_of_mem hz;have hlt:=(List.getElem?_eq_some_iff.1 hs).1;have:=h s Qc;unfold cv at this;rw[hs]at this;exact this
theorem qX:Tryz.prog.underlying 141=some (.map 3 3):=by kernel_rfl

theorem KD{st:St}(hf:Qi st){kl:AV}(hl:Jg st.h.get [] 1 (zC xs) kl)(hx:xs.length≤1000000): ∃v st',Jf 140 [kl] st v st'∧ ∃kr,v=kr∧ED st st' 1 kr (zC (Ui [] xs))∧Qt st st':=by
 have B:=Qk.start hf;have hlc:=hl.cell;refine J7 Tryz.func140 Tryz.ntmps140 fun T K=>?_;have M:=B.mem;refine Qb 1 K M fun _ K=>?_;replace B:=B.step M;refine W4 Lb K B rfl fun c9 _ _ K B=>?_;have M:=B.mem;refine Qb 3 K M fun _ K=>?_;refine p1 K (Q5 Je rfl rfl (hl.len.trans (congrArg some (Qp _)))) fun _ K=>?_;refine Qb 1 K M fun _ K=>?_;refine QX (fun mm1 T st9=> ∃(i:Nat) (kr:AV) (A:QM),mm1=xs.length-i∧QS [(2,.nils),(3,.mp c9),(4,kr),(10,kl),(11,iZ (xs.length:Nat)),(12,iN i)] T∧Qk st ZQ st9 (A++[]) [Wp c9 Lb (UU 0 (JZ [] (xs.take i)))]∧i≤xs.length∧Acc 0 1 A kr (zC (Ui [] (xs.take i)))) (fun mm1 T st9 hI=>?_) _ _ _ ⟨0,.nils,[],rfl,(K.sub rfl),(B.step M).less (.refl _),(Nat.zero_le _),(by rw[List.take_zero];exact .none)⟩;obtain⟨i,kr,A,rfl,K,B,hi,hA⟩:=hI;have M:=B.mem;refine Qb 1 K M fun _ K=>?_;refine Jt K rfl (fun h13=>?_) fun h13=>?_
 ·refine Qb 0 K M fun _ K=>?_;obtain⟨y14,hi14⟩:=Uy xs i Qc;refine oI ((B.step M).F5 hf hl) (Jm hi14) K Qo Qn rfl rfl rfl fun _ _ _ _ K=>?_;refine Qb 3 K M fun _ K=>?_;refine p1 K (WI (a:=y14) Ie ((B.step M).at_ (k:=0) rfl) rfl rfl) fun _ K=>?_;refine Qb 5 K M fun _ K=>?_
  have htk:xs.take (i+1)=xs.take i++[y14]:=by rw[List.take_add_one,hi14];rfl
  refine Qb 2 K M fun _ K=>?_;refine Uq K rfl (fun h23=>?_) fun h23=>?_
  ·have hb23:=h23
   replace h23:((Yp (UU 0 (JZ [] (xs.take i))) (y14)).isSome)=false:=by simpa using h23
   refine Qb 1 K M fun _ K=>?_;refine p1 K (xL qX rfl ((B.step M).at_ (k:=0) rfl) rfl) fun _ K=>?_;refine Qb 4 K M fun _ K=>?_
   have hnone:Yp (UU 0 (JZ [] (xs.take i))) y14=none:=by cases hq:Yp (UU 0 (JZ [] (xs.take i))) y14 with|none=>rfl|some x=>rw[hq]at h23;cases h23
   have hnew:=L4 (xs.take i) [] (NI hnone);replace B:=B.step M;refine H8 (j:=0) (a:=y14) K B rfl Ie rfl rfl rfl rfl hnone fun _ B=>?_;rw[show UU 0 (JZ [] (xs.take i))++[(y14,iZ ((JZ [] (xs.take i)).length:Nat))]=UU 0 (JZ [] (xs.take (i+1))) by rw[htk,hnew.2,Fu,Nat.zero_add]]at B;have M:=B.mem;refine au 3 K M ?_;intro c31 _ _ K _ M;refine QZ (k2:=0) (L:=[(c31,0,[iZ ((JZ [] (xs.take i)).length:Nat)])]) (B:=[]) K M hA QD rfl rfl rfl rfl (by rw[Qp,XL,List.length_take];omega) rfl fun ks32 A32 _ _ K hA32 M=>?_;refine Qb 3 K M fun _ K=>?_
   have hout:Ui [] (xs.take (i+1))=Ui [] (xs.take i)++[(((JZ [] (xs.take i)).length:Nat):Int)]:=by rw[htk,hnew.1]
   exact⟨_,Qc,i+1,ks32,A32,rfl,(K.sub rfl),(B.step M).less (.cons _ (.refl _)),Qc,(by rw[hout,JW];exact hA32)⟩
  have hb23:=h23
  replace h23:((Yp (UU 0 (JZ [] (xs.take i))) (y14)).isSome)=true:=by simpa using h23
  refine Qb 0 K M fun _ K=>?_
  obtain⟨v0,hv0⟩: ∃x,Yp (UU 0 (JZ [] (xs.take i))) y14=some x:=by cases hq:Yp (UU 0 (JZ [] (xs.take i))) y14 with|none=>rw[hq]at h23;cases h23|some x=>exact⟨x,rfl⟩
  obtain⟨j,hj,rfl⟩:=NH hv0;rw[hv0]at K;obtain⟨e1,e2⟩:=Lz (xs.take i) [] List.nodup_nil hj;refine au 3 K M ?_;intro c31 _ _ K _ M;refine QZ (k2:=0) (L:=[(c31,0,[iN j])]) (B:=[]) K M hA QD rfl rfl rfl rfl (by rw[Qp,XL,List.length_take];omega) rfl fun ks32 A32 _ _ K hA32 M=>?_;refine Qb 3 K M fun _ K=>?_
  have hout:Ui [] (xs.take (i+1))=Ui [] (xs.take i)++[((j:Nat):Int)]:=by rw[htk,e1]
  have hsn:JZ [] (xs.take (i+1))=JZ [] (xs.take i):=by rw[htk,e2]
  replace B:=B.step M;rw[←hsn]at B;have M:=B.mem;exact⟨_,Qc,i+1,ks32,A32,rfl,(K.sub rfl),(B.step M).less (.cons _ (.refl _)),Qc,(by rw[hout,JW];exact hA32)⟩
 refine QK ?_;show W _ _ _ _ _ _ _;refine Jy ?_;rw[List.take_of_length_le Qc]at hA;refine Qb 2 K M ?_;exact⟨_,rfl,(B.step M).newRow hA (fun c m l h=>by simp[h]),(B.step M).qt⟩

theorem qm{st:St}(hf:Qi st){ys:List Int}{ka kb:AV}(ha:Jg st.h.get [] 1 (zC xs) ka)(hb:Jg st.h.get [] 1 (zC ys) kb): ∃v st',Jf 142 [ka,kb] st v st'∧v=.bool (decide (xs=ys))∧Qt st st':=by
 have hbnxs:(xs.length:Int)≤9223372036854775807:=by have:=ha.W3;rw[Qp]at this;exact this
 have hbnys:(ys.length:Int)≤9223372036854775807:=by have:=hb.W3;rw[Qp]at this;exact this
 refine J7 Tryz.func142 Tryz.ntmps142 fun T K=>?_;have M:=Mem.start hf;refine Qb 2 K M fun _ K=>?_;refine p1 K (Q5 Je rfl rfl (ha.len.trans (congrArg some (Qp _)))) fun _ K=>?_;refine Qb 1 K M fun _ K=>?_;refine p1 K (Q5 Je rfl rfl (hb.len.trans (congrArg some (Qp _)))) fun _ K=>?_;refine Qb 1 K M fun _ K=>?_;refine Uq K rfl (fun h10=>?_) fun h10=>?_
 ·have hb10:=h10
  replace h10: ¬(((xs.length:Nat):Int)=((ys.length:Nat):Int)):=by first|exact of_decide_eq_false h10|exact yF h10|simpa using h10
  refine Qb 1 K M ?_;refine⟨congrArg AV.bool ?_,M.qt⟩;refine(decide_eq_false fun e=>?_).symm;subst e
  first|(exact h10 rfl)|(rw[hi18]at hi22;injection hi22 with e;exact h24 Qc)
 have hb10:=h10
 replace h10:(((xs.length:Nat):Int)=((ys.length:Nat):Int)):=by first|exact of_decide_eq_true h10|exact yT h10|simpa using h10
 refine Qb 1 K M fun _ K=>?_;refine p1 K (Q5 Je rfl rfl (ha.len.trans (congrArg some (Qp _)))) fun _ K=>?_;refine Qb 1 K M fun _ K=>?_;refine QX (fun mm1 T st9=> ∃(i:Nat),mm1=xs.length-i∧QS [(0,ka),(1,kb),(12,iZ (xs.length:Nat)),(13,iN i)] T∧Mem st.h.get st.n [] st9 []∧i≤xs.length∧(∀j,j<i→xs[j]? =ys[j]?)) (fun mm1 T st9 hI=>?_) _ _ _ ⟨0,rfl,(K.sub rfl),M.less (.refl _),(Nat.zero_le _),(fun j hj=>absurd hj (Nat.not_lt_zero j))⟩;obtain⟨i,rfl,K,M,hi,hs⟩:=hI;refine Qb 1 K M fun _ K=>?_;refine Jt K rfl (fun h14=>?_) fun h14=>?_
 ·refine Qb 2 K M fun _ K=>?_;refine QA (l:=[(0,0),(1,0),(2,0),(3,0),(4,0),(5,0),(6,0),(7,0),(8,0)]) (by kernel_rfl) ?_;refine Jo 2 K M fun _ K=>?_;obtain⟨y18,hi18⟩:=Uy xs i Qc;refine dI rfl rfl (Jg.mem M ha Q4) (Jm hi18) K Qo Qn rfl rfl rfl fun _ _ _ _ K=>?_;refine Jo 2 K M fun _ K=>?_;obtain⟨y22,hi22⟩:=Uy ys i Qc;refine dI rfl rfl (Jg.mem M hb Q4) (Jm hi22) K Qo Qn rfl rfl rfl fun _ _ _ _ K=>?_;refine q1 rfl K (R9 rfl rfl) fun _ K=>QF ?_;show W _ _ _ _ _ _ _;refine Uq K rfl (fun h24=>?_) fun h24=>?_
  ·have hb24:=h24
   replace h24: ¬(y18=y22):=by first|exact of_decide_eq_false h24|exact yF h24|simpa using h24
   refine Qb 1 K M ?_;refine⟨congrArg AV.bool ?_,M.qt⟩;refine(decide_eq_false fun e=>?_).symm;subst e
   first|(exact h10 rfl)|(rw[hi18]at hi22;injection hi22 with e;exact h24 Qc)
  have hb24:=h24
  replace h24:(y18=y22):=by first|exact of_decide_eq_true h24|exact yT h24|simpa using h24
  refine Qb 2 K M fun _ K=>?_;exact⟨_,Qc,i+1,rfl,(K.sub rfl),M.less (.refl _),Qc,(fun j hj=>by by_cases e:j=i;subst e;rw[hi18,hi22];exact congrArg some Qc;exact hs j Qc)⟩
 refine QK ?_;show W _ _ _ _ _ _ _;refine Qb 1 K M ?_;refine⟨congrArg AV.bool ?_,M.qt⟩;refine(decide_eq_true ?_).symm;apply List.ext_getElem?;intro j
 by_cases hj:j<xs.length
 ·exact hs j Qc
 ·rw[List.getElem?_eq_none Qc,List.getElem?_eq_none Qc]

theorem Ry{st:St}(hf:Qi st){FD F:Fp}{dp sp:Nat}{a:Au}(hD:UX st FD dp a)(hS:Zm st F sp a.tr S)(hdF: ∀c,FD c→ ¬F c)(wfS0:Xn a.tr S){kr:AV}(hR:Jg st.h.get [] 1 (zC (zN rs)) kr)(offR: ∀c m o n y,kr=.sl c m o n y→ ¬F c)(hrl:rs.length=a.n)(hrs:Xi a.tr S a rs){kc:AV}(hC:Jg st.h.get [] 1 (zC cl) kc)(hcl:cl.length=a.n)(hcv: ∀s,s<a.n→0≤cv cl s∧cv cl s<((a.n:Nat):Int))(offC: ∀c m o n y,kc=.sl c m o n y→ ¬F c)(hlen:S.length+a.n *127≤1000000000): ∃v st',Jf 141 [.ptr dp 0 0,.ptr sp 0 0,kr,kc] st v st'∧ ∃kr' S' out st2,v=kr'∧Vb st st2 F sp a.tr S'∧Qt st2 st'∧ED st2 st' 1 kr' (zC (Ui [] out))∧S<+:S'∧Xn a.tr S'∧S'.length≤S.length+a.n *127∧out.length=a.n∧AQ a cl (Ui [] out):=by
 have wf:=hD.wf;have htr:=wf.tr;have hmo:=wf.most;have h127:2^(a.tr+1)≤128:=Nat.pow_le_pow_right Q8 (by omega:a.tr+1≤7);have hrc:=hR.cell;have hkc:=hC.cell
 have hbr:(rs.length:Int)≤9223372036854775807:=by omega
 have hn127: ∀k,k≤a.n→k *127≤a.n *127:=fun k hk=>Nat.mul_le_mul_right _ hk;have B:=Qk.UK (o:=XG F sp a.tr S) hf hS.at_ hS.hi;refine J7 Tryz.func141 Tryz.ntmps141 fun T K=>?_;have M:=B.mem;refine Qb 3 K M fun _ K=>?_;refine p1 K (Q5 Je rfl rfl (hR.len.trans (congrArg some (by rw[Qp,List.length_map])))) fun _ K=>?_;refine Qb 1 K M fun _ K=>?_;refine QX (fun mm1 T st9=> ∃(i:Nat) (ids:List Nat) (S2:U7) (F2:Fp) (ko:AV) (A:QM),mm1=rs.length-i∧QS [(0,.ptr dp 0 0),(1,.ptr sp 0 0),(3,kc),(8,.nils),(9,ko),(12,kr),(13,iZ (rs.length:Nat)),(14,iN i)] T∧Qk st (XG F sp a.tr S).F st9 (A++[]) [XG F2 sp a.tr S2]∧ids.length=i∧i≤rs.length∧KT S2 a cl a.tr ids∧S<+:S2∧Xn a.tr S2∧S2.length≤S.length+i *127∧Acc 0 1 A ko (zC (OP a.n cl ids))) (fun mm1 T st9 hI=>?_) _ _ _ ⟨0,[],S,F,.nils,[],rfl,(K.sub rfl),(B.step M).less (.refl _),rfl,(Nat.zero_le _),(fun s r h=>by simp at h),(List.prefix_refl _),wfS0,Qc,.none⟩;obtain⟨i,ids,S2,F2,ko,A,rfl,K,B,hil,hi,himg,hpre,wfS,hSl,hA⟩:=hI;have M:=B.mem;have hni:=hn127 i Qc;refine Qb 1 K M fun _ K=>?_;refine Jt K rfl (fun h15=>?_) fun h15=>?_
 ·refine Qb 1 K M fun _ K=>?_;obtain⟨y17,hi17⟩:=Uy rs i Qc;refine oI ((B.step M).rd hf hR offR) (Xw hi17) K Qo Qn rfl rfl rfl fun _ _ _ _ K=>?_;refine Qb 2 K M fun _ K=>?_;refine QA (l:=[(1,0),(2,0),(3,0),(4,0),(5,0),(6,0),(0,0),(7,0),(8,0),(9,0),(10,0),(11,2),(12,0),(13,0),(14,0),(15,0)]) (by kernel_rfl) ?_;have Mq:=M;have Mz0:=M;have Bz0:=B;refine Jo 3 K M fun _ K=>?_;replace B:=B.step M;have hRi:=hrs.pre wfS0 hpre;have hr17:=hRi i y17 hi17;have hvl:=hRi.val wf wfS rfl Qc hi17;obtain⟨v23,st23,ev23,r1,S3,rfl,hout,mb,hev⟩:=jJ B.fresh (B.Kx (k:=0) rfl) wf.tr wfS hr17.1 (B.rd hf hC offC) (B.off (k:=0) rfl hf hC offC) (fun z hz=>by have:=eZ hcl hcv z hz;omega) (fun c=>by rw[hcl];exact hvl c) Qc;refine qA rfl K (Qf rfl ev23) fun _ K=>?_;obtain⟨F3,B⟩:=B.Wf hout;have M:=B.mem;have hmbl:=mb.len;have hmlt:=mb.lt
  have hrn:0≤((r1:Nat):Int) *((a.n:Nat):Int)∧((r1:Nat):Int) *((a.n:Nat):Int)≤400000000000:=by
   have h1:=Nat.mul_le_mul (show r1≤1000000000 by omega) (show a.n≤400 from hmo);rw[←Int.natCast_mul];omega
  have Mp:=Mq;have Mq:=M;have Mz1:=M;have Bz1:=B;refine q1 rfl K (Qy rfl) fun _ K=>?_;obtain⟨v25,st25,ev25,rfl,q25⟩:=Bb M.fresh (hD.OB (B.step M).JM hdF);refine qA rfl K (Qf rfl ev25) fun _ K=>?_;replace M:=M.quiet q25;have Mp:=Mq;have Mq:=M;have Mz2:=M;have Bz2:=B;refine q1 rfl K (Qy rfl) fun _ K=>q1 rfl K (Tb (c:=((r1:Nat):Int) *((a.n:Nat):Int)) rfl rfl (IntWalk.i64_in _ Qc)) fun _ K=>?_;refine Jo 2 K M fun _ K=>?_;obtain⟨y29,hi29⟩:=Uy cl i Qc
  have hcy29:cv cl i=y29:=by unfold cv;rw[hi29];rfl
  have hcb29:=hcv i Qc;obtain⟨x29,m29,f29,q29,_,lf29⟩:=Jg.wc ((B.step M).rd hf hC offC) (i:=i) (cs:=_) (Jm hi29);refine q1 rfl K (Qe (j:=i) Qo (congrArg some q29) rfl (by rw[Qp];omega)) fun _ K=>?_
  refine XD rfl K rfl ((lf29 _ _ ((B.step M).rd hf hC offC)).2.1 _ 0 _ Qn rfl) Q4 (by intro s hs;simp only[List.take_succ_cons,List.take_zero,List.mem_cons,List.not_mem_nil,or_false]at hs;rcases hs with rfl|rfl<;>first|exact((lf29 _ _ ((Bz1.step Mz1).rd hf hC offC)).2.1 _ 0 _ Qn rfl)|exact((lf29 _ _ ((Bz0.step Mz0).rd hf hC offC)).2.1 _ 0 _ Qn rfl)) (JI rfl) rfl Q8 fun _ K=>?_
  refine Jo 1 K M fun _ K=>?_;refine Xp rfl K M QD Xv rfl rfl rfl rfl rfl fun c32 _ _ K M=>?_;refine ZT (k2:=0) (L:=[(c32,0,[iZ (((((r1:Nat):Int) *((a.n:Nat):Int))+y29))])]) (B:=[]) rfl K M hA QD rfl rfl rfl rfl (by rw[Qp,WN];omega) rfl fun ks33 A33 _ _ K hA33 M=>?_;have Mp:=Mq;have Mq:=M;have Mz3:=M;have Bz3:=B;refine q1 rfl K (JV rfl) fun _ K=>QF ?_;show W _ _ _ _ _ _ _;refine Qb 2 K M fun _ K=>?_;have hni2:=hn127 (i+1) Qc;exact⟨_,Qc,i+1,(ids++[r1]),S3,F3,ks33,A33,rfl,(K.sub rfl),(B.step M).less (.cons _ (.refl _)),(by rw[List.length_append,hil];rfl),Qc,((himg.pre wfS mb.pre).snoc mb.lt (fun c hc=>by rw[hev,hr17.2 c hc,hil,Int.toNat_natCast])),(hpre.trans mb.pre),mb.wf,Qc,(by rw[MF,hil,hcy29,JW];exact hA33)⟩
 refine QK ?_;show W _ _ _ _ _ _ _;refine Qb 1 K M fun _ K=>?_;replace B:=B.step M;have B9:=B;obtain⟨v36,st36,ev36,kr9,rfl,nr9,q9⟩:=KD B.fresh (Mem.Ys (L:=[]) (B:=[]) M hA) (by rw[WN];omega);refine p1 K (Qf rfl ev36) fun _ K=>?_;replace B:=B.quiet q9;have M:=B.mem;refine Qb 1 K M ?_
 have hin:i=a.n:=by omega
 exact⟨_,S2,OP a.n cl ids,_,rfl,B9.Nv,q9,nr9,hpre,wfS,by rw[hin]at hSl;exact hSl,by rw[WN];omega,RF wfS himg rfl Qc hcv⟩
end
end Go.Proofs.YtiknomepbklibaaGreatDoor
