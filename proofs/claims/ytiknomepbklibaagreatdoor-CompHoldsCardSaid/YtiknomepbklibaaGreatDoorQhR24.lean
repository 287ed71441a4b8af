/-
  The reference's classes and least automaton, plainly.
-/
import Derived.Test.YtiknomepbklibaaGreatDoorQhR22A
set_option linter.unnecessarySimpa false
set_option linter.unusedSimpArgs false
set_option linter.unusedVariables false
namespace Go.Proofs.YtiknomepbklibaaGreatDoor
section
open Go Go.RowKit
variable {n s:Nat} {nu:List Int} {x:Int}

theorem VF{cl:List Int}{y:Int}(h:cl[s]? =some y):cv cl s=y:=by unfold cv;rw[h];rfl
theorem Oe{l:List Int}{j:Nat}(hj:j<l.length):cv (l.set j x) s=if s=j then x else cv l s:=by
 unfold cv;rw[List.getElem?_set]
 by_cases h:j=s
 ·subst h;rw[if_pos rfl,if_pos hj,if_pos rfl];rfl
 ·rw[if_neg h,if_neg fun e=>h e.symm]
def LW(a:Au)(cl:List Int)(s c:Nat):List Int:=cv cl s::(List.range c).map fun c=>cv cl (a.go s c)
def Bz(a:Au)(cl:List Int)(s:Nat):List Int:=LW a cl s a.K
theorem Mr(a:Au)(cl:List Int)(s c:Nat):LW a cl s (c+1)=LW a cl s c++[cv cl (a.go s c)]:=by
 unfold LW;rw[List.range_succ,List.map_append];rfl
theorem jx(a:Au)(cl:List Int)(s c:Nat):(LW a cl s c).length=c+1:=by simp[LW]
theorem xn{a:Au}{cl:List Int}{t:Nat}:Bz a cl s=Bz a cl t↔cv cl s=cv cl t∧ ∀c,c<a.K→cv cl (a.go s c)=cv cl (a.go t c):=by
 unfold Bz LW;rw[List.cons.injEq,List.map_inj_left];exact⟨fun h=>⟨h.1,fun c hc=>h.2 c (List.mem_range.2 hc)⟩,fun h=>⟨h.1,fun c hc=>h.2 c (List.mem_range.1 hc)⟩⟩
structure F0(a:Au)(cl:List Int)(i:Nat)(SG:List (List Int))(out:List Int):Prop where
 len:out.length=i
 nodup:SG.Nodup
 num: ∀s,s<i→ ∃v:Nat,out[s]? =some ((v:Nat):Int)∧SG[v]? =some (Bz a cl s)
 all: ∀v,v<SG.length→ ∃s,s<i∧SG[v]? =some (Bz a cl s)
section
variable {a:Au} {cl out:List Int} {i:Nat} {SG:List (List Int)}
theorem F0.start(a:Au)(cl:List Int):F0 a cl 0 [] []:=⟨rfl,List.nodup_nil,fun s h=>absurd h (Nat.not_lt_zero s),fun v h=>absurd h (Nat.not_lt_zero v)⟩
theorem F0.JB(H:F0 a cl i SG out){v:Nat}(hv:SG[v]? =some (Bz a cl i)):F0 a cl (i+1) SG (out++[((v:Nat):Int)]):=by
 refine⟨by simp[H.len],H.nodup,fun s hs=>?_,fun v hv=>?_⟩
 ·by_cases h:s<i
  ·obtain⟨w,h1,h2⟩:=H.num s h;exact⟨w,by rw[List.getElem?_append_left (by rw[H.len];exact h)];exact h1,h2⟩
  ·have e:s=i:=by omega
   subst e;exact⟨v,by rw[List.getElem?_append_right (by rw[H.len];exact Nat.le_refl _),H.len,Nat.sub_self];rfl,hv⟩
 ·obtain⟨s,h1,h2⟩:=H.all v hv;exact⟨s,by omega,h2⟩
theorem F0.new(H:F0 a cl i SG out)(hn:Bz a cl i∉SG):F0 a cl (i+1) (SG++[Bz a cl i]) (out++[((SG.length:Nat):Int)]):=by
 have H2:F0 a cl i SG out:=H;refine⟨by simp[H.len],List.nodup_append.2 ⟨H.nodup,by simp,fun x hx y hy e=>?_⟩,fun s hs=>?_,fun v hv=>?_⟩
 ·rw[List.mem_singleton]at hy;subst hy e;exact hn hx
 ·by_cases h:s<i
  ·obtain⟨w,h1,h2⟩:=H.num s h;exact⟨w,by rw[List.getElem?_append_left (by rw[H.len];exact h)];exact h1,by rw[List.getElem?_append_left (List.getElem?_eq_some_iff.1 h2).1];exact h2⟩
  ·have e:s=i:=by omega
   subst e;exact⟨SG.length,by rw[List.getElem?_append_right (by rw[H.len];exact Nat.le_refl _),H.len,Nat.sub_self];rfl,by rw[List.getElem?_append_right (Nat.le_refl _),Nat.sub_self];rfl⟩
 ·rw[List.length_append,List.length_singleton]at hv
  by_cases h:v<SG.length
  ·obtain⟨s,h1,h2⟩:=H.all v h;exact⟨s,by omega,by rw[List.getElem?_append_left h];exact h2⟩
  ·have e:v=SG.length:=by omega
   subst e;exact⟨i,by omega,by rw[List.getElem?_append_right (Nat.le_refl _),Nat.sub_self];rfl⟩
theorem F0.le(H:F0 a cl i SG out):SG.length≤i:=by
 have:=ZX (b:=(List.range i).map fun s=>Bz a cl s) H.nodup fun x hx=>by
  obtain⟨v,hv⟩:=List.getElem?_of_mem hx;obtain⟨s,h1,h2⟩:=H.all v (List.getElem?_eq_some_iff.1 hv).1;rw[hv]at h2
  injection h2 with h2
  exact List.mem_map.2 ⟨s,List.mem_range.2 h1,h2.symm⟩
 simpa using this
theorem F0.done(H:F0 a cl a.n SG out):AL a cl out∧Kg a.n out SG.length:=by
 refine⟨⟨H.len,fun s t hs ht=>?_⟩,⟨fun s hs=>?_,fun v hv=>?_⟩⟩
 ·obtain⟨v,h1,h2⟩:=H.num s hs;obtain⟨w,h3,h4⟩:=H.num t ht;rw[VF h1,VF h3,←xn];constructor
  ·intro e
   have e:v=w:=by omega
   subst e;rw[h2]at h4;injection h4
  ·intro e;rw[←e]at h4;have:=(List.getElem?_inj (List.getElem?_eq_some_iff.1 h2).1 H.nodup).1 (h2.trans h4.symm);rw[this]
 ·obtain⟨v,h1,h2⟩:=H.num s hs;have:=(List.getElem?_eq_some_iff.1 h2).1;rw[VF h1];omega
 ·obtain⟨s,h1,h2⟩:=H.all v hv;obtain⟨w,h3,h4⟩:=H.num s h1;have:=(List.getElem?_inj (List.getElem?_eq_some_iff.1 h4).1 H.nodup).1 (h4.trans h2.symm);exact⟨s,h1,by rw[VF h3,this]⟩
end
theorem Nw{cl:List Int}{k:Nat}(h:Kg n cl k):k≤n:=by
 have:=ZX (a:=List.range k) (b:=(List.range n).map fun s=>(cv cl s).toNat) List.nodup_range fun v hv=>by
  obtain⟨s,h1,h2⟩:=h.2 v (List.mem_range.1 hv);exact List.mem_map.2 ⟨s,List.mem_range.2 h1,by rw[h2];rfl⟩
 simpa using this
theorem yQ{a:Au}(W:Zs a){cl out:List Int}{was k:Nat}(hF:Ki a cl)(hw:was=0∨Kg a.n cl was)(f:AL a cl out)(ho:Kg a.n out k):Ki a out∧was≤k∧(k=was→ZP a out):=by
 have hk:0<k:=by
  have:=ho.1 0 W.pos;omega
 refine⟨hF.yv W f,?_,fun e=>?_⟩
 ·rcases hw with h|h
  ·omega
  ·exact(BN f h ho).1
 ·subst e;rcases hw with h|h
  ·omega
  ·exact(hF.yv W f).I9 W (CU W f (EW f ((BN f h ho).2 rfl)))
def Xy(a:Au)(i:Nat)(cl:List Int):Prop:=cl.length=a.n∧ ∀s,s<a.n→cv cl s=if s<i∧a.ok s≠a.ok 0 then 1 else 0
theorem Xy.start(a:Au):Xy a 0 (List.replicate a.n 0):=⟨by simp,fun s hs=>by
 unfold cv;rw[List.getElem?_replicate,if_pos hs]
 simp⟩
theorem Xy.no{a:Au}{i:Nat}{cl:List Int}(H:Xy a i cl)(h:a.ok i=a.ok 0):Xy a (i+1) cl:=⟨H.1,fun s hs=>by
 rw[H.2 s hs]
 by_cases e:s=i
 ·subst e;simp[h]
 ·have:s<i↔s<i+1:=by omega
  simp[this]⟩
theorem Xy.yes{a:Au}{i:Nat}{cl:List Int}(H:Xy a i cl)(hi:i<a.n)(h:a.ok i≠a.ok 0):Xy a (i+1) (cl.set i 1):=⟨by simp[H.1],fun s hs=>by
 rw[Oe (by rw[H.1];exact hi),H.2 s hs]
 by_cases e:s=i
 ·subst e;simp[h]
 ·have:s<i↔s<i+1:=by omega
  simp[this,e]⟩
theorem Xy.done{a:Au}{cl:List Int}(H:Xy a a.n cl):Ki a cl:=NN H.1 fun s t hs ht=>by
 rw[H.2 s hs,H.2 t ht]
 cases h1:a.ok s<;>cases h2:a.ok t<;>cases h3:a.ok 0<;>simp[hs,ht]
structure Oy(n:Nat)(L nu:List Int):Prop where
 len:nu.length=n
 yes: ∀(j:Nat) (x:Int),L[j]? =some x→cv nu x.toNat=((j:Nat):Int)
 no: ∀(x:Int),0≤x→x<n→x∉L→cv nu x.toNat= -1
 rng: ∀x∈L,0≤x∧x<((n:Nat):Int)
theorem Oy.new{L:List Int}(H:Oy n L nu)(h0:0≤x)(h1:x<n)(hx:x∉L):Oy n (L++[x]) (nu.set x.toNat ((L.length:Nat):Int)):=by
 have hl:x.toNat<nu.length:=by rw[H.len];omega
 refine⟨by simp[H.len],fun j y hj=>?_,fun y k0 k1 hy=>?_,fun y hy=>?_⟩
 ·rw[Oe hl]
  by_cases e:j<L.length
  ·rw[List.getElem?_append_left e]at hj;have hne:y≠x:=fun e=>hx (e▸List.mem_of_getElem? hj);have:=H.rng y (List.mem_of_getElem? hj);rw[if_neg Qc];exact H.yes j y hj
  ·have hlt:=(List.getElem?_eq_some_iff.1 hj).1;rw[List.length_append,List.length_singleton]at hlt
   have e:j=L.length:=by omega
   subst e;rw[List.getElem?_append_right (Nat.le_refl _),Nat.sub_self]at hj
   injection hj with hj
   subst hj;rw[if_pos rfl]
 ·rw[Oe hl];have hne:y≠x:=fun e=>hy (by rw[e];simp);rw[if_neg Qc];exact H.no y k0 k1 fun h=>hy (by simp[h])
 ·rcases List.mem_append.1 hy with hy|hy
  ·exact H.rng y hy
  ·rw[List.mem_singleton.1 hy];exact⟨h0,h1⟩
theorem Oy.start(hl:nu.length=n)(h: ∀s,s<n→cv nu s= -1)(h0:0≤x)(h1:x<n):Oy n [x] (nu.set x.toNat 0):=by
 have H:Oy n [] nu:=⟨hl,fun j x hj=>by simp at hj,fun x k0 k1 _=>h _ Qc,fun x hx=>by cases hx⟩;exact H.new h0 h1 Q7
theorem Oy.mem{L:List Int}(H:Oy n L nu)(h0:0≤x)(h1:x<n){y:Int}(hy:cv nu x.toNat=y):(y<0∧x∉L)∨(∃j:Nat,y=((j:Nat):Int)∧L[j]? =some x):=by
 by_cases hx:x∈L
 ·obtain⟨j,hj⟩:=List.getElem?_of_mem hx;exact .inr ⟨j,by rw[←hy,H.yes j x hj],hj⟩
 ·exact .inl ⟨by rw[←hy,H.no x h0 h1 hx];decide,hx⟩
end
section
open Go Go.RowKit
set_option maxHeartbeats 8000000
set_option maxRecDepth 100000
variable {a:Au} {cl:List Int} {ka kn:AV} {ls:List (List AV)} {st:St}

theorem Qk.newRow{st0:St}{M A:QS}{Os:List Ob}{z:Nat}{ks:AV}(B:Qk st0 Xi st M Os)(hA:Acc 0 z A ks ls)(hs: ∀c m l,(c,m,l)∈A→(c,m,l)∈M):EA st0 st z ks ls:=by
 refine⟨A,?_,fun c m l hm=>B.row c m l (hs c m l hm)⟩
 cases hA with
 |none=>exact .none
 |own h1 h2 h3=>exact .own ((B.lo _ _ _ (hs _ _ _ (List.mem_cons_self ..))).resolve_right id) h2 h3

theorem aR(h:Xx cl)(s:Nat):Xx (Bz a cl s):=by
 have key: ∀s,-9223372036854775808≤cv cl s∧cv cl s≤9223372036854775807:=fun s=>by
  unfold cv
  cases hs:cl[s]? with
  |none=>exact⟨by decide,by decide⟩
  |some y=>exact h y (List.mem_of_getElem? hs)
 intro z hz;unfold Bz LW at hz;rcases List.mem_cons.1 hz with rfl|hz
 ·exact key s
 ·obtain⟨c,_,rfl⟩:=List.mem_map.1 hz;exact key _

theorem xl(hf:Qi st)(wf:Zs a)(hA:Jj st.h.get [] 1 (bC a.acc) ka)(hN:O6 st.h.get a.nx kn ls){kc:AV}(hc:Jj st.h.get [] 1 (zC cl) kc)(hcl:cl.length=a.n){s:Nat}(hs:s<a.n): ∃v st',Jh 82 [.agg [iZ (a.tr:Nat),ka,kn],kc,iN s] st v st'∧ ∃kr,v=kr∧EA st st' 1 kr (zC (Bz a cl s))∧Qt st st':=by
 have hac:=hA.cell;have hnc:=hN.r.cell;have hmo:=wf.most;have hps:=wf.pos;have hln:=wf.len;have hen:a.n=a.acc.length:=rfl;have htr:=wf.tr;have hp6:=J9 htr;have hp0:0<2^a.tr:=Nat.two_pow_pos _;have hcc:=hc.cell;refine JA Tryz.func82 Tryz.ntmps82 fun T K=>?_;have M:=Mem.start hf;refine Qb 0 K M fun _ K=>?_;refine Ju K M rfl (Qa rfl (Qa hA.cell (Qa hN.r.cell Q4))) Q9 fun c3 _ _ K M=>?_;refine Qb 3 K M fun _ K=>?_;obtain⟨y11,hi11⟩:=Uw cl s Qc;refine oI (Jj.mem M hc Q7) (Jm hi11) K Qo Qn rfl rfl rfl fun _ _ _ _ K=>?_;refine au 2 K M ?_;intro c13 _ _ K _ M;replace M:=Mem.cast (M':=((c3,0,[iZ (a.tr:Nat),ka,kn])::([(c13,0,[iZ y11])]++[]))) (Mem.perm M (List.perm_append_comm (α:=Nat×Nat×List AV) (l₁:=[(c13,0,[iZ y11])]) (l₂:=[(c3,0,[iZ (a.tr:Nat),ka,kn])]))) U0;have hAS0:Acc st.n 1 [(c13,0,[iZ y11])] (.sl c13 0 0 1 1) [[iZ y11]]:=Acc.own (n0:=st.n) (z:=1) (c:=c13) (m:=0) (ls:=[[iZ y11]]) ((M.own c13 0 [iZ y11] Q7).resolve_right Q7) Q7 Q7;refine Qb 1 K M fun _ K=>?_;refine QY (fun mm1 T st9=> ∃(c:Nat) (ko:AV) (A:UA),mm1=2^a.tr-c∧QT [(1,kc),(2,iN s),(3,.ptr c3 0 0),(6,.nils),(7,ko),(8,iN c)] T∧Mem st.h.get st.n [] st9 ((c3,0,[iZ (a.tr:Nat),ka,kn])::(A++[]))∧c≤2^a.tr∧Acc st.n 1 A ko (zC (LW a cl s c))) (fun mm1 T st9 hI=>?_) _ _ _ ⟨0,(.sl c13 0 0 1 1),[(c13,0,[iZ y11])],rfl,(K.sub rfl),M.less (.refl _),(Nat.zero_le _),(by rw[show LW a cl s 0=[y11] by unfold LW;rw[VF hi11];rfl];exact hAS0)⟩;obtain⟨c,ko,A,rfl,K,M,hck,hA2⟩:=hI;refine Qb 2 K M fun _ K=>?_;refine p1 K (Qf rfl (M.load (k:=0) rfl (Qd Q8 rfl))) fun _ K=>?_;refine Qb 1 K M fun _ K=>?_;obtain⟨s18,hi18⟩:=Uw a.nx s Qc;obtain⟨_,hc18,w18,rfl,hr18,hz18⟩:=hN.at_ _ _ hi18;have hw18:=wf.row s18 (List.mem_of_getElem? hi18);have hl18:s18.length=2^a.tr:=hw18.1;refine oI (Jj.mem M hN.r Q7) hc18 K QZ Jb rfl rfl rfl fun _ _ _ _ K=>?_;refine p1 K (Q5 Ja rfl rfl (hr18.len.trans (congrArg some (Qq _)))) fun _ K=>?_;refine Qb 1 K M fun _ K=>?_;refine Jy K rfl (fun h21=>?_) fun h21=>?_
 ·refine Qb 3 K M fun _ K=>?_;refine p1 K (Qf rfl (M.load (k:=0) rfl (Qd Q8 rfl))) fun _ K=>?_;refine Qb 1 K M fun _ K=>?_;obtain⟨_,hc29,w29,rfl,hr29,hz29⟩:=hN.at_ _ _ hi18;refine oI (Jj.mem M hN.r Q7) hc29 K QZ Jb rfl rfl rfl fun _ _ _ _ K=>?_;refine Qb 1 K M fun _ K=>?_;obtain⟨y32,hi32⟩:=Uw s18 c Qc;have hb32:=hw18.2 y32 (List.mem_of_getElem? hi32);refine oI (Jj.mem M hr29 Q7) (Jm hi32) K Qo Qn rfl rfl rfl fun _ _ _ _ K=>?_;obtain⟨y34,hi34⟩:=Uw cl ((y32).toNat) Qc;obtain⟨x34,m34,f34,q34,_,la34,lo34,lp34⟩:=(Jj.mem M hc Q7).load (i:=(y32).toNat) (cs:=_) (Jm hi34);refine p1 K (Qe (j:=(y32).toNat) Qo (congrArg some q34) (congrArg (fun z=>some (iZ z)) (by omega:_=(((y32).toNat:Nat):Int))) (by rw[Qq];omega)) fun _ K=>p1 K (Qf rfl (lo34 _ 0 _ Qn rfl)) fun _ K=>?_;refine au 1 K M ?_;intro c36 _ _ K _ M;refine SE (k2:=0) (L:=[(c36,0,[iZ y34]),(c3,0,[iZ (a.tr:Nat),ka,kn])]) (A:=A) (B:=[]) K M hA2 QJ rfl rfl rfl rfl (by rw[Qq,jx];omega) rfl fun ks37 A37 _ _ K hA37 M=>?_;refine Qb 4 K M fun _ K=>?_;exact⟨_,Qc,c+1,ks37,A37,rfl,(K.sub rfl),M.less (.cons _ (.refl _)),Qc,(by rw[Mr,JI hi18 hi32,VF hi34,JX];exact hA37)⟩
 refine QM ?_;show W _ _ _ _ _ _ _;refine Qb 2 K M ?_;refine⟨_,rfl,?_,M.qt⟩
 have hce:c=2^a.tr:=by omega
 subst hce;have h:=Mem.BO (L:=[(c3,0,[iZ (a.tr:Nat),ka,kn])]) (A:=A) (B:=[]) M hA2;exact h

theorem yu(hf:Qi st)(wf:Zs a)(hA:Jj st.h.get [] 1 (bC a.acc) ka)(hN:O6 st.h.get a.nx kn ls){kc:AV}(hc:Jj st.h.get [] 1 (zC cl) kc)(hcl:cl.length=a.n)(hcz:Xx cl): ∃v st',Jh 56 [.agg [iZ (a.tr:Nat),ka,kn],kc] st v st'∧ ∃kr SG out,v=.tup [kr,iZ (SG.length:Nat)]∧F0 a cl a.n SG out∧EA st st' 1 kr (zC out)∧Qt st st':=by
 have hac:=hA.cell;have hnc:=hN.r.cell;have hmo:=wf.most;have hps:=wf.pos;have hln:=wf.len;have hen:a.n=a.acc.length:=rfl;have htr:=wf.tr;have hp6:=J9 htr;have hp0:0<2^a.tr:=Nat.two_pow_pos _;have hcc:=hc.cell;have B:=Qk.start hf;refine JA Tryz.func56 Tryz.ntmps56 fun T K=>?_;have M:=B.mem;refine Qb 0 K M fun _ K=>?_;refine Ju K M rfl (Qa rfl (Qa hA.cell (Qa hN.r.cell Q4))) Q9 fun c2 _ _ K M=>?_;refine Qb 2 K M fun _ K=>?_;replace B:=(B.step M).V7;have M:=B.mem;refine Qb 3 K M fun _ K=>?_;refine QY (fun mm1 T st9=> ∃(i:Nat) (SG:List (List Int)) (F:Fp) (vs:List AV) (ks:AV) (As:QS) (out:List Int) (ko:AV) (Ao:QS),mm1=a.n-i∧QT [(1,kc),(2,.ptr c2 0 0),(4,.nils),(5,iZ 0),(6,ks),(7,ko),(8,iN i)] T∧Qk st Xi st9 ((c2,0,[iZ (a.tr:Nat),ka,kn])::(As++(Ao++[]))) [ES F vs SG]∧F0 a cl i SG out∧i≤a.n∧YS As ks vs∧Acc 0 1 Ao ko (zC out)) (fun mm1 T st9 hI=>?_) _ _ _ ⟨0,[],_,[],.nils,[],[],.nils,[],rfl,(K.sub rfl),(B.step M).less (.refl _),(F0.start a cl),(Nat.zero_le _),.none,.none⟩;obtain⟨i,SG,F,vs,ks,As,out,ko,Ao,rfl,K,B,hFin,hi,hAs,hAo⟩:=hI;have M:=B.mem;have hsl:=hFin.le;refine Qb 3 K M fun _ K=>?_;refine p1 K (Q5 Yc rfl rfl (hA.len.trans (congrArg some (Uq _)))) fun _ K=>?_;refine Qb 1 K M fun _ K=>?_;refine Jy K rfl (fun h15=>?_) fun h15=>?_
 ·refine Qb 3 K M fun _ K=>?_;obtain⟨v21,st21,ev21,kx,rfl,nrx,q21⟩:=xl M.fresh wf ((B.step M).FF hf hA) (hN.JB hf fun c hc=>(B.step M).JB c hc id) ((B.step M).FF hf hc) hcl (s:=i) Qc;refine p1 K (Qg rfl ev21) fun _ K=>?_;obtain⟨Ax,hAx,M⟩:=M.Yz q21 nrx;replace hAx:=hAx.z0;simp only[X3]at M;refine p1 K (JW rfl) fun _ K=>XM ?_;show W _ _ _ _ _ _ _;refine Jz<|W7<|p1 K (JW rfl) fun _ K=>XM ?_;show W _ _ _ _ _ _ _;refine CI (J:=fun T st9=> ∃(k:Nat),QT [(1,kc),(2,.ptr c2 0 0),(4,.nils),(5,iZ 0),(6,ks),(7,ko),(8,iN i),(9,v21),(10,iN k),(15,.bool (decide (((i:Nat):Int)<((a.acc.length:Nat):Int))))] T∧Qk st Xi st9 ((c2,0,[iZ (a.tr:Nat),ka,kn])::(As++(Ao++(Ax++[])))) [ES F vs SG]∧k≤SG.length∧(∀(j:Nat) (x:List Int),j<k→SG[j]? =some x→x≠Bz a cl i)∧(k<SG.length→SG[k]? =some (Bz a cl i))) ?_ (fun T st9 hJ=>?_)
  ·refine Bo ?_;refine QY (fun mm2 T st9=> ∃(k:Nat),mm2=SG.length-k∧QT [(1,kc),(2,.ptr c2 0 0),(4,.nils),(5,iZ 0),(6,ks),(7,ko),(8,iN i),(9,v21),(10,iN k),(15,.bool (decide (((i:Nat):Int)<((a.acc.length:Nat):Int))))] T∧Qk st Xi st9 ((c2,0,[iZ (a.tr:Nat),ka,kn])::(As++(Ao++(Ax++[])))) [ES F vs SG]∧k≤SG.length∧(∀(j:Nat) (x:List Int),j<k→SG[j]? =some x→x≠Bz a cl i)) (fun mm2 T st9 hI=>?_) _ _ _ ⟨0,rfl,(K.sub rfl),(B.step M).less (.refl _),(Nat.zero_le _),(fun j x hj=>absurd hj (Nat.not_lt_zero j))⟩;obtain⟨k,rfl,K,B,hk,hno⟩:=hI;have M:=B.mem;refine Qb 2 K M fun _ K=>?_;refine p1 K (Q5 JT rfl rfl (hAs.len.trans (congrArg some (Zl.ln ((B.step M).at_ (k:=0) rfl))))) fun _ K=>?_;refine Qb 1 K M fun _ K=>?_;refine Uj K rfl (fun _ e26 K=>?_) fun _ e26 K=>?_
   ·refine Qb 9 K M fun _ K=>?_;refine QM ?_;exact⟨k,(K.sub rfl),(B.step M).less (.refl _),hk,hno,(fun h=>by first|(exfalso;omega)|(rw[hi29];simp_all))⟩
   refine Qb 2 K M fun _ K=>?_;obtain⟨s29,hi29⟩:=Uw SG k Qc;obtain⟨w29,hv29,hr29,hz29,hf29⟩:=Zl.at_ ((B.step M).at_ (k:=0) rfl) _ _ hi29;obtain⟨x29,m29,f29,q29,_,la29,lo29,lp29⟩:=(hAs.rd fun c m l hm=>M.row c m l (by simp[hm])).load (i:=k) (cs:=_) (by rw[List.getElem?_map,hv29];rfl);refine pg K rfl rfl (Qe (j:=k) QZ (congrArg some q29) rfl (by rw[List.length_map,Zl.ln ((B.step M).at_ (k:=0) rfl)];omega)) fun _ K=>pg K rfl rfl (Qf rfl (lo29 _ 0 _ Jb rfl)) fun _ K=>?_;refine Qb 1 K M fun _ K=>?_;obtain⟨v32,st32,ev32,rfl,q32⟩:=Dh M.fresh hr29 (Mem.Y6 (L:=((c2,0,[iZ (a.tr:Nat),ka,kn])::(As++(Ao++[])))) (A:=Ax) (B:=[]) (Mem.cast M U0) hAx);refine pg K rfl rfl (Qg rfl ev32) fun _ K=>?_;replace M:=M.quiet q32;refine Qb 2 K M fun _ K=>?_;refine Qp (K.QG rfl) (fun h34=>?_) (fun h34=>?_)
   ·have hb34:=h34
    replace h34: ¬(s29=Bz a cl i):=by first|exact of_decide_eq_false h34|exact yF h34|simpa using h34
    refine Qb 3 K M fun _ K=>?_;exact⟨_,Qc,k+1,rfl,(K.sub rfl),(B.step M).less (.refl _),Qc,(E5 hno hi29 (by first|assumption|simp_all))⟩
   have hb34:=h34
   replace h34:(s29=Bz a cl i):=by first|exact of_decide_eq_true h34|exact yT h34|simpa using h34
   refine QM ?_;exact⟨k,(K.sub rfl),(B.step M).less (.refl _),hk,hno,(fun h=>by first|(exfalso;omega)|(rw[hi29];simp_all))⟩
  obtain⟨k,K,B,hk,hno,hyes⟩:=hJ;have M:=B.mem;have hx64:Xx (Bz a cl i):=aR hcz i;refine Qb 2 K M fun _ K=>?_;refine p1 K (Q5 JT rfl rfl (hAs.len.trans (congrArg some (Zl.ln ((B.step M).at_ (k:=0) rfl))))) fun _ K=>?_;refine Qb 1 K M fun _ K=>?_;refine Jy K rfl (fun h40=>?_) fun h40=>?_
  ·refine Qb 2 K M fun _ K=>?_;refine X5 K M QQ Uu rfl ((JD rfl hAx.cell rfl).trans rfl) (Qa hAx.cell Q4) rfl rfl fun c43 _ _ K M=>?_;refine YL (k2:=0) (L:=[(c43,0,[v21]),(c2,0,[iZ (a.tr:Nat),ka,kn])]) (A:=As) (B:=(Ao++(Ax++[]))) K M hAs QQ rfl rfl rfl (by have:=Zl.ln ((B.step M).at_ (k:=0) rfl);have:=hFin.le;omega) rfl fun ks44 A44 _ _ K hA44 _ M=>?_;refine au 4 K M ?_;intro c47 _ _ K _ M;refine Jf (k2:=0) (L:=((c47,0,[iN k])::(c43,0,[v21])::(c2,0,[iZ (a.tr:Nat),ka,kn])::(A44++[]))) (A:=Ao) (B:=(Ax++[])) K (Mem.cast M U0) hAo QJ rfl rfl rfl rfl (by rw[Qq,hFin.len];omega) rfl fun ks48 A48 _ _ K hA48 M=>?_;simp only[X3]at M;refine Qb 4 K M fun _ K=>?_;replace B:=B.step M;obtain⟨Fr,B⟩:=Qk.ZD (L:=((c47,0,[iN k])::(c43,0,[v21])::(c2,0,[iZ (a.tr:Nat),ka,kn])::(A44++(A48++[])))) (A:=Ax) (B:=[]) (B.cast U0) hAx hx64;replace B:=B.cast (M':=((c47,0,[iN k])::(c43,0,[v21])::(c2,0,[iZ (a.tr:Nat),ka,kn])::(A44++(A48++[])))) U0;have M:=B.mem;exact⟨_,Qc,i+1,SG++[Bz a cl i],_,_,ks44,A44,(out++[((k:Nat):Int)]),ks48,A48,rfl,(K.sub rfl),(B.step M).less (.cons _ (.cons _ (.refl _))),(by rw[show((k:Nat):Int)=((SG.length:Nat):Int) by omega];exact hFin.new fun hm=>by obtain⟨j,hj⟩:=List.getElem?_of_mem hm;exact hno j _ (by have:=(List.getElem?_eq_some_iff.1 hj).1;omega) hj rfl),Qc,hA44,(by rw[JX];exact hA48)⟩
  refine au 3 K M ?_;intro c47 _ _ K _ M;refine Jf (k2:=0) (L:=((c47,0,[iN k])::(c2,0,[iZ (a.tr:Nat),ka,kn])::(As++[]))) (A:=Ao) (B:=(Ax++[])) K (Mem.cast M U0) hAo QJ rfl rfl rfl rfl (by rw[Qq,hFin.len];omega) rfl fun ks48 A48 _ _ K hA48 M=>?_;simp only[X3]at M;refine Qb 4 K M fun _ K=>?_;exact⟨_,Qc,i+1,SG,_,_,ks,As,(out++[((k:Nat):Int)]),ks48,A48,rfl,(K.sub rfl),(B.step M).less (.cons _ (.cons_cons _ (List.Sublist.append_left (List.Sublist.append_left (List.nil_sublist _) _) _))),(hFin.JB (hyes Qc)),Qc,hAs,(by rw[JX];exact hA48)⟩
 refine QM ?_;show W _ _ _ _ _ _ _;refine Qb 2 K M fun _ K=>?_;refine p1 K (Q5 JT rfl rfl (hAs.len.trans (congrArg some (Zl.ln ((B.step M).at_ (k:=0) rfl))))) fun _ K=>?_;refine Qb 2 K M ?_
 have hie:i=a.n:=by omega
 subst hie;exact⟨_,SG,out,rfl,hFin,(B.step M).newRow hAo (fun c m l h=>by simp[h]),(B.step M).qt⟩

theorem wY{n:Nat}{k:Nat}(hl:cl.length=n)(h:Kg n cl k)(hk:k≤400):Xx cl:=fun z hz=>by
 obtain⟨s,hs⟩:=List.getElem?_of_mem hz;have h1:=h.1 s (by have:=(List.getElem?_eq_some_iff.1 hs).1;omega);rw[VF hs]at h1
 constructor<;>omega
theorem Kv{i:Nat}{y:Bool}(h:a.acc[i]? =some y):a.ok i=y:=by unfold Au.ok;rw[h];rfl
theorem vq{i:Nat}(H:Xy a i cl):Xx cl:=fun z hz=>by
 obtain⟨s,hs⟩:=List.getElem?_of_mem hz;have h1:=H.2 s (by have:=(List.getElem?_eq_some_iff.1 hs).1;have:=H.1;omega);rw[VF hs]at h1;subst h1
 split<;>decide
theorem xU{n:Nat}{L nu:List Int}(H:Oy n L nu)(hn:L.Nodup):L.length≤n:=by
 have:=ZX (b:=(List.range n).map fun v=>((v:Nat):Int)) hn fun x hx=>by
  have:=H.rng x hx;exact List.mem_map.2 ⟨x.toNat,List.mem_range.2 Qc,by omega⟩
 simpa using this

theorem Sj(hf:Qi st)(wf:Zs a)(hA:Jj st.h.get [] 1 (bC a.acc) ka)(hN:O6 st.h.get a.nx kn ls): ∃v st',Jh 28 [.agg [iZ (a.tr:Nat),ka,kn]] st v st'∧ ∃kr cl k,v=kr∧ZP a cl∧Kg a.n cl k∧EA st st' 1 kr (zC cl)∧Qt st st':=by
 have hac:=hA.cell;have hnc:=hN.r.cell;have hmo:=wf.most;have hps:=wf.pos;have hln:=wf.len;have hen:a.n=a.acc.length:=rfl;have htr:=wf.tr;have hp6:=J9 htr;have hp0:0<2^a.tr:=Nat.two_pow_pos _;have hrep:(List.replicate a.n (0:Int)).length=a.n:=List.length_replicate ..;refine JA Tryz.func28 Tryz.ntmps28 fun T K=>?_;have M:=Mem.start hf;refine Qb 0 K M fun _ K=>?_;refine Ju K M rfl (Qa rfl (Qa hA.cell (Qa hN.r.cell Q4))) Q9 fun c1 _ _ K M=>?_;refine Qb 3 K M fun _ K=>?_;refine p1 K (Q5 Yc rfl rfl (hA.len.trans (congrArg some (Uq _)))) fun _ K=>?_;refine LC (fun z=>iZ z) 0 (n:=a.n) K M QJ XL rfl Qc rfl fun c11 _ _ K M=>?_;refine Qb 2 K M fun _ K=>?_;refine QY (fun mm1 T st9=> ∃(i:Nat) (cur:List Int),mm1=a.n-i∧QT [(1,.ptr c1 0 0),(2,.nils),(3,.sl c11 0 0 a.n 1),(4,iN i)] T∧Mem st.h.get st.n [] st9 [(c11,0,(cur.map (fun z=>iZ z))),(c1,0,[iZ (a.tr:Nat),ka,kn])]∧i≤a.n∧Xy a i cur) (fun mm1 T st9 hI=>?_) _ _ _ ⟨0,_,rfl,(K.sub rfl),M.less (.refl _),(Nat.zero_le _),(Xy.start a)⟩;obtain⟨i,cur,rfl,K,M,hi,hfi⟩:=hI;have hcl0:=hfi.1;refine Qb 3 K M fun _ K=>?_;refine p1 K (Q5 Yc rfl rfl (hA.len.trans (congrArg some (Uq _)))) fun _ K=>?_;refine Qb 1 K M fun _ K=>?_;refine Jy K rfl (fun h16=>?_) fun h16=>?_
 ·refine Qb 0 K M fun _ K=>?_;refine QC (l:=[(0,0),(1,0),(2,0),(3,0),(4,0),(5,0),(6,0),(7,0),(8,0),(9,0)]) (by kernel_rfl) ?_;refine Jo 3 K M fun _ K=>?_;obtain⟨y22,hi22⟩:=Uw a.acc i Qc;refine dI rfl rfl (Jj.mem M hA Q7) (Ww hi22) K J5 J7 rfl rfl rfl fun _ _ _ _ K=>?_;refine Jo 2 K M fun _ K=>?_;obtain⟨y26,hi26⟩:=Uw a.acc 0 Qc;refine dI rfl rfl (Jj.mem M hA Q7) (Ww hi26) K J5 J7 rfl rfl rfl fun _ _ _ _ K=>?_;refine q1 rfl K (wP Yv rfl rfl) fun _ K=>QF ?_;show W _ _ _ _ _ _ _;refine Qp (K.QG rfl) (fun h28=>?_) (fun h28=>?_)
  ·have hb28:=h28
   replace h28:(y22==y26)=false:=by simpa using h28
   refine Qb 2 K M fun _ K=>?_;obtain⟨y31,hi31⟩:=Uw cur i Qc;refine p1 K (Qe (j:=i) Qo rfl rfl Qc) fun _ K=>?_;refine Jl (k:=0) K M rfl rfl rfl I7 rfl (Wn (fun z=>iZ z) 1 Qc) fun _ M=>?_;refine Qb 3 K M fun _ K=>?_;exact⟨_,Qc,i+1,_,rfl,(K.sub rfl),M.less (.refl _),Qc,(hfi.yes Qc (by rw[Kv hi22,Kv hi26];simpa using h28))⟩
  have hb28:=h28
  replace h28:(y22==y26)=true:=by simpa using h28
  refine Qb 3 K M fun _ K=>?_;exact⟨_,Qc,i+1,_,rfl,(K.sub rfl),M.less (.refl _),Qc,(hfi.no (by rw[Kv hi22,Kv hi26];simpa using h28))⟩
 refine QM ?_;show W _ _ _ _ _ _ _;refine Jz ?_;replace M:=Mem.cast (M':=((c1,0,[iZ (a.tr:Nat),ka,kn])::([(c11,0,(cur.map (fun z=>iZ z)))]++[]))) (Mem.perm M (List.perm_append_comm (α:=Nat×Nat×List AV) (l₁:=[(c11,0,(cur.map (fun z=>iZ z)))]) (l₂:=[(c1,0,[iZ (a.tr:Nat),ka,kn])]))) Q7
 have hAc0:Acc 0 1 [(c11,0,(cur.map (fun z=>iZ z)))] (.sl c11 0 0 a.n 1) (zC cur):=by have:=Acc.ofM (fun z=>iZ z) (c:=c11) (m:=0) (L:=cur) (by rw[hfi.1];omega);rw[hfi.1]at this;exact this
 have hie:i=a.n:=by omega
 rw[hie]at hfi;refine Qb 1 K M fun _ K=>?_;refine QY (fun mm2 T st9=> ∃(cl:List Int) (kc:AV) (Ac:UA) (was:Nat),mm2=a.n-was∧QT [(1,.ptr c1 0 0),(3,kc),(5,iN was)] T∧Mem st.h.get st.n [] st9 ((c1,0,[iZ (a.tr:Nat),ka,kn])::(Ac++[]))∧Ki a cl∧(was=0∨Kg a.n cl was)∧Xx cl∧Acc 0 1 Ac kc (zC cl)) (fun mm2 T st9 hI=>?_) _ _ _ ⟨cur,(.sl c11 0 0 a.n 1),[(c11,0,(cur.map (fun z=>iZ z)))],0,rfl,(K.sub rfl),M.less (.refl _),hfi.done,(.inl rfl),(vq hfi),hAc0⟩;obtain⟨cl,kc,Ac,was,rfl,K,M,hF,hw,hcz,hAc⟩:=hI;refine Qb 2 K M fun _ K=>?_;obtain⟨v35,st35,ev35,ko,SG,out,rfl,hFin,nro,q35⟩:=yu M.fresh wf (Jj.mem M hA Q7) (hN.JB hf fun c hc=>M.JB c hc Q7) (Mem.Y6 (L:=[(c1,0,[iZ (a.tr:Nat),ka,kn])]) (A:=Ac) (B:=[]) M hAc) hF.len hcz;refine p1 K (Qg rfl ev35) fun _ K=>?_;obtain⟨Ao,hAo,M⟩:=M.Yz q35 nro;replace hAo:=hAo.z0;obtain⟨hfr,hon⟩:=hFin.done;obtain⟨hF2,hle2,hst2⟩:=yQ wf hF hw hfr hon;have hkn:=Nw hon;simp only[X3]at M;replace M:=M.less (.cons_cons _ (List.sublist_append_right _ _));refine Qb 8 K M fun _ K=>?_;refine Jy K rfl (fun h40=>?_) fun h40=>?_
 ·refine Qb 2 K M ?_;exact⟨_,out,SG.length,rfl,hst2 Qc,hon,M.newRow hAo (fun c m l h=>by simp[h]),M.qt⟩
 refine Qb 4 K M fun _ K=>?_;exact⟨_,Qc,out,ko,Ao,SG.length,rfl,(K.sub rfl),M.less (.refl _),hF2,(.inr hon),(wY hF2.len hon Qc),hAo⟩
end
end Go.Proofs.YtiknomepbklibaaGreatDoor
