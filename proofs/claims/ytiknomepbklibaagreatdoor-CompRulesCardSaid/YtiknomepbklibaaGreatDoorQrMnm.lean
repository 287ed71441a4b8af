/-
  The reference's classes and least automaton, plainly.
-/
import Derived.Test.YtiknomepbklibaaGreatDoorQrPrd
set_option maxHeartbeats 8000000
set_option maxRecDepth 100000
set_option linter.unnecessarySimpa false
set_option linter.unusedSectionVars false
set_option linter.unusedSimpArgs false
set_option linter.unusedVariables false
section
namespace Go.Proofs.YtiknomepbklibaaGreatDoor
open Go Go.RowKit
variable {n s:Nat} {nu:List Int} {x:Int}

theorem V9{cl:List Int}{y:Int}(h:cl[s]? =some y):cv cl s=y:=by unfold cv;rw[h];rfl
theorem NH{l:List Int}{j:Nat}(hj:j<l.length):cv (l.set j x) s=if s=j then x else cv l s:=by
 unfold cv;rw[List.getElem?_set]
 by_cases h:j=s
 ·subst h;rw[if_pos rfl,if_pos hj,if_pos rfl];rfl
 ·rw[if_neg h,if_neg fun e=>h e.symm]
def LC(a:Au)(cl:List Int)(s c:Nat):List Int:=cv cl s::(List.range c).map fun c=>cv cl (a.go s c)
def Ba(a:Au)(cl:List Int)(s:Nat):List Int:=LC a cl s a.K
theorem TL(a:Au)(cl:List Int)(s c:Nat):LC a cl s (c+1)=LC a cl s c++[cv cl (a.go s c)]:=by
 unfold LC;rw[List.range_succ,List.map_append];rfl
theorem qI(a:Au)(cl:List Int)(s c:Nat):(LC a cl s c).length=c+1:=by simp[LC]
theorem zg{a:Au}{cl:List Int}{t:Nat}:Ba a cl s=Ba a cl t↔cv cl s=cv cl t∧ ∀c,c<a.K→cv cl (a.go s c)=cv cl (a.go t c):=by
 unfold Ba LC;rw[List.cons.injEq,List.map_inj_left];exact⟨fun h=>⟨h.1,fun c hc=>h.2 c (List.mem_range.2 hc)⟩,fun h=>⟨h.1,fun c hc=>h.2 c (List.mem_range.1 hc)⟩⟩
structure AY(a:Au)(cl:List Int)(i:Nat)(SG:List (List Int))(out:List Int):Prop where
 len:out.length=i
 nodup:SG.Nodup
 num: ∀s,s<i→ ∃v:Nat,out[s]? =some ((v:Nat):Int)∧SG[v]? =some (Ba a cl s)
 all: ∀v,v<SG.length→ ∃s,s<i∧SG[v]? =some (Ba a cl s)
section
variable {a:Au} {cl out:List Int} {i:Nat} {SG:List (List Int)}
theorem AY.start(a:Au)(cl:List Int):AY a cl 0 [] []:=⟨rfl,List.nodup_nil,fun s h=>absurd h (Nat.not_lt_zero s),fun v h=>absurd h (Nat.not_lt_zero v)⟩
theorem AY.J8(H:AY a cl i SG out){v:Nat}(hv:SG[v]? =some (Ba a cl i)):AY a cl (i+1) SG (out++[((v:Nat):Int)]):=by
 refine⟨by simp[H.len],H.nodup,fun s hs=>?_,fun v hv=>?_⟩
 ·by_cases h:s<i
  ·obtain⟨w,h1,h2⟩:=H.num s h;exact⟨w,by rw[List.getElem?_append_left (by rw[H.len];exact h)];exact h1,h2⟩
  ·have e:s=i:=by omega
   subst e;exact⟨v,by rw[List.getElem?_append_right (by rw[H.len];exact Nat.le_refl _),H.len,Nat.sub_self];rfl,hv⟩
 ·obtain⟨s,h1,h2⟩:=H.all v hv;exact⟨s,by omega,h2⟩
theorem AY.new(H:AY a cl i SG out)(hn:Ba a cl i∉SG):AY a cl (i+1) (SG++[Ba a cl i]) (out++[((SG.length:Nat):Int)]):=by
 have H2:AY a cl i SG out:=H;refine⟨by simp[H.len],List.nodup_append.2 ⟨H.nodup,by simp,fun x hx y hy e=>?_⟩,fun s hs=>?_,fun v hv=>?_⟩
 ·rw[List.mem_singleton]at hy;subst hy e;exact hn hx
 ·by_cases h:s<i
  ·obtain⟨w,h1,h2⟩:=H.num s h;exact⟨w,by rw[List.getElem?_append_left (by rw[H.len];exact h)];exact h1,by rw[List.getElem?_append_left (List.getElem?_eq_some_iff.1 h2).1];exact h2⟩
  ·have e:s=i:=by omega
   subst e;exact⟨SG.length,by rw[List.getElem?_append_right (by rw[H.len];exact Nat.le_refl _),H.len,Nat.sub_self];rfl,by rw[List.getElem?_append_right (Nat.le_refl _),Nat.sub_self];rfl⟩
 ·rw[List.length_append,List.length_singleton]at hv
  by_cases h:v<SG.length
  ·obtain⟨s,h1,h2⟩:=H.all v h;exact⟨s,by omega,by rw[List.getElem?_append_left h];exact h2⟩
  ·have e:v=SG.length:=by omega
   subst e;exact⟨i,by omega,by rw[List.getElem?_append_right (Nat.le_refl _),Nat.sub_self];rfl⟩
theorem AY.le(H:AY a cl i SG out):SG.length≤i:=by
 have:=Xb (b:=(List.range i).map fun s=>Ba a cl s) H.nodup fun x hx=>by
  obtain⟨v,hv⟩:=List.getElem?_of_mem hx;obtain⟨s,h1,h2⟩:=H.all v (List.getElem?_eq_some_iff.1 hv).1;rw[hv]at h2
  injection h2 with h2
  exact List.mem_map.2 ⟨s,List.mem_range.2 h1,h2.symm⟩
 simpa using this
theorem AY.done(H:AY a cl a.n SG out):A3 a cl out∧IL a.n out SG.length:=by
 refine⟨⟨H.len,fun s t hs ht=>?_⟩,⟨fun s hs=>?_,fun v hv=>?_⟩⟩
 ·obtain⟨v,h1,h2⟩:=H.num s hs;obtain⟨w,h3,h4⟩:=H.num t ht;rw[V9 h1,V9 h3,←zg];constructor
  ·intro e
   have e:v=w:=by omega
   subst e;rw[h2]at h4;injection h4
  ·intro e;rw[←e]at h4;have:=(List.getElem?_inj (List.getElem?_eq_some_iff.1 h2).1 H.nodup).1 (h2.trans h4.symm);rw[this]
 ·obtain⟨v,h1,h2⟩:=H.num s hs;have:=(List.getElem?_eq_some_iff.1 h2).1;rw[V9 h1];omega
 ·obtain⟨s,h1,h2⟩:=H.all v hv;obtain⟨w,h3,h4⟩:=H.num s h1;have:=(List.getElem?_inj (List.getElem?_eq_some_iff.1 h4).1 H.nodup).1 (h4.trans h2.symm);exact⟨s,h1,by rw[V9 h3,this]⟩
end
theorem LV{cl:List Int}{k:Nat}(h:IL n cl k):k≤n:=by
 have:=Xb (a:=List.range k) (b:=(List.range n).map fun s=>(cv cl s).toNat) List.nodup_range fun v hv=>by
  obtain⟨s,h1,h2⟩:=h.2 v (List.mem_range.1 hv);exact List.mem_map.2 ⟨s,List.mem_range.2 h1,by rw[h2];rfl⟩
 simpa using this
theorem uS{a:Au}(W:Zt a){cl out:List Int}{was k:Nat}(hF:IM a cl)(hw:was=0∨IL a.n cl was)(f:A3 a cl out)(ho:IL a.n out k):IM a out∧was≤k∧(k=was→ZS a out):=by
 have hk:0<k:=by
  have:=ho.1 0 W.pos;omega
 refine⟨hF.uz W f,?_,fun e=>?_⟩
 ·rcases hw with h|h
  ·omega
  ·exact(By f h ho).1
 ·subst e;rcases hw with h|h
  ·omega
  ·exact(hF.uz W f).Il W (CD W f (EG f ((By f h ho).2 rfl)))
def Xz(a:Au)(i:Nat)(cl:List Int):Prop:=cl.length=a.n∧ ∀s,s<a.n→cv cl s=if s<i∧a.ok s≠a.ok 0 then 1 else 0
theorem Xz.start(a:Au):Xz a 0 (List.replicate a.n 0):=⟨by simp,fun s hs=>by
 unfold cv;rw[List.getElem?_replicate,if_pos hs]
 simp⟩
theorem Xz.no{a:Au}{i:Nat}{cl:List Int}(H:Xz a i cl)(h:a.ok i=a.ok 0):Xz a (i+1) cl:=⟨H.1,fun s hs=>by
 rw[H.2 s hs]
 by_cases e:s=i
 ·subst e;simp[h]
 ·have:s<i↔s<i+1:=by omega
  simp[this]⟩
theorem Xz.yes{a:Au}{i:Nat}{cl:List Int}(H:Xz a i cl)(hi:i<a.n)(h:a.ok i≠a.ok 0):Xz a (i+1) (cl.set i 1):=⟨by simp[H.1],fun s hs=>by
 rw[NH (by rw[H.1];exact hi),H.2 s hs]
 by_cases e:s=i
 ·subst e;simp[h]
 ·have:s<i↔s<i+1:=by omega
  simp[this,e]⟩
theorem Xz.done{a:Au}{cl:List Int}(H:Xz a a.n cl):IM a cl:=N0 H.1 fun s t hs ht=>by
 rw[H.2 s hs,H.2 t ht]
 cases h1:a.ok s<;>cases h2:a.ok t<;>cases h3:a.ok 0<;>simp[hs,ht]
structure NZ(n:Nat)(L nu:List Int):Prop where
 len:nu.length=n
 yes: ∀(j:Nat) (x:Int),L[j]? =some x→cv nu x.toNat=((j:Nat):Int)
 no: ∀(x:Int),0≤x→x<n→x∉L→cv nu x.toNat= -1
 rng: ∀x∈L,0≤x∧x<((n:Nat):Int)
theorem NZ.new{L:List Int}(H:NZ n L nu)(h0:0≤x)(h1:x<n)(hx:x∉L):NZ n (L++[x]) (nu.set x.toNat ((L.length:Nat):Int)):=by
 have hl:x.toNat<nu.length:=by rw[H.len];omega
 refine⟨by simp[H.len],fun j y hj=>?_,fun y k0 k1 hy=>?_,fun y hy=>?_⟩
 ·rw[NH hl]
  by_cases e:j<L.length
  ·rw[List.getElem?_append_left e]at hj;have hne:y≠x:=fun e=>hx (e▸List.mem_of_getElem? hj);have:=H.rng y (List.mem_of_getElem? hj);rw[if_neg Qe];exact H.yes j y hj
  ·have hlt:=(List.getElem?_eq_some_iff.1 hj).1;rw[List.length_append,List.length_singleton]at hlt
   have e:j=L.length:=by omega
   subst e;rw[List.getElem?_append_right (Nat.le_refl _),Nat.sub_self]at hj
   injection hj with hj
   subst hj;rw[if_pos rfl]
 ·rw[NH hl];have hne:y≠x:=fun e=>hy (by rw[e];simp);rw[if_neg Qe];exact H.no y k0 k1 fun h=>hy (by simp[h])
 ·rcases List.mem_append.1 hy with hy|hy
  ·exact H.rng y hy
  ·rw[List.mem_singleton.1 hy];exact⟨h0,h1⟩
theorem NZ.start(hl:nu.length=n)(h: ∀s,s<n→cv nu s= -1)(h0:0≤x)(h1:x<n):NZ n [x] (nu.set x.toNat 0):=by
 have H:NZ n [] nu:=⟨hl,fun j x hj=>by simp at hj,fun x k0 k1 _=>h _ Qe,fun x hx=>by cases hx⟩;exact H.new h0 h1 QA
theorem NZ.mem{L:List Int}(H:NZ n L nu)(h0:0≤x)(h1:x<n){y:Int}(hy:cv nu x.toNat=y):(y<0∧x∉L)∨(∃j:Nat,y=((j:Nat):Int)∧L[j]? =some x):=by
 by_cases hx:x∈L
 ·obtain⟨j,hj⟩:=List.getElem?_of_mem hx;exact .inr ⟨j,by rw[←hy,H.yes j x hj],hj⟩
 ·exact .inl ⟨by rw[←hy,H.no x h0 h1 hx];decide,hx⟩
end Go.Proofs.YtiknomepbklibaaGreatDoor
end
section
namespace Go.Proofs.YtiknomepbklibaaGreatDoor
open Go Go.RowKit
variable {a:Au} {cl:List Int} {ka kn:AV} {ls:List (List AV)} {st:St}

theorem Qk.newRow{st0:St}{M A:QP}{Os:List Ob}{z:Nat}{ks:AV}(B:Qk st0 Xu st M Os)(hA:Acc 0 z A ks ls)(hs: ∀c m l,(c,m,l)∈A→(c,m,l)∈M):Ep st0 st z ks ls:=by
 refine⟨A,?_,fun c m l hm=>B.row c m l (hs c m l hm)⟩
 cases hA with
 |none=>exact .none
 |own h1 h2 h3=>exact .own ((B.lo _ _ _ (hs _ _ _ (List.mem_cons_self ..))).resolve_right id) h2 h3

theorem ep(h:Vm cl)(s:Nat):Vm (Ba a cl s):=by
 have key: ∀s,-9223372036854775808≤cv cl s∧cv cl s≤9223372036854775807:=fun s=>by
  unfold cv
  cases hs:cl[s]? with
  |none=>exact⟨by decide,by decide⟩
  |some y=>exact h y (List.mem_of_getElem? hs)
 intro z hz;unfold Ba LC at hz;rcases List.mem_cons.1 hz with rfl|hz
 ·exact key s
 ·obtain⟨c,_,rfl⟩:=List.mem_map.1 hz;exact key _

theorem zf(hf:Qj st)(wf:Zt a)(hA:Jk st.h.get [] 1 (bC a.acc) ka)(hN:Ll st.h.get a.nx kn ls){kc:AV}(hc:Jk st.h.get [] 1 (zC cl) kc)(hcl:cl.length=a.n){s:Nat}(hs:s<a.n): ∃v st',Ev Tryz.prog Q5 82 [.agg [iZ (a.tr:Nat),ka,kn],kc,iN s] st v st'∧ ∃kr,v=kr∧Ep st st' 1 kr (zC (Ba a cl s))∧Qt st st':=by
 have hac:=hA.cell;have hnc:=hN.r.cell;have hmo:=wf.most;have hps:=wf.pos;have hln:=wf.len;have hen:a.n=a.acc.length:=rfl;have htr:=wf.tr;have hp6:=JH htr;have hp0:0<2^a.tr:=Nat.two_pow_pos _;have hcc:=hc.cell;refine JI Tryz.func82 Tryz.ntmps82 fun T K=>?_;have M:=Mem.start hf;refine QD<|Qv ?_;refine Jv K M rfl (Qa rfl (Qa hA.cell (Qa hN.r.cell Qz))) QE fun c3 _ _ K M=>?_;refine Qc 3 K M ?_;intro _ K;obtain⟨y11,hi11⟩:=U9 cl s Qe;obtain⟨x11,m11,f11,q11,_,la11,lo11,lp11⟩:=(Jk.mem M hc QA).load (i:=s) (cs:=_) (Jt hi11);refine p1 K (Qb (j:=s) Qw (congrArg some q11) rfl (by rw[Qn];omega)) fun _ K=>p1 K (Qd rfl (lo11 _ 0 _ Qr rfl)) fun _ K=>?_;refine au 2 K M ?_;intro c13 _ _ K _ M;replace M:=Mem.cast (M':=((c3,0,[iZ (a.tr:Nat),ka,kn])::([(c13,0,[iZ y11])]++[]))) (Mem.perm M (List.perm_append_comm (α:=Nat×Nat×List AV) (l₁:=[(c13,0,[iZ y11])]) (l₂:=[(c3,0,[iZ (a.tr:Nat),ka,kn])]))) Uu;have hAS0:Acc st.n 1 [(c13,0,[iZ y11])] (.sl c13 0 0 1 1) [[iZ y11]]:=Acc.own (n0:=st.n) (z:=1) (c:=c13) (m:=0) (ls:=[[iZ y11]]) ((M.own c13 0 [iZ y11] QA).resolve_right QA) QA QA;refine Qc 1 K M ?_;intro _ K;refine Je (fun mm1 T st9=> ∃(c:Nat) (ko:AV) (A:UA),mm1=2^a.tr-c∧QZ [(1,kc),(2,iN s),(3,.ptr c3 0 0),(6,.nils),(7,ko),(8,iN c)] T∧Mem st.h.get st.n [] st9 ((c3,0,[iZ (a.tr:Nat),ka,kn])::(A++[]))∧c≤2^a.tr∧Acc st.n 1 A ko (zC (LC a cl s c))) (fun mm1 T st9 hI=>?_) _ _ _ ⟨0,(.sl c13 0 0 1 1),[(c13,0,[iZ y11])],rfl,(K.sub rfl),M.less (.refl _),(Nat.zero_le _),(by rw[show LC a cl s 0=[y11] by unfold LC;rw[V9 hi11];rfl];exact hAS0)⟩;obtain⟨c,ko,A,rfl,K,M,hck,hA2⟩:=hI;refine Qc 2 K M ?_;intro _ K;refine p1 K (Qd rfl (M.load (k:=0) rfl (Qf Q6 rfl))) fun _ K=>?_;refine Qc 1 K M ?_;intro _ K;obtain⟨s18,hi18⟩:=U9 a.nx s Qe;obtain⟨_,hc18,w18,rfl,hr18,hz18⟩:=hN.at_ _ _ hi18;have hw18:=wf.row s18 (List.mem_of_getElem? hi18);have hl18:s18.length=2^a.tr:=hw18.1;obtain⟨x18,m18,f18,q18,_,la18,lo18,lp18⟩:=(Jk.mem M hN.r QA).load (i:=s) (cs:=_) hc18;refine p1 K (Qb (j:=s) QY (congrArg some q18) rfl (by rw[hN.ln];omega)) fun _ K=>p1 K (Qd rfl (lo18 _ 0 _ Ja rfl)) fun _ K=>p1 K (Q8 Jr rfl rfl (hr18.len.trans (congrArg some (Qn _)))) fun _ K=>?_;refine Qc 1 K M ?_;intro _ K;refine JS K rfl (fun h21=>?_) fun h21=>?_
 ·refine Qc 3 K M ?_;intro _ K;refine p1 K (Qd rfl (M.load (k:=0) rfl (Qf Q6 rfl))) fun _ K=>?_;refine Qc 1 K M ?_;intro _ K;obtain⟨_,hc29,w29,rfl,hr29,hz29⟩:=hN.at_ _ _ hi18;obtain⟨x29,m29,f29,q29,_,la29,lo29,lp29⟩:=(Jk.mem M hN.r QA).load (i:=s) (cs:=_) hc29;refine p1 K (Qb (j:=s) QY (congrArg some q29) rfl (by rw[hN.ln];omega)) fun _ K=>p1 K (Qd rfl (lo29 _ 0 _ Ja rfl)) fun _ K=>?_;refine Qc 1 K M ?_;intro _ K;obtain⟨y32,hi32⟩:=U9 s18 c Qe;have hb32:=hw18.2 y32 (List.mem_of_getElem? hi32);obtain⟨x32,m32,f32,q32,_,la32,lo32,lp32⟩:=(Jk.mem M hr29 QA).load (i:=c) (cs:=_) (Jt hi32);refine p1 K (Qb (j:=c) Qw (congrArg some q32) rfl (by rw[Qn];omega)) fun _ K=>p1 K (Qd rfl (lo32 _ 0 _ Qr rfl)) fun _ K=>?_;obtain⟨y34,hi34⟩:=U9 cl ((y32).toNat) Qe;obtain⟨x34,m34,f34,q34,_,la34,lo34,lp34⟩:=(Jk.mem M hc QA).load (i:=(y32).toNat) (cs:=_) (Jt hi34);refine p1 K (Qb (j:=(y32).toNat) Qw (congrArg some q34) (congrArg (fun z=>some (iZ z)) (by omega:_=(((y32).toNat:Nat):Int))) (by rw[Qn];omega)) fun _ K=>p1 K (Qd rfl (lo34 _ 0 _ Qr rfl)) fun _ K=>?_;refine au 1 K M ?_;intro c36 _ _ K _ M;refine Sd (k2:=0) (L:=[(c36,0,[iZ y34]),(c3,0,[iZ (a.tr:Nat),ka,kn])]) (A:=A) (B:=[]) K M hA2 QM rfl rfl rfl rfl (by rw[Qn,qI];omega) rfl fun ks37 A37 _ _ K hA37 M=>?_;refine Qc 4 K M ?_;intro _ K;exact⟨_,Qe,c+1,ks37,A37,rfl,(K.sub rfl),M.less (.cons _ (.refl _)),Qe,(by rw[TL,JJ hi18 hi32,V9 hi34,JY];exact hA37)⟩
 refine QW ?_;show W _ _ _ _ _ _ _;refine Qc 2 K M ?_;refine⟨_,rfl,?_,M.qt⟩
 have hce:c=2^a.tr:=by omega
 subst hce;have h:=Mem.B5 (L:=[(c3,0,[iZ (a.tr:Nat),ka,kn])]) (A:=A) (B:=[]) M hA2;exact h

theorem uy(hf:Qj st)(wf:Zt a)(hA:Jk st.h.get [] 1 (bC a.acc) ka)(hN:Ll st.h.get a.nx kn ls){kc:AV}(hc:Jk st.h.get [] 1 (zC cl) kc)(hcl:cl.length=a.n)(hcz:Vm cl): ∃v st',Ev Tryz.prog Q5 56 [.agg [iZ (a.tr:Nat),ka,kn],kc] st v st'∧ ∃kr SG out,v=.tup [kr,iZ (SG.length:Nat)]∧AY a cl a.n SG out∧Ep st st' 1 kr (zC out)∧Qt st st':=by
 have hac:=hA.cell;have hnc:=hN.r.cell;have hmo:=wf.most;have hps:=wf.pos;have hln:=wf.len;have hen:a.n=a.acc.length:=rfl;have htr:=wf.tr;have hp6:=JH htr;have hp0:0<2^a.tr:=Nat.two_pow_pos _;have hcc:=hc.cell;have B:=Qk.start hf;refine JI Tryz.func56 Tryz.ntmps56 fun T K=>?_;have M:=B.mem;refine QD<|Qv ?_;refine Jv K M rfl (Qa rfl (Qa hA.cell (Qa hN.r.cell Qz))) QE fun c2 _ _ K M=>?_;refine Qc 2 K M ?_;intro _ K;replace B:=(B.step M).V1;have M:=B.mem;refine Qc 3 K M ?_;intro _ K;refine Je (fun mm1 T st9=> ∃(i:Nat) (SG:List (List Int)) (F:Fp) (vs:List AV) (ks:AV) (As:QP) (out:List Int) (ko:AV) (Ao:QP),mm1=a.n-i∧QZ [(1,kc),(2,.ptr c2 0 0),(4,.nils),(5,iZ 0),(6,ks),(7,ko),(8,iN i)] T∧Qk st Xu st9 ((c2,0,[iZ (a.tr:Nat),ka,kn])::(As++(Ao++[]))) [EC F vs SG]∧AY a cl i SG out∧i≤a.n∧YS As ks vs∧Acc 0 1 Ao ko (zC out)) (fun mm1 T st9 hI=>?_) _ _ _ ⟨0,[],_,[],.nils,[],[],.nils,[],rfl,(K.sub rfl),(B.step M).less (.refl _),(AY.start a cl),(Nat.zero_le _),.none,.none⟩;obtain⟨i,SG,F,vs,ks,As,out,ko,Ao,rfl,K,B,hFin,hi,hAs,hAo⟩:=hI;have M:=B.mem;have hsl:=hFin.le;refine Qc 3 K M ?_;intro _ K;refine p1 K (Q8 Ux rfl rfl (hA.len.trans (congrArg some (Jy _)))) fun _ K=>?_;refine Qc 1 K M ?_;intro _ K;refine JS K rfl (fun h15=>?_) fun h15=>?_
 ·refine Qc 3 K M ?_;intro _ K;obtain⟨v21,st21,ev21,kx,rfl,nrx,q21⟩:=zf M.fresh wf ((B.step M).Be hf hA) (hN.J8 hf fun c hc=>(B.step M).J8 c hc id) ((B.step M).Be hf hc) hcl (s:=i) Qe;refine p1 K (Qh rfl ev21) fun _ K=>?_;obtain⟨Ax,hAx,M⟩:=M.Yv q21 nrx;replace hAx:=hAx.z0;simp only[List.append_assoc,List.cons_append,List.nil_append,List.set_cons_zero,List.set_cons_succ]at M;refine p1 K (U6 rfl) fun _ K=>Uo ?_;show W _ _ _ _ _ _ _;refine QD<|Qv<|p1 K (U6 rfl) fun _ K=>Uo ?_;show W _ _ _ _ _ _ _;refine Se (J:=fun T st9=> ∃(k:Nat),QZ [(1,kc),(2,.ptr c2 0 0),(4,.nils),(5,iZ 0),(6,ks),(7,ko),(8,iN i),(9,v21),(10,iN k),(15,.bool (decide (((i:Nat):Int)<((a.acc.length:Nat):Int))))] T∧Qk st Xu st9 ((c2,0,[iZ (a.tr:Nat),ka,kn])::(As++(Ao++(Ax++[])))) [EC F vs SG]∧k≤SG.length∧(∀(j:Nat) (x:List Int),j<k→SG[j]? =some x→x≠Ba a cl i)∧(k<SG.length→SG[k]? =some (Ba a cl i))) ?_ (fun T st9 hJ=>?_)
  ·refine GO ?_;refine Je (fun mm2 T st9=> ∃(k:Nat),mm2=SG.length-k∧QZ [(1,kc),(2,.ptr c2 0 0),(4,.nils),(5,iZ 0),(6,ks),(7,ko),(8,iN i),(9,v21),(10,iN k),(15,.bool (decide (((i:Nat):Int)<((a.acc.length:Nat):Int))))] T∧Qk st Xu st9 ((c2,0,[iZ (a.tr:Nat),ka,kn])::(As++(Ao++(Ax++[])))) [EC F vs SG]∧k≤SG.length∧(∀(j:Nat) (x:List Int),j<k→SG[j]? =some x→x≠Ba a cl i)) (fun mm2 T st9 hI=>?_) _ _ _ ⟨0,rfl,(K.sub rfl),(B.step M).less (.refl _),(Nat.zero_le _),(fun j x hj=>absurd hj (Nat.not_lt_zero j))⟩;obtain⟨k,rfl,K,B,hk,hno⟩:=hI;have M:=B.mem;refine Qc 2 K M ?_;intro _ K;refine p1 K (Q8 J6 rfl rfl (hAs.len.trans (congrArg some (YR.ln ((B.step M).at_ (k:=0) rfl))))) fun _ K=>?_;refine Qc 1 K M ?_;intro _ K;refine Un K (Qg rfl) rfl (fun _ e26 K=>?_) fun _ e26 K=>?_
   ·refine Qc 9 K M ?_;intro _ K;refine QW ?_;exact⟨k,(K.sub rfl),(B.step M).less (.refl _),hk,hno,(fun h=>by first|(exfalso;omega)|(rw[hi29];simp_all))⟩
   refine Qc 2 K M ?_;intro _ K;obtain⟨s29,hi29⟩:=U9 SG k Qe;obtain⟨w29,hv29,hr29,hz29,hf29⟩:=YR.at_ ((B.step M).at_ (k:=0) rfl) _ _ hi29;obtain⟨x29,m29,f29,q29,_,la29,lo29,lp29⟩:=(hAs.rd fun c m l hm=>M.row c m l (by simp[hm])).load (i:=k) (cs:=_) (by rw[List.getElem?_map,hv29];rfl);refine pg K rfl rfl (Qb (j:=k) QY (congrArg some q29) rfl (by rw[List.length_map,YR.ln ((B.step M).at_ (k:=0) rfl)];omega)) fun _ K=>pg K rfl rfl (Qd rfl (lo29 _ 0 _ Ja rfl)) fun _ K=>?_;refine Qc 1 K M ?_;intro _ K;obtain⟨v32,st32,ev32,rfl,q32⟩:=LF M.fresh hr29 (Mem.Yl (L:=((c2,0,[iZ (a.tr:Nat),ka,kn])::(As++(Ao++[])))) (A:=Ax) (B:=[]) (Mem.cast (M:=((c2,0,[iZ (a.tr:Nat),ka,kn])::(As++(Ao++(Ax++[]))))) (M':=((c2,0,[iZ (a.tr:Nat),ka,kn])::(As++(Ao++[])))++(Ax++[])) M Uu) hAx);refine pg K rfl rfl (Qh rfl ev32) fun _ K=>?_;replace M:=M.quiet q32;refine Qc 2 K M ?_;intro _ K;refine Qq (K.QJ rfl) (fun h34=>?_) (fun h34=>?_)
   ·have hb34:=h34
    replace h34: ¬(s29=Ba a cl i):=by first|exact of_decide_eq_false h34|exact yF h34|simpa using h34
    refine Qc 3 K M ?_;intro _ K;exact⟨_,Qe,k+1,rfl,(K.sub rfl),(B.step M).less (.refl _),Qe,(FL hno hi29 (by first|assumption|simp_all))⟩
   have hb34:=h34
   replace h34:(s29=Ba a cl i):=by first|exact of_decide_eq_true h34|exact yT h34|simpa using h34
   refine QW ?_;exact⟨k,(K.sub rfl),(B.step M).less (.refl _),hk,hno,(fun h=>by first|(exfalso;omega)|(rw[hi29];simp_all))⟩
  obtain⟨k,K,B,hk,hno,hyes⟩:=hJ;have M:=B.mem;have hx64:Vm (Ba a cl i):=ep hcz i;refine Qc 2 K M ?_;intro _ K;refine p1 K (Q8 J6 rfl rfl (hAs.len.trans (congrArg some (YR.ln ((B.step M).at_ (k:=0) rfl))))) fun _ K=>?_;refine Qc 1 K M ?_;intro _ K;refine JS K rfl (fun h40=>?_) fun h40=>?_
  ·refine Qc 2 K M ?_;intro _ K;refine ZV K M QU Uv rfl ((JC rfl hAx.cell rfl).trans rfl) (Qa hAx.cell Qz) rfl rfl fun c43 _ _ K M=>?_;refine YL (k2:=0) (L:=[(c43,0,[v21]),(c2,0,[iZ (a.tr:Nat),ka,kn])]) (A:=As) (B:=(Ao++(Ax++[]))) K M hAs QU rfl rfl rfl (by have:=YR.ln ((B.step M).at_ (k:=0) rfl);have:=hFin.le;omega) rfl fun ks44 A44 _ _ K hA44 _ M=>?_;refine au 4 K M ?_;intro c47 _ _ K _ M;refine Jg (k2:=0) (L:=((c47,0,[iN k])::(c43,0,[v21])::(c2,0,[iZ (a.tr:Nat),ka,kn])::(A44++[]))) (A:=Ao) (B:=(Ax++[])) K (Mem.cast (M:=((c47,0,[iN k])::(c43,0,[v21])::(c2,0,[iZ (a.tr:Nat),ka,kn])::(A44++(Ao++(Ax++[]))))) (M':=((c47,0,[iN k])::(c43,0,[v21])::(c2,0,[iZ (a.tr:Nat),ka,kn])::(A44++[]))++(Ao++(Ax++[]))) M Uu) hAo QM rfl rfl rfl rfl (by rw[Qn,hFin.len];omega) rfl fun ks48 A48 _ _ K hA48 M=>?_;simp only[List.append_assoc,List.cons_append,List.nil_append,List.set_cons_zero,List.set_cons_succ]at M;refine Qc 4 K M ?_;intro _ K;replace B:=B.step M;obtain⟨Fr,B⟩:=Qk.ZF (L:=((c47,0,[iN k])::(c43,0,[v21])::(c2,0,[iZ (a.tr:Nat),ka,kn])::(A44++(A48++[])))) (A:=Ax) (B:=[]) (B.cast Uu) hAx hx64;replace B:=B.cast (M':=((c47,0,[iN k])::(c43,0,[v21])::(c2,0,[iZ (a.tr:Nat),ka,kn])::(A44++(A48++[])))) Uu;have M:=B.mem;exact⟨_,Qe,i+1,SG++[Ba a cl i],_,_,ks44,A44,(out++[((k:Nat):Int)]),ks48,A48,rfl,(K.sub rfl),(B.step M).less (.cons _ (.cons _ (.refl _))),(by rw[show((k:Nat):Int)=((SG.length:Nat):Int) by omega];exact hFin.new fun hm=>by obtain⟨j,hj⟩:=List.getElem?_of_mem hm;exact hno j _ (by have:=(List.getElem?_eq_some_iff.1 hj).1;omega) hj rfl),Qe,hA44,(by rw[JY];exact hA48)⟩
  refine au 3 K M ?_;intro c47 _ _ K _ M;refine Jg (k2:=0) (L:=((c47,0,[iN k])::(c2,0,[iZ (a.tr:Nat),ka,kn])::(As++[]))) (A:=Ao) (B:=(Ax++[])) K (Mem.cast (M:=((c47,0,[iN k])::(c2,0,[iZ (a.tr:Nat),ka,kn])::(As++(Ao++(Ax++[]))))) (M':=((c47,0,[iN k])::(c2,0,[iZ (a.tr:Nat),ka,kn])::(As++[]))++(Ao++(Ax++[]))) M Uu) hAo QM rfl rfl rfl rfl (by rw[Qn,hFin.len];omega) rfl fun ks48 A48 _ _ K hA48 M=>?_;simp only[List.append_assoc,List.cons_append,List.nil_append,List.set_cons_zero,List.set_cons_succ]at M;refine Qc 4 K M ?_;intro _ K;exact⟨_,Qe,i+1,SG,_,_,ks,As,(out++[((k:Nat):Int)]),ks48,A48,rfl,(K.sub rfl),(B.step M).less (.cons _ (.cons_cons _ (List.Sublist.append_left (List.Sublist.append_left (List.nil_sublist _) _) _))),(hFin.J8 (hyes Qe)),Qe,hAs,(by rw[JY];exact hA48)⟩
 refine QW ?_;show W _ _ _ _ _ _ _;refine Qc 2 K M ?_;intro _ K;refine p1 K (Q8 J6 rfl rfl (hAs.len.trans (congrArg some (YR.ln ((B.step M).at_ (k:=0) rfl))))) fun _ K=>?_;refine Qc 2 K M ?_
 have hie:i=a.n:=by omega
 subst hie;exact⟨_,SG,out,rfl,hFin,(B.step M).newRow hAo (fun c m l h=>by simp[h]),(B.step M).qt⟩

theorem vE{n:Nat}{k:Nat}(hl:cl.length=n)(h:IL n cl k)(hk:k≤400):Vm cl:=fun z hz=>by
 obtain⟨s,hs⟩:=List.getElem?_of_mem hz;have h1:=h.1 s (by have:=(List.getElem?_eq_some_iff.1 hs).1;omega);rw[V9 hs]at h1
 constructor<;>omega
theorem LW{i:Nat}{y:Bool}(h:a.acc[i]? =some y):a.ok i=y:=by unfold Au.ok;rw[h];rfl
theorem xd{i:Nat}(H:Xz a i cl):Vm cl:=fun z hz=>by
 obtain⟨s,hs⟩:=List.getElem?_of_mem hz;have h1:=H.2 s (by have:=(List.getElem?_eq_some_iff.1 hs).1;have:=H.1;omega);rw[V9 hs]at h1;subst h1
 split<;>decide
theorem zL{n:Nat}{L nu:List Int}(H:NZ n L nu)(hn:L.Nodup):L.length≤n:=by
 have:=Xb (b:=(List.range n).map fun v=>((v:Nat):Int)) hn fun x hx=>by
  have:=H.rng x hx;exact List.mem_map.2 ⟨x.toNat,List.mem_range.2 Qe,by omega⟩
 simpa using this

theorem RH(hf:Qj st)(wf:Zt a)(hA:Jk st.h.get [] 1 (bC a.acc) ka)(hN:Ll st.h.get a.nx kn ls): ∃v st',Ev Tryz.prog Q5 28 [.agg [iZ (a.tr:Nat),ka,kn]] st v st'∧ ∃kr cl k,v=kr∧ZS a cl∧IL a.n cl k∧Ep st st' 1 kr (zC cl)∧Qt st st':=by
 have hac:=hA.cell;have hnc:=hN.r.cell;have hmo:=wf.most;have hps:=wf.pos;have hln:=wf.len;have hen:a.n=a.acc.length:=rfl;have htr:=wf.tr;have hp6:=JH htr;have hp0:0<2^a.tr:=Nat.two_pow_pos _;have hrep:(List.replicate a.n (0:Int)).length=a.n:=List.length_replicate ..;refine JI Tryz.func28 Tryz.ntmps28 fun T K=>?_;have M:=Mem.start hf;refine QD<|Qv ?_;refine Jv K M rfl (Qa rfl (Qa hA.cell (Qa hN.r.cell Qz))) QE fun c1 _ _ K M=>?_;refine Qc 3 K M ?_;intro _ K;refine p1 K (Q8 Ux rfl rfl (hA.len.trans (congrArg some (Jy _)))) fun _ K=>?_;refine Cw (fun z=>iZ z) 0 (n:=a.n) K M QM Vs rfl Qe rfl fun c11 _ _ K M=>?_;refine Qc 2 K M ?_;intro _ K;refine Je (fun mm1 T st9=> ∃(i:Nat) (cur:List Int),mm1=a.n-i∧QZ [(1,.ptr c1 0 0),(2,.nils),(3,.sl c11 0 0 a.n 1),(4,iN i)] T∧Mem st.h.get st.n [] st9 [(c11,0,(cur.map (fun z=>iZ z))),(c1,0,[iZ (a.tr:Nat),ka,kn])]∧i≤a.n∧Xz a i cur) (fun mm1 T st9 hI=>?_) _ _ _ ⟨0,_,rfl,(K.sub rfl),M.less (.refl _),(Nat.zero_le _),(Xz.start a)⟩;obtain⟨i,cur,rfl,K,M,hi,hfi⟩:=hI;have hcl0:=hfi.1;refine Qc 3 K M ?_;intro _ K;refine p1 K (Q8 Ux rfl rfl (hA.len.trans (congrArg some (Jy _)))) fun _ K=>?_;refine Qc 1 K M ?_;intro _ K;refine JS K rfl (fun h16=>?_) fun h16=>?_
 ·refine Qc 0 K M ?_;intro _ K;refine QF (l:=[(0,0),(1,0),(2,0),(3,0),(4,0),(5,0),(6,0),(7,0),(8,0),(9,0)]) (by kernel_rfl) ?_;refine Jc 3 K M ?_;intro _ K;obtain⟨y22,hi22⟩:=U9 a.acc i Qe;obtain⟨x22,m22,f22,q22,_,la22,lo22,lp22⟩:=(Jk.mem M hA QA).load (i:=i) (cs:=_) (VD hi22);refine q1 rfl K (Qb (j:=i) Jx (congrArg some q22) rfl (by rw[Jy];omega)) fun _ K=>q1 rfl K (Qd rfl (lo22 _ 0 _ J0 rfl)) fun _ K=>?_;refine Jc 2 K M ?_;intro _ K;obtain⟨y26,hi26⟩:=U9 a.acc 0 Qe;obtain⟨x26,m26,f26,q26,_,la26,lo26,lp26⟩:=(Jk.mem M hA QA).load (i:=0) (cs:=_) (VD hi26);refine q1 rfl K (Qb (j:=0) Jx (congrArg some q26) rfl (by rw[Jy];omega)) fun _ K=>q1 rfl K (Qd rfl (lo26 _ 0 _ J0 rfl)) fun _ K=>q1 rfl K (jn Yq rfl rfl) fun _ K=>QH ?_;show W _ _ _ _ _ _ _;refine Qq (K.QJ rfl) (fun h28=>?_) (fun h28=>?_)
  ·have hb28:=h28
   replace h28:(y22==y26)=false:=by simpa using h28
   refine Qc 2 K M ?_;intro _ K;obtain⟨y31,hi31⟩:=U9 cur i Qe;refine p1 K (Qb (j:=i) Qw rfl rfl Qe) fun _ K=>?_;refine Jj (k:=0) K M rfl rfl rfl Ly rfl (WY (fun z=>iZ z) 1 Qe) fun _ M=>?_;refine Qc 3 K M ?_;intro _ K;exact⟨_,Qe,i+1,_,rfl,(K.sub rfl),M.less (.refl _),Qe,(hfi.yes Qe (by rw[LW hi22,LW hi26];simpa using h28))⟩
  have hb28:=h28
  replace h28:(y22==y26)=true:=by simpa using h28
  refine Qc 3 K M ?_;intro _ K;exact⟨_,Qe,i+1,_,rfl,(K.sub rfl),M.less (.refl _),Qe,(hfi.no (by rw[LW hi22,LW hi26];simpa using h28))⟩
 refine QW ?_;show W _ _ _ _ _ _ _;refine QD ?_;replace M:=Mem.cast (M':=((c1,0,[iZ (a.tr:Nat),ka,kn])::([(c11,0,(cur.map (fun z=>iZ z)))]++[]))) (Mem.perm M (List.perm_append_comm (α:=Nat×Nat×List AV) (l₁:=[(c11,0,(cur.map (fun z=>iZ z)))]) (l₂:=[(c1,0,[iZ (a.tr:Nat),ka,kn])]))) QA
 have hAc0:Acc 0 1 [(c11,0,(cur.map (fun z=>iZ z)))] (.sl c11 0 0 a.n 1) (zC cur):=by have:=Acc.ofM (fun z=>iZ z) (c:=c11) (m:=0) (L:=cur) (by rw[hfi.1];omega);rw[hfi.1]at this;exact this
 have hie:i=a.n:=by omega
 rw[hie]at hfi;refine Qc 1 K M ?_;intro _ K;refine Je (fun mm2 T st9=> ∃(cl:List Int) (kc:AV) (Ac:UA) (was:Nat),mm2=a.n-was∧QZ [(1,.ptr c1 0 0),(3,kc),(5,iN was)] T∧Mem st.h.get st.n [] st9 ((c1,0,[iZ (a.tr:Nat),ka,kn])::(Ac++[]))∧IM a cl∧(was=0∨IL a.n cl was)∧Vm cl∧Acc 0 1 Ac kc (zC cl)) (fun mm2 T st9 hI=>?_) _ _ _ ⟨cur,(.sl c11 0 0 a.n 1),[(c11,0,(cur.map (fun z=>iZ z)))],0,rfl,(K.sub rfl),M.less (.refl _),hfi.done,(.inl rfl),(xd hfi),hAc0⟩;obtain⟨cl,kc,Ac,was,rfl,K,M,hF,hw,hcz,hAc⟩:=hI;refine Qc 2 K M ?_;intro _ K;obtain⟨v35,st35,ev35,ko,SG,out,rfl,hFin,nro,q35⟩:=uy M.fresh wf (Jk.mem M hA QA) (hN.J8 hf fun c hc=>M.J8 c hc QA) (Mem.Yl (L:=[(c1,0,[iZ (a.tr:Nat),ka,kn])]) (A:=Ac) (B:=[]) M hAc) hF.len hcz;refine p1 K (Qh rfl ev35) fun _ K=>?_;obtain⟨Ao,hAo,M⟩:=M.Yv q35 nro;replace hAo:=hAo.z0;obtain⟨hfr,hon⟩:=hFin.done;obtain⟨hF2,hle2,hst2⟩:=uS wf hF hw hfr hon;have hkn:=LV hon;simp only[List.append_assoc,List.cons_append,List.nil_append,List.set_cons_zero,List.set_cons_succ]at M;replace M:=M.less (.cons_cons _ (List.sublist_append_right _ _));refine Qc 8 K M ?_;intro _ K;refine JS K rfl (fun h40=>?_) fun h40=>?_
 ·refine Qc 2 K M ?_;exact⟨_,out,SG.length,rfl,hst2 Qe,hon,M.newRow hAo (fun c m l h=>by simp[h]),M.qt⟩
 refine Qc 4 K M ?_;intro _ K;exact⟨_,Qe,out,ko,Ao,SG.length,rfl,(K.sub rfl),M.less (.refl _),hF2,(.inr hon),(vE hF2.len hon Qe),hAo⟩
end Go.Proofs.YtiknomepbklibaaGreatDoor
end
section
namespace Go.Proofs.YtiknomepbklibaaGreatDoor
open Go Go.RowKit

structure VG(a:Au)(cl:List Int)(ls:List Nat)(rows:List (List Int))(row nu:List Int):Prop where
 pr:Vr (ID a cl) (cv cl 0) (2^a.tr) (ls.map (cv cl)) rows row
 nu:NZ a.n (ls.map (cv cl)) nu
 lt: ∀s∈ls,s<a.n
section
variable {a:Au} {cl:List Int} {ls:List Nat} {rows:List (List Int)} {row nu:List Int}
theorem VG.le(H:VG a cl ls rows row nu):ls.length≤a.n:=by
 have:=zL H.nu H.pr.nodup
 simpa using this
theorem VG.start(W:Zt a){k:Nat}(ho:IL a.n cl k){nu:List Int}(hl:nu.length=a.n)(h: ∀s,s<a.n→cv nu s= -1):VG a cl [0] [] [] (nu.set (cv cl 0).toNat 0):=by
 have h0:=ho.1 0 W.pos;have hk:=LV ho;exact⟨Vr.start _ _ _,NZ.start hl h h0.1 Qe,fun s hs=>by rw[List.mem_singleton.1 hs];exact W.pos⟩
theorem VG.next(W:Zt a)(hc:ZS a cl){s y:Nat}(hs:ls[rows.length]? =some s)(hls:s<a.n)(hr:row.length<2^a.tr)(hy:a.go s row.length=y):(ls.map (cv cl))[rows.length]? =some (cv cl s)∧ID a cl (cv cl s) row.length=cv cl y:=by
 refine⟨by rw[List.getElem?_map,hs];rfl,?_⟩;rw[Li (hc.Il W) hls hr,hy]
theorem VG.new(H:VG a cl ls rows row nu)(W:Zt a)(hc:ZS a cl){k:Nat}(ho:IL a.n cl k){s y:Nat}(hs:ls[rows.length]? =some s)(hr:row.length<2^a.tr)(hy:a.go s row.length=y)(hyn:y<a.n)(hn:cv nu (cv cl y).toNat<0):
  VG a cl (ls++[y]) rows (row++[((ls.length:Nat):Int)]) (nu.set (cv cl y).toNat ((ls.length:Nat):Int)):=by
 have hls:=H.lt s (List.mem_of_getElem? hs);have hb:=ho.1 y hyn;have hk:=LV ho;obtain⟨h1,h2⟩:=VG.next W hc hs hls hr hy;rcases H.nu.mem hb.1 Qe rfl with⟨_,h3⟩|⟨j,h3,_⟩
 ·have h4:=H.pr.new hr h1 (by rw[h2];exact h3);rw[h2,List.length_map]at h4;have h5:=H.nu.new hb.1 Qe h3;rw[List.length_map]at h5;refine⟨by rw[List.map_append];exact h4,by rw[List.map_append];exact h5,fun t ht=>?_⟩;rcases List.mem_append.1 ht with ht|ht
  ·exact H.lt t ht
  ·rw[List.mem_singleton.1 ht];exact hyn
 ·omega
theorem VG.J8(H:VG a cl ls rows row nu)(W:Zt a)(hc:ZS a cl){k:Nat}(ho:IL a.n cl k){s y:Nat}(hs:ls[rows.length]? =some s)(hr:row.length<2^a.tr)(hy:a.go s row.length=y)(hyn:y<a.n){z:Int}(hz:cv nu (cv cl y).toNat=z)(hn: ¬z<0):
  VG a cl ls rows (row++[z]) nu:=by
 have hls:=H.lt s (List.mem_of_getElem? hs);have hb:=ho.1 y hyn;have hk:=LV ho;obtain⟨h1,h2⟩:=VG.next W hc hs hls hr hy;rcases H.nu.mem hb.1 Qe hz with⟨h3,_⟩|⟨j,rfl,h3⟩
 ·exact absurd h3 hn
 ·exact⟨H.pr.J8 hr h1 (by rw[h2];exact h3),H.nu,H.lt⟩
theorem VG.whole(H:VG a cl ls rows row nu)(hr:row.length=2^a.tr):VG a cl ls (rows++[row]) [] nu:=⟨H.pr.whole hr,H.nu,H.lt⟩
theorem VG.AU(H:VG a cl ls rows row nu)(W:Zt a):Vm row:=H.pr.AU (by rw[List.length_map];have:=H.le;have:=W.most;omega)
theorem VG.made(H:VG a cl ls rows [] nu)(W:Zt a)(hc:ZS a cl)(hl:rows.length=ls.length):Uw (ID a cl) (cv cl 0) (Pc a cl) (ls.map (cv cl)) ⟨a.tr,ls.map a.ok,rows⟩:=by
 refine H.pr.made (m:=⟨a.tr,ls.map a.ok,rows⟩) (by rw[List.length_map];exact hl) ?_ W.tr (by rw[List.length_map];have:=H.le;have:=W.most;omega);show ls.map a.ok=(ls.map (cv cl)).map (Pc a cl);rw[List.map_map];exact List.map_congr_left fun s hs=>(BZ hc (H.lt s hs)).symm
end

theorem jJ{st:St}(hf:Qj st){a:Au}(wf:Zt a){ka kn:AV}{ls:List (List AV)}(hA:Jk st.h.get [] 1 (bC a.acc) ka)(hN:Ll st.h.get a.nx kn ls): ∃v st',Ev Tryz.prog Q5 50 [.agg [iZ (a.tr:Nat),ka,kn]] st v st'∧ ∃cl l m,ZS a cl∧m.tr=a.tr∧Uw (ID a cl) (cv cl 0) (Pc a cl) l m∧A0 st st' m v∧Qt st st':=by
 have hac:=hA.cell;have hnc:=hN.r.cell;have hmo:=wf.most;have hps:=wf.pos;have hln:=wf.len;have hen:a.n=a.acc.length:=rfl;have htr:=wf.tr;have hp6:=JH htr;have hp0:0<2^a.tr:=Nat.two_pow_pos _;have hrep:(List.replicate a.n (0:Int)).length=a.n:=List.length_replicate ..;have B:=Qk.start hf;refine JI Tryz.func50 Tryz.ntmps50 fun T K=>?_;have M:=B.mem;refine QD<|Qv ?_;refine Jv K M rfl (Qa rfl (Qa hA.cell (Qa hN.r.cell Qz))) QE fun c1 _ _ K M=>?_;refine au 2 K M ?_;intro c2 _ _ K _ M;obtain⟨v13,st13,ev13,kc,cl,kk,rfl,hcls,hon,nrc,q13⟩:=RH M.fresh wf ((B.step M).Be hf hA) (hN.J8 hf fun c hc=>(B.step M).J8 c hc id);refine p1 K (Qh rfl ev13) fun _ K=>?_;obtain⟨Ac,hAc,M⟩:=M.Yv q13 nrc;replace hAc:=hAc.z0;have hcll:=hcls.len;have hkn:=LV hon;simp only[List.append_assoc,List.cons_append,List.nil_append,List.set_cons_zero,List.set_cons_succ]at M;refine au 8 K M ?_;intro c4 _ _ K _ M;refine p1 K (Q8 Ux rfl rfl (hA.len.trans (congrArg some (Jy _)))) fun _ K=>?_;refine Cw (fun z=>iZ z) 0 (n:=a.n) K M QM Vs rfl Qe rfl fun c20 _ _ K M=>?_;refine Qc 2 K M ?_;intro _ K;refine Je (fun mm1 T st9=> ∃(i:Nat) (nu:List Int),mm1=a.n-i∧QZ [(1,.ptr c1 0 0),(2,.ptr c2 0 0),(3,v13),(4,.ptr c4 0 0),(5,.sl c20 0 0 a.n 1),(6,iN i)] T∧Qk st Xu st9 ((c20,0,(nu.map (fun z=>iZ z)))::(c4,0,[iZ (a.tr:Nat),.nils,.nils])::(c2,0,[iZ 0,.nils,.nils])::(c1,0,[iZ (a.tr:Nat),ka,kn])::(Ac++[])) []∧i≤a.n∧nu.length=a.n∧(∀s,s<i→cv nu s= -1)) (fun mm1 T st9 hI=>?_) _ _ _ ⟨0,_,rfl,(K.sub rfl),(B.step M).less (.refl _),(Nat.zero_le _),hrep,(fun s hs=>absurd hs (Nat.not_lt_zero s))⟩;obtain⟨i,nu,rfl,K,B,hi,hnl,hneg⟩:=hI;have M:=B.mem;refine Qc 4 K M ?_;intro _ K;refine JS K rfl (fun h24=>?_) fun h24=>?_
 ·refine Qc 2 K M ?_;intro _ K;obtain⟨y29,hi29⟩:=U9 nu i Qe;refine p1 K (Qb (j:=i) Qw rfl rfl Qe) fun _ K=>?_;refine Jj (k:=0) K M rfl rfl rfl Ly rfl (WY (fun z=>iZ z) (-1) Qe) fun _ M=>?_;refine Qc 3 K M ?_;intro _ K;exact⟨_,Qe,i+1,_,rfl,(K.sub rfl),(B.step M).less (.refl _),Qe,(by rw[List.length_set];exact hnl),(fun s hs=>by rw[NH Qe];split;rfl;exact hneg s Qe)⟩
 refine QW ?_;show W _ _ _ _ _ _ _;refine au 4 K M ?_;intro c30 _ _ K _ M;obtain⟨y33,hi33⟩:=U9 cl 0 Qe;have hb33:=hon.1 0 Qe;have hcv33:=V9 hi33;rw[hcv33]at hb33;obtain⟨x33,m33,f33,q33,_,la33,lo33,lp33⟩:=(Mem.Yl (L:=[(c30,0,[iZ 0]),(c20,0,(nu.map (fun z=>iZ z))),(c4,0,[iZ (a.tr:Nat),.nils,.nils]),(c2,0,[iZ 0,.nils,.nils]),(c1,0,[iZ (a.tr:Nat),ka,kn])]) (A:=Ac) (B:=[]) M hAc).load (i:=0) (cs:=_) (Jt hi33);refine p1 K (Qb (j:=0) Qw (congrArg some q33) rfl (by rw[Qn];omega)) fun _ K=>p1 K (Qd rfl (lo33 _ 0 _ Qr rfl)) fun _ K=>?_;obtain⟨y35,hi35⟩:=U9 nu ((y33).toNat) Qe;refine p1 K (Qb (j:=(y33).toNat) Qw rfl (congrArg (fun z=>some (iZ z)) (by omega:_=(((y33).toNat:Nat):Int))) Qe) fun _ K=>?_;refine Jj (k:=1) K M rfl rfl rfl Ly rfl (WY (fun z=>iZ z) 0 Qe) fun _ M=>?_;refine Qc 0 K M ?_;intro _ K;replace M:=Mem.cast (M':=((c20,0,((nu.set ((y33).toNat) 0).map (fun z=>iZ z)))::(c4,0,[iZ (a.tr:Nat),.nils,.nils])::(c2,0,[iZ 0,.nils,.nils])::(c1,0,[iZ (a.tr:Nat),ka,kn])::(Ac++([(c30,0,[iZ 0])]++[])))) (Mem.perm M (List.perm_append_comm (α:=Nat×Nat×List AV) (l₁:=[(c30,0,[iZ 0])]) (l₂:=((c20,0,((nu.set ((y33).toNat) 0).map (fun z=>iZ z)))::(c4,0,[iZ (a.tr:Nat),.nils,.nils])::(c2,0,[iZ 0,.nils,.nils])::(c1,0,[iZ (a.tr:Nat),ka,kn])::(Ac++[]))))) Uu;have hAL0:Acc 0 1 [(c30,0,[iZ 0])] (.sl c30 0 0 1 1) [[iZ 0]]:=Acc.own (n0:=0) (z:=1) (c:=c30) (m:=0) (ls:=[[iZ 0]]) (Nat.zero_le _) QA QA;replace B:=(B.step M).V1;have M:=B.mem;refine Qc 1 K M ?_;intro _ K;refine Je (fun mm2 T st9=> ∃(i:Nat) (ls:List Nat) (kl:AV) (Al:QP) (rows:List (List Int)) (vs:List AV) (F:Fp) (ka4:AV) (Aa:QP) (kr4:AV) (Ar:QP) (nu:List Int),mm2=a.n-i∧QZ [(1,.ptr c1 0 0),(2,.ptr c2 0 0),(3,v13),(4,.ptr c4 0 0),(5,.sl c20 0 0 a.n 1),(7,kl),(8,iN i)] T∧Qk st Xu st9 ((c20,0,(nu.map (fun z=>iZ z)))::(c4,0,[iZ (a.tr:Nat),ka4,kr4])::(c2,0,[iZ 0,.nils,.nils])::(c1,0,[iZ (a.tr:Nat),ka,kn])::(Ac++(Al++(Aa++(Ar++[]))))) [EC F vs rows]∧VG a cl ls rows [] nu∧rows.length=i∧i≤ls.length∧Acc 0 1 Al kl (zC (zN ls))∧Acc 0 1 Aa ka4 (bC ((ls.take i).map a.ok))∧YS Ar kr4 vs) (fun mm2 T st9 hI=>?_) _ _ _ ⟨0,[0],(.sl c30 0 0 1 1),[(c30,0,[iZ 0])],[],[],_,.nils,[],.nils,[],_,rfl,(K.sub rfl),(B.step M).less (.refl _),(by rw[←hcv33];exact VG.start wf hon hnl (fun s hs=>hneg s Qe)),rfl,(Nat.zero_le _),hAL0,.none,.none⟩;obtain⟨i,ls,kl,Al,rows,vs,F,ka4,Aa,kr4,Ar,nu,rfl,K,B,hm,hrl,hil,hAl,hAa,hAr⟩:=hI;have M:=B.mem;have hlsn:=hm.le;have hnul:=hm.nu.len;refine Qc 2 K M ?_;intro _ K;refine p1 K (Q8 Jr rfl rfl (hAl.len.trans (congrArg some (by rw[Qn,List.length_map])))) fun _ K=>?_;refine Qc 1 K M ?_;intro _ K;refine JS K rfl (fun h39=>?_) fun h39=>?_
 ·refine Qc 2 K M ?_;intro _ K;refine Je (fun mm3 T st9=> ∃(c:Nat) (ls2:List Nat) (kl2:AV) (Al2:QP) (row:List Int) (kw:AV) (Aw:QP) (nu2:List Int),mm3=2^a.tr-c∧QZ [(1,.ptr c1 0 0),(2,.ptr c2 0 0),(3,v13),(4,.ptr c4 0 0),(5,.sl c20 0 0 a.n 1),(7,kl2),(8,iN i),(9,kw),(10,iN c),(39,.bool (decide (((i:Nat):Int)<((ls.length:Nat):Int))))] T∧Qk st Xu st9 ((c20,0,(nu2.map (fun z=>iZ z)))::(c4,0,[iZ (a.tr:Nat),ka4,kr4])::(c2,0,[iZ 0,.nils,.nils])::(c1,0,[iZ (a.tr:Nat),ka,kn])::(Ac++(Al2++(Aa++(Ar++(Aw++[])))))) [EC F vs rows]∧VG a cl ls2 rows row nu2∧row.length=c∧c≤2^a.tr∧ls2.take (i+1)=ls.take (i+1)∧Acc 0 1 Al2 kl2 (zC (zN ls2))∧Acc 0 1 Aw kw (zC row)) (fun mm3 T st9 hI=>?_) _ _ _ ⟨0,ls,kl,Al,[],.nils,[],nu,rfl,(K.sub rfl),(B.step M).less (.refl _),hm,rfl,(Nat.zero_le _),rfl,hAl,.none⟩;obtain⟨c,ls2,kl2,Al2,row,kw,Aw,nu2,rfl,K,B,hm2,hrow,hcK,htk,hAl2,hAw⟩:=hI;have M:=B.mem;have hls2:=hm2.le;have hnul2:=hm2.nu.len;have hi2:=Uy htk Qe;refine QD<|QD ?_;refine QF (l:=[(0,0),(1,0),(2,0),(3,0),(4,0),(5,0),(6,0),(7,0),(8,0),(9,0),(10,0)]) (by kernel_rfl) ?_;refine Jc 2 K M ?_;intro _ K;refine q1 rfl K (Qd rfl (M.load (k:=3) rfl (Qf Q6 rfl))) fun _ K=>?_;refine Jc 2 K M ?_;intro _ K;obtain⟨y47,hi47⟩:=U9 ls2 i Qe;have hls47:=hm2.lt y47 (List.mem_of_getElem? hi47);obtain⟨x47,m47,f47,q47,_,la47,lo47,lp47⟩:=(Mem.Yl (L:=((c20,0,(nu2.map (fun z=>iZ z)))::(c4,0,[iZ (a.tr:Nat),ka4,kr4])::(c2,0,[iZ 0,.nils,.nils])::(c1,0,[iZ (a.tr:Nat),ka,kn])::(Ac++[]))) (A:=Al2) (B:=(Aa++(Ar++(Aw++[])))) (Mem.cast (M:=((c20,0,(nu2.map (fun z=>iZ z)))::(c4,0,[iZ (a.tr:Nat),ka4,kr4])::(c2,0,[iZ 0,.nils,.nils])::(c1,0,[iZ (a.tr:Nat),ka,kn])::(Ac++(Al2++(Aa++(Ar++(Aw++[]))))))) (M':=((c20,0,(nu2.map (fun z=>iZ z)))::(c4,0,[iZ (a.tr:Nat),ka4,kr4])::(c2,0,[iZ 0,.nils,.nils])::(c1,0,[iZ (a.tr:Nat),ka,kn])::(Ac++[]))++(Al2++(Aa++(Ar++(Aw++[]))))) M Uu) hAl2).load (i:=i) (cs:=_) (Fy hi47);refine q1 rfl K (Qb (j:=i) Qw (congrArg some q47) rfl (by rw[Qn,List.length_map];omega)) fun _ K=>q1 rfl K (Qd rfl (lo47 _ 0 _ Qr rfl)) fun _ K=>?_;obtain⟨s49,hi49⟩:=U9 a.nx y47 Qe;obtain⟨_,hc49,w49,rfl,hr49,hz49⟩:=hN.at_ _ _ hi49;have hw49:=wf.row s49 (List.mem_of_getElem? hi49);have hl49:s49.length=2^a.tr:=hw49.1;obtain⟨x49,m49,f49,q49,_,la49,lo49,lp49⟩:=(Fw.r (hN.J8 hf fun c hc=>(B.step M).J8 c hc id)).load (i:=y47) (cs:=_) hc49;refine q1 rfl K (Qb (j:=y47) QY (congrArg some q49) rfl (by rw[hN.ln];omega)) fun _ K=>q1 rfl K (Qd rfl (lo49 _ 0 _ Ja rfl)) fun _ K=>q1 rfl K (Q8 Jr rfl rfl (hr49.len.trans (congrArg some (Qn _)))) fun _ K=>q1 rfl K (js rfl rfl) fun _ K=>QH ?_;show W _ _ _ _ _ _ _;refine JS K rfl (fun h52=>?_) fun h52=>?_
  ·refine Qc 0 K M ?_;intro _ K;refine QF (l:=[(0,0),(1,0),(2,0),(3,0),(4,0),(5,0),(6,0),(7,0),(8,0),(9,0),(10,0),(11,0)]) (by kernel_rfl) ?_;refine Jc 1 K M ?_;intro _ K;refine q1 rfl K (Qd rfl (M.load (k:=3) rfl (Qf Q6 rfl))) fun _ K=>?_;refine Jc 2 K M ?_;intro _ K;obtain⟨x59,m59,f59,q59,_,la59,lo59,lp59⟩:=(Mem.Yl (L:=((c20,0,(nu2.map (fun z=>iZ z)))::(c4,0,[iZ (a.tr:Nat),ka4,kr4])::(c2,0,[iZ 0,.nils,.nils])::(c1,0,[iZ (a.tr:Nat),ka,kn])::(Ac++[]))) (A:=Al2) (B:=(Aa++(Ar++(Aw++[])))) (Mem.cast (M:=((c20,0,(nu2.map (fun z=>iZ z)))::(c4,0,[iZ (a.tr:Nat),ka4,kr4])::(c2,0,[iZ 0,.nils,.nils])::(c1,0,[iZ (a.tr:Nat),ka,kn])::(Ac++(Al2++(Aa++(Ar++(Aw++[]))))))) (M':=((c20,0,(nu2.map (fun z=>iZ z)))::(c4,0,[iZ (a.tr:Nat),ka4,kr4])::(c2,0,[iZ 0,.nils,.nils])::(c1,0,[iZ (a.tr:Nat),ka,kn])::(Ac++[]))++(Al2++(Aa++(Ar++(Aw++[]))))) M Uu) hAl2).load (i:=i) (cs:=_) (Fy hi47);refine q1 rfl K (Qb (j:=i) Qw (congrArg some q59) rfl (by rw[Qn,List.length_map];omega)) fun _ K=>q1 rfl K (Qd rfl (lo59 _ 0 _ Qr rfl)) fun _ K=>?_;obtain⟨_,hc61,w61,rfl,hr61,hz61⟩:=hN.at_ _ _ hi49;obtain⟨x61,m61,f61,q61,_,la61,lo61,lp61⟩:=(Fw.r (hN.J8 hf fun c hc=>(B.step M).J8 c hc id)).load (i:=y47) (cs:=_) hc61;refine q1 rfl K (Qb (j:=y47) QY (congrArg some q61) rfl (by rw[hN.ln];omega)) fun _ K=>q1 rfl K (Qd rfl (lo61 _ 0 _ Ja rfl)) fun _ K=>q1 rfl K (Qg rfl) fun _ K=>?_;obtain⟨y64,hi64⟩:=U9 s49 c Qe;have hb64:=hw49.2 y64 (List.mem_of_getElem? hi64);obtain⟨x64,m64,f64,q64,_,la64,lo64,lp64⟩:=((B.step M).Be hf hr61).load (i:=c) (cs:=_) (Jt hi64);refine q1 rfl K (Qb (j:=c) Qw (congrArg some q64) rfl (by rw[Qn];omega)) fun _ K=>q1 rfl K (Qd rfl (lo64 _ 0 _ Qr rfl)) fun _ K=>q1 rfl K (U6 rfl) fun _ K=>QH ?_;show W _ _ _ _ _ _ _;refine Qc 3 K M ?_;intro _ K;obtain⟨y69,hi69⟩:=U9 cl ((y64).toNat) Qe;have hb69:=hon.1 (y64).toNat Qe;have hcv69:=V9 hi69;rw[hcv69]at hb69;obtain⟨x69,m69,f69,q69,_,la69,lo69,lp69⟩:=(Mem.Yl (L:=[(c20,0,(nu2.map (fun z=>iZ z))),(c4,0,[iZ (a.tr:Nat),ka4,kr4]),(c2,0,[iZ 0,.nils,.nils]),(c1,0,[iZ (a.tr:Nat),ka,kn])]) (A:=Ac) (B:=(Al2++(Aa++(Ar++(Aw++[]))))) M hAc).load (i:=(y64).toNat) (cs:=_) (Jt hi69);refine p1 K (Qb (j:=(y64).toNat) Qw (congrArg some q69) (congrArg (fun z=>some (iZ z)) (by omega:_=(((y64).toNat:Nat):Int))) (by rw[Qn];omega)) fun _ K=>p1 K (Qd rfl (lo69 _ 0 _ Qr rfl)) fun _ K=>?_;obtain⟨y71,hi71⟩:=U9 nu2 ((y69).toNat) Qe;refine p1 K (Qb (j:=(y69).toNat) Qw rfl (congrArg (fun z=>some (iZ z)) (by omega:_=(((y69).toNat:Nat):Int))) Qe) fun _ K=>p1 K (Qd rfl (M.load (k:=0) rfl (Qf Qr (Wc (fun z=>iZ z) hi71)))) fun _ K=>?_;refine Qc 1 K M ?_;intro _ K;refine JS K rfl (fun h73=>?_) fun h73=>?_
   ·refine Qc 3 K M ?_;intro _ K;obtain⟨x77,m77,f77,q77,_,la77,lo77,lp77⟩:=(Mem.Yl (L:=[(c20,0,(nu2.map (fun z=>iZ z))),(c4,0,[iZ (a.tr:Nat),ka4,kr4]),(c2,0,[iZ 0,.nils,.nils]),(c1,0,[iZ (a.tr:Nat),ka,kn])]) (A:=Ac) (B:=(Al2++(Aa++(Ar++(Aw++[]))))) M hAc).load (i:=(y64).toNat) (cs:=_) (Jt hi69);refine p1 K (Qb (j:=(y64).toNat) Qw (congrArg some q77) (congrArg (fun z=>some (iZ z)) (by omega:_=(((y64).toNat:Nat):Int))) (by rw[Qn];omega)) fun _ K=>p1 K (Qd rfl (lo77 _ 0 _ Qr rfl)) fun _ K=>?_;refine Qc 1 K M ?_;intro _ K;refine p1 K (Q8 Jr rfl rfl (hAl2.len.trans (congrArg some (by rw[Qn,List.length_map])))) fun _ K=>?_;obtain⟨y81,hi81⟩:=U9 nu2 ((y69).toNat) Qe;refine p1 K (Qb (j:=(y69).toNat) Qw rfl (congrArg (fun z=>some (iZ z)) (by omega:_=(((y69).toNat:Nat):Int))) Qe) fun _ K=>?_;refine Jj (k:=0) K M rfl rfl rfl Ly rfl (WY (fun z=>iZ z) (((ls2.length:Nat):Int)) Qe) fun _ M=>?_;refine au 3 K M ?_;intro c84 _ _ K _ M;refine Jg (k2:=0) (L:=((c84,0,[iZ y64])::(c20,0,((nu2.set ((y69).toNat) (((ls2.length:Nat):Int))).map (fun z=>iZ z)))::(c4,0,[iZ (a.tr:Nat),ka4,kr4])::(c2,0,[iZ 0,.nils,.nils])::(c1,0,[iZ (a.tr:Nat),ka,kn])::(Ac++[]))) (A:=Al2) (B:=(Aa++(Ar++(Aw++[])))) K (Mem.cast (M:=((c84,0,[iZ y64])::(c20,0,((nu2.set ((y69).toNat) (((ls2.length:Nat):Int))).map (fun z=>iZ z)))::(c4,0,[iZ (a.tr:Nat),ka4,kr4])::(c2,0,[iZ 0,.nils,.nils])::(c1,0,[iZ (a.tr:Nat),ka,kn])::(Ac++(Al2++(Aa++(Ar++(Aw++[]))))))) (M':=((c84,0,[iZ y64])::(c20,0,((nu2.set ((y69).toNat) (((ls2.length:Nat):Int))).map (fun z=>iZ z)))::(c4,0,[iZ (a.tr:Nat),ka4,kr4])::(c2,0,[iZ 0,.nils,.nils])::(c1,0,[iZ (a.tr:Nat),ka,kn])::(Ac++[]))++(Al2++(Aa++(Ar++(Aw++[]))))) M Uu) hAl2 QM rfl rfl rfl rfl (by simp only[Qn,zN,List.length_map];have:=hm2.le;omega) rfl fun ks85 A85 _ _ K hA85 M=>?_;simp only[List.append_assoc,List.cons_append,List.nil_append,List.set_cons_zero,List.set_cons_succ]at M;refine Qc 5 K M ?_;intro _ K;obtain⟨x90,m90,f90,q90,_,la90,lo90,lp90⟩:=(Mem.Yl (L:=[(c84,0,[iZ y64]),(c20,0,((nu2.set ((y69).toNat) (((ls2.length:Nat):Int))).map (fun z=>iZ z))),(c4,0,[iZ (a.tr:Nat),ka4,kr4]),(c2,0,[iZ 0,.nils,.nils]),(c1,0,[iZ (a.tr:Nat),ka,kn])]) (A:=Ac) (B:=(A85++(Aa++(Ar++(Aw++[]))))) M hAc).load (i:=(y64).toNat) (cs:=_) (Jt hi69);refine p1 K (Qb (j:=(y64).toNat) Qw (congrArg some q90) (congrArg (fun z=>some (iZ z)) (by omega:_=(((y64).toNat:Nat):Int))) (by rw[Qn];omega)) fun _ K=>p1 K (Qd rfl (lo90 _ 0 _ Qr rfl)) fun _ K=>?_;obtain⟨y92,hi92⟩: ∃x,(nu2.set ((y69).toNat) (((ls2.length:Nat):Int)))[(y69).toNat]? =some x:=⟨_,List.getElem?_eq_getElem (by simp only[List.length_set];omega)⟩;refine p1 K (Qb (j:=(y69).toNat) Qw rfl (congrArg (fun z=>some (iZ z)) (by omega:_=(((y69).toNat:Nat):Int))) Qe) fun _ K=>p1 K (Qd rfl (M.load (k:=1) rfl (Qf Qr (Wc (fun z=>iZ z) hi92)))) fun _ K=>?_;refine au 1 K M ?_;intro c94 _ _ K _ M;refine Jg (k2:=0) (L:=((c94,0,[iZ y92])::(c84,0,[iZ y64])::(c20,0,((nu2.set ((y69).toNat) (((ls2.length:Nat):Int))).map (fun z=>iZ z)))::(c4,0,[iZ (a.tr:Nat),ka4,kr4])::(c2,0,[iZ 0,.nils,.nils])::(c1,0,[iZ (a.tr:Nat),ka,kn])::(Ac++(A85++(Aa++(Ar++[])))))) (A:=Aw) (B:=[]) K (Mem.cast (M:=((c94,0,[iZ y92])::(c84,0,[iZ y64])::(c20,0,((nu2.set ((y69).toNat) (((ls2.length:Nat):Int))).map (fun z=>iZ z)))::(c4,0,[iZ (a.tr:Nat),ka4,kr4])::(c2,0,[iZ 0,.nils,.nils])::(c1,0,[iZ (a.tr:Nat),ka,kn])::(Ac++(A85++(Aa++(Ar++(Aw++[]))))))) (M':=((c94,0,[iZ y92])::(c84,0,[iZ y64])::(c20,0,((nu2.set ((y69).toNat) (((ls2.length:Nat):Int))).map (fun z=>iZ z)))::(c4,0,[iZ (a.tr:Nat),ka4,kr4])::(c2,0,[iZ 0,.nils,.nils])::(c1,0,[iZ (a.tr:Nat),ka,kn])::(Ac++(A85++(Aa++(Ar++[])))))++(Aw++[])) M Uu) hAw QM rfl rfl rfl rfl (by rw[Qn];omega) rfl fun ks95 A95 _ _ K hA95 M=>?_;simp only[List.append_assoc,List.cons_append,List.nil_append,List.set_cons_zero,List.set_cons_succ]at M;refine Qc 4 K M ?_;intro _ K
    have e92:y92=((ls2.length:Nat):Int):=by have:=V9 hi92;rw[NH Qe,if_pos rfl]at this;exact this.symm
    have hm3:=hm2.new wf hcls hon (s:=y47) (y:=(y64).toNat) (by rw[hrl];exact hi47) Qe (by rw[hrow];exact JJ hi49 hi64) Qe (by rw[hcv69,V9 hi71];exact h73);rw[hcv69]at hm3;exact⟨_,Qe,c+1,(ls2++[(y64).toNat]),ks85,A85,(row++[y92]),ks95,A95,_,rfl,(K.sub rfl),(B.step M).less (.cons _ (.cons _ (.refl _))),(by rw[e92];exact hm3),(by rw[List.length_append,hrow];rfl),Qe,(by rw[List.take_append_of_le_length hi2,htk]),(by rw[Hf,JY,Int.toNat_of_nonneg hb64.1];exact hA85),(by rw[JY];exact hA95)⟩
   refine Qc 4 K M ?_;intro _ K;obtain⟨x90,m90,f90,q90,_,la90,lo90,lp90⟩:=(Mem.Yl (L:=[(c20,0,(nu2.map (fun z=>iZ z))),(c4,0,[iZ (a.tr:Nat),ka4,kr4]),(c2,0,[iZ 0,.nils,.nils]),(c1,0,[iZ (a.tr:Nat),ka,kn])]) (A:=Ac) (B:=(Al2++(Aa++(Ar++(Aw++[]))))) M hAc).load (i:=(y64).toNat) (cs:=_) (Jt hi69);refine p1 K (Qb (j:=(y64).toNat) Qw (congrArg some q90) (congrArg (fun z=>some (iZ z)) (by omega:_=(((y64).toNat:Nat):Int))) (by rw[Qn];omega)) fun _ K=>p1 K (Qd rfl (lo90 _ 0 _ Qr rfl)) fun _ K=>?_;obtain⟨y92,hi92⟩:=U9 nu2 ((y69).toNat) Qe;refine p1 K (Qb (j:=(y69).toNat) Qw rfl (congrArg (fun z=>some (iZ z)) (by omega:_=(((y69).toNat:Nat):Int))) Qe) fun _ K=>p1 K (Qd rfl (M.load (k:=0) rfl (Qf Qr (Wc (fun z=>iZ z) hi92)))) fun _ K=>?_;refine au 1 K M ?_;intro c94 _ _ K _ M;refine Jg (k2:=0) (L:=((c94,0,[iZ y92])::(c20,0,(nu2.map (fun z=>iZ z)))::(c4,0,[iZ (a.tr:Nat),ka4,kr4])::(c2,0,[iZ 0,.nils,.nils])::(c1,0,[iZ (a.tr:Nat),ka,kn])::(Ac++(Al2++(Aa++(Ar++[])))))) (A:=Aw) (B:=[]) K (Mem.cast (M:=((c94,0,[iZ y92])::(c20,0,(nu2.map (fun z=>iZ z)))::(c4,0,[iZ (a.tr:Nat),ka4,kr4])::(c2,0,[iZ 0,.nils,.nils])::(c1,0,[iZ (a.tr:Nat),ka,kn])::(Ac++(Al2++(Aa++(Ar++(Aw++[]))))))) (M':=((c94,0,[iZ y92])::(c20,0,(nu2.map (fun z=>iZ z)))::(c4,0,[iZ (a.tr:Nat),ka4,kr4])::(c2,0,[iZ 0,.nils,.nils])::(c1,0,[iZ (a.tr:Nat),ka,kn])::(Ac++(Al2++(Aa++(Ar++[])))))++(Aw++[])) M Uu) hAw QM rfl rfl rfl rfl (by rw[Qn];omega) rfl fun ks95 A95 _ _ K hA95 M=>?_;simp only[List.append_assoc,List.cons_append,List.nil_append,List.set_cons_zero,List.set_cons_succ]at M;refine Qc 4 K M ?_;intro _ K;have e92:y92=y71:=(V9 hi92).symm.trans (V9 hi71);have hm3:=hm2.J8 wf hcls hon (s:=y47) (y:=(y64).toNat) (z:=y92) (by rw[hrl];exact hi47) Qe (by rw[hrow];exact JJ hi49 hi64) Qe (by rw[hcv69];exact V9 hi92) Qe;exact⟨_,Qe,c+1,ls2,kl2,Al2,(row++[y92]),ks95,A95,nu2,rfl,(K.sub rfl),(B.step M).less (.cons _ (.refl _)),hm3,(by rw[List.length_append,hrow];rfl),Qe,htk,hAl2,(by rw[JY];exact hA95)⟩
  refine QW ?_;show W _ _ _ _ _ _ _;refine QD ?_;refine QF (l:=[(0,0),(1,0),(2,0),(3,0),(4,0),(5,0),(6,0),(7,0),(8,0),(9,0),(10,0),(11,0),(12,0),(13,0)]) (by kernel_rfl) ?_;refine Jc 6 K M ?_;intro _ K;obtain⟨y102,hi102⟩:=U9 ls2 i Qe;have hls102:=hm2.lt y102 (List.mem_of_getElem? hi102);obtain⟨x102,m102,f102,q102,_,la102,lo102,lp102⟩:=(Mem.Yl (L:=((c20,0,(nu2.map (fun z=>iZ z)))::(c4,0,[iZ (a.tr:Nat),ka4,kr4])::(c2,0,[iZ 0,.nils,.nils])::(c1,0,[iZ (a.tr:Nat),ka,kn])::(Ac++[]))) (A:=Al2) (B:=(Aa++(Ar++(Aw++[])))) (Mem.cast (M:=((c20,0,(nu2.map (fun z=>iZ z)))::(c4,0,[iZ (a.tr:Nat),ka4,kr4])::(c2,0,[iZ 0,.nils,.nils])::(c1,0,[iZ (a.tr:Nat),ka,kn])::(Ac++(Al2++(Aa++(Ar++(Aw++[]))))))) (M':=((c20,0,(nu2.map (fun z=>iZ z)))::(c4,0,[iZ (a.tr:Nat),ka4,kr4])::(c2,0,[iZ 0,.nils,.nils])::(c1,0,[iZ (a.tr:Nat),ka,kn])::(Ac++[]))++(Al2++(Aa++(Ar++(Aw++[]))))) M Uu) hAl2).load (i:=i) (cs:=_) (Fy hi102);refine q1 rfl K (Qb (j:=i) Qw (congrArg some q102) rfl (by rw[Qn,List.length_map];omega)) fun _ K=>q1 rfl K (Qd rfl (lo102 _ 0 _ Qr rfl)) fun _ K=>?_;obtain⟨y104,hi104⟩:=U9 a.acc y102 Qe;obtain⟨x104,m104,f104,q104,_,la104,lo104,lp104⟩:=((B.step M).Be hf hA).load (i:=y102) (cs:=_) (VD hi104);refine q1 rfl K (Qb (j:=y102) Jx (congrArg some q104) rfl (by rw[Jy];omega)) fun _ K=>q1 rfl K (Qd rfl (lo104 _ 0 _ J0 rfl)) fun _ K=>?_;refine Xk rfl K M J5 XZ rfl rfl rfl rfl rfl fun c106 _ _ K M=>?_;refine X8 (k2:=0) (L:=((c106,0,[.bool y104])::(c20,0,(nu2.map (fun z=>iZ z)))::(c4,0,[iZ (a.tr:Nat),ka4,kr4])::(c2,0,[iZ 0,.nils,.nils])::(c1,0,[iZ (a.tr:Nat),ka,kn])::(Ac++(Al2++[])))) (A:=Aa) (B:=(Ar++(Aw++[]))) rfl K (Mem.cast (M:=((c106,0,[.bool y104])::(c20,0,(nu2.map (fun z=>iZ z)))::(c4,0,[iZ (a.tr:Nat),ka4,kr4])::(c2,0,[iZ 0,.nils,.nils])::(c1,0,[iZ (a.tr:Nat),ka,kn])::(Ac++(Al2++(Aa++(Ar++(Aw++[]))))))) (M':=((c106,0,[.bool y104])::(c20,0,(nu2.map (fun z=>iZ z)))::(c4,0,[iZ (a.tr:Nat),ka4,kr4])::(c2,0,[iZ 0,.nils,.nils])::(c1,0,[iZ (a.tr:Nat),ka,kn])::(Ac++(Al2++[])))++(Aa++(Ar++(Aw++[])))) M Uu) hAa J5 rfl rfl rfl rfl (by rw[Jy,List.length_map,List.length_take];omega) rfl fun ks107 A107 _ _ K hA107 M=>?_;simp only[List.append_assoc,List.cons_append,List.nil_append,List.set_cons_zero,List.set_cons_succ]at M;refine Jc 1 K M ?_;intro _ K;refine Zi (k:=2) rfl K M rfl rfl rfl UF (hA107.cell) rfl fun _ M=>?_;refine QH ?_;show W _ _ _ _ _ _ _;refine Qc 1 K M ?_;intro _ K;refine p1 K (Qd rfl (M.load (k:=2) rfl (Qf Q6 rfl))) fun _ K=>?_;refine Qc 1 K M ?_;intro _ K;refine ZV K M QU Uv rfl ((JC rfl hAw.cell rfl).trans rfl) (Qa hAw.cell Qz) rfl rfl fun c112 _ _ K M=>?_;refine YL (k2:=0) (L:=((c112,0,[kw])::(c106,0,[.bool y104])::(c20,0,(nu2.map (fun z=>iZ z)))::(c4,0,[iZ (a.tr:Nat),ks107,kr4])::(c2,0,[iZ 0,.nils,.nils])::(c1,0,[iZ (a.tr:Nat),ka,kn])::(Ac++(Al2++(A107++[]))))) (A:=Ar) (B:=(Aw++[])) K (Mem.cast (M:=((c112,0,[kw])::(c106,0,[.bool y104])::(c20,0,(nu2.map (fun z=>iZ z)))::(c4,0,[iZ (a.tr:Nat),ks107,kr4])::(c2,0,[iZ 0,.nils,.nils])::(c1,0,[iZ (a.tr:Nat),ka,kn])::(Ac++(Al2++(A107++(Ar++(Aw++[]))))))) (M':=((c112,0,[kw])::(c106,0,[.bool y104])::(c20,0,(nu2.map (fun z=>iZ z)))::(c4,0,[iZ (a.tr:Nat),ks107,kr4])::(c2,0,[iZ 0,.nils,.nils])::(c1,0,[iZ (a.tr:Nat),ka,kn])::(Ac++(Al2++(A107++[]))))++(Ar++(Aw++[]))) M Uu) hAr QU rfl rfl rfl (by have:=YR.ln ((B.step M).at_ (k:=0) rfl);have:=hm2.le;omega) rfl fun ks113 A113 _ _ K hA113 _ M=>?_;simp only[List.append_assoc,List.cons_append,List.nil_append,List.set_cons_zero,List.set_cons_succ]at M;refine Qc 1 K M ?_;intro _ K;refine Jj (k:=3) K M rfl rfl rfl Uz (hA113.cell) rfl fun _ M=>?_;refine Qc 3 K M ?_;intro _ K;replace B:=B.step M;obtain⟨Fr,B⟩:=Qk.ZF (L:=((c112,0,[kw])::(c106,0,[.bool y104])::(c20,0,(nu2.map (fun z=>iZ z)))::(c4,0,[iZ (a.tr:Nat),ks107,ks113])::(c2,0,[iZ 0,.nils,.nils])::(c1,0,[iZ (a.tr:Nat),ka,kn])::(Ac++(Al2++(A107++(A113++[])))))) (A:=Aw) (B:=[]) (B.cast Uu) hAw (hm2.AU wf);replace B:=B.cast (M':=((c112,0,[kw])::(c106,0,[.bool y104])::(c20,0,(nu2.map (fun z=>iZ z)))::(c4,0,[iZ (a.tr:Nat),ks107,ks113])::(c2,0,[iZ 0,.nils,.nils])::(c1,0,[iZ (a.tr:Nat),ka,kn])::(Ac++(Al2++(A107++(A113++[])))))) Uu;have M:=B.mem;have hi2:=Uy htk Qe
  have htq:ls2.take (i+1)=ls2.take i++[y102]:=by rw[List.take_add_one,hi102];rfl
  have hti:ls2.take i=ls.take i:=by have:=congrArg (fun l=>l.take i) htk;simpa [List.take_take,Nat.min_eq_left]using this
  exact⟨_,Qe,i+1,ls2,kl2,Al2,(rows++[row]),_,_,ks107,A107,ks113,A113,nu2,rfl,(K.sub rfl),(B.step M).less (.cons _ (.cons _ (.refl _))),(hm2.whole Qe),(by rw[List.length_append,hrl];rfl),hi2,hAl2,(by rw[htq,hti,List.map_append,XS,show [y102].map a.ok=[y104] by rw[List.map_singleton,LW hi104]];exact hA107),hA113⟩
 refine QW ?_;show W _ _ _ _ _ _ _;refine Qc 1 K M ?_;intro _ K;refine QS (k:=2) K M rfl rfl rfl QC rfl (Qa rfl (Qa hAa.cell (Qa hAr.cell Qz))) rfl fun _ M=>?_;refine Qc 0 K M ?_;have hlt:ls.take i=ls:=List.take_of_length_le Qe;rw[hlt]at hAa;replace B:=B.step M;obtain⟨F',B'⟩:=Qk.GR (L:=((c20,0,(nu.map (fun z=>iZ z)))::(c4,0,[iZ (a.tr:Nat),ka4,kr4])::(c2,0,[iZ (a.tr:Nat),ka4,kr4])::(c1,0,[iZ (a.tr:Nat),ka,kn])::(Ac++(Al++Aa)))) (A:=Ar) (B:=[]) (B.cast Uu) hAr;exact⟨cl,_,⟨a.tr,ls.map a.ok,rows⟩,hcls,rfl,hm.made wf hcls Qe,Qk.GQ (a:=⟨a.tr,ls.map a.ok,rows⟩) (M:=((c20,0,(nu.map (fun z=>iZ z)))::(c4,0,[iZ (a.tr:Nat),ka4,kr4])::(c2,0,[iZ (a.tr:Nat),ka4,kr4])::(c1,0,[iZ (a.tr:Nat),ka,kn])::(Ac++Al))) (A:=Aa) (B'.cast QA) hAa,B.qt⟩
end Go.Proofs.YtiknomepbklibaaGreatDoor
end
section
namespace Go.Proofs.YtiknomepbklibaaGreatDoor
open Go Go.RowKit
variable {S:UG} {cl xs:List Int} {ids rs:List Nat} {n r:Nat}

section
variable {α:Type} {key:α→AV} {P:Program} {G:Env} {N:Nat} {st0 st:St} {X0:Fp} {M:QP} {Os:List Ob} {T:Tr AV} {ops rest:List Oper} {K:List (Nat×AV)} {R:Tr AV→St→Prop} {t ty:TypeId} {pos:String} {af:Array Edge} {z v:AV} {cm j:Nat} {L:List (α×AV)} {a:α} {m k x:Operand}
theorem z8{tys:Array TypeId}{kt et:TypeId}(hu:P.underlying t=some (.map kt et))(htys:tys= #[t])(hH:(Wd cm key L).H st.h.get)(hm:Jb G K m=some (.mp cm)):U4 P G K (.call {callee:=.builtin .len,args:= #[m],argTypes:=tys}) st (.int .i64 (L.length:Nat)) st:=.of fun T' hT c d ty pos af g=>by
 subst htys;obtain⟨es,n,hc,he⟩:=hH
 have hl:es.length=L.length:=by have:=congrArg List.length he;rwa [List.length_map,List.length_map]at this
 show Qo (Xc P [t]) (ob (QJ G T' m) fun x=>ret (BH x st.h.get) st) _=_;rw[show Xc P [t]=true by unfold Xc;simp only[hu],Q7,hT.QJ hm,Ql];show ret (ob (st.h.get cm) _) st=_;rw[hc,Ql];simp only[Ji,Ur,hl];rfl
theorem zB(Tk:VH P t key z){es:List (AV×AV×Nat)}(hc:st.h.get cm=some (.map es n))(he:Oc key es L)(hm:Jb G K m=some (.mp cm))(hk:Jb G K k=some (key a))(hx:Jb G K x=some v)(hv:Qu v=true)(hn:Yn L a=none):
  U4 P G K (.insert t m k x) st (.tup []) (EV st cm n es (key a) v):=.of fun T' hT c d ty pos af g=>by
 obtain⟨kt,et,d',u1,u2,u3,u4,u5,u6⟩:=Tk.rule;show(ob (QJ G T' m) fun m=>ob (QJ G T' k) fun k=>ob (QJ G T' x) fun x=>Z3 P t m k x st)=_;rw[hT.QJ hm,hT.QJ hk,hT.QJ hx,Ql,Ql,Ql];unfold Z3 EV;obtain⟨f1,f2⟩:=VH.find (P:=P) (t:=t) (z:=z) (et:=et) u5 u6 a L es 0 he;simp only[u1,u2,u4,QO,hc,Ql,f1 hn,hv,Bool.true_or,Ub,U7,Ji,UI]
theorem yI(hK:QZ K T)(B:Qk st0 X0 st M Os)(hj:Os[j]? =some (Wd cm key L))(Tk:VH P t key z)(hm:Jb G K m=some (.mp cm))(hk:Jb G K k=some (key a))(hx:Jb G K x=some v)(hv:Qu v=true)(hn:Yn L a=none)
  (hr: ∀st',Qk st0 X0 st' M (Os.set j (Wd cm key (L++[(a,v)])))→WR P G N ops rest R T st'):WR P G N ops (⟨none,.insert t m k x,ty,pos,af,none⟩::rest) R T st:=by
 obtain⟨es,n,hc,he⟩:=B.at_ hj;exact Sb hK (zB Tk hc he hm hk hx hv hn) (hr _ (B.BB hj hc he a v))
end
theorem Jk.eG{P:Program}{h:Hp}{X:List Nat}{z:Nat}{ls:List (List AV)}{ks:AV}(r:Jk h X z ls ks){i:Nat}{cs:List AV}(hi:ls[i]? =some cs): ∃c m off,ks=.sl c m off ls.length z∧c∉X∧ ∀(h':Hp) (Y:List Nat),Jk h' Y z ls ks→
  (∀t,tk P t=.agg z→Jq P t (.ptr c m (off+i *z)) h'=some (.agg cs))∧(∀t j v,tk P t=.one→cs[j]? =some v→Jq P t (.ptr c m (off+i *z+j)) h'=some v)∧
  (∀t j n,tk P t=.agg n→j+n≤z→Jq P t (.ptr c m (off+i *z+j)) h'=some (.agg ((cs.drop j).take n))):=by
 obtain⟨c,m,off,e,hX,_⟩:=r.load (P:=P) hi;refine⟨c,m,off,e,hX,fun h' Y r'=>?_⟩;obtain⟨c',m',off',e',_,k⟩:=r'.load (P:=P) hi;rw[e]at e'
 injection e' with e1 e2 e3
 subst e1 e2 e3;exact k
theorem DP{α:Type}: ∀(j:Nat) (S:List α),(UT j S).length=S.length
 |_,[]=>rfl
 |j,x::S=>by rw[UT,List.length_cons,List.length_cons,DP (j+1) S]
theorem zA{α:Type}{key:α→AV}{P:Program}{G:Env}{st:St}{K:List (Nat×AV)}{t:TypeId}{cm:Nat}{S:List α}{m:Operand}{tys:Array TypeId}{kt et:TypeId}(hu:P.underlying t=some (.map kt et))(htys:tys= #[t])(hH:(Wd cm key (UT 0 S)).H st.h.get)(hm:Jb G K m=some (.mp cm)):U4 P G K (.call {callee:=.builtin .len,args:= #[m],argTypes:=tys}) st (.int .i64 (S.length:Nat)) st:=by
 have h:=z8 (key:=key) (L:=UT 0 S) hu htys hH hm;rw[DP]at h;exact h
def Xh(T:Nat)(S:UG)(a:Au)(rs:List Nat):Prop:= ∀(s r:Nat),rs[s]? =some r→r<S.length∧ ∀c,c<2^T→Y8 S r c=((a.go s c:Nat):Int)
theorem Xh.pre{T:Nat}{S':UG}{a:Au}(H:Xh T S a rs)(W:Xq T S)(h:S<+:S'):Xh T S' a rs:=fun s r hs=>by
 obtain⟨h1,h2⟩:=H s r hs;exact⟨Nat.lt_of_lt_of_le h1 h.length_le,fun c hc=>by rw[Zr W h h1];exact h2 c hc⟩
def Kr(S:UG)(a:Au)(cl:List Int)(T:Nat)(ids:List Nat):Prop:= ∀(s r:Nat),ids[s]? =some r→r<S.length∧ ∀c,c<2^T→Y8 S r c=cv cl (a.go s c)
theorem Kr.pre{T:Nat}{S':UG}{a:Au}(H:Kr S a cl T ids)(W:Xq T S)(h:S<+:S'):Kr S' a cl T ids:=fun s r hs=>by
 obtain⟨h1,h2⟩:=H s r hs;exact⟨Nat.lt_of_lt_of_le h1 h.length_le,fun c hc=>by rw[Zr W h h1];exact h2 c hc⟩
theorem Kr.snoc{T:Nat}{a:Au}(H:Kr S a cl T ids)(hr:r<S.length)(he: ∀c,c<2^T→Y8 S r c=cv cl (a.go ids.length c)):Kr S a cl T (ids++[r]):=fun s q hs=>by
 by_cases hlt:s<ids.length
 ·rw[List.getElem?_append_left hlt]at hs;exact H s q hs
 ·have h3:=(List.getElem?_eq_some_iff.1 hs).1;rw[List.length_append,List.length_singleton]at h3
  have h4:s=ids.length:=by omega
  subst h4;rw[List.getElem?_append_right (Nat.le_refl _),Nat.sub_self]at hs
  injection hs with hs
  subst hs;exact⟨hr,he⟩
def Ow(n:Nat)(cl:List Int)(ids:List Nat):List Int:=(List.range ids.length).map fun s=>(((ids[s]?).getD 0:Nat):Int) *((n:Nat):Int)+cv cl s
theorem W7(n:Nat)(cl:List Int)(ids:List Nat):(Ow n cl ids).length=ids.length:=by simp[Ow]
theorem Mn(n:Nat)(cl:List Int)(ids:List Nat)(r:Nat):Ow n cl (ids++[r])=Ow n cl ids++[((r:Nat):Int) *((n:Nat):Int)+cv cl ids.length]:=by
 unfold Ow;rw[List.length_append,List.length_singleton,List.range_succ,List.map_append,List.map_singleton]
 congr 1
 ·refine List.map_congr_left fun s hs=>?_;rw[List.getElem?_append_left (List.mem_range.1 hs)]
 ·rw[List.getElem?_append_right (Nat.le_refl _),Nat.sub_self];rfl
theorem SN{s:Nat}(h:ids[s]? =some r):cv (Ow n cl ids) s=((r:Nat):Int) *((n:Nat):Int)+cv cl s:=by
 have hlt:=(List.getElem?_eq_some_iff.1 h).1;unfold Ow;rw[RB (List.getElem?_range hlt),h];rfl
theorem Rk{T:Nat}{a:Au}(W:Xq T S)(H:Kr S a cl T ids)(hT:a.tr=T)(hl:ids.length=a.n)(hc: ∀s,s<a.n→0≤cv cl s∧cv cl s<((a.n:Nat):Int)):A3 a cl (Ug [] (Ow a.n cl ids)):=by
 refine⟨by rw[XF,W7,hl],fun s t hs ht=>?_⟩;obtain⟨r,hr⟩: ∃r,ids[s]? =some r:=⟨_,List.getElem?_eq_getElem Qe⟩;obtain⟨q,hq⟩: ∃r,ids[t]? =some r:=⟨_,List.getElem?_eq_getElem Qe⟩;obtain⟨h1,h2⟩:=H s r hr;obtain⟨h3,h4⟩:=H t q hq;rw[Hx (by rw[W7,hl];exact hs) (by rw[W7,hl];exact ht),SN hr,SN hq,jg (hc s hs) (hc t ht)];refine⟨fun⟨e1,e2⟩=>⟨e2,fun c hcK=>?_⟩,fun⟨e1,e2⟩=>⟨?_,e1⟩⟩
 ·have e1:r=q:=by omega
  subst e1
  have hcK:c<2^T:=by rw[←hT];exact hcK
  rw[←h2 c hcK,←h4 c hcK]
 ·have:=wk W h1 h3 fun c hcT=>by rw[h2 c hcT,h4 c hcT];exact e2 c (by unfold Au.K;rw[hT];exact hcT)
  rw[this]
theorem Xh.snoc{T:Nat}{a:Au}(H:Xh T S a rs)(hr:r<S.length)(he: ∀c,c<2^T→Y8 S r c=((a.go rs.length c:Nat):Int)):Xh T S a (rs++[r]):=fun s q hs=>by
 by_cases hlt:s<rs.length
 ·rw[List.getElem?_append_left hlt]at hs;exact H s q hs
 ·have h3:=(List.getElem?_eq_some_iff.1 hs).1;rw[List.length_append,List.length_singleton]at h3
  have h4:s=rs.length:=by omega
  subst h4;rw[List.getElem?_append_right (Nat.le_refl _),Nat.sub_self]at hs
  injection hs with hs
  subst hs;exact⟨hr,he⟩
theorem Xh.val{T:Nat}{a:Au}{s:Nat}(H:Xh T S a rs)(W:Zt a)(V:Xq T S)(ht:a.tr=T)(hs:s<a.n)(h:rs[s]? =some r)(c:Nat):0≤Y8 S r c∧Y8 S r c<((a.n:Nat):Int):=by
 have hc:c % 2^T<2^T:=Nat.mod_lt _ (Nat.two_pow_pos T);rw[←R4 V,(H s r h).2 _ hc];have:=W.UQ hs (c:=c % 2^T) (by unfold Au.K;rw[ht];exact hc);omega
def Cn(a:Au)(i:Nat):List Int:=(List.range i).map fun s=>((En (a.ok s):Nat):Int)
theorem VE(a:Au)(i:Nat):(Cn a i).length=i:=by simp[Cn]
theorem GG(a:Au)(i:Nat):Cn a (i+1)=Cn a i++[((En (a.ok i):Nat):Int)]:=by unfold Cn;rw[List.range_succ,List.map_append];rfl
theorem ql(a:Au):IM a (Ug [] (Cn a a.n)):=N0 (by rw[XF,VE]) fun s t hs ht=>by
 rw[Hx (by rw[VE];exact hs) (by rw[VE];exact ht)];unfold Cn;rw[RB (List.getElem?_range hs),RB (List.getElem?_range ht)]
 cases a.ok s<;>cases a.ok t<;>decide
theorem SH(h:xs.length=n): ∀s,s<n→0≤cv (Ug [] xs) s∧cv (Ug [] xs) s<((n:Nat):Int):=fun s hs=>by
 have:=jA (xs:=xs) (s:=s) Qe;omega
theorem wz{l:List Int}(hl:l.length=n)(h: ∀s,s<n→0≤cv l s∧cv l s<((n:Nat):Int))(z:Int)(hz:z∈l):0≤z∧z<((n:Nat):Int):=by
 obtain⟨s,hs⟩:=List.getElem?_of_mem hz;have hlt:=(List.getElem?_eq_some_iff.1 hs).1;have:=h s Qe;unfold cv at this;rw[hs]at this;exact this
theorem qu:Tryz.prog.underlying 141=some (.map 3 3):=by kernel_rfl

theorem Kb{st:St}(hf:Qj st){kl:AV}(hl:Jk st.h.get [] 1 (zC xs) kl)(hx:xs.length≤1000000): ∃v st',Ev Tryz.prog Q5 140 [kl] st v st'∧ ∃kr,v=kr∧Ep st st' 1 kr (zC (Ug [] xs))∧Qt st st':=by
 have B:=Qk.start hf;have hlc:=hl.cell;refine JI Tryz.func140 Tryz.ntmps140 fun T K=>?_;have M:=B.mem;refine Qc 1 K M ?_;intro _ K;replace B:=B.step M;refine Wq Kz K B rfl fun c9 _ _ K B=>?_;have M:=B.mem;refine Qc 3 K M ?_;intro _ K;refine p1 K (Q8 Jr rfl rfl (hl.len.trans (congrArg some (Qn _)))) fun _ K=>?_;refine Qc 1 K M ?_;intro _ K;refine Je (fun mm1 T st9=> ∃(i:Nat) (kr:AV) (A:QP),mm1=xs.length-i∧QZ [(2,.nils),(3,.mp c9),(4,kr),(10,kl),(11,iZ (xs.length:Nat)),(12,iN i)] T∧Qk st Xu st9 (A++[]) [Wd c9 Kz (UT 0 (Ua [] (xs.take i)))]∧i≤xs.length∧Acc 0 1 A kr (zC (Ug [] (xs.take i)))) (fun mm1 T st9 hI=>?_) _ _ _ ⟨0,.nils,[],rfl,(K.sub rfl),(B.step M).less (.refl _),(Nat.zero_le _),(by rw[List.take_zero];exact .none)⟩;obtain⟨i,kr,A,rfl,K,B,hi,hA⟩:=hI;have M:=B.mem;refine Qc 1 K M ?_;intro _ K;refine JS K rfl (fun h13=>?_) fun h13=>?_
 ·refine Qc 0 K M ?_;intro _ K;obtain⟨y14,hi14⟩:=U9 xs i Qe;obtain⟨x14,m14,f14,q14,_,la14,lo14,lp14⟩:=((B.step M).Be hf hl).load (i:=i) (cs:=_) (Jt hi14);refine p1 K (Qb (j:=i) Qw (congrArg some q14) rfl (by rw[Qn];omega)) fun _ K=>p1 K (Qd rfl (lo14 _ 0 _ Qr rfl)) fun _ K=>?_;refine Qc 3 K M ?_;intro _ K;refine p1 K (W2 (a:=y14) H8 ((B.step M).at_ (k:=0) rfl) rfl rfl) fun _ K=>?_;refine Qc 5 K M ?_;intro _ K
  have htk:xs.take (i+1)=xs.take i++[y14]:=by rw[List.take_add_one,hi14];rfl
  refine Qc 2 K M ?_;intro _ K;refine Qq (K.QJ rfl) (fun h23=>?_) (fun h23=>?_)
  ·have hb23:=h23
   replace h23:((Yn (UT 0 (Ua [] (xs.take i))) (y14)).isSome)=false:=by simpa using h23
   refine Qc 1 K M ?_;intro _ K;refine p1 K (zA qu rfl ((B.step M).at_ (k:=0) rfl) rfl) fun _ K=>?_;refine Qc 4 K M ?_;intro _ K
   have hnone:Yn (UT 0 (Ua [] (xs.take i))) y14=none:=by cases hq:Yn (UT 0 (Ua [] (xs.take i))) y14 with|none=>rfl|some x=>rw[hq]at h23;cases h23
   have hnew:=La (xs.take i) [] (Np hnone);replace B:=B.step M;refine Hg (j:=0) (a:=y14) K B rfl H8 rfl rfl rfl rfl hnone fun _ B=>?_;rw[show UT 0 (Ua [] (xs.take i))++[(y14,iZ ((Ua [] (xs.take i)).length:Nat))]=UT 0 (Ua [] (xs.take (i+1))) by rw[htk,hnew.2,AM,Nat.zero_add]]at B;have M:=B.mem;refine au 3 K M ?_;intro c31 _ _ K _ M;refine Jg (k2:=0) (L:=[(c31,0,[iZ ((Ua [] (xs.take i)).length:Nat)])]) (A:=A) (B:=[]) K M hA QM rfl rfl rfl rfl (by rw[Qn,XF,List.length_take];omega) rfl fun ks32 A32 _ _ K hA32 M=>?_;refine Qc 3 K M ?_;intro _ K
   have hout:Ug [] (xs.take (i+1))=Ug [] (xs.take i)++[(((Ua [] (xs.take i)).length:Nat):Int)]:=by rw[htk,hnew.1]
   exact⟨_,Qe,i+1,ks32,A32,rfl,(K.sub rfl),(B.step M).less (.cons _ (.refl _)),Qe,(by rw[hout,JY];exact hA32)⟩
  have hb23:=h23
  replace h23:((Yn (UT 0 (Ua [] (xs.take i))) (y14)).isSome)=true:=by simpa using h23
  refine Xr ?_;show W _ _ _ _ _ _ _
  obtain⟨v0,hv0⟩: ∃x,Yn (UT 0 (Ua [] (xs.take i))) y14=some x:=by cases hq:Yn (UT 0 (Ua [] (xs.take i))) y14 with|none=>rw[hq]at h23;cases h23|some x=>exact⟨x,rfl⟩
  obtain⟨j,hj,rfl⟩:=No hv0;rw[hv0]at K;obtain⟨e1,e2⟩:=KZ (xs.take i) [] List.nodup_nil hj;refine au 3 K M ?_;intro c31 _ _ K _ M;refine Jg (k2:=0) (L:=[(c31,0,[iN j])]) (A:=A) (B:=[]) K M hA QM rfl rfl rfl rfl (by rw[Qn,XF,List.length_take];omega) rfl fun ks32 A32 _ _ K hA32 M=>?_;refine Qc 3 K M ?_;intro _ K
  have hout:Ug [] (xs.take (i+1))=Ug [] (xs.take i)++[((j:Nat):Int)]:=by rw[htk,e1]
  have hsn:Ua [] (xs.take (i+1))=Ua [] (xs.take i):=by rw[htk,e2]
  replace B:=B.step M;rw[←hsn]at B;have M:=B.mem;exact⟨_,Qe,i+1,ks32,A32,rfl,(K.sub rfl),(B.step M).less (.cons _ (.refl _)),Qe,(by rw[hout,JY];exact hA32)⟩
 refine QW ?_;show W _ _ _ _ _ _ _;refine QD ?_;rw[List.take_of_length_le Qe]at hA;refine Qc 2 K M ?_;exact⟨_,rfl,(B.step M).newRow hA (fun c m l h=>by simp[h]),(B.step M).qt⟩

theorem MO{st:St}(hf:Qj st){ys:List Int}{ka kb:AV}(ha:Jk st.h.get [] 1 (zC xs) ka)(hb:Jk st.h.get [] 1 (zC ys) kb): ∃v st',Ev Tryz.prog Q5 142 [ka,kb] st v st'∧v=.bool (decide (xs=ys))∧Qt st st':=by
 have hbnxs:(xs.length:Int)≤9223372036854775807:=by have:=ha.E0;rw[Qn]at this;exact this
 have hbnys:(ys.length:Int)≤9223372036854775807:=by have:=hb.E0;rw[Qn]at this;exact this
 refine JI Tryz.func142 Tryz.ntmps142 fun T K=>?_;have M:=Mem.start hf;refine Qc 2 K M ?_;intro _ K;refine p1 K (Q8 Jr rfl rfl (ha.len.trans (congrArg some (Qn _)))) fun _ K=>?_;refine Qc 1 K M ?_;intro _ K;refine p1 K (Q8 Jr rfl rfl (hb.len.trans (congrArg some (Qn _)))) fun _ K=>?_;refine Qc 1 K M ?_;intro _ K;refine Qq (K.QJ rfl) (fun h10=>?_) (fun h10=>?_)
 ·have hb10:=h10
  replace h10: ¬(((xs.length:Nat):Int)=((ys.length:Nat):Int)):=by first|exact of_decide_eq_false h10|exact yF h10|simpa using h10
  refine Qc 1 K M ?_;refine⟨congrArg AV.bool ?_,M.qt⟩;refine(decide_eq_false fun e=>?_).symm;subst e
  first|(exact h10 rfl)|(rw[hi18]at hi22;injection hi22 with e;exact h24 Qe)
 have hb10:=h10
 replace h10:(((xs.length:Nat):Int)=((ys.length:Nat):Int)):=by first|exact of_decide_eq_true h10|exact yT h10|simpa using h10
 refine Qc 1 K M ?_;intro _ K;refine p1 K (Q8 Jr rfl rfl (ha.len.trans (congrArg some (Qn _)))) fun _ K=>?_;refine Qc 1 K M ?_;intro _ K;refine Je (fun mm1 T st9=> ∃(i:Nat),mm1=xs.length-i∧QZ [(0,ka),(1,kb),(12,iZ (xs.length:Nat)),(13,iN i)] T∧Mem st.h.get st.n [] st9 []∧i≤xs.length∧(∀j,j<i→xs[j]? =ys[j]?)) (fun mm1 T st9 hI=>?_) _ _ _ ⟨0,rfl,(K.sub rfl),M.less (.refl _),(Nat.zero_le _),(fun j hj=>absurd hj (Nat.not_lt_zero j))⟩;obtain⟨i,rfl,K,M,hi,hs⟩:=hI;refine Qc 1 K M ?_;intro _ K;refine JS K rfl (fun h14=>?_) fun h14=>?_
 ·refine Qc 2 K M ?_;intro _ K;refine QF (l:=[(0,0),(1,0),(2,0),(3,0),(4,0),(5,0),(6,0),(7,0),(8,0)]) (by kernel_rfl) ?_;refine Jc 2 K M ?_;intro _ K;obtain⟨y18,hi18⟩:=U9 xs i Qe;obtain⟨x18,m18,f18,q18,_,la18,lo18,lp18⟩:=(Jk.mem M ha QA).load (i:=i) (cs:=_) (Jt hi18);refine q1 rfl K (Qb (j:=i) Qw (congrArg some q18) rfl (by rw[Qn];omega)) fun _ K=>q1 rfl K (Qd rfl (lo18 _ 0 _ Qr rfl)) fun _ K=>?_;refine Jc 2 K M ?_;intro _ K;obtain⟨y22,hi22⟩:=U9 ys i Qe;obtain⟨x22,m22,f22,q22,_,la22,lo22,lp22⟩:=(Jk.mem M hb QA).load (i:=i) (cs:=_) (Jt hi22);refine q1 rfl K (Qb (j:=i) Qw (congrArg some q22) rfl (by rw[Qn];omega)) fun _ K=>q1 rfl K (Qd rfl (lo22 _ 0 _ Qr rfl)) fun _ K=>q1 rfl K (Ra rfl rfl) fun _ K=>QH ?_;show W _ _ _ _ _ _ _;refine Qq (K.QJ rfl) (fun h24=>?_) (fun h24=>?_)
  ·have hb24:=h24
   replace h24: ¬(y18=y22):=by first|exact of_decide_eq_false h24|exact yF h24|simpa using h24
   refine Qc 1 K M ?_;refine⟨congrArg AV.bool ?_,M.qt⟩;refine(decide_eq_false fun e=>?_).symm;subst e
   first|(exact h10 rfl)|(rw[hi18]at hi22;injection hi22 with e;exact h24 Qe)
  have hb24:=h24
  replace h24:(y18=y22):=by first|exact of_decide_eq_true h24|exact yT h24|simpa using h24
  refine Qc 2 K M ?_;intro _ K;exact⟨_,Qe,i+1,rfl,(K.sub rfl),M.less (.refl _),Qe,(fun j hj=>by by_cases e:j=i;subst e;rw[hi18,hi22];exact congrArg some Qe;exact hs j Qe)⟩
 refine QW ?_;show W _ _ _ _ _ _ _;refine Qc 1 K M ?_;refine⟨congrArg AV.bool ?_,M.qt⟩;refine(decide_eq_true ?_).symm;apply List.ext_getElem?;intro j
 by_cases hj:j<xs.length
 ·exact hs j Qe
 ·rw[List.getElem?_eq_none Qe,List.getElem?_eq_none Qe]

theorem PR{st:St}(hf:Qj st){FD F:Fp}{dp sp:Nat}{a:Au}(hD:Ya st FD dp a)(hS:Z0 st F sp a.tr S)(hdF: ∀c,FD c→ ¬F c)(wfS0:Xq a.tr S){kr:AV}(hR:Jk st.h.get [] 1 (zC (zN rs)) kr)(offR: ∀c m o n y,kr=.sl c m o n y→ ¬F c)(hrl:rs.length=a.n)(hrs:Xh a.tr S a rs){kc:AV}(hC:Jk st.h.get [] 1 (zC cl) kc)(hcl:cl.length=a.n)(hcv: ∀s,s<a.n→0≤cv cl s∧cv cl s<((a.n:Nat):Int))(offC: ∀c m o n y,kc=.sl c m o n y→ ¬F c)(hlen:S.length+a.n *127≤1000000000): ∃v st',Ev Tryz.prog Q5 141 [.ptr dp 0 0,.ptr sp 0 0,kr,kc] st v st'∧ ∃kr' S' out st2,v=kr'∧XU st st2 F sp a.tr S'∧Qt st2 st'∧Ep st2 st' 1 kr' (zC (Ug [] out))∧S<+:S'∧Xq a.tr S'∧S'.length≤S.length+a.n *127∧out.length=a.n∧A3 a cl (Ug [] out):=by
 have wf:=hD.wf;have htr:=wf.tr;have hmo:=wf.most;have h127:2^(a.tr+1)≤128:=Nat.pow_le_pow_right QE (by omega:a.tr+1≤7);have hrc:=hR.cell;have hkc:=hC.cell
 have hbr:(rs.length:Int)≤9223372036854775807:=by omega
 have hn127: ∀k,k≤a.n→k *127≤a.n *127:=fun k hk=>Nat.mul_le_mul_right _ hk;have B:=Qk.UM (o:=XA F sp a.tr S) hf hS.at_ hS.hi;refine JI Tryz.func141 Tryz.ntmps141 fun T K=>?_;have M:=B.mem;refine Qc 3 K M ?_;intro _ K;refine p1 K (Q8 Jr rfl rfl (hR.len.trans (congrArg some (by rw[Qn,List.length_map])))) fun _ K=>?_;refine Qc 1 K M ?_;intro _ K;refine Je (fun mm1 T st9=> ∃(i:Nat) (ids:List Nat) (S2:UG) (F2:Fp) (ko:AV) (A:QP),mm1=rs.length-i∧QZ [(0,.ptr dp 0 0),(1,.ptr sp 0 0),(3,kc),(8,.nils),(9,ko),(12,kr),(13,iZ (rs.length:Nat)),(14,iN i)] T∧Qk st (XA F sp a.tr S).F st9 (A++[]) [XA F2 sp a.tr S2]∧ids.length=i∧i≤rs.length∧Kr S2 a cl a.tr ids∧S<+:S2∧Xq a.tr S2∧S2.length≤S.length+i *127∧Acc 0 1 A ko (zC (Ow a.n cl ids))) (fun mm1 T st9 hI=>?_) _ _ _ ⟨0,[],S,F,.nils,[],rfl,(K.sub rfl),(B.step M).less (.refl _),rfl,(Nat.zero_le _),(fun s r h=>by simp at h),(List.prefix_refl _),wfS0,Qe,.none⟩;obtain⟨i,ids,S2,F2,ko,A,rfl,K,B,hil,hi,himg,hpre,wfS,hSl,hA⟩:=hI;have M:=B.mem;have hni:=hn127 i Qe;refine Qc 1 K M ?_;intro _ K;refine JS K rfl (fun h15=>?_) fun h15=>?_
 ·refine Qc 1 K M ?_;intro _ K;obtain⟨y17,hi17⟩:=U9 rs i Qe;obtain⟨x17,m17,f17,q17,_,la17,lo17,lp17⟩:=((B.step M).rd hf hR offR).load (i:=i) (cs:=_) (Fy hi17);refine p1 K (Qb (j:=i) Qw (congrArg some q17) rfl (by rw[Qn,List.length_map];omega)) fun _ K=>p1 K (Qd rfl (lo17 _ 0 _ Qr rfl)) fun _ K=>?_;refine Qc 2 K M ?_;intro _ K;refine QF (l:=[(1,0),(2,0),(3,0),(4,0),(5,0),(6,0),(0,0),(7,0),(8,0),(9,0),(10,0),(11,2),(12,0),(13,0),(14,0),(15,0)]) (by kernel_rfl) ?_;have Mq:=M;have Mz0:=M;have Bz0:=B;refine Jc 3 K M ?_;intro _ K;replace B:=B.step M;have hRi:=hrs.pre wfS0 hpre;have hr17:=hRi i y17 hi17;have hvl:=hRi.val wf wfS rfl Qe hi17;obtain⟨v23,st23,ev23,r1,S3,rfl,hout,mb,hev⟩:=jb B.fresh (B.IW (k:=0) rfl) wf.tr wfS hr17.1 (B.rd hf hC offC) (B.off (k:=0) rfl hf hC offC) (fun z hz=>by have:=wz hcl hcv z hz;omega) (fun c=>by rw[hcl];exact hvl c) Qe;refine qA rfl K (Qh rfl ev23) fun _ K=>?_;obtain⟨F3,B⟩:=B.VR hout;have M:=B.mem;have hmbl:=mb.len;have hmlt:=mb.lt
  have hrn:0≤((r1:Nat):Int) *((a.n:Nat):Int)∧((r1:Nat):Int) *((a.n:Nat):Int)≤400000000000:=by
   have h1:=Nat.mul_le_mul (show r1≤1000000000 by omega) (show a.n≤400 from hmo);rw[←Int.natCast_mul];omega
  have Mp:=Mq;have Mq:=M;have Mz1:=M;have Bz1:=B;refine q1 rfl K (Qg rfl) fun _ K=>?_;obtain⟨v25,st25,ev25,rfl,q25⟩:=G4 M.fresh (hD.Of (B.step M).JO hdF);refine qA rfl K (Qh rfl ev25) fun _ K=>?_;replace M:=M.quiet q25;have Mp:=Mq;have Mq:=M;have Mz2:=M;have Bz2:=B;refine q1 rfl K (Qg rfl) fun _ K=>q1 rfl K (SD (c:=((r1:Nat):Int) *((a.n:Nat):Int)) rfl rfl (IntWalk.i64_in _ Qe)) fun _ K=>?_;refine Jc 2 K M ?_;intro _ K;obtain⟨y29,hi29⟩:=U9 cl i Qe
  have hcy29:cv cl i=y29:=by unfold cv;rw[hi29];rfl
  have hcb29:=hcv i Qe;obtain⟨x29,m29,f29,q29,_,lf29⟩:=Jk.eG ((B.step M).rd hf hC offC) (i:=i) (cs:=_) (Jt hi29);refine q1 rfl K (Qb (j:=i) Qw (congrArg some q29) rfl (by rw[Qn];omega)) fun _ K=>?_
  refine Ws rfl K rfl ((lf29 _ _ ((B.step M).rd hf hC offC)).2.1 _ 0 _ Qr rfl) QA (by intro s hs;simp only[List.take_succ_cons,List.take_zero,List.mem_cons,List.not_mem_nil,or_false]at hs;rcases hs with rfl|rfl<;>first|exact((lf29 _ _ ((Bz1.step Mz1).rd hf hC offC)).2.1 _ 0 _ Qr rfl)|exact((lf29 _ _ ((Bz0.step Mz0).rd hf hC offC)).2.1 _ 0 _ Qr rfl)) (JU rfl) rfl QE fun _ K=>?_
  refine Jc 1 K M ?_;intro _ K;refine Xk rfl K M QM Vs rfl rfl rfl rfl rfl fun c32 _ _ K M=>?_;refine X8 (k2:=0) (L:=[(c32,0,[iZ (((((r1:Nat):Int) *((a.n:Nat):Int))+y29))])]) (A:=A) (B:=[]) rfl K M hA QM rfl rfl rfl rfl (by rw[Qn,W7];omega) rfl fun ks33 A33 _ _ K hA33 M=>?_;have Mp:=Mq;have Mq:=M;have Mz3:=M;have Bz3:=B;refine q1 rfl K (U6 rfl) fun _ K=>QH ?_;show W _ _ _ _ _ _ _;refine Qc 2 K M ?_;intro _ K;have hni2:=hn127 (i+1) Qe;exact⟨_,Qe,i+1,(ids++[r1]),S3,F3,ks33,A33,rfl,(K.sub rfl),(B.step M).less (.cons _ (.refl _)),(by rw[List.length_append,hil];rfl),Qe,((himg.pre wfS mb.pre).snoc mb.lt (fun c hc=>by rw[hev,hr17.2 c hc,hil,Int.toNat_natCast])),(hpre.trans mb.pre),mb.wf,Qe,(by rw[Mn,hil,hcy29,JY];exact hA33)⟩
 refine QW ?_;show W _ _ _ _ _ _ _;refine Qc 1 K M ?_;intro _ K;replace B:=B.step M;have B9:=B;obtain⟨v36,st36,ev36,kr9,rfl,nr9,q9⟩:=Kb B.fresh (Mem.Yl (L:=[]) (A:=A) (B:=[]) M hA) (by rw[W7];omega);refine p1 K (Qh rfl ev36) fun _ K=>?_;replace B:=B.quiet q9;have M:=B.mem;refine Qc 1 K M ?_
 have hin:i=a.n:=by omega
 exact⟨_,S2,Ow a.n cl ids,_,rfl,B9.LQ,q9,nr9,hpre,wfS,by rw[hin]at hSl;exact hSl,by rw[W7];omega,Rk wfS himg rfl Qe hcv⟩
end Go.Proofs.YtiknomepbklibaaGreatDoor
end
