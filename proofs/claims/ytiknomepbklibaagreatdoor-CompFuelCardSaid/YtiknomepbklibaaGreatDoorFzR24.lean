/-
  The reference's classes and least automaton, plainly.
-/
import Derived.Test.YtiknomepbklibaaGreatDoorFzR22A
set_option linter.unnecessarySimpa false
set_option linter.unusedSimpArgs false
set_option linter.unusedVariables false
section
namespace Go.Proofs.YtiknomepbklibaaGreatDoor
open Go Go.RowKit
variable {n s:Nat} {nu:List Int} {x:Int}

theorem V6{cl:List Int}{y:Int}(h:cl[s]? =some y):cv cl s=y:=by unfold cv;rw[h];rfl
theorem N3{l:List Int}{j:Nat}(hj:j<l.length):cv (l.set j x) s=if s=j then x else cv l s:=by
 unfold cv;rw[List.getElem?_set]
 by_cases h:j=s
 ·subst h;rw[if_pos rfl,if_pos hj,if_pos rfl];rfl
 ·rw[if_neg h,if_neg fun e=>h e.symm]
def Lu(a:Au)(cl:List Int)(s c:Nat):List Int:=cv cl s::(List.range c).map fun c=>cv cl (a.go s c)
def GJ(a:Au)(cl:List Int)(s:Nat):List Int:=Lu a cl s a.K
theorem Tw(a:Au)(cl:List Int)(s c:Nat):Lu a cl s (c+1)=Lu a cl s c++[cv cl (a.go s c)]:=by
 unfold Lu;rw[List.range_succ,List.map_append];rfl
theorem qp(a:Au)(cl:List Int)(s c:Nat):(Lu a cl s c).length=c+1:=by simp[Lu]
theorem yP{a:Au}{cl:List Int}{t:Nat}:GJ a cl s=GJ a cl t↔cv cl s=cv cl t∧ ∀c,c<a.K→cv cl (a.go s c)=cv cl (a.go t c):=by
 unfold GJ Lu;rw[List.cons.injEq,List.map_inj_left];exact⟨fun h=>⟨h.1,fun c hc=>h.2 c (List.mem_range.2 hc)⟩,fun h=>⟨h.1,fun c hc=>h.2 c (List.mem_range.1 hc)⟩⟩
structure AT(a:Au)(cl:List Int)(i:Nat)(SG:List (List Int))(out:List Int):Prop where
 len:out.length=i
 nodup:SG.Nodup
 num: ∀s,s<i→ ∃v:Nat,out[s]? =some ((v:Nat):Int)∧SG[v]? =some (GJ a cl s)
 all: ∀v,v<SG.length→ ∃s,s<i∧SG[v]? =some (GJ a cl s)
section
variable {a:Au} {cl out:List Int} {i:Nat} {SG:List (List Int)}
theorem AT.start(a:Au)(cl:List Int):AT a cl 0 [] []:=⟨rfl,List.nodup_nil,fun s h=>absurd h (Nat.not_lt_zero s),fun v h=>absurd h (Nat.not_lt_zero v)⟩
theorem AT.J6(H:AT a cl i SG out){v:Nat}(hv:SG[v]? =some (GJ a cl i)):AT a cl (i+1) SG (out++[((v:Nat):Int)]):=by
 refine⟨by simp[H.len],H.nodup,fun s hs=>?_,fun v hv=>?_⟩
 ·by_cases h:s<i
  ·obtain⟨w,h1,h2⟩:=H.num s h;exact⟨w,by rw[List.getElem?_append_left (by rw[H.len];exact h)];exact h1,h2⟩
  ·have e:s=i:=by omega
   subst e;exact⟨v,by rw[List.getElem?_append_right (by rw[H.len];exact Nat.le_refl _),H.len,Nat.sub_self];rfl,hv⟩
 ·obtain⟨s,h1,h2⟩:=H.all v hv;exact⟨s,by omega,h2⟩
theorem AT.new(H:AT a cl i SG out)(hn:GJ a cl i∉SG):AT a cl (i+1) (SG++[GJ a cl i]) (out++[((SG.length:Nat):Int)]):=by
 have H2:AT a cl i SG out:=H;refine⟨by simp[H.len],List.nodup_append.2 ⟨H.nodup,by simp,fun x hx y hy e=>?_⟩,fun s hs=>?_,fun v hv=>?_⟩
 ·rw[List.mem_singleton]at hy;subst hy e;exact hn hx
 ·by_cases h:s<i
  ·obtain⟨w,h1,h2⟩:=H.num s h;exact⟨w,by rw[List.getElem?_append_left (by rw[H.len];exact h)];exact h1,by rw[List.getElem?_append_left (List.getElem?_eq_some_iff.1 h2).1];exact h2⟩
  ·have e:s=i:=by omega
   subst e;exact⟨SG.length,by rw[List.getElem?_append_right (by rw[H.len];exact Nat.le_refl _),H.len,Nat.sub_self];rfl,by rw[List.getElem?_append_right (Nat.le_refl _),Nat.sub_self];rfl⟩
 ·rw[List.length_append,List.length_singleton]at hv
  by_cases h:v<SG.length
  ·obtain⟨s,h1,h2⟩:=H.all v h;exact⟨s,by omega,by rw[List.getElem?_append_left h];exact h2⟩
  ·have e:v=SG.length:=by omega
   subst e;exact⟨i,by omega,by rw[List.getElem?_append_right (Nat.le_refl _),Nat.sub_self];rfl⟩
theorem AT.le(H:AT a cl i SG out):SG.length≤i:=by
 have:=ZQ (b:=(List.range i).map fun s=>GJ a cl s) H.nodup fun x hx=>by
  obtain⟨v,hv⟩:=List.getElem?_of_mem hx;obtain⟨s,h1,h2⟩:=H.all v (List.getElem?_eq_some_iff.1 hv).1;rw[hv]at h2
  injection h2 with h2
  exact List.mem_map.2 ⟨s,List.mem_range.2 h1,h2.symm⟩
 simpa using this
theorem AT.done(H:AT a cl a.n SG out):Ay a cl out∧IB a.n out SG.length:=by
 refine⟨⟨H.len,fun s t hs ht=>?_⟩,⟨fun s hs=>?_,fun v hv=>?_⟩⟩
 ·obtain⟨v,h1,h2⟩:=H.num s hs;obtain⟨w,h3,h4⟩:=H.num t ht;rw[V6 h1,V6 h3,←yP];constructor
  ·intro e
   have e:v=w:=by omega
   subst e;rw[h2]at h4;injection h4
  ·intro e;rw[←e]at h4;have:=(List.getElem?_inj (List.getElem?_eq_some_iff.1 h2).1 H.nodup).1 (h2.trans h4.symm);rw[this]
 ·obtain⟨v,h1,h2⟩:=H.num s hs;have:=(List.getElem?_eq_some_iff.1 h2).1;rw[V6 h1];omega
 ·obtain⟨s,h1,h2⟩:=H.all v hv;obtain⟨w,h3,h4⟩:=H.num s h1;have:=(List.getElem?_inj (List.getElem?_eq_some_iff.1 h4).1 H.nodup).1 (h4.trans h2.symm);exact⟨s,h1,by rw[V6 h3,this]⟩
end
theorem LG{cl:List Int}{k:Nat}(h:IB n cl k):k≤n:=by
 have:=ZQ (a:=List.range k) (b:=(List.range n).map fun s=>(cv cl s).toNat) List.nodup_range fun v hv=>by
  obtain⟨s,h1,h2⟩:=h.2 v (List.mem_range.1 hv);exact List.mem_map.2 ⟨s,List.mem_range.2 h1,by rw[h2];rfl⟩
 simpa using this
theorem uB{a:Au}(W:Zr a){cl out:List Int}{was k:Nat}(hF:IC a cl)(hw:was=0∨IB a.n cl was)(f:Ay a cl out)(ho:IB a.n out k):IC a out∧was≤k∧(k=was→ZI a out):=by
 have hk:0<k:=by
  have:=ho.1 0 W.pos;omega
 refine⟨hF.ug W f,?_,fun e=>?_⟩
 ·rcases hw with h|h
  ·omega
  ·exact(Bg f h ho).1
 ·subst e;rcases hw with h|h
  ·omega
  ·exact(hF.ug W f).Ib W (Cq W f (EC f ((Bg f h ho).2 rfl)))
def Xp(a:Au)(i:Nat)(cl:List Int):Prop:=cl.length=a.n∧ ∀s,s<a.n→cv cl s=if s<i∧a.ok s≠a.ok 0 then 1 else 0
theorem Xp.start(a:Au):Xp a 0 (List.replicate a.n 0):=⟨by simp,fun s hs=>by
 unfold cv;rw[List.getElem?_replicate,if_pos hs]
 simp⟩
theorem Xp.no{a:Au}{i:Nat}{cl:List Int}(H:Xp a i cl)(h:a.ok i=a.ok 0):Xp a (i+1) cl:=⟨H.1,fun s hs=>by
 rw[H.2 s hs]
 by_cases e:s=i
 ·subst e;simp[h]
 ·have:s<i↔s<i+1:=by omega
  simp[this]⟩
theorem Xp.yes{a:Au}{i:Nat}{cl:List Int}(H:Xp a i cl)(hi:i<a.n)(h:a.ok i≠a.ok 0):Xp a (i+1) (cl.set i 1):=⟨by simp[H.1],fun s hs=>by
 rw[N3 (by rw[H.1];exact hi),H.2 s hs]
 by_cases e:s=i
 ·subst e;simp[h]
 ·have:s<i↔s<i+1:=by omega
  simp[this,e]⟩
theorem Xp.done{a:Au}{cl:List Int}(H:Xp a a.n cl):IC a cl:=Nn H.1 fun s t hs ht=>by
 rw[H.2 s hs,H.2 t ht]
 cases h1:a.ok s<;>cases h2:a.ok t<;>cases h3:a.ok 0<;>simp[hs,ht]
structure NK(n:Nat)(L nu:List Int):Prop where
 len:nu.length=n
 yes: ∀(j:Nat) (x:Int),L[j]? =some x→cv nu x.toNat=((j:Nat):Int)
 no: ∀(x:Int),0≤x→x<n→x∉L→cv nu x.toNat= -1
 rng: ∀x∈L,0≤x∧x<((n:Nat):Int)
theorem NK.new{L:List Int}(H:NK n L nu)(h0:0≤x)(h1:x<n)(hx:x∉L):NK n (L++[x]) (nu.set x.toNat ((L.length:Nat):Int)):=by
 have hl:x.toNat<nu.length:=by rw[H.len];omega
 refine⟨by simp[H.len],fun j y hj=>?_,fun y k0 k1 hy=>?_,fun y hy=>?_⟩
 ·rw[N3 hl]
  by_cases e:j<L.length
  ·rw[List.getElem?_append_left e]at hj;have hne:y≠x:=fun e=>hx (e▸List.mem_of_getElem? hj);have:=H.rng y (List.mem_of_getElem? hj);rw[if_neg Qe];exact H.yes j y hj
  ·have hlt:=(List.getElem?_eq_some_iff.1 hj).1;rw[List.length_append,List.length_singleton]at hlt
   have e:j=L.length:=by omega
   subst e;rw[List.getElem?_append_right (Nat.le_refl _),Nat.sub_self]at hj
   injection hj with hj
   subst hj;rw[if_pos rfl]
 ·rw[N3 hl];have hne:y≠x:=fun e=>hy (by rw[e];simp);rw[if_neg Qe];exact H.no y k0 k1 fun h=>hy (by simp[h])
 ·rcases List.mem_append.1 hy with hy|hy
  ·exact H.rng y hy
  ·rw[List.mem_singleton.1 hy];exact⟨h0,h1⟩
theorem NK.start(hl:nu.length=n)(h: ∀s,s<n→cv nu s= -1)(h0:0≤x)(h1:x<n):NK n [x] (nu.set x.toNat 0):=by
 have H:NK n [] nu:=⟨hl,fun j x hj=>by simp at hj,fun x k0 k1 _=>h _ Qe,fun x hx=>by cases hx⟩;exact H.new h0 h1 QA
theorem NK.mem{L:List Int}(H:NK n L nu)(h0:0≤x)(h1:x<n){y:Int}(hy:cv nu x.toNat=y):(y<0∧x∉L)∨(∃j:Nat,y=((j:Nat):Int)∧L[j]? =some x):=by
 by_cases hx:x∈L
 ·obtain⟨j,hj⟩:=List.getElem?_of_mem hx;exact .inr ⟨j,by rw[←hy,H.yes j x hj],hj⟩
 ·exact .inl ⟨by rw[←hy,H.no x h0 h1 hx];decide,hx⟩
end Go.Proofs.YtiknomepbklibaaGreatDoor
end
section
namespace Go.Proofs.YtiknomepbklibaaGreatDoor
open Go Go.RowKit
set_option maxHeartbeats 8000000
set_option maxRecDepth 100000
variable {a:Au} {cl:List Int} {ka kn:AV} {ls:List (List AV)} {st:St}

theorem Qk.newRow{st0:St}{M A:QU}{Os:List Ob}{z:Nat}{ks:AV}(B:Qk st0 Xv st M Os)(hA:Acc 0 z A ks ls)(hs: ∀c m l,(c,m,l)∈A→(c,m,l)∈M):Em st0 st z ks ls:=by
 refine⟨A,?_,fun c m l hm=>B.row c m l (hs c m l hm)⟩
 cases hA with
 |none=>exact .none
 |own h1 h2 h3=>exact .own ((B.lo _ _ _ (hs _ _ _ (List.mem_cons_self ..))).resolve_right id) h2 h3

theorem wO(h:Vh cl)(s:Nat):Vh (GJ a cl s):=by
 have key: ∀s,-9223372036854775808≤cv cl s∧cv cl s≤9223372036854775807:=fun s=>by
  unfold cv
  cases hs:cl[s]? with
  |none=>exact⟨by decide,by decide⟩
  |some y=>exact h y (List.mem_of_getElem? hs)
 intro z hz;unfold GJ Lu at hz;rcases List.mem_cons.1 hz with rfl|hz
 ·exact key s
 ·obtain⟨c,_,rfl⟩:=List.mem_map.1 hz;exact key _

theorem yO(hf:Qj st)(wf:Zr a)(hA:Ji st.h.get [] 1 (bC a.acc) ka)(hN:Lb st.h.get a.nx kn ls){kc:AV}(hc:Ji st.h.get [] 1 (zC cl) kc)(hcl:cl.length=a.n){s:Nat}(hs:s<a.n): ∃v st',Ev Tryz.prog Q4 82 [.agg [iZ (a.tr:Nat),ka,kn],kc,iN s] st v st'∧ ∃kr,v=kr∧Em st st' 1 kr (zC (GJ a cl s))∧Qt st st':=by
 have hac:=hA.cell;have hnc:=hN.r.cell;have hmo:=wf.most;have hps:=wf.pos;have hln:=wf.len;have hen:a.n=a.acc.length:=rfl;have htr:=wf.tr;have hp6:=JE htr;have hp0:0<2^a.tr:=Nat.two_pow_pos _;have hcc:=hc.cell;refine JF Tryz.func82 Tryz.ntmps82 fun T K=>?_;have M:=Mem.start hf;refine QC<|Qv ?_;refine Jt K M rfl (Qb rfl (Qb hA.cell (Qb hN.r.cell Q7))) QE fun c3 _ _ K M=>?_;refine Qc 3 K M ?_;intro _ K;obtain⟨y11,hi11⟩:=U8 cl s Qe;obtain⟨x11,m11,f11,q11,_,la11,lo11,lp11⟩:=(Ji.mem M hc QA).load (i:=s) (cs:=_) (Jr hi11);refine p1 K (Qa (j:=s) Qw (congrArg some q11) rfl (by rw[Qn];omega)) fun _ K=>p1 K (Qd rfl (lo11 _ 0 _ Qr rfl)) fun _ K=>?_;refine au 2 K M ?_;intro c13 _ _ K _ M;replace M:=Mem.cast (M':=((c3,0,[iZ (a.tr:Nat),ka,kn])::([(c13,0,[iZ y11])]++[]))) (Mem.perm M (List.perm_append_comm (α:=Nat×Nat×List AV) (l₁:=[(c13,0,[iZ y11])]) (l₂:=[(c3,0,[iZ (a.tr:Nat),ka,kn])]))) Uz;have hAS0:Acc st.n 1 [(c13,0,[iZ y11])] (.sl c13 0 0 1 1) [[iZ y11]]:=Acc.own (n0:=st.n) (z:=1) (c:=c13) (m:=0) (ls:=[[iZ y11]]) ((M.own c13 0 [iZ y11] QA).resolve_right QA) QA QA;refine Qc 1 K M ?_;intro _ K;refine Jc (fun mm1 T st9=> ∃(c:Nat) (ko:AV) (A:U9),mm1=2^a.tr-c∧QY [(1,kc),(2,iN s),(3,.ptr c3 0 0),(6,.nils),(7,ko),(8,iN c)] T∧Mem st.h.get st.n [] st9 ((c3,0,[iZ (a.tr:Nat),ka,kn])::(A++[]))∧c≤2^a.tr∧Acc st.n 1 A ko (zC (Lu a cl s c))) (fun mm1 T st9 hI=>?_) _ _ _ ⟨0,(.sl c13 0 0 1 1),[(c13,0,[iZ y11])],rfl,(K.sub rfl),M.less (.refl _),(Nat.zero_le _),(by rw[show Lu a cl s 0=[y11] by unfold Lu;rw[V6 hi11];rfl];exact hAS0)⟩;obtain⟨c,ko,A,rfl,K,M,hck,hA2⟩:=hI;refine Qc 2 K M ?_;intro _ K;refine p1 K (Qd rfl (M.load (k:=0) rfl (Qf Q5 rfl))) fun _ K=>?_;refine Qc 1 K M ?_;intro _ K;obtain⟨s18,hi18⟩:=U8 a.nx s Qe;obtain⟨_,hc18,w18,rfl,hr18,hz18⟩:=hN.at_ _ _ hi18;have hw18:=wf.row s18 (List.mem_of_getElem? hi18);have hl18:s18.length=2^a.tr:=hw18.1;obtain⟨x18,m18,f18,q18,_,la18,lo18,lp18⟩:=(Ji.mem M hN.r QA).load (i:=s) (cs:=_) hc18;refine p1 K (Qa (j:=s) QV (congrArg some q18) rfl (by rw[hN.ln];omega)) fun _ K=>p1 K (Qd rfl (lo18 _ 0 _ QZ rfl)) fun _ K=>p1 K (Q8 Jp rfl rfl (hr18.len.trans (congrArg some (Qn _)))) fun _ K=>?_;refine Qc 1 K M ?_;intro _ K;refine JP K rfl (fun h21=>?_) fun h21=>?_
 ·refine Qc 3 K M ?_;intro _ K;refine p1 K (Qd rfl (M.load (k:=0) rfl (Qf Q5 rfl))) fun _ K=>?_;refine Qc 1 K M ?_;intro _ K;obtain⟨_,hc29,w29,rfl,hr29,hz29⟩:=hN.at_ _ _ hi18;obtain⟨x29,m29,f29,q29,_,la29,lo29,lp29⟩:=(Ji.mem M hN.r QA).load (i:=s) (cs:=_) hc29;refine p1 K (Qa (j:=s) QV (congrArg some q29) rfl (by rw[hN.ln];omega)) fun _ K=>p1 K (Qd rfl (lo29 _ 0 _ QZ rfl)) fun _ K=>?_;refine Qc 1 K M ?_;intro _ K;obtain⟨y32,hi32⟩:=U8 s18 c Qe;have hb32:=hw18.2 y32 (List.mem_of_getElem? hi32);obtain⟨x32,m32,f32,q32,_,la32,lo32,lp32⟩:=(Ji.mem M hr29 QA).load (i:=c) (cs:=_) (Jr hi32);refine p1 K (Qa (j:=c) Qw (congrArg some q32) rfl (by rw[Qn];omega)) fun _ K=>p1 K (Qd rfl (lo32 _ 0 _ Qr rfl)) fun _ K=>?_;obtain⟨y34,hi34⟩:=U8 cl ((y32).toNat) Qe;obtain⟨x34,m34,f34,q34,_,la34,lo34,lp34⟩:=(Ji.mem M hc QA).load (i:=(y32).toNat) (cs:=_) (Jr hi34);refine p1 K (Qa (j:=(y32).toNat) Qw (congrArg some q34) (congrArg (fun z=>some (iZ z)) (by omega:_=(((y32).toNat:Nat):Int))) (by rw[Qn];omega)) fun _ K=>p1 K (Qd rfl (lo34 _ 0 _ Qr rfl)) fun _ K=>?_;refine au 1 K M ?_;intro c36 _ _ K _ M;refine RJ (k2:=0) (L:=[(c36,0,[iZ y34]),(c3,0,[iZ (a.tr:Nat),ka,kn])]) (A:=A) (B:=[]) K M hA2 QM rfl rfl rfl rfl (by rw[Qn,qp];omega) rfl fun ks37 A37 _ _ K hA37 M=>?_;refine Qc 4 K M ?_;intro _ K;exact⟨_,Qe,c+1,ks37,A37,rfl,(K.sub rfl),M.less (.cons _ (.refl _)),Qe,(by rw[Tw,JH hi18 hi32,V6 hi34,JV];exact hA37)⟩
 refine QT ?_;show W _ _ _ _ _ _ _;refine Qc 2 K M ?_;refine⟨_,rfl,?_,M.qt⟩
 have hce:c=2^a.tr:=by omega
 subst hce;have h:=Mem.Bh (L:=[(c3,0,[iZ (a.tr:Nat),ka,kn])]) (A:=A) (B:=[]) M hA2;exact h

theorem uf(hf:Qj st)(wf:Zr a)(hA:Ji st.h.get [] 1 (bC a.acc) ka)(hN:Lb st.h.get a.nx kn ls){kc:AV}(hc:Ji st.h.get [] 1 (zC cl) kc)(hcl:cl.length=a.n)(hcz:Vh cl): ∃v st',Ev Tryz.prog Q4 56 [.agg [iZ (a.tr:Nat),ka,kn],kc] st v st'∧ ∃kr SG out,v=.tup [kr,iZ (SG.length:Nat)]∧AT a cl a.n SG out∧Em st st' 1 kr (zC out)∧Qt st st':=by
 have hac:=hA.cell;have hnc:=hN.r.cell;have hmo:=wf.most;have hps:=wf.pos;have hln:=wf.len;have hen:a.n=a.acc.length:=rfl;have htr:=wf.tr;have hp6:=JE htr;have hp0:0<2^a.tr:=Nat.two_pow_pos _;have hcc:=hc.cell;have B:=Qk.start hf;refine JF Tryz.func56 Tryz.ntmps56 fun T K=>?_;have M:=B.mem;refine QC<|Qv ?_;refine Jt K M rfl (Qb rfl (Qb hA.cell (Qb hN.r.cell Q7))) QE fun c2 _ _ K M=>?_;refine Qc 2 K M ?_;intro _ K;replace B:=(B.step M).Vv;have M:=B.mem;refine Qc 3 K M ?_;intro _ K;refine Jc (fun mm1 T st9=> ∃(i:Nat) (SG:List (List Int)) (F:Fp) (vs:List AV) (ks:AV) (As:QU) (out:List Int) (ko:AV) (Ao:QU),mm1=a.n-i∧QY [(1,kc),(2,.ptr c2 0 0),(4,.nils),(5,iZ 0),(6,ks),(7,ko),(8,iN i)] T∧Qk st Xv st9 ((c2,0,[iZ (a.tr:Nat),ka,kn])::(As++(Ao++[]))) [E8 F vs SG]∧AT a cl i SG out∧i≤a.n∧YO As ks vs∧Acc 0 1 Ao ko (zC out)) (fun mm1 T st9 hI=>?_) _ _ _ ⟨0,[],_,[],.nils,[],[],.nils,[],rfl,(K.sub rfl),(B.step M).less (.refl _),(AT.start a cl),(Nat.zero_le _),.none,.none⟩;obtain⟨i,SG,F,vs,ks,As,out,ko,Ao,rfl,K,B,hFin,hi,hAs,hAo⟩:=hI;have M:=B.mem;have hsl:=hFin.le;refine Qc 3 K M ?_;intro _ K;refine p1 K (Q8 Ur rfl rfl (hA.len.trans (congrArg some (Jw _)))) fun _ K=>?_;refine Qc 1 K M ?_;intro _ K;refine JP K rfl (fun h15=>?_) fun h15=>?_
 ·refine Qc 3 K M ?_;intro _ K;obtain⟨v21,st21,ev21,kx,rfl,nrx,q21⟩:=yO M.fresh wf ((B.step M).GO hf hA) (hN.J6 hf fun c hc=>(B.step M).J6 c hc id) ((B.step M).GO hf hc) hcl (s:=i) Qe;refine p1 K (Qh rfl ev21) fun _ K=>?_;obtain⟨Ax,hAx,M⟩:=M.Ys q21 nrx;replace hAx:=hAx.z0;simp only[List.append_assoc,List.cons_append,List.nil_append,List.set_cons_zero,List.set_cons_succ]at M;refine p1 K (U5 rfl) fun _ K=>Un ?_;show W _ _ _ _ _ _ _;refine QC<|Qv<|p1 K (U5 rfl) fun _ K=>Un ?_;show W _ _ _ _ _ _ _;refine RK (J:=fun T st9=> ∃(k:Nat),QY [(1,kc),(2,.ptr c2 0 0),(4,.nils),(5,iZ 0),(6,ks),(7,ko),(8,iN i),(9,v21),(10,iN k),(15,.bool (decide (((i:Nat):Int)<((a.acc.length:Nat):Int))))] T∧Qk st Xv st9 ((c2,0,[iZ (a.tr:Nat),ka,kn])::(As++(Ao++(Ax++[])))) [E8 F vs SG]∧k≤SG.length∧(∀(j:Nat) (x:List Int),j<k→SG[j]? =some x→x≠GJ a cl i)∧(k<SG.length→SG[k]? =some (GJ a cl i))) ?_ (fun T st9 hJ=>?_)
  ·refine G9 ?_;refine Jc (fun mm2 T st9=> ∃(k:Nat),mm2=SG.length-k∧QY [(1,kc),(2,.ptr c2 0 0),(4,.nils),(5,iZ 0),(6,ks),(7,ko),(8,iN i),(9,v21),(10,iN k),(15,.bool (decide (((i:Nat):Int)<((a.acc.length:Nat):Int))))] T∧Qk st Xv st9 ((c2,0,[iZ (a.tr:Nat),ka,kn])::(As++(Ao++(Ax++[])))) [E8 F vs SG]∧k≤SG.length∧(∀(j:Nat) (x:List Int),j<k→SG[j]? =some x→x≠GJ a cl i)) (fun mm2 T st9 hI=>?_) _ _ _ ⟨0,rfl,(K.sub rfl),(B.step M).less (.refl _),(Nat.zero_le _),(fun j x hj=>absurd hj (Nat.not_lt_zero j))⟩;obtain⟨k,rfl,K,B,hk,hno⟩:=hI;have M:=B.mem;refine Qc 2 K M ?_;intro _ K;refine p1 K (Q8 J4 rfl rfl (hAs.len.trans (congrArg some (YN.ln ((B.step M).at_ (k:=0) rfl))))) fun _ K=>?_;refine Qc 1 K M ?_;intro _ K;refine Um K (Qg rfl) rfl (fun _ e26 K=>?_) fun _ e26 K=>?_
   ·refine Qc 9 K M ?_;intro _ K;refine QT ?_;exact⟨k,(K.sub rfl),(B.step M).less (.refl _),hk,hno,(fun h=>by first|(exfalso;omega)|(rw[hi29];simp_all))⟩
   refine Qc 2 K M ?_;intro _ K;obtain⟨s29,hi29⟩:=U8 SG k Qe;obtain⟨w29,hv29,hr29,hz29,hf29⟩:=YN.at_ ((B.step M).at_ (k:=0) rfl) _ _ hi29;obtain⟨x29,m29,f29,q29,_,la29,lo29,lp29⟩:=(hAs.rd fun c m l hm=>M.row c m l (by simp[hm])).load (i:=k) (cs:=_) (by rw[List.getElem?_map,hv29];rfl);refine pg K rfl rfl (Qa (j:=k) QV (congrArg some q29) rfl (by rw[List.length_map,YN.ln ((B.step M).at_ (k:=0) rfl)];omega)) fun _ K=>pg K rfl rfl (Qd rfl (lo29 _ 0 _ QZ rfl)) fun _ K=>?_;refine Qc 1 K M ?_;intro _ K;obtain⟨v32,st32,ev32,rfl,q32⟩:=Lw M.fresh hr29 (Mem.Yx (L:=((c2,0,[iZ (a.tr:Nat),ka,kn])::(As++(Ao++[])))) (A:=Ax) (B:=[]) (Mem.cast (M:=((c2,0,[iZ (a.tr:Nat),ka,kn])::(As++(Ao++(Ax++[]))))) (M':=((c2,0,[iZ (a.tr:Nat),ka,kn])::(As++(Ao++[])))++(Ax++[])) M Uz) hAx);refine pg K rfl rfl (Qh rfl ev32) fun _ K=>?_;replace M:=M.quiet q32;refine Qc 2 K M ?_;intro _ K;refine Qq (K.QI rfl) (fun h34=>?_) (fun h34=>?_)
   ·have hb34:=h34
    replace h34: ¬(s29=GJ a cl i):=by first|exact of_decide_eq_false h34|exact yF h34|simpa using h34
    refine Qc 3 K M ?_;intro _ K;exact⟨_,Qe,k+1,rfl,(K.sub rfl),(B.step M).less (.refl _),Qe,(FE hno hi29 (by first|assumption|simp_all))⟩
   have hb34:=h34
   replace h34:(s29=GJ a cl i):=by first|exact of_decide_eq_true h34|exact yT h34|simpa using h34
   refine QT ?_;exact⟨k,(K.sub rfl),(B.step M).less (.refl _),hk,hno,(fun h=>by first|(exfalso;omega)|(rw[hi29];simp_all))⟩
  obtain⟨k,K,B,hk,hno,hyes⟩:=hJ;have M:=B.mem;have hx64:Vh (GJ a cl i):=wO hcz i;refine Qc 2 K M ?_;intro _ K;refine p1 K (Q8 J4 rfl rfl (hAs.len.trans (congrArg some (YN.ln ((B.step M).at_ (k:=0) rfl))))) fun _ K=>?_;refine Qc 1 K M ?_;intro _ K;refine JP K rfl (fun h40=>?_) fun h40=>?_
  ·refine Qc 2 K M ?_;intro _ K;refine Xy K M QR Uv rfl ((J9 rfl hAx.cell rfl).trans rfl) (Qb hAx.cell Q7) rfl rfl fun c43 _ _ K M=>?_;refine YG (k2:=0) (L:=[(c43,0,[v21]),(c2,0,[iZ (a.tr:Nat),ka,kn])]) (A:=As) (B:=(Ao++(Ax++[]))) K M hAs QR rfl rfl rfl (by have:=YN.ln ((B.step M).at_ (k:=0) rfl);have:=hFin.le;omega) rfl fun ks44 A44 _ _ K hA44 _ M=>?_;refine au 4 K M ?_;intro c47 _ _ K _ M;refine Je (k2:=0) (L:=((c47,0,[iN k])::(c43,0,[v21])::(c2,0,[iZ (a.tr:Nat),ka,kn])::(A44++[]))) (A:=Ao) (B:=(Ax++[])) K (Mem.cast (M:=((c47,0,[iN k])::(c43,0,[v21])::(c2,0,[iZ (a.tr:Nat),ka,kn])::(A44++(Ao++(Ax++[]))))) (M':=((c47,0,[iN k])::(c43,0,[v21])::(c2,0,[iZ (a.tr:Nat),ka,kn])::(A44++[]))++(Ao++(Ax++[]))) M Uz) hAo QM rfl rfl rfl rfl (by rw[Qn,hFin.len];omega) rfl fun ks48 A48 _ _ K hA48 M=>?_;simp only[List.append_assoc,List.cons_append,List.nil_append,List.set_cons_zero,List.set_cons_succ]at M;refine Qc 4 K M ?_;intro _ K;replace B:=B.step M;obtain⟨Fr,B⟩:=Qk.Z5 (L:=((c47,0,[iN k])::(c43,0,[v21])::(c2,0,[iZ (a.tr:Nat),ka,kn])::(A44++(A48++[])))) (A:=Ax) (B:=[]) (B.cast Uz) hAx hx64;replace B:=B.cast (M':=((c47,0,[iN k])::(c43,0,[v21])::(c2,0,[iZ (a.tr:Nat),ka,kn])::(A44++(A48++[])))) Uz;have M:=B.mem;exact⟨_,Qe,i+1,SG++[GJ a cl i],_,_,ks44,A44,(out++[((k:Nat):Int)]),ks48,A48,rfl,(K.sub rfl),(B.step M).less (.cons _ (.cons _ (.refl _))),(by rw[show((k:Nat):Int)=((SG.length:Nat):Int) by omega];exact hFin.new fun hm=>by obtain⟨j,hj⟩:=List.getElem?_of_mem hm;exact hno j _ (by have:=(List.getElem?_eq_some_iff.1 hj).1;omega) hj rfl),Qe,hA44,(by rw[JV];exact hA48)⟩
  refine au 3 K M ?_;intro c47 _ _ K _ M;refine Je (k2:=0) (L:=((c47,0,[iN k])::(c2,0,[iZ (a.tr:Nat),ka,kn])::(As++[]))) (A:=Ao) (B:=(Ax++[])) K (Mem.cast (M:=((c47,0,[iN k])::(c2,0,[iZ (a.tr:Nat),ka,kn])::(As++(Ao++(Ax++[]))))) (M':=((c47,0,[iN k])::(c2,0,[iZ (a.tr:Nat),ka,kn])::(As++[]))++(Ao++(Ax++[]))) M Uz) hAo QM rfl rfl rfl rfl (by rw[Qn,hFin.len];omega) rfl fun ks48 A48 _ _ K hA48 M=>?_;simp only[List.append_assoc,List.cons_append,List.nil_append,List.set_cons_zero,List.set_cons_succ]at M;refine Qc 4 K M ?_;intro _ K;exact⟨_,Qe,i+1,SG,_,_,ks,As,(out++[((k:Nat):Int)]),ks48,A48,rfl,(K.sub rfl),(B.step M).less (.cons _ (.cons_cons _ (List.Sublist.append_left (List.Sublist.append_left (List.nil_sublist _) _) _))),(hFin.J6 (hyes Qe)),Qe,hAs,(by rw[JV];exact hA48)⟩
 refine QT ?_;show W _ _ _ _ _ _ _;refine Qc 2 K M ?_;intro _ K;refine p1 K (Q8 J4 rfl rfl (hAs.len.trans (congrArg some (YN.ln ((B.step M).at_ (k:=0) rfl))))) fun _ K=>?_;refine Qc 2 K M ?_
 have hie:i=a.n:=by omega
 subst hie;exact⟨_,SG,out,rfl,hFin,(B.step M).newRow hAo (fun c m l h=>by simp[h]),(B.step M).qt⟩

theorem vq{n:Nat}{k:Nat}(hl:cl.length=n)(h:IB n cl k)(hk:k≤400):Vh cl:=fun z hz=>by
 obtain⟨s,hs⟩:=List.getElem?_of_mem hz;have h1:=h.1 s (by have:=(List.getElem?_eq_some_iff.1 hs).1;omega);rw[V6 hs]at h1
 constructor<;>omega
theorem LH{i:Nat}{y:Bool}(h:a.acc[i]? =some y):a.ok i=y:=by unfold Au.ok;rw[h];rfl
theorem zP{i:Nat}(H:Xp a i cl):Vh cl:=fun z hz=>by
 obtain⟨s,hs⟩:=List.getElem?_of_mem hz;have h1:=H.2 s (by have:=(List.getElem?_eq_some_iff.1 hs).1;have:=H.1;omega);rw[V6 hs]at h1;subst h1
 split<;>decide
theorem zy{n:Nat}{L nu:List Int}(H:NK n L nu)(hn:L.Nodup):L.length≤n:=by
 have:=ZQ (b:=(List.range n).map fun v=>((v:Nat):Int)) hn fun x hx=>by
  have:=H.rng x hx;exact List.mem_map.2 ⟨x.toNat,List.mem_range.2 Qe,by omega⟩
 simpa using this

theorem Rv(hf:Qj st)(wf:Zr a)(hA:Ji st.h.get [] 1 (bC a.acc) ka)(hN:Lb st.h.get a.nx kn ls): ∃v st',Ev Tryz.prog Q4 28 [.agg [iZ (a.tr:Nat),ka,kn]] st v st'∧ ∃kr cl k,v=kr∧ZI a cl∧IB a.n cl k∧Em st st' 1 kr (zC cl)∧Qt st st':=by
 have hac:=hA.cell;have hnc:=hN.r.cell;have hmo:=wf.most;have hps:=wf.pos;have hln:=wf.len;have hen:a.n=a.acc.length:=rfl;have htr:=wf.tr;have hp6:=JE htr;have hp0:0<2^a.tr:=Nat.two_pow_pos _;have hrep:(List.replicate a.n (0:Int)).length=a.n:=List.length_replicate ..;refine JF Tryz.func28 Tryz.ntmps28 fun T K=>?_;have M:=Mem.start hf;refine QC<|Qv ?_;refine Jt K M rfl (Qb rfl (Qb hA.cell (Qb hN.r.cell Q7))) QE fun c1 _ _ K M=>?_;refine Qc 3 K M ?_;intro _ K;refine p1 K (Q8 Ur rfl rfl (hA.len.trans (congrArg some (Jw _)))) fun _ K=>?_;refine Cd (fun z=>iZ z) 0 (n:=a.n) K M QM Vn rfl Qe rfl fun c11 _ _ K M=>?_;refine Qc 2 K M ?_;intro _ K;refine Jc (fun mm1 T st9=> ∃(i:Nat) (cur:List Int),mm1=a.n-i∧QY [(1,.ptr c1 0 0),(2,.nils),(3,.sl c11 0 0 a.n 1),(4,iN i)] T∧Mem st.h.get st.n [] st9 [(c11,0,(cur.map (fun z=>iZ z))),(c1,0,[iZ (a.tr:Nat),ka,kn])]∧i≤a.n∧Xp a i cur) (fun mm1 T st9 hI=>?_) _ _ _ ⟨0,_,rfl,(K.sub rfl),M.less (.refl _),(Nat.zero_le _),(Xp.start a)⟩;obtain⟨i,cur,rfl,K,M,hi,hfi⟩:=hI;have hcl0:=hfi.1;refine Qc 3 K M ?_;intro _ K;refine p1 K (Q8 Ur rfl rfl (hA.len.trans (congrArg some (Jw _)))) fun _ K=>?_;refine Qc 1 K M ?_;intro _ K;refine JP K rfl (fun h16=>?_) fun h16=>?_
 ·refine Qc 0 K M ?_;intro _ K;refine QD (l:=[(0,0),(1,0),(2,0),(3,0),(4,0),(5,0),(6,0),(7,0),(8,0),(9,0)]) (by kernel_rfl) ?_;refine Jf 3 K M ?_;intro _ K;obtain⟨y22,hi22⟩:=U8 a.acc i Qe;obtain⟨x22,m22,f22,q22,_,la22,lo22,lp22⟩:=(Ji.mem M hA QA).load (i:=i) (cs:=_) (VA hi22);refine q1 rfl K (Qa (j:=i) Jv (congrArg some q22) rfl (by rw[Jw];omega)) fun _ K=>q1 rfl K (Qd rfl (lo22 _ 0 _ Jy rfl)) fun _ K=>?_;refine Jf 2 K M ?_;intro _ K;obtain⟨y26,hi26⟩:=U8 a.acc 0 Qe;obtain⟨x26,m26,f26,q26,_,la26,lo26,lp26⟩:=(Ji.mem M hA QA).load (i:=0) (cs:=_) (VA hi26);refine q1 rfl K (Qa (j:=0) Jv (congrArg some q26) rfl (by rw[Jw];omega)) fun _ K=>q1 rfl K (Qd rfl (lo26 _ 0 _ Jy rfl)) fun _ K=>q1 rfl K (qU Ym rfl rfl) fun _ K=>QG ?_;show W _ _ _ _ _ _ _;refine Qq (K.QI rfl) (fun h28=>?_) (fun h28=>?_)
  ·have hb28:=h28
   replace h28:(y22==y26)=false:=by simpa using h28
   refine Qc 2 K M ?_;intro _ K;obtain⟨y31,hi31⟩:=U8 cur i Qe;refine p1 K (Qa (j:=i) Qw rfl rfl Qe) fun _ K=>?_;refine Jh (k:=0) K M rfl rfl rfl Lk rfl (WU (fun z=>iZ z) 1 Qe) fun _ M=>?_;refine Qc 3 K M ?_;intro _ K;exact⟨_,Qe,i+1,_,rfl,(K.sub rfl),M.less (.refl _),Qe,(hfi.yes Qe (by rw[LH hi22,LH hi26];simpa using h28))⟩
  have hb28:=h28
  replace h28:(y22==y26)=true:=by simpa using h28
  refine Qc 3 K M ?_;intro _ K;exact⟨_,Qe,i+1,_,rfl,(K.sub rfl),M.less (.refl _),Qe,(hfi.no (by rw[LH hi22,LH hi26];simpa using h28))⟩
 refine QT ?_;show W _ _ _ _ _ _ _;refine QC ?_;replace M:=Mem.cast (M':=((c1,0,[iZ (a.tr:Nat),ka,kn])::([(c11,0,(cur.map (fun z=>iZ z)))]++[]))) (Mem.perm M (List.perm_append_comm (α:=Nat×Nat×List AV) (l₁:=[(c11,0,(cur.map (fun z=>iZ z)))]) (l₂:=[(c1,0,[iZ (a.tr:Nat),ka,kn])]))) QA
 have hAc0:Acc 0 1 [(c11,0,(cur.map (fun z=>iZ z)))] (.sl c11 0 0 a.n 1) (zC cur):=by have:=Acc.ofM (fun z=>iZ z) (c:=c11) (m:=0) (L:=cur) (by rw[hfi.1];omega);rw[hfi.1]at this;exact this
 have hie:i=a.n:=by omega
 rw[hie]at hfi;refine Qc 1 K M ?_;intro _ K;refine Jc (fun mm2 T st9=> ∃(cl:List Int) (kc:AV) (Ac:U9) (was:Nat),mm2=a.n-was∧QY [(1,.ptr c1 0 0),(3,kc),(5,iN was)] T∧Mem st.h.get st.n [] st9 ((c1,0,[iZ (a.tr:Nat),ka,kn])::(Ac++[]))∧IC a cl∧(was=0∨IB a.n cl was)∧Vh cl∧Acc 0 1 Ac kc (zC cl)) (fun mm2 T st9 hI=>?_) _ _ _ ⟨cur,(.sl c11 0 0 a.n 1),[(c11,0,(cur.map (fun z=>iZ z)))],0,rfl,(K.sub rfl),M.less (.refl _),hfi.done,(.inl rfl),(zP hfi),hAc0⟩;obtain⟨cl,kc,Ac,was,rfl,K,M,hF,hw,hcz,hAc⟩:=hI;refine Qc 2 K M ?_;intro _ K;obtain⟨v35,st35,ev35,ko,SG,out,rfl,hFin,nro,q35⟩:=uf M.fresh wf (Ji.mem M hA QA) (hN.J6 hf fun c hc=>M.J6 c hc QA) (Mem.Yx (L:=[(c1,0,[iZ (a.tr:Nat),ka,kn])]) (A:=Ac) (B:=[]) M hAc) hF.len hcz;refine p1 K (Qh rfl ev35) fun _ K=>?_;obtain⟨Ao,hAo,M⟩:=M.Ys q35 nro;replace hAo:=hAo.z0;obtain⟨hfr,hon⟩:=hFin.done;obtain⟨hF2,hle2,hst2⟩:=uB wf hF hw hfr hon;have hkn:=LG hon;simp only[List.append_assoc,List.cons_append,List.nil_append,List.set_cons_zero,List.set_cons_succ]at M;replace M:=M.less (.cons_cons _ (List.sublist_append_right _ _));refine Qc 8 K M ?_;intro _ K;refine JP K rfl (fun h40=>?_) fun h40=>?_
 ·refine Qc 2 K M ?_;exact⟨_,out,SG.length,rfl,hst2 Qe,hon,M.newRow hAo (fun c m l h=>by simp[h]),M.qt⟩
 refine Qc 4 K M ?_;intro _ K;exact⟨_,Qe,out,ko,Ao,SG.length,rfl,(K.sub rfl),M.less (.refl _),hF2,(.inr hon),(vq hF2.len hon Qe),hAo⟩
end Go.Proofs.YtiknomepbklibaaGreatDoor
end
