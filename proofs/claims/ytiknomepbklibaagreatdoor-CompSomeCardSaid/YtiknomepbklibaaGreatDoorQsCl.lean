/-
  Rows of numbers: a copy, are two the same, sorted.
-/
import Derived.Test.YtiknomepbklibaaGreatDoorQsAu
set_option maxHeartbeats 8000000
set_option maxRecDepth 100000
set_option linter.unnecessarySimpa false
set_option linter.unusedSimpArgs false
set_option linter.unusedVariables false
namespace Go.Proofs.YtiknomepbklibaaGreatDoor
open Go Go.RowKit
section

theorem xc{out:List Int}{k:Nat}{x y:Int}(h: ∀z∈out.take k,z<x)(hy:out[k]? =some y)(hlt:y<x): ∀z∈out.take (k+1),z<x:=by
 rw[List.take_add_one,hy];intro z hz;rcases List.mem_append.1 hz with hz|hz
 ·exact h z hz
 ·have:z=y:=by simpa using hz
  omega
theorem Ck{x:Int}: ∀{out:List Int} {k:Nat},k≤out.length→(∀z∈out.take k,z<x)→(∀z,out[k]? =some z→x<z)→Xl x out=out.take k++x::out.drop k
 |[],k,hk,_,_=>by
  have:k=0:=by simpa using hk
  subst this;rfl
 |y::out,0,_,_,h=>by
  have:=h y rfl;rw[Xl,if_neg Qc,if_neg Qc];rfl
 |y::out,k+1,hk,h1,h2=>by
  have hy:=h1 y Q4;rw[Xl,if_pos hy,Ck (by simpa using hk) (fun z hz=>h1 z (by simp[hz])) (fun z hz=>h2 z (by simpa using hz))];simp
theorem Fe{x:Int}: ∀{out:List Int} {k:Nat},(∀z∈out.take k,z<x)→out[k]? =some x→Xl x out=out
 |[],k,_,h=>by simp at h
 |y::out,0,_,h=>by
  injection h with h
  rw[Xl,if_neg Qc,if_pos h]
 |y::out,k+1,h1,h2=>by
  have hy:=h1 y Q4;rw[Xl,if_pos hy,Fe (out:=out) (k:=k) (fun z hz=>h1 z (by simp[hz])) h2]
theorem Ig(x:Int): ∀out:List Int,(Xl x out).length≤out.length+1
 |[]=>by simp[Xl]
 |y::out=>by
  have:=Ig x out;rw[Xl]
  split
  ·simp;omega
  ·split<;>simp
theorem SE(x:Int)(l:List Int):zC (x::l)=[AV.int .i64 x]::zC l:=rfl

theorem Gs{st:St}(hf:Qi st){l:List Int}{kl:AV}(hl:Jg st.h.get [] 1 (zC l) kl)(hn:l.length≤1000000000): ∃v st',Jf 65 [kl] st v st'∧ ∃ks,v=ks∧ED st st' 1 ks (zC l)∧Qt st st':=by
 have hcl:=Qp l;refine J7 Tryz.func65 Tryz.ntmps65 fun T K=>?_;have M:=Mem.start hf;refine Qb 2 K M fun _ K=>?_;refine p1 K (G6 (hl.len.trans (congrArg some (Qp _))) Je rfl rfl) fun _ K=>?_;refine Qb 0 K M fun _ K=>?_;refine Uq K rfl (fun h4=>?_) fun h4=>?_
 ·have hb4:=h4;refine Qb 1 K M ?_
  have hbl:l=[]:=by
   have h:=hl.len;rw[Tj h4]at h
   injection h with h
   rw[Qp]at h;exact Za h.symm
  exact⟨.nils,rfl,⟨[],by rw[hbl];exact .none,fun _ _ _ h=>by cases h⟩,M.qt⟩
 have hb4:=h4;refine au 2 K M ?_;intro c5 _ _ K _ M;replace M:=Mem.cast (M':=([(c5,0,[])]++[])) (Mem.perm M (List.perm_append_comm (l₁:=[(c5,0,[])]) (l₂:=[]))) Ux;have hA0c5:Acc st.n 1 [(c5,0,[])] (.sl c5 0 0 0 1) []:=Acc.own (n0:=st.n) (z:=1) (c:=c5) (m:=0) (ls:=[]) ((M.own c5 0 [] Q4).resolve_right Q4) Q4 Q4;refine SH (L:=[]) (A:=[(c5,0,[])]) (B:=[]) K M hA0c5 QD rfl rfl (Jg.mem M hl Q4) (EW _) (by simp only[List.length_nil];omega) rfl fun ks7 A7 _ _ K hA7 M=>?_;refine Qb 1 K M ?_;refine⟨_,rfl,?_,M.qt⟩;have h:=Mem.BS (L:=[]) (B:=[]) M hA7
 simpa using h

theorem Dl{st:St}(hf:Qi st){a b:List Int}{ka kb:AV}(hA:Jg st.h.get [] 1 (zC a) ka)(hB:Jg st.h.get [] 1 (zC b) kb): ∃v st',Jf 27 [ka,kb] st v st'∧v=.bool (decide (a=b))∧Qt st st':=by
 have hbna:(a.length:Int)≤9223372036854775807:=by have:=hA.W3;rw[Qp]at this;exact this
 have hbnb:(b.length:Int)≤9223372036854775807:=by have:=hB.W3;rw[Qp]at this;exact this
 refine J7 Tryz.func27 Tryz.ntmps27 fun T K=>?_;have M:=Mem.start hf;refine Qb 2 K M fun _ K=>?_;refine p1 K (Q5 Je rfl rfl (hA.len.trans (congrArg some (Qp _)))) fun _ K=>?_;refine Qb 1 K M fun _ K=>?_;refine p1 K (Q5 Je rfl rfl (hB.len.trans (congrArg some (Qp _)))) fun _ K=>?_;refine Qb 1 K M fun _ K=>?_;refine aS K rfl (fun h10=>?_) fun h10=>?_
 ·refine Qb 1 K M ?_;refine⟨congrArg AV.bool (Eq.symm (decide_eq_false fun e=>h10 (by rw[e]))),M.qt⟩
 refine Qb 1 K M fun _ K=>?_;refine QX (fun mm1 T st9=> ∃(i:Nat),mm1=a.length-i∧QS [(0,ka),(1,kb),(5,iN i)] T∧Mem st.h.get st.n [] st9 []∧i≤a.length∧(∀j,j<i→a[j]? =b[j]?)) (fun mm1 T st9 hI=>?_) _ _ _ ⟨0,rfl,(K.sub rfl),M.less (.refl _),(Nat.zero_le _),(fun j hj=>absurd hj (Nat.not_lt_zero j))⟩;obtain⟨i,rfl,K,M,hi,hx⟩:=hI;refine Qb 2 K M fun _ K=>?_;refine p1 K (Q5 Je rfl rfl (hA.len.trans (congrArg some (Qp _)))) fun _ K=>?_;refine Qb 1 K M fun _ K=>?_;refine Jt K rfl (fun h14=>?_) fun h14=>?_
 ·refine Qb 0 K M fun _ K=>?_;refine QA (l:=[(0,0),(1,0),(2,0),(3,0),(4,0),(5,0),(6,0),(7,0),(8,0)]) (by kernel_rfl) ?_;refine Jo 2 K M fun _ K=>?_;obtain⟨y19,hi19⟩:=Uy a i Qc;refine dI rfl rfl (Jg.mem M hA Q4) (Jm hi19) K Qo Qn rfl rfl rfl fun _ _ _ _ K=>?_;refine Jo 2 K M fun _ K=>?_;obtain⟨y23,hi23⟩:=Uy b i Qc;refine dI rfl rfl (Jg.mem M hB Q4) (Jm hi23) K Qo Qn rfl rfl rfl fun _ _ _ _ K=>?_;refine q1 rfl K (R9 rfl rfl) fun _ K=>QF ?_;show W _ _ _ _ _ _ _;refine aS K rfl (fun h25=>?_) fun h25=>?_
  ·refine Qb 1 K M ?_;refine⟨congrArg AV.bool (Eq.symm (decide_eq_false fun e=>h25 (by rw[e,hi23]at hi19;injection hi19 with e1;exact e1.symm))),M.qt⟩
  refine Qb 3 K M fun _ K=>?_;exact⟨_,Qc,i+1,rfl,(K.sub rfl),M.less (.refl _),Qc,(fun j hj=>by rcases Nat.lt_succ_iff_lt_or_eq.1 hj with h|h;exact hx j h;(subst h;rw[hi19,hi23,h25]))⟩
 refine QK ?_;show W _ _ _ _ _ _ _;refine Qb 1 K M ?_;refine⟨congrArg AV.bool (Eq.symm (decide_eq_true (List.ext_getElem? fun j=>?_))),M.qt⟩
 by_cases hj:j<a.length
 ·exact hx j Qc
 ·rw[List.getElem?_eq_none Qc,List.getElem?_eq_none Qc]

end
section
variable {L:List (List Int)} {cp:Nat} {l s:List Int}

def yk(L:List (List Int))(i:Int):List Int:=if 0≤i then(L[i.toNat]?).getD []else []
theorem T4{i:Int}(h0:0≤i)(h:L[i.toNat]? =some s):yk L i=s:=by rw[yk,if_pos h0,h];rfl
theorem Pc{i:Int}(h:i<0∨(L.length:Int)≤i):yk L i=[]:=by
 rw[yk]
 by_cases h0:0≤i
 ·rw[if_pos h0,List.getElem?_eq_none Qc];rfl
 ·rw[if_neg h0]
theorem Mem.Th{h0:Hp}{n0:Nat}{X:List Nat}{st:St}{M:U9}(hM:Mem h0 n0 X st M){cm k:Nat}{es:List (AV×AV×Nat)}(hm:st.h.get cm=some (.map es k)):cm∉M.map Prod.fst:=by
 intro hc;obtain⟨⟨c,m,l⟩,h1,h2⟩:=List.mem_map.1 hc;exact Qx.Th (hM.row c m l h1) hm h2
theorem Mem.az{h0:Hp}{n0 n1:Nat}{X:List Nat}{st:St}{Lr A' A2 B:U9}(hM:Mem h0 n0 X st (Lr++(A'++(A2++B)))){v:AV}(hA2:AN n1 A2 v s): ∀c m o n y,v=.sl c m o n y→n1≤c∧c<st.n∧ ∀m' l',(c,m',l')∉A':=by
 intro c m o n y e
 cases hA2 with
 |none=>cases e
 |own hc hb=>
  rename_i c2 m2 rest
  injection e with e1
  subst e1;refine⟨hc,hM.lt c2 m2 (s.map H4++rest) Q4,fun m' l' hm=>?_⟩;have hn:=hM.nodup;rw[List.map_append,List.map_append,List.map_append]at hn;have h2:=(List.nodup_append.1 hn).2.1;exact(List.nodup_append.1 h2).2.2 c2 (List.mem_map.2 ⟨_,hm,rfl⟩) c2 Q4 rfl
theorem ZG.grow{st st4:St}{F:Nat→Prop}{cm k:Nat}{ks ks' v:AV}{es:List (AV×AV×Nat)}{A A':U9}{vs:List AV}
  (hFn: ∀c,F c→c<st.n) (hFp:F cp) (hFm:F cm) (hrow:Qx st.h.get cp 0 [ks,.mp cm]) (hmap:st.h.get cm=some (.map es k)) (hent:es.map wM=WX 0 L) (hS:ZF st.h.get F cp A ks vs L) (hnd:L.Nodup) (hnf:XX 0 L s=none)
  (hx: ∀c,c<st.n→c≠cp→c≠cm→(∀m l,(c,m,l)∉A)→st4.h.get c=st.h.get c) (hrow4:Qx st4.h.get cp 0 [ks',.mp cm]) (hm4:st4.h.get cm=some (.map (es++[(.str (Zi s),.int .i64 (L.length:Nat),k)]) (k+1)))
  (hA4:YS A' ks' (vs++[v])) (hAr: ∀c m l,(c,m,l)∈A'→Qx st4.h.get c m l) (hAn: ∀c m l,(c,m,l)∈A'→(∃m l,(c,m,l)∈A)∨st.n≤c) (hv:Jg st4.h.get [] 1 (zC s) v) (hvz:X5 s) (hvn:v=.nils∨ ∃c m o n,v=.sl c m o n 1)
  (hvc: ∀c m o n y,v=.sl c m o n y→st.n≤c∧c<st4.n∧ ∀m' l',(c,m',l')∉A') (hf4:Qi st4) (hle:st.n≤st4.n):ZG st4.h.get (fun c=>F c∨(st.n≤c∧c<st4.n)) cp (L++[s])∧UQ F st st4:=by
 have hcpn:=hFn cp hFp;refine⟨⟨ks',cm,_,_,A',vs++[v],hrow4,.inl hFp,.inl hFm,hm4,?_,?_,?_⟩,hf4,hle,fun c hc hF=>?_⟩
 ·rw[List.map_append,hent,Of,Nat.zero_add];rfl
 ·refine hS.snoc hA4 (fun c m l hm=>?_) (fun c h=>.inl h) (fun c h1 h2 h3 ro ms h4=>?_) hv hvz hvn (fun c m o n y e=>?_)
  ·have hr:=hAr c m l hm;rcases hAn c m l hm with⟨m2,l2,h⟩|h
   ·obtain⟨_,k2,k3⟩:=hS.row c m2 l2 h;exact⟨hr,.inl k2,k3,.inl ⟨m2,l2,h⟩⟩
   ·exact⟨hr,.inr ⟨h,hr.lt hf4⟩,by omega,.inr fun hF=>by have:=hFn c hF;omega⟩
  ·refine hx c (hFn c h1) h2 ?_ h3
   rintro rfl
   rw[h4]at hmap;cases hmap
  ·obtain⟨k1,k2,k3⟩:=hvc c m o n y e;exact⟨.inr ⟨k1,k2⟩,by omega,k3⟩
 ·refine List.nodup_append.2 ⟨hnd,by simp,fun a ha b hb e=>?_⟩;rw[List.mem_singleton]at hb;subst hb e;exact IN hnf ha
 ·refine hx c hc (fun e=>hF (e▸hFp)) (fun e=>hF (e▸hFm)) fun m l hm=>hF (hS.row c m l hm).2.1
theorem AN.ge{n0:Nat}{A:U9}{ks:AV}(h:AN n0 A ks l){c m:Nat}{x:List AV}(hm:(c,m,x)∈A):n0≤c:=by
 cases h with
 |none=>cases hm
 |own hc hb=>simp at hm;omega
theorem Dd(h:X5 l):X5 (JP l):=fun z hz=>h z ((XM l z).1 hz)
section
variable {P:Program} {G:Env} {N:Nat} {st:St} {T:Tr AV} {ops rest:List Oper} {K:List (Nat×AV)} {R:Tr AV→St→Prop} {d:Nat} {ty t:TypeId} {pos:String} {af:Array Edge}
noncomputable def Es(st:St):St:=⟨st.n+1,st.h.set st.n (.map [] 0)⟩
theorem HY(hf:Qi st):Qi (Es st):=fun c hle=>by
 have hle:st.n+1≤c:=hle;show(st.h.set st.n _).get c=none;rw[JD,YT _ _ Qc];exact hf c Qc
theorem ME(hf:Qi st):Qt st (Es st):=⟨HY hf,Nat.le_succ _,fun c hc=>by
 show(st.h.set st.n _).get c=_
 rw[JD,YT _ _ Qc]⟩
theorem PY(hK:QS K T)(hN:Nat.ble (d+1) N=true)(hn: ∀T',QS ((d,.mp st.n)::K) T'→WR P G N ops rest R T' (Es st)):WR P G N ops (⟨some d,.makeMap t none,ty,pos,af,none⟩::rest) R T st:=
 EF (v:=.mp st.n) (st1:=Es st) hK (.of fun T hT c d ty pos af g=>by
  show WQ st=_;unfold WQ
  rw[WL];rfl) (Nat.le_of_ble_eq_true hN) hn
end

theorem LA{st:St}(hf:Qi st){F:Nat→Prop}(hP:ZG st.h.get F cp L): ∃v st',Jf 39 [.ptr cp 0 0] st v st'∧v=iZ (L.length:Nat)∧Qt st st':=by
 obtain⟨ks,cm,es,k,A,vs,hrow,hFp,hFm,hmap,hent,hS,hnd⟩:=hP;refine J7 Tryz.func39 Tryz.ntmps39 fun T K=>?_;have M:=Mem.start hf;refine Qb 2 K M fun _ K=>?_;refine p1 K (Yg EY rfl rfl) fun _ K=>?_;refine Qb 3 K M fun _ K=>?_;refine p1 K (Yf Zc rfl) fun _ K=>p1 K (Qg rfl (Qw (M.JF Q4 hrow.Jb) (Qd Q7 rfl))) fun _ K=>p1 K (Q5 JS rfl rfl hS.len) fun _ K=>?_;refine Qb 1 K M ?_;exact⟨rfl,M.qt⟩

theorem vo{st:St}(hf:Qi st){F:Nat→Prop}(hP:ZG st.h.get F cp L)(hbd: ∀s∈L,s.length≤100000)(hFn: ∀c,F c→c<st.n)(id:Int): ∃v st',Jf 40 [.ptr cp 0 0,iZ id] st v st'∧ ∃ks,v=ks∧ED st st' 1 ks (zC (yk L id))∧Qt st st':=by
 have hP0:=hP;obtain⟨ks,cm,es,k,A,vs,hrow,hFp,hFm,hmap,hent,hS,hnd⟩:=hP;refine J7 Tryz.func40 Tryz.ntmps40 fun T K=>?_;have M:=Mem.start hf;refine Qb 3 K M fun _ K=>?_;refine Ug K rfl (fun _ e7 K=>?_) fun _ e7 K=>?_
 ·refine Qb 2 K M fun _ K=>?_;obtain⟨v10,st10,ev10,rfl,q10⟩:=LA (L:=L) M.fresh (hP0.frame fun c hc=>M.J9 c (hFn c hc) Q4);refine pg K rfl rfl (Qf rfl ev10) fun _ K=>?_;replace M:=M.quiet q10;refine Qb 2 K M fun _ K=>?_;refine Jt K rfl (fun h12=>?_) fun h12=>?_
  ·refine Qb 1 K M ?_;refine⟨.nils,rfl,⟨[],?_,fun _ _ _ h=>by cases h⟩,M.qt⟩;rw[Pc Qc];exact .none
  refine Qb 2 K M fun _ K=>?_;refine p1 K (Yf Zc rfl) fun _ K=>p1 K (Qg rfl (Qw (M.JF Q4 hrow.Jb) (Qd Q7 rfl))) fun _ K=>?_;refine Qb 1 K M fun _ K=>?_;obtain⟨s18,hi18⟩:=Uy L (id.toNat) Qc;obtain⟨u18,hc18,hr18,hz18,hq18,hf18⟩:=hS.inn _ _ hi18;obtain⟨x18,m18,f18,q18,_,la18,lo18,lp18⟩:=(Jg.mem M hS.rd Q4).load (i:=id.toNat) (cs:=[u18]) (by rw[List.getElem?_map,hc18];rfl);refine p1 K (Qe (j:=id.toNat) QY (congrArg some q18) (congrArg (fun z=>some (iZ z)) (by omega:_=((id.toNat:Nat):Int))) (by rw[List.length_map,hS.ln];omega)) fun _ K=>p1 K (Qg rfl (lo18 _ 0 _ Ja rfl)) fun _ K=>?_;obtain⟨v20,st20,ev20,kn,rfl,nr20,q20⟩:=Gs M.fresh (Jg.mem M hr18 Q4) (Nat.le_trans (hbd _ (List.mem_of_getElem? hi18)) Q8);refine p1 K (Qf rfl ev20) fun _ K=>?_;obtain⟨A20,hA20,M⟩:=M.Yx q20 nr20;refine Qb 1 K M ?_;refine⟨_,rfl,?_,M.qt⟩;rw[T4 Qc hi18];have h:=Mem.BS (L:=[]) (B:=[]) M hA20
  simpa using h
 refine Qb 7 K M ?_;refine⟨.nils,rfl,⟨[],?_,fun _ _ _ h=>by cases h⟩,M.qt⟩;rw[Pc Qc];exact .none

theorem xW{st:St}(hf:Qi st): ∃v st',Jf 36 [] st v st'∧ ∃cp,v=.ptr cp 0 0∧ZG st'.h.get (fun c=>st.n≤c∧c<st'.n) cp []∧Qt st st':=by
 refine J7 Tryz.func36 Tryz.ntmps36 fun T K=>?_;have M:=Mem.start hf;refine Qb 1 K M fun _ K=>?_;refine PY K rfl fun _ K=>?_;have MQ:=M;have M:=Mem.start (HY hf);refine p1 K (WJ BB rfl rfl) fun _ K=>?_;refine au 2 K M ?_;intro c3 _ _ K _ M;refine Qb 0 K M ?_;replace M:Mem (Es st).h.get (Es st).n [] _ [(c3,0,[.nils,.mp st.n])]:=M;refine⟨_,rfl,⟨.nils,st.n,[],0,[],[],M.Ya (k:=0) rfl,?_,?_,?_,rfl,?_,List.Pairwise.nil⟩,(ME hf).trans M.qt⟩
 ·have h1:=M.own c3 0 [.nils,.mp st.n] Q4;have h2:=M.lt c3 0 [.nils,.mp st.n] Q4;have h3:(Es st).n=st.n+1:=rfl;simp at h1;exact⟨by omega,h2⟩
 ·exact⟨Nat.le_refl _,Nat.lt_of_lt_of_le (Nat.lt_succ_self _) M.le⟩
 ·rw[M.J9 st.n (Nat.lt_succ_self _) Q4];show(st.h.set st.n _).get st.n=_;rw[JD];exact Uk _ _ _
 ·exact⟨.none,(fun c m l h=>by cases h),rfl,(fun i s h=>by simp at h)⟩

theorem er{st:St}(hf:Qi st){F:Nat→Prop}(hP:ZG st.h.get F cp L)(hFn: ∀c,F c→c<st.n)(hL:L.length≤100000){kl:AV}(hl:Jg st.h.get [] 1 (zC l) kl)(hz:X5 l)(hn:l.length≤100000): ∃v st',Jf 61 [.ptr cp 0 0,kl] st v st'∧v=iZ (MA L l:Nat)∧ZG st'.h.get (fun c=>F c∨(st.n≤c∧c<st'.n)) cp (F6 L l)∧UQ F st st':=by
 have hP0:=hP;obtain⟨ks,cm,es,k,A,vs,hrow,hFp,hFm,hmap,hent,hS,hnd⟩:=hP;have hcm:cm<st.n:=hFn cm hFm;have hsz:=Dd hz
 have hRw: ∀c m x,(c,m,x)∈(cp,0,[ks,.mp cm])::A→Qx st.h.get c m x:=by
  intro c m x h;rcases List.mem_cons.1 h with h|h
  ·injection h with h1 h;injection h with h2 h3;subst h1 h2 h3;exact hrow
  ·exact(hS.row c m x h).1
 have hNd:(((cp,0,[ks,.mp cm])::A).map Prod.fst).Nodup:=by
  rw[List.map_cons];refine List.nodup_cons.2 ⟨fun h=>?_,hS.acc.nodup⟩;obtain⟨⟨c,m,x⟩,h1,h2⟩:=List.mem_map.1 h;exact(hS.row c m x h1).2.2 h2
 refine J7 Tryz.func61 Tryz.ntmps61 fun T K=>?_;have M:=Mem.start hf;refine Qb 2 K M fun _ K=>?_;refine p1 K (Yg EY rfl rfl) fun _ K=>?_;refine Qb 2 K M fun _ K=>?_;obtain⟨v10,st10,ev10,ks10,rfl,nr10,q10⟩:=Gs M.fresh (Jg.mem M hl Q4) Qc;refine p1 K (Qf rfl ev10) fun _ K=>?_;obtain⟨A10,hA10,M⟩:=M.Yx q10 nr10;refine Qb 2 K M fun _ K=>?_;obtain⟨v12,st12,A12,ev12,rfl,M7,hA12⟩:=Gy (L:=[]) (B:=[]) M hA10 Qc;refine p1 K (Qf rfl ev12) fun _ K=>?_;replace M:=M7;refine Qb 1 K M fun _ K=>?_;obtain⟨v14,st14,A14,ev14,hA14,M9⟩:=Bd (L:=[]) (B:=[]) M hA12 (by rw[YZ];omega);rw[Lt]at hA14;refine p1 K (Qf rfl ev14) fun _ K=>?_;replace M:=M9;refine Qb 1 K M fun _ K=>?_;refine QA (l:=[(4,0),(5,0),(0,0),(1,0),(2,0),(3,1),(6,0),(7,0),(8,0),(9,0),(10,0),(11,0)]) (by kernel_rfl) ?_;have Mq:=M;refine q1 rfl K (Qy rfl) fun _ K=>?_;obtain⟨v21,st21,ev21,rfl,q21⟩:=Tx (L:=[]) (B:=[]) M hA14 hsz (by rw[←Lt];exact Nat.le_trans (Zd _) (by rw[YZ];omega));refine qA rfl K (Qf rfl ev21) fun _ K=>?_;replace M:=M.quiet q21;have Mp:=Mq;have Mq:=M;refine Jo 2 K M fun _ K=>?_;refine q1 rfl K (Yf AB rfl) fun _ K=>?_;refine Ju rfl K rfl (Qw (M.JF Q4 hrow.Jb) (Qd Zy rfl)) (Qw (Mp.JF Q4 hrow.Jb) (Qd Zy rfl)) (JI rfl) rfl Q8 fun _ K=>?_;refine qA rfl K (RA rfl rfl ((M.J9 cm hcm Q4).trans hmap) hent) fun _ K=>?_;refine Jo 5 K M fun _ K=>?_;refine QF ?_;show W _ _ _ _ _ _ _;refine Qb 2 K M fun _ K=>?_;refine Uq K rfl (fun h26=>?_) fun h26=>?_
 ·have hb26:=h26
  replace h26:((XX 0 L (JP l)).isSome)=false:=by simpa using h26
  refine Jy ?_
  have hnf:XX 0 L (JP l)=none:=by
   cases hq:XX 0 L (JP l)with
   |none=>rfl
   |some i=>rw[hq]at h26;cases h26
  have Q1:=M.qt;have hmap1:=((M.J9 cm hcm Q4).trans hmap);have hcm1:=Nat.lt_of_lt_of_le hcm Q1.le;have M:=Mem.zM hf M ((cp,0,[ks,.mp cm])::A) hRw hNd;replace M:=Mem.cast (M':=((cp,0,[ks,(.mp cm)])::(A++(A14++[])))) M (by first|rfl|simp);have hcX:=Mem.Th M hmap1
  have hcX:cm∉List.map Prod.fst (((cp,0,[ks,.mp cm])::A)++(A14++[])):=by simpa using hcX
  refine Qb 2 K M fun _ K=>?_;refine p1 K (Yf Zc rfl) fun _ K=>p1 K (Qg rfl (M.load (k:=0) rfl (Qd Q7 rfl))) fun _ K=>p1 K (Q5 JS rfl rfl hS.len) fun _ K=>?_;refine Qb 1 K M fun _ K=>?_;refine QA (l:=[(4,0),(5,0),(0,0),(1,0),(2,0),(3,1),(6,0),(7,0)]) (by kernel_rfl) ?_;have Mq:=M;refine q1 rfl K (Qy rfl) fun _ K=>?_;obtain⟨v37,st37,ev37,rfl,q37⟩:=Tx (L:=((cp,0,[ks,(.mp cm)])::(A++[]))) (B:=[]) (Mem.cast M Ux) hA14 hsz (by rw[←Lt];exact Nat.le_trans (Zd _) (by rw[YZ];omega));refine qA rfl K (Qf rfl ev37) fun _ K=>?_;replace M:=M.quiet q37;have Mp:=Mq;have Mq:=M;refine Jo 2 K M fun _ K=>?_;refine q1 rfl K (Yf AB rfl) fun _ K=>?_;refine Ju rfl K rfl (M.load (k:=0) rfl (Qd Zy rfl)) (Mp.load (k:=0) rfl (Qd Zy rfl)) (JI rfl) rfl Q8 fun _ K=>?_;refine q1 rfl K (Qy rfl) fun _ K=>?_;have hmap2:=(M.J9 cm hcm1 hcX).trans hmap1;have Q2:=M.OB;refine zP rfl K rfl rfl rfl hmap2 hent hnf ?_;obtain⟨M,Q3⟩:=Mem.mapped M hmap2 (JP l) ((L.length:Nat):Int);have Mp:=Mq;have Mq:=M;refine QF ?_;show W _ _ _ _ _ _ _;refine Qb 3 K M fun _ K=>?_;refine p1 K (Yf Zc rfl) fun _ K=>p1 K (Qg rfl (M.load (k:=0) rfl (Qd Q7 rfl))) fun _ K=>?_;refine Qb 1 K M fun _ K=>?_;refine Xo K M QQ Ut rfl ((JB rfl hA14.cell rfl).trans rfl) (Qa hA14.cell Qz) rfl rfl fun c45 _ _ K M=>?_;have hle46:=M.le;refine YL (k2:=0) (L:=[(c45,0,[v14]),(cp,0,[ks,(.mp cm)])]) (B:=(A14++[])) K M hS.acc QQ rfl rfl rfl (by rw[hS.ln];omega) rfl fun ks46 A46 _ _ K hA46 hN46 M=>?_;simp only[XB]at M;refine Qb 1 K M fun _ K=>?_;refine p1 K (Yf Zc rfl) fun _ K=>?_;refine Jk (k:=1) K M rfl rfl rfl Uv (hA46.cell) rfl fun _ M=>?_;refine Qb 2 K M ?_
  have e1:MA L l=L.length:=by rw[MA,hnf];rfl
  have e2:F6 L l=L++[JP l]:=by rw[F6,hnf];rfl
  rw[e1,e2];refine⟨rfl,?_⟩;have hap:=Mem.az (Lr:=[(c45,0,[v14]),(cp,0,[ks46,(.mp cm)])]) (A':=A46) (A2:=A14) (B:=[]) M hA14;have hq3:=Q3.le;have hml:=M.le;have hq1:=Q1.le;have hq2:=Q2.le;refine ZG.grow hFn hFp hFm hrow hmap hent hS hnd hnf (fun c h1 h2 h3 h4=>?_) (M.Ya (k:=1) rfl) ?_ hA46 (fun c m l h=>M.row c m l (by simp[h])) (fun c m l h=>?_) (Mem.vR (L:=((c45,0,[v14])::(cp,0,[ks46,(.mp cm)])::(A46++[]))) (B:=[]) (Mem.cast M Ux) hA14) hsz hA14.Ti hap M.fresh Qc
  ·have hX:c∉List.map Prod.fst (((cp,0,[ks,.mp cm])::A)++(A14++[])):=by
    intro hc;obtain⟨⟨c',m',l'⟩,k1,k2⟩:=List.mem_map.1 hc;simp only at k2;subst k2;rcases List.mem_append.1 k1 with k1|k1
    ·rcases List.mem_cons.1 k1 with k1|k1
     ·injection k1 with k1;exact h2 k1
     ·exact h4 m' l' k1
    ·have:=hA14.ge (by simpa using k1);omega
   rw[M.J9 c Qc (by simpa using hX),Q3.J9 c Qc h3,Q2.J9 c Qc (by simpa using hX)];exact Q1.J9 c h1
  ·rw[M.J9 cm Qc (by simpa using hcX)];exact RG _ _ _ _ _ _
  ·rcases hN46 c m l h with h|h
   ·exact .inl h
   ·exact .inr Qc
 have hb26:=h26
 replace h26:((XX 0 L (JP l)).isSome)=true:=by simpa using h26
 refine Qb 2 K M ?_
 obtain⟨i,hq⟩: ∃i,XX 0 L (JP l)=some i:=by
  cases hq:XX 0 L (JP l)with
  |none=>rw[hq]at h26;cases h26
  |some i=>exact⟨i,rfl⟩
 have e1:MA L l=(XX 0 L (JP l)).getD 0:=by rw[MA,hq];rfl
 have e2:F6 L l=L:=by rw[F6,hq];rfl
 rw[e1,e2];refine⟨rfl,?_,M.qt.JM F⟩;have hP1:=hP0.frame fun c hc=>M.J9 c (hFn c hc) Q4;obtain⟨ks,cm,es,k,A,vs,k1,k2,k3,k4,k5,k6,k7⟩:=hP1;exact⟨ks,cm,es,k,A,vs,k1,.inl k2,.inl k3,k4,k5,k6.more fun c h=>.inl h,k7⟩
end
section

def fQ(h:Hp)(s:List Int)(cs:List AV):Prop:= ∃v,cs=[v]∧Jg h [] 1 (zC s) v∧X5 s
def OC(h:Hp)(l:List (List Int))(kk:AV)(ls:List (List AV)):Prop:=EN h 1 (fQ h) l kk ls
theorem OC.len{h:Hp}{l:List (List Int)}{kk:AV}{ls:List (List AV)}(H:OC h l kk ls):YD kk=some l.length:=by rw[←EN.ln H];exact(EN.r H).len
theorem Jg.J9{st:St}(hf:Qi st){h':Hp}{z:Nat}{ls:List (List AV)}{v:AV}(r:Jg st.h.get [] z ls v)(hO: ∀c,c<st.n→h' c=st.h.get c):Jg h' [] z ls v:=
 r.frame fun c m o n y e=>by
  obtain⟨_,cells,h2,_⟩:=r.alive c m o n y e;exact hO c (h2.lt hf)
theorem OC.J9{st:St}(hf:Qi st){h':Hp}{l:List (List Int)}{kk:AV}{ls:List (List AV)}(H:OC st.h.get l kk ls)(hO: ∀c,c<st.n→h' c=st.h.get c):OC h' l kk ls:=
 ⟨(EN.r H).J9 hf hO,EN.ln H,fun i k hi=>by
  obtain⟨cs,h1,v,h2,h3,h4⟩:=EN.at_ H i k hi
  exact⟨cs,h1,v,h2,h3.J9 hf hO,h4⟩⟩
theorem xS(L:List (List Int))(l:List Int):(F6 L l).length≤L.length+1:=by
 rw[F6];split
 ·omega
 ·simp
end
section

structure Hz{α:Type}(δ:α→Nat→α)(s0:α)(K:Nat)(l:List α)(es:List Nat):Prop where
 head:l[0]? =some s0
 nodup:l.Nodup
 step: ∀(p v:Nat),es[p]? =some v→ ∃s,l[p/K]? =some s∧l[v]? =some (δ s (p % K))
 first: ∀k,0<k→k<l.length→ ∃p:Nat,p/K<k∧es[p]? =some k∧ ∀(q v:Nat),q<p→es[q]? =some v→v<k
section
variable {α:Type} {δ:α→Nat→α} {s0:α} {K:Nat} {l:List α} {es:List Nat}
theorem Hz.start(δ:α→Nat→α)(s0:α)(K:Nat):Hz δ s0 K [s0] []:=
 ⟨rfl,by simp,fun p v h=>by simp at h,fun k h1 h2=>by simp at h2;omega⟩
theorem Hz.lt(E:Hz δ s0 K l es){p v:Nat}(h:es[p]? =some v):v<l.length:=by
 obtain⟨s,_,h2⟩:=E.step p v h;exact(List.getElem?_eq_some_iff.1 h2).1
theorem Hz.J9(E:Hz δ s0 K l es){s:α}{j:Nat}(hs:l[es.length/K]? =some s)(hj:l[j]? =some (δ s (es.length % K))):Hz δ s0 K l (es++[j]):=by
 refine⟨E.head,E.nodup,fun p v h=>?_,fun k h1 h2=>?_⟩
 ·by_cases hp:p<es.length
  ·rw[List.getElem?_append_left hp]at h;exact E.step p v h
  ·have hlt:=(List.getElem?_eq_some_iff.1 h).1;rw[List.length_append,List.length_singleton]at hlt
   have hp:p=es.length:=by omega
   subst hp;rw[List.getElem?_append_right (Nat.le_refl _),Nat.sub_self]at h
   injection h with h
   subst h;exact⟨s,hs,hj⟩
 ·obtain⟨p,a1,a2,a3⟩:=E.first k h1 h2;have hp:=(List.getElem?_eq_some_iff.1 a2).1;refine⟨p,a1,by rw[List.getElem?_append_left hp];exact a2,fun q v hq hv=>?_⟩;rw[List.getElem?_append_left Qc]at hv;exact a3 q v hq hv
theorem Hz.new(E:Hz δ s0 K l es){s:α}(hs:l[es.length/K]? =some s)(hn:δ s (es.length % K)∉l):Hz δ s0 K (l++[δ s (es.length % K)]) (es++[l.length]):=by
 have hi:=(List.getElem?_eq_some_iff.1 hs).1;refine⟨?_,List.nodup_append.2 ⟨E.nodup,by simp,fun a ha b hb e=>?_⟩,fun p v h=>?_,fun k h1 h2=>?_⟩
 ·rw[List.getElem?_append_left (Nat.lt_of_le_of_lt (Nat.zero_le _) hi)];exact E.head
 ·rw[List.mem_singleton]at hb;subst hb e;exact hn ha
 ·by_cases hp:p<es.length
  ·rw[List.getElem?_append_left hp]at h;obtain⟨s',b1,b2⟩:=E.step p v h;refine⟨s',?_,?_⟩
   ·rw[List.getElem?_append_left (List.getElem?_eq_some_iff.1 b1).1];exact b1
   ·rw[List.getElem?_append_left (List.getElem?_eq_some_iff.1 b2).1];exact b2
  ·have hlt:=(List.getElem?_eq_some_iff.1 h).1;rw[List.length_append,List.length_singleton]at hlt
   have hp:p=es.length:=by omega
   subst hp;rw[List.getElem?_append_right (Nat.le_refl _),Nat.sub_self]at h
   injection h with h
   subst h;refine⟨s,by rw[List.getElem?_append_left hi];exact hs,by simp⟩
 ·rw[List.length_append,List.length_singleton]at h2
  by_cases hk:k<l.length
  ·obtain⟨p,a1,a2,a3⟩:=E.first k h1 hk;have hp:=(List.getElem?_eq_some_iff.1 a2).1;refine⟨p,a1,by rw[List.getElem?_append_left hp];exact a2,fun q v hq hv=>?_⟩;rw[List.getElem?_append_left Qc]at hv;exact a3 q v hq hv
  ·have hk:k=l.length:=by omega
   subst hk;refine⟨es.length,hi,by simp,fun q v hq hv=>?_⟩;rw[List.getElem?_append_left hq]at hv;exact E.lt hv
theorem Hz.all(E:Hz δ s0 K l es){Q:α→Prop}(h0:Q s0)(hs: ∀s c,Q s→(0<K→c<K)→Q (δ s c)): ∀(k:Nat) (s:α),l[k]? =some s→Q s:=by
 intro k
 induction k using Nat.strongRecOn with
 |_ k ih=>
  intro s hk
  by_cases h:k=0
  ·subst h;rw[E.head]at hk
   injection hk with hk
   exact hk▸h0
  ·obtain⟨p,a1,a2,_⟩:=E.first k Qc (List.getElem?_eq_some_iff.1 hk).1;obtain⟨s',b1,b2⟩:=E.step p k a2;rw[hk]at b2
   injection b2 with b2
   subst b2;exact hs s' _ (ih _ a1 s' b1) fun hK=>Nat.mod_lt _ hK
end
theorem Xa{α:Type}: ∀{a b:List α},a.Nodup→(∀x∈a,x∈b)→a.length≤b.length
 |[],b,_,_=>by simp
 |x::a,b,h,hs=>by
  obtain⟨b1,b2,rfl⟩:=List.append_of_mem (hs x Q4);have h':=List.nodup_cons.1 h
  have:=Xa (b:=b1++b2) h'.2 fun y hy=>by
   have:=hs y (by simp[hy]);simp only[List.mem_append,List.mem_cons]at this ⊢;rcases this with h1|h1|h1
   ·exact .inl h1
   ·subst h1;exact absurd hy h'.1
   ·exact .inr h1
  simp only[List.length_append,List.length_cons]at this ⊢;omega
end
section

structure Au where
 tr:Nat
 acc:List Bool
 nx:List (List Int)
abbrev Au.n(a:Au):Nat:=a.acc.length
abbrev Au.K(a:Au):Nat:=2^a.tr
def Au.go(a:Au)(s c:Nat):Nat:=(((a.nx[s]?).getD [])[c]?.getD 0).toNat
def Au.ok(a:Au)(s:Nat):Bool:=(a.acc[s]?).getD false
def Au.run(a:Au)(s:Nat)(w:List Nat):Nat:=w.foldl a.go s
def X4(K:Nat)(w:List Nat):Prop:= ∀c∈w,c<K
structure Zp(a:Au):Prop where
 tr:a.tr≤6
 pos:1≤a.n
 most:a.n≤400
 len:a.nx.length=a.n
 row: ∀r∈a.nx,r.length=a.K∧ ∀z∈r,0≤z∧z<a.n
theorem Au.Nf(a:Au)(s c:Nat)(w:List Nat):a.run s (c::w)=a.run (a.go s c) w:=rfl
theorem Au.SR(a:Au)(s:Nat)(v w:List Nat):a.run s (v++w)=a.run (a.run s v) w:=List.foldl_append ..
theorem Zp.at_{a:Au}(W:Zp a){s c:Nat}(hs:s<a.n)(hc:c<a.K): ∃r z,a.nx[s]? =some r∧r[c]? =some z∧z=((a.go s c:Nat):Int)∧a.go s c<a.n∧r.length=a.K:=by
 obtain⟨r,hr⟩: ∃r,a.nx[s]? =some r:=⟨_,List.getElem?_eq_getElem (by rw[W.len];exact hs)⟩;obtain⟨h1,h2⟩:=W.row r (List.mem_of_getElem? hr);obtain⟨z,hz⟩: ∃z,r[c]? =some z:=⟨_,List.getElem?_eq_getElem (by rw[h1];exact hc)⟩;have h3:=h2 z (List.mem_of_getElem? hz)
 have e:a.go s c=z.toNat:=by unfold Au.go;rw[hr,Option.getD_some,hz,Option.getD_some]
 exact⟨r,z,hr,hz,by omega,by omega,h1⟩
theorem Zp.UP{a:Au}(W:Zp a){s c:Nat}(hs:s<a.n)(hc:c<a.K):a.go s c<a.n:=by
 obtain⟨_,_,_,_,_,h,_⟩:=W.at_ hs hc;exact h
theorem Zp.Nd{a:Au}(W:Zp a): ∀(w:List Nat) {s:Nat},s<a.n→X4 a.K w→a.run s w<a.n
 |[],s,hs,_=>hs
 |c::w,s,hs,h=>W.Nd w (W.UP hs (h c Q4)) fun x hx=>h x (by simp[hx])
theorem av{a b:Au}(Wa:Zp a)(Wb:Zp b)(ht:a.tr=b.tr)(hn:a.n=b.n)(hk: ∀s,s<a.n→a.ok s=b.ok s)(hg: ∀s c,s<a.n→c<a.K→a.go s c=b.go s c):a=b:=by
 obtain⟨ta,ca,na⟩:=a;obtain⟨tb,cb,nb⟩:=b;have ht:ta=tb:=ht;subst ht;have hn:ca.length=cb.length:=hn
 have h1:ca=cb:=by
  apply List.ext_getElem?;intro i
  by_cases hi:i<ca.length
  ·have h:(ca[i]?).getD false=(cb[i]?).getD false:=hk i hi
   have hi':i<cb.length:=by omega
   rw[List.getElem?_eq_getElem hi,List.getElem?_eq_getElem hi']at h ⊢;exact congrArg some h
  ·rw[List.getElem?_eq_none Qc,List.getElem?_eq_none Qc]
 clear hk;subst h1;have la:na.length=ca.length:=Wa.len;have lb:nb.length=ca.length:=Wb.len
 have h2:na=nb:=by
  apply List.ext_getElem?;intro i
  by_cases hi:i<ca.length
  ·obtain⟨r,hr⟩: ∃r,na[i]? =some r:=⟨_,List.getElem?_eq_getElem Qc⟩;obtain⟨r',hr'⟩: ∃r,nb[i]? =some r:=⟨_,List.getElem?_eq_getElem Qc⟩;rw[hr,hr'];have e1:=(Wa.row r (List.mem_of_getElem? hr)).1;have e2:=(Wb.row r' (List.mem_of_getElem? hr')).1
   congr 1
   apply List.ext_getElem?;intro c
   by_cases hc:c<2^ta
   ·obtain⟨r1,z,a1,a2,a3,_⟩:=Wa.at_ (s:=i) (c:=c) hi hc;obtain⟨r2,z',b1,b2,b3,_⟩:=Wb.at_ (s:=i) (c:=c) hi hc;have a1:na[i]? =some r1:=a1;have b1:nb[i]? =some r2:=b1;rw[hr]at a1;rw[hr']at b1
    injection a1 with a1
    injection b1 with b1
    subst a1 b1;rw[a2,b2,a3,b3,hg i c hi hc]
   ·rw[List.getElem?_eq_none (by rw[e1];exact Nat.le_of_not_lt hc),List.getElem?_eq_none (by rw[e2];exact Nat.le_of_not_lt hc)]
  ·rw[List.getElem?_eq_none Qc,List.getElem?_eq_none Qc]
 subst h2;rfl
def Vc(a b:Au)(s t:Nat):Prop:= ∀w,X4 a.K w→a.ok (a.run s w)=b.ok (b.run t w)
theorem Vc.go{a b:Au}{s t:Nat}(h:Vc a b s t){c:Nat}(hc:c<a.K):Vc a b (a.go s c) (b.go t c):=fun w hw=>h (c::w) fun x hx=>by
 rcases List.mem_cons.1 hx with rfl|hx
 ·exact hc
 ·exact hw x hx
structure Canon(a:Au):Prop where
 wf:Zp a
 red: ∀s t,s<a.n→t<a.n→Vc a a s t→s=t
 first: ∀k,0<k→k<a.n→ ∃i c,i<k∧c<a.K∧a.go i c=k∧ ∀i' c',(i'<i∨i'=i∧c'<c)→c'<a.K→a.go i' c'<k
theorem Hr{a b:Au}(Ca:Canon a)(Cb:Canon b)(ht:a.tr=b.tr)(h0:Vc a b 0 0)(k:Nat)(ih: ∀j,j<k→(j<a.n↔j<b.n)∧(j<a.n→Vc a b j j))(hk:k<a.n):k<b.n∧Vc a b k k:=by
 have hK:a.K=b.K:=by unfold Au.K;rw[ht]
 by_cases hz:k=0
 ·subst hz;exact⟨Cb.wf.pos,h0⟩
 ·obtain⟨i,c,h1,h2,h3,h4⟩:=Ca.first k Qc hk;have hi:=(ih i h1).2 Qc;have hib:=(ih i h1).1.1 Qc;have hl:=hi.go h2;rw[h3]at hl;have htn:=Cb.wf.UP hib (hK▸h2)
  have hge:k≤b.go i c:=Nat.le_of_not_lt fun hlt=>by
   have h5:=(ih _ hlt).2 ((ih _ hlt).1.2 htn)
   have:=Ca.red k (b.go i c) hk ((ih _ hlt).1.2 htn) fun w hw=>by rw[hl w hw,h5 w hw]
   omega
  have hkb:k<b.n:=by omega
  obtain⟨i2,c2,k1,k2,k3,k4⟩:=Cb.first k Qc hkb
  have he:b.go i c=k:=by
   by_cases e:i2=i∧c2=c
   ·rw[←e.1,←e.2];exact k3
   ·exfalso
    by_cases hlt:i2<i∨i2=i∧c2<c
    ·have h5:=h4 i2 c2 hlt (hK▸k2);have h6:=((ih i2 k1).2 ((ih i2 k1).1.2 Qc)).go (c:=c2) (by rw[hK];exact k2);rw[k3]at h6;have h7:=(ih _ h5).2 Qc
     have:=Cb.red (a.go i2 c2) k ((ih _ h5).1.1 Qc) hkb fun w hw=>by
      rw[←h6 w (by rw[hK];exact hw),h7 w (by rw[hK];exact hw)]
     omega
    ·have:=k4 i c Qc (hK▸h2);omega
  rw[he]at hl;exact⟨hkb,hl⟩
theorem Vc.symm{a b:Au}{s t:Nat}(ht:a.tr=b.tr)(h:Vc a b s t):Vc b a t s:=fun w hw=>(h w (by unfold Au.K;rw[ht];exact hw)).symm
theorem Sp{a b:Au}(Ca:Canon a)(Cb:Canon b)(ht:a.tr=b.tr)(h0:Vc a b 0 0):a=b:=by
 have hK:a.K=b.K:=by unfold Au.K;rw[ht]
 have key: ∀k,(k<a.n↔k<b.n)∧(k<a.n→Vc a b k k):=by
  intro k
  induction k using Nat.strongRecOn with
  |_ k ih=>
   have ih': ∀j,j<k→(j<b.n↔j<a.n)∧(j<b.n→Vc b a j j):=fun j hj=>⟨(ih j hj).1.symm,fun h=>((ih j hj).2 ((ih j hj).1.2 h)).symm ht⟩;refine⟨⟨fun h=>(Hr Ca Cb ht h0 k ih h).1,fun h=>(Hr Cb Ca ht.symm (h0.symm ht) k ih' h).1⟩,fun h=>(Hr Ca Cb ht h0 k ih h).2⟩
 have hn:a.n=b.n:=by
  have h1:=(key a.n).1;have h2:=(key b.n).1;omega
 refine av Ca.wf Cb.wf ht hn (fun s hs=>(key s).2 hs [] fun _ h=>by cases h) fun s c hs hc=>?_;have h1:=((key s).2 hs).go hc;have hlt:=Ca.wf.UP hs hc;have h2:=(key _).2 hlt
 exact Cb.red _ _ Qc (Cb.wf.UP Qc (hK▸hc)) fun w hw=>by
  rw[←h1 w (by rw[hK];exact hw),h2 w (by rw[hK];exact hw)]
end
section
variable {a:Au} {cl cl' xs:List Int} {s:Nat}

abbrev cv(cl:List Int)(s:Nat):Int:=(cl[s]?).getD 0
structure Kp(a:Au)(cl:List Int):Prop where
 len:cl.length=a.n
 like: ∀s t,s<a.n→t<a.n→Vc a a s t→cv cl s=cv cl t
 ok: ∀s t,s<a.n→t<a.n→cv cl s=cv cl t→a.ok s=a.ok t
structure AQ(a:Au)(cl cl':List Int):Prop where
 len:cl'.length=a.n
 iff: ∀s t,s<a.n→t<a.n→(cv cl' s=cv cl' t↔cv cl s=cv cl t∧ ∀c,c<a.K→cv cl (a.go s c)=cv cl (a.go t c))
def Kk(a:Au)(cl:List Int):Prop:= ∀s t,s<a.n→t<a.n→cv cl s=cv cl t→ ∀c,c<a.K→cv cl (a.go s c)=cv cl (a.go t c)
structure ZO(a:Au)(cl:List Int):Prop where
 len:cl.length=a.n
 iff: ∀s t,s<a.n→t<a.n→(cv cl s=cv cl t↔Vc a a s t)
theorem Kp.yn(W:Zp a)(h:Kp a cl)(f:AQ a cl cl'):Kp a cl':=
 ⟨f.len,fun s t hs ht hl=>(f.iff s t hs ht).2 ⟨h.like s t hs ht hl,fun c hc=>h.like _ _ (W.UP hs hc) (W.UP ht hc) (hl.go hc)⟩,fun s t hs ht e=>h.ok s t hs ht ((f.iff s t hs ht).1 e).1⟩
theorem Kp.IG(W:Zp a)(h:Kp a cl)(st:Kk a cl):ZO a cl:=by
 refine⟨h.len,fun s t hs ht=>⟨fun e w hw=>?_,h.like s t hs ht⟩⟩
 induction w generalizing s t with
 |nil=>exact h.ok s t hs ht e
 |cons c w ih=>
  have hc:=hw c Q4;exact ih _ _ (W.UP hs hc) (W.UP ht hc) (st s t hs ht e c hc) fun x hx=>hw x (by simp[hx])
theorem NT(hl:cl.length=a.n)(h: ∀s t,s<a.n→t<a.n→(cv cl s=cv cl t↔a.ok s=a.ok t)):Kp a cl:=
 ⟨hl,fun s t hs ht e=>(h s t hs ht).2 (e [] fun _ h=>by cases h),fun s t hs ht e=>(h s t hs ht).1 e⟩
def Kn(n:Nat)(cl:List Int)(k:Nat):Prop:=(∀s,s<n→0≤cv cl s∧cv cl s<k)∧ ∀v,v<k→ ∃s,s<n∧cv cl s=((v:Nat):Int)
theorem BR{k k':Nat}(f:AQ a cl cl')(h:Kn a.n cl k)(h':Kn a.n cl' k'):k≤k'∧(k=k'→ ∀s t,s<a.n→t<a.n→cv cl s=cv cl t→cv cl' s=cv cl' t):=by
 have hr: ∃r:Nat→Nat,∀v,v<k→r v<a.n∧cv cl (r v)=((v:Nat):Int):=by
  have: ∀v,∃s,v<k→s<a.n∧cv cl s=((v:Nat):Int):=fun v=>by
   by_cases hv:v<k
   ·obtain⟨s,hs⟩:=h.2 v hv;exact⟨s,fun _=>hs⟩
   ·exact⟨0,fun h=>absurd h hv⟩
  exact Classical.axiomOfChoice this
 obtain⟨r,hr⟩:=hr

 have hnd: ∀m,m≤k→((List.range m).map fun v=>(cv cl' (r v)).toNat).Nodup:=fun m hm=>by
  refine List.pairwise_map.2 ((List.nodup_range (n:=m)).imp_of_mem fun{x y} hx hy hne e=>?_);have hx:=List.mem_range.1 hx;have hy:=List.mem_range.1 hy;obtain⟨x1,x2⟩:=hr x Qc;obtain⟨y1,y2⟩:=hr y Qc;have a1:=h'.1 _ x1;have a2:=h'.1 _ y1
  have e':cv cl' (r x)=cv cl' (r y):=by omega
  have:=((f.iff _ _ x1 y1).1 e').1;omega
 have hin: ∀s,s<a.n→(cv cl' s).toNat∈List.range k':=fun s hs=>by
  have:=h'.1 s hs;exact List.mem_range.2 Qc
 have hall: ∀m,m≤k→ ∀x∈(List.range m).map fun v=>(cv cl' (r v)).toNat,x∈List.range k':=fun m hm x hx=>by
  obtain⟨v,hv,rfl⟩:=List.mem_map.1 hx;exact hin _ (hr v (by have:=List.mem_range.1 hv;omega)).1
 have hle:=Xa (hnd k (Nat.le_refl _)) (hall k (Nat.le_refl _));simp only[List.length_map,List.length_range]at hle;refine⟨hle,fun e s t hs ht hst=>?_⟩

 have key: ∀u,u<a.n→cv cl' u=cv cl' (r (cv cl u).toNat):=fun u hu=>Classical.byContradiction fun hne=>by
  have hv:=h.1 u hu
  have hvk:(cv cl u).toNat<k:=by omega
  obtain⟨r1,r2⟩:=hr _ hvk
  have hnew:((cv cl' u).toNat::(List.range k).map fun v=>(cv cl' (r v)).toNat).Nodup:=by
   refine List.nodup_cons.2 ⟨fun hm=>?_,hnd k (Nat.le_refl _)⟩;obtain⟨v,hv',e'⟩:=List.mem_map.1 hm;have hv':=List.mem_range.1 hv';obtain⟨v1,v2⟩:=hr v hv';have b1:=h'.1 _ v1;have b2:=h'.1 _ hu
   have e2:cv cl' (r v)=cv cl' u:=by omega
   have e3:=((f.iff _ _ v1 hu).1 e2).1
   have e4:v=(cv cl u).toNat:=by omega
   subst e4;exact hne e2.symm
  have:=Xa hnew (b:=List.range k') fun x hx=>by
   rcases List.mem_cons.1 hx with rfl|hx
   ·exact hin u hu
   ·exact hall k (Nat.le_refl _) x hx
  simp only[List.length_cons,List.length_map,List.length_range]at this;omega
 rw[key s hs,key t ht,hst]
theorem Ae(f:AQ a cl cl')(h: ∀s t,s<a.n→t<a.n→cv cl s=cv cl t→cv cl' s=cv cl' t):Kk a cl:=fun s t hs ht e=>((f.iff s t hs ht).1 (h s t hs ht e)).2
theorem CZ(W:Zp a)(f:AQ a cl cl')(st:Kk a cl):Kk a cl':=fun s t hs ht e c hc=>by
 have h1:=(f.iff s t hs ht).1 e;have h2:=h1.2 c hc;exact(f.iff _ _ (W.UP hs hc) (W.UP ht hc)).2 ⟨h2,fun d hd=>st _ _ (W.UP hs hc) (W.UP ht hc) h2 d hd⟩
def Ui:List Int→List Int→List Int
 |_,[]=>[]
 |seen,x::xs=>if x∈seen then((seen.idxOf x:Nat):Int)::Ui seen xs else((seen.length:Nat):Int)::Ui (seen++[x]) xs
theorem XL: ∀(xs seen:List Int),(Ui seen xs).length=xs.length
 |[],_=>rfl
 |x::xs,seen=>by
  rw[Ui]
  split
  ·rw[List.length_cons,XL xs,List.length_cons]
  ·rw[List.length_cons,XL xs,List.length_cons]
theorem L5: ∀(xs seen:List Int),seen.Nodup→ ∃all:List Int,seen<+:all∧all.Nodup∧(∀x∈all,x∈seen∨x∈xs)∧ ∀(i:Nat) (x:Int),xs[i]? =some x→ ∃v:Nat,(Ui seen xs)[i]? =some ((v:Nat):Int)∧all[v]? =some x
 |[],seen,h=>⟨seen,List.prefix_refl _,h,fun x hx=>.inl hx,fun i x hi=>by simp at hi⟩
 |x::xs,seen,h=>by
  by_cases hx:x∈seen
  ·obtain⟨all,h1,h2,h3,h4⟩:=L5 xs seen h;refine⟨all,h1,h2,fun y hy=>(h3 y hy).imp id (fun h=>List.mem_cons_of_mem _ h),fun i y hi=>?_⟩;rw[Ui,if_pos hx]
   cases i with
   |zero=>
    injection hi with hi
    subst hi;refine⟨_,rfl,?_⟩;obtain⟨X,rfl⟩:=h1;have hlt:=List.idxOf_lt_length_of_mem hx;rw[List.getElem?_append_left hlt,List.getElem?_eq_getElem hlt,List.getElem_idxOf hlt]
   |succ i=>exact h4 i y hi
  ·have hnd:(seen++[x]).Nodup:=List.nodup_append.2 ⟨h,by simp,fun a ha b hb e=>by rw[List.mem_singleton]at hb;subst hb e;exact hx ha⟩;obtain⟨all,h1,h2,h3,h4⟩:=L5 xs (seen++[x]) hnd;refine⟨all,(List.prefix_append _ _).trans h1,h2,fun y hy=>?_,fun i y hi=>?_⟩
   ·rcases h3 y hy with h|h
    ·rcases List.mem_append.1 h with h|h
     ·exact .inl h
     ·rw[List.mem_singleton]at h;subst h;exact .inr Q4
    ·exact .inr (List.mem_cons_of_mem _ h)
   ·rw[Ui,if_neg hx]
    cases i with
    |zero=>
     injection hi with hi
     subst hi;refine⟨_,rfl,?_⟩;obtain⟨X,rfl⟩:=h1;rw[List.getElem?_append_left Q4];simp
    |succ i=>exact h4 i y hi
theorem HX{t:Nat}(hs:s<xs.length)(ht:t<xs.length):cv (Ui [] xs) s=cv (Ui [] xs) t↔cv xs s=cv xs t:=by
 obtain⟨all,_,h2,_,h4⟩:=L5 xs [] List.nodup_nil;obtain⟨v,a1,a2⟩:=h4 s _ (List.getElem?_eq_getElem hs);obtain⟨u,b1,b2⟩:=h4 t _ (List.getElem?_eq_getElem ht);unfold cv;rw[a1,b1,List.getElem?_eq_getElem hs,List.getElem?_eq_getElem ht];simp only[Option.getD_some];have hv:=(List.getElem?_eq_some_iff.1 a2).1;constructor
 ·intro e
  have e:v=u:=by omega
  subst e;rw[a2]at b2;injection b2
 ·intro e;rw[←e]at b2;rw[(List.getElem?_inj hv h2).1 (a2.trans b2.symm)]
theorem ug(hs:s<xs.length):0≤cv (Ui [] xs) s∧cv (Ui [] xs) s<xs.length:=by
 obtain⟨all,_,h2,h3,h4⟩:=L5 xs [] List.nodup_nil;obtain⟨v,a1,a2⟩:=h4 s _ (List.getElem?_eq_getElem hs);have h5:=Xa h2 (b:=xs) fun x hx=>(h3 x hx).resolve_left Q4;have hv:=(List.getElem?_eq_some_iff.1 a2).1;unfold cv;rw[a1,Option.getD_some];omega
theorem IP: ∀(xs ys sx sy:List Int),xs.length=ys.length→sx.length=sy.length→sx.Nodup→sy.Nodup→
  (∀(i j:Nat) (x y:Int),xs[i]? =some x→ys[i]? =some y→((∀x',xs[j]? =some x'→ ∀y',ys[j]? =some y'→(x=x'↔y=y'))∧(sx[j]? =some x↔sy[j]? =some y)))→Ui sx xs=Ui sy ys
 |[],[],_,_,_,_,_,_,_=>rfl
 |[],y::ys,_,_,h,_,_,_,_=>by simp at h
 |x::xs,[],_,_,h,_,_,_,_=>by simp at h
 |x::xs,y::ys,sx,sy,h,hl,nx,ny,hk=>by
  have hmem:x∈sx↔y∈sy:=by
   constructor
   ·intro hx;obtain⟨j,hj,e⟩:=List.mem_iff_getElem.1 hx;exact List.mem_of_getElem? (((hk 0 j x y rfl rfl).2).1 (by rw[←e];exact List.getElem?_eq_getElem hj))
   ·intro hy;obtain⟨j,hj,e⟩:=List.mem_iff_getElem.1 hy;exact List.mem_of_getElem? (((hk 0 j x y rfl rfl).2).2 (by rw[←e];exact List.getElem?_eq_getElem hj))
  rw[Ui,Ui]
  by_cases hx:x∈sx
  ·rw[if_pos hx,if_pos (hmem.1 hx)];have hi:=List.idxOf_lt_length_of_mem hx
   have e1:sx[sx.idxOf x]? =some x:=by rw[List.getElem?_eq_getElem hi,List.getElem_idxOf hi]
   have e2:=((hk 0 _ x y rfl rfl).2).1 e1;have hy:=List.idxOf_lt_length_of_mem (hmem.1 hx)
   have e3:sy[sy.idxOf y]? =some y:=by rw[List.getElem?_eq_getElem hy,List.getElem_idxOf hy]
   rw[(List.getElem?_inj hy ny).1 (e3.trans e2.symm)]
   congr 1
   exact IP xs ys sx sy (by simpa using h) hl nx ny fun i j a b ha hb=>⟨fun x' hx' y' hy'=>(hk (i+1) (j+1) a b ha hb).1 x' hx' y' hy',(hk (i+1) j a b ha hb).2⟩
  ·rw[if_neg hx,if_neg fun h=>hx (hmem.2 h),hl]
   congr 1
   refine IP xs ys (sx++[x]) (sy++[y]) (by simpa using h) (by simp[hl]) ?_ ?_ fun i j a b ha hb=>⟨fun x' hx' y' hy'=>(hk (i+1) (j+1) a b ha hb).1 x' hx' y' hy',?_⟩
   ·exact List.nodup_append.2 ⟨nx,by simp,fun p hp q hq e=>by rw[List.mem_singleton]at hq;subst hq e;exact hx hp⟩
   ·exact List.nodup_append.2 ⟨ny,by simp,fun p hp q hq e=>by rw[List.mem_singleton]at hq;subst hq e;exact hx (hmem.2 hp)⟩
   ·by_cases hj:j<sx.length
    ·rw[List.getElem?_append_left hj,List.getElem?_append_left Qc];exact(hk (i+1) j a b ha hb).2
    ·by_cases hj2:j=sx.length
     ·subst hj2;rw[List.getElem?_append_right (Nat.le_refl _),List.getElem?_append_right Qc,hl,Nat.sub_self];have:=(hk (i+1) 0 a b ha hb).1 x rfl y rfl;constructor
      ·intro e;injection e with e;rw[this.1 e.symm];rfl
      ·intro e;injection e with e;rw[this.2 e.symm];rfl
     ·rw[List.getElem?_eq_none (by simp;omega),List.getElem?_eq_none (by simp;omega)];simp
def wQ(n:Nat):List (Nat×Nat):=(List.range n).flatMap fun s=>(List.range n).map fun t=>(s,t)
def alike(n:Nat)(cl:List Int):Nat:=(wQ n).countP fun x=>decide (cv cl x.1=cv cl x.2)
theorem MC{ys:List Int}(hx:xs.length=a.n)(hy:ys.length=a.n)(f:AQ a (Ui [] xs) (Ui [] ys))(h: ∀s t,s<a.n→t<a.n→cv (Ui [] xs) s=cv (Ui [] xs) t→cv (Ui [] ys) s=cv (Ui [] ys) t):Ui [] ys=Ui [] xs:=by
 refine IP ys xs [] [] Qc rfl List.nodup_nil List.nodup_nil fun i j y x hyi hxi=>⟨fun y' hy' x' hx'=>?_,by simp⟩;have hi:=(List.getElem?_eq_some_iff.1 hyi).1;have hj:=(List.getElem?_eq_some_iff.1 hy').1;have e1:=HX (xs:=xs) (s:=i) (t:=j) Qc Qc;have e2:=HX (xs:=ys) (s:=i) (t:=j) hi hj;unfold cv at e1 e2;rw[hxi,hx']at e1;rw[hyi,hy']at e2;simp only[Option.getD_some]at e1 e2;constructor
 ·intro e;exact e1.1 ((f.iff i j Qc Qc).1 (e2.2 e)).1
 ·intro e;exact e2.1 (h i j Qc Qc (e1.2 e))
structure z7(K:Nat)(rows:List (List Int))(es:List Nat):Prop where
 len: ∀r∈rows,r.length=K
 flat:rows.flatten=es.map fun v=>((v:Nat):Int)
theorem GR{α:Type}{K:Nat}: ∀{rows:List (List α)},(∀r∈rows,r.length=K)→rows.flatten.length=rows.length *K
 |[],_=>by simp
 |r::rows,h=>by
  rw[List.flatten_cons,List.length_append,GR fun x hx=>h x (by simp[hx]),h r Q4,List.length_cons,Nat.succ_mul,Nat.add_comm]
theorem T5{α:Type}{K:Nat}: ∀{rows:List (List α)} {i c:Nat} {r:List α},(∀r∈rows,r.length=K)→rows[i]? =some r→c<K→rows.flatten[i *K+c]? =r[c]?
 |[],i,c,r,_,h,_=>by simp at h
 |x::rows,0,c,r,h,hr,hc=>by
  injection hr with hr
  subst hr;rw[Nat.zero_mul,Nat.zero_add,List.flatten_cons,List.getElem?_append_left (by rw[h x Q4];exact hc)]
 |x::rows,i+1,c,r,h,hr,hc=>by
  have hx:=h x Q4;rw[List.flatten_cons,Nat.succ_mul,List.getElem?_append_right Qc,hx,show i *K+K+c-K=i *K+c by omega];exact T5 (fun y hy=>h y (by simp[hy])) hr hc
theorem z7.go{a:Au}{es:List Nat}(R:z7 a.K a.nx es){i c:Nat}(hi:i<a.nx.length)(hc:c<a.K):es[i *a.K+c]? =some (a.go i c)∧ ∃r,a.nx[i]? =some r∧r[c]? =some ((a.go i c:Nat):Int):=by
 obtain⟨r,hr⟩: ∃r,a.nx[i]? =some r:=⟨_,List.getElem?_eq_getElem hi⟩;have hl:=R.len r (List.mem_of_getElem? hr);have h1:=T5 R.len hr hc;obtain⟨z,hz⟩: ∃z,r[c]? =some z:=⟨_,List.getElem?_eq_getElem (by rw[hl];exact hc)⟩;rw[R.flat,List.getElem?_map,hz]at h1
 cases hv:es[i *a.K+c]? with
 |none=>rw[hv]at h1;cases h1
 |some v=>
  rw[hv]at h1
  injection h1 with h1
  have e:a.go i c=v:=by unfold Au.go;rw[hr,Option.getD_some,hz,Option.getD_some,←h1];simp
  exact⟨by rw[e],r,hr,by rw[hz,e];exact congrArg some h1.symm⟩
structure UA{α:Type}(δ:α→Nat→α)(s0:α)(p:α→Bool)(l:List α)(m:Au):Prop where
 ex: ∃es,Hz δ s0 m.K l es∧z7 m.K m.nx es
 len:m.nx.length=l.length
 acc:m.acc=l.map p
 tr:m.tr≤6
 most:l.length≤400
section
variable {α:Type} {δ:α→Nat→α} {s0:α} {p:α→Bool} {l:List α} {m:Au}
theorem UA.n(H:UA δ s0 p l m):m.n=l.length:=by unfold Au.n;rw[H.acc,List.length_map]
theorem UA.go(H:UA δ s0 p l m){i c:Nat}{s:α}(hs:l[i]? =some s)(hc:c<m.K):l[m.go i c]? =some (δ s c):=by
 obtain⟨es,E,R⟩:=H.ex;have hi:=(List.getElem?_eq_some_iff.1 hs).1;obtain⟨h1,_⟩:=R.go (a:=m) (by rw[H.len];exact hi) hc;obtain⟨s',b1,b2⟩:=E.step _ _ h1
 have e1:(i *m.K+c)/m.K=i:=by rw[Nat.mul_comm,Nat.mul_add_div Qc,Nat.div_eq_of_lt hc];rfl
 have e2:(i *m.K+c) % m.K=c:=by rw[Nat.mul_comm,Nat.mul_add_mod];exact Nat.mod_eq_of_lt hc
 rw[e1,hs]at b1
 injection b1 with b1
 subst b1;rw[e2]at b2;exact b2
theorem UA.head(H:UA δ s0 p l m):l[0]? =some s0:=by obtain⟨es,E,R⟩:=H.ex;exact E.head
theorem UA.nodup(H:UA δ s0 p l m):l.Nodup:=by obtain⟨es,E,R⟩:=H.ex;exact E.nodup
theorem UA.wf(H:UA δ s0 p l m):Zp m:=by
 have hp:=(List.getElem?_eq_some_iff.1 H.head).1;obtain⟨es,E,R⟩:=H.ex;refine⟨H.tr,by rw[H.n];exact hp,by rw[H.n];exact H.most,by rw[H.n];exact H.len,fun r hr=>⟨R.len r hr,fun z hz=>?_⟩⟩
 obtain⟨v,hv,rfl⟩: ∃v∈es,((v:Nat):Int)=z:=by
  have:z∈m.nx.flatten:=List.mem_flatten.2 ⟨r,hr,hz⟩;rw[R.flat]at this;exact List.mem_map.1 this
 obtain⟨q,hq⟩:=List.getElem?_of_mem hv;have:=E.lt hq;rw[H.n];omega
theorem UA.run(H:UA δ s0 p l m)(w:List Nat): ∀{i:Nat} {s:α},l[i]? =some s→X4 m.K w→l[m.run i w]? =some (w.foldl δ s):=by
 induction w with
 |nil=>intro i s hs _;exact hs
 |cons c w ih=>intro i s hs hw;exact ih (H.go hs (hw c Q4)) fun x hx=>hw x (by simp[hx])
theorem UA.ok(H:UA δ s0 p l m){i:Nat}{s:α}(hs:l[i]? =some s):m.ok i=p s:=by
 unfold Au.ok;rw[H.acc,List.getElem?_map,hs];rfl
theorem UA.DP(H:UA δ s0 p l m){w:List Nat}(hw:X4 m.K w):m.ok (m.run 0 w)=p (w.foldl δ s0):=H.ok (H.run w H.head hw)
theorem UA.first(H:UA δ s0 p l m): ∀k,0<k→k<m.n→ ∃i c,i<k∧c<m.K∧m.go i c=k∧ ∀i' c',(i'<i∨i'=i∧c'<c)→c'<m.K→m.go i' c'<k:=by
 intro k h1 h2;rw[H.n]at h2;have hln:=H.len;obtain⟨es,E,R⟩:=H.ex;obtain⟨q,a1,a2,a3⟩:=E.first k h1 h2;have hK:0<m.K:=Nat.two_pow_pos _;have hq:q/m.K *m.K+q % m.K=q:=Nat.div_add_mod' q m.K;have hr:=Nat.mod_lt q hK;have hg:=(R.go (a:=m) (i:=q/m.K) (c:=q % m.K) Qc hr).1;rw[hq,a2]at hg
 injection hg with hg
 refine⟨q/m.K,q % m.K,a1,hr,hg.symm,fun i' c' hlt hc'=>?_⟩
 have hi':i'<m.nx.length:=by rcases hlt with h|h<;>omega
 have hg':=(R.go (a:=m) hi' hc').1;refine a3 _ _ ?_ hg';rcases hlt with h|⟨rfl,h⟩
 ·have:=Nat.mul_le_mul_right m.K (show i'+1≤q/m.K from h);rw[Nat.succ_mul]at this;omega
 ·omega
end
noncomputable def ju(n:Nat)(cl:List Int)(k:Int):Nat:=((List.range n).find? fun s=>decide (cv cl s=k)).getD 0
theorem SV{n:Nat}(hs:s<n):ju n cl (cv cl s)<n∧cv cl (ju n cl (cv cl s))=cv cl s:=by
 unfold ju
 cases h:(List.range n).find? fun t=>decide (cv cl t=cv cl s)with
 |none=>
  have:=List.find?_eq_none.1 h s (List.mem_range.2 hs);simp at this
 |some t=>
  have h1:=List.find?_some h;have h2:=List.mem_of_find?_eq_some h;exact⟨List.mem_range.1 h2,of_decide_eq_true h1⟩
noncomputable def Kf(a:Au)(cl:List Int)(k:Int)(c:Nat):Int:=cv cl (a.go (ju a.n cl k) c)
theorem LD(st:Kk a cl){c:Nat}(hs:s<a.n)(hc:c<a.K):Kf a cl (cv cl s) c=cv cl (a.go s c):=by
 obtain⟨h1,h2⟩:=SV (cl:=cl) hs;exact st _ _ h1 hs h2 c hc
theorem ZO.IG(W:Zp a)(h:ZO a cl):Kk a cl:=fun s t hs ht e c hc=>(h.iff _ _ (W.UP hs hc) (W.UP ht hc)).2 (((h.iff s t hs ht).1 e).go hc)
noncomputable def P0(a:Au)(cl:List Int)(k:Int):Bool:=a.ok (ju a.n cl k)
theorem Cx(h:ZO a cl)(hs:s<a.n):P0 a cl (cv cl s)=a.ok s:=by
 obtain⟨h1,h2⟩:=SV (cl:=cl) hs
 exact(h.iff _ _ h1 hs).1 h2 [] fun _ h=>by cases h
theorem GD{m:Au}{l:List Int}(W:Zp a)(h:ZO a cl)(ht:m.tr=a.tr)(H:UA (Kf a cl) (cv cl 0) (P0 a cl) l m):Canon m∧Vc m a 0 0:=by
 have hK:m.K=a.K:=by unfold Au.K;rw[ht]
 have hst:=h.IG W

 have hin: ∀(k:Nat) (x:Int),l[k]? =some x→ ∃s,s<a.n∧x=cv cl s:=by
  obtain⟨es,E,R⟩:=H.ex
  exact E.all (Q:=fun x=> ∃s,s<a.n∧x=cv cl s) ⟨0,W.pos,rfl⟩ fun x c hx hc=>by
   obtain⟨s,hs,rfl⟩:=hx;have hc:=hc (Nat.two_pow_pos _);exact⟨a.go s c,W.UP hs (hK▸hc),LD hst hs (hK▸hc)⟩
 have hrun: ∀(w:List Nat) (s:Nat),s<a.n→X4 m.K w→w.foldl (Kf a cl) (cv cl s)=cv cl (a.run s w):=by
  intro w
  induction w with
  |nil=>intro s _ _;rfl
  |cons c w ih=>
   intro s hs hw;have hc:c<a.K:=hK▸hw c Q4;show w.foldl (Kf a cl) (Kf a cl (cv cl s) c)=cv cl (a.run (a.go s c) w);rw[LD hst hs hc];exact ih _ (W.UP hs hc) fun x hx=>hw x (by simp[hx])
 have hlike: ∀(k s:Nat),l[k]? =some (cv cl s)→s<a.n→Vc m a k s:=fun k s hk hs w hw=>by
  rw[H.ok (H.run w hk hw),hrun w s hs hw];exact Cx h (W.Nd w hs (hK▸hw))
 refine⟨⟨H.wf,fun s t hs ht hst'=>?_,H.first⟩,hlike 0 0 H.head W.pos⟩;rw[H.n]at hs ht;obtain⟨x,hx⟩: ∃x,l[s]? =some x:=⟨_,List.getElem?_eq_getElem hs⟩;obtain⟨y,hy⟩: ∃y,l[t]? =some y:=⟨_,List.getElem?_eq_getElem ht⟩;obtain⟨u,hu,rfl⟩:=hin s x hx;obtain⟨v,hv,rfl⟩:=hin t y hy
 have e:=(h.iff u v hu hv).2 fun w hw=>by
  rw[←hlike s u hx hu w (hK▸hw),←hlike t v hy hv w (hK▸hw)];exact hst' w (hK▸hw)
 exact(List.getElem?_inj hs H.nodup).1 (by rw[hx,hy,e])
end
end Go.Proofs.YtiknomepbklibaaGreatDoor
