/-
  Rows of numbers: a copy, are two the same, sorted.
-/
import Derived.Test.YtiknomepbklibaaGreatDoorFzAu
set_option maxHeartbeats 8000000
set_option maxRecDepth 100000
set_option linter.unnecessarySimpa false
set_option linter.unusedSimpArgs false
set_option linter.unusedVariables false
section
namespace Go.Proofs.YtiknomepbklibaaGreatDoor
open Go Go.RowKit

theorem yH{out:List Int}{k:Nat}{x y:Int}(h: ∀z∈out.take k,z<x)(hy:out[k]? =some y)(hlt:y<x): ∀z∈out.take (k+1),z<x:=by
 rw[List.take_add_one,hy];intro z hz;rcases List.mem_append.1 hz with hz|hz
 ·exact h z hz
 ·have:z=y:=by simpa using hz
  omega
theorem Bz{x:Int}: ∀{out:List Int} {k:Nat},k≤out.length→(∀z∈out.take k,z<x)→(∀z,out[k]? =some z→x<z)→ZY x out=out.take k++x::out.drop k
 |[],k,hk,_,_=>by
  have:k=0:=by simpa using hk
  subst this;rfl
 |y::out,0,_,_,h=>by
  have:=h y rfl;rw[ZY,if_neg Qe,if_neg Qe];rfl
 |y::out,k+1,hk,h1,h2=>by
  have hy:=h1 y QA;rw[ZY,if_pos hy,Bz (by simpa using hk) (fun z hz=>h1 z (by simp[hz])) (fun z hz=>h2 z (by simpa using hz))];simp
theorem AD{x:Int}: ∀{out:List Int} {k:Nat},(∀z∈out.take k,z<x)→out[k]? =some x→ZY x out=out
 |[],k,_,h=>by simp at h
 |y::out,0,_,h=>by
  injection h with h
  rw[ZY,if_neg Qe,if_pos h]
 |y::out,k+1,h1,h2=>by
  have hy:=h1 y QA;rw[ZY,if_pos hy,AD (out:=out) (k:=k) (fun z hz=>h1 z (by simp[hz])) h2]
theorem H4(x:Int): ∀out:List Int,(ZY x out).length≤out.length+1
 |[]=>by simp[ZY]
 |y::out=>by
  have:=H4 x out;rw[ZY]
  split
  ·simp;omega
  ·split<;>simp
theorem RG(x:Int)(l:List Int):zC (x::l)=[AV.int .i64 x]::zC l:=rfl

theorem OC{st:St}(hf:Qj st){l:List Int}{kl:AV}(hl:Ji st.h.get [] 1 (zC l) kl)(hn:l.length≤1000000000): ∃v st',Ev Tryz.prog Q4 65 [kl] st v st'∧ ∃ks,v=ks∧Em st st' 1 ks (zC l)∧Qt st st':=by
 have hcl:=Qn l;refine JF Tryz.func65 Tryz.ntmps65 fun T K=>?_;have M:=Mem.start hf;refine Qc 2 K M ?_;intro _ K;refine p1 K (OP (hl.len.trans (congrArg some (Qn _))) Jp rfl rfl) fun _ K=>Un ?_;show W _ _ _ _ _ _ _;refine Qq (K.QI rfl) (fun h4=>?_) (fun h4=>?_)
 ·have hb4:=h4;refine Qc 1 K M ?_
  have hbl:l=[]:=by
   have h:=hl.len;rw[Sw h4]at h
   injection h with h
   rw[Qn]at h;exact YW h.symm
  exact⟨.nils,rfl,⟨[],by rw[hbl];exact .none,fun _ _ _ h=>by cases h⟩,M.qt⟩
 have hb4:=h4;refine au 2 K M ?_;intro c5 _ _ K _ M;replace M:=Mem.cast (M':=([(c5,0,[])]++[])) (Mem.perm M (List.perm_append_comm (l₁:=[(c5,0,[])]) (l₂:=[]))) Uz;have hA0c5:Acc st.n 1 [(c5,0,[])] (.sl c5 0 0 0 1) []:=Acc.own (n0:=st.n) (z:=1) (c:=c5) (m:=0) (ls:=[]) ((M.own c5 0 [] QA).resolve_right QA) QA QA;refine RI (L:=[]) (A:=[(c5,0,[])]) (B:=[]) K M hA0c5 QM rfl rfl (Ji.mem M hl QA) (Fs _) (by simp only[List.length_nil];omega) rfl fun ks7 A7 _ _ K hA7 M=>?_;refine Qc 1 K M ?_;refine⟨_,rfl,?_,M.qt⟩;have h:=Mem.Bh (L:=[]) (A:=A7) (B:=[]) M hA7
 simpa using h

theorem Lw{st:St}(hf:Qj st){a b:List Int}{ka kb:AV}(hA:Ji st.h.get [] 1 (zC a) ka)(hB:Ji st.h.get [] 1 (zC b) kb): ∃v st',Ev Tryz.prog Q4 27 [ka,kb] st v st'∧v=.bool (decide (a=b))∧Qt st st':=by
 have hbna:(a.length:Int)≤9223372036854775807:=by have:=hA.Ew;rw[Qn]at this;exact this
 have hbnb:(b.length:Int)≤9223372036854775807:=by have:=hB.Ew;rw[Qn]at this;exact this
 refine JF Tryz.func27 Tryz.ntmps27 fun T K=>?_;have M:=Mem.start hf;refine Qc 2 K M ?_;intro _ K;refine p1 K (Q8 Jp rfl rfl (hA.len.trans (congrArg some (Qn _)))) fun _ K=>?_;refine Qc 1 K M ?_;intro _ K;refine p1 K (Q8 Jp rfl rfl (hB.len.trans (congrArg some (Qn _)))) fun _ K=>?_;refine Qc 1 K M ?_;intro _ K;refine xP K rfl (fun h10=>?_) fun h10=>?_
 ·refine Qc 1 K M ?_;refine⟨congrArg AV.bool (Eq.symm (decide_eq_false fun e=>h10 (by rw[e]))),M.qt⟩
 refine Qc 1 K M ?_;intro _ K;refine Jc (fun mm1 T st9=> ∃(i:Nat),mm1=a.length-i∧QY [(0,ka),(1,kb),(5,iN i)] T∧Mem st.h.get st.n [] st9 []∧i≤a.length∧(∀j,j<i→a[j]? =b[j]?)) (fun mm1 T st9 hI=>?_) _ _ _ ⟨0,rfl,(K.sub rfl),M.less (.refl _),(Nat.zero_le _),(fun j hj=>absurd hj (Nat.not_lt_zero j))⟩;obtain⟨i,rfl,K,M,hi,hx⟩:=hI;refine Qc 2 K M ?_;intro _ K;refine p1 K (Q8 Jp rfl rfl (hA.len.trans (congrArg some (Qn _)))) fun _ K=>?_;refine Qc 1 K M ?_;intro _ K;refine JP K rfl (fun h14=>?_) fun h14=>?_
 ·refine Qc 0 K M ?_;intro _ K;refine QD (l:=[(0,0),(1,0),(2,0),(3,0),(4,0),(5,0),(6,0),(7,0),(8,0)]) (by kernel_rfl) ?_;refine Jf 2 K M ?_;intro _ K;obtain⟨y19,hi19⟩:=U8 a i Qe;obtain⟨x19,m19,f19,q19,_,la19,lo19,lp19⟩:=(Ji.mem M hA QA).load (i:=i) (cs:=_) (Jr hi19);refine q1 rfl K (Qa (j:=i) Qw (congrArg some q19) rfl (by rw[Qn];omega)) fun _ K=>q1 rfl K (Qd rfl (lo19 _ 0 _ Qr rfl)) fun _ K=>?_;refine Jf 2 K M ?_;intro _ K;obtain⟨y23,hi23⟩:=U8 b i Qe;obtain⟨x23,m23,f23,q23,_,la23,lo23,lp23⟩:=(Ji.mem M hB QA).load (i:=i) (cs:=_) (Jr hi23);refine q1 rfl K (Qa (j:=i) Qw (congrArg some q23) rfl (by rw[Qn];omega)) fun _ K=>q1 rfl K (Qd rfl (lo23 _ 0 _ Qr rfl)) fun _ K=>q1 rfl K (PG rfl rfl) fun _ K=>QG ?_;show W _ _ _ _ _ _ _;refine xP K rfl (fun h25=>?_) fun h25=>?_
  ·refine Qc 1 K M ?_;refine⟨congrArg AV.bool (Eq.symm (decide_eq_false fun e=>h25 (by rw[e,hi23]at hi19;injection hi19 with e1;exact e1.symm))),M.qt⟩
  refine Qc 3 K M ?_;intro _ K;exact⟨_,Qe,i+1,rfl,(K.sub rfl),M.less (.refl _),Qe,(fun j hj=>by rcases Nat.lt_succ_iff_lt_or_eq.1 hj with h|h;exact hx j h;(subst h;rw[hi19,hi23,h25]))⟩
 refine QT ?_;show W _ _ _ _ _ _ _;refine Qc 1 K M ?_;refine⟨congrArg AV.bool (Eq.symm (decide_eq_true (List.ext_getElem? fun j=>?_))),M.qt⟩
 by_cases hj:j<a.length
 ·exact hx j Qe
 ·rw[List.getElem?_eq_none Qe,List.getElem?_eq_none Qe]

end Go.Proofs.YtiknomepbklibaaGreatDoor
end
section
namespace Go.Proofs.YtiknomepbklibaaGreatDoor
open Go Go.RowKit
variable {L:List (List Int)} {cp:Nat} {l s:List Int}

def uc(L:List (List Int))(i:Int):List Int:=if 0≤i then(L[i.toNat]?).getD []else []
theorem SE{i:Int}(h0:0≤i)(h:L[i.toNat]? =some s):uc L i=s:=by rw[uc,if_pos h0,h];rfl
theorem Dv{i:Int}(h:i<0∨(L.length:Int)≤i):uc L i=[]:=by
 rw[uc]
 by_cases h0:0≤i
 ·rw[if_pos h0,List.getElem?_eq_none Qe];rfl
 ·rw[if_neg h0]
theorem Mem.Su{h0:Hp}{n0:Nat}{X:List Nat}{st:St}{M:U9}(hM:Mem h0 n0 X st M){cm k:Nat}{es:List (AV×AV×Nat)}(hm:st.h.get cm=some (.map es k)):cm∉M.map Prod.fst:=by
 intro hc;obtain⟨⟨c,m,l⟩,h1,h2⟩:=List.mem_map.1 hc;exact Q0.Su (hM.row c m l h1) hm h2
theorem Mem.wk{h0:Hp}{n0 n1:Nat}{X:List Nat}{st:St}{Lr A' A2 B:U9}(hM:Mem h0 n0 X st (Lr++(A'++(A2++B)))){v:AV}(hA2:Ak n1 A2 v s): ∀c m o n y,v=.sl c m o n y→n1≤c∧c<st.n∧ ∀m' l',(c,m',l')∉A':=by
 intro c m o n y e
 cases hA2 with
 |none=>cases e
 |own hc hb=>
  rename_i c2 m2 rest
  injection e with e1
  subst e1;refine⟨hc,hM.lt c2 m2 (s.map FW++rest) QA,fun m' l' hm=>?_⟩;have hn:=hM.nodup;rw[List.map_append,List.map_append,List.map_append]at hn;have h2:=(List.nodup_append.1 hn).2.1;exact(List.nodup_append.1 h2).2.2 c2 (List.mem_map.2 ⟨_,hm,rfl⟩) c2 QA rfl
theorem Z7.grow{st st4:St}{F:Nat→Prop}{cm k:Nat}{ks ks' v:AV}{es:List (AV×AV×Nat)}{A A':U9}{vs:List AV}
  (hFn: ∀c,F c→c<st.n) (hFp:F cp) (hFm:F cm) (hrow:Q0 st.h.get cp 0 [ks,.mp cm]) (hmap:st.h.get cm=some (.map es k)) (hent:es.map va=WC 0 L) (hS:Z6 st.h.get F cp A ks vs L) (hnd:L.Nodup) (hnf:XI 0 L s=none)
  (hx: ∀c,c<st.n→c≠cp→c≠cm→(∀m l,(c,m,l)∉A)→st4.h.get c=st.h.get c) (hrow4:Q0 st4.h.get cp 0 [ks',.mp cm]) (hm4:st4.h.get cm=some (.map (es++[(.str (Zh s),.int .i64 (L.length:Nat),k)]) (k+1)))
  (hA4:YO A' ks' (vs++[v])) (hAr: ∀c m l,(c,m,l)∈A'→Q0 st4.h.get c m l) (hAn: ∀c m l,(c,m,l)∈A'→(∃m l,(c,m,l)∈A)∨st.n≤c) (hv:Ji st4.h.get [] 1 (zC s) v) (hvz:Vh s) (hvn:v=.nils∨ ∃c m o n,v=.sl c m o n 1)
  (hvc: ∀c m o n y,v=.sl c m o n y→st.n≤c∧c<st4.n∧ ∀m' l',(c,m',l')∉A') (hf4:Qj st4) (hle:st.n≤st4.n):Z7 st4.h.get (fun c=>F c∨(st.n≤c∧c<st4.n)) cp (L++[s])∧UH F st st4:=by
 have hcpn:=hFn cp hFp;refine⟨⟨ks',cm,_,_,A',vs++[v],hrow4,.inl hFp,.inl hFm,hm4,?_,?_,?_⟩,hf4,hle,fun c hc hF=>?_⟩
 ·rw[List.map_append,hent,Ny,Nat.zero_add];rfl
 ·refine hS.snoc hA4 (fun c m l hm=>?_) (fun c h=>.inl h) (fun c h1 h2 h3 ro ms h4=>?_) hv hvz hvn (fun c m o n y e=>?_)
  ·have hr:=hAr c m l hm;rcases hAn c m l hm with⟨m2,l2,h⟩|h
   ·obtain⟨_,k2,k3⟩:=hS.row c m2 l2 h;exact⟨hr,.inl k2,k3,.inl ⟨m2,l2,h⟩⟩
   ·exact⟨hr,.inr ⟨h,hr.lt hf4⟩,by omega,.inr fun hF=>by have:=hFn c hF;omega⟩
  ·refine hx c (hFn c h1) h2 ?_ h3
   rintro rfl
   rw[h4]at hmap;cases hmap
  ·obtain⟨k1,k2,k3⟩:=hvc c m o n y e;exact⟨.inr ⟨k1,k2⟩,by omega,k3⟩
 ·refine List.nodup_append.2 ⟨hnd,by simp,fun a ha b hb e=>?_⟩;rw[List.mem_singleton]at hb;subst hb e;exact Ik hnf ha
 ·refine hx c hc (fun e=>hF (e▸hFp)) (fun e=>hF (e▸hFm)) fun m l hm=>hF (hS.row c m l hm).2.1
theorem Ak.ge{n0:Nat}{A:U9}{ks:AV}(h:Ak n0 A ks l){c m:Nat}{x:List AV}(hm:(c,m,x)∈A):n0≤c:=by
 cases h with
 |none=>cases hm
 |own hc hb=>simp at hm;omega
theorem Cu(h:Vh l):Vh (JQ l):=fun z hz=>h z ((VJ l z).1 hz)
section
variable {P:Program} {G:Env} {N:Nat} {st:St} {T:Tr AV} {ops rest:List Oper} {K:List (Nat×AV)} {R:Tr AV→St→Prop} {d:Nat} {ty t:TypeId} {pos:String} {af:Array Edge}
noncomputable def WX(st:St):St:=⟨st.n+1,st.h.set st.n (.map [] 0)⟩
theorem Ht(hf:Qj st):Qj (WX st):=fun c hle=>by
 have hle:st.n+1≤c:=hle;show(st.h.set st.n _).get c=none;rw[JC,YP _ _ Qe];exact hf c Qe
theorem TQ(hf:Qj st):Qt st (WX st):=⟨Ht hf,Nat.le_succ _,fun c hc=>by
 show(st.h.set st.n _).get c=_
 rw[JC,YP _ _ Qe]⟩
theorem Pm(hK:QY K T)(hN:Nat.ble (d+1) N=true)(hn: ∀T',QY ((d,.mp st.n)::K) T'→WR P G N ops rest R T' (WX st)):WR P G N ops (⟨some d,.makeMap t none,ty,pos,af,none⟩::rest) R T st:=
 Eo (v:=.mp st.n) (st1:=WX st) hK (.of fun T hT c d ty pos af g=>by
  show W7 st=_;unfold W7
  rw[W3];rfl) (Nat.le_of_ble_eq_true hN) hn
end

theorem KV{st:St}(hf:Qj st){F:Nat→Prop}(hP:Z7 st.h.get F cp L): ∃v st',Ev Tryz.prog Q4 39 [.ptr cp 0 0] st v st'∧v=iZ (L.length:Nat)∧Qt st st':=by
 obtain⟨ks,cm,es,k,A,vs,hrow,hFp,hFm,hmap,hent,hS,hnd⟩:=hP;refine JF Tryz.func39 Tryz.ntmps39 fun T K=>?_;have M:=Mem.start hf;refine Qc 2 K M ?_;intro _ K;refine p1 K (Yp E9 rfl rfl) fun _ K=>?_;refine Qc 3 K M ?_;intro _ K;refine p1 K (Yc YY rfl) fun _ K=>p1 K (Qd rfl (Qz (M.JG QA hrow.Jd) (Qf Q5 rfl))) fun _ K=>p1 K (Q8 J4 rfl rfl hS.len) fun _ K=>?_;refine Qc 1 K M ?_;exact⟨rfl,M.qt⟩

theorem zM{st:St}(hf:Qj st){F:Nat→Prop}(hP:Z7 st.h.get F cp L)(hbd: ∀s∈L,s.length≤100000)(hFn: ∀c,F c→c<st.n)(id:Int): ∃v st',Ev Tryz.prog Q4 40 [.ptr cp 0 0,iZ id] st v st'∧ ∃ks,v=ks∧Em st st' 1 ks (zC (uc L id))∧Qt st st':=by
 have hP0:=hP;obtain⟨ks,cm,es,k,A,vs,hrow,hFp,hFm,hmap,hent,hS,hnd⟩:=hP;refine JF Tryz.func40 Tryz.ntmps40 fun T K=>?_;have M:=Mem.start hf;refine Qc 3 K M ?_;intro _ K;refine Um K (Qg rfl) rfl (fun _ e7 K=>?_) fun _ e7 K=>?_
 ·refine Qc 2 K M ?_;intro _ K;obtain⟨v10,st10,ev10,rfl,q10⟩:=KV (L:=L) M.fresh (hP0.frame fun c hc=>M.J6 c (hFn c hc) QA);refine pg K rfl rfl (Qh rfl ev10) fun _ K=>?_;replace M:=M.quiet q10;refine Qc 2 K M ?_;intro _ K;refine JP K rfl (fun h12=>?_) fun h12=>?_
  ·refine Qc 1 K M ?_;refine⟨.nils,rfl,⟨[],?_,fun _ _ _ h=>by cases h⟩,M.qt⟩;rw[Dv Qe];exact .none
  refine Qc 2 K M ?_;intro _ K;refine p1 K (Yc YY rfl) fun _ K=>p1 K (Qd rfl (Qz (M.JG QA hrow.Jd) (Qf Q5 rfl))) fun _ K=>?_;refine Qc 1 K M ?_;intro _ K;obtain⟨s18,hi18⟩:=U8 L (id.toNat) Qe;obtain⟨u18,hc18,hr18,hz18,hq18,hf18⟩:=hS.inn _ _ hi18;obtain⟨x18,m18,f18,q18,_,la18,lo18,lp18⟩:=(Ji.mem M hS.rd QA).load (i:=id.toNat) (cs:=[u18]) (by rw[List.getElem?_map,hc18];rfl);refine p1 K (Qa (j:=id.toNat) QV (congrArg some q18) (congrArg (fun z=>some (iZ z)) (by omega:_=((id.toNat:Nat):Int))) (by rw[List.length_map,hS.ln];omega)) fun _ K=>p1 K (Qd rfl (lo18 _ 0 _ QZ rfl)) fun _ K=>?_;obtain⟨v20,st20,ev20,kn,rfl,nr20,q20⟩:=OC M.fresh (Ji.mem M hr18 QA) (Nat.le_trans (hbd _ (List.mem_of_getElem? hi18)) QE);refine p1 K (Qh rfl ev20) fun _ K=>?_;obtain⟨A20,hA20,M⟩:=M.Ys q20 nr20;refine Qc 1 K M ?_;refine⟨_,rfl,?_,M.qt⟩;rw[SE Qe hi18];have h:=Mem.Bh (L:=[]) (A:=A20) (B:=[]) M hA20
  simpa using h
 refine Qc 7 K M ?_;refine⟨.nils,rfl,⟨[],?_,fun _ _ _ h=>by cases h⟩,M.qt⟩;rw[Dv Qe];exact .none

theorem z6{st:St}(hf:Qj st): ∃v st',Ev Tryz.prog Q4 36 [] st v st'∧ ∃cp,v=.ptr cp 0 0∧Z7 st'.h.get (fun c=>st.n≤c∧c<st'.n) cp []∧Qt st st':=by
 refine JF Tryz.func36 Tryz.ntmps36 fun T K=>?_;have M:=Mem.start hf;refine Qc 1 K M ?_;intro _ K;refine Pm K rfl fun _ K=>?_;have MQ:=M;have M:=Mem.start (Ht hf);refine p1 K (W0 GH rfl rfl) fun _ K=>?_;refine au 2 K M ?_;intro c3 _ _ K _ M;refine Qc 0 K M ?_;replace M:Mem (WX st).h.get (WX st).n [] _ [(c3,0,[.nils,.mp st.n])]:=M;refine⟨_,rfl,⟨.nils,st.n,[],0,[],[],M.UX (k:=0) rfl,?_,?_,?_,rfl,?_,List.Pairwise.nil⟩,(TQ hf).trans M.qt⟩
 ·have h1:=M.own c3 0 [.nils,.mp st.n] QA;have h2:=M.lt c3 0 [.nils,.mp st.n] QA;have h3:(WX st).n=st.n+1:=rfl;simp at h1;exact⟨by omega,h2⟩
 ·exact⟨Nat.le_refl _,Nat.lt_of_lt_of_le (Nat.lt_succ_self _) M.le⟩
 ·rw[M.J6 st.n (Nat.lt_succ_self _) QA];show(st.h.set st.n _).get st.n=_;rw[JC];exact Uf _ _ _
 ·exact⟨.none,(fun c m l h=>by cases h),rfl,(fun i s h=>by simp at h)⟩

theorem vu{st:St}(hf:Qj st){F:Nat→Prop}(hP:Z7 st.h.get F cp L)(hFn: ∀c,F c→c<st.n)(hL:L.length≤100000){kl:AV}(hl:Ji st.h.get [] 1 (zC l) kl)(hz:Vh l)(hn:l.length≤100000): ∃v st',Ev Tryz.prog Q4 61 [.ptr cp 0 0,kl] st v st'∧v=iZ (PM L l:Nat)∧Z7 st'.h.get (fun c=>F c∨(st.n≤c∧c<st'.n)) cp (AP L l)∧UH F st st':=by
 have hP0:=hP;obtain⟨ks,cm,es,k,A,vs,hrow,hFp,hFm,hmap,hent,hS,hnd⟩:=hP;have hcm:cm<st.n:=hFn cm hFm;have hsz:=Cu hz
 have hRw: ∀c m x,(c,m,x)∈(cp,0,[ks,.mp cm])::A→Q0 st.h.get c m x:=by
  intro c m x h;rcases List.mem_cons.1 h with h|h
  ·injection h with h1 h;injection h with h2 h3;subst h1 h2 h3;exact hrow
  ·exact(hS.row c m x h).1
 have hNd:(((cp,0,[ks,.mp cm])::A).map Prod.fst).Nodup:=by
  rw[List.map_cons];refine List.nodup_cons.2 ⟨fun h=>?_,hS.acc.nodup⟩;obtain⟨⟨c,m,x⟩,h1,h2⟩:=List.mem_map.1 h;exact(hS.row c m x h1).2.2 h2
 refine JF Tryz.func61 Tryz.ntmps61 fun T K=>?_;have M:=Mem.start hf;refine Qc 2 K M ?_;intro _ K;refine p1 K (Yp E9 rfl rfl) fun _ K=>?_;refine Qc 2 K M ?_;intro _ K;obtain⟨v10,st10,ev10,ks10,rfl,nr10,q10⟩:=OC M.fresh (Ji.mem M hl QA) Qe;refine p1 K (Qh rfl ev10) fun _ K=>?_;obtain⟨A10,hA10,M⟩:=M.Ys q10 nr10;refine Qc 2 K M ?_;intro _ K;obtain⟨v12,st12,A12,ev12,rfl,M7,hA12⟩:=OI (L:=[]) (A:=A10) (B:=[]) M hA10 Qe;refine p1 K (Qh rfl ev12) fun _ K=>?_;replace M:=M7;refine Qc 1 K M ?_;intro _ K;obtain⟨v14,st14,A14,ev14,hA14,M9⟩:=Gr (L:=[]) (A:=A12) (B:=[]) M hA12 (by rw[YV];omega);rw[KK]at hA14;refine p1 K (Qh rfl ev14) fun _ K=>?_;replace M:=M9;refine Qc 1 K M ?_;intro _ K;refine QD (l:=[(4,0),(5,0),(0,0),(1,0),(2,0),(3,1),(6,0),(7,0),(8,0),(9,0),(10,0),(11,0)]) (by kernel_rfl) ?_;have Mq:=M;refine q1 rfl K (Qg rfl) fun _ K=>?_;obtain⟨v21,st21,ev21,rfl,q21⟩:=SA (L:=[]) (A:=A14) (B:=[]) M hA14 hsz (by rw[←KK];exact Nat.le_trans (YZ _) (by rw[YV];omega));refine qA rfl K (Qh rfl ev21) fun _ K=>?_;replace M:=M.quiet q21;have Mp:=Mq;have Mq:=M;refine Jf 2 K M ?_;intro _ K;refine q1 rfl K (Yc EW rfl) fun _ K=>?_;refine Js rfl K rfl (Qz (M.JG QA hrow.Jd) (Qf Zt rfl)) (Qz (Mp.JG QA hrow.Jd) (Qf Zt rfl)) (JR rfl) rfl QE fun _ K=>?_;refine qA rfl K (PH rfl rfl ((M.J6 cm hcm QA).trans hmap) hent) fun _ K=>?_;refine Jf 5 K M ?_;intro _ K;refine QG ?_;show W _ _ _ _ _ _ _;refine Qc 2 K M ?_;intro _ K;refine Qq (K.QI rfl) (fun h26=>?_) (fun h26=>?_)
 ·have hb26:=h26
  replace h26:((XI 0 L (JQ l)).isSome)=false:=by simpa using h26
  refine QC ?_
  have hnf:XI 0 L (JQ l)=none:=by
   cases hq:XI 0 L (JQ l)with
   |none=>rfl
   |some i=>rw[hq]at h26;cases h26
  have Q1:=M.qt;have hmap1:=((M.J6 cm hcm QA).trans hmap);have hcm1:=Nat.lt_of_lt_of_le hcm Q1.le;have M:=Mem.yx hf M ((cp,0,[ks,.mp cm])::A) hRw hNd;replace M:=Mem.cast (M':=((cp,0,[ks,(.mp cm)])::(A++(A14++[])))) M (by first|rfl|simp);have hcX:=Mem.Su M hmap1
  have hcX:cm∉List.map Prod.fst (((cp,0,[ks,.mp cm])::A)++(A14++[])):=by simpa using hcX
  refine Qc 2 K M ?_;intro _ K;refine p1 K (Yc YY rfl) fun _ K=>p1 K (Qd rfl (M.load (k:=0) rfl (Qf Q5 rfl))) fun _ K=>p1 K (Q8 J4 rfl rfl hS.len) fun _ K=>?_;refine Qc 1 K M ?_;intro _ K;refine QD (l:=[(4,0),(5,0),(0,0),(1,0),(2,0),(3,1),(6,0),(7,0)]) (by kernel_rfl) ?_;have Mq:=M;refine q1 rfl K (Qg rfl) fun _ K=>?_;obtain⟨v37,st37,ev37,rfl,q37⟩:=SA (L:=((cp,0,[ks,(.mp cm)])::(A++[]))) (A:=A14) (B:=[]) (Mem.cast (M:=((cp,0,[ks,(.mp cm)])::(A++(A14++[])))) (M':=((cp,0,[ks,(.mp cm)])::(A++[]))++(A14++[])) M Uz) hA14 hsz (by rw[←KK];exact Nat.le_trans (YZ _) (by rw[YV];omega));refine qA rfl K (Qh rfl ev37) fun _ K=>?_;replace M:=M.quiet q37;have Mp:=Mq;have Mq:=M;refine Jf 2 K M ?_;intro _ K;refine q1 rfl K (Yc EW rfl) fun _ K=>?_;refine Js rfl K rfl (M.load (k:=0) rfl (Qf Zt rfl)) (Mp.load (k:=0) rfl (Qf Zt rfl)) (JR rfl) rfl QE fun _ K=>?_;refine q1 rfl K (Qg rfl) fun _ K=>?_;have hmap2:=(M.J6 cm hcm1 hcX).trans hmap1;have Q2:=M.NP;refine yz rfl K rfl rfl rfl hmap2 hent hnf ?_;obtain⟨M,Q3⟩:=Mem.mapped M hmap2 (JQ l) ((L.length:Nat):Int);have Mp:=Mq;have Mq:=M;refine QG ?_;show W _ _ _ _ _ _ _;refine Qc 3 K M ?_;intro _ K;refine p1 K (Yc YY rfl) fun _ K=>p1 K (Qd rfl (M.load (k:=0) rfl (Qf Q5 rfl))) fun _ K=>?_;refine Qc 1 K M ?_;intro _ K;refine Xy K M QR Uv rfl ((J9 rfl hA14.cell rfl).trans rfl) (Qb hA14.cell Q7) rfl rfl fun c45 _ _ K M=>?_;have hle46:=M.le;refine YG (k2:=0) (L:=[(c45,0,[v14]),(cp,0,[ks,(.mp cm)])]) (A:=A) (B:=(A14++[])) K M hS.acc QR rfl rfl rfl (by rw[hS.ln];omega) rfl fun ks46 A46 _ _ K hA46 hN46 M=>?_;simp only[List.append_assoc,List.cons_append,List.nil_append,List.set_cons_zero,List.set_cons_succ]at M;refine Qc 1 K M ?_;intro _ K;refine p1 K (Yc YY rfl) fun _ K=>?_;refine Jh (k:=1) K M rfl rfl rfl Ux (hA46.cell) rfl fun _ M=>?_;refine Qc 2 K M ?_
  have e1:PM L l=L.length:=by rw[PM,hnf];rfl
  have e2:AP L l=L++[JQ l]:=by rw[AP,hnf];rfl
  rw[e1,e2];refine⟨rfl,?_⟩;have hap:=Mem.wk (Lr:=[(c45,0,[v14]),(cp,0,[ks46,(.mp cm)])]) (A':=A46) (A2:=A14) (B:=[]) M hA14;have hq3:=Q3.le;have hml:=M.le;have hq1:=Q1.le;have hq2:=Q2.le;refine Z7.grow hFn hFp hFm hrow hmap hent hS hnd hnf (fun c h1 h2 h3 h4=>?_) (M.UX (k:=1) rfl) ?_ hA46 (fun c m l h=>M.row c m l (by simp[h])) (fun c m l h=>?_) (Mem.xk (L:=((c45,0,[v14])::(cp,0,[ks46,(.mp cm)])::(A46++[]))) (A:=A14) (B:=[]) (Mem.cast (M:=((c45,0,[v14])::(cp,0,[ks46,(.mp cm)])::(A46++(A14++[])))) (M':=((c45,0,[v14])::(cp,0,[ks46,(.mp cm)])::(A46++[]))++(A14++[])) M Uz) hA14) hsz hA14.Sv hap M.fresh Qe
  ·have hX:c∉List.map Prod.fst (((cp,0,[ks,.mp cm])::A)++(A14++[])):=by
    intro hc;obtain⟨⟨c',m',l'⟩,k1,k2⟩:=List.mem_map.1 hc;simp only at k2;subst k2;rcases List.mem_append.1 k1 with k1|k1
    ·rcases List.mem_cons.1 k1 with k1|k1
     ·injection k1 with k1;exact h2 k1
     ·exact h4 m' l' k1
    ·have:=hA14.ge (by simpa using k1);omega
   rw[M.J6 c Qe (by simpa using hX),Q3.J6 c Qe h3,Q2.J6 c Qe (by simpa using hX)];exact Q1.J6 c h1
  ·rw[M.J6 cm Qe (by simpa using hcX)];exact PR _ _ _ _ _ _
  ·rcases hN46 c m l h with h|h
   ·exact .inl h
   ·exact .inr Qe
 have hb26:=h26
 replace h26:((XI 0 L (JQ l)).isSome)=true:=by simpa using h26
 refine Qc 2 K M ?_
 obtain⟨i,hq⟩: ∃i,XI 0 L (JQ l)=some i:=by
  cases hq:XI 0 L (JQ l)with
  |none=>rw[hq]at h26;cases h26
  |some i=>exact⟨i,rfl⟩
 have e1:PM L l=(XI 0 L (JQ l)).getD 0:=by rw[PM,hq];rfl
 have e2:AP L l=L:=by rw[AP,hq];rfl
 rw[e1,e2];refine⟨rfl,?_,M.qt.JM F⟩;have hP1:=hP0.frame fun c hc=>M.J6 c (hFn c hc) QA;obtain⟨ks,cm,es,k,A,vs,k1,k2,k3,k4,k5,k6,k7⟩:=hP1;exact⟨ks,cm,es,k,A,vs,k1,.inl k2,.inl k3,k4,k5,k6.more fun c h=>.inl h,k7⟩
end Go.Proofs.YtiknomepbklibaaGreatDoor
end
