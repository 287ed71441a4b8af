/-
  Rows of numbers: a copy, are two the same, sorted.
-/
import Derived.Test.YtiknomepbklibaaGreatDoorQhAu
set_option maxHeartbeats 8000000
set_option maxRecDepth 100000
set_option linter.unnecessarySimpa false
set_option linter.unusedSimpArgs false
set_option linter.unusedVariables false
namespace Go.Proofs.YtiknomepbklibaaGreatDoor
section
open Go Go.RowKit

theorem xc{out:List Int}{k:Nat}{x y:Int}(h: ∀z∈out.take k,z<x)(hy:out[k]? =some y)(hlt:y<x): ∀z∈out.take (k+1),z<x:=by
 rw[List.take_add_one,hy];intro z hz;rcases List.mem_append.1 hz with hz|hz
 ·exact h z hz
 ·have:z=y:=by simpa using hz
  omega
theorem Cf{x:Int}: ∀{out:List Int} {k:Nat},k≤out.length→(∀z∈out.take k,z<x)→(∀z,out[k]? =some z→x<z)→Xj x out=out.take k++x::out.drop k
 |[],k,hk,_,_=>by
  have:k=0:=by simpa using hk
  subst this;rfl
 |y::out,0,_,_,h=>by
  have:=h y rfl;rw[Xj,if_neg Qc,if_neg Qc];rfl
 |y::out,k+1,hk,h1,h2=>by
  have hy:=h1 y Q7;rw[Xj,if_pos hy,Cf (by simpa using hk) (fun z hz=>h1 z (by simp[hz])) (fun z hz=>h2 z (by simpa using hz))];simp
theorem AY{x:Int}: ∀{out:List Int} {k:Nat},(∀z∈out.take k,z<x)→out[k]? =some x→Xj x out=out
 |[],k,_,h=>by simp at h
 |y::out,0,_,h=>by
  injection h with h
  rw[Xj,if_neg Qc,if_pos h]
 |y::out,k+1,h1,h2=>by
  have hy:=h1 y Q7;rw[Xj,if_pos hy,AY (out:=out) (k:=k) (fun z hz=>h1 z (by simp[hz])) h2]
theorem HX(x:Int): ∀out:List Int,(Xj x out).length≤out.length+1
 |[]=>by simp[Xj]
 |y::out=>by
  have:=HX x out;rw[Xj]
  split
  ·simp;omega
  ·split<;>simp
theorem SB(x:Int)(l:List Int):zC (x::l)=[AV.int .i64 x]::zC l:=rfl

theorem Gl{st:St}(hf:Qi st){l:List Int}{kl:AV}(hl:Jj st.h.get [] 1 (zC l) kl)(hn:l.length≤1000000000): ∃v st',Jh 65 [kl] st v st'∧ ∃ks,v=ks∧EA st st' 1 ks (zC l)∧Qt st st':=by
 have hcl:=Qq l;refine JA Tryz.func65 Tryz.ntmps65 fun T K=>?_;have M:=Mem.start hf;refine Qb 2 K M fun _ K=>?_;refine p1 K (G1 (hl.len.trans (congrArg some (Qq _))) Ja rfl rfl) fun _ K=>?_;refine Qb 0 K M fun _ K=>?_;refine Qp (K.QG rfl) (fun h4=>?_) (fun h4=>?_)
 ·have hb4:=h4;refine Qb 1 K M ?_
  have hbl:l=[]:=by
   have h:=hl.len;rw[Tw h4]at h
   injection h with h
   rw[Qq]at h;exact Za h.symm
  exact⟨.nils,rfl,⟨[],by rw[hbl];exact .none,fun _ _ _ h=>by cases h⟩,M.qt⟩
 have hb4:=h4;refine au 2 K M ?_;intro c5 _ _ K _ M;replace M:=Mem.cast (M':=([(c5,0,[])]++[])) (Mem.perm M (List.perm_append_comm (l₁:=[(c5,0,[])]) (l₂:=[]))) U0;have hA0c5:Acc st.n 1 [(c5,0,[])] (.sl c5 0 0 0 1) []:=Acc.own (n0:=st.n) (z:=1) (c:=c5) (m:=0) (ls:=[]) ((M.own c5 0 [] Q7).resolve_right Q7) Q7 Q7;refine SD (L:=[]) (A:=[(c5,0,[])]) (B:=[]) K M hA0c5 QJ rfl rfl (Jj.mem M hl Q7) (FM _) (by simp only[List.length_nil];omega) rfl fun ks7 A7 _ _ K hA7 M=>?_;refine Qb 1 K M ?_;refine⟨_,rfl,?_,M.qt⟩;have h:=Mem.BO (L:=[]) (A:=A7) (B:=[]) M hA7
 simpa using h

theorem Dh{st:St}(hf:Qi st){a b:List Int}{ka kb:AV}(hA:Jj st.h.get [] 1 (zC a) ka)(hB:Jj st.h.get [] 1 (zC b) kb): ∃v st',Jh 27 [ka,kb] st v st'∧v=.bool (decide (a=b))∧Qt st st':=by
 have hbna:(a.length:Int)≤9223372036854775807:=by have:=hA.Wv;rw[Qq]at this;exact this
 have hbnb:(b.length:Int)≤9223372036854775807:=by have:=hB.Wv;rw[Qq]at this;exact this
 refine JA Tryz.func27 Tryz.ntmps27 fun T K=>?_;have M:=Mem.start hf;refine Qb 2 K M fun _ K=>?_;refine p1 K (Q5 Ja rfl rfl (hA.len.trans (congrArg some (Qq _)))) fun _ K=>?_;refine Qb 1 K M fun _ K=>?_;refine p1 K (Q5 Ja rfl rfl (hB.len.trans (congrArg some (Qq _)))) fun _ K=>?_;refine Qb 1 K M fun _ K=>?_;refine aK K rfl (fun h10=>?_) fun h10=>?_
 ·refine Qb 1 K M ?_;refine⟨congrArg AV.bool (Eq.symm (decide_eq_false fun e=>h10 (by rw[e]))),M.qt⟩
 refine Qb 1 K M fun _ K=>?_;refine QY (fun mm1 T st9=> ∃(i:Nat),mm1=a.length-i∧QT [(0,ka),(1,kb),(5,iN i)] T∧Mem st.h.get st.n [] st9 []∧i≤a.length∧(∀j,j<i→a[j]? =b[j]?)) (fun mm1 T st9 hI=>?_) _ _ _ ⟨0,rfl,(K.sub rfl),M.less (.refl _),(Nat.zero_le _),(fun j hj=>absurd hj (Nat.not_lt_zero j))⟩;obtain⟨i,rfl,K,M,hi,hx⟩:=hI;refine Qb 2 K M fun _ K=>?_;refine p1 K (Q5 Ja rfl rfl (hA.len.trans (congrArg some (Qq _)))) fun _ K=>?_;refine Qb 1 K M fun _ K=>?_;refine Jy K rfl (fun h14=>?_) fun h14=>?_
 ·refine Qb 0 K M fun _ K=>?_;refine QC (l:=[(0,0),(1,0),(2,0),(3,0),(4,0),(5,0),(6,0),(7,0),(8,0)]) (by kernel_rfl) ?_;refine Jo 2 K M fun _ K=>?_;obtain⟨y19,hi19⟩:=Uw a i Qc;refine dI rfl rfl (Jj.mem M hA Q7) (Jm hi19) K Qo Qn rfl rfl rfl fun _ _ _ _ K=>?_;refine Jo 2 K M fun _ K=>?_;obtain⟨y23,hi23⟩:=Uw b i Qc;refine dI rfl rfl (Jj.mem M hB Q7) (Jm hi23) K Qo Qn rfl rfl rfl fun _ _ _ _ K=>?_;refine q1 rfl K (R2 rfl rfl) fun _ K=>QF ?_;show W _ _ _ _ _ _ _;refine aK K rfl (fun h25=>?_) fun h25=>?_
  ·refine Qb 1 K M ?_;refine⟨congrArg AV.bool (Eq.symm (decide_eq_false fun e=>h25 (by rw[e,hi23]at hi19;injection hi19 with e1;exact e1.symm))),M.qt⟩
  refine Qb 3 K M fun _ K=>?_;exact⟨_,Qc,i+1,rfl,(K.sub rfl),M.less (.refl _),Qc,(fun j hj=>by rcases Nat.lt_succ_iff_lt_or_eq.1 hj with h|h;exact hx j h;(subst h;rw[hi19,hi23,h25]))⟩
 refine QM ?_;show W _ _ _ _ _ _ _;refine Qb 1 K M ?_;refine⟨congrArg AV.bool (Eq.symm (decide_eq_true (List.ext_getElem? fun j=>?_))),M.qt⟩
 by_cases hj:j<a.length
 ·exact hx j Qc
 ·rw[List.getElem?_eq_none Qc,List.getElem?_eq_none Qc]

end
section
open Go Go.RowKit
variable {L:List (List Int)} {cp:Nat} {l s:List Int}

def yq(L:List (List Int))(i:Int):List Int:=if 0≤i then(L[i.toNat]?).getD []else []
theorem TE{i:Int}(h0:0≤i)(h:L[i.toNat]? =some s):yq L i=s:=by rw[yq,if_pos h0,h];rfl
theorem DW{i:Int}(h:i<0∨(L.length:Int)≤i):yq L i=[]:=by
 rw[yq]
 by_cases h0:0≤i
 ·rw[if_pos h0,List.getElem?_eq_none Qc];rfl
 ·rw[if_neg h0]
theorem Mem.Tu{h0:Hp}{n0:Nat}{X:List Nat}{st:St}{M:UA}(hM:Mem h0 n0 X st M){cm k:Nat}{es:List (AV×AV×Nat)}(hm:st.h.get cm=some (.map es k)):cm∉M.map Prod.fst:=by
 intro hc;obtain⟨⟨c,m,l⟩,h1,h2⟩:=List.mem_map.1 hc;exact Qy.Tu (hM.row c m l h1) hm h2
theorem Mem.ak{h0:Hp}{n0 n1:Nat}{X:List Nat}{st:St}{Lr A' A2 B:UA}(hM:Mem h0 n0 X st (Lr++(A'++(A2++B)))){v:AV}(hA2:AI n1 A2 v s): ∀c m o n y,v=.sl c m o n y→n1≤c∧c<st.n∧ ∀m' l',(c,m',l')∉A':=by
 intro c m o n y e
 cases hA2 with
 |none=>cases e
 |own hc hb=>
  rename_i c2 m2 rest
  injection e with e1
  subst e1;refine⟨hc,hM.lt c2 m2 (s.map Hu++rest) Q7,fun m' l' hm=>?_⟩;have hn:=hM.nodup;rw[List.map_append,List.map_append,List.map_append]at hn;have h2:=(List.nodup_append.1 hn).2.1;exact(List.nodup_append.1 h2).2.2 c2 (List.mem_map.2 ⟨_,hm,rfl⟩) c2 Q7 rfl
theorem ZG.grow{st st4:St}{F:Nat→Prop}{cm k:Nat}{ks ks' v:AV}{es:List (AV×AV×Nat)}{A A':UA}{vs:List AV}
  (hFn: ∀c,F c→c<st.n) (hFp:F cp) (hFm:F cm) (hrow:Qy st.h.get cp 0 [ks,.mp cm]) (hmap:st.h.get cm=some (.map es k)) (hent:es.map wJ=WX 0 L) (hS:ZF st.h.get F cp A ks vs L) (hnd:L.Nodup) (hnf:XQ 0 L s=none)
  (hx: ∀c,c<st.n→c≠cp→c≠cm→(∀m l,(c,m,l)∉A)→st4.h.get c=st.h.get c) (hrow4:Qy st4.h.get cp 0 [ks',.mp cm]) (hm4:st4.h.get cm=some (.map (es++[(.str (Zi s),.int .i64 (L.length:Nat),k)]) (k+1)))
  (hA4:YS A' ks' (vs++[v])) (hAr: ∀c m l,(c,m,l)∈A'→Qy st4.h.get c m l) (hAn: ∀c m l,(c,m,l)∈A'→(∃m l,(c,m,l)∈A)∨st.n≤c) (hv:Jj st4.h.get [] 1 (zC s) v) (hvz:Xx s) (hvn:v=.nils∨ ∃c m o n,v=.sl c m o n 1)
  (hvc: ∀c m o n y,v=.sl c m o n y→st.n≤c∧c<st4.n∧ ∀m' l',(c,m',l')∉A') (hf4:Qi st4) (hle:st.n≤st4.n):ZG st4.h.get (fun c=>F c∨(st.n≤c∧c<st4.n)) cp (L++[s])∧US F st st4:=by
 have hcpn:=hFn cp hFp;refine⟨⟨ks',cm,_,_,A',vs++[v],hrow4,.inl hFp,.inl hFm,hm4,?_,?_,?_⟩,hf4,hle,fun c hc hF=>?_⟩
 ·rw[List.map_append,hent,NY,Nat.zero_add];rfl
 ·refine hS.snoc hA4 (fun c m l hm=>?_) (fun c h=>.inl h) (fun c h1 h2 h3 ro ms h4=>?_) hv hvz hvn (fun c m o n y e=>?_)
  ·have hr:=hAr c m l hm;rcases hAn c m l hm with⟨m2,l2,h⟩|h
   ·obtain⟨_,k2,k3⟩:=hS.row c m2 l2 h;exact⟨hr,.inl k2,k3,.inl ⟨m2,l2,h⟩⟩
   ·exact⟨hr,.inr ⟨h,hr.lt hf4⟩,by omega,.inr fun hF=>by have:=hFn c hF;omega⟩
  ·refine hx c (hFn c h1) h2 ?_ h3
   rintro rfl
   rw[h4]at hmap;cases hmap
  ·obtain⟨k1,k2,k3⟩:=hvc c m o n y e;exact⟨.inr ⟨k1,k2⟩,by omega,k3⟩
 ·refine List.nodup_append.2 ⟨hnd,by simp,fun a ha b hb e=>?_⟩;rw[List.mem_singleton]at hb;subst hb e;exact IG hnf ha
 ·refine hx c hc (fun e=>hF (e▸hFp)) (fun e=>hF (e▸hFm)) fun m l hm=>hF (hS.row c m l hm).2.1
theorem AI.ge{n0:Nat}{A:UA}{ks:AV}(h:AI n0 A ks l){c m:Nat}{x:List AV}(hm:(c,m,x)∈A):n0≤c:=by
 cases h with
 |none=>cases hm
 |own hc hb=>simp at hm;omega
theorem CX(h:Xx l):Xx (JP l):=fun z hz=>h z ((VW l z).1 hz)
section
variable {P:Program} {G:Env} {N:Nat} {st:St} {T:Tr AV} {ops rest:List Oper} {K:List (Nat×AV)} {R:Tr AV→St→Prop} {d:Nat} {ty t:TypeId} {pos:String} {af:Array Edge}
noncomputable def Ep(st:St):St:=⟨st.n+1,st.h.set st.n (.map [] 0)⟩
theorem HQ(hf:Qi st):Qi (Ep st):=fun c hle=>by
 have hle:st.n+1≤c:=hle;show(st.h.set st.n _).get c=none;rw[JF,YT _ _ Qc];exact hf c Qc
theorem MN(hf:Qi st):Qt st (Ep st):=⟨HQ hf,Nat.le_succ _,fun c hc=>by
 show(st.h.set st.n _).get c=_
 rw[JF,YT _ _ Qc]⟩
theorem PR(hK:QT K T)(hN:Nat.ble (d+1) N=true)(hn: ∀T',QT ((d,.mp st.n)::K) T'→WR P G N ops rest R T' (Ep st)):WR P G N ops (⟨some d,.makeMap t none,ty,pos,af,none⟩::rest) R T st:=
 EC (v:=.mp st.n) (st1:=Ep st) hK (.of fun T hT c d ty pos af g=>by
  show WQ st=_;unfold WQ
  rw[WL];rfl) (Nat.le_of_ble_eq_true hN) hn
end

theorem Lz{st:St}(hf:Qi st){F:Nat→Prop}(hP:ZG st.h.get F cp L): ∃v st',Jh 39 [.ptr cp 0 0] st v st'∧v=iZ (L.length:Nat)∧Qt st st':=by
 obtain⟨ks,cm,es,k,A,vs,hrow,hFp,hFm,hmap,hent,hS,hnd⟩:=hP;refine JA Tryz.func39 Tryz.ntmps39 fun T K=>?_;have M:=Mem.start hf;refine Qb 2 K M fun _ K=>?_;refine p1 K (Yh ET rfl rfl) fun _ K=>?_;refine Qb 3 K M fun _ K=>?_;refine p1 K (Yg Zc rfl) fun _ K=>p1 K (Qf rfl (Qx (M.JH Q7 hrow.Jd) (Qd Q8 rfl))) fun _ K=>p1 K (Q5 JT rfl rfl hS.len) fun _ K=>?_;refine Qb 1 K M ?_;exact⟨rfl,M.qt⟩

theorem vk{st:St}(hf:Qi st){F:Nat→Prop}(hP:ZG st.h.get F cp L)(hbd: ∀s∈L,s.length≤100000)(hFn: ∀c,F c→c<st.n)(id:Int): ∃v st',Jh 40 [.ptr cp 0 0,iZ id] st v st'∧ ∃ks,v=ks∧EA st st' 1 ks (zC (yq L id))∧Qt st st':=by
 have hP0:=hP;obtain⟨ks,cm,es,k,A,vs,hrow,hFp,hFm,hmap,hent,hS,hnd⟩:=hP;refine JA Tryz.func40 Tryz.ntmps40 fun T K=>?_;have M:=Mem.start hf;refine Qb 3 K M fun _ K=>?_;refine Uj K rfl (fun _ e7 K=>?_) fun _ e7 K=>?_
 ·refine Qb 2 K M fun _ K=>?_;obtain⟨v10,st10,ev10,rfl,q10⟩:=Lz (L:=L) M.fresh (hP0.frame fun c hc=>M.JB c (hFn c hc) Q7);refine pg K rfl rfl (Qg rfl ev10) fun _ K=>?_;replace M:=M.quiet q10;refine Qb 2 K M fun _ K=>?_;refine Jy K rfl (fun h12=>?_) fun h12=>?_
  ·refine Qb 1 K M ?_;refine⟨.nils,rfl,⟨[],?_,fun _ _ _ h=>by cases h⟩,M.qt⟩;rw[DW Qc];exact .none
  refine Qb 2 K M fun _ K=>?_;refine p1 K (Yg Zc rfl) fun _ K=>p1 K (Qf rfl (Qx (M.JH Q7 hrow.Jd) (Qd Q8 rfl))) fun _ K=>?_;refine Qb 1 K M fun _ K=>?_;obtain⟨s18,hi18⟩:=Uw L (id.toNat) Qc;obtain⟨u18,hc18,hr18,hz18,hq18,hf18⟩:=hS.inn _ _ hi18;obtain⟨x18,m18,f18,q18,_,la18,lo18,lp18⟩:=(Jj.mem M hS.rd Q7).load (i:=id.toNat) (cs:=[u18]) (by rw[List.getElem?_map,hc18];rfl);refine p1 K (Qe (j:=id.toNat) QZ (congrArg some q18) (congrArg (fun z=>some (iZ z)) (by omega:_=((id.toNat:Nat):Int))) (by rw[List.length_map,hS.ln];omega)) fun _ K=>p1 K (Qf rfl (lo18 _ 0 _ Jb rfl)) fun _ K=>?_;obtain⟨v20,st20,ev20,kn,rfl,nr20,q20⟩:=Gl M.fresh (Jj.mem M hr18 Q7) (Nat.le_trans (hbd _ (List.mem_of_getElem? hi18)) Q9);refine p1 K (Qg rfl ev20) fun _ K=>?_;obtain⟨A20,hA20,M⟩:=M.Yz q20 nr20;refine Qb 1 K M ?_;refine⟨_,rfl,?_,M.qt⟩;rw[TE Qc hi18];have h:=Mem.BO (L:=[]) (A:=A20) (B:=[]) M hA20
  simpa using h
 refine Qb 7 K M ?_;refine⟨.nils,rfl,⟨[],?_,fun _ _ _ h=>by cases h⟩,M.qt⟩;rw[DW Qc];exact .none

theorem xV{st:St}(hf:Qi st): ∃v st',Jh 36 [] st v st'∧ ∃cp,v=.ptr cp 0 0∧ZG st'.h.get (fun c=>st.n≤c∧c<st'.n) cp []∧Qt st st':=by
 refine JA Tryz.func36 Tryz.ntmps36 fun T K=>?_;have M:=Mem.start hf;refine Qb 1 K M fun _ K=>?_;refine PR K rfl fun _ K=>?_;have MQ:=M;have M:=Mem.start (HQ hf);refine p1 K (WJ Bx rfl rfl) fun _ K=>?_;refine au 2 K M ?_;intro c3 _ _ K _ M;refine Qb 0 K M ?_;replace M:Mem (Ep st).h.get (Ep st).n [] _ [(c3,0,[.nils,.mp st.n])]:=M;refine⟨_,rfl,⟨.nils,st.n,[],0,[],[],M.Yb (k:=0) rfl,?_,?_,?_,rfl,?_,List.Pairwise.nil⟩,(MN hf).trans M.qt⟩
 ·have h1:=M.own c3 0 [.nils,.mp st.n] Q7;have h2:=M.lt c3 0 [.nils,.mp st.n] Q7;have h3:(Ep st).n=st.n+1:=rfl;simp at h1;exact⟨by omega,h2⟩
 ·exact⟨Nat.le_refl _,Nat.lt_of_lt_of_le (Nat.lt_succ_self _) M.le⟩
 ·rw[M.JB st.n (Nat.lt_succ_self _) Q7];show(st.h.set st.n _).get st.n=_;rw[JF];exact Uk _ _ _
 ·exact⟨.none,(fun c m l h=>by cases h),rfl,(fun i s h=>by simp at h)⟩

theorem ec{st:St}(hf:Qi st){F:Nat→Prop}(hP:ZG st.h.get F cp L)(hFn: ∀c,F c→c<st.n)(hL:L.length≤100000){kl:AV}(hl:Jj st.h.get [] 1 (zC l) kl)(hz:Xx l)(hn:l.length≤100000): ∃v st',Jh 61 [.ptr cp 0 0,kl] st v st'∧v=iZ (MJ L l:Nat)∧ZG st'.h.get (fun c=>F c∨(st.n≤c∧c<st'.n)) cp (Fw L l)∧US F st st':=by
 have hP0:=hP;obtain⟨ks,cm,es,k,A,vs,hrow,hFp,hFm,hmap,hent,hS,hnd⟩:=hP;have hcm:cm<st.n:=hFn cm hFm;have hsz:=CX hz
 have hRw: ∀c m x,(c,m,x)∈(cp,0,[ks,.mp cm])::A→Qy st.h.get c m x:=by
  intro c m x h;rcases List.mem_cons.1 h with h|h
  ·injection h with h1 h;injection h with h2 h3;subst h1 h2 h3;exact hrow
  ·exact(hS.row c m x h).1
 have hNd:(((cp,0,[ks,.mp cm])::A).map Prod.fst).Nodup:=by
  rw[List.map_cons];refine List.nodup_cons.2 ⟨fun h=>?_,hS.acc.nodup⟩;obtain⟨⟨c,m,x⟩,h1,h2⟩:=List.mem_map.1 h;exact(hS.row c m x h1).2.2 h2
 refine JA Tryz.func61 Tryz.ntmps61 fun T K=>?_;have M:=Mem.start hf;refine Qb 2 K M fun _ K=>?_;refine p1 K (Yh ET rfl rfl) fun _ K=>?_;refine Qb 2 K M fun _ K=>?_;obtain⟨v10,st10,ev10,ks10,rfl,nr10,q10⟩:=Gl M.fresh (Jj.mem M hl Q7) Qc;refine p1 K (Qg rfl ev10) fun _ K=>?_;obtain⟨A10,hA10,M⟩:=M.Yz q10 nr10;refine Qb 2 K M fun _ K=>?_;obtain⟨v12,st12,A12,ev12,rfl,M7,hA12⟩:=Gs (L:=[]) (A:=A10) (B:=[]) M hA10 Qc;refine p1 K (Qg rfl ev12) fun _ K=>?_;replace M:=M7;refine Qb 1 K M fun _ K=>?_;obtain⟨v14,st14,A14,ev14,hA14,M9⟩:=GW (L:=[]) (A:=A12) (B:=[]) M hA12 (by rw[YZ];omega);rw[Ll]at hA14;refine p1 K (Qg rfl ev14) fun _ K=>?_;replace M:=M9;refine Qb 1 K M fun _ K=>?_;refine QC (l:=[(4,0),(5,0),(0,0),(1,0),(2,0),(3,1),(6,0),(7,0),(8,0),(9,0),(10,0),(11,0)]) (by kernel_rfl) ?_;have Mq:=M;refine q1 rfl K (Q0 rfl) fun _ K=>?_;obtain⟨v21,st21,ev21,rfl,q21⟩:=T9 (L:=[]) (A:=A14) (B:=[]) M hA14 hsz (by rw[←Ll];exact Nat.le_trans (Zd _) (by rw[YZ];omega));refine qA rfl K (Qg rfl ev21) fun _ K=>?_;replace M:=M.quiet q21;have Mp:=Mq;have Mq:=M;refine Jo 2 K M fun _ K=>?_;refine q1 rfl K (Yg A5 rfl) fun _ K=>?_;refine Jt rfl K rfl (Qx (M.JH Q7 hrow.Jd) (Qd Zx rfl)) (Qx (Mp.JH Q7 hrow.Jd) (Qd Zx rfl)) (JQ rfl) rfl Q9 fun _ K=>?_;refine qA rfl K (R3 rfl rfl ((M.JB cm hcm Q7).trans hmap) hent) fun _ K=>?_;refine Jo 5 K M fun _ K=>?_;refine QF ?_;show W _ _ _ _ _ _ _;refine Qb 2 K M fun _ K=>?_;refine Qp (K.QG rfl) (fun h26=>?_) (fun h26=>?_)
 ·have hb26:=h26
  replace h26:((XQ 0 L (JP l)).isSome)=false:=by simpa using h26
  refine Jz ?_
  have hnf:XQ 0 L (JP l)=none:=by
   cases hq:XQ 0 L (JP l)with
   |none=>rfl
   |some i=>rw[hq]at h26;cases h26
  have Q1:=M.qt;have hmap1:=((M.JB cm hcm Q7).trans hmap);have hcm1:=Nat.lt_of_lt_of_le hcm Q1.le;have M:=Mem.zM hf M ((cp,0,[ks,.mp cm])::A) hRw hNd;replace M:=Mem.cast (M':=((cp,0,[ks,(.mp cm)])::(A++(A14++[])))) M (by first|rfl|simp);have hcX:=Mem.Tu M hmap1
  have hcX:cm∉List.map Prod.fst (((cp,0,[ks,.mp cm])::A)++(A14++[])):=by simpa using hcX
  refine Qb 2 K M fun _ K=>?_;refine p1 K (Yg Zc rfl) fun _ K=>p1 K (Qf rfl (M.load (k:=0) rfl (Qd Q8 rfl))) fun _ K=>p1 K (Q5 JT rfl rfl hS.len) fun _ K=>?_;refine Qb 1 K M fun _ K=>?_;refine QC (l:=[(4,0),(5,0),(0,0),(1,0),(2,0),(3,1),(6,0),(7,0)]) (by kernel_rfl) ?_;have Mq:=M;refine q1 rfl K (Q0 rfl) fun _ K=>?_;obtain⟨v37,st37,ev37,rfl,q37⟩:=T9 (L:=((cp,0,[ks,(.mp cm)])::(A++[]))) (A:=A14) (B:=[]) (Mem.cast M U0) hA14 hsz (by rw[←Ll];exact Nat.le_trans (Zd _) (by rw[YZ];omega));refine qA rfl K (Qg rfl ev37) fun _ K=>?_;replace M:=M.quiet q37;have Mp:=Mq;have Mq:=M;refine Jo 2 K M fun _ K=>?_;refine q1 rfl K (Yg A5 rfl) fun _ K=>?_;refine Jt rfl K rfl (M.load (k:=0) rfl (Qd Zx rfl)) (Mp.load (k:=0) rfl (Qd Zx rfl)) (JQ rfl) rfl Q9 fun _ K=>?_;refine q1 rfl K (Q0 rfl) fun _ K=>?_;have hmap2:=(M.JB cm hcm1 hcX).trans hmap1;have Q2:=M.O5;refine zP rfl K rfl rfl rfl hmap2 hent hnf ?_;obtain⟨M,Q3⟩:=Mem.mapped M hmap2 (JP l) ((L.length:Nat):Int);have Mp:=Mq;have Mq:=M;refine QF ?_;show W _ _ _ _ _ _ _;refine Qb 3 K M fun _ K=>?_;refine p1 K (Yg Zc rfl) fun _ K=>p1 K (Qf rfl (M.load (k:=0) rfl (Qd Q8 rfl))) fun _ K=>?_;refine Qb 1 K M fun _ K=>?_;refine X5 K M QQ Uu rfl ((JD rfl hA14.cell rfl).trans rfl) (Qa hA14.cell Q4) rfl rfl fun c45 _ _ K M=>?_;have hle46:=M.le;refine YL (k2:=0) (L:=[(c45,0,[v14]),(cp,0,[ks,(.mp cm)])]) (A:=A) (B:=(A14++[])) K M hS.acc QQ rfl rfl rfl (by rw[hS.ln];omega) rfl fun ks46 A46 _ _ K hA46 hN46 M=>?_;simp only[X3]at M;refine Qb 1 K M fun _ K=>?_;refine p1 K (Yg Zc rfl) fun _ K=>?_;refine Jl (k:=1) K M rfl rfl rfl Uy (hA46.cell) rfl fun _ M=>?_;refine Qb 2 K M ?_
  have e1:MJ L l=L.length:=by rw[MJ,hnf];rfl
  have e2:Fw L l=L++[JP l]:=by rw[Fw,hnf];rfl
  rw[e1,e2];refine⟨rfl,?_⟩;have hap:=Mem.ak (Lr:=[(c45,0,[v14]),(cp,0,[ks46,(.mp cm)])]) (A':=A46) (A2:=A14) (B:=[]) M hA14;have hq3:=Q3.le;have hml:=M.le;have hq1:=Q1.le;have hq2:=Q2.le;refine ZG.grow hFn hFp hFm hrow hmap hent hS hnd hnf (fun c h1 h2 h3 h4=>?_) (M.Yb (k:=1) rfl) ?_ hA46 (fun c m l h=>M.row c m l (by simp[h])) (fun c m l h=>?_) (Mem.vO (L:=((c45,0,[v14])::(cp,0,[ks46,(.mp cm)])::(A46++[]))) (A:=A14) (B:=[]) (Mem.cast M U0) hA14) hsz hA14.Tv hap M.fresh Qc
  ·have hX:c∉List.map Prod.fst (((cp,0,[ks,.mp cm])::A)++(A14++[])):=by
    intro hc;obtain⟨⟨c',m',l'⟩,k1,k2⟩:=List.mem_map.1 hc;simp only at k2;subst k2;rcases List.mem_append.1 k1 with k1|k1
    ·rcases List.mem_cons.1 k1 with k1|k1
     ·injection k1 with k1;exact h2 k1
     ·exact h4 m' l' k1
    ·have:=hA14.ge (by simpa using k1);omega
   rw[M.JB c Qc (by simpa using hX),Q3.JB c Qc h3,Q2.JB c Qc (by simpa using hX)];exact Q1.JB c h1
  ·rw[M.JB cm Qc (by simpa using hcX)];exact R9 _ _ _ _ _ _
  ·rcases hN46 c m l h with h|h
   ·exact .inl h
   ·exact .inr Qc
 have hb26:=h26
 replace h26:((XQ 0 L (JP l)).isSome)=true:=by simpa using h26
 refine Qb 2 K M ?_
 obtain⟨i,hq⟩: ∃i,XQ 0 L (JP l)=some i:=by
  cases hq:XQ 0 L (JP l)with
  |none=>rw[hq]at h26;cases h26
  |some i=>exact⟨i,rfl⟩
 have e1:MJ L l=(XQ 0 L (JP l)).getD 0:=by rw[MJ,hq];rfl
 have e2:Fw L l=L:=by rw[Fw,hq];rfl
 rw[e1,e2];refine⟨rfl,?_,M.qt.JN F⟩;have hP1:=hP0.frame fun c hc=>M.JB c (hFn c hc) Q7;obtain⟨ks,cm,es,k,A,vs,k1,k2,k3,k4,k5,k6,k7⟩:=hP1;exact⟨ks,cm,es,k,A,vs,k1,.inl k2,.inl k3,k4,k5,k6.more fun c h=>.inl h,k7⟩
end
end Go.Proofs.YtiknomepbklibaaGreatDoor
