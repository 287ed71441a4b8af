/-
  Rows of numbers: a copy, are two the same, sorted.
-/
import Derived.Test.YtildagdnomiahaaGreatDoorQkAu
set_option maxHeartbeats 8000000
set_option maxRecDepth 100000
set_option linter.unnecessarySimpa false
set_option linter.unusedSimpArgs false
set_option linter.unusedVariables false
namespace Go.Proofs.YtildagdnomiahaaGreatDoor
open Go Go.RowKit
section

theorem NK{st:St}(hf:Qh st){l:List Int}{kl:AV}(hl:Jb st.h.get [] 1 (zC l) kl)(hn:l.length≤1000000000): ∃v st',QP 270 [kl] st v st'∧ ∃ks,v=ks∧FT st st' 1 ks (zC l)∧Qt st st':=by
 have hcl:=Qz l;refine Jy Tryz.func270 Tryz.ntmps270 fun T K=>?_;have M:=Mem.start hf;refine Qa 2 K M fun _ K=>?_;refine p1 K (NV (hl.len.trans (congrArg some (Qz _))) Jr rfl rfl) fun _ K=>?_;refine Qa 0 K M fun _ K=>?_;refine Ze K rfl (fun h4=>?_) fun h4=>?_
 ·have hb4:=h4;refine Qa 1 K M ?_
  have hbl:l=[]:=by
   have h:=hl.len;rw[RK h4]at h
   injection h with h
   rw[Qz]at h;exact Ym h.symm
  exact⟨.nils,rfl,⟨[],by rw[hbl];exact .none,fun _ _ _ h=>by cases h⟩,M.qt⟩
 have hb4:=h4;refine au 2 K M ?_;intro c5 _ _ K _ M;replace M:=Mem.cast (M':=([(c5,0,[])]++[])) (Mem.perm M (List.perm_append_comm (l₁:=[(c5,0,[])]) (l₂:=[]))) Zr;have hA0c5:Acc st.n 1 [(c5,0,[])] (.sl c5 0 0 0 1) []:=Acc.own (n0:=st.n) (z:=1) (c:=c5) (m:=0) (ls:=[]) ((M.own c5 0 [] Q0).resolve_right Q0) Q0 Q0;refine Rs (L:=[]) (A:=[(c5,0,[])]) (B:=[]) K M hA0c5 QR rfl rfl (Jb.mem M hl Q0) (OH _) (by simp only[List.length_nil];omega) rfl fun ks7 A7 _ _ K hA7 M=>?_;refine Qa 1 K M ?_;refine⟨_,rfl,?_,M.qt⟩;have h:=Mem.xg (L:=[]) (B:=[]) M hA7
 simpa using h

end
section
variable {L:List (List Int)} {cp:Nat} {l s:List Int}

def ug(L:List (List Int))(i:Int):List Int:=if 0≤i then(L[i.toNat]?).getD []else []
theorem Sa{i:Int}(h0:0≤i)(h:L[i.toNat]? =some s):ug L i=s:=by rw[ug,if_pos h0,h];rfl
theorem CL{i:Int}(h:i<0∨(L.length:Int)≤i):ug L i=[]:=by
 rw[ug]
 by_cases h0:0≤i
 ·rw[if_pos h0,List.getElem?_eq_none Qe];rfl
 ·rw[if_neg h0]
theorem Mem.RJ{h0:Hp}{n0:Nat}{X:List Nat}{st:St}{M:Ut}(hM:Mem h0 n0 X st M){cm k:Nat}{es:List (AV×AV×Nat)}(hm:st.h.get cm=some (.map es k)):cm∉M.map Prod.fst:=by
 intro hc;obtain⟨⟨c,m,l⟩,h1,h2⟩:=List.mem_map.1 hc;exact Qu.RJ (hM.row c m l h1) hm h2
theorem Mem.aJ{h0:Hp}{n0 n1:Nat}{X:List Nat}{st:St}{Lr A' A2 B:Ut}(hM:Mem h0 n0 X st (Lr++(A'++(A2++B)))){v:AV}(hA2:Eo n1 A2 v s): ∀c m o n y,v=.sl c m o n y→n1≤c∧c<st.n∧ ∀m' l',(c,m',l')∉A':=by
 intro c m o n y e
 cases hA2 with
 |none=>cases e
 |own hc hb=>
  rename_i c2 m2 rest
  injection e with e1
  subst e1;refine⟨hc,hM.lt c2 m2 (s.map AP++rest) Q0,fun m' l' hm=>?_⟩;have hn:=hM.nodup;rw[List.map_append,List.map_append,List.map_append]at hn;have h2:=(List.nodup_append.1 hn).2.1;exact(List.nodup_append.1 h2).2.2 c2 (List.mem_map.2 ⟨_,hm,rfl⟩) c2 Q0 rfl
theorem YQ.grow{st st4:St}{F:Nat→Prop}{cm k:Nat}{ks ks' v:AV}{es:List (AV×AV×Nat)}{A A':Ut}{vs:List AV}
  (hFn: ∀c,F c→c<st.n) (hFp:F cp) (hFm:F cm) (hrow:Qu st.h.get cp 0 [ks,.mp cm]) (hmap:st.h.get cm=some (.map es k)) (hent:es.map wL=VP 0 L) (hS:YP st.h.get F cp A ks vs L) (hnd:L.Nodup) (hnf:Xb 0 L s=none)
  (hx: ∀c,c<st.n→c≠cp→c≠cm→(∀m l,(c,m,l)∉A)→st4.h.get c=st.h.get c) (hrow4:Qu st4.h.get cp 0 [ks',.mp cm]) (hm4:st4.h.get cm=some (.map (es++[(.str (Yt s),.int .i64 (L.length:Nat),k)]) (k+1)))
  (hA4:YS A' ks' (vs++[v])) (hAr: ∀c m l,(c,m,l)∈A'→Qu st4.h.get c m l) (hAn: ∀c m l,(c,m,l)∈A'→(∃m l,(c,m,l)∈A)∨st.n≤c) (hv:Jb st4.h.get [] 1 (zC s) v) (hvz:FU s) (hvn:v=.nils∨ ∃c m o n,v=.sl c m o n 1)
  (hvc: ∀c m o n y,v=.sl c m o n y→st.n≤c∧c<st4.n∧ ∀m' l',(c,m',l')∉A') (hf4:Qh st4) (hle:st.n≤st4.n):YQ st4.h.get (fun c=>F c∨(st.n≤c∧c<st4.n)) cp (L++[s])∧YR F st st4:=by
 have hcpn:=hFn cp hFp;refine⟨⟨ks',cm,_,_,A',vs++[v],hrow4,.inl hFp,.inl hFm,hm4,?_,?_,?_⟩,hf4,hle,fun c hc hF=>?_⟩
 ·rw[List.map_append,hent,Lx,Nat.zero_add];rfl
 ·refine hS.snoc hA4 (fun c m l hm=>?_) (fun c h=>.inl h) (fun c h1 h2 h3 ro ms h4=>?_) hv hvz hvn (fun c m o n y e=>?_)
  ·have hr:=hAr c m l hm;rcases hAn c m l hm with⟨m2,l2,h⟩|h
   ·obtain⟨_,k2,k3⟩:=hS.row c m2 l2 h;exact⟨hr,.inl k2,k3,.inl ⟨m2,l2,h⟩⟩
   ·exact⟨hr,.inr ⟨h,hr.lt hf4⟩,by omega,.inr fun hF=>by have:=hFn c hF;omega⟩
  ·refine hx c (hFn c h1) h2 ?_ h3
   rintro rfl
   rw[h4]at hmap;cases hmap
  ·obtain⟨k1,k2,k3⟩:=hvc c m o n y e;exact⟨.inr ⟨k1,k2⟩,by omega,k3⟩
 ·refine List.nodup_append.2 ⟨hnd,by simp,fun a ha b hb e=>?_⟩;rw[List.mem_singleton]at hb;subst hb e;exact Hn hnf ha
 ·refine hx c hc (fun e=>hF (e▸hFp)) (fun e=>hF (e▸hFm)) fun m l hm=>hF (hS.row c m l hm).2.1
theorem Eo.ge{n0:Nat}{A:Ut}{ks:AV}(h:Eo n0 A ks l){c m:Nat}{x:List AV}(hm:(c,m,x)∈A):n0≤c:=by
 cases h with
 |none=>cases hm
 |own hc hb=>simp at hm;omega
theorem BJ(h:FU l):FU (JM l):=fun z hz=>h z ((XZ l z).1 hz)
section
variable {P:Program} {G:Env} {N:Nat} {st:St} {T:Tr AV} {ops rest:List Oper} {K:List (Nat×AV)} {R:Tr AV→St→Prop} {d:Nat} {ty t:TypeId} {pos:String} {af:Array Edge}
noncomputable def Wl(st:St):St:=⟨st.n+1,st.h.set st.n (.map [] 0)⟩
theorem Fu(hf:Qh st):Qh (Wl st):=fun c hle=>by
 have hle:st.n+1≤c:=hle;show(st.h.set st.n _).get c=none;rw[QW,Yg _ _ Qe];exact hf c Qe
theorem T6(hf:Qh st):Qt st (Wl st):=⟨Fu hf,Nat.le_succ _,fun c hc=>by
 show(st.h.set st.n _).get c=_
 rw[QW,Yg _ _ Qe]⟩
theorem DK(hK:QG K T)(hN:Nat.ble (d+1) N=true)(hn: ∀T',QG ((d,.mp st.n)::K) T'→WR P G N ops rest R T' (Wl st)):WR P G N ops (⟨some d,.makeMap t none,ty,pos,af,none⟩::rest) R T st:=
 Wv (v:=.mp st.n) (st1:=Wl st) hK (.of fun T hT c d ty pos af g=>by
  show VJ st=_;unfold VJ
  rw[VF];rfl) (Nat.le_of_ble_eq_true hN) hn
end

theorem IM{st:St}(hf:Qh st){F:Nat→Prop}(hP:YQ st.h.get F cp L): ∃v st',QP 249 [.ptr cp 0 0] st v st'∧v=iZ (L.length:Nat)∧Qt st st':=by
 obtain⟨ks,cm,es,k,A,vs,hrow,hFp,hFm,hmap,hent,hS,hnd⟩:=hP;refine Jy Tryz.func249 Tryz.ntmps249 fun T K=>?_;have M:=Mem.start hf;refine Qa 2 K M fun _ K=>?_;refine p1 K (U2 WB rfl rfl) fun _ K=>?_;refine Qa 3 K M fun _ K=>?_;refine p1 K (Ur Yn rfl) fun _ K=>p1 K (Qi rfl (Qq (M.QX Q0 hrow.QH) (Qb QO rfl))) fun _ K=>p1 K (Q7 UD rfl rfl hS.len) fun _ K=>?_;refine Qa 1 K M ?_;exact⟨rfl,M.qt⟩

theorem xH{st:St}(hf:Qh st){F:Nat→Prop}(hP:YQ st.h.get F cp L)(hbd: ∀s∈L,s.length≤100000)(hFn: ∀c,F c→c<st.n)(id:Int): ∃v st',QP 250 [.ptr cp 0 0,iZ id] st v st'∧ ∃ks,v=ks∧FT st st' 1 ks (zC (ug L id))∧Qt st st':=by
 have hP0:=hP;obtain⟨ks,cm,es,k,A,vs,hrow,hFp,hFm,hmap,hent,hS,hnd⟩:=hP;refine Jy Tryz.func250 Tryz.ntmps250 fun T K=>?_;have M:=Mem.start hf;refine Qa 3 K M fun _ K=>?_;refine Uz K rfl (fun _ e7 K=>?_) fun _ e7 K=>?_
 ·refine Qa 2 K M fun _ K=>?_;obtain⟨v10,st10,ev10,rfl,q10⟩:=IM (L:=L) M.fresh (hP0.frame fun c hc=>M.Jx c (hFn c hc) Q0);refine pg K rfl rfl (Qg rfl ev10) fun _ K=>?_;replace M:=M.quiet q10;refine Qa 2 K M fun _ K=>?_;refine UA K rfl (fun h12=>?_) fun h12=>?_
  ·refine Qa 1 K M ?_;refine⟨.nils,rfl,⟨[],?_,fun _ _ _ h=>by cases h⟩,M.qt⟩;rw[CL Qe];exact .none
  refine Qa 2 K M fun _ K=>?_;refine p1 K (Ur Yn rfl) fun _ K=>p1 K (Qi rfl (Qq (M.QX Q0 hrow.QH) (Qb QO rfl))) fun _ K=>?_;refine Qa 1 K M fun _ K=>?_;obtain⟨s18,hi18⟩:=YY L (id.toNat) Qe;obtain⟨u18,hc18,hr18,hz18,hq18,hf18⟩:=hS.inn _ _ hi18;obtain⟨x18,m18,f18,q18,_,la18,lo18,lp18⟩:=(Jb.mem M hS.rd Q0).load (i:=id.toNat) (cs:=[u18]) (by rw[List.getElem?_map,hc18];rfl);refine p1 K (Qv (j:=id.toNat) J4 (congrArg some q18) (congrArg (fun z=>some (iZ z)) (by omega:_=((id.toNat:Nat):Int))) (by rw[List.length_map,hS.ln];omega)) fun _ K=>p1 K (Qi rfl (lo18 _ 0 _ Jd rfl)) fun _ K=>?_;obtain⟨v20,st20,ev20,kn,rfl,nr20,q20⟩:=NK M.fresh (Jb.mem M hr18 Q0) (Nat.le_trans (hbd _ (List.mem_of_getElem? hi18)) QA);refine p1 K (Qg rfl ev20) fun _ K=>?_;obtain⟨A20,hA20,M⟩:=M.YG q20 nr20;refine Qa 1 K M ?_;refine⟨_,rfl,?_,M.qt⟩;rw[Sa Qe hi18];have h:=Mem.xg (L:=[]) (B:=[]) M hA20
  simpa using h
 refine Qa 7 K M ?_;refine⟨.nils,rfl,⟨[],?_,fun _ _ _ h=>by cases h⟩,M.qt⟩;rw[CL Qe];exact .none

theorem xh{st:St}(hf:Qh st): ∃v st',QP 247 [] st v st'∧ ∃cp,v=.ptr cp 0 0∧YQ st'.h.get (fun c=>st.n≤c∧c<st'.n) cp []∧Qt st st':=by
 refine Jy Tryz.func247 Tryz.ntmps247 fun T K=>?_;have M:=Mem.start hf;refine Qa 1 K M fun _ K=>?_;refine DK K rfl fun _ K=>?_;have MQ:=M;have M:=Mem.start (Fu hf);refine p1 K (Fj OS rfl rfl) fun _ K=>?_;refine au 2 K M ?_;intro c3 _ _ K _ M;refine Qa 0 K M ?_;replace M:Mem (Wl st).h.get (Wl st).n [] _ [(c3,0,[.nils,.mp st.n])]:=M;refine⟨_,rfl,⟨.nils,st.n,[],0,[],[],M.Ue (k:=0) rfl,?_,?_,?_,rfl,?_,List.Pairwise.nil⟩,(T6 hf).trans M.qt⟩
 ·have h1:=M.own c3 0 [.nils,.mp st.n] Q0;have h2:=M.lt c3 0 [.nils,.mp st.n] Q0;have h3:(Wl st).n=st.n+1:=rfl;simp at h1;exact⟨by omega,h2⟩
 ·exact⟨Nat.le_refl _,Nat.lt_of_lt_of_le (Nat.lt_succ_self _) M.le⟩
 ·rw[M.Jx st.n (Nat.lt_succ_self _) Q0];show(st.h.set st.n _).get st.n=_;rw[QW];exact Jq _ _ _
 ·exact⟨.none,(fun c m l h=>by cases h),rfl,(fun i s h=>by simp at h)⟩

theorem er{st:St}(hf:Qh st){F:Nat→Prop}(hP:YQ st.h.get F cp L)(hFn: ∀c,F c→c<st.n)(hL:L.length≤100000){kl:AV}(hl:Jb st.h.get [] 1 (zC l) kl)(hz:FU l)(hn:l.length≤100000): ∃v st',QP 269 [.ptr cp 0 0,kl] st v st'∧v=iZ (Tx L l:Nat)∧YQ st'.h.get (fun c=>F c∨(st.n≤c∧c<st'.n)) cp (EK L l)∧YR F st st':=by
 have hP0:=hP;obtain⟨ks,cm,es,k,A,vs,hrow,hFp,hFm,hmap,hent,hS,hnd⟩:=hP;have hcm:cm<st.n:=hFn cm hFm;have hsz:=BJ hz
 have hRw: ∀c m x,(c,m,x)∈(cp,0,[ks,.mp cm])::A→Qu st.h.get c m x:=by
  intro c m x h;rcases List.mem_cons.1 h with h|h
  ·injection h with h1 h;injection h with h2 h3;subst h1 h2 h3;exact hrow
  ·exact(hS.row c m x h).1
 have hNd:(((cp,0,[ks,.mp cm])::A).map Prod.fst).Nodup:=by
  rw[List.map_cons];refine List.nodup_cons.2 ⟨fun h=>?_,hS.acc.nodup⟩;obtain⟨⟨c,m,x⟩,h1,h2⟩:=List.mem_map.1 h;exact(hS.row c m x h1).2.2 h2
 refine Jy Tryz.func269 Tryz.ntmps269 fun T K=>?_;have M:=Mem.start hf;refine Qa 2 K M fun _ K=>?_;refine p1 K (U2 WB rfl rfl) fun _ K=>?_;refine Qa 2 K M fun _ K=>?_;obtain⟨v10,st10,ev10,ks10,rfl,nr10,q10⟩:=NK M.fresh (Jb.mem M hl Q0) Qe;refine p1 K (Qg rfl ev10) fun _ K=>?_;obtain⟨A10,hA10,M⟩:=M.YG q10 nr10;refine Qa 2 K M fun _ K=>?_;obtain⟨v12,st12,A12,ev12,rfl,M7,hA12⟩:=NR (L:=[]) (B:=[]) M hA10 Qe;refine p1 K (Qg rfl ev12) fun _ K=>?_;replace M:=M7;refine Qa 1 K M fun _ K=>?_;obtain⟨v14,st14,A14,ev14,hA14,M9⟩:=O0 (L:=[]) (B:=[]) M hA12 (by rw[JK];omega);rw[ID]at hA14;refine p1 K (Qg rfl ev14) fun _ K=>?_;replace M:=M9;refine Qa 1 K M fun _ K=>?_;refine QU (l:=[(4,0),(5,0),(0,0),(1,0),(2,0),(3,1),(6,0),(7,0),(8,0),(9,0),(10,0),(11,0)]) (by kernel_rfl) ?_;have Mq:=M;refine q1 rfl K (Q8 rfl) fun _ K=>?_;obtain⟨v21,st21,ev21,rfl,q21⟩:=RT (L:=[]) (B:=[]) M hA14 hsz (by rw[←ID];exact Nat.le_trans (Yo _) (by rw[JK];omega));refine qA rfl K (Qg rfl ev21) fun _ K=>?_;replace M:=M.quiet q21;have Mp:=Mq;have Mq:=M;refine Yq 2 K M fun _ K=>?_;refine q1 rfl K (Ur WZ rfl) fun _ K=>?_;refine JL rfl K rfl (Qq (M.QX Q0 hrow.QH) (Qb Y9 rfl)) (Qq (Mp.QX Q0 hrow.QH) (Qb Y9 rfl)) (Ub rfl) rfl QA fun _ K=>?_;refine qA rfl K (Pt rfl rfl ((M.Jx cm hcm Q0).trans hmap) hent) fun _ K=>?_;refine Yq 5 K M fun _ K=>?_;refine Ji ?_;show W _ _ _ _ _ _ _;refine Qa 2 K M fun _ K=>?_;refine Ze K rfl (fun h26=>?_) fun h26=>?_
 ·have hb26:=h26
  replace h26:((Xb 0 L (JM l)).isSome)=false:=by simpa using h26
  refine ZG ?_
  have hnf:Xb 0 L (JM l)=none:=by
   cases hq:Xb 0 L (JM l)with
   |none=>rfl
   |some i=>rw[hq]at h26;cases h26
  have Q1:=M.qt;have hmap1:=((M.Jx cm hcm Q0).trans hmap);have hcm1:=Nat.lt_of_lt_of_le hcm Q1.le;have M:=Mem.yW hf M ((cp,0,[ks,.mp cm])::A) hRw hNd;replace M:=Mem.cast (M':=((cp,0,[ks,(.mp cm)])::(A++(A14++[])))) M (by first|rfl|simp);have hcX:=Mem.RJ M hmap1
  have hcX:cm∉List.map Prod.fst (((cp,0,[ks,.mp cm])::A)++(A14++[])):=by simpa using hcX
  refine Qa 2 K M fun _ K=>?_;refine p1 K (Ur Yn rfl) fun _ K=>p1 K (Qi rfl (M.load (k:=0) rfl (Qb QO rfl))) fun _ K=>p1 K (Q7 UD rfl rfl hS.len) fun _ K=>?_;refine Qa 1 K M fun _ K=>?_;refine QU (l:=[(4,0),(5,0),(0,0),(1,0),(2,0),(3,1),(6,0),(7,0)]) (by kernel_rfl) ?_;have Mq:=M;refine q1 rfl K (Q8 rfl) fun _ K=>?_;obtain⟨v37,st37,ev37,rfl,q37⟩:=RT (L:=((cp,0,[ks,(.mp cm)])::(A++[]))) (B:=[]) (Mem.cast M Zr) hA14 hsz (by rw[←ID];exact Nat.le_trans (Yo _) (by rw[JK];omega));refine qA rfl K (Qg rfl ev37) fun _ K=>?_;replace M:=M.quiet q37;have Mp:=Mq;have Mq:=M;refine Yq 2 K M fun _ K=>?_;refine q1 rfl K (Ur WZ rfl) fun _ K=>?_;refine JL rfl K rfl (M.load (k:=0) rfl (Qb Y9 rfl)) (Mp.load (k:=0) rfl (Qb Y9 rfl)) (Ub rfl) rfl QA fun _ K=>?_;refine q1 rfl K (Q8 rfl) fun _ K=>?_;have hmap2:=(M.Jx cm hcm1 hcX).trans hmap1;have Q2:=M.LY;refine yY rfl K rfl rfl rfl hmap2 hent hnf ?_;obtain⟨M,Q3⟩:=Mem.mapped M hmap2 (JM l) ((L.length:Nat):Int);have Mp:=Mq;have Mq:=M;refine Ji ?_;show W _ _ _ _ _ _ _;refine Qa 3 K M fun _ K=>?_;refine p1 K (Ur Yn rfl) fun _ K=>p1 K (Qi rfl (M.load (k:=0) rfl (Qb QO rfl))) fun _ K=>?_;refine Qa 1 K M fun _ K=>?_;refine AU K M JC Zd rfl ((Yu rfl hA14.cell rfl).trans rfl) (Qc hA14.cell QY) rfl rfl fun c45 _ _ K M=>?_;have hle46:=M.le;refine Ez (k2:=0) (L:=[(c45,0,[v14]),(cp,0,[ks,(.mp cm)])]) (B:=(A14++[])) K M hS.acc JC rfl rfl rfl (by rw[hS.ln];omega) rfl fun ks46 A46 _ _ K hA46 hN46 M=>?_;simp only[AH]at M;refine Qa 1 K M fun _ K=>?_;refine p1 K (Ur Yn rfl) fun _ K=>?_;refine J5 (k:=1) K M rfl rfl rfl Z1 (hA46.cell) rfl fun _ M=>?_;refine Qa 2 K M ?_
  have e1:Tx L l=L.length:=by rw[Tx,hnf];rfl
  have e2:EK L l=L++[JM l]:=by rw[EK,hnf];rfl
  rw[e1,e2];refine⟨rfl,?_⟩;have hap:=Mem.aJ (Lr:=[(c45,0,[v14]),(cp,0,[ks46,(.mp cm)])]) (A':=A46) (A2:=A14) (B:=[]) M hA14;have hq3:=Q3.le;have hml:=M.le;have hq1:=Q1.le;have hq2:=Q2.le;refine YQ.grow hFn hFp hFm hrow hmap hent hS hnd hnf (fun c h1 h2 h3 h4=>?_) (M.Ue (k:=1) rfl) ?_ hA46 (fun c m l h=>M.row c m l (by simp[h])) (fun c m l h=>?_) (Mem.vp (L:=((c45,0,[v14])::(cp,0,[ks46,(.mp cm)])::(A46++[]))) (B:=[]) (Mem.cast M Zr) hA14) hsz hA14.fY hap M.fresh Qe
  ·have hX:c∉List.map Prod.fst (((cp,0,[ks,.mp cm])::A)++(A14++[])):=by
    intro hc;obtain⟨⟨c',m',l'⟩,k1,k2⟩:=List.mem_map.1 hc;simp only at k2;subst k2;rcases List.mem_append.1 k1 with k1|k1
    ·rcases List.mem_cons.1 k1 with k1|k1
     ·injection k1 with k1;exact h2 k1
     ·exact h4 m' l' k1
    ·have:=hA14.ge (by simpa using k1);omega
   rw[M.Jx c Qe (by simpa using hX),Q3.Jx c Qe h3,Q2.Jx c Qe (by simpa using hX)];exact Q1.Jx c h1
  ·rw[M.Jx cm Qe (by simpa using hcX)];exact Pz _ _ _ _ _ _
  ·rcases hN46 c m l h with h|h
   ·exact .inl h
   ·exact .inr Qe
 have hb26:=h26
 replace h26:((Xb 0 L (JM l)).isSome)=true:=by simpa using h26
 refine Qa 2 K M ?_
 obtain⟨i,hq⟩: ∃i,Xb 0 L (JM l)=some i:=by
  cases hq:Xb 0 L (JM l)with
  |none=>rw[hq]at h26;cases h26
  |some i=>exact⟨i,rfl⟩
 have e1:Tx L l=(Xb 0 L (JM l)).getD 0:=by rw[Tx,hq];rfl
 have e2:EK L l=L:=by rw[EK,hq];rfl
 rw[e1,e2];refine⟨rfl,?_,M.qt.U9 F⟩;have hP1:=hP0.frame fun c hc=>M.Jx c (hFn c hc) Q0;obtain⟨ks,cm,es,k,A,vs,k1,k2,k3,k4,k5,k6,k7⟩:=hP1;exact⟨ks,cm,es,k,A,vs,k1,.inl k2,.inl k3,k4,k5,k6.more fun c h=>.inl h,k7⟩
end
end Go.Proofs.YtildagdnomiahaaGreatDoor
