/-
  Rows of numbers: a copy, are two the same, sorted.
-/
import Derived.Test.YtildagdnomiahaaGreatDoorQgAu
set_option maxHeartbeats 8000000
set_option maxRecDepth 100000
set_option linter.unnecessarySimpa false
set_option linter.unusedSimpArgs false
set_option linter.unusedVariables false
namespace Go.Proofs.YtildagdnomiahaaGreatDoor
open Go Go.RowKit
section

theorem Nw{st:St}(hf:Qg st){l:List Int}{kl:AV}(hl:Je st.h.get [] 1 (zC l) kl)(hn:l.length≤1000000000): ∃v st',QR 270 [kl] st v st'∧ ∃ks,v=ks∧F9 st st' 1 ks (zC l)∧Qt st st':=by
 have hcl:=Q0 l;refine Jq Tryz.func270 Tryz.ntmps270 fun T K=>?_;have M:=Mem.start hf;refine Qb 2 K M fun _ K=>?_;refine p1 K (N4 (hl.len.trans (congrArg some (Q0 _))) Js rfl rfl) fun _ K=>?_;refine Qb 0 K M fun _ K=>?_;refine YU K rfl (fun h4=>?_) fun h4=>?_
 ·have hb4:=h4;refine Qb 1 K M ?_
  have hbl:l=[]:=by
   have h:=hl.len;rw[PT h4]at h
   injection h with h
   rw[Q0]at h;exact Yj h.symm
  exact⟨.nils,rfl,⟨[],by rw[hbl];exact .none,fun _ _ _ h=>by cases h⟩,M.qt⟩
 have hb4:=h4;refine au 2 K M ?_;intro c5 _ _ K _ M;replace M:=Mem.cast (M':=([(c5,0,[])]++[])) (Mem.perm M (List.perm_append_comm (l₁:=[(c5,0,[])]) (l₂:=[]))) Zg;have hA0c5:Acc st.n 1 [(c5,0,[])] (.sl c5 0 0 0 1) []:=Acc.own (n0:=st.n) (z:=1) (c:=c5) (m:=0) (ls:=[]) ((M.own c5 0 [] Qx).resolve_right Qx) Qx Qx;refine P5 (L:=[]) (A:=[(c5,0,[])]) (B:=[]) K M hA0c5 QT rfl rfl (Je.mem M hl Qx) (Om _) (by simp only[List.length_nil];omega) rfl fun ks7 A7 _ _ K hA7 M=>?_;refine Qb 1 K M ?_;refine⟨_,rfl,?_,M.qt⟩;have h:=Mem.uS (L:=[]) (B:=[]) M hA7
 simpa using h

end
section
variable {L:List (List Int)} {cp:Nat} {l s:List Int}

def qp(L:List (List Int))(i:Int):List Int:=if 0≤i then(L[i.toNat]?).getD []else []
theorem Ri{i:Int}(h0:0≤i)(h:L[i.toNat]? =some s):qp L i=s:=by rw[qp,if_pos h0,h];rfl
theorem BV{i:Int}(h:i<0∨(L.length:Int)≤i):qp L i=[]:=by
 rw[qp]
 by_cases h0:0≤i
 ·rw[if_pos h0,List.getElem?_eq_none Qe];rfl
 ·rw[if_neg h0]
theorem Mem.PS{h0:Hp}{n0:Nat}{X:List Nat}{st:St}{M:Uq}(hM:Mem h0 n0 X st M){cm k:Nat}{es:List (AV×AV×Nat)}(hm:st.h.get cm=some (.map es k)):cm∉M.map Prod.fst:=by
 intro hc;obtain⟨⟨c,m,l⟩,h1,h2⟩:=List.mem_map.1 hc;exact Qw.PS (hM.row c m l h1) hm h2
theorem Mem.vd{h0:Hp}{n0 n1:Nat}{X:List Nat}{st:St}{Lr A' A2 B:Uq}(hM:Mem h0 n0 X st (Lr++(A'++(A2++B)))){v:AV}(hA2:Ee n1 A2 v s): ∀c m o n y,v=.sl c m o n y→n1≤c∧c<st.n∧ ∀m' l',(c,m',l')∉A':=by
 intro c m o n y e
 cases hA2 with
 |none=>cases e
 |own hc hb=>
  rename_i c2 m2 rest
  injection e with e1
  subst e1;refine⟨hc,hM.lt c2 m2 (s.map A8++rest) Qx,fun m' l' hm=>?_⟩;have hn:=hM.nodup;rw[List.map_append,List.map_append,List.map_append]at hn;have h2:=(List.nodup_append.1 hn).2.1;exact(List.nodup_append.1 h2).2.2 c2 (List.mem_map.2 ⟨_,hm,rfl⟩) c2 Qx rfl
theorem YH.grow{st st4:St}{F:Nat→Prop}{cm k:Nat}{ks ks' v:AV}{es:List (AV×AV×Nat)}{A A':Uq}{vs:List AV}
  (hFn: ∀c,F c→c<st.n) (hFp:F cp) (hFm:F cm) (hrow:Qw st.h.get cp 0 [ks,.mp cm]) (hmap:st.h.get cm=some (.map es k)) (hent:es.map zK=VE 0 L) (hS:YG st.h.get F cp A ks vs L) (hnd:L.Nodup) (hnf:ZV 0 L s=none)
  (hx: ∀c,c<st.n→c≠cp→c≠cm→(∀m l,(c,m,l)∉A)→st4.h.get c=st.h.get c) (hrow4:Qw st4.h.get cp 0 [ks',.mp cm]) (hm4:st4.h.get cm=some (.map (es++[(.str (Yq s),.int .i64 (L.length:Nat),k)]) (k+1)))
  (hA4:YJ A' ks' (vs++[v])) (hAr: ∀c m l,(c,m,l)∈A'→Qw st4.h.get c m l) (hAn: ∀c m l,(c,m,l)∈A'→(∃m l,(c,m,l)∈A)∨st.n≤c) (hv:Je st4.h.get [] 1 (zC s) v) (hvz:FE s) (hvn:v=.nils∨ ∃c m o n,v=.sl c m o n 1)
  (hvc: ∀c m o n y,v=.sl c m o n y→st.n≤c∧c<st4.n∧ ∀m' l',(c,m',l')∉A') (hf4:Qg st4) (hle:st.n≤st4.n):YH st4.h.get (fun c=>F c∨(st.n≤c∧c<st4.n)) cp (L++[s])∧YI F st st4:=by
 have hcpn:=hFn cp hFp;refine⟨⟨ks',cm,_,_,A',vs++[v],hrow4,.inl hFp,.inl hFm,hm4,?_,?_,?_⟩,hf4,hle,fun c hc hF=>?_⟩
 ·rw[List.map_append,hent,La,Nat.zero_add];rfl
 ·refine hS.snoc hA4 (fun c m l hm=>?_) (fun c h=>.inl h) (fun c h1 h2 h3 ro ms h4=>?_) hv hvz hvn (fun c m o n y e=>?_)
  ·have hr:=hAr c m l hm;rcases hAn c m l hm with⟨m2,l2,h⟩|h
   ·obtain⟨_,k2,k3⟩:=hS.row c m2 l2 h;exact⟨hr,.inl k2,k3,.inl ⟨m2,l2,h⟩⟩
   ·exact⟨hr,.inr ⟨h,hr.lt hf4⟩,by omega,.inr fun hF=>by have:=hFn c hF;omega⟩
  ·refine hx c (hFn c h1) h2 ?_ h3
   rintro rfl
   rw[h4]at hmap;cases hmap
  ·obtain⟨k1,k2,k3⟩:=hvc c m o n y e;exact⟨.inr ⟨k1,k2⟩,by omega,k3⟩
 ·refine List.nodup_append.2 ⟨hnd,by simp,fun a ha b hb e=>?_⟩;rw[List.mem_singleton]at hb;subst hb e;exact FY hnf ha
 ·refine hx c hc (fun e=>hF (e▸hFp)) (fun e=>hF (e▸hFm)) fun m l hm=>hF (hS.row c m l hm).2.1
theorem Ee.ge{n0:Nat}{A:Uq}{ks:AV}(h:Ee n0 A ks l){c m:Nat}{x:List AV}(hm:(c,m,x)∈A):n0≤c:=by
 cases h with
 |none=>cases hm
 |own hc hb=>simp at hm;omega
theorem GX(h:FE l):FE (JN l):=fun z hz=>h z ((XL l z).1 hz)
section
variable {P:Program} {G:Env} {N:Nat} {st:St} {T:Tr AV} {ops rest:List Oper} {K:List (Nat×AV)} {R:Tr AV→St→Prop} {d:Nat} {ty t:TypeId} {pos:String} {af:Array Edge}
noncomputable def VV(st:St):St:=⟨st.n+1,st.h.set st.n (.map [] 0)⟩
theorem AY(hf:Qg st):Qg (VV st):=fun c hle=>by
 have hle:st.n+1≤c:=hle;show(st.h.set st.n _).get c=none;rw[Ja,Ye _ _ Qe];exact hf c Qe
theorem Sl(hf:Qg st):Qt st (VV st):=⟨AY hf,Nat.le_succ _,fun c hc=>by
 show(st.h.set st.n _).get c=_
 rw[Ja,Ye _ _ Qe]⟩
theorem CV(hK:QE K T)(hN:Nat.ble (d+1) N=true)(hn: ∀T',QE ((d,.mp st.n)::K) T'→WR P G N ops rest R T' (VV st)):WR P G N ops (⟨some d,.makeMap t none,ty,pos,af,none⟩::rest) R T st:=
 Wk (v:=.mp st.n) (st1:=VV st) hK (.of fun T hT c d ty pos af g=>by
  show V7 st=_;unfold V7
  rw[V3];rfl) (Nat.le_of_ble_eq_true hN) hn
end

theorem I6{st:St}(hf:Qg st){F:Nat→Prop}(hP:YH st.h.get F cp L): ∃v st',QR 249 [.ptr cp 0 0] st v st'∧v=iZ (L.length:Nat)∧Qt st st':=by
 obtain⟨ks,cm,es,k,A,vs,hrow,hFp,hFm,hmap,hent,hS,hnd⟩:=hP;refine Jq Tryz.func249 Tryz.ntmps249 fun T K=>?_;have M:=Mem.start hf;refine Qb 2 K M fun _ K=>?_;refine p1 K (U0 W0 rfl rfl) fun _ K=>?_;refine Qb 3 K M fun _ K=>?_;refine p1 K (Uo Yk rfl) fun _ K=>p1 K (Qh rfl (Qp (M.QY Qx hrow.QF) (Qc QP rfl))) fun _ K=>p1 K (Q4 UC rfl rfl hS.len) fun _ K=>?_;refine Qb 1 K M ?_;exact⟨rfl,M.qt⟩

theorem yn{st:St}(hf:Qg st){F:Nat→Prop}(hP:YH st.h.get F cp L)(hbd: ∀s∈L,s.length≤100000)(hFn: ∀c,F c→c<st.n)(id:Int): ∃v st',QR 250 [.ptr cp 0 0,iZ id] st v st'∧ ∃ks,v=ks∧F9 st st' 1 ks (zC (qp L id))∧Qt st st':=by
 have hP0:=hP;obtain⟨ks,cm,es,k,A,vs,hrow,hFp,hFm,hmap,hent,hS,hnd⟩:=hP;refine Jq Tryz.func250 Tryz.ntmps250 fun T K=>?_;have M:=Mem.start hf;refine Qb 3 K M fun _ K=>?_;refine Uv K rfl (fun _ e7 K=>?_) fun _ e7 K=>?_
 ·refine Qb 2 K M fun _ K=>?_;obtain⟨v10,st10,ev10,rfl,q10⟩:=I6 (L:=L) M.fresh (hP0.frame fun c hc=>M.J0 c (hFn c hc) Qx);refine pg K rfl rfl (Qf rfl ev10) fun _ K=>?_;replace M:=M.quiet q10;refine Qb 2 K M fun _ K=>?_;refine Uk K rfl (fun h12=>?_) fun h12=>?_
  ·refine Qb 1 K M ?_;refine⟨.nils,rfl,⟨[],?_,fun _ _ _ h=>by cases h⟩,M.qt⟩;rw[BV Qe];exact .none
  refine Qb 2 K M fun _ K=>?_;refine p1 K (Uo Yk rfl) fun _ K=>p1 K (Qh rfl (Qp (M.QY Qx hrow.QF) (Qc QP rfl))) fun _ K=>?_;refine Qb 1 K M fun _ K=>?_;obtain⟨s18,hi18⟩:=YP L (id.toNat) Qe;obtain⟨u18,hc18,hr18,hz18,hq18,hf18⟩:=hS.inn _ _ hi18;obtain⟨x18,m18,f18,q18,_,la18,lo18,lp18⟩:=(Je.mem M hS.rd Qx).load (i:=id.toNat) (cs:=[u18]) (by rw[List.getElem?_map,hc18];rfl);refine p1 K (Qs (j:=id.toNat) J5 (congrArg some q18) (congrArg (fun z=>some (iZ z)) (by omega:_=((id.toNat:Nat):Int))) (by rw[List.length_map,hS.ln];omega)) fun _ K=>p1 K (Qh rfl (lo18 _ 0 _ Jg rfl)) fun _ K=>?_;obtain⟨v20,st20,ev20,kn,rfl,nr20,q20⟩:=Nw M.fresh (Je.mem M hr18 Qx) (Nat.le_trans (hbd _ (List.mem_of_getElem? hi18)) Q8);refine p1 K (Qf rfl ev20) fun _ K=>?_;obtain⟨A20,hA20,M⟩:=M.Y7 q20 nr20;refine Qb 1 K M ?_;refine⟨_,rfl,?_,M.qt⟩;rw[Ri Qe hi18];have h:=Mem.uS (L:=[]) (B:=[]) M hA20
  simpa using h
 refine Qb 7 K M ?_;refine⟨.nils,rfl,⟨[],?_,fun _ _ _ h=>by cases h⟩,M.qt⟩;rw[BV Qe];exact .none

theorem uT{st:St}(hf:Qg st): ∃v st',QR 247 [] st v st'∧ ∃cp,v=.ptr cp 0 0∧YH st'.h.get (fun c=>st.n≤c∧c<st'.n) cp []∧Qt st st':=by
 refine Jq Tryz.func247 Tryz.ntmps247 fun T K=>?_;have M:=Mem.start hf;refine Qb 1 K M fun _ K=>?_;refine CV K rfl fun _ K=>?_;have MQ:=M;have M:=Mem.start (AY hf);refine p1 K (AT O0 rfl rfl) fun _ K=>?_;refine au 2 K M ?_;intro c3 _ _ K _ M;refine Qb 0 K M ?_;replace M:Mem (VV st).h.get (VV st).n [] _ [(c3,0,[.nils,.mp st.n])]:=M;refine⟨_,rfl,⟨.nils,st.n,[],0,[],[],M.Uc (k:=0) rfl,?_,?_,?_,rfl,?_,List.Pairwise.nil⟩,(Sl hf).trans M.qt⟩
 ·have h1:=M.own c3 0 [.nils,.mp st.n] Qx;have h2:=M.lt c3 0 [.nils,.mp st.n] Qx;have h3:(VV st).n=st.n+1:=rfl;simp at h1;exact⟨by omega,h2⟩
 ·exact⟨Nat.le_refl _,Nat.lt_of_lt_of_le (Nat.lt_succ_self _) M.le⟩
 ·rw[M.J0 st.n (Nat.lt_succ_self _) Qx];show(st.h.set st.n _).get st.n=_;rw[Ja];exact Jz _ _ _
 ·exact⟨.none,(fun c m l h=>by cases h),rfl,(fun i s h=>by simp at h)⟩

theorem xh{st:St}(hf:Qg st){F:Nat→Prop}(hP:YH st.h.get F cp L)(hFn: ∀c,F c→c<st.n)(hL:L.length≤100000){kl:AV}(hl:Je st.h.get [] 1 (zC l) kl)(hz:FE l)(hn:l.length≤100000): ∃v st',QR 269 [.ptr cp 0 0,kl] st v st'∧v=iZ (Si L l:Nat)∧YH st'.h.get (fun c=>F c∨(st.n≤c∧c<st'.n)) cp (E8 L l)∧YI F st st':=by
 have hP0:=hP;obtain⟨ks,cm,es,k,A,vs,hrow,hFp,hFm,hmap,hent,hS,hnd⟩:=hP;have hcm:cm<st.n:=hFn cm hFm;have hsz:=GX hz
 have hRw: ∀c m x,(c,m,x)∈(cp,0,[ks,.mp cm])::A→Qw st.h.get c m x:=by
  intro c m x h;rcases List.mem_cons.1 h with h|h
  ·injection h with h1 h;injection h with h2 h3;subst h1 h2 h3;exact hrow
  ·exact(hS.row c m x h).1
 have hNd:(((cp,0,[ks,.mp cm])::A).map Prod.fst).Nodup:=by
  rw[List.map_cons];refine List.nodup_cons.2 ⟨fun h=>?_,hS.acc.nodup⟩;obtain⟨⟨c,m,x⟩,h1,h2⟩:=List.mem_map.1 h;exact(hS.row c m x h1).2.2 h2
 refine Jq Tryz.func269 Tryz.ntmps269 fun T K=>?_;have M:=Mem.start hf;refine Qb 2 K M fun _ K=>?_;refine p1 K (U0 W0 rfl rfl) fun _ K=>?_;refine Qb 2 K M fun _ K=>?_;obtain⟨v10,st10,ev10,ks10,rfl,nr10,q10⟩:=Nw M.fresh (Je.mem M hl Qx) Qe;refine p1 K (Qf rfl ev10) fun _ K=>?_;obtain⟨A10,hA10,M⟩:=M.Y7 q10 nr10;refine Qb 2 K M fun _ K=>?_;obtain⟨v12,st12,A12,ev12,rfl,M7,hA12⟩:=N0 (L:=[]) (B:=[]) M hA10 Qe;refine p1 K (Qf rfl ev12) fun _ K=>?_;replace M:=M7;refine Qb 1 K M fun _ K=>?_;obtain⟨v14,st14,A14,ev14,hA14,M9⟩:=NV (L:=[]) (B:=[]) M hA12 (by rw[JM];omega);rw[Ix]at hA14;refine p1 K (Qf rfl ev14) fun _ K=>?_;replace M:=M9;refine Qb 1 K M fun _ K=>?_;refine QQ (l:=[(4,0),(5,0),(0,0),(1,0),(2,0),(3,1),(6,0),(7,0),(8,0),(9,0),(10,0),(11,0)]) (by kernel_rfl) ?_;have Mq:=M;refine q1 rfl K (QA rfl) fun _ K=>?_;obtain⟨v21,st21,ev21,rfl,q21⟩:=Rb (L:=[]) (B:=[]) M hA14 hsz (by rw[←Ix];exact Nat.le_trans (Yl _) (by rw[JM];omega));refine qA rfl K (Qf rfl ev21) fun _ K=>?_;replace M:=M.quiet q21;have Mp:=Mq;have Mq:=M;refine Yd 2 K M fun _ K=>?_;refine q1 rfl K (Uo WO rfl) fun _ K=>?_;refine JC rfl K rfl (Qp (M.QY Qx hrow.QF) (Qc Y1 rfl)) (Qp (Mp.QY Qx hrow.QF) (Qc Y1 rfl)) (Ua rfl) rfl Q8 fun _ K=>?_;refine qA rfl K (D2 rfl rfl ((M.J0 cm hcm Qx).trans hmap) hent) fun _ K=>?_;refine Yd 5 K M fun _ K=>?_;refine Jf ?_;show W _ _ _ _ _ _ _;refine Qb 2 K M fun _ K=>?_;refine YU K rfl (fun h26=>?_) fun h26=>?_
 ·have hb26:=h26
  replace h26:((ZV 0 L (JN l)).isSome)=false:=by simpa using h26
  refine Z7 ?_
  have hnf:ZV 0 L (JN l)=none:=by
   cases hq:ZV 0 L (JN l)with
   |none=>rfl
   |some i=>rw[hq]at h26;cases h26
  have Q1:=M.qt;have hmap1:=((M.J0 cm hcm Qx).trans hmap);have hcm1:=Nat.lt_of_lt_of_le hcm Q1.le;have M:=Mem.jH hf M ((cp,0,[ks,.mp cm])::A) hRw hNd;replace M:=Mem.cast (M':=((cp,0,[ks,(.mp cm)])::(A++(A14++[])))) M (by first|rfl|simp);have hcX:=Mem.PS M hmap1
  have hcX:cm∉List.map Prod.fst (((cp,0,[ks,.mp cm])::A)++(A14++[])):=by simpa using hcX
  refine Qb 2 K M fun _ K=>?_;refine p1 K (Uo Yk rfl) fun _ K=>p1 K (Qh rfl (M.load (k:=0) rfl (Qc QP rfl))) fun _ K=>p1 K (Q4 UC rfl rfl hS.len) fun _ K=>?_;refine Qb 1 K M fun _ K=>?_;refine QQ (l:=[(4,0),(5,0),(0,0),(1,0),(2,0),(3,1),(6,0),(7,0)]) (by kernel_rfl) ?_;have Mq:=M;refine q1 rfl K (QA rfl) fun _ K=>?_;obtain⟨v37,st37,ev37,rfl,q37⟩:=Rb (L:=((cp,0,[ks,(.mp cm)])::(A++[]))) (B:=[]) (Mem.cast M Zg) hA14 hsz (by rw[←Ix];exact Nat.le_trans (Yl _) (by rw[JM];omega));refine qA rfl K (Qf rfl ev37) fun _ K=>?_;replace M:=M.quiet q37;have Mp:=Mq;have Mq:=M;refine Yd 2 K M fun _ K=>?_;refine q1 rfl K (Uo WO rfl) fun _ K=>?_;refine JC rfl K rfl (M.load (k:=0) rfl (Qc Y1 rfl)) (Mp.load (k:=0) rfl (Qc Y1 rfl)) (Ua rfl) rfl Q8 fun _ K=>?_;refine q1 rfl K (QA rfl) fun _ K=>?_;have hmap2:=(M.J0 cm hcm1 hcX).trans hmap1;have Q2:=M.Lm;refine jJ rfl K rfl rfl rfl hmap2 hent hnf ?_;obtain⟨M,Q3⟩:=Mem.mapped M hmap2 (JN l) ((L.length:Nat):Int);have Mp:=Mq;have Mq:=M;refine Jf ?_;show W _ _ _ _ _ _ _;refine Qb 3 K M fun _ K=>?_;refine p1 K (Uo Yk rfl) fun _ K=>p1 K (Qh rfl (M.load (k:=0) rfl (Qc QP rfl))) fun _ K=>?_;refine Qb 1 K M fun _ K=>?_;refine Vn K M JB YT rfl ((Yr rfl hA14.cell rfl).trans rfl) (Qa hA14.cell Q9) rfl rfl fun c45 _ _ K M=>?_;have hle46:=M.le;refine Ej (k2:=0) (L:=[(c45,0,[v14]),(cp,0,[ks,(.mp cm)])]) (B:=(A14++[])) K M hS.acc JB rfl rfl rfl (by rw[hS.ln];omega) rfl fun ks46 A46 _ _ K hA46 hN46 M=>?_;simp only[Vk]at M;refine Qb 1 K M fun _ K=>?_;refine p1 K (Uo Yk rfl) fun _ K=>?_;refine J6 (k:=1) K M rfl rfl rfl Zr (hA46.cell) rfl fun _ M=>?_;refine Qb 2 K M ?_
  have e1:Si L l=L.length:=by rw[Si,hnf];rfl
  have e2:E8 L l=L++[JN l]:=by rw[E8,hnf];rfl
  rw[e1,e2];refine⟨rfl,?_⟩;have hap:=Mem.vd (Lr:=[(c45,0,[v14]),(cp,0,[ks46,(.mp cm)])]) (A':=A46) (A2:=A14) (B:=[]) M hA14;have hq3:=Q3.le;have hml:=M.le;have hq1:=Q1.le;have hq2:=Q2.le;refine YH.grow hFn hFp hFm hrow hmap hent hS hnd hnf (fun c h1 h2 h3 h4=>?_) (M.Uc (k:=1) rfl) ?_ hA46 (fun c m l h=>M.row c m l (by simp[h])) (fun c m l h=>?_) (Mem.yR (L:=((c45,0,[v14])::(cp,0,[ks46,(.mp cm)])::(A46++[]))) (B:=[]) (Mem.cast M Zg) hA14) hsz hA14.wk hap M.fresh Qe
  ·have hX:c∉List.map Prod.fst (((cp,0,[ks,.mp cm])::A)++(A14++[])):=by
    intro hc;obtain⟨⟨c',m',l'⟩,k1,k2⟩:=List.mem_map.1 hc;simp only at k2;subst k2;rcases List.mem_append.1 k1 with k1|k1
    ·rcases List.mem_cons.1 k1 with k1|k1
     ·injection k1 with k1;exact h2 k1
     ·exact h4 m' l' k1
    ·have:=hA14.ge (by simpa using k1);omega
   rw[M.J0 c Qe (by simpa using hX),Q3.J0 c Qe h3,Q2.J0 c Qe (by simpa using hX)];exact Q1.J0 c h1
  ·rw[M.J0 cm Qe (by simpa using hcX)];exact D9 _ _ _ _ _ _
  ·rcases hN46 c m l h with h|h
   ·exact .inl h
   ·exact .inr Qe
 have hb26:=h26
 replace h26:((ZV 0 L (JN l)).isSome)=true:=by simpa using h26
 refine Qb 2 K M ?_
 obtain⟨i,hq⟩: ∃i,ZV 0 L (JN l)=some i:=by
  cases hq:ZV 0 L (JN l)with
  |none=>rw[hq]at h26;cases h26
  |some i=>exact⟨i,rfl⟩
 have e1:Si L l=(ZV 0 L (JN l)).getD 0:=by rw[Si,hq];rfl
 have e2:E8 L l=L:=by rw[E8,hq];rfl
 rw[e1,e2];refine⟨rfl,?_,M.qt.U7 F⟩;have hP1:=hP0.frame fun c hc=>M.J0 c (hFn c hc) Qx;obtain⟨ks,cm,es,k,A,vs,k1,k2,k3,k4,k5,k6,k7⟩:=hP1;exact⟨ks,cm,es,k,A,vs,k1,.inl k2,.inl k3,k4,k5,k6.more fun c h=>.inl h,k7⟩
end
section

def wE(h:Hp)(s:List Int)(cs:List AV):Prop:= ∃v,cs=[v]∧Je h [] 1 (zC s) v∧FE s
def Tz(h:Hp)(l:List (List Int))(kk:AV)(ls:List (List AV)):Prop:=ZQ h 1 (wE h) l kk ls
theorem Tz.len{h:Hp}{l:List (List Int)}{kk:AV}{ls:List (List AV)}(H:Tz h l kk ls):JU kk=some l.length:=by rw[←ZQ.ln H];exact(ZQ.r H).len
theorem Je.J0{st:St}(hf:Qg st){h':Hp}{z:Nat}{ls:List (List AV)}{v:AV}(r:Je st.h.get [] z ls v)(hO: ∀c,c<st.n→h' c=st.h.get c):Je h' [] z ls v:=
 r.frame fun c m o n y e=>by
  obtain⟨_,cells,h2,_⟩:=r.alive c m o n y e;exact hO c (h2.lt hf)
theorem Tz.J0{st:St}(hf:Qg st){h':Hp}{l:List (List Int)}{kk:AV}{ls:List (List AV)}(H:Tz st.h.get l kk ls)(hO: ∀c,c<st.n→h' c=st.h.get c):Tz h' l kk ls:=
 ⟨(ZQ.r H).J0 hf hO,ZQ.ln H,fun i k hi=>by
  obtain⟨cs,h1,v,h2,h3,h4⟩:=ZQ.at_ H i k hi
  exact⟨cs,h1,v,h2,h3.J0 hf hO,h4⟩⟩
theorem uP(L:List (List Int))(l:List Int):(E8 L l).length≤L.length+1:=by
 rw[E8];split
 ·omega
 ·simp
end
end Go.Proofs.YtildagdnomiahaaGreatDoor
