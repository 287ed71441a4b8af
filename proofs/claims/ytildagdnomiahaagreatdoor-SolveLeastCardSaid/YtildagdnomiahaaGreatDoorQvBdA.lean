/-
  Rows of numbers: a copy, are two the same, sorted.
-/
import Derived.Test.YtildagdnomiahaaGreatDoorQvAu
import Derived.Test.YtildagdnomiahaaGreatDoorQvBits
set_option maxHeartbeats 8000000
set_option maxRecDepth 100000
set_option linter.unnecessarySimpa false
set_option linter.unusedSimpArgs false
set_option linter.unusedVariables false
namespace Go.Proofs.YtildagdnomiahaaGreatDoor
open Go Go.RowKit
section

theorem OA{st:St}(hf:Qh st){l:List Int}{kl:AV}(hl:Jg st.h.get [] 1 (zC l) kl)(hn:l.length≤1000000000): ∃v st',QV 270 [kl] st v st'∧ ∃ks,v=ks∧HB st st' 1 ks (zC l)∧Qt st st':=by
 have hcl:=Qy l;refine Jv Tryz.func270 Tryz.ntmps270 fun T K=>?_;have M:=Mem.start hf;refine Qb 2 K M fun _ K=>?_;refine p1 K (ON (hl.len.trans (congrArg some (Qy _))) Jm rfl rfl) fun _ K=>?_;refine Qb 0 K M fun _ K=>?_;refine UJ K rfl (fun h4=>?_) fun h4=>?_
 ·have hb4:=h4;refine Qb 1 K M ?_
  have hbl:l=[]:=by
   have h:=hl.len;rw[SB h4]at h
   injection h with h
   rw[Qy]at h;exact Y1 h.symm
  exact⟨.nils,rfl,⟨[],by rw[hbl];exact .none,fun _ _ _ h=>by cases h⟩,M.qt⟩
 have hb4:=h4;refine au 2 K M ?_;intro c5 _ _ K _ M;replace M:=Mem.cast (M':=([(c5,0,[])]++[])) (Mem.perm M (List.perm_append_comm (l₁:=[(c5,0,[])]) (l₂:=[]))) Za;have hA0c5:Acc st.n 1 [(c5,0,[])] (.sl c5 0 0 0 1) []:=Acc.own (n0:=st.n) (z:=1) (c:=c5) (m:=0) (ls:=[]) ((M.own c5 0 [] Qx).resolve_right Qx) Qx Qx;refine Sh (L:=[]) (A:=[(c5,0,[])]) (B:=[]) K M hA0c5 QR rfl rfl (Jg.mem M hl Qx) (G7 _) (by simp only[List.length_nil];omega) rfl fun ks7 A7 _ _ K hA7 M=>?_;refine Qb 1 K M ?_;refine⟨_,rfl,?_,M.qt⟩;have h:=Mem.xW (L:=[]) (B:=[]) M hA7
 simpa using h

end
section
variable {L:List (List Int)} {cp:Nat} {l s:List Int}

def yb(L:List (List Int))(i:Int):List Int:=if 0≤i then(L[i.toNat]?).getD []else []
theorem SU{i:Int}(h0:0≤i)(h:L[i.toNat]? =some s):yb L i=s:=by rw[yb,if_pos h0,h];rfl
theorem D8{i:Int}(h:i<0∨(L.length:Int)≤i):yb L i=[]:=by
 rw[yb]
 by_cases h0:0≤i
 ·rw[if_pos h0,List.getElem?_eq_none Qd];rfl
 ·rw[if_neg h0]
theorem Mem.SA{h0:Hp}{n0:Nat}{X:List Nat}{st:St}{M:Uc}(hM:Mem h0 n0 X st M){cm k:Nat}{es:List (AV×AV×Nat)}(hm:st.h.get cm=some (.map es k)):cm∉M.map Prod.fst:=by
 intro hc;obtain⟨⟨c,m,l⟩,h1,h2⟩:=List.mem_map.1 hc;exact Qu.SA (hM.row c m l h1) hm h2
theorem Mem.fy{h0:Hp}{n0 n1:Nat}{X:List Nat}{st:St}{Lr A' A2 B:Uc}(hM:Mem h0 n0 X st (Lr++(A'++(A2++B)))){v:AV}(hA2:ET n1 A2 v s): ∀c m o n y,v=.sl c m o n y→n1≤c∧c<st.n∧ ∀m' l',(c,m',l')∉A':=by
 intro c m o n y e
 cases hA2 with
 |none=>cases e
 |own hc hb=>
  rename_i c2 m2 rest
  injection e with e1
  subst e1;refine⟨hc,hM.lt c2 m2 (s.map FG++rest) Qx,fun m' l' hm=>?_⟩;have hn:=hM.nodup;rw[List.map_append,List.map_append,List.map_append]at hn;have h2:=(List.nodup_append.1 hn).2.1;exact(List.nodup_append.1 h2).2.2 c2 (List.mem_map.2 ⟨_,hm,rfl⟩) c2 Qx rfl
theorem Zk.grow{st st4:St}{F:Nat→Prop}{cm k:Nat}{ks ks' v:AV}{es:List (AV×AV×Nat)}{A A':Uc}{vs:List AV}
  (hFn: ∀c,F c→c<st.n) (hFp:F cp) (hFm:F cm) (hrow:Qu st.h.get cp 0 [ks,.mp cm]) (hmap:st.h.get cm=some (.map es k)) (hent:es.map eD=Wp 0 L) (hS:Zj st.h.get F cp A ks vs L) (hnd:L.Nodup) (hnf:Xz 0 L s=none)
  (hx: ∀c,c<st.n→c≠cp→c≠cm→(∀m l,(c,m,l)∉A)→st4.h.get c=st.h.get c) (hrow4:Qu st4.h.get cp 0 [ks',.mp cm]) (hm4:st4.h.get cm=some (.map (es++[(.str (Y7 s),.int .i64 (L.length:Nat),k)]) (k+1)))
  (hA4:Zl A' ks' (vs++[v])) (hAr: ∀c m l,(c,m,l)∈A'→Qu st4.h.get c m l) (hAn: ∀c m l,(c,m,l)∈A'→(∃m l,(c,m,l)∈A)∨st.n≤c) (hv:Jg st4.h.get [] 1 (zC s) v) (hvz:HC s) (hvn:v=.nils∨ ∃c m o n,v=.sl c m o n 1)
  (hvc: ∀c m o n y,v=.sl c m o n y→st.n≤c∧c<st4.n∧ ∀m' l',(c,m',l')∉A') (hf4:Qh st4) (hle:st.n≤st4.n):Zk st4.h.get (fun c=>F c∨(st.n≤c∧c<st4.n)) cp (L++[s])∧YA F st st4:=by
 have hcpn:=hFn cp hFp;refine⟨⟨ks',cm,_,_,A',vs++[v],hrow4,.inl hFp,.inl hFm,hm4,?_,?_,?_⟩,hf4,hle,fun c hc hF=>?_⟩
 ·rw[List.map_append,hent,Np,Nat.zero_add];rfl
 ·refine hS.snoc hA4 (fun c m l hm=>?_) (fun c h=>.inl h) (fun c h1 h2 h3 ro ms h4=>?_) hv hvz hvn (fun c m o n y e=>?_)
  ·have hr:=hAr c m l hm;rcases hAn c m l hm with⟨m2,l2,h⟩|h
   ·obtain⟨_,k2,k3⟩:=hS.row c m2 l2 h;exact⟨hr,.inl k2,k3,.inl ⟨m2,l2,h⟩⟩
   ·exact⟨hr,.inr ⟨h,hr.lt hf4⟩,by omega,.inr fun hF=>by have:=hFn c hF;omega⟩
  ·refine hx c (hFn c h1) h2 ?_ h3
   rintro rfl
   rw[h4]at hmap;cases hmap
  ·obtain⟨k1,k2,k3⟩:=hvc c m o n y e;exact⟨.inr ⟨k1,k2⟩,by omega,k3⟩
 ·refine List.nodup_append.2 ⟨hnd,by simp,fun a ha b hb e=>?_⟩;rw[List.mem_singleton]at hb;subst hb e;exact Ig hnf ha
 ·refine hx c hc (fun e=>hF (e▸hFp)) (fun e=>hF (e▸hFm)) fun m l hm=>hF (hS.row c m l hm).2.1
theorem ET.ge{n0:Nat}{A:Uc}{ks:AV}(h:ET n0 A ks l){c m:Nat}{x:List AV}(hm:(c,m,x)∈A):n0≤c:=by
 cases h with
 |none=>cases hm
 |own hc hb=>simp at hm;omega
theorem CB(h:HC l):HC (JS l):=fun z hz=>h z ((Vx l z).1 hz)
section
variable {P:Program} {G:Env} {N:Nat} {st:St} {T:Tr AV} {ops rest:List Oper} {K:List (Nat×AV)} {R:Tr AV→St→Prop} {d:Nat} {ty t:TypeId} {pos:String} {af:Array Edge}
noncomputable def WK(st:St):St:=⟨st.n+1,st.h.set st.n (.map [] 0)⟩
theorem Hd(hf:Qh st):Qh (WK st):=fun c hle=>by
 have hle:st.n+1≤c:=hle;show(st.h.set st.n _).get c=none;rw[Jc,Yu _ _ Qd];exact hf c Qd
theorem Mk(hf:Qh st):Qt st (WK st):=⟨Hd hf,Nat.le_succ _,fun c hc=>by
 show(st.h.set st.n _).get c=_
 rw[Jc,Yu _ _ Qd]⟩
theorem P5(hK:QH K T)(hN:Nat.ble (d+1) N=true)(hn: ∀T',QH ((d,.mp st.n)::K) T'→WR P G N ops rest R T' (WK st)):WR P G N ops (⟨some d,.makeMap t none,ty,pos,af,none⟩::rest) R T st:=
 WW (v:=.mp st.n) (st1:=WK st) hK (.of fun T hT c d ty pos af g=>by
  show Wj st=_;unfold Wj
  rw[Wf];rfl) (Nat.le_of_ble_eq_true hN) hn
end

theorem KL{st:St}(hf:Qh st){F:Nat→Prop}(hP:Zk st.h.get F cp L): ∃v st',QV 249 [.ptr cp 0 0] st v st'∧v=iZ (L.length:Nat)∧Qt st st':=by
 obtain⟨ks,cm,es,k,A,vs,hrow,hFp,hFm,hmap,hent,hS,hnd⟩:=hP;refine Jv Tryz.func249 Tryz.ntmps249 fun T K=>?_;have M:=Mem.start hf;refine Qb 2 K M fun _ K=>?_;refine p1 K (UA Ep rfl rfl) fun _ K=>?_;refine Qb 3 K M fun _ K=>?_;refine p1 K (Uz Y2 rfl) fun _ K=>p1 K (Qi rfl (Qr (M.Jf Qx hrow.QI) (Qc QW rfl))) fun _ K=>p1 K (Q0 UO rfl rfl hS.len) fun _ K=>?_;refine Qb 1 K M ?_;exact⟨rfl,M.qt⟩

theorem vw{st:St}(hf:Qh st){F:Nat→Prop}(hP:Zk st.h.get F cp L)(hbd: ∀s∈L,s.length≤100000)(hFn: ∀c,F c→c<st.n)(id:Int): ∃v st',QV 250 [.ptr cp 0 0,iZ id] st v st'∧ ∃ks,v=ks∧HB st st' 1 ks (zC (yb L id))∧Qt st st':=by
 have hP0:=hP;obtain⟨ks,cm,es,k,A,vs,hrow,hFp,hFm,hmap,hent,hS,hnd⟩:=hP;refine Jv Tryz.func250 Tryz.ntmps250 fun T K=>?_;have M:=Mem.start hf;refine Qb 3 K M fun _ K=>?_;refine U5 K rfl (fun _ e7 K=>?_) fun _ e7 K=>?_
 ·refine Qb 2 K M fun _ K=>?_;obtain⟨v10,st10,ev10,rfl,q10⟩:=KL (L:=L) M.fresh (hP0.frame fun c hc=>M.J5 c (hFn c hc) Qx);refine pg K rfl rfl (Qf rfl ev10) fun _ K=>?_;replace M:=M.quiet q10;refine Qb 2 K M fun _ K=>?_;refine U8 K rfl (fun h12=>?_) fun h12=>?_
  ·refine Qb 1 K M ?_;refine⟨.nils,rfl,⟨[],?_,fun _ _ _ h=>by cases h⟩,M.qt⟩;rw[D8 Qd];exact .none
  refine Qb 2 K M fun _ K=>?_;refine p1 K (Uz Y2 rfl) fun _ K=>p1 K (Qi rfl (Qr (M.Jf Qx hrow.QI) (Qc QW rfl))) fun _ K=>?_;refine Qb 1 K M fun _ K=>?_;obtain⟨s18,hi18⟩:=YL L (id.toNat) Qd;obtain⟨u18,hc18,hr18,hz18,hq18,hf18⟩:=hS.inn _ _ hi18;obtain⟨x18,m18,f18,q18,_,la18,lo18,lp18⟩:=(Jg.mem M hS.rd Qx).load (i:=id.toNat) (cs:=[u18]) (by rw[List.getElem?_map,hc18];rfl);refine p1 K (Qn (j:=id.toNat) QK (congrArg some q18) (congrArg (fun z=>some (iZ z)) (by omega:_=((id.toNat:Nat):Int))) (by rw[List.length_map,hS.ln];omega)) fun _ K=>p1 K (Qi rfl (lo18 _ 0 _ Jn rfl)) fun _ K=>?_;obtain⟨v20,st20,ev20,kn,rfl,nr20,q20⟩:=OA M.fresh (Jg.mem M hr18 Qx) (Nat.le_trans (hbd _ (List.mem_of_getElem? hi18)) Q9);refine p1 K (Qf rfl ev20) fun _ K=>?_;obtain⟨A20,hA20,M⟩:=M.Yq q20 nr20;refine Qb 1 K M ?_;refine⟨_,rfl,?_,M.qt⟩;rw[SU Qd hi18];have h:=Mem.xW (L:=[]) (B:=[]) M hA20
  simpa using h
 refine Qb 7 K M ?_;refine⟨.nils,rfl,⟨[],?_,fun _ _ _ h=>by cases h⟩,M.qt⟩;rw[D8 Qd];exact .none

theorem xX{st:St}(hf:Qh st): ∃v st',QV 247 [] st v st'∧ ∃cp,v=.ptr cp 0 0∧Zk st'.h.get (fun c=>st.n≤c∧c<st'.n) cp []∧Qt st st':=by
 refine Jv Tryz.func247 Tryz.ntmps247 fun T K=>?_;have M:=Mem.start hf;refine Qb 1 K M fun _ K=>?_;refine P5 K rfl fun _ K=>?_;have MQ:=M;have M:=Mem.start (Hd hf);refine p1 K (XW GK rfl rfl) fun _ K=>?_;refine au 2 K M ?_;intro c3 _ _ K _ M;refine Qb 0 K M ?_;replace M:Mem (WK st).h.get (WK st).n [] _ [(c3,0,[.nils,.mp st.n])]:=M;refine⟨_,rfl,⟨.nils,st.n,[],0,[],[],M.Ud (k:=0) rfl,?_,?_,?_,rfl,?_,List.Pairwise.nil⟩,(Mk hf).trans M.qt⟩
 ·have h1:=M.own c3 0 [.nils,.mp st.n] Qx;have h2:=M.lt c3 0 [.nils,.mp st.n] Qx;have h3:(WK st).n=st.n+1:=rfl;simp at h1;exact⟨by omega,h2⟩
 ·exact⟨Nat.le_refl _,Nat.lt_of_lt_of_le (Nat.lt_succ_self _) M.le⟩
 ·rw[M.J5 st.n (Nat.lt_succ_self _) Qx];show(st.h.set st.n _).get st.n=_;rw[Jc];exact Jy _ _ _
 ·exact⟨.none,(fun c m l h=>by cases h),rfl,(fun i s h=>by simp at h)⟩

theorem aa{st:St}(hf:Qh st){F:Nat→Prop}(hP:Zk st.h.get F cp L)(hFn: ∀c,F c→c<st.n)(hL:L.length≤100000){kl:AV}(hl:Jg st.h.get [] 1 (zC l) kl)(hz:HC l)(hn:l.length≤100000): ∃v st',QV 269 [.ptr cp 0 0,kl] st v st'∧v=iZ (Mg L l:Nat)∧Zk st'.h.get (fun c=>F c∨(st.n≤c∧c<st'.n)) cp (AE L l)∧YA F st st':=by
 have hP0:=hP;obtain⟨ks,cm,es,k,A,vs,hrow,hFp,hFm,hmap,hent,hS,hnd⟩:=hP;have hcm:cm<st.n:=hFn cm hFm;have hsz:=CB hz
 have hRw: ∀c m x,(c,m,x)∈(cp,0,[ks,.mp cm])::A→Qu st.h.get c m x:=by
  intro c m x h;rcases List.mem_cons.1 h with h|h
  ·injection h with h1 h;injection h with h2 h3;subst h1 h2 h3;exact hrow
  ·exact(hS.row c m x h).1
 have hNd:(((cp,0,[ks,.mp cm])::A).map Prod.fst).Nodup:=by
  rw[List.map_cons];refine List.nodup_cons.2 ⟨fun h=>?_,hS.acc.nodup⟩;obtain⟨⟨c,m,x⟩,h1,h2⟩:=List.mem_map.1 h;exact(hS.row c m x h1).2.2 h2
 refine Jv Tryz.func269 Tryz.ntmps269 fun T K=>?_;have M:=Mem.start hf;refine Qb 2 K M fun _ K=>?_;refine p1 K (UA Ep rfl rfl) fun _ K=>?_;refine Qb 2 K M fun _ K=>?_;obtain⟨v10,st10,ev10,ks10,rfl,nr10,q10⟩:=OA M.fresh (Jg.mem M hl Qx) Qd;refine p1 K (Qf rfl ev10) fun _ K=>?_;obtain⟨A10,hA10,M⟩:=M.Yq q10 nr10;refine Qb 2 K M fun _ K=>?_;obtain⟨v12,st12,A12,ev12,rfl,M7,hA12⟩:=OI (L:=[]) (B:=[]) M hA10 Qd;refine p1 K (Qf rfl ev12) fun _ K=>?_;replace M:=M7;refine Qb 1 K M fun _ K=>?_;obtain⟨v14,st14,A14,ev14,hA14,M9⟩:=Gn (L:=[]) (B:=[]) M hA12 (by rw[JR];omega);rw[Kz]at hA14;refine p1 K (Qf rfl ev14) fun _ K=>?_;replace M:=M9;refine Qb 1 K M fun _ K=>?_;refine QT (l:=[(4,0),(5,0),(0,0),(1,0),(2,0),(3,1),(6,0),(7,0),(8,0),(9,0),(10,0),(11,0)]) (by kernel_rfl) ?_;have Mq:=M;refine q1 rfl K (Q8 rfl) fun _ K=>?_;obtain⟨v21,st21,ev21,rfl,q21⟩:=SM (L:=[]) (B:=[]) M hA14 hsz (by rw[←Kz];exact Nat.le_trans (Y3 _) (by rw[JR];omega));refine qA rfl K (Qf rfl ev21) fun _ K=>?_;replace M:=M.quiet q21;have Mp:=Mq;have Mq:=M;refine UT 2 K M fun _ K=>?_;refine q1 rfl K (Uz EC rfl) fun _ K=>?_;refine JE rfl K rfl (Qr (M.Jf Qx hrow.QI) (Qc YR rfl)) (Qr (Mp.Jf Qx hrow.QI) (Qc YR rfl)) (Ul rfl) rfl Q9 fun _ K=>?_;refine qA rfl K (Rc rfl rfl ((M.J5 cm hcm Qx).trans hmap) hent) fun _ K=>?_;refine UT 5 K M fun _ K=>?_;refine Jd ?_;show W _ _ _ _ _ _ _;refine Qb 2 K M fun _ K=>?_;refine UJ K rfl (fun h26=>?_) fun h26=>?_
 ·have hb26:=h26
  replace h26:((Xz 0 L (JS l)).isSome)=false:=by simpa using h26
  refine Xc ?_
  have hnf:Xz 0 L (JS l)=none:=by
   cases hq:Xz 0 L (JS l)with
   |none=>rfl
   |some i=>rw[hq]at h26;cases h26
  have Q1:=M.qt;have hmap1:=((M.J5 cm hcm Qx).trans hmap);have hcm1:=Nat.lt_of_lt_of_le hcm Q1.le;have M:=Mem.zG hf M ((cp,0,[ks,.mp cm])::A) hRw hNd;replace M:=Mem.cast (M':=((cp,0,[ks,(.mp cm)])::(A++(A14++[])))) M (by first|rfl|simp);have hcX:=Mem.SA M hmap1
  have hcX:cm∉List.map Prod.fst (((cp,0,[ks,.mp cm])::A)++(A14++[])):=by simpa using hcX
  refine Qb 2 K M fun _ K=>?_;refine p1 K (Uz Y2 rfl) fun _ K=>p1 K (Qi rfl (M.load (k:=0) rfl (Qc QW rfl))) fun _ K=>p1 K (Q0 UO rfl rfl hS.len) fun _ K=>?_;refine Qb 1 K M fun _ K=>?_;refine QT (l:=[(4,0),(5,0),(0,0),(1,0),(2,0),(3,1),(6,0),(7,0)]) (by kernel_rfl) ?_;have Mq:=M;refine q1 rfl K (Q8 rfl) fun _ K=>?_;obtain⟨v37,st37,ev37,rfl,q37⟩:=SM (L:=((cp,0,[ks,(.mp cm)])::(A++[]))) (B:=[]) (Mem.cast M Za) hA14 hsz (by rw[←Kz];exact Nat.le_trans (Y3 _) (by rw[JR];omega));refine qA rfl K (Qf rfl ev37) fun _ K=>?_;replace M:=M.quiet q37;have Mp:=Mq;have Mq:=M;refine UT 2 K M fun _ K=>?_;refine q1 rfl K (Uz EC rfl) fun _ K=>?_;refine JE rfl K rfl (M.load (k:=0) rfl (Qc YR rfl)) (Mp.load (k:=0) rfl (Qc YR rfl)) (Ul rfl) rfl Q9 fun _ K=>?_;refine q1 rfl K (Q8 rfl) fun _ K=>?_;have hmap2:=(M.J5 cm hcm1 hcX).trans hmap1;have Q2:=M.KR;refine zI rfl K rfl rfl rfl hmap2 hent hnf ?_;obtain⟨M,Q3⟩:=Mem.mapped M hmap2 (JS l) ((L.length:Nat):Int);have Mp:=Mq;have Mq:=M;refine Jd ?_;show W _ _ _ _ _ _ _;refine Qb 3 K M fun _ K=>?_;refine p1 K (Uz Y2 rfl) fun _ K=>p1 K (Qi rfl (M.load (k:=0) rfl (Qc QW rfl))) fun _ K=>?_;refine Qb 1 K M fun _ K=>?_;refine VO K M J3 Yt rfl ((Uw rfl hA14.cell rfl).trans rfl) (Qa hA14.cell QL) rfl rfl fun c45 _ _ K M=>?_;have hle46:=M.le;refine EZ (k2:=0) (L:=[(c45,0,[v14]),(cp,0,[ks,(.mp cm)])]) (B:=(A14++[])) K M hS.acc J3 rfl rfl rfl (by rw[hS.ln];omega) rfl fun ks46 A46 _ _ K hA46 hN46 M=>?_;simp only[W4]at M;refine Qb 1 K M fun _ K=>?_;refine p1 K (Uz Y2 rfl) fun _ K=>?_;refine Jk (k:=1) K M rfl rfl rfl ZM (hA46.cell) rfl fun _ M=>?_;refine Qb 2 K M ?_
  have e1:Mg L l=L.length:=by rw[Mg,hnf];rfl
  have e2:AE L l=L++[JS l]:=by rw[AE,hnf];rfl
  rw[e1,e2];refine⟨rfl,?_⟩;have hap:=Mem.fy (Lr:=[(c45,0,[v14]),(cp,0,[ks46,(.mp cm)])]) (A':=A46) (A2:=A14) (B:=[]) M hA14;have hq3:=Q3.le;have hml:=M.le;have hq1:=Q1.le;have hq2:=Q2.le;refine Zk.grow hFn hFp hFm hrow hmap hent hS hnd hnf (fun c h1 h2 h3 h4=>?_) (M.Ud (k:=1) rfl) ?_ hA46 (fun c m l h=>M.row c m l (by simp[h])) (fun c m l h=>?_) (Mem.wc (L:=((c45,0,[v14])::(cp,0,[ks46,(.mp cm)])::(A46++[]))) (B:=[]) (Mem.cast M Za) hA14) hsz hA14.iQ hap M.fresh Qd
  ·have hX:c∉List.map Prod.fst (((cp,0,[ks,.mp cm])::A)++(A14++[])):=by
    intro hc;obtain⟨⟨c',m',l'⟩,k1,k2⟩:=List.mem_map.1 hc;simp only at k2;subst k2;rcases List.mem_append.1 k1 with k1|k1
    ·rcases List.mem_cons.1 k1 with k1|k1
     ·injection k1 with k1;exact h2 k1
     ·exact h4 m' l' k1
    ·have:=hA14.ge (by simpa using k1);omega
   rw[M.J5 c Qd (by simpa using hX),Q3.J5 c Qd h3,Q2.J5 c Qd (by simpa using hX)];exact Q1.J5 c h1
  ·rw[M.J5 cm Qd (by simpa using hcX)];exact Rj _ _ _ _ _ _
  ·rcases hN46 c m l h with h|h
   ·exact .inl h
   ·exact .inr Qd
 have hb26:=h26
 replace h26:((Xz 0 L (JS l)).isSome)=true:=by simpa using h26
 refine Qb 2 K M ?_
 obtain⟨i,hq⟩: ∃i,Xz 0 L (JS l)=some i:=by
  cases hq:Xz 0 L (JS l)with
  |none=>rw[hq]at h26;cases h26
  |some i=>exact⟨i,rfl⟩
 have e1:Mg L l=(Xz 0 L (JS l)).getD 0:=by rw[Mg,hq];rfl
 have e2:AE L l=L:=by rw[AE,hq];rfl
 rw[e1,e2];refine⟨rfl,?_,M.qt.U7 F⟩;have hP1:=hP0.frame fun c hc=>M.J5 c (hFn c hc) Qx;obtain⟨ks,cm,es,k,A,vs,k1,k2,k3,k4,k5,k6,k7⟩:=hP1;exact⟨ks,cm,es,k,A,vs,k1,.inl k2,.inl k3,k4,k5,k6.more fun c h=>.inl h,k7⟩
end
section

def kJ(h:Hp)(s:List Int)(cs:List AV):Prop:= ∃v,cs=[v]∧Jg h [] 1 (zC s) v∧HC s
def qp(h:Hp)(l:List (List Int))(kk:AV)(ls:List (List AV)):Prop:=AX h 1 (kJ h) l kk ls
theorem qp.len{h:Hp}{l:List (List Int)}{kk:AV}{ls:List (List AV)}(H:qp h l kk ls):J8 kk=some l.length:=by rw[←AX.ln H];exact(AX.r H).len
theorem Jg.J5{st:St}(hf:Qh st){h':Hp}{z:Nat}{ls:List (List AV)}{v:AV}(r:Jg st.h.get [] z ls v)(hO: ∀c,c<st.n→h' c=st.h.get c):Jg h' [] z ls v:=
 r.frame fun c m o n y e=>by
  obtain⟨_,cells,h2,_⟩:=r.alive c m o n y e;exact hO c (h2.lt hf)
theorem qp.J5{st:St}(hf:Qh st){h':Hp}{l:List (List Int)}{kk:AV}{ls:List (List AV)}(H:qp st.h.get l kk ls)(hO: ∀c,c<st.n→h' c=st.h.get c):qp h' l kk ls:=
 ⟨(AX.r H).J5 hf hO,AX.ln H,fun i k hi=>by
  obtain⟨cs,h1,v,h2,h3,h4⟩:=AX.at_ H i k hi
  exact⟨cs,h1,v,h2,h3.J5 hf hO,h4⟩⟩
theorem xR(L:List (List Int))(l:List Int):(AE L l).length≤L.length+1:=by
 rw[AE];split
 ·omega
 ·simp
end
section
variable {F:Fp} {S:Uf} {Tn c i sp:Nat} {st:St}

structure YO(st:St)(F:Fp)(sp T:Nat)(S:Uf):Prop where
 at_:EU st.h.get F sp T S
 hi: ∀c,F c→c<st.n
theorem YO.q{st st':St}{F:Fp}{sp T:Nat}{S:Uf}(hS:YO st F sp T S)(q:Qt st st'):YO st' F sp T S:=⟨hS.at_.frame fun c hc=>q.J5 c (hS.hi c hc),fun c hc=>Nat.lt_of_lt_of_le (hS.hi c hc) q.le⟩
theorem Ql.ID{st0:St}{X0:Fp}{M:QP}{Os:List Ob}{T:Nat}(B:Ql st0 X0 st M Os){k:Nat}(hk:Os[k]? =some (Xi F sp T S)):YO st F sp T S:=⟨B.at_ hk,B.VM hk⟩
def Pj:Bn→Int
 |.leaf _=>0
 |.fork t _ _=>((t:Nat):Int)
def lP:Bn→Nat
 |.leaf _=>0
 |.fork _ l _=>l
def lQ:Bn→Nat
 |.leaf _=>0
 |.fork _ _ h=>h
def HA:Bn→Bool
 |.leaf _=>false
 |.fork _ _ _=>true
theorem uo{T:Nat}{n:Bn}(h:S[i]? =some n):lvl T S i=if HA n then(Pj n).toNat else T:=by
 unfold lvl;rw[h];cases n<;>simp[HA,Pj]
theorem RU(n:Bn):IX Tryz.prog (Eh n) 356 true=some (.tup [.agg [.int .i64 (Pj n),.int .i64 (lP n:Nat),.int .i64 (lQ n:Nat)],.bool (HA n)]):=by
 cases n with
 |leaf v=>exact zn _
 |fork t l h=>exact zo _
def nk(F:Fp)(sp Tn:Nat)(S:Uf)(c j:Nat):Prop:= ∀(st:St) (n:Bn),Qh st→YO st F sp Tn S→S[j]? =some n→
 ∃t u fid v st',Eh n=.ifc t u∧Vw Tryz.prog t "sibyl/bdd.at" =some fid∧QV fid [u,.ptr sp 0 0,.int .i64 (c:Nat)] st v st'∧v=.int .i64 (US S j c)∧Qt st st'
def AF{α:Type}(p:α→Bool):List α→Nat→Int
 |[],_=> -1
 |k::l,i=>if p k then(i:Int)else AF p l (i+1)
theorem Aq{α:Type}{p:α→Bool}{l:List α}{k:α}(h:l[i]? =some k):AF p (l.drop i) i=if p k then(i:Int)else AF p (l.drop (i+1)) (i+1):=by
 obtain⟨h1,h2⟩:=List.getElem?_eq_some_iff.1 h;rw[List.drop_eq_getElem_cons h1,AF,h2]
theorem D3{α:Type}{p:α→Bool}{l:List α}(h:l.length≤i):AF p (l.drop i) i= -1:=by rw[List.drop_eq_nil_of_le h];rfl
theorem D4{α:Type}(p:α→Bool): ∀(l:List α) (i:Nat),decide (0≤AF p l i)=l.any p:=by
 intro l
 induction l with
 |nil=>intro i;rfl
 |cons k l ih=>
  intro i;rw[AF,List.any_cons]
  cases hp:p k with
  |true=>rw[if_pos rfl];simp
  |false=>rw[if_neg Q9,ih];rfl

theorem WT(hf:Qh st)(hS:YO st F sp Tn S): ∃v st',QV 165 [.ptr sp 0 0] st v st'∧v=iN Tn∧Qt st st':=by
 obtain⟨ks,cm,hrow,hrd,hlen,hbn⟩:=hS.at_.rd;refine Jv Tryz.func165 Tryz.ntmps165 fun T K=>?_;have M:=Mem.start hf;refine Qb 2 K M fun _ K=>?_;refine p1 K (UA Zy rfl rfl) fun _ K=>?_;refine Qb 4 K M fun _ K=>?_;refine p1 K (Qi rfl (Qr (M.Jf Qx hrow.QI) (Qc Qs rfl))) fun _ K=>?_;refine Qb 1 K M ?_;exact⟨rfl,M.qt⟩

theorem Tv(hf:Qh st)(hS:YO st F sp Tn S): ∃v st',QV 293 [.ptr sp 0 0] st v st'∧v=iZ (S.length:Nat)∧Qt st st':=by
 obtain⟨ks,cm,hrow,hrd,hlen,hbn⟩:=hS.at_.rd;refine Jv Tryz.func293 Tryz.ntmps293 fun T K=>?_;have M:=Mem.start hf;refine Qb 2 K M fun _ K=>?_;refine p1 K (UA Zy rfl rfl) fun _ K=>?_;refine Qb 4 K M fun _ K=>?_;refine p1 K (Qi rfl (Qr (M.Jf Qx hrow.QI) (Qc JZ rfl))) fun _ K=>p1 K (Q0 ZV rfl rfl hlen) fun _ K=>?_;refine Qb 1 K M ?_;exact⟨rfl,M.qt⟩

theorem NA(hf:Qh st)(hS:YO st F sp Tn S)(hi:i<S.length): ∃v st',QV 262 [.ptr sp 0 0,iN i] st v st'∧v=.bool true∧Qt st st':=by
 obtain⟨ks,cm,hrow,hrd,hlen,hbn⟩:=hS.at_.rd;refine Jv Tryz.func262 Tryz.ntmps262 fun T K=>?_;have M:=Mem.start hf;refine Qb 3 K M fun _ K=>?_;refine U5 K rfl (fun _ e7 K=>?_) fun _ e7 K=>?_
 ·exfalso;omega
 refine Qb 2 K M fun _ K=>?_;obtain⟨v10,st10,ev10,rfl,q10⟩:=Tv M.fresh (hS.q M.qt);refine pg K rfl rfl (Qf rfl ev10) fun _ K=>?_;replace M:=M.quiet q10;refine Qb 3 K M ?_;exact⟨congrArg AV.bool (decide_eq_true Qd),M.qt⟩

theorem Gw(hf:Qh st)(hS:YO st F sp Tn S)(hi:i<S.length)(t:Nat)(ht:t<Tn): ∃v st',QV 325 [.ptr sp 0 0,iN i,iN t] st v st'∧v=.bool (decide (t<lvl Tn S i))∧Qt st st':=by
 obtain⟨ks,cm,hrow,hrd,hlen,hbn⟩:=hS.at_.rd;refine Jv Tryz.func325 Tryz.ntmps325 fun T K=>?_;have M:=Mem.start hf;refine Qb 3 K M fun _ K=>?_;refine oQ K M (NA M.fresh (hS.q M.qt) hi) rfl rfl fun _ _ K M=>?_;refine Qb 5 K M fun _ K=>?_;refine p1 K (Qi rfl (Qr (M.Jf Qx hrow.QI) (Qc JZ rfl))) fun _ K=>?_;refine Qb 1 K M fun _ K=>?_;obtain⟨n19,hn19⟩:=YL S i Qd;refine oI (Jg.mem M hrd Qx) (by rw[List.getElem?_map,hn19];rfl) K Ye Yw rfl rfl rfl fun _ _ _ _ K=>?_;refine p1 K (L8 rfl (RU n19)) fun _ K=>?_;refine au 8 K M ?_;intro c7 _ _ K _ M;refine oB K (Q8 rfl) rfl fun b26 _ e26 K=>?_;cases b26
 ·replace e26:((HA n19))=true:=by simpa using e26
  refine Qb 6 K M ?_;refine⟨?_,M.qt⟩;rw[uo hn19]
  cases n19 with
  |leaf v=>first|(cases e26;done)|(rw[if_neg (show¬HA (Bn.leaf v)=true by simp[HA]),decide_eq_true ht];rfl)
  |fork t' l h=>first|(cases e26;done)|(refine congrArg AV.bool (decide_eq_decide.2 ?_);rw[if_pos (show HA (Bn.fork t' l h)=true from rfl)];simp only[Pj];omega)
 replace e26:((HA n19))=false:=by simpa using e26
 refine Qb 6 K M ?_;refine⟨?_,M.qt⟩;rw[uo hn19]
 cases n19 with
 |leaf v=>first|(cases e26;done)|(rw[if_neg (show¬HA (Bn.leaf v)=true by simp[HA]),decide_eq_true ht];rfl)
 |fork t' l h=>first|(cases e26;done)|(refine congrArg AV.bool (decide_eq_decide.2 ?_);rw[if_pos (show HA (Bn.fork t' l h)=true from rfl)];simp only[Pj];omega)

theorem qc(hf:Qh st)(hS:YO st F sp Tn S)(hi:i<S.length): ∃v st',QV 341 [.ptr sp 0 0,iN i] st v st'∧(∃n,S[i]? =some n∧v=iZ (if HA n then Pj n else-1))∧Qt st st':=by
 obtain⟨ks,cm,hrow,hrd,hlen,hbn⟩:=hS.at_.rd;refine Jv Tryz.func341 Tryz.ntmps341 fun T K=>?_;have M:=Mem.start hf;refine Qb 3 K M fun _ K=>?_;refine oQ K M (NA M.fresh (hS.q M.qt) hi) rfl rfl fun _ _ K M=>?_;refine Qb 5 K M fun _ K=>?_;refine p1 K (Qi rfl (Qr (M.Jf Qx hrow.QI) (Qc JZ rfl))) fun _ K=>?_;refine Qb 1 K M fun _ K=>?_;obtain⟨n17,hn17⟩:=YL S i Qd;refine oI (Jg.mem M hrd Qx) (by rw[List.getElem?_map,hn17];rfl) K Ye Yw rfl rfl rfl fun _ _ _ _ K=>?_;refine p1 K (L8 rfl (RU n17)) fun _ K=>?_;refine au 7 K M ?_;intro c5 _ _ K _ M;refine UJ K rfl (fun h22=>?_) fun h22=>?_
 ·have hb22:=h22;refine Qb 3 K M ?_;exact⟨⟨n17,hn17,by rw[if_pos h22]⟩,M.qt⟩
 have hb22:=h22;refine Qb 1 K M ?_;exact⟨⟨n17,hn17,by rw[if_neg (by rw[h22];decide)]⟩,M.qt⟩

theorem ze(hf:Qh st)(hS:YO st F sp Tn S)(hi:i<S.length){t l h:Nat}(hn:S[i]? =some (.fork t l h)): ∃v st',QV 342 [.ptr sp 0 0,iN i] st v st'∧v=.tup [iN l,iN h]∧Qt st st':=by
 obtain⟨ks,cm,hrow,hrd,hlen,hbn⟩:=hS.at_.rd;refine Jv Tryz.func342 Tryz.ntmps342 fun T K=>?_;have M:=Mem.start hf;refine Qb 4 K M fun _ K=>?_;refine oQ K M (NA M.fresh (hS.q M.qt) hi) rfl rfl fun _ _ K M=>?_;refine Qb 5 K M fun _ K=>?_;refine p1 K (Qi rfl (Qr (M.Jf Qx hrow.QI) (Qc JZ rfl))) fun _ K=>?_;refine Qb 1 K M fun _ K=>?_;obtain⟨n18,hn18⟩:=YL S i Qd;refine oI (Jg.mem M hrd Qx) (by rw[List.getElem?_map,hn18];rfl) K Ye Yw rfl rfl rfl fun _ _ _ _ K=>?_;refine p1 K (L8 rfl (RU n18)) fun _ K=>?_;refine au 7 K M ?_;intro c6 _ _ K _ M;refine UJ K rfl (fun h23=>?_) fun h23=>?_
 ·have hb23:=h23;refine Xc ?_;refine QT (l:=[(0,0),(1,0),(2,0),(3,0),(4,0),(5,0)]) (by kernel_rfl) ?_;refine UT 6 K M fun _ K=>?_;refine Jd ?_;show W _ _ _ _ _ _ _;refine Qb 0 K M ?_
  rw[hn]at hn18;injection hn18 with hn18;subst hn18
  exact⟨rfl,M.qt⟩
 have hb23:=h23
 (rw[hn]at hn18;injection hn18 with hn18;subst hn18;cases h23)

theorem Mu(hf:Qh st)(v0:Int)(u w:AV): ∃v st',QV 379 [.agg [iZ v0],u,w] st v st'∧v=iZ v0∧Qt st st':=by
 refine Jv Tryz.func379 Tryz.ntmps379 fun T K=>?_;have M:=Mem.start hf;refine au 5 K M ?_;intro c3 _ _ K _ M;refine Qb 0 K M ?_;exact⟨rfl,M.qt⟩

theorem MF(hf:Qh st)(hS:YO st F sp Tn S)(h6:Tn≤6)(wf:ZI Tn S){t l h:Nat}(hn:S[i]? =some (.fork t l h))(hc:c≤4611686018427387904)(ih: ∀j,j<i→nk F sp Tn S c j): ∃v st',QV 380 [.agg [iN t,iN l,iN h],.ptr sp 0 0,iN c] st v st'∧v=iZ (US S i c)∧Qt st st':=by
 obtain⟨ks,cm,hrow,hrd,hlen,hbn⟩:=hS.at_.rd;obtain⟨w1,w2,w3,w4,w5,w6⟩:=wf.fork _ _ _ _ hn;have hil:=(List.getElem?_eq_some_iff.1 hn).1;refine Jv Tryz.func380 Tryz.ntmps380 fun T K=>?_;have M:=Mem.start hf;refine au 5 K M ?_;intro c3 _ _ K _ M;refine p1 K (WG (a:=c) (n:=t) rfl rfl Qd) fun _ K=>p1 K (WH (a:=(c/2^t)) rfl rfl (Nat.le_trans (Nat.div_le_self _ _) Qd)) fun _ K=>?_;refine Qb 1 K M fun _ K=>?_;refine U8 K rfl (fun h12=>?_) fun h12=>?_
 ·refine Xc ?_;refine QT (l:=[(0,0),(1,0),(2,0),(3,0),(4,0),(5,0),(6,0),(7,0),(8,0),(9,0),(10,0),(11,0)]) (by kernel_rfl) ?_;refine UT 3 K M fun _ K=>?_;refine q1 rfl K (Qi rfl (Qr (M.Jf Qx hrow.QI) (Qc JZ rfl))) fun _ K=>?_;refine UT 2 K M fun _ K=>?_;obtain⟨n19,hn19⟩:=YL S h Qd;refine dI rfl rfl (Jg.mem M hrd Qx) (by rw[List.getElem?_map,hn19];rfl) K Ye Yw rfl rfl rfl fun _ _ _ _ K=>?_;refine UT 2 K M fun _ K=>?_;obtain⟨tt23,uu23,ff23,v23,st23,ei23,em23,ev23,rfl,q23⟩:=ih h Qd _ _ M.fresh (hS.q M.qt) hn19;refine qA rfl K (Ib (show QG _ _ _=_ from congrArg some ei23) em23 rfl ev23) fun _ K=>?_;replace M:=M.quiet q23;refine q1 rfl K (Uu rfl) fun _ K=>Jd ?_;show W _ _ _ _ _ _ _;refine Qb 0 K M ?_;exact⟨by rw[V1 wf hn,if_pos ((Tm c t).1 h12)],M.qt⟩
 refine Qb 0 K M fun _ K=>?_;refine QT (l:=[(0,0),(1,0),(2,0),(3,0),(4,0),(5,0),(6,0),(7,0),(8,0),(9,0),(10,0),(11,0)]) (by kernel_rfl) ?_;refine UT 3 K M fun _ K=>?_;refine q1 rfl K (Qi rfl (Qr (M.Jf Qx hrow.QI) (Qc JZ rfl))) fun _ K=>?_;refine UT 2 K M fun _ K=>?_;obtain⟨n30,hn30⟩:=YL S l Qd;refine dI rfl rfl (Jg.mem M hrd Qx) (by rw[List.getElem?_map,hn30];rfl) K Ye Yw rfl rfl rfl fun _ _ _ _ K=>?_;refine UT 2 K M fun _ K=>?_;obtain⟨tt34,uu34,ff34,v34,st34,ei34,em34,ev34,rfl,q34⟩:=ih l Qd _ _ M.fresh (hS.q M.qt) hn30;refine qA rfl K (Ib (show QG _ _ _=_ from congrArg some ei34) em34 rfl ev34) fun _ K=>?_;replace M:=M.quiet q34;refine q1 rfl K (Uu rfl) fun _ K=>Jd ?_;show W _ _ _ _ _ _ _;refine Qb 0 K M ?_;exact⟨by rw[V1 wf hn,if_neg fun hb=>h12 ((Tm c t).2 hb)],M.qt⟩

theorem fw(h6:Tn≤6)(wf:ZI Tn S)(hc:c≤4611686018427387904): ∀j,j<S.length→nk F sp Tn S c j:=by
 intro j
 induction j using Nat.strongRecOn with
 |_ j ih=>
  intro hj st n hf hS hn
  cases n with
  |leaf v=>
   obtain⟨v',st',ev,rfl,q⟩:=Mu hf v (.ptr sp 0 0) (.int .i64 (c:Nat));exact⟨_,_,_,_,st',rfl,xZ,ev,by rw[Vz hn],q⟩
  |fork t l h=>
   obtain⟨v',st',ev,rfl,q⟩:=MF hf hS h6 wf hn hc fun k hk=>ih k hk Qd;exact⟨_,_,_,_,st',rfl,va,ev,rfl,q⟩

theorem zg(hf:Qh st)(hS:YO st F sp Tn S)(h6:Tn≤6)(wf:ZI Tn S)(hi:i<S.length)(hc:c<2^Tn): ∃v st',QV 263 [.ptr sp 0 0,iN i,iN c] st v st'∧v=iZ (US S i c)∧Qt st st':=by
 obtain⟨ks,cm,hrow,hrd,hlen,hbn⟩:=hS.at_.rd;have hp:=CV (show Tn≤62 by omega);refine Jv Tryz.func263 Tryz.ntmps263 fun T K=>?_;have M:=Mem.start hf;refine Qb 3 K M fun _ K=>?_;refine oQ K M (NA M.fresh (hS.q M.qt) hi) rfl rfl fun _ _ K M=>?_;refine Qb 5 K M fun _ K=>?_;refine U5 K rfl (fun _ e15 K=>?_) fun _ e15 K=>?_
 ·refine Qb 2 K M fun _ K=>?_;obtain⟨v18,st18,ev18,rfl,q18⟩:=WT M.fresh (hS.q M.qt);refine pg K rfl rfl (Qf rfl ev18) fun _ K=>?_;replace M:=M.quiet q18;refine pg K rfl rfl (ZX (n:=Tn) rfl rfl Qd) fun _ K=>?_;refine Qb 2 K M fun _ K=>?_;refine U8 K rfl (fun h21=>?_) fun h21=>?_
  ·exfalso;omega
  refine Qb 3 K M fun _ K=>?_;refine p1 K (Qi rfl (Qr (M.Jf Qx hrow.QI) (Qc JZ rfl))) fun _ K=>?_;refine Qb 1 K M fun _ K=>?_;obtain⟨n27,hn27⟩:=YL S i Qd;refine oI (Jg.mem M hrd Qx) (by rw[List.getElem?_map,hn27];rfl) K Ye Yw rfl rfl rfl fun _ _ _ _ K=>?_;refine Qb 2 K M fun _ K=>?_;obtain⟨tt31,uu31,ff31,v31,st31,ei31,em31,ev31,rfl,q31⟩:=fw (c:=c) h6 wf Qd _ hi _ _ M.fresh (hS.q M.qt) hn27;refine p1 K (Ib (show QG _ _ _=_ from congrArg some ei31) em31 rfl ev31) fun _ K=>?_;replace M:=M.quiet q31;refine Qb 1 K M ?_;exact⟨rfl,M.qt⟩
 exfalso;omega
end
end Go.Proofs.YtildagdnomiahaaGreatDoor
