/-
  What both of two automata leave in memory.
-/
import Derived.Test.YtiknomepbklibaaGreatDoorQrR20B
set_option maxRecDepth 100000
set_option maxHeartbeats 8000000
set_option linter.unnecessarySimpa false
set_option linter.unusedSimpArgs false
set_option linter.unusedVariables false
section
namespace Go.Proofs.YtiknomepbklibaaGreatDoor
open Go Go.RowKit

theorem Qk.J4{st0 st:St}{X0:Fp}{M:QP}{Os:List Ob}{o p:Ob}(B:Qk st0 X0 st M Os){j k:Nat}(hj:Os[j]? =some o)(hk:Os[k]? =some p)(hne:j≠k): ∀c,o.F c→ ¬p.F c:=fun c h1 h2=>by
 have hjl:=(List.getElem?_eq_some_iff.1 hj).1;have hkl:=(List.getElem?_eq_some_iff.1 hk).1;have hpw:=List.pairwise_iff_getElem.1 B.dj;have ej:Os[j]=o:=(List.getElem?_eq_some_iff.1 hj).2;have ek:Os[k]=p:=(List.getElem?_eq_some_iff.1 hk).2;rcases Nat.lt_or_ge j k with hlt|hge
 ·exact hpw j k hjl hkl hlt c (by rw[ej];exact h1) (by rw[ek];exact h2)
 ·exact hpw k j hkl hjl Qe c (by rw[ek];exact h2) (by rw[ej];exact h1)
end Go.Proofs.YtiknomepbklibaaGreatDoor
end
section
namespace Go.Proofs.YtiknomepbklibaaGreatDoor
open Go Go.RowKit
variable {acc:List Bool}

theorem Pu{q:List Int}{j:Nat}{z:Int}(h:q[j]? =some z):(q.take (j+1)).any (fun z=>IE acc z.toNat)=((q.take j).any (fun z=>IE acc z.toNat)||IE acc z.toNat):=by
 rw[List.take_add_one,h,List.any_append];simp
theorem Pv{q:List Int}{j:Nat}(h:(q.take j).any (fun z=>IE acc z.toNat)=true):(q.take (j+1)).any (fun z=>IE acc z.toNat)=true:=by
 rw[List.take_add_one,List.any_append,h];rfl
theorem uZ{i:Nat}{y:Bool}(h:acc[i]? =some y):IE acc i=y:=Yk h
def y9(st st':St)(a:Au)(k:Nat)(acc:List Bool)(v:AV):Prop:=
 (∃x L m,v=.tup [x,.int .i64 0]∧m.tr=a.tr-1∧Uw (Up a k) [0] (anyS acc) L m∧A0 st st' m x)∨v=.tup [.agg [.int .i64 0,.nils,.nils],.int .i64 8]

theorem Bg{st:St}(hf:Qj st){a:Au}(wf:Zt a){ka kn:AV}{ls:List (List AV)}{mp l:Nat}(hA:Ku st mp a ka kn ls){k:Nat}(hk:k<a.tr)(hm:Q4 st.h.get mp 0 [iN l,.bool false])(hl1:401≤l)(hl:l≤9223372036854775807): ∃v st',Ev Tryz.prog Q5 101 [.agg [iZ (a.tr:Nat),ka,kn],iN k,.ptr mp 0 0] st v st'∧(∃YD,A4 a k YD∧y9 st st' a k YD v)∧UR (fun c=>c=mp) st st':=by
 have hac:=(hA _ fun c _ _=>rfl).1.cell;have hnc:=(hA _ fun c _ _=>rfl).2.r.cell;have htr:=wf.tr;have hmo:=wf.most;have hp6:=JH (T:=a.tr-1) Qe;have hp0:0<2^(a.tr-1):=Nat.two_pow_pos _;have hena:a.n=a.acc.length:=rfl;have B:=Qk.UM (o:=UZ mp l false) hf hm (fun c hc=>(show c=mp from hc)▸hm.lt hf);refine JI Tryz.func101 Tryz.ntmps101 fun T K=>?_;have M:=B.mem;refine au 5 K M ?_;intro c3 c6 _ _ K _ M;refine Un K (Qg rfl) rfl (fun _ e20 K=>?_) fun _ e20 K=>?_
 ·refine Qc 5 K M ?_;intro _ K;refine JS K rfl (fun h25=>?_) fun h25=>?_
  ·exfalso;omega
  refine Qc 2 K M ?_;intro _ K;obtain⟨v29,st29,ev29,ka2,YD,rfl,hcl,nrc,q29⟩:=TT M.fresh wf (hA _ fun c h1 h2=>(B.step M).J8 c h1 h2).1 (hA _ fun c h1 h2=>(B.step M).J8 c h1 h2).2 hk;refine p1 K (Qh rfl ev29) fun _ K=>?_;obtain⟨Ac,hAc,M⟩:=M.Yv q29 nrc;replace hAc:=hAc.z0;have hcln:=hcl.len;simp only[List.append_assoc,List.cons_append,List.nil_append,List.set_cons_zero,List.set_cons_succ]at M;refine au 1 K M ?_;intro c8 _ _ K _ M;refine QS (k:=0) K M rfl rfl rfl QC rfl (Qa rfl (Qa hAc.cell (Qa hnc Qz))) rfl fun _ M=>?_;refine Qc 2 K M ?_;intro _ K;refine p1 K (Dj rfl rfl Qe Qe) fun _ K=>?_;refine au 4 K M ?_;intro c9 c34 _ _ K _ M;refine ZV K M QU Uv rfl rfl rfl rfl rfl fun c35 _ _ K M=>?_;refine Qc 1 K M ?_;intro _ K;replace B:=B.step M;obtain⟨Fl0,B⟩:=Qk.VC (z:=1) (ks:=.sl c35 0 0 1 1) (ls:=Lt [.sl c34 0 0 1 1]) (A:=[(c35,0,[.sl c34 0 0 1 1])]) (M:=((c34,0,[iZ 0])::(c9,0,[iZ (a.tr-1:Nat),.nils,.nils])::(c8,0,[iZ (a.tr:Nat),ka2,kn])::(c6,0,[iZ 0,.nils,.nils])::(c3,0,[iZ (a.tr:Nat),ka,kn])::(Ac++[]))) B (Acc.own (n0:=0) (z:=1) (c:=c35) (m:=0) (ls:=Lt [.sl c34 0 0 1 1]) (Nat.zero_le _) (by simp[Lt]) (by simp[Lt]));replace B:=B.V1;obtain⟨Fv0,B⟩:=Qk.ZF (L:=[]) (A:=[(c34,0,[iZ 0])]) (B:=((c9,0,[iZ (a.tr-1:Nat),.nils,.nils])::(c8,0,[iZ (a.tr:Nat),ka2,kn])::(c6,0,[iZ 0,.nils,.nils])::(c3,0,[iZ (a.tr:Nat),ka,kn])::(Ac++[]))) (row:=[0]) (kr:=.sl c34 0 0 1 1) B (Acc.own (n0:=0) (z:=1) (c:=c34) (m:=0) (ls:=zC [0]) (Nat.zero_le _) (by simp[zC]) (by simp[zC])) (fun z hz=>by rw[List.mem_singleton.1 hz];decide);replace B:Qk st (UZ mp l false).F _ (((c9,0,[iZ (a.tr-1:Nat),.nils,.nils])::(c8,0,[iZ (a.tr:Nat),ka2,kn])::(c6,0,[iZ 0,.nils,.nils])::(c3,0,[iZ (a.tr:Nat),ka,kn])::(Ac++[]))) [EC Fv0 [.sl c34 0 0 1 1] [[0]],Wm Fl0 1 (.sl c35 0 0 1 1) (Lt [.sl c34 0 0 1 1]),UZ mp l false]:=B;have M:=B.mem;refine Qc 1 K M ?_;intro _ K;replace B:=B.step M;obtain⟨v37,st37,ev37,rfl,hms37,Qs37⟩:=VL B.fresh (show Q4 _ mp 0 [iN l,.bool false]from B.at_ (k:=2) rfl) Qe Qe 1;refine p1 K (Qh rfl ev37) fun _ K=>?_;replace B:=B.call (k:=2) (o':=UZ mp (l-1) false) rfl Qs37 hms37 (U2 fun c hc=>Nat.lt_of_lt_of_le (B.Yw (k:=2) rfl c hc) Qs37.le);have M:=B.mem;refine Qc 2 K M ?_;intro _ K;replace B:=(B.step M).V1;have M:=B.mem;refine Qc 1 K M ?_;intro _ K;refine Je (fun mm1 T st9=> ∃(i:Nat) (L:List (List Int)) (vs:List AV) (Fv:Fp) (kl:AV) (Fl:Fp) (rows:List (List Int)) (vsr:List AV) (Fr:Fp) (ka4:AV) (Aa:QP) (kr4:AV) (Ar:QP),mm1=400-i∧QZ [(1,iN k),(2,.ptr mp 0 0),(6,.ptr c6 0 0),(8,.ptr c8 0 0),(9,.ptr c9 0 0),(10,kl),(11,iN i)] T∧Qk st (UZ mp l false).F st9 ((c9,0,[iZ (a.tr-1:Nat),ka4,kr4])::(c8,0,[iZ (a.tr:Nat),ka2,kn])::(c6,0,[iZ 0,.nils,.nils])::(c3,0,[iZ (a.tr:Nat),ka,kn])::(Ac++(Aa++(Ar++[])))) [EC Fr vsr rows,EC Fv vs L,Wm Fl 1 kl (Lt vs),UZ mp (l-L.length) false]∧Vr (Up a k) [0] (2^(a.tr-1)) L rows []∧rows.length=i∧i≤L.length∧L.length≤400∧Acc 0 1 Aa ka4 (bC ((L.take i).map (anyS YD)))∧YS Ar kr4 vsr) (fun mm1 T st9 hI=>?_) _ _ _ ⟨0,[[0]],[.sl c34 0 0 1 1],Fv0,_,Fl0,[],[],_,.nils,[],.nils,[],rfl,(K.sub rfl),(B.step M).less (.refl _),(Vr.start _ _ _),rfl,QE,QE,.none,.none⟩;obtain⟨i,L,vs,Fv,kl,Fl,rows,vsr,Fr,ka4,Aa,kr4,Ar,rfl,K,B,hP,hrl,hiL,hL,hAa,hAr⟩:=hI;have M:=B.mem;have hall: ∀s∈L,AX a.n s:=fun s hs=>hP.all (Q:=AX a.n) (AX.zero wf.pos) (fun s c hs hc=>hs.step wf hk hc) hp0 hs;refine Qc 2 K M ?_;intro _ K;refine p1 K (Q8 J6 rfl rfl ((UX.len ((B.step M).at_ (k:=2) rfl)).trans (congrArg some ((Vb _).trans (YR.ln ((B.step M).at_ (k:=1) rfl)))))) fun _ K=>?_;refine Qc 1 K M ?_;intro _ K;refine JS K rfl (fun h43=>?_) fun h43=>?_
  ·refine Qc 0 K M ?_;intro _ K;obtain⟨q,hqi⟩: ∃q,L[i]? =some q:=⟨_,List.getElem?_eq_getElem Qe⟩;have hqS:=hall q (List.mem_of_getElem? hqi);have hqm:=hqS.len;refine Qc 2 K M ?_;intro _ K;refine Je (fun mm2 T st9=> ∃(c:Nat) (L2:List (List Int)) (vs2:List AV) (Fv2:Fp) (kl2:AV) (Fl2:Fp) (row:List Int) (kw:AV) (Aw:QP),mm2=2^(a.tr-1)-c∧QZ [(1,iN k),(2,.ptr mp 0 0),(6,.ptr c6 0 0),(8,.ptr c8 0 0),(9,.ptr c9 0 0),(10,kl2),(11,iN i),(12,kw),(13,iN c),(43,.bool (decide (((i:Nat):Int)<((L.length:Nat):Int))))] T∧Qk st (UZ mp l false).F st9 ((c9,0,[iZ (a.tr-1:Nat),ka4,kr4])::(c8,0,[iZ (a.tr:Nat),ka2,kn])::(c6,0,[iZ 0,.nils,.nils])::(c3,0,[iZ (a.tr:Nat),ka,kn])::(Ac++(Aa++(Ar++(Aw++[]))))) [EC Fr vsr rows,EC Fv2 vs2 L2,Wm Fl2 1 kl2 (Lt vs2),UZ mp (l-L2.length) false]∧Vr (Up a k) [0] (2^(a.tr-1)) L2 rows row∧row.length=c∧c≤2^(a.tr-1)∧L2.length≤400∧L2.take (i+1)=L.take (i+1)∧Acc 0 1 Aw kw (zC row)) (fun mm2 T st9 hI=>?_) _ _ _ ⟨0,L,vs,Fv,kl,Fl,[],.nils,[],rfl,(K.sub rfl),(B.step M).less (.refl _),hP,rfl,(Nat.zero_le _),hL,rfl,.none⟩;obtain⟨c,L2,vs2,Fv2,kl2,Fl2,row,kw,Aw,rfl,K,B,hP2,hrow,hcK,hL2,htk,hAw⟩:=hI;have M:=B.mem;have hi2:=Uy htk Qe;refine Qc 3 K M ?_;intro _ K;refine p1 K (YZ (c:=(((a.tr-1):Nat):Int)) Zj Yh rfl (IntWalk.u64_in _ Qe)) fun _ K=>p1 K (Y5 (n:=(a.tr-1)) rfl rfl Qe) fun _ K=>?_;refine Qc 1 K M ?_;intro _ K;refine JS K rfl (fun h51=>?_) fun h51=>?_
   ·refine Qc 2 K M ?_;intro _ K;refine QF (l:=[(1,0),(2,0),(3,0),(4,0),(5,0),(6,0),(7,0),(8,0),(0,0),(9,0),(10,0),(11,0),(12,0),(13,0),(14,0),(15,0),(16,0)]) (by kernel_rfl) ?_;refine Jc 3 K M ?_;intro _ K;have hq59:=Vc htk hqi;obtain⟨w59,hv59,hr59,hz59,hf59⟩:=YR.at_ ((B.step M).at_ (k:=1) rfl) _ _ hq59;obtain⟨x59,m59,f59,q59,_,la59,lo59,lp59⟩:=(UX.rd ((B.step M).at_ (k:=2) rfl)).load (i:=i) (cs:=_) (KQ hv59);refine q1 rfl K (Qb (j:=i) QY (congrArg some q59) rfl (by rw[Vb];have:=YR.ln ((B.step M).at_ (k:=1) rfl);omega)) fun _ K=>q1 rfl K (Qd rfl (lo59 _ 0 _ Ja rfl)) fun _ K=>?_;refine Jc 2 K M ?_;intro _ K;obtain⟨v63,st63,ev63,kx,rfl,nrx,q63⟩:=Mk (c:=c) M.fresh wf hAc.cell (hA _ fun c h1 h2=>(B.step M).J8 c h1 h2).2 (YR.rowAt ((B.step M).at_ (k:=1) rfl) hq59 hv59) hqS.2 (Nat.le_trans hqS.len wf.most) hk Qe;refine qA rfl K (Qh rfl ev63) fun _ K=>?_;obtain⟨Ax,hAx,M⟩:=M.Yv q63 nrx;replace hAx:=hAx.z0;simp only[List.append_assoc,List.cons_append,List.nil_append,List.set_cons_zero,List.set_cons_succ]at M;refine q1 rfl K (Qg rfl) fun _ K=>?_;replace B:=B.step M;have hq2S:=hqS.step wf hk (c:=c) Qe;obtain⟨v64,st64,ev64,kl3,k3,was3,L3,vs3,F3,rfl,hO3,mf3,Q3,hnum⟩:=Dn B.fresh (B.at_ (k:=2) rfl) (B.Yw (k:=2) rfl) (B.at_ (k:=1) rfl) (B.Yw (k:=1) rfl) (B.J4 (j:=1) (k:=2) rfl rfl QE) Qe (Mem.Yl (L:=((c9,0,[iZ (a.tr-1:Nat),ka4,kr4])::(c8,0,[iZ (a.tr:Nat),ka2,kn])::(c6,0,[iZ 0,.nils,.nils])::(c3,0,[iZ (a.tr:Nat),ka,kn])::(Ac++(Aa++(Ar++(Aw++[])))))) (A:=Ax) (B:=[]) (Mem.cast (M:=((c9,0,[iZ (a.tr-1:Nat),ka4,kr4])::(c8,0,[iZ (a.tr:Nat),ka2,kn])::(c6,0,[iZ 0,.nils,.nils])::(c3,0,[iZ (a.tr:Nat),ka,kn])::(Ac++(Aa++(Ar++(Aw++(Ax++[]))))))) (M':=((c9,0,[iZ (a.tr-1:Nat),ka4,kr4])::(c8,0,[iZ (a.tr:Nat),ka2,kn])::(c6,0,[iZ 0,.nils,.nils])::(c3,0,[iZ (a.tr:Nat),ka,kn])::(Ac++(Aa++(Ar++(Aw++[])))))++(Ax++[])) M Uu) hAx) (fun c m o n y e hc=>by obtain⟨m',l',hm'⟩:=hAx.xa c m o n y e;exact B.djM _ (List.mem_of_getElem? (show _[2]? =some _ from rfl)) c m' l' (by simp[hm']) hc);refine qA rfl K (Qh rfl ev64) fun _ K=>?_;replace B:=B.call (k:=2) (o':=Wm F3 1 kl3 (Lt vs3)) rfl Q3 hO3 mf3;have hnl:=hnum.len;obtain⟨Fv3,B⟩:=Qk.vW (L0:=((c9,0,[iZ (a.tr-1:Nat),ka4,kr4])::(c8,0,[iZ (a.tr:Nat),ka2,kn])::(c6,0,[iZ 0,.nils,.nils])::(c3,0,[iZ (a.tr:Nat),ka,kn])::(Ac++(Aa++(Ar++(Aw++[])))))) (A:=Ax) (B0:=[]) ((B.cast (M':=((c9,0,[iZ (a.tr-1:Nat),ka4,kr4])::(c8,0,[iZ (a.tr:Nat),ka2,kn])::(c6,0,[iZ 0,.nils,.nils])::(c3,0,[iZ (a.tr:Nat),ka,kn])::(Ac++(Aa++(Ar++(Aw++[])))))++(Ax++[])) Uu).Gd (Os':=EC Fv2 vs2 L2::EC Fr vsr rows::[Wm F3 1 kl3 (Lt vs3),UZ mp (l-L2.length) false]) (.swap ..)) hnum hAx (hq2S.AU wf.most);replace B:=B.Gd (Os':=[EC Fr vsr rows,EC Fv3 vs3 L3,Wm F3 1 kl3 (Lt vs3),UZ mp (l-L2.length) false]) (.swap ..);replace B:=B.cast (M':=((c9,0,[iZ (a.tr-1:Nat),ka4,kr4])::(c8,0,[iZ (a.tr:Nat),ka2,kn])::(c6,0,[iZ 0,.nils,.nils])::(c3,0,[iZ (a.tr:Nat),ka,kn])::(Ac++(Aa++(Ar++(Aw++[])))))) Uu;have M:=B.mem;refine Jc 7 K M ?_;intro _ K;refine QH ?_;show W _ _ _ _ _ _ _;refine Qc 2 K M ?_;intro _ K;refine oB K (Qg rfl) rfl fun b70 _ e70 K=>?_;cases b70
    ·replace e70:(was3)=true:=by simpa using e70
     refine au 10 K M ?_;intro c80 _ _ K _ M;refine Jg (k2:=0) (L:=((c80,0,[iN k3])::(c9,0,[iZ (a.tr-1:Nat),ka4,kr4])::(c8,0,[iZ (a.tr:Nat),ka2,kn])::(c6,0,[iZ 0,.nils,.nils])::(c3,0,[iZ (a.tr:Nat),ka,kn])::(Ac++(Aa++(Ar++[]))))) (A:=Aw) (B:=[]) K (Mem.cast (M:=((c80,0,[iN k3])::(c9,0,[iZ (a.tr-1:Nat),ka4,kr4])::(c8,0,[iZ (a.tr:Nat),ka2,kn])::(c6,0,[iZ 0,.nils,.nils])::(c3,0,[iZ (a.tr:Nat),ka,kn])::(Ac++(Aa++(Ar++(Aw++[])))))) (M':=((c80,0,[iN k3])::(c9,0,[iZ (a.tr-1:Nat),ka4,kr4])::(c8,0,[iZ (a.tr:Nat),ka2,kn])::(c6,0,[iZ 0,.nils,.nils])::(c3,0,[iZ (a.tr:Nat),ka,kn])::(Ac++(Aa++(Ar++[]))))++(Aw++[])) M Uu) hAw QM rfl rfl rfl rfl (by rw[Qn];omega) rfl fun ks81 A81 _ _ K hA81 M=>?_;simp only[List.append_assoc,List.cons_append,List.nil_append,List.set_cons_zero,List.set_cons_succ]at M;refine Qc 4 K M ?_;intro _ K;replace B:=B.step M;rw[show(l-L2.length)=l-L3.length by have:=hnl;first|omega|(simp_all;done)|(simp_all;omega)]at B;have M:=B.mem;have hP3:=ON.pr hP2 Qe (show L2[rows.length]? =some q by rw[hrl];exact Vc htk hqi) (show Up a k q row.length=Up a k q c by rw[hrow]) hnum;exact⟨_,Qe,c+1,L3,vs3,Fv3,_,F3,(row++[((k3:Nat):Int)]),ks81,A81,rfl,(K.sub rfl),(B.step M).less (.cons _ (.refl _)),hP3,(by rw[List.length_append,hrow];rfl),Qe,(by have:=hnl;first|omega|(simp_all;done)|(simp_all;omega)),(by rw[hnum.take hi2,htk]),(by rw[JY];exact hA81)⟩
    replace e70:(was3)=false:=by simpa using e70
    refine Qc 2 K M ?_;intro _ K;refine pg K rfl rfl (Q8 J6 rfl rfl ((UX.len ((B.step M).at_ (k:=2) rfl)).trans (congrArg some ((Vb _).trans (YR.ln ((B.step M).at_ (k:=1) rfl)))))) fun _ K=>?_;replace B:=B.step M;obtain⟨v74,st74,ev74,rfl,hms74,Qs74⟩:=VL B.fresh (show Q4 _ mp 0 [iZ (l-L2.length:Nat),.bool false]from B.at_ (k:=3) rfl) Qe Qe L3.length;refine pg K rfl rfl (Qh rfl ev74) fun _ K=>?_;replace B:=B.call (k:=3) (o':=UZ mp (l-L2.length-1) false) rfl Qs74 hms74 (U2 fun c hc=>Nat.lt_of_lt_of_le (B.Yw (k:=3) rfl c hc) Qs74.le);have M:=B.mem;refine Qc 2 K M ?_;intro _ K;refine Qq (K.QJ rfl) (fun h76=>?_) (fun h76=>?_)
    ·have hb76:=h76
     replace h76: ¬((L3.length:Int)≤400):=by first|exact of_decide_eq_false h76|exact yF h76|simpa using h76
     refine au 3 K M ?_;intro _ _ K _ M;refine Jz ⟨.inr rfl,_,(Ud (JG K rfl (M.load (k:=2) rfl (QG QQ rfl))) (Q9 K rfl)),?_⟩;exact⟨⟨YD,hcl,.inr rfl⟩,(B.step M).JO⟩
    have hb76:=h76
    replace h76:((L3.length:Int)≤400):=by first|exact of_decide_eq_true h76|exact yT h76|simpa using h76
    refine au 3 K M ?_;intro c80 _ _ K _ M;refine Jg (k2:=0) (L:=((c80,0,[iN k3])::(c9,0,[iZ (a.tr-1:Nat),ka4,kr4])::(c8,0,[iZ (a.tr:Nat),ka2,kn])::(c6,0,[iZ 0,.nils,.nils])::(c3,0,[iZ (a.tr:Nat),ka,kn])::(Ac++(Aa++(Ar++[]))))) (A:=Aw) (B:=[]) K (Mem.cast (M:=((c80,0,[iN k3])::(c9,0,[iZ (a.tr-1:Nat),ka4,kr4])::(c8,0,[iZ (a.tr:Nat),ka2,kn])::(c6,0,[iZ 0,.nils,.nils])::(c3,0,[iZ (a.tr:Nat),ka,kn])::(Ac++(Aa++(Ar++(Aw++[])))))) (M':=((c80,0,[iN k3])::(c9,0,[iZ (a.tr-1:Nat),ka4,kr4])::(c8,0,[iZ (a.tr:Nat),ka2,kn])::(c6,0,[iZ 0,.nils,.nils])::(c3,0,[iZ (a.tr:Nat),ka,kn])::(Ac++(Aa++(Ar++[]))))++(Aw++[])) M Uu) hAw QM rfl rfl rfl rfl (by rw[Qn];omega) rfl fun ks81 A81 _ _ K hA81 M=>?_;simp only[List.append_assoc,List.cons_append,List.nil_append,List.set_cons_zero,List.set_cons_succ]at M;refine Qc 4 K M ?_;intro _ K;replace B:=B.step M;rw[show(l-L2.length-1)=l-L3.length by have:=hnl;first|omega|(simp_all;done)|(simp_all;omega)]at B;have M:=B.mem;have hP3:=ON.pr hP2 Qe (show L2[rows.length]? =some q by rw[hrl];exact Vc htk hqi) (show Up a k q row.length=Up a k q c by rw[hrow]) hnum;exact⟨_,Qe,c+1,L3,vs3,Fv3,_,F3,(row++[((k3:Nat):Int)]),ks81,A81,rfl,(K.sub rfl),(B.step M).less (.cons _ (.refl _)),hP3,(by rw[List.length_append,hrow];rfl),Qe,(by have:=hnl;first|omega|(simp_all;done)|(simp_all;omega)),(by rw[hnum.take hi2,htk]),(by rw[JY];exact hA81)⟩
   refine QW ?_;show W _ _ _ _ _ _ _;refine Qc 2 K M ?_;intro _ K;refine Je (fun mm3 T st9=> ∃(j:Nat) (ac:Bool),mm3=q.length-j∧QZ [(1,iN k),(2,.ptr mp 0 0),(6,.ptr c6 0 0),(8,.ptr c8 0 0),(9,.ptr c9 0 0),(10,kl2),(11,iN i),(12,kw),(13,iN c),(16,.bool ac),(17,iN j),(43,.bool (decide (((i:Nat):Int)<((L.length:Nat):Int)))),(51,.bool (decide (((c:Nat):Int)<((2^(a.tr-1):Nat):Int))))] T∧Qk st (UZ mp l false).F st9 ((c9,0,[iZ (a.tr-1:Nat),ka4,kr4])::(c8,0,[iZ (a.tr:Nat),ka2,kn])::(c6,0,[iZ 0,.nils,.nils])::(c3,0,[iZ (a.tr:Nat),ka,kn])::(Ac++(Aa++(Ar++(Aw++[]))))) [EC Fr vsr rows,EC Fv2 vs2 L2,Wm Fl2 1 kl2 (Lt vs2),UZ mp (l-L2.length) false]∧j≤q.length∧ac=(q.take j).any (fun z=>IE YD z.toNat)) (fun mm3 T st9 hI=>?_) _ _ _ ⟨0,_,rfl,(K.sub rfl),(B.step M).less (.refl _),(Nat.zero_le _),(by rw[List.take_zero];rfl)⟩;obtain⟨j,ac,rfl,K,B,hjq,hac3⟩:=hI;have M:=B.mem;refine Qc 3 K M ?_;intro _ K;have hq85:=Vc htk hqi;obtain⟨w85,hv85,hr85,hz85,hf85⟩:=YR.at_ ((B.step M).at_ (k:=1) rfl) _ _ hq85;obtain⟨x85,m85,f85,q85,_,la85,lo85,lp85⟩:=(UX.rd ((B.step M).at_ (k:=2) rfl)).load (i:=i) (cs:=_) (KQ hv85);refine p1 K (Qb (j:=i) QY (congrArg some q85) rfl (by rw[Vb];have:=YR.ln ((B.step M).at_ (k:=1) rfl);omega)) fun _ K=>p1 K (Qd rfl (lo85 _ 0 _ Ja rfl)) fun _ K=>p1 K (Q8 Jr rfl rfl (hr85.len.trans (congrArg some (Qn _)))) fun _ K=>?_;refine Qc 1 K M ?_;intro _ K;refine JS K rfl (fun h88=>?_) fun h88=>?_
   ·refine Qc 0 K M ?_;intro _ K;refine QF (l:=[(0,0),(1,0),(2,0),(3,0),(4,0),(5,0),(6,0),(7,0),(8,0),(9,0),(10,0),(11,0),(12,0),(13,0),(14,0)]) (by kernel_rfl) ?_;refine q1 rfl K (Qg rfl) fun _ K=>?_;refine dB rfl K (Qg rfl) rfl rfl fun b92 _ e92 K=>?_;cases b92
    ·refine Jc 4 K M ?_;intro _ K;have hq97:=Vc htk hqi;obtain⟨w97,hv97,hr97,hz97,hf97⟩:=YR.at_ ((B.step M).at_ (k:=1) rfl) _ _ hq97;obtain⟨x97,m97,f97,q97,_,la97,lo97,lp97⟩:=(UX.rd ((B.step M).at_ (k:=2) rfl)).load (i:=i) (cs:=_) (KQ hv97);refine dg rfl K rfl rfl (Qb (j:=i) QY (congrArg some q97) rfl (by rw[Vb];have:=YR.ln ((B.step M).at_ (k:=1) rfl);omega)) rfl rfl fun _ K=>dg rfl K rfl rfl (Qd rfl (lo97 _ 0 _ Ja rfl)) rfl rfl fun _ K=>?_;refine Jc 1 K M ?_;intro _ K;obtain⟨y100,hi100⟩:=U9 q j Qe;have hb100:=hqS.2 y100 (List.mem_of_getElem? hi100);obtain⟨z100,rfl⟩: ∃m:Nat,y100=((m:Nat):Int):=⟨_,(Int.toNat_of_nonneg hb100.1).symm⟩;obtain⟨x100,m100,f100,q100,_,la100,lo100,lp100⟩:=(YR.rowAt ((B.step M).at_ (k:=1) rfl) hq97 hv97).load (i:=j) (cs:=_) (Jt hi100);refine dg rfl K rfl rfl (Qb (j:=j) Qw (congrArg some q100) rfl (by rw[Qn];omega)) rfl rfl fun _ K=>dg rfl K rfl rfl (Qd rfl (lo100 _ 0 _ Qr rfl)) rfl rfl fun _ K=>?_;obtain⟨y102,hi102⟩:=U9 YD z100 Qe;obtain⟨x102,m102,f102,q102,_,la102,lo102,lp102⟩:=(Mem.Yl (L:=[(c9,0,[iZ (a.tr-1:Nat),ka4,kr4]),(c8,0,[iZ (a.tr:Nat),ka2,kn]),(c6,0,[iZ 0,.nils,.nils]),(c3,0,[iZ (a.tr:Nat),ka,kn])]) (A:=Ac) (B:=(Aa++(Ar++(Aw++[])))) M hAc).load (i:=z100) (cs:=_) (VD hi102);refine dg rfl K rfl rfl (Qb (j:=z100) Jx (congrArg some q102) rfl (by rw[Jy];omega)) rfl rfl fun _ K=>dg rfl K rfl rfl (Qd rfl (lo102 _ 0 _ J0 rfl)) rfl rfl fun _ K=>?_;refine Jc 2 K M ?_;intro _ K;refine QH ?_;show W _ _ _ _ _ _ _;refine Qc 3 K M ?_;intro _ K;exact⟨_,Qe,j+1,_,rfl,(K.sub rfl),(B.step M).less (.refl _),Qe,(by first|(rw[Pu hi100,Int.toNat_natCast,uZ hi102,←hac3];simp_all;done)|exact(Pv (hac3.symm.trans e92)).symm)⟩
    refine JR rfl K rfl rfl rfl rfl fun _ _ K=>JR rfl K rfl rfl rfl rfl fun _ _ K=>JR rfl K rfl rfl rfl rfl fun _ _ K=>JR rfl K rfl rfl rfl rfl fun _ _ K=>JR rfl K rfl rfl rfl rfl fun _ _ K=>JR rfl K rfl rfl rfl rfl fun _ _ K=>JR rfl K rfl rfl rfl rfl fun _ _ K=>JR rfl K rfl rfl rfl rfl fun _ _ K=>JR rfl K rfl rfl rfl rfl fun _ _ K=>?_;refine JR rfl K rfl rfl rfl rfl fun _ _ K=>JR rfl K rfl rfl rfl rfl fun _ _ K=>?_;refine Jc 2 K M ?_;intro _ K;refine QH ?_;show W _ _ _ _ _ _ _;refine Qc 3 K M ?_;intro _ K;exact⟨_,Qe,j+1,_,rfl,(K.sub rfl),(B.step M).less (.refl _),Qe,(by first|(rw[Pu hi100,Int.toNat_natCast,uZ hi102,←hac3];simp_all;done)|exact(Pv (hac3.symm.trans e92)).symm)⟩
   refine QW ?_;show W _ _ _ _ _ _ _;refine au 4 K M ?_;intro c108 _ _ K _ M;refine Jg (k2:=0) (L:=((c108,0,[.bool ac])::(c9,0,[iZ (a.tr-1:Nat),ka4,kr4])::(c8,0,[iZ (a.tr:Nat),ka2,kn])::(c6,0,[iZ 0,.nils,.nils])::(c3,0,[iZ (a.tr:Nat),ka,kn])::(Ac++[]))) (A:=Aa) (B:=(Ar++(Aw++[]))) K (Mem.cast (M:=((c108,0,[.bool ac])::(c9,0,[iZ (a.tr-1:Nat),ka4,kr4])::(c8,0,[iZ (a.tr:Nat),ka2,kn])::(c6,0,[iZ 0,.nils,.nils])::(c3,0,[iZ (a.tr:Nat),ka,kn])::(Ac++(Aa++(Ar++(Aw++[])))))) (M':=((c108,0,[.bool ac])::(c9,0,[iZ (a.tr-1:Nat),ka4,kr4])::(c8,0,[iZ (a.tr:Nat),ka2,kn])::(c6,0,[iZ 0,.nils,.nils])::(c3,0,[iZ (a.tr:Nat),ka,kn])::(Ac++[]))++(Aa++(Ar++(Aw++[])))) M Uu) hAa J5 rfl rfl rfl rfl (by rw[Jy,List.length_map,List.length_take];omega) rfl fun ks109 A109 _ _ K hA109 M=>?_;simp only[List.append_assoc,List.cons_append,List.nil_append,List.set_cons_zero,List.set_cons_succ]at M;refine Qc 1 K M ?_;intro _ K;refine Jj (k:=1) K M rfl rfl rfl UF (hA109.cell) rfl fun _ M=>?_;refine Qc 1 K M ?_;intro _ K;refine p1 K (Qd rfl (M.load (k:=1) rfl (Qf Q6 rfl))) fun _ K=>?_;refine Qc 1 K M ?_;intro _ K;refine ZV K M QU Uv rfl ((JC rfl hAw.cell rfl).trans rfl) (Qa hAw.cell Qz) rfl rfl fun c114 _ _ K M=>?_;refine YL (k2:=0) (L:=((c114,0,[kw])::(c108,0,[.bool ac])::(c9,0,[iZ (a.tr-1:Nat),ks109,kr4])::(c8,0,[iZ (a.tr:Nat),ka2,kn])::(c6,0,[iZ 0,.nils,.nils])::(c3,0,[iZ (a.tr:Nat),ka,kn])::(Ac++(A109++[])))) (A:=Ar) (B:=(Aw++[])) K (Mem.cast (M:=((c114,0,[kw])::(c108,0,[.bool ac])::(c9,0,[iZ (a.tr-1:Nat),ks109,kr4])::(c8,0,[iZ (a.tr:Nat),ka2,kn])::(c6,0,[iZ 0,.nils,.nils])::(c3,0,[iZ (a.tr:Nat),ka,kn])::(Ac++(A109++(Ar++(Aw++[])))))) (M':=((c114,0,[kw])::(c108,0,[.bool ac])::(c9,0,[iZ (a.tr-1:Nat),ks109,kr4])::(c8,0,[iZ (a.tr:Nat),ka2,kn])::(c6,0,[iZ 0,.nils,.nils])::(c3,0,[iZ (a.tr:Nat),ka,kn])::(Ac++(A109++[])))++(Ar++(Aw++[]))) M Uu) hAr QU rfl rfl rfl (by have:=(YR.ln ((B.step M).at_ (k:=0) rfl));omega) rfl fun ks115 A115 _ _ K hA115 _ M=>?_;simp only[List.append_assoc,List.cons_append,List.nil_append,List.set_cons_zero,List.set_cons_succ]at M;refine Qc 1 K M ?_;intro _ K;refine Jj (k:=2) K M rfl rfl rfl Uz (hA115.cell) rfl fun _ M=>?_;refine Qc 3 K M ?_;intro _ K;replace B:=B.step M;obtain⟨Fr,B⟩:=Qk.ZF (L:=((c114,0,[kw])::(c108,0,[.bool ac])::(c9,0,[iZ (a.tr-1:Nat),ks109,ks115])::(c8,0,[iZ (a.tr:Nat),ka2,kn])::(c6,0,[iZ 0,.nils,.nils])::(c3,0,[iZ (a.tr:Nat),ka,kn])::(Ac++(A109++(A115++[]))))) (A:=Aw) (B:=[]) (B.cast Uu) hAw (hP2.AU hL2);replace B:=B.cast (M':=((c114,0,[kw])::(c108,0,[.bool ac])::(c9,0,[iZ (a.tr-1:Nat),ks109,ks115])::(c8,0,[iZ (a.tr:Nat),ka2,kn])::(c6,0,[iZ 0,.nils,.nils])::(c3,0,[iZ (a.tr:Nat),ka,kn])::(Ac++(A109++(A115++[]))))) Uu;have M:=B.mem;have hi2:=Uy htk Qe
   have htq:L2.take (i+1)=L2.take i++[q]:=by rw[List.take_add_one,Vc htk hqi];rfl
   have hti:L2.take i=L.take i:=by have:=congrArg (fun l=>l.take i) htk;simpa [List.take_take,Nat.min_eq_left]using this
   have hany:ac=anyS YD q:=by rw[hac3,List.take_of_length_le Qe];rfl
   exact⟨_,Qe,i+1,L2,vs2,Fv2,kl2,Fl2,(rows++[row]),_,_,ks109,A109,ks115,A115,rfl,(K.sub rfl),(B.step M).less (.cons _ (.cons _ (.refl _))),(hP2.whole Qe),(by rw[List.length_append,hrl];rfl),hi2,hL2,(by rw[htq,hti,List.map_append,XS,show bC ([q].map (anyS YD))=[[AV.bool (anyS YD q)]]from rfl,←hany];exact hA109),hA115⟩
  refine QW ?_;show W _ _ _ _ _ _ _;refine Qc 1 K M ?_;intro _ K;refine QS (k:=2) K M rfl rfl rfl QC rfl (Qa rfl (Qa hAa.cell (Qa hAr.cell Qz))) rfl fun _ M=>?_;refine Qc 1 K M ?_;intro _ K;refine Jz ⟨.inr rfl,_,(Ud (JG K rfl (M.load (k:=2) rfl (QG QQ rfl))) (Q9 K rfl)),?_⟩;have hlt:L.take i=L:=List.take_of_length_le Qe;rw[hlt]at hAa;have hMd:=hP.made (p:=anyS YD) (m:=⟨a.tr-1,L.map (anyS YD),rows⟩) (by show rows.length=_;omega) rfl (by show a.tr-1≤6;omega) hL;replace B:=B.step M;obtain⟨F',B'⟩:=Qk.GR (L:=((c9,0,[iZ (a.tr-1:Nat),ka4,kr4])::(c8,0,[iZ (a.tr:Nat),ka2,kn])::(c6,0,[iZ (a.tr-1:Nat),ka4,kr4])::(c3,0,[iZ (a.tr:Nat),ka,kn])::(Ac++Aa))) (A:=Ar) (B:=[]) (B.cast Uu) hAr;exact⟨⟨YD,hcl,.inl ⟨_,L,⟨a.tr-1,L.map (anyS YD),rows⟩,rfl,rfl,hMd,Qk.C5 (a:=⟨a.tr-1,L.map (anyS YD),rows⟩) (om:=UZ mp (l-L.length) false) (Os:=[]) (M:=((c9,0,[iZ (a.tr-1:Nat),ka4,kr4])::(c8,0,[iZ (a.tr:Nat),ka2,kn])::(c6,0,[iZ (a.tr-1:Nat),ka4,kr4])::(c3,0,[iZ (a.tr:Nat),ka,kn])::Ac)) (A:=Aa) ((B'.Nq (.cons_cons _ (.cons _ (.cons _ (.refl _))))).cast QA) (fun c hc=>hc) hAa⟩⟩,B.JO⟩
 refine au 9 K M ?_;intro _ _ K _ M;refine Jz ⟨.inr rfl,_,(Ud (JG K rfl (M.load (k:=0) rfl (QG QQ rfl))) (Q9 K rfl)),?_⟩
 exfalso;omega
end Go.Proofs.YtiknomepbklibaaGreatDoor
end
section
namespace Go.Proofs.YtiknomepbklibaaGreatDoor
variable {s:Nat}

def Jp(o:List Nat)(n s:Nat)(x y z:Bool):Int:=
 if o=[116,114,117,101]then 0
 else if o=[115,117,98]then(if(!x||y)=true then 0 else-1)
 else if o=[110,111,110,101]then(if(!x)=true then 0 else-1)
 else if o=[117,110,105,111,110]then(if(z==(x||y))=true then 0 else-1)
 else if o=[105,110,116,101,114]then(if(z==(x&&y))=true then 0 else-1)
 else if o=[109,105,110,117,115]then(if(z==(x&& !y))=true then 0 else-1)
 else if o=[115,105,110,103]then(if x=false then((s:Nat):Int)else if s=0 then 1 else-1)
 else if o=[102,108,97,103]then(if s=1∨x=true then 1 else-1)
 else if o=[108,101,115,115]then(if x=false∧y=false then((s:Nat):Int)else if s=0∧x=true∧y=false then 1 else if s=1∧y=true∧x=false then 2 else-1)
 else if o=[112,108,117,115]then(if s=0∧x=true∧y=decide (n=0)then 1 else if(s=0∧x=false∧y=false)∨(s=n+1∧x=false∧y=false)then((s:Nat):Int)else if 0<s∧s<n+1∧x=false∧y=decide (s=n)then((s+1:Nat):Int)else-1)
 else(if s<n+1∧x=decide (s=n)then((s+1:Nat):Int)else if s=n+1∧x=false then((n+1:Nat):Int)else-1)
def QT(o:List Nat)(n:Nat):Nat:=
 if o=[115,105,110,103]∨o=[102,108,97,103]then 1 else if o=[108,101,115,115]then 2 else if o=[112,108,117,115]∨o=[110,117,109]then n+1 else 0
abbrev Qp(o:List Nat)(n:Nat):Nat:=QT o n+1
def Wo(o:List Nat):Prop:=o=[116,114,117,101]∨o=[115,117,98]∨o=[110,111,110,101]∨o=[117,110,105,111,110]∨o=[105,110,116,101,114]∨o=[109,105,110,117,115]∨o=[115,105,110,103]∨o=[102,108,97,103]∨o=[108,101,115,115]∨o=[112,108,117,115]∨o=[110,117,109]
def Vj(b:Bool):Nat:=if b then 1 else 0
theorem qH{o:List Nat}(h:Wo o){n:Nat}(hn:n≤20)(hs:s<Qp o n)(x y z:Bool):(Jp o n s x y z= -1∧QV o n s (Vj x) (Vj y) (Vj z)=30)∨ ∃t:Nat,Jp o n s x y z=((t:Nat):Int)∧t<Qp o n∧QV o n s (Vj x) (Vj y) (Vj z)=t:=by
 have hst:Qp o n≤22:=by unfold Qp QT;split<;>(try split)<;>(try split)<;>omega
 have h30: ¬s=30:=by omega
 rcases h with rfl|rfl|rfl|rfl|rfl|rfl|rfl|rfl|rfl|rfl|rfl
 ·clear hst;simp[Qp,QT]at hs;simp only[Jp,QV,Qp,QT,if_neg h30];cases x<;>cases y<;>cases z<;>simp[Vj]<;>first|omega|(rcases(show s=0∨s=1∨s=2 by omega)with rfl|rfl|rfl<;>first|omega|(simp;done)|simp_all)|simp_all
 ·clear hst;simp[Qp,QT]at hs;simp only[Jp,QV,Qp,QT,if_neg h30];cases x<;>cases y<;>cases z<;>simp[Vj]<;>first|omega|(rcases(show s=0∨s=1∨s=2 by omega)with rfl|rfl|rfl<;>first|omega|(simp;done)|simp_all)|simp_all
 ·clear hst;simp[Qp,QT]at hs;simp only[Jp,QV,Qp,QT,if_neg h30];cases x<;>cases y<;>cases z<;>simp[Vj]<;>first|omega|(rcases(show s=0∨s=1∨s=2 by omega)with rfl|rfl|rfl<;>first|omega|(simp;done)|simp_all)|simp_all
 ·clear hst;simp[Qp,QT]at hs;simp only[Jp,QV,Qp,QT,if_neg h30];cases x<;>cases y<;>cases z<;>simp[Vj]<;>first|omega|(rcases(show s=0∨s=1∨s=2 by omega)with rfl|rfl|rfl<;>first|omega|(simp;done)|simp_all)|simp_all
 ·clear hst;simp[Qp,QT]at hs;simp only[Jp,QV,Qp,QT,if_neg h30];cases x<;>cases y<;>cases z<;>simp[Vj]<;>first|omega|(rcases(show s=0∨s=1∨s=2 by omega)with rfl|rfl|rfl<;>first|omega|(simp;done)|simp_all)|simp_all
 ·clear hst;simp[Qp,QT]at hs;simp only[Jp,QV,Qp,QT,if_neg h30];cases x<;>cases y<;>cases z<;>simp[Vj]<;>first|omega|(rcases(show s=0∨s=1∨s=2 by omega)with rfl|rfl|rfl<;>first|omega|(simp;done)|simp_all)|simp_all
 ·clear hst;simp[Qp,QT]at hs;simp only[Jp,QV,Qp,QT,if_neg h30];cases x<;>cases y<;>cases z<;>simp[Vj]<;>first|omega|(rcases(show s=0∨s=1∨s=2 by omega)with rfl|rfl|rfl<;>first|omega|(simp;done)|simp_all)|simp_all
 ·clear hst;simp[Qp,QT]at hs;simp only[Jp,QV,Qp,QT,if_neg h30];cases x<;>cases y<;>cases z<;>simp[Vj]<;>first|omega|(rcases(show s=0∨s=1∨s=2 by omega)with rfl|rfl|rfl<;>first|omega|(simp;done)|simp_all)|simp_all
 ·clear hst;simp[Qp,QT]at hs;simp only[Jp,QV,Qp,QT,if_neg h30];cases x<;>cases y<;>cases z<;>simp[Vj]<;>first|omega|(rcases(show s=0∨s=1∨s=2 by omega)with rfl|rfl|rfl<;>first|omega|(simp;done)|simp_all)|simp_all
 ·simp[Qp,QT]at hs;simp only[Jp,QV,Qp,QT,if_neg h30];rcases(show(s=0∧n=0)∨(s=0∧0<n)∨(0<s∧s<n)∨(0<s∧s=n)∨s=n+1 by omega)with⟨rfl,rfl⟩|⟨rfl,h1⟩|⟨h1,h2⟩|⟨h1,rfl⟩|rfl
  ·cases x<;>cases y<;>simp[Vj]
  ·have e1: ¬n=0:=by omega
   cases x<;>cases y<;>simp[Vj,e1]<;>omega
  ·have e1: ¬s=0:=by omega
   have e2: ¬s=n+1:=by omega
   have e3: ¬s=n:=by omega
   have e4:s<n+1:=by omega
   cases x<;>cases y<;>simp[Vj,e1,e2,e3,e4,h1,h2]<;>first|omega|exact⟨s+1,rfl,by omega,rfl⟩|exact⟨s+1,by omega,by omega,by omega⟩
  ·have e1: ¬s=0:=by omega
   cases x<;>cases y<;>simp[Vj,e1,h1]<;>first|omega|exact⟨s+1,rfl,by omega,rfl⟩|exact⟨s+1,by omega,by omega,by omega⟩
  ·cases x<;>cases y<;>simp[Vj]<;>first|omega|exact⟨n+1,by omega,by omega,by omega⟩
 ·simp[Qp,QT]at hs;simp only[Jp,QV,Qp,QT,if_neg h30];rcases(show s<n∨s=n∨s=n+1 by omega)with h1|rfl|rfl
  ·have e2: ¬s=n+1:=by omega
   have e3: ¬s=n:=by omega
   have e4:s<n+1:=by omega
   have e5: ¬n<s:=by omega
   cases x<;>simp[Vj,e2,e3,e4,e5,h1]<;>first|omega|exact⟨s+1,by omega,by omega,by omega⟩
  ·cases x<;>simp[Vj]<;>first|omega|exact⟨s+1,by omega,by omega,by omega⟩
  ·cases x<;>simp[Vj]<;>first|omega|exact⟨n+1,by omega,by omega,by omega⟩
theorem Ch(l v:Nat):Vj (decide (((Ci l v:Nat):Int)=1))=Ci l v:=by
 have h:Ci l v=0∨Ci l v=1:=by unfold Ci;omega
 rcases h with h|h<;>rw[h]<;>rfl
abbrev YI(l v:Nat):Bool:=decide (((Ci l v:Nat):Int)=1)
def E6(o:List Nat)(n a b d s l:Nat):Nat:=if s<Qp o n then(if Jp o n s (YI l a) (YI l b) (YI l d)= -1 then Qp o n else(Jp o n s (YI l a) (YI l b) (YI l d)).toNat)else Qp o n
def PK(o:List Nat)(n a b d k s:Nat):List Int:=(List.range (2^k)).map fun l=>((E6 o n a b d s l:Nat):Int)
def Vw(o:List Nat)(a b d n k:Nat):Au:=⟨k,(List.range (Qp o n+1)).map fun s=>decide (((s:Nat):Int)=((QT o n:Nat):Int)),(List.range (Qp o n+1)).map (PK o n a b d k)⟩
section
variable {o:List Nat} {a b d n k:Nat}
theorem EX(n:Nat)(hn:n≤20):QT o n≤21:=by unfold QT;split<;>(try split)<;>(try split)<;>omega
theorem Bh:(Vw o a b d n k).n=Qp o n+1:=by simp[Vw,Au.n]
theorem qY{l:Nat}(hs:s<Qp o n+1)(hl:l<2^k):(Vw o a b d n k).go s l=E6 o n a b d s l:=by
 unfold Au.go Vw PK;simp only[List.getElem?_map,List.getElem?_range hs,Option.map_some,Option.getD_some,List.getElem?_range hl,Int.toNat_natCast]
theorem qX(hs:s<Qp o n+1):(Vw o a b d n k).ok s=decide (((s:Nat):Int)=((QT o n:Nat):Int)):=by
 unfold Au.ok Vw;simp only[List.getElem?_map,List.getElem?_range hs,Option.map_some,Option.getD_some]
def Co(o:List Nat)(n s t:Nat):Prop:=(s=t∧s<Qp o n)∨(s=Qp o n∧t=30)
theorem Co.step(h:Wo o)(hn:n≤20){t:Nat}(R:Co o n s t)(l:Nat):Co o n (E6 o n a b d s l) (Hm o n a b d t l):=by
 have hl:=EX (o:=o) n hn;have hsp:Qp o n=QT o n+1:=rfl;rcases R with⟨rfl,hs⟩|⟨rfl,rfl⟩
 ·unfold E6 Hm;rw[if_pos hs,←Ch l a,←Ch l b,←Ch l d];rcases qH h hn hs (YI l a) (YI l b) (YI l d)with⟨h1,h2⟩|⟨t,h1,h2,h3⟩
  ·rw[if_pos h1,h2];exact .inr ⟨rfl,rfl⟩
  ·rw[h1,if_neg Qe,h3,Int.toNat_natCast];exact .inl ⟨by omega,h2⟩
 ·unfold E6 Hm QV;rw[if_neg (Nat.lt_irrefl _),if_pos rfl];exact .inr ⟨rfl,rfl⟩
theorem jz(h:Wo o)(hn:n≤20)(s l:Nat):E6 o n a b d s l<Qp o n+1:=by
 by_cases hs:s<Qp o n
 ·rcases Co.step (a:=a) (b:=b) (d:=d) h hn (.inl ⟨rfl,hs⟩:Co o n s s) l with⟨_,h1⟩|⟨h1,_⟩<;>omega
 ·unfold E6;rw[if_neg hs];omega
theorem qW(h:Wo o)(hn:n≤20)(hk:k≤6):Zt (Vw o a b d n k):=by
 have hl:=EX (o:=o) n hn;have hsp:Qp o n=QT o n+1:=rfl;refine⟨hk,by rw[Bh];omega,by rw[Bh];omega,by simp[Vw,Au.n],fun r hr=>?_⟩;obtain⟨s,_,rfl⟩:=List.mem_map.1 hr;refine⟨by simp[PK,Vw,Au.K],fun z hz=>?_⟩;obtain⟨l,_,rfl⟩:=List.mem_map.1 hz;have:=jz (a:=a) (b:=b) (d:=d) h hn s l;rw[Bh];omega
theorem Co.ok(h:Wo o)(hn:n≤20){t:Nat}(R:Co o n s t):decide (((s:Nat):Int)=((QT o n:Nat):Int))=Xj o n t:=by
 have hl:=EX (o:=o) n hn;have hsp:Qp o n=QT o n+1:=rfl;rcases R with⟨rfl,hs⟩|⟨rfl,rfl⟩
 ·unfold Xj;rw[if_neg Qe]
  rcases h with rfl|rfl|rfl|rfl|rfl|rfl|rfl|rfl|rfl|rfl|rfl<;>simp[Qp,QT]at hs ⊢ <;>first|omega|(rw[decide_eq_decide];omega)
 ·unfold Xj;rw[if_pos rfl,decide_eq_false Qe]
theorem PV(h:Wo o)(hn:n≤20):XL (Vw o a b d n k) (Xp o a b d n k) 0 0:=fun w hw=>by
 have key: ∀(w:List Nat) (s t:Nat),OO (2^k) w→Co o n s t→t<31→Co o n ((Vw o a b d n k).run s w) ((Xp o a b d n k).run t w):=by
  intro w
  induction w with
  |nil=>intro s t _ R _;exact R
  |cons c w ih=>
   intro s t hw R ht
   have hs:s<Qp o n+1:=by rcases R with⟨_,h1⟩|⟨h1,_⟩<;>omega
   rw[Au.CR,Au.CR,qY hs (hw c QA),yn ht (hw c QA)];exact ih _ _ (fun x hx=>hw x (by simp[hx])) (R.step h hn c) (L5 _ _)
 have R:=key w 0 0 hw (.inl ⟨rfl,Nat.succ_pos _⟩) QE;have hl:=EX (o:=o) n hn;have hsp:Qp o n=QT o n+1:=rfl
 have hs:(Vw o a b d n k).run 0 w<Qp o n+1:=by rcases R with⟨_,h1⟩|⟨h1,_⟩<;>omega
 have ht:(Xp o a b d n k).run 0 w<31:=by rcases R with⟨h1,h2⟩|⟨_,h1⟩<;>omega
 rw[qX hs,ym ht,R.ok h hn]
theorem JA.trans{x y m:Au}(h:JA x m)(hl:XL x y 0 0)(ht:y.tr=x.tr):JA y m:=
 ⟨h.canon,fun w hw=>by rw[h.like w hw];exact hl w (H7 h.tr hw),h.tr.trans ht.symm⟩
theorem JA.atom(h:Wo o)(hn:n≤20){m:Au}(hm:JA (Vw o a b d n k) m):JA (Xp o a b d n k) m:=hm.trans (PV h hn) rfl
end
end Go.Proofs.YtiknomepbklibaaGreatDoor
end
section
namespace Go.Proofs.YtiknomepbklibaaGreatDoor
variable {s:Nat}

def Ua:List Int→List Int→List Int
 |seen,[]=>seen
 |seen,x::xs=>if x∈seen then Ua seen xs else Ua (seen++[x]) xs
theorem AA: ∀(xs seen:List Int),(Ua seen xs).length≤seen.length+xs.length
 |[],seen=>by simp[Ua]
 |x::xs,seen=>by
  rw[Ua]
  split
  ·have:=AA xs seen;simp only[List.length_cons];omega
  ·have:=AA xs (seen++[x]);simp only[List.length_cons,List.length_append,List.length_nil]at this ⊢;omega
theorem KZ: ∀(xs seen:List Int) {x:Int} {i:Nat},seen.Nodup→(Ua seen xs)[i]? =some x→Ug seen (xs++[x])=Ug seen xs++[((i:Nat):Int)]∧Ua seen (xs++[x])=Ua seen xs
 |[],seen,x,i,hn,h=>by
  have h:seen[i]? =some x:=h;have hm:=List.mem_of_getElem? h
  have hi:seen.idxOf x=i:=by
   have hlt:=List.idxOf_lt_length_of_mem hm;exact(List.getElem?_inj hlt hn).1 (by rw[List.getElem?_eq_getElem hlt,List.getElem_idxOf,h])
  rw[List.nil_append];unfold Ug Ua;rw[if_pos hm,if_pos hm,hi];exact⟨rfl,rfl⟩
 |y::xs,seen,x,i,hn,h=>by
  rw[Ua]at h;rw[List.cons_append,Ug,Ug,Ua,Ua]
  split at h
  ·rename_i hy;obtain⟨h1,h2⟩:=KZ xs seen hn h;rw[if_pos hy,if_pos hy,if_pos hy,if_pos hy,h1,h2];exact⟨rfl,rfl⟩
  ·rename_i hy;have hn':(seen++[y]).Nodup:=List.nodup_append.2 ⟨hn,by simp,fun a ha b hb e=>by rw[List.mem_singleton]at hb;subst hb e;exact hy ha⟩;obtain⟨h1,h2⟩:=KZ xs _ hn' h;rw[if_neg hy,if_neg hy,if_neg hy,if_neg hy,h1,h2];exact⟨rfl,rfl⟩
theorem La: ∀(xs seen:List Int) {x:Int},x∉Ua seen xs→Ug seen (xs++[x])=Ug seen xs++[(((Ua seen xs).length:Nat):Int)]∧Ua seen (xs++[x])=Ua seen xs++[x]
 |[],seen,x,h=>by
  have h:x∉seen:=h;rw[List.nil_append];unfold Ug Ua;rw[if_neg h,if_neg h];exact⟨rfl,rfl⟩
 |y::xs,seen,x,h=>by
  rw[Ua]at h;rw[List.cons_append,Ug,Ug,Ua,Ua]
  split at h
  ·rename_i hy;obtain⟨h1,h2⟩:=La xs seen h;rw[if_pos hy,if_pos hy,if_pos hy,if_pos hy,h1,h2];exact⟨rfl,rfl⟩
  ·rename_i hy;obtain⟨h1,h2⟩:=La xs _ h;rw[if_neg hy,if_neg hy,if_neg hy,if_neg hy,h1,h2];exact⟨rfl,rfl⟩
theorem BU{l:List Int}{x:Int}(h:s<l.length):cv (l++[x]) s=cv l s:=by unfold cv;rw[List.getElem?_append_left h]
theorem BT(l:List Int)(x:Int):cv (l++[x]) l.length=x:=by unfold cv;rw[List.getElem?_append_right (Nat.le_refl _),Nat.sub_self];rfl
theorem Dm(n:Nat): ∀xs:List Int,xs.length=n→IL n (Ug [] xs) (Ua [] xs).length:=by
 induction n with
 |zero=>
  intro xs h;have:=List.eq_nil_of_length_eq_zero h;subst this;exact⟨fun s hs=>absurd hs (Nat.not_lt_zero s),fun v hv=>absurd hv (Nat.not_lt_zero v)⟩
 |succ n ih=>
  intro xs h;obtain⟨ys,x,rfl⟩: ∃ys x,xs=ys++[x]:=⟨xs.dropLast,xs.getLast (by intro e;subst e;simp at h),(List.dropLast_concat_getLast _).symm⟩
  have hl:ys.length=n:=by simpa using h
  obtain⟨h1,h2⟩:=ih ys hl
  have hnl:(Ug [] ys).length=n:=by rw[XF];exact hl
  by_cases hx:x∈Ua [] ys
  ·obtain⟨i,hi⟩:=List.getElem?_of_mem hx;have hlt:=(List.getElem?_eq_some_iff.1 hi).1;obtain⟨e1,e2⟩:=KZ ys [] List.nodup_nil hi;rw[e1,e2];refine⟨fun s hs=>?_,fun v hv=>?_⟩
   ·by_cases hsn:s<n
    ·rw[BU Qe];exact h1 s hsn
    ·have:s=(Ug [] ys).length:=by omega
     rw[this,BT];omega
   ·obtain⟨s,k1,k2⟩:=h2 v hv;exact⟨s,by omega,by rw[BU Qe];exact k2⟩
  ·obtain⟨e1,e2⟩:=La ys [] hx;rw[e1,e2,List.length_append,List.length_singleton];refine⟨fun s hs=>?_,fun v hv=>?_⟩
   ·by_cases hsn:s<n
    ·rw[BU Qe];have:=h1 s hsn;omega
    ·have:s=(Ug [] ys).length:=by omega
     rw[this,BT];omega
   ·by_cases hvl:v<(Ua [] ys).length
    ·obtain⟨s,k1,k2⟩:=h2 v hvl;exact⟨s,by omega,by rw[BU Qe];exact k2⟩
    ·refine⟨n,Nat.lt_succ_self n,?_⟩;rw[←hnl,BT];omega
theorem RB{α:Type}{l:List α}{f:α→Int}{x:α}(h:l[s]? =some x):cv (l.map f) s=f x:=by unfold cv;rw[List.getElem?_map,h];rfl
theorem jg{n r q c d:Int}(hc:0≤c∧c<n)(hd:0≤d∧d<n):(r *n+c=q *n+d)↔r=q∧c=d:=by
 refine⟨fun h=>?_,fun⟨h1,h2⟩=>by rw[h1,h2]⟩
 have e:(r-q) *n=d-c:=by rw[Int.sub_mul];omega
 have hrq:r=q:=by
  rcases Int.lt_trichotomy r q with h1|h1|h1
  ·exfalso
   have:=Int.mul_le_mul_of_nonneg_right (show r-q≤ -1 by omega) (show 0≤n by omega);omega
  ·exact h1
  ·exfalso
   have:=Int.mul_le_mul_of_nonneg_right (show 1≤r-q by omega) (show 0≤n by omega);omega
 subst hrq;exact⟨rfl,by omega⟩
structure VF(a:Au)(cl:List Int)(ls:List Nat)(rows:List (List Int))(row:List Int):Prop where
 pr:Vr (ID a cl) (cv cl 0) (2^a.tr) (ls.map (cv cl)) rows row
 lt: ∀s∈ls,s<a.n
section
variable {a:Au} {cl:List Int} {ls:List Nat} {rows:List (List Int)} {row:List Int}
theorem VF.le(H:VF a cl ls rows row)(hr: ∀s,s<a.n→0≤cv cl s∧cv cl s<((a.n:Nat):Int)):ls.length≤a.n:=by
 have h:=Xb (b:=(List.range a.n).map fun z=>((z:Nat):Int)) H.pr.nodup fun x hx=>by
  obtain⟨s,hs,rfl⟩:=List.mem_map.1 hx;have:=hr s (H.lt s hs);exact List.mem_map.2 ⟨(cv cl s).toNat,List.mem_range.2 Qe,by omega⟩
 simpa using h
theorem VF.start(W:Zt a):VF a cl [0] [] []:=⟨Vr.start _ _ _,fun s hs=>by rw[List.mem_singleton.1 hs];exact W.pos⟩
theorem VF.next(W:Zt a)(hc:ZS a cl){y:Nat}(hs:ls[rows.length]? =some s)(hls:s<a.n)(hr:row.length<2^a.tr)(hy:a.go s row.length=y):(ls.map (cv cl))[rows.length]? =some (cv cl s)∧ID a cl (cv cl s) row.length=cv cl y:=by
 refine⟨by rw[List.getElem?_map,hs];rfl,?_⟩;rw[Li (hc.Il W) hls hr,hy]
theorem VF.new(H:VF a cl ls rows row)(W:Zt a)(hc:ZS a cl){s y:Nat}(hs:ls[rows.length]? =some s)(hr:row.length<2^a.tr)(hy:a.go s row.length=y)(hyn:y<a.n)(hn:cv cl y∉ls.map (cv cl)):VF a cl (ls++[y]) rows (row++[((ls.length:Nat):Int)]):=by
 obtain⟨h1,h2⟩:=VF.next W hc hs (H.lt s (List.mem_of_getElem? hs)) hr hy;have h4:=H.pr.new hr h1 (by rw[h2];exact hn);rw[h2,List.length_map]at h4;refine⟨by rw[List.map_append];exact h4,fun t ht=>?_⟩;rcases List.mem_append.1 ht with ht|ht
 ·exact H.lt t ht
 ·rw[List.mem_singleton.1 ht];exact hyn
theorem VF.J8(H:VF a cl ls rows row)(W:Zt a)(hc:ZS a cl){s y j:Nat}(hs:ls[rows.length]? =some s)(hr:row.length<2^a.tr)(hy:a.go s row.length=y)(hj:(ls.map (cv cl))[j]? =some (cv cl y)):VF a cl ls rows (row++[((j:Nat):Int)]):=by
 obtain⟨h1,h2⟩:=VF.next W hc hs (H.lt s (List.mem_of_getElem? hs)) hr hy;exact⟨H.pr.J8 hr h1 (by rw[h2];exact hj),H.lt⟩
theorem VF.whole(H:VF a cl ls rows row)(hr:row.length=2^a.tr):VF a cl ls (rows++[row]) []:=⟨H.pr.whole hr,H.lt⟩
theorem VF.made(H:VF a cl ls rows [])(W:Zt a)(hc:ZS a cl)(hn:ls.length≤400)(hl:rows.length=ls.length):Uw (ID a cl) (cv cl 0) (Pc a cl) (ls.map (cv cl)) ⟨a.tr,ls.map a.ok,rows⟩:=by
 refine H.pr.made (m:=⟨a.tr,ls.map a.ok,rows⟩) (by rw[List.length_map];exact hl) ?_ W.tr (by rw[List.length_map];exact hn);show ls.map a.ok=(ls.map (cv cl)).map (Pc a cl);rw[List.map_map];exact List.map_congr_left fun s hs=>(BZ hc (H.lt s hs)).symm
theorem VF.least(H:VF a cl ls rows [])(W:Zt a)(hc:ZS a cl)(hn:ls.length≤400)(hl:rows.length=ls.length):JA a ⟨a.tr,ls.map a.ok,rows⟩:=by
 obtain⟨h1,h2⟩:=Gk (m:=⟨a.tr,ls.map a.ok,rows⟩) W hc rfl (H.made W hc hn hl);exact⟨h1,h2,rfl⟩
end
end Go.Proofs.YtiknomepbklibaaGreatDoor
end
section
namespace Go.Proofs.YtiknomepbklibaaGreatDoor
open Go Go.RowKit

def UT{α:Type}:Nat→List α→List (α×AV)
 |_,[]=>[]
 |j,n::S=>(n,.int .i64 (j:Nat))::UT (j+1) S
section
variable {α β:Type}
theorem AM: ∀(j:Nat) (S:List α) (n:α),UT j (S++[n])=UT j S++[(n,.int .i64 (j+S.length:Nat))]
 |j,[],n=>by simp[UT]
 |j,x::S,n=>by
  rw[List.cons_append,UT,UT,AM (j+1) S n,List.cons_append,List.length_cons,show j+1+S.length=j+(S.length+1) by omega]
theorem DO: ∀{j:Nat} {S:List α} {n:α} {v:AV},(n,v)∈UT j S→ ∃i:Nat,S[i]? =some n∧v=.int .i64 (j+i:Nat)
 |j,[],n,v,h=>by cases h
 |j,x::S,n,v,h=>by
  rcases List.mem_cons.1 h with e|h
  ·injection e with e1 e2
   subst e1 e2;exact⟨0,rfl,rfl⟩
  ·obtain⟨i,h1,h2⟩:=DO h;exact⟨i+1,h1,by rw[h2];congr 2;omega⟩
theorem Ds: ∀{j:Nat} {S:List α} {n:α},n∈S→ ∃v,(n,v)∈UT j S
 |j,[],n,h=>by cases h
 |j,x::S,n,h=>by
  rcases List.mem_cons.1 h with rfl|h
  ·exact⟨_,List.mem_cons_self ..⟩
  ·obtain⟨v,hv⟩:=Ds (j:=j+1) h;exact⟨v,List.mem_cons_of_mem _ hv⟩
theorem Np{S:List α}{n:α}(h:Yn (UT 0 S) n=none):n∉S:=fun hm=>by
 obtain⟨v,hv⟩:=Ds (j:=0) hm;exact Nn h v hv
theorem No{S:List α}{n:α}{v:AV}(h:Yn (UT 0 S) n=some v): ∃i:Nat,S[i]? =some n∧v=.int .i64 (i:Nat):=by
 obtain⟨i,h1,h2⟩:=DO (Le h);exact⟨i,h1,by rw[h2,Nat.zero_add]⟩
theorem VH.comp{P:Program}{t:TypeId}{key:α→AV}{z:AV}(T:VH P t key z)(f:β→α)(hi: ∀x y,f x=f y→x=y):VH P t (fun x=>key (f x)) z:=by
 obtain⟨kt,et,d,u1,u2,u3,u4,u5,u6⟩:=T.rule;exact⟨kt,et,d,u1,u2,u3,fun a=>u4 _,fun a i=>u5 _ i,fun a b v n es i=>⟨fun h=>(u6 (f a) (f b) v n es i).1 (congrArg f h),fun h=>(u6 (f a) (f b) v n es i).2 fun e=>h (hi _ _ e)⟩⟩
end
abbrev Xo(p:Nat×Nat):AV:=.agg [.int .i64 (p.1:Nat),.int .i64 (p.2:Nat)]
theorem WA:VH Tryz.prog 172 Xo (.int .i64 0):=jY.comp (fun p:Nat×Nat=>(((p.1:Nat):Int),((p.2:Nat):Int))) fun x y e=>by
 injection e with e1 e2
 exact Prod.ext Qe Qe
end Go.Proofs.YtiknomepbklibaaGreatDoor
end
