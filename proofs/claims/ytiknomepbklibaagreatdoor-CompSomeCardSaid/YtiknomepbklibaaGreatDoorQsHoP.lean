/-
  A formula's automaton by the reference: its compiler.
-/
import Derived.Test.YtiknomepbklibaaGreatDoorQsR26A
set_option maxHeartbeats 8000000
set_option maxRecDepth 100000
set_option linter.unnecessarySimpa false
set_option linter.unusedSectionVars false
set_option linter.unusedSimpArgs false
set_option linter.unusedVariables false
namespace Go.Proofs.YtiknomepbklibaaGreatDoor
open Go Go.RowKit
section
variable {k:Nat}

def wv(st st':St)(x:Cr)(k cp mp lf:Nat)(E O:Bool)(v:AV):Prop:= ∃t ka kn E2 O2 F m s,v=.agg [.int .i64 t,ka,kn]∧Qr ka=true∧Qr kn=true∧ZP st st' F∧(I0 cp mp E2 O2 (lf-s)).H st'.h.get∧((E2||O2)=false→(E||O)=false∧Xk st'.h.get F m ka kn∧Jl x k m s∧s≤lf∧t=((m.tr:Nat):Int))
def SC(x:Cr):Prop:= ∀(R:VN) (st:St) (cs:List AV) (cp mp lf k:Nat) (E O:Bool),Qi st→Yy R st.h.get→YI R x cs→(∀c m r,R c m r→ ¬(c=cp∨c=mp))→cp≠mp→mp<st.n→(I0 cp mp E O lf).H st.h.get→lf≤9223372036854775807→k≤6→QV x ((k:Nat):Int)=true→Vg x≤2000→
 ∃v st',Jf 76 [.ptr cp 0 0,.agg cs,.int .i64 (k:Nat)] st v st'∧wv st st' x k cp mp lf E O v∧UQ (fun c=>c=cp∨c=mp) st st'
def iO(cp mp:Nat)(E O:Bool)(l:Nat)(o:Bool):Ob:=⟨fun c=>c=cp∨c=mp,fun h=>Qx h cp 0 [.ptr mp 0 0,.bool E,.bool O]∧Qx h mp 0 [.int .i64 (l:Nat),.bool o],fun _ _ e H=>⟨H.1.frame (e cp (.inl rfl)),H.2.frame (e mp (.inr rfl))⟩⟩
theorem Xk.len{h:Hp}{F:Fp}{m:Au}{ka kn:AV}(H:Xk h F m ka kn):YD ka=some m.n:=by
 obtain⟨_,H⟩:=H;rw[(H _ fun _ _=>rfl).1.len,Up]
theorem Xk.uC{h:Hp}{F:Fp}{m:Au}{ka kn:AV}(H:Xk h F m ka kn):YD kn=some m.nx.length:=by
 obtain⟨_,H⟩:=H;exact OC.len (H _ fun _ _=>rfl).2
theorem UQ.wide{X Y:Fp}{st st':St}(Q:UQ X st st')(h: ∀c,X c→Y c):UQ Y st st':=⟨Q.fresh,Q.le,fun c hc hn=>Q.J9 c hc fun hx=>hn (h c hx)⟩
section
variable {st0 st st':St} {X0 F:Fp} {M A L B0:QM} {Os:List Ob} {m:Au} {ka kn:AV} {cp mp:Nat}
theorem Qk.Sz{b:Bool}{p:Ob}(B:Qk st0 X0 st M Os){j:Nat}(hj:Os[j]? =some (FT F b m ka kn))(hb:b=false)(hk:Os[k]? =some p)(hp:p.F mp)(hne:j≠k): ∃ls,KW st mp m ka kn ls:=by
 obtain⟨ls,H⟩:=(show Xk st.h.get F m ka kn from B.at_ hj hb);exact⟨ls,fun h' e=>H h' fun c hc=>e c (B.Y3 hj c hc) fun h=>B.J2 hj hk hne c hc (h▸hp)⟩
theorem Qk.eM{p:Ob}{n0:Nat}{kb:AV}(B:Qk st0 X0 st (L++(A++B0)) Os){j:Nat}(hj:Os[j]? =some (FT F false m ka kn))(hk:Os[k]? =some p)(hp:p.F mp)(hne:j≠k)(hA:Acc n0 1 A kb (bC m.neg.acc)): ∃ls,KW st mp m.neg kb kn ls:=by
 obtain⟨ls,H⟩:=B.Sz hj rfl hk hp hne;refine⟨ls,fun h' e=>⟨?_,(H h' e).2⟩⟩;exact UZ.rd (F:=fun _=>True) ⟨A,hA.z0,fun c m' l hm=>⟨(B.row c m' l (by simp[hm])).frame (e c ((B.row c m' l (by simp[hm])).lt B.fresh) fun h=>B.djM p (List.mem_of_getElem? hk) c m' l (by simp[hm]) (h▸hp)),trivial⟩⟩
theorem Qk.Sq{E O E2 O2:Bool}{lf:Nat}(B:Qk st0 X0 st M Os)(hk:Os[k]? =some (I0 cp mp E O lf))(hne:cp≠mp)(Q:UQ (fun c=>c=cp) st st')(h:Qx st'.h.get cp 0 [.ptr mp 0 0,.bool E2,.bool O2])(hE:(E2||O2)=false→(E||O)=false):Qk st0 X0 st' M (Os.set k (I0 cp mp E2 O2 lf)):=
 B.call hk (Q.wide fun c hc=>.inl hc) ⟨h,fun h2=>((B.at_ hk).2 (hE h2)).frame (Q.J9 mp (B.Y3 hk mp (.inr rfl)) (Ne.symm hne))⟩ (UC fun c hc=>Nat.lt_of_lt_of_le (B.Y3 hk c hc) Q.le)
end
theorem zG.shape{st st':St}{a b:Au}{t mp l:Nat}{v:AV}(h:zG st st' a b t mp l v)(hf:Qi st'): ∃tv ka kn eb ev F m,v=.tup [.agg [.int .i64 tv,ka,kn],.int .i64 ev]∧ev=(if eb=true then 8 else 0:Int)∧Qr ka=true∧Qr kn=true∧ZP st st' F∧(eb=false→tv=((m.tr:Nat):Int)∧(∃lp,I6 a b t lp m)∧Xk st'.h.get F m ka kn):=by
 rcases h with⟨x,lp,m,rfl,h2,h3,h4⟩|⟨lp,rfl,_⟩
 ·obtain⟨ka,kn,F,rfl,h5,h6,h7,h8⟩:=h3.fU hf;exact⟨_,ka,kn,false,0,F,m,rfl,rfl,h7,h8,h6,fun _=>⟨rfl,⟨lp,h2⟩,h5⟩⟩
 ·exact⟨0,.nils,.nils,true,8,ZQ,a,rfl,rfl,rfl,rfl,fun c hc=>hc.elim,fun h=>by cases h⟩
theorem zB.shape{st st':St}{a:Au}{acc:List Bool}{v:AV}(h:zB st st' a k acc v)(hf:Qi st'): ∃tv ka kn eb ev F m,v=.tup [.agg [.int .i64 tv,ka,kn],.int .i64 ev]∧ev=(if eb=true then 8 else 0:Int)∧Qr ka=true∧Qr kn=true∧ZP st st' F∧(eb=false→tv=((m.tr:Nat):Int)∧(m.tr=a.tr-1∧ ∃L,UA (JY a k) [0] (anyS acc) L m)∧Xk st'.h.get F m ka kn):=by
 rcases h with⟨x,L,m,rfl,h1,h2,h3⟩|rfl
 ·obtain⟨ka,kn,F,rfl,h5,h6,h7,h8⟩:=h3.fU hf;exact⟨_,ka,kn,false,0,F,m,rfl,rfl,h7,h8,h6,fun _=>⟨rfl,⟨h1,L,h2⟩,h5⟩⟩
 ·exact⟨0,.nils,.nils,true,8,ZQ,a,rfl,rfl,rfl,rfl,fun c hc=>hc.elim,fun h=>by cases h⟩

theorem xT{R:VN}{st:St}(hf:Qi st)(hR:Yy R st.h.get){o:List Nat}{a b g n:Int}{l:List Cr}{cs:List AV}{cp mp lf:Nat}{E O:Bool}(hr:YI R (.mk o a b g n l) cs)(ih: ∀y∈l,SC y)(hRm: ∀c m r,R c m r→ ¬(c=cp∨c=mp))(hcm:cp≠mp)(hmn:mp<st.n)(hcr:(I0 cp mp E O lf).H st.h.get)(hl:lf≤9223372036854775807)(hk6:k≤6)(hc:QV (.mk o a b g n l) ((k:Nat):Int)=true)(hsz:Vg (.mk o a b g n l)≤2000): ∃v st',Jf 76 [.ptr cp 0 0,.agg cs,iN k] st v st'∧wv st st' (.mk o a b g n l) k cp mp lf E O v∧UQ (fun c=>c=cp∨c=mp) st st':=by
 have hr0:=hr;obtain⟨kc,ls,rfl,hK⟩:=hr.U0;have hln:=hK.ln;have hbn:=hK.W3;have B:=Qk.UK (o:=I0 cp mp E O lf) hf hcr (fun c hc=>by rcases hc with rfl|rfl;exact hcr.1.lt hf;exact hmn);refine J7 Tryz.func76 Tryz.ntmps76 fun T K=>?_;have M:=B.mem;refine Qb 0 K M fun _ K=>?_;refine Jv K M rfl (Qa rfl (Qa rfl (Qa rfl (Qa rfl (Qa rfl (Qa hK.cell Qz)))))) Q8 fun c4 _ _ K M=>?_;refine au 4 K M ?_;intro c6 _ _ K _ M;refine p1 K (Qg rfl (Qw (Qx.Jb ((B.step M).at_ (k:=0) rfl).1) (Qd J6 rfl))) fun _ K=>?_;refine oB K (Qy rfl) rfl fun b20 _ e20 K=>?_;cases b20
 ·refine Qb 3 K M fun _ K=>?_;refine pg K rfl rfl (Qg rfl (Qw (Qx.Jb ((B.step M).at_ (k:=0) rfl).1) (Qd J6 rfl))) fun _ K=>?_;refine Qb 1 K M fun _ K=>?_;refine Uq K rfl (fun h25=>?_) fun h25=>?_
  ·have hb25:=h25;refine au 2 K M ?_;intro _ _ K _ M;refine Qb 0 K M ?_;replace B:=B.step M;refine⟨⟨0,.nils,.nils,E,O,ZQ,⟨0,[],[]⟩,0,rfl,rfl,rfl,fun c hc=>hc.elim,⟨(B.at_ (k:=0) rfl).1,fun h=>by simp_all⟩,fun h=>by simp_all⟩,B.JM⟩
  have hb25:=h25;refine Qb 0 K M fun _ K=>?_;have hee:(E||O)=false:=(by simp_all);refine LI K M Y5 Q8 fun c7 _ _ K M=>?_;refine XT ?_;show W _ _ _ _ _ _ _;refine CM (J:=fun T st9=> ∃(E2:Bool) (O2:Bool) (t2:Int) (ka2:AV) (kn2:AV) (F2:Fp) (m2:Au) (s2:Nat),QS [(0,.ptr cp 0 0),(6,.ptr c6 0 0),(7,.ptr c7 0 0)] T∧Qk st (I0 cp mp E O lf).F st9 [(c7,0,[iZ t2,ka2,kn2]),(c6,0,[iZ 0,.nils,.nils]),(c4,0,[.str o,iZ a,iZ b,iZ g,iZ n,kc])] [FT F2 (E2||O2) m2 ka2 kn2,I0 cp mp E2 O2 (lf-s2)]∧Qr ka2=true∧Qr kn2=true∧((E2||O2)=false→Jl (.mk o a b g n l) k m2 (s2+m2.n)∧s2≤lf∧t2=((m2.tr:Nat):Int))) ?_ (fun T st9 hJ=>?_)
  ·refine Qb 2 K M fun _ K=>?_;refine p1 K (QG (b:=[110,111,116]) rfl rfl) fun _ K=>?_;refine Qb 1 K M fun _ K=>?_;refine Jt K rfl (fun h35=>?_) fun h35=>?_
   ·refine Jy ?_
    obtain⟨x,rfl,hcx⟩: ∃x,l=[x]∧QV x ((k:Nat):Int)=true:=by rcases Z9 hc with⟨h,_⟩|⟨_,h⟩|⟨h,_⟩|⟨h,_⟩<;>first|exact h|(exfalso;subst h35;revert h;first|decide|(unfold VQ;decide))
    have ihx:=ih x Q4
    have hszx:Vg x≤2000:=by rw[Vg,Zf,Zf]at hsz;omega
    refine Qb 3 K M fun _ K=>?_;obtain⟨_,hc40,hn40⟩:=hK.get (i:=0) (k:=x) rfl;have hp40:=hn40;obtain⟨o40,a40,b40,g40,n40,l40,kc40,ls40,hxe40,rfl,hK40⟩:=hp40.zH;refine Te (hK.r (fun c m r hr=>(B.step M).U5 hf (hR c m r hr) (hRm c m r hr))) hc40 K Ji QW rfl rfl fun _ _ _ _ K=>?_;refine Qb 1 K M fun _ K=>?_;replace B:=B.step M;have B0:=B;obtain⟨v43,st43,ev43,hof1,QB1⟩:=ihx R _ _ cp mp lf k E O B.fresh (fun c m r hr=>B.U5 hf (hR c m r hr) (hRm c m r hr)) hn40 hRm hcm (B.Y3 (k:=0) rfl mp (.inr rfl)) (B.at_ (k:=0) rfl) Qc Qc hcx hszx;refine p1 K (Qf rfl ev43) fun _ K=>?_;obtain⟨t1,ka1,kn1,E1,O1,F1,m1,s1,rfl,hka1,hkn1,hnf1,hcm1,hq1⟩:=hof1;replace B:=B.call (k:=0) (o':=I0 cp mp E1 O1 (lf-s1)) rfl QB1 hcm1 (UC fun c hc=>Nat.lt_of_lt_of_le (B.Y3 (k:=0) rfl c hc) QB1.le);replace B:=B0.Zt (k:=0) (o:=FT F1 (E1||O1) m1 ka1 kn1) (om':=I0 cp mp E1 O1 (lf-s1)) rfl rfl (B.Xf Q4) (fun hb=>(hq1 hb).2.1) hnf1;have M:=B.mem;refine au 1 K M ?_;intro c8 _ _ K _ M;refine QU (k:=0) K M rfl rfl rfl Q9 rfl (Qa rfl (Qa hka1 (Qa hkn1 Qz))) rfl fun _ M=>?_;refine Qb 3 K M fun _ K=>?_;refine p1 K (Qg rfl (Qw (Qx.Jb ((B.step M).at_ (k:=1) rfl).1) (Qd J6 rfl))) fun _ K=>?_;refine oB K (Qy rfl) rfl fun b48 _ e48 K=>?_;cases b48
    ·refine Qb 3 K M fun _ K=>?_;refine pg K rfl rfl (Qg rfl (Qw (Qx.Jb ((B.step M).at_ (k:=1) rfl).1) (Qd J6 rfl))) fun _ K=>?_;refine Qb 1 K M fun _ K=>?_;refine Uq K rfl (fun h53=>?_) fun h53=>?_
     ·have hb53:=h53;refine au 2 K M ?_;intro _ _ K _ M;refine Qb 0 K M ?_;replace B:=B.step M;refine⟨⟨0,.nils,.nils,E1,O1,ZQ,⟨0,[],[]⟩,0,rfl,rfl,rfl,fun c hc=>hc.elim,⟨(B.at_ (k:=1) rfl).1,fun h=>by simp_all⟩,fun h=>by simp_all⟩,B.JM⟩
     have hb53:=h53;refine Qb 0 K M fun _ K=>?_;have he1:(E1||O1)=false:=(by simp_all);obtain⟨-,-,hA1,hs1,rfl⟩:=hq1 he1;replace B:=(B.step M).view (k:=0) (o':=FT F1 false m1 ka1 kn1) rfl (fun _=>(B.step M).at_ (k:=0) rfl he1) (fun c hc=>hc);have M:=B.mem;have hkl1:=Xk.len ((B.step M).at_ (k:=0) rfl rfl);have hknl1:=Xk.uC ((B.step M).at_ (k:=0) rfl rfl);have wf1:=hA1.wf;have htr1:=hA1.tr;have hmn1:=wf1.most;have hacl1:m1.acc.length=m1.n:=rfl;refine Qb 2 K M fun _ K=>?_;have hrd1:=(B.step M).at_ (k:=0) rfl rfl;have hee:=he1;obtain⟨ls1,hrd1⟩:=hrd1;obtain⟨v57,st57,ev57,kb,rfl,nrb,q57⟩:=ui M.fresh (hrd1 _ fun _ _=>rfl).1 hkn1 Qc;refine p1 K (Qf rfl ev57) fun _ K=>?_;obtain⟨An,hAn,M⟩:=M.Yx q57 nrb;simp only[XB]at M;replace B:=B.step M;have B0:=B;have hng:=Qk.eM (mp:=cp) (L:=[(c8,0,[iZ (m1.tr:Nat),ka1,kn1]),(c7,0,[iZ 0,.nils,.nils]),(c6,0,[iZ 0,.nils,.nils]),(c4,0,[.str o,iZ a,iZ b,iZ g,iZ n,kc])]) (A:=An) (B0:=[]) (B.cast Ux) (j:=0) (k:=1) rfl rfl (.inl rfl) Q8 hAn;obtain⟨v58,st58,ev58,t2,ka2,kn2,E2,O2,F2,m2,rfl,hka2,hkn2,hrw2,hnf2,hq2,Q2⟩:=IU (a:=m1.neg) (eb:=false) B.fresh rfl (B.at_ (k:=1) rfl).1 hAn.cell hkn1 (fun _=>⟨rfl,uq wf1,hng⟩);refine p1 K (Qf rfl ev58) fun _ K=>?_;replace B:=B.Sq (k:=1) (E2:=E2) (O2:=O2) rfl hcm Q2 hrw2 (fun h=>hee);replace B:=B0.Zt (k:=1) (o:=FT F2 (E2||O2) m2 ka2 kn2) (om':=I0 cp mp E2 O2 (lf-s1)) rfl rfl (B.Xf Q4) (fun hb=>(hq2 hb).2.2.2.1) hnf2;have M:=B.mem;refine QU (k:=1) K M rfl rfl rfl Q9 rfl (Qa rfl (Qa hka2 (Qa hkn2 Qz))) rfl fun _ M=>?_;refine XT ?_;replace B:=(B.step M).NJ (Os':=[FT F2 (E2||O2) m2 ka2 kn2,I0 cp mp E2 O2 (lf-s1)]) Q4;have M:=B.mem;exact⟨E2,O2,_,ka2,kn2,F2,m2,_,(K.sub rfl),(B.step M).less (.cons _ (.cons_cons _ (.cons_cons _ (.cons_cons _ (List.nil_sublist _))))),hka2,hkn2,(fun h=>⟨.not h35 hA1 (hq2 h).2.2.1,by omega,(hq2 h).2.2.2.2⟩)⟩
    refine au 8 K M ?_;intro _ _ K _ M;refine Qb 0 K M ?_;replace B:=B.step M;refine⟨⟨0,.nils,.nils,E1,O1,ZQ,⟨0,[],[]⟩,0,rfl,rfl,rfl,fun c hc=>hc.elim,⟨(B.at_ (k:=1) rfl).1,fun h=>by simp_all⟩,fun h=>by simp_all⟩,B.JM⟩
   refine Qb 0 K M fun _ K=>?_;refine p1 K (QG (b:=[97,110,100]) rfl rfl) fun _ K=>?_;refine Qb 1 K M fun _ K=>?_;refine Jt K rfl (fun h59=>?_) fun h59=>?_
   ·refine Jy ?_
    obtain⟨x,y,rfl,hcx,hcy⟩: ∃x y,l=[x,y]∧QV x ((k:Nat):Int)=true∧QV y ((k:Nat):Int)=true:=by rcases Z9 hc with⟨h,_⟩|⟨h,_⟩|⟨_,h⟩|⟨h,_⟩<;>first|exact h|(exfalso;subst h59;revert h;first|decide|(unfold VQ;decide))
    have ihx:=ih x Q4;have ihy:=ih y Q4
    have hszx:Vg x≤2000:=by rw[Vg,Zf,Zf,Zf]at hsz;omega
    have hszy:Vg y≤2000:=by rw[Vg,Zf,Zf,Zf]at hsz;omega
    refine Qb 3 K M fun _ K=>?_;obtain⟨_,hc64,hn64⟩:=hK.get (i:=0) (k:=x) rfl;have hp64:=hn64;obtain⟨o64,a64,b64,g64,n64,l64,kc64,ls64,hxe64,rfl,hK64⟩:=hp64.zH;refine Te (hK.r (fun c m r hr=>(B.step M).U5 hf (hR c m r hr) (hRm c m r hr))) hc64 K Ji QW rfl rfl fun _ _ _ _ K=>?_;refine Qb 1 K M fun _ K=>?_;replace B:=B.step M;have B0:=B;obtain⟨v67,st67,ev67,hof1,QB1⟩:=ihx R _ _ cp mp lf k E O B.fresh (fun c m r hr=>B.U5 hf (hR c m r hr) (hRm c m r hr)) hn64 hRm hcm (B.Y3 (k:=0) rfl mp (.inr rfl)) (B.at_ (k:=0) rfl) Qc Qc hcx hszx;refine p1 K (Qf rfl ev67) fun _ K=>?_;obtain⟨t1,ka1,kn1,E1,O1,F1,m1,s1,rfl,hka1,hkn1,hnf1,hcm1,hq1⟩:=hof1;replace B:=B.call (k:=0) (o':=I0 cp mp E1 O1 (lf-s1)) rfl QB1 hcm1 (UC fun c hc=>Nat.lt_of_lt_of_le (B.Y3 (k:=0) rfl c hc) QB1.le);replace B:=B0.Zt (k:=0) (o:=FT F1 (E1||O1) m1 ka1 kn1) (om':=I0 cp mp E1 O1 (lf-s1)) rfl rfl (B.Xf Q4) (fun hb=>(hq1 hb).2.1) hnf1;have M:=B.mem;refine au 1 K M ?_;intro c9 _ _ K _ M;refine QU (k:=0) K M rfl rfl rfl Q9 rfl (Qa rfl (Qa hka1 (Qa hkn1 Qz))) rfl fun _ M=>?_;refine Qb 3 K M fun _ K=>?_;obtain⟨_,hc71,hn71⟩:=hK.get (i:=1) (k:=y) rfl;have hp71:=hn71;obtain⟨o71,a71,b71,g71,n71,l71,kc71,ls71,hxe71,rfl,hK71⟩:=hp71.zH;refine Te (hK.r (fun c m r hr=>(B.step M).U5 hf (hR c m r hr) (hRm c m r hr))) hc71 K Ji QW rfl rfl fun _ _ _ _ K=>?_;refine Qb 1 K M fun _ K=>?_;replace B:=B.step M;have B0:=B;obtain⟨v74,st74,ev74,hof3,QB3⟩:=ihy R _ _ cp mp (lf-s1) k E1 O1 B.fresh (fun c m r hr=>B.U5 hf (hR c m r hr) (hRm c m r hr)) hn71 hRm hcm (B.Y3 (k:=1) rfl mp (.inr rfl)) (B.at_ (k:=1) rfl) Qc Qc hcy hszy;refine p1 K (Qf rfl ev74) fun _ K=>?_;obtain⟨t3,ka3,kn3,E3,O3,F3,m3,s3,rfl,hka3,hkn3,hnf3,hcm3,hq3⟩:=hof3;replace B:=B.call (k:=1) (o':=I0 cp mp E3 O3 ((lf-s1)-s3)) rfl QB3 hcm3 (UC fun c hc=>Nat.lt_of_lt_of_le (B.Y3 (k:=1) rfl c hc) QB3.le);replace B:=B0.Zt (k:=1) (o:=FT F3 (E3||O3) m3 ka3 kn3) (om':=I0 cp mp E3 O3 ((lf-s1)-s3)) rfl rfl (B.Xf Q4) (fun hb=>(hq3 hb).2.1) hnf3;have M:=B.mem;refine au 1 K M ?_;intro c10 _ _ K _ M;refine QU (k:=0) K M rfl rfl rfl Q9 rfl (Qa rfl (Qa hka3 (Qa hkn3 Qz))) rfl fun _ M=>?_;refine Qb 3 K M fun _ K=>?_;refine p1 K (Qg rfl (Qw (Qx.Jb ((B.step M).at_ (k:=2) rfl).1) (Qd J6 rfl))) fun _ K=>?_;refine oB K (Qy rfl) rfl fun b79 _ e79 K=>?_;cases b79
    ·refine Qb 3 K M fun _ K=>?_;refine pg K rfl rfl (Qg rfl (Qw (Qx.Jb ((B.step M).at_ (k:=2) rfl).1) (Qd J6 rfl))) fun _ K=>?_;refine Qb 1 K M fun _ K=>?_;refine Uq K rfl (fun h84=>?_) fun h84=>?_
     ·have hb84:=h84;refine au 2 K M ?_;intro _ _ K _ M;refine Jx ⟨.inr rfl,_,iH 3 K M rfl rfl rfl,?_⟩;replace B:=B.step M;refine⟨⟨0,.nils,.nils,E3,O3,ZQ,⟨0,[],[]⟩,0,rfl,rfl,rfl,fun c hc=>hc.elim,⟨(B.at_ (k:=2) rfl).1,fun h=>by simp_all⟩,fun h=>by simp_all⟩,B.JM⟩
     have hb84:=h84;refine Qb 0 K M fun _ K=>?_;have he3:(E3||O3)=false:=(by simp_all);have he1:=(hq3 he3).1;obtain⟨-,-,hA1,hs1,rfl⟩:=hq1 he1;replace B:=(B.step M).view (k:=1) (o':=FT F1 false m1 ka1 kn1) rfl (fun _=>(B.step M).at_ (k:=1) rfl he1) (fun c hc=>hc);have M:=B.mem;have hkl1:=Xk.len ((B.step M).at_ (k:=1) rfl rfl);have hknl1:=Xk.uC ((B.step M).at_ (k:=1) rfl rfl);have wf1:=hA1.wf;have htr1:=hA1.tr;have hmn1:=wf1.most;have hacl1:m1.acc.length=m1.n:=rfl;obtain⟨-,-,hA3,hs3,rfl⟩:=hq3 he3;replace B:=(B.step M).view (k:=0) (o':=FT F3 false m3 ka3 kn3) rfl (fun _=>(B.step M).at_ (k:=0) rfl he3) (fun c hc=>hc);have M:=B.mem;have hkl3:=Xk.len ((B.step M).at_ (k:=0) rfl rfl);have hknl3:=Xk.uC ((B.step M).at_ (k:=0) rfl rfl);have wf3:=hA3.wf;have htr3:=hA3.tr;have hmn3:=wf3.most;have hacl3:m3.acc.length=m3.n:=rfl;refine QA (l:=[(2,0),(0,1),(1,1),(3,0),(4,0),(5,0),(7,0),(8,0),(6,0),(9,0)]) (by kernel_rfl) ?_;have Mq:=M;have Bq:=B;replace B:=B.step M;obtain⟨v89,st89,ev89,mf,rfl,hmf,hmr,q89⟩:=GQ B.fresh;refine qA rfl K (Qf rfl ev89) fun _ K=>?_;replace B:=B.new (o:=Yr mf 1099511627776 false) q89 hmr (fun c hc=>by rw[show c=mf from hc];exact⟨hmf,hmr.lt q89.fresh⟩);have M:=B.mem;have Mp:=Mq;have Mq:=M;have Bp:=Bq;have Bq:=B;refine Ju rfl K rfl (M.load (k:=1) rfl (QN Jj rfl)) (Mp.load (k:=1) rfl (QN Jj rfl)) (Fs (by simp[AE,AF,WU,Ub hkl1,Ub hknl1])) rfl Q8 fun _ K=>?_;refine Ju rfl K rfl (M.load (k:=0) rfl (QN Jj rfl)) (Mp.load (k:=0) rfl (QN Jj rfl)) (Fs (by simp[AE,AF,WU,Ub hkl3,Ub hknl3])) rfl Q8 fun _ K=>?_;replace B:=B.step M;have B0:=B;obtain⟨ls1,hoa1⟩:=B.S0 (mp:=mf) (j:=2) (k:=0) rfl rfl Q8;obtain⟨ls3,hoa3⟩:=B.S0 (mp:=mf) (j:=1) (k:=0) rfl rfl Q8;have hee:=he3;obtain⟨v90,st90,ev90,hBR,QB⟩:=R2 B.fresh wf1 wf3 hoa1 hoa3 (htr3.trans htr1.symm) (t:=8) Q8 (show Qx _ mf 0 [iZ ((1099511627776:Nat):Int),.bool false]from B.at_ (k:=0) rfl) Q8 Q8;refine qA rfl K (Qf rfl ev90) fun _ K=>?_;obtain⟨tq,kp,kq,eb,ev,Fq,mq,rfl,hev,hkp,hkq,hnq,hbo⟩:=hBR.shape QB.fresh;replace B:=B.call (k:=0) (o':=Hu mf) rfl QB trivial (UC fun c hc=>Nat.lt_of_lt_of_le (B.Y3 (k:=0) rfl c hc) QB.le);replace B:=B0.Zt (k:=0) (o:=FT Fq eb mq kp kq) (om':=Hu mf) rfl rfl (B.Xf Q4) (fun hb=>(hbo hb).2.2) hnq;have M:=B.mem;have Mp:=Mq;have Mq:=M;have Bp:=Bq;have Bq:=B;refine Jo 2 K M fun _ K=>?_;refine W6 rfl K M Y5 Q8 fun c11 _ _ K M=>?_;refine V2 (k:=0) rfl K M rfl rfl rfl Q9 rfl (Qa rfl (Qa hkp (Qa hkq Qz))) rfl fun _ M=>?_;have Mp:=Mq;have Mq:=M;have Bp:=Bq;have Bq:=B;refine Jo 2 K M fun _ K=>?_;refine QF ?_;show W _ _ _ _ _ _ _;refine Qb 3 K M fun _ K=>?_;replace B:=B.step M;have B0:=B;obtain⟨v96,st96,ev96,t2,ka2,kn2,E2,O2,F2,m2,rfl,hka2,hkn2,hrw2,hnf2,hq2,Q2⟩:=IU (a:=mq) (eb:=eb) B.fresh hev (B.at_ (k:=4) rfl).1 hkp hkq (fun hb=>⟨(hbo hb).1,(by obtain⟨lp,hB9⟩:=(hbo hb).2.1;exact hB9.1.wf),B.Sz (mp:=cp) (j:=0) (k:=4) rfl hb rfl (.inl rfl) Q8⟩);refine p1 K (Qf rfl ev96) fun _ K=>?_;replace B:=B.Sq (k:=4) (E2:=E2) (O2:=O2) rfl hcm Q2 hrw2 (fun h=>hee);replace B:=B0.Zt (k:=4) (o:=FT F2 (E2||O2) m2 ka2 kn2) (om':=I0 cp mp E2 O2 (((lf-s1)-s3))) rfl rfl (B.Xf Q4) (fun hb=>(hq2 hb).2.2.2.1) hnf2;have M:=B.mem;refine QU (k:=3) K M rfl rfl rfl Q9 rfl (Qa rfl (Qa hka2 (Qa hkn2 Qz))) rfl fun _ M=>?_;refine XT ?_;replace B:=(B.step M).NJ (Os':=[FT F2 (E2||O2) m2 ka2 kn2,I0 cp mp E2 O2 (((lf-s1)-s3))]) Q4;replace B:=B.Xf (Os':=[FT F2 (E2||O2) m2 ka2 kn2,I0 cp mp E2 O2 (lf-(s1+s3))]) (by rw[Nat.sub_sub]);have M:=B.mem;exact⟨E2,O2,_,ka2,kn2,F2,m2,_,(K.sub rfl),(B.step M).less (.cons _ (.cons _ (.cons _ (.refl _)))),hka2,hkn2,(fun h=>⟨by obtain⟨lp,hB9⟩:=(hbo (hq2 h).1).2.1;exact .and h59 hA1 hA3 hB9 (hq2 h).2.2.1,by omega,(hq2 h).2.2.2.2⟩)⟩
    refine au 8 K M ?_;intro _ _ K _ M;refine Jx ⟨.inr rfl,_,iH 3 K M rfl rfl rfl,?_⟩;replace B:=B.step M;refine⟨⟨0,.nils,.nils,E3,O3,ZQ,⟨0,[],[]⟩,0,rfl,rfl,rfl,fun c hc=>hc.elim,⟨(B.at_ (k:=2) rfl).1,fun h=>by simp_all⟩,fun h=>by simp_all⟩,B.JM⟩
   refine Qb 0 K M fun _ K=>?_;refine p1 K (QG (b:=[101,120]) rfl rfl) fun _ K=>?_;refine Qb 1 K M fun _ K=>?_;refine Jt K rfl (fun h97=>?_) fun h97=>?_
   ·refine Jy ?_
    obtain⟨x,rfl,hk5,hcx⟩: ∃x,l=[x]∧((k:Nat):Int)<6∧QV x (((k:Nat):Int)+1)=true:=by rcases Z9 hc with⟨h,_⟩|⟨h,_⟩|⟨h,_⟩|⟨_,h⟩<;>first|exact h|(exfalso;subst h97;revert h;first|decide|(unfold VQ;decide))
    replace hcx:QV x (((k+1:Nat)):Int)=true:=hcx;have ihx:=ih x Q4
    have hszx:Vg x≤2000:=by rw[Vg,Zf,Zf]at hsz;omega
    refine Qb 3 K M fun _ K=>?_;obtain⟨_,hc102,hn102⟩:=hK.get (i:=0) (k:=x) rfl;have hp102:=hn102;obtain⟨o102,a102,b102,g102,n102,l102,kc102,ls102,hxe102,rfl,hK102⟩:=hp102.zH;refine Te (hK.r (fun c m r hr=>(B.step M).U5 hf (hR c m r hr) (hRm c m r hr))) hc102 K Ji QW rfl rfl fun _ _ _ _ K=>?_;refine Qb 2 K M fun _ K=>?_;replace B:=B.step M;have B0:=B;obtain⟨v106,st106,ev106,hof1,QB1⟩:=ihx R _ _ cp mp lf (k+1) E O B.fresh (fun c m r hr=>B.U5 hf (hR c m r hr) (hRm c m r hr)) hn102 hRm hcm (B.Y3 (k:=0) rfl mp (.inr rfl)) (B.at_ (k:=0) rfl) Qc Qc hcx hszx;refine p1 K (Qf rfl ev106) fun _ K=>?_;obtain⟨t1,ka1,kn1,E1,O1,F1,m1,s1,rfl,hka1,hkn1,hnf1,hcm1,hq1⟩:=hof1;replace B:=B.call (k:=0) (o':=I0 cp mp E1 O1 (lf-s1)) rfl QB1 hcm1 (UC fun c hc=>Nat.lt_of_lt_of_le (B.Y3 (k:=0) rfl c hc) QB1.le);replace B:=B0.Zt (k:=0) (o:=FT F1 (E1||O1) m1 ka1 kn1) (om':=I0 cp mp E1 O1 (lf-s1)) rfl rfl (B.Xf Q4) (fun hb=>(hq1 hb).2.1) hnf1;have M:=B.mem;refine au 1 K M ?_;intro c13 _ _ K _ M;refine QU (k:=0) K M rfl rfl rfl Q9 rfl (Qa rfl (Qa hka1 (Qa hkn1 Qz))) rfl fun _ M=>?_;refine Qb 3 K M fun _ K=>?_;refine p1 K (Qg rfl (Qw (Qx.Jb ((B.step M).at_ (k:=1) rfl).1) (Qd J6 rfl))) fun _ K=>?_;refine oB K (Qy rfl) rfl fun b111 _ e111 K=>?_;cases b111
    ·refine Qb 3 K M fun _ K=>?_;refine pg K rfl rfl (Qg rfl (Qw (Qx.Jb ((B.step M).at_ (k:=1) rfl).1) (Qd J6 rfl))) fun _ K=>?_;refine Qb 1 K M fun _ K=>?_;refine Uq K rfl (fun h116=>?_) fun h116=>?_
     ·have hb116:=h116;refine au 2 K M ?_;intro _ _ K _ M;refine Qb 0 K M ?_;replace B:=B.step M;refine⟨⟨0,.nils,.nils,E1,O1,ZQ,⟨0,[],[]⟩,0,rfl,rfl,rfl,fun c hc=>hc.elim,⟨(B.at_ (k:=1) rfl).1,fun h=>by simp_all⟩,fun h=>by simp_all⟩,B.JM⟩
     have hb116:=h116;refine Qb 0 K M fun _ K=>?_;have he1:(E1||O1)=false:=(by simp_all);obtain⟨-,-,hA1,hs1,rfl⟩:=hq1 he1;replace B:=(B.step M).view (k:=0) (o':=FT F1 false m1 ka1 kn1) rfl (fun _=>(B.step M).at_ (k:=0) rfl he1) (fun c hc=>hc);have M:=B.mem;have hkl1:=Xk.len ((B.step M).at_ (k:=0) rfl rfl);have hknl1:=Xk.uC ((B.step M).at_ (k:=0) rfl rfl);have wf1:=hA1.wf;have htr1:=hA1.tr;have hmn1:=wf1.most;have hacl1:m1.acc.length=m1.n:=rfl;refine QA (l:=[(2,0),(0,1),(1,0),(3,0),(4,0),(5,0),(7,0),(8,0),(6,0),(9,0)]) (by kernel_rfl) ?_;have Mq:=M;have Bq:=B;replace B:=B.step M;obtain⟨v121,st121,ev121,mf,rfl,hmf,hmr,q121⟩:=GQ B.fresh;refine qA rfl K (Qf rfl ev121) fun _ K=>?_;replace B:=B.new (o:=Yr mf 1099511627776 false) q121 hmr (fun c hc=>by rw[show c=mf from hc];exact⟨hmf,hmr.lt q121.fresh⟩);have M:=B.mem;have Mp:=Mq;have Mq:=M;have Bp:=Bq;have Bq:=B;refine Ju rfl K rfl (M.load (k:=0) rfl (QN Jj rfl)) (Mp.load (k:=0) rfl (QN Jj rfl)) (Fs (by simp[AE,AF,WU,Ub hkl1,Ub hknl1])) rfl Q8 fun _ K=>?_;refine q1 rfl K (Qy rfl) fun _ K=>?_;replace B:=B.step M;have B0:=B;obtain⟨ls1,hoa1⟩:=B.S0 (mp:=mf) (j:=1) (k:=0) rfl rfl Q8;have hee:=he1;obtain⟨v122,st122,ev122,⟨YE,hcl,hBR⟩,QB⟩:=BI B.fresh wf1 hoa1 (k:=k) Qc (show Qx _ mf 0 [iZ ((1099511627776:Nat):Int),.bool false]from B.at_ (k:=0) rfl) Q8 Q8;refine qA rfl K (Qf rfl ev122) fun _ K=>?_;obtain⟨tq,kp,kq,eb,ev,Fq,mq,rfl,hev,hkp,hkq,hnq,hbo⟩:=hBR.shape QB.fresh;replace B:=B.call (k:=0) (o':=Hu mf) rfl QB trivial (UC fun c hc=>Nat.lt_of_lt_of_le (B.Y3 (k:=0) rfl c hc) QB.le);replace B:=B0.Zt (k:=0) (o:=FT Fq eb mq kp kq) (om':=Hu mf) rfl rfl (B.Xf Q4) (fun hb=>(hbo hb).2.2) hnq;have M:=B.mem;have Mp:=Mq;have Mq:=M;have Bp:=Bq;have Bq:=B;refine Jo 2 K M fun _ K=>?_;refine W6 rfl K M Y5 Q8 fun c14 _ _ K M=>?_;refine V2 (k:=0) rfl K M rfl rfl rfl Q9 rfl (Qa rfl (Qa hkp (Qa hkq Qz))) rfl fun _ M=>?_;have Mp:=Mq;have Mq:=M;have Bp:=Bq;have Bq:=B;refine Jo 2 K M fun _ K=>?_;refine QF ?_;show W _ _ _ _ _ _ _;refine Qb 3 K M fun _ K=>?_;replace B:=B.step M;have B0:=B;obtain⟨v128,st128,ev128,t2,ka2,kn2,E2,O2,F2,m2,rfl,hka2,hkn2,hrw2,hnf2,hq2,Q2⟩:=IU (a:=mq) (eb:=eb) B.fresh hev (B.at_ (k:=3) rfl).1 hkp hkq (fun hb=>⟨(hbo hb).1,(by obtain⟨_,L9,hM9⟩:=(hbo hb).2.1;exact hM9.wf),B.Sz (mp:=cp) (j:=0) (k:=3) rfl hb rfl (.inl rfl) Q8⟩);refine p1 K (Qf rfl ev128) fun _ K=>?_;replace B:=B.Sq (k:=3) (E2:=E2) (O2:=O2) rfl hcm Q2 hrw2 (fun h=>hee);replace B:=B0.Zt (k:=3) (o:=FT F2 (E2||O2) m2 ka2 kn2) (om':=I0 cp mp E2 O2 (lf-s1)) rfl rfl (B.Xf Q4) (fun hb=>(hq2 hb).2.2.2.1) hnf2;have M:=B.mem;refine QU (k:=2) K M rfl rfl rfl Q9 rfl (Qa rfl (Qa hka2 (Qa hkn2 Qz))) rfl fun _ M=>?_;refine XT ?_;replace B:=(B.step M).NJ (Os':=[FT F2 (E2||O2) m2 ka2 kn2,I0 cp mp E2 O2 (lf-s1)]) Q4;have M:=B.mem;exact⟨E2,O2,_,ka2,kn2,F2,m2,_,(K.sub rfl),(B.step M).less (.cons _ (.cons _ (.refl _))),hka2,hkn2,(fun h=>⟨by obtain⟨htq,L9,hM9⟩:=(hbo (hq2 h).1).2.1;exact .ex h97 hA1 hcl hM9 Qc (hq2 h).2.2.1,by omega,(hq2 h).2.2.2.2⟩)⟩
    refine au 8 K M ?_;intro _ _ K _ M;refine Qb 0 K M ?_;replace B:=B.step M;refine⟨⟨0,.nils,.nils,E1,O1,ZQ,⟨0,[],[]⟩,0,rfl,rfl,rfl,fun c hc=>hc.elim,⟨(B.at_ (k:=1) rfl).1,fun h=>by simp_all⟩,fun h=>by simp_all⟩,B.JM⟩
   have hat:VQ o:=by rcases Z9 hc with⟨h,_⟩|⟨h,_⟩|⟨h,_⟩|⟨h,_⟩<;>first|exact h|contradiction
   obtain⟨rfl,an,bn,dn,nn,rfl,rfl,rfl,rfl,ha6,hb6,hd6,hn20⟩:=KO hat hc Qc;refine Qb 2 K M fun _ K=>?_;replace B:=B.step M;obtain⟨v32,st32,ev32,x2,m2,rfl,hlm,nau,q32⟩:=xU B.fresh (fun c m r hr=>B.U5 hf (hR c m r hr) (hRm c m r hr)) hr0 hat hn20 ha6 hb6 hd6 hk6 hsz hc;refine p1 K (Qf rfl ev32) fun _ K=>?_;obtain⟨ka2,kn2,F2,rfl,hau2,hnf2,hka2,hkn2⟩:=nau.fU q32.fresh;replace B:=B.new (o:=FT F2 false m2 ka2 kn2) q32 (fun _=>hau2) hnf2;have M:=B.mem;refine Qb 3 K M fun _ K=>?_;refine QU (k:=0) K M rfl rfl rfl Q9 rfl (Qa rfl (Qa hka2 (Qa hkn2 Qz))) rfl fun _ M=>?_;refine XT ?_;replace B:=(B.step M).NJ (Os':=[FT F2 false m2 ka2 kn2,I0 cp mp E O lf]) Q4;replace B:=B.Xf (Os':=[FT F2 (E||O) m2 ka2 kn2,I0 cp mp E O (lf-0)]) (by rw[hee,Nat.sub_zero]);have M:=B.mem;exact⟨E,O,_,ka2,kn2,F2,m2,0,(K.sub rfl),(B.step M).less (.refl _),hka2,hkn2,(fun _=>⟨by rw[Nat.zero_add];exact .atom h35 h59 h97 hlm,Nat.zero_le _,rfl⟩)⟩
  obtain⟨E2,O2,t2,ka2,kn2,F2,m2,s2,K,B,hka2,hkn2,hJ⟩:=hJ;have M:=B.mem;refine Jy<|Jy ?_;refine QA (l:=[(0,0),(1,0),(2,0),(3,0),(4,0),(5,0),(6,0),(7,0),(8,0),(9,0),(10,0),(11,0),(12,0),(13,0),(14,0),(15,0),(16,0),(17,0),(18,0),(19,0),(20,0),(21,0),(22,0)]) (by kernel_rfl) ?_;refine Jo 3 K M fun _ K=>?_;refine q1 rfl K (Qg rfl (Qw (Qx.Jb ((B.step M).at_ (k:=1) rfl).1) (Qd J6 rfl))) fun _ K=>q1 rfl K (Ny rfl) fun _ K=>?_;refine dB rfl K (Qy rfl) rfl rfl fun b134 _ e134 K=>?_;cases b134
  ·replace e134:(O2)=true:=by simpa using e134
   refine YA rfl K rfl rfl rfl rfl fun _ _ K=>YA rfl K rfl rfl rfl rfl fun _ _ K=>YA rfl K rfl rfl rfl rfl fun _ _ K=>YA rfl K rfl rfl rfl rfl fun _ _ K=>YA rfl K rfl rfl rfl rfl fun _ _ K=>?_;refine Jo 2 K M fun _ K=>?_;refine YA rfl K rfl rfl rfl rfl fun _ _ K=>YA rfl K rfl rfl rfl rfl fun _ _ K=>YA rfl K rfl rfl rfl rfl fun _ _ K=>YA rfl K rfl rfl rfl rfl fun _ _ K=>YA rfl K rfl rfl rfl rfl fun _ _ K=>YA rfl K rfl rfl rfl rfl fun _ _ K=>YA rfl K rfl rfl rfl rfl fun _ _ K=>YA rfl K rfl rfl rfl rfl fun _ _ K=>YA rfl K rfl rfl rfl rfl fun _ _ K=>?_;refine Jo 1 K M fun _ K=>?_;refine QF ?_;show W _ _ _ _ _ _ _;refine Qb 2 K M fun _ K=>?_;refine QU (k:=1) K M rfl rfl rfl Q9 rfl (Qa rfl (Qa hka2 (Qa hkn2 Qz))) rfl fun _ M=>?_;refine Qb 0 K M ?_;replace B:=B.step M;refine⟨⟨_,ka2,kn2,E2,O2,ZQ,m2,s2,rfl,hka2,hkn2,fun c hc=>hc.elim,B.at_ (k:=1) rfl,fun h=>by simp_all⟩,B.JM⟩
  replace e134:(O2)=false:=by simpa using e134
  refine Jo 3 K M fun _ K=>?_;refine dg rfl K rfl rfl (Qg rfl (Qw (Qx.Jb ((B.step M).at_ (k:=1) rfl).1) (Qd J6 rfl))) rfl rfl fun _ K=>?_;refine Jo 2 K M fun _ K=>?_;refine dB rfl K (Qy rfl) rfl rfl fun b141 _ e141 K=>?_;cases b141
  ·replace e141:(E2)=true:=by simpa using e141
   refine YA rfl K rfl rfl rfl rfl fun _ _ K=>YA rfl K rfl rfl rfl rfl fun _ _ K=>YA rfl K rfl rfl rfl rfl fun _ _ K=>YA rfl K rfl rfl rfl rfl fun _ _ K=>YA rfl K rfl rfl rfl rfl fun _ _ K=>YA rfl K rfl rfl rfl rfl fun _ _ K=>YA rfl K rfl rfl rfl rfl fun _ _ K=>YA rfl K rfl rfl rfl rfl fun _ _ K=>YA rfl K rfl rfl rfl rfl fun _ _ K=>?_;refine Jo 1 K M fun _ K=>?_;refine QF ?_;show W _ _ _ _ _ _ _;refine Qb 2 K M fun _ K=>?_;refine QU (k:=1) K M rfl rfl rfl Q9 rfl (Qa rfl (Qa hka2 (Qa hkn2 Qz))) rfl fun _ M=>?_;refine Qb 0 K M ?_;replace B:=B.step M;refine⟨⟨_,ka2,kn2,E2,O2,ZQ,m2,s2,rfl,hka2,hkn2,fun c hc=>hc.elim,B.at_ (k:=1) rfl,fun h=>by simp_all⟩,B.JM⟩
  replace e141:(E2)=false:=by simpa using e141
  refine Jo 3 K M fun _ K=>?_;refine dg rfl K rfl rfl (Qg rfl (Qw (Qx.Jb ((B.step M).at_ (k:=1) rfl).1) (Qd Xr rfl))) rfl rfl fun _ K=>?_;refine Jo 2 K M fun _ K=>?_;refine dg rfl K rfl rfl (Q5 Yb rfl rfl (Xk.len ((B.step M).at_ (k:=0) rfl (by simp_all)))) rfl rfl fun _ K=>?_;have he2:(E2||O2)=false:=(by simp_all);obtain⟨hA2,hs2,rfl⟩:=hJ he2;have hmn2:=hA2.wf.most;replace B:=B.step M;obtain⟨v149,st149,ev149,rfl,hm3,Q3⟩:=Nk B.fresh ((B.at_ (k:=1) rfl).2 he2) Qc m2.n Qc;refine ke rfl K rfl rfl (Qf rfl ev149) rfl rfl fun _ K=>?_;replace B:=B.call (k:=1) (o':=iO cp mp E2 O2 (UO (lf-s2) false m2.n) (Zu (lf-s2) false m2.n)) rfl (Q3.wide fun c hc=>.inr hc) ⟨(B.at_ (k:=1) rfl).1.frame (Q3.J9 cp (B.Y3 (k:=1) rfl cp (.inl rfl)) hcm),hm3⟩ (UC fun c hc=>Nat.lt_of_lt_of_le (B.Y3 (k:=1) rfl c hc) Q3.le);have M:=B.mem;refine Jo 2 K M fun _ K=>?_;refine QF ?_;show W _ _ _ _ _ _ _;refine Uq K rfl (fun h151=>?_) fun h151=>?_
  ·have hb151:=h151
   replace h151:((BZ (lf-s2) false m2.n))=false:=by simpa using h151
   replace B:=((B.step M).G5 (Os':=[iO cp mp E2 O2 (UO (lf-s2) false m2.n) (Zu (lf-s2) false m2.n),FT F2 (E2||O2) m2 ka2 kn2]) (.swap ..)).wF (R:=[(cp,0,[.ptr mp 0 0,.bool E2,.bool O2])]) (o':=Hu mp) (fun c m l h=>by rw[List.mem_singleton]at h;injection h with h1 h2;injection h2 with h2 h3;rw[h1,h2,h3];exact⟨((B.step M).at_ (k:=1) rfl).1,.inl rfl⟩) Q4 trivial (fun c hc=>.inr hc) (fun c m l h hc=>by rw[List.mem_singleton]at h;injection h with h1 h2;exact hcm (h1.symm.trans hc));replace B:=B.cast (M':=[(cp,0,[.ptr mp 0 0,.bool E2,.bool O2]),(c7,0,[iZ (m2.tr:Nat),ka2,kn2]),(c6,0,[iZ 0,.nils,.nils]),(c4,0,[.str o,iZ a,iZ b,iZ g,iZ n,kc])]) Q4;have M:=B.mem;refine au 5 K M ?_;intro _ _ K _ M;refine QU (k:=2) K M rfl rfl rfl Q9 rfl (Qa rfl (Qa hka2 (Qa hkn2 Qz))) rfl fun _ M=>?_;refine Qb 0 K M ?_;replace B:=B.step M;refine⟨⟨_,ka2,kn2,true,O2,ZQ,m2,0,rfl,hka2,hkn2,fun c hc=>hc.elim,⟨M.Ya (k:=0) rfl,fun h=>by simp at h⟩,fun h=>by simp at h⟩,B.JM⟩
  have hb151:=h151
  replace h151:((BZ (lf-s2) false m2.n))=true:=by simpa using h151
  refine Qb 1 K M fun _ K=>?_;refine QU (k:=1) K M rfl rfl rfl Q9 rfl (Qa rfl (Qa hka2 (Qa hkn2 Qz))) rfl fun _ M=>?_;refine Qb 0 K M ?_;replace B:=B.step M
  have hle:m2.n≤lf-s2:=by simp_all [BZ]
  have hrow:=B.at_ (k:=1) rfl;refine⟨⟨_,ka2,kn2,E2,O2,F2,m2,s2+m2.n,rfl,hka2,hkn2,fun c hc=>⟨(B.L7 (k:=0) rfl c hc).resolve_right fun e=>B.J2 (j:=0) (k:=1) rfl rfl Q8 c hc e,B.Y3 (k:=0) rfl c hc⟩,⟨hrow.1,fun _=>?_⟩,fun _=>⟨hee,B.at_ (k:=0) rfl he2,hA2,by omega,rfl⟩⟩,B.JM⟩;have hr2:=hrow.2;rw[GJ,HZ hle,show lf-s2-m2.n=lf-(s2+m2.n) by omega]at hr2;exact hr2
 refine au 8 K M ?_;intro _ _ K _ M;refine Qb 0 K M ?_;replace B:=B.step M;refine⟨⟨0,.nils,.nils,E,O,ZQ,⟨0,[],[]⟩,0,rfl,rfl,rfl,fun c hc=>hc.elim,⟨(B.at_ (k:=0) rfl).1,fun h=>by simp_all⟩,fun h=>by simp_all⟩,B.JM⟩
end
section
variable {R:VN} {a b g n:Int} {cs:List AV} {l:List Cr} {o:List Nat} {st:St}

theorem ep(x:Cr):SC x:=E9 (M:=SC) (fun o a b g n l ih R st cs cp mp lf k E O hf hR hr hRm hcm hmn hcr hl hk6 hc hsz=>xT hf hR hr ih hRm hcm hmn hcr hl hk6 hc hsz) x
def zI(x:Cr)(m:Int):Bool:=decide (0≤m)&&decide (m≤6)&&decide (Vg x≤2000)&&QV x m
theorem Nl(hf:Qi st)(hR:Yy R st.h.get)(hr:YI R (.mk o a b g n l) cs)(m:Int): ∃v st',Jf 33 [.agg cs,.int .i64 m] st v st'∧v=.bool (zI (.mk o a b g n l) m)∧Qt st st':=SX hf hR hr m
theorem ya{x:Cr}{m:Int}(h:zI x m=true): ∃k:Nat,m=((k:Nat):Int)∧k≤6∧Vg x≤2000∧QV x ((k:Nat):Int)=true:=by
 unfold zI at h;simp only[Bool.and_eq_true,decide_eq_true_eq]at h;obtain⟨⟨⟨h1,h2⟩,h3⟩,h4⟩:=h;refine⟨m.toNat,(Int.toNat_of_nonneg h1).symm,by omega,h3,?_⟩;rw[Int.toNat_of_nonneg h1];exact h4
theorem Qk.iv{st0:St}{X0:Fp}{M:QM}{Os:List Ob}{cp mp l:Nat}(B:Qk st0 X0 st ((cp,0,[.ptr mp 0 0,.bool false,.bool false])::M) (Yr mp l false::Os)):Qk st0 X0 st M (I0 cp mp false false l::Os):=by
 have B2:=Qk.freeze (R:=[(cp,0,[.ptr mp 0 0,.bool false,.bool false])]) (o:=Xs [(cp,0,[.ptr mp 0 0,.bool false,.bool false])]) (M:=M) B (fun c m x h=>B.row c m x (by rw[List.mem_singleton.1 h];exact List.mem_cons_self ..)) (fun c hc=>hc)
 exact B2.join (o:=I0 cp mp false false l) (fun h1 h2=>⟨h1 cp 0 _ (List.mem_singleton.2 rfl),fun _=>h2⟩) (fun c hc=>by
  rcases hc with hc|hc
  ·exact .inl ⟨0,_,by rw[hc];exact List.mem_singleton.2 rfl⟩
  ·exact .inr hc)
theorem Yy.lt(hR:Yy R st.h.get)(hf:Qi st){c m:Nat}{r:List AV}(h:R c m r):c<st.n:=by
 obtain⟨ro,e,vs,ms,h2,h3⟩:=hR c m r h
 exact Nat.lt_of_not_le fun hle=>by rw[hf c hle]at h2;cases h2
def iE(st st':St)(x:Cr)(m:Int)(lf:Nat)(v:AV):Prop:= ∃t ka kn ev ok F au s,v=.tup [.agg [.int .i64 t,ka,kn],.int .i64 ev,.bool ok]∧Qr ka=true∧Qr kn=true∧ZP st st' F∧(ok=true→ev=0→zI x m=true∧Xk st'.h.get F au ka kn∧Jl x m.toNat au s∧s≤lf∧t=((au.tr:Nat):Int))
def iD(st st':St)(x:Cr)(m:Int)(v:AV):Prop:= ∃t ka kn ok F au s,v=.tup [.agg [.int .i64 t,ka,kn],.bool ok]∧Qr ka=true∧Qr kn=true∧ZP st st' F∧(ok=true→Vg x≤20∧zI x m=true∧Xk st'.h.get F au ka kn∧Jl x m.toNat au s∧s≤1073741824∧t=((au.tr:Nat):Int))

theorem Cw(hf:Qi st)(hR:Yy R st.h.get){mp lf:Nat}(hr:YI R (.mk o a b g n l) cs)(hRm: ∀c m r,R c m r→c≠mp)(hm:Qx st.h.get mp 0 [iN lf,.bool false])(hl:lf≤9223372036854775807)(m:Int): ∃v st',Jf 52 [.agg cs,iZ m,.ptr mp 0 0] st v st'∧iE st st' (.mk o a b g n l) m lf v∧UQ (fun c=>c=mp) st st':=by
 have hr0:=hr;obtain⟨kc,ls,rfl,hK⟩:=hr.U0;have hln:=hK.ln;have hbn:=hK.W3;have B:=Qk.UK (o:=Yr mp lf false) hf hm (fun c hc=>(show c=mp from hc)▸hm.lt hf);refine J7 Tryz.func52 Tryz.ntmps52 fun T K=>?_;have M:=B.mem;refine Qb 0 K M fun _ K=>?_;refine Jv K M rfl (Qa rfl (Qa rfl (Qa rfl (Qa rfl (Qa rfl (Qa hK.cell Qz)))))) Q8 fun c3 _ _ K M=>?_;refine au 5 K M ?_;intro c6 _ _ K _ M;refine oQ K M (Nl M.fresh (fun c m r hr=>(B.step M).U5 hf (hR c m r hr) (hRm c m r hr)) hr0 m) rfl rfl fun _ _ K M=>?_;refine Qb 1 K M fun _ K=>?_;refine Uq K rfl (fun h14=>?_) fun h14=>?_
 ·have hb14:=h14
  replace h14:(zI (.mk o a b g n l) m)=false:=by simpa using h14
  refine au 4 K M ?_;intro _ _ K _ M;refine Jx ⟨.inr rfl,_,(Jw (JE K rfl (M.load (k:=0) rfl (QN Jj rfl))) (Q6 K rfl) (Q6 K rfl)),?_⟩;replace B:=B.step M;exact⟨⟨0,.nils,.nils,1,true,ZQ,⟨0,[],[]⟩,0,rfl,rfl,rfl,fun c hc=>hc.elim,fun h1 h2=>by simp at h1 h2⟩,B.JM⟩
 have hb14:=h14
 replace h14:(zI (.mk o a b g n l) m)=true:=by simpa using h14
 refine Qb 0 K M fun _ K=>?_;obtain⟨k,rfl,hk6,hsz,hc⟩:=ya h14;refine au 7 K M ?_;intro c18 _ _ K _ M;replace B:=(B.step M);have hcm:c18≠mp:=fun e=>B.djM (Yr mp lf false) Q4 c18 0 _ (List.mem_cons_self ..) e;have h18:st.n≤c18:=(B.lo c18 0 _ (List.mem_cons_self ..)).resolve_right (fun e=>hcm e);replace B:=Qk.iv (M:=[(c6,0,[iZ 0,.nils,.nils]),(c3,0,[.str o,iZ a,iZ b,iZ g,iZ n,kc])]) B;have B0:=B;obtain⟨v22,st22,ev22,hof,QB⟩:=ep (.mk o a b g n l) R _ _ c18 mp lf k false false B.fresh (fun c m r hr=>B.U5 hf (hR c m r hr) (hRm c m r hr)) hr0 (fun c m r hr hc=>by rcases hc with hc|hc;have:=hR.lt hf hr;omega;exact hRm c m r hr hc) hcm (B.Y3 (k:=0) rfl mp (.inr rfl)) (B.at_ (k:=0) rfl) hl hk6 hc hsz;refine p1 K (Qf rfl ev22) fun _ K=>?_;obtain⟨t1,ka1,kn1,E1,O1,F1,m1,s1,rfl,hka1,hkn1,hnf1,hcm1,hq1⟩:=hof;replace B:=B.call (k:=0) (o':=I0 c18 mp E1 O1 (lf-s1)) rfl QB hcm1 (UC fun c hc=>Nat.lt_of_lt_of_le (B.Y3 (k:=0) rfl c hc) QB.le);replace B:=B0.Zt (k:=0) (o:=FT F1 (E1||O1) m1 ka1 kn1) (om':=I0 c18 mp E1 O1 (lf-s1)) rfl rfl (B.Xf Q4) (fun hb=>(hq1 hb).2.1) hnf1;have M:=B.mem;refine au 1 K M ?_;intro c10 _ _ K _ M;refine QU (k:=0) K M rfl rfl rfl Q9 rfl (Qa rfl (Qa hka1 (Qa hkn1 Qz))) rfl fun _ M=>?_;refine Qb 3 K M fun _ K=>?_;refine p1 K (Qg rfl (Qw (Qx.Jb ((B.step M).at_ (k:=1) rfl).1) (Qd J6 rfl))) fun _ K=>?_;refine Qb 0 K M fun _ K=>?_;refine Uq K rfl (fun h26=>?_) fun h26=>?_
 ·have hb26:=h26;refine au 4 K M ?_;intro _ _ K _ M;refine Jx ⟨.inr rfl,_,(Jw (JE K rfl (M.load (k:=1) rfl (QN Jj rfl))) (Q6 K rfl) (Q6 K rfl)),?_⟩;replace B:=B.step M;exact⟨⟨0,.nils,.nils,0,false,ZQ,⟨0,[],[]⟩,0,rfl,rfl,rfl,fun c hc=>hc.elim,fun h1 h2=>by simp at h1 h2⟩,B.JM⟩
 have hb26:=h26;refine Qb 3 K M fun _ K=>?_;refine p1 K (Qg rfl (Qw (Qx.Jb ((B.step M).at_ (k:=1) rfl).1) (Qd J6 rfl))) fun _ K=>?_;refine Qb 0 K M fun _ K=>?_;refine Uq K rfl (fun h31=>?_) fun h31=>?_
 ·have hb31:=h31;refine au 4 K M ?_;intro _ _ K _ M;refine Jx ⟨.inr rfl,_,(Jw (JE K rfl (M.load (k:=1) rfl (QN Jj rfl))) (Q6 K rfl) (Q6 K rfl)),?_⟩;replace B:=B.step M;exact⟨⟨0,.nils,.nils,8,true,ZQ,⟨0,[],[]⟩,0,rfl,rfl,rfl,fun c hc=>hc.elim,fun h1 h2=>by simp at h1 h2⟩,B.JM⟩
 have hb31:=h31;refine Qb 1 K M fun _ K=>?_;refine QU (k:=1) K M rfl rfl rfl Q9 rfl (Qa rfl (Qa hka1 (Qa hkn1 Qz))) rfl fun _ M=>?_;refine Qb 2 K M fun _ K=>?_;refine Jx ⟨.inr rfl,_,(Jw (JE K rfl (M.load (k:=1) rfl (QN Jj rfl))) (Q6 K rfl) (Q6 K rfl)),?_⟩;replace B:=B.step M;have he1:(E1||O1)=false:=(by simp_all);exact⟨⟨_,ka1,kn1,0,true,F1,m1,s1,rfl,hka1,hkn1,fun c hc=>⟨(B.L7 (k:=0) rfl c hc).resolve_right fun e=>B.J2 (j:=0) (k:=1) rfl rfl Q8 c hc (.inr e),B.Y3 (k:=0) rfl c hc⟩,fun _ _=>⟨h14,B.at_ (k:=0) rfl he1,(hq1 he1).2.2.1,(hq1 he1).2.2.2.1,(hq1 he1).2.2.2.2⟩⟩,B.JM⟩

theorem uH(hf:Qi st)(hR:Yy R st.h.get)(hr:YI R (.mk o a b g n l) cs)(m:Int): ∃v st',Jf 19 [.agg cs,iZ m] st v st'∧iD st st' (.mk o a b g n l) m v∧Qt st st':=by
 have hr0:=hr;obtain⟨kc,ls,rfl,hK⟩:=hr.U0;have hln:=hK.ln;have hbn:=hK.W3;have B:=Qk.start hf;refine J7 Tryz.func19 Tryz.ntmps19 fun T K=>?_;have M:=B.mem;refine Qb 0 K M fun _ K=>?_;refine Jv K M rfl (Qa rfl (Qa rfl (Qa rfl (Qa rfl (Qa rfl (Qa hK.cell Qz)))))) Q8 fun c2 _ _ K M=>?_;refine au 3 K M ?_;intro c4 _ _ K _ M;refine oQ K M (G4 M.fresh (M.Yy hR) hr0) rfl rfl fun _ _ K M=>?_;refine Qb 1 K M fun _ K=>?_;refine Jt K rfl (fun h11=>?_) fun h11=>?_
 ·refine au 3 K M ?_;intro _ _ K _ M;refine Jx ⟨.inr rfl,_,(Ud (JE K rfl (M.load (k:=0) rfl (QN Jj rfl))) (Q6 K rfl)),?_⟩;replace B:=B.step M;exact⟨⟨0,.nils,.nils,false,ZQ,⟨0,[],[]⟩,0,rfl,rfl,rfl,fun c hc=>hc.elim,fun h=>by cases h⟩,B.qt⟩
 refine Qb 0 K M fun _ K=>?_;refine QA (l:=[(2,0),(0,1),(1,0),(3,0),(4,0),(5,0),(8,0),(9,0),(6,0),(7,0),(10,0),(11,0)]) (by kernel_rfl) ?_;have Mq:=M;have Bq:=B;replace B:=B.step M;obtain⟨v16,st16,ev16,mp,rfl,hmp,hmr,q16⟩:=Dt B.fresh 1073741824;refine qA rfl K (Qf rfl ev16) fun _ K=>?_;have hmp0:=Nat.le_trans B.le hmp;replace B:=B.new (o:=Yr mp 1073741824 false) q16 hmr (fun c hc=>by rw[show c=mp from hc];exact⟨hmp,hmr.lt q16.fresh⟩);have M:=B.mem;have Mp:=Mq;have Mq:=M;have Bp:=Bq;have Bq:=B;refine Ju rfl K rfl (M.load (k:=1) rfl (QN QW rfl)) (Mp.load (k:=1) rfl (QN QW rfl)) (Fs (by simp[AE,AF,WU,Ub hK.len])) rfl Q8 fun _ K=>?_;refine q1 rfl K (Qy rfl) fun _ K=>?_;replace B:=B.step M;have B0:=B;obtain⟨v17,st17,ev17,hof,QB⟩:=Cw B.fresh (fun c m r hr=>B.U5 hf (hR c m r hr) (fun h=>h)) hr0 (fun c m r hr=>by have:=hR.lt hf hr;omega) (show Qx _ mp 0 [iZ ((1073741824:Nat):Int),.bool false]from B.at_ (k:=0) rfl) Q8 m;refine qA rfl K (Qf rfl ev17) fun _ K=>?_;obtain⟨t1,ka1,kn1,ev,ok,F1,m1,s1,rfl,hka1,hkn1,hnf1,hq1⟩:=hof
 have hq2:(!(ok&&decide (ev=0)))=false→ok=true∧ev=0:=fun h=>by simpa using h
 replace B:=B.call (k:=0) (o':=Hu mp) rfl QB trivial (UC fun c hc=>Nat.lt_of_lt_of_le (B.Y3 (k:=0) rfl c hc) QB.le);replace B:=B0.Zt (k:=0) (o:=FT F1 (!(ok&&decide (ev=0))) m1 ka1 kn1) (om':=Hu mp) rfl rfl (B.Xf Q4) (fun hb=>(hq1 (hq2 hb).1 (hq2 hb).2).2.1) hnf1;have M:=B.mem;have Mp:=Mq;have Mq:=M;have Bp:=Bq;have Bq:=B;refine Jo 2 K M fun _ K=>?_;refine W6 rfl K M Y5 Q8 fun c6 _ _ K M=>?_;refine V2 (k:=0) rfl K M rfl rfl rfl Q9 rfl (Qa rfl (Qa hka1 (Qa hkn1 Qz))) rfl fun _ M=>?_;have Mp:=Mq;have Mq:=M;have Bp:=Bq;have Bq:=B;refine Jo 4 K M fun _ K=>?_;refine QF ?_;show W _ _ _ _ _ _ _;refine Qb 2 K M fun _ K=>?_;refine oB K (Qy rfl) rfl fun b23 _ e23 K=>?_;cases b23
 ·refine Qb 3 K M fun _ K=>?_;refine QU (k:=1) K M rfl rfl rfl Q9 rfl (Qa rfl (Qa hka1 (Qa hkn1 Qz))) rfl fun _ M=>?_;refine Qb 1 K M fun _ K=>?_;refine Jx ⟨.inr rfl,_,(Ud (JE K rfl (M.load (k:=1) rfl (QN Jj rfl))) (Q6 K rfl)),?_⟩;replace B:=B.step M;refine⟨⟨_,ka1,kn1,_,F1,m1,s1,rfl,hka1,hkn1,fun c hc=>⟨B.uA (k:=0) rfl c hc|>.1,B.Y3 (k:=0) rfl c hc⟩,fun h=>?_⟩,B.qt⟩;have hok:ok=true∧ev=0:=(by simp_all);have hq3:=hq1 hok.1 hok.2;exact⟨by omega,hq3.1,B.at_ (k:=0) rfl (by simp[hok]),hq3.2.2.1,hq3.2.2.2.1,hq3.2.2.2.2⟩
 refine Qb 3 K M fun _ K=>?_;refine QU (k:=1) K M rfl rfl rfl Q9 rfl (Qa rfl (Qa hka1 (Qa hkn1 Qz))) rfl fun _ M=>?_;refine Qb 1 K M fun _ K=>?_;refine Jx ⟨.inr rfl,_,(Ud (JE K rfl (M.load (k:=1) rfl (QN Jj rfl))) (Q6 K rfl)),?_⟩;replace B:=B.step M;refine⟨⟨_,ka1,kn1,_,F1,m1,s1,rfl,hka1,hkn1,fun c hc=>⟨B.uA (k:=0) rfl c hc|>.1,B.Y3 (k:=0) rfl c hc⟩,fun h=>?_⟩,B.qt⟩;have hok:ok=true∧ev=0:=(by simp_all);have hq3:=hq1 hok.1 hok.2;exact⟨by omega,hq3.1,B.at_ (k:=0) rfl (by simp[hok]),hq3.2.2.1,hq3.2.2.2.1,hq3.2.2.2.2⟩
end
section

section
variable {R:VN} {st:St} {o:List Nat} {a b g n:Int} {l:List Cr} {cs:List AV} {mp lf k s:Nat} {m:Au}
theorem qs(hf:Qi st)(hR:Yy R st.h.get)(hr:YI R (.mk o a b g n l) cs)(hRm: ∀c m r,R c m r→c≠mp)(hm:Qx st.h.get mp 0 [.int .i64 (lf:Nat),.bool false])(hl:lf≤9223372036854775807)(hk6:k≤6)(hc:QV (.mk o a b g n l) ((k:Nat):Int)=true)(hsz:Vg (.mk o a b g n l)≤2000)(hA:Jl (.mk o a b g n l) k m s)(hs:s≤lf):
  ∃v st',Jf 20 [.agg cs,.int .i64 (k:Nat),.ptr mp 0 0] st v st'∧ ∃dp F,v=.tup [.ptr dp 0 0,.int .i64 0]∧UX st' F dp m∧ZP st st' F∧Qx st'.h.get mp 0 [.int .i64 (lf-s:Nat),.bool false]∧UQ (fun c=>c=mp) st st':=by
 obtain⟨v,st',h1,h2,h3⟩:=Ot hf hR hr hRm hm hl hk6 hc hsz;rcases h2 with⟨dp,F,m',s',h4,h5,h6,h7,h8,h9⟩|⟨h4,h5⟩
 ·obtain⟨rfl,rfl⟩:=hA.uniq h5;exact⟨v,st',h1,dp,F,h4,h7,h8,h9,h3⟩
 ·have:=h5 m s hA;omega
end
theorem u7{st:St}(hf:Qi st)(n:Nat): ∃v st',Jf 11 [.int .i64 (n:Nat)] st v st'∧ ∃mp,v=.ptr mp 0 0∧st.n≤mp∧Qx st'.h.get mp 0 [.int .i64 (n:Nat),.bool false]∧Qt st st':=Tq hf ((n:Nat):Int)
end
section

theorem aa{o:List Nat}{a b g n m:Int}{l:List Cr}(h:QV (.mk o a b g n l) m=true):n.toNat≤20:=by
 rw[QV]at h;simp only[Bool.and_eq_true]at h;have:=h.2.2.1;unfold JL at this
 split at this<;>simp at this<;>omega
theorem Zx{o:List Nat}{a b g n m:Int}{l:List Cr}(h:QV (.mk o a b g n l) m=true){x:Cr}(hx:x∈l):QV x (if o=[101,120]then m+1 else m)=true∧(o=[101,120]→m<6):=by
 rw[QV]at h;simp only[Bool.and_eq_true]at h;have h4:=h.2.2.2
 by_cases e:o=[101,120]
 ·rw[if_pos e]at h4 ⊢;simp only[Bool.and_eq_true,decide_eq_true_eq]at h4;exact⟨Ea h4.2.2.2.2 hx,fun _=>h4.2.1⟩
 ·rw[if_neg e]at h4 ⊢;simp only[Bool.and_eq_true]at h4;exact⟨Ea h4.2.2.2 hx,fun h=>absurd h e⟩
end
section
variable {a b d n s x y:Nat} {o:List Nat}

def Y2(v:Nat):List Nat→Nat
 |[]=>0
 |l::w=>Xm l v+2 *Y2 v w
def Yn(a:Nat):Bool:=decide (0<a)&&decide (a&&&(a-1)=0)
def QL(o:List Nat)(n a b d:Nat):Bool:=
 if o=[115,117,98]then decide (Vj a b=0)
 else if o=[110,111,110,101]then decide (a=0)
 else if o=[117,110,105,111,110]then decide (d=a|||b)
 else if o=[105,110,116,101,114]then decide (d=a&&&b)
 else if o=[109,105,110,117,115]then decide (d=Vj a b)
 else if o=[102,108,97,103]then decide (a % 2=1)
 else if o=[115,105,110,103]then Yn a
 else if o=[110,117,109]then decide (a=2^n)
 else if o=[108,101,115,115]then Yn a&&Yn b&&decide (a<b)
 else if o=[112,108,117,115]then Yn a&&decide (a *2^n=b)
 else true
def PQ(o:List Nat)(n s a b d:Nat):Prop:=
 s≠30∧(if o=[115,117,98]then Vj a b=0
 else if o=[110,111,110,101]then a=0
 else if o=[117,110,105,111,110]then d=a|||b
 else if o=[105,110,116,101,114]then d=a&&&b
 else if o=[109,105,110,117,115]then d=Vj a b
 else if o=[102,108,97,103]then s=1∨a % 2=1
 else if o=[115,105,110,103]then(s=0∧Yn a=true)∨(s=1∧a=0)
 else if o=[110,117,109]then(s≤n∧a=2^(n-s))∨(s=n+1∧a=0)
 else if o=[108,101,115,115]then(s=0∧Yn a=true∧Yn b=true∧a<b)∨(s=1∧a=0∧Yn b=true)∨(s=2∧a=0∧b=0)
 else if o=[112,108,117,115]then(s=0∧Yn a=true∧a *2^n=b)∨(1≤s∧s≤n∧a=0∧b=2^(n-s))∨(s=n+1∧a=0∧b=0)
 else True)
theorem half(x a:Nat)(hx:x≤1):(x+2 *a)/2=a:=by omega
theorem vL(hx:x≤1)(hy:y≤1):(x+2 *a)&&&(y+2 *b)=x *y+2 *(a&&&b):=by
 have h1:((x+2 *a)&&&(y+2 *b))/2=a&&&b:=by rw[Nat.and_div_two,half x a hx,half y b hy]
 have h2:= @Nat.and_mod_two_eq_one (x+2 *a) (y+2 *b)
 obtain rfl|rfl:x=0∨x=1:=by omega
 ·have: ¬((0+2 *a)&&&(y+2 *b)) % 2=1:=fun h=>by have:=(h2.1 h).1;omega
  rw[Nat.zero_mul];omega
 ·obtain rfl|rfl:y=0∨y=1:=by omega
  ·have: ¬((1+2 *a)&&&(0+2 *b)) % 2=1:=fun h=>by have:=(h2.1 h).2;omega
   rw[Nat.mul_zero];omega
  ·have:((1+2 *a)&&&(1+2 *b)) % 2=1:=h2.2 ⟨by omega,by omega⟩;rw[Nat.mul_one];omega
theorem iS(hx:x≤1)(hy:y≤1):(x+2 *a)|||(y+2 *b)=max x y+2 *(a|||b):=by
 have h1:((x+2 *a)|||(y+2 *b))/2=a|||b:=by rw[Nat.or_div_two,half x a hx,half y b hy]
 have h2:= @Nat.or_mod_two_eq_one (x+2 *a) (y+2 *b)
 by_cases h:x=1∨y=1
 ·have:((x+2 *a)|||(y+2 *b)) % 2=1:=h2.2 Qc;omega
 ·have: ¬((x+2 *a)|||(y+2 *b)) % 2=1:=fun h'=>by have:=h2.1 h';omega
  omega
theorem hU(hx:x≤1)(hy:y≤1):(x+2 *a)^^^(y+2 *b)=(x+y) % 2+2 *(a^^^b):=by
 have h1:((x+2 *a)^^^(y+2 *b))/2=a^^^b:=by rw[Nat.xor_div_two,half x a hx,half y b hy]
 have h2:= @Nat.xor_mod_two_eq_one (x+2 *a) (y+2 *b)
 by_cases h:(x+y) % 2=1
 ·have:((x+2 *a)^^^(y+2 *b)) % 2=1:=h2.2 Qc;omega
 ·have: ¬((x+2 *a)^^^(y+2 *b)) % 2=1:=fun h'=>by have:=h2.1 h';omega
  omega
theorem wj(hx:x≤1)(hy:y≤1):Vj (x+2 *a) (y+2 *b)=(x-y)+2 *Vj a b:=by
 have hxy:x *y≤1:=Nat.le_trans (Nat.mul_le_mul hx hy) Q8;unfold Vj;rw[vL hx hy,hU hx hxy]
 obtain rfl|rfl:x=0∨x=1:=by omega
 ·simp
 ·obtain rfl|rfl:y=0∨y=1:=by omega
  ·simp
  ·simp
theorem Ri(a:Nat):Yn (0+2 *a)=Yn a:=by
 unfold Yn
 by_cases h:a=0
 ·subst h;rfl
 ·rw[show 0+2 *a-1=1+2 *(a-1) by omega,vL Q8 Q8,Nat.zero_mul,Bool.eq_iff_iff];simp only[Bool.and_eq_true,decide_eq_true_eq]
  constructor<;>rintro⟨h1,h2⟩<;>refine⟨by omega,by omega⟩
theorem Rh(a:Nat):Yn (1+2 *a)=decide (a=0):=by
 unfold Yn;rw[show 1+2 *a-1=0+2 *a by omega,vL Q8 Q8,Nat.mul_zero,Nat.and_self,Bool.eq_iff_iff];simp only[Bool.and_eq_true,decide_eq_true_eq];constructor
 ·rintro⟨_,h⟩;omega
 ·intro h;exact⟨by omega,by omega⟩
theorem LZ(h:Yn a=true):0<a:=by
 unfold Yn at h;simp only[Bool.and_eq_true,decide_eq_true_eq]at h;exact h.1
theorem HS(n:Nat):0<2^n:=Nat.two_pow_pos n
theorem qL{z:Nat}(hn:n≤20)(hs:s≤30)(hx:x≤1)(hy:y≤1)(hz:z≤1):PQ o n s (x+2 *a) (y+2 *b) (z+2 *d)↔PQ o n (min (QR o n s x y z) 30) a b d:=by
 unfold PQ QR
 by_cases e:s=30
 ·simp[e]
 simp only[if_neg e]
 by_cases h0:o=[115,117,98]
 ·subst h0;simp only[if_true,wj hx hy];split<;>simp<;>omega
 by_cases h1:o=[110,111,110,101]
 ·subst h1;simp;split<;>simp<;>omega
 by_cases h2:o=[117,110,105,111,110]
 ·subst h2;simp only[iS hx hy]
  have hor:x|||y=max x y:=by
   obtain rfl|rfl:x=0∨x=1:=by omega
   ·simp
   ·obtain rfl|rfl:y=0∨y=1:=by omega
    ·rfl
    ·rfl
  simp[hor];split<;>simp<;>omega
 by_cases h3:o=[105,110,116,101,114]
 ·subst h3;simp only[vL hx hy]
  have hand:x&&&y=x *y:=by
   obtain rfl|rfl:x=0∨x=1:=by omega
   ·simp
   ·obtain rfl|rfl:y=0∨y=1:=by omega
    ·rfl
    ·rfl
  have hxy:x *y≤1:=Nat.le_trans (Nat.mul_le_mul hx hy) Q8
  simp[hand];split<;>simp<;>omega
 by_cases h4:o=[109,105,110,117,115]
 ·subst h4;simp[wj hx hy];split<;>simp<;>omega
 by_cases h5:o=[102,108,97,103]
 ·subst h5;simp;split<;>simp<;>omega
 by_cases h6:o=[115,105,110,103]
 ·subst h6;simp
  obtain rfl|rfl:x=0∨x=1:=by omega
  ·rw[Ri]
   by_cases hA:Yn a=true<;>split<;>simp[hA]<;>omega
  ·rw[Rh]
   split<;>simp<;>omega
 by_cases h7:o=[110,117,109]
 ·subst h7;simp;have hp:=HS (n-s)
  have hq:s<n→2^(n-s)=2 *2^(n-(s+1)):=fun h=>by rw[show n-s=n-(s+1)+1 by omega,Nat.pow_succ,Nat.mul_comm]
  have h1:s=n→2^(n-s)=1:=fun h=>by rw[h,Nat.sub_self]
  rcases Nat.lt_trichotomy s n with h|h|h
  ·have:=hq h
   have hm:min (s+1) 30=s+1:=by omega
   split
   ·omega
   ·split<;>(try simp)<;>(try rw[hm])<;>omega
  ·have:=h1 h
   have hm:min (s+1) 30=s+1:=by omega
   split
   ·omega
   ·split<;>(try simp)<;>(try rw[hm])<;>omega
  ·split
   ·omega
   ·split<;>(try simp)<;>omega
 by_cases h8:o=[108,101,115,115]
 ·subst h8;simp;have hsa:Yn a=true→0<a:=LZ;have hsb:Yn b=true→0<b:=LZ
  rcases(show x=0∨x=1 by omega)with rfl|rfl<;>rcases(show y=0∨y=1 by omega)with rfl|rfl
  all_goals simp only[Ri,Rh,decide_eq_true_eq]
  all_goals by_cases hA:Yn a=true
  all_goals by_cases hB:Yn b=true
  all_goals simp only[hA,hB,true_implies]at hsa hsb ⊢
  all_goals simp
  all_goals(repeat' split)
  all_goals first|omega|(simp;done)|(simp;omega)
 by_cases h9:o=[112,108,117,115]
 ·subst h9;simp;have hp:=HS (n-s);have hpn:=HS n
  have hq:s<n→2^(n-s)=2 *2^(n-(s+1)):=fun h=>by rw[show n-s=n-(s+1)+1 by omega,Nat.pow_succ,Nat.mul_comm]
  have h1:s=n→2^(n-s)=1:=fun h=>by rw[h,Nat.sub_self]
  have hqn:0<n→2^n=2 *2^(n-1):=fun h=>by rw[show n=n-1+1 by omega,Nat.pow_succ,Nat.mul_comm];simp
  have hsa:Yn a=true→0<a:=LZ
  have h0n:n=0→2^n=1:=fun h=>by rw[h]
  have hm0:(0+2 *a) *2^n=2 *(a *2^n):=by rw[Nat.zero_add,Nat.mul_assoc]
  have hm1:(1+2 *a) *2^n=2^n+2 *(a *2^n):=by rw[Nat.add_mul,Nat.one_mul,Nat.mul_assoc]
  have ha0:a=0→a *2^n=0:=fun h=>by rw[h,Nat.zero_mul]
  generalize hP:a *2^n=P at *
  by_cases hs0:s=0
  ·subst hs0
   rcases(show x=0∨x=1 by omega)with rfl|rfl<;>rcases(show y=0∨y=1 by omega)with rfl|rfl
   all_goals simp only[Ri,Rh,decide_eq_true_eq,hm0,hm1]
   all_goals by_cases hA:Yn a=true
   all_goals simp only[hA,true_implies]at hsa ⊢
   all_goals simp
   all_goals(repeat' split)
   all_goals first|omega|(simp;done)|(simp;omega)
  ·rcases Nat.lt_trichotomy s n with h|h|h
   ·have:=hq h
    have hm:min (s+1) 30=s+1:=by omega
    (repeat' split)<;>first|omega|(rw[hm];omega)|(simp;done)|(simp;omega)|(simp;rw[hm];omega)
   ·have:=h1 h
    have hm:min (s+1) 30=s+1:=by omega
    (repeat' split)<;>(try simp)<;>(try rw[hm])<;>omega
   ·(repeat' split)<;>first|omega|(simp;done)|(simp;omega)
 simp[h0,h1,h2,h3,h4,h5,h6,h7,h8,h9,e]
theorem zw:PQ o n s 0 0 0↔Xh o n s=true:=by
 unfold PQ Xh
 by_cases e:s=30
 ·simp[e]
 simp only[if_neg e];have hp:=HS (n-s)
 by_cases h0:o=[115,117,98]
 ·subst h0;simp[e,Vj]
 by_cases h1:o=[110,111,110,101]
 ·subst h1;simp[e]
 by_cases h2:o=[117,110,105,111,110]
 ·subst h2;simp[e]
 by_cases h3:o=[105,110,116,101,114]
 ·subst h3;simp[e]
 by_cases h4:o=[109,105,110,117,115]
 ·subst h4;simp[e,Vj]
 by_cases h5:o=[102,108,97,103]
 ·subst h5;simp;omega
 by_cases h6:o=[115,105,110,103]
 ·subst h6;simp[Yn];omega
 by_cases h7:o=[110,117,109]
 ·subst h7;simp;omega
 by_cases h8:o=[108,101,115,115]
 ·subst h8;simp[Yn];omega
 by_cases h9:o=[112,108,117,115]
 ·subst h9;simp[Yn];omega
 simp[h0,h1,h2,h3,h4,h5,h6,h7,h8,h9,e]
theorem EB(l v:Nat):Xm l v≤1:=by unfold Xm;omega
theorem CY{l:Nat}:VU o n a b d s l≤30:=by unfold VU;omega
theorem Dp{o:List Nat}{n a b d:Nat}(hn:n≤20): ∀(w:List Nat) {s:Nat},s≤30→(Xh o n (w.foldl (VU o n a b d) s)=true↔PQ o n s (Y2 a w) (Y2 b w) (Y2 d w))
 |[],s,hs=>by rw[List.foldl_nil,Y2,Y2,Y2];exact zw.symm
 |l::w,s,hs=>by
  rw[List.foldl_cons,Y2,Y2,Y2,qL hn hs (EB _ _) (EB _ _) (EB _ _)];exact Dp hn w CY
theorem qK:PQ o n 0 a b d↔QL o n a b d=true:=by
 unfold PQ QL
 by_cases h0:o=[115,117,98]
 ·subst h0;simp
 by_cases h1:o=[110,111,110,101]
 ·subst h1;simp
 by_cases h2:o=[117,110,105,111,110]
 ·subst h2;simp
 by_cases h3:o=[105,110,116,101,114]
 ·subst h3;simp
 by_cases h4:o=[109,105,110,117,115]
 ·subst h4;simp
 by_cases h5:o=[102,108,97,103]
 ·subst h5;simp
 by_cases h6:o=[115,105,110,103]
 ·subst h6;simp
 by_cases h7:o=[110,117,109]
 ·subst h7;simp
 by_cases h8:o=[108,101,115,115]
 ·subst h8;simp[and_assoc]
 by_cases h9:o=[112,108,117,115]
 ·subst h9;simp
 simp[h0,h1,h2,h3,h4,h5,h6,h7,h8,h9]
theorem S5{k:Nat}(hn:n≤20)(hk:k≤6){w:List Nat}(hw:X4 (2^k) w):(Zo o a b d n k).ok ((Zo o a b d n k).run 0 w)=QL o n (Y2 a w) (Y2 b w) (Y2 d w):=by
 have hl:w.foldl (VU o n a b d) 0≤30:=by
  rcases List.eq_nil_or_concat w with rfl|⟨v,l,rfl⟩
  ·exact Nat.zero_le _
  ·rw[List.concat_eq_append,List.foldl_append];exact CY
 rw[qE w Q8 hw,PD Qc,Bool.eq_iff_iff,Dp hn w Q8,qK]
mutual
def UY:Cr→Bool
 |.mk o _ _ _ _ l=>XO l&&decide (o≠[101,120])
def XO:List Cr→Bool
 |[]=>true
 |x::l=>UY x&&XO l
end
mutual
def QC(S:Nat→Nat):Cr→Bool
 |.mk o a b d n l=>if o=[110,111,116]then !((EJ S l)[0]?.getD false)else if o=[97,110,100]then(EJ S l)[0]?.getD false&&(EJ S l)[1]?.getD false else QL o n.toNat (S a.toNat) (S b.toNat) (S d.toNat)
def EJ(S:Nat→Nat):List Cr→List Bool
 |[]=>[]
 |x::l=>QC S x::EJ S l
end
theorem Jl.holds{x:Cr}{k:Nat}{m:Au}(h:Jl x k m s):k≤6→QV x ((k:Nat):Int)=true→UY x=true→ ∀{w:List Nat},X4 (2^k) w→m.ok (m.run 0 w)=QC (fun v=>Y2 v w) x:=by
 induction h with
 | @atom o a b d n k m h1 h2 h3 h=>
  intro hk hc hfr w hw;rw[h.like w (VY (show(Zo o a.toNat b.toNat d.toNat n.toNat k).tr=m.tr from h.tr.symm) (show X4 (2^k) w from hw)),S5 (aa hc) hk hw,QC,if_neg h1,if_neg h2]
 |not ho hx h ih=>
  intro hk hc hfr w hw;subst ho;rw[UY,XO,XO]at hfr;rw[hx.uJ (o:=[]) (a:=0) (b:=0) (d:=0) (n:=0) h hw,ih hk (Zx hc Q4).1 (by simpa using hfr) hw,QC,if_pos rfl];simp[EJ]
 | @and o a b d n x y k s t p q r m lp ho hx hy hb h ih1 ih2=>
  intro hk hc hfr w hw;subst ho;rw[UY,XO,XO,XO]at hfr
  have hfr:UY x=true∧UY y=true:=by simpa using hfr
  rw[hx.uL hb h hw,ih1 hk (Zx hc Q4).1 hfr.1 hw,ih2 hk (Zx hc Q4).1 hfr.2 hw,QC,if_neg Q8,if_pos rfl];simp[EJ]
 |ex ho=>
  intro hk hc hfr;subst ho;rw[UY]at hfr;simp at hfr
theorem AW(v:Nat): ∀(w:List Nat) (l:Nat),Y2 v (w++[l])=Y2 v w+Xm l v *2^w.length
 |[],l=>by simp[Y2]
 |c::w,l=>by
  rw[List.cons_append,Y2,Y2,AW v w l,List.length_cons,Nat.pow_succ,Nat.mul_add,Nat.add_assoc]
  congr 2
  rw[Nat.mul_comm,Nat.mul_assoc]
theorem HM(v:Nat): ∀(w:List Nat),Y2 v w<2^w.length
 |[]=>by simp[Y2]
 |c::w=>by
  have h1:=HM v w;have h2:=EB c v;rw[Y2,List.length_cons,Nat.pow_succ];omega
theorem xo{v l:Nat}{w:List Nat}:Y2 v w|||Xm l v *2^w.length=Y2 v (w++[l]):=by
 rw[AW];exact G7 (HM v w)
end
end Go.Proofs.YtiknomepbklibaaGreatDoor
