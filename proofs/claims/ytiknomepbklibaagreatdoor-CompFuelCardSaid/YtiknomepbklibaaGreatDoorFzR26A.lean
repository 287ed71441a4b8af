/-
  A formula's automaton: the program's compile.
-/
import Derived.Test.YtiknomepbklibaaGreatDoorFzCmk
import Derived.Test.YtiknomepbklibaaGreatDoorFzR25B
set_option maxHeartbeats 8000000
set_option maxRecDepth 100000
set_option linter.unnecessarySimpa false
set_option linter.unusedSectionVars false
set_option linter.unusedSimpArgs false
set_option linter.unusedVariables false
section
namespace Go.Proofs.YtiknomepbklibaaGreatDoor
open Go Go.RowKit
variable {R:Aq} {a b g n:Int} {cs:List AV} {k lf mp:Nat} {l:List Cr} {o:List Nat} {st:St}

def yo(st':St)(x:Cr)(cs:List AV)(k mp l:Nat)(v:AV):Prop:=
 (∃ks s,∃J:Au→Prop,v=.tup [ks,.int .i64 0]∧Qu ks=true∧s≤l∧Q0 st'.h.get mp 0 [.int .i64 (l-s:Nat),.bool false]∧(∀r m,J r→Ub r m→JN x k m (s+m.n))∧(∀m t,JN x k m t→ ∃r,J r)∧
  ∃v2 st2,Ev Tryz.prog Q4 80 [.agg cs,.int .i64 (k:Nat),ks] st' v2 st2∧Xx st' st2 J v2∧Qt st' st2)∨(v=.tup [.nils,.int .i64 8]∧ ∀m t,JN x k m t→l<t)
theorem yo.ex{st':St}{x:Cr}{l:Nat}{v:AV}(h:yo st' x cs k mp l v): ∃ks ev,v=.tup [ks,.int .i64 ev]∧Qu ks=true∧((ev=0∧ ∃s,∃J:Au→Prop,s≤l∧Q0 st'.h.get mp 0 [.int .i64 (l-s:Nat),.bool false]∧(∀r m,J r→Ub r m→JN x k m (s+m.n))∧(∀m t,JN x k m t→ ∃r,J r)∧
  ∃v2 st2,Ev Tryz.prog Q4 80 [.agg cs,.int .i64 (k:Nat),ks] st' v2 st2∧Xx st' st2 J v2∧Qt st' st2)∨(ev=8∧ ∀m t,JN x k m t→l<t)):=by
 rcases h with⟨ks,s,J,h1,h2,h3⟩|⟨h1,h2⟩
 ·exact⟨_,_,h1,h2,.inl ⟨rfl,s,J,h3⟩⟩
 ·exact⟨_,_,h1,rfl,.inr ⟨rfl,h2⟩⟩
theorem Xx.ex{st':St}{J:Au→Prop}{v:AV}(h:Xx st st' J v): ∃xv ev,v=.tup [xv,.int .i64 ev]∧Qu xv=true∧((ev=0∧ ∃dp F r,xv=.ptr dp 0 0∧J r∧UY st' F dp r∧ZJ st st' F)∨(ev=8∧xv=.nilp∧ ∀r,¬J r)):=by
 rcases h with⟨dp,F,r,h1,h2⟩|⟨h1,h2⟩
 ·exact⟨_,_,h1,rfl,.inl ⟨rfl,dp,F,r,rfl,h2⟩⟩
 ·exact⟨_,_,h1,rfl,.inr ⟨rfl,rfl,h2⟩⟩
theorem V7{m:Int}(h:Jm (.mk o a b g n l) m=true):(Wl o∧l=[])∨(o=IP∧ ∃x,l=[x]∧Jm x m=true)∨(o=Hr∧ ∃x y,l=[x,y]∧Jm x m=true∧Jm y m=true)∨(o=Bf∧ ∃x,l=[x]∧m<6∧Jm x (m+1)=true):=by
 rw[Jm]at h;simp only[Bool.and_eq_true,decide_eq_true_eq]at h;obtain⟨h1,h2,h3,h4⟩:=h
 by_cases e1:o=IP
 ·subst e1
  have hl:l.length=1:=by rw[show(Ue IP).2.1=1 by decide]at h2;omega
  obtain⟨x,rfl⟩:=List.length_eq_one_iff.1 hl;rw[if_neg QE]at h4;simp only[Bool.and_eq_true,Xe]at h4;exact .inr (.inl ⟨rfl,x,rfl,h4.2.2.2.1⟩)
 by_cases e2:o=Hr
 ·subst e2
  have hl:l.length=2:=by rw[show(Ue Hr).2.1=2 by decide]at h2;omega
  obtain⟨x,y,rfl⟩: ∃x y,l=[x,y]:=by
   match l,hl with
   |[x,y],_=>exact⟨x,y,rfl⟩
  rw[if_neg QE]at h4;simp only[Bool.and_eq_true,Xe]at h4;exact .inr (.inr (.inl ⟨rfl,x,y,rfl,h4.2.2.2.1,h4.2.2.2.2.1⟩))
 by_cases e3:o=Bf
 ·subst e3
  have hl:l.length=1:=by rw[show(Ue Bf).2.1=1 by decide]at h2;omega
  obtain⟨x,rfl⟩:=List.length_eq_one_iff.1 hl;rw[if_pos rfl]at h4;simp only[Bool.and_eq_true,decide_eq_true_eq,Xe]at h4;exact .inr (.inr (.inr ⟨rfl,x,rfl,h4.2.1,h4.2.2.2.2.1⟩))
 have hat:Wl o:=by
  refine Classical.byContradiction fun hn=>?_;unfold Wl at hn;simp only[not_or]at hn;obtain⟨n1,n2,n3,n4,n5,n6,n7,n8,n9,n10,n11⟩:=hn;unfold Ue at h1;rw[if_neg (Ne.symm n1),if_neg (Ne.symm n2),if_neg (Ne.symm n7),if_neg (Ne.symm n8),if_neg (Ne.symm n3),if_neg (Ne.symm n9),if_neg (Ne.symm n10),if_neg (Ne.symm n11),if_neg (Ne.symm n4),if_neg (Ne.symm n5),if_neg (Ne.symm n6),if_neg (Ne.symm e1),if_neg (Ne.symm e2),if_neg (Ne.symm e3)]at h1;cases h1
 have hl:(Ue o).2.1=0:=by rcases hat with rfl|rfl|rfl|rfl|rfl|rfl|rfl|rfl|rfl|rfl|rfl<;>decide
 exact .inl ⟨hat,List.eq_nil_of_length_eq_zero Qe⟩
theorem jI(hf:Qj st)(hR:YJ R st.h.get){kc:AV}(hr:XN R (.mk o a b g n l) [.str o,.int .i64 a,.int .i64 b,.int .i64 g,.int .i64 n,kc])(ih: ∀y∈l,Kk y)(hRm: ∀c m r,R c m r→c≠mp)(hm:Q0 st.h.get mp 0 [.int .i64 (lf:Nat),.bool false])(hl:lf≤9223372036854775807)(hk6:k≤6)(hc:Jm (.mk o a b g n l) ((k:Nat):Int)=true)(hsz:XE (.mk o a b g n l)≤2000):
  ∃v st',Ev Tryz.prog Q4 79 [.agg [.str o,.int .i64 a,.int .i64 b,.int .i64 g,.int .i64 n,kc],.int .i64 (k:Nat),.ptr mp 0 0] st v st'∧yo st' (.mk o a b g n l) [.str o,.int .i64 a,.int .i64 b,.int .i64 g,.int .i64 n,kc] k mp lf v∧UH (fun c=>c=mp) st st':=by
 obtain⟨l',ls,hle,hK⟩:=hr.shape
 injection hle with _ _ _ _ _ hle
 subst hle;rw[XE]at hsz;have hkc:=hK.cell
 have hin: ∀st',UH (fun c=>c=mp) st st'→YJ R st'.h.get:=fun st' Q c m r h=>by
  obtain⟨ro,e,vs,ms,h2,h3⟩:=hR c m r h;exact⟨ro,e,vs,ms,by rw[Q.J6 c (Nat.lt_of_not_le fun hle=>by rw[hf c hle]at h2;cases h2) (hRm c m r h)];exact h2,h3⟩
 rcases V7 hc with⟨hat,rfl⟩|⟨rfl,x,rfl,hcx⟩|⟨rfl,x,y,rfl,hcx,hcy⟩|⟨rfl,x,rfl,hk5,hcx⟩
 ·obtain⟨v,st',h1,h2,q⟩:=jJ hf hR hK hRm hm hl hk6 (a:=a) (b:=b) (g:=g) (n:=n) hat;have hc0:=hc;obtain⟨_,an,bn,gn,nn,rfl,rfl,rfl,rfl,b1,b2,b3,b4⟩:=Kc hat hc Qe;have Q:UH (fun c=>c=mp) st st':=⟨q.fresh,q.le,fun c hc _=>q.J6 c hc⟩
  have hne:o≠[110,111,116]∧o≠[97,110,100]∧o≠[101,120]:=by rcases hat with rfl|rfl|rfl|rfl|rfl|rfl|rfl|rfl|rfl|rfl|rfl<;>simp
  obtain⟨v2,st2,j1,j2,j3⟩:=Mh q.fresh (hin _ Q) hr hat b4 b1 b2 b3 hk6 (by rw[XE];exact hsz) hc0 (ks:=.nils);refine⟨v,st',h1,.inl ⟨.nils,0,_,h2,rfl,Nat.zero_le _,?_,fun r m hJ hlm=>?_,fun m t hA=>?_,v2,st2,j1,j2,j3⟩,Q⟩
  ·exact hm.frame (q.J6 mp (hm.lt hf))
  ·rw[Nat.zero_add];exact .atom hne.1 hne.2.1 hne.2.2 (hlm.trans hJ.like hJ.tr.symm)
  ·cases hA with
   |atom _ _ _ h=>exact⟨m,h⟩
 ·obtain⟨v,st',h1,h2,Q⟩:=PV hf hR hK hRm hm hl hk6 (ih x QA) (by rw[Ze,Ze]at hsz;omega) hk6 hcx (a:=a) (b:=b) (g:=g) (n:=n);refine⟨v,st',h1,?_,Q⟩;rcases h2 with⟨ks,dp,F,m,s,rfl,a1,a2,a3,a4,a5,a6,a7⟩|⟨rfl,hno⟩
  ·obtain⟨v2,st2,j1,j2,j3⟩:=PY Q.fresh hkc a2 a3 (a:=a) (b:=b) (g:=g) (n:=n) (k:=k);exact .inl ⟨ks,s,fun r=>r=m.neg,rfl,a1,a6,a7,fun r m' hJ hlm=>by subst hJ;exact .not rfl a5 hlm,fun m' t hA=>⟨_,rfl⟩,v2,st2,j1,j2,j3⟩
  ·refine .inr ⟨rfl,fun m t hA=>?_⟩
   cases hA with
   |not ho hx h=>have:=hno _ _ hx;omega
   |ex ho=>cases ho
 ·obtain⟨v,st',h1,h2,Q⟩:=PW hf hR hK hRm hm hl hk6 (ih x QA) (by rw[Ze,Ze,Ze]at hsz;omega) (ih y QA) (by rw[Ze,Ze,Ze]at hsz;omega) hcx hcy (a:=a) (b:=b) (g:=g) (n:=n);refine⟨v,st',h1,?_,Q⟩;rcases h2 with⟨ks,dp,F,m,s,dq,F',m',t,rfl,a1,a2,a3,a4,a5,a6,a7,a8⟩|⟨rfl,hno⟩
  ·obtain⟨v2,st2,j1,j2,j3⟩:=PZ Q.fresh hkc a2 a3 a4 (a6.tr.trans a5.tr.symm) (a:=a) (b:=b) (g:=g) (n:=n) (k:=k);refine .inl ⟨ks,s+t,_,rfl,a1,a7,by rw[show lf-(s+t)=lf-s-t by omega];exact a8,fun r m' hJ hlm=>?_,fun m' t hA=>?_,v2,st2,j1,j2,j3⟩
   ·obtain⟨lp,hJ⟩:=hJ;exact .and rfl a5 a6 hJ hlm
   ·cases hA with
    |and _ hx hy hb h=>
     obtain⟨rfl,_⟩:=a5.uniq hx;obtain⟨rfl,_⟩:=a6.uniq hy;exact⟨_,_,hb⟩
  ·refine .inr ⟨rfl,fun m t hA=>?_⟩
   cases hA with
   |and ho hx hy hb h=>have:=hno _ _ _ _ hx hy;omega
 ·obtain⟨v,st',h1,h2,Q⟩:=Md hf hR hK hRm hm hl hk6 (ih x QA) (by rw[Ze,Ze]at hsz;omega) Qe hcx (a:=a) (b:=b) (g:=g) (n:=n);refine⟨v,st',h1,?_,Q⟩;rcases h2 with⟨ks,dp,F,m,s,rfl,a1,a2,a3,a4,a5,a6,a7⟩|⟨rfl,hno⟩
  ·obtain⟨v2,st2,j1,j2,j3⟩:=Mg Q.fresh hkc a2 a3 a5.tr (a:=a) (b:=b) (g:=g) (n:=n) (k:=k);refine .inl ⟨ks,s,_,rfl,a1,a6,a7,fun r m' hJ hlm=>?_,fun m' t hA=>?_,v2,st2,j1,j2,j3⟩
   ·obtain⟨acc,L,b1,b2,b3⟩:=hJ;exact .ex rfl a5 b1 b2 b3 hlm
   ·cases hA with
    |not ho=>cases ho
    |ex _ hx hc hm ht h=>
     obtain⟨rfl,_⟩:=a5.uniq hx;exact⟨_,_,_,hc,hm,ht⟩
  ·refine .inr ⟨rfl,fun m t hA=>?_⟩
   cases hA with
   |not ho=>cases ho
   |ex ho hx hc hm ht h=>have:=hno _ _ hx;omega

theorem Rs(hf:Qj st)(hR:YJ R st.h.get)(hr:XN R (.mk o a b g n l) cs)(ih: ∀y∈l,Kk y)(hRm: ∀c m r,R c m r→c≠mp)(hm:Q0 st.h.get mp 0 [iN lf,.bool false])(hl:lf≤9223372036854775807)(hk6:k≤6)(hc:Jm (.mk o a b g n l) ((k:Nat):Int)=true)(hsz:XE (.mk o a b g n l)≤2000): ∃v st',Ev Tryz.prog Q4 54 [.agg cs,iN k,.ptr mp 0 0] st v st'∧HU st st' (.mk o a b g n l) k mp lf v∧UH (fun c=>c=mp) st st':=by
 have hr0:=hr;obtain⟨kc,ls,rfl,hK⟩:=hr.Yt;have hln:=hK.ln;have hbn:=hK.Ew;have B:=Qk.UM (o:=Yd mp lf false) hf hm (fun c hc=>(show c=mp from hc)▸hm.lt hf);refine JF Tryz.func54 Tryz.ntmps54 fun T K=>?_;have M:=B.mem;refine QC<|Qv ?_;refine Jt K M rfl (Qb rfl (Qb rfl (Qb rfl (Qb rfl (Qb rfl (Qb hK.cell Q7)))))) QE fun c3 _ _ K M=>?_;refine Qc 5 K M ?_;intro _ K;replace B:=B.step M;obtain⟨v15,st15,ev15,hko,QB⟩:=jI B.fresh (fun c m r hr=>B.Yz hf (hR c m r hr) (hRm c m r hr)) hr0 ih hRm (show Q0 _ mp 0 [iN lf,.bool false]from B.at_ (k:=0) rfl) hl hk6 hc hsz;refine p1 K (Qh rfl ev15) fun _ K=>?_;obtain⟨ks,ev,rfl,hksc,hd⟩:=hko.ex;replace B:=B.call (k:=0) (o':=AR mp) rfl QB trivial (U1 fun c hc=>Nat.lt_of_lt_of_le (B.Yu (k:=0) rfl c hc) QB.le);have M:=B.mem;refine Qc 7 K M ?_;intro _ K;refine Qq (K.QI rfl) (fun h19=>?_) (fun h19=>?_)
 ·have hb19:=h19
  replace h19: ¬(ev=0):=by first|exact of_decide_eq_false h19|exact yF h19|simpa using h19
  refine Qc 3 K M ?_;obtain⟨rfl,hno⟩:=hd.resolve_left (fun h=>h19 h.1);exact⟨.inr ⟨rfl,hno⟩,(B.step M).JM⟩
 have hb19:=h19
 replace h19:(ev=0):=by first|exact of_decide_eq_true h19|exact yT h19|simpa using h19
 refine Qc 0 K M ?_;intro _ K;obtain⟨rfl,sk,J,hsl,hmr,hJ1,hJ2,hjo⟩:=hd.resolve_right (fun h=>by have:=h.1;omega);replace B:=(B.step M).view (k:=0) (o':=Yd mp (lf-sk) false) rfl hmr (fun c hc=>hc);have M:=B.mem;refine Qc 3 K M ?_;intro _ K;obtain⟨v25,st25,ev25,hJo,q25⟩:=hjo;refine p1 K (Qh rfl ev25) fun _ K=>?_;obtain⟨xv,ev2,rfl,hxc,hdj⟩:=hJo.ex;replace B:=(B.step M).quiet q25;have M:=B.mem;refine Qc 7 K M ?_;intro _ K;refine Qq (K.QI rfl) (fun h29=>?_) (fun h29=>?_)
 ·have hb29:=h29
  replace h29: ¬(ev2=0):=by first|exact of_decide_eq_false h29|exact yF h29|simpa using h29
  refine Qc 3 K M ?_;obtain⟨rfl,rfl,hno⟩:=hdj.resolve_left (fun h=>h29 h.1);exact⟨.inr ⟨rfl,fun m t hA=>by obtain⟨r,hr⟩:=hJ2 m t hA;exact absurd hr (hno r)⟩,(B.step M).JM⟩
 have hb29:=h29
 replace h29:(ev2=0):=by first|exact of_decide_eq_true h29|exact yT h29|simpa using h29
 refine Qc 0 K M ?_;intro _ K;obtain⟨rfl,dp1,F1,r,rfl,hJr,hD1,nf1⟩:=hdj.resolve_right (fun h=>by have:=h.1;omega);refine Qc 1 K M ?_;intro _ K;obtain⟨v33,st33,ev33,dp2,F2,m,rfl,hlm,hD2,nf2,q33⟩:=S5 M.fresh hD1;refine p1 K (Qh rfl ev33) fun _ K=>?_;replace B:=(B.step M).new (o:=FG F2 dp2 m) q33 hD2.at_ nf2;have hmn:m.n≤400:=hlm.canon.wf.most;have M:=B.mem;refine Qc 7 K M ?_;intro _ K;refine Qq (K.QI rfl) (fun h37=>?_) (fun h37=>?_)
 ·have hb37:=h37
  replace h37: ¬(0=0):=by first|exact of_decide_eq_false h37|exact yF h37|simpa using h37
  exfalso;omega
 have hb37:=h37
 replace h37:(0=0):=by first|exact of_decide_eq_true h37|exact yT h37|simpa using h37
 refine Qc 2 K M ?_;intro _ K;refine oQ K M (Gp M.fresh ((B.step M).MV (k:=0) rfl)) rfl rfl fun _ _ K M=>?_;replace B:=B.step M;obtain⟨v42,st42,ev42,rfl,hm3,Q3⟩:=OX B.fresh (show Q0 _ mp 0 [iZ (lf-sk:Nat),.bool false]from B.at_ (k:=1) rfl) Qe m.n Qe;refine p1 K (Qh rfl ev42) fun _ K=>?_;replace B:=B.call (k:=1) (o':=Yd mp (UP (lf-sk) false m.n) (Zo (lf-sk) false m.n)) rfl Q3 hm3 (U1 fun c hc=>Nat.lt_of_lt_of_le (B.Yu (k:=1) rfl c hc) Q3.le);have M:=B.mem;refine Qc 1 K M ?_;intro _ K;refine Qq (K.QI rfl) (fun h43=>?_) (fun h43=>?_)
 ·have hb43:=h43
  replace h43:((Br (lf-sk) false m.n))=false:=by simpa using h43
  refine Qc 2 K M ?_
  have hlt:lf-sk<m.n:=by simpa [Br]using h43
  have hA:=hJ1 r m hJr hlm;exact⟨.inr ⟨rfl,fun m' t h=>by obtain⟨_,rfl⟩:=hA.uniq h;omega⟩,(B.step M).JM⟩
 have hb43:=h43
 replace h43:((Br (lf-sk) false m.n))=true:=by simpa using h43
 refine Qc 3 K M ?_
 have hle:m.n≤lf-sk:=by simpa [Br]using h43
 have hA:=hJ1 r m hJr hlm;refine⟨.inl ⟨dp2,F2,m,sk+m.n,rfl,hA,by omega,(B.step M).MV (k:=0) rfl,(B.step M).jn (k:=0) (j:=1) rfl rfl QE rfl,?_⟩,(B.step M).JM⟩;have hrow:Q0 _ mp 0 [iZ (UP (lf-sk) false m.n:Nat),.bool (Zo (lf-sk) false m.n)]:=(B.step M).at_ (k:=1) rfl;rw[OY,Hv hle,show lf-sk-m.n=lf-(sk+m.n) by omega]at hrow;exact hrow

theorem u9(x:Cr):Kk x:=I0 (M:=Kk) (fun o a b g n l ih k R st cs mp lf hf hR hr hRm hm hl hk6 hc hsz=>Rs hf hR hr ih hRm hm hl hk6 hc hsz) x

theorem Ae(hf:Qj st)(hR:YJ R st.h.get)(hr:XN R (.mk o a b g n l) cs)(hRm: ∀c m r,R c m r→c≠mp)(hm:Q0 st.h.get mp 0 [iN lf,.bool false])(hl:lf≤9223372036854775807)(hk6:k≤6)(hc:Jm (.mk o a b g n l) ((k:Nat):Int)=true)(hsz:XE (.mk o a b g n l)≤2000): ∃v st',Ev Tryz.prog Q4 20 [.agg cs,iN k,.ptr mp 0 0] st v st'∧HU st st' (.mk o a b g n l) k mp lf v∧UH (fun c=>c=mp) st st':=by
 have hr0:=hr;obtain⟨kc,ls,rfl,hK⟩:=hr.Yt;have hln:=hK.ln;have hbn:=hK.Ew;have B:=Qk.UM (o:=Yd mp lf false) hf hm (fun c hc=>(show c=mp from hc)▸hm.lt hf);refine JF Tryz.func20 Tryz.ntmps20 fun T K=>?_;have M:=B.mem;refine QC<|Qv ?_;refine Jt K M rfl (Qb rfl (Qb rfl (Qb rfl (Qb rfl (Qb rfl (Qb hK.cell Q7)))))) QE fun c3 _ _ K M=>?_;refine Qc 4 K M ?_;intro _ K;refine oQ K M (SP M.fresh (fun c m r hr=>(B.step M).Yz hf (hR c m r hr) (hRm c m r hr)) hr0 (m:=((k:Nat):Int)) Qe Qe hsz hc) rfl rfl fun _ _ K M=>?_;refine Qc 5 K M ?_;intro _ K;replace B:=B.step M;obtain⟨v15,st15,ev15,hco,QB⟩:=u9 _ k R _ _ mp lf B.fresh (fun c m r hr=>B.Yz hf (hR c m r hr) (hRm c m r hr)) hr0 hRm (show Q0 _ mp 0 [iN lf,.bool false]from B.at_ (k:=0) rfl) hl hk6 hc hsz;refine p1 K (Qh rfl ev15) fun _ K=>?_;obtain⟨xv,ev,rfl,hxc,hd⟩:=hco.ex;have hle0:=B.le;replace B:=B.call (k:=0) (o':=AR mp) rfl QB trivial (U1 fun c hc=>Nat.lt_of_lt_of_le (B.Yu (k:=0) rfl c hc) QB.le);have M:=B.mem;refine Qc 4 K M ?_;refine⟨?_,(B.step M).JM⟩;rcases hd with⟨rfl,dp,F,m,t,rfl,h2,h3,h4,h5,h6⟩|⟨rfl,rfl,h2⟩
 ·exact .inl ⟨dp,F,m,t,rfl,h2,h3,h4,fun c hc=>⟨Nat.le_trans hle0 (h5 c hc).1,(h5 c hc).2⟩,h6⟩
 ·exact .inr ⟨rfl,h2⟩
end Go.Proofs.YtiknomepbklibaaGreatDoor
end
section
namespace Go.Proofs.YtiknomepbklibaaGreatDoor
open Go Go.RowKit
variable {E O:Bool} {cp mp:Nat} {ka kn:AV} {m:Au} {st:St}

def ZX(h:Hp)(F:Fp)(m:Au)(ka kn:AV):Prop:= ∃ls,∀h':Hp,(∀c,F c→h' c=h c)→Ji h' [] 1 (bC m.acc) ka∧Lb h' m.nx kn ls
theorem ZX.frame{h h':Hp}{F:Fp}(e: ∀c,F c→h' c=h c)(H:ZX h F m ka kn):ZX h' F m ka kn:=by
 obtain⟨ls,H⟩:=H;exact⟨ls,fun h2 e2=>H h2 fun c hc=>(e2 c hc).trans (e c hc)⟩
def FX(F:Fp)(b:Bool)(m:Au)(ka kn:AV):Ob:=⟨F,fun h=>b=false→ZX h F m ka kn,fun _ _ e H hb=>(H hb).frame e⟩
theorem Av.eB{st':St}{v:AV}(h:Av st st' m v)(hf:Qj st'): ∃ka kn F,v=.agg [.int .i64 (m.tr:Nat),ka,kn]∧ZX st'.h.get F m ka kn∧ZJ st st' F∧Qu ka=true∧Qu kn=true:=by
 obtain⟨ka,kn,vs,A,F,h1,h2,h3,h4,h5,h6⟩:=h;refine⟨ka,kn,fun c=>F c∨ ∃m l,(c,m,l)∈A,h1,⟨vs.map fun v=>[v],fun h' e=>⟨?_,(h3.frame fun c hc=>e c (.inl hc)).r⟩⟩,fun c hc=>?_,h2.cell,h3.rd.cell⟩
 ·exact UW.rd (F:=fun _=>True) ⟨A,h2,fun c m l hm=>⟨(h6 c m l hm).1.frame (e c (.inr ⟨m,l,hm⟩)),trivial⟩⟩
 ·rcases hc with hc|⟨m,l,hm⟩
  ·exact h4 c hc
  ·exact⟨(h6 c m l hm).2.1,(h6 c m l hm).1.lt hf⟩
def HO(cp mp:Nat)(E O:Bool)(lf:Nat):Ob:=⟨fun c=>c=cp∨c=mp,fun h=>Q0 h cp 0 [.ptr mp 0 0,.bool E,.bool O]∧((E||O)=false→Q0 h mp 0 [.int .i64 (lf:Nat),.bool false]),fun _ _ e H=>⟨H.1.frame (e cp (.inl rfl)),fun h=>(H.2 h).frame (e mp (.inr rfl))⟩⟩
theorem Qk.R7{st0:St}{X0:Fp}{M:QU}{Os:List Ob}{F:Fp}{l:Nat}{o:Bool}(B:Qk st0 X0 st M Os){j k:Nat}(hj:Os[j]? =some (FX F false m ka kn))(hk:Os[k]? =some (Yd mp l o))(hne:j≠k): ∃ls,Km st mp m ka kn ls:=by
 obtain⟨ls,H⟩:=(show ZX st.h.get F m ka kn from B.at_ hj rfl);exact⟨ls,fun h' e=>H h' fun c hc=>e c (B.Yu hj c hc) fun h=>B.J2 hj hk hne c hc h⟩
theorem ji(hf:Qj st)(hA:Ji st.h.get [] 1 (bC m.acc) ka)(hnc:Qu kn=true)(hml:m.acc.length≤1000): ∃v st',Ev Tryz.prog Q4 99 [.agg [iZ (m.tr:Nat),ka,kn]] st v st'∧ ∃ka2,v=.agg [iZ (m.tr:Nat),ka2,kn]∧Em st st' 1 ka2 (bC m.neg.acc)∧Qt st st':=by
 have hac:=hA.cell;refine JF Tryz.func99 Tryz.ntmps99 fun T K=>?_;have M:=Mem.start hf;refine QC<|Qv ?_;refine Jt K M rfl (Qb rfl (Qb hA.cell (Qb hnc Q7))) QE fun c1 _ _ K M=>?_;refine au 4 K M ?_;intro c2 _ _ K _ M;refine p1 K (Qd rfl (M.load (k:=1) rfl (Qf Q5 rfl))) fun _ K=>p1 K (W0 VG rfl ((AG rfl rfl rfl).trans ((J9 rfl hnc rfl).trans rfl))) fun _ K=>?_;refine au 1 K M ?_;intro c3 _ _ K _ M;refine QW (k:=0) K M rfl rfl rfl QF rfl (Qb rfl (Qb rfl (Qb hnc Q7))) rfl fun _ M=>?_;refine Qc 1 K M ?_;intro _ K;refine Jc (fun mm1 T st9=> ∃(i:Nat) (k2:AV) (A:U9),mm1=m.acc.length-i∧QY [(1,.ptr c1 0 0),(2,.ptr c2 0 0),(3,.ptr c3 0 0),(4,iN i)] T∧Mem st.h.get st.n [] st9 ((c3,0,[iZ (m.tr:Nat),k2,kn])::(c2,0,[iZ 0,.nils,.nils])::(c1,0,[iZ (m.tr:Nat),ka,kn])::(A++[]))∧i≤m.acc.length∧Acc st.n 1 A k2 (bC ((m.acc.take i).map (!·)))) (fun mm1 T st9 hI=>?_) _ _ _ ⟨0,.nils,[],rfl,(K.sub rfl),M.less (.refl _),(Nat.zero_le _),.none⟩;obtain⟨i,k2,A,rfl,K,M,hi,hA2⟩:=hI;refine Qc 3 K M ?_;intro _ K;refine p1 K (Q8 Ur rfl rfl (hA.len.trans (congrArg some (Jw _)))) fun _ K=>?_;refine Qc 1 K M ?_;intro _ K;refine JP K rfl (fun h14=>?_) fun h14=>?_
 ·refine Qc 0 K M ?_;intro _ K;refine QD (l:=[(0,0),(1,0),(2,0),(3,0),(4,0),(5,0),(6,0),(7,0),(8,0),(9,0),(10,0),(11,0)]) (by kernel_rfl) ?_;refine Jf 5 K M ?_;intro _ K;obtain⟨y22,hi22⟩:=U8 m.acc i Qe;obtain⟨x22,m22,f22,q22,_,la22,lo22,lp22⟩:=(Ji.mem M hA QA).load (i:=i) (cs:=_) (VA hi22);refine q1 rfl K (Qa (j:=i) Jv (congrArg some q22) rfl (by rw[Jw];omega)) fun _ K=>q1 rfl K (Qd rfl (lo22 _ 0 _ Jy rfl)) fun _ K=>q1 rfl K (Ih rfl) fun _ K=>?_;refine XR rfl K M J3 XU rfl rfl rfl rfl rfl fun c25 _ _ K M=>?_;refine G8 (k2:=0) (L:=[(c25,0,[.bool (!(y22))]),(c3,0,[iZ (m.tr:Nat),k2,kn]),(c2,0,[iZ 0,.nils,.nils]),(c1,0,[iZ (m.tr:Nat),ka,kn])]) (A:=A) (B:=[]) rfl K M hA2 J3 rfl rfl rfl rfl (by rw[Jw,List.length_map,List.length_take];omega) rfl fun ks26 A26 _ _ K hA26 M=>?_;refine Jf 1 K M ?_;intro _ K;refine Zc (k:=1) rfl K M rfl rfl rfl UF (hA26.cell) rfl fun _ M=>?_;refine QG ?_;show W _ _ _ _ _ _ _;refine Qc 3 K M ?_;intro _ K;exact⟨_,Qe,i+1,ks26,A26,rfl,(K.sub rfl),M.less (.cons _ (.refl _)),Qe,(by rw[List.take_add_one,hi22,List.map_append,XK];exact hA26)⟩
 refine QT ?_;show W _ _ _ _ _ _ _;refine Qc 1 K M ?_;intro _ K;refine QW (k:=1) K M rfl rfl rfl QF rfl (Qb rfl (Qb hA2.cell (Qb hnc Q7))) rfl fun _ M=>?_;refine Qc 0 K M ?_;rw[List.take_of_length_le Qe]at hA2;exact⟨_,rfl,Mem.Bh (L:=[(c3,0,[iZ (m.tr:Nat),k2,kn]),(c2,0,[iZ (m.tr:Nat),k2,kn]),(c1,0,[iZ (m.tr:Nat),ka,kn])]) (A:=A) (B:=[]) M hA2,M.qt⟩

theorem Gf(hf:Qj st): ∃v st',Ev Tryz.prog Q4 100 [] st v st'∧ ∃mp,v=.ptr mp 0 0∧st.n≤mp∧Q0 st'.h.get mp 0 [iZ ((1099511627776:Nat):Int),.bool false]∧Qt st st':=by
 refine JF Tryz.func100 Tryz.ntmps100 fun T K=>?_;have M:=Mem.start hf;refine Qc 1 K M ?_;intro _ K;obtain⟨v1,st1,ev1,mp,rfl,hmp,hmr,q1⟩:=CC M.fresh 1099511627776;refine p1 K (Qh rfl ev1) fun _ K=>?_;have hle0:=M.le;have hmr0:=hmr;refine p1 K (U5 rfl) fun _ K=>Un ?_;show W _ _ _ _ _ _ _;refine Jx ⟨.inr rfl,_,ay K rfl,?_⟩;exact⟨mp,rfl,hmp,hmr,q1⟩

theorem TZ(hf:Qj st)(hr:Q0 st.h.get cp 0 [.ptr mp 0 0,.bool E,.bool O]){a:Au}(wf:Zr a){ls:List (List AV)}(hac:Qu ka=true)(hnc:Qu kn=true)(hAN:Km st cp a ka kn ls): ∃v st',Ev Tryz.prog Q4 98 [.ptr cp 0 0,.agg [iZ (a.tr:Nat),ka,kn],iZ (((0:Nat):Int))] st v st'∧ ∃t2 ka2 kn2 E2 O2 F m,v=.agg [iZ t2,ka2,kn2]∧Qu ka2=true∧Qu kn2=true∧Q0 st'.h.get cp 0 [.ptr mp 0 0,.bool E2,.bool O2]∧ZJ st st' F∧((E2||O2)=false→(E||O)=false∧Ub a m∧ZX st'.h.get F m ka2 kn2∧t2=((m.tr:Nat):Int))∧UH (fun c=>c=cp) st st':=by
 have B:=Qk.Hi hf hr;refine JF Tryz.func98 Tryz.ntmps98 fun T K=>?_;have M:=B.mem;refine au 4 K M ?_;intro c4 c6 _ _ K _ M;refine Qq (K.QI rfl) (fun h9=>?_) (fun h9=>?_)
 ·have hb9:=h9
  replace h9: ¬(((0:Nat):Int)=0):=by first|exact of_decide_eq_false h9|exact yF h9|simpa using h9
  exfalso;omega
 have hb9:=h9
 replace h9:(((0:Nat):Int)=0):=by first|exact of_decide_eq_true h9|exact yT h9|simpa using h9
 refine Qc 1 K M ?_;intro _ K;replace B:=B.step M;obtain⟨v15,st15,ev15,cl9,l9,m,hcls,htr9,hmd,nau,q15⟩:=js B.fresh wf (hAN _ fun c h1 h2=>B.J6 c h1 h2).1 (hAN _ fun c h1 h2=>B.J6 c h1 h2).2;refine p1 K (Qh rfl ev15) fun _ K=>?_;obtain⟨kam,km,Fm,rfl,hau,hnf,hkam,hkm⟩:=nau.eB q15.fresh;have hlm:=Ga wf hcls htr9 hmd
 have hkal:Y8 kam=some m.acc.length:=by obtain⟨_,H⟩:=hau;rw[(H _ fun _ _=>rfl).1.len,Jw]
 replace B:=B.new (o:=FX Fm false m kam km) q15 (fun _=>hau) hnf;have M:=B.mem;refine au 1 K M ?_;intro c7 _ _ K _ M;refine QW (k:=0) K M rfl rfl rfl QF rfl (Qb rfl (Qb hkam (Qb hkm Q7))) rfl fun _ M=>?_;refine Qc 2 K M ?_;intro _ K;refine p1 K (Q8 Ur rfl rfl hkal) fun _ K=>?_;refine Qc 1 K M ?_;intro _ K;refine JP K rfl (fun h19=>?_) fun h19=>?_
 ·refine au 5 K M ?_;intro _ _ K _ M;refine QW (k:=1) K M rfl rfl rfl QF rfl (Qb rfl (Qb hkam (Qb hkm Q7))) rfl fun _ M=>?_;refine Qc 0 K M ?_;replace B:=B.step M;refine⟨_,kam,km,E,_,Fm,m,rfl,hkam,hkm,M.UX (k:=3) rfl,fun c hc=>⟨(B.KT (k:=0) rfl c hc).resolve_right fun e=>B.djM _ (List.mem_cons_self ..) cp 0 _ (List.mem_of_getElem? (i:=3) rfl) (e▸hc),B.Yu (k:=0) rfl c hc⟩,fun he=>?_,B.JM⟩;refine⟨?_,hlm,B.at_ (k:=0) rfl rfl,rfl⟩
  first|exact he|(simp at he)
 refine Qc 1 K M ?_;intro _ K;refine QW (k:=1) K M rfl rfl rfl QF rfl (Qb rfl (Qb hkam (Qb hkm Q7))) rfl fun _ M=>?_;refine Qc 0 K M ?_;replace B:=B.step M;refine⟨_,kam,km,E,_,Fm,m,rfl,hkam,hkm,M.UX (k:=3) rfl,fun c hc=>⟨(B.KT (k:=0) rfl c hc).resolve_right fun e=>B.djM _ (List.mem_cons_self ..) cp 0 _ (List.mem_of_getElem? (i:=3) rfl) (e▸hc),B.Yu (k:=0) rfl c hc⟩,fun he=>?_,B.JM⟩;refine⟨?_,hlm,B.at_ (k:=0) rfl rfl,rfl⟩
 first|exact he|(simp at he)

theorem TY(hf:Qj st)(hr:Q0 st.h.get cp 0 [.ptr mp 0 0,.bool E,.bool O]){t:Int}(hac:Qu ka=true)(hnc:Qu kn=true): ∃v st',Ev Tryz.prog Q4 98 [.ptr cp 0 0,.agg [iZ t,ka,kn],iZ (((8:Nat):Int))] st v st'∧v=.agg [iZ 0,.nils,.nils]∧Q0 st'.h.get cp 0 [.ptr mp 0 0,.bool true,.bool O]∧UH (fun c=>c=cp) st st':=by
 have B:=Qk.Hi hf hr;refine JF Tryz.func98 Tryz.ntmps98 fun T K=>?_;have M:=B.mem;refine au 4 K M ?_;intro c4 c6 _ _ K _ M;refine Qq (K.QI rfl) (fun h9=>?_) (fun h9=>?_)
 ·have hb9:=h9
  replace h9: ¬(((8:Nat):Int)=0):=by first|exact of_decide_eq_false h9|exact yF h9|simpa using h9
  refine au 6 K M ?_;intro _ _ K _ M;refine Qc 0 K M ?_;replace B:=B.step M;exact⟨rfl,M.UX (k:=2) rfl,B.JM⟩
 have hb9:=h9
 replace h9:(((8:Nat):Int)=0):=by first|exact of_decide_eq_true h9|exact yT h9|simpa using h9
 exfalso;omega

theorem Ip(hf:Qj st){eb:Bool}{ev:Int}(hev:ev=if eb then 8 else 0)(hr:Q0 st.h.get cp 0 [.ptr mp 0 0,.bool E,.bool O]){a:Au}{t:Int}(hac:Qu ka=true)(hnc:Qu kn=true)(hok:eb=false→t=((a.tr:Nat):Int)∧Zr a∧ ∃ls,Km st cp a ka kn ls): ∃v st',Ev Tryz.prog Q4 98 [.ptr cp 0 0,.agg [.int .i64 t,ka,kn],.int .i64 ev] st v st'∧ ∃t2 ka2 kn2 E2 O2 F m,v=.agg [.int .i64 t2,ka2,kn2]∧Qu ka2=true∧Qu kn2=true∧Q0 st'.h.get cp 0 [.ptr mp 0 0,.bool E2,.bool O2]∧ZJ st st' F∧((E2||O2)=false→eb=false∧(E||O)=false∧Ub a m∧ZX st'.h.get F m ka2 kn2∧t2=((m.tr:Nat):Int))∧UH (fun c=>c=cp) st st':=by
 subst hev
 cases eb with
 |false=>
  obtain⟨rfl,wf,ls,hAN⟩:=hok rfl;obtain⟨v,st',h1,t2,ka2,kn2,E2,O2,F,m,h2,h3,h4,h5,h6,h7,h8⟩:=TZ hf hr wf hac hnc hAN;exact⟨v,st',h1,t2,ka2,kn2,E2,O2,F,m,h2,h3,h4,h5,h6,fun h=>⟨rfl,h7 h⟩,h8⟩
 |true=>
  obtain⟨v,st',h1,h2,h3,h4⟩:=TY hf hr (t:=t) hac hnc;exact⟨v,st',h1,0,.nils,.nils,true,O,Xv,a,h2,rfl,rfl,h3,fun c hc=>hc.elim,fun h=>by simp at h,h4⟩
end Go.Proofs.YtiknomepbklibaaGreatDoor
end
