/-
  A formula's automaton: the program's compile.
-/
import Derived.Test.YtildagdnomiahaaGreatDoorQvCmk
set_option maxRecDepth 100000
namespace Go.Proofs.YtildagdnomiahaaGreatDoor
section
open Go Go.RowKit
set_option maxHeartbeats 8000000
set_option linter.unusedVariables false
set_option linter.unusedSimpArgs false
set_option linter.unnecessarySimpa false
set_option linter.unusedSectionVars false
variable {R:W5} {a b g n:Int} {cs:List AV} {k lf mp:Nat} {l:List Cr} {o:List Nat} {st:St}

def zA(st':St)(x:Cr)(cs:List AV)(k mp l:Nat)(v:AV):Prop:=
 (∃ks s,∃J:Au→Prop,v=.tup [ks,.int .i64 0]∧Qw ks=true∧s≤l∧Qu st'.h.get mp 0 [.int .i64 (l-s:Nat),.bool false]∧(∀r m,J r→Ju r m→Jl x k m (s+m.n))∧(∀m t,Jl x k m t→ ∃r,J r)∧
  ∃v2 st2,QV 155 [.agg cs,.int .i64 (k:Nat),ks] st' v2 st2∧Xb st' st2 J v2∧Qt st' st2)∨(v=.tup [.nils,.int .i64 8]∧ ∀m t,Jl x k m t→l<t)
theorem zA.ex{st':St}{x:Cr}{l:Nat}{v:AV}(h:zA st' x cs k mp l v): ∃ks ev,v=.tup [ks,.int .i64 ev]∧Qw ks=true∧((ev=0∧ ∃s,∃J:Au→Prop,s≤l∧Qu st'.h.get mp 0 [.int .i64 (l-s:Nat),.bool false]∧(∀r m,J r→Ju r m→Jl x k m (s+m.n))∧(∀m t,Jl x k m t→ ∃r,J r)∧
  ∃v2 st2,QV 155 [.agg cs,.int .i64 (k:Nat),ks] st' v2 st2∧Xb st' st2 J v2∧Qt st' st2)∨(ev=8∧ ∀m t,Jl x k m t→l<t)):=by
 rcases h with⟨ks,s,J,h1,h2,h3⟩|⟨h1,h2⟩
 ·exact⟨_,_,h1,h2,.inl ⟨rfl,s,J,h3⟩⟩
 ·exact⟨_,_,h1,rfl,.inr ⟨rfl,h2⟩⟩
theorem Xb.ex{st':St}{J:Au→Prop}{v:AV}(h:Xb st st' J v): ∃xv ev,v=.tup [xv,.int .i64 ev]∧Qw xv=true∧((ev=0∧ ∃dp F r,xv=.ptr dp 0 0∧J r∧JH st' F dp r∧Vn st st' F)∨(ev=8∧xv=.nilp∧ ∀r,¬J r)):=by
 rcases h with⟨dp,F,r,h1,h2⟩|⟨h1,h2⟩
 ·exact⟨_,_,h1,rfl,.inl ⟨rfl,dp,F,r,rfl,h2⟩⟩
 ·exact⟨_,_,h1,rfl,.inr ⟨rfl,rfl,h2⟩⟩
theorem RK{m:Int}(h:Ja (.mk o a b g n l) m=true):(AG o∧l=[])∨(o=II∧ ∃x,l=[x]∧Ja x m=true)∨(o=Ha∧ ∃x y,l=[x,y]∧Ja x m=true∧Ja y m=true)∨(o=Bh∧ ∃x,l=[x]∧m<6∧Ja x (m+1)=true):=by
 rw[Ja]at h;simp only[Bool.and_eq_true,decide_eq_true_eq]at h;obtain⟨h1,h2,h3,h4⟩:=h
 by_cases e1:o=II
 ·subst e1
  have hl:l.length=1:=by rw[show(ZQ II).2.1=1 by decide]at h2;omega
  obtain⟨x,rfl⟩:=List.length_eq_one_iff.1 hl;rw[if_neg Q9]at h4;simp only[Bool.and_eq_true,H4]at h4;exact .inr (.inl ⟨rfl,x,rfl,h4.2.2.2.1⟩)
 by_cases e2:o=Ha
 ·subst e2
  have hl:l.length=2:=by rw[show(ZQ Ha).2.1=2 by decide]at h2;omega
  obtain⟨x,y,rfl⟩: ∃x y,l=[x,y]:=by
   match l,hl with
   |[x,y],_=>exact⟨x,y,rfl⟩
  rw[if_neg Q9]at h4;simp only[Bool.and_eq_true,H4]at h4;exact .inr (.inr (.inl ⟨rfl,x,y,rfl,h4.2.2.2.1,h4.2.2.2.2.1⟩))
 by_cases e3:o=Bh
 ·subst e3
  have hl:l.length=1:=by rw[show(ZQ Bh).2.1=1 by decide]at h2;omega
  obtain⟨x,rfl⟩:=List.length_eq_one_iff.1 hl;rw[if_pos rfl]at h4;simp only[Bool.and_eq_true,decide_eq_true_eq,H4]at h4;exact .inr (.inr (.inr ⟨rfl,x,rfl,h4.2.1,h4.2.2.2.2.1⟩))
 have hat:AG o:=by
  refine Classical.byContradiction fun hn=>?_;unfold AG at hn;simp only[not_or]at hn;obtain⟨n1,n2,n3,n4,n5,n6,n7,n8,n9,n10,n11⟩:=hn;unfold ZQ at h1;rw[if_neg (Ne.symm n1),if_neg (Ne.symm n2),if_neg (Ne.symm n7),if_neg (Ne.symm n8),if_neg (Ne.symm n3),if_neg (Ne.symm n9),if_neg (Ne.symm n10),if_neg (Ne.symm n11),if_neg (Ne.symm n4),if_neg (Ne.symm n5),if_neg (Ne.symm n6),if_neg (Ne.symm e1),if_neg (Ne.symm e2),if_neg (Ne.symm e3)]at h1;cases h1
 have hl:(ZQ o).2.1=0:=by rcases hat with rfl|rfl|rfl|rfl|rfl|rfl|rfl|rfl|rfl|rfl|rfl<;>decide
 exact .inl ⟨hat,List.eq_nil_of_length_eq_zero Qd⟩
theorem uB(hf:Qh st)(hR:X1 R st.h.get){kc:AV}(hr:Yr R (.mk o a b g n l) [.str o,.int .i64 a,.int .i64 b,.int .i64 g,.int .i64 n,kc])(ih: ∀y∈l,Kb y)(hRm: ∀c m r,R c m r→c≠mp)(hm:Qu st.h.get mp 0 [.int .i64 (lf:Nat),.bool false])(hl:lf≤9223372036854775807)(hk6:k≤6)(hc:Ja (.mk o a b g n l) ((k:Nat):Int)=true)(hsz:Xx (.mk o a b g n l)≤2000):
  ∃v st',QV 154 [.agg [.str o,.int .i64 a,.int .i64 b,.int .i64 g,.int .i64 n,kc],.int .i64 (k:Nat),.ptr mp 0 0] st v st'∧zA st' (.mk o a b g n l) [.str o,.int .i64 a,.int .i64 b,.int .i64 g,.int .i64 n,kc] k mp lf v∧YA (fun c=>c=mp) st st':=by
 obtain⟨l',ls,hle,hK⟩:=hr.shape
 injection hle with _ _ _ _ _ hle
 subst hle;rw[Xx]at hsz;have hkc:=hK.cell
 have hin: ∀st',YA (fun c=>c=mp) st st'→X1 R st'.h.get:=fun st' Q c m r h=>by
  obtain⟨ro,e,vs,ms,h2,h3⟩:=hR c m r h;exact⟨ro,e,vs,ms,by rw[Q.J5 c (Nat.lt_of_not_le fun hle=>by rw[hf c hle]at h2;cases h2) (hRm c m r h)];exact h2,h3⟩
 rcases RK hc with⟨hat,rfl⟩|⟨rfl,x,rfl,hcx⟩|⟨rfl,x,y,rfl,hcx,hcy⟩|⟨rfl,x,rfl,hk5,hcx⟩
 ·obtain⟨v,st',h1,h2,q⟩:=uC hf hR hK hRm hm hl hk6 (a:=a) (b:=b) (g:=g) (n:=n) hat;have hc0:=hc;obtain⟨_,an,bn,gn,nn,rfl,rfl,rfl,rfl,b1,b2,b3,b4⟩:=Po hat hc Qd;have Q:YA (fun c=>c=mp) st st':=⟨q.fresh,q.le,fun c hc _=>q.J5 c hc⟩
  have hne:o≠[110,111,116]∧o≠[97,110,100]∧o≠[101,120]:=by rcases hat with rfl|rfl|rfl|rfl|rfl|rfl|rfl|rfl|rfl|rfl|rfl<;>simp
  obtain⟨v2,st2,j1,j2,j3⟩:=M1 q.fresh (hin _ Q) hr hat b4 b1 b2 b3 hk6 (by rw[Xx];exact hsz) hc0 (ks:=.nils);refine⟨v,st',h1,.inl ⟨.nils,0,_,h2,rfl,Nat.zero_le _,?_,fun r m hJ hlm=>?_,fun m t hA=>?_,v2,st2,j1,j2,j3⟩,Q⟩
  ·exact hm.frame (q.J5 mp (hm.lt hf))
  ·rw[Nat.zero_add];exact .atom hne.1 hne.2.1 hne.2.2 (hlm.trans hJ.like hJ.tr.symm)
  ·cases hA with
   |atom _ _ _ h=>exact⟨m,h⟩
 ·obtain⟨v,st',h1,h2,Q⟩:=Ro hf hR hK hRm hm hl hk6 (ih x Qx) (by rw[Xy,Xy]at hsz;omega) hk6 hcx (a:=a) (b:=b) (g:=g) (n:=n);refine⟨v,st',h1,?_,Q⟩;rcases h2 with⟨ks,dp,F,m,s,rfl,a1,a2,a3,a4,a5,a6,a7⟩|⟨rfl,hno⟩
  ·obtain⟨v2,st2,j1,j2,j3⟩:=Rr Q.fresh hkc a2 a3 (a:=a) (b:=b) (g:=g) (n:=n) (k:=k);exact .inl ⟨ks,s,fun r=>r=m.neg,rfl,a1,a6,a7,fun r m' hJ hlm=>by subst hJ;exact .not rfl a5 hlm,fun m' t hA=>⟨_,rfl⟩,v2,st2,j1,j2,j3⟩
  ·refine .inr ⟨rfl,fun m t hA=>?_⟩
   cases hA with
   |not ho hx h=>have:=hno _ _ hx;omega
   |ex ho=>cases ho
 ·obtain⟨v,st',h1,h2,Q⟩:=Rp hf hR hK hRm hm hl hk6 (ih x Qx) (by rw[Xy,Xy,Xy]at hsz;omega) (ih y Qx) (by rw[Xy,Xy,Xy]at hsz;omega) hcx hcy (a:=a) (b:=b) (g:=g) (n:=n);refine⟨v,st',h1,?_,Q⟩;rcases h2 with⟨ks,dp,F,m,s,dq,F',m',t,rfl,a1,a2,a3,a4,a5,a6,a7,a8⟩|⟨rfl,hno⟩
  ·obtain⟨v2,st2,j1,j2,j3⟩:=Rs Q.fresh hkc a2 a3 a4 (a6.tr.trans a5.tr.symm) (a:=a) (b:=b) (g:=g) (n:=n) (k:=k);refine .inl ⟨ks,s+t,_,rfl,a1,a7,by rw[show lf-(s+t)=lf-s-t by omega];exact a8,fun r m' hJ hlm=>?_,fun m' t hA=>?_,v2,st2,j1,j2,j3⟩
   ·obtain⟨lp,hJ⟩:=hJ;exact .and rfl a5 a6 hJ hlm
   ·cases hA with
    |and _ hx hy hb h=>
     obtain⟨rfl,_⟩:=a5.uniq hx;obtain⟨rfl,_⟩:=a6.uniq hy;exact⟨_,_,hb⟩
  ·refine .inr ⟨rfl,fun m t hA=>?_⟩
   cases hA with
   |and ho hx hy hb h=>have:=hno _ _ _ _ hx hy;omega
 ·obtain⟨v,st',h1,h2,Q⟩:=Mw hf hR hK hRm hm hl hk6 (ih x Qx) (by rw[Xy,Xy]at hsz;omega) Qd hcx (a:=a) (b:=b) (g:=g) (n:=n);refine⟨v,st',h1,?_,Q⟩;rcases h2 with⟨ks,dp,F,m,s,rfl,a1,a2,a3,a4,a5,a6,a7⟩|⟨rfl,hno⟩
  ·obtain⟨v2,st2,j1,j2,j3⟩:=Mz Q.fresh hkc a2 a3 a5.tr (a:=a) (b:=b) (g:=g) (n:=n) (k:=k);refine .inl ⟨ks,s,_,rfl,a1,a6,a7,fun r m' hJ hlm=>?_,fun m' t hA=>?_,v2,st2,j1,j2,j3⟩
   ·obtain⟨acc,L,b1,b2,b3⟩:=hJ;exact .ex rfl a5 b1 b2 b3 hlm
   ·cases hA with
    |not ho=>cases ho
    |ex _ hx hc hm ht h=>
     obtain⟨rfl,_⟩:=a5.uniq hx;exact⟨_,_,_,hc,hm,ht⟩
  ·refine .inr ⟨rfl,fun m t hA=>?_⟩
   cases hA with
   |not ho=>cases ho
   |ex ho hx hc hm ht h=>have:=hno _ _ hx;omega

theorem RL(hf:Qh st)(hR:X1 R st.h.get)(hr:Yr R (.mk o a b g n l) cs)(ih: ∀y∈l,Kb y)(hRm: ∀c m r,R c m r→c≠mp)(hm:Qu st.h.get mp 0 [iN lf,.bool false])(hl:lf≤9223372036854775807)(hk6:k≤6)(hc:Ja (.mk o a b g n l) ((k:Nat):Int)=true)(hsz:Xx (.mk o a b g n l)≤2000): ∃v st',QV 105 [.agg cs,iN k,.ptr mp 0 0] st v st'∧HF st st' (.mk o a b g n l) k mp lf v∧YA (fun c=>c=mp) st st':=by
 have hr0:=hr;obtain⟨kc,ls,rfl,hK⟩:=hr.ZG;have hln:=hK.ln;have hbn:=hK.AW;have B:=Ql.UD (o:=YH mp lf false) hf hm (fun c hc=>(show c=mp from hc)▸hm.lt hf);refine Jv Tryz.func105 Tryz.ntmps105 fun T K=>?_;have M:=B.mem;refine Qb 0 K M fun _ K=>?_;refine JK K M rfl (Qa rfl (Qa rfl (Qa rfl (Qa rfl (Qa rfl (Qa hK.cell QL)))))) Q9 fun c3 _ _ K M=>?_;refine Qb 5 K M fun _ K=>?_;replace B:=B.step M;obtain⟨v15,st15,ev15,hko,QB⟩:=uB B.fresh (fun c m r hr=>B.ZA hf (hR c m r hr) (hRm c m r hr)) hr0 ih hRm (show Qu _ mp 0 [iN lf,.bool false]from B.at_ (k:=0) rfl) hl hk6 hc hsz;refine p1 K (Qf rfl ev15) fun _ K=>?_;obtain⟨ks,ev,rfl,hksc,hd⟩:=hko.ex;replace B:=B.call (k:=0) (o':=Pv mp) rfl QB trivial (ZO fun c hc=>Nat.lt_of_lt_of_le (B.VM (k:=0) rfl c hc) QB.le);have M:=B.mem;refine Qb 7 K M fun _ K=>?_;refine UJ K rfl (fun h19=>?_) fun h19=>?_
 ·have hb19:=h19
  replace h19: ¬(ev=0):=by first|exact of_decide_eq_false h19|exact yF h19|simpa using h19
  refine Qb 3 K M ?_;obtain⟨rfl,hno⟩:=hd.resolve_left (fun h=>h19 h.1);exact⟨.inr ⟨rfl,hno⟩,(B.step M).U7⟩
 have hb19:=h19
 replace h19:(ev=0):=by first|exact of_decide_eq_true h19|exact yT h19|simpa using h19
 refine Qb 0 K M fun _ K=>?_;obtain⟨rfl,sk,J,hsl,hmr,hJ1,hJ2,hjo⟩:=hd.resolve_right (fun h=>by have:=h.1;omega);replace B:=(B.step M).view (k:=0) (o':=YH mp (lf-sk) false) rfl hmr (fun c hc=>hc);have M:=B.mem;refine Qb 3 K M fun _ K=>?_;obtain⟨v25,st25,ev25,hJo,q25⟩:=hjo;refine p1 K (Qf rfl ev25) fun _ K=>?_;obtain⟨xv,ev2,rfl,hxc,hdj⟩:=hJo.ex;replace B:=(B.step M).quiet q25;have M:=B.mem;refine Qb 7 K M fun _ K=>?_;refine UJ K rfl (fun h29=>?_) fun h29=>?_
 ·have hb29:=h29
  replace h29: ¬(ev2=0):=by first|exact of_decide_eq_false h29|exact yF h29|simpa using h29
  refine Qb 3 K M ?_;obtain⟨rfl,rfl,hno⟩:=hdj.resolve_left (fun h=>h29 h.1);exact⟨.inr ⟨rfl,fun m t hA=>by obtain⟨r,hr⟩:=hJ2 m t hA;exact absurd hr (hno r)⟩,(B.step M).U7⟩
 have hb29:=h29
 replace h29:(ev2=0):=by first|exact of_decide_eq_true h29|exact yT h29|simpa using h29
 refine Qb 0 K M fun _ K=>?_;obtain⟨rfl,dp1,F1,r,rfl,hJr,hD1,nf1⟩:=hdj.resolve_right (fun h=>by have:=h.1;omega);refine Qb 1 K M fun _ K=>?_;obtain⟨v33,st33,ev33,dp2,F2,m,rfl,hlm,hD2,nf2,q33⟩:=SE M.fresh hD1;refine p1 K (Qf rfl ev33) fun _ K=>?_;replace B:=(B.step M).new (o:=EJ F2 dp2 m) q33 hD2.at_ nf2;have hmn:m.n≤400:=hlm.canon.wf.most;have M:=B.mem;refine Qb 7 K M fun _ K=>?_;refine UJ K rfl (fun h37=>?_) fun h37=>?_
 ·have hb37:=h37
  replace h37: ¬(0=0):=by first|exact of_decide_eq_false h37|exact yF h37|simpa using h37
  exfalso;omega
 have hb37:=h37
 replace h37:(0=0):=by first|exact of_decide_eq_true h37|exact yT h37|simpa using h37
 refine Qb 2 K M fun _ K=>?_;refine oQ K M (AB M.fresh ((B.step M).RE (k:=0) rfl)) rfl rfl fun _ _ K M=>?_;replace B:=B.step M;obtain⟨v42,st42,ev42,rfl,hm3,Q3⟩:=OU B.fresh (show Qu _ mp 0 [iZ (lf-sk:Nat),.bool false]from B.at_ (k:=1) rfl) Qd m.n Qd;refine p1 K (Qf rfl ev42) fun _ K=>?_;replace B:=B.call (k:=1) (o':=YH mp (X5 (lf-sk) false m.n) (E7 (lf-sk) false m.n)) rfl Q3 hm3 (ZO fun c hc=>Nat.lt_of_lt_of_le (B.VM (k:=1) rfl c hc) Q3.le);have M:=B.mem;refine Qb 1 K M fun _ K=>?_;refine UJ K rfl (fun h43=>?_) fun h43=>?_
 ·have hb43:=h43
  replace h43:((um (lf-sk) false m.n))=false:=by simpa using h43
  refine Qb 2 K M ?_
  have hlt:lf-sk<m.n:=by simpa [um]using h43
  have hA:=hJ1 r m hJr hlm;exact⟨.inr ⟨rfl,fun m' t h=>by obtain⟨_,rfl⟩:=hA.uniq h;omega⟩,(B.step M).U7⟩
 have hb43:=h43
 replace h43:((um (lf-sk) false m.n))=true:=by simpa using h43
 refine Qb 3 K M ?_
 have hle:m.n≤lf-sk:=by simpa [um]using h43
 have hA:=hJ1 r m hJr hlm;refine⟨.inl ⟨dp2,F2,m,sk+m.n,rfl,hA,by omega,(B.step M).RE (k:=0) rfl,(B.step M).ub (k:=0) (j:=1) rfl rfl Q9 rfl,?_⟩,(B.step M).U7⟩;have hrow:Qu _ mp 0 [iZ (X5 (lf-sk) false m.n:Nat),.bool (E7 (lf-sk) false m.n)]:=(B.step M).at_ (k:=1) rfl;rw[Mr,Dl hle,show lf-sk-m.n=lf-(sk+m.n) by omega]at hrow;exact hrow

theorem yH(x:Cr):Kb x:=BE (M:=Kb) (fun o a b g n l ih k R st cs mp lf hf hR hr hRm hm hl hk6 hc hsz=>RL hf hR hr ih hRm hm hl hk6 hc hsz) x

theorem Nz(hf:Qh st)(hR:X1 R st.h.get)(hr:Yr R (.mk o a b g n l) cs)(hRm: ∀c m r,R c m r→c≠mp)(hm:Qu st.h.get mp 0 [iN lf,.bool false])(hl:lf≤9223372036854775807)(hk6:k≤6)(hc:Ja (.mk o a b g n l) ((k:Nat):Int)=true)(hsz:Xx (.mk o a b g n l)≤2000): ∃v st',QV 65 [.agg cs,iN k,.ptr mp 0 0] st v st'∧HF st st' (.mk o a b g n l) k mp lf v∧YA (fun c=>c=mp) st st':=by
 have hr0:=hr;obtain⟨kc,ls,rfl,hK⟩:=hr.ZG;have hln:=hK.ln;have hbn:=hK.AW;have B:=Ql.UD (o:=YH mp lf false) hf hm (fun c hc=>(show c=mp from hc)▸hm.lt hf);refine Jv Tryz.func65 Tryz.ntmps65 fun T K=>?_;have M:=B.mem;refine Qb 0 K M fun _ K=>?_;refine JK K M rfl (Qa rfl (Qa rfl (Qa rfl (Qa rfl (Qa rfl (Qa hK.cell QL)))))) Q9 fun c3 _ _ K M=>?_;refine Qb 4 K M fun _ K=>?_;refine oQ K M (Tg M.fresh (fun c m r hr=>(B.step M).ZA hf (hR c m r hr) (hRm c m r hr)) hr0 (m:=((k:Nat):Int)) Qd Qd hsz hc) rfl rfl fun _ _ K M=>?_;refine Qb 5 K M fun _ K=>?_;replace B:=B.step M;obtain⟨v15,st15,ev15,hco,QB⟩:=yH _ k R _ _ mp lf B.fresh (fun c m r hr=>B.ZA hf (hR c m r hr) (hRm c m r hr)) hr0 hRm (show Qu _ mp 0 [iN lf,.bool false]from B.at_ (k:=0) rfl) hl hk6 hc hsz;refine p1 K (Qf rfl ev15) fun _ K=>?_;obtain⟨xv,ev,rfl,hxc,hd⟩:=hco.ex;have hle0:=B.le;replace B:=B.call (k:=0) (o':=Pv mp) rfl QB trivial (ZO fun c hc=>Nat.lt_of_lt_of_le (B.VM (k:=0) rfl c hc) QB.le);have M:=B.mem;refine Qb 4 K M ?_;refine⟨?_,(B.step M).U7⟩;rcases hd with⟨rfl,dp,F,m,t,rfl,h2,h3,h4,h5,h6⟩|⟨rfl,rfl,h2⟩
 ·exact .inl ⟨dp,F,m,t,rfl,h2,h3,h4,fun c hc=>⟨Nat.le_trans hle0 (h5 c hc).1,(h5 c hc).2⟩,h6⟩
 ·exact .inr ⟨rfl,h2⟩
end
section
open Go

theorem GD:Tryz.prog.underlying 49=some (.slice 91):=by kernel_rfl
theorem Ys:zeroOf Tryz.prog 91=some [.str [],.int .i64 0,.nils]:=by kernel_rfl
theorem Ff:P3 Tryz.prog 91 [(0,1),(1,1),(2,1)] [.str [],.int .i64 0,.nils]:=⟨⟨_,Tryz.underlying91,by kernel_rfl,by kernel_rfl⟩,Ys⟩
theorem JT:F8 Tryz.prog 49 91 3:=⟨GD,by kernel_rfl,⟨_,Ys,rfl⟩,by kernel_rfl,by decide,by decide+kernel⟩
end
end Go.Proofs.YtildagdnomiahaaGreatDoor
