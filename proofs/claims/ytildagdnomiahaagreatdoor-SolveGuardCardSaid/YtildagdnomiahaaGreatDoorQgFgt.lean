/-
  A formula's automaton: the program's compile.
-/
import Derived.Test.YtildagdnomiahaaGreatDoorQgCmk
set_option linter.unnecessarySimpa false
set_option linter.unusedSectionVars false
set_option linter.unusedSimpArgs false
set_option linter.unusedVariables false
namespace Go.Proofs.YtildagdnomiahaaGreatDoor
open Go Go.RowKit
section
set_option maxHeartbeats 8000000
set_option maxRecDepth 100000
variable {R:Vl} {a b g n:Int} {cs:List AV} {k lf mp:Nat} {l:List Cr} {o:List Nat} {st:St}

def jA(st':St)(x:Cr)(cs:List AV)(k mp l:Nat)(v:AV):Prop:=
 (∃ks s,∃J:Au→Prop,v=.tup [ks,.int .i64 0]∧Qu ks=true∧s≤l∧Qw st'.h.get mp 0 [.int .i64 (l-s:Nat),.bool false]∧(∀r m,J r→Jo r m→Jp x k m (s+m.n))∧(∀m t,Jp x k m t→ ∃r,J r)∧
  ∃v2 st2,QR 155 [.agg cs,.int .i64 (k:Nat),ks] st' v2 st2∧Z6 st' st2 J v2∧Qt st' st2)∨(v=.tup [.nils,.int .i64 8]∧ ∀m t,Jp x k m t→l<t)
theorem jA.ex{st':St}{x:Cr}{l:Nat}{v:AV}(h:jA st' x cs k mp l v): ∃ks ev,v=.tup [ks,.int .i64 ev]∧Qu ks=true∧((ev=0∧ ∃s,∃J:Au→Prop,s≤l∧Qw st'.h.get mp 0 [.int .i64 (l-s:Nat),.bool false]∧(∀r m,J r→Jo r m→Jp x k m (s+m.n))∧(∀m t,Jp x k m t→ ∃r,J r)∧
  ∃v2 st2,QR 155 [.agg cs,.int .i64 (k:Nat),ks] st' v2 st2∧Z6 st' st2 J v2∧Qt st' st2)∨(ev=8∧ ∀m t,Jp x k m t→l<t)):=by
 rcases h with⟨ks,s,J,h1,h2,h3⟩|⟨h1,h2⟩
 ·exact⟨_,_,h1,h2,.inl ⟨rfl,s,J,h3⟩⟩
 ·exact⟨_,_,h1,rfl,.inr ⟨rfl,h2⟩⟩
theorem Z6.ex{st':St}{J:Au→Prop}{v:AV}(h:Z6 st st' J v): ∃xv ev,v=.tup [xv,.int .i64 ev]∧Qu xv=true∧((ev=0∧ ∃dp F r,xv=.ptr dp 0 0∧J r∧JH st' F dp r∧XE st st' F)∨(ev=8∧xv=.nilp∧ ∀r,¬J r)):=by
 rcases h with⟨dp,F,r,h1,h2⟩|⟨h1,h2⟩
 ·exact⟨_,_,h1,rfl,.inl ⟨rfl,dp,F,r,rfl,h2⟩⟩
 ·exact⟨_,_,h1,rfl,.inr ⟨rfl,rfl,h2⟩⟩
theorem Pg{m:Int}(h:J1 (.mk o a b g n l) m=true):(EB o∧l=[])∨(o=HB∧ ∃x,l=[x]∧J1 x m=true)∨(o=AU∧ ∃x y,l=[x,y]∧J1 x m=true∧J1 y m=true)∨(o=ON∧ ∃x,l=[x]∧m<6∧J1 x (m+1)=true):=by
 rw[J1]at h;simp only[Bool.and_eq_true,decide_eq_true_eq]at h;obtain⟨h1,h2,h3,h4⟩:=h
 by_cases e1:o=HB
 ·subst e1
  have hl:l.length=1:=by rw[show(Zw HB).2.1=1 by decide]at h2;omega
  obtain⟨x,rfl⟩:=List.length_eq_one_iff.1 hl;rw[if_neg Q8]at h4;simp only[Bool.and_eq_true,F0]at h4;exact .inr (.inl ⟨rfl,x,rfl,h4.2.2.2.1⟩)
 by_cases e2:o=AU
 ·subst e2
  have hl:l.length=2:=by rw[show(Zw AU).2.1=2 by decide]at h2;omega
  obtain⟨x,y,rfl⟩: ∃x y,l=[x,y]:=by
   match l,hl with
   |[x,y],_=>exact⟨x,y,rfl⟩
  rw[if_neg Q8]at h4;simp only[Bool.and_eq_true,F0]at h4;exact .inr (.inr (.inl ⟨rfl,x,y,rfl,h4.2.2.2.1,h4.2.2.2.2.1⟩))
 by_cases e3:o=ON
 ·subst e3
  have hl:l.length=1:=by rw[show(Zw ON).2.1=1 by decide]at h2;omega
  obtain⟨x,rfl⟩:=List.length_eq_one_iff.1 hl;rw[if_pos rfl]at h4;simp only[Bool.and_eq_true,decide_eq_true_eq,F0]at h4;exact .inr (.inr (.inr ⟨rfl,x,rfl,h4.2.1,h4.2.2.2.2.1⟩))
 have hat:EB o:=by
  refine Classical.byContradiction fun hn=>?_;unfold EB at hn;simp only[not_or]at hn;obtain⟨n1,n2,n3,n4,n5,n6,n7,n8,n9,n10,n11⟩:=hn;unfold Zw at h1;rw[if_neg (Ne.symm n1),if_neg (Ne.symm n2),if_neg (Ne.symm n7),if_neg (Ne.symm n8),if_neg (Ne.symm n3),if_neg (Ne.symm n9),if_neg (Ne.symm n10),if_neg (Ne.symm n11),if_neg (Ne.symm n4),if_neg (Ne.symm n5),if_neg (Ne.symm n6),if_neg (Ne.symm e1),if_neg (Ne.symm e2),if_neg (Ne.symm e3)]at h1;cases h1
 have hl:(Zw o).2.1=0:=by rcases hat with rfl|rfl|rfl|rfl|rfl|rfl|rfl|rfl|rfl|rfl|rfl<;>decide
 exact .inl ⟨hat,List.eq_nil_of_length_eq_zero Qe⟩
theorem MV(hf:Qg st)(hR:ZL R st.h.get){kc:AV}(hr:Uy R (.mk o a b g n l) [.str o,.int .i64 a,.int .i64 b,.int .i64 g,.int .i64 n,kc])(ih: ∀y∈l,HW y)(hRm: ∀c m r,R c m r→c≠mp)(hm:Qw st.h.get mp 0 [.int .i64 (lf:Nat),.bool false])(hl:lf≤9223372036854775807)(hk6:k≤6)(hc:J1 (.mk o a b g n l) ((k:Nat):Int)=true)(hsz:VN (.mk o a b g n l)≤2000):
  ∃v st',QR 154 [.agg [.str o,.int .i64 a,.int .i64 b,.int .i64 g,.int .i64 n,kc],.int .i64 (k:Nat),.ptr mp 0 0] st v st'∧jA st' (.mk o a b g n l) [.str o,.int .i64 a,.int .i64 b,.int .i64 g,.int .i64 n,kc] k mp lf v∧YI (fun c=>c=mp) st st':=by
 obtain⟨l',ls,hle,hK⟩:=hr.shape
 injection hle with _ _ _ _ _ hle
 subst hle;rw[VN]at hsz;have hkc:=hK.cell
 have hin: ∀st',YI (fun c=>c=mp) st st'→ZL R st'.h.get:=fun st' Q c m r h=>by
  obtain⟨ro,e,vs,ms,h2,h3⟩:=hR c m r h;exact⟨ro,e,vs,ms,by rw[Q.J0 c (Nat.lt_of_not_le fun hle=>by rw[hf c hle]at h2;cases h2) (hRm c m r h)];exact h2,h3⟩
 rcases Pg hc with⟨hat,rfl⟩|⟨rfl,x,rfl,hcx⟩|⟨rfl,x,y,rfl,hcx,hcy⟩|⟨rfl,x,rfl,hk5,hcx⟩
 ·obtain⟨v,st',h1,h2,q⟩:=MW hf hR hK hRm hm hl hk6 (a:=a) (b:=b) (g:=g) (n:=n) hat;have hc0:=hc;obtain⟨_,an,bn,gn,nn,rfl,rfl,rfl,rfl,b1,b2,b3,b4⟩:=CD hat hc Qe;have Q:YI (fun c=>c=mp) st st':=⟨q.fresh,q.le,fun c hc _=>q.J0 c hc⟩
  have hne:o≠[110,111,116]∧o≠[97,110,100]∧o≠[101,120]:=by rcases hat with rfl|rfl|rfl|rfl|rfl|rfl|rfl|rfl|rfl|rfl|rfl<;>simp
  obtain⟨v2,st2,j1,j2,j3⟩:=S7 q.fresh (hin _ Q) hr hat b4 b1 b2 b3 hk6 (by rw[VN];exact hsz) hc0 (ks:=.nils);refine⟨v,st',h1,.inl ⟨.nils,0,_,h2,rfl,Nat.zero_le _,?_,fun r m hJ hlm=>?_,fun m t hA=>?_,v2,st2,j1,j2,j3⟩,Q⟩
  ·exact hm.frame (q.J0 mp (hm.lt hf))
  ·rw[Nat.zero_add];exact .atom hne.1 hne.2.1 hne.2.2 (hlm.trans hJ.like hJ.tr.symm)
  ·cases hA with
   |atom _ _ _ h=>exact⟨m,h⟩
 ·obtain⟨v,st',h1,h2,Q⟩:=DF hf hR hK hRm hm hl hk6 (ih x Qx) (by rw[ZU,ZU]at hsz;omega) hk6 hcx (a:=a) (b:=b) (g:=g) (n:=n);refine⟨v,st',h1,?_,Q⟩;rcases h2 with⟨ks,dp,F,m,s,rfl,a1,a2,a3,a4,a5,a6,a7⟩|⟨rfl,hno⟩
  ·obtain⟨v2,st2,j1,j2,j3⟩:=DJ Q.fresh hkc a2 a3 (a:=a) (b:=b) (g:=g) (n:=n) (k:=k);exact .inl ⟨ks,s,fun r=>r=m.neg,rfl,a1,a6,a7,fun r m' hJ hlm=>by subst hJ;exact .not rfl a5 hlm,fun m' t hA=>⟨_,rfl⟩,v2,st2,j1,j2,j3⟩
  ·refine .inr ⟨rfl,fun m t hA=>?_⟩
   cases hA with
   |not ho hx h=>have:=hno _ _ hx;omega
   |ex ho=>cases ho
 ·obtain⟨v,st',h1,h2,Q⟩:=DH hf hR hK hRm hm hl hk6 (ih x Qx) (by rw[ZU,ZU,ZU]at hsz;omega) (ih y Qx) (by rw[ZU,ZU,ZU]at hsz;omega) hcx hcy (a:=a) (b:=b) (g:=g) (n:=n);refine⟨v,st',h1,?_,Q⟩;rcases h2 with⟨ks,dp,F,m,s,dq,F',m',t,rfl,a1,a2,a3,a4,a5,a6,a7,a8⟩|⟨rfl,hno⟩
  ·obtain⟨v2,st2,j1,j2,j3⟩:=DK Q.fresh hkc a2 a3 a4 (a6.tr.trans a5.tr.symm) (a:=a) (b:=b) (g:=g) (n:=n) (k:=k);refine .inl ⟨ks,s+t,_,rfl,a1,a7,by rw[show lf-(s+t)=lf-s-t by omega];exact a8,fun r m' hJ hlm=>?_,fun m' t hA=>?_,v2,st2,j1,j2,j3⟩
   ·obtain⟨lp,hJ⟩:=hJ;exact .and rfl a5 a6 hJ hlm
   ·cases hA with
    |and _ hx hy hb h=>
     obtain⟨rfl,_⟩:=a5.uniq hx;obtain⟨rfl,_⟩:=a6.uniq hy;exact⟨_,_,hb⟩
  ·refine .inr ⟨rfl,fun m t hA=>?_⟩
   cases hA with
   |and ho hx hy hb h=>have:=hno _ _ _ _ hx hy;omega
 ·obtain⟨v,st',h1,h2,Q⟩:=Sy hf hR hK hRm hm hl hk6 (ih x Qx) (by rw[ZU,ZU]at hsz;omega) Qe hcx (a:=a) (b:=b) (g:=g) (n:=n);refine⟨v,st',h1,?_,Q⟩;rcases h2 with⟨ks,dp,F,m,s,rfl,a1,a2,a3,a4,a5,a6,a7⟩|⟨rfl,hno⟩
  ·obtain⟨v2,st2,j1,j2,j3⟩:=S6 Q.fresh hkc a2 a3 a5.tr (a:=a) (b:=b) (g:=g) (n:=n) (k:=k);refine .inl ⟨ks,s,_,rfl,a1,a6,a7,fun r m' hJ hlm=>?_,fun m' t hA=>?_,v2,st2,j1,j2,j3⟩
   ·obtain⟨acc,L,b1,b2,b3⟩:=hJ;exact .ex rfl a5 b1 b2 b3 hlm
   ·cases hA with
    |not ho=>cases ho
    |ex _ hx hc hm ht h=>
     obtain⟨rfl,_⟩:=a5.uniq hx;exact⟨_,_,_,hc,hm,ht⟩
  ·refine .inr ⟨rfl,fun m t hA=>?_⟩
   cases hA with
   |not ho=>cases ho
   |ex ho hx hc hm ht h=>have:=hno _ _ hx;omega

theorem Ph(hf:Qg st)(hR:ZL R st.h.get)(hr:Uy R (.mk o a b g n l) cs)(ih: ∀y∈l,HW y)(hRm: ∀c m r,R c m r→c≠mp)(hm:Qw st.h.get mp 0 [iN lf,.bool false])(hl:lf≤9223372036854775807)(hk6:k≤6)(hc:J1 (.mk o a b g n l) ((k:Nat):Int)=true)(hsz:VN (.mk o a b g n l)≤2000): ∃v st',QR 105 [.agg cs,iN k,.ptr mp 0 0] st v st'∧FH st st' (.mk o a b g n l) k mp lf v∧YI (fun c=>c=mp) st st':=by
 have hr0:=hr;obtain⟨kc,ls,rfl,hK⟩:=hr.YN;have hln:=hK.ln;have hbn:=hK.EA;have B:=Qj.UR (o:=Zn mp lf false) hf hm (fun c hc=>(show c=mp from hc)▸hm.lt hf);refine Jq Tryz.func105 Tryz.ntmps105 fun T K=>?_;have M:=B.mem;refine Qb 0 K M fun _ K=>?_;refine J3 K M rfl (Qa rfl (Qa rfl (Qa rfl (Qa rfl (Qa rfl (Qa hK.cell Q9)))))) Q8 fun c3 _ _ K M=>?_;refine Qb 5 K M fun _ K=>?_;replace B:=B.step M;obtain⟨v15,st15,ev15,hko,QB⟩:=MV B.fresh (fun c m r hr=>B.ZH hf (hR c m r hr) (hRm c m r hr)) hr0 ih hRm (show Qw _ mp 0 [iN lf,.bool false]from B.at_ (k:=0) rfl) hl hk6 hc hsz;refine p1 K (Qf rfl ev15) fun _ K=>?_;obtain⟨ks,ev,rfl,hksc,hd⟩:=hko.ex;replace B:=B.call (k:=0) (o':=CK mp) rfl QB trivial (Xz fun c hc=>Nat.lt_of_lt_of_le (B.Vj (k:=0) rfl c hc) QB.le);have M:=B.mem;refine Qb 7 K M fun _ K=>?_;refine YU K rfl (fun h19=>?_) fun h19=>?_
 ·have hb19:=h19
  replace h19: ¬(ev=0):=by first|exact of_decide_eq_false h19|exact yF h19|simpa using h19
  refine Qb 3 K M ?_;obtain⟨rfl,hno⟩:=hd.resolve_left (fun h=>h19 h.1);exact⟨.inr ⟨rfl,hno⟩,(B.step M).U7⟩
 have hb19:=h19
 replace h19:(ev=0):=by first|exact of_decide_eq_true h19|exact yT h19|simpa using h19
 refine Qb 0 K M fun _ K=>?_;obtain⟨rfl,sk,J,hsl,hmr,hJ1,hJ2,hjo⟩:=hd.resolve_right (fun h=>by have:=h.1;omega);replace B:=(B.step M).view (k:=0) (o':=Zn mp (lf-sk) false) rfl hmr (fun c hc=>hc);have M:=B.mem;refine Qb 3 K M fun _ K=>?_;obtain⟨v25,st25,ev25,hJo,q25⟩:=hjo;refine p1 K (Qf rfl ev25) fun _ K=>?_;obtain⟨xv,ev2,rfl,hxc,hdj⟩:=hJo.ex;replace B:=(B.step M).quiet q25;have M:=B.mem;refine Qb 7 K M fun _ K=>?_;refine YU K rfl (fun h29=>?_) fun h29=>?_
 ·have hb29:=h29
  replace h29: ¬(ev2=0):=by first|exact of_decide_eq_false h29|exact yF h29|simpa using h29
  refine Qb 3 K M ?_;obtain⟨rfl,rfl,hno⟩:=hdj.resolve_left (fun h=>h29 h.1);exact⟨.inr ⟨rfl,fun m t hA=>by obtain⟨r,hr⟩:=hJ2 m t hA;exact absurd hr (hno r)⟩,(B.step M).U7⟩
 have hb29:=h29
 replace h29:(ev2=0):=by first|exact of_decide_eq_true h29|exact yT h29|simpa using h29
 refine Qb 0 K M fun _ K=>?_;obtain⟨rfl,dp1,F1,r,rfl,hJr,hD1,nf1⟩:=hdj.resolve_right (fun h=>by have:=h.1;omega);refine Qb 1 K M fun _ K=>?_;obtain⟨v33,st33,ev33,dp2,F2,m,rfl,hlm,hD2,nf2,q33⟩:=PW M.fresh hD1;refine p1 K (Qf rfl ev33) fun _ K=>?_;replace B:=(B.step M).new (o:=Ak F2 dp2 m) q33 hD2.at_ nf2;have hmn:m.n≤400:=hlm.canon.wf.most;have M:=B.mem;refine Qb 7 K M fun _ K=>?_;refine YU K rfl (fun h37=>?_) fun h37=>?_
 ·have hb37:=h37
  replace h37: ¬(0=0):=by first|exact of_decide_eq_false h37|exact yF h37|simpa using h37
  exfalso;omega
 have hb37:=h37
 replace h37:(0=0):=by first|exact of_decide_eq_true h37|exact yT h37|simpa using h37
 refine Qb 2 K M fun _ K=>?_;refine oQ K M (E5 M.fresh ((B.step M).SU (k:=0) rfl)) rfl rfl fun _ _ K M=>?_;replace B:=B.step M;obtain⟨v42,st42,ev42,rfl,hm3,Q3⟩:=NC B.fresh (show Qw _ mp 0 [iZ (lf-sk:Nat),.bool false]from B.at_ (k:=1) rfl) Qe m.n Qe;refine p1 K (Qf rfl ev42) fun _ K=>?_;replace B:=B.call (k:=1) (o':=Zn mp (Xa (lf-sk) false m.n) (WJ (lf-sk) false m.n)) rfl Q3 hm3 (Xz fun c hc=>Nat.lt_of_lt_of_le (B.Vj (k:=1) rfl c hc) Q3.le);have M:=B.mem;refine Qb 1 K M fun _ K=>?_;refine YU K rfl (fun h43=>?_) fun h43=>?_
 ·have hb43:=h43
  replace h43:((MK (lf-sk) false m.n))=false:=by simpa using h43
  refine Qb 2 K M ?_
  have hlt:lf-sk<m.n:=by simpa [MK]using h43
  have hA:=hJ1 r m hJr hlm;exact⟨.inr ⟨rfl,fun m' t h=>by obtain⟨_,rfl⟩:=hA.uniq h;omega⟩,(B.step M).U7⟩
 have hb43:=h43
 replace h43:((MK (lf-sk) false m.n))=true:=by simpa using h43
 refine Qb 3 K M ?_
 have hle:m.n≤lf-sk:=by simpa [MK]using h43
 have hA:=hJ1 r m hJr hlm;refine⟨.inl ⟨dp2,F2,m,sk+m.n,rfl,hA,by omega,(B.step M).SU (k:=0) rfl,(B.step M).MA (k:=0) (j:=1) rfl rfl Q8 rfl,?_⟩,(B.step M).U7⟩;have hrow:Qw _ mp 0 [iZ (Xa (lf-sk) false m.n:Nat),.bool (WJ (lf-sk) false m.n)]:=(B.step M).at_ (k:=1) rfl;rw[Ss,BA hle,show lf-sk-m.n=lf-(sk+m.n) by omega]at hrow;exact hrow

theorem qN(x:Cr):HW x:=Le (M:=HW) (fun o a b g n l ih k R st cs mp lf hf hR hr hRm hm hl hk6 hc hsz=>Ph hf hR hr ih hRm hm hl hk6 hc hsz) x

theorem Ll(hf:Qg st)(hR:ZL R st.h.get)(hr:Uy R (.mk o a b g n l) cs)(hRm: ∀c m r,R c m r→c≠mp)(hm:Qw st.h.get mp 0 [iN lf,.bool false])(hl:lf≤9223372036854775807)(hk6:k≤6)(hc:J1 (.mk o a b g n l) ((k:Nat):Int)=true)(hsz:VN (.mk o a b g n l)≤2000): ∃v st',QR 65 [.agg cs,iN k,.ptr mp 0 0] st v st'∧FH st st' (.mk o a b g n l) k mp lf v∧YI (fun c=>c=mp) st st':=by
 have hr0:=hr;obtain⟨kc,ls,rfl,hK⟩:=hr.YN;have hln:=hK.ln;have hbn:=hK.EA;have B:=Qj.UR (o:=Zn mp lf false) hf hm (fun c hc=>(show c=mp from hc)▸hm.lt hf);refine Jq Tryz.func65 Tryz.ntmps65 fun T K=>?_;have M:=B.mem;refine Qb 0 K M fun _ K=>?_;refine J3 K M rfl (Qa rfl (Qa rfl (Qa rfl (Qa rfl (Qa rfl (Qa hK.cell Q9)))))) Q8 fun c3 _ _ K M=>?_;refine Qb 4 K M fun _ K=>?_;refine oQ K M (Rs M.fresh (fun c m r hr=>(B.step M).ZH hf (hR c m r hr) (hRm c m r hr)) hr0 (m:=((k:Nat):Int)) Qe Qe hsz hc) rfl rfl fun _ _ K M=>?_;refine Qb 5 K M fun _ K=>?_;replace B:=B.step M;obtain⟨v15,st15,ev15,hco,QB⟩:=qN _ k R _ _ mp lf B.fresh (fun c m r hr=>B.ZH hf (hR c m r hr) (hRm c m r hr)) hr0 hRm (show Qw _ mp 0 [iN lf,.bool false]from B.at_ (k:=0) rfl) hl hk6 hc hsz;refine p1 K (Qf rfl ev15) fun _ K=>?_;obtain⟨xv,ev,rfl,hxc,hd⟩:=hco.ex;have hle0:=B.le;replace B:=B.call (k:=0) (o':=CK mp) rfl QB trivial (Xz fun c hc=>Nat.lt_of_lt_of_le (B.Vj (k:=0) rfl c hc) QB.le);have M:=B.mem;refine Qb 4 K M ?_;refine⟨?_,(B.step M).U7⟩;rcases hd with⟨rfl,dp,F,m,t,rfl,h2,h3,h4,h5,h6⟩|⟨rfl,rfl,h2⟩
 ·exact .inl ⟨dp,F,m,t,rfl,h2,h3,h4,fun c hc=>⟨Nat.le_trans hle0 (h5 c hc).1,(h5 c hc).2⟩,h6⟩
 ·exact .inr ⟨rfl,h2⟩
end
section
variable {k m:Nat}

def X4(n:Nat)(p p2:QX)(l:List (Nat×Nat)):QX:=fun k m=>if k<n then p k m else if m=0 then(l[k-n]?).bind fun x=>p2 x.1 x.2 else none
section
variable {w0 w w':World} {p p2:QX} {st st2:St} {h':Hp} {l:List (Nat×Nat)}
theorem Ui{n:Nat}(h:k<n):X4 n p p2 l k m=p k m:=if_pos h
theorem S5{n i:Nat}{x:Nat×Nat}(h:l[i]? =some x):X4 n p p2 l (n+i) 0=p2 x.1 x.2:=by
 unfold X4;rw[if_neg Qe,if_pos rfl,show n+i-n=i by omega,h];rfl
theorem HR.xO(H:HR w0 p st.h.get w)(hf:Qg st){x:Pl}(hx:p k m=some x):k<st.n:=by
 obtain⟨C,hC,_⟩:=H.dom k m x hx
 by_cases h:k<st.n
 ·exact h
 ·rw[hf k Qe]at hC;cases hC
theorem BM(H:HR w0 p st.h.get w)(hf:Qg st):QX.le p (X4 st.n p p2 l):=fun k m x hx=>by rw[Ui (H.xO hf hx)];exact hx
theorem Step.forget(hf:Qg st)(H:HR w0 p st.h.get w)(S:Step w0 p w p2 st2.h.get w')(hl: ∀x∈l,st.n≤x.1)(hn:(l.map Prod.fst).Nodup)
  (hdO: ∀k C,st.h.get k=some C→ ∃C',h' k=some C'∧(exts C).length≤(exts C').length) (hdN: ∀(i:Nat) (x:Nat×Nat),l[i]? =some x→ ∃C,h' (st.n+i)=some C∧0<(exts C).length)
  (hc: ∀k C,h' k=some C→Xb w0.heap.size (X4 st.n p p2 l) h' w' k C):Step w0 p w (X4 st.n p p2 l) h' w':=by
 have hnew: ∀k m x,¬k<st.n→X4 st.n p p2 l k m=some x→ ∃i y,k=st.n+i∧m=0∧l[i]? =some y∧p2 y.1 y.2=some x:=fun k m x hk hx=>by
  unfold X4 at hx;rw[if_neg hk]at hx
  split at hx
  ·rename_i hm;obtain⟨y,hy,hx⟩:=Option.bind_eq_some_iff.1 hx;exact⟨k-st.n,y,by omega,hm,hy,hx⟩
  ·cases hx
 have hunp: ∀k,st.n≤k→ ∀m,p k m=none:=fun k hk m=>H.Z9 (hf k hk) m;refine⟨BM H hf,⟨S.hr.os,S.hr.tape,S.hr.output,S.hr.size,S.hr.J0,fun k m x hx=>?_,fun k m x hx=>?_,fun k m x k' m' x' hx hx' hb=>?_,hc⟩,S.fr,fun k m x hx hp=>?_⟩
 ·by_cases hk:k<st.n
  ·rw[Ui hk]at hx;obtain⟨C,h1,h2⟩:=H.dom k m x hx;obtain⟨C',h3,h4⟩:=hdO k C h1;exact⟨C',h3,Nat.lt_of_lt_of_le h2 h4⟩
  ·obtain⟨i,y,rfl,rfl,h1,_⟩:=hnew k m x hk hx;exact hdN i y h1
 ·by_cases hk:k<st.n
  ·rw[Ui hk]at hx;exact S.hr.lt k m x (S.le k m x hx)
  ·obtain⟨i,y,rfl,rfl,h1,h2⟩:=hnew k m x hk hx;exact S.hr.lt _ _ x h2
 ·by_cases hk:k<st.n
  ·rw[Ui hk]at hx
   by_cases hk':k'<st.n
   ·rw[Ui hk']at hx';exact H.apart k m x k' m' x' hx hx' hb
   ·obtain⟨i,y,rfl,rfl,h1,h2⟩:=hnew k' m' x' hk' hx';have:=S.hr.apart k m x _ _ x' (S.le k m x hx) h2 hb;have:=hl y (List.mem_of_getElem? h1);omega
  ·obtain⟨i,y,rfl,rfl,h1,h2⟩:=hnew k m x hk hx
   by_cases hk':k'<st.n
   ·rw[Ui hk']at hx';have:=S.hr.apart _ _ x k' m' x' h2 (S.le k' m' x' hx') hb;have:=hl y (List.mem_of_getElem? h1);omega
   ·obtain⟨j,z,rfl,rfl,h3,h4⟩:=hnew k' m' x' hk' hx';have e:=S.hr.apart _ _ x _ _ x' h2 h4 hb
    have e1:(l.map Prod.fst)[i]? =some y.1:=by rw[List.getElem?_map,h1];rfl
    have e2:(l.map Prod.fst)[j]? =some y.1:=by rw[List.getElem?_map,h3,e];rfl
    rw[(List.getElem?_inj (List.getElem?_eq_some_iff.1 e1).1 hn).1 (e1.trans e2.symm)]
 ·by_cases hk:k<st.n
  ·rw[Ui hk,hp]at hx;cases hx
  ·obtain⟨i,y,rfl,rfl,h1,h2⟩:=hnew k m x hk hx;rcases S.new _ _ x h2 (hunp _ (hl y (List.mem_of_getElem? h1)) _)with h|⟨m0,x0,h,_⟩
   ·exact .inl h
   ·rw[hunp _ (hl y (List.mem_of_getElem? h1))]at h;cases h
theorem Xb.stay(hf:Qg st)(H:HR w0 p st.h.get w)(S:Step w0 p w p2 st2.h.get w')(hg:Grow st.h.get h'){C:AB}(h1:st.h.get k=some C)(h2:st2.h.get k=some C):Xb w0.heap.size (X4 st.n p p2 l) h' w' k C:=by
 have hk:k<st.n:=by
  by_cases h:k<st.n
  ·exact h
  ·rw[hf k Qe]at h1;cases h1
 have hle:=BM (p2:=p2) (l:=l) H hf;have hcv: ∀v,WF st.h.get v→Qd (X4 st.n p p2 l) v=Qd p2 v:=fun v hv=>(JQ H.Wg hle v hv).trans (JQ H.Wg S.le v hv).symm;have A:=H.cls k C h1;have A2:=S.hr.cls k C h2
 have hp: ∀m q,p k m=some q→ ∀q2,p2 k m=some q2→q2=q:=fun m q hq q2 hq2=>by rw[S.le k m q hq]at hq2;injection hq2 with e;exact e.symm
 cases C with
 |row ro ms=>
  have A:Oh w0.heap.size p st.h.get w k ro ms:=A;have A2:Oh w0.heap.size p2 st2.h.get w' k ro ms:=A2;refine(⟨fun m e vs cs he=>?_,fun m e vs cs m' e' vs' cs' q q' a1 a2 a3 a4 a5=>?_⟩:Oh w0.heap.size (X4 st.n p p2 l) h' w' k ro ms)
  ·obtain⟨q,arr,el,b1,b2,b3,b4,b5,b6⟩:=A.mem m e vs cs he;obtain⟨q2,arr2,el2,d1,d2,d3,d4,d5,d6⟩:=A2.mem m e vs cs he;have:=hp m q b1 q2 d1;subst this;refine⟨q2,arr2,el2,by rw[Ui hk];exact b1,d2,d3,d4,d5,fun l' hl'=>⟨(d6 l' hl').1,fun j v hj=>?_⟩⟩;have hv:=((b6 l' hl').2 j v hj).2.1;have hd:=(d6 l' hl').2 j v hj;exact⟨by rw[hcv v hv];exact hd.1,WF.grow hg v hv,hd.2.2⟩
  ·rw[Ui hk]at a3 a4;exact A2.same m e vs cs m' e' vs' cs' q q' a1 a2 (S.le _ _ _ a3) (S.le _ _ _ a4) a5
 |iter s r pos=>
  obtain⟨q,b1,_⟩:=A;obtain⟨q2,d1,d2⟩:=A2;have:=hp 0 q b1 q2 d1;subst this;exact⟨q2,by rw[Ui hk];exact b1,d2⟩
 |map es n=>
  obtain⟨q,b1,_,b3,_⟩:=A;obtain⟨q2,d1,d2,d3,d4⟩:=A2;have:=hp 0 q b1 q2 d1;subst this;refine⟨q2,by rw[Ui hk];exact b1,?_,fun x hx=>⟨WF.grow hg _ (b3 x hx).1,WF.grow hg _ (b3 x hx).2⟩,d4⟩;rw[d2]
  congr 2
  exact congrArg List.toArray ((I9 H.Wg S.le b3).trans (I9 H.Wg hle b3).symm)
theorem Xb.Uc{P':QX}(R2:HR w0 p2 st2.h.get w'){c vs:Nat}{cs cs':List AV}(h2:Qw st2.h.get c m cs)(hp:P' k 0=p2 c m)(hlen:cs'.length=cs.length)
  (hv: ∀(j:Nat) (v v':AV),cs[j]? =some v→cs'[j]? =some v'→Qd P' v'=Qd p2 v∧WF h' v'∧Qu v'=true):Xb w0.heap.size P' h' w' k (.row false [(cs'.length,vs,some cs')]):=by
 obtain⟨vs2,ms,a1,a2⟩:=h2;have A:Oh w0.heap.size p2 st2.h.get w' c false ms:=R2.cls c _ a1;obtain⟨q,arr,el,d1,d2,d3,d4,d5,d6⟩:=A.mem m _ _ _ a2;refine(⟨fun m' e v cs0 he=>?_,fun m1 e1 v1 c1 m2 e2 v2 c2 q1 q2 b1 b2 b3 b4 b5=>?_⟩:Oh w0.heap.size P' h' w' k false _)
 ·cases m' with
  |succ m'=>simp at he
  |zero=>
   injection he with he
   injection he with e1 he
   injection he with e2 e3
   subst e1 e2 e3;refine⟨q,arr,el,hp.trans d1,d2,d3,by rw[hlen];exact d4,d5,fun l' hl'=>?_⟩
   injection hl' with hl'
   subst hl';refine⟨rfl,fun j v' hj=>?_⟩;obtain⟨v,hjv⟩: ∃v,cs[j]? =some v:=⟨_,List.getElem?_eq_getElem (by have:=(List.getElem?_eq_some_iff.1 hj).1;omega)⟩;obtain⟨k1,k2,k3⟩:=hv j v v' hjv hj;exact⟨by rw[k1];exact((d6 cs rfl).2 j v hjv).1,k2,k3⟩
 ·cases m1 with
  |succ m1=>simp at b1
  |zero=>cases m2 with
   |succ m2=>simp at b2
   |zero=>
    rw[b3]at b4
    injection b4 with b4
    subst b4
    injection b1 with b1
    injection b2 with b2
    injection b1 with _ b1
    injection b2 with _ b2
    injection b1 with b1
    injection b2 with b2
    omega
end
end
end Go.Proofs.YtildagdnomiahaaGreatDoor
