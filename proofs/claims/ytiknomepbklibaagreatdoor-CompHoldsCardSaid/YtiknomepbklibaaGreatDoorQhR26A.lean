/-
  A formula's automaton: the program's compile.
-/
import Derived.Test.YtiknomepbklibaaGreatDoorQhCmk
import Derived.Test.YtiknomepbklibaaGreatDoorQhR25B
set_option maxHeartbeats 8000000
set_option maxRecDepth 100000
set_option linter.unnecessarySimpa false
set_option linter.unusedSectionVars false
set_option linter.unusedSimpArgs false
set_option linter.unusedVariables false
namespace Go.Proofs.YtiknomepbklibaaGreatDoor
section
open Go Go.RowKit
variable {R:Ee} {a b g n:Int} {cs:List AV} {k lf mp:Nat} {l:List Cr} {o:List Nat} {st:St}

def zE(st':St)(x:Cr)(cs:List AV)(k mp l:Nat)(v:AV):Prop:=
 (∃ks s,∃J:Au→Prop,v=.tup [ks,.int .i64 0]∧Qs ks=true∧s≤l∧Qy st'.h.get mp 0 [.int .i64 (l-s:Nat),.bool false]∧(∀r m,J r→JS r m→Jx x k m (s+m.n))∧(∀m t,Jx x k m t→ ∃r,J r)∧
  ∃v2 st2,Jh 80 [.agg cs,.int .i64 (k:Nat),ks] st' v2 st2∧X4 st' st2 J v2∧Qt st' st2)∨(v=.tup [.nils,.int .i64 8]∧ ∀m t,Jx x k m t→l<t)
theorem zE.ex{st':St}{x:Cr}{l:Nat}{v:AV}(h:zE st' x cs k mp l v): ∃ks ev,v=.tup [ks,.int .i64 ev]∧Qs ks=true∧((ev=0∧ ∃s,∃J:Au→Prop,s≤l∧Qy st'.h.get mp 0 [.int .i64 (l-s:Nat),.bool false]∧(∀r m,J r→JS r m→Jx x k m (s+m.n))∧(∀m t,Jx x k m t→ ∃r,J r)∧
  ∃v2 st2,Jh 80 [.agg cs,.int .i64 (k:Nat),ks] st' v2 st2∧X4 st' st2 J v2∧Qt st' st2)∨(ev=8∧ ∀m t,Jx x k m t→l<t)):=by
 rcases h with⟨ks,s,J,h1,h2,h3⟩|⟨h1,h2⟩
 ·exact⟨_,_,h1,h2,.inl ⟨rfl,s,J,h3⟩⟩
 ·exact⟨_,_,h1,rfl,.inr ⟨rfl,h2⟩⟩
theorem X4.ex{st':St}{J:Au→Prop}{v:AV}(h:X4 st st' J v): ∃xv ev,v=.tup [xv,.int .i64 ev]∧Qs xv=true∧((ev=0∧ ∃dp F r,xv=.ptr dp 0 0∧J r∧UZ st' F dp r∧ZQ st st' F)∨(ev=8∧xv=.nilp∧ ∀r,¬J r)):=by
 rcases h with⟨dp,F,r,h1,h2⟩|⟨h1,h2⟩
 ·exact⟨_,_,h1,rfl,.inl ⟨rfl,dp,F,r,rfl,h2⟩⟩
 ·exact⟨_,_,h1,rfl,.inr ⟨rfl,rfl,h2⟩⟩
theorem Z9{m:Int}(h:QX (.mk o a b g n l) m=true):(VP o∧l=[])∨(o=Ku∧ ∃x,l=[x]∧QX x m=true)∨(o=HO∧ ∃x y,l=[x,y]∧QX x m=true∧QX y m=true)∨(o=BM∧ ∃x,l=[x]∧m<6∧QX x (m+1)=true):=by
 rw[QX]at h;simp only[Bool.and_eq_true,decide_eq_true_eq]at h;obtain⟨h1,h2,h3,h4⟩:=h
 by_cases e1:o=Ku
 ·subst e1
  have hl:l.length=1:=by rw[show(Ui Ku).2.1=1 by decide]at h2;omega
  obtain⟨x,rfl⟩:=List.length_eq_one_iff.1 hl;rw[if_neg Q9]at h4;simp only[Bool.and_eq_true,Xp]at h4;exact .inr (.inl ⟨rfl,x,rfl,h4.2.2.2.1⟩)
 by_cases e2:o=HO
 ·subst e2
  have hl:l.length=2:=by rw[show(Ui HO).2.1=2 by decide]at h2;omega
  obtain⟨x,y,rfl⟩: ∃x y,l=[x,y]:=by
   match l,hl with
   |[x,y],_=>exact⟨x,y,rfl⟩
  rw[if_neg Q9]at h4;simp only[Bool.and_eq_true,Xp]at h4;exact .inr (.inr (.inl ⟨rfl,x,y,rfl,h4.2.2.2.1,h4.2.2.2.2.1⟩))
 by_cases e3:o=BM
 ·subst e3
  have hl:l.length=1:=by rw[show(Ui BM).2.1=1 by decide]at h2;omega
  obtain⟨x,rfl⟩:=List.length_eq_one_iff.1 hl;rw[if_pos rfl]at h4;simp only[Bool.and_eq_true,decide_eq_true_eq,Xp]at h4;exact .inr (.inr (.inr ⟨rfl,x,rfl,h4.2.1,h4.2.2.2.2.1⟩))
 have hat:VP o:=by
  refine Classical.byContradiction fun hn=>?_;unfold VP at hn;simp only[not_or]at hn;obtain⟨n1,n2,n3,n4,n5,n6,n7,n8,n9,n10,n11⟩:=hn;unfold Ui at h1;rw[if_neg (Ne.symm n1),if_neg (Ne.symm n2),if_neg (Ne.symm n7),if_neg (Ne.symm n8),if_neg (Ne.symm n3),if_neg (Ne.symm n9),if_neg (Ne.symm n10),if_neg (Ne.symm n11),if_neg (Ne.symm n4),if_neg (Ne.symm n5),if_neg (Ne.symm n6),if_neg (Ne.symm e1),if_neg (Ne.symm e2),if_neg (Ne.symm e3)]at h1;cases h1
 have hl:(Ui o).2.1=0:=by rcases hat with rfl|rfl|rfl|rfl|rfl|rfl|rfl|rfl|rfl|rfl|rfl<;>decide
 exact .inl ⟨hat,List.eq_nil_of_length_eq_zero Qc⟩
theorem uW(hf:Qi st)(hR:Y8 R st.h.get){kc:AV}(hr:ZO R (.mk o a b g n l) [.str o,.int .i64 a,.int .i64 b,.int .i64 g,.int .i64 n,kc])(ih: ∀y∈l,KO y)(hRm: ∀c m r,R c m r→c≠mp)(hm:Qy st.h.get mp 0 [.int .i64 (lf:Nat),.bool false])(hl:lf≤9223372036854775807)(hk6:k≤6)(hc:QX (.mk o a b g n l) ((k:Nat):Int)=true)(hsz:XZ (.mk o a b g n l)≤2000):
  ∃v st',Jh 79 [.agg [.str o,.int .i64 a,.int .i64 b,.int .i64 g,.int .i64 n,kc],.int .i64 (k:Nat),.ptr mp 0 0] st v st'∧zE st' (.mk o a b g n l) [.str o,.int .i64 a,.int .i64 b,.int .i64 g,.int .i64 n,kc] k mp lf v∧US (fun c=>c=mp) st st':=by
 obtain⟨l',ls,hle,hK⟩:=hr.shape
 injection hle with _ _ _ _ _ hle
 subst hle;rw[XZ]at hsz;have hkc:=hK.cell
 have hin: ∀st',US (fun c=>c=mp) st st'→Y8 R st'.h.get:=fun st' Q c m r h=>by
  obtain⟨ro,e,vs,ms,h2,h3⟩:=hR c m r h;exact⟨ro,e,vs,ms,by rw[Q.JB c (Nat.lt_of_not_le fun hle=>by rw[hf c hle]at h2;cases h2) (hRm c m r h)];exact h2,h3⟩
 rcases Z9 hc with⟨hat,rfl⟩|⟨rfl,x,rfl,hcx⟩|⟨rfl,x,y,rfl,hcx,hcy⟩|⟨rfl,x,rfl,hk5,hcx⟩
 ·obtain⟨v,st',h1,h2,q⟩:=uX hf hR hK hRm hm hl hk6 (a:=a) (b:=b) (g:=g) (n:=n) hat;have hc0:=hc;obtain⟨_,an,bn,gn,nn,rfl,rfl,rfl,rfl,b1,b2,b3,b4⟩:=KH hat hc Qc;have Q:US (fun c=>c=mp) st st':=⟨q.fresh,q.le,fun c hc _=>q.JB c hc⟩
  have hne:o≠[110,111,116]∧o≠[97,110,100]∧o≠[101,120]:=by rcases hat with rfl|rfl|rfl|rfl|rfl|rfl|rfl|rfl|rfl|rfl|rfl<;>simp
  obtain⟨v2,st2,j1,j2,j3⟩:=qd q.fresh (hin _ Q) hr hat b4 b1 b2 b3 hk6 (by rw[XZ];exact hsz) hc0 (ks:=.nils);refine⟨v,st',h1,.inl ⟨.nils,0,_,h2,rfl,Nat.zero_le _,?_,fun r m hJ hlm=>?_,fun m t hA=>?_,v2,st2,j1,j2,j3⟩,Q⟩
  ·exact hm.frame (q.JB mp (hm.lt hf))
  ·rw[Nat.zero_add];exact .atom hne.1 hne.2.1 hne.2.2 (hlm.trans hJ.like hJ.tr.symm)
  ·cases hA with
   |atom _ _ _ h=>exact⟨m,h⟩
 ·obtain⟨v,st',h1,h2,Q⟩:=RE hf hR hK hRm hm hl hk6 (ih x Q7) (by rw[Zf,Zf]at hsz;omega) hk6 hcx (a:=a) (b:=b) (g:=g) (n:=n);refine⟨v,st',h1,?_,Q⟩;rcases h2 with⟨ks,dp,F,m,s,rfl,a1,a2,a3,a4,a5,a6,a7⟩|⟨rfl,hno⟩
  ·obtain⟨v2,st2,j1,j2,j3⟩:=RH Q.fresh hkc a2 a3 (a:=a) (b:=b) (g:=g) (n:=n) (k:=k);exact .inl ⟨ks,s,fun r=>r=m.neg,rfl,a1,a6,a7,fun r m' hJ hlm=>by subst hJ;exact .not rfl a5 hlm,fun m' t hA=>⟨_,rfl⟩,v2,st2,j1,j2,j3⟩
  ·refine .inr ⟨rfl,fun m t hA=>?_⟩
   cases hA with
   |not ho hx h=>have:=hno _ _ hx;omega
   |ex ho=>cases ho
 ·obtain⟨v,st',h1,h2,Q⟩:=RF hf hR hK hRm hm hl hk6 (ih x Q7) (by rw[Zf,Zf,Zf]at hsz;omega) (ih y Q7) (by rw[Zf,Zf,Zf]at hsz;omega) hcx hcy (a:=a) (b:=b) (g:=g) (n:=n);refine⟨v,st',h1,?_,Q⟩;rcases h2 with⟨ks,dp,F,m,s,dq,F',m',t,rfl,a1,a2,a3,a4,a5,a6,a7,a8⟩|⟨rfl,hno⟩
  ·obtain⟨v2,st2,j1,j2,j3⟩:=RI Q.fresh hkc a2 a3 a4 (a6.tr.trans a5.tr.symm) (a:=a) (b:=b) (g:=g) (n:=n) (k:=k);refine .inl ⟨ks,s+t,_,rfl,a1,a7,by rw[show lf-(s+t)=lf-s-t by omega];exact a8,fun r m' hJ hlm=>?_,fun m' t hA=>?_,v2,st2,j1,j2,j3⟩
   ·obtain⟨lp,hJ⟩:=hJ;exact .and rfl a5 a6 hJ hlm
   ·cases hA with
    |and _ hx hy hb h=>
     obtain⟨rfl,_⟩:=a5.uniq hx;obtain⟨rfl,_⟩:=a6.uniq hy;exact⟨_,_,hb⟩
  ·refine .inr ⟨rfl,fun m t hA=>?_⟩
   cases hA with
   |and ho hx hy hb h=>have:=hno _ _ _ _ hx hy;omega
 ·obtain⟨v,st',h1,h2,Q⟩:=MZ hf hR hK hRm hm hl hk6 (ih x Q7) (by rw[Zf,Zf]at hsz;omega) Qc hcx (a:=a) (b:=b) (g:=g) (n:=n);refine⟨v,st',h1,?_,Q⟩;rcases h2 with⟨ks,dp,F,m,s,rfl,a1,a2,a3,a4,a5,a6,a7⟩|⟨rfl,hno⟩
  ·obtain⟨v2,st2,j1,j2,j3⟩:=qc Q.fresh hkc a2 a3 a5.tr (a:=a) (b:=b) (g:=g) (n:=n) (k:=k);refine .inl ⟨ks,s,_,rfl,a1,a6,a7,fun r m' hJ hlm=>?_,fun m' t hA=>?_,v2,st2,j1,j2,j3⟩
   ·obtain⟨acc,L,b1,b2,b3⟩:=hJ;exact .ex rfl a5 b1 b2 b3 hlm
   ·cases hA with
    |not ho=>cases ho
    |ex _ hx hc hm ht h=>
     obtain⟨rfl,_⟩:=a5.uniq hx;exact⟨_,_,_,hc,hm,ht⟩
  ·refine .inr ⟨rfl,fun m t hA=>?_⟩
   cases hA with
   |not ho=>cases ho
   |ex ho hx hc hm ht h=>have:=hno _ _ hx;omega

theorem Sg(hf:Qi st)(hR:Y8 R st.h.get)(hr:ZO R (.mk o a b g n l) cs)(ih: ∀y∈l,KO y)(hRm: ∀c m r,R c m r→c≠mp)(hm:Qy st.h.get mp 0 [iN lf,.bool false])(hl:lf≤9223372036854775807)(hk6:k≤6)(hc:QX (.mk o a b g n l) ((k:Nat):Int)=true)(hsz:XZ (.mk o a b g n l)≤2000): ∃v st',Jh 54 [.agg cs,iN k,.ptr mp 0 0] st v st'∧Iz st st' (.mk o a b g n l) k mp lf v∧US (fun c=>c=mp) st st':=by
 have hr0:=hr;obtain⟨kc,ls,rfl,hK⟩:=hr.U5;have hln:=hK.ln;have hbn:=hK.Wv;have B:=Qk.UN (o:=Yt mp lf false) hf hm (fun c hc=>(show c=mp from hc)▸hm.lt hf);refine JA Tryz.func54 Tryz.ntmps54 fun T K=>?_;have M:=B.mem;refine Qb 0 K M fun _ K=>?_;refine Ju K M rfl (Qa rfl (Qa rfl (Qa rfl (Qa rfl (Qa rfl (Qa hK.cell Q4)))))) Q9 fun c3 _ _ K M=>?_;refine Qb 5 K M fun _ K=>?_;replace B:=B.step M;obtain⟨v15,st15,ev15,hko,QB⟩:=uW B.fresh (fun c m r hr=>B.UI hf (hR c m r hr) (hRm c m r hr)) hr0 ih hRm (show Qy _ mp 0 [iN lf,.bool false]from B.at_ (k:=0) rfl) hl hk6 hc hsz;refine p1 K (Qg rfl ev15) fun _ K=>?_;obtain⟨ks,ev,rfl,hksc,hd⟩:=hko.ex;replace B:=B.call (k:=0) (o':=Hl mp) rfl QB trivial (UD fun c hc=>Nat.lt_of_lt_of_le (B.Y4 (k:=0) rfl c hc) QB.le);have M:=B.mem;refine Qb 7 K M fun _ K=>?_;refine Qp (K.QG rfl) (fun h19=>?_) (fun h19=>?_)
 ·have hb19:=h19
  replace h19: ¬(ev=0):=by first|exact of_decide_eq_false h19|exact yF h19|simpa using h19
  refine Qb 3 K M ?_;obtain⟨rfl,hno⟩:=hd.resolve_left (fun h=>h19 h.1);exact⟨.inr ⟨rfl,hno⟩,(B.step M).JN⟩
 have hb19:=h19
 replace h19:(ev=0):=by first|exact of_decide_eq_true h19|exact yT h19|simpa using h19
 refine Qb 0 K M fun _ K=>?_;obtain⟨rfl,sk,J,hsl,hmr,hJ1,hJ2,hjo⟩:=hd.resolve_right (fun h=>by have:=h.1;omega);replace B:=(B.step M).view (k:=0) (o':=Yt mp (lf-sk) false) rfl hmr (fun c hc=>hc);have M:=B.mem;refine Qb 3 K M fun _ K=>?_;obtain⟨v25,st25,ev25,hJo,q25⟩:=hjo;refine p1 K (Qg rfl ev25) fun _ K=>?_;obtain⟨xv,ev2,rfl,hxc,hdj⟩:=hJo.ex;replace B:=(B.step M).quiet q25;have M:=B.mem;refine Qb 7 K M fun _ K=>?_;refine Qp (K.QG rfl) (fun h29=>?_) (fun h29=>?_)
 ·have hb29:=h29
  replace h29: ¬(ev2=0):=by first|exact of_decide_eq_false h29|exact yF h29|simpa using h29
  refine Qb 3 K M ?_;obtain⟨rfl,rfl,hno⟩:=hdj.resolve_left (fun h=>h29 h.1);exact⟨.inr ⟨rfl,fun m t hA=>by obtain⟨r,hr⟩:=hJ2 m t hA;exact absurd hr (hno r)⟩,(B.step M).JN⟩
 have hb29:=h29
 replace h29:(ev2=0):=by first|exact of_decide_eq_true h29|exact yT h29|simpa using h29
 refine Qb 0 K M fun _ K=>?_;obtain⟨rfl,dp1,F1,r,rfl,hJr,hD1,nf1⟩:=hdj.resolve_right (fun h=>by have:=h.1;omega);refine Qb 1 K M fun _ K=>?_;obtain⟨v33,st33,ev33,dp2,F2,m,rfl,hlm,hD2,nf2,q33⟩:=T4 M.fresh hD1;refine p1 K (Qg rfl ev33) fun _ K=>?_;replace B:=(B.step M).new (o:=Ip F2 dp2 m) q33 hD2.at_ nf2;have hmn:m.n≤400:=hlm.canon.wf.most;have M:=B.mem;refine Qb 7 K M fun _ K=>?_;refine Qp (K.QG rfl) (fun h37=>?_) (fun h37=>?_)
 ·have hb37:=h37
  replace h37: ¬(0=0):=by first|exact of_decide_eq_false h37|exact yF h37|simpa using h37
  exfalso;omega
 have hb37:=h37
 replace h37:(0=0):=by first|exact of_decide_eq_true h37|exact yT h37|simpa using h37
 refine Qb 2 K M fun _ K=>?_;refine oQ K M (GU M.fresh ((B.step M).ja (k:=0) rfl)) rfl rfl fun _ _ K M=>?_;replace B:=B.step M;obtain⟨v42,st42,ev42,rfl,hm3,Q3⟩:=GA B.fresh (show Qy _ mp 0 [iZ (lf-sk:Nat),.bool false]from B.at_ (k:=1) rfl) Qc m.n Qc;refine p1 K (Qg rfl ev42) fun _ K=>?_;replace B:=B.call (k:=1) (o':=Yt mp (UQ (lf-sk) false m.n) (Zu (lf-sk) false m.n)) rfl Q3 hm3 (UD fun c hc=>Nat.lt_of_lt_of_le (B.Y4 (k:=1) rfl c hc) Q3.le);have M:=B.mem;refine Qb 1 K M fun _ K=>?_;refine Qp (K.QG rfl) (fun h43=>?_) (fun h43=>?_)
 ·have hb43:=h43
  replace h43:((BV (lf-sk) false m.n))=false:=by simpa using h43
  refine Qb 2 K M ?_
  have hlt:lf-sk<m.n:=by simpa [BV]using h43
  have hA:=hJ1 r m hJr hlm;exact⟨.inr ⟨rfl,fun m' t h=>by obtain⟨_,rfl⟩:=hA.uniq h;omega⟩,(B.step M).JN⟩
 have hb43:=h43
 replace h43:((BV (lf-sk) false m.n))=true:=by simpa using h43
 refine Qb 3 K M ?_
 have hle:m.n≤lf-sk:=by simpa [BV]using h43
 have hA:=hJ1 r m hJr hlm;refine⟨.inl ⟨dp2,F2,m,sk+m.n,rfl,hA,by omega,(B.step M).ja (k:=0) rfl,(B.step M).uz (k:=0) (j:=1) rfl rfl Q9 rfl,?_⟩,(B.step M).JN⟩;have hrow:Qy _ mp 0 [iZ (UQ (lf-sk) false m.n:Nat),.bool (Zu (lf-sk) false m.n)]:=(B.step M).at_ (k:=1) rfl;rw[GB,HS hle,show lf-sk-m.n=lf-(sk+m.n) by omega]at hrow;exact hrow

theorem yO(x:Cr):KO x:=E7 (M:=KO) (fun o a b g n l ih k R st cs mp lf hf hR hr hRm hm hl hk6 hc hsz=>Sg hf hR hr ih hRm hm hl hk6 hc hsz) x

theorem Oj(hf:Qi st)(hR:Y8 R st.h.get)(hr:ZO R (.mk o a b g n l) cs)(hRm: ∀c m r,R c m r→c≠mp)(hm:Qy st.h.get mp 0 [iN lf,.bool false])(hl:lf≤9223372036854775807)(hk6:k≤6)(hc:QX (.mk o a b g n l) ((k:Nat):Int)=true)(hsz:XZ (.mk o a b g n l)≤2000): ∃v st',Jh 20 [.agg cs,iN k,.ptr mp 0 0] st v st'∧Iz st st' (.mk o a b g n l) k mp lf v∧US (fun c=>c=mp) st st':=by
 have hr0:=hr;obtain⟨kc,ls,rfl,hK⟩:=hr.U5;have hln:=hK.ln;have hbn:=hK.Wv;have B:=Qk.UN (o:=Yt mp lf false) hf hm (fun c hc=>(show c=mp from hc)▸hm.lt hf);refine JA Tryz.func20 Tryz.ntmps20 fun T K=>?_;have M:=B.mem;refine Qb 0 K M fun _ K=>?_;refine Ju K M rfl (Qa rfl (Qa rfl (Qa rfl (Qa rfl (Qa rfl (Qa hK.cell Q4)))))) Q9 fun c3 _ _ K M=>?_;refine Qb 4 K M fun _ K=>?_;refine oQ K M (TO M.fresh (fun c m r hr=>(B.step M).UI hf (hR c m r hr) (hRm c m r hr)) hr0 (m:=((k:Nat):Int)) Qc Qc hsz hc) rfl rfl fun _ _ K M=>?_;refine Qb 5 K M fun _ K=>?_;replace B:=B.step M;obtain⟨v15,st15,ev15,hco,QB⟩:=yO _ k R _ _ mp lf B.fresh (fun c m r hr=>B.UI hf (hR c m r hr) (hRm c m r hr)) hr0 hRm (show Qy _ mp 0 [iN lf,.bool false]from B.at_ (k:=0) rfl) hl hk6 hc hsz;refine p1 K (Qg rfl ev15) fun _ K=>?_;obtain⟨xv,ev,rfl,hxc,hd⟩:=hco.ex;have hle0:=B.le;replace B:=B.call (k:=0) (o':=Hl mp) rfl QB trivial (UD fun c hc=>Nat.lt_of_lt_of_le (B.Y4 (k:=0) rfl c hc) QB.le);have M:=B.mem;refine Qb 4 K M ?_;refine⟨?_,(B.step M).JN⟩;rcases hd with⟨rfl,dp,F,m,t,rfl,h2,h3,h4,h5,h6⟩|⟨rfl,rfl,h2⟩
 ·exact .inl ⟨dp,F,m,t,rfl,h2,h3,h4,fun c hc=>⟨Nat.le_trans hle0 (h5 c hc).1,(h5 c hc).2⟩,h6⟩
 ·exact .inr ⟨rfl,h2⟩
end
section
open Go Go.RowKit
variable {E O:Bool} {cp mp:Nat} {ka kn:AV} {m:Au} {st:St}

def Xh(h:Hp)(F:Fp)(m:Au)(ka kn:AV):Prop:= ∃ls,∀h':Hp,(∀c,F c→h' c=h c)→Jj h' [] 1 (bC m.acc) ka∧O6 h' m.nx kn ls
theorem Xh.frame{h h':Hp}{F:Fp}(e: ∀c,F c→h' c=h c)(H:Xh h F m ka kn):Xh h' F m ka kn:=by
 obtain⟨ls,H⟩:=H;exact⟨ls,fun h2 e2=>H h2 fun c hc=>(e2 c hc).trans (e c hc)⟩
def FK(F:Fp)(b:Bool)(m:Au)(ka kn:AV):Ob:=⟨F,fun h=>b=false→Xh h F m ka kn,fun _ _ e H hb=>(H hb).frame e⟩
theorem AK.fB{st':St}{v:AV}(h:AK st st' m v)(hf:Qi st'): ∃ka kn F,v=.agg [.int .i64 (m.tr:Nat),ka,kn]∧Xh st'.h.get F m ka kn∧ZQ st st' F∧Qs ka=true∧Qs kn=true:=by
 obtain⟨ka,kn,vs,A,F,h1,h2,h3,h4,h5,h6⟩:=h;refine⟨ka,kn,fun c=>F c∨ ∃m l,(c,m,l)∈A,h1,⟨vs.map fun v=>[v],fun h' e=>⟨?_,(h3.frame fun c hc=>e c (.inl hc)).r⟩⟩,fun c hc=>?_,h2.cell,h3.rd.cell⟩
 ·exact Ya.rd (F:=fun _=>True) ⟨A,h2,fun c m l hm=>⟨(h6 c m l hm).1.frame (e c (.inr ⟨m,l,hm⟩)),trivial⟩⟩
 ·rcases hc with hc|⟨m,l,hm⟩
  ·exact h4 c hc
  ·exact⟨(h6 c m l hm).2.1,(h6 c m l hm).1.lt hf⟩
def Iu(cp mp:Nat)(E O:Bool)(lf:Nat):Ob:=⟨fun c=>c=cp∨c=mp,fun h=>Qy h cp 0 [.ptr mp 0 0,.bool E,.bool O]∧((E||O)=false→Qy h mp 0 [.int .i64 (lf:Nat),.bool false]),fun _ _ e H=>⟨H.1.frame (e cp (.inl rfl)),fun h=>(H.2 h).frame (e mp (.inr rfl))⟩⟩
theorem Qk.Sw{st0:St}{X0:Fp}{M:QS}{Os:List Ob}{F:Fp}{l:Nat}{o:Bool}(B:Qk st0 X0 st M Os){j k:Nat}(hj:Os[j]? =some (FK F false m ka kn))(hk:Os[k]? =some (Yt mp l o))(hne:j≠k): ∃ls,KP st mp m ka kn ls:=by
 obtain⟨ls,H⟩:=(show Xh st.h.get F m ka kn from B.at_ hj rfl);exact⟨ls,fun h' e=>H h' fun c hc=>e c (B.Y4 hj c hc) fun h=>B.J3 hj hk hne c hc h⟩
theorem uv(hf:Qi st)(hA:Jj st.h.get [] 1 (bC m.acc) ka)(hnc:Qs kn=true)(hml:m.acc.length≤1000): ∃v st',Jh 99 [.agg [iZ (m.tr:Nat),ka,kn]] st v st'∧ ∃ka2,v=.agg [iZ (m.tr:Nat),ka2,kn]∧EA st st' 1 ka2 (bC m.neg.acc)∧Qt st st':=by
 have hac:=hA.cell;refine JA Tryz.func99 Tryz.ntmps99 fun T K=>?_;have M:=Mem.start hf;refine Qb 0 K M fun _ K=>?_;refine Ju K M rfl (Qa rfl (Qa hA.cell (Qa hnc Q4))) Q9 fun c1 _ _ K M=>?_;refine au 4 K M ?_;intro c2 _ _ K _ M;refine p1 K (Qf rfl (M.load (k:=1) rfl (Qd Q8 rfl))) fun _ K=>p1 K (WJ VT rfl ((Fe rfl rfl rfl).trans ((JD rfl hnc rfl).trans rfl))) fun _ K=>?_;refine au 1 K M ?_;intro c3 _ _ K _ M;refine QW (k:=0) K M rfl rfl rfl QA rfl (Qa rfl (Qa rfl (Qa hnc Q4))) rfl fun _ M=>?_;refine Qb 1 K M fun _ K=>?_;refine QY (fun mm1 T st9=> ∃(i:Nat) (k2:AV) (A:UA),mm1=m.acc.length-i∧QT [(1,.ptr c1 0 0),(2,.ptr c2 0 0),(3,.ptr c3 0 0),(4,iN i)] T∧Mem st.h.get st.n [] st9 ((c3,0,[iZ (m.tr:Nat),k2,kn])::(c2,0,[iZ 0,.nils,.nils])::(c1,0,[iZ (m.tr:Nat),ka,kn])::(A++[]))∧i≤m.acc.length∧Acc st.n 1 A k2 (bC ((m.acc.take i).map (!·)))) (fun mm1 T st9 hI=>?_) _ _ _ ⟨0,.nils,[],rfl,(K.sub rfl),M.less (.refl _),(Nat.zero_le _),.none⟩;obtain⟨i,k2,A,rfl,K,M,hi,hA2⟩:=hI;refine Qb 3 K M fun _ K=>?_;refine p1 K (Q5 Yc rfl rfl (hA.len.trans (congrArg some (Uq _)))) fun _ K=>?_;refine Qb 1 K M fun _ K=>?_;refine Jy K rfl (fun h14=>?_) fun h14=>?_
 ·refine Qb 0 K M fun _ K=>?_;refine QC (l:=[(0,0),(1,0),(2,0),(3,0),(4,0),(5,0),(6,0),(7,0),(8,0),(9,0),(10,0),(11,0)]) (by kernel_rfl) ?_;refine Jo 5 K M fun _ K=>?_;obtain⟨y22,hi22⟩:=Uw m.acc i Qc;refine dI rfl rfl (Jj.mem M hA Q7) (Ww hi22) K J5 J7 rfl rfl rfl fun _ _ _ _ K=>?_;refine q1 rfl K (Nt rfl) fun _ K=>?_;refine XY rfl K M J4 Vd rfl rfl rfl rfl rfl fun c25 _ _ K M=>?_;refine Bm (k2:=0) (L:=[(c25,0,[.bool (!(y22))]),(c3,0,[iZ (m.tr:Nat),k2,kn]),(c2,0,[iZ 0,.nils,.nils]),(c1,0,[iZ (m.tr:Nat),ka,kn])]) (A:=A) (B:=[]) rfl K M hA2 J4 rfl rfl rfl rfl (by rw[Uq,List.length_map,List.length_take];omega) rfl fun ks26 A26 _ _ K hA26 M=>?_;refine Jo 1 K M fun _ K=>?_;refine YG (k:=1) rfl K M rfl rfl rfl UH (hA26.cell) rfl fun _ M=>?_;refine QF ?_;show W _ _ _ _ _ _ _;refine Qb 3 K M fun _ K=>?_;exact⟨_,Qc,i+1,ks26,A26,rfl,(K.sub rfl),M.less (.cons _ (.refl _)),Qc,(by rw[List.take_add_one,hi22,List.map_append,XS];exact hA26)⟩
 refine QM ?_;show W _ _ _ _ _ _ _;refine Qb 1 K M fun _ K=>?_;refine QW (k:=1) K M rfl rfl rfl QA rfl (Qa rfl (Qa hA2.cell (Qa hnc Q4))) rfl fun _ M=>?_;refine Qb 0 K M ?_;rw[List.take_of_length_le Qc]at hA2;exact⟨_,rfl,Mem.BO (L:=[(c3,0,[iZ (m.tr:Nat),k2,kn]),(c2,0,[iZ (m.tr:Nat),k2,kn]),(c1,0,[iZ (m.tr:Nat),ka,kn])]) (A:=A) (B:=[]) M hA2,M.qt⟩

theorem GJ(hf:Qi st): ∃v st',Jh 100 [] st v st'∧ ∃mp,v=.ptr mp 0 0∧st.n≤mp∧Qy st'.h.get mp 0 [iZ ((1099511627776:Nat):Int),.bool false]∧Qt st st':=by
 refine JA Tryz.func100 Tryz.ntmps100 fun T K=>?_;have M:=Mem.start hf;refine Qb 1 K M fun _ K=>?_;obtain⟨v1,st1,ev1,mp,rfl,hmp,hmr,q1⟩:=Dp M.fresh 1099511627776;refine p1 K (Qg rfl ev1) fun _ K=>?_;have hle0:=M.le;have hmr0:=hmr;refine p1 K (JW rfl) fun _ K=>XM ?_;show W _ _ _ _ _ _ _;refine Jw ⟨.inr rfl,_,iq K rfl,?_⟩;exact⟨mp,rfl,hmp,hmr,q1⟩

theorem MW(hf:Qi st)(hr:Qy st.h.get cp 0 [.ptr mp 0 0,.bool E,.bool O]){a:Au}(wf:Zs a){ls:List (List AV)}(hac:Qs ka=true)(hnc:Qs kn=true)(hAN:KP st cp a ka kn ls): ∃v st',Jh 98 [.ptr cp 0 0,.agg [iZ (a.tr:Nat),ka,kn],iZ (((0:Nat):Int))] st v st'∧ ∃t2 ka2 kn2 E2 O2 F m,v=.agg [iZ t2,ka2,kn2]∧Qs ka2=true∧Qs kn2=true∧Qy st'.h.get cp 0 [.ptr mp 0 0,.bool E2,.bool O2]∧ZQ st st' F∧((E2||O2)=false→(E||O)=false∧JS a m∧Xh st'.h.get F m ka2 kn2∧t2=((m.tr:Nat):Int))∧US (fun c=>c=cp) st st':=by
 have B:=Qk.H8 hf hr;refine JA Tryz.func98 Tryz.ntmps98 fun T K=>?_;have M:=B.mem;refine au 4 K M ?_;intro c4 c6 _ _ K _ M;refine Qp (K.QG rfl) (fun h9=>?_) (fun h9=>?_)
 ·have hb9:=h9
  replace h9: ¬(((0:Nat):Int)=0):=by first|exact of_decide_eq_false h9|exact yF h9|simpa using h9
  exfalso;omega
 have hb9:=h9
 replace h9:(((0:Nat):Int)=0):=by first|exact of_decide_eq_true h9|exact yT h9|simpa using h9
 refine Qb 1 K M fun _ K=>?_;replace B:=B.step M;obtain⟨v15,st15,ev15,cl9,l9,m,hcls,htr9,hmd,nau,q15⟩:=uA B.fresh wf (hAN _ fun c h1 h2=>B.JB c h1 h2).1 (hAN _ fun c h1 h2=>B.JB c h1 h2).2;refine p1 K (Qg rfl ev15) fun _ K=>?_;obtain⟨kam,km,Fm,rfl,hau,hnf,hkam,hkm⟩:=nau.fB q15.fresh;have hlm:=GD wf hcls htr9 hmd
 have hkal:YE kam=some m.acc.length:=by obtain⟨_,H⟩:=hau;rw[(H _ fun _ _=>rfl).1.len,Uq]
 replace B:=B.new (o:=FK Fm false m kam km) q15 (fun _=>hau) hnf;have M:=B.mem;refine au 1 K M ?_;intro c7 _ _ K _ M;refine QW (k:=0) K M rfl rfl rfl QA rfl (Qa rfl (Qa hkam (Qa hkm Q4))) rfl fun _ M=>?_;refine Qb 2 K M fun _ K=>?_;refine p1 K (Q5 Yc rfl rfl hkal) fun _ K=>?_;refine Qb 1 K M fun _ K=>?_;refine Jy K rfl (fun h19=>?_) fun h19=>?_
 ·refine au 5 K M ?_;intro _ _ K _ M;refine QW (k:=1) K M rfl rfl rfl QA rfl (Qa rfl (Qa hkam (Qa hkm Q4))) rfl fun _ M=>?_;refine Qb 0 K M ?_;replace B:=B.step M;refine⟨_,kam,km,E,_,Fm,m,rfl,hkam,hkm,M.Yb (k:=3) rfl,fun c hc=>⟨(B.Lx (k:=0) rfl c hc).resolve_right fun e=>B.djM _ (List.mem_cons_self ..) cp 0 _ (List.mem_of_getElem? (i:=3) rfl) (e▸hc),B.Y4 (k:=0) rfl c hc⟩,fun he=>?_,B.JN⟩;refine⟨?_,hlm,B.at_ (k:=0) rfl rfl,rfl⟩
  first|exact he|(simp at he)
 refine Qb 1 K M fun _ K=>?_;refine QW (k:=1) K M rfl rfl rfl QA rfl (Qa rfl (Qa hkam (Qa hkm Q4))) rfl fun _ M=>?_;refine Qb 0 K M ?_;replace B:=B.step M;refine⟨_,kam,km,E,_,Fm,m,rfl,hkam,hkm,M.Yb (k:=3) rfl,fun c hc=>⟨(B.Lx (k:=0) rfl c hc).resolve_right fun e=>B.djM _ (List.mem_cons_self ..) cp 0 _ (List.mem_of_getElem? (i:=3) rfl) (e▸hc),B.Y4 (k:=0) rfl c hc⟩,fun he=>?_,B.JN⟩;refine⟨?_,hlm,B.at_ (k:=0) rfl rfl,rfl⟩
 first|exact he|(simp at he)

theorem MV(hf:Qi st)(hr:Qy st.h.get cp 0 [.ptr mp 0 0,.bool E,.bool O]){t:Int}(hac:Qs ka=true)(hnc:Qs kn=true): ∃v st',Jh 98 [.ptr cp 0 0,.agg [iZ t,ka,kn],iZ (((8:Nat):Int))] st v st'∧v=.agg [iZ 0,.nils,.nils]∧Qy st'.h.get cp 0 [.ptr mp 0 0,.bool true,.bool O]∧US (fun c=>c=cp) st st':=by
 have B:=Qk.H8 hf hr;refine JA Tryz.func98 Tryz.ntmps98 fun T K=>?_;have M:=B.mem;refine au 4 K M ?_;intro c4 c6 _ _ K _ M;refine Qp (K.QG rfl) (fun h9=>?_) (fun h9=>?_)
 ·have hb9:=h9
  replace h9: ¬(((8:Nat):Int)=0):=by first|exact of_decide_eq_false h9|exact yF h9|simpa using h9
  refine au 6 K M ?_;intro _ _ K _ M;refine Qb 0 K M ?_;replace B:=B.step M;exact⟨rfl,M.Yb (k:=2) rfl,B.JN⟩
 have hb9:=h9
 replace h9:(((8:Nat):Int)=0):=by first|exact of_decide_eq_true h9|exact yT h9|simpa using h9
 exfalso;omega

theorem IK(hf:Qi st){eb:Bool}{ev:Int}(hev:ev=if eb then 8 else 0)(hr:Qy st.h.get cp 0 [.ptr mp 0 0,.bool E,.bool O]){a:Au}{t:Int}(hac:Qs ka=true)(hnc:Qs kn=true)(hok:eb=false→t=((a.tr:Nat):Int)∧Zs a∧ ∃ls,KP st cp a ka kn ls): ∃v st',Jh 98 [.ptr cp 0 0,.agg [.int .i64 t,ka,kn],.int .i64 ev] st v st'∧ ∃t2 ka2 kn2 E2 O2 F m,v=.agg [.int .i64 t2,ka2,kn2]∧Qs ka2=true∧Qs kn2=true∧Qy st'.h.get cp 0 [.ptr mp 0 0,.bool E2,.bool O2]∧ZQ st st' F∧((E2||O2)=false→eb=false∧(E||O)=false∧JS a m∧Xh st'.h.get F m ka2 kn2∧t2=((m.tr:Nat):Int))∧US (fun c=>c=cp) st st':=by
 subst hev
 cases eb with
 |false=>
  obtain⟨rfl,wf,ls,hAN⟩:=hok rfl;obtain⟨v,st',h1,t2,ka2,kn2,E2,O2,F,m,h2,h3,h4,h5,h6,h7,h8⟩:=MW hf hr wf hac hnc hAN;exact⟨v,st',h1,t2,ka2,kn2,E2,O2,F,m,h2,h3,h4,h5,h6,fun h=>⟨rfl,h7 h⟩,h8⟩
 |true=>
  obtain⟨v,st',h1,h2,h3,h4⟩:=MV hf hr (t:=t) hac hnc;exact⟨v,st',h1,0,.nils,.nils,true,O,Xi,a,h2,rfl,rfl,h3,fun c hc=>hc.elim,fun h=>by simp at h,h4⟩
end
end Go.Proofs.YtiknomepbklibaaGreatDoor
