/-
  Both of two automata, and not: the program's.
-/
import Derived.Test.YtiknomepbklibaaGreatDoorCeR20B
import Derived.Test.YtiknomepbklibaaGreatDoorCeEnt
namespace Go.Proofs.YtiknomepbklibaaGreatDoor
open Go Go.RowKit
set_option maxHeartbeats 8000000
set_option linter.unusedVariables false
set_option linter.unusedSimpArgs false
set_option linter.unnecessarySimpa false
set_option maxRecDepth 100000

structure KU(h:Hp)(F:Fp)(xp cm mp:Nat)(kl:AV)(lp:List (Nat×Nat))(l:Nat):Prop where
 acc:UU h F 2 kl (KF lp)
 map:(VY cm Xg (UR 0 lp)).H h
 met:(Yl mp l false).H h
 row:Q4 h xp 0 [.mp cm,kl,.ptr mp 0 0]
 d1: ¬F xp
 d2: ¬F cm
 d3: ¬F mp
 d4:xp≠cm
 d5:xp≠mp
 d6:cm≠mp
def P5(F:Fp)(xp cm mp:Nat):Fp:=fun c=>F c∨c=cm∨c=mp∨c=xp
section
variable {st0 st st':St} {X0 F F':Fp} {M A:QT} {Os:List Ob} {xp cm mp l l':Nat} {kl kl':AV} {lp lp':List (Nat×Nat)}
theorem KU.frame{h h':Hp}(e: ∀c,P5 F xp cm mp c→h' c=h c)(H:KU h F xp cm mp kl lp l):KU h' F xp cm mp kl lp l:=
 ⟨(Wk F 2 kl (KF lp)).fr _ _ (fun c hc=>e c (.inl hc)) H.acc,(VY cm Xg (UR 0 lp)).fr _ _ (fun c hc=>e c (.inr (.inl hc))) H.map,(Yl mp l false).fr _ _ (fun c hc=>e c (.inr (.inr (.inl hc)))) H.met,H.row.frame (e xp (.inr (.inr (.inr rfl)))),H.d1,H.d2,H.d3,H.d4,H.d5,H.d6⟩
def eT(F:Fp)(xp cm mp:Nat)(kl:AV)(lp:List (Nat×Nat))(l:Nat):Ob:=⟨P5 F xp cm mp,fun h=>KU h F xp cm mp kl lp l,fun _ _ e H=>H.frame e⟩
theorem Qk.zr(hf:Qj st)(H:KU st.h.get F xp cm mp kl lp l)(hi: ∀c,P5 F xp cm mp c→c<st.n):Qk st (P5 F xp cm mp) st [(xp,0,[.mp cm,kl,.ptr mp 0 0])] [Wk F 2 kl (KF lp),VY cm Xg (UR 0 lp),Yl mp l false]:=by
 refine⟨hf,Nat.le_refl _,fun c m x h=>?_,by simp,fun c m x h=>?_,fun o h=>?_,fun o h c hc=>?_,?_,fun o h c m x hm hc=>?_,fun _ _ _=>rfl⟩
 ·simp at h;obtain⟨rfl,rfl,rfl⟩:=h;exact H.row
 ·simp at h;obtain⟨rfl,rfl,rfl⟩:=h;exact .inr (.inr (.inr (.inr rfl)))
 ·simp at h;rcases h with rfl|rfl|rfl
  ·exact H.acc
  ·exact H.map
  ·exact H.met
 ·simp at h;rcases h with rfl|rfl|rfl
  ·exact⟨hi c (.inl hc),.inr (.inl hc)⟩
  ·exact⟨hi c (.inr (.inl hc)),.inr (.inr (.inl hc))⟩
  ·exact⟨hi c (.inr (.inr (.inl hc))),.inr (.inr (.inr (.inl hc)))⟩
 ·refine List.pairwise_cons.2 ⟨fun o h c h1 h2=>?_,List.pairwise_cons.2 ⟨fun o h c h1 h2=>?_,List.pairwise_singleton _ _⟩⟩
  ·simp at h;rcases h with rfl|rfl
   ·exact H.d2 ((show c=cm from h2)▸h1)
   ·exact H.d3 ((show c=mp from h2)▸h1)
  ·rw[List.mem_singleton.1 h]at h2;exact H.d6 ((show c=cm from h1).symm.trans (show c=mp from h2))
 ·simp at hm;obtain⟨rfl,rfl,rfl⟩:=hm
  simp at h;rcases h with rfl|rfl|rfl
  ·exact H.d1 hc
  ·exact H.d4 hc
  ·exact H.d5 hc
theorem Qk.uS(B:Qk st (P5 F xp cm mp) st' [(xp,0,[.mp cm,kl',.ptr mp 0 0])] [Wk F' 2 kl' (KF lp'),VY cm Xg (UR 0 lp'),Yl mp l' false]): ∃F',KU st'.h.get F' xp cm mp kl' lp' l'∧WN st st' (P5 F xp cm mp) (P5 F' xp cm mp)∧UO (P5 F xp cm mp) st st':=by
 have hp:=List.pairwise_cons.1 B.dj;have hp2:=(List.pairwise_cons.1 hp.2).1 (Yl mp l' false) Q7;have hr:=fun o ho=>B.djM o ho xp 0 _ (List.mem_singleton.2 rfl);refine⟨F',⟨B.at_ (k:=0) rfl,B.at_ (k:=1) rfl,B.at_ (k:=2) rfl,B.row _ _ _ (List.mem_singleton.2 rfl),hr (Wk F' 2 kl' (KF lp')) Q7,fun h=>hp.1 (VY cm Xg (UR 0 lp')) Q7 cm h rfl,fun h=>hp.1 (Yl mp l' false) Q7 mp h rfl,fun e=>hr (VY cm Xg (UR 0 lp')) Q7 e,fun e=>hr (Yl mp l' false) Q7 e,fun e=>hp2 cm rfl e⟩,fun c hc=>?_,B.JM⟩;rcases hc with hc|hc|hc|hc
 ·exact⟨(B.Li (k:=0) rfl c hc).symm,B.Y1 (k:=0) rfl c hc⟩
 ·exact⟨(B.Li (k:=1) rfl c hc).symm,B.Y1 (k:=1) rfl c hc⟩
 ·exact⟨(B.Li (k:=2) rfl c hc).symm,B.Y1 (k:=2) rfl c hc⟩
 ·subst hc;exact⟨.inl (.inr (.inr (.inr rfl))),(B.row c 0 _ (List.mem_singleton.2 rfl)).lt B.fresh⟩
theorem Qk.aP(B:Qk st0 X0 st ((xp,0,[.mp cm,.nils,.ptr mp 0 0])::M) (VY cm Xg []::Yl mp l false::Os)):Qk st0 X0 st M (eT Xv xp cm mp .nils [] l::Os):=by
 have d1:=B.djM (VY cm Xg []) Q7 xp 0 _ (List.mem_cons_self ..);have d2:=B.djM (Yl mp l false) Q7 xp 0 _ (List.mem_cons_self ..);have d3:=(List.pairwise_cons.1 B.dj).1 (Yl mp l false) Q7;have B1:=Qk.freeze (R:=[(xp,0,[.mp cm,.nils,.ptr mp 0 0])]) (o:=Xf [(xp,0,[.mp cm,.nils,.ptr mp 0 0])]) (M:=M) B (fun c m x h=>B.row c m x (by rw[List.mem_singleton.1 h];exact List.mem_cons_self ..)) (fun c hc=>hc)
 have B2:=B1.join (o:=⟨fun c=>c=xp∨c=cm,fun h=>Q4 h xp 0 [.mp cm,.nils,.ptr mp 0 0]∧(VY cm Xg []).H h,fun h h' e H=>⟨H.1.frame (e xp (.inl rfl)),(VY cm Xg []).fr _ _ (fun c hc=>e c (.inr hc)) H.2⟩⟩) (fun h1 h2=>⟨h1 xp 0 _ (List.mem_singleton.2 rfl),h2⟩) (fun c hc=>by
  rcases hc with hc|hc
  ·exact .inl ⟨0,_,by rw[hc];exact List.mem_singleton.2 rfl⟩
  ·exact .inr hc)
 refine B2.join (fun h1 h2=>⟨⟨[],.none,fun c m l h=>by cases h⟩,h1.2,h2,h1.1,id,id,id,fun e=>d1 e,fun e=>d2 e,fun e=>d3 cm rfl e⟩) (fun c hc=>?_);rcases hc with hc|hc|hc|hc
 ·exact hc.elim
 ·exact .inl (.inr hc)
 ·exact .inr hc
 ·exact .inl (.inl hc)
end
theorem Xo.row{h:Hp}{F:Fp}{kn:AV}{vs:List AV}{LL:List (List Int)}(H:Xo h F kn vs LL){i:Nat}{s:List Int}{w:AV}(hi:LL[i]? =some s)(hv:vs[i]? =some w):Jj h [] 1 (zC s) w:=by
 obtain⟨w',k1,k2,_⟩:=H.vs.at_ _ _ hi;rw[hv]at k1
 injection k1 with k1
 rw[k1];exact k2
def Em(b:Bool):Nat:=if b then 1 else 0
theorem Tv(b:Bool):Em b≤1:=by cases b<;>decide
theorem zn(t:Nat)(x y:Bool):PB t x y=decide (((t/2^(2 *Em x+Em y) % 2:Nat):Int)=1):=by
 rw[←Hl];cases x<;>cases y<;>rfl
theorem zO{P:Program}{G:Env}{K:List (Nat×AV)}{st:St}{t yt:TypeId}{x y:Operand}{n:Nat}(hx:QW G K x=some (.int .i64 2))(hy:QW G K y=some (.int .i64 (n:Nat)))(h1:n≤1):U0 P G K (.binOp .mul t x y yt) st (.int .i64 (2 *n:Nat)) st:=by
 rw[show((2 *n:Nat):Int)=2 *((n:Nat):Int) by omega];exact SE hx hy (IntWalk.i64_in _ Qe)
def az(st st':St)(a b:Au)(t:Nat)(v:AV):Prop:=
 (∃dp F lp m,v=.tup [.ptr dp 0 0,.int .i64 0]∧KB a b t lp m∧UT st' F dp m∧ZK st st' F)∨
 (v=.tup [.nilp,.int .i64 8]∧ ∃(lp:List (Nat×Nat)),lp.length=401∧lp.Nodup∧ ∀(Q:Nat×Nat→Prop),Q (0,0)→(∀p c,Q p→c<2^a.tr→Q (Og a b p c))→ ∀p∈lp,Q p)

theorem zJ{st:St}(hf:Qj st){F:Fp}{dp:Nat}{a:Au}(hD:UT st F dp a): ∃v st',Ev Tryz.prog Q0 107 [.ptr dp 0 0] st v st'∧ ∃dp2 F2,v=.tup [.ptr dp2 0 0,iZ 0]∧UT st' F2 dp2 a.neg∧ZK st st' F2∧Qt st st':=by
 have wf:=hD.wf;have hps:=wf.pos;have hmo:=wf.most;have hln:=wf.len;have hen:a.n=a.acc.length:=rfl;have htr:=wf.tr;have B:=Qk.start hf;refine JB Tryz.func107 Tryz.ntmps107 fun T K=>?_;have M:=B.mem;refine Qc 3 K M ?_;intro _ K;refine p1 K (Yc JX rfl rfl) fun _ K=>?_;refine Qc 2 K M ?_;intro _ K;replace B:=B.step M;obtain⟨v10,st10,ev10,nau10,q10⟩:=NH B.fresh (hD.q B.qt);refine p1 K (Qh rfl ev10) fun _ K=>?_;obtain⟨_,kn,vs,_,Fn,rfl,hAa,B⟩:=B.Kj q10 nau10;obtain⟨ca,ma,rfl,rfl⟩:=Acc.jw (f:=AV.bool) (L:=a.acc) hAa Qe;have hnc:Qu kn=true:=(B.at_ (k:=0) rfl).rd.cell;replace B:=B.cast (M':=[(ca,ma,(a.acc.map AV.bool))]) Q7;have M:=B.mem;refine au 1 K M ?_;intro c4 _ _ K _ M;refine QV (k:=0) K M rfl rfl rfl QE rfl (Qb rfl (Qb rfl (Qb hnc Q6))) rfl fun _ M=>?_;refine Qc 4 K M ?_;intro _ K;refine Jd (fun mm1 T st9=> ∃(i:Nat) (cur:List Bool),mm1=a.acc.length-i∧QX [(2,.nilp),(3,iZ 0),(4,.ptr c4 0 0),(12,.sl ca ma 0 a.acc.length 1),(13,iZ (a.acc.length:Nat)),(14,iN i)] T∧Qk st Xv st9 [(c4,0,[iZ (a.tr:Nat),.sl ca ma 0 a.acc.length 1,kn]),(ca,ma,(cur.map AV.bool))] [BM Fn kn vs a.nx]∧cur.length=a.acc.length∧(∀(j:Nat) (y:Bool),a.acc[j]? =some y→cur[j]? =some (if j<i then !y else y))∧i≤a.acc.length) (fun mm1 T st9 hI=>?_) _ _ _ ⟨0,_,rfl,(K.sub rfl),(B.step M).less (.refl _),rfl,(fun j y h=>h),(Nat.zero_le _)⟩;obtain⟨i,cur,rfl,K,B,hcl,hcu,hil⟩:=hI;have M:=B.mem;refine Qc 1 K M ?_;intro _ K;refine JN K rfl (fun h15=>?_) fun h15=>?_
 ·refine Qc 1 K M ?_;intro _ K;obtain⟨y17,hi17⟩:=U1 cur i Qe;refine p1 K (Qa (j:=i) J0 rfl rfl Qe) fun _ K=>p1 K (Qd rfl (M.load (k:=1) rfl (Qf J3 (VX AV.bool hi17)))) fun _ K=>?_;refine Qc 7 K M ?_;intro _ K;obtain⟨y24,hi24⟩:=U1 cur i Qe;refine p1 K (Qa (j:=i) J0 rfl rfl Qe) fun _ K=>?_;refine Ji (k:=1) K M rfl rfl rfl AD rfl (WX AV.bool (!(y17)) Qe) fun _ M=>?_;refine Qc 2 K M ?_;intro _ K;obtain⟨y0,hy0⟩:=U1 a.acc i Qe;have hy1:=hcu i y0 hy0;rw[if_neg Qe,hi17]at hy1
  injection hy1 with hy1
  exact⟨_,Qe,i+1,(cur.set i (!(y17))),rfl,(K.sub rfl),(B.step M).less (.refl _),(by rw[List.length_set];exact hcl),(fun j y h=>by
  rw[List.getElem?_set]
  by_cases e:i=j
  ·subst e;rw[if_pos rfl,if_pos Qe,if_pos Qe,hy1];rw[hy0]at h;injection h with h;rw[h]
  ·rw[if_neg e,hcu j y h];by_cases h2:j<i
   ·rw[if_pos h2,if_pos Qe]
   ·rw[if_neg h2,if_neg Qe]),Qe⟩
 refine QU ?_;show W _ _ _ _ _ _ _;refine Qc 1 K M ?_;intro _ K;replace B:=B.step M
 have hcur:cur=a.acc.map (!·):=by
  apply List.ext_getElem?;intro j
  by_cases hj:j<a.acc.length
  ·obtain⟨y,hy⟩: ∃x,a.acc[j]? =some x:=⟨_,List.getElem?_eq_getElem hj⟩;rw[hcu j y hy,List.getElem?_map,hy,if_pos Qe];rfl
  ·rw[List.getElem?_eq_none Qe,List.getElem?_eq_none (by rw[List.length_map];omega)]
 subst hcur;obtain⟨v27,st27,ev27,dp2,F2,rfl,hD2,nf2,q27⟩:=WM (a:=a.neg) B.fresh (jI wf) (Q4.fg (f:=AV.bool) (L:=a.acc.map (!·)) (B.row ca ma _ Q7) Qe Qe) (B.at_ (k:=0) rfl).r;refine p1 K (Qh rfl ev27) fun _ K=>?_;replace B:=B.new (o:=HU F2 dp2 a.neg) q27 hD2.at_ nf2;have M:=B.mem;refine Qc 4 K M ?_;exact⟨dp2,F2,rfl,B.MO (k:=0) rfl,(B.step M).jS (k:=0) rfl,(B.step M).qt⟩

theorem yp{st:St}(hf:Qj st)(b:Bool): ∃v st',Ev Tryz.prog Q0 137 [.bool b] st v st'∧v=iZ (Em b:Nat)∧Qt st st':=by
 refine JB Tryz.func137 Tryz.ntmps137 fun T K=>?_;have M:=Mem.start hf;refine Qc 2 K M ?_;intro _ K;refine Qq (K.QH rfl) (fun h3=>?_) (fun h3=>?_)
 ·have hb3:=h3;refine Qc 1 K M ?_;refine⟨?_,M.qt⟩
  first|(rw[show b=true by simp_all];rfl)|(rw[show b=false by simp_all];rfl)
 have hb3:=h3;refine Qc 1 K M ?_;refine⟨?_,M.qt⟩
 first|(rw[show b=true by simp_all];rfl)|(rw[show b=false by simp_all];rfl)

theorem Sv{st:St}(hf:Qj st){F:Fp}{xp cm mp:Nat}{kl:AV}{lp:List (Nat×Nat)}{l:Nat}(H:KU st.h.get F xp cm mp kl lp l)(hi: ∀c,P5 F xp cm mp c→c<st.n)(hL:lp.length≤400)(hl1:1≤l)(hl:l≤9223372036854775807)(p:Nat×Nat): ∃v st',Ev Tryz.prog Q0 136 [.ptr xp 0 0,.agg [iZ (p.1:Nat),iZ (p.2:Nat)]] st v st'∧ ∃k was lp' kl',v=.tup [iN k,.bool (decide ((lp'.length:Int)≤400))]∧Kx lp p lp' k was∧ ∃F',KU st'.h.get F' xp cm mp kl' lp' (l-(lp'.length-lp.length))∧WN st st' (P5 F xp cm mp) (P5 F' xp cm mp)∧UO (P5 F xp cm mp) st st':=by
 have B:=Qk.zr hf H hi;have hkc:=H.acc.cell;refine JB Tryz.func136 Tryz.ntmps136 fun T K=>?_;have M:=B.mem;refine au 3 K M ?_;intro c3 _ _ K _ M;refine QF (l:=[(0,0),(1,0),(2,0),(3,0),(4,0),(5,0),(6,0),(7,0),(8,0),(9,0),(10,0)]) (by kernel_rfl) ?_;refine Jn 5 K M ?_;intro _ K;refine qA rfl K (W0 (a:=p) W9 ((B.step M).at_ (k:=1) rfl) rfl rfl) fun _ K=>?_;refine Jn 5 K M ?_;intro _ K;refine QI ?_;show W _ _ _ _ _ _ _;refine Qc 1 K M ?_;intro _ K;refine Qq (K.QH rfl) (fun h18=>?_) (fun h18=>?_)
 ·have hb18:=h18;refine Qc 3 K M ?_
  obtain⟨v0,hv0⟩: ∃x,Yk (UR 0 lp) p=some x:=by cases hq:Yk (UR 0 lp) p with|none=>rw[hq]at h18;cases h18|some x=>exact⟨x,rfl⟩
  obtain⟨i,hi,rfl⟩:=Np hv0;refine⟨i,true,lp,kl,?_,.inl ⟨rfl,rfl,hi⟩,?_⟩
  ·rw[hv0,decide_eq_true (show(lp.length:Int)≤400 by omega)];rfl
  ·rw[show l-(lp.length-lp.length)=l by omega];exact((B.step M).less (.cons _ (.cons_cons _ (.refl _)))).uS
 have hb18:=h18;refine Qc 0 K M ?_;intro _ K
 have hnone:Yk (UR 0 lp) p=none:=by cases hq:Yk (UR 0 lp) p with|none=>rfl|some x=>rw[hq]at h18;cases h18
 refine Qc 4 K M ?_;intro _ K;refine p1 K (QA X2 rfl rfl ((UU.len ((B.step M).at_ (k:=0) rfl)).trans (congrArg some (Yp _)))) fun _ K=>?_;refine Qc 1 K M ?_;intro _ K;refine QF (l:=[(0,0),(1,0),(2,0),(3,0),(4,0),(5,0),(6,0)]) (by kernel_rfl) ?_;refine Jn 6 K M ?_;intro _ K;replace B:=B.step M;refine za (j:=1) (a:=p) rfl K B rfl W9 rfl rfl rfl rfl hnone fun _ B=>?_;rw[show UR 0 lp++[(p,iZ (lp.length:Nat))]=UR 0 (lp++[p]) by rw[AR,Nat.zero_add]]at B;have M:=B.mem;refine QI ?_;show W _ _ _ _ _ _ _;refine QC ?_;replace B:=B.step M;obtain⟨Al,hAl,B⟩:=B.B7
 replace B:=(B.perm List.perm_append_comm).cast (M':=((c3,0,[iZ (p.1:Nat),iZ (p.2:Nat)])::(xp,0,[.mp cm,kl,.ptr mp 0 0])::(Al++[]))) (by simp<;>rfl)
 have M:=B.mem;refine QF (l:=[(1,0),(2,0),(3,0),(4,0),(5,0),(6,0),(7,0),(0,0),(8,0),(9,0),(10,0)]) (by kernel_rfl) ?_;refine Jn 5 K M ?_;intro _ K;refine XR rfl K M EJ ZB rfl rfl rfl rfl rfl fun c37 _ _ K M=>?_;refine Xz (k2:=0) (L:=[(c37,0,[iZ (p.1:Nat),iZ (p.2:Nat)]),(c3,0,[iZ (p.1:Nat),iZ (p.2:Nat)]),(xp,0,[.mp cm,kl,.ptr mp 0 0])]) (A:=Al) (B:=[]) rfl K M hAl EJ rfl rfl rfl rfl (by rw[Yp];omega) rfl fun ks38 A38 _ _ K hA38 M=>?_;refine Jn 3 K M ?_;intro _ K;refine Zd (k:=2) rfl K M rfl rfl rfl Kb (hA38.cell) rfl fun _ M=>?_;refine QI ?_;show W _ _ _ _ _ _ _;refine QC ?_;replace B:=B.step M
 obtain⟨F2,B⟩:=Qk.V9 (M:=[(c37,0,[iZ (p.1:Nat),iZ (p.2:Nat)]),(c3,0,[iZ (p.1:Nat),iZ (p.2:Nat)]),(xp,0,[.mp cm,ks38,.ptr mp 0 0])]) (A:=A38) (ks:=ks38) (z:=2) (ls:=KF (lp++[p])) ((B.cast (M':=[(c37,0,[iZ (p.1:Nat),iZ (p.2:Nat)]),(c3,0,[iZ (p.1:Nat),iZ (p.2:Nat)]),(xp,0,[.mp cm,ks38,.ptr mp 0 0])]++A38) (by simp<;>rfl)).perm List.perm_append_comm) (by rw[Da];exact hA38)
 have M:=B.mem;refine QF (l:=[(1,0),(2,0),(3,0),(4,0),(5,0),(0,0),(6,0),(7,0),(8,0),(9,0),(10,0),(11,0),(12,0),(13,0),(14,0),(15,0)]) (by kernel_rfl) ?_;refine Jn 4 K M ?_;intro _ K;replace B:=B.step M;obtain⟨v46,st46,ev46,rfl,hm3,Q3⟩:=Nj B.fresh (show Q4 _ mp 0 [iN l,.bool false]from B.at_ (k:=2) rfl) hl 1 hl1;refine qA rfl K (Qh rfl ev46) fun _ K=>?_;replace B:=B.call (k:=2) (o':=Yl mp (l-1) false) rfl Q3 hm3 (fun c hc=>⟨.inl hc,Nat.lt_of_lt_of_le (B.Y1 (k:=2) rfl c hc) Q3.le⟩);have M:=B.mem;refine Jn 6 K M ?_;intro _ K;refine dg rfl K rfl rfl (QA X2 rfl rfl ((UU.len ((B.step M).at_ (k:=0) rfl)).trans (congrArg some (Yp _)))) rfl rfl fun _ K=>?_;refine Jn 4 K M ?_;intro _ K;refine QI ?_;show W _ _ _ _ _ _ _;refine Qc 0 K M ?_
 have e8:(lp++[p]).length=lp.length+1:=by simp
 refine⟨lp.length,false,lp++[p],ks38,rfl,.inr ⟨rfl,Nq hnone,rfl,rfl⟩,?_⟩;rw[show l-((lp++[p]).length-lp.length)=l-1 by omega];exact((B.step M).less (.cons _ (.cons _ (.cons_cons _ (.refl _))))).uS

theorem jb{st:St}(hf:Qj st){xp cm mp:Nat}{l:Nat}(H:KU st.h.get Xv xp cm mp .nils [] l)(hi: ∀c,P5 Xv xp cm mp c→c<st.n)(hl1:1≤l)(hl:l≤9223372036854775807): ∃v st',Ev Tryz.prog Q0 136 [.ptr xp 0 0,.agg [.int .i64 0,.int .i64 0]] st v st'∧
  v=.tup [.int .i64 0,.bool true]∧ ∃F' kl',KU st'.h.get F' xp cm mp kl' [(0,0)] (l-1)∧WN st st' (P5 Xv xp cm mp) (P5 F' xp cm mp)∧UO (P5 Xv xp cm mp) st st':=by
 obtain⟨v,st',h1,k,was,lp',kl',h2,h3,F',h4⟩:=Sv hf H hi QD hl1 hl (0,0);rcases h3 with⟨_,_,h⟩|⟨rfl,_,rfl,rfl⟩
 ·simp at h
 ·exact⟨v,st',h1,h2,F',kl',h4⟩

theorem TV{st:St}(hf:Qj st){FA FB:Fp}{da db:Nat}{a b:Au}(hDA:UT st FA da a)(hDB:UT st FB db b)(ht:b.tr=a.tr){t:Nat}(ht15:t≤15){mp l:Nat}(hm:Q4 st.h.get mp 0 [iN l,.bool false])(hmA: ¬FA mp)(hmB: ¬FB mp)(hl1:401≤l)(hl:l≤9223372036854775807): ∃v st',Ev Tryz.prog Q0 108 [.ptr da 0 0,.ptr db 0 0,iN t,.ptr mp 0 0] st v st'∧az st st' a b t v∧UO (fun c=>c=mp) st st':=by
 have wfa:=hDA.wf;have wfb:=hDB.wf;have htr:=wfa.tr;have hp6:=JF htr;have hp0:0<2^a.tr:=Nat.two_pow_pos _;have hlna:=wfa.len;have hlnb:=wfb.len;have hena:a.n=a.acc.length:=rfl;have henb:b.n=b.acc.length:=rfl
 have htp:2^b.tr=2^a.tr:=by rw[ht]
 have hdA: ∀c,FA c→ ¬(Yl mp l false).F c:=fun c hc e=>hmA ((show c=mp from e)▸hc);have hdB: ∀c,FB c→ ¬(Yl mp l false).F c:=fun c hc e=>hmB ((show c=mp from e)▸hc);have B:=Qk.UI (o:=Yl mp l false) hf hm (fun c hc=>(show c=mp from hc)▸hm.lt hf);refine JB Tryz.func108 Tryz.ntmps108 fun T K=>?_;have M:=B.mem;refine Qc 3 K M ?_;intro _ K;refine p1 K (Yc JX rfl rfl) fun _ K=>?_;refine Qc 2 K M ?_;intro _ K;refine pg K rfl rfl (Yc JX rfl rfl) fun _ K=>?_;refine Qc 3 K M ?_;intro _ K;obtain⟨v31,st31,ev31,rfl,q31⟩:=Xm M.fresh (hDA.Oh (B.step M).JM hdA);refine pg K rfl rfl (Qh rfl ev31) fun _ K=>?_;replace M:=M.quiet q31;refine Qc 1 K M ?_;intro _ K;obtain⟨v33,st33,ev33,rfl,q33⟩:=Xm M.fresh (hDB.Oh (B.step M).JM hdB);refine pg K rfl rfl (Qh rfl ev33) fun _ K=>?_;replace M:=M.quiet q33;refine Qc 2 K M ?_;intro _ K;refine xc K (Qg rfl) rfl (fun _ e36 K=>?_) fun _ e36 K=>?_
 ·refine Qc 3 K M ?_;intro _ K;refine Un K (Qg rfl) rfl (fun _ e40 K=>?_) fun _ e40 K=>?_
  ·refine Qc 3 K M ?_;intro _ K;refine JN K rfl (fun h43=>?_) fun h43=>?_
   ·exfalso;omega
   refine Qc 0 K M ?_;intro _ K;replace B:=B.step M;refine Wo Xg K B rfl fun c44 _ _ K B=>?_;have M:=B.mem;refine au 4 K M ?_;intro c47 _ _ K _ M;replace B:=(B.step M).aP;have M:=B.mem;refine Qc 1 K M ?_;intro _ K;refine oQ K M (Xm M.fresh (hDA.Oh (B.step M).JM hdA)) rfl rfl fun _ _ K M=>?_;refine au 4 K M ?_;intro c11 _ _ K _ M;refine p1 K (ZD AB Im ZU ZB rfl rfl) fun _ K=>?_;replace B:=B.step M;obtain⟨v54,st54,ev54,rfl,F1,kl1,hP1,mf1,Q1⟩:=jb B.fresh (B.at_ (k:=0) rfl) (B.Y1 (k:=0) rfl) Qe hl;refine p1 K (Qh rfl ev54) fun _ K=>?_;replace B:=B.call (k:=0) (o':=eT F1 c47 c44 mp kl1 [(0,0)] (l-1)) rfl Q1 hP1 mf1;have M:=B.mem;refine Qc 9 K M ?_;intro _ K;replace B:=B.step M;obtain⟨v60,st60,ev60,nau,q60⟩:=NH B.fresh (hDA.Oh B.JM hdA);refine p1 K (Qh rfl ev60) fun _ K=>?_;obtain⟨kaA,knA,vsA,Ato,FA,rfl,hAto,B⟩:=B.Kj q60 nau;replace B:=B.less (List.sublist_append_left _ _);have hknA:Qu knA=true:=(Xo.rd (B.at_ (k:=0) rfl)).cell;have hkaA:=hAto.cell;have M:=B.mem;refine p1 K (EO rfl ((Zt _).trans (Qf Q9 rfl))) fun _ K=>?_;refine Qc 1 K M ?_;intro _ K;replace B:=B.step M;obtain⟨v63,st63,ev63,nau,q63⟩:=NH B.fresh (hDB.Oh B.JM hdB);refine p1 K (Qh rfl ev63) fun _ K=>?_;obtain⟨kaB,knB,vsB,Ato,FB,rfl,hAto,B⟩:=B.Kj q63 nau;replace B:=B.less (List.sublist_append_left _ _);have hknB:Qu knB=true:=(Xo.rd (B.at_ (k:=0) rfl)).cell;have hkaB:=hAto.cell;have M:=B.mem;refine p1 K (EO rfl ((Zt _).trans (Qf Q9 rfl))) fun _ K=>?_;refine Qc 2 K M ?_;intro _ K;replace B:=(B.step M).Vx;have M:=B.mem;refine Qc 1 K M ?_;intro _ K;refine Jd (fun mm1 T st9=> ∃(i:Nat) (lp:List (Nat×Nat)) (kl:AV) (Fl:Fp) (rows:List (List Int)) (vs:List AV) (Fr:Fp) (ka:AV) (Aa:QT) (kr:AV) (Ar:QT),mm1=400-i∧QX [(0,.ptr da 0 0),(1,.ptr db 0 0),(2,iN t),(10,.ptr c47 0 0),(11,.ptr c11 0 0),(14,knA),(15,knB),(16,iN i)] T∧Qk st (Yl mp l false).F st9 ((c11,0,[iZ (a.tr:Nat),ka,kr])::(Aa++(Ar++[]))) [ED Fr vs rows,BM FB knB vsB b.nx,BM FA knA vsA a.nx,eT Fl c47 c44 mp kl lp (l-lp.length)]∧Vo (Og a b) (0,0) (2^a.tr) lp rows []∧rows.length=i∧i≤lp.length∧lp.length≤400∧Acc 0 1 Aa ka (bC ((lp.take i).map (Ij a b t)))∧YP Ar kr vs) (fun mm1 T st9 hI=>?_) _ _ _ ⟨0,[(0,0)],kl1,F1,[],[],_,.nils,[],.nils,[],rfl,(K.sub rfl),(B.step M).less (.refl _),(Vo.start _ _ _),rfl,QD,QD,.none,.none⟩;obtain⟨i,lp,kl,Fl,rows,vs,Fr,ka,Aa,kr,Ar,rfl,K,B,hP,hrl,hil,hlp,hAa,hAr⟩:=hI;have M:=B.mem;have hall:=hP.jh wfa wfb ht;refine Qc 4 K M ?_;intro _ K;refine p1 K (Qd rfl (Qz (KU.row ((B.step M).at_ (k:=3) rfl)).Jb (Qf EF rfl))) fun _ K=>p1 K (QA X2 rfl rfl ((UU.len ((B.step M).at_ (k:=3) rfl).acc).trans (congrArg some (Yp _)))) fun _ K=>?_;refine Qc 1 K M ?_;intro _ K;refine JN K rfl (fun h71=>?_) fun h71=>?_
   ·refine Qc 3 K M ?_;intro _ K;refine p1 K (Qd rfl (Qz (KU.row ((B.step M).at_ (k:=3) rfl)).Jb (Qf EF rfl))) fun _ K=>?_;refine Qc 1 K M ?_;intro _ K;obtain⟨pr79,hi79⟩:=U1 lp i Qe;have hpb79:=hall pr79 (List.mem_of_getElem? hi79);obtain⟨x79,m79,f79,q79,_,la79,lo79,lp79⟩:=(UU.rd ((B.step M).at_ (k:=3) rfl).acc).load (i:=i) (cs:=_) (WW hi79);refine p1 K (Qa (j:=i) DP (congrArg some q79) rfl (by rw[Yp];omega)) fun _ K=>p1 K (Qd rfl (la79 _ OZ)) fun _ K=>?_;refine au 4 K M ?_;intro c17 _ _ K _ M;refine p1 K (AK (j:=0) Lo ZU rfl rfl QD) fun _ K=>?_;refine Qc 1 K M ?_;intro _ K;obtain⟨s84,hi84⟩:=U1 a.nx (pr79.1) Qe;obtain⟨w84,hv84,hr84,hz84,hf84⟩:=((B.step M).at_ (k:=2) rfl).vs.at_ _ _ hi84;have hw84:=wfa.row s84 (List.mem_of_getElem? hi84);have hl84:s84.length=2^a.tr:=hw84.1;obtain⟨x84,m84,f84,q84,_,la84,lo84,lp84⟩:=((B.step M).at_ (k:=2) rfl).rd.load (i:=pr79.1) (cs:=_) (by rw[List.getElem?_map,hv84];rfl);refine p1 K (Qa (j:=pr79.1) QY (congrArg some q84) rfl (by rw[List.length_map,((B.step M).at_ (k:=2) rfl).vs.ln];omega)) fun _ K=>p1 K (Qd rfl (lo84 _ 0 _ Ja rfl)) fun _ K=>p1 K (QA Jh rfl rfl (hr84.len.trans (congrArg some (Ql _)))) fun _ K=>?_;refine Qc 1 K M ?_;intro _ K;refine Jd (fun mm2 T st9=> ∃(c:Nat) (lp2:List (Nat×Nat)) (kl2:AV) (Fl2:Fp) (row:List Int) (kw:AV) (Aw:QT),mm2=2^a.tr-c∧QX [(0,.ptr da 0 0),(1,.ptr db 0 0),(2,iN t),(10,.ptr c47 0 0),(11,.ptr c11 0 0),(14,knA),(15,knB),(16,iN i),(17,.ptr c17 0 0),(18,kw),(71,.bool (decide (((i:Nat):Int)<((lp.length:Nat):Int)))),(85,w84),(86,iZ (s84.length:Nat)),(87,iN c)] T∧Qk st (Yl mp l false).F st9 ((c17,0,[iZ (pr79.1:Nat),iZ (pr79.2:Nat)])::(c11,0,[iZ (a.tr:Nat),ka,kr])::(Aa++(Ar++(Aw++[])))) [ED Fr vs rows,BM FB knB vsB b.nx,BM FA knA vsA a.nx,eT Fl2 c47 c44 mp kl2 lp2 (l-lp2.length)]∧Vo (Og a b) (0,0) (2^a.tr) lp2 rows row∧row.length=c∧c≤2^a.tr∧lp2.length≤400∧lp2.take (i+1)=lp.take (i+1)∧Acc 0 1 Aw kw (zC row)) (fun mm2 T st9 hI=>?_) _ _ _ ⟨0,lp,kl,Fl,[],.nils,[],rfl,(K.sub rfl),(B.step M).less (.refl _),hP,rfl,(Nat.zero_le _),hlp,rfl,.none⟩;obtain⟨c,lp2,kl2,Fl2,row,kw,Aw,rfl,K,B,hP2,hrow,hcK,hl2,htk,hAw⟩:=hI;have M:=B.mem;have hi2:=Uu htk Qe;refine Qc 1 K M ?_;intro _ K;refine JN K rfl (fun h88=>?_) fun h88=>?_
    ·refine Qc 1 K M ?_;intro _ K;obtain⟨y90,hi90⟩:=U1 s84 c Qe;have hb90:=hw84.2 y90 (List.mem_of_getElem? hi90);obtain⟨z90,rfl⟩: ∃m:Nat,y90=((m:Nat):Int):=⟨_,(Int.toNat_of_nonneg hb90.1).symm⟩;obtain⟨x90,m90,f90,q90,_,la90,lo90,lp90⟩:=(Xo.row ((B.step M).at_ (k:=2) rfl) hi84 hv84).load (i:=c) (cs:=_) (Jo hi90);refine p1 K (Qa (j:=c) Qv (congrArg some q90) rfl (by rw[Ql];omega)) fun _ K=>p1 K (Qd rfl (lo90 _ 0 _ Qr rfl)) fun _ K=>?_;refine Qc 5 K M ?_;intro _ K;refine p1 K (AK (j:=1) Lo ZU rfl rfl QD) fun _ K=>?_;refine Qc 1 K M ?_;intro _ K;obtain⟨s98,hi98⟩:=U1 b.nx (pr79.2) Qe;obtain⟨w98,hv98,hr98,hz98,hf98⟩:=((B.step M).at_ (k:=1) rfl).vs.at_ _ _ hi98;have hw98:=wfb.row s98 (List.mem_of_getElem? hi98);have hl98:s98.length=2^b.tr:=hw98.1;obtain⟨x98,m98,f98,q98,_,la98,lo98,lp98⟩:=((B.step M).at_ (k:=1) rfl).rd.load (i:=pr79.2) (cs:=_) (by rw[List.getElem?_map,hv98];rfl);refine p1 K (Qa (j:=pr79.2) QY (congrArg some q98) rfl (by rw[List.length_map,((B.step M).at_ (k:=1) rfl).vs.ln];omega)) fun _ K=>p1 K (Qd rfl (lo98 _ 0 _ Ja rfl)) fun _ K=>?_;refine Qc 1 K M ?_;intro _ K;obtain⟨y101,hi101⟩:=U1 s98 c Qe;have hb101:=hw98.2 y101 (List.mem_of_getElem? hi101);obtain⟨z101,rfl⟩: ∃m:Nat,y101=((m:Nat):Int):=⟨_,(Int.toNat_of_nonneg hb101.1).symm⟩;obtain⟨x101,m101,f101,q101,_,la101,lo101,lp101⟩:=(Xo.row ((B.step M).at_ (k:=1) rfl) hi98 hv98).load (i:=c) (cs:=_) (Jo hi101);refine p1 K (Qa (j:=c) Qv (congrArg some q101) rfl (by rw[Ql];omega)) fun _ K=>p1 K (Qd rfl (lo101 _ 0 _ Qr rfl)) fun _ K=>p1 K (ZD AB Im ZU ZB rfl rfl) fun _ K=>?_;replace B:=B.step M;obtain⟨v104,st104,ev104,k3,was3,lp3,kl3,rfl,hnum,F3,hP3m,mf3,Q3⟩:=Sv B.fresh (B.at_ (k:=3) rfl) (B.Y1 (k:=3) rfl) hl2 Qe Qe (z90,z101);refine p1 K (Qh rfl ev104) fun _ K=>?_;have hnl:=hnum.len;rw[show l-lp2.length-(lp3.length-lp2.length)=l-lp3.length by omega]at hP3m;replace B:=B.call (k:=3) (o':=eT F3 c47 c44 mp kl3 lp3 (l-lp3.length)) rfl Q3 hP3m mf3;have M:=B.mem;refine Qc 7 K M ?_;intro _ K;refine Qq (K.QH rfl) (fun h108=>?_) (fun h108=>?_)
     ·have hb108:=h108
      replace h108: ¬((lp3.length:Int)≤400):=by first|exact of_decide_eq_false h108|exact yF h108|simpa using h108
      refine Qc 2 K M ?_
      have hgo:Og a b pr79 row.length=(z90,z101):=by unfold Og;rw[hrow,JG hi84 hi90,JG hi98 hi101];rfl
      have hP3:=hnum.pr hP2 Qe (show lp2[rows.length]? =some pr79 by rw[hrl];exact XZ htk hi79) hgo
      have h401:lp3.length=401:=by omega
      exact⟨.inr ⟨rfl,lp3,h401,hP3.nodup,fun Q h0 hs p hp=>hP3.all h0 hs (Nat.two_pow_pos _) hp⟩,(B.step M).JM⟩
     have hb108:=h108
     replace h108:((lp3.length:Int)≤400):=by first|exact of_decide_eq_true h108|exact yT h108|simpa using h108
     refine au 3 K M ?_;intro c111 _ _ K _ M;refine QZ (k2:=0) (L:=((c111,0,[iN k3])::(c17,0,[iZ (pr79.1:Nat),iZ (pr79.2:Nat)])::(c11,0,[iZ (a.tr:Nat),ka,kr])::(Aa++(Ar++[])))) (A:=Aw) (B:=[]) K (Mem.cast (M:=((c111,0,[iN k3])::(c17,0,[iZ (pr79.1:Nat),iZ (pr79.2:Nat)])::(c11,0,[iZ (a.tr:Nat),ka,kr])::(Aa++(Ar++(Aw++[]))))) (M':=((c111,0,[iN k3])::(c17,0,[iZ (pr79.1:Nat),iZ (pr79.2:Nat)])::(c11,0,[iZ (a.tr:Nat),ka,kr])::(Aa++(Ar++[])))++(Aw++[])) M Ux) hAw QL rfl rfl rfl rfl (by rw[Ql];omega) rfl fun ks112 A112 _ _ K hA112 M=>?_;simp only[List.append_assoc,List.cons_append,List.nil_append,List.set_cons_zero,List.set_cons_succ]at M;refine Qc 3 K M ?_;intro _ K
     have hgo:Og a b pr79 row.length=(z90,z101):=by unfold Og;rw[hrow,JG hi84 hi90,JG hi98 hi101];rfl
     have hP3:=hnum.pr hP2 Qe (show lp2[rows.length]? =some pr79 by rw[hrl];exact XZ htk hi79) hgo;exact⟨_,Qe,c+1,lp3,kl3,F3,(row++[((k3:Nat):Int)]),ks112,A112,rfl,(K.sub rfl),(B.step M).less (.cons _ (.refl _)),hP3,(by rw[List.length_append,hrow];rfl),Qe,Qe,(by rw[hnum.take hi2,htk]),(by rw[JT];exact hA112)⟩
    refine QU ?_;show W _ _ _ _ _ _ _;refine Qc 1 K M ?_;intro _ K;refine p1 K (Qd rfl (M.load (k:=1) rfl (Qf Q9 rfl))) fun _ K=>?_;refine Qc 1 K M ?_;intro _ K;refine Xy K M QS Ut rfl ((J8 rfl hAw.cell rfl).trans rfl) (Qb hAw.cell Q6) rfl rfl fun c117 _ _ K M=>?_;refine YH (k2:=0) (L:=((c117,0,[kw])::(c17,0,[iZ (pr79.1:Nat),iZ (pr79.2:Nat)])::(c11,0,[iZ (a.tr:Nat),ka,kr])::(Aa++[]))) (A:=Ar) (B:=(Aw++[])) K (Mem.cast (M:=((c117,0,[kw])::(c17,0,[iZ (pr79.1:Nat),iZ (pr79.2:Nat)])::(c11,0,[iZ (a.tr:Nat),ka,kr])::(Aa++(Ar++(Aw++[]))))) (M':=((c117,0,[kw])::(c17,0,[iZ (pr79.1:Nat),iZ (pr79.2:Nat)])::(c11,0,[iZ (a.tr:Nat),ka,kr])::(Aa++[]))++(Ar++(Aw++[]))) M Ux) hAr QS rfl rfl rfl (by have:=YO.ln ((B.step M).at_ (k:=0) rfl);omega) rfl fun ks118 A118 _ _ K hA118 _ M=>?_;simp only[List.append_assoc,List.cons_append,List.nil_append,List.set_cons_zero,List.set_cons_succ]at M;refine Qc 1 K M ?_;intro _ K;refine Ji (k:=2) K M rfl rfl rfl Uv (hA118.cell) rfl fun _ M=>?_;refine Up ?_;show W _ _ _ _ _ _ _;refine QF (l:=[(3,0),(4,0),(5,0),(6,0),(7,0),(9,0),(10,0),(11,2),(12,0),(13,0),(0,0),(1,4),(2,0),(8,0),(14,0),(15,0),(16,0),(17,0),(18,0),(19,0),(20,0),(21,0)]) (by kernel_rfl) ?_;have Mq:=M;have Mz0:=M;have Bz0:=B;refine q1 rfl K (Qg rfl) fun _ K=>q1 rfl K (AK (j:=0) Lo ZU rfl rfl QD) fun _ K=>?_;refine Jn 1 K M ?_;intro _ K;obtain⟨v126,st126,ev126,rfl,q126⟩:=V5 M.fresh (hDA.Oh (B.step M).JM hdA) (s:=pr79.1) Qe;refine qA rfl K (Qh rfl ev126) fun _ K=>?_;replace M:=M.quiet q126;have Mp:=Mq;have Mq:=M;have Mz1:=M;have Bz1:=B;obtain⟨v127,st127,ev127,rfl,q127⟩:=yp M.fresh (a.ok pr79.1);refine qA rfl K (Qh rfl ev127) fun _ K=>?_;have hbt127:=Tv (a.ok pr79.1);replace M:=M.quiet q127;have Mp:=Mq;have Mq:=M;have Mz2:=M;have Bz2:=B;refine q1 rfl K (Qg rfl) fun _ K=>q1 rfl K (AK (j:=1) Lo ZU rfl rfl QD) fun _ K=>?_
    refine Wq rfl K rfl (M.load (k:=1) rfl (Qf Qr rfl)) Q7 (by intro s hs;simp only[List.take_succ_cons,List.take_zero,List.mem_cons,List.not_mem_nil,or_false]at hs;rcases hs with rfl|rfl<;>first|exact(Mz1.load (k:=1) rfl (Qf Qr rfl))|exact(Mz0.load (k:=1) rfl (Qf Qr rfl))) (JQ rfl) rfl QD fun _ K=>?_
    obtain⟨v132,st132,ev132,rfl,q132⟩:=V5 M.fresh (hDB.Oh (B.step M).JM hdB) (s:=pr79.2) Qe;refine qA rfl K (Qh rfl ev132) fun _ K=>?_;replace M:=M.quiet q132;have Mp:=Mq;have Mq:=M;have Mz3:=M;have Bz3:=B;obtain⟨v133,st133,ev133,rfl,q133⟩:=yp M.fresh (b.ok pr79.2);refine qA rfl K (Qh rfl ev133) fun _ K=>?_;have hbt133:=Tv (b.ok pr79.2);replace M:=M.quiet q133;have Mp:=Mq;have Mq:=M;have Mz4:=M;have Bz4:=B;refine Jn 1 K M ?_;intro _ K
    refine Wq rfl K rfl (M.load (k:=2) rfl (Qf Uj rfl)) Q7 (by intro s hs;simp only[List.take_succ_cons,List.take_zero,List.mem_cons,List.not_mem_nil,or_false]at hs;rcases hs with rfl|rfl|rfl|rfl<;>first|exact(Mz3.load (k:=2) rfl (Qf Uj rfl))|exact(Mz2.load (k:=2) rfl (Qf Uj rfl))|exact(Mz1.load (k:=2) rfl (Qf Uj rfl))|exact(Mz0.load (k:=2) rfl (Qf Uj rfl))) (JQ (Ul hAa.len)) rfl QD fun _ K=>?_
    refine q1 rfl K (Qg rfl) fun _ K=>q1 rfl K (zO (n:=(Em (a.ok pr79.1))) rfl rfl Qe) fun _ K=>?_;refine Jn 1 K M ?_;intro _ K;refine q1 rfl K (Xs (a:=t) (n:=((2 *(Em (a.ok pr79.1)))+(Em (b.ok pr79.2)))) rfl rfl Qe) fun _ K=>q1 rfl K (Xu (a:=(t/2^(((2 *(Em (a.ok pr79.1)))+(Em (b.ok pr79.2)))))) rfl rfl (Nat.le_trans (Nat.div_le_self _ _) Qe)) fun _ K=>q1 rfl K (jv rfl rfl) fun _ K=>?_;refine XR rfl K M Jz XV rfl rfl rfl rfl rfl fun c138 _ _ K M=>?_;refine Xz (k2:=0) (L:=[(c138,0,[.bool (decide (((((t/2^(((2 *(Em (a.ok pr79.1)))+(Em (b.ok pr79.2))))) % 2):Nat):Int)=1))]),(c117,0,[kw]),(c17,0,[iZ (pr79.1:Nat),iZ (pr79.2:Nat)]),(c11,0,[iZ (a.tr:Nat),ka,ks118])]) (A:=Aa) (B:=(A118++(Aw++[]))) rfl K M hAa Jz rfl rfl rfl rfl (by rw[JH,List.length_map,List.length_take];omega) rfl fun ks139 A139 _ _ K hA139 M=>?_;have Mp:=Mq;have Mq:=M;have Mz5:=M;have Bz5:=B;refine Jn 1 K M ?_;intro _ K;refine Zd (k:=3) rfl K M rfl rfl rfl UE (hA139.cell) rfl fun _ M=>?_;have Mp:=Mq;have Mq:=M;have Mz6:=M;have Bz6:=B;refine QI ?_;show W _ _ _ _ _ _ _;refine Qc 3 K M ?_;intro _ K;replace B:=B.step M;obtain⟨Fr,B⟩:=Qk.Z7 (L:=((c138,0,[.bool (decide (((((t/2^(((2 *(Em (a.ok pr79.1)))+(Em (b.ok pr79.2))))) % 2):Nat):Int)=1))])::(c117,0,[kw])::(c17,0,[iZ (pr79.1:Nat),iZ (pr79.2:Nat)])::(c11,0,[iZ (a.tr:Nat),ks139,ks118])::(A139++(A118++[])))) (A:=Aw) (B:=[]) (B.cast Ux) hAw (hP2.AZ hl2);replace B:=B.cast (M':=((c138,0,[.bool (decide (((((t/2^(((2 *(Em (a.ok pr79.1)))+(Em (b.ok pr79.2))))) % 2):Nat):Int)=1))])::(c117,0,[kw])::(c17,0,[iZ (pr79.1:Nat),iZ (pr79.2:Nat)])::(c11,0,[iZ (a.tr:Nat),ks139,ks118])::(A139++(A118++[])))) Ux;have M:=B.mem;have hi2:=Uu htk Qe
    have htq:lp.take (i+1)=lp.take i++[pr79]:=by rw[List.take_add_one,hi79];rfl
    exact⟨_,Qe,i+1,lp2,kl2,Fl2,(rows++[row]),_,_,ks139,A139,ks118,A118,rfl,(K.sub rfl),(B.step M).less (.cons _ (.cons _ (.cons _ (.refl _)))),(hP2.whole Qe),(by rw[List.length_append,hrl];rfl),hi2,hl2,(by rw[htk,htq,List.map_append,XL,show bC ([pr79].map (Ij a b t))=[[AV.bool (Ij a b t pr79)]]from rfl,show Ij a b t pr79=_ from zn t _ _];exact hA139),hA118⟩
   refine QU ?_;show W _ _ _ _ _ _ _;refine Qc 1 K M ?_;intro _ K;replace B:=B.step M;have hlt:lp.take i=lp:=List.take_of_length_le Qe;rw[hlt]at hAa;have hMd:=hP.made (p:=Ij a b t) (m:=⟨a.tr,lp.map (Ij a b t),rows⟩) (by show rows.length=_;omega) rfl htr hlp;obtain⟨Fo,B⟩:=Qk.Bd (L:=((c11,0,[iZ (a.tr:Nat),ka,kr])::(Aa++[]))) (A:=Ar) (B:=[]) (B.cast Ux) hAr;replace B:=B.cast (M':=((c11,0,[iZ (a.tr:Nat),ka,kr])::(Aa++[]))) Ux;have M:=B.mem;obtain⟨v142,st142,ev142,dp2,F2,rfl,hD2,nf2,q142⟩:=WM (a:=⟨a.tr,lp.map (Ij a b t),rows⟩) B.fresh hMd.wf (Mem.Yx (L:=[(c11,0,[iZ (a.tr:Nat),ka,kr])]) (A:=Aa) (B:=[]) M hAa) (Xo.r (B.at_ (k:=0) rfl));refine p1 K (Qh rfl ev142) fun _ K=>?_;have hle0:=B.le;replace B:=B.quiet q142;have M:=B.mem;refine Qc 4 K M ?_;exact⟨.inl ⟨dp2,F2,lp,_,rfl,⟨hMd,rfl⟩,hD2,fun c hc=>⟨Nat.le_trans hle0 (nf2 c hc).1,(nf2 c hc).2⟩⟩,(B.step M).JM⟩
  exfalso;omega
 exfalso;omega
end Go.Proofs.YtiknomepbklibaaGreatDoor
