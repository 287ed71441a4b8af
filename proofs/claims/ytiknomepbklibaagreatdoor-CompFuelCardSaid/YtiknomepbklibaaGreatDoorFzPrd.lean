/-
  Both of two automata, and not: the program's.
-/
import Derived.Test.YtiknomepbklibaaGreatDoorFzR20B
import Derived.Test.YtiknomepbklibaaGreatDoorFzEnt
namespace Go.Proofs.YtiknomepbklibaaGreatDoor
open Go Go.RowKit
set_option maxHeartbeats 8000000
set_option linter.unusedVariables false
set_option linter.unusedSimpArgs false
set_option linter.unnecessarySimpa false
set_option maxRecDepth 100000

structure KF(h:Hp)(F:Fp)(xp cm mp:Nat)(kl:AV)(lp:List (Nat×Nat))(l:Nat):Prop where
 acc:UW h F 2 kl (Kp lp)
 map:(VY cm Xd (UR 0 lp)).H h
 met:(Yd mp l false).H h
 row:Q0 h xp 0 [.mp cm,kl,.ptr mp 0 0]
 d1: ¬F xp
 d2: ¬F cm
 d3: ¬F mp
 d4:xp≠cm
 d5:xp≠mp
 d6:cm≠mp
def Pj(F:Fp)(xp cm mp:Nat):Fp:=fun c=>F c∨c=cm∨c=mp∨c=xp
section
variable {st0 st st':St} {X0 F F':Fp} {M A:QU} {Os:List Ob} {xp cm mp l l':Nat} {kl kl':AV} {lp lp':List (Nat×Nat)}
theorem KF.frame{h h':Hp}(e: ∀c,Pj F xp cm mp c→h' c=h c)(H:KF h F xp cm mp kl lp l):KF h' F xp cm mp kl lp l:=
 ⟨(Wj F 2 kl (Kp lp)).fr _ _ (fun c hc=>e c (.inl hc)) H.acc,(VY cm Xd (UR 0 lp)).fr _ _ (fun c hc=>e c (.inr (.inl hc))) H.map,(Yd mp l false).fr _ _ (fun c hc=>e c (.inr (.inr (.inl hc)))) H.met,H.row.frame (e xp (.inr (.inr (.inr rfl)))),H.d1,H.d2,H.d3,H.d4,H.d5,H.d6⟩
def wR(F:Fp)(xp cm mp:Nat)(kl:AV)(lp:List (Nat×Nat))(l:Nat):Ob:=⟨Pj F xp cm mp,fun h=>KF h F xp cm mp kl lp l,fun _ _ e H=>H.frame e⟩
theorem Qk.yM(hf:Qj st)(H:KF st.h.get F xp cm mp kl lp l)(hi: ∀c,Pj F xp cm mp c→c<st.n):Qk st (Pj F xp cm mp) st [(xp,0,[.mp cm,kl,.ptr mp 0 0])] [Wj F 2 kl (Kp lp),VY cm Xd (UR 0 lp),Yd mp l false]:=by
 refine⟨hf,Nat.le_refl _,fun c m x h=>?_,by simp,fun c m x h=>?_,fun o h=>?_,fun o h c hc=>?_,?_,fun o h c m x hm hc=>?_,fun _ _ _=>rfl⟩
 ·simp at h;obtain⟨rfl,rfl,rfl⟩:=h;exact H.row
 ·simp at h;obtain⟨rfl,rfl,rfl⟩:=h;exact .inr (.inr (.inr (.inr rfl)))
 ·simp at h;rcases h with rfl|rfl|rfl
  ·exact H.acc
  ·exact H.map
  ·exact H.met
 ·simp at h;rcases h with rfl|rfl|rfl
  ·exact⟨hi c (.inl hc),.inr (.inl hc)⟩
  ·exact⟨hi c (.inr (.inl hc)),.inr (.inr (.inl hc))⟩
  ·exact⟨hi c (.inr (.inr (.inl hc))),.inr (.inr (.inr (.inl hc)))⟩
 ·refine List.pairwise_cons.2 ⟨fun o h c h1 h2=>?_,List.pairwise_cons.2 ⟨fun o h c h1 h2=>?_,List.pairwise_singleton _ _⟩⟩
  ·simp at h;rcases h with rfl|rfl
   ·exact H.d2 ((show c=cm from h2)▸h1)
   ·exact H.d3 ((show c=mp from h2)▸h1)
  ·rw[List.mem_singleton.1 h]at h2;exact H.d6 ((show c=cm from h1).symm.trans (show c=mp from h2))
 ·simp at hm;obtain⟨rfl,rfl,rfl⟩:=hm
  simp at h;rcases h with rfl|rfl|rfl
  ·exact H.d1 hc
  ·exact H.d4 hc
  ·exact H.d5 hc
theorem Qk.ux(B:Qk st (Pj F xp cm mp) st' [(xp,0,[.mp cm,kl',.ptr mp 0 0])] [Wj F' 2 kl' (Kp lp'),VY cm Xd (UR 0 lp'),Yd mp l' false]): ∃F',KF st'.h.get F' xp cm mp kl' lp' l'∧WK st st' (Pj F xp cm mp) (Pj F' xp cm mp)∧UH (Pj F xp cm mp) st st':=by
 have hp:=List.pairwise_cons.1 B.dj;have hp2:=(List.pairwise_cons.1 hp.2).1 (Yd mp l' false) QA;have hr:=fun o ho=>B.djM o ho xp 0 _ (List.mem_singleton.2 rfl);refine⟨F',⟨B.at_ (k:=0) rfl,B.at_ (k:=1) rfl,B.at_ (k:=2) rfl,B.row _ _ _ (List.mem_singleton.2 rfl),hr (Wj F' 2 kl' (Kp lp')) QA,fun h=>hp.1 (VY cm Xd (UR 0 lp')) QA cm h rfl,fun h=>hp.1 (Yd mp l' false) QA mp h rfl,fun e=>hr (VY cm Xd (UR 0 lp')) QA e,fun e=>hr (Yd mp l' false) QA e,fun e=>hp2 cm rfl e⟩,fun c hc=>?_,B.JM⟩;rcases hc with hc|hc|hc|hc
 ·exact⟨(B.KT (k:=0) rfl c hc).symm,B.Yu (k:=0) rfl c hc⟩
 ·exact⟨(B.KT (k:=1) rfl c hc).symm,B.Yu (k:=1) rfl c hc⟩
 ·exact⟨(B.KT (k:=2) rfl c hc).symm,B.Yu (k:=2) rfl c hc⟩
 ·subst hc;exact⟨.inl (.inr (.inr (.inr rfl))),(B.row c 0 _ (List.mem_singleton.2 rfl)).lt B.fresh⟩
theorem Qk.eR(B:Qk st0 X0 st ((xp,0,[.mp cm,.nils,.ptr mp 0 0])::M) (VY cm Xd []::Yd mp l false::Os)):Qk st0 X0 st M (wR Xv xp cm mp .nils [] l::Os):=by
 have d1:=B.djM (VY cm Xd []) QA xp 0 _ (List.mem_cons_self ..);have d2:=B.djM (Yd mp l false) QA xp 0 _ (List.mem_cons_self ..);have d3:=(List.pairwise_cons.1 B.dj).1 (Yd mp l false) QA;have B1:=Qk.freeze (R:=[(xp,0,[.mp cm,.nils,.ptr mp 0 0])]) (o:=Xc [(xp,0,[.mp cm,.nils,.ptr mp 0 0])]) (M:=M) B (fun c m x h=>B.row c m x (by rw[List.mem_singleton.1 h];exact List.mem_cons_self ..)) (fun c hc=>hc)
 have B2:=B1.join (o:=⟨fun c=>c=xp∨c=cm,fun h=>Q0 h xp 0 [.mp cm,.nils,.ptr mp 0 0]∧(VY cm Xd []).H h,fun h h' e H=>⟨H.1.frame (e xp (.inl rfl)),(VY cm Xd []).fr _ _ (fun c hc=>e c (.inr hc)) H.2⟩⟩) (fun h1 h2=>⟨h1 xp 0 _ (List.mem_singleton.2 rfl),h2⟩) (fun c hc=>by
  rcases hc with hc|hc
  ·exact .inl ⟨0,_,by rw[hc];exact List.mem_singleton.2 rfl⟩
  ·exact .inr hc)
 refine B2.join (fun h1 h2=>⟨⟨[],.none,fun c m l h=>by cases h⟩,h1.2,h2,h1.1,id,id,id,fun e=>d1 e,fun e=>d2 e,fun e=>d3 cm rfl e⟩) (fun c hc=>?_);rcases hc with hc|hc|hc|hc
 ·exact hc.elim
 ·exact .inl (.inr hc)
 ·exact .inr hc
 ·exact .inl (.inl hc)
end
theorem Xo.row{h:Hp}{F:Fp}{kn:AV}{vs:List AV}{LL:List (List Int)}(H:Xo h F kn vs LL){i:Nat}{s:List Int}{w:AV}(hi:LL[i]? =some s)(hv:vs[i]? =some w):Ji h [] 1 (zC s) w:=by
 obtain⟨w',k1,k2,_⟩:=H.vs.at_ _ _ hi;rw[hv]at k1
 injection k1 with k1
 rw[k1];exact k2
def Ek(b:Bool):Nat:=if b then 1 else 0
theorem SU(b:Bool):Ek b≤1:=by cases b<;>decide
theorem yI(t:Nat)(x y:Bool):Pq t x y=decide (((t/2^(2 *Ek x+Ek y) % 2:Nat):Int)=1):=by
 rw[←Hf];cases x<;>cases y<;>rfl
theorem zg{P:Program}{G:Env}{K:List (Nat×AV)}{st:St}{t yt:TypeId}{x y:Operand}{n:Nat}(hx:QX G K x=some (.int .i64 2))(hy:QX G K y=some (.int .i64 (n:Nat)))(h1:n≤1):U3 P G K (.binOp .mul t x y yt) st (.int .i64 (2 *n:Nat)) st:=by
 rw[show((2 *n:Nat):Int)=2 *((n:Nat):Int) by omega];exact Sp hx hy (IntWalk.i64_in _ Qe)
def ey(st st':St)(a b:Au)(t:Nat)(v:AV):Prop:=
 (∃dp F lp m,v=.tup [.ptr dp 0 0,.int .i64 0]∧Kl a b t lp m∧UY st' F dp m∧ZJ st st' F)∨
 (v=.tup [.nilp,.int .i64 8]∧ ∃(lp:List (Nat×Nat)),lp.length=401∧lp.Nodup∧ ∀(Q:Nat×Nat→Prop),Q (0,0)→(∀p c,Q p→c<2^a.tr→Q (NO a b p c))→ ∀p∈lp,Q p)

theorem zd{st:St}(hf:Qj st){F:Fp}{dp:Nat}{a:Au}(hD:UY st F dp a): ∃v st',Ev Tryz.prog Q4 107 [.ptr dp 0 0] st v st'∧ ∃dp2 F2,v=.tup [.ptr dp2 0 0,iZ 0]∧UY st' F2 dp2 a.neg∧ZJ st st' F2∧Qt st st':=by
 have wf:=hD.wf;have hps:=wf.pos;have hmo:=wf.most;have hln:=wf.len;have hen:a.n=a.acc.length:=rfl;have htr:=wf.tr;have B:=Qk.start hf;refine JF Tryz.func107 Tryz.ntmps107 fun T K=>?_;have M:=B.mem;refine Qc 3 K M ?_;intro _ K;refine p1 K (Yp Ul rfl rfl) fun _ K=>?_;refine Qc 2 K M ?_;intro _ K;replace B:=B.step M;obtain⟨v10,st10,ev10,nau10,q10⟩:=Kb B.fresh (hD.q B.qt);refine p1 K (Qh rfl ev10) fun _ K=>?_;obtain⟨_,kn,vs,_,Fn,rfl,hAa,B⟩:=B.Hu q10 nau10;obtain⟨ca,ma,rfl,rfl⟩:=Acc.jb (f:=AV.bool) (L:=a.acc) hAa Qe;have hnc:Qu kn=true:=(B.at_ (k:=0) rfl).rd.cell;replace B:=B.cast (M':=[(ca,ma,(a.acc.map AV.bool))]) QA;have M:=B.mem;refine au 1 K M ?_;intro c4 _ _ K _ M;refine QW (k:=0) K M rfl rfl rfl QF rfl (Qb rfl (Qb rfl (Qb hnc Q7))) rfl fun _ M=>?_;refine Qc 4 K M ?_;intro _ K;refine Jc (fun mm1 T st9=> ∃(i:Nat) (cur:List Bool),mm1=a.acc.length-i∧QY [(2,.nilp),(3,iZ 0),(4,.ptr c4 0 0),(12,.sl ca ma 0 a.acc.length 1),(13,iZ (a.acc.length:Nat)),(14,iN i)] T∧Qk st Xv st9 [(c4,0,[iZ (a.tr:Nat),.sl ca ma 0 a.acc.length 1,kn]),(ca,ma,(cur.map AV.bool))] [Bu Fn kn vs a.nx]∧cur.length=a.acc.length∧(∀(j:Nat) (y:Bool),a.acc[j]? =some y→cur[j]? =some (if j<i then !y else y))∧i≤a.acc.length) (fun mm1 T st9 hI=>?_) _ _ _ ⟨0,_,rfl,(K.sub rfl),(B.step M).less (.refl _),rfl,(fun j y h=>h),(Nat.zero_le _)⟩;obtain⟨i,cur,rfl,K,B,hcl,hcu,hil⟩:=hI;have M:=B.mem;refine Qc 1 K M ?_;intro _ K;refine JP K rfl (fun h15=>?_) fun h15=>?_
 ·refine Qc 1 K M ?_;intro _ K;obtain⟨y17,hi17⟩:=U8 cur i Qe;refine p1 K (Qa (j:=i) Jv rfl rfl Qe) fun _ K=>p1 K (Qd rfl (M.load (k:=1) rfl (Qf Jy (VX AV.bool hi17)))) fun _ K=>?_;refine Qc 7 K M ?_;intro _ K;obtain⟨y24,hi24⟩:=U8 cur i Qe;refine p1 K (Qa (j:=i) Jv rfl rfl Qe) fun _ K=>?_;refine Jh (k:=1) K M rfl rfl rfl A5 rfl (WU AV.bool (!(y17)) Qe) fun _ M=>?_;refine Qc 2 K M ?_;intro _ K;obtain⟨y0,hy0⟩:=U8 a.acc i Qe;have hy1:=hcu i y0 hy0;rw[if_neg Qe,hi17]at hy1
  injection hy1 with hy1
  exact⟨_,Qe,i+1,(cur.set i (!(y17))),rfl,(K.sub rfl),(B.step M).less (.refl _),(by rw[List.length_set];exact hcl),(fun j y h=>by
  rw[List.getElem?_set]
  by_cases e:i=j
  ·subst e;rw[if_pos rfl,if_pos Qe,if_pos Qe,hy1];rw[hy0]at h;injection h with h;rw[h]
  ·rw[if_neg e,hcu j y h];by_cases h2:j<i
   ·rw[if_pos h2,if_pos Qe]
   ·rw[if_neg h2,if_neg Qe]),Qe⟩
 refine QT ?_;show W _ _ _ _ _ _ _;refine Qc 1 K M ?_;intro _ K;replace B:=B.step M
 have hcur:cur=a.acc.map (!·):=by
  apply List.ext_getElem?;intro j
  by_cases hj:j<a.acc.length
  ·obtain⟨y,hy⟩: ∃x,a.acc[j]? =some x:=⟨_,List.getElem?_eq_getElem hj⟩;rw[hcu j y hy,List.getElem?_map,hy,if_pos Qe];rfl
  ·rw[List.getElem?_eq_none Qe,List.getElem?_eq_none (by rw[List.length_map];omega)]
 subst hcur;obtain⟨v27,st27,ev27,dp2,F2,rfl,hD2,nf2,q27⟩:=WJ (a:=a.neg) B.fresh (jo wf) (Q0.aj (f:=AV.bool) (L:=a.acc.map (!·)) (B.row ca ma _ QA) Qe Qe) (B.at_ (k:=0) rfl).r;refine p1 K (Qh rfl ev27) fun _ K=>?_;replace B:=B.new (o:=FG F2 dp2 a.neg) q27 hD2.at_ nf2;have M:=B.mem;refine Qc 4 K M ?_;exact⟨dp2,F2,rfl,B.MV (k:=0) rfl,(B.step M).jz (k:=0) rfl,(B.step M).qt⟩

theorem uM{st:St}(hf:Qj st)(b:Bool): ∃v st',Ev Tryz.prog Q4 137 [.bool b] st v st'∧v=iZ (Ek b:Nat)∧Qt st st':=by
 refine JF Tryz.func137 Tryz.ntmps137 fun T K=>?_;have M:=Mem.start hf;refine Qc 2 K M ?_;intro _ K;refine Qq (K.QI rfl) (fun h3=>?_) (fun h3=>?_)
 ·have hb3:=h3;refine Qc 1 K M ?_;refine⟨?_,M.qt⟩
  first|(rw[show b=true by simp_all];rfl)|(rw[show b=false by simp_all];rfl)
 have hb3:=h3;refine Qc 1 K M ?_;refine⟨?_,M.qt⟩
 first|(rw[show b=true by simp_all];rfl)|(rw[show b=false by simp_all];rfl)

theorem RX{st:St}(hf:Qj st){F:Fp}{xp cm mp:Nat}{kl:AV}{lp:List (Nat×Nat)}{l:Nat}(H:KF st.h.get F xp cm mp kl lp l)(hi: ∀c,Pj F xp cm mp c→c<st.n)(hL:lp.length≤400)(hl1:1≤l)(hl:l≤9223372036854775807)(p:Nat×Nat): ∃v st',Ev Tryz.prog Q4 136 [.ptr xp 0 0,.agg [iZ (p.1:Nat),iZ (p.2:Nat)]] st v st'∧ ∃k was lp' kl',v=.tup [iN k,.bool (decide ((lp'.length:Int)≤400))]∧Kg lp p lp' k was∧ ∃F',KF st'.h.get F' xp cm mp kl' lp' (l-(lp'.length-lp.length))∧WK st st' (Pj F xp cm mp) (Pj F' xp cm mp)∧UH (Pj F xp cm mp) st st':=by
 have B:=Qk.yM hf H hi;have hkc:=H.acc.cell;refine JF Tryz.func136 Tryz.ntmps136 fun T K=>?_;have M:=B.mem;refine au 3 K M ?_;intro c3 _ _ K _ M;refine QD (l:=[(0,0),(1,0),(2,0),(3,0),(4,0),(5,0),(6,0),(7,0),(8,0),(9,0),(10,0)]) (by kernel_rfl) ?_;refine Jf 5 K M ?_;intro _ K;refine qA rfl K (Wz (a:=p) W8 ((B.step M).at_ (k:=1) rfl) rfl rfl) fun _ K=>?_;refine Jf 5 K M ?_;intro _ K;refine QG ?_;show W _ _ _ _ _ _ _;refine Qc 1 K M ?_;intro _ K;refine Qq (K.QI rfl) (fun h18=>?_) (fun h18=>?_)
 ·have hb18:=h18;refine Qc 3 K M ?_
  obtain⟨v0,hv0⟩: ∃x,Yk (UR 0 lp) p=some x:=by cases hq:Yk (UR 0 lp) p with|none=>rw[hq]at h18;cases h18|some x=>exact⟨x,rfl⟩
  obtain⟨i,hi,rfl⟩:=LZ hv0;refine⟨i,true,lp,kl,?_,.inl ⟨rfl,rfl,hi⟩,?_⟩
  ·rw[hv0,decide_eq_true (show(lp.length:Int)≤400 by omega)];rfl
  ·rw[show l-(lp.length-lp.length)=l by omega];exact((B.step M).less (.cons _ (.cons_cons _ (.refl _)))).ux
 have hb18:=h18;refine Qc 0 K M ?_;intro _ K
 have hnone:Yk (UR 0 lp) p=none:=by cases hq:Yk (UR 0 lp) p with|none=>rfl|some x=>rw[hq]at h18;cases h18
 refine Qc 4 K M ?_;intro _ K;refine p1 K (Q8 X1 rfl rfl ((UW.len ((B.step M).at_ (k:=0) rfl)).trans (congrArg some (Yo _)))) fun _ K=>?_;refine Qc 1 K M ?_;intro _ K;refine QD (l:=[(0,0),(1,0),(2,0),(3,0),(4,0),(5,0),(6,0)]) (by kernel_rfl) ?_;refine Jf 6 K M ?_;intro _ K;replace B:=B.step M;refine y5 (j:=1) (a:=p) rfl K B rfl W8 rfl rfl rfl rfl hnone fun _ B=>?_;rw[show UR 0 lp++[(p,iZ (lp.length:Nat))]=UR 0 (lp++[p]) by rw[AJ,Nat.zero_add]]at B;have M:=B.mem;refine QG ?_;show W _ _ _ _ _ _ _;refine QC ?_;replace B:=B.step M;obtain⟨Al,hAl,B⟩:=B.Bd
 replace B:=(B.perm List.perm_append_comm).cast (M':=((c3,0,[iZ (p.1:Nat),iZ (p.2:Nat)])::(xp,0,[.mp cm,kl,.ptr mp 0 0])::(Al++[]))) (by simp<;>rfl)
 have M:=B.mem;refine QD (l:=[(1,0),(2,0),(3,0),(4,0),(5,0),(6,0),(7,0),(0,0),(8,0),(9,0),(10,0)]) (by kernel_rfl) ?_;refine Jf 5 K M ?_;intro _ K;refine XR rfl K M ED Z9 rfl rfl rfl rfl rfl fun c37 _ _ K M=>?_;refine Xz (k2:=0) (L:=[(c37,0,[iZ (p.1:Nat),iZ (p.2:Nat)]),(c3,0,[iZ (p.1:Nat),iZ (p.2:Nat)]),(xp,0,[.mp cm,kl,.ptr mp 0 0])]) (A:=Al) (B:=[]) rfl K M hAl ED rfl rfl rfl rfl (by rw[Yo];omega) rfl fun ks38 A38 _ _ K hA38 M=>?_;refine Jf 3 K M ?_;intro _ K;refine Zc (k:=2) rfl K M rfl rfl rfl IJ (hA38.cell) rfl fun _ M=>?_;refine QG ?_;show W _ _ _ _ _ _ _;refine QC ?_;replace B:=B.step M
 obtain⟨F2,B⟩:=Qk.V9 (M:=[(c37,0,[iZ (p.1:Nat),iZ (p.2:Nat)]),(c3,0,[iZ (p.1:Nat),iZ (p.2:Nat)]),(xp,0,[.mp cm,ks38,.ptr mp 0 0])]) (A:=A38) (ks:=ks38) (z:=2) (ls:=Kp (lp++[p])) ((B.cast (M':=[(c37,0,[iZ (p.1:Nat),iZ (p.2:Nat)]),(c3,0,[iZ (p.1:Nat),iZ (p.2:Nat)]),(xp,0,[.mp cm,ks38,.ptr mp 0 0])]++A38) (by simp<;>rfl)).perm List.perm_append_comm) (by rw[CH];exact hA38)
 have M:=B.mem;refine QD (l:=[(1,0),(2,0),(3,0),(4,0),(5,0),(0,0),(6,0),(7,0),(8,0),(9,0),(10,0),(11,0),(12,0),(13,0),(14,0),(15,0)]) (by kernel_rfl) ?_;refine Jf 4 K M ?_;intro _ K;replace B:=B.step M;obtain⟨v46,st46,ev46,rfl,hm3,Q3⟩:=LS B.fresh (show Q0 _ mp 0 [iN l,.bool false]from B.at_ (k:=2) rfl) hl 1 hl1;refine qA rfl K (Qh rfl ev46) fun _ K=>?_;replace B:=B.call (k:=2) (o':=Yd mp (l-1) false) rfl Q3 hm3 (fun c hc=>⟨.inl hc,Nat.lt_of_lt_of_le (B.Yu (k:=2) rfl c hc) Q3.le⟩);have M:=B.mem;refine Jf 6 K M ?_;intro _ K;refine dg rfl K rfl rfl (Q8 X1 rfl rfl ((UW.len ((B.step M).at_ (k:=0) rfl)).trans (congrArg some (Yo _)))) rfl rfl fun _ K=>?_;refine Jf 4 K M ?_;intro _ K;refine QG ?_;show W _ _ _ _ _ _ _;refine Qc 0 K M ?_
 have e8:(lp++[p]).length=lp.length+1:=by simp
 refine⟨lp.length,false,lp++[p],ks38,rfl,.inr ⟨rfl,Na hnone,rfl,rfl⟩,?_⟩;rw[show l-((lp++[p]).length-lp.length)=l-1 by omega];exact((B.step M).less (.cons _ (.cons _ (.cons_cons _ (.refl _))))).ux

theorem qI{st:St}(hf:Qj st){xp cm mp:Nat}{l:Nat}(H:KF st.h.get Xv xp cm mp .nils [] l)(hi: ∀c,Pj Xv xp cm mp c→c<st.n)(hl1:1≤l)(hl:l≤9223372036854775807): ∃v st',Ev Tryz.prog Q4 136 [.ptr xp 0 0,.agg [.int .i64 0,.int .i64 0]] st v st'∧
  v=.tup [.int .i64 0,.bool true]∧ ∃F' kl',KF st'.h.get F' xp cm mp kl' [(0,0)] (l-1)∧WK st st' (Pj Xv xp cm mp) (Pj F' xp cm mp)∧UH (Pj Xv xp cm mp) st st':=by
 obtain⟨v,st',h1,k,was,lp',kl',h2,h3,F',h4⟩:=RX hf H hi QE hl1 hl (0,0);rcases h3 with⟨_,_,h⟩|⟨rfl,_,rfl,rfl⟩
 ·simp at h
 ·exact⟨v,st',h1,h2,F',kl',h4⟩

theorem T8{st:St}(hf:Qj st){FA FB:Fp}{da db:Nat}{a b:Au}(hDA:UY st FA da a)(hDB:UY st FB db b)(ht:b.tr=a.tr){t:Nat}(ht15:t≤15){mp l:Nat}(hm:Q0 st.h.get mp 0 [iN l,.bool false])(hmA: ¬FA mp)(hmB: ¬FB mp)(hl1:401≤l)(hl:l≤9223372036854775807): ∃v st',Ev Tryz.prog Q4 108 [.ptr da 0 0,.ptr db 0 0,iN t,.ptr mp 0 0] st v st'∧ey st st' a b t v∧UH (fun c=>c=mp) st st':=by
 have wfa:=hDA.wf;have wfb:=hDB.wf;have htr:=wfa.tr;have hp6:=JE htr;have hp0:0<2^a.tr:=Nat.two_pow_pos _;have hlna:=wfa.len;have hlnb:=wfb.len;have hena:a.n=a.acc.length:=rfl;have henb:b.n=b.acc.length:=rfl
 have htp:2^b.tr=2^a.tr:=by rw[ht]
 have hdA: ∀c,FA c→ ¬(Yd mp l false).F c:=fun c hc e=>hmA ((show c=mp from e)▸hc);have hdB: ∀c,FB c→ ¬(Yd mp l false).F c:=fun c hc e=>hmB ((show c=mp from e)▸hc);have B:=Qk.UM (o:=Yd mp l false) hf hm (fun c hc=>(show c=mp from hc)▸hm.lt hf);refine JF Tryz.func108 Tryz.ntmps108 fun T K=>?_;have M:=B.mem;refine Qc 3 K M ?_;intro _ K;refine p1 K (Yp Ul rfl rfl) fun _ K=>?_;refine Qc 2 K M ?_;intro _ K;refine pg K rfl rfl (Yp Ul rfl rfl) fun _ K=>?_;refine Qc 3 K M ?_;intro _ K;obtain⟨v31,st31,ev31,rfl,q31⟩:=Xm M.fresh (hDA.NP (B.step M).JM hdA);refine pg K rfl rfl (Qh rfl ev31) fun _ K=>?_;replace M:=M.quiet q31;refine Qc 1 K M ?_;intro _ K;obtain⟨v33,st33,ev33,rfl,q33⟩:=Xm M.fresh (hDB.NP (B.step M).JM hdB);refine pg K rfl rfl (Qh rfl ev33) fun _ K=>?_;replace M:=M.quiet q33;refine Qc 2 K M ?_;intro _ K;refine xy K (Qg rfl) rfl (fun _ e36 K=>?_) fun _ e36 K=>?_
 ·refine Qc 3 K M ?_;intro _ K;refine Um K (Qg rfl) rfl (fun _ e40 K=>?_) fun _ e40 K=>?_
  ·refine Qc 3 K M ?_;intro _ K;refine JP K rfl (fun h43=>?_) fun h43=>?_
   ·exfalso;omega
   refine Qc 0 K M ?_;intro _ K;replace B:=B.step M;refine Wn Xd K B rfl fun c44 _ _ K B=>?_;have M:=B.mem;refine au 4 K M ?_;intro c47 _ _ K _ M;replace B:=(B.step M).eR;have M:=B.mem;refine Qc 1 K M ?_;intro _ K;refine oQ K M (Xm M.fresh (hDA.NP (B.step M).JM hdA)) rfl rfl fun _ _ K M=>?_;refine au 4 K M ?_;intro c11 _ _ K _ M;refine p1 K (ZC A4 HX ZU Z9 rfl rfl) fun _ K=>?_;replace B:=B.step M;obtain⟨v54,st54,ev54,rfl,F1,kl1,hP1,mf1,Q1⟩:=qI B.fresh (B.at_ (k:=0) rfl) (B.Yu (k:=0) rfl) Qe hl;refine p1 K (Qh rfl ev54) fun _ K=>?_;replace B:=B.call (k:=0) (o':=wR F1 c47 c44 mp kl1 [(0,0)] (l-1)) rfl Q1 hP1 mf1;have M:=B.mem;refine Qc 9 K M ?_;intro _ K;replace B:=B.step M;obtain⟨v60,st60,ev60,nau,q60⟩:=Kb B.fresh (hDA.NP B.JM hdA);refine p1 K (Qh rfl ev60) fun _ K=>?_;obtain⟨kaA,knA,vsA,Ato,FA,rfl,hAto,B⟩:=B.Hu q60 nau;replace B:=B.less (List.sublist_append_left _ _);have hknA:Qu knA=true:=(Xo.rd (B.at_ (k:=0) rfl)).cell;have hkaA:=hAto.cell;have M:=B.mem;refine p1 K (EI rfl ((Zq _).trans (Qf Q5 rfl))) fun _ K=>?_;refine Qc 1 K M ?_;intro _ K;replace B:=B.step M;obtain⟨v63,st63,ev63,nau,q63⟩:=Kb B.fresh (hDB.NP B.JM hdB);refine p1 K (Qh rfl ev63) fun _ K=>?_;obtain⟨kaB,knB,vsB,Ato,FB,rfl,hAto,B⟩:=B.Hu q63 nau;replace B:=B.less (List.sublist_append_left _ _);have hknB:Qu knB=true:=(Xo.rd (B.at_ (k:=0) rfl)).cell;have hkaB:=hAto.cell;have M:=B.mem;refine p1 K (EI rfl ((Zq _).trans (Qf Q5 rfl))) fun _ K=>?_;refine Qc 2 K M ?_;intro _ K;replace B:=(B.step M).Vv;have M:=B.mem;refine Qc 1 K M ?_;intro _ K;refine Jc (fun mm1 T st9=> ∃(i:Nat) (lp:List (Nat×Nat)) (kl:AV) (Fl:Fp) (rows:List (List Int)) (vs:List AV) (Fr:Fp) (ka:AV) (Aa:QU) (kr:AV) (Ar:QU),mm1=400-i∧QY [(0,.ptr da 0 0),(1,.ptr db 0 0),(2,iN t),(10,.ptr c47 0 0),(11,.ptr c11 0 0),(14,knA),(15,knB),(16,iN i)] T∧Qk st (Yd mp l false).F st9 ((c11,0,[iZ (a.tr:Nat),ka,kr])::(Aa++(Ar++[]))) [E8 Fr vs rows,Bu FB knB vsB b.nx,Bu FA knA vsA a.nx,wR Fl c47 c44 mp kl lp (l-lp.length)]∧Vm (NO a b) (0,0) (2^a.tr) lp rows []∧rows.length=i∧i≤lp.length∧lp.length≤400∧Acc 0 1 Aa ka (bC ((lp.take i).map (HV a b t)))∧YO Ar kr vs) (fun mm1 T st9 hI=>?_) _ _ _ ⟨0,[(0,0)],kl1,F1,[],[],_,.nils,[],.nils,[],rfl,(K.sub rfl),(B.step M).less (.refl _),(Vm.start _ _ _),rfl,QE,QE,.none,.none⟩;obtain⟨i,lp,kl,Fl,rows,vs,Fr,ka,Aa,kr,Ar,rfl,K,B,hP,hrl,hil,hlp,hAa,hAr⟩:=hI;have M:=B.mem;have hall:=hP.qO wfa wfb ht;refine Qc 4 K M ?_;intro _ K;refine p1 K (Qd rfl (Qz (KF.row ((B.step M).at_ (k:=3) rfl)).Jd (Qf EA rfl))) fun _ K=>p1 K (Q8 X1 rfl rfl ((UW.len ((B.step M).at_ (k:=3) rfl).acc).trans (congrArg some (Yo _)))) fun _ K=>?_;refine Qc 1 K M ?_;intro _ K;refine JP K rfl (fun h71=>?_) fun h71=>?_
   ·refine Qc 3 K M ?_;intro _ K;refine p1 K (Qd rfl (Qz (KF.row ((B.step M).at_ (k:=3) rfl)).Jd (Qf EA rfl))) fun _ K=>?_;refine Qc 1 K M ?_;intro _ K;obtain⟨pr79,hi79⟩:=U8 lp i Qe;have hpb79:=hall pr79 (List.mem_of_getElem? hi79);obtain⟨x79,m79,f79,q79,_,la79,lo79,lp79⟩:=(UW.rd ((B.step M).at_ (k:=3) rfl).acc).load (i:=i) (cs:=_) (WT hi79);refine p1 K (Qa (j:=i) D5 (congrArg some q79) rfl (by rw[Yo];omega)) fun _ K=>p1 K (Qd rfl (la79 _ OF)) fun _ K=>?_;refine au 4 K M ?_;intro c17 _ _ K _ M;refine p1 K (AB (j:=0) KZ ZU rfl rfl QE) fun _ K=>?_;refine Qc 1 K M ?_;intro _ K;obtain⟨s84,hi84⟩:=U8 a.nx (pr79.1) Qe;obtain⟨w84,hv84,hr84,hz84,hf84⟩:=((B.step M).at_ (k:=2) rfl).vs.at_ _ _ hi84;have hw84:=wfa.row s84 (List.mem_of_getElem? hi84);have hl84:s84.length=2^a.tr:=hw84.1;obtain⟨x84,m84,f84,q84,_,la84,lo84,lp84⟩:=((B.step M).at_ (k:=2) rfl).rd.load (i:=pr79.1) (cs:=_) (by rw[List.getElem?_map,hv84];rfl);refine p1 K (Qa (j:=pr79.1) QV (congrArg some q84) rfl (by rw[List.length_map,((B.step M).at_ (k:=2) rfl).vs.ln];omega)) fun _ K=>p1 K (Qd rfl (lo84 _ 0 _ QZ rfl)) fun _ K=>p1 K (Q8 Jp rfl rfl (hr84.len.trans (congrArg some (Qn _)))) fun _ K=>?_;refine Qc 1 K M ?_;intro _ K;refine Jc (fun mm2 T st9=> ∃(c:Nat) (lp2:List (Nat×Nat)) (kl2:AV) (Fl2:Fp) (row:List Int) (kw:AV) (Aw:QU),mm2=2^a.tr-c∧QY [(0,.ptr da 0 0),(1,.ptr db 0 0),(2,iN t),(10,.ptr c47 0 0),(11,.ptr c11 0 0),(14,knA),(15,knB),(16,iN i),(17,.ptr c17 0 0),(18,kw),(71,.bool (decide (((i:Nat):Int)<((lp.length:Nat):Int)))),(85,w84),(86,iZ (s84.length:Nat)),(87,iN c)] T∧Qk st (Yd mp l false).F st9 ((c17,0,[iZ (pr79.1:Nat),iZ (pr79.2:Nat)])::(c11,0,[iZ (a.tr:Nat),ka,kr])::(Aa++(Ar++(Aw++[])))) [E8 Fr vs rows,Bu FB knB vsB b.nx,Bu FA knA vsA a.nx,wR Fl2 c47 c44 mp kl2 lp2 (l-lp2.length)]∧Vm (NO a b) (0,0) (2^a.tr) lp2 rows row∧row.length=c∧c≤2^a.tr∧lp2.length≤400∧lp2.take (i+1)=lp.take (i+1)∧Acc 0 1 Aw kw (zC row)) (fun mm2 T st9 hI=>?_) _ _ _ ⟨0,lp,kl,Fl,[],.nils,[],rfl,(K.sub rfl),(B.step M).less (.refl _),hP,rfl,(Nat.zero_le _),hlp,rfl,.none⟩;obtain⟨c,lp2,kl2,Fl2,row,kw,Aw,rfl,K,B,hP2,hrow,hcK,hl2,htk,hAw⟩:=hI;have M:=B.mem;have hi2:=Uw htk Qe;refine Qc 1 K M ?_;intro _ K;refine JP K rfl (fun h88=>?_) fun h88=>?_
    ·refine Qc 1 K M ?_;intro _ K;obtain⟨y90,hi90⟩:=U8 s84 c Qe;have hb90:=hw84.2 y90 (List.mem_of_getElem? hi90);obtain⟨z90,rfl⟩: ∃m:Nat,y90=((m:Nat):Int):=⟨_,(Int.toNat_of_nonneg hb90.1).symm⟩;obtain⟨x90,m90,f90,q90,_,la90,lo90,lp90⟩:=(Xo.row ((B.step M).at_ (k:=2) rfl) hi84 hv84).load (i:=c) (cs:=_) (Jr hi90);refine p1 K (Qa (j:=c) Qw (congrArg some q90) rfl (by rw[Qn];omega)) fun _ K=>p1 K (Qd rfl (lo90 _ 0 _ Qr rfl)) fun _ K=>?_;refine Qc 5 K M ?_;intro _ K;refine p1 K (AB (j:=1) KZ ZU rfl rfl QE) fun _ K=>?_;refine Qc 1 K M ?_;intro _ K;obtain⟨s98,hi98⟩:=U8 b.nx (pr79.2) Qe;obtain⟨w98,hv98,hr98,hz98,hf98⟩:=((B.step M).at_ (k:=1) rfl).vs.at_ _ _ hi98;have hw98:=wfb.row s98 (List.mem_of_getElem? hi98);have hl98:s98.length=2^b.tr:=hw98.1;obtain⟨x98,m98,f98,q98,_,la98,lo98,lp98⟩:=((B.step M).at_ (k:=1) rfl).rd.load (i:=pr79.2) (cs:=_) (by rw[List.getElem?_map,hv98];rfl);refine p1 K (Qa (j:=pr79.2) QV (congrArg some q98) rfl (by rw[List.length_map,((B.step M).at_ (k:=1) rfl).vs.ln];omega)) fun _ K=>p1 K (Qd rfl (lo98 _ 0 _ QZ rfl)) fun _ K=>?_;refine Qc 1 K M ?_;intro _ K;obtain⟨y101,hi101⟩:=U8 s98 c Qe;have hb101:=hw98.2 y101 (List.mem_of_getElem? hi101);obtain⟨z101,rfl⟩: ∃m:Nat,y101=((m:Nat):Int):=⟨_,(Int.toNat_of_nonneg hb101.1).symm⟩;obtain⟨x101,m101,f101,q101,_,la101,lo101,lp101⟩:=(Xo.row ((B.step M).at_ (k:=1) rfl) hi98 hv98).load (i:=c) (cs:=_) (Jr hi101);refine p1 K (Qa (j:=c) Qw (congrArg some q101) rfl (by rw[Qn];omega)) fun _ K=>p1 K (Qd rfl (lo101 _ 0 _ Qr rfl)) fun _ K=>p1 K (ZC A4 HX ZU Z9 rfl rfl) fun _ K=>?_;replace B:=B.step M;obtain⟨v104,st104,ev104,k3,was3,lp3,kl3,rfl,hnum,F3,hP3m,mf3,Q3⟩:=RX B.fresh (B.at_ (k:=3) rfl) (B.Yu (k:=3) rfl) hl2 Qe Qe (z90,z101);refine p1 K (Qh rfl ev104) fun _ K=>?_;have hnl:=hnum.len;rw[show l-lp2.length-(lp3.length-lp2.length)=l-lp3.length by omega]at hP3m;replace B:=B.call (k:=3) (o':=wR F3 c47 c44 mp kl3 lp3 (l-lp3.length)) rfl Q3 hP3m mf3;have M:=B.mem;refine Qc 7 K M ?_;intro _ K;refine Qq (K.QI rfl) (fun h108=>?_) (fun h108=>?_)
     ·have hb108:=h108
      replace h108: ¬((lp3.length:Int)≤400):=by first|exact of_decide_eq_false h108|exact yF h108|simpa using h108
      refine Qc 2 K M ?_
      have hgo:NO a b pr79 row.length=(z90,z101):=by unfold NO;rw[hrow,JH hi84 hi90,JH hi98 hi101];rfl
      have hP3:=hnum.pr hP2 Qe (show lp2[rows.length]? =some pr79 by rw[hrl];exact XX htk hi79) hgo
      have h401:lp3.length=401:=by omega
      exact⟨.inr ⟨rfl,lp3,h401,hP3.nodup,fun Q h0 hs p hp=>hP3.all h0 hs (Nat.two_pow_pos _) hp⟩,(B.step M).JM⟩
     have hb108:=h108
     replace h108:((lp3.length:Int)≤400):=by first|exact of_decide_eq_true h108|exact yT h108|simpa using h108
     refine au 3 K M ?_;intro c111 _ _ K _ M;refine Je (k2:=0) (L:=((c111,0,[iN k3])::(c17,0,[iZ (pr79.1:Nat),iZ (pr79.2:Nat)])::(c11,0,[iZ (a.tr:Nat),ka,kr])::(Aa++(Ar++[])))) (A:=Aw) (B:=[]) K (Mem.cast (M:=((c111,0,[iN k3])::(c17,0,[iZ (pr79.1:Nat),iZ (pr79.2:Nat)])::(c11,0,[iZ (a.tr:Nat),ka,kr])::(Aa++(Ar++(Aw++[]))))) (M':=((c111,0,[iN k3])::(c17,0,[iZ (pr79.1:Nat),iZ (pr79.2:Nat)])::(c11,0,[iZ (a.tr:Nat),ka,kr])::(Aa++(Ar++[])))++(Aw++[])) M Uz) hAw QM rfl rfl rfl rfl (by rw[Qn];omega) rfl fun ks112 A112 _ _ K hA112 M=>?_;simp only[List.append_assoc,List.cons_append,List.nil_append,List.set_cons_zero,List.set_cons_succ]at M;refine Qc 3 K M ?_;intro _ K
     have hgo:NO a b pr79 row.length=(z90,z101):=by unfold NO;rw[hrow,JH hi84 hi90,JH hi98 hi101];rfl
     have hP3:=hnum.pr hP2 Qe (show lp2[rows.length]? =some pr79 by rw[hrl];exact XX htk hi79) hgo;exact⟨_,Qe,c+1,lp3,kl3,F3,(row++[((k3:Nat):Int)]),ks112,A112,rfl,(K.sub rfl),(B.step M).less (.cons _ (.refl _)),hP3,(by rw[List.length_append,hrow];rfl),Qe,Qe,(by rw[hnum.take hi2,htk]),(by rw[JV];exact hA112)⟩
    refine QT ?_;show W _ _ _ _ _ _ _;refine Qc 1 K M ?_;intro _ K;refine p1 K (Qd rfl (M.load (k:=1) rfl (Qf Q5 rfl))) fun _ K=>?_;refine Qc 1 K M ?_;intro _ K;refine Xy K M QR Uv rfl ((J9 rfl hAw.cell rfl).trans rfl) (Qb hAw.cell Q7) rfl rfl fun c117 _ _ K M=>?_;refine YG (k2:=0) (L:=((c117,0,[kw])::(c17,0,[iZ (pr79.1:Nat),iZ (pr79.2:Nat)])::(c11,0,[iZ (a.tr:Nat),ka,kr])::(Aa++[]))) (A:=Ar) (B:=(Aw++[])) K (Mem.cast (M:=((c117,0,[kw])::(c17,0,[iZ (pr79.1:Nat),iZ (pr79.2:Nat)])::(c11,0,[iZ (a.tr:Nat),ka,kr])::(Aa++(Ar++(Aw++[]))))) (M':=((c117,0,[kw])::(c17,0,[iZ (pr79.1:Nat),iZ (pr79.2:Nat)])::(c11,0,[iZ (a.tr:Nat),ka,kr])::(Aa++[]))++(Ar++(Aw++[]))) M Uz) hAr QR rfl rfl rfl (by have:=YN.ln ((B.step M).at_ (k:=0) rfl);omega) rfl fun ks118 A118 _ _ K hA118 _ M=>?_;simp only[List.append_assoc,List.cons_append,List.nil_append,List.set_cons_zero,List.set_cons_succ]at M;refine Qc 1 K M ?_;intro _ K;refine Jh (k:=2) K M rfl rfl rfl Ux (hA118.cell) rfl fun _ M=>?_;refine Un ?_;show W _ _ _ _ _ _ _;refine QD (l:=[(3,0),(4,0),(5,0),(6,0),(7,0),(9,0),(10,0),(11,2),(12,0),(13,0),(0,0),(1,4),(2,0),(8,0),(14,0),(15,0),(16,0),(17,0),(18,0),(19,0),(20,0),(21,0)]) (by kernel_rfl) ?_;have Mq:=M;have Mz0:=M;have Bz0:=B;refine q1 rfl K (Qg rfl) fun _ K=>q1 rfl K (AB (j:=0) KZ ZU rfl rfl QE) fun _ K=>?_;refine Jf 1 K M ?_;intro _ K;obtain⟨v126,st126,ev126,rfl,q126⟩:=V5 M.fresh (hDA.NP (B.step M).JM hdA) (s:=pr79.1) Qe;refine qA rfl K (Qh rfl ev126) fun _ K=>?_;replace M:=M.quiet q126;have Mp:=Mq;have Mq:=M;have Mz1:=M;have Bz1:=B;obtain⟨v127,st127,ev127,rfl,q127⟩:=uM M.fresh (a.ok pr79.1);refine qA rfl K (Qh rfl ev127) fun _ K=>?_;have hbt127:=SU (a.ok pr79.1);replace M:=M.quiet q127;have Mp:=Mq;have Mq:=M;have Mz2:=M;have Bz2:=B;refine q1 rfl K (Qg rfl) fun _ K=>q1 rfl K (AB (j:=1) KZ ZU rfl rfl QE) fun _ K=>?_
    refine Wp rfl K rfl (M.load (k:=1) rfl (Qf Qr rfl)) QA (by intro s hs;simp only[List.take_succ_cons,List.take_zero,List.mem_cons,List.not_mem_nil,or_false]at hs;rcases hs with rfl|rfl<;>first|exact(Mz1.load (k:=1) rfl (Qf Qr rfl))|exact(Mz0.load (k:=1) rfl (Qf Qr rfl))) (JR rfl) rfl QE fun _ K=>?_
    obtain⟨v132,st132,ev132,rfl,q132⟩:=V5 M.fresh (hDB.NP (B.step M).JM hdB) (s:=pr79.2) Qe;refine qA rfl K (Qh rfl ev132) fun _ K=>?_;replace M:=M.quiet q132;have Mp:=Mq;have Mq:=M;have Mz3:=M;have Bz3:=B;obtain⟨v133,st133,ev133,rfl,q133⟩:=uM M.fresh (b.ok pr79.2);refine qA rfl K (Qh rfl ev133) fun _ K=>?_;have hbt133:=SU (b.ok pr79.2);replace M:=M.quiet q133;have Mp:=Mq;have Mq:=M;have Mz4:=M;have Bz4:=B;refine Jf 1 K M ?_;intro _ K
    refine Wp rfl K rfl (M.load (k:=2) rfl (Qf Us rfl)) QA (by intro s hs;simp only[List.take_succ_cons,List.take_zero,List.mem_cons,List.not_mem_nil,or_false]at hs;rcases hs with rfl|rfl|rfl|rfl<;>first|exact(Mz3.load (k:=2) rfl (Qf Us rfl))|exact(Mz2.load (k:=2) rfl (Qf Us rfl))|exact(Mz1.load (k:=2) rfl (Qf Us rfl))|exact(Mz0.load (k:=2) rfl (Qf Us rfl))) (JR (JL hAa.len)) rfl QE fun _ K=>?_
    refine q1 rfl K (Qg rfl) fun _ K=>q1 rfl K (zg (n:=(Ek (a.ok pr79.1))) rfl rfl Qe) fun _ K=>?_;refine Jf 1 K M ?_;intro _ K;refine q1 rfl K (Xs (a:=t) (n:=((2 *(Ek (a.ok pr79.1)))+(Ek (b.ok pr79.2)))) rfl rfl Qe) fun _ K=>q1 rfl K (Xu (a:=(t/2^(((2 *(Ek (a.ok pr79.1)))+(Ek (b.ok pr79.2)))))) rfl rfl (Nat.le_trans (Nat.div_le_self _ _) Qe)) fun _ K=>q1 rfl K (ja rfl rfl) fun _ K=>?_;refine XR rfl K M J3 XU rfl rfl rfl rfl rfl fun c138 _ _ K M=>?_;refine Xz (k2:=0) (L:=[(c138,0,[.bool (decide (((((t/2^(((2 *(Ek (a.ok pr79.1)))+(Ek (b.ok pr79.2))))) % 2):Nat):Int)=1))]),(c117,0,[kw]),(c17,0,[iZ (pr79.1:Nat),iZ (pr79.2:Nat)]),(c11,0,[iZ (a.tr:Nat),ka,ks118])]) (A:=Aa) (B:=(A118++(Aw++[]))) rfl K M hAa J3 rfl rfl rfl rfl (by rw[Jw,List.length_map,List.length_take];omega) rfl fun ks139 A139 _ _ K hA139 M=>?_;have Mp:=Mq;have Mq:=M;have Mz5:=M;have Bz5:=B;refine Jf 1 K M ?_;intro _ K;refine Zc (k:=3) rfl K M rfl rfl rfl UF (hA139.cell) rfl fun _ M=>?_;have Mp:=Mq;have Mq:=M;have Mz6:=M;have Bz6:=B;refine QG ?_;show W _ _ _ _ _ _ _;refine Qc 3 K M ?_;intro _ K;replace B:=B.step M;obtain⟨Fr,B⟩:=Qk.Z5 (L:=((c138,0,[.bool (decide (((((t/2^(((2 *(Ek (a.ok pr79.1)))+(Ek (b.ok pr79.2))))) % 2):Nat):Int)=1))])::(c117,0,[kw])::(c17,0,[iZ (pr79.1:Nat),iZ (pr79.2:Nat)])::(c11,0,[iZ (a.tr:Nat),ks139,ks118])::(A139++(A118++[])))) (A:=Aw) (B:=[]) (B.cast Uz) hAw (hP2.AQ hl2);replace B:=B.cast (M':=((c138,0,[.bool (decide (((((t/2^(((2 *(Ek (a.ok pr79.1)))+(Ek (b.ok pr79.2))))) % 2):Nat):Int)=1))])::(c117,0,[kw])::(c17,0,[iZ (pr79.1:Nat),iZ (pr79.2:Nat)])::(c11,0,[iZ (a.tr:Nat),ks139,ks118])::(A139++(A118++[])))) Uz;have M:=B.mem;have hi2:=Uw htk Qe
    have htq:lp.take (i+1)=lp.take i++[pr79]:=by rw[List.take_add_one,hi79];rfl
    exact⟨_,Qe,i+1,lp2,kl2,Fl2,(rows++[row]),_,_,ks139,A139,ks118,A118,rfl,(K.sub rfl),(B.step M).less (.cons _ (.cons _ (.cons _ (.refl _)))),(hP2.whole Qe),(by rw[List.length_append,hrl];rfl),hi2,hl2,(by rw[htk,htq,List.map_append,XK,show bC ([pr79].map (HV a b t))=[[AV.bool (HV a b t pr79)]]from rfl,show HV a b t pr79=_ from yI t _ _];exact hA139),hA118⟩
   refine QT ?_;show W _ _ _ _ _ _ _;refine Qc 1 K M ?_;intro _ K;replace B:=B.step M;have hlt:lp.take i=lp:=List.take_of_length_le Qe;rw[hlt]at hAa;have hMd:=hP.made (p:=HV a b t) (m:=⟨a.tr,lp.map (HV a b t),rows⟩) (by show rows.length=_;omega) rfl htr hlp;obtain⟨Fo,B⟩:=Qk.GC (L:=((c11,0,[iZ (a.tr:Nat),ka,kr])::(Aa++[]))) (A:=Ar) (B:=[]) (B.cast Uz) hAr;replace B:=B.cast (M':=((c11,0,[iZ (a.tr:Nat),ka,kr])::(Aa++[]))) Uz;have M:=B.mem;obtain⟨v142,st142,ev142,dp2,F2,rfl,hD2,nf2,q142⟩:=WJ (a:=⟨a.tr,lp.map (HV a b t),rows⟩) B.fresh hMd.wf (Mem.Yx (L:=[(c11,0,[iZ (a.tr:Nat),ka,kr])]) (A:=Aa) (B:=[]) M hAa) (Xo.r (B.at_ (k:=0) rfl));refine p1 K (Qh rfl ev142) fun _ K=>?_;have hle0:=B.le;replace B:=B.quiet q142;have M:=B.mem;refine Qc 4 K M ?_;exact⟨.inl ⟨dp2,F2,lp,_,rfl,⟨hMd,rfl⟩,hD2,fun c hc=>⟨Nat.le_trans hle0 (nf2 c hc).1,(nf2 c hc).2⟩⟩,(B.step M).JM⟩
  exfalso;omega
 exfalso;omega
end Go.Proofs.YtiknomepbklibaaGreatDoor
