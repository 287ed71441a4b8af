/-
  Both of two automata, and not: the program's.
-/
import Derived.Test.YtildagdnomiahaaGreatDoorQvR20B
import Derived.Test.YtildagdnomiahaaGreatDoorQvEnt
namespace Go.Proofs.YtildagdnomiahaaGreatDoor
open Go Go.RowKit
set_option maxHeartbeats 8000000
set_option linter.unusedVariables false
set_option linter.unusedSimpArgs false
set_option linter.unnecessarySimpa false
set_option maxRecDepth 100000

structure Kw(h:Hp)(F:Fp)(xp cm mp:Nat)(kl:AV)(lp:List (Nat×Nat))(l:Nat):Prop where
 acc:Ec h F 2 kl (TV lp)
 map:(VB cm ZF (Uo 0 lp)).H h
 met:(YH mp l false).H h
 row:Qu h xp 0 [.mp cm,kl,.ptr mp 0 0]
 d1: ¬F xp
 d2: ¬F cm
 d3: ¬F mp
 d4:xp≠cm
 d5:xp≠mp
 d6:cm≠mp
def P1(F:Fp)(xp cm mp:Nat):Fp:=fun c=>F c∨c=cm∨c=mp∨c=xp
section
variable {st0 st st':St} {X0 F F':Fp} {M A:QP} {Os:List Ob} {xp cm mp l l':Nat} {kl kl':AV} {lp lp':List (Nat×Nat)}
theorem Kw.frame{h h':Hp}(e: ∀c,P1 F xp cm mp c→h' c=h c)(H:Kw h F xp cm mp kl lp l):Kw h' F xp cm mp kl lp l:=
 ⟨(RY F 2 kl (TV lp)).fr _ _ (fun c hc=>e c (.inl hc)) H.acc,(VB cm ZF (Uo 0 lp)).fr _ _ (fun c hc=>e c (.inr (.inl hc))) H.map,(YH mp l false).fr _ _ (fun c hc=>e c (.inr (.inr (.inl hc)))) H.met,H.row.frame (e xp (.inr (.inr (.inr rfl)))),H.d1,H.d2,H.d3,H.d4,H.d5,H.d6⟩
def iv(F:Fp)(xp cm mp:Nat)(kl:AV)(lp:List (Nat×Nat))(l:Nat):Ob:=⟨P1 F xp cm mp,fun h=>Kw h F xp cm mp kl lp l,fun _ _ e H=>H.frame e⟩
theorem Ql.xe(hf:Qh st)(H:Kw st.h.get F xp cm mp kl lp l)(hi: ∀c,P1 F xp cm mp c→c<st.n):Ql st (P1 F xp cm mp) st [(xp,0,[.mp cm,kl,.ptr mp 0 0])] [RY F 2 kl (TV lp),VB cm ZF (Uo 0 lp),YH mp l false]:=by
 refine⟨hf,Nat.le_refl _,fun c m x h=>?_,by simp,fun c m x h=>?_,fun o h=>?_,fun o h c hc=>?_,?_,fun o h c m x hm hc=>?_,fun _ _ _=>rfl⟩
 ·simp at h;obtain⟨rfl,rfl,rfl⟩:=h;exact H.row
 ·simp at h;obtain⟨rfl,rfl,rfl⟩:=h;exact .inr (.inr (.inr (.inr rfl)))
 ·simp at h;rcases h with rfl|rfl|rfl
  ·exact H.acc
  ·exact H.map
  ·exact H.met
 ·simp at h;rcases h with rfl|rfl|rfl
  ·exact⟨hi c (.inl hc),.inr (.inl hc)⟩
  ·exact⟨hi c (.inr (.inl hc)),.inr (.inr (.inl hc))⟩
  ·exact⟨hi c (.inr (.inr (.inl hc))),.inr (.inr (.inr (.inl hc)))⟩
 ·refine List.pairwise_cons.2 ⟨fun o h c h1 h2=>?_,List.pairwise_cons.2 ⟨fun o h c h1 h2=>?_,List.pairwise_singleton _ _⟩⟩
  ·simp at h;rcases h with rfl|rfl
   ·exact H.d2 ((show c=cm from h2)▸h1)
   ·exact H.d3 ((show c=mp from h2)▸h1)
  ·rw[List.mem_singleton.1 h]at h2;exact H.d6 ((show c=cm from h1).symm.trans (show c=mp from h2))
 ·simp at hm;obtain⟨rfl,rfl,rfl⟩:=hm
  simp at h;rcases h with rfl|rfl|rfl
  ·exact H.d1 hc
  ·exact H.d4 hc
  ·exact H.d5 hc
theorem Ql.yz(B:Ql st (P1 F xp cm mp) st' [(xp,0,[.mp cm,kl',.ptr mp 0 0])] [RY F' 2 kl' (TV lp'),VB cm ZF (Uo 0 lp'),YH mp l' false]): ∃F',Kw st'.h.get F' xp cm mp kl' lp' l'∧EV st st' (P1 F xp cm mp) (P1 F' xp cm mp)∧YA (P1 F xp cm mp) st st':=by
 have hp:=List.pairwise_cons.1 B.dj;have hp2:=(List.pairwise_cons.1 hp.2).1 (YH mp l' false) Qx;have hr:=fun o ho=>B.djM o ho xp 0 _ (List.mem_singleton.2 rfl);refine⟨F',⟨B.at_ (k:=0) rfl,B.at_ (k:=1) rfl,B.at_ (k:=2) rfl,B.row _ _ _ (List.mem_singleton.2 rfl),hr (RY F' 2 kl' (TV lp')) Qx,fun h=>hp.1 (VB cm ZF (Uo 0 lp')) Qx cm h rfl,fun h=>hp.1 (YH mp l' false) Qx mp h rfl,fun e=>hr (VB cm ZF (Uo 0 lp')) Qx e,fun e=>hr (YH mp l' false) Qx e,fun e=>hp2 cm rfl e⟩,fun c hc=>?_,B.U7⟩;rcases hc with hc|hc|hc|hc
 ·exact⟨(B.Rm (k:=0) rfl c hc).symm,B.VM (k:=0) rfl c hc⟩
 ·exact⟨(B.Rm (k:=1) rfl c hc).symm,B.VM (k:=1) rfl c hc⟩
 ·exact⟨(B.Rm (k:=2) rfl c hc).symm,B.VM (k:=2) rfl c hc⟩
 ·subst hc;exact⟨.inl (.inr (.inr (.inr rfl))),(B.row c 0 _ (List.mem_singleton.2 rfl)).lt B.fresh⟩
theorem Ql.l7(B:Ql st0 X0 st ((xp,0,[.mp cm,.nils,.ptr mp 0 0])::M) (VB cm ZF []::YH mp l false::Os)):Ql st0 X0 st M (iv Ei xp cm mp .nils [] l::Os):=by
 have d1:=B.djM (VB cm ZF []) Qx xp 0 _ (List.mem_cons_self ..);have d2:=B.djM (YH mp l false) Qx xp 0 _ (List.mem_cons_self ..);have d3:=(List.pairwise_cons.1 B.dj).1 (YH mp l false) Qx;have B1:=Ql.freeze (R:=[(xp,0,[.mp cm,.nils,.ptr mp 0 0])]) (o:=Xl [(xp,0,[.mp cm,.nils,.ptr mp 0 0])]) (M:=M) B (fun c m x h=>B.row c m x (by rw[List.mem_singleton.1 h];exact List.mem_cons_self ..)) (fun c hc=>hc)
 have B2:=B1.join (o:=⟨fun c=>c=xp∨c=cm,fun h=>Qu h xp 0 [.mp cm,.nils,.ptr mp 0 0]∧(VB cm ZF []).H h,fun h h' e H=>⟨H.1.frame (e xp (.inl rfl)),(VB cm ZF []).fr _ _ (fun c hc=>e c (.inr hc)) H.2⟩⟩) (fun h1 h2=>⟨h1 xp 0 _ (List.mem_singleton.2 rfl),h2⟩) (fun c hc=>by
  rcases hc with hc|hc
  ·exact .inl ⟨0,_,by rw[hc];exact List.mem_singleton.2 rfl⟩
  ·exact .inr hc)
 refine B2.join (fun h1 h2=>⟨⟨[],.none,fun c m l h=>by cases h⟩,h1.2,h2,h1.1,id,id,id,fun e=>d1 e,fun e=>d2 e,fun e=>d3 cm rfl e⟩) (fun c hc=>?_);rcases hc with hc|hc|hc|hc
 ·exact hc.elim
 ·exact .inl (.inr hc)
 ·exact .inr hc
 ·exact .inl (.inl hc)
end
theorem Zw.row{h:Hp}{F:Fp}{kn:AV}{vs:List AV}{LL:List (List Int)}(H:Zw h F kn vs LL){i:Nat}{s:List Int}{w:AV}(hi:LL[i]? =some s)(hv:vs[i]? =some w):Jg h [] 1 (zC s) w:=by
 obtain⟨w',k1,k2,_⟩:=H.vs.at_ _ _ hi;rw[hv]at k1
 injection k1 with k1
 rw[k1];exact k2
def WS(b:Bool):Nat:=if b then 1 else 0
theorem Tq(b:Bool):WS b≤1:=by cases b<;>decide
theorem zZ(t:Nat)(x y:Bool):ef t x y=decide (((t/2^(2 *WS x+WS y) % 2:Nat):Int)=1):=by
 rw[←zY];cases x<;>cases y<;>rfl
theorem xE{P:Program}{G:Env}{K:List (Nat×AV)}{st:St}{t yt:TypeId}{x y:Operand}{n:Nat}(hx:QG G K x=some (.int .i64 2))(hy:QG G K y=some (.int .i64 (n:Nat)))(h1:n≤1):Us P G K (.binOp .mul t x y yt) st (.int .i64 (2 *n:Nat)) st:=by
 rw[show((2 *n:Nat):Int)=2 *((n:Nat):Int) by omega];exact S5 hx hy (IntWalk.i64_in _ Qd)
def kN(st st':St)(a b:Au)(t:Nat)(v:AV):Prop:=
 (∃dp F lp m,v=.tup [.ptr dp 0 0,.int .i64 0]∧G5 a b t lp m∧JH st' F dp m∧Vn st st' F)∨
 (v=.tup [.nilp,.int .i64 8]∧ ∃(lp:List (Nat×Nat)),lp.length=401∧lp.Nodup∧ ∀(Q:Nat×Nat→Prop),Q (0,0)→(∀p c,Q p→c<2^a.tr→Q (SS a b p c))→ ∀p∈lp,Q p)

theorem xz{st:St}(hf:Qh st){F:Fp}{dp:Nat}{a:Au}(hD:JH st F dp a): ∃v st',QV 201 [.ptr dp 0 0] st v st'∧ ∃dp2 F2,v=.tup [.ptr dp2 0 0,iZ 0]∧JH st' F2 dp2 a.neg∧Vn st st' F2∧Qt st st':=by
 have wf:=hD.wf;have hps:=wf.pos;have hmo:=wf.most;have hln:=wf.len;have hen:a.n=a.acc.length:=rfl;have htr:=wf.tr;have B:=Ql.start hf;refine Jv Tryz.func201 Tryz.ntmps201 fun T K=>?_;have M:=B.mem;refine Qb 3 K M fun _ K=>?_;refine p1 K (UA J7 rfl rfl) fun _ K=>?_;refine Qb 2 K M fun _ K=>?_;replace B:=B.step M;obtain⟨v10,st10,ev10,nau10,q10⟩:=H3 B.fresh (hD.q B.qt);refine p1 K (Qf rfl ev10) fun _ K=>?_;obtain⟨_,kn,vs,_,Fn,rfl,hAa,B⟩:=B.He q10 nau10;obtain⟨ca,ma,rfl,rfl⟩:=Acc.wv (f:=AV.bool) (L:=a.acc) hAa Qd;have hnc:Qw kn=true:=(B.at_ (k:=0) rfl).rd.cell;replace B:=B.cast (M':=[(ca,ma,(a.acc.map AV.bool))]) Qx;have M:=B.mem;refine au 1 K M ?_;intro c4 _ _ K _ M;refine Uh (k:=0) K M rfl rfl rfl Xh rfl (Qa rfl (Qa rfl (Qa hnc QL))) rfl fun _ M=>?_;refine Qb 4 K M fun _ K=>?_;refine Je (fun mm1 T st9=> ∃(i:Nat) (cur:List Bool),mm1=a.acc.length-i∧QH [(2,.nilp),(3,iZ 0),(4,.ptr c4 0 0),(12,.sl ca ma 0 a.acc.length 1),(13,iZ (a.acc.length:Nat)),(14,iN i)] T∧Ql st Ei st9 [(c4,0,[iZ (a.tr:Nat),.sl ca ma 0 a.acc.length 1,kn]),(ca,ma,(cur.map AV.bool))] [Oc Fn kn vs a.nx]∧cur.length=a.acc.length∧(∀(j:Nat) (y:Bool),a.acc[j]? =some y→cur[j]? =some (if j<i then !y else y))∧i≤a.acc.length) (fun mm1 T st9 hI=>?_) _ _ _ ⟨0,_,rfl,(K.sub rfl),(B.step M).less (.refl _),rfl,(fun j y h=>h),(Nat.zero_le _)⟩;obtain⟨i,cur,rfl,K,B,hcl,hcu,hil⟩:=hI;have M:=B.mem;refine Qb 1 K M fun _ K=>?_;refine U8 K rfl (fun h15=>?_) fun h15=>?_
 ·refine Qb 1 K M fun _ K=>?_;obtain⟨y17,hi17⟩:=YL cur i Qd;refine p1 K (Qn (j:=i) UI rfl rfl Qd) fun _ K=>p1 K (Qi rfl (M.load (k:=1) rfl (Qc Vt (Ie AV.bool hi17)))) fun _ K=>?_;refine Qb 7 K M fun _ K=>?_;obtain⟨y24,hi24⟩:=YL cur i Qd;refine p1 K (Qn (j:=i) UI rfl rfl Qd) fun _ K=>?_;refine Jk (k:=1) K M rfl rfl rfl Ae rfl (E1 AV.bool (!(y17)) Qd) fun _ M=>?_;refine Qb 2 K M fun _ K=>?_;obtain⟨y0,hy0⟩:=YL a.acc i Qd;have hy1:=hcu i y0 hy0;rw[if_neg Qd,hi17]at hy1
  injection hy1 with hy1
  exact⟨_,Qd,i+1,(cur.set i (!(y17))),rfl,(K.sub rfl),(B.step M).less (.refl _),(by rw[List.length_set];exact hcl),(fun j y h=>by
  rw[List.getElem?_set]
  by_cases e:i=j
  ·subst e;rw[if_pos rfl,if_pos Qd,if_pos Qd,hy1];rw[hy0]at h;injection h with h;rw[h]
  ·rw[if_neg e,hcu j y h];by_cases h2:j<i
   ·rw[if_pos h2,if_pos Qd]
   ·rw[if_neg h2,if_neg Qd]),Qd⟩
 refine QM ?_;show W _ _ _ _ _ _ _;refine Qb 1 K M fun _ K=>?_;replace B:=B.step M
 have hcur:cur=a.acc.map (!·):=by
  apply List.ext_getElem?;intro j
  by_cases hj:j<a.acc.length
  ·obtain⟨y,hy⟩: ∃x,a.acc[j]? =some x:=⟨_,List.getElem?_eq_getElem hj⟩;rw[hcu j y hy,List.getElem?_map,hy,if_pos Qd];rfl
  ·rw[List.getElem?_eq_none Qd,List.getElem?_eq_none (by rw[List.length_map];omega)]
 subst hcur;obtain⟨v27,st27,ev27,dp2,F2,rfl,hD2,nf2,q27⟩:=Wz (a:=a.neg) B.fresh (uc wf) (Qu.ly (f:=AV.bool) (L:=a.acc.map (!·)) (B.row ca ma _ Qx) Qd Qd) (B.at_ (k:=0) rfl).r;refine p1 K (Qf rfl ev27) fun _ K=>?_;replace B:=B.new (o:=EJ F2 dp2 a.neg) q27 hD2.at_ nf2;have M:=B.mem;refine Qb 4 K M ?_;exact⟨dp2,F2,rfl,B.RE (k:=0) rfl,(B.step M).ve (k:=0) rfl,(B.step M).qt⟩

theorem yW{st:St}(hf:Qh st)(b:Bool): ∃v st',QV 245 [.bool b] st v st'∧v=iZ (WS b:Nat)∧Qt st st':=by
 refine Jv Tryz.func245 Tryz.ntmps245 fun T K=>?_;have M:=Mem.start hf;refine Qb 2 K M fun _ K=>?_;refine UJ K rfl (fun h3=>?_) fun h3=>?_
 ·have hb3:=h3;refine Qb 1 K M ?_;refine⟨?_,M.qt⟩
  first|(rw[show b=true by simp_all];rfl)|(rw[show b=false by simp_all];rfl)
 have hb3:=h3;refine Qb 1 K M ?_;refine⟨?_,M.qt⟩
 first|(rw[show b=true by simp_all];rfl)|(rw[show b=false by simp_all];rfl)

theorem Sz{st:St}(hf:Qh st){F:Fp}{xp cm mp:Nat}{kl:AV}{lp:List (Nat×Nat)}{l:Nat}(H:Kw st.h.get F xp cm mp kl lp l)(hi: ∀c,P1 F xp cm mp c→c<st.n)(hL:lp.length≤400)(hl1:1≤l)(hl:l≤9223372036854775807)(p:Nat×Nat): ∃v st',QV 244 [.ptr xp 0 0,.agg [iZ (p.1:Nat),iZ (p.2:Nat)]] st v st'∧ ∃k was lp' kl',v=.tup [iN k,.bool (decide ((lp'.length:Int)≤400))]∧NG lp p lp' k was∧ ∃F',Kw st'.h.get F' xp cm mp kl' lp' (l-(lp'.length-lp.length))∧EV st st' (P1 F xp cm mp) (P1 F' xp cm mp)∧YA (P1 F xp cm mp) st st':=by
 have B:=Ql.xe hf H hi;have hkc:=H.acc.cell;refine Jv Tryz.func244 Tryz.ntmps244 fun T K=>?_;have M:=B.mem;refine au 3 K M ?_;intro c3 _ _ K _ M;refine QT (l:=[(0,0),(1,0),(2,0),(3,0),(4,0),(5,0),(6,0),(7,0),(8,0),(9,0),(10,0)]) (by kernel_rfl) ?_;refine UT 5 K M fun _ K=>?_;refine qA rfl K (Wd (a:=p) Wk ((B.step M).at_ (k:=1) rfl) rfl rfl) fun _ K=>?_;refine UT 5 K M fun _ K=>?_;refine Jd ?_;show W _ _ _ _ _ _ _;refine Qb 1 K M fun _ K=>?_;refine UJ K rfl (fun h18=>?_) fun h18=>?_
 ·have hb18:=h18;refine Qb 3 K M ?_
  obtain⟨v0,hv0⟩: ∃x,U9 (Uo 0 lp) p=some x:=by cases hq:U9 (Uo 0 lp) p with|none=>rw[hq]at h18;cases h18|some x=>exact⟨x,rfl⟩
  obtain⟨i,hi,rfl⟩:=LO hv0;refine⟨i,true,lp,kl,?_,.inl ⟨rfl,rfl,hi⟩,?_⟩
  ·rw[hv0,decide_eq_true (show(lp.length:Int)≤400 by omega)];rfl
  ·rw[show l-(lp.length-lp.length)=l by omega];exact((B.step M).less (.cons _ (.cons_cons _ (.refl _)))).yz
 have hb18:=h18;refine Qb 0 K M fun _ K=>?_
 have hnone:U9 (Uo 0 lp) p=none:=by cases hq:U9 (Uo 0 lp) p with|none=>rfl|some x=>rw[hq]at h18;cases h18
 refine Qb 4 K M fun _ K=>?_;refine p1 K (Q0 Xf rfl rfl ((Ec.len ((B.step M).at_ (k:=0) rfl)).trans (congrArg some (KE _)))) fun _ K=>?_;refine Qb 1 K M fun _ K=>?_;refine QT (l:=[(0,0),(1,0),(2,0),(3,0),(4,0),(5,0),(6,0)]) (by kernel_rfl) ?_;refine UT 6 K M fun _ K=>?_;replace B:=B.step M;refine zJ (j:=1) (a:=p) rfl K B rfl Wk rfl rfl rfl rfl hnone fun _ B=>?_;rw[show Uo 0 lp++[(p,iZ (lp.length:Nat))]=Uo 0 (lp++[p]) by rw[A9,Nat.zero_add]]at B;have M:=B.mem;refine Jd ?_;show W _ _ _ _ _ _ _;refine Xc ?_;replace B:=B.step M;obtain⟨Al,hAl,B⟩:=B.xM
 replace B:=(B.perm List.perm_append_comm).cast (M':=((c3,0,[iZ (p.1:Nat),iZ (p.2:Nat)])::(xp,0,[.mp cm,kl,.ptr mp 0 0])::(Al++[]))) (by simp<;>rfl)
 have M:=B.mem;refine QT (l:=[(1,0),(2,0),(3,0),(4,0),(5,0),(6,0),(7,0),(0,0),(8,0),(9,0),(10,0)]) (by kernel_rfl) ?_;refine UT 5 K M fun _ K=>?_;refine Eo rfl K M Eu Zo rfl rfl rfl rfl rfl fun c37 _ _ K M=>?_;refine Zx (k2:=0) (L:=[(c37,0,[iZ (p.1:Nat),iZ (p.2:Nat)]),(c3,0,[iZ (p.1:Nat),iZ (p.2:Nat)]),(xp,0,[.mp cm,kl,.ptr mp 0 0])]) (B:=[]) rfl K M hAl Eu rfl rfl rfl rfl (by rw[KE];omega) rfl fun ks38 A38 _ _ K hA38 M=>?_;refine UT 3 K M fun _ K=>?_;refine XJ (k:=2) rfl K M rfl rfl rfl IB (hA38.cell) rfl fun _ M=>?_;refine Jd ?_;show W _ _ _ _ _ _ _;refine Xc ?_;replace B:=B.step M
 obtain⟨F2,B⟩:=Ql.yL (M:=[(c37,0,[iZ (p.1:Nat),iZ (p.2:Nat)]),(c3,0,[iZ (p.1:Nat),iZ (p.2:Nat)]),(xp,0,[.mp cm,ks38,.ptr mp 0 0])]) (A:=A38) (ks:=ks38) (z:=2) (ls:=TV (lp++[p])) ((B.cast (M':=[(c37,0,[iZ (p.1:Nat),iZ (p.2:Nat)]),(c3,0,[iZ (p.1:Nat),iZ (p.2:Nat)]),(xp,0,[.mp cm,ks38,.ptr mp 0 0])]++A38) (by simp<;>rfl)).perm List.perm_append_comm) (by rw[ju];exact hA38)
 have M:=B.mem;refine QT (l:=[(1,0),(2,0),(3,0),(4,0),(5,0),(0,0),(6,0),(7,0),(8,0),(9,0),(10,0),(11,0),(12,0),(13,0),(14,0),(15,0)]) (by kernel_rfl) ?_;refine UT 4 K M fun _ K=>?_;replace B:=B.step M;obtain⟨v46,st46,ev46,rfl,hm3,Q3⟩:=LI B.fresh (show Qu _ mp 0 [iN l,.bool false]from B.at_ (k:=2) rfl) hl 1 hl1;refine qA rfl K (Qf rfl ev46) fun _ K=>?_;replace B:=B.call (k:=2) (o':=YH mp (l-1) false) rfl Q3 hm3 (fun c hc=>⟨.inl hc,Nat.lt_of_lt_of_le (B.VM (k:=2) rfl c hc) Q3.le⟩);have M:=B.mem;refine UT 6 K M fun _ K=>?_;refine dg rfl K rfl rfl (Q0 Xf rfl rfl ((Ec.len ((B.step M).at_ (k:=0) rfl)).trans (congrArg some (KE _)))) rfl rfl fun _ K=>?_;refine UT 4 K M fun _ K=>?_;refine Jd ?_;show W _ _ _ _ _ _ _;refine Qb 0 K M ?_
 have e8:(lp++[p]).length=lp.length+1:=by simp
 refine⟨lp.length,false,lp++[p],ks38,rfl,.inr ⟨rfl,LP hnone,rfl,rfl⟩,?_⟩;rw[show l-((lp++[p]).length-lp.length)=l-1 by omega];exact((B.step M).less (.cons _ (.cons _ (.cons_cons _ (.refl _))))).yz

theorem jt{st:St}(hf:Qh st){xp cm mp:Nat}{l:Nat}(H:Kw st.h.get Ei xp cm mp .nils [] l)(hi: ∀c,P1 Ei xp cm mp c→c<st.n)(hl1:1≤l)(hl:l≤9223372036854775807): ∃v st',QV 244 [.ptr xp 0 0,.agg [.int .i64 0,.int .i64 0]] st v st'∧
  v=.tup [.int .i64 0,.bool true]∧ ∃F' kl',Kw st'.h.get F' xp cm mp kl' [(0,0)] (l-1)∧EV st st' (P1 Ei xp cm mp) (P1 F' xp cm mp)∧YA (P1 Ei xp cm mp) st st':=by
 obtain⟨v,st',h1,k,was,lp',kl',h2,h3,F',h4⟩:=Sz hf H hi Q9 hl1 hl (0,0);rcases h3 with⟨_,_,h⟩|⟨rfl,_,rfl,rfl⟩
 ·simp at h
 ·exact⟨v,st',h1,h2,F',kl',h4⟩

theorem TW{st:St}(hf:Qh st){FA FB:Fp}{da db:Nat}{a b:Au}(hDA:JH st FA da a)(hDB:JH st FB db b)(ht:b.tr=a.tr){t:Nat}(ht15:t≤15){mp l:Nat}(hm:Qu st.h.get mp 0 [iN l,.bool false])(hmA: ¬FA mp)(hmB: ¬FB mp)(hl1:401≤l)(hl:l≤9223372036854775807): ∃v st',QV 202 [.ptr da 0 0,.ptr db 0 0,iN t,.ptr mp 0 0] st v st'∧kN st st' a b t v∧YA (fun c=>c=mp) st st':=by
 have wfa:=hDA.wf;have wfb:=hDB.wf;have htr:=wfa.tr;have hp6:=JL htr;have hp0:0<2^a.tr:=Nat.two_pow_pos _;have hlna:=wfa.len;have hlnb:=wfb.len;have hena:a.n=a.acc.length:=rfl;have henb:b.n=b.acc.length:=rfl
 have htp:2^b.tr=2^a.tr:=by rw[ht]
 have hdA: ∀c,FA c→ ¬(YH mp l false).F c:=fun c hc e=>hmA ((show c=mp from e)▸hc);have hdB: ∀c,FB c→ ¬(YH mp l false).F c:=fun c hc e=>hmB ((show c=mp from e)▸hc);have B:=Ql.UD (o:=YH mp l false) hf hm (fun c hc=>(show c=mp from hc)▸hm.lt hf);refine Jv Tryz.func202 Tryz.ntmps202 fun T K=>?_;have M:=B.mem;refine Qb 3 K M fun _ K=>?_;refine p1 K (UA J7 rfl rfl) fun _ K=>?_;refine Qb 2 K M fun _ K=>?_;refine pg K rfl rfl (UA J7 rfl rfl) fun _ K=>?_;refine Qb 3 K M fun _ K=>?_;obtain⟨v31,st31,ev31,rfl,q31⟩:=Yg M.fresh (hDA.KR (B.step M).U7 hdA);refine pg K rfl rfl (Qf rfl ev31) fun _ K=>?_;replace M:=M.quiet q31;refine Qb 1 K M fun _ K=>?_;obtain⟨v33,st33,ev33,rfl,q33⟩:=Yg M.fresh (hDB.KR (B.step M).U7 hdB);refine pg K rfl rfl (Qf rfl ev33) fun _ K=>?_;replace M:=M.quiet q33;refine Qb 2 K M fun _ K=>?_;refine fM K rfl (fun _ e36 K=>?_) fun _ e36 K=>?_
 ·refine Qb 3 K M fun _ K=>?_;refine U5 K rfl (fun _ e40 K=>?_) fun _ e40 K=>?_
  ·refine Qb 3 K M fun _ K=>?_;refine U8 K rfl (fun h43=>?_) fun h43=>?_
   ·exfalso;omega
   refine Qb 0 K M fun _ K=>?_;replace B:=B.step M;refine VN ZF K B rfl fun c44 _ _ K B=>?_;have M:=B.mem;refine au 4 K M ?_;intro c47 _ _ K _ M;replace B:=(B.step M).l7;have M:=B.mem;refine Qb 1 K M fun _ K=>?_;refine oQ K M (Yg M.fresh (hDA.KR (B.step M).U7 hdA)) rfl rfl fun _ _ K M=>?_;refine au 4 K M ?_;intro c11 _ _ K _ M;refine p1 K (Zr Ad HO Z6 Zo rfl rfl) fun _ K=>?_;replace B:=B.step M;obtain⟨v54,st54,ev54,rfl,F1,kl1,hP1,mf1,Q1⟩:=jt B.fresh (B.at_ (k:=0) rfl) (B.VM (k:=0) rfl) Qd hl;refine p1 K (Qf rfl ev54) fun _ K=>?_;replace B:=B.call (k:=0) (o':=iv F1 c47 c44 mp kl1 [(0,0)] (l-1)) rfl Q1 hP1 mf1;have M:=B.mem;refine Qb 9 K M fun _ K=>?_;replace B:=B.step M;obtain⟨v60,st60,ev60,nau,q60⟩:=H3 B.fresh (hDA.KR B.U7 hdA);refine p1 K (Qf rfl ev60) fun _ K=>?_;obtain⟨kaA,knA,vsA,Ato,FA,rfl,hAto,B⟩:=B.He q60 nau;replace B:=B.less (List.sublist_append_left _ _);have hknA:Qw knA=true:=(Zw.rd (B.at_ (k:=0) rfl)).cell;have hkaA:=hAto.cell;have M:=B.mem;refine p1 K (XV rfl ((U6 _).trans (Qc QW rfl))) fun _ K=>?_;refine Qb 1 K M fun _ K=>?_;replace B:=B.step M;obtain⟨v63,st63,ev63,nau,q63⟩:=H3 B.fresh (hDB.KR B.U7 hdB);refine p1 K (Qf rfl ev63) fun _ K=>?_;obtain⟨kaB,knB,vsB,Ato,FB,rfl,hAto,B⟩:=B.He q63 nau;replace B:=B.less (List.sublist_append_left _ _);have hknB:Qw knB=true:=(Zw.rd (B.at_ (k:=0) rfl)).cell;have hkaB:=hAto.cell;have M:=B.mem;refine p1 K (XV rfl ((U6 _).trans (Qc QW rfl))) fun _ K=>?_;refine Qb 2 K M fun _ K=>?_;replace B:=(B.step M).LB;have M:=B.mem;refine Qb 1 K M fun _ K=>?_;refine Je (fun mm1 T st9=> ∃(i:Nat) (lp:List (Nat×Nat)) (kl:AV) (Fl:Fp) (rows:List (List Int)) (vs:List AV) (Fr:Fp) (ka:AV) (Aa:QP) (kr:AV) (Ar:QP),mm1=400-i∧QH [(0,.ptr da 0 0),(1,.ptr db 0 0),(2,iN t),(10,.ptr c47 0 0),(11,.ptr c11 0 0),(14,knA),(15,knB),(16,iN i)] T∧Ql st (YH mp l false).F st9 ((c11,0,[iZ (a.tr:Nat),ka,kr])::(Aa++(Ar++[]))) [T9 Fr vs rows,Oc FB knB vsB b.nx,Oc FA knA vsA a.nx,iv Fl c47 c44 mp kl lp (l-lp.length)]∧VI (SS a b) (0,0) (2^a.tr) lp rows []∧rows.length=i∧i≤lp.length∧lp.length≤400∧Acc 0 1 Aa ka (bC ((lp.take i).map (xQ a b t)))∧Zl Ar kr vs) (fun mm1 T st9 hI=>?_) _ _ _ ⟨0,[(0,0)],kl1,F1,[],[],_,.nils,[],.nils,[],rfl,(K.sub rfl),(B.step M).less (.refl _),(VI.start _ _ _),rfl,Q9,Q9,.none,.none⟩;obtain⟨i,lp,kl,Fl,rows,vs,Fr,ka,Aa,kr,Ar,rfl,K,B,hP,hrl,hil,hlp,hAa,hAr⟩:=hI;have M:=B.mem;have hall:=hP.iy wfa wfb ht;refine Qb 4 K M fun _ K=>?_;refine p1 K (Qi rfl (Qr (Kw.row ((B.step M).at_ (k:=3) rfl)).QI (Qc Er rfl))) fun _ K=>p1 K (Q0 Xf rfl rfl ((Ec.len ((B.step M).at_ (k:=3) rfl).acc).trans (congrArg some (KE _)))) fun _ K=>?_;refine Qb 1 K M fun _ K=>?_;refine U8 K rfl (fun h71=>?_) fun h71=>?_
   ·refine Qb 3 K M fun _ K=>?_;refine p1 K (Qi rfl (Qr (Kw.row ((B.step M).at_ (k:=3) rfl)).QI (Qc Er rfl))) fun _ K=>?_;refine Qb 1 K M fun _ K=>?_;obtain⟨pr79,hi79⟩:=YL lp i Qd;have hpb79:=hall pr79 (List.mem_of_getElem? hi79);refine aA (Ec.rd ((B.step M).at_ (k:=3) rfl).acc) (xq hi79) K DQ OF rfl rfl fun _ _ _ _ K=>?_;refine au 4 K M ?_;intro c17 _ _ K _ M;refine p1 K (Am (j:=0) KT Z6 rfl rfl Q9) fun _ K=>?_;refine Qb 1 K M fun _ K=>?_;obtain⟨s84,hi84⟩:=YL a.nx (pr79.1) Qd;obtain⟨w84,hv84,hr84,hz84,hf84⟩:=((B.step M).at_ (k:=2) rfl).vs.at_ _ _ hi84;have hw84:=wfa.row s84 (List.mem_of_getElem? hi84);have hl84:s84.length=2^a.tr:=hw84.1;refine oI ((B.step M).at_ (k:=2) rfl).rd (by rw[List.getElem?_map,hv84];rfl) K QK Jn rfl rfl rfl fun _ _ _ _ K=>?_;refine p1 K (Q0 Jm rfl rfl (hr84.len.trans (congrArg some (Qy _)))) fun _ K=>?_;refine Qb 1 K M fun _ K=>?_;refine Je (fun mm2 T st9=> ∃(c:Nat) (lp2:List (Nat×Nat)) (kl2:AV) (Fl2:Fp) (row:List Int) (kw:AV) (Aw:QP),mm2=2^a.tr-c∧QH [(0,.ptr da 0 0),(1,.ptr db 0 0),(2,iN t),(10,.ptr c47 0 0),(11,.ptr c11 0 0),(14,knA),(15,knB),(16,iN i),(17,.ptr c17 0 0),(18,kw),(71,.bool (decide (((i:Nat):Int)<((lp.length:Nat):Int)))),(85,w84),(86,iZ (s84.length:Nat)),(87,iN c)] T∧Ql st (YH mp l false).F st9 ((c17,0,[iZ (pr79.1:Nat),iZ (pr79.2:Nat)])::(c11,0,[iZ (a.tr:Nat),ka,kr])::(Aa++(Ar++(Aw++[])))) [T9 Fr vs rows,Oc FB knB vsB b.nx,Oc FA knA vsA a.nx,iv Fl2 c47 c44 mp kl2 lp2 (l-lp2.length)]∧VI (SS a b) (0,0) (2^a.tr) lp2 rows row∧row.length=c∧c≤2^a.tr∧lp2.length≤400∧lp2.take (i+1)=lp.take (i+1)∧Acc 0 1 Aw kw (zC row)) (fun mm2 T st9 hI=>?_) _ _ _ ⟨0,lp,kl,Fl,[],.nils,[],rfl,(K.sub rfl),(B.step M).less (.refl _),hP,rfl,(Nat.zero_le _),hlp,rfl,.none⟩;obtain⟨c,lp2,kl2,Fl2,row,kw,Aw,rfl,K,B,hP2,hrow,hcK,hl2,htk,hAw⟩:=hI;have M:=B.mem;have hi2:=ZL htk Qd;refine Qb 1 K M fun _ K=>?_;refine U8 K rfl (fun h88=>?_) fun h88=>?_
    ·refine Qb 1 K M fun _ K=>?_;obtain⟨y90,hi90⟩:=YL s84 c Qd;have hb90:=hw84.2 y90 (List.mem_of_getElem? hi90);obtain⟨z90,rfl⟩: ∃m:Nat,y90=((m:Nat):Int):=⟨_,(Int.toNat_of_nonneg hb90.1).symm⟩;refine oI (Zw.row ((B.step M).at_ (k:=2) rfl) hi84 hv84) (JG hi90) K QD Qs rfl rfl rfl fun _ _ _ _ K=>?_;refine Qb 5 K M fun _ K=>?_;refine p1 K (Am (j:=1) KT Z6 rfl rfl Q9) fun _ K=>?_;refine Qb 1 K M fun _ K=>?_;obtain⟨s98,hi98⟩:=YL b.nx (pr79.2) Qd;obtain⟨w98,hv98,hr98,hz98,hf98⟩:=((B.step M).at_ (k:=1) rfl).vs.at_ _ _ hi98;have hw98:=wfb.row s98 (List.mem_of_getElem? hi98);have hl98:s98.length=2^b.tr:=hw98.1;refine oI ((B.step M).at_ (k:=1) rfl).rd (by rw[List.getElem?_map,hv98];rfl) K QK Jn rfl rfl rfl fun _ _ _ _ K=>?_;refine Qb 1 K M fun _ K=>?_;obtain⟨y101,hi101⟩:=YL s98 c Qd;have hb101:=hw98.2 y101 (List.mem_of_getElem? hi101);obtain⟨z101,rfl⟩: ∃m:Nat,y101=((m:Nat):Int):=⟨_,(Int.toNat_of_nonneg hb101.1).symm⟩;refine oI (Zw.row ((B.step M).at_ (k:=1) rfl) hi98 hv98) (JG hi101) K QD Qs rfl rfl rfl fun _ _ _ _ K=>?_;refine p1 K (Zr Ad HO Z6 Zo rfl rfl) fun _ K=>?_;replace B:=B.step M;obtain⟨v104,st104,ev104,k3,was3,lp3,kl3,rfl,hnum,F3,hP3m,mf3,Q3⟩:=Sz B.fresh (B.at_ (k:=3) rfl) (B.VM (k:=3) rfl) hl2 Qd Qd (z90,z101);refine p1 K (Qf rfl ev104) fun _ K=>?_;have hnl:=hnum.len;rw[show l-lp2.length-(lp3.length-lp2.length)=l-lp3.length by omega]at hP3m;replace B:=B.call (k:=3) (o':=iv F3 c47 c44 mp kl3 lp3 (l-lp3.length)) rfl Q3 hP3m mf3;have M:=B.mem;refine Qb 7 K M fun _ K=>?_;refine UJ K rfl (fun h108=>?_) fun h108=>?_
     ·have hb108:=h108
      replace h108: ¬((lp3.length:Int)≤400):=by first|exact of_decide_eq_false h108|exact yF h108|simpa using h108
      refine Qb 2 K M ?_
      have hgo:SS a b pr79 row.length=(z90,z101):=by unfold SS;rw[hrow,UG hi84 hi90,UG hi98 hi101];rfl
      have hP3:=hnum.pr hP2 Qd (show lp2[rows.length]? =some pr79 by rw[hrl];exact GH htk hi79) hgo
      have h401:lp3.length=401:=by omega
      exact⟨.inr ⟨rfl,lp3,h401,hP3.nodup,fun Q h0 hs p hp=>hP3.all h0 hs (Nat.two_pow_pos _) hp⟩,(B.step M).U7⟩
     have hb108:=h108
     replace h108:((lp3.length:Int)≤400):=by first|exact of_decide_eq_true h108|exact yT h108|simpa using h108
     refine au 3 K M ?_;intro c111 _ _ K _ M;refine Jx (k2:=0) (L:=((c111,0,[iN k3])::(c17,0,[iZ (pr79.1:Nat),iZ (pr79.2:Nat)])::(c11,0,[iZ (a.tr:Nat),ka,kr])::(Aa++(Ar++[])))) (B:=[]) K (Mem.cast M Za) hAw QR rfl rfl rfl rfl (by rw[Qy];omega) rfl fun ks112 A112 _ _ K hA112 M=>?_;simp only[W4]at M;refine Qb 3 K M fun _ K=>?_
     have hgo:SS a b pr79 row.length=(z90,z101):=by unfold SS;rw[hrow,UG hi84 hi90,UG hi98 hi101];rfl
     have hP3:=hnum.pr hP2 Qd (show lp2[rows.length]? =some pr79 by rw[hrl];exact GH htk hi79) hgo;exact⟨_,Qd,c+1,lp3,kl3,F3,(row++[((k3:Nat):Int)]),ks112,A112,rfl,(K.sub rfl),(B.step M).less (.cons _ (.refl _)),hP3,(by rw[List.length_append,hrow];rfl),Qd,Qd,(by rw[hnum.take hi2,htk]),(by rw[JJ];exact hA112)⟩
    refine QM ?_;show W _ _ _ _ _ _ _;refine Qb 1 K M fun _ K=>?_;refine p1 K (Qi rfl (M.load (k:=1) rfl (Qc QW rfl))) fun _ K=>?_;refine Qb 1 K M fun _ K=>?_;refine VO K M J3 Yt rfl ((Uw rfl hAw.cell rfl).trans rfl) (Qa hAw.cell QL) rfl rfl fun c117 _ _ K M=>?_;refine EZ (k2:=0) (L:=((c117,0,[kw])::(c17,0,[iZ (pr79.1:Nat),iZ (pr79.2:Nat)])::(c11,0,[iZ (a.tr:Nat),ka,kr])::(Aa++[]))) (B:=(Aw++[])) K (Mem.cast M Za) hAr J3 rfl rfl rfl (by have:=BY.ln ((B.step M).at_ (k:=0) rfl);omega) rfl fun ks118 A118 _ _ K hA118 _ M=>?_;simp only[W4]at M;refine Qb 1 K M fun _ K=>?_;refine Jk (k:=2) K M rfl rfl rfl ZM (hA118.cell) rfl fun _ M=>?_;refine Qb 0 K M fun _ K=>?_;refine QT (l:=[(3,0),(4,0),(5,0),(6,0),(7,0),(9,0),(10,0),(11,2),(12,0),(13,0),(0,0),(1,4),(2,0),(8,0),(14,0),(15,0),(16,0),(17,0),(18,0),(19,0),(20,0),(21,0)]) (by kernel_rfl) ?_;have Mq:=M;have Mz0:=M;have Bz0:=B;refine q1 rfl K (Q8 rfl) fun _ K=>q1 rfl K (Am (j:=0) KT Z6 rfl rfl Q9) fun _ K=>?_;refine UT 1 K M fun _ K=>?_;obtain⟨v126,st126,ev126,rfl,q126⟩:=Zg M.fresh (hDA.KR (B.step M).U7 hdA) (s:=pr79.1) Qd;refine qA rfl K (Qf rfl ev126) fun _ K=>?_;replace M:=M.quiet q126;have Mp:=Mq;have Mq:=M;have Mz1:=M;have Bz1:=B;obtain⟨v127,st127,ev127,rfl,q127⟩:=yW M.fresh (a.ok pr79.1);refine qA rfl K (Qf rfl ev127) fun _ K=>?_;have hbt127:=Tq (a.ok pr79.1);replace M:=M.quiet q127;have Mp:=Mq;have Mq:=M;have Mz2:=M;have Bz2:=B;refine q1 rfl K (Q8 rfl) fun _ K=>q1 rfl K (Am (j:=1) KT Z6 rfl rfl Q9) fun _ K=>?_
    refine VQ rfl K rfl (M.load (k:=1) rfl (Qc Qs rfl)) Qx (by intro s hs;simp only[List.take_succ_cons,List.take_zero,List.mem_cons,List.not_mem_nil,or_false]at hs;rcases hs with rfl|rfl<;>first|exact(Mz1.load (k:=1) rfl (Qc Qs rfl))|exact(Mz0.load (k:=1) rfl (Qc Qs rfl))) (Ul rfl) rfl Q9 fun _ K=>?_
    obtain⟨v132,st132,ev132,rfl,q132⟩:=Zg M.fresh (hDB.KR (B.step M).U7 hdB) (s:=pr79.2) Qd;refine qA rfl K (Qf rfl ev132) fun _ K=>?_;replace M:=M.quiet q132;have Mp:=Mq;have Mq:=M;have Mz3:=M;have Bz3:=B;obtain⟨v133,st133,ev133,rfl,q133⟩:=yW M.fresh (b.ok pr79.2);refine qA rfl K (Qf rfl ev133) fun _ K=>?_;have hbt133:=Tq (b.ok pr79.2);replace M:=M.quiet q133;have Mp:=Mq;have Mq:=M;have Mz4:=M;have Bz4:=B;refine UT 1 K M fun _ K=>?_
    refine VQ rfl K rfl (M.load (k:=2) rfl (Qc JP rfl)) Qx (by intro s hs;simp only[List.take_succ_cons,List.take_zero,List.mem_cons,List.not_mem_nil,or_false]at hs;rcases hs with rfl|rfl|rfl|rfl<;>first|exact(Mz3.load (k:=2) rfl (Qc JP rfl))|exact(Mz2.load (k:=2) rfl (Qc JP rfl))|exact(Mz1.load (k:=2) rfl (Qc JP rfl))|exact(Mz0.load (k:=2) rfl (Qc JP rfl))) (Ul (YM hAa.len)) rfl Q9 fun _ K=>?_
    refine q1 rfl K (Q8 rfl) fun _ K=>q1 rfl K (xE (n:=(WS (a.ok pr79.1))) rfl rfl Qd) fun _ K=>?_;refine UT 1 K M fun _ K=>?_;refine q1 rfl K (WG (a:=t) (n:=((2 *(WS (a.ok pr79.1)))+(WS (b.ok pr79.2)))) rfl rfl Qd) fun _ K=>q1 rfl K (WH (a:=(t/2^(((2 *(WS (a.ok pr79.1)))+(WS (b.ok pr79.2)))))) rfl rfl (Nat.le_trans (Nat.div_le_self _ _) Qd)) fun _ K=>q1 rfl K (jN rfl rfl) fun _ K=>?_;refine Eo rfl K M Yc EW rfl rfl rfl rfl rfl fun c138 _ _ K M=>?_;refine Zx (k2:=0) (L:=[(c138,0,[.bool (decide (((((t/2^(((2 *(WS (a.ok pr79.1)))+(WS (b.ok pr79.2))))) % 2):Nat):Int)=1))]),(c117,0,[kw]),(c17,0,[iZ (pr79.1:Nat),iZ (pr79.2:Nat)]),(c11,0,[iZ (a.tr:Nat),ka,ks118])]) (B:=(A118++(Aw++[]))) rfl K M hAa Yc rfl rfl rfl rfl (by rw[Vi,List.length_map,List.length_take];omega) rfl fun ks139 A139 _ _ K hA139 M=>?_;have Mp:=Mq;have Mq:=M;have Mz5:=M;have Bz5:=B;refine UT 1 K M fun _ K=>?_;refine XJ (k:=3) rfl K M rfl rfl rfl VX (hA139.cell) rfl fun _ M=>?_;have Mp:=Mq;have Mq:=M;have Mz6:=M;have Bz6:=B;refine Jd ?_;show W _ _ _ _ _ _ _;refine Qb 3 K M fun _ K=>?_;replace B:=B.step M;obtain⟨Fr,B⟩:=Ql.ND (L:=((c138,0,[.bool (decide (((((t/2^(((2 *(WS (a.ok pr79.1)))+(WS (b.ok pr79.2))))) % 2):Nat):Int)=1))])::(c117,0,[kw])::(c17,0,[iZ (pr79.1:Nat),iZ (pr79.2:Nat)])::(c11,0,[iZ (a.tr:Nat),ks139,ks118])::(A139++(A118++[])))) (B:=[]) (B.cast Za) hAw (hP2.Rv hl2);replace B:=B.cast (M':=((c138,0,[.bool (decide (((((t/2^(((2 *(WS (a.ok pr79.1)))+(WS (b.ok pr79.2))))) % 2):Nat):Int)=1))])::(c117,0,[kw])::(c17,0,[iZ (pr79.1:Nat),iZ (pr79.2:Nat)])::(c11,0,[iZ (a.tr:Nat),ks139,ks118])::(A139++(A118++[])))) Za;have M:=B.mem;have hi2:=ZL htk Qd
    have htq:lp.take (i+1)=lp.take i++[pr79]:=by rw[List.take_add_one,hi79];rfl
    exact⟨_,Qd,i+1,lp2,kl2,Fl2,(rows++[row]),_,_,ks139,A139,ks118,A118,rfl,(K.sub rfl),(B.step M).less (.cons _ (.cons _ (.cons _ (.refl _)))),(hP2.whole Qd),(by rw[List.length_append,hrl];rfl),hi2,hl2,(by rw[htk,htq,List.map_append,BS,show bC ([pr79].map (xQ a b t))=[[AV.bool (xQ a b t pr79)]]from rfl,show xQ a b t pr79=_ from zZ t _ _];exact hA139),hA118⟩
   refine QM ?_;show W _ _ _ _ _ _ _;refine Qb 1 K M fun _ K=>?_;replace B:=B.step M;have hlt:lp.take i=lp:=List.take_of_length_le Qd;rw[hlt]at hAa;have hMd:=hP.made (p:=xQ a b t) (m:=⟨a.tr,lp.map (xQ a b t),rows⟩) (by show rows.length=_;omega) rfl htr hlp;obtain⟨Fo,B⟩:=Ql.qF (L:=((c11,0,[iZ (a.tr:Nat),ka,kr])::(Aa++[]))) (B:=[]) (B.cast Za) hAr;replace B:=B.cast (M':=((c11,0,[iZ (a.tr:Nat),ka,kr])::(Aa++[]))) Za;have M:=B.mem;obtain⟨v142,st142,ev142,dp2,F2,rfl,hD2,nf2,q142⟩:=Wz (a:=⟨a.tr,lp.map (xQ a b t),rows⟩) B.fresh hMd.wf (Mem.Zv (L:=[(c11,0,[iZ (a.tr:Nat),ka,kr])]) (B:=[]) M hAa) (Zw.r (B.at_ (k:=0) rfl));refine p1 K (Qf rfl ev142) fun _ K=>?_;have hle0:=B.le;replace B:=B.quiet q142;have M:=B.mem;refine Qb 4 K M ?_;exact⟨.inl ⟨dp2,F2,lp,_,rfl,⟨hMd,rfl⟩,hD2,fun c hc=>⟨Nat.le_trans hle0 (nf2 c hc).1,(nf2 c hc).2⟩⟩,(B.step M).U7⟩
  exfalso;omega
 exfalso;omega
end Go.Proofs.YtildagdnomiahaaGreatDoor
