/-
  Both of two automata, and not: the program's.
-/
import Derived.Test.YtiknomepbklibaaGreatDoorQhR20B
import Derived.Test.YtiknomepbklibaaGreatDoorQhEnt
namespace Go.Proofs.YtiknomepbklibaaGreatDoor
open Go Go.RowKit
set_option maxHeartbeats 8000000
set_option linter.unusedVariables false
set_option linter.unusedSimpArgs false
set_option linter.unnecessarySimpa false
set_option maxRecDepth 100000

structure Lh(h:Hp)(F:Fp)(xp cm mp:Nat)(kl:AV)(lp:List (Nat×Nat))(l:Nat):Prop where
 acc:Ya h F 2 kl (KS lp)
 map:(Wo cm Xo (UX 0 lp)).H h
 met:(Yt mp l false).H h
 row:Qy h xp 0 [.mp cm,kl,.ptr mp 0 0]
 d1: ¬F xp
 d2: ¬F cm
 d3: ¬F mp
 d4:xp≠cm
 d5:xp≠mp
 d6:cm≠mp
def PN(F:Fp)(xp cm mp:Nat):Fp:=fun c=>F c∨c=cm∨c=mp∨c=xp
section
variable {st0 st st':St} {X0 F F':Fp} {M A:QS} {Os:List Ob} {xp cm mp l l':Nat} {kl kl':AV} {lp lp':List (Nat×Nat)}
theorem Lh.frame{h h':Hp}(e: ∀c,PN F xp cm mp c→h' c=h c)(H:Lh h F xp cm mp kl lp l):Lh h' F xp cm mp kl lp l:=
 ⟨(Wz F 2 kl (KS lp)).fr _ _ (fun c hc=>e c (.inl hc)) H.acc,(Wo cm Xo (UX 0 lp)).fr _ _ (fun c hc=>e c (.inr (.inl hc))) H.map,(Yt mp l false).fr _ _ (fun c hc=>e c (.inr (.inr (.inl hc)))) H.met,H.row.frame (e xp (.inr (.inr (.inr rfl)))),H.d1,H.d2,H.d3,H.d4,H.d5,H.d6⟩
def aV(F:Fp)(xp cm mp:Nat)(kl:AV)(lp:List (Nat×Nat))(l:Nat):Ob:=⟨PN F xp cm mp,fun h=>Lh h F xp cm mp kl lp l,fun _ _ e H=>H.frame e⟩
theorem Qk.xj(hf:Qi st)(H:Lh st.h.get F xp cm mp kl lp l)(hi: ∀c,PN F xp cm mp c→c<st.n):Qk st (PN F xp cm mp) st [(xp,0,[.mp cm,kl,.ptr mp 0 0])] [Wz F 2 kl (KS lp),Wo cm Xo (UX 0 lp),Yt mp l false]:=by
 refine⟨hf,Nat.le_refl _,fun c m x h=>?_,by simp,fun c m x h=>?_,fun o h=>?_,fun o h c hc=>?_,?_,fun o h c m x hm hc=>?_,fun _ _ _=>rfl⟩
 ·simp at h;obtain⟨rfl,rfl,rfl⟩:=h;exact H.row
 ·simp at h;obtain⟨rfl,rfl,rfl⟩:=h;exact .inr (.inr (.inr (.inr rfl)))
 ·simp at h;rcases h with rfl|rfl|rfl
  ·exact H.acc
  ·exact H.map
  ·exact H.met
 ·simp at h;rcases h with rfl|rfl|rfl
  ·exact⟨hi c (.inl hc),.inr (.inl hc)⟩
  ·exact⟨hi c (.inr (.inl hc)),.inr (.inr (.inl hc))⟩
  ·exact⟨hi c (.inr (.inr (.inl hc))),.inr (.inr (.inr (.inl hc)))⟩
 ·refine List.pairwise_cons.2 ⟨fun o h c h1 h2=>?_,List.pairwise_cons.2 ⟨fun o h c h1 h2=>?_,List.pairwise_singleton _ _⟩⟩
  ·simp at h;rcases h with rfl|rfl
   ·exact H.d2 ((show c=cm from h2)▸h1)
   ·exact H.d3 ((show c=mp from h2)▸h1)
  ·rw[List.mem_singleton.1 h]at h2;exact H.d6 ((show c=cm from h1).symm.trans (show c=mp from h2))
 ·simp at hm;obtain⟨rfl,rfl,rfl⟩:=hm
  simp at h;rcases h with rfl|rfl|rfl
  ·exact H.d1 hc
  ·exact H.d4 hc
  ·exact H.d5 hc
theorem Qk.yD(B:Qk st (PN F xp cm mp) st' [(xp,0,[.mp cm,kl',.ptr mp 0 0])] [Wz F' 2 kl' (KS lp'),Wo cm Xo (UX 0 lp'),Yt mp l' false]): ∃F',Lh st'.h.get F' xp cm mp kl' lp' l'∧Ef st st' (PN F xp cm mp) (PN F' xp cm mp)∧US (PN F xp cm mp) st st':=by
 have hp:=List.pairwise_cons.1 B.dj;have hp2:=(List.pairwise_cons.1 hp.2).1 (Yt mp l' false) Q7;have hr:=fun o ho=>B.djM o ho xp 0 _ (List.mem_singleton.2 rfl);refine⟨F',⟨B.at_ (k:=0) rfl,B.at_ (k:=1) rfl,B.at_ (k:=2) rfl,B.row _ _ _ (List.mem_singleton.2 rfl),hr (Wz F' 2 kl' (KS lp')) Q7,fun h=>hp.1 (Wo cm Xo (UX 0 lp')) Q7 cm h rfl,fun h=>hp.1 (Yt mp l' false) Q7 mp h rfl,fun e=>hr (Wo cm Xo (UX 0 lp')) Q7 e,fun e=>hr (Yt mp l' false) Q7 e,fun e=>hp2 cm rfl e⟩,fun c hc=>?_,B.JN⟩;rcases hc with hc|hc|hc|hc
 ·exact⟨(B.Lx (k:=0) rfl c hc).symm,B.Y4 (k:=0) rfl c hc⟩
 ·exact⟨(B.Lx (k:=1) rfl c hc).symm,B.Y4 (k:=1) rfl c hc⟩
 ·exact⟨(B.Lx (k:=2) rfl c hc).symm,B.Y4 (k:=2) rfl c hc⟩
 ·subst hc;exact⟨.inl (.inr (.inr (.inr rfl))),(B.row c 0 _ (List.mem_singleton.2 rfl)).lt B.fresh⟩
theorem Qk.fR(B:Qk st0 X0 st ((xp,0,[.mp cm,.nils,.ptr mp 0 0])::M) (Wo cm Xo []::Yt mp l false::Os)):Qk st0 X0 st M (aV Xi xp cm mp .nils [] l::Os):=by
 have d1:=B.djM (Wo cm Xo []) Q7 xp 0 _ (List.mem_cons_self ..);have d2:=B.djM (Yt mp l false) Q7 xp 0 _ (List.mem_cons_self ..);have d3:=(List.pairwise_cons.1 B.dj).1 (Yt mp l false) Q7;have B1:=Qk.freeze (R:=[(xp,0,[.mp cm,.nils,.ptr mp 0 0])]) (o:=Xn [(xp,0,[.mp cm,.nils,.ptr mp 0 0])]) (M:=M) B (fun c m x h=>B.row c m x (by rw[List.mem_singleton.1 h];exact List.mem_cons_self ..)) (fun c hc=>hc)
 have B2:=B1.join (o:=⟨fun c=>c=xp∨c=cm,fun h=>Qy h xp 0 [.mp cm,.nils,.ptr mp 0 0]∧(Wo cm Xo []).H h,fun h h' e H=>⟨H.1.frame (e xp (.inl rfl)),(Wo cm Xo []).fr _ _ (fun c hc=>e c (.inr hc)) H.2⟩⟩) (fun h1 h2=>⟨h1 xp 0 _ (List.mem_singleton.2 rfl),h2⟩) (fun c hc=>by
  rcases hc with hc|hc
  ·exact .inl ⟨0,_,by rw[hc];exact List.mem_singleton.2 rfl⟩
  ·exact .inr hc)
 refine B2.join (fun h1 h2=>⟨⟨[],.none,fun c m l h=>by cases h⟩,h1.2,h2,h1.1,id,id,id,fun e=>d1 e,fun e=>d2 e,fun e=>d3 cm rfl e⟩) (fun c hc=>?_);rcases hc with hc|hc|hc|hc
 ·exact hc.elim
 ·exact .inl (.inr hc)
 ·exact .inr hc
 ·exact .inl (.inl hc)
end
theorem Xw.row{h:Hp}{F:Fp}{kn:AV}{vs:List AV}{LL:List (List Int)}(H:Xw h F kn vs LL){i:Nat}{s:List Int}{w:AV}(hi:LL[i]? =some s)(hv:vs[i]? =some w):Jj h [] 1 (zC s) w:=by
 obtain⟨w',k1,k2,_⟩:=H.vs.at_ _ _ hi;rw[hv]at k1
 injection k1 with k1
 rw[k1];exact k2
def E9(b:Bool):Nat:=if b then 1 else 0
theorem TT(b:Bool):E9 b≤1:=by cases b<;>decide
theorem xe(t:Nat)(x y:Bool):CN t x y=decide (((t/2^(2 *E9 x+E9 y) % 2:Nat):Int)=1):=by
 rw[←H5];cases x<;>cases y<;>rfl
theorem xG{P:Program}{G:Env}{K:List (Nat×AV)}{st:St}{t yt:TypeId}{x y:Operand}{n:Nat}(hx:QV G K x=some (.int .i64 2))(hy:QV G K y=some (.int .i64 (n:Nat)))(h1:n≤1):U3 P G K (.binOp .mul t x y yt) st (.int .i64 (2 *n:Nat)) st:=by
 rw[show((2 *n:Nat):Int)=2 *((n:Nat):Int) by omega];exact Tm hx hy (IntWalk.i64_in _ Qc)
def fz(st st':St)(a b:Au)(t:Nat)(v:AV):Prop:=
 (∃dp F lp m,v=.tup [.ptr dp 0 0,.int .i64 0]∧I0 a b t lp m∧UZ st' F dp m∧ZQ st st' F)∨
 (v=.tup [.nilp,.int .i64 8]∧ ∃(lp:List (Nat×Nat)),lp.length=401∧lp.Nodup∧ ∀(Q:Nat×Nat→Prop),Q (0,0)→(∀p c,Q p→c<2^a.tr→Q (O4 a b p c))→ ∀p∈lp,Q p)

theorem xC{st:St}(hf:Qi st){F:Fp}{dp:Nat}{a:Au}(hD:UZ st F dp a): ∃v st',Jh 107 [.ptr dp 0 0] st v st'∧ ∃dp2 F2,v=.tup [.ptr dp2 0 0,iZ 0]∧UZ st' F2 dp2 a.neg∧ZQ st st' F2∧Qt st st':=by
 have wf:=hD.wf;have hps:=wf.pos;have hmo:=wf.most;have hln:=wf.len;have hen:a.n=a.acc.length:=rfl;have htr:=wf.tr;have B:=Qk.start hf;refine JA Tryz.func107 Tryz.ntmps107 fun T K=>?_;have M:=B.mem;refine Qb 3 K M fun _ K=>?_;refine p1 K (Yh JZ rfl rfl) fun _ K=>?_;refine Qb 2 K M fun _ K=>?_;replace B:=B.step M;obtain⟨v10,st10,ev10,nau10,q10⟩:=Oc B.fresh (hD.q B.qt);refine p1 K (Qg rfl ev10) fun _ K=>?_;obtain⟨_,kn,vs,_,Fn,rfl,hAa,B⟩:=B.Kx q10 nau10;obtain⟨ca,ma,rfl,rfl⟩:=Acc.ui (f:=AV.bool) (L:=a.acc) hAa Qc;have hnc:Qs kn=true:=(B.at_ (k:=0) rfl).rd.cell;replace B:=B.cast (M':=[(ca,ma,(a.acc.map AV.bool))]) Q7;have M:=B.mem;refine au 1 K M ?_;intro c4 _ _ K _ M;refine QW (k:=0) K M rfl rfl rfl QA rfl (Qa rfl (Qa rfl (Qa hnc Q4))) rfl fun _ M=>?_;refine Qb 4 K M fun _ K=>?_;refine QY (fun mm1 T st9=> ∃(i:Nat) (cur:List Bool),mm1=a.acc.length-i∧QT [(2,.nilp),(3,iZ 0),(4,.ptr c4 0 0),(12,.sl ca ma 0 a.acc.length 1),(13,iZ (a.acc.length:Nat)),(14,iN i)] T∧Qk st Xi st9 [(c4,0,[iZ (a.tr:Nat),.sl ca ma 0 a.acc.length 1,kn]),(ca,ma,(cur.map AV.bool))] [BY Fn kn vs a.nx]∧cur.length=a.acc.length∧(∀(j:Nat) (y:Bool),a.acc[j]? =some y→cur[j]? =some (if j<i then !y else y))∧i≤a.acc.length) (fun mm1 T st9 hI=>?_) _ _ _ ⟨0,_,rfl,(K.sub rfl),(B.step M).less (.refl _),rfl,(fun j y h=>h),(Nat.zero_le _)⟩;obtain⟨i,cur,rfl,K,B,hcl,hcu,hil⟩:=hI;have M:=B.mem;refine Qb 1 K M fun _ K=>?_;refine Jy K rfl (fun h15=>?_) fun h15=>?_
 ·refine Qb 1 K M fun _ K=>?_;obtain⟨y17,hi17⟩:=Uw cur i Qc;refine p1 K (Qe (j:=i) J5 rfl rfl Qc) fun _ K=>p1 K (Qf rfl (M.load (k:=1) rfl (Qd J7 (V5 AV.bool hi17)))) fun _ K=>?_;refine Qb 7 K M fun _ K=>?_;obtain⟨y24,hi24⟩:=Uw cur i Qc;refine p1 K (Qe (j:=i) J5 rfl rfl Qc) fun _ K=>?_;refine Jl (k:=1) K M rfl rfl rfl AR rfl (Wn AV.bool (!(y17)) Qc) fun _ M=>?_;refine Qb 2 K M fun _ K=>?_;obtain⟨y0,hy0⟩:=Uw a.acc i Qc;have hy1:=hcu i y0 hy0;rw[if_neg Qc,hi17]at hy1
  injection hy1 with hy1
  exact⟨_,Qc,i+1,(cur.set i (!(y17))),rfl,(K.sub rfl),(B.step M).less (.refl _),(by rw[List.length_set];exact hcl),(fun j y h=>by
  rw[List.getElem?_set]
  by_cases e:i=j
  ·subst e;rw[if_pos rfl,if_pos Qc,if_pos Qc,hy1];rw[hy0]at h;injection h with h;rw[h]
  ·rw[if_neg e,hcu j y h];by_cases h2:j<i
   ·rw[if_pos h2,if_pos Qc]
   ·rw[if_neg h2,if_neg Qc]),Qc⟩
 refine QM ?_;show W _ _ _ _ _ _ _;refine Qb 1 K M fun _ K=>?_;replace B:=B.step M
 have hcur:cur=a.acc.map (!·):=by
  apply List.ext_getElem?;intro j
  by_cases hj:j<a.acc.length
  ·obtain⟨y,hy⟩: ∃x,a.acc[j]? =some x:=⟨_,List.getElem?_eq_getElem hj⟩;rw[hcu j y hy,List.getElem?_map,hy,if_pos Qc];rfl
  ·rw[List.getElem?_eq_none Qc,List.getElem?_eq_none (by rw[List.length_map];omega)]
 subst hcur;obtain⟨v27,st27,ev27,dp2,F2,rfl,hD2,nf2,q27⟩:=Ed (a:=a.neg) B.fresh (u0 wf) (Qy.fP (f:=AV.bool) (L:=a.acc.map (!·)) (B.row ca ma _ Q7) Qc Qc) (B.at_ (k:=0) rfl).r;refine p1 K (Qg rfl ev27) fun _ K=>?_;replace B:=B.new (o:=Ip F2 dp2 a.neg) q27 hD2.at_ nf2;have M:=B.mem;refine Qb 4 K M ?_;exact⟨dp2,F2,rfl,B.ja (k:=0) rfl,(B.step M).uI (k:=0) rfl,(B.step M).qt⟩

theorem za{st:St}(hf:Qi st)(b:Bool): ∃v st',Jh 137 [.bool b] st v st'∧v=iZ (E9 b:Nat)∧Qt st st':=by
 refine JA Tryz.func137 Tryz.ntmps137 fun T K=>?_;have M:=Mem.start hf;refine Qb 2 K M fun _ K=>?_;refine Qp (K.QG rfl) (fun h3=>?_) (fun h3=>?_)
 ·have hb3:=h3;refine Qb 1 K M ?_;refine⟨?_,M.qt⟩
  first|(rw[show b=true by simp_all];rfl)|(rw[show b=false by simp_all];rfl)
 have hb3:=h3;refine Qb 1 K M ?_;refine⟨?_,M.qt⟩
 first|(rw[show b=true by simp_all];rfl)|(rw[show b=false by simp_all];rfl)

theorem SV{st:St}(hf:Qi st){F:Fp}{xp cm mp:Nat}{kl:AV}{lp:List (Nat×Nat)}{l:Nat}(H:Lh st.h.get F xp cm mp kl lp l)(hi: ∀c,PN F xp cm mp c→c<st.n)(hL:lp.length≤400)(hl1:1≤l)(hl:l≤9223372036854775807)(p:Nat×Nat): ∃v st',Jh 136 [.ptr xp 0 0,.agg [iZ (p.1:Nat),iZ (p.2:Nat)]] st v st'∧ ∃k was lp' kl',v=.tup [iN k,.bool (decide ((lp'.length:Int)≤400))]∧KL lp p lp' k was∧ ∃F',Lh st'.h.get F' xp cm mp kl' lp' (l-(lp'.length-lp.length))∧Ef st st' (PN F xp cm mp) (PN F' xp cm mp)∧US (PN F xp cm mp) st st':=by
 have B:=Qk.xj hf H hi;have hkc:=H.acc.cell;refine JA Tryz.func136 Tryz.ntmps136 fun T K=>?_;have M:=B.mem;refine au 3 K M ?_;intro c3 _ _ K _ M;refine QC (l:=[(0,0),(1,0),(2,0),(3,0),(4,0),(5,0),(6,0),(7,0),(8,0),(9,0),(10,0)]) (by kernel_rfl) ?_;refine Jo 5 K M fun _ K=>?_;refine qA rfl K (WI (a:=p) WS ((B.step M).at_ (k:=1) rfl) rfl rfl) fun _ K=>?_;refine Jo 5 K M fun _ K=>?_;refine QF ?_;show W _ _ _ _ _ _ _;refine Qb 1 K M fun _ K=>?_;refine Qp (K.QG rfl) (fun h18=>?_) (fun h18=>?_)
 ·have hb18:=h18;refine Qb 3 K M ?_
  obtain⟨v0,hv0⟩: ∃x,Yr (UX 0 lp) p=some x:=by cases hq:Yr (UX 0 lp) p with|none=>rw[hq]at h18;cases h18|some x=>exact⟨x,rfl⟩
  obtain⟨i,hi,rfl⟩:=NB hv0;refine⟨i,true,lp,kl,?_,.inl ⟨rfl,rfl,hi⟩,?_⟩
  ·rw[hv0,decide_eq_true (show(lp.length:Int)≤400 by omega)];rfl
  ·rw[show l-(lp.length-lp.length)=l by omega];exact((B.step M).less (.cons _ (.cons_cons _ (.refl _)))).yD
 have hb18:=h18;refine Qb 0 K M fun _ K=>?_
 have hnone:Yr (UX 0 lp) p=none:=by cases hq:Yr (UX 0 lp) p with|none=>rfl|some x=>rw[hq]at h18;cases h18
 refine Qb 4 K M fun _ K=>?_;refine p1 K (Q5 X8 rfl rfl ((Ya.len ((B.step M).at_ (k:=0) rfl)).trans (congrArg some (YN _)))) fun _ K=>?_;refine Qb 1 K M fun _ K=>?_;refine QC (l:=[(0,0),(1,0),(2,0),(3,0),(4,0),(5,0),(6,0)]) (by kernel_rfl) ?_;refine Jo 6 K M fun _ K=>?_;replace B:=B.step M;refine zQ (j:=1) (a:=p) rfl K B rfl WS rfl rfl rfl rfl hnone fun _ B=>?_;rw[show UX 0 lp++[(p,iZ (lp.length:Nat))]=UX 0 (lp++[p]) by rw[Fh,Nat.zero_add]]at B;have M:=B.mem;refine QF ?_;show W _ _ _ _ _ _ _;refine Jz ?_;replace B:=B.step M;obtain⟨Al,hAl,B⟩:=B.BK
 replace B:=(B.perm List.perm_append_comm).cast (M':=((c3,0,[iZ (p.1:Nat),iZ (p.2:Nat)])::(xp,0,[.mp cm,kl,.ptr mp 0 0])::(Al++[]))) (by simp<;>rfl)
 have M:=B.mem;refine QC (l:=[(1,0),(2,0),(3,0),(4,0),(5,0),(6,0),(7,0),(0,0),(8,0),(9,0),(10,0)]) (by kernel_rfl) ?_;refine Jo 5 K M fun _ K=>?_;refine XY rfl K M EX ZI rfl rfl rfl rfl rfl fun c37 _ _ K M=>?_;refine X6 (k2:=0) (L:=[(c37,0,[iZ (p.1:Nat),iZ (p.2:Nat)]),(c3,0,[iZ (p.1:Nat),iZ (p.2:Nat)]),(xp,0,[.mp cm,kl,.ptr mp 0 0])]) (A:=Al) (B:=[]) rfl K M hAl EX rfl rfl rfl rfl (by rw[YN];omega) rfl fun ks38 A38 _ _ K hA38 M=>?_;refine Jo 3 K M fun _ K=>?_;refine YG (k:=2) rfl K M rfl rfl rfl Kp (hA38.cell) rfl fun _ M=>?_;refine QF ?_;show W _ _ _ _ _ _ _;refine Jz ?_;replace B:=B.step M
 obtain⟨F2,B⟩:=Qk.VJ (M:=[(c37,0,[iZ (p.1:Nat),iZ (p.2:Nat)]),(c3,0,[iZ (p.1:Nat),iZ (p.2:Nat)]),(xp,0,[.mp cm,ks38,.ptr mp 0 0])]) (A:=A38) (ks:=ks38) (z:=2) (ls:=KS (lp++[p])) ((B.cast (M':=[(c37,0,[iZ (p.1:Nat),iZ (p.2:Nat)]),(c3,0,[iZ (p.1:Nat),iZ (p.2:Nat)]),(xp,0,[.mp cm,ks38,.ptr mp 0 0])]++A38) (by simp<;>rfl)).perm List.perm_append_comm) (by rw[Dv];exact hA38)
 have M:=B.mem;refine QC (l:=[(1,0),(2,0),(3,0),(4,0),(5,0),(0,0),(6,0),(7,0),(8,0),(9,0),(10,0),(11,0),(12,0),(13,0),(14,0),(15,0)]) (by kernel_rfl) ?_;refine Jo 4 K M fun _ K=>?_;replace B:=B.step M;obtain⟨v46,st46,ev46,rfl,hm3,Q3⟩:=N6 B.fresh (show Qy _ mp 0 [iN l,.bool false]from B.at_ (k:=2) rfl) hl 1 hl1;refine qA rfl K (Qg rfl ev46) fun _ K=>?_;replace B:=B.call (k:=2) (o':=Yt mp (l-1) false) rfl Q3 hm3 (fun c hc=>⟨.inl hc,Nat.lt_of_lt_of_le (B.Y4 (k:=2) rfl c hc) Q3.le⟩);have M:=B.mem;refine Jo 6 K M fun _ K=>?_;refine dg rfl K rfl rfl (Q5 X8 rfl rfl ((Ya.len ((B.step M).at_ (k:=0) rfl)).trans (congrArg some (YN _)))) rfl rfl fun _ K=>?_;refine Jo 4 K M fun _ K=>?_;refine QF ?_;show W _ _ _ _ _ _ _;refine Qb 0 K M ?_
 have e8:(lp++[p]).length=lp.length+1:=by simp
 refine⟨lp.length,false,lp++[p],ks38,rfl,.inr ⟨rfl,NC hnone,rfl,rfl⟩,?_⟩;rw[show l-((lp++[p]).length-lp.length)=l-1 by omega];exact((B.step M).less (.cons _ (.cons _ (.cons_cons _ (.refl _))))).yD

theorem jP{st:St}(hf:Qi st){xp cm mp:Nat}{l:Nat}(H:Lh st.h.get Xi xp cm mp .nils [] l)(hi: ∀c,PN Xi xp cm mp c→c<st.n)(hl1:1≤l)(hl:l≤9223372036854775807): ∃v st',Jh 136 [.ptr xp 0 0,.agg [.int .i64 0,.int .i64 0]] st v st'∧
  v=.tup [.int .i64 0,.bool true]∧ ∃F' kl',Lh st'.h.get F' xp cm mp kl' [(0,0)] (l-1)∧Ef st st' (PN Xi xp cm mp) (PN F' xp cm mp)∧US (PN Xi xp cm mp) st st':=by
 obtain⟨v,st',h1,k,was,lp',kl',h2,h3,F',h4⟩:=SV hf H hi Q9 hl1 hl (0,0);rcases h3 with⟨_,_,h⟩|⟨rfl,_,rfl,rfl⟩
 ·simp at h
 ·exact⟨v,st',h1,h2,F',kl',h4⟩

theorem M4{st:St}(hf:Qi st){FA FB:Fp}{da db:Nat}{a b:Au}(hDA:UZ st FA da a)(hDB:UZ st FB db b)(ht:b.tr=a.tr){t:Nat}(ht15:t≤15){mp l:Nat}(hm:Qy st.h.get mp 0 [iN l,.bool false])(hmA: ¬FA mp)(hmB: ¬FB mp)(hl1:401≤l)(hl:l≤9223372036854775807): ∃v st',Jh 108 [.ptr da 0 0,.ptr db 0 0,iN t,.ptr mp 0 0] st v st'∧fz st st' a b t v∧US (fun c=>c=mp) st st':=by
 have wfa:=hDA.wf;have wfb:=hDB.wf;have htr:=wfa.tr;have hp6:=J9 htr;have hp0:0<2^a.tr:=Nat.two_pow_pos _;have hlna:=wfa.len;have hlnb:=wfb.len;have hena:a.n=a.acc.length:=rfl;have henb:b.n=b.acc.length:=rfl
 have htp:2^b.tr=2^a.tr:=by rw[ht]
 have hdA: ∀c,FA c→ ¬(Yt mp l false).F c:=fun c hc e=>hmA ((show c=mp from e)▸hc);have hdB: ∀c,FB c→ ¬(Yt mp l false).F c:=fun c hc e=>hmB ((show c=mp from e)▸hc);have B:=Qk.UN (o:=Yt mp l false) hf hm (fun c hc=>(show c=mp from hc)▸hm.lt hf);refine JA Tryz.func108 Tryz.ntmps108 fun T K=>?_;have M:=B.mem;refine Qb 3 K M fun _ K=>?_;refine p1 K (Yh JZ rfl rfl) fun _ K=>?_;refine Qb 2 K M fun _ K=>?_;refine pg K rfl rfl (Yh JZ rfl rfl) fun _ K=>?_;refine Qb 3 K M fun _ K=>?_;obtain⟨v31,st31,ev31,rfl,q31⟩:=Xu M.fresh (hDA.O5 (B.step M).JN hdA);refine pg K rfl rfl (Qg rfl ev31) fun _ K=>?_;replace M:=M.quiet q31;refine Qb 1 K M fun _ K=>?_;obtain⟨v33,st33,ev33,rfl,q33⟩:=Xu M.fresh (hDB.O5 (B.step M).JN hdB);refine pg K rfl rfl (Qg rfl ev33) fun _ K=>?_;replace M:=M.quiet q33;refine Qb 2 K M fun _ K=>?_;refine zI K rfl (fun _ e36 K=>?_) fun _ e36 K=>?_
 ·refine Qb 3 K M fun _ K=>?_;refine Uj K rfl (fun _ e40 K=>?_) fun _ e40 K=>?_
  ·refine Qb 3 K M fun _ K=>?_;refine Jy K rfl (fun h43=>?_) fun h43=>?_
   ·exfalso;omega
   refine Qb 0 K M fun _ K=>?_;replace B:=B.step M;refine W3 Xo K B rfl fun c44 _ _ K B=>?_;have M:=B.mem;refine au 4 K M ?_;intro c47 _ _ K _ M;replace B:=(B.step M).fR;have M:=B.mem;refine Qb 1 K M fun _ K=>?_;refine oQ K M (Xu M.fresh (hDA.O5 (B.step M).JN hdA)) rfl rfl fun _ _ K M=>?_;refine au 4 K M ?_;intro c11 _ _ K _ M;refine p1 K (ZK AQ I3 Xb ZI rfl rfl) fun _ K=>?_;replace B:=B.step M;obtain⟨v54,st54,ev54,rfl,F1,kl1,hP1,mf1,Q1⟩:=jP B.fresh (B.at_ (k:=0) rfl) (B.Y4 (k:=0) rfl) Qc hl;refine p1 K (Qg rfl ev54) fun _ K=>?_;replace B:=B.call (k:=0) (o':=aV F1 c47 c44 mp kl1 [(0,0)] (l-1)) rfl Q1 hP1 mf1;have M:=B.mem;refine Qb 9 K M fun _ K=>?_;replace B:=B.step M;obtain⟨v60,st60,ev60,nau,q60⟩:=Oc B.fresh (hDA.O5 B.JN hdA);refine p1 K (Qg rfl ev60) fun _ K=>?_;obtain⟨kaA,knA,vsA,Ato,FA,rfl,hAto,B⟩:=B.Kx q60 nau;replace B:=B.less (List.sublist_append_left _ _);have hknA:Qs knA=true:=(Xw.rd (B.at_ (k:=0) rfl)).cell;have hkaA:=hAto.cell;have M:=B.mem;refine p1 K (Af rfl ((Zw _).trans (Qd Q8 rfl))) fun _ K=>?_;refine Qb 1 K M fun _ K=>?_;replace B:=B.step M;obtain⟨v63,st63,ev63,nau,q63⟩:=Oc B.fresh (hDB.O5 B.JN hdB);refine p1 K (Qg rfl ev63) fun _ K=>?_;obtain⟨kaB,knB,vsB,Ato,FB,rfl,hAto,B⟩:=B.Kx q63 nau;replace B:=B.less (List.sublist_append_left _ _);have hknB:Qs knB=true:=(Xw.rd (B.at_ (k:=0) rfl)).cell;have hkaB:=hAto.cell;have M:=B.mem;refine p1 K (Af rfl ((Zw _).trans (Qd Q8 rfl))) fun _ K=>?_;refine Qb 2 K M fun _ K=>?_;replace B:=(B.step M).V7;have M:=B.mem;refine Qb 1 K M fun _ K=>?_;refine QY (fun mm1 T st9=> ∃(i:Nat) (lp:List (Nat×Nat)) (kl:AV) (Fl:Fp) (rows:List (List Int)) (vs:List AV) (Fr:Fp) (ka:AV) (Aa:QS) (kr:AV) (Ar:QS),mm1=400-i∧QT [(0,.ptr da 0 0),(1,.ptr db 0 0),(2,iN t),(10,.ptr c47 0 0),(11,.ptr c11 0 0),(14,knA),(15,knB),(16,iN i)] T∧Qk st (Yt mp l false).F st9 ((c11,0,[iZ (a.tr:Nat),ka,kr])::(Aa++(Ar++[]))) [ES Fr vs rows,BY FB knB vsB b.nx,BY FA knA vsA a.nx,aV Fl c47 c44 mp kl lp (l-lp.length)]∧Vw (O4 a b) (0,0) (2^a.tr) lp rows []∧rows.length=i∧i≤lp.length∧lp.length≤400∧Acc 0 1 Aa ka (bC ((lp.take i).map (I1 a b t)))∧YS Ar kr vs) (fun mm1 T st9 hI=>?_) _ _ _ ⟨0,[(0,0)],kl1,F1,[],[],_,.nils,[],.nils,[],rfl,(K.sub rfl),(B.step M).less (.refl _),(Vw.start _ _ _),rfl,Q9,Q9,.none,.none⟩;obtain⟨i,lp,kl,Fl,rows,vs,Fr,ka,Aa,kr,Ar,rfl,K,B,hP,hrl,hil,hlp,hAa,hAr⟩:=hI;have M:=B.mem;have hall:=hP.jV wfa wfb ht;refine Qb 4 K M fun _ K=>?_;refine p1 K (Qf rfl (Qx (Lh.row ((B.step M).at_ (k:=3) rfl)).Jd (Qd EU rfl))) fun _ K=>p1 K (Q5 X8 rfl rfl ((Ya.len ((B.step M).at_ (k:=3) rfl).acc).trans (congrArg some (YN _)))) fun _ K=>?_;refine Qb 1 K M fun _ K=>?_;refine Jy K rfl (fun h71=>?_) fun h71=>?_
   ·refine Qb 3 K M fun _ K=>?_;refine p1 K (Qf rfl (Qx (Lh.row ((B.step M).at_ (k:=3) rfl)).Jd (Qd EU rfl))) fun _ K=>?_;refine Qb 1 K M fun _ K=>?_;obtain⟨pr79,hi79⟩:=Uw lp i Qc;have hpb79:=hall pr79 (List.mem_of_getElem? hi79);refine Ts (Ya.rd ((B.step M).at_ (k:=3) rfl).acc) (El hi79) K Ph Gp rfl rfl fun _ _ _ _ K=>?_;refine au 4 K M ?_;intro c17 _ _ K _ M;refine p1 K (AX (j:=0) L8 Xb rfl rfl Q9) fun _ K=>?_;refine Qb 1 K M fun _ K=>?_;obtain⟨s84,hi84⟩:=Uw a.nx (pr79.1) Qc;obtain⟨w84,hv84,hr84,hz84,hf84⟩:=((B.step M).at_ (k:=2) rfl).vs.at_ _ _ hi84;have hw84:=wfa.row s84 (List.mem_of_getElem? hi84);have hl84:s84.length=2^a.tr:=hw84.1;refine oI ((B.step M).at_ (k:=2) rfl).rd (by rw[List.getElem?_map,hv84];rfl) K QZ Jb rfl rfl rfl fun _ _ _ _ K=>?_;refine p1 K (Q5 Ja rfl rfl (hr84.len.trans (congrArg some (Qq _)))) fun _ K=>?_;refine Qb 1 K M fun _ K=>?_;refine QY (fun mm2 T st9=> ∃(c:Nat) (lp2:List (Nat×Nat)) (kl2:AV) (Fl2:Fp) (row:List Int) (kw:AV) (Aw:QS),mm2=2^a.tr-c∧QT [(0,.ptr da 0 0),(1,.ptr db 0 0),(2,iN t),(10,.ptr c47 0 0),(11,.ptr c11 0 0),(14,knA),(15,knB),(16,iN i),(17,.ptr c17 0 0),(18,kw),(71,.bool (decide (((i:Nat):Int)<((lp.length:Nat):Int)))),(85,w84),(86,iZ (s84.length:Nat)),(87,iN c)] T∧Qk st (Yt mp l false).F st9 ((c17,0,[iZ (pr79.1:Nat),iZ (pr79.2:Nat)])::(c11,0,[iZ (a.tr:Nat),ka,kr])::(Aa++(Ar++(Aw++[])))) [ES Fr vs rows,BY FB knB vsB b.nx,BY FA knA vsA a.nx,aV Fl2 c47 c44 mp kl2 lp2 (l-lp2.length)]∧Vw (O4 a b) (0,0) (2^a.tr) lp2 rows row∧row.length=c∧c≤2^a.tr∧lp2.length≤400∧lp2.take (i+1)=lp.take (i+1)∧Acc 0 1 Aw kw (zC row)) (fun mm2 T st9 hI=>?_) _ _ _ ⟨0,lp,kl,Fl,[],.nils,[],rfl,(K.sub rfl),(B.step M).less (.refl _),hP,rfl,(Nat.zero_le _),hlp,rfl,.none⟩;obtain⟨c,lp2,kl2,Fl2,row,kw,Aw,rfl,K,B,hP2,hrow,hcK,hl2,htk,hAw⟩:=hI;have M:=B.mem;have hi2:=Ux htk Qc;refine Qb 1 K M fun _ K=>?_;refine Jy K rfl (fun h88=>?_) fun h88=>?_
    ·refine Qb 1 K M fun _ K=>?_;obtain⟨y90,hi90⟩:=Uw s84 c Qc;have hb90:=hw84.2 y90 (List.mem_of_getElem? hi90);obtain⟨z90,rfl⟩: ∃m:Nat,y90=((m:Nat):Int):=⟨_,(Int.toNat_of_nonneg hb90.1).symm⟩;refine oI (Xw.row ((B.step M).at_ (k:=2) rfl) hi84 hv84) (Jm hi90) K Qo Qn rfl rfl rfl fun _ _ _ _ K=>?_;refine Qb 5 K M fun _ K=>?_;refine p1 K (AX (j:=1) L8 Xb rfl rfl Q9) fun _ K=>?_;refine Qb 1 K M fun _ K=>?_;obtain⟨s98,hi98⟩:=Uw b.nx (pr79.2) Qc;obtain⟨w98,hv98,hr98,hz98,hf98⟩:=((B.step M).at_ (k:=1) rfl).vs.at_ _ _ hi98;have hw98:=wfb.row s98 (List.mem_of_getElem? hi98);have hl98:s98.length=2^b.tr:=hw98.1;refine oI ((B.step M).at_ (k:=1) rfl).rd (by rw[List.getElem?_map,hv98];rfl) K QZ Jb rfl rfl rfl fun _ _ _ _ K=>?_;refine Qb 1 K M fun _ K=>?_;obtain⟨y101,hi101⟩:=Uw s98 c Qc;have hb101:=hw98.2 y101 (List.mem_of_getElem? hi101);obtain⟨z101,rfl⟩: ∃m:Nat,y101=((m:Nat):Int):=⟨_,(Int.toNat_of_nonneg hb101.1).symm⟩;refine oI (Xw.row ((B.step M).at_ (k:=1) rfl) hi98 hv98) (Jm hi101) K Qo Qn rfl rfl rfl fun _ _ _ _ K=>?_;refine p1 K (ZK AQ I3 Xb ZI rfl rfl) fun _ K=>?_;replace B:=B.step M;obtain⟨v104,st104,ev104,k3,was3,lp3,kl3,rfl,hnum,F3,hP3m,mf3,Q3⟩:=SV B.fresh (B.at_ (k:=3) rfl) (B.Y4 (k:=3) rfl) hl2 Qc Qc (z90,z101);refine p1 K (Qg rfl ev104) fun _ K=>?_;have hnl:=hnum.len;rw[show l-lp2.length-(lp3.length-lp2.length)=l-lp3.length by omega]at hP3m;replace B:=B.call (k:=3) (o':=aV F3 c47 c44 mp kl3 lp3 (l-lp3.length)) rfl Q3 hP3m mf3;have M:=B.mem;refine Qb 7 K M fun _ K=>?_;refine Qp (K.QG rfl) (fun h108=>?_) (fun h108=>?_)
     ·have hb108:=h108
      replace h108: ¬((lp3.length:Int)≤400):=by first|exact of_decide_eq_false h108|exact yF h108|simpa using h108
      refine Qb 2 K M ?_
      have hgo:O4 a b pr79 row.length=(z90,z101):=by unfold O4;rw[hrow,JI hi84 hi90,JI hi98 hi101];rfl
      have hP3:=hnum.pr hP2 Qc (show lp2[rows.length]? =some pr79 by rw[hrl];exact Vh htk hi79) hgo
      have h401:lp3.length=401:=by omega
      exact⟨.inr ⟨rfl,lp3,h401,hP3.nodup,fun Q h0 hs p hp=>hP3.all h0 hs (Nat.two_pow_pos _) hp⟩,(B.step M).JN⟩
     have hb108:=h108
     replace h108:((lp3.length:Int)≤400):=by first|exact of_decide_eq_true h108|exact yT h108|simpa using h108
     refine au 3 K M ?_;intro c111 _ _ K _ M;refine Jf (k2:=0) (L:=((c111,0,[iN k3])::(c17,0,[iZ (pr79.1:Nat),iZ (pr79.2:Nat)])::(c11,0,[iZ (a.tr:Nat),ka,kr])::(Aa++(Ar++[])))) (A:=Aw) (B:=[]) K (Mem.cast M U0) hAw QJ rfl rfl rfl rfl (by rw[Qq];omega) rfl fun ks112 A112 _ _ K hA112 M=>?_;simp only[X3]at M;refine Qb 3 K M fun _ K=>?_
     have hgo:O4 a b pr79 row.length=(z90,z101):=by unfold O4;rw[hrow,JI hi84 hi90,JI hi98 hi101];rfl
     have hP3:=hnum.pr hP2 Qc (show lp2[rows.length]? =some pr79 by rw[hrl];exact Vh htk hi79) hgo;exact⟨_,Qc,c+1,lp3,kl3,F3,(row++[((k3:Nat):Int)]),ks112,A112,rfl,(K.sub rfl),(B.step M).less (.cons _ (.refl _)),hP3,(by rw[List.length_append,hrow];rfl),Qc,Qc,(by rw[hnum.take hi2,htk]),(by rw[JX];exact hA112)⟩
    refine QM ?_;show W _ _ _ _ _ _ _;refine Qb 1 K M fun _ K=>?_;refine p1 K (Qf rfl (M.load (k:=1) rfl (Qd Q8 rfl))) fun _ K=>?_;refine Qb 1 K M fun _ K=>?_;refine X5 K M QQ Uu rfl ((JD rfl hAw.cell rfl).trans rfl) (Qa hAw.cell Q4) rfl rfl fun c117 _ _ K M=>?_;refine YL (k2:=0) (L:=((c117,0,[kw])::(c17,0,[iZ (pr79.1:Nat),iZ (pr79.2:Nat)])::(c11,0,[iZ (a.tr:Nat),ka,kr])::(Aa++[]))) (A:=Ar) (B:=(Aw++[])) K (Mem.cast M U0) hAr QQ rfl rfl rfl (by have:=Zl.ln ((B.step M).at_ (k:=0) rfl);omega) rfl fun ks118 A118 _ _ K hA118 _ M=>?_;simp only[X3]at M;refine Qb 1 K M fun _ K=>?_;refine Jl (k:=2) K M rfl rfl rfl Uy (hA118.cell) rfl fun _ M=>?_;refine Qb 0 K M fun _ K=>?_;refine QC (l:=[(3,0),(4,0),(5,0),(6,0),(7,0),(9,0),(10,0),(11,2),(12,0),(13,0),(0,0),(1,4),(2,0),(8,0),(14,0),(15,0),(16,0),(17,0),(18,0),(19,0),(20,0),(21,0)]) (by kernel_rfl) ?_;have Mq:=M;have Mz0:=M;have Bz0:=B;refine q1 rfl K (Q0 rfl) fun _ K=>q1 rfl K (AX (j:=0) L8 Xb rfl rfl Q9) fun _ K=>?_;refine Jo 1 K M fun _ K=>?_;obtain⟨v126,st126,ev126,rfl,q126⟩:=VE M.fresh (hDA.O5 (B.step M).JN hdA) (s:=pr79.1) Qc;refine qA rfl K (Qg rfl ev126) fun _ K=>?_;replace M:=M.quiet q126;have Mp:=Mq;have Mq:=M;have Mz1:=M;have Bz1:=B;obtain⟨v127,st127,ev127,rfl,q127⟩:=za M.fresh (a.ok pr79.1);refine qA rfl K (Qg rfl ev127) fun _ K=>?_;have hbt127:=TT (a.ok pr79.1);replace M:=M.quiet q127;have Mp:=Mq;have Mq:=M;have Mz2:=M;have Bz2:=B;refine q1 rfl K (Q0 rfl) fun _ K=>q1 rfl K (AX (j:=1) L8 Xb rfl rfl Q9) fun _ K=>?_
    refine W5 rfl K rfl (M.load (k:=1) rfl (Qd Qn rfl)) Q7 (by intro s hs;simp only[List.take_succ_cons,List.take_zero,List.mem_cons,List.not_mem_nil,or_false]at hs;rcases hs with rfl|rfl<;>first|exact(Mz1.load (k:=1) rfl (Qd Qn rfl))|exact(Mz0.load (k:=1) rfl (Qd Qn rfl))) (JQ rfl) rfl Q9 fun _ K=>?_
    obtain⟨v132,st132,ev132,rfl,q132⟩:=VE M.fresh (hDB.O5 (B.step M).JN hdB) (s:=pr79.2) Qc;refine qA rfl K (Qg rfl ev132) fun _ K=>?_;replace M:=M.quiet q132;have Mp:=Mq;have Mq:=M;have Mz3:=M;have Bz3:=B;obtain⟨v133,st133,ev133,rfl,q133⟩:=za M.fresh (b.ok pr79.2);refine qA rfl K (Qg rfl ev133) fun _ K=>?_;have hbt133:=TT (b.ok pr79.2);replace M:=M.quiet q133;have Mp:=Mq;have Mq:=M;have Mz4:=M;have Bz4:=B;refine Jo 1 K M fun _ K=>?_
    refine W5 rfl K rfl (M.load (k:=2) rfl (Qd Um rfl)) Q7 (by intro s hs;simp only[List.take_succ_cons,List.take_zero,List.mem_cons,List.not_mem_nil,or_false]at hs;rcases hs with rfl|rfl|rfl|rfl<;>first|exact(Mz3.load (k:=2) rfl (Qd Um rfl))|exact(Mz2.load (k:=2) rfl (Qd Um rfl))|exact(Mz1.load (k:=2) rfl (Qd Um rfl))|exact(Mz0.load (k:=2) rfl (Qd Um rfl))) (JQ (Uo hAa.len)) rfl Q9 fun _ K=>?_
    refine q1 rfl K (Q0 rfl) fun _ K=>q1 rfl K (xG (n:=(E9 (a.ok pr79.1))) rfl rfl Qc) fun _ K=>?_;refine Jo 1 K M fun _ K=>?_;refine q1 rfl K (ZV (a:=t) (n:=((2 *(E9 (a.ok pr79.1)))+(E9 (b.ok pr79.2)))) rfl rfl Qc) fun _ K=>q1 rfl K (Zz (a:=(t/2^(((2 *(E9 (a.ok pr79.1)))+(E9 (b.ok pr79.2)))))) rfl rfl (Nat.le_trans (Nat.div_le_self _ _) Qc)) fun _ K=>q1 rfl K (uh rfl rfl) fun _ K=>?_;refine XY rfl K M J4 Vd rfl rfl rfl rfl rfl fun c138 _ _ K M=>?_;refine X6 (k2:=0) (L:=[(c138,0,[.bool (decide (((((t/2^(((2 *(E9 (a.ok pr79.1)))+(E9 (b.ok pr79.2))))) % 2):Nat):Int)=1))]),(c117,0,[kw]),(c17,0,[iZ (pr79.1:Nat),iZ (pr79.2:Nat)]),(c11,0,[iZ (a.tr:Nat),ka,ks118])]) (A:=Aa) (B:=(A118++(Aw++[]))) rfl K M hAa J4 rfl rfl rfl rfl (by rw[Uq,List.length_map,List.length_take];omega) rfl fun ks139 A139 _ _ K hA139 M=>?_;have Mp:=Mq;have Mq:=M;have Mz5:=M;have Bz5:=B;refine Jo 1 K M fun _ K=>?_;refine YG (k:=3) rfl K M rfl rfl rfl UH (hA139.cell) rfl fun _ M=>?_;have Mp:=Mq;have Mq:=M;have Mz6:=M;have Bz6:=B;refine QF ?_;show W _ _ _ _ _ _ _;refine Qb 3 K M fun _ K=>?_;replace B:=B.step M;obtain⟨Fr,B⟩:=Qk.ZD (L:=((c138,0,[.bool (decide (((((t/2^(((2 *(E9 (a.ok pr79.1)))+(E9 (b.ok pr79.2))))) % 2):Nat):Int)=1))])::(c117,0,[kw])::(c17,0,[iZ (pr79.1:Nat),iZ (pr79.2:Nat)])::(c11,0,[iZ (a.tr:Nat),ks139,ks118])::(A139++(A118++[])))) (A:=Aw) (B:=[]) (B.cast U0) hAw (hP2.Fx hl2);replace B:=B.cast (M':=((c138,0,[.bool (decide (((((t/2^(((2 *(E9 (a.ok pr79.1)))+(E9 (b.ok pr79.2))))) % 2):Nat):Int)=1))])::(c117,0,[kw])::(c17,0,[iZ (pr79.1:Nat),iZ (pr79.2:Nat)])::(c11,0,[iZ (a.tr:Nat),ks139,ks118])::(A139++(A118++[])))) U0;have M:=B.mem;have hi2:=Ux htk Qc
    have htq:lp.take (i+1)=lp.take i++[pr79]:=by rw[List.take_add_one,hi79];rfl
    exact⟨_,Qc,i+1,lp2,kl2,Fl2,(rows++[row]),_,_,ks139,A139,ks118,A118,rfl,(K.sub rfl),(B.step M).less (.cons _ (.cons _ (.cons _ (.refl _)))),(hP2.whole Qc),(by rw[List.length_append,hrl];rfl),hi2,hl2,(by rw[htk,htq,List.map_append,XS,show bC ([pr79].map (I1 a b t))=[[AV.bool (I1 a b t pr79)]]from rfl,show I1 a b t pr79=_ from xe t _ _];exact hA139),hA118⟩
   refine QM ?_;show W _ _ _ _ _ _ _;refine Qb 1 K M fun _ K=>?_;replace B:=B.step M;have hlt:lp.take i=lp:=List.take_of_length_le Qc;rw[hlt]at hAa;have hMd:=hP.made (p:=I1 a b t) (m:=⟨a.tr,lp.map (I1 a b t),rows⟩) (by show rows.length=_;omega) rfl htr hlp;obtain⟨Fo,B⟩:=Qk.Bt (L:=((c11,0,[iZ (a.tr:Nat),ka,kr])::(Aa++[]))) (A:=Ar) (B:=[]) (B.cast U0) hAr;replace B:=B.cast (M':=((c11,0,[iZ (a.tr:Nat),ka,kr])::(Aa++[]))) U0;have M:=B.mem;obtain⟨v142,st142,ev142,dp2,F2,rfl,hD2,nf2,q142⟩:=Ed (a:=⟨a.tr,lp.map (I1 a b t),rows⟩) B.fresh hMd.wf (Mem.Y6 (L:=[(c11,0,[iZ (a.tr:Nat),ka,kr])]) (A:=Aa) (B:=[]) M hAa) (Xw.r (B.at_ (k:=0) rfl));refine p1 K (Qg rfl ev142) fun _ K=>?_;have hle0:=B.le;replace B:=B.quiet q142;have M:=B.mem;refine Qb 4 K M ?_;exact⟨.inl ⟨dp2,F2,lp,_,rfl,⟨hMd,rfl⟩,hD2,fun c hc=>⟨Nat.le_trans hle0 (nf2 c hc).1,(nf2 c hc).2⟩⟩,(B.step M).JN⟩
  exfalso;omega
 exfalso;omega
end Go.Proofs.YtiknomepbklibaaGreatDoor
