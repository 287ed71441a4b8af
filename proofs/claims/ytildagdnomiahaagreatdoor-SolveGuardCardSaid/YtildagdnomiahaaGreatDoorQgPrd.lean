/-
  Both of two automata, and not: the program's.
-/
import Derived.Test.YtildagdnomiahaaGreatDoorQgR20B
import Derived.Test.YtildagdnomiahaaGreatDoorQgEnt
namespace Go.Proofs.YtildagdnomiahaaGreatDoor
open Go Go.RowKit
set_option maxHeartbeats 8000000
set_option linter.unusedVariables false
set_option linter.unusedSimpArgs false
set_option linter.unnecessarySimpa false
set_option maxRecDepth 100000

structure Is(h:Hp)(F:Fp)(xp cm mp:Nat)(kl:AV)(lp:List (Nat×Nat))(l:Nat):Prop where
 acc:Wr h F 2 kl (RW lp)
 map:(XZ cm Zm (Ud 0 lp)).H h
 met:(Zn mp l false).H h
 row:Qw h xp 0 [.mp cm,kl,.ptr mp 0 0]
 d1: ¬F xp
 d2: ¬F cm
 d3: ¬F mp
 d4:xp≠cm
 d5:xp≠mp
 d6:cm≠mp
def CT(F:Fp)(xp cm mp:Nat):Fp:=fun c=>F c∨c=cm∨c=mp∨c=xp
section
variable {st0 st st':St} {X0 F F':Fp} {M A:QK} {Os:List Ob} {xp cm mp l l':Nat} {kl kl':AV} {lp lp':List (Nat×Nat)}
theorem Is.frame{h h':Hp}(e: ∀c,CT F xp cm mp c→h' c=h c)(H:Is h F xp cm mp kl lp l):Is h' F xp cm mp kl lp l:=
 ⟨(Px F 2 kl (RW lp)).fr _ _ (fun c hc=>e c (.inl hc)) H.acc,(XZ cm Zm (Ud 0 lp)).fr _ _ (fun c hc=>e c (.inr (.inl hc))) H.map,(Zn mp l false).fr _ _ (fun c hc=>e c (.inr (.inr (.inl hc)))) H.met,H.row.frame (e xp (.inr (.inr (.inr rfl)))),H.d1,H.d2,H.d3,H.d4,H.d5,H.d6⟩
def vN(F:Fp)(xp cm mp:Nat)(kl:AV)(lp:List (Nat×Nat))(l:Nat):Ob:=⟨CT F xp cm mp,fun h=>Is h F xp cm mp kl lp l,fun _ _ e H=>H.frame e⟩
theorem Qj.uf(hf:Qg st)(H:Is st.h.get F xp cm mp kl lp l)(hi: ∀c,CT F xp cm mp c→c<st.n):Qj st (CT F xp cm mp) st [(xp,0,[.mp cm,kl,.ptr mp 0 0])] [Px F 2 kl (RW lp),XZ cm Zm (Ud 0 lp),Zn mp l false]:=by
 refine⟨hf,Nat.le_refl _,fun c m x h=>?_,by simp,fun c m x h=>?_,fun o h=>?_,fun o h c hc=>?_,?_,fun o h c m x hm hc=>?_,fun _ _ _=>rfl⟩
 ·simp at h;obtain⟨rfl,rfl,rfl⟩:=h;exact H.row
 ·simp at h;obtain⟨rfl,rfl,rfl⟩:=h;exact .inr (.inr (.inr (.inr rfl)))
 ·simp at h;rcases h with rfl|rfl|rfl
  ·exact H.acc
  ·exact H.map
  ·exact H.met
 ·simp at h;rcases h with rfl|rfl|rfl
  ·exact⟨hi c (.inl hc),.inr (.inl hc)⟩
  ·exact⟨hi c (.inr (.inl hc)),.inr (.inr (.inl hc))⟩
  ·exact⟨hi c (.inr (.inr (.inl hc))),.inr (.inr (.inr (.inl hc)))⟩
 ·refine List.pairwise_cons.2 ⟨fun o h c h1 h2=>?_,List.pairwise_cons.2 ⟨fun o h c h1 h2=>?_,List.pairwise_singleton _ _⟩⟩
  ·simp at h;rcases h with rfl|rfl
   ·exact H.d2 ((show c=cm from h2)▸h1)
   ·exact H.d3 ((show c=mp from h2)▸h1)
  ·rw[List.mem_singleton.1 h]at h2;exact H.d6 ((show c=cm from h1).symm.trans (show c=mp from h2))
 ·simp at hm;obtain⟨rfl,rfl,rfl⟩:=hm
  simp at h;rcases h with rfl|rfl|rfl
  ·exact H.d1 hc
  ·exact H.d4 hc
  ·exact H.d5 hc
theorem Qj.qJ(B:Qj st (CT F xp cm mp) st' [(xp,0,[.mp cm,kl',.ptr mp 0 0])] [Px F' 2 kl' (RW lp'),XZ cm Zm (Ud 0 lp'),Zn mp l' false]): ∃F',Is st'.h.get F' xp cm mp kl' lp' l'∧Eg st st' (CT F xp cm mp) (CT F' xp cm mp)∧YI (CT F xp cm mp) st st':=by
 have hp:=List.pairwise_cons.1 B.dj;have hp2:=(List.pairwise_cons.1 hp.2).1 (Zn mp l' false) Qx;have hr:=fun o ho=>B.djM o ho xp 0 _ (List.mem_singleton.2 rfl);refine⟨F',⟨B.at_ (k:=0) rfl,B.at_ (k:=1) rfl,B.at_ (k:=2) rfl,B.row _ _ _ (List.mem_singleton.2 rfl),hr (Px F' 2 kl' (RW lp')) Qx,fun h=>hp.1 (XZ cm Zm (Ud 0 lp')) Qx cm h rfl,fun h=>hp.1 (Zn mp l' false) Qx mp h rfl,fun e=>hr (XZ cm Zm (Ud 0 lp')) Qx e,fun e=>hr (Zn mp l' false) Qx e,fun e=>hp2 cm rfl e⟩,fun c hc=>?_,B.U7⟩;rcases hc with hc|hc|hc|hc
 ·exact⟨(B.DC (k:=0) rfl c hc).symm,B.Vj (k:=0) rfl c hc⟩
 ·exact⟨(B.DC (k:=1) rfl c hc).symm,B.Vj (k:=1) rfl c hc⟩
 ·exact⟨(B.DC (k:=2) rfl c hc).symm,B.Vj (k:=2) rfl c hc⟩
 ·subst hc;exact⟨.inl (.inr (.inr (.inr rfl))),(B.row c 0 _ (List.mem_singleton.2 rfl)).lt B.fresh⟩
theorem Qj.ef(B:Qj st0 X0 st ((xp,0,[.mp cm,.nils,.ptr mp 0 0])::M) (XZ cm Zm []::Zn mp l false::Os)):Qj st0 X0 st M (vN WA xp cm mp .nils [] l::Os):=by
 have d1:=B.djM (XZ cm Zm []) Qx xp 0 _ (List.mem_cons_self ..);have d2:=B.djM (Zn mp l false) Qx xp 0 _ (List.mem_cons_self ..);have d3:=(List.pairwise_cons.1 B.dj).1 (Zn mp l false) Qx;have B1:=Qj.freeze (R:=[(xp,0,[.mp cm,.nils,.ptr mp 0 0])]) (o:=ZG [(xp,0,[.mp cm,.nils,.ptr mp 0 0])]) (M:=M) B (fun c m x h=>B.row c m x (by rw[List.mem_singleton.1 h];exact List.mem_cons_self ..)) (fun c hc=>hc)
 have B2:=B1.join (o:=⟨fun c=>c=xp∨c=cm,fun h=>Qw h xp 0 [.mp cm,.nils,.ptr mp 0 0]∧(XZ cm Zm []).H h,fun h h' e H=>⟨H.1.frame (e xp (.inl rfl)),(XZ cm Zm []).fr _ _ (fun c hc=>e c (.inr hc)) H.2⟩⟩) (fun h1 h2=>⟨h1 xp 0 _ (List.mem_singleton.2 rfl),h2⟩) (fun c hc=>by
  rcases hc with hc|hc
  ·exact .inl ⟨0,_,by rw[hc];exact List.mem_singleton.2 rfl⟩
  ·exact .inr hc)
 refine B2.join (fun h1 h2=>⟨⟨[],.none,fun c m l h=>by cases h⟩,h1.2,h2,h1.1,id,id,id,fun e=>d1 e,fun e=>d2 e,fun e=>d3 cm rfl e⟩) (fun c hc=>?_);rcases hc with hc|hc|hc|hc
 ·exact hc.elim
 ·exact .inl (.inr hc)
 ·exact .inr hc
 ·exact .inl (.inl hc)
end
theorem YS.row{h:Hp}{F:Fp}{kn:AV}{vs:List AV}{LL:List (List Int)}(H:YS h F kn vs LL){i:Nat}{s:List Int}{w:AV}(hi:LL[i]? =some s)(hv:vs[i]? =some w):Je h [] 1 (zC s) w:=by
 obtain⟨w',k1,k2,_⟩:=H.vs.at_ _ _ hi;rw[hv]at k1
 injection k1 with k1
 rw[k1];exact k2
def Wh(b:Bool):Nat:=if b then 1 else 0
theorem Ry(b:Bool):Wh b≤1:=by cases b<;>decide
theorem jZ(t:Nat)(x y:Bool):zE t x y=decide (((t/2^(2 *Wh x+Wh y) % 2:Nat):Int)=1):=by
 rw[←jY];cases x<;>cases y<;>rfl
theorem uB{P:Program}{G:Env}{K:List (Nat×AV)}{st:St}{t yt:TypeId}{x y:Operand}{n:Nat}(hx:QD G K x=some (.int .i64 2))(hy:QD G K y=some (.int .i64 (n:Nat)))(h1:n≤1):Uf P G K (.binOp .mul t x y yt) st (.int .i64 (2 *n:Nat)) st:=by
 rw[show((2 *n:Nat):Int)=2 *((n:Nat):Int) by omega];exact PM hx hy (IntWalk.i64_in _ Qe)
def wG(st st':St)(a b:Au)(t:Nat)(v:AV):Prop:=
 (∃dp F lp m,v=.tup [.ptr dp 0 0,.int .i64 0]∧Oj a b t lp m∧JH st' F dp m∧XE st st' F)∨
 (v=.tup [.nilp,.int .i64 8]∧ ∃(lp:List (Nat×Nat)),lp.length=401∧lp.Nodup∧ ∀(Q:Nat×Nat→Prop),Q (0,0)→(∀p c,Q p→c<2^a.tr→Q (Rh a b p c))→ ∀p∈lp,Q p)

theorem uy{st:St}(hf:Qg st){F:Fp}{dp:Nat}{a:Au}(hD:JH st F dp a): ∃v st',QR 201 [.ptr dp 0 0] st v st'∧ ∃dp2 F2,v=.tup [.ptr dp2 0 0,iZ 0]∧JH st' F2 dp2 a.neg∧XE st st' F2∧Qt st st':=by
 have wf:=hD.wf;have hps:=wf.pos;have hmo:=wf.most;have hln:=wf.len;have hen:a.n=a.acc.length:=rfl;have htr:=wf.tr;have B:=Qj.start hf;refine Jq Tryz.func201 Tryz.ntmps201 fun T K=>?_;have M:=B.mem;refine Qb 3 K M fun _ K=>?_;refine p1 K (U0 J2 rfl rfl) fun _ K=>?_;refine Qb 2 K M fun _ K=>?_;replace B:=B.step M;obtain⟨v10,st10,ev10,nau10,q10⟩:=Fz B.fresh (hD.q B.qt);refine p1 K (Qf rfl ev10) fun _ K=>?_;obtain⟨_,kn,vs,_,Fn,rfl,hAa,B⟩:=B.AZ q10 nau10;obtain⟨ca,ma,rfl,rfl⟩:=Acc.ze (f:=AV.bool) (L:=a.acc) hAa Qe;have hnc:Qu kn=true:=(B.at_ (k:=0) rfl).rd.cell;replace B:=B.cast (M':=[(ca,ma,(a.acc.map AV.bool))]) Qx;have M:=B.mem;refine au 1 K M ?_;intro c4 _ _ K _ M;refine J9 (k:=0) K M rfl rfl rfl ZB rfl (Qa rfl (Qa rfl (Qa hnc Q9))) rfl fun _ M=>?_;refine Qb 4 K M fun _ K=>?_;refine QV (fun mm1 T st9=> ∃(i:Nat) (cur:List Bool),mm1=a.acc.length-i∧QE [(2,.nilp),(3,iZ 0),(4,.ptr c4 0 0),(12,.sl ca ma 0 a.acc.length 1),(13,iZ (a.acc.length:Nat)),(14,iN i)] T∧Qj st WA st9 [(c4,0,[iZ (a.tr:Nat),.sl ca ma 0 a.acc.length 1,kn]),(ca,ma,(cur.map AV.bool))] [LQ Fn kn vs a.nx]∧cur.length=a.acc.length∧(∀(j:Nat) (y:Bool),a.acc[j]? =some y→cur[j]? =some (if j<i then !y else y))∧i≤a.acc.length) (fun mm1 T st9 hI=>?_) _ _ _ ⟨0,_,rfl,(K.sub rfl),(B.step M).less (.refl _),rfl,(fun j y h=>h),(Nat.zero_le _)⟩;obtain⟨i,cur,rfl,K,B,hcl,hcu,hil⟩:=hI;have M:=B.mem;refine Qb 1 K M fun _ K=>?_;refine Uk K rfl (fun h15=>?_) fun h15=>?_
 ·refine Qb 1 K M fun _ K=>?_;obtain⟨y17,hi17⟩:=YP cur i Qe;refine p1 K (Qs (j:=i) U5 rfl rfl Qe) fun _ K=>p1 K (Qh rfl (M.load (k:=1) rfl (Qc XJ (FX AV.bool hi17)))) fun _ K=>?_;refine Qb 7 K M fun _ K=>?_;obtain⟨y24,hi24⟩:=YP cur i Qe;refine p1 K (Qs (j:=i) U5 rfl rfl Qe) fun _ K=>?_;refine J6 (k:=1) K M rfl rfl rfl El rfl (W9 AV.bool (!(y17)) Qe) fun _ M=>?_;refine Qb 2 K M fun _ K=>?_;obtain⟨y0,hy0⟩:=YP a.acc i Qe;have hy1:=hcu i y0 hy0;rw[if_neg Qe,hi17]at hy1
  injection hy1 with hy1
  exact⟨_,Qe,i+1,(cur.set i (!(y17))),rfl,(K.sub rfl),(B.step M).less (.refl _),(by rw[List.length_set];exact hcl),(fun j y h=>by
  rw[List.getElem?_set]
  by_cases e:i=j
  ·subst e;rw[if_pos rfl,if_pos Qe,if_pos Qe,hy1];rw[hy0]at h;injection h with h;rw[h]
  ·rw[if_neg e,hcu j y h];by_cases h2:j<i
   ·rw[if_pos h2,if_pos Qe]
   ·rw[if_neg h2,if_neg Qe]),Qe⟩
 refine QO ?_;show W _ _ _ _ _ _ _;refine Qb 1 K M fun _ K=>?_;replace B:=B.step M
 have hcur:cur=a.acc.map (!·):=by
  apply List.ext_getElem?;intro j
  by_cases hj:j<a.acc.length
  ·obtain⟨y,hy⟩: ∃x,a.acc[j]? =some x:=⟨_,List.getElem?_eq_getElem hj⟩;rw[hcu j y hy,List.getElem?_map,hy,if_pos Qe];rfl
  ·rw[List.getElem?_eq_none Qe,List.getElem?_eq_none (by rw[List.length_map];omega)]
 subst hcur;obtain⟨v27,st27,ev27,dp2,F2,rfl,hD2,nf2,q27⟩:=VK (a:=a.neg) B.fresh (MB wf) (Qw.wZ (f:=AV.bool) (L:=a.acc.map (!·)) (B.row ca ma _ Qx) Qe Qe) (B.at_ (k:=0) rfl).r;refine p1 K (Qf rfl ev27) fun _ K=>?_;replace B:=B.new (o:=Ak F2 dp2 a.neg) q27 hD2.at_ nf2;have M:=B.mem;refine Qb 4 K M ?_;exact⟨dp2,F2,rfl,B.SU (k:=0) rfl,(B.step M).ya (k:=0) rfl,(B.step M).qt⟩

theorem qY{st:St}(hf:Qg st)(b:Bool): ∃v st',QR 245 [.bool b] st v st'∧v=iZ (Wh b:Nat)∧Qt st st':=by
 refine Jq Tryz.func245 Tryz.ntmps245 fun T K=>?_;have M:=Mem.start hf;refine Qb 2 K M fun _ K=>?_;refine YU K rfl (fun h3=>?_) fun h3=>?_
 ·have hb3:=h3;refine Qb 1 K M ?_;refine⟨?_,M.qt⟩
  first|(rw[show b=true by simp_all];rfl)|(rw[show b=false by simp_all];rfl)
 have hb3:=h3;refine Qb 1 K M ?_;refine⟨?_,M.qt⟩
 first|(rw[show b=true by simp_all];rfl)|(rw[show b=false by simp_all];rfl)

theorem PK{st:St}(hf:Qg st){F:Fp}{xp cm mp:Nat}{kl:AV}{lp:List (Nat×Nat)}{l:Nat}(H:Is st.h.get F xp cm mp kl lp l)(hi: ∀c,CT F xp cm mp c→c<st.n)(hL:lp.length≤400)(hl1:1≤l)(hl:l≤9223372036854775807)(p:Nat×Nat): ∃v st',QR 244 [.ptr xp 0 0,.agg [iZ (p.1:Nat),iZ (p.2:Nat)]] st v st'∧ ∃k was lp' kl',v=.tup [iN k,.bool (decide ((lp'.length:Int)≤400))]∧L4 lp p lp' k was∧ ∃F',Is st'.h.get F' xp cm mp kl' lp' (l-(lp'.length-lp.length))∧Eg st st' (CT F xp cm mp) (CT F' xp cm mp)∧YI (CT F xp cm mp) st st':=by
 have B:=Qj.uf hf H hi;have hkc:=H.acc.cell;refine Jq Tryz.func244 Tryz.ntmps244 fun T K=>?_;have M:=B.mem;refine au 3 K M ?_;intro c3 _ _ K _ M;refine QQ (l:=[(0,0),(1,0),(2,0),(3,0),(4,0),(5,0),(6,0),(7,0),(8,0),(9,0),(10,0)]) (by kernel_rfl) ?_;refine Yd 5 K M fun _ K=>?_;refine qA rfl K (V2 (a:=p) V8 ((B.step M).at_ (k:=1) rfl) rfl rfl) fun _ K=>?_;refine Yd 5 K M fun _ K=>?_;refine Jf ?_;show W _ _ _ _ _ _ _;refine Qb 1 K M fun _ K=>?_;refine YU K rfl (fun h18=>?_) fun h18=>?_
 ·have hb18:=h18;refine Qb 3 K M ?_
  obtain⟨v0,hv0⟩: ∃x,Uz (Ud 0 lp) p=some x:=by cases hq:Uz (Ud 0 lp) p with|none=>rw[hq]at h18;cases h18|some x=>exact⟨x,rfl⟩
  obtain⟨i,hi,rfl⟩:=KA hv0;refine⟨i,true,lp,kl,?_,.inl ⟨rfl,rfl,hi⟩,?_⟩
  ·rw[hv0,decide_eq_true (show(lp.length:Int)≤400 by omega)];rfl
  ·rw[show l-(lp.length-lp.length)=l by omega];exact((B.step M).less (.cons _ (.cons_cons _ (.refl _)))).qJ
 have hb18:=h18;refine Qb 0 K M fun _ K=>?_
 have hnone:Uz (Ud 0 lp) p=none:=by cases hq:Uz (Ud 0 lp) p with|none=>rfl|some x=>rw[hq]at h18;cases h18
 refine Qb 4 K M fun _ K=>?_;refine p1 K (Q4 ZA rfl rfl ((Wr.len ((B.step M).at_ (k:=0) rfl)).trans (congrArg some (I0 _)))) fun _ K=>?_;refine Qb 1 K M fun _ K=>?_;refine QQ (l:=[(0,0),(1,0),(2,0),(3,0),(4,0),(5,0),(6,0)]) (by kernel_rfl) ?_;refine Yd 6 K M fun _ K=>?_;replace B:=B.step M;refine jK (j:=1) (a:=p) rfl K B rfl V8 rfl rfl rfl rfl hnone fun _ B=>?_;rw[show Ud 0 lp++[(p,iZ (lp.length:Nat))]=Ud 0 (lp++[p]) by rw[E3,Nat.zero_add]]at B;have M:=B.mem;refine Jf ?_;show W _ _ _ _ _ _ _;refine Z7 ?_;replace B:=B.step M;obtain⟨Al,hAl,B⟩:=B.uK
 replace B:=(B.perm List.perm_append_comm).cast (M':=((c3,0,[iZ (p.1:Nat),iZ (p.2:Nat)])::(xp,0,[.mp cm,kl,.ptr mp 0 0])::(Al++[]))) (by simp<;>rfl)
 have M:=B.mem;refine QQ (l:=[(1,0),(2,0),(3,0),(4,0),(5,0),(6,0),(7,0),(0,0),(8,0),(9,0),(10,0)]) (by kernel_rfl) ?_;refine Yd 5 K M fun _ K=>?_;refine H2 rfl K M W5 YL rfl rfl rfl rfl rfl fun c37 _ _ K M=>?_;refine Vq (k2:=0) (L:=[(c37,0,[iZ (p.1:Nat),iZ (p.2:Nat)]),(c3,0,[iZ (p.1:Nat),iZ (p.2:Nat)]),(xp,0,[.mp cm,kl,.ptr mp 0 0])]) (B:=[]) rfl K M hAl W5 rfl rfl rfl rfl (by rw[I0];omega) rfl fun ks38 A38 _ _ K hA38 M=>?_;refine Yd 3 K M fun _ K=>?_;refine Xo (k:=2) rfl K M rfl rfl rfl H5 (hA38.cell) rfl fun _ M=>?_;refine Jf ?_;show W _ _ _ _ _ _ _;refine Z7 ?_;replace B:=B.step M
 obtain⟨F2,B⟩:=Qj.qP (M:=[(c37,0,[iZ (p.1:Nat),iZ (p.2:Nat)]),(c3,0,[iZ (p.1:Nat),iZ (p.2:Nat)]),(xp,0,[.mp cm,ks38,.ptr mp 0 0])]) (A:=A38) (ks:=ks38) (z:=2) (ls:=RW (lp++[p])) ((B.cast (M':=[(c37,0,[iZ (p.1:Nat),iZ (p.2:Nat)]),(c3,0,[iZ (p.1:Nat),iZ (p.2:Nat)]),(xp,0,[.mp cm,ks38,.ptr mp 0 0])]++A38) (by simp<;>rfl)).perm List.perm_append_comm) (by rw[Md];exact hA38)
 have M:=B.mem;refine QQ (l:=[(1,0),(2,0),(3,0),(4,0),(5,0),(0,0),(6,0),(7,0),(8,0),(9,0),(10,0),(11,0),(12,0),(13,0),(14,0),(15,0)]) (by kernel_rfl) ?_;refine Yd 4 K M fun _ K=>?_;replace B:=B.step M;obtain⟨v46,st46,ev46,rfl,hm3,Q3⟩:=Kw B.fresh (show Qw _ mp 0 [iN l,.bool false]from B.at_ (k:=2) rfl) hl 1 hl1;refine qA rfl K (Qf rfl ev46) fun _ K=>?_;replace B:=B.call (k:=2) (o':=Zn mp (l-1) false) rfl Q3 hm3 (fun c hc=>⟨.inl hc,Nat.lt_of_lt_of_le (B.Vj (k:=2) rfl c hc) Q3.le⟩);have M:=B.mem;refine Yd 6 K M fun _ K=>?_;refine dg rfl K rfl rfl (Q4 ZA rfl rfl ((Wr.len ((B.step M).at_ (k:=0) rfl)).trans (congrArg some (I0 _)))) rfl rfl fun _ K=>?_;refine Yd 4 K M fun _ K=>?_;refine Jf ?_;show W _ _ _ _ _ _ _;refine Qb 0 K M ?_
 have e8:(lp++[p]).length=lp.length+1:=by simp
 refine⟨lp.length,false,lp++[p],ks38,rfl,.inr ⟨rfl,KB hnone,rfl,rfl⟩,?_⟩;rw[show l-((lp++[p]).length-lp.length)=l-1 by omega];exact((B.step M).less (.cons _ (.cons _ (.cons_cons _ (.refl _))))).qJ

theorem Mc{st:St}(hf:Qg st){xp cm mp:Nat}{l:Nat}(H:Is st.h.get WA xp cm mp .nils [] l)(hi: ∀c,CT WA xp cm mp c→c<st.n)(hl1:1≤l)(hl:l≤9223372036854775807): ∃v st',QR 244 [.ptr xp 0 0,.agg [.int .i64 0,.int .i64 0]] st v st'∧
  v=.tup [.int .i64 0,.bool true]∧ ∃F' kl',Is st'.h.get F' xp cm mp kl' [(0,0)] (l-1)∧Eg st st' (CT WA xp cm mp) (CT F' xp cm mp)∧YI (CT WA xp cm mp) st st':=by
 obtain⟨v,st',h1,k,was,lp',kl',h2,h3,F',h4⟩:=PK hf H hi Q8 hl1 hl (0,0);rcases h3 with⟨_,_,h⟩|⟨rfl,_,rfl,rfl⟩
 ·simp at h
 ·exact⟨v,st',h1,h2,F',kl',h4⟩

theorem RX{st:St}(hf:Qg st){FA FB:Fp}{da db:Nat}{a b:Au}(hDA:JH st FA da a)(hDB:JH st FB db b)(ht:b.tr=a.tr){t:Nat}(ht15:t≤15){mp l:Nat}(hm:Qw st.h.get mp 0 [iN l,.bool false])(hmA: ¬FA mp)(hmB: ¬FB mp)(hl1:401≤l)(hl:l≤9223372036854775807): ∃v st',QR 202 [.ptr da 0 0,.ptr db 0 0,iN t,.ptr mp 0 0] st v st'∧wG st st' a b t v∧YI (fun c=>c=mp) st st':=by
 have wfa:=hDA.wf;have wfb:=hDB.wf;have htr:=wfa.tr;have hp6:=JD htr;have hp0:0<2^a.tr:=Nat.two_pow_pos _;have hlna:=wfa.len;have hlnb:=wfb.len;have hena:a.n=a.acc.length:=rfl;have henb:b.n=b.acc.length:=rfl
 have htp:2^b.tr=2^a.tr:=by rw[ht]
 have hdA: ∀c,FA c→ ¬(Zn mp l false).F c:=fun c hc e=>hmA ((show c=mp from e)▸hc);have hdB: ∀c,FB c→ ¬(Zn mp l false).F c:=fun c hc e=>hmB ((show c=mp from e)▸hc);have B:=Qj.UR (o:=Zn mp l false) hf hm (fun c hc=>(show c=mp from hc)▸hm.lt hf);refine Jq Tryz.func202 Tryz.ntmps202 fun T K=>?_;have M:=B.mem;refine Qb 3 K M fun _ K=>?_;refine p1 K (U0 J2 rfl rfl) fun _ K=>?_;refine Qb 2 K M fun _ K=>?_;refine pg K rfl rfl (U0 J2 rfl rfl) fun _ K=>?_;refine Qb 3 K M fun _ K=>?_;obtain⟨v31,st31,ev31,rfl,q31⟩:=YQ M.fresh (hDA.Lm (B.step M).U7 hdA);refine pg K rfl rfl (Qf rfl ev31) fun _ K=>?_;replace M:=M.quiet q31;refine Qb 1 K M fun _ K=>?_;obtain⟨v33,st33,ev33,rfl,q33⟩:=YQ M.fresh (hDB.Lm (B.step M).U7 hdB);refine pg K rfl rfl (Qf rfl ev33) fun _ K=>?_;replace M:=M.quiet q33;refine Qb 2 K M fun _ K=>?_;refine vr K rfl (fun _ e36 K=>?_) fun _ e36 K=>?_
 ·refine Qb 3 K M fun _ K=>?_;refine Uv K rfl (fun _ e40 K=>?_) fun _ e40 K=>?_
  ·refine Qb 3 K M fun _ K=>?_;refine Uk K rfl (fun h43=>?_) fun h43=>?_
   ·exfalso;omega
   refine Qb 0 K M fun _ K=>?_;replace B:=B.step M;refine Vm Zm K B rfl fun c44 _ _ K B=>?_;have M:=B.mem;refine au 4 K M ?_;intro c47 _ _ K _ M;replace B:=(B.step M).ef;have M:=B.mem;refine Qb 1 K M fun _ K=>?_;refine oQ K M (YQ M.fresh (hDA.Lm (B.step M).U7 hdA)) rfl rfl fun _ _ K M=>?_;refine au 4 K M ?_;intro c11 _ _ K _ M;refine p1 K (YM Ek FJ Zf YL rfl rfl) fun _ K=>?_;replace B:=B.step M;obtain⟨v54,st54,ev54,rfl,F1,kl1,hP1,mf1,Q1⟩:=Mc B.fresh (B.at_ (k:=0) rfl) (B.Vj (k:=0) rfl) Qe hl;refine p1 K (Qf rfl ev54) fun _ K=>?_;replace B:=B.call (k:=0) (o':=vN F1 c47 c44 mp kl1 [(0,0)] (l-1)) rfl Q1 hP1 mf1;have M:=B.mem;refine Qb 9 K M fun _ K=>?_;replace B:=B.step M;obtain⟨v60,st60,ev60,nau,q60⟩:=Fz B.fresh (hDA.Lm B.U7 hdA);refine p1 K (Qf rfl ev60) fun _ K=>?_;obtain⟨kaA,knA,vsA,Ato,FA,rfl,hAto,B⟩:=B.AZ q60 nau;replace B:=B.less (List.sublist_append_left _ _);have hknA:Qu knA=true:=(YS.rd (B.at_ (k:=0) rfl)).cell;have hkaA:=hAto.cell;have M:=B.mem;refine p1 K (Xw rfl ((Ux _).trans (Qc QP rfl))) fun _ K=>?_;refine Qb 1 K M fun _ K=>?_;replace B:=B.step M;obtain⟨v63,st63,ev63,nau,q63⟩:=Fz B.fresh (hDB.Lm B.U7 hdB);refine p1 K (Qf rfl ev63) fun _ K=>?_;obtain⟨kaB,knB,vsB,Ato,FB,rfl,hAto,B⟩:=B.AZ q63 nau;replace B:=B.less (List.sublist_append_left _ _);have hknB:Qu knB=true:=(YS.rd (B.at_ (k:=0) rfl)).cell;have hkaB:=hAto.cell;have M:=B.mem;refine p1 K (Xw rfl ((Ux _).trans (Qc QP rfl))) fun _ K=>?_;refine Qb 2 K M fun _ K=>?_;replace B:=(B.step M).Kq;have M:=B.mem;refine Qb 1 K M fun _ K=>?_;refine QV (fun mm1 T st9=> ∃(i:Nat) (lp:List (Nat×Nat)) (kl:AV) (Fl:Fp) (rows:List (List Int)) (vs:List AV) (Fr:Fp) (ka:AV) (Aa:QK) (kr:AV) (Ar:QK),mm1=400-i∧QE [(0,.ptr da 0 0),(1,.ptr db 0 0),(2,iN t),(10,.ptr c47 0 0),(11,.ptr c11 0 0),(14,knA),(15,knB),(16,iN i)] T∧Qj st (Zn mp l false).F st9 ((c11,0,[iZ (a.tr:Nat),ka,kr])::(Aa++(Ar++[]))) [RD Fr vs rows,LQ FB knB vsB b.nx,LQ FA knA vsA a.nx,vN Fl c47 c44 mp kl lp (l-lp.length)]∧Vg (Rh a b) (0,0) (2^a.tr) lp rows []∧rows.length=i∧i≤lp.length∧lp.length≤400∧Acc 0 1 Aa ka (bC ((lp.take i).map (uO a b t)))∧YJ Ar kr vs) (fun mm1 T st9 hI=>?_) _ _ _ ⟨0,[(0,0)],kl1,F1,[],[],_,.nils,[],.nils,[],rfl,(K.sub rfl),(B.step M).less (.refl _),(Vg.start _ _ _),rfl,Q8,Q8,.none,.none⟩;obtain⟨i,lp,kl,Fl,rows,vs,Fr,ka,Aa,kr,Ar,rfl,K,B,hP,hrl,hil,hlp,hAa,hAr⟩:=hI;have M:=B.mem;have hall:=hP.vQ wfa wfb ht;refine Qb 4 K M fun _ K=>?_;refine p1 K (Qh rfl (Qp (Is.row ((B.step M).at_ (k:=3) rfl)).QF (Qc W2 rfl))) fun _ K=>p1 K (Q4 ZA rfl rfl ((Wr.len ((B.step M).at_ (k:=3) rfl).acc).trans (congrArg some (I0 _)))) fun _ K=>?_;refine Qb 1 K M fun _ K=>?_;refine Uk K rfl (fun h71=>?_) fun h71=>?_
   ·refine Qb 3 K M fun _ K=>?_;refine p1 K (Qh rfl (Qp (Is.row ((B.step M).at_ (k:=3) rfl)).QF (Qc W2 rfl))) fun _ K=>?_;refine Qb 1 K M fun _ K=>?_;obtain⟨pr79,hi79⟩:=YP lp i Qe;have hpb79:=hall pr79 (List.mem_of_getElem? hi79);refine vt (Wr.rd ((B.step M).at_ (k:=3) rfl).acc) (ur hi79) K Cn Ny rfl rfl fun _ _ _ _ K=>?_;refine au 4 K M ?_;intro c17 _ _ K _ M;refine p1 K (Ep (j:=0) ID Zf rfl rfl Q8) fun _ K=>?_;refine Qb 1 K M fun _ K=>?_;obtain⟨s84,hi84⟩:=YP a.nx (pr79.1) Qe;obtain⟨w84,hv84,hr84,hz84,hf84⟩:=((B.step M).at_ (k:=2) rfl).vs.at_ _ _ hi84;have hw84:=wfa.row s84 (List.mem_of_getElem? hi84);have hl84:s84.length=2^a.tr:=hw84.1;refine oI ((B.step M).at_ (k:=2) rfl).rd (by rw[List.getElem?_map,hv84];rfl) K J5 Jg rfl rfl rfl fun _ _ _ _ K=>?_;refine p1 K (Q4 Js rfl rfl (hr84.len.trans (congrArg some (Q0 _)))) fun _ K=>?_;refine Qb 1 K M fun _ K=>?_;refine QV (fun mm2 T st9=> ∃(c:Nat) (lp2:List (Nat×Nat)) (kl2:AV) (Fl2:Fp) (row:List Int) (kw:AV) (Aw:QK),mm2=2^a.tr-c∧QE [(0,.ptr da 0 0),(1,.ptr db 0 0),(2,iN t),(10,.ptr c47 0 0),(11,.ptr c11 0 0),(14,knA),(15,knB),(16,iN i),(17,.ptr c17 0 0),(18,kw),(71,.bool (decide (((i:Nat):Int)<((lp.length:Nat):Int)))),(85,w84),(86,iZ (s84.length:Nat)),(87,iN c)] T∧Qj st (Zn mp l false).F st9 ((c17,0,[iZ (pr79.1:Nat),iZ (pr79.2:Nat)])::(c11,0,[iZ (a.tr:Nat),ka,kr])::(Aa++(Ar++(Aw++[])))) [RD Fr vs rows,LQ FB knB vsB b.nx,LQ FA knA vsA a.nx,vN Fl2 c47 c44 mp kl2 lp2 (l-lp2.length)]∧Vg (Rh a b) (0,0) (2^a.tr) lp2 rows row∧row.length=c∧c≤2^a.tr∧lp2.length≤400∧lp2.take (i+1)=lp.take (i+1)∧Acc 0 1 Aw kw (zC row)) (fun mm2 T st9 hI=>?_) _ _ _ ⟨0,lp,kl,Fl,[],.nils,[],rfl,(K.sub rfl),(B.step M).less (.refl _),hP,rfl,(Nat.zero_le _),hlp,rfl,.none⟩;obtain⟨c,lp2,kl2,Fl2,row,kw,Aw,rfl,K,B,hP2,hrow,hcK,hl2,htk,hAw⟩:=hI;have M:=B.mem;have hi2:=Zq htk Qe;refine Qb 1 K M fun _ K=>?_;refine Uk K rfl (fun h88=>?_) fun h88=>?_
    ·refine Qb 1 K M fun _ K=>?_;obtain⟨y90,hi90⟩:=YP s84 c Qe;have hb90:=hw84.2 y90 (List.mem_of_getElem? hi90);obtain⟨z90,rfl⟩: ∃m:Nat,y90=((m:Nat):Int):=⟨_,(Int.toNat_of_nonneg hb90.1).symm⟩;refine oI (YS.row ((B.step M).at_ (k:=2) rfl) hi84 hv84) (JA hi90) K QG Qq rfl rfl rfl fun _ _ _ _ K=>?_;refine Qb 5 K M fun _ K=>?_;refine p1 K (Ep (j:=1) ID Zf rfl rfl Q8) fun _ K=>?_;refine Qb 1 K M fun _ K=>?_;obtain⟨s98,hi98⟩:=YP b.nx (pr79.2) Qe;obtain⟨w98,hv98,hr98,hz98,hf98⟩:=((B.step M).at_ (k:=1) rfl).vs.at_ _ _ hi98;have hw98:=wfb.row s98 (List.mem_of_getElem? hi98);have hl98:s98.length=2^b.tr:=hw98.1;refine oI ((B.step M).at_ (k:=1) rfl).rd (by rw[List.getElem?_map,hv98];rfl) K J5 Jg rfl rfl rfl fun _ _ _ _ K=>?_;refine Qb 1 K M fun _ K=>?_;obtain⟨y101,hi101⟩:=YP s98 c Qe;have hb101:=hw98.2 y101 (List.mem_of_getElem? hi101);obtain⟨z101,rfl⟩: ∃m:Nat,y101=((m:Nat):Int):=⟨_,(Int.toNat_of_nonneg hb101.1).symm⟩;refine oI (YS.row ((B.step M).at_ (k:=1) rfl) hi98 hv98) (JA hi101) K QG Qq rfl rfl rfl fun _ _ _ _ K=>?_;refine p1 K (YM Ek FJ Zf YL rfl rfl) fun _ K=>?_;replace B:=B.step M;obtain⟨v104,st104,ev104,k3,was3,lp3,kl3,rfl,hnum,F3,hP3m,mf3,Q3⟩:=PK B.fresh (B.at_ (k:=3) rfl) (B.Vj (k:=3) rfl) hl2 Qe Qe (z90,z101);refine p1 K (Qf rfl ev104) fun _ K=>?_;have hnl:=hnum.len;rw[show l-lp2.length-(lp3.length-lp2.length)=l-lp3.length by omega]at hP3m;replace B:=B.call (k:=3) (o':=vN F3 c47 c44 mp kl3 lp3 (l-lp3.length)) rfl Q3 hP3m mf3;have M:=B.mem;refine Qb 7 K M fun _ K=>?_;refine YU K rfl (fun h108=>?_) fun h108=>?_
     ·have hb108:=h108
      replace h108: ¬((lp3.length:Int)≤400):=by first|exact of_decide_eq_false h108|exact yF h108|simpa using h108
      refine Qb 2 K M ?_
      have hgo:Rh a b pr79 row.length=(z90,z101):=by unfold Rh;rw[hrow,U3 hi84 hi90,U3 hi98 hi101];rfl
      have hP3:=hnum.pr hP2 Qe (show lp2[rows.length]? =some pr79 by rw[hrl];exact Oy htk hi79) hgo
      have h401:lp3.length=401:=by omega
      exact⟨.inr ⟨rfl,lp3,h401,hP3.nodup,fun Q h0 hs p hp=>hP3.all h0 hs (Nat.two_pow_pos _) hp⟩,(B.step M).U7⟩
     have hb108:=h108
     replace h108:((lp3.length:Int)≤400):=by first|exact of_decide_eq_true h108|exact yT h108|simpa using h108
     refine au 3 K M ?_;intro c111 _ _ K _ M;refine Jr (k2:=0) (L:=((c111,0,[iN k3])::(c17,0,[iZ (pr79.1:Nat),iZ (pr79.2:Nat)])::(c11,0,[iZ (a.tr:Nat),ka,kr])::(Aa++(Ar++[])))) (B:=[]) K (Mem.cast M Zg) hAw QT rfl rfl rfl rfl (by rw[Q0];omega) rfl fun ks112 A112 _ _ K hA112 M=>?_;simp only[Vk]at M;refine Qb 3 K M fun _ K=>?_
     have hgo:Rh a b pr79 row.length=(z90,z101):=by unfold Rh;rw[hrow,U3 hi84 hi90,U3 hi98 hi101];rfl
     have hP3:=hnum.pr hP2 Qe (show lp2[rows.length]? =some pr79 by rw[hrl];exact Oy htk hi79) hgo;exact⟨_,Qe,c+1,lp3,kl3,F3,(row++[((k3:Nat):Int)]),ks112,A112,rfl,(K.sub rfl),(B.step M).less (.cons _ (.refl _)),hP3,(by rw[List.length_append,hrow];rfl),Qe,Qe,(by rw[hnum.take hi2,htk]),(by rw[Us];exact hA112)⟩
    refine QO ?_;show W _ _ _ _ _ _ _;refine Qb 1 K M fun _ K=>?_;refine p1 K (Qh rfl (M.load (k:=1) rfl (Qc QP rfl))) fun _ K=>?_;refine Qb 1 K M fun _ K=>?_;refine Vn K M JB YT rfl ((Yr rfl hAw.cell rfl).trans rfl) (Qa hAw.cell Q9) rfl rfl fun c117 _ _ K M=>?_;refine Ej (k2:=0) (L:=((c117,0,[kw])::(c17,0,[iZ (pr79.1:Nat),iZ (pr79.2:Nat)])::(c11,0,[iZ (a.tr:Nat),ka,kr])::(Aa++[]))) (B:=(Aw++[])) K (Mem.cast M Zg) hAr JB rfl rfl rfl (by have:=G1.ln ((B.step M).at_ (k:=0) rfl);omega) rfl fun ks118 A118 _ _ K hA118 _ M=>?_;simp only[Vk]at M;refine Qb 1 K M fun _ K=>?_;refine J6 (k:=2) K M rfl rfl rfl Zr (hA118.cell) rfl fun _ M=>?_;refine Qb 0 K M fun _ K=>?_;refine QQ (l:=[(3,0),(4,0),(5,0),(6,0),(7,0),(9,0),(10,0),(11,2),(12,0),(13,0),(0,0),(1,4),(2,0),(8,0),(14,0),(15,0),(16,0),(17,0),(18,0),(19,0),(20,0),(21,0)]) (by kernel_rfl) ?_;have Mq:=M;have Mz0:=M;have Bz0:=B;refine q1 rfl K (QA rfl) fun _ K=>q1 rfl K (Ep (j:=0) ID Zf rfl rfl Q8) fun _ K=>?_;refine Yd 1 K M fun _ K=>?_;obtain⟨v126,st126,ev126,rfl,q126⟩:=YC M.fresh (hDA.Lm (B.step M).U7 hdA) (s:=pr79.1) Qe;refine qA rfl K (Qf rfl ev126) fun _ K=>?_;replace M:=M.quiet q126;have Mp:=Mq;have Mq:=M;have Mz1:=M;have Bz1:=B;obtain⟨v127,st127,ev127,rfl,q127⟩:=qY M.fresh (a.ok pr79.1);refine qA rfl K (Qf rfl ev127) fun _ K=>?_;have hbt127:=Ry (a.ok pr79.1);replace M:=M.quiet q127;have Mp:=Mq;have Mq:=M;have Mz2:=M;have Bz2:=B;refine q1 rfl K (QA rfl) fun _ K=>q1 rfl K (Ep (j:=1) ID Zf rfl rfl Q8) fun _ K=>?_
    refine Vp rfl K rfl (M.load (k:=1) rfl (Qc Qq rfl)) Qx (by intro s hs;simp only[List.take_succ_cons,List.take_zero,List.mem_cons,List.not_mem_nil,or_false]at hs;rcases hs with rfl|rfl<;>first|exact(Mz1.load (k:=1) rfl (Qc Qq rfl))|exact(Mz0.load (k:=1) rfl (Qc Qq rfl))) (Ua rfl) rfl Q8 fun _ K=>?_
    obtain⟨v132,st132,ev132,rfl,q132⟩:=YC M.fresh (hDB.Lm (B.step M).U7 hdB) (s:=pr79.2) Qe;refine qA rfl K (Qf rfl ev132) fun _ K=>?_;replace M:=M.quiet q132;have Mp:=Mq;have Mq:=M;have Mz3:=M;have Bz3:=B;obtain⟨v133,st133,ev133,rfl,q133⟩:=qY M.fresh (b.ok pr79.2);refine qA rfl K (Qf rfl ev133) fun _ K=>?_;have hbt133:=Ry (b.ok pr79.2);replace M:=M.quiet q133;have Mp:=Mq;have Mq:=M;have Mz4:=M;have Bz4:=B;refine Yd 1 K M fun _ K=>?_
    refine Vp rfl K rfl (M.load (k:=2) rfl (Qc JJ rfl)) Qx (by intro s hs;simp only[List.take_succ_cons,List.take_zero,List.mem_cons,List.not_mem_nil,or_false]at hs;rcases hs with rfl|rfl|rfl|rfl<;>first|exact(Mz3.load (k:=2) rfl (Qc JJ rfl))|exact(Mz2.load (k:=2) rfl (Qc JJ rfl))|exact(Mz1.load (k:=2) rfl (Qc JJ rfl))|exact(Mz0.load (k:=2) rfl (Qc JJ rfl))) (Ua (Zd hAa.len)) rfl Q8 fun _ K=>?_
    refine q1 rfl K (QA rfl) fun _ K=>q1 rfl K (uB (n:=(Wh (a.ok pr79.1))) rfl rfl Qe) fun _ K=>?_;refine Yd 1 K M fun _ K=>?_;refine q1 rfl K (OK (a:=t) (n:=((2 *(Wh (a.ok pr79.1)))+(Wh (b.ok pr79.2)))) rfl rfl Qe) fun _ K=>q1 rfl K (OL (a:=(t/2^(((2 *(Wh (a.ok pr79.1)))+(Wh (b.ok pr79.2)))))) rfl rfl (Nat.le_trans (Nat.div_le_self _ _) Qe)) fun _ K=>q1 rfl K (Mu rfl rfl) fun _ K=>?_;refine H2 rfl K M UM Eh rfl rfl rfl rfl rfl fun c138 _ _ K M=>?_;refine Vq (k2:=0) (L:=[(c138,0,[.bool (decide (((((t/2^(((2 *(Wh (a.ok pr79.1)))+(Wh (b.ok pr79.2))))) % 2):Nat):Int)=1))]),(c117,0,[kw]),(c17,0,[iZ (pr79.1:Nat),iZ (pr79.2:Nat)]),(c11,0,[iZ (a.tr:Nat),ka,ks118])]) (B:=(A118++(Aw++[]))) rfl K M hAa UM rfl rfl rfl rfl (by rw[XA,List.length_map,List.length_take];omega) rfl fun ks139 A139 _ _ K hA139 M=>?_;have Mp:=Mq;have Mq:=M;have Mz5:=M;have Bz5:=B;refine Yd 1 K M fun _ K=>?_;refine Xo (k:=3) rfl K M rfl rfl rfl Vw (hA139.cell) rfl fun _ M=>?_;have Mp:=Mq;have Mq:=M;have Mz6:=M;have Bz6:=B;refine Jf ?_;show W _ _ _ _ _ _ _;refine Qb 3 K M fun _ K=>?_;replace B:=B.step M;obtain⟨Fr,B⟩:=Qj.L0 (L:=((c138,0,[.bool (decide (((((t/2^(((2 *(Wh (a.ok pr79.1)))+(Wh (b.ok pr79.2))))) % 2):Nat):Int)=1))])::(c117,0,[kw])::(c17,0,[iZ (pr79.1:Nat),iZ (pr79.2:Nat)])::(c11,0,[iZ (a.tr:Nat),ks139,ks118])::(A139++(A118++[])))) (B:=[]) (B.cast Zg) hAw (hP2.DN hl2);replace B:=B.cast (M':=((c138,0,[.bool (decide (((((t/2^(((2 *(Wh (a.ok pr79.1)))+(Wh (b.ok pr79.2))))) % 2):Nat):Int)=1))])::(c117,0,[kw])::(c17,0,[iZ (pr79.1:Nat),iZ (pr79.2:Nat)])::(c11,0,[iZ (a.tr:Nat),ks139,ks118])::(A139++(A118++[])))) Zg;have M:=B.mem;have hi2:=Zq htk Qe
    have htq:lp.take (i+1)=lp.take i++[pr79]:=by rw[List.take_add_one,hi79];rfl
    exact⟨_,Qe,i+1,lp2,kl2,Fl2,(rows++[row]),_,_,ks139,A139,ks118,A118,rfl,(K.sub rfl),(B.step M).less (.cons _ (.cons _ (.cons _ (.refl _)))),(hP2.whole Qe),(by rw[List.length_append,hrl];rfl),hi2,hl2,(by rw[htk,htq,List.map_append,Gv,show bC ([pr79].map (uO a b t))=[[AV.bool (uO a b t pr79)]]from rfl,show uO a b t pr79=_ from jZ t _ _];exact hA139),hA118⟩
   refine QO ?_;show W _ _ _ _ _ _ _;refine Qb 1 K M fun _ K=>?_;replace B:=B.step M;have hlt:lp.take i=lp:=List.take_of_length_le Qe;rw[hlt]at hAa;have hMd:=hP.made (p:=uO a b t) (m:=⟨a.tr,lp.map (uO a b t),rows⟩) (by show rows.length=_;omega) rfl htr hlp;obtain⟨Fo,B⟩:=Qj.TC (L:=((c11,0,[iZ (a.tr:Nat),ka,kr])::(Aa++[]))) (B:=[]) (B.cast Zg) hAr;replace B:=B.cast (M':=((c11,0,[iZ (a.tr:Nat),ka,kr])::(Aa++[]))) Zg;have M:=B.mem;obtain⟨v142,st142,ev142,dp2,F2,rfl,hD2,nf2,q142⟩:=VK (a:=⟨a.tr,lp.map (uO a b t),rows⟩) B.fresh hMd.wf (Mem.Zj (L:=[(c11,0,[iZ (a.tr:Nat),ka,kr])]) (B:=[]) M hAa) (YS.r (B.at_ (k:=0) rfl));refine p1 K (Qf rfl ev142) fun _ K=>?_;have hle0:=B.le;replace B:=B.quiet q142;have M:=B.mem;refine Qb 4 K M ?_;exact⟨.inl ⟨dp2,F2,lp,_,rfl,⟨hMd,rfl⟩,hD2,fun c hc=>⟨Nat.le_trans hle0 (nf2 c hc).1,(nf2 c hc).2⟩⟩,(B.step M).U7⟩
  exfalso;omega
 exfalso;omega
end Go.Proofs.YtildagdnomiahaaGreatDoor
