/-
  An automaton without a track: the program's.
-/
import Derived.Test.YtildagdnomiahaaGreatDoorQvPrN
set_option maxHeartbeats 8000000
set_option maxRecDepth 100000
set_option linter.unnecessarySimpa false
set_option linter.unusedSimpArgs false
set_option linter.unusedVariables false
namespace Go.Proofs.YtildagdnomiahaaGreatDoor
open Go Go.RowKit
section
variable {a:Au} {dp:Nat}

theorem JH.KR{st st':St}{F X:Fp}(hD:JH st F dp a)(Q:YA X st st')(hd: ∀c,F c→ ¬X c):JH st' F dp a:=⟨hD.at_.frame fun c hc=>Q.J5 c (hD.hi c hc) (hd c hc),fun c hc=>Nat.lt_of_lt_of_le (hD.hi c hc) Q.le⟩
section
variable {st0 st st':St} {X0 F:Fp} {M A:QP} {Os:List Ob} {o:Ob} {xp cp mp l:Nat} {L:List (List Int)}
theorem Ql.w7(B:Ql st0 X0 st M Os){k:Nat}(hk:Os[k]? =some (aF F xp cp mp L l)):NH st.h.get F xp cp mp L l:=B.at_ hk
theorem Ql.l8(B:Ql st0 X0 st ((xp,0,[.ptr cp 0 0,.ptr mp 0 0])::M) (FX F cp L::o::YH mp l false::Os)):Ql st0 X0 st M (aF F xp cp mp L l::o::Os):=by
 have d1:=(List.pairwise_cons.1 B.dj).1 (YH mp l false) Qx;have d2:=B.djM (FX F cp L) Qx xp 0 _ (List.mem_cons_self ..);have d3:=B.djM (YH mp l false) Qx xp 0 _ (List.mem_cons_self ..);have B1:=B.jB (Os':=FX F cp L::YH mp l false::o::Os) (.cons _ (.swap ..));have B2:=Ql.freeze (R:=[(xp,0,[.ptr cp 0 0,.ptr mp 0 0])]) (o:=Xl [(xp,0,[.ptr cp 0 0,.ptr mp 0 0])]) (M:=M) B1 (fun c m x h=>B.row c m x (by rw[List.mem_singleton.1 h];exact List.mem_cons_self ..)) (fun c hc=>hc)
 have B3:=B2.join (o:=⟨fun c=>c=xp∨F c,fun h=>Qu h xp 0 [.ptr cp 0 0,.ptr mp 0 0]∧Zk h F cp L,fun h h' e H=>⟨H.1.frame (e xp (.inl rfl)),H.2.frame fun c hc=>e c (.inr hc)⟩⟩) (fun h1 h2=>⟨h1 xp 0 _ (List.mem_singleton.2 rfl),h2⟩) (fun c hc=>by
  rcases hc with hc|hc
  ·exact .inl ⟨0,_,by rw[hc];exact List.mem_singleton.2 rfl⟩
  ·exact .inr hc)
 refine B3.join (fun h1 h2=>⟨h1.2,h2,h1.1,fun h=>d1 mp h rfl,d2,fun e=>d3 e⟩) (fun c hc=>?_);rcases hc with hc|hc|hc
 ·exact .inl (.inr hc)
 ·exact .inr hc
 ·exact .inl (.inl hc)
theorem Ql.yP(B:Ql st0 X0 st M Os)(q:Qt st st')(hA: ∀c m l,(c,m,l)∈A→Qu st'.h.get c m l∧st.n≤c)(hn:(A.map Prod.fst).Nodup):Ql st0 X0 st' (M++(A++[])) Os:=by
 have B1:=B.quiet q;refine⟨B1.fresh,B1.le,fun c m l hm=>?_,?_,fun c m l hm=>?_,B1.obj,B1.hi,B1.dj,fun o ho c m l hm hc=>?_,B1.J5⟩
 ·rw[List.append_nil]at hm;rcases List.mem_append.1 hm with hm|hm
  ·exact B1.row c m l hm
  ·exact(hA c m l hm).1
 ·rw[List.append_nil,List.map_append];refine List.nodup_append.2 ⟨B.nodup,hn,fun x hx y hy e=>?_⟩;subst e;obtain⟨⟨c,m,l⟩,k1,rfl⟩:=List.mem_map.1 hx;obtain⟨⟨c',m',l'⟩,k2,k3⟩:=List.mem_map.1 hy;simp only at k3;subst k3;have:=(B.row _ m l k1).lt B.fresh;have:=(hA _ m' l' k2).2;omega
 ·rw[List.append_nil]at hm;rcases List.mem_append.1 hm with hm|hm
  ·exact B1.lo c m l hm
  ·exact .inl (Nat.le_trans B.le (hA c m l hm).2)
 ·rw[List.append_nil]at hm;rcases List.mem_append.1 hm with hm|hm
  ·exact B1.djM o ho c m l hm hc
  ·have:=(B.hi o ho c hc).1;have:=(hA c m l hm).2;omega
end
theorem ET.wC{n0:Nat}{A:QP}{kr:AV}{l:List Int}(hA:ET n0 A kr l):zB (Xl A).F kr:=fun c m o n y e=>by
 cases hA with
 |none=>cases e
 |own h1 h2=>injection e with e1 e2;subst e1;exact⟨_,_,List.mem_cons_self ..⟩
theorem ET.nodup{n0:Nat}{A:QP}{kr:AV}{l:List Int}(hA:ET n0 A kr l):(A.map Prod.fst).Nodup:=by cases hA<;>simp
theorem eZ{h:Hp}{c m:Nat}{z:Int}(r:Qu h c m [.int .i64 z]):Jg h [] 1 (zC [z]) (.sl c m 0 1 1):=Jg.own (ls:=zC [z]) r (G7 _) Qx (by simp[zC])
theorem jJ{P:Program}{G:Env}{K:List (Nat×AV)}{st:St}{t yt:TypeId}{x y:Operand}{a:Nat}(hx:QG G K x=some (.int .i64 (a:Nat)))(hy:QG G K y=some (.int .i64 1))(h1:1≤a)(hb:a≤9223372036854775807):Us P G K (.binOp .sub t x y yt) st (.int .i64 (a-1:Nat)) st:=by
 rw[show((a-1:Nat):Int)=((a:Nat):Int)-1 by omega];exact jI hx hy Qd Qd
theorem ae(L:List (List Int))(q:List Int):L.length≤(AE L q).length:=by
 unfold AE;split
 ·exact Nat.le_refl _
 ·simp
theorem jS{L:List (List Int)}{q:List Int}{n:Nat}(h:n≤L.length):(AE L q).take n=L.take n:=by
 unfold AE;split
 ·rfl
 ·rw[List.take_append_of_le_length h]
theorem ZL{α:Type}{L L2:List α}{n:Nat}(h:L2.take n=L.take n)(hn:n≤L.length):n≤L2.length:=by
 have:=congrArg List.length h;rw[List.length_take,List.length_take]at this;omega
theorem GH{α:Type}{L L2:List α}{i:Nat}{q:α}(h:L2.take (i+1)=L.take (i+1))(hq:L[i]? =some q):L2[i]? =some q:=by
 have e:=congrArg (fun l=>l[i]?) h;simp only[List.getElem?_take]at e
 simpa [hq]using e
theorem VI.Rv{α:Type}{δ:α→Nat→α}{s0:α}{K:Nat}{L:List α}{rows:List (List Int)}{row:List Int}(H:VI δ s0 K L rows row)(hL:L.length≤400):HC row:=fun z hz=>by
 have:=H.bound z (List.mem_append_right _ hz)
 constructor<;>omega
theorem xA{st:St}(hf:Qh st){F:Fp}{xp cp mp l:Nat}(H:NH st.h.get F xp cp mp [] l)(hi: ∀c,Ch F xp mp c→c<st.n)(hl1:1≤l)(hl:l≤9223372036854775807){c0 m0:Nat}(hq:Qu st.h.get c0 m0 [.int .i64 0])(hX: ¬Ch F xp mp c0):
  ∃v st',QV 248 [.ptr xp 0 0,.sl c0 m0 0 1 1] st v st'∧v=.tup [.int .i64 0,.bool true]∧ ∃F',NH st'.h.get F' xp cp mp [[0]] (l-1)∧EV st st' (Ch F xp mp) (Ch F' xp mp)∧YA (Ch F xp mp) st st':=by
 obtain⟨v,st',h1,h2,F',h3⟩:=jG hf H hi Q9 hl1 hl (q:=[0]) (eZ hq) (fun c m o n y e=>by injection e with e1;subst e1;exact hX) (fun z hz=>by rw[List.mem_singleton.1 hz];decide) Q9 (List.pairwise_singleton _ _);exact⟨v,st',h1,h2,F',h3⟩
theorem qk{st:St}(hf:Qh st){F:Fp}{acc:List Bool}(hD:JH st F dp ⟨a.tr,acc,a.nx⟩)(hn:acc.length=a.n){q:List Int}{kq:AV}(hq:Jg st.h.get [] 1 (zC q) kq)(hs:I1 a.n q)(hm:a.n≤400):
  ∃v st',QV 210 [kq,.fn 207 [.ptr dp 0 0] []] st v st'∧v=.bool (anyS acc q)∧Qt st st':=by
 refine XE (fa:=[.ptr dp 0 0]) (fc:=[]) (p:=fun z=>Eg acc z.toNat) hf hq (by have:=hs.len;omega) fun x hx st1 q1=>?_;have hb:=hs.2 x hx;have:=Zg q1.fresh (hD.q q1) (s:=x.toNat) (by show x.toNat<acc.length;omega);rw[Int.toNat_of_nonneg hb.1]at this;exact this
def kI(st st':St)(a:Au)(k:Nat)(acc:List Bool)(mp l:Nat)(v:AV):Prop:=
 (∃dp2 F2 L m,v=.tup [.ptr dp2 0 0,.int .i64 0]∧JH st' F2 dp2 m∧Vn st st' F2∧m.tr=a.tr-1∧U1 (UM a k) [0] (anyS acc) L m∧Qu st'.h.get mp 0 [.int .i64 (l-L.length:Nat),.bool false])∨
 (v=.tup [.nilp,.int .i64 8]∧ ∃L:List (List Int),L.length=401∧L.Nodup∧(∀(Q:List Int→Prop),Q [0]→(∀s c,Q s→c<2^(a.tr-1)→Q (UM a k s c))→ ∀s∈L,Q s)∧Qu st'.h.get mp 0 [.int .i64 (l-401:Nat),.bool false])

theorem Da{st:St}(hf:Qh st){F:Fp}(hD:JH st F dp a){k:Nat}(hk:k<a.tr){mp l:Nat}(hm:Qu st.h.get mp 0 [iN l,.bool false])(hdm: ¬F mp)(hl1:401≤l)(hl:l≤9223372036854775807): ∃v st',QV 204 [.ptr dp 0 0,iN k,.ptr mp 0 0] st v st'∧(∃Wy,AZ a k Wy∧kI st st' a k Wy mp l v)∧YA (fun c=>c=mp) st st':=by
 have wf:=hD.wf;have htr:=wf.tr;have hmo:=wf.most;have hp6:=JL (T:=a.tr-1) Qd;have hp0:0<2^(a.tr-1):=Nat.two_pow_pos _;have hdF: ∀c,F c→ ¬(YH mp l false).F c:=fun c hc e=>hdm ((show c=mp from e)▸hc);have B:=Ql.UD (o:=YH mp l false) hf hm (fun c hc=>(show c=mp from hc)▸hm.lt hf);refine Jv Tryz.func204 Tryz.ntmps204 fun T K=>?_;have M:=B.mem;refine Qb 4 K M fun _ K=>?_;replace B:=B.step M;obtain⟨v24,st24,ev24,dpc,Fc,Wy,rfl,hcl,hDc,nfc,q24⟩:=Ma B.fresh (hD.KR B.U7 hdF) hk;refine p1 K (Qf rfl ev24) fun _ K=>?_;replace B:=B.new (o:=EJ Fc dpc ⟨a.tr,Wy,a.nx⟩) q24 hDc.at_ nfc;have M:=B.mem;refine Qb 7 K M fun _ K=>?_;refine UJ K rfl (fun h28=>?_) fun h28=>?_
 ·have hb28:=h28
  replace h28: ¬(0=0):=by first|exact of_decide_eq_false h28|exact yF h28|simpa using h28
  exfalso;omega
 have hb28:=h28
 replace h28:(0=0):=by first|exact of_decide_eq_true h28|exact yT h28|simpa using h28
 refine Qb 0 K M fun _ K=>?_;replace B:=B.step M;obtain⟨v30,st30,ev30,cp,rfl,hPn,q30⟩:=xX B.fresh;refine p1 K (Qf rfl ev30) fun _ K=>?_;obtain⟨Fq,hPn,hnp⟩: ∃Fq,Zk _ Fq cp []∧Vn _ _ Fq:=⟨_,hPn,fun c hc=>hc⟩;replace B:=B.new (o:=FX Fq cp []) q30 hPn hnp;have M:=B.mem;refine au 4 K M ?_;intro c33 _ _ K _ M;replace B:=(B.step M).l8;have M:=B.mem;refine au 2 K M ?_;intro c36 _ _ K _ M;replace B:=B.step M;obtain⟨v37,st37,ev37,rfl,F1,hM1,mf1,Q1⟩:=xA B.fresh (B.w7 (k:=0) rfl) (B.VM (k:=0) rfl) Qd hl (B.row c36 0 _ Qx) (B.djM _ (List.mem_cons_self ..) c36 0 _ (List.mem_cons_self ..));refine p1 K (Qf rfl ev37) fun _ K=>?_;replace B:=B.call (k:=0) (o':=aF F1 c33 cp mp [[0]] (l-1)) rfl Q1 hM1 mf1;have M:=B.mem;refine Qb 9 K M fun _ K=>?_;refine oQ K M (Yg M.fresh (hD.KR (B.step M).U7 hdF)) rfl rfl fun _ _ K M=>?_;refine p1 K (jJ rfl rfl Qd Qd) fun _ K=>?_;refine au 4 K M ?_;intro c13 _ _ K _ M;replace B:=B.step M;obtain⟨v47,st47,ev47,nau,q47⟩:=H3 B.fresh (hD.KR B.U7 hdF);refine p1 K (Qf rfl ev47) fun _ K=>?_;obtain⟨kato,knto,vsto,Ato,Fto,rfl,hAto,B⟩:=B.He q47 nau;replace B:=B.less (List.sublist_append_left _ _);have hnto:Qw knto=true:=(Zw.rd (B.at_ (k:=0) rfl)).cell;have M:=B.mem;refine p1 K (XV rfl ((U6 _).trans (Qc QW rfl))) fun _ K=>?_;refine Qb 1 K M fun _ K=>?_;replace B:=(B.step M).LB;have M:=B.mem;refine Qb 1 K M fun _ K=>?_;refine Je (fun mm1 T st9=> ∃(i:Nat) (L:List (List Int)) (Fk:Fp) (LLr:List (List Int)) (vsr:List AV) (Fr:Fp) (ka:AV) (Aa:QP) (kr:AV) (Ar:QP),mm1=400-i∧QH [(1,iN k),(8,.ptr dpc 0 0),(10,.ptr c33 0 0),(13,.ptr c13 0 0),(14,knto),(15,iN i)] T∧Ql st (YH mp l false).F st9 ((c13,0,[iZ (a.tr-1:Nat),ka,kr])::(c36,0,[iZ 0])::(Aa++(Ar++[]))) [T9 Fr vsr LLr,Oc Fto knto vsto a.nx,aF Fk c33 cp mp L (l-L.length),EJ Fc dpc ⟨a.tr,Wy,a.nx⟩]∧VI (UM a k) [0] (2^(a.tr-1)) L LLr []∧LLr.length=i∧i≤L.length∧L.length≤400∧Acc 0 1 Aa ka (bC ((L.take i).map (anyS Wy)))∧Zl Ar kr vsr) (fun mm1 T st9 hI=>?_) _ _ _ ⟨0,[[0]],_,[],[],_,.nils,[],.nils,[],rfl,(K.sub rfl),(B.step M).less (.refl _),(VI.start _ _ _),rfl,Q9,Q9,.none,.none⟩;obtain⟨i,L,Fk,LLr,vsr,Fr,ka,Aa,kr,Ar,rfl,K,B,hP,hLL,hiL,hL,hAa,hAr⟩:=hI;have M:=B.mem;have hall: ∀s∈L,I1 a.n s:=fun s hs=>hP.all (Q:=I1 a.n) (I1.zero wf.pos) (fun s c hs hc=>hs.step wf hk hc) (Nat.two_pow_pos _) hs;refine Qb 4 K M fun _ K=>?_;refine p1 K (Qi rfl (Qr ((B.step M).w7 (k:=2) rfl).row.QI (Qc Yx rfl))) fun _ K=>?_;refine oQ K M (KL (L:=L) M.fresh ((B.step M).w7 (k:=2) rfl).pool) rfl rfl fun _ _ K M=>?_;refine Qb 1 K M fun _ K=>?_;refine U8 K rfl (fun h55=>?_) fun h55=>?_
 ·refine Qb 3 K M fun _ K=>?_;refine p1 K (Qi rfl (Qr ((B.step M).w7 (k:=2) rfl).row.QI (Qc Yx rfl))) fun _ K=>?_;refine Qb 1 K M fun _ K=>?_;obtain⟨q,hqi⟩: ∃q,L[i]? =some q:=⟨_,List.getElem?_eq_getElem Qd⟩;have hqS:=hall q (List.mem_of_getElem? hqi);obtain⟨v63,st63,ev63,kg,rfl,nrg,q63⟩:=vw M.fresh ((B.step M).w7 (k:=2) rfl).pool (fun s hs=>Nat.le_trans (hall s hs).len Qd) (fun c hc=>(B.step M).VM (k:=2) rfl c (.inl hc)) ((i:Nat):Int);refine p1 K (Qf rfl ev63) fun _ K=>?_;rw[SU Qd (show L[((i:Nat):Int).toNat]? =some q from hqi)]at nrg;obtain⟨Ag,hAg,M⟩:=M.Yq q63 nrg;replace hAg:=hAg.z0;simp only[W4]at M;refine Qb 4 K M fun _ K=>?_;refine p1 K (ZX (n:=(a.tr-1)) rfl rfl Qd) fun _ K=>?_;refine Qb 1 K M fun _ K=>?_;refine Je (fun mm2 T st9=> ∃(c:Nat) (L2:List (List Int)) (F2:Fp) (row:List Int) (kw:AV) (Aw:QP),mm2=2^(a.tr-1)-c∧QH [(1,iN k),(8,.ptr dpc 0 0),(10,.ptr c33 0 0),(13,.ptr c13 0 0),(14,knto),(15,iN i),(16,v63),(17,kw),(66,iZ (2^(a.tr-1):Nat)),(67,iN c)] T∧Ql st (YH mp l false).F st9 ((c13,0,[iZ (a.tr-1:Nat),ka,kr])::(c36,0,[iZ 0])::(Aa++(Ar++(Ag++(Aw++[]))))) [T9 Fr vsr LLr,Oc Fto knto vsto a.nx,aF F2 c33 cp mp L2 (l-L2.length),EJ Fc dpc ⟨a.tr,Wy,a.nx⟩]∧VI (UM a k) [0] (2^(a.tr-1)) L2 LLr row∧row.length=c∧c≤2^(a.tr-1)∧L2.length≤400∧L2.take (i+1)=L.take (i+1)∧Acc 0 1 Aw kw (zC row)) (fun mm2 T st9 hI=>?_) _ _ _ ⟨0,L,Fk,[],.nils,[],rfl,(K.sub rfl),(B.step M).less (.refl _),hP,rfl,(Nat.zero_le _),hL,rfl,.none⟩;obtain⟨c,L2,F2,row,kw,Aw,rfl,K,B,hP2,hrow,hcK,hL2,htk,hAw⟩:=hI;have M:=B.mem;refine Qb 1 K M fun _ K=>?_;refine U8 K rfl (fun h68=>?_) fun h68=>?_
  ·refine Qb 7 K M fun _ K=>?_;replace B:=B.step M;obtain⟨v76,st76,ev76,kx,Ax,rfl,hAx,hrx,q76⟩:=jF (c:=c) (q:=q) B.fresh wf (Zw.r (B.at_ (k:=1) rfl)) (Mem.Zv (L:=((c13,0,[iZ (a.tr-1:Nat),ka,kr])::(c36,0,[iZ 0])::(Aa++(Ar++[])))) (B:=(Aw++[])) (Mem.cast M Za) hAg) hqS.2 (Nat.le_trans hqS.len wf.most) hk Qd;refine p1 K (Qf rfl ev76) fun _ K=>?_;replace B:=B.yP q76 (fun c m l h=>⟨hrx c m l h,hAx.ge h⟩) hAx.nodup;replace B:=B.cast (M':=((c13,0,[iZ (a.tr-1:Nat),ka,kr])::(c36,0,[iZ 0])::(Aa++(Ar++(Ag++(Aw++(Ax++[]))))))) Za;have M:=B.mem;replace B:=B.step M;have hq2S:=hqS.step wf hk (c:=c) Qd;have hge:=ae L2 (UM a k q c);have hle:=xR L2 (UM a k q c);have hPid:=hP2.id Qd (show L2[LLr.length]? =some q by rw[hLL];exact GH htk hqi);rw[hrow]at hPid;obtain⟨v77,st77,ev77,rfl,F3,hM3,mf3,Q3⟩:=jG B.fresh (B.w7 (k:=2) rfl) (B.VM (k:=2) rfl) hL2 Qd Qd (Mem.wc (L:=((c13,0,[iZ (a.tr-1:Nat),ka,kr])::(c36,0,[iZ 0])::(Aa++(Ar++(Ag++(Aw++[])))))) (B:=[]) (Mem.cast M Za) hAx) (fun c m o n y e hc=>by obtain⟨m',l',hm'⟩:=hAx.wC c m o n y e;exact B.djM (aF F2 c33 cp mp L2 (l-L2.length)) Qx c m' l' (by simp[hm']) hc) (hq2S.Rv wf.most) (Nat.le_trans hq2S.len Qd) hq2S.1;refine p1 K (Qf rfl ev77) fun _ K=>?_;rw[show l-L2.length-((AE L2 (UM a k q c)).length-L2.length)=l-(AE L2 (UM a k q c)).length by omega]at hM3;replace B:=B.call (k:=2) (o':=aF F3 c33 cp mp (AE L2 (UM a k q c)) (l-(AE L2 (UM a k q c)).length)) rfl Q3 hM3 mf3;have M:=B.mem;refine Qb 7 K M fun _ K=>?_;refine UJ K rfl (fun h81=>?_) fun h81=>?_
   ·have hb81:=h81
    replace h81: ¬(((AE L2 (UM a k q c)).length:Int)≤400):=by first|exact of_decide_eq_false h81|exact yF h81|simpa using h81
    refine Qb 2 K M ?_;replace B:=B.step M
    have h401:(AE L2 (UM a k q c)).length=401:=by omega
    have hmt:=(B.w7 (k:=2) rfl).met;rw[h401]at hmt;exact⟨⟨Wy,hcl,.inr ⟨rfl,_,h401,hPid.nodup,fun Q h0 hs s hm=>hPid.all h0 hs (Nat.two_pow_pos _) hm,hmt⟩⟩,B.U7⟩
   have hb81:=h81
   replace h81:(((AE L2 (UM a k q c)).length:Int)≤400):=by first|exact of_decide_eq_true h81|exact yT h81|simpa using h81
   refine au 3 K M ?_;intro c84 _ _ K _ M;refine Jx (k2:=0) (L:=((c84,0,[iZ (Mg L2 (UM a k q c):Nat)])::(c13,0,[iZ (a.tr-1:Nat),ka,kr])::(c36,0,[iZ 0])::(Aa++(Ar++(Ag++[]))))) (B:=(Ax++[])) K (Mem.cast M Za) hAw QR rfl rfl rfl rfl (by rw[Qy];omega) rfl fun ks85 A85 _ _ K hA85 M=>?_;simp only[W4]at M;refine Qb 3 K M fun _ K=>?_;exact⟨_,Qd,c+1,_,F3,(row++[((Mg L2 (UM a k q c):Nat):Int)]),ks85,A85,rfl,(K.sub rfl),(B.step M).less (.cons _ (.cons_cons _ (.cons_cons _ (List.Sublist.append_left (List.Sublist.append_left (List.Sublist.append_left (List.Sublist.append_left (List.nil_sublist _) _) _) _) _)))),hPid,(by rw[List.length_append,hrow];rfl),Qd,Qd,(by rw[jS (ZL htk Qd),htk]),(by rw[JJ];exact hA85)⟩
  refine QM ?_;show W _ _ _ _ _ _ _;refine Qb 1 K M fun _ K=>?_;refine p1 K (Qi rfl (M.load (k:=0) rfl (Qc QW rfl))) fun _ K=>?_;refine Qb 1 K M fun _ K=>?_;refine VO K M J3 Yt rfl ((Uw rfl hAw.cell rfl).trans rfl) (Qa hAw.cell QL) rfl rfl fun c90 _ _ K M=>?_;refine EZ (k2:=0) (L:=((c90,0,[kw])::(c13,0,[iZ (a.tr-1:Nat),ka,kr])::(c36,0,[iZ 0])::(Aa++[]))) (B:=(Ag++(Aw++[]))) K (Mem.cast M Za) hAr J3 rfl rfl rfl (by have:=BY.ln ((B.step M).at_ (k:=0) rfl);omega) rfl fun ks91 A91 _ _ K hA91 _ M=>?_;simp only[W4]at M;refine Qb 1 K M fun _ K=>?_;refine Jk (k:=1) K M rfl rfl rfl ZM (hA91.cell) rfl fun _ M=>?_;refine Qb 0 K M fun _ K=>?_;refine QT (l:=[(2,0),(3,0),(4,0),(5,0),(0,0),(1,1),(6,0),(7,0),(8,0),(9,0)]) (by kernel_rfl) ?_;have Mq:=M;refine UT 2 K M fun _ K=>?_;refine q1 rfl K (Y6 rfl rfl) fun _ K=>?_;obtain⟨v98,st98,ev98,rfl,q98⟩:=qk M.fresh ((B.step M).RE (k:=3) rfl) hcl.len (Mem.Zv (L:=((c90,0,[kw])::(c13,0,[iZ (a.tr-1:Nat),ka,ks91])::(c36,0,[iZ 0])::(Aa++(A91++[])))) (B:=(Aw++[])) (Mem.cast M Za) hAg) hqS wf.most;refine qA rfl K (Qf rfl ev98) fun _ K=>?_;replace M:=M.quiet q98;have Mp:=Mq;have Mq:=M;refine UT 1 K M fun _ K=>?_;refine JE rfl K rfl (M.load (k:=1) rfl (Qc JP rfl)) (Mp.load (k:=1) rfl (Qc JP rfl)) (Ul (YM hAa.len)) rfl Q9 fun _ K=>?_;refine Eo rfl K M Yc EW rfl rfl rfl rfl rfl fun c99 _ _ K M=>?_;refine Zx (k2:=0) (L:=[(c99,0,[.bool (anyS Wy q)]),(c90,0,[kw]),(c13,0,[iZ (a.tr-1:Nat),ka,ks91]),(c36,0,[iZ 0])]) (B:=(A91++(Ag++(Aw++[])))) rfl K M hAa Yc rfl rfl rfl rfl (by rw[Vi,List.length_map,List.length_take];omega) rfl fun ks100 A100 _ _ K hA100 M=>?_;have Mp:=Mq;have Mq:=M;refine UT 1 K M fun _ K=>?_;refine XJ (k:=2) rfl K M rfl rfl rfl VX (hA100.cell) rfl fun _ M=>?_;have Mp:=Mq;have Mq:=M;refine Jd ?_;show W _ _ _ _ _ _ _;refine Qb 3 K M fun _ K=>?_;replace B:=B.step M;obtain⟨Fr,B⟩:=Ql.ND (L:=((c99,0,[.bool (anyS Wy q)])::(c90,0,[kw])::(c13,0,[iZ (a.tr-1:Nat),ks100,ks91])::(c36,0,[iZ 0])::(A100++(A91++(Ag++[]))))) (B:=[]) (B.cast Za) hAw (hP2.Rv hL2);replace B:=B.cast (M':=((c99,0,[.bool (anyS Wy q)])::(c90,0,[kw])::(c13,0,[iZ (a.tr-1:Nat),ks100,ks91])::(c36,0,[iZ 0])::(A100++(A91++(Ag++[]))))) Za;have M:=B.mem;have hi2:=ZL htk Qd
  have htq:L.take (i+1)=L.take i++[q]:=by rw[List.take_add_one,hqi];rfl
  exact⟨_,Qd,i+1,L2,F2,(LLr++[row]),_,_,ks100,A100,ks91,A91,rfl,(K.sub rfl),(B.step M).less (.cons _ (.cons _ (.cons_cons _ (.cons_cons _ (List.Sublist.append_left (List.Sublist.append_left (List.nil_sublist _) _) _))))),(hP2.whole Qd),(by rw[List.length_append,hLL];rfl),hi2,hL2,(by rw[htk,htq,List.map_append,BS];exact hA100),hA91⟩
 refine QM ?_;show W _ _ _ _ _ _ _;refine Qb 1 K M fun _ K=>?_;replace B:=B.step M;have hti:L.take i=L:=List.take_of_length_le Qd;rw[hti]at hAa;have hMd:=hP.made (p:=anyS Wy) (m:=⟨a.tr-1,L.map (anyS Wy),LLr⟩) (by show LLr.length=_;omega) rfl (by show a.tr-1≤6;omega) hL;obtain⟨Fo,B⟩:=Ql.qF (L:=((c13,0,[iZ (a.tr-1:Nat),ka,kr])::(c36,0,[iZ 0])::(Aa++[]))) (B:=[]) (B.cast Za) hAr;replace B:=B.cast (M':=((c13,0,[iZ (a.tr-1:Nat),ka,kr])::(c36,0,[iZ 0])::(Aa++[]))) Za;have M:=B.mem;obtain⟨v103,st103,ev103,dp2,F2,rfl,hD2,nf2,q103⟩:=Wz (a:=⟨a.tr-1,L.map (anyS Wy),LLr⟩) B.fresh hMd.wf (Mem.Zv (L:=[(c13,0,[iZ (a.tr-1:Nat),ka,kr]),(c36,0,[iZ 0])]) (B:=[]) M hAa) (Zw.r (B.at_ (k:=0) rfl));refine p1 K (Qf rfl ev103) fun _ K=>?_;have hle0:=B.le;replace B:=B.quiet q103;have M:=B.mem;refine Qb 4 K M ?_;exact⟨⟨Wy,hcl,.inl ⟨dp2,F2,L,_,rfl,hD2,fun c hc=>⟨Nat.le_trans hle0 (nf2 c hc).1,(nf2 c hc).2⟩,rfl,hMd,(B.w7 (k:=2) rfl).met⟩⟩,B.U7⟩
end
section
variable {st:St}

theorem Ql.add{st0:St}{X0:Fp}{M:QP}{Os:List Ob}{o:Ob}(B:Ql st0 X0 st M Os)(h:o.H st.h.get)(hi: ∀c,o.F c→c<st.n∧st0.n≤c)(hd: ∀p∈Os,∀c,o.F c→ ¬p.F c)(hM: ∀c m l,(c,m,l)∈M→ ¬o.F c):Ql st0 X0 st M (o::Os):=by
 refine⟨B.fresh,B.le,B.row,B.nodup,B.lo,fun p hp=>?_,fun p hp c hc=>?_,List.pairwise_cons.2 ⟨hd,B.dj⟩,fun p hp c m l hm=>?_,B.J5⟩
 ·rcases List.mem_cons.1 hp with rfl|hp
  ·exact h
  ·exact B.obj p hp
 ·rcases List.mem_cons.1 hp with rfl|hp
  ·exact⟨(hi c hc).1,.inl (hi c hc).2⟩
  ·exact B.hi p hp c hc
 ·rcases List.mem_cons.1 hp with rfl|hp
  ·exact hM c m l hm
  ·exact B.djM p hp c m l hm
theorem Ql.ES{st0 st':St}{X0:Fp}{M:QP}{Os:List Ob}{o om om':Ob}{k:Nat}(B0:Ql st0 X0 st M Os)(hk:Os[k]? =some om)(hF:om'.F=om.F)(B:Ql st0 X0 st' M (Os.set k om'))(h:o.H st'.h.get)(hn:Vn st st' o.F):Ql st0 X0 st' M (o::Os.set k om'):=by
 refine B.add h (fun c hc=>⟨(hn c hc).2,Nat.le_trans B0.le (hn c hc).1⟩) (fun p hp c hc hpc=>?_) (fun c m l hm hc=>?_)
 ·have h1:=(hn c hc).1;rcases List.mem_or_eq_of_mem_set hp with hp|rfl
  ·have:=(B0.hi p hp c hpc).1;omega
  ·rw[hF]at hpc;have:=B0.VM hk c hpc;omega
 ·have h1:=(hn c hc).1;have:=(B0.row c m l hm).lt B0.fresh;omega
theorem ZO{st':St}{F:Fp}(h: ∀c,F c→c<st'.n):EV st st' F F:=fun c hc=>⟨.inl hc,h c hc⟩

end
section
variable {l:List (Nat×Nat)}

def TV(l:List (Nat×Nat)):List (List AV):=l.map fun p=>[.int .i64 (p.1:Nat),.int .i64 (p.2:Nat)]
theorem KE(l:List (Nat×Nat)):(TV l).length=l.length:=by simp[TV]
theorem xq{i:Nat}{p:Nat×Nat}(h:l[i]? =some p):(TV l)[i]? =some [.int .i64 (p.1:Nat),.int .i64 (p.2:Nat)]:=by rw[TV,List.getElem?_map,h];rfl
theorem ju(l:List (Nat×Nat))(p:Nat×Nat):TV (l++[p])=TV l++[[.int .i64 (p.1:Nat),.int .i64 (p.2:Nat)]]:=by simp[TV]
def NG(l:List (Nat×Nat))(p:Nat×Nat)(l':List (Nat×Nat))(k:Nat)(was:Bool):Prop:=(was=true∧l'=l∧l[k]? =some p)∨(was=false∧p∉l∧l'=l++[p]∧k=l.length)
theorem NG.len{p:Nat×Nat}{l':List (Nat×Nat)}{k:Nat}{was:Bool}(H:NG l p l' k was):l.length≤l'.length∧l'.length≤l.length+1∧(was=true→l'.length=l.length)∧(was=false→l'.length=l.length+1):=by
 rcases H with⟨h1,h2,h3⟩|⟨h1,h2,h3,h4⟩
 ·subst h1 h2;exact⟨Nat.le_refl _,by omega,fun _=>rfl,fun h=>by cases h⟩
 ·subst h1 h3;simp
theorem NG.take{l:List (Nat×Nat)}{p:Nat×Nat}{l':List (Nat×Nat)}{k:Nat}{was:Bool}(H:NG l p l' k was){n:Nat}(hn:n≤l.length):l'.take n=l.take n:=by
 rcases H with⟨h1,h2,h3⟩|⟨h1,h2,h3,h4⟩
 ·rw[h2]
 ·rw[h3,List.take_append_of_le_length hn]
theorem NG.pr{a b:Au}{K:Nat}{l':List (Nat×Nat)}{rows:List (List Int)}{row:List Int}(P:VI (SS a b) (0,0) K l rows row)(hr:row.length<K){p:Nat×Nat}(hp:l[rows.length]? =some p){q:Nat×Nat}(hq:SS a b p row.length=q){k:Nat}{was:Bool}(H:NG l q l' k was):VI (SS a b) (0,0) K l' rows (row++[((k:Nat):Int)]):=by
 subst hq;rcases H with⟨h1,h2,h3⟩|⟨h1,h2,h3,h4⟩
 ·rw[h2];exact P.J5 hr hp h3
 ·rw[h3,h4];exact P.new hr hp h2
theorem VI.iy{a b:Au}(Wa:Xu a)(Wb:Xu b)(ht:b.tr=a.tr){rows:List (List Int)}{row:List Int}(P:VI (SS a b) (0,0) (2^a.tr) l rows row): ∀p∈l,p.1<a.n∧p.2<b.n:=fun p hp=>
 P.all (Q:=fun p=>p.1<a.n∧p.2<b.n) ⟨Wa.pos,Wb.pos⟩ (fun s c h hc=>⟨Wa.Ya h.1 hc,Wb.Ya h.2 (by show c<2^b.tr;rw[ht];exact hc)⟩) (Nat.two_pow_pos _) hp
end
section

theorem zY(n:Nat):(n % 2==1)=decide (((n % 2:Nat):Int)=1):=by
 have h:n % 2=0∨n % 2=1:=by omega
 rcases h with h|h<;>rw[h]<;>rfl
end
end Go.Proofs.YtildagdnomiahaaGreatDoor
