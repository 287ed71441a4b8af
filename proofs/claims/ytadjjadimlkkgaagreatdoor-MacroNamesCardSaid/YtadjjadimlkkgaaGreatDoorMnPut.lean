/-
  free.Put: terms put for names; what is put is new, or stands in rows that are said.
-/
import Derived.Test.YtadjjadimlkkgaaGreatDoorMnRun
namespace Go.Proofs.YtadjjadimlkkgaaGreatDoor
open Go Go.RowKit
set_option maxHeartbeats 8000000
set_option linter.unusedVariables false
set_option linter.unusedSimpArgs false
set_option linter.unnecessarySimpa false
set_option maxRecDepth 100000

theorem RL{h0:Hp}{n0:Nat}{st:St}{L A B:Uf}{ks:AV}{l:List (List Nat)}(hM:Mem h0 n0 [] st (L++(A++B)))(hA:Acc n0 1 A ks (Ud l)):
  ∃v st' A',Ev Tryz.prog QU 56 [ks] st v st'∧EU n0 A' v (Eb l)∧Mem h0 n0 [] st' (L++(A'++B)):=by
 have hb:=hA.Uj;rw[Qv]at hb;generalize hg:Ud l=ls at hA;have hcn:Eb []=[]:=List.length_eq_zero_iff.1 (Nat.le_zero.1 (H7 []))
 cases hA with
 |none=>
  have hl:l=[]:=by
   have h:=congrArg List.length hg;rw[Qv]at h;exact List.length_eq_zero_iff.1 h
  subst hl;exact⟨.nils,st,[],KU (V0:=id) (F:=A3) (V:=Ip) rfl hM.fresh,by rw[hcn];exact .none,hM⟩
 |own hc hz hb'=>
  rename_i c m;subst hg
  by_cases hl:l=[]
  ·subst hl;refine⟨.sl c m 0 0 1,st,_,KT (V0:=id) (F:=A3) (V:=Ip) rfl hM.fresh c m,?_,hM⟩;rw[hcn];exact .own (l:=[]) (rest:=[]) hc (by simp)
  ·have hrow:=hM.uv (c:=c) (m:=m) (l:=(Ud l).flatten) (by simp)
   have hs:VJ (Ud l).flatten=some (l.map Lt):=by rw[Ej];exact AG l
   obtain⟨v,st',h1,rfl,h3,h4⟩:=NH (F:=A3) (V:=Ip) (V0:=id) (G:=QU) (P:=Tryz.prog) (f:=56) rfl hM.fresh hrow hs (by simpa using hl) (by simpa using hb) (by have:=WT (l.map Lt);simp only[A3,List.length_append,List.length_replicate];omega);refine⟨Ip c m (l.map Lt),st',[(c,m,(A3 (l.map Lt)).map BY)],?_,?_,Mem.qb (L:=L) (B:=B) hM h4 h3⟩
   ·rw[Qv];rw[List.length_map]at h1;exact h1
   ·have e:(A3 (l.map Lt)).map BY=(Ud (Eb l)).flatten++(List.replicate ((l.map Lt).length-(Lib.compact (l.map Lt)).length) []).map BY:=by
     rw[A3,List.map_append,Ej,Eb,List.map_map];rfl
    rw[e]
    have hn:(Eb l).length=(Lib.compact (l.map Lt)).length:=by simp[Eb]
    have:=EU.own (n0:=n0) (c:=c) (m:=m) (l:=Eb l) (rest:=(List.replicate ((l.map Lt).length-(Lib.compact (l.map Lt)).length) []).map BY) hc (Nat.le_trans (H7 l) hb);rw[hn]at this;exact this
theorem Z7(x:Nd):(Jk x).length≤Jz x:=by
 have h1:=H7 (WZ (Qx x []));have h2:=Ku x [];rw[Wc]at h1;exact Nat.le_trans h1 h2
theorem TE{α:Type} [DecidableEq α]: ∀(l1 l2:List α),l1.Nodup→(∀x∈l1,x∈l2)→l1.length≤l2.length:=by
 intro l1
 induction l1 with
 |nil=>intro l2 _ _;exact Nat.zero_le _
 |cons a l1 ih=>
  intro l2 hn hs;obtain⟨h1,h2⟩:=List.nodup_cons.1 hn;have ha:=hs a (List.mem_cons_self ..);have:=ih (l2.erase a) h2 fun x hx=>(List.mem_erase_of_ne (by intro e;subst e;exact h1 hx)).2 (hs x (List.mem_cons_of_mem _ hx));rw[List.length_erase_of_mem ha]at this;have:=List.length_pos_of_mem ha;simp only[List.length_cons];omega
def Yw(s:List Nat)(k:Nat):List Nat:=s++List.replicate k 39
theorem W7(s:List Nat):Yw s 0=s:=by simp[Yw]
theorem Oj(s:List Nat)(k:Nat):Yw s k++[39]=Yw s (k+1):=by
 unfold Yw;rw[List.append_assoc,List.replicate_succ']
theorem VA(s:List Nat)(k:Nat):(Yw s k).length=s.length+k:=by simp[Yw]
theorem Ol{bl:List (List Nat)}{s:List Nat}{k:Nat}(h: ∀j,j<k→V1 (Yw s j) bl=true):k≤bl.length:=by
 have h1:=TE ((List.range k).map (Yw s)) bl (by
  rw[List.nodup_iff_pairwise_ne,List.pairwise_map];refine List.Pairwise.imp (fun{a b} hab e=>?_) List.pairwise_lt_range;have:=congrArg List.length e;rw[VA,VA]at this
  omega) fun x hx=>by
   obtain⟨j,hj,rfl⟩:=List.mem_map.1 hx;exact Ad.1 (h j (List.mem_range.1 hj))
 simpa using h1
theorem Oc{bl:List (List Nat)}{f:Nat}{s:List Nat}(h:V1 s bl=true):U6 bl (f+1) s=U6 bl f (s++[39]):=by rw[U6,if_pos h]
theorem Ob{bl:List (List Nat)}{f:Nat}{s:List Nat}(h:V1 s bl=false):U6 bl (f+1) s=s:=by rw[U6,if_neg (by rw[h];decide)]
theorem Rm(s:List Nat): ∀(ns:List (List Nat)) (ts:List Nd) (k:Nat),(YN (fun y=>decide (s=y)) ns k<0→QS ns ts s=none)∧(0≤YN (fun y=>decide (s=y)) ns k→(k:Int)≤YN (fun y=>decide (s=y)) ns k∧QS ns ts s=ts[(YN (fun y=>decide (s=y)) ns k-k).toNat]?):=by
 intro ns
 induction ns with
 |nil=>intro ts k;rw[YN];exact⟨fun _=>Kz _ _,fun h=>absurd h (by decide)⟩
 |cons n ns ih=>
  intro ts k;rw[YN]
  by_cases e:s=n
  ·subst e;rw[if_pos (by simp)];refine⟨fun h=>absurd h (by omega),fun _=>⟨Int.le_refl _,?_⟩⟩
   cases ts with
   |nil=>rw[show QS (s::ns) [] s=none from rfl];simp
   |cons t ts=>rw[QS,if_pos rfl];simp
  ·rw[if_neg (by simpa using e)]
   cases ts with
   |nil=>
    obtain⟨h1,h2⟩:=ih [] (k+1);refine⟨fun _=>rfl,fun h=>?_⟩;obtain⟨h3,_⟩:=h2 h;refine⟨by omega,by rw[show QS (n::ns) [] s=none from rfl];simp⟩
   |cons t ts=>
    obtain⟨h1,h2⟩:=ih ts (k+1);rw[QS,if_neg (fun h=>e h.symm)];refine⟨h1,fun h=>?_⟩;obtain⟨h3,h4⟩:=h2 h;refine⟨by omega,?_⟩;rw[h4]
    have:(YN (fun y=>decide (s=y)) ns (k+1)-(k:Int)).toNat=(YN (fun y=>decide (s=y)) ns (k+1)-((k+1:Nat):Int)).toNat+1:=by omega
    rw[this,List.getElem?_cons_succ]
def xj(R:Y4)(r:Option Nd)(v:AV):Prop:= ∃o s z a kk b,v=.tup [.agg [.str o,.str s,.int .i64 z,.int .i64 a,kk],.bool b]∧(∃n,ZH kk=some n)∧((b=true∧ ∃l,r=some (.mk o s z a l)∧Zj R (.mk o s z a l) [.str o,.str s,.int .i64 z,.int .i64 a,kk])∨(b=false∧r=none))
theorem TH{R:Y4}{st0 st':St}{M A B:Uf}(hM:Mem st0.h.get st0.n [] st' M){α:Type}{f:α→Nd}{l:List α}{lsn:List (List AV)}{ks:AV}{o s:List Nat}{z a:Int}(hA:Acc st0.n 5 A ks lsn)(hmap:X5 (Yx R B) f l lsn)(hn:lsn.length=l.length)(hsub:(A++B).Sublist M)(hb:Bytes o∧Bytes s):
  ZZ R st0 st' (.mk o s z a (l.map f)) (.agg [.str o,.str s,.int .i64 z,.int .i64 a,ks]):=by
 refine⟨o,s,z,a,l.map f,ks,A++B,rfl,rfl,hM.Ge hsub,?_⟩;refine((hmap.kids hn hA).mono ?_).node hb;intro c m x h;rcases h with(h|h)|h
 ·exact .inl h
 ·exact .inr (List.mem_append_right _ h)
 ·exact .inr (List.mem_append_left _ h)
theorem ZZ.same{R:Y4}{st0 st':St}{M:Uf}{o s:List Nat}{z a:Int}{l:List Nd}{kk:AV}(hM:Mem st0.h.get st0.n [] st' M)(hr:Zj R (.mk o s z a l) [.str o,.str s,.int .i64 z,.int .i64 a,kk]):ZZ R st0 st' (.mk o s z a l) (.agg [.str o,.str s,.int .i64 z,.int .i64 a,kk]):=
 ⟨o,s,z,a,l,kk,[],rfl,rfl,hM.Ge (List.nil_sublist _),hr.mono fun _ _ _ h=>.inl h⟩
theorem Zj.again{R:Y4}{o s s':List Nat}{z a a':Int}{l:List Nd}{kk:AV}(r:Zj R (.mk o s z a l) [.str o,.str s,.int .i64 z,.int .i64 a,kk])(hb:Bytes s'):Zj R (.mk o s' z a' l) [.str o,.str s',.int .i64 z,.int .i64 a',kk]:=by
 obtain⟨kk',ls,e,K,hb',_⟩:=r.QJ
 injection e with _ e
 injection e with _ e
 injection e with _ e
 injection e with _ e
 injection e with e _
 subst e;exact K.node ⟨hb',hb⟩
theorem Oh: ∀l:List Nd,l.length≤W2 l
 |[]=>Nat.zero_le _
 |k::l=>by have h1:=Fu k;have h2:=Oh l;rw[W2,List.length_cons];omega
def Ut:Nd→Int
 |.mk op _ n _ [k]=>if op=[112,108,117,115]then n+Ut k else n
 |.mk _ _ n _ _=>n
termination_by x=>Jz x
decreasing_by
 simp_wf
 rw[Jz,W2,W2];omega
def okB(C:Int)(x:Nd):Bool:=match x with
 |.mk op name n a kids=>decide (((name.length:Nat):Int)≤1000 *C)&&(decide (0≤n)&&(decide (Ut (.mk op name n a kids)≤C)&&((!(decide (op=[101,120])||decide (op=[97,108,108]))||decide (kids.length=1))&&kids.attach.all fun k=>okB C k.1)))
termination_by Jz x
decreasing_by
 all_goals
  simp_wf
  have:=Yb k.2;rw[Jz];omega
theorem O4(C:Int)(op name:List Nat)(n a:Int)(kids:List Nd):okB C (.mk op name n a kids)=(decide (((name.length:Nat):Int)≤1000 *C)&&(decide (0≤n)&&(decide (Ut (.mk op name n a kids)≤C)&&((!(decide (op=[101,120])||decide (op=[97,108,108]))||decide (kids.length=1))&&kids.all (okB C))))):=by
 rw[okB,Xn kids (okB C)]
theorem Yk(op name:List Nat)(n a:Int)(k:Nd):Ut (.mk op name n a [k])=if op=[112,108,117,115]then n+Ut k else n:=by rw[Ut]
theorem JT{op name:List Nat}{n a:Int}{kids:List Nd}(h:op≠[112,108,117,115]∨kids.length≠1):Ut (.mk op name n a kids)=n:=by
 match kids with
 |[]=>rw[Ut];intro k e;cases e
 |[k]=>
  rw[Yk];rcases h with h|h
  ·rw[if_neg h]
  ·exact absurd rfl h
 |_::_::_=>rw[Ut];intro k e;cases e
theorem EZ{C:Int}(x:Nd):okB C x=true→0≤x.num∧x.num≤Ut x:=by
 refine J2 (M:=fun x=>okB C x=true→0≤x.num∧x.num≤Ut x) (fun op name n a kids ih h=>?_) x;rw[O4]at h;simp only[Bool.and_eq_true,decide_eq_true_eq,List.all_eq_true]at h;show 0≤n∧n≤Ut (.mk op name n a kids);refine⟨h.2.1,?_⟩
 by_cases hp:op≠[112,108,117,115]∨kids.length≠1
 ·rw[JT hp];exact Int.le_refl _
 ·match kids,ih,h,hp with
  |[k],ih,h,hp=>
   have h1:=ih k (by simp) (h.2.2.2.2 k (by simp));rw[Yk]
   split<;>omega
  |[],_,_,hp=>exact absurd (.inr (by simp)) hp
  |_::_::_,_,_,hp=>exact absurd (.inr (by simp)) hp
theorem Yj{C:Int}{op name:List Nat}{n a:Int}{kids:List Nd}(h:okB C (.mk op name n a kids)=true):((name.length:Nat):Int)≤1000 *C∧0≤n∧n≤C∧((op=[101,120]∨op=[97,108,108])→kids.length=1)∧(∀k∈kids,okB C k=true)∧Ut (.mk op name n a kids)≤C:=by
 have h0:=EZ _ h;rw[O4]at h;simp only[Bool.and_eq_true,decide_eq_true_eq,List.all_eq_true]at h;have h0:0≤n∧n≤Ut (.mk op name n a kids):=h0;refine⟨h.1,h.2.1,by omega,fun ho=>?_,h.2.2.2.2,h.2.2.1⟩;have h4:=h.2.2.2.1
 have:(decide (op=[101,120])||decide (op=[97,108,108]))=true:=by simpa using ho
 rw[this]at h4
 simpa using h4

theorem RJ(R:Y4)(x:Nd): ∀(st:St) (cs:List AV),Qu st→YM R st.h.get→Zj R x cs→Jz x≤1000000→ ∃v st',Ev Tryz.prog QU 241 [.agg cs] st v st'∧ZZ R st st' x v∧Qt st st':=by
 refine J2 (M:=fun x=> ∀(st:St) (cs:List AV),Qu st→YM R st.h.get→Zj R x cs→Jz x≤1000000→ ∃v st',Ev Tryz.prog QU 241 [.agg cs] st v st'∧ZZ R st st' x v∧Qt st st') (fun o s z a l ih=>?_) x;intro st cs hf hR hr hsz;have hr0:=hr;obtain⟨kk,ls,rfl,hK,hb⟩:=hr.QJ;have hln:=hK.ln;have hbn:=hK.Uj;rw[Jz]at hsz;have hsl:=Oh l;refine QE rfl Tryz.func241 rfl Tryz.ntmps241 rfl fun T hT=>?_;have K:QT [(0,_)] T:=(.cons (hT 0) .nil);have M:=Mem.start hf;refine Qn<|Qb ?_;refine QO K M rfl (Qa rfl (Qa rfl (Qa rfl (Qa rfl (Qa hK.cell Qp))))) (by decide) fun c1 _ _ K M=>?_;refine au 4 K M ?_;intro c2 _ _ K _ M;refine o1 K (QL Q7 rfl rfl hK.len) rfl fun _ K=>?_;refine Qf 1 K M ?_;intro _ K;refine JN (fun mm1 T st9=> ∃(i:Nat) (ks:AV) (A:Uf) (B:Uf) (lsn:List (List AV)),mm1=l.length-i∧QT [(1,.ptr c1 0 0),(2,.ptr c2 0 0),(3,ks),(7,kk),(8,.int .i64 (((l.length:Nat):Int))),(9,.int .i64 (((i:Nat):Int)))] T∧Mem st.h.get st.n [] st9 ((c2,0,[.str [],.str [],.int .i64 0,.int .i64 0,.nils])::(c1,0,[.str o,.str s,.int .i64 z,.int .i64 a,kk])::(A++(B++[])))∧Acc st.n 5 A ks lsn∧i≤l.length∧lsn.length=i∧X5 (Yx R B) (fun k=>k) l lsn) (fun mm1 T st9 hI=>?_) _ _ _ ⟨0,.nils,[],[],[],rfl,(.cons (K _ _ rfl) (.cons (K _ _ rfl) (.cons (K _ _ rfl) (.cons (K _ _ rfl) (.cons (K _ _ rfl) (.cons (K _ _ rfl) .nil)))))),M.less (.refl _),.none,(Nat.zero_le _),rfl,.nil⟩;obtain⟨i,ks,A,B,lsn,rfl,K,M,hA,hi,hlen,hmap⟩:=hI;refine Qf 1 K M ?_;intro _ K;refine Xo K rfl (fun h10=>?_) fun h10=>?_
 ·refine Q8 ?_;show W _ _ _ _ _ _ _;refine Qn<|Uq<|Qn<|Qb ?_;obtain⟨⟨o11,s11,z11,a11,l11⟩,hi11⟩: ∃k,l[i]? =some k:=⟨_,List.getElem?_eq_getElem (by omega)⟩;have hm11:=J6 hi11;obtain⟨_,hc11,hn11⟩:=hK.get hi11;have hp11:=hn11;obtain⟨kk11,ls11,rfl,hK11,hb11⟩:=hp11.QJ;obtain⟨x11,m11,f11,q11,_,la11,lo11,lp11⟩:=(hK.r (M.YM hR)).load (i:=i) (cs:=_) hc11;refine o1 K (Qj (j:=i) QH (congrArg some q11) rfl (by rw[hK.ln];omega)) rfl fun _ K=>o1 K (Qr rfl (la11 _ Qs)) rfl fun _ K=>?_;refine Ul K M Ja (by decide) fun c5 _ _ K M=>?_;refine Q5 (k:=0) K M rfl rfl rfl Qq rfl (Qa rfl (Qa rfl (Qa rfl (Qa rfl (Qa hK11.cell Qp))))) rfl fun _ M=>?_;refine Qf 2 K M ?_;intro _ K;obtain⟨v15,st15,ev15,⟨on15,sn15,zn15,an15,ln15,kkn15,A15,en15,rfl,hS15,hN15⟩,q15⟩:=ih _ hm11 _ _ M.fresh (M.YM hR) hn11 (by have:=Yb hm11;omega);refine o1 K (Ql rfl ev15) rfl fun _ K=>?_;replace M:=M.Yz q15 hS15;replace M:=Mem.cast (M':=((c5,0,[.str o11,.str s11,.int .i64 z11,.int .i64 a11,kk11])::(c2,0,[.str [],.str [],.int .i64 0,.int .i64 0,.nils])::(c1,0,[.str o,.str s,.int .i64 z,.int .i64 a,kk])::(A++((B++A15)++[])))) M (by first|(simp only[List.append_assoc,List.cons_append,List.nil_append,List.append_nil,List.set_cons_zero,List.set_cons_succ];done)|(simp only[List.append_assoc,List.cons_append,List.nil_append,List.append_nil,List.set_cons_zero,List.set_cons_succ];rfl));refine Fo K M JC Ja rfl rfl (Qa rfl (Qa rfl (Qa rfl (Qa rfl (Qa hN15.cell Qp))))) rfl rfl fun c16 _ _ K M=>?_;refine I6 (k2:=0) (L:=[(c16,0,[.str on15,.str sn15,.int .i64 zn15,.int .i64 an15,kkn15]),(c5,0,[.str o11,.str s11,.int .i64 z11,.int .i64 a11,kk11]),(c2,0,[.str [],.str [],.int .i64 0,.int .i64 0,.nils]),(c1,0,[.str o,.str s,.int .i64 z,.int .i64 a,kk])]) (A:=A) (B:=((B++A15)++[])) K M hA JC rfl rfl rfl rfl (by omega) rfl fun ks17 A17 _ _ K hA17 M=>?_;refine Qf 1 K M ?_;intro _ K;refine o1 K (Jf rfl rfl (by omega) (by omega)) rfl fun _ K=>o1 K (Qd rfl) rfl fun _ K=>Qy ?_;exact⟨_,(by omega),i+1,ks17,A17,B++A15,(lsn++[[.str on15,.str sn15,.int .i64 zn15,.int .i64 an15,kkn15]]),rfl,(.cons (K _ _ rfl) (.cons (K _ _ rfl) (.cons (K _ _ rfl) (.cons (K _ _ rfl) (.cons (K _ _ rfl) (.cons (K _ _ rfl) .nil)))))),M.less (.cons _ (.cons _ (.refl _))),hA17,(by omega),(by rw[List.length_append];simp;omega),(hmap.snoc hlen hi11 hN15)⟩
 refine J7 ?_;show W _ _ _ _ _ _ _;refine Qf 2 K M ?_;intro _ K;refine EV (k:=1) K M rfl rfl rfl UI (hA.cell) rfl fun _ M=>?_;refine Qf 1 K M ?_;intro _ K;refine Q5 (k:=0) K M rfl rfl rfl Qq rfl (Qa rfl (Qa rfl (Qa rfl (Qa rfl (Qa hA.cell Qp))))) rfl fun _ M=>?_;refine Qy ?_;show W _ _ _ _ _ _ _;refine Qe ⟨.inr rfl,_,Iy 0 K M rfl rfl rfl,?_⟩;refine⟨?_,M.qt⟩;have hnn:=TH (o:=o) (s:=s) (z:=z) (a:=a) M hA hmap (by omega) (.cons _ (.cons _ (List.Sublist.trans (List.sublist_append_left (A++B) []) (by rw[List.append_assoc];exact .refl _)))) hb;rw[List.map_id' l]at hnn;exact hnn

theorem GN{R:Y4}{ns:List (List Nat)}{ts:List Nd}{kn kt:AV}{lts:List (List AV)}{st:St}(hf:Qu st)(hR:YM R st.h.get)(hN:Un st.h.get [] 1 (Ud ns) kn)(hTs:Ug R ts kt lts)(s:List Nat): ∃v st',Ev Tryz.prog QU 240 [.agg [kn,kt],.str s] st v st'∧xj R (QS ns ts s) v∧Qt st st':=by
 have hbn:=hTs.Uj;have hln:=hTs.ln;refine QE rfl Tryz.func240 rfl Tryz.ntmps240 rfl fun T hT=>?_;have K:QT [(0,_),(1,_)] T:=(.cons (hT 0) (.cons (hT 1) .nil));have M:=Mem.start hf;refine Qn<|Qb ?_;refine QO K M rfl (Qa hN.cell (Qa hTs.cell Qp)) (by decide) fun c2 _ _ K M=>?_;refine au 5 K M ?_;intro c4 _ _ K _ M;obtain⟨ix,hix⟩: ∃ix,ix=YN (fun y=>decide (s=y)) ns 0:=⟨_,rfl⟩;obtain⟨hx1,hx2⟩:=Rm s ns ts 0;rw[←hix]at hx1 hx2;obtain⟨v10,st10,ev10,e10,q10⟩:=IS M.fresh (Un.mem M hN (by simp)) s;refine o1 K (Ql rfl ev10) rfl fun _ K=>?_;rw[←hix]at e10;subst e10;replace M:=M.quiet q10;refine Qf 3 K M ?_;intro _ K;refine oB K (Qd rfl) rfl fun b13 _ e13 K=>?_;cases b13
 ·replace e13:=of_decide_eq_false e13;refine Qf 3 K M ?_;intro _ K;refine og K rfl rfl (QL Q7 rfl rfl hTs.len) rfl fun _ K=>?_;refine Qf 2 K M ?_;intro _ K;refine Xo K rfl (fun h19=>?_) fun h19=>?_
  ·refine Qn<|Qb<|o1 K (UF UE rfl rfl) rfl fun _ K=>?_;refine au 2 K M ?_;intro _ _ K _ M;refine Qe ⟨.inr rfl,_,(YJ (Yc K rfl (M.load (k:=0) rfl (Ji Qs rfl))) (Js K rfl)),?_⟩;refine⟨⟨[],[],0,0,.nils,false,rfl,⟨0,rfl⟩,.inr ⟨rfl,?_⟩⟩,M.qt⟩
   by_cases hneg:ix<0
   ·exact hx1 hneg
   ·obtain⟨_,h9⟩:=hx2 (by omega)
    rw[h9];exact List.getElem?_eq_none (by simp_all<;>omega)
  refine Qf 3 K M ?_;intro _ K;obtain⟨⟨o24,s24,z24,a24,l24⟩,hi24⟩: ∃k,ts[ix.toNat]? =some k:=⟨_,List.getElem?_eq_getElem (by omega)⟩;have hm24:=J6 hi24;obtain⟨_,hc24,hn24⟩:=hTs.get hi24;have hp24:=hn24;obtain⟨kk24,ls24,rfl,hK24,hb24⟩:=hp24.QJ;obtain⟨x24,m24,f24,q24,_,la24,lo24,lp24⟩:=(hTs.r (M.YM hR)).load (i:=ix.toNat) (cs:=_) hc24;refine o1 K (Qj (j:=ix.toNat) QH (congrArg some q24) (congrArg (fun z=>some (AV.int .i64 z)) (by omega:_=((ix.toNat:Nat):Int))) (by rw[hTs.ln];omega)) rfl fun _ K=>o1 K (Qr rfl (la24 _ Qs)) rfl fun _ K=>?_;refine Q5 (k:=0) K M rfl rfl rfl Qq rfl (Qa rfl (Qa rfl (Qa rfl (Qa rfl (Qa hK24.cell Qp))))) rfl fun _ M=>?_;refine Qf 1 K M ?_;intro _ K;refine Qe ⟨.inr rfl,_,(YJ (Yc K rfl (M.load (k:=0) rfl (Ji Qs rfl))) (Js K rfl)),?_⟩;refine⟨⟨_,_,_,_,_,true,rfl,⟨_,hK24.len⟩,.inl ⟨rfl,_,?_,hn24⟩⟩,M.qt⟩
  obtain⟨_,h9⟩:=hx2 (by simp_all<;>omega)
  rw[h9,←hi24]
  congr 1;omega
 replace e13:=of_decide_eq_true e13;refine Qf 6 K M ?_;intro _ K;refine Qm (t:=true) (K.QF rfl) (fun _=>?_) (fun h=>by cases h);refine Qn<|Qb<|o1 K (UF UE rfl rfl) rfl fun _ K=>?_;refine au 2 K M ?_;intro _ _ K _ M;refine Qe ⟨.inr rfl,_,(YJ (Yc K rfl (M.load (k:=0) rfl (Ji Qs rfl))) (Js K rfl)),?_⟩;refine⟨⟨[],[],0,0,.nils,false,rfl,⟨0,rfl⟩,.inr ⟨rfl,?_⟩⟩,M.qt⟩
 by_cases hneg:ix<0
 ·exact hx1 hneg
 ·obtain⟨_,h9⟩:=hx2 (by omega)
  rw[h9];exact List.getElem?_eq_none (by simp_all<;>omega)

theorem Zm(bl:List (List Nat)): ∀(f:Nat) (s:List Nat),∃k,k≤f∧U6 bl f s=Yw s k
 |0,s=>⟨0,Nat.le_refl _,by rw[U6,W7]⟩
 |f+1,s=>by
  rw[U6]
  split
  ·obtain⟨k,hk,h⟩:=Zm bl f (s++[39]);refine⟨k+1,by omega,?_⟩;rw[h];unfold Yw;rw[List.append_assoc,List.replicate_succ];rfl
  ·exact⟨0,Nat.zero_le _,(W7 s).symm⟩
theorem VK{s:List Nat}(h:Bytes s)(k:Nat):Bytes (Yw s k):=by
 intro x hx;rcases List.mem_append.1 hx with hx|hx
 ·exact h x hx
 ·have:=(List.mem_replicate.1 hx).2;omega
theorem jJ:Bytes [118]:=by unfold Bytes;decide
theorem ZT(cnt:List Nat→Int){s:List Nat}(h:Bytes s)(bl:List (List Nat)):Bytes (UX cnt s bl):=by
 unfold UX
 split
 ·obtain⟨k,_,e⟩:=Zm bl (bl.length+1) [118];rw[e];exact VK jJ k
 ·obtain⟨k,_,e⟩:=Zm bl (bl.length+1) s;rw[e];exact VK h k

theorem AF{o s:List Nat}{z a:Int}{l:List Nd}{st:St}{cs:List AV}(hf:Qu st)(hr:UN st.h.get (.mk o s z a l) cs)(hsz:Jz (.mk o s z a l)≤1000000): ∃v st',Ev Tryz.prog QU 251 [.agg cs] st v st'∧zd st st' v (Jk (.mk o s z a l))∧Qt st st':=by
 have hr0:=hr;obtain⟨kk,ls,rfl,hK,hb⟩:=hr.QJ;have hln:=hK.ln;have hbn:=hK.Uj;refine QE rfl Tryz.func251 rfl Tryz.ntmps251 rfl fun T hT=>?_;have K:QT [(0,_)] T:=(.cons (hT 0) .nil);have M:=Mem.start hf;refine Qn<|Qb ?_;refine QO K M rfl (Qa rfl (Qa rfl (Qa rfl (Qa rfl (Qa hK.cell Qp))))) (by decide) fun c1 _ _ K M=>?_;refine Qf 2 K M ?_;intro _ K;obtain⟨v5,st5,ev5,ks5,rfl,nr5,q5⟩:=TI _ [] .nils true _ _ M.fresh (hr0.mono M.rows) (Un.nil _ _ _) (.inl ⟨rfl,rfl⟩) (by simpa using hsz);refine o1 K (Ql rfl ev5) rfl fun _ K=>?_;obtain⟨A5,hA5,M⟩:=M.Xt q5 nr5;refine Qf 2 K M ?_;intro _ K;obtain⟨v7,st7,A7,ev7,rfl,M7,hA7⟩:=SI (L:=[(c1,0,[.str o,.str s,.int .i64 z,.int .i64 a,kk])]) (A:=A5) (B:=[]) M hA5;refine o1 K (Ql rfl ev7) rfl fun _ K=>?_;replace M:=M7;refine Qf 1 K M ?_;intro _ K;obtain⟨v9,st9,A9,ev9,hA9,M9⟩:=RL (L:=[(c1,0,[.str o,.str s,.int .i64 z,.int .i64 a,kk])]) (A:=A7) (B:=[]) M hA7;refine o1 K (Ql rfl ev9) rfl fun _ K=>?_;replace M:=M9;refine Qf 1 K M ?_;intro _ K;refine Qe ⟨.inr rfl,_,J5 K rfl,?_⟩;exact⟨Mem.xE (L:=[(c1,0,[.str o,.str s,.int .i64 z,.int .i64 a,kk])]) (A:=A9) (B:=[]) M hA9,M.qt⟩

theorem LM{st:St}(hf:Qu st){bl:List (List Nat)}{kb:AV}(hB:Un st.h.get [] 1 (Ud bl) kb)(s:List Nat)(hs:s.length≤100000000)(hl:bl.length≤500000): ∃v st',Ev Tryz.prog QU 256 [.str s,kb] st v st'∧v=.str (U6 bl (bl.length+1) s)∧Qt st st':=by
 have hcl:=Qv bl;refine QE rfl Tryz.func256 rfl Tryz.ntmps256 rfl fun T hT=>?_;have K:QT [(0,_),(1,_)] T:=(.cons (hT 0) (.cons (hT 1) .nil));have M:=Mem.start hf;refine Qf 1 K M ?_;intro _ K;refine JN (fun mm1 T st9=> ∃(k:Nat) (x:List Nat),mm1=bl.length+1-k∧QT [(0,.str x),(1,kb),(4,.str [])] T∧Mem st.h.get st.n [] st9 []∧x=Yw s k∧(∀j,j<k→V1 (Yw s j) bl=true)∧U6 bl (bl.length+1) s=U6 bl (bl.length+1-k) x) (fun mm1 T st9 hI=>?_) _ _ _ ⟨0,s,rfl,(.cons (K _ _ rfl) (.cons (K _ _ rfl) (.cons (K _ _ rfl) .nil))),M.less (.refl _),(W7 s).symm,(fun j hj=>absurd hj (Nat.not_lt_zero j)),rfl⟩;obtain⟨k,x,rfl,K,M,hxk,hj,hx⟩:=hI
 have hxl:x.length=s.length+k:=by rw[hxk,VA]
 have hkm:=Ol hj;refine Qf 2 K M ?_;intro _ K;refine oQ K M (Xp M.fresh (Un.mem M hB (by simp)) x) rfl rfl fun _ _ K M=>?_;refine Qy ?_;show W _ _ _ _ _ _ _;refine Qm (K.QF rfl) (fun h7=>?_) (fun h7=>?_)
 ·have hb7:=h7;refine Qf 1 K M ?_;intro _ K;refine o1 K (jg (b:=[39]) rfl rfl (by first|omega|(simp only[List.length_append,List.length_cons,List.length_nil];omega))) rfl fun _ K=>o1 K (Q0 rfl) rfl fun _ K=>Qy ?_;exact⟨_,(by omega),k+1,x++[39],rfl,(.cons (K _ _ rfl) (.cons (K _ _ rfl) (.cons (K _ _ rfl) .nil))),M.less (.refl _),(by rw[hxk,Oj]),(fun j hj'=>by rcases Nat.lt_succ_iff_lt_or_eq.1 hj' with h|h;exact hj j h;(subst h;rw[←hxk];exact h7)),(by rw[hx,show bl.length+1-k=(bl.length+1-(k+1))+1 by omega,Oc h7])⟩
 have hb7:=h7;refine J7 ?_;show W _ _ _ _ _ _ _;refine Qf 2 K M ?_;intro _ K;refine Qe ⟨.inr rfl,_,J5 K rfl,?_⟩;exact⟨by rw[hx,show bl.length+1-k=(bl.length+1-(k+1))+1 by omega,Ob h7],M.qt⟩

theorem M1{st:St}(hf:Qu st){bl:List (List Nat)}{kb:AV}(hB:Un st.h.get [] 1 (Ud bl) kb)(s:List Nat)(hs:s.length≤100000000)(hl:bl.length≤500000)(hb:Bytes s): ∃v st',Ev Tryz.prog QU 252 [.str s,kb] st v st'∧v=.str (UX UL s bl)∧Qt st st':=by
 have hcl:=Qv bl;obtain⟨ku,hku,heu⟩:=Zm bl (bl.length+1) s;refine QE rfl Tryz.func252 rfl Tryz.ntmps252 rfl fun T hT=>?_;have K:QT [(0,_),(1,_)] T:=(.cons (hT 0) (.cons (hT 1) .nil));have M:=Mem.start hf;refine Qf 3 K M ?_;intro _ K;refine oQ K M (LM M.fresh (Un.mem M hB (by simp)) s (by first|omega|decide) hl) rfl rfl fun _ _ K M=>?_;refine Qf 2 K M ?_;intro _ K;refine oQ K M (G8 M.fresh ((U6 bl (bl.length+1) s)) (by rw[heu];exact VK hb ku) (by rw[heu,VA];omega)) rfl rfl fun _ _ K M=>?_;refine Qf 1 K M ?_;intro _ K;refine Xo K rfl (fun h11=>?_) fun h11=>?_
 ·refine Qf 1 K M ?_;intro _ K;refine oQ K M (LM M.fresh (Un.mem M hB (by simp)) [118] (by first|omega|decide) hl) rfl rfl fun _ _ K M=>?_;refine Qf 1 K M ?_;intro _ K;refine Qe ⟨.inr rfl,_,J5 K rfl,?_⟩;exact⟨by rw[UX,if_pos h11],M.qt⟩
 refine Qf 2 K M ?_;intro _ K;refine Qe ⟨.inr rfl,_,J5 K rfl,?_⟩;exact⟨by rw[UX,if_neg h11],M.qt⟩
end Go.Proofs.YtadjjadimlkkgaaGreatDoor
