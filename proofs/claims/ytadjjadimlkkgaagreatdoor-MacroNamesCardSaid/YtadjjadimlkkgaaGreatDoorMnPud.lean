/-
  free.Put: any terms put for any names in any node.
-/
import Derived.Test.YtadjjadimlkkgaaGreatDoorMnPuc
import Derived.Test.YtadjjadimlkkgaaGreatDoorMnFill
namespace Go.Proofs.YtadjjadimlkkgaaGreatDoor
open Go Go.RowKit
set_option maxHeartbeats 8000000
set_option linter.unusedVariables false
set_option linter.unusedSimpArgs false
set_option linter.unnecessarySimpa false
set_option maxRecDepth 100000

theorem Ug.toR{R:Y4}{kids:List Nd}{kk:AV}{ls:List (List AV)}(K:Ug R kids kk ls){h:Hp}(hi:YM R h):Vz h kids kk ls:=
 ⟨K.r hi,K.ln,fun i k hk=>by obtain⟨cs,h1,h2⟩:=K.get hk;exact⟨cs,h1,h2.El hi⟩⟩
theorem yq(o s:List Nat)(z a:Int)(l:List Nd):W2 l<Jz (.mk o s z a l):=by rw[Jz];omega
theorem TC(k:Nd):k.num=k.VP:=by cases k;rfl
theorem Mg{R:Y4}{o s:List Nat}{z a:Int}{l:List Nd}{kk:AV}{st:St}(hf:Qu st)(hR:YM R st.h.get)(hr:Zj R (.mk o s z a l) [.str o,.str s,.int .i64 z,.int .i64 a,kk])(hz:0≤z∧z≤100000)(hkb: ∀k,l[0]? =some k→0≤k.VP∧k.VP≤100000):
  ∃v st',Ev Tryz.prog QU 244 [.agg [.str o,.str s,.int .i64 z,.int .i64 a,kk]] st v st'∧(∃o' s' z' a' l' kk',Zb o s z a l=.mk o' s' z' a' l'∧v=.agg [.str o',.str s',.int .i64 z',.int .i64 a',kk']∧Zj R (.mk o' s' z' a' l') [.str o',.str s',.int .i64 z',.int .i64 a',kk'])∧Qt st st':=by
 obtain⟨kk',ls,e,K,hb⟩:=hr.QJ
 injection e with _ e
 injection e with _ e
 injection e with _ e
 injection e with _ e
 injection e with e _
 subst e;obtain⟨v,st',h1,h2,h3⟩:=jr (o:=o) (s:=s) (z:=z) (a:=a) hf (K.toR hR) hz (fun k hk=>by rw[TC];exact hkb k hk);refine⟨v,st',h1,?_,h3⟩
 by_cases hp:o=JZ∧((l.length:Nat):Int)=1
 ·rw[if_pos hp]at h2;obtain⟨hp1,hp2⟩:=hp;obtain⟨k,hk⟩: ∃k,l[0]? =some k:=⟨_,List.getElem?_eq_getElem (by omega)⟩;have hl:=DX hk (by omega);subst hl;obtain⟨kc,hkc,hkr⟩:=K.get hk;obtain⟨ok,sk,zk,ak,lk,kkk,lsk,rfl,rfl,Kk,hbk⟩:=hkr.xO;rw[hkc]at h2
  have hj:Zb o s z a [.mk ok sk zk ak lk]=if ok=[110,117,109]then .mk [110,117,109] [] (z+zk) a []else if ok=[112,108,117,115]then .mk o s (z+zk) a lk else .mk o s z a [.mk ok sk zk ak lk]:=by
   subst hp1;rfl
  rw[hj]
  by_cases h4:ok=[110,117,109]
  ·rw[if_pos h4];refine⟨_,_,_,_,_,.nils,rfl,?_,.leaf rfl rfl yS⟩;rw[h2];simp[FB,YA,h4]
  ·rw[if_neg h4]
   by_cases h5:ok=[112,108,117,115]
   ·rw[if_pos h5];refine⟨_,_,_,_,_,kkk,rfl,?_,Kk.node hb⟩;rw[h2];simp[FB,YA,JZ,h4,h5]
   ·rw[if_neg h5];refine⟨_,_,_,_,_,kk,rfl,?_,hr⟩;rw[h2];simp[FB,YA,JZ,h4,h5]
 ·rw[if_neg hp]at h2
  have hj:Zb o s z a l=.mk o s z a l:=by
   unfold Zb
   split
   ·rename_i ho
    match l,hp with
    |[],_=>rfl
    |[k],hp=>exact absurd ⟨ho,rfl⟩ hp
    |_::_::_,_=>rfl
   ·rfl
  rw[hj];exact⟨_,_,_,_,_,kk,rfl,h2,hr⟩
theorem PJ(t:Nd)(a:Int):(t.setAt a).VP=t.VP:=by cases t;rfl
theorem Kn{C:Int}{x:Nd}(h:okB C x=true):Ut x≤C:=by obtain⟨o,s,z,a,l⟩:=x;exact(Yj h).2.2.2.2.2
theorem jb{C:Int}{ns:List (List Nat)}{ts:List Nd}(hC:0≤C)(ht: ∀t∈ts,0≤t.VP∧t.VP≤C){D:Int}(x:Nd):okB D x=true→0≤(Ur UL x ns ts).VP∧(Ur UL x ns ts).VP≤Ut x+C:=by
 refine J2 (M:=fun x=>okB D x=true→0≤(Ur UL x ns ts).VP∧(Ur UL x ns ts).VP≤Ut x+C) (fun o s z a l ih hok=>?_) x;have hg:=EZ _ hok;have hg:0≤z∧z≤Ut (.mk o s z a l):=hg;obtain⟨_,hz0,hzC,_,hkids,_⟩:=Yj hok;rw[Ur]
 split
 ·rename_i h;obtain⟨t,h2⟩:=Option.isSome_iff_exists.1 h.2;rw[h2];show 0≤(t.setAt a).VP∧(t.setAt a).VP≤Ut (.mk o s z a l)+C;rw[PJ];have:=ht t (UT h2);omega
 ·split
  ·split
   ·show 0≤z∧z≤Ut (.mk o s z a l)+C;omega
   ·show 0≤z∧z≤Ut (.mk o s z a l)+C;omega
  ·split
   ·show 0≤z∧z≤Ut (.mk o s z a l)+C;omega
   ·unfold Zb
    split
    ·rename_i hp
     split
     ·rename_i k hk;rw[US]at hk
      have hl1:l.length=1:=by rw[←List.length_map (f:=fun k=>Ur UL k ns ts),hk];rfl
      match l,hl1,ih,hkids,hk with
      |[k0],_,ih,hkids,hk=>
       have hk:[Ur UL k0 ns ts]=[k]:=hk
       injection hk with hk _
       have hb:=ih k0 (by simp) (hkids k0 (by simp));rw[hk]at hb;rw[Yk,if_pos hp];have:=EZ _ (hkids k0 (by simp))
       split
       ·show 0≤z+_∧z+_≤_;omega
       ·split
        ·show 0≤z+_∧z+_≤_;omega
        ·show 0≤z∧z≤_;omega
     ·show 0≤z∧z≤Ut (.mk o s z a l)+C;omega
    ·show 0≤z∧z≤Ut (.mk o s z a l)+C;omega
theorem Zj.setAt{R:Y4}{o s o' s':List Nat}{z a a' z':Int}{l:List Nd}{kk:AV}{t:Nd}(r:Zj R t [.str o,.str s,.int .i64 z,.int .i64 a,kk]):Zj R (t.setAt a') [.str o,.str s,.int .i64 z,.int .i64 a',kk]:=by
 obtain⟨o1,s1,z1,a1,l1⟩:=t;obtain⟨kk',ls,e,K,hb⟩:=r.QJ
 injection e with e1 e
 injection e with e2 e
 injection e with e3 e
 injection e with e4 e
 injection e with e5 _
 injection e1 with e1
 injection e2 with e2
 injection e3 with _ e3
 subst e1 e2 e3 e5;exact K.node hb

theorem Tp(C:Int)(x:Nd): ∀(R:Y4) (ns:List (List Nat)) (ts:List Nd) (kn kt:AV) (lts:List (List AV)) (B0:Nat) (st:St) (cs:List AV),Qu st→YM R st.h.get→Zj R x cs→Un st.h.get [] 1 (Ud ns) kn→Ug R ts kt lts→LI C B0 (Jz x) ts→okB C x=true→ ∃v st',Ev Tryz.prog QU 234 [.agg [kn,kt],.agg cs] st v st'∧ZZ R st st' (Ur UL x ns ts) v∧Qt st st':=by
 refine J2 (M:=fun x=>ye C x) (fun o s z a l ih=>?_) x;intro R ns ts kn kt lts B0 st cs hf hR hr hN hTs hP hok;have hr0:=hr;obtain⟨kk,ls,rfl,hK,hb⟩:=hr.QJ;have hln:=hK.ln;have hbn:=hK.Uj;obtain⟨hnl,hz0,hzC,hone,hokk,_⟩:=Yj hok;have hsz:=hP.sz;have hb1:=hP.b;have hmul:Jz (.mk o s z a l) *2≤Jz (.mk o s z a l) *(B0+1):=Nat.mul_le_mul_left _ (by omega)
 have hll:l.length+1≤Jz (.mk o s z a l):=by rw[Jz];have:=Oh l;omega
 have hB5:B0+1≤500000:=Nat.le_trans (Nat.le_mul_of_pos_left _ (Fu (.mk o s z a l))) hsz;refine QE rfl Tryz.func234 rfl Tryz.ntmps234 rfl fun T hT=>?_;have K:QT [(0,_),(1,_)] T:=(.cons (hT 0) (.cons (hT 1) .nil));have M:=Mem.start hf;refine Qn<|Qb ?_;refine QO K M rfl (Qa hN.cell (Qa hTs.cell Qp)) (by decide) fun c2 _ _ K M=>?_;refine QO K M rfl (Qa rfl (Qa rfl (Qa rfl (Qa rfl (Qa hK.cell Qp))))) (by decide) fun c3 _ _ K M=>?_;refine au 4 K M ?_;intro c4 _ _ K _ M;obtain⟨v14,st14,ev14,⟨o14,s14,z14,a14,kk14,bb14,rfl,⟨nk14,hc14⟩,hT14⟩,q14⟩:=GN M.fresh (M.YM hR) (Un.mem M hN (by simp)) hTs s;refine o1 K (Ql rfl ev14) rfl fun _ K=>?_;replace M:=M.quiet q14;refine au 4 K M ?_;intro c5 _ _ K _ M;refine Q5 (k:=0) K M rfl rfl rfl Qq rfl (Qa rfl (Qa rfl (Qa rfl (Qa rfl (Qa (Zq hc14) Qp))))) rfl fun _ M=>?_;refine o1 K (Q0 rfl) rfl fun _ K=>Qy ?_;show W _ _ _ _ _ _ _;refine Eh (J:=fun T st9=>QT [(2,.ptr c2 0 0),(3,.ptr c3 0 0),(4,.ptr c4 0 0)] T∧Mem st.h.get st.n [] st9 [(c5,0,[.str o14,.str s14,.int .i64 z14,.int .i64 a14,kk14]),(c4,0,[.str [],.str [],.int .i64 0,.int .i64 0,.nils]),(c3,0,[.str o,.str s,.int .i64 z,.int .i64 a,kk]),(c2,0,[kn,kt])]∧ ¬(o=[118,97,114]∧(QS ns ts s).isSome=true)∧ ¬(o=[105,115]∧(QS ns ts s).any (fun t=>decide (t.op=[118,97,114]))=true)∧ ¬(o=[101,120]∨o=[97,108,108])) ?_ (fun T st9 hJ=>?_)
 ·refine Qf 2 K M ?_;intro _ K;refine o1 K (QC (b:=[118,97,114]) rfl rfl) rfl fun _ K=>?_;refine oB K (Qd rfl) rfl fun b21 _ e21 K=>?_;cases b21
  ·replace e21:=of_decide_eq_false e21;refine Qf 3 K M ?_;intro _ K;refine Qm (t:=false) (K.QF rfl) (fun h=>by cases h) (fun _=>?_);refine Qf 2 K M ?_;intro _ K;refine o1 K (QC (b:=[105,115]) rfl rfl) rfl fun _ K=>?_;refine oB K (Qd rfl) rfl fun b34 _ e34 K=>?_;cases b34
   ·replace e34:=of_decide_eq_false e34;refine Qf 8 K M ?_;intro _ K;refine Qm (t:=false) (K.QF rfl) (fun h=>by cases h) (fun _=>?_);refine Qf 1 K M ?_;intro _ K;obtain⟨v48,st48,ev48,rfl,q48⟩:=Vx M.fresh (hr0.El (M.YM hR));refine o1 K (Ql rfl ev48) rfl fun _ K=>?_;replace M:=M.quiet q48;refine Qf 1 K M ?_;intro _ K;refine Qm (K.QF rfl) (fun h46=>?_) (fun h46=>?_)
    ·have hb46:=h46;refine Qf 2 K M ?_;intro _ K;obtain⟨v51,st51,ev51,⟨on51,sn51,zn51,an51,ln51,kkn51,A51,en51,rfl,hS51,hN51⟩,q51⟩:=XT M.fresh (M.YM hR) (Un.mem M hN (by simp)) hTs hr0 hP hok (by simp_all) ih;refine o1 K (Ql rfl ev51) rfl fun _ K=>?_;replace M:=M.Yz q51 hS51;replace M:=Mem.cast (M':=((c5,0,[.str o14,.str s14,.int .i64 z14,.int .i64 a14,kk14])::(c4,0,[.str [],.str [],.int .i64 0,.int .i64 0,.nils])::(c3,0,[.str o,.str s,.int .i64 z,.int .i64 a,kk])::(c2,0,[kn,kt])::(A51++[]))) M (by first|(simp only[List.append_assoc,List.cons_append,List.nil_append,List.append_nil,List.set_cons_zero,List.set_cons_succ];done)|(simp only[List.append_assoc,List.cons_append,List.nil_append,List.append_nil,List.set_cons_zero,List.set_cons_succ];rfl));refine Q5 (k:=1) K M rfl rfl rfl Qq rfl (Qa rfl (Qa rfl (Qa rfl (Qa rfl (Qa hN51.YF Qp))))) rfl fun _ M=>?_;refine Qy ?_;show W _ _ _ _ _ _ _;refine Qe ⟨.inr rfl,_,Iy 1 K M rfl rfl rfl,?_⟩;exact⟨⟨_,_,_,_,_,_,A51,en51,rfl,M.Ge (.cons _ (.cons _ (.cons _ (.cons _ (List.sublist_append_left A51 []))))),hN51⟩,M.qt⟩
    have hb46:=h46;refine Q8 ?_
    have hnv: ¬(o=[118,97,114]∧(QS ns ts s).isSome=true):=by
     rintro⟨h1,h2⟩
     rcases hT14 with⟨h3,_⟩|⟨_,h3⟩
     ·simp_all
     ·rw[h3]at h2;cases h2
    have hni: ¬(o=[105,115]∧(QS ns ts s).any (fun t=>decide (t.op=[118,97,114]))=true):=by
     rintro⟨h1,h2⟩
     rcases hT14 with⟨h3,l3,h4,_⟩|⟨_,h3⟩
     ·rw[h4]at h2;have h2:decide (o14=[118,97,114])=true:=h2;simp_all
     ·rw[h3]at h2;cases h2
    have hnb: ¬(o=[101,120]∨o=[97,108,108]):=by intro h;simp_all
    exact⟨(.cons (K _ _ rfl) (.cons (K _ _ rfl) (.cons (K _ _ rfl) .nil))),M.less (.refl _),hnv,hni,hnb⟩
   replace e34:=of_decide_eq_true e34;refine Qf 2 K M ?_;intro _ K;refine oB K (Qd rfl) rfl fun b37 _ e37 K=>?_;cases b37
   ·refine Qf 5 K M ?_;intro _ K;refine Qm (t:=false) (K.QF rfl) (fun h=>by cases h) (fun _=>?_);refine Qf 1 K M ?_;intro _ K;obtain⟨v48,st48,ev48,rfl,q48⟩:=Vx M.fresh (hr0.El (M.YM hR));refine o1 K (Ql rfl ev48) rfl fun _ K=>?_;replace M:=M.quiet q48;refine Qf 1 K M ?_;intro _ K;refine Qm (K.QF rfl) (fun h46=>?_) (fun h46=>?_)
    ·have hb46:=h46;refine Qf 2 K M ?_;intro _ K;obtain⟨v51,st51,ev51,⟨on51,sn51,zn51,an51,ln51,kkn51,A51,en51,rfl,hS51,hN51⟩,q51⟩:=XT M.fresh (M.YM hR) (Un.mem M hN (by simp)) hTs hr0 hP hok (by simp_all) ih;refine o1 K (Ql rfl ev51) rfl fun _ K=>?_;replace M:=M.Yz q51 hS51;replace M:=Mem.cast (M':=((c5,0,[.str o14,.str s14,.int .i64 z14,.int .i64 a14,kk14])::(c4,0,[.str [],.str [],.int .i64 0,.int .i64 0,.nils])::(c3,0,[.str o,.str s,.int .i64 z,.int .i64 a,kk])::(c2,0,[kn,kt])::(A51++[]))) M (by first|(simp only[List.append_assoc,List.cons_append,List.nil_append,List.append_nil,List.set_cons_zero,List.set_cons_succ];done)|(simp only[List.append_assoc,List.cons_append,List.nil_append,List.append_nil,List.set_cons_zero,List.set_cons_succ];rfl));refine Q5 (k:=1) K M rfl rfl rfl Qq rfl (Qa rfl (Qa rfl (Qa rfl (Qa rfl (Qa hN51.YF Qp))))) rfl fun _ M=>?_;refine Qy ?_;show W _ _ _ _ _ _ _;refine Qe ⟨.inr rfl,_,Iy 1 K M rfl rfl rfl,?_⟩;exact⟨⟨_,_,_,_,_,_,A51,en51,rfl,M.Ge (.cons _ (.cons _ (.cons _ (.cons _ (List.sublist_append_left A51 []))))),hN51⟩,M.qt⟩
    have hb46:=h46;refine Q8 ?_
    have hnv: ¬(o=[118,97,114]∧(QS ns ts s).isSome=true):=by
     rintro⟨h1,h2⟩
     rcases hT14 with⟨h3,_⟩|⟨_,h3⟩
     ·simp_all
     ·rw[h3]at h2;cases h2
    have hni: ¬(o=[105,115]∧(QS ns ts s).any (fun t=>decide (t.op=[118,97,114]))=true):=by
     rintro⟨h1,h2⟩
     rcases hT14 with⟨h3,l3,h4,_⟩|⟨_,h3⟩
     ·rw[h4]at h2;have h2:decide (o14=[118,97,114])=true:=h2;simp_all
     ·rw[h3]at h2;cases h2
    have hnb: ¬(o=[101,120]∨o=[97,108,108]):=by intro h;simp_all
    exact⟨(.cons (K _ _ rfl) (.cons (K _ _ rfl) (.cons (K _ _ rfl) .nil))),M.less (.refl _),hnv,hni,hnb⟩
   refine Qf 2 K M ?_;intro _ K;refine og K rfl rfl (QC (b:=[118,97,114]) rfl rfl) rfl fun _ K=>?_;refine Qf 2 K M ?_;intro _ K;refine Qm (K.QF rfl) (fun h30=>?_) (fun h30=>?_)
   ·have hb30:=h30;replace h30:=of_decide_eq_true h30;refine au 5 K M ?_;intro _ _ K _ M;refine Q5 (k:=1) K M rfl rfl rfl Qq rfl (Qa rfl (Qa rfl (Qa rfl (Qa rfl (Qa hK.cell Qp))))) rfl fun _ M=>?_;refine Qy ?_;show W _ _ _ _ _ _ _;refine Qe ⟨.inr rfl,_,Iy 1 K M rfl rfl rfl,?_⟩;refine⟨?_,M.qt⟩
    obtain⟨l14,hL14,hG14⟩: ∃l,QS ns ts s=some (.mk o14 s14 z14 a14 l)∧Zj R (.mk o14 s14 z14 a14 l) [.str o14,.str s14,.int .i64 z14,.int .i64 a14,kk14]:=by
     rcases hT14 with⟨_,l,h1,h2⟩|⟨h,_⟩
     ·exact⟨l,h1,h2⟩
     ·exfalso;simp_all
    have hoi:o=[105,115]:=by assumption
    have hb14:=hG14.QJ;obtain⟨_,_,_,_,_,hb14⟩:=hb14
    have hno: ¬(o=[118,97,114]∧(QS ns ts s).isSome=true):=by rw[hoi];simp
    rw[Ur,if_neg hno,if_pos ⟨hoi,by rw[hL14];show decide (o14=_)=true;simp_all⟩,hL14];exact ZZ.same M (hr0.again hb14)
   have hb30:=h30;replace h30:=of_decide_eq_false h30;refine Qf 1 K M ?_;intro _ K;obtain⟨v48,st48,ev48,rfl,q48⟩:=Vx M.fresh (hr0.El (M.YM hR));refine o1 K (Ql rfl ev48) rfl fun _ K=>?_;replace M:=M.quiet q48;refine Qf 1 K M ?_;intro _ K;refine Qm (K.QF rfl) (fun h46=>?_) (fun h46=>?_)
   ·have hb46:=h46;refine Qf 2 K M ?_;intro _ K;obtain⟨v51,st51,ev51,⟨on51,sn51,zn51,an51,ln51,kkn51,A51,en51,rfl,hS51,hN51⟩,q51⟩:=XT M.fresh (M.YM hR) (Un.mem M hN (by simp)) hTs hr0 hP hok (by simp_all) ih;refine o1 K (Ql rfl ev51) rfl fun _ K=>?_;replace M:=M.Yz q51 hS51;replace M:=Mem.cast (M':=((c5,0,[.str o14,.str s14,.int .i64 z14,.int .i64 a14,kk14])::(c4,0,[.str [],.str [],.int .i64 0,.int .i64 0,.nils])::(c3,0,[.str o,.str s,.int .i64 z,.int .i64 a,kk])::(c2,0,[kn,kt])::(A51++[]))) M (by first|(simp only[List.append_assoc,List.cons_append,List.nil_append,List.append_nil,List.set_cons_zero,List.set_cons_succ];done)|(simp only[List.append_assoc,List.cons_append,List.nil_append,List.append_nil,List.set_cons_zero,List.set_cons_succ];rfl));refine Q5 (k:=1) K M rfl rfl rfl Qq rfl (Qa rfl (Qa rfl (Qa rfl (Qa rfl (Qa hN51.YF Qp))))) rfl fun _ M=>?_;refine Qy ?_;show W _ _ _ _ _ _ _;refine Qe ⟨.inr rfl,_,Iy 1 K M rfl rfl rfl,?_⟩;exact⟨⟨_,_,_,_,_,_,A51,en51,rfl,M.Ge (.cons _ (.cons _ (.cons _ (.cons _ (List.sublist_append_left A51 []))))),hN51⟩,M.qt⟩
   have hb46:=h46;refine Q8 ?_
   have hnv: ¬(o=[118,97,114]∧(QS ns ts s).isSome=true):=by
    rintro⟨h1,h2⟩
    rcases hT14 with⟨h3,_⟩|⟨_,h3⟩
    ·simp_all
    ·rw[h3]at h2;cases h2
   have hni: ¬(o=[105,115]∧(QS ns ts s).any (fun t=>decide (t.op=[118,97,114]))=true):=by
    rintro⟨h1,h2⟩
    rcases hT14 with⟨h3,l3,h4,_⟩|⟨_,h3⟩
    ·rw[h4]at h2;have h2:decide (o14=[118,97,114])=true:=h2;simp_all
    ·rw[h3]at h2;cases h2
   have hnb: ¬(o=[101,120]∨o=[97,108,108]):=by intro h;simp_all
   exact⟨(.cons (K _ _ rfl) (.cons (K _ _ rfl) (.cons (K _ _ rfl) .nil))),M.less (.refl _),hnv,hni,hnb⟩
  replace e21:=of_decide_eq_true e21;refine Qf 3 K M ?_;intro _ K;refine Qm (K.QF rfl) (fun h17=>?_) (fun h17=>?_)
  ·have hb17:=h17;refine Qf 1 K M ?_;intro _ K
   obtain⟨l14,hL14,hG14⟩: ∃l,QS ns ts s=some (.mk o14 s14 z14 a14 l)∧Zj R (.mk o14 s14 z14 a14 l) [.str o14,.str s14,.int .i64 z14,.int .i64 a14,kk14]:=by
    rcases hT14 with⟨_,l,h1,h2⟩|⟨h,_⟩
    ·exact⟨l,h1,h2⟩
    ·exfalso;simp_all
   obtain⟨v25,st25,ev25,⟨on25,sn25,zn25,an25,ln25,kkn25,A25,en25,rfl,hS25,hN25⟩,q25⟩:=RJ R _ _ _ M.fresh (M.YM hR) hG14 (by have:=(hP.t _ (UT hL14)).1;omega);refine o1 K (Ql rfl ev25) rfl fun _ K=>?_;replace M:=M.Yz q25 hS25;replace M:=Mem.cast (M':=((c5,0,[.str o14,.str s14,.int .i64 z14,.int .i64 a14,kk14])::(c4,0,[.str [],.str [],.int .i64 0,.int .i64 0,.nils])::(c3,0,[.str o,.str s,.int .i64 z,.int .i64 a,kk])::(c2,0,[kn,kt])::(A25++[]))) M (by first|(simp only[List.append_assoc,List.cons_append,List.nil_append,List.append_nil,List.set_cons_zero,List.set_cons_succ];done)|(simp only[List.append_assoc,List.cons_append,List.nil_append,List.append_nil,List.set_cons_zero,List.set_cons_succ];rfl));refine Q5 (k:=0) K M rfl rfl rfl Qq rfl (Qa rfl (Qa rfl (Qa rfl (Qa rfl (Qa hN25.YF Qp))))) rfl fun _ M=>?_;refine au 5 K M ?_;intro _ _ K _ M;refine Q5 (k:=1) K M rfl rfl rfl Qq rfl (Qa rfl (Qa rfl (Qa rfl (Qa rfl (Qa hN25.YF Qp))))) rfl fun _ M=>?_;refine Qy ?_;show W _ _ _ _ _ _ _;refine Qe ⟨.inr rfl,_,Iy 1 K M rfl rfl rfl,?_⟩;refine⟨?_,M.qt⟩
   have hov:o=[118,97,114]:=by assumption
   rw[Ur,if_pos ⟨hov,by rw[hL14];rfl⟩,hL14];show ZZ R st _ (Nd.setAt a (.mk o14 s14 z14 a14 l14)) _;rw[en25]at hN25 ⊢;exact⟨on25,sn25,zn25,a,ln25,kkn25,A25,rfl,rfl,M.Ge (.cons _ (.cons _ (.cons _ (.cons _ (List.sublist_append_left A25 []))))),hN25.setAt (o':=[]) (s':=[]) (z':=0) (l:=[])⟩
  have hb17:=h17;refine Qf 2 K M ?_;intro _ K;refine o1 K (QC (b:=[105,115]) rfl rfl) rfl fun _ K=>?_;refine oB K (Qd rfl) rfl fun b34 _ e34 K=>?_;cases b34
  ·replace e34:=of_decide_eq_false e34;refine Qf 8 K M ?_;intro _ K;refine Qm (t:=false) (K.QF rfl) (fun h=>by cases h) (fun _=>?_);refine Qf 1 K M ?_;intro _ K;obtain⟨v48,st48,ev48,rfl,q48⟩:=Vx M.fresh (hr0.El (M.YM hR));refine o1 K (Ql rfl ev48) rfl fun _ K=>?_;replace M:=M.quiet q48;refine Qf 1 K M ?_;intro _ K;refine Qm (K.QF rfl) (fun h46=>?_) (fun h46=>?_)
   ·have hb46:=h46;refine Qf 2 K M ?_;intro _ K;obtain⟨v51,st51,ev51,⟨on51,sn51,zn51,an51,ln51,kkn51,A51,en51,rfl,hS51,hN51⟩,q51⟩:=XT M.fresh (M.YM hR) (Un.mem M hN (by simp)) hTs hr0 hP hok (by simp_all) ih;refine o1 K (Ql rfl ev51) rfl fun _ K=>?_;replace M:=M.Yz q51 hS51;replace M:=Mem.cast (M':=((c5,0,[.str o14,.str s14,.int .i64 z14,.int .i64 a14,kk14])::(c4,0,[.str [],.str [],.int .i64 0,.int .i64 0,.nils])::(c3,0,[.str o,.str s,.int .i64 z,.int .i64 a,kk])::(c2,0,[kn,kt])::(A51++[]))) M (by first|(simp only[List.append_assoc,List.cons_append,List.nil_append,List.append_nil,List.set_cons_zero,List.set_cons_succ];done)|(simp only[List.append_assoc,List.cons_append,List.nil_append,List.append_nil,List.set_cons_zero,List.set_cons_succ];rfl));refine Q5 (k:=1) K M rfl rfl rfl Qq rfl (Qa rfl (Qa rfl (Qa rfl (Qa rfl (Qa hN51.YF Qp))))) rfl fun _ M=>?_;refine Qy ?_;show W _ _ _ _ _ _ _;refine Qe ⟨.inr rfl,_,Iy 1 K M rfl rfl rfl,?_⟩;exact⟨⟨_,_,_,_,_,_,A51,en51,rfl,M.Ge (.cons _ (.cons _ (.cons _ (.cons _ (List.sublist_append_left A51 []))))),hN51⟩,M.qt⟩
   have hb46:=h46;refine Q8 ?_
   have hnv: ¬(o=[118,97,114]∧(QS ns ts s).isSome=true):=by
    rintro⟨h1,h2⟩
    rcases hT14 with⟨h3,_⟩|⟨_,h3⟩
    ·simp_all
    ·rw[h3]at h2;cases h2
   have hni: ¬(o=[105,115]∧(QS ns ts s).any (fun t=>decide (t.op=[118,97,114]))=true):=by
    rintro⟨h1,h2⟩
    rcases hT14 with⟨h3,l3,h4,_⟩|⟨_,h3⟩
    ·rw[h4]at h2;have h2:decide (o14=[118,97,114])=true:=h2;simp_all
    ·rw[h3]at h2;cases h2
   have hnb: ¬(o=[101,120]∨o=[97,108,108]):=by intro h;simp_all
   exact⟨(.cons (K _ _ rfl) (.cons (K _ _ rfl) (.cons (K _ _ rfl) .nil))),M.less (.refl _),hnv,hni,hnb⟩
  replace e34:=of_decide_eq_true e34;refine Qf 2 K M ?_;intro _ K;refine oB K (Qd rfl) rfl fun b37 _ e37 K=>?_;cases b37
  ·refine Qf 5 K M ?_;intro _ K;refine Qm (t:=false) (K.QF rfl) (fun h=>by cases h) (fun _=>?_);refine Qf 1 K M ?_;intro _ K;obtain⟨v48,st48,ev48,rfl,q48⟩:=Vx M.fresh (hr0.El (M.YM hR));refine o1 K (Ql rfl ev48) rfl fun _ K=>?_;replace M:=M.quiet q48;refine Qf 1 K M ?_;intro _ K;refine Qm (K.QF rfl) (fun h46=>?_) (fun h46=>?_)
   ·have hb46:=h46;refine Qf 2 K M ?_;intro _ K;obtain⟨v51,st51,ev51,⟨on51,sn51,zn51,an51,ln51,kkn51,A51,en51,rfl,hS51,hN51⟩,q51⟩:=XT M.fresh (M.YM hR) (Un.mem M hN (by simp)) hTs hr0 hP hok (by simp_all) ih;refine o1 K (Ql rfl ev51) rfl fun _ K=>?_;replace M:=M.Yz q51 hS51;replace M:=Mem.cast (M':=((c5,0,[.str o14,.str s14,.int .i64 z14,.int .i64 a14,kk14])::(c4,0,[.str [],.str [],.int .i64 0,.int .i64 0,.nils])::(c3,0,[.str o,.str s,.int .i64 z,.int .i64 a,kk])::(c2,0,[kn,kt])::(A51++[]))) M (by first|(simp only[List.append_assoc,List.cons_append,List.nil_append,List.append_nil,List.set_cons_zero,List.set_cons_succ];done)|(simp only[List.append_assoc,List.cons_append,List.nil_append,List.append_nil,List.set_cons_zero,List.set_cons_succ];rfl));refine Q5 (k:=1) K M rfl rfl rfl Qq rfl (Qa rfl (Qa rfl (Qa rfl (Qa rfl (Qa hN51.YF Qp))))) rfl fun _ M=>?_;refine Qy ?_;show W _ _ _ _ _ _ _;refine Qe ⟨.inr rfl,_,Iy 1 K M rfl rfl rfl,?_⟩;exact⟨⟨_,_,_,_,_,_,A51,en51,rfl,M.Ge (.cons _ (.cons _ (.cons _ (.cons _ (List.sublist_append_left A51 []))))),hN51⟩,M.qt⟩
   have hb46:=h46;refine Q8 ?_
   have hnv: ¬(o=[118,97,114]∧(QS ns ts s).isSome=true):=by
    rintro⟨h1,h2⟩
    rcases hT14 with⟨h3,_⟩|⟨_,h3⟩
    ·simp_all
    ·rw[h3]at h2;cases h2
   have hni: ¬(o=[105,115]∧(QS ns ts s).any (fun t=>decide (t.op=[118,97,114]))=true):=by
    rintro⟨h1,h2⟩
    rcases hT14 with⟨h3,l3,h4,_⟩|⟨_,h3⟩
    ·rw[h4]at h2;have h2:decide (o14=[118,97,114])=true:=h2;simp_all
    ·rw[h3]at h2;cases h2
   have hnb: ¬(o=[101,120]∨o=[97,108,108]):=by intro h;simp_all
   exact⟨(.cons (K _ _ rfl) (.cons (K _ _ rfl) (.cons (K _ _ rfl) .nil))),M.less (.refl _),hnv,hni,hnb⟩
  refine Qf 2 K M ?_;intro _ K;refine og K rfl rfl (QC (b:=[118,97,114]) rfl rfl) rfl fun _ K=>?_;refine Qf 2 K M ?_;intro _ K;refine Qm (K.QF rfl) (fun h30=>?_) (fun h30=>?_)
  ·have hb30:=h30;replace h30:=of_decide_eq_true h30;refine au 5 K M ?_;intro _ _ K _ M;refine Q5 (k:=1) K M rfl rfl rfl Qq rfl (Qa rfl (Qa rfl (Qa rfl (Qa rfl (Qa hK.cell Qp))))) rfl fun _ M=>?_;refine Qy ?_;show W _ _ _ _ _ _ _;refine Qe ⟨.inr rfl,_,Iy 1 K M rfl rfl rfl,?_⟩;refine⟨?_,M.qt⟩
   obtain⟨l14,hL14,hG14⟩: ∃l,QS ns ts s=some (.mk o14 s14 z14 a14 l)∧Zj R (.mk o14 s14 z14 a14 l) [.str o14,.str s14,.int .i64 z14,.int .i64 a14,kk14]:=by
    rcases hT14 with⟨_,l,h1,h2⟩|⟨h,_⟩
    ·exact⟨l,h1,h2⟩
    ·exfalso;simp_all
   have hoi:o=[105,115]:=by assumption
   have hb14:=hG14.QJ;obtain⟨_,_,_,_,_,hb14⟩:=hb14
   have hno: ¬(o=[118,97,114]∧(QS ns ts s).isSome=true):=by rw[hoi];simp
   rw[Ur,if_neg hno,if_pos ⟨hoi,by rw[hL14];show decide (o14=_)=true;simp_all⟩,hL14];exact ZZ.same M (hr0.again hb14)
  have hb30:=h30;replace h30:=of_decide_eq_false h30;refine Qf 1 K M ?_;intro _ K;obtain⟨v48,st48,ev48,rfl,q48⟩:=Vx M.fresh (hr0.El (M.YM hR));refine o1 K (Ql rfl ev48) rfl fun _ K=>?_;replace M:=M.quiet q48;refine Qf 1 K M ?_;intro _ K;refine Qm (K.QF rfl) (fun h46=>?_) (fun h46=>?_)
  ·have hb46:=h46;refine Qf 2 K M ?_;intro _ K;obtain⟨v51,st51,ev51,⟨on51,sn51,zn51,an51,ln51,kkn51,A51,en51,rfl,hS51,hN51⟩,q51⟩:=XT M.fresh (M.YM hR) (Un.mem M hN (by simp)) hTs hr0 hP hok (by simp_all) ih;refine o1 K (Ql rfl ev51) rfl fun _ K=>?_;replace M:=M.Yz q51 hS51;replace M:=Mem.cast (M':=((c5,0,[.str o14,.str s14,.int .i64 z14,.int .i64 a14,kk14])::(c4,0,[.str [],.str [],.int .i64 0,.int .i64 0,.nils])::(c3,0,[.str o,.str s,.int .i64 z,.int .i64 a,kk])::(c2,0,[kn,kt])::(A51++[]))) M (by first|(simp only[List.append_assoc,List.cons_append,List.nil_append,List.append_nil,List.set_cons_zero,List.set_cons_succ];done)|(simp only[List.append_assoc,List.cons_append,List.nil_append,List.append_nil,List.set_cons_zero,List.set_cons_succ];rfl));refine Q5 (k:=1) K M rfl rfl rfl Qq rfl (Qa rfl (Qa rfl (Qa rfl (Qa rfl (Qa hN51.YF Qp))))) rfl fun _ M=>?_;refine Qy ?_;show W _ _ _ _ _ _ _;refine Qe ⟨.inr rfl,_,Iy 1 K M rfl rfl rfl,?_⟩;exact⟨⟨_,_,_,_,_,_,A51,en51,rfl,M.Ge (.cons _ (.cons _ (.cons _ (.cons _ (List.sublist_append_left A51 []))))),hN51⟩,M.qt⟩
  have hb46:=h46;refine Q8 ?_
  have hnv: ¬(o=[118,97,114]∧(QS ns ts s).isSome=true):=by
   rintro⟨h1,h2⟩
   rcases hT14 with⟨h3,_⟩|⟨_,h3⟩
   ·simp_all
   ·rw[h3]at h2;cases h2
  have hni: ¬(o=[105,115]∧(QS ns ts s).any (fun t=>decide (t.op=[118,97,114]))=true):=by
   rintro⟨h1,h2⟩
   rcases hT14 with⟨h3,l3,h4,_⟩|⟨_,h3⟩
   ·rw[h4]at h2;have h2:decide (o14=[118,97,114])=true:=h2;simp_all
   ·rw[h3]at h2;cases h2
  have hnb: ¬(o=[101,120]∨o=[97,108,108]):=by intro h;simp_all
  exact⟨(.cons (K _ _ rfl) (.cons (K _ _ rfl) (.cons (K _ _ rfl) .nil))),M.less (.refl _),hnv,hni,hnb⟩
 obtain⟨K,M,hnv,hni,hnb⟩:=hJ;refine Qf 3 K M ?_;intro _ K;refine o1 K (QL Q7 rfl rfl hK.len) rfl fun _ K=>?_;refine Qf 1 K M ?_;intro _ K;refine JN (fun mm1 T st9=> ∃(i:Nat) (ks:AV) (A:Uf) (B:Uf) (lsn:List (List AV)),mm1=l.length-i∧QT [(2,.ptr c2 0 0),(3,.ptr c3 0 0),(4,.ptr c4 0 0),(7,ks),(53,kk),(54,.int .i64 (((l.length:Nat):Int))),(55,.int .i64 (((i:Nat):Int)))] T∧Mem st.h.get st.n [] st9 ((c5,0,[.str o14,.str s14,.int .i64 z14,.int .i64 a14,kk14])::(c4,0,[.str [],.str [],.int .i64 0,.int .i64 0,.nils])::(c3,0,[.str o,.str s,.int .i64 z,.int .i64 a,kk])::(c2,0,[kn,kt])::(A++(B++[])))∧Acc st.n 5 A ks lsn∧i≤l.length∧lsn.length=i∧X5 (Yx R B) (fun k=>Ur UL k ns ts) l lsn) (fun mm1 T st9 hI=>?_) _ _ _ ⟨0,.nils,[],[],[],rfl,(.cons (K _ _ rfl) (.cons (K _ _ rfl) (.cons (K _ _ rfl) (.cons (K _ _ rfl) (.cons (K _ _ rfl) (.cons (K _ _ rfl) (.cons (K _ _ rfl) .nil))))))),M.less (.refl _),.none,(Nat.zero_le _),rfl,.nil⟩;obtain⟨i,ks,A,B,lsn,rfl,K,M,hA,hi,hlen,hmap⟩:=hI;refine Qf 1 K M ?_;intro _ K;refine Xo K rfl (fun h56=>?_) fun h56=>?_
 ·refine Q8 ?_;show W _ _ _ _ _ _ _;refine Qn<|Uq<|Qn<|Qb ?_;obtain⟨⟨o57,s57,z57,a57,l57⟩,hi57⟩: ∃k,l[i]? =some k:=⟨_,List.getElem?_eq_getElem (by omega)⟩;have hm57:=J6 hi57;obtain⟨_,hc57,hn57⟩:=hK.get hi57;have hp57:=hn57;obtain⟨kk57,ls57,rfl,hK57,hb57⟩:=hp57.QJ;obtain⟨x57,m57,f57,q57,_,la57,lo57,lp57⟩:=(hK.r (M.YM hR)).load (i:=i) (cs:=_) hc57;refine o1 K (Qj (j:=i) QH (congrArg some q57) rfl (by rw[hK.ln];omega)) rfl fun _ K=>o1 K (Qr rfl (la57 _ Qs)) rfl fun _ K=>?_;refine Ul K M Ja (by decide) fun c9 _ _ K M=>?_;refine Q5 (k:=0) K M rfl rfl rfl Qq rfl (Qa rfl (Qa rfl (Qa rfl (Qa rfl (Qa hK57.cell Qp))))) rfl fun _ M=>?_;refine Qf 3 K M ?_;intro _ K;obtain⟨v62,st62,ev62,⟨on62,sn62,zn62,an62,ln62,kkn62,A62,en62,rfl,hS62,hN62⟩,q62⟩:=ih _ hm57 R ns ts kn kt lts B0 _ _ M.fresh (M.YM hR) hn57 (Un.mem M hN (by simp)) hTs (hP.less (Nat.le_trans (Yb hm57) (Nat.le_of_lt (yq o s z a l))) (fun t ht=>.inl ht)) (hokk _ hm57);refine o1 K (Ql rfl ev62) rfl fun _ K=>?_;replace M:=M.Yz q62 hS62;replace M:=Mem.cast (M':=((c9,0,[.str o57,.str s57,.int .i64 z57,.int .i64 a57,kk57])::(c5,0,[.str o14,.str s14,.int .i64 z14,.int .i64 a14,kk14])::(c4,0,[.str [],.str [],.int .i64 0,.int .i64 0,.nils])::(c3,0,[.str o,.str s,.int .i64 z,.int .i64 a,kk])::(c2,0,[kn,kt])::(A++((B++A62)++[])))) M (by first|(simp only[List.append_assoc,List.cons_append,List.nil_append,List.append_nil,List.set_cons_zero,List.set_cons_succ];done)|(simp only[List.append_assoc,List.cons_append,List.nil_append,List.append_nil,List.set_cons_zero,List.set_cons_succ];rfl));refine Fo K M JC Ja rfl rfl (Qa rfl (Qa rfl (Qa rfl (Qa rfl (Qa hN62.YF Qp))))) rfl rfl fun c63 _ _ K M=>?_;refine I6 (k2:=0) (L:=[(c63,0,[.str on62,.str sn62,.int .i64 zn62,.int .i64 an62,kkn62]),(c9,0,[.str o57,.str s57,.int .i64 z57,.int .i64 a57,kk57]),(c5,0,[.str o14,.str s14,.int .i64 z14,.int .i64 a14,kk14]),(c4,0,[.str [],.str [],.int .i64 0,.int .i64 0,.nils]),(c3,0,[.str o,.str s,.int .i64 z,.int .i64 a,kk]),(c2,0,[kn,kt])]) (A:=A) (B:=((B++A62)++[])) K M hA JC rfl rfl rfl rfl (by omega) rfl fun ks64 A64 _ _ K hA64 M=>?_;refine Qf 1 K M ?_;intro _ K;refine o1 K (Jf rfl rfl (by omega) (by omega)) rfl fun _ K=>o1 K (Qd rfl) rfl fun _ K=>Qy ?_;exact⟨_,(by omega),i+1,ks64,A64,B++A62,(lsn++[[.str on62,.str sn62,.int .i64 zn62,.int .i64 an62,kkn62]]),rfl,(.cons (K _ _ rfl) (.cons (K _ _ rfl) (.cons (K _ _ rfl) (.cons (K _ _ rfl) (.cons (K _ _ rfl) (.cons (K _ _ rfl) (.cons (K _ _ rfl) .nil))))))),M.less (.cons _ (.cons _ (.refl _))),hA64,(by omega),(by rw[List.length_append];simp;omega),(hmap.snoc hlen hi57 hN62)⟩
 refine J7 ?_;show W _ _ _ _ _ _ _;refine Qf 2 K M ?_;intro _ K;refine EV (k:=2) K M rfl rfl rfl UI (hA.cell) rfl fun _ M=>?_;refine Qf 1 K M ?_;intro _ K
 have hBm: ∀x∈A++B,x∈((c5,0,[.str o14,.str s14,.int .i64 z14,.int .i64 a14,kk14])::(c4,0,[.str [],.str [],.int .i64 0,.int .i64 0,.nils])::(c3,0,[.str o,.str s,.int .i64 z,.int .i64 a,ks])::(c2,0,[kn,kt])::(A++(B++[]))):=by intro x hx;rcases List.mem_append.1 hx with h|h<;>simp[h]
 have hin:=M.Mr hR hBm;have hKm:Ug (Yx R (A++B)) (l.map (fun k=>Ur UL k ns ts)) ks lsn:=(hmap.kids (by omega) hA).mono (fun c m x h=>by rcases h with(h|h)|h;exact .inl h;exact .inr (List.mem_append_right _ h);exact .inr (List.mem_append_left _ h));have hrj:=hKm.node (op:=o) (name:=s) (n:=z) (at_:=a) hb;have hC0:=hP.c0;have hC1:=hP.c1;obtain⟨v69,st69,ev69,⟨oj,sj,zj,aj,lj,kkj,hjn,rfl,hJ⟩,q69⟩:=Mg M.fresh hin hrj (by omega) (fun k hk=>by rw[List.getElem?_map]at hk;obtain⟨k0,hk0,rfl⟩:=Option.map_eq_some_iff.1 hk;have:=jb (ns:=ns) hP.c0 (fun t ht=>(hP.t t ht).2) k0 (hokk k0 (List.mem_of_getElem? hk0));have:=(Kn (hokk k0 (List.mem_of_getElem? hk0)));omega);refine o1 K (Ql rfl ev69) rfl fun _ K=>?_;replace M:=M.quiet q69;refine Q5 (k:=1) K M rfl rfl rfl Qq rfl (Qa rfl (Qa rfl (Qa rfl (Qa rfl (Qa hJ.cell Qp))))) rfl fun _ M=>?_;refine Qy ?_;show W _ _ _ _ _ _ _;refine Qe ⟨.inr rfl,_,Iy 1 K M rfl rfl rfl,?_⟩;refine⟨?_,M.qt⟩;rw[Ur,if_neg hnv,if_neg hni,if_neg hnb,US,hjn];exact⟨oj,sj,zj,aj,lj,kkj,A++B,rfl,rfl,M.Ge (.cons _ (.cons _ (.cons _ (.cons _ (List.Sublist.trans (List.sublist_append_left (A++B) []) (by rw[List.append_assoc];exact .refl _)))))),hJ⟩

theorem jw{R:Y4}{ns:List (List Nat)}{ts:List Nd}{kn kt:AV}{lts:List (List AV)}{st:St}(hf:Qu st)(hR:YM R st.h.get)(hN:Un st.h.get [] 1 (Ud ns) kn)(hTs:Ug R ts kt lts){o s:List Nat}{z a:Int}{l:List Nd}{cs:List AV}(hr:Zj R (.mk o s z a l) cs){C:Int}{B0:Nat}(hP:LI C B0 (Jz (.mk o s z a l)) ts)(hok:okB C (.mk o s z a l)=true): ∃v st',Ev Tryz.prog QU 198 [.agg cs,kn,kt] st v st'∧ZZ R st st' (Ur UL (.mk o s z a l) ns ts) v∧Qt st st':=by
 have hr0:=hr;obtain⟨kk,ls,rfl,hK,hb⟩:=hr.QJ;have hln:=hK.ln;have hbn:=hK.Uj;refine QE rfl Tryz.func198 rfl Tryz.ntmps198 rfl fun T hT=>?_;have K:QT [(0,_),(1,_),(2,_)] T:=(.cons (hT 0) (.cons (hT 1) (.cons (hT 2) .nil)));have M:=Mem.start hf;refine Qn<|Qb ?_;refine QO K M rfl (Qa rfl (Qa rfl (Qa rfl (Qa rfl (Qa hK.cell Qp))))) (by decide) fun c3 _ _ K M=>?_;refine au 3 K M ?_;intro c6 _ _ K _ M;refine o1 K (UF Gy rfl ((NB rfl hN.cell rfl).trans ((NB rfl hTs.cell rfl).trans rfl))) rfl fun _ K=>?_;refine Qf 1 K M ?_;intro _ K;obtain⟨v11,st11,ev11,⟨on11,sn11,zn11,an11,ln11,kkn11,A11,en11,rfl,hS11,hN11⟩,q11⟩:=Tp C _ R ns ts kn kt lts B0 _ _ M.fresh (M.YM hR) hr0 (Un.mem M hN (by simp)) hTs hP hok;refine o1 K (Ql rfl ev11) rfl fun _ K=>?_;replace M:=M.Yz q11 hS11;replace M:=Mem.cast (M':=((c6,0,[.str [],.str [],.int .i64 0,.int .i64 0,.nils])::(c3,0,[.str o,.str s,.int .i64 z,.int .i64 a,kk])::(A11++[]))) M (by first|(simp only[List.append_assoc,List.cons_append,List.nil_append,List.append_nil,List.set_cons_zero,List.set_cons_succ];done)|(simp only[List.append_assoc,List.cons_append,List.nil_append,List.append_nil,List.set_cons_zero,List.set_cons_succ];rfl));refine Q5 (k:=0) K M rfl rfl rfl Qq rfl (Qa rfl (Qa rfl (Qa rfl (Qa rfl (Qa hN11.YF Qp))))) rfl fun _ M=>?_;refine Qy ?_;show W _ _ _ _ _ _ _;refine Qe ⟨.inr rfl,_,Iy 0 K M rfl rfl rfl,?_⟩;exact⟨⟨_,_,_,_,_,_,A11,en11,rfl,M.Ge (.cons _ (.cons _ (List.sublist_append_left A11 []))),hN11⟩,M.qt⟩
end Go.Proofs.YtadjjadimlkkgaaGreatDoor
