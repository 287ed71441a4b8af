/-
  free.Put: any terms put for any names in any node.
-/
import Derived.Test.YtaomhhkflohhgaaGreatDoorMgFill
namespace Go.Proofs.YtaomhhkflohhgaaGreatDoor
open Go Go.RowKit
set_option maxHeartbeats 8000000
set_option linter.unusedVariables false
set_option linter.unusedSimpArgs false
set_option linter.unnecessarySimpa false
set_option maxRecDepth 100000
variable {C:Int} {R:Xh}

theorem UO.toR{kids:List Nd}{kk:AV}{ls:List (List AV)}(K:UO R kids kk ls){h:Hp}(hi:ZM R h):Ed h kids kk ls:=
 ⟨K.r hi,K.ln,fun i k hk=>by obtain⟨cs,h1,h2⟩:=K.get hk;exact⟨cs,h1,h2.AP hi⟩⟩
theorem xE(o s:List Nat)(z a:Int)(l:List Nd):FN l<Uj (.mk o s z a l):=by rw[Uj];omega
theorem jB(k:Nd):k.num=k.Wn:=by cases k;rfl
theorem uc{o s:List Nat}{z a:Int}{l:List Nd}{kk:AV}{st:St}(hf:Qw st)(hR:ZM R st.h.get)(hr:Uo R (.mk o s z a l) [.str o,.str s,.int .i64 z,.int .i64 a,kk])(hz:0≤z∧z≤100000)(hkb: ∀k,l[0]? =some k→0≤k.Wn∧k.Wn≤100000):
  ∃v st',Ev Tryz.prog QR 96 [.agg [.str o,.str s,.int .i64 z,.int .i64 a,kk]] st v st'∧(∃o' s' z' a' l' kk',Xx o s z a l=.mk o' s' z' a' l'∧v=.agg [.str o',.str s',.int .i64 z',.int .i64 a',kk']∧Uo R (.mk o' s' z' a' l') [.str o',.str s',.int .i64 z',.int .i64 a',kk'])∧Qt st st':=by
 obtain⟨kk',ls,e,K,hb⟩:=hr.Jn
 injection e with _ e
 injection e with _ e
 injection e with _ e
 injection e with _ e
 injection e with e _
 subst e;obtain⟨v,st',h1,h2,h3⟩:=zr (o:=o) (s:=s) (z:=z) (a:=a) hf (K.toR hR) hz (fun k hk=>by rw[jB];exact hkb k hk);refine⟨v,st',h1,?_,h3⟩
 by_cases hp:o=US∧((l.length:Nat):Int)=1
 ·rw[if_pos hp]at h2;obtain⟨hp1,hp2⟩:=hp;obtain⟨k,hk⟩: ∃k,l[0]? =some k:=⟨_,List.getElem?_eq_getElem Qh⟩;have hl:=S0 hk Qh;subst hl;obtain⟨kc,hkc,hkr⟩:=K.get hk;obtain⟨ok,sk,zk,ak,lk,kkk,lsk,rfl,rfl,Kk,hbk⟩:=hkr.eN;rw[hkc]at h2
  have hj:Xx o s z a [.mk ok sk zk ak lk]=if ok=[110,117,109]then .mk [110,117,109] [] (z+zk) a []else if ok=[112,108,117,115]then .mk o s (z+zk) a lk else .mk o s z a [.mk ok sk zk ak lk]:=by
   subst hp1;rfl
  rw[hj]
  by_cases h4:ok=[110,117,109]
  ·rw[if_pos h4];refine⟨_,_,_,_,_,.nils,rfl,?_,.leaf rfl rfl vy⟩;rw[h2];simp[Kf,ZK,h4]
  ·rw[if_neg h4]
   by_cases h5:ok=[112,108,117,115]
   ·rw[if_pos h5];refine⟨_,_,_,_,_,kkk,rfl,?_,Kk.node hb⟩;rw[h2];simp[Kf,ZK,US,h4,h5]
   ·rw[if_neg h5];refine⟨_,_,_,_,_,kk,rfl,?_,hr⟩;rw[h2];simp[Kf,ZK,US,h4,h5]
 ·rw[if_neg hp]at h2
  have hj:Xx o s z a l=.mk o s z a l:=by
   unfold Xx
   split
   ·rename_i ho
    match l,hp with
    |[],_=>rfl
    |[k],hp=>exact absurd ⟨ho,rfl⟩ hp
    |_::_::_,_=>rfl
   ·rfl
  rw[hj];exact⟨_,_,_,_,_,kk,rfl,h2,hr⟩
theorem T0(t:Nd)(a:Int):(t.setAt a).Wn=t.Wn:=by cases t;rfl
theorem NA{x:Nd}(h:okB C x=true):Yp x≤C:=by obtain⟨o,s,z,a,l⟩:=x;exact(Zo h).2.2.2.2.2
theorem yV{ns:List (List Nat)}{ts:List Nd}(hC:0≤C)(ht: ∀t∈ts,0≤t.Wn∧t.Wn≤C){D:Int}(x:Nd):okB D x=true→0≤(Yo Zm x ns ts).Wn∧(Yo Zm x ns ts).Wn≤Yp x+C:=by
 refine Uz (M:=fun x=>okB D x=true→0≤(Yo Zm x ns ts).Wn∧(Yo Zm x ns ts).Wn≤Yp x+C) (fun o s z a l ih hok=>?_) x;have hg:=FU _ hok;have hg:0≤z∧z≤Yp (.mk o s z a l):=hg;obtain⟨_,hz0,hzC,_,hkids,_⟩:=Zo hok;rw[Yo]
 split
 ·rename_i h;obtain⟨t,h2⟩:=Option.isSome_iff_exists.1 h.2;rw[h2];show 0≤(t.setAt a).Wn∧(t.setAt a).Wn≤Yp (.mk o s z a l)+C;rw[T0];have:=ht t (YU h2);omega
 ·split
  ·split
   ·show 0≤z∧z≤Yp (.mk o s z a l)+C;omega
   ·show 0≤z∧z≤Yp (.mk o s z a l)+C;omega
  ·split
   ·show 0≤z∧z≤Yp (.mk o s z a l)+C;omega
   ·unfold Xx
    split
    ·rename_i hp
     split
     ·rename_i k hk;rw[YR]at hk
      have hl1:l.length=1:=by rw[←List.length_map (f:=fun k=>Yo Zm k ns ts),hk];rfl
      match l,hl1,ih,hkids,hk with
      |[k0],_,ih,hkids,hk=>
       have hk:[Yo Zm k0 ns ts]=[k]:=hk
       injection hk with hk _
       have hb:=ih k0 Q3 (hkids k0 Q3);rw[hk]at hb;rw[Zp,if_pos hp];have:=FU _ (hkids k0 Q3)
       split
       ·show 0≤z+_∧z+_≤_;omega
       ·split
        ·show 0≤z+_∧z+_≤_;omega
        ·show 0≤z∧z≤_;omega
     ·show 0≤z∧z≤Yp (.mk o s z a l)+C;omega
    ·show 0≤z∧z≤Yp (.mk o s z a l)+C;omega
theorem Uo.setAt{R:Xh}{o s o' s':List Nat}{z a a' z':Int}{l:List Nd}{kk:AV}{t:Nd}(r:Uo R t [.str o,.str s,.int .i64 z,.int .i64 a,kk]):Uo R (t.setAt a') [.str o,.str s,.int .i64 z,.int .i64 a',kk]:=by
 obtain⟨o1,s1,z1,a1,l1⟩:=t;obtain⟨kk',ls,e,K,hb⟩:=r.Jn
 injection e with e1 e
 injection e with e2 e
 injection e with e3 e
 injection e with e4 e
 injection e with e5 _
 injection e1 with e1
 injection e2 with e2
 injection e3 with _ e3
 subst e1 e2 e3 e5;exact K.node hb

theorem jl(C:Int)(x:Nd): ∀(R:Xh) (ns:List (List Nat)) (ts:List Nd) (kn kt:AV) (lts:List (List AV)) (B0:Nat) (st:St) (cs:List AV),Qw st→ZM R st.h.get→Uo R x cs→QS st.h.get [] 1 (Xq ns) kn→UO R ts kt lts→Gk C B0 (Uj x) ts→okB C x=true→ ∃v st',Ev Tryz.prog QR 78 [.agg [kn,kt],.agg cs] st v st'∧JG R st st' (Yo Zm x ns ts) v∧Qt st st':=by
 refine Uz (M:=fun x=>xw C x) (fun o s z a l ih=>?_) x;intro R ns ts kn kt lts B0 st cs hf hR hr hN hTs hP hok;have hr0:=hr;obtain⟨kk,ls,rfl,hK,hb⟩:=hr.Jn;have hln:=hK.ln;have hbn:=hK.YZ;obtain⟨hnl,hz0,hzC,hone,hokk,_⟩:=Zo hok;have hsz:=hP.sz;have hb1:=hP.b;have hmul:Uj (.mk o s z a l) *2≤Uj (.mk o s z a l) *(B0+1):=Nat.mul_le_mul_left _ Qh
 have hll:l.length+1≤Uj (.mk o s z a l):=by rw[Uj];have:=BB l;omega
 have hB5:B0+1≤500000:=Nat.le_trans (Nat.le_mul_of_pos_left _ (IG (.mk o s z a l))) hsz;refine Yu Tryz.func78 Tryz.ntmps78 fun T K=>?_;have M:=Mem.start hf;refine Qc 0 K M fun _ K=>?_;refine J3 K M rfl (Qa hN.cell (Qa hTs.cell Qo)) QT fun c2 _ _ K M=>?_;refine J3 K M rfl (Qa rfl (Qa rfl (Qa rfl (Qa rfl (Qa hK.cell Qo))))) QT fun c3 _ _ K M=>?_;refine au 4 K M ?_;intro c4 _ _ K _ M;obtain⟨v14,st14,ev14,⟨o14,s14,z14,a14,kk14,bb14,rfl,⟨nk14,hc14⟩,hT14⟩,q14⟩:=Dl M.fresh (M.ZM hR) (QS.mem M hN Q3) hTs s;refine p1 K (Qe rfl ev14) fun _ K=>?_;replace M:=M.quiet q14;refine au 4 K M ?_;intro c5 _ _ K _ M;refine Qz (k:=0) K M rfl rfl rfl Qi rfl (Qa rfl (Qa rfl (Qa rfl (Qa rfl (Qa (Vq hc14) Qo))))) rfl fun _ M=>?_;refine p1 K (JH rfl) fun _ K=>Y5 ?_;show W _ _ _ _ _ _ _;refine VY (J:=fun T st9=>Jr [(2,.ptr c2 0 0),(3,.ptr c3 0 0),(4,.ptr c4 0 0)] T∧Mem st.h.get st.n [] st9 [(c5,0,[.str o14,.str s14,iZ z14,iZ a14,kk14]),(c4,0,[.str [],.str [],iZ 0,iZ 0,.nils]),(c3,0,[.str o,.str s,iZ z,iZ a,kk]),(c2,0,[kn,kt])]∧ ¬(o=[118,97,114]∧(Jt ns ts s).isSome=true)∧ ¬(o=[105,115]∧(Jt ns ts s).any (fun t=>decide (t.op=[118,97,114]))=true)∧ ¬(o=[101,120]∨o=[97,108,108])) ?_ (fun T st9 hJ=>?_)
 ·refine Qc 2 K M fun _ K=>?_;refine p1 K (QU (b:=[118,97,114]) rfl rfl) fun _ K=>?_;refine Eh K rfl (fun _ e21 K=>?_) fun _ e21 K=>?_
  ·refine Qc 6 K M fun _ K=>?_;refine p1 K (QU (b:=[105,115]) rfl rfl) fun _ K=>?_;refine Eh K rfl (fun _ e34 K=>?_) fun _ e34 K=>?_
   ·refine Qc 10 K M fun _ K=>?_;obtain⟨v48,st48,ev48,rfl,q48⟩:=WW M.fresh (hr0.AP (M.ZM hR));refine p1 K (Qe rfl ev48) fun _ K=>?_;replace M:=M.quiet q48;refine Qc 1 K M fun _ K=>?_;refine JU K rfl (fun h46=>?_) fun h46=>?_
    ·have hb46:=h46;refine Qc 2 K M fun _ K=>?_;obtain⟨v51,st51,ev51,⟨on51,sn51,zn51,an51,ln51,kkn51,A51,en51,rfl,hS51,hN51⟩,q51⟩:=Wu M.fresh (M.ZM hR) (QS.mem M hN Q3) hTs hr0 hP hok (by simp_all) ih;refine p1 K (Qe rfl ev51) fun _ K=>?_;replace M:=M.YN q51 hS51;replace M:=Mem.cast (M':=((c5,0,[.str o14,.str s14,iZ z14,iZ a14,kk14])::(c4,0,[.str [],.str [],iZ 0,iZ 0,.nils])::(c3,0,[.str o,.str s,iZ z,iZ a,kk])::(c2,0,[kn,kt])::(A51++[]))) M Za;refine Qz (k:=1) K M rfl rfl rfl Qi rfl (Qa rfl (Qa rfl (Qa rfl (Qa rfl (Qa hN51.ZU Qo))))) rfl fun _ M=>?_;refine Qc 0 K M ?_;exact⟨⟨_,_,_,_,_,_,A51,en51,rfl,M.KI (.cons _ (.cons _ (.cons _ (.cons _ (List.sublist_append_left A51 []))))),hN51⟩,M.qt⟩
    have hb46:=h46;refine JM ?_
    have hnv: ¬(o=[118,97,114]∧(Jt ns ts s).isSome=true):=by
     rintro⟨h1,h2⟩
     rcases hT14 with⟨h3,_⟩|⟨_,h3⟩
     ·simp_all
     ·rw[h3]at h2;cases h2
    have hni: ¬(o=[105,115]∧(Jt ns ts s).any (fun t=>decide (t.op=[118,97,114]))=true):=by
     rintro⟨h1,h2⟩
     rcases hT14 with⟨h3,l3,h4,_⟩|⟨_,h3⟩
     ·rw[h4]at h2;have h2:decide (o14=[118,97,114])=true:=h2;simp_all
     ·rw[h3]at h2;cases h2
    have hnb: ¬(o=[101,120]∨o=[97,108,108]):=by intro h;simp_all
    exact⟨(K.sub rfl),M.less (.refl _),hnv,hni,hnb⟩
   refine Qc 2 K M fun _ K=>?_;refine oB K (Q9 rfl) rfl fun b37 _ e37 K=>?_;cases b37
   ·refine Qc 7 K M fun _ K=>?_;obtain⟨v48,st48,ev48,rfl,q48⟩:=WW M.fresh (hr0.AP (M.ZM hR));refine p1 K (Qe rfl ev48) fun _ K=>?_;replace M:=M.quiet q48;refine Qc 1 K M fun _ K=>?_;refine JU K rfl (fun h46=>?_) fun h46=>?_
    ·have hb46:=h46;refine Qc 2 K M fun _ K=>?_;obtain⟨v51,st51,ev51,⟨on51,sn51,zn51,an51,ln51,kkn51,A51,en51,rfl,hS51,hN51⟩,q51⟩:=Wu M.fresh (M.ZM hR) (QS.mem M hN Q3) hTs hr0 hP hok (by simp_all) ih;refine p1 K (Qe rfl ev51) fun _ K=>?_;replace M:=M.YN q51 hS51;replace M:=Mem.cast (M':=((c5,0,[.str o14,.str s14,iZ z14,iZ a14,kk14])::(c4,0,[.str [],.str [],iZ 0,iZ 0,.nils])::(c3,0,[.str o,.str s,iZ z,iZ a,kk])::(c2,0,[kn,kt])::(A51++[]))) M Za;refine Qz (k:=1) K M rfl rfl rfl Qi rfl (Qa rfl (Qa rfl (Qa rfl (Qa rfl (Qa hN51.ZU Qo))))) rfl fun _ M=>?_;refine Qc 0 K M ?_;exact⟨⟨_,_,_,_,_,_,A51,en51,rfl,M.KI (.cons _ (.cons _ (.cons _ (.cons _ (List.sublist_append_left A51 []))))),hN51⟩,M.qt⟩
    have hb46:=h46;refine JM ?_
    have hnv: ¬(o=[118,97,114]∧(Jt ns ts s).isSome=true):=by
     rintro⟨h1,h2⟩
     rcases hT14 with⟨h3,_⟩|⟨_,h3⟩
     ·simp_all
     ·rw[h3]at h2;cases h2
    have hni: ¬(o=[105,115]∧(Jt ns ts s).any (fun t=>decide (t.op=[118,97,114]))=true):=by
     rintro⟨h1,h2⟩
     rcases hT14 with⟨h3,l3,h4,_⟩|⟨_,h3⟩
     ·rw[h4]at h2;have h2:decide (o14=[118,97,114])=true:=h2;simp_all
     ·rw[h3]at h2;cases h2
    have hnb: ¬(o=[101,120]∨o=[97,108,108]):=by intro h;simp_all
    exact⟨(K.sub rfl),M.less (.refl _),hnv,hni,hnb⟩
   refine Qc 2 K M fun _ K=>?_;refine pg K rfl rfl (QU (b:=[118,97,114]) rfl rfl) fun _ K=>?_;refine Qc 2 K M fun _ K=>?_;refine JU K rfl (fun h30=>?_) fun h30=>?_
   ·have hb30:=h30;replace h30:=of_decide_eq_true h30;refine au 5 K M ?_;intro _ _ K _ M;refine Qz (k:=1) K M rfl rfl rfl Qi rfl (Qa rfl (Qa rfl (Qa rfl (Qa rfl (Qa hK.cell Qo))))) rfl fun _ M=>?_;refine Qc 0 K M ?_;refine⟨?_,M.qt⟩
    obtain⟨l14,hL14,hG14⟩: ∃l,Jt ns ts s=some (.mk o14 s14 z14 a14 l)∧Uo R (.mk o14 s14 z14 a14 l) [.str o14,.str s14,iZ z14,iZ a14,kk14]:=by
     rcases hT14 with⟨_,l,h1,h2⟩|⟨h,_⟩
     ·exact⟨l,h1,h2⟩
     ·exfalso;simp_all
    have hoi:o=[105,115]:=by assumption
    have hb14:=hG14.Jn;obtain⟨_,_,_,_,_,hb14⟩:=hb14
    have hno: ¬(o=[118,97,114]∧(Jt ns ts s).isSome=true):=by rw[hoi];simp
    rw[Yo,if_neg hno,if_pos ⟨hoi,by rw[hL14];show decide (o14=_)=true;simp_all⟩,hL14];exact JG.same M (hr0.again hb14)
   have hb30:=h30;replace h30:=of_decide_eq_false h30;refine Qc 1 K M fun _ K=>?_;obtain⟨v48,st48,ev48,rfl,q48⟩:=WW M.fresh (hr0.AP (M.ZM hR));refine p1 K (Qe rfl ev48) fun _ K=>?_;replace M:=M.quiet q48;refine Qc 1 K M fun _ K=>?_;refine JU K rfl (fun h46=>?_) fun h46=>?_
   ·have hb46:=h46;refine Qc 2 K M fun _ K=>?_;obtain⟨v51,st51,ev51,⟨on51,sn51,zn51,an51,ln51,kkn51,A51,en51,rfl,hS51,hN51⟩,q51⟩:=Wu M.fresh (M.ZM hR) (QS.mem M hN Q3) hTs hr0 hP hok (by simp_all) ih;refine p1 K (Qe rfl ev51) fun _ K=>?_;replace M:=M.YN q51 hS51;replace M:=Mem.cast (M':=((c5,0,[.str o14,.str s14,iZ z14,iZ a14,kk14])::(c4,0,[.str [],.str [],iZ 0,iZ 0,.nils])::(c3,0,[.str o,.str s,iZ z,iZ a,kk])::(c2,0,[kn,kt])::(A51++[]))) M Za;refine Qz (k:=1) K M rfl rfl rfl Qi rfl (Qa rfl (Qa rfl (Qa rfl (Qa rfl (Qa hN51.ZU Qo))))) rfl fun _ M=>?_;refine Qc 0 K M ?_;exact⟨⟨_,_,_,_,_,_,A51,en51,rfl,M.KI (.cons _ (.cons _ (.cons _ (.cons _ (List.sublist_append_left A51 []))))),hN51⟩,M.qt⟩
   have hb46:=h46;refine JM ?_
   have hnv: ¬(o=[118,97,114]∧(Jt ns ts s).isSome=true):=by
    rintro⟨h1,h2⟩
    rcases hT14 with⟨h3,_⟩|⟨_,h3⟩
    ·simp_all
    ·rw[h3]at h2;cases h2
   have hni: ¬(o=[105,115]∧(Jt ns ts s).any (fun t=>decide (t.op=[118,97,114]))=true):=by
    rintro⟨h1,h2⟩
    rcases hT14 with⟨h3,l3,h4,_⟩|⟨_,h3⟩
    ·rw[h4]at h2;have h2:decide (o14=[118,97,114])=true:=h2;simp_all
    ·rw[h3]at h2;cases h2
   have hnb: ¬(o=[101,120]∨o=[97,108,108]):=by intro h;simp_all
   exact⟨(K.sub rfl),M.less (.refl _),hnv,hni,hnb⟩
  refine Qc 3 K M fun _ K=>?_;refine JU K rfl (fun h17=>?_) fun h17=>?_
  ·have hb17:=h17;refine Qc 1 K M fun _ K=>?_
   obtain⟨l14,hL14,hG14⟩: ∃l,Jt ns ts s=some (.mk o14 s14 z14 a14 l)∧Uo R (.mk o14 s14 z14 a14 l) [.str o14,.str s14,iZ z14,iZ a14,kk14]:=by
    rcases hT14 with⟨_,l,h1,h2⟩|⟨h,_⟩
    ·exact⟨l,h1,h2⟩
    ·exfalso;simp_all
   obtain⟨v25,st25,ev25,⟨on25,sn25,zn25,an25,ln25,kkn25,A25,en25,rfl,hS25,hN25⟩,q25⟩:=MF R _ _ _ M.fresh (M.ZM hR) hG14 (by have:=(hP.t _ (YU hL14)).1;omega);refine p1 K (Qe rfl ev25) fun _ K=>?_;replace M:=M.YN q25 hS25;replace M:=Mem.cast (M':=((c5,0,[.str o14,.str s14,iZ z14,iZ a14,kk14])::(c4,0,[.str [],.str [],iZ 0,iZ 0,.nils])::(c3,0,[.str o,.str s,iZ z,iZ a,kk])::(c2,0,[kn,kt])::(A25++[]))) M Za;refine Qz (k:=0) K M rfl rfl rfl Qi rfl (Qa rfl (Qa rfl (Qa rfl (Qa rfl (Qa hN25.ZU Qo))))) rfl fun _ M=>?_;refine au 5 K M ?_;intro _ _ K _ M;refine Qz (k:=1) K M rfl rfl rfl Qi rfl (Qa rfl (Qa rfl (Qa rfl (Qa rfl (Qa hN25.ZU Qo))))) rfl fun _ M=>?_;refine Qc 0 K M ?_;refine⟨?_,M.qt⟩
   have hov:o=[118,97,114]:=by assumption
   rw[Yo,if_pos ⟨hov,by rw[hL14];rfl⟩,hL14];show JG R st _ (Nd.setAt a (.mk o14 s14 z14 a14 l14)) _;rw[en25]at hN25 ⊢;exact⟨on25,sn25,zn25,a,ln25,kkn25,A25,rfl,rfl,M.KI (.cons _ (.cons _ (.cons _ (.cons _ (List.sublist_append_left A25 []))))),hN25.setAt (o':=[]) (s':=[]) (z':=0) (l:=[])⟩
  have hb17:=h17;refine Qc 2 K M fun _ K=>?_;refine p1 K (QU (b:=[105,115]) rfl rfl) fun _ K=>?_;refine Eh K rfl (fun _ e34 K=>?_) fun _ e34 K=>?_
  ·refine Qc 10 K M fun _ K=>?_;obtain⟨v48,st48,ev48,rfl,q48⟩:=WW M.fresh (hr0.AP (M.ZM hR));refine p1 K (Qe rfl ev48) fun _ K=>?_;replace M:=M.quiet q48;refine Qc 1 K M fun _ K=>?_;refine JU K rfl (fun h46=>?_) fun h46=>?_
   ·have hb46:=h46;refine Qc 2 K M fun _ K=>?_;obtain⟨v51,st51,ev51,⟨on51,sn51,zn51,an51,ln51,kkn51,A51,en51,rfl,hS51,hN51⟩,q51⟩:=Wu M.fresh (M.ZM hR) (QS.mem M hN Q3) hTs hr0 hP hok (by simp_all) ih;refine p1 K (Qe rfl ev51) fun _ K=>?_;replace M:=M.YN q51 hS51;replace M:=Mem.cast (M':=((c5,0,[.str o14,.str s14,iZ z14,iZ a14,kk14])::(c4,0,[.str [],.str [],iZ 0,iZ 0,.nils])::(c3,0,[.str o,.str s,iZ z,iZ a,kk])::(c2,0,[kn,kt])::(A51++[]))) M Za;refine Qz (k:=1) K M rfl rfl rfl Qi rfl (Qa rfl (Qa rfl (Qa rfl (Qa rfl (Qa hN51.ZU Qo))))) rfl fun _ M=>?_;refine Qc 0 K M ?_;exact⟨⟨_,_,_,_,_,_,A51,en51,rfl,M.KI (.cons _ (.cons _ (.cons _ (.cons _ (List.sublist_append_left A51 []))))),hN51⟩,M.qt⟩
   have hb46:=h46;refine JM ?_
   have hnv: ¬(o=[118,97,114]∧(Jt ns ts s).isSome=true):=by
    rintro⟨h1,h2⟩
    rcases hT14 with⟨h3,_⟩|⟨_,h3⟩
    ·simp_all
    ·rw[h3]at h2;cases h2
   have hni: ¬(o=[105,115]∧(Jt ns ts s).any (fun t=>decide (t.op=[118,97,114]))=true):=by
    rintro⟨h1,h2⟩
    rcases hT14 with⟨h3,l3,h4,_⟩|⟨_,h3⟩
    ·rw[h4]at h2;have h2:decide (o14=[118,97,114])=true:=h2;simp_all
    ·rw[h3]at h2;cases h2
   have hnb: ¬(o=[101,120]∨o=[97,108,108]):=by intro h;simp_all
   exact⟨(K.sub rfl),M.less (.refl _),hnv,hni,hnb⟩
  refine Qc 2 K M fun _ K=>?_;refine oB K (Q9 rfl) rfl fun b37 _ e37 K=>?_;cases b37
  ·refine Qc 7 K M fun _ K=>?_;obtain⟨v48,st48,ev48,rfl,q48⟩:=WW M.fresh (hr0.AP (M.ZM hR));refine p1 K (Qe rfl ev48) fun _ K=>?_;replace M:=M.quiet q48;refine Qc 1 K M fun _ K=>?_;refine JU K rfl (fun h46=>?_) fun h46=>?_
   ·have hb46:=h46;refine Qc 2 K M fun _ K=>?_;obtain⟨v51,st51,ev51,⟨on51,sn51,zn51,an51,ln51,kkn51,A51,en51,rfl,hS51,hN51⟩,q51⟩:=Wu M.fresh (M.ZM hR) (QS.mem M hN Q3) hTs hr0 hP hok (by simp_all) ih;refine p1 K (Qe rfl ev51) fun _ K=>?_;replace M:=M.YN q51 hS51;replace M:=Mem.cast (M':=((c5,0,[.str o14,.str s14,iZ z14,iZ a14,kk14])::(c4,0,[.str [],.str [],iZ 0,iZ 0,.nils])::(c3,0,[.str o,.str s,iZ z,iZ a,kk])::(c2,0,[kn,kt])::(A51++[]))) M Za;refine Qz (k:=1) K M rfl rfl rfl Qi rfl (Qa rfl (Qa rfl (Qa rfl (Qa rfl (Qa hN51.ZU Qo))))) rfl fun _ M=>?_;refine Qc 0 K M ?_;exact⟨⟨_,_,_,_,_,_,A51,en51,rfl,M.KI (.cons _ (.cons _ (.cons _ (.cons _ (List.sublist_append_left A51 []))))),hN51⟩,M.qt⟩
   have hb46:=h46;refine JM ?_
   have hnv: ¬(o=[118,97,114]∧(Jt ns ts s).isSome=true):=by
    rintro⟨h1,h2⟩
    rcases hT14 with⟨h3,_⟩|⟨_,h3⟩
    ·simp_all
    ·rw[h3]at h2;cases h2
   have hni: ¬(o=[105,115]∧(Jt ns ts s).any (fun t=>decide (t.op=[118,97,114]))=true):=by
    rintro⟨h1,h2⟩
    rcases hT14 with⟨h3,l3,h4,_⟩|⟨_,h3⟩
    ·rw[h4]at h2;have h2:decide (o14=[118,97,114])=true:=h2;simp_all
    ·rw[h3]at h2;cases h2
   have hnb: ¬(o=[101,120]∨o=[97,108,108]):=by intro h;simp_all
   exact⟨(K.sub rfl),M.less (.refl _),hnv,hni,hnb⟩
  refine Qc 2 K M fun _ K=>?_;refine pg K rfl rfl (QU (b:=[118,97,114]) rfl rfl) fun _ K=>?_;refine Qc 2 K M fun _ K=>?_;refine JU K rfl (fun h30=>?_) fun h30=>?_
  ·have hb30:=h30;replace h30:=of_decide_eq_true h30;refine au 5 K M ?_;intro _ _ K _ M;refine Qz (k:=1) K M rfl rfl rfl Qi rfl (Qa rfl (Qa rfl (Qa rfl (Qa rfl (Qa hK.cell Qo))))) rfl fun _ M=>?_;refine Qc 0 K M ?_;refine⟨?_,M.qt⟩
   obtain⟨l14,hL14,hG14⟩: ∃l,Jt ns ts s=some (.mk o14 s14 z14 a14 l)∧Uo R (.mk o14 s14 z14 a14 l) [.str o14,.str s14,iZ z14,iZ a14,kk14]:=by
    rcases hT14 with⟨_,l,h1,h2⟩|⟨h,_⟩
    ·exact⟨l,h1,h2⟩
    ·exfalso;simp_all
   have hoi:o=[105,115]:=by assumption
   have hb14:=hG14.Jn;obtain⟨_,_,_,_,_,hb14⟩:=hb14
   have hno: ¬(o=[118,97,114]∧(Jt ns ts s).isSome=true):=by rw[hoi];simp
   rw[Yo,if_neg hno,if_pos ⟨hoi,by rw[hL14];show decide (o14=_)=true;simp_all⟩,hL14];exact JG.same M (hr0.again hb14)
  have hb30:=h30;replace h30:=of_decide_eq_false h30;refine Qc 1 K M fun _ K=>?_;obtain⟨v48,st48,ev48,rfl,q48⟩:=WW M.fresh (hr0.AP (M.ZM hR));refine p1 K (Qe rfl ev48) fun _ K=>?_;replace M:=M.quiet q48;refine Qc 1 K M fun _ K=>?_;refine JU K rfl (fun h46=>?_) fun h46=>?_
  ·have hb46:=h46;refine Qc 2 K M fun _ K=>?_;obtain⟨v51,st51,ev51,⟨on51,sn51,zn51,an51,ln51,kkn51,A51,en51,rfl,hS51,hN51⟩,q51⟩:=Wu M.fresh (M.ZM hR) (QS.mem M hN Q3) hTs hr0 hP hok (by simp_all) ih;refine p1 K (Qe rfl ev51) fun _ K=>?_;replace M:=M.YN q51 hS51;replace M:=Mem.cast (M':=((c5,0,[.str o14,.str s14,iZ z14,iZ a14,kk14])::(c4,0,[.str [],.str [],iZ 0,iZ 0,.nils])::(c3,0,[.str o,.str s,iZ z,iZ a,kk])::(c2,0,[kn,kt])::(A51++[]))) M Za;refine Qz (k:=1) K M rfl rfl rfl Qi rfl (Qa rfl (Qa rfl (Qa rfl (Qa rfl (Qa hN51.ZU Qo))))) rfl fun _ M=>?_;refine Qc 0 K M ?_;exact⟨⟨_,_,_,_,_,_,A51,en51,rfl,M.KI (.cons _ (.cons _ (.cons _ (.cons _ (List.sublist_append_left A51 []))))),hN51⟩,M.qt⟩
  have hb46:=h46;refine JM ?_
  have hnv: ¬(o=[118,97,114]∧(Jt ns ts s).isSome=true):=by
   rintro⟨h1,h2⟩
   rcases hT14 with⟨h3,_⟩|⟨_,h3⟩
   ·simp_all
   ·rw[h3]at h2;cases h2
  have hni: ¬(o=[105,115]∧(Jt ns ts s).any (fun t=>decide (t.op=[118,97,114]))=true):=by
   rintro⟨h1,h2⟩
   rcases hT14 with⟨h3,l3,h4,_⟩|⟨_,h3⟩
   ·rw[h4]at h2;have h2:decide (o14=[118,97,114])=true:=h2;simp_all
   ·rw[h3]at h2;cases h2
  have hnb: ¬(o=[101,120]∨o=[97,108,108]):=by intro h;simp_all
  exact⟨(K.sub rfl),M.less (.refl _),hnv,hni,hnb⟩
 obtain⟨K,M,hnv,hni,hnb⟩:=hJ;refine Qc 3 K M fun _ K=>?_;refine p1 K (Jg QI rfl rfl hK.len) fun _ K=>?_;refine Qc 1 K M fun _ K=>?_;refine JQ (fun mm1 T st9=> ∃(i:Nat) (ks:AV) (A:JJ) (B:JJ) (lsn:List (List AV)),mm1=l.length-i∧Jr [(2,.ptr c2 0 0),(3,.ptr c3 0 0),(4,.ptr c4 0 0),(7,ks),(53,kk),(54,iZ (l.length:Nat)),(55,iN i)] T∧Mem st.h.get st.n [] st9 ((c5,0,[.str o14,.str s14,iZ z14,iZ a14,kk14])::(c4,0,[.str [],.str [],iZ 0,iZ 0,.nils])::(c3,0,[.str o,.str s,iZ z,iZ a,kk])::(c2,0,[kn,kt])::(A++(B++[])))∧Acc st.n 5 A ks lsn∧i≤l.length∧lsn.length=i∧Xp (JX R B) (fun k=>Yo Zm k ns ts) l lsn) (fun mm1 T st9 hI=>?_) _ _ _ ⟨0,.nils,[],[],[],rfl,(K.sub rfl),M.less (.refl _),.none,(Nat.zero_le _),rfl,.nil⟩;obtain⟨i,ks,A,B,lsn,rfl,K,M,hA,hi,hlen,hmap⟩:=hI;refine Qc 1 K M fun _ K=>?_;refine Xj K rfl (fun h56=>?_) fun h56=>?_
 ·refine Qc 0 K M fun _ K=>?_;obtain⟨⟨o57,s57,z57,a57,l57⟩,hi57⟩: ∃k,l[i]? =some k:=⟨_,List.getElem?_eq_getElem Qh⟩;have hm57:=U7 hi57;obtain⟨_,hc57,hn57⟩:=hK.get hi57;have hp57:=hn57;obtain⟨kk57,ls57,rfl,hK57,hb57⟩:=hp57.Jn;refine OJ (hK.r (M.ZM hR)) hc57 K Jf Qv rfl rfl fun _ _ _ _ K=>?_;refine au 1 K M ?_;intro c9 _ _ K _ M;refine Qz (k:=0) K M rfl rfl rfl Qi rfl (Qa rfl (Qa rfl (Qa rfl (Qa rfl (Qa hK57.cell Qo))))) rfl fun _ M=>?_;refine Qc 3 K M fun _ K=>?_;obtain⟨v62,st62,ev62,⟨on62,sn62,zn62,an62,ln62,kkn62,A62,en62,rfl,hS62,hN62⟩,q62⟩:=ih _ hm57 R ns ts kn kt lts B0 _ _ M.fresh (M.ZM hR) hn57 (QS.mem M hN Q3) hTs (hP.less (Nat.le_trans (Z4 hm57) (Nat.le_of_lt (xE o s z a l))) (fun t ht=>.inl ht)) (hokk _ hm57);refine p1 K (Qe rfl ev62) fun _ K=>?_;replace M:=M.YN q62 hS62;replace M:=Mem.cast (M':=((c9,0,[.str o57,.str s57,iZ z57,iZ a57,kk57])::(c5,0,[.str o14,.str s14,iZ z14,iZ a14,kk14])::(c4,0,[.str [],.str [],iZ 0,iZ 0,.nils])::(c3,0,[.str o,.str s,iZ z,iZ a,kk])::(c2,0,[kn,kt])::(A++((B++A62)++[])))) M Za;refine Fb K M QC Jc rfl rfl (Qa rfl (Qa rfl (Qa rfl (Qa rfl (Qa hN62.ZU Qo))))) rfl rfl fun c63 _ _ K M=>?_;refine ZW (k2:=0) (L:=[(c63,0,[.str on62,.str sn62,iZ zn62,iZ an62,kkn62]),(c9,0,[.str o57,.str s57,iZ z57,iZ a57,kk57]),(c5,0,[.str o14,.str s14,iZ z14,iZ a14,kk14]),(c4,0,[.str [],.str [],iZ 0,iZ 0,.nils]),(c3,0,[.str o,.str s,iZ z,iZ a,kk]),(c2,0,[kn,kt])]) (B:=((B++A62)++[])) K M hA QC rfl rfl rfl rfl Qh rfl fun ks64 A64 _ _ K hA64 M=>?_;refine Qc 3 K M fun _ K=>?_;exact⟨_,Qh,i+1,ks64,A64,B++A62,(lsn++[[.str on62,.str sn62,iZ zn62,iZ an62,kkn62]]),rfl,(K.sub rfl),M.less (.cons _ (.cons _ (.refl _))),hA64,Qh,(by rw[List.length_append];simp;omega),(hmap.snoc hlen hi57 hN62)⟩
 refine Jx ?_;show W _ _ _ _ _ _ _;refine Qc 2 K M fun _ K=>?_;refine Ws (k:=2) K M rfl rfl rfl YF (hA.cell) rfl fun _ M=>?_;refine Qc 1 K M fun _ K=>?_
 have hBm: ∀x∈A++B,x∈((c5,0,[.str o14,.str s14,iZ z14,iZ a14,kk14])::(c4,0,[.str [],.str [],iZ 0,iZ 0,.nils])::(c3,0,[.str o,.str s,iZ z,iZ a,ks])::(c2,0,[kn,kt])::(A++(B++[]))):=by intro x hx;rcases List.mem_append.1 hx with h|h<;>simp[h]
 have hin:=M.Mv hR hBm;have hKm:UO (JX R (A++B)) (l.map (fun k=>Yo Zm k ns ts)) ks lsn:=(hmap.kids Qh hA).mono (fun c m x h=>by rcases h with(h|h)|h;exact .inl h;exact .inr (List.mem_append_right _ h);exact .inr (List.mem_append_left _ h));have hrj:=hKm.node (op:=o) (name:=s) (n:=z) (at_:=a) hb;have hC0:=hP.c0;have hC1:=hP.c1;obtain⟨v69,st69,ev69,⟨oj,sj,zj,aj,lj,kkj,hjn,rfl,hJ⟩,q69⟩:=uc M.fresh hin hrj Qh (fun k hk=>by rw[List.getElem?_map]at hk;obtain⟨k0,hk0,rfl⟩:=Option.map_eq_some_iff.1 hk;have:=yV (ns:=ns) hP.c0 (fun t ht=>(hP.t t ht).2) k0 (hokk k0 (List.mem_of_getElem? hk0));have:=(NA (hokk k0 (List.mem_of_getElem? hk0)));omega);refine p1 K (Qe rfl ev69) fun _ K=>?_;replace M:=M.quiet q69;refine Qz (k:=1) K M rfl rfl rfl Qi rfl (Qa rfl (Qa rfl (Qa rfl (Qa rfl (Qa hJ.cell Qo))))) rfl fun _ M=>?_;refine Qc 0 K M ?_;refine⟨?_,M.qt⟩;rw[Yo,if_neg hnv,if_neg hni,if_neg hnb,YR,hjn];exact⟨oj,sj,zj,aj,lj,kkj,A++B,rfl,rfl,M.KI (.cons _ (.cons _ (.cons _ (.cons _ (List.Sublist.trans (List.sublist_append_left (A++B) []) (by rw[List.append_assoc];exact .refl _)))))),hJ⟩

theorem z6{ns:List (List Nat)}{ts:List Nd}{kn kt:AV}{lts:List (List AV)}{st:St}(hf:Qw st)(hR:ZM R st.h.get)(hN:QS st.h.get [] 1 (Xq ns) kn)(hTs:UO R ts kt lts){o s:List Nat}{z a:Int}{l:List Nd}{cs:List AV}(hr:Uo R (.mk o s z a l) cs){B0:Nat}(hP:Gk C B0 (Uj (.mk o s z a l)) ts)(hok:okB C (.mk o s z a l)=true): ∃v st',Ev Tryz.prog QR 61 [.agg cs,kn,kt] st v st'∧JG R st st' (Yo Zm (.mk o s z a l) ns ts) v∧Qt st st':=by
 have hr0:=hr;obtain⟨kk,ls,rfl,hK,hb⟩:=hr.Jn;have hln:=hK.ln;have hbn:=hK.YZ;refine Yu Tryz.func61 Tryz.ntmps61 fun T K=>?_;have M:=Mem.start hf;refine Qc 0 K M fun _ K=>?_;refine J3 K M rfl (Qa rfl (Qa rfl (Qa rfl (Qa rfl (Qa hK.cell Qo))))) QT fun c3 _ _ K M=>?_;refine au 3 K M ?_;intro c6 _ _ K _ M;refine p1 K (Fx Ln rfl ((ES rfl hN.cell rfl).trans ((ES rfl hTs.cell rfl).trans rfl))) fun _ K=>?_;refine Qc 1 K M fun _ K=>?_;obtain⟨v11,st11,ev11,⟨on11,sn11,zn11,an11,ln11,kkn11,A11,en11,rfl,hS11,hN11⟩,q11⟩:=jl C _ R ns ts kn kt lts B0 _ _ M.fresh (M.ZM hR) hr0 (QS.mem M hN Q3) hTs hP hok;refine p1 K (Qe rfl ev11) fun _ K=>?_;replace M:=M.YN q11 hS11;replace M:=Mem.cast (M':=((c6,0,[.str [],.str [],iZ 0,iZ 0,.nils])::(c3,0,[.str o,.str s,iZ z,iZ a,kk])::(A11++[]))) M Za;refine Qz (k:=0) K M rfl rfl rfl Qi rfl (Qa rfl (Qa rfl (Qa rfl (Qa rfl (Qa hN11.ZU Qo))))) rfl fun _ M=>?_;refine Qc 0 K M ?_;exact⟨⟨_,_,_,_,_,_,A11,en11,rfl,M.KI (.cons _ (.cons _ (List.sublist_append_left A11 []))),hN11⟩,M.qt⟩
end Go.Proofs.YtaomhhkflohhgaaGreatDoor
