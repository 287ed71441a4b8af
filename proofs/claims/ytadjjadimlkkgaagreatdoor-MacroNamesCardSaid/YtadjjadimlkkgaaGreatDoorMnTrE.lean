/-
  Programs: the program's answer, the reference's. TreeProgs.
-/
import Derived.Test.YtadjjadimlkkgaaGreatDoorMnRdH
namespace Go.Proofs.YtadjjadimlkkgaaGreatDoor
open Go Go.RowKit
set_option maxHeartbeats 8000000
set_option linter.unusedVariables false
set_option linter.unusedSimpArgs false
set_option maxRecDepth 100000

def ZU(d:Dc):Bool:=ZO d.name&&(decide (0≤d.order)&&decide (d.order<3))
def XE(p:Pd):Bool:=ZO p.name&&(decide (((p.params.length:Nat):Int)≤6)&&(p.params.all ZU&&(Y8 p.body 2000&&QW p.body)))
def XD(p:Pg):Bool:=p.decls.all ZU&&(p.preds.all XE&&(Y8 p.main 2000&&QW p.main))
theorem GS{α:Type}(p:α→Bool)(l:List α):(!l.any fun k=> !p k)=l.all p:=by
 induction l with
 |nil=>rfl
 |cons k l ih=>rw[List.any_cons,List.all_cons,←ih];cases p k<;>simp
theorem Lo{α:Type}(p:α→Bool)(l:List α):(l.any fun k=> !p k)= !l.all p:=by rw[←GS,Bool.not_not]
theorem E0(ds:List Dc)(ps:List Pd)(m:Nd):XD ⟨ds,ps,m⟩=(ds.all ZU&&(ps.all XE&&(Y8 m 2000&&QW m))):=rfl
theorem E1(n:List Nat)(pp:List Dc)(b:Nd)(z:Int):XE ⟨n,pp,b,z⟩=(ZO n&&(decide (((pp.length:Nat):Int)≤6)&&(pp.all ZU&&(Y8 b 2000&&QW b)))):=rfl
theorem ZP{α:Type}{l:List α}{i:Nat}{k:α}(h:l[i]? =some k):k∈l:=List.mem_of_getElem? h

theorem R1{nm:List Nat}{od at_:Int}{st:St}(hf:Qu st): ∃v st',Ev Tryz.prog QU 141 [.agg [.str nm,.int .i64 od,.int .i64 at_]] st v st'∧v=.bool (ZU ⟨nm,od,at_⟩)∧Qt st st':=by
 refine QE rfl Tryz.func141 rfl Tryz.ntmps141 rfl fun T hT=>?_;have K:QT [(0,_)] T:=(.cons (hT 0) .nil);have M:=Mem.start hf;refine Qn<|Qb ?_;refine QO K M rfl rfl (by decide) fun c1 _ _ K M=>?_;refine Qf 3 K M ?_;intro _ K;refine oQ K M (XW M.fresh nm) rfl rfl fun _ _ K M=>?_;refine oB K (Qd rfl) rfl fun b6 _ e6 K=>?_;cases b6
 ·refine Qf 10 K M ?_;intro _ K;refine Qe ⟨.inr rfl,_,J5 K rfl,?_⟩;refine⟨congrArg AV.bool ?_,M.qt⟩;rw[ZU]
  simp_all<;>first|done|rfl|omega|(intros;omega)|(intros;simp_all;done)
 refine Qf 4 K M ?_;intro _ K;refine oB K (Qd rfl) rfl fun b11 _ e11 K=>?_;cases b11
 ·replace e11:=of_decide_eq_false e11;refine Qf 5 K M ?_;intro _ K;refine Qe ⟨.inr rfl,_,J5 K rfl,?_⟩;refine⟨congrArg AV.bool ?_,M.qt⟩;rw[ZU]
  simp_all<;>first|done|rfl|omega|(intros;omega)|(intros;simp_all;done)
 replace e11:=of_decide_eq_true e11;refine Qf 5 K M ?_;intro _ K;refine Qe ⟨.inr rfl,_,J5 K rfl,?_⟩;refine⟨congrArg AV.bool ?_,M.qt⟩;rw[ZU]
 simp_all<;>first|done|rfl|omega|(intros;omega)|(intros;simp_all;done)

theorem OY{nm:List Nat}{od at_:Int}{st:St}(hf:Qu st): ∃v st',Ev Tryz.prog QU 140 [.agg [.str nm,.int .i64 od,.int .i64 at_]] st v st'∧v=.bool (!ZU ⟨nm,od,at_⟩)∧Qt st st':=by
 refine QE rfl Tryz.func140 rfl Tryz.ntmps140 rfl fun T hT=>?_;have K:QT [(0,_)] T:=(.cons (hT 0) .nil);have M:=Mem.start hf;refine Qn<|Qb ?_;refine QO K M rfl rfl (by decide) fun c1 _ _ K M=>?_;refine Qf 2 K M ?_;intro _ K;refine oQ K M (R1 M.fresh) rfl rfl fun _ _ K M=>?_;refine Qf 2 K M ?_;intro _ K;refine Qe ⟨.inr rfl,_,J5 K rfl,?_⟩;exact⟨rfl,M.qt⟩

theorem Da{st:St}(hf:Qu st){l:List Dc}{kk:AV}{ls:List (List AV)}(hD:Y1 st.h.get l kk ls){fo:FuncId}{fa fc:List AV}{p:Dc→Bool}(hC: ∀(k:Dc),k∈l→ ∀(st1:St) (cs:List AV),Qt st st1→xo k cs→ ∃v st',Ev Tryz.prog QU fo (fa++([.agg cs]++fc)) st1 v st'∧v=.bool (p k)∧Qt st1 st'): ∃v st',Ev Tryz.prog QU 194 [kk,(AV.fn fo fa fc)] st v st'∧v=.int .i64 (YN p l 0)∧Qt st st':=by
 have hln:=hD.ln;have hbn:=hD.Uj;refine QE rfl Tryz.func194 rfl Tryz.ntmps194 rfl fun T hT=>?_;have K:QT [(0,_),(1,_)] T:=(.cons (hT 0) (.cons (hT 1) .nil));have M:=Mem.start hf;refine Qf 2 K M ?_;intro _ K;refine o1 K (QL JM rfl rfl hD.len) rfl fun _ K=>?_;refine Qf 1 K M ?_;intro _ K;refine JN (fun mm1 T st9=> ∃(i:Nat),mm1=l.length-i∧QT [(0,kk),(1,(AV.fn fo fa fc)),(7,.int .i64 (((l.length:Nat):Int))),(8,.int .i64 (((i:Nat):Int)))] T∧Mem st.h.get st.n [] st9 []∧i≤l.length∧YN p l 0=YN p (l.drop i) i) (fun mm1 T st9 hI=>?_) _ _ _ ⟨0,rfl,(.cons (K _ _ rfl) (.cons (K _ _ rfl) (.cons (K _ _ rfl) (.cons (K _ _ rfl) .nil)))),M.less (.refl _),(Nat.zero_le _),rfl⟩;obtain⟨i,rfl,K,M,hi,hx⟩:=hI;refine Qf 1 K M ?_;intro _ K;refine Xo K rfl (fun h9=>?_) fun h9=>?_
 ·refine Qf 5 K M ?_;intro _ K;obtain⟨⟨dn14,do14,da14⟩,hi14⟩: ∃k,l[i]? =some k:=⟨_,List.getElem?_eq_getElem (by omega)⟩;have hm14:=ZP hi14;obtain⟨_,hc14,rfl,hy14⟩:=hD.at_ _ _ hi14;obtain⟨x14,m14,f14,q14,_,la14,lo14,lp14⟩:=(hD.r.mem M (by simp)).load (i:=i) (cs:=_) hc14;refine o1 K (Qj (j:=i) Yp (congrArg some q14) rfl (by rw[hD.ln];omega)) rfl fun _ K=>o1 K (Qr rfl (la14 _ Xw)) rfl fun _ K=>?_;obtain⟨v16,st16,ev16,rfl,q16⟩:=hC ⟨dn14,do14,da14⟩ hm14 _ _ M.qt ⟨rfl,hy14⟩;refine o1 K (F5 rfl rfl ev16) rfl fun _ K=>?_;replace M:=M.quiet q16;refine Qy ?_;show W _ _ _ _ _ _ _;refine Qm (K.QF rfl) (fun h16=>?_) (fun h16=>?_)
  ·have hb16:=h16;refine Qf 2 K M ?_;intro _ K;refine Qe ⟨.inr rfl,_,J5 K rfl,?_⟩;exact⟨by rw[hx,Xl hi14,if_pos h16],M.qt⟩
  have hb16:=h16;refine Q8 ?_;show W _ _ _ _ _ _ _;refine Qb<|o1 K (Jf rfl rfl (by omega) (by omega)) rfl fun _ K=>o1 K (Qd rfl) rfl fun _ K=>Qy ?_;exact⟨_,(by omega),i+1,rfl,(.cons (K _ _ rfl) (.cons (K _ _ rfl) (.cons (K _ _ rfl) (.cons (K _ _ rfl) .nil)))),M.less (.refl _),(by omega),(by rw[hx,Xl hi14,if_neg (by rw[h16];decide)])⟩
 refine J7 ?_;show W _ _ _ _ _ _ _;refine Qf 1 K M ?_;intro _ K;refine Qe ⟨.inr rfl,_,J5 K rfl,?_⟩;exact⟨by rw[hx,Jo (by omega)];rfl,M.qt⟩

theorem LF{st:St}(hf:Qu st){l:List Dc}{kk:AV}{ls:List (List AV)}(hD:Y1 st.h.get l kk ls){fo:FuncId}{fa fc:List AV}{p:Dc→Bool}(hC: ∀(k:Dc),k∈l→ ∀(st1:St) (cs:List AV),Qt st st1→xo k cs→ ∃v st',Ev Tryz.prog QU fo (fa++([.agg cs]++fc)) st1 v st'∧v=.bool (p k)∧Qt st1 st'): ∃v st',Ev Tryz.prog QU 139 [kk,(AV.fn fo fa fc)] st v st'∧v=.bool (l.any p)∧Qt st st':=by
 have hln:=hD.ln;have hbn:=hD.Uj;refine QE rfl Tryz.func139 rfl Tryz.ntmps139 rfl fun T hT=>?_;have K:QT [(0,_),(1,_)] T:=(.cons (hT 0) (.cons (hT 1) .nil));have M:=Mem.start hf;refine Qf 3 K M ?_;intro _ K;refine oQ K M (Da M.fresh (Y1.mono M.rows hD) (fun k hk st1 cs q hr=>hC k hk st1 cs (M.qt.trans q) hr)) rfl rfl fun _ _ K M=>?_;refine Qf 2 K M ?_;intro _ K;refine Qe ⟨.inr rfl,_,J5 K rfl,?_⟩;exact⟨by rw[←FD p l 0],M.qt⟩

theorem Iq{st:St}(hf:Qu st){l:List Dc}{kk:AV}{ls:List (List AV)}(hD:Y1 st.h.get l kk ls): ∃v st',Ev Tryz.prog QU 86 [kk] st v st'∧v=.bool (l.all ZU)∧Qt st st':=by
 refine QE rfl Tryz.func86 rfl Tryz.ntmps86 rfl fun T hT=>?_;have K:QT [(0,_)] T:=(.cons (hT 0) .nil);have M:=Mem.start hf;refine Qf 2 K M ?_;intro _ K
 obtain⟨v4,st4,ev4,rfl,q4⟩:=LF (fa:=[]) (fc:=[]) (p:=fun k=> !ZU k) M.fresh (Y1.mono M.rows hD) (fun k hk st1 cs q hr1=>by
  obtain⟨k1,k2,k3⟩:=k;obtain⟨rfl,hy⟩:=hr1
  exact OY q.fresh)
 refine o1 K (Ql rfl ev4) rfl fun _ K=>?_;replace M:=M.quiet q4;refine Qf 2 K M ?_;intro _ K;refine Qe ⟨.inr rfl,_,J5 K rfl,?_⟩;exact⟨by rw[GS],M.qt⟩

theorem Rv{pn:List Nat}{pp:List Dc}{o s:List Nat}{z a pa:Int}{l:List Nd}{st:St}{cs:List AV}(hf:Qu st)(hr:Cm st.h.get ⟨pn,pp,.mk o s z a l,pa⟩ cs): ∃v st',Ev Tryz.prog QU 89 [.agg cs] st v st'∧v=.bool (XE ⟨pn,pp,.mk o s z a l,pa⟩)∧Qt st st':=by
 have hr0:=hr;have hr0:=hr;obtain⟨kd,ld,o,s,z,a,kk,rfl,hD,hn,hy⟩:=hr0;obtain⟨kx,ls,ex,hK,hb⟩:=hn.QJ
 injection ex with x1 x;injection x with x2 x;injection x with x3 x;injection x with x4 x;injection x with x5 x
 injection x1 with x1;injection x2 with x2;injection x3 with _ x3;injection x4 with _ x4
 subst x1 x2 x3 x4 x5;replace hD:Y1 st.h.get pp kd ld:=hD;replace hn:UN st.h.get (.mk o s z a l) _:=hn;replace hy:Bytes pn:=hy;have hl:=hK.Uj;have hd:=hD.Uj;refine QE rfl Tryz.func89 rfl Tryz.ntmps89 rfl fun T hT=>?_;have K:QT [(0,_)] T:=(.cons (hT 0) .nil);have M:=Mem.start hf;refine Qn<|Qb ?_;refine QO K M rfl (Qa rfl (Qa hD.cell (Qa rfl (Qa rfl (Qa rfl (Qa rfl (Qa hK.cell (Qa rfl Qp)))))))) (by decide) fun c1 _ _ K M=>?_;refine Qf 3 K M ?_;intro _ K;refine oQ K M (XW M.fresh pn) rfl rfl fun _ _ K M=>?_;refine oB K (Qd rfl) rfl fun b6 _ e6 K=>?_;cases b6
 ·refine Qf 16 K M ?_;intro _ K;refine Qe ⟨.inr rfl,_,J5 K rfl,?_⟩;refine⟨congrArg AV.bool ?_,M.qt⟩;rw[E1]
  try clear hr
  try clear hr0
  try clear hD
  try clear hn
  try clear hK
  try clear hb
  try generalize pp.all ZU=q1 at *
  try generalize Y8 (.mk o s z a l) 2000=q2 at *
  try generalize QW (.mk o s z a l)=q3 at *
  simp_all<;>first|done|rfl|omega|(intros;omega)|(intros;simp_all;done)
 refine Qf 2 K M ?_;intro _ K;refine og K rfl rfl (QL JM rfl rfl hD.len) rfl fun _ K=>?_;refine Qf 2 K M ?_;intro _ K;refine oB K (Qd rfl) rfl fun b12 _ e12 K=>?_;cases b12
 ·replace e12:=of_decide_eq_false e12;refine Qf 10 K M ?_;intro _ K;refine Qe ⟨.inr rfl,_,J5 K rfl,?_⟩;refine⟨congrArg AV.bool ?_,M.qt⟩;rw[E1]
  try clear hr
  try clear hr0
  try clear hD
  try clear hn
  try clear hK
  try clear hb
  try generalize pp.all ZU=q1 at *
  try generalize Y8 (.mk o s z a l) 2000=q2 at *
  try generalize QW (.mk o s z a l)=q3 at *
  simp_all<;>first|done|rfl|omega|(intros;omega)|(intros;simp_all;done)
 replace e12:=of_decide_eq_true e12;refine Qf 2 K M ?_;intro _ K;obtain⟨v15,st15,ev15,rfl,q15⟩:=Iq M.fresh (Y1.mono M.rows hD);refine og K rfl rfl (Ql rfl ev15) rfl fun _ K=>?_;replace M:=M.quiet q15;refine o1 K (ZN rfl rfl rfl) rfl fun _ K=>?_;refine oB K (Qd rfl) rfl fun b17 _ e17 K=>?_;cases b17
 ·refine Qf 5 K M ?_;intro _ K;refine Qe ⟨.inr rfl,_,J5 K rfl,?_⟩;refine⟨congrArg AV.bool ?_,M.qt⟩;rw[E1]
  try clear hr
  try clear hr0
  try clear hD
  try clear hn
  try clear hK
  try clear hb
  try generalize pp.all ZU=q1 at *
  try generalize Y8 (.mk o s z a l) 2000=q2 at *
  try generalize QW (.mk o s z a l)=q3 at *
  simp_all<;>first|done|rfl|omega|(intros;omega)|(intros;simp_all;done)
 refine Qf 2 K M ?_;intro _ K;obtain⟨v20,st20,ev20,rfl,q20⟩:=Aq M.fresh (hn.mono M.rows);refine og K rfl rfl (Ql rfl ev20) rfl fun _ K=>?_;replace M:=M.quiet q20;refine Qf 2 K M ?_;intro _ K;refine Qe ⟨.inr rfl,_,J5 K rfl,?_⟩;refine⟨congrArg AV.bool ?_,M.qt⟩;rw[E1]
 try clear hr
 try clear hr0
 try clear hD
 try clear hn
 try clear hK
 try clear hb
 try generalize pp.all ZU=q1 at *
 try generalize Y8 (.mk o s z a l) 2000=q2 at *
 try generalize QW (.mk o s z a l)=q3 at *
 simp_all<;>first|done|rfl|omega|(intros;omega)|(intros;simp_all;done)

theorem yI{pn:List Nat}{pp:List Dc}{o s:List Nat}{z a pa:Int}{l:List Nd}{st:St}{cs:List AV}(hf:Qu st)(hr:Cm st.h.get ⟨pn,pp,.mk o s z a l,pa⟩ cs): ∃v st',Ev Tryz.prog QU 88 [.agg cs] st v st'∧v=.bool (!XE ⟨pn,pp,.mk o s z a l,pa⟩)∧Qt st st':=by
 have hr0:=hr;have hr0:=hr;obtain⟨kd,ld,o,s,z,a,kk,rfl,hD,hn,hy⟩:=hr0;obtain⟨kx,ls,ex,hK,hb⟩:=hn.QJ
 injection ex with x1 x;injection x with x2 x;injection x with x3 x;injection x with x4 x;injection x with x5 x
 injection x1 with x1;injection x2 with x2;injection x3 with _ x3;injection x4 with _ x4
 subst x1 x2 x3 x4 x5;replace hD:Y1 st.h.get pp kd ld:=hD;replace hn:UN st.h.get (.mk o s z a l) _:=hn;replace hy:Bytes pn:=hy;have hl:=hK.Uj;have hd:=hD.Uj;refine QE rfl Tryz.func88 rfl Tryz.ntmps88 rfl fun T hT=>?_;have K:QT [(0,_)] T:=(.cons (hT 0) .nil);have M:=Mem.start hf;refine Qn<|Qb ?_;refine QO K M rfl (Qa rfl (Qa hD.cell (Qa rfl (Qa rfl (Qa rfl (Qa rfl (Qa hK.cell (Qa rfl Qp)))))))) (by decide) fun c1 _ _ K M=>?_;refine Qf 2 K M ?_;intro _ K;refine oQ K M (Rv M.fresh (hr.mono M.rows)) rfl rfl fun _ _ K M=>?_;refine Qf 2 K M ?_;intro _ K;refine Qe ⟨.inr rfl,_,J5 K rfl,?_⟩;exact⟨rfl,M.qt⟩

theorem AT{st:St}(hf:Qu st){l:List Pd}{kk:AV}{ls:List (List AV)}(hD:ET st.h.get l kk ls){fo:FuncId}{fa fc:List AV}{p:Pd→Bool}(hC: ∀(k:Pd),k∈l→ ∀(st1:St) (cs:List AV),Qt st st1→Cm st1.h.get k cs→ ∃v st',Ev Tryz.prog QU fo (fa++([.agg cs]++fc)) st1 v st'∧v=.bool (p k)∧Qt st1 st'): ∃v st',Ev Tryz.prog QU 142 [kk,(AV.fn fo fa fc)] st v st'∧v=.int .i64 (YN p l 0)∧Qt st st':=by
 have hln:=hD.ln;have hbn:=hD.Uj;refine QE rfl Tryz.func142 rfl Tryz.ntmps142 rfl fun T hT=>?_;have K:QT [(0,_),(1,_)] T:=(.cons (hT 0) (.cons (hT 1) .nil));have M:=Mem.start hf;refine Qf 2 K M ?_;intro _ K;refine o1 K (QL Ym rfl rfl hD.len) rfl fun _ K=>?_;refine Qf 1 K M ?_;intro _ K;refine JN (fun mm1 T st9=> ∃(i:Nat),mm1=l.length-i∧QT [(0,kk),(1,(AV.fn fo fa fc)),(7,.int .i64 (((l.length:Nat):Int))),(8,.int .i64 (((i:Nat):Int)))] T∧Mem st.h.get st.n [] st9 []∧i≤l.length∧YN p l 0=YN p (l.drop i) i) (fun mm1 T st9 hI=>?_) _ _ _ ⟨0,rfl,(.cons (K _ _ rfl) (.cons (K _ _ rfl) (.cons (K _ _ rfl) (.cons (K _ _ rfl) .nil)))),M.less (.refl _),(Nat.zero_le _),rfl⟩;obtain⟨i,rfl,K,M,hi,hx⟩:=hI;refine Qf 1 K M ?_;intro _ K;refine Xo K rfl (fun h9=>?_) fun h9=>?_
 ·refine Qf 5 K M ?_;intro _ K;obtain⟨⟨pn14,pp14,⟨_,_,_,_,l14⟩,pa14⟩,hi14⟩: ∃k,l[i]? =some k:=⟨_,List.getElem?_eq_getElem (by omega)⟩;have hm14:=ZP hi14;obtain⟨_,hc14,hP14⟩:=hD.at_ _ _ hi14;have hP140:=hP14;obtain⟨kd14,ld14,o14,s14,z14,a14,kk14,rfl,hD14,hn14,hy14⟩:=hP140;obtain⟨kx14,ls14,ex14,hK14,hb14⟩:=hn14.QJ
  injection ex14 with x1 x;injection x with x2 x;injection x with x3 x;injection x with x4 x;injection x with x5 x
  injection x1 with x1;injection x2 with x2;injection x3 with _ x3;injection x4 with _ x4
  subst x1 x2 x3 x4 x5;replace hD14:Y1 st.h.get pp14 kd14 ld14:=hD14;replace hn14:UN st.h.get (.mk o14 s14 z14 a14 l14) _:=hn14;replace hy14:Bytes pn14:=hy14;have hl14:=hK14.Uj;have hd14:=hD14.Uj;obtain⟨x14,m14,f14,q14,_,la14,lo14,lp14⟩:=(hD.r.mem M (by simp)).load (i:=i) (cs:=_) hc14;refine o1 K (Qj (j:=i) U1 (congrArg some q14) rfl (by rw[hD.ln];omega)) rfl fun _ K=>o1 K (Qr rfl (la14 _ Y7)) rfl fun _ K=>?_;obtain⟨v16,st16,ev16,rfl,q16⟩:=hC ⟨pn14,pp14,.mk o14 s14 z14 a14 l14,pa14⟩ hm14 _ _ M.qt (hP14.mono M.rows);refine o1 K (F5 rfl rfl ev16) rfl fun _ K=>?_;replace M:=M.quiet q16;refine Qy ?_;show W _ _ _ _ _ _ _;refine Qm (K.QF rfl) (fun h16=>?_) (fun h16=>?_)
  ·have hb16:=h16;refine Qf 2 K M ?_;intro _ K;refine Qe ⟨.inr rfl,_,J5 K rfl,?_⟩;exact⟨by rw[hx,Xl hi14,if_pos h16],M.qt⟩
  have hb16:=h16;refine Q8 ?_;show W _ _ _ _ _ _ _;refine Qb<|o1 K (Jf rfl rfl (by omega) (by omega)) rfl fun _ K=>o1 K (Qd rfl) rfl fun _ K=>Qy ?_;exact⟨_,(by omega),i+1,rfl,(.cons (K _ _ rfl) (.cons (K _ _ rfl) (.cons (K _ _ rfl) (.cons (K _ _ rfl) .nil)))),M.less (.refl _),(by omega),(by rw[hx,Xl hi14,if_neg (by rw[h16];decide)])⟩
 refine J7 ?_;show W _ _ _ _ _ _ _;refine Qf 1 K M ?_;intro _ K;refine Qe ⟨.inr rfl,_,J5 K rfl,?_⟩;exact⟨by rw[hx,Jo (by omega)];rfl,M.qt⟩

theorem A1{st:St}(hf:Qu st){l:List Pd}{kk:AV}{ls:List (List AV)}(hD:ET st.h.get l kk ls){fo:FuncId}{fa fc:List AV}{p:Pd→Bool}(hC: ∀(k:Pd),k∈l→ ∀(st1:St) (cs:List AV),Qt st st1→Cm st1.h.get k cs→ ∃v st',Ev Tryz.prog QU fo (fa++([.agg cs]++fc)) st1 v st'∧v=.bool (p k)∧Qt st1 st'): ∃v st',Ev Tryz.prog QU 87 [kk,(AV.fn fo fa fc)] st v st'∧v=.bool (l.any p)∧Qt st st':=by
 have hln:=hD.ln;have hbn:=hD.Uj;refine QE rfl Tryz.func87 rfl Tryz.ntmps87 rfl fun T hT=>?_;have K:QT [(0,_),(1,_)] T:=(.cons (hT 0) (.cons (hT 1) .nil));have M:=Mem.start hf;refine Qf 3 K M ?_;intro _ K;refine oQ K M (AT M.fresh (ET.mono M.rows hD) (fun k hk st1 cs q hr=>hC k hk st1 cs (M.qt.trans q) hr)) rfl rfl fun _ _ K M=>?_;refine Qf 2 K M ?_;intro _ K;refine Qe ⟨.inr rfl,_,J5 K rfl,?_⟩;exact⟨by rw[←FD p l 0],M.qt⟩

theorem yp{ds:List Dc}{ps:List Pd}{o s:List Nat}{z a:Int}{l:List Nd}{st:St}{cs:List AV}(hf:Qu st)(hr:Sg st.h.get ⟨ds,ps,.mk o s z a l⟩ cs): ∃v st',Ev Tryz.prog QU 43 [.agg cs] st v st'∧v=.bool (XD ⟨ds,ps,.mk o s z a l⟩)∧Qt st st':=by
 have hr0:=hr;obtain⟨kd,ld,kp,lp,o,s,z,a,kk,rfl,hD,hP,hn⟩:=hr0;obtain⟨kx,ls,ex,hK,hb⟩:=hn.QJ
 injection ex with x1 x;injection x with x2 x;injection x with x3 x;injection x with x4 x;injection x with x5 x
 injection x1 with x1;injection x2 with x2;injection x3 with _ x3;injection x4 with _ x4
 subst x1 x2 x3 x4 x5;replace hD:Y1 st.h.get ds kd ld:=hD;replace hP:ET st.h.get ps kp lp:=hP;replace hn:UN st.h.get (.mk o s z a l) _:=hn;have hbk:=hK.Uj;have hbd:=hD.Uj;have hbp:=hP.Uj;have hlp:=hP.ln;refine QE rfl Tryz.func43 rfl Tryz.ntmps43 rfl fun T hT=>?_;have K:QT [(0,_)] T:=(.cons (hT 0) .nil);have M:=Mem.start hf;refine Qn<|Qb ?_;refine QO K M rfl (Qa hD.cell (Qa hP.cell (Qa rfl (Qa rfl (Qa rfl (Qa rfl (Qa hK.cell Qp))))))) (by decide) fun c1 _ _ K M=>?_;refine Qf 3 K M ?_;intro _ K;refine oQ K M (Iq M.fresh (Y1.mono M.rows hD)) rfl rfl fun _ _ K M=>?_;refine oB K (Qd rfl) rfl fun b6 _ e6 K=>?_;cases b6
 ·refine Qf 11 K M ?_;intro _ K;refine Qe ⟨.inr rfl,_,J5 K rfl,?_⟩;refine⟨congrArg AV.bool ?_,M.qt⟩;rw[E0]
  try simp only[Lo]at *
  try clear hr
  try clear hr0
  try clear hD
  try clear hP
  try clear hn
  try clear hK
  try clear hb
  try generalize ds.all ZU=q1 at *
  try generalize ps.all XE=q4 at *
  try generalize Y8 (.mk o s z a l) 2000=q2 at *
  try generalize QW (.mk o s z a l)=q3 at *
  simp_all<;>first|done|rfl|omega|(intros;omega)|(intros;simp_all;done)
 refine Qf 2 K M ?_;intro _ K
 obtain⟨v9,st9,ev9,rfl,q9⟩:=A1 (fa:=[]) (fc:=[]) (p:=fun k=> !XE k) M.fresh (ET.mono M.rows hP) (fun k hk st1 cs q hr1=>by
  obtain⟨pn,pp,⟨o1,s1,z1,a1,l1⟩,pa⟩:=k
  exact yI q.fresh hr1)
 refine og K rfl rfl (Ql rfl ev9) rfl fun _ K=>?_;replace M:=M.quiet q9;refine Qf 2 K M ?_;intro _ K;refine oB K (Qd rfl) rfl fun b12 _ e12 K=>?_;cases b12
 ·replace e12:(ps.any fun k=> !XE k)=true:=by first|simpa using e12|(revert e12;cases(ps.any fun k=> !XE k)<;>simp)
  refine Qf 5 K M ?_;intro _ K;refine Qe ⟨.inr rfl,_,J5 K rfl,?_⟩;refine⟨congrArg AV.bool ?_,M.qt⟩;rw[E0]
  try simp only[Lo]at *
  try clear hr
  try clear hr0
  try clear hD
  try clear hP
  try clear hn
  try clear hK
  try clear hb
  try generalize ds.all ZU=q1 at *
  try generalize ps.all XE=q4 at *
  try generalize Y8 (.mk o s z a l) 2000=q2 at *
  try generalize QW (.mk o s z a l)=q3 at *
  simp_all<;>first|done|rfl|omega|(intros;omega)|(intros;simp_all;done)
 replace e12:(ps.any fun k=> !XE k)=false:=by first|simpa using e12|(revert e12;cases(ps.any fun k=> !XE k)<;>simp)
 refine Qf 2 K M ?_;intro _ K;obtain⟨v15,st15,ev15,rfl,q15⟩:=Aq M.fresh (hn.mono M.rows);refine og K rfl rfl (Ql rfl ev15) rfl fun _ K=>?_;replace M:=M.quiet q15;refine Qf 2 K M ?_;intro _ K;refine Qe ⟨.inr rfl,_,J5 K rfl,?_⟩;refine⟨congrArg AV.bool ?_,M.qt⟩;rw[E0]
 try simp only[Lo]at *
 try clear hr
 try clear hr0
 try clear hD
 try clear hP
 try clear hn
 try clear hK
 try clear hb
 try generalize ds.all ZU=q1 at *
 try generalize ps.all XE=q4 at *
 try generalize Y8 (.mk o s z a l) 2000=q2 at *
 try generalize QW (.mk o s z a l)=q3 at *
 simp_all<;>first|done|rfl|omega|(intros;omega)|(intros;simp_all;done)

end Go.Proofs.YtadjjadimlkkgaaGreatDoor
