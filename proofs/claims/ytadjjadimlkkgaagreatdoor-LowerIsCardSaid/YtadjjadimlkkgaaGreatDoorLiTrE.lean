/-
  Programs: the program's answer, the reference's. TreeProgs.
-/
import Derived.Test.YtadjjadimlkkgaaGreatDoorLiFrP
import Derived.Test.YtadjjadimlkkgaaGreatDoorLiPaP
namespace Go.Proofs.YtadjjadimlkkgaaGreatDoor
open Go Go.RowKit
set_option maxHeartbeats 8000000
set_option linter.unusedVariables false
set_option linter.unusedSimpArgs false
set_option maxRecDepth 100000

def Z6(d:Dc):Bool:=ZT d.name&&(decide (0≤d.order)&&decide (d.order<3))
def XA(p:Pd):Bool:=ZT p.name&&(decide (((p.params.length:Nat):Int)≤6)&&(p.params.all Z6&&(Uj p.body 2000&&QO p.body)))
def V2(p:Pg):Bool:=p.decls.all Z6&&(p.preds.all XA&&(Uj p.main 2000&&QO p.main))
theorem Gb{α:Type}(p:α→Bool)(l:List α):(!l.any fun k=> !p k)=l.all p:=by
 induction l with
 |nil=>rfl
 |cons k l ih=>rw[List.any_cons,List.all_cons,←ih];cases p k<;>simp
theorem Km{α:Type}(p:α→Bool)(l:List α):(l.any fun k=> !p k)= !l.all p:=by rw[←Gb,Bool.not_not]
theorem W8(ds:List Dc)(ps:List Pd)(m:Nd):V2 ⟨ds,ps,m⟩=(ds.all Z6&&(ps.all XA&&(Uj m 2000&&QO m))):=rfl
theorem W9(n:List Nat)(pp:List Dc)(b:Nd)(z:Int):XA ⟨n,pp,b,z⟩=(ZT n&&(decide (((pp.length:Nat):Int)≤6)&&(pp.all Z6&&(Uj b 2000&&QO b)))):=rfl
theorem XV{α:Type}{l:List α}{i:Nat}{k:α}(h:l[i]? =some k):k∈l:=List.mem_of_getElem? h

theorem Pt{nm:List Nat}{od at_:Int}{st:St}(hf:Qx st): ∃v st',Ev Tryz.prog QT 141 [.agg [.str nm,.int .i64 od,.int .i64 at_]] st v st'∧v=.bool (Z6 ⟨nm,od,at_⟩)∧Qt st st':=by
 refine Q6 rfl Tryz.func141 rfl Tryz.ntmps141 rfl fun T hT=>?_;have K:Jf [(0,_)] T:=(.cons (hT 0) .nil);have M:=Mem.start hf;refine Qo<|Qb ?_;refine QM K M rfl rfl (by decide) fun c1 _ _ K M=>?_;refine Qg 3 K M ?_;intro _ K;refine oQ K M (X0 M.fresh nm) rfl rfl fun _ _ K M=>?_;refine oB K (Qc rfl) rfl fun b6 _ e6 K=>?_;cases b6
 ·refine Qg 10 K M ?_;intro _ K;refine Qf ⟨.inr rfl,_,J4 K rfl,?_⟩;refine⟨congrArg AV.bool ?_,M.qt⟩;rw[Z6]
  simp_all<;>first|done|rfl|omega|(intros;omega)|(intros;simp_all;done)
 refine Qg 4 K M ?_;intro _ K;refine oB K (Qc rfl) rfl fun b11 _ e11 K=>?_;cases b11
 ·replace e11:=of_decide_eq_false e11;refine Qg 5 K M ?_;intro _ K;refine Qf ⟨.inr rfl,_,J4 K rfl,?_⟩;refine⟨congrArg AV.bool ?_,M.qt⟩;rw[Z6]
  simp_all<;>first|done|rfl|omega|(intros;omega)|(intros;simp_all;done)
 replace e11:=of_decide_eq_true e11;refine Qg 5 K M ?_;intro _ K;refine Qf ⟨.inr rfl,_,J4 K rfl,?_⟩;refine⟨congrArg AV.bool ?_,M.qt⟩;rw[Z6]
 simp_all<;>first|done|rfl|omega|(intros;omega)|(intros;simp_all;done)

theorem Om{nm:List Nat}{od at_:Int}{st:St}(hf:Qx st): ∃v st',Ev Tryz.prog QT 140 [.agg [.str nm,.int .i64 od,.int .i64 at_]] st v st'∧v=.bool (!Z6 ⟨nm,od,at_⟩)∧Qt st st':=by
 refine Q6 rfl Tryz.func140 rfl Tryz.ntmps140 rfl fun T hT=>?_;have K:Jf [(0,_)] T:=(.cons (hT 0) .nil);have M:=Mem.start hf;refine Qo<|Qb ?_;refine QM K M rfl rfl (by decide) fun c1 _ _ K M=>?_;refine Qg 2 K M ?_;intro _ K;refine oQ K M (Pt M.fresh) rfl rfl fun _ _ K M=>?_;refine Qg 2 K M ?_;intro _ K;refine Qf ⟨.inr rfl,_,J4 K rfl,?_⟩;exact⟨rfl,M.qt⟩

theorem BU{st:St}(hf:Qx st){l:List Dc}{kk:AV}{ls:List (List AV)}(hD:Y8 st.h.get l kk ls){fo:FuncId}{fa fc:List AV}{p:Dc→Bool}(hC: ∀(k:Dc),k∈l→ ∀(st1:St) (cs:List AV),Qt st st1→yC k cs→ ∃v st',Ev Tryz.prog QT fo (fa++([.agg cs]++fc)) st1 v st'∧v=.bool (p k)∧Qt st1 st'): ∃v st',Ev Tryz.prog QT 194 [kk,(AV.fn fo fa fc)] st v st'∧v=.int .i64 (Wc p l 0)∧Qt st st':=by
 have hln:=hD.ln;have hbn:=hD.UK;refine Q6 rfl Tryz.func194 rfl Tryz.ntmps194 rfl fun T hT=>?_;have K:Jf [(0,_),(1,_)] T:=(.cons (hT 0) (.cons (hT 1) .nil));have M:=Mem.start hf;refine Qg 2 K M ?_;intro _ K;refine o1 K (QF JL rfl rfl hD.len) rfl fun _ K=>?_;refine Qg 1 K M ?_;intro _ K;refine UW (fun mm1 T st9=> ∃(i:Nat),mm1=l.length-i∧Jf [(0,kk),(1,(AV.fn fo fa fc)),(7,.int .i64 (((l.length:Nat):Int))),(8,.int .i64 (((i:Nat):Int)))] T∧Mem st.h.get st.n [] st9 []∧i≤l.length∧Wc p l 0=Wc p (l.drop i) i) (fun mm1 T st9 hI=>?_) _ _ _ ⟨0,rfl,(.cons (K _ _ rfl) (.cons (K _ _ rfl) (.cons (K _ _ rfl) (.cons (K _ _ rfl) .nil)))),M.less (.refl _),(Nat.zero_le _),rfl⟩;obtain⟨i,rfl,K,M,hi,hx⟩:=hI;refine Qg 1 K M ?_;intro _ K;refine YI K rfl (fun h9=>?_) fun h9=>?_
 ·refine Qg 5 K M ?_;intro _ K;obtain⟨⟨dn14,do14,da14⟩,hi14⟩: ∃k,l[i]? =some k:=⟨_,List.getElem?_eq_getElem (by omega)⟩;have hm14:=XV hi14;obtain⟨_,hc14,rfl,hy14⟩:=hD.at_ _ _ hi14;obtain⟨x14,m14,f14,q14,_,la14,lo14,lp14⟩:=(hD.r.mem M (by simp)).load (i:=i) (cs:=_) hc14;refine o1 K (Qe (j:=i) Yf (congrArg some q14) rfl (by rw[hD.ln];omega)) rfl fun _ K=>o1 K (Qr rfl (la14 _ ZN)) rfl fun _ K=>?_;obtain⟨v16,st16,ev16,rfl,q16⟩:=hC ⟨dn14,do14,da14⟩ hm14 _ _ M.qt ⟨rfl,hy14⟩;refine o1 K (Uu rfl rfl ev16) rfl fun _ K=>?_;replace M:=M.quiet q16;refine QG ?_;show W _ _ _ _ _ _ _;refine Qs (K.QB rfl) (fun h16=>?_) (fun h16=>?_)
  ·have hb16:=h16;refine Qg 2 K M ?_;intro _ K;refine Qf ⟨.inr rfl,_,J4 K rfl,?_⟩;exact⟨by rw[hx,X1 hi14,if_pos h16],M.qt⟩
  have hb16:=h16;refine QU ?_;show W _ _ _ _ _ _ _;refine Qb<|o1 K (Jo rfl rfl (by omega) (by omega)) rfl fun _ K=>o1 K (Qc rfl) rfl fun _ K=>QG ?_;exact⟨_,(by omega),i+1,rfl,(.cons (K _ _ rfl) (.cons (K _ _ rfl) (.cons (K _ _ rfl) (.cons (K _ _ rfl) .nil)))),M.less (.refl _),(by omega),(by rw[hx,X1 hi14,if_neg (by rw[h16];decide)])⟩
 refine Uq ?_;show W _ _ _ _ _ _ _;refine Qg 1 K M ?_;intro _ K;refine Qf ⟨.inr rfl,_,J4 K rfl,?_⟩;exact⟨by rw[hx,Un (by omega)];rfl,M.qt⟩

theorem KR{st:St}(hf:Qx st){l:List Dc}{kk:AV}{ls:List (List AV)}(hD:Y8 st.h.get l kk ls){fo:FuncId}{fa fc:List AV}{p:Dc→Bool}(hC: ∀(k:Dc),k∈l→ ∀(st1:St) (cs:List AV),Qt st st1→yC k cs→ ∃v st',Ev Tryz.prog QT fo (fa++([.agg cs]++fc)) st1 v st'∧v=.bool (p k)∧Qt st1 st'): ∃v st',Ev Tryz.prog QT 139 [kk,(AV.fn fo fa fc)] st v st'∧v=.bool (l.any p)∧Qt st st':=by
 have hln:=hD.ln;have hbn:=hD.UK;refine Q6 rfl Tryz.func139 rfl Tryz.ntmps139 rfl fun T hT=>?_;have K:Jf [(0,_),(1,_)] T:=(.cons (hT 0) (.cons (hT 1) .nil));have M:=Mem.start hf;refine Qg 3 K M ?_;intro _ K;refine oQ K M (BU M.fresh (Y8.mono M.rows hD) (fun k hk st1 cs q hr=>hC k hk st1 cs (M.qt.trans q) hr)) rfl rfl fun _ _ K M=>?_;refine Qg 2 K M ?_;intro _ K;refine Qf ⟨.inr rfl,_,J4 K rfl,?_⟩;exact⟨by rw[←IF p l 0],M.qt⟩

theorem He{st:St}(hf:Qx st){l:List Dc}{kk:AV}{ls:List (List AV)}(hD:Y8 st.h.get l kk ls): ∃v st',Ev Tryz.prog QT 86 [kk] st v st'∧v=.bool (l.all Z6)∧Qt st st':=by
 refine Q6 rfl Tryz.func86 rfl Tryz.ntmps86 rfl fun T hT=>?_;have K:Jf [(0,_)] T:=(.cons (hT 0) .nil);have M:=Mem.start hf;refine Qg 2 K M ?_;intro _ K
 obtain⟨v4,st4,ev4,rfl,q4⟩:=KR (fa:=[]) (fc:=[]) (p:=fun k=> !Z6 k) M.fresh (Y8.mono M.rows hD) (fun k hk st1 cs q hr1=>by
  obtain⟨k1,k2,k3⟩:=k;obtain⟨rfl,hy⟩:=hr1
  exact Om q.fresh)
 refine o1 K (Ql rfl ev4) rfl fun _ K=>?_;replace M:=M.quiet q4;refine Qg 2 K M ?_;intro _ K;refine Qf ⟨.inr rfl,_,J4 K rfl,?_⟩;exact⟨by rw[Gb],M.qt⟩

theorem Pp{pn:List Nat}{pp:List Dc}{o s:List Nat}{z a pa:Int}{l:List Nd}{st:St}{cs:List AV}(hf:Qx st)(hr:Mb st.h.get ⟨pn,pp,.mk o s z a l,pa⟩ cs): ∃v st',Ev Tryz.prog QT 89 [.agg cs] st v st'∧v=.bool (XA ⟨pn,pp,.mk o s z a l,pa⟩)∧Qt st st':=by
 have hr0:=hr;have hr0:=hr;obtain⟨kd,ld,o,s,z,a,kk,rfl,hD,hn,hy⟩:=hr0;obtain⟨kx,ls,ex,hK,hb⟩:=hn.Jl
 injection ex with x1 x;injection x with x2 x;injection x with x3 x;injection x with x4 x;injection x with x5 x
 injection x1 with x1;injection x2 with x2;injection x3 with _ x3;injection x4 with _ x4
 subst x1 x2 x3 x4 x5;replace hD:Y8 st.h.get pp kd ld:=hD;replace hn:Yq st.h.get (.mk o s z a l) _:=hn;replace hy:Bytes pn:=hy;have hl:=hK.UK;have hd:=hD.UK;refine Q6 rfl Tryz.func89 rfl Tryz.ntmps89 rfl fun T hT=>?_;have K:Jf [(0,_)] T:=(.cons (hT 0) .nil);have M:=Mem.start hf;refine Qo<|Qb ?_;refine QM K M rfl (Qa rfl (Qa hD.cell (Qa rfl (Qa rfl (Qa rfl (Qa rfl (Qa hK.cell (Qa rfl Qy)))))))) (by decide) fun c1 _ _ K M=>?_;refine Qg 3 K M ?_;intro _ K;refine oQ K M (X0 M.fresh pn) rfl rfl fun _ _ K M=>?_;refine oB K (Qc rfl) rfl fun b6 _ e6 K=>?_;cases b6
 ·refine Qg 16 K M ?_;intro _ K;refine Qf ⟨.inr rfl,_,J4 K rfl,?_⟩;refine⟨congrArg AV.bool ?_,M.qt⟩;rw[W9]
  try clear hr
  try clear hr0
  try clear hD
  try clear hn
  try clear hK
  try clear hb
  try generalize pp.all Z6=q1 at *
  try generalize Uj (.mk o s z a l) 2000=q2 at *
  try generalize QO (.mk o s z a l)=q3 at *
  simp_all<;>first|done|rfl|omega|(intros;omega)|(intros;simp_all;done)
 refine Qg 2 K M ?_;intro _ K;refine og K rfl rfl (QF JL rfl rfl hD.len) rfl fun _ K=>?_;refine Qg 2 K M ?_;intro _ K;refine oB K (Qc rfl) rfl fun b12 _ e12 K=>?_;cases b12
 ·replace e12:=of_decide_eq_false e12;refine Qg 10 K M ?_;intro _ K;refine Qf ⟨.inr rfl,_,J4 K rfl,?_⟩;refine⟨congrArg AV.bool ?_,M.qt⟩;rw[W9]
  try clear hr
  try clear hr0
  try clear hD
  try clear hn
  try clear hK
  try clear hb
  try generalize pp.all Z6=q1 at *
  try generalize Uj (.mk o s z a l) 2000=q2 at *
  try generalize QO (.mk o s z a l)=q3 at *
  simp_all<;>first|done|rfl|omega|(intros;omega)|(intros;simp_all;done)
 replace e12:=of_decide_eq_true e12;refine Qg 2 K M ?_;intro _ K;obtain⟨v15,st15,ev15,rfl,q15⟩:=He M.fresh (Y8.mono M.rows hD);refine og K rfl rfl (Ql rfl ev15) rfl fun _ K=>?_;replace M:=M.quiet q15;refine o1 K (VT rfl rfl rfl) rfl fun _ K=>?_;refine oB K (Qc rfl) rfl fun b17 _ e17 K=>?_;cases b17
 ·refine Qg 5 K M ?_;intro _ K;refine Qf ⟨.inr rfl,_,J4 K rfl,?_⟩;refine⟨congrArg AV.bool ?_,M.qt⟩;rw[W9]
  try clear hr
  try clear hr0
  try clear hD
  try clear hn
  try clear hK
  try clear hb
  try generalize pp.all Z6=q1 at *
  try generalize Uj (.mk o s z a l) 2000=q2 at *
  try generalize QO (.mk o s z a l)=q3 at *
  simp_all<;>first|done|rfl|omega|(intros;omega)|(intros;simp_all;done)
 refine Qg 2 K M ?_;intro _ K;obtain⟨v20,st20,ev20,rfl,q20⟩:=Ve M.fresh (hn.mono M.rows);refine og K rfl rfl (Ql rfl ev20) rfl fun _ K=>?_;replace M:=M.quiet q20;refine Qg 2 K M ?_;intro _ K;refine Qf ⟨.inr rfl,_,J4 K rfl,?_⟩;refine⟨congrArg AV.bool ?_,M.qt⟩;rw[W9]
 try clear hr
 try clear hr0
 try clear hD
 try clear hn
 try clear hK
 try clear hb
 try generalize pp.all Z6=q1 at *
 try generalize Uj (.mk o s z a l) 2000=q2 at *
 try generalize QO (.mk o s z a l)=q3 at *
 simp_all<;>first|done|rfl|omega|(intros;omega)|(intros;simp_all;done)

theorem uf{pn:List Nat}{pp:List Dc}{o s:List Nat}{z a pa:Int}{l:List Nd}{st:St}{cs:List AV}(hf:Qx st)(hr:Mb st.h.get ⟨pn,pp,.mk o s z a l,pa⟩ cs): ∃v st',Ev Tryz.prog QT 88 [.agg cs] st v st'∧v=.bool (!XA ⟨pn,pp,.mk o s z a l,pa⟩)∧Qt st st':=by
 have hr0:=hr;have hr0:=hr;obtain⟨kd,ld,o,s,z,a,kk,rfl,hD,hn,hy⟩:=hr0;obtain⟨kx,ls,ex,hK,hb⟩:=hn.Jl
 injection ex with x1 x;injection x with x2 x;injection x with x3 x;injection x with x4 x;injection x with x5 x
 injection x1 with x1;injection x2 with x2;injection x3 with _ x3;injection x4 with _ x4
 subst x1 x2 x3 x4 x5;replace hD:Y8 st.h.get pp kd ld:=hD;replace hn:Yq st.h.get (.mk o s z a l) _:=hn;replace hy:Bytes pn:=hy;have hl:=hK.UK;have hd:=hD.UK;refine Q6 rfl Tryz.func88 rfl Tryz.ntmps88 rfl fun T hT=>?_;have K:Jf [(0,_)] T:=(.cons (hT 0) .nil);have M:=Mem.start hf;refine Qo<|Qb ?_;refine QM K M rfl (Qa rfl (Qa hD.cell (Qa rfl (Qa rfl (Qa rfl (Qa rfl (Qa hK.cell (Qa rfl Qy)))))))) (by decide) fun c1 _ _ K M=>?_;refine Qg 2 K M ?_;intro _ K;refine oQ K M (Pp M.fresh (hr.mono M.rows)) rfl rfl fun _ _ K M=>?_;refine Qg 2 K M ?_;intro _ K;refine Qf ⟨.inr rfl,_,J4 K rfl,?_⟩;exact⟨rfl,M.qt⟩

theorem IE{st:St}(hf:Qx st){l:List Pd}{kk:AV}{ls:List (List AV)}(hD:Fe st.h.get l kk ls){fo:FuncId}{fa fc:List AV}{p:Pd→Bool}(hC: ∀(k:Pd),k∈l→ ∀(st1:St) (cs:List AV),Qt st st1→Mb st1.h.get k cs→ ∃v st',Ev Tryz.prog QT fo (fa++([.agg cs]++fc)) st1 v st'∧v=.bool (p k)∧Qt st1 st'): ∃v st',Ev Tryz.prog QT 142 [kk,(AV.fn fo fa fc)] st v st'∧v=.int .i64 (Wc p l 0)∧Qt st st':=by
 have hln:=hD.ln;have hbn:=hD.UK;refine Q6 rfl Tryz.func142 rfl Tryz.ntmps142 rfl fun T hT=>?_;have K:Jf [(0,_),(1,_)] T:=(.cons (hT 0) (.cons (hT 1) .nil));have M:=Mem.start hf;refine Qg 2 K M ?_;intro _ K;refine o1 K (QF Vb rfl rfl hD.len) rfl fun _ K=>?_;refine Qg 1 K M ?_;intro _ K;refine UW (fun mm1 T st9=> ∃(i:Nat),mm1=l.length-i∧Jf [(0,kk),(1,(AV.fn fo fa fc)),(7,.int .i64 (((l.length:Nat):Int))),(8,.int .i64 (((i:Nat):Int)))] T∧Mem st.h.get st.n [] st9 []∧i≤l.length∧Wc p l 0=Wc p (l.drop i) i) (fun mm1 T st9 hI=>?_) _ _ _ ⟨0,rfl,(.cons (K _ _ rfl) (.cons (K _ _ rfl) (.cons (K _ _ rfl) (.cons (K _ _ rfl) .nil)))),M.less (.refl _),(Nat.zero_le _),rfl⟩;obtain⟨i,rfl,K,M,hi,hx⟩:=hI;refine Qg 1 K M ?_;intro _ K;refine YI K rfl (fun h9=>?_) fun h9=>?_
 ·refine Qg 5 K M ?_;intro _ K;obtain⟨⟨pn14,pp14,⟨_,_,_,_,l14⟩,pa14⟩,hi14⟩: ∃k,l[i]? =some k:=⟨_,List.getElem?_eq_getElem (by omega)⟩;have hm14:=XV hi14;obtain⟨_,hc14,hP14⟩:=hD.at_ _ _ hi14;have hP140:=hP14;obtain⟨kd14,ld14,o14,s14,z14,a14,kk14,rfl,hD14,hn14,hy14⟩:=hP140;obtain⟨kx14,ls14,ex14,hK14,hb14⟩:=hn14.Jl
  injection ex14 with x1 x;injection x with x2 x;injection x with x3 x;injection x with x4 x;injection x with x5 x
  injection x1 with x1;injection x2 with x2;injection x3 with _ x3;injection x4 with _ x4
  subst x1 x2 x3 x4 x5;replace hD14:Y8 st.h.get pp14 kd14 ld14:=hD14;replace hn14:Yq st.h.get (.mk o14 s14 z14 a14 l14) _:=hn14;replace hy14:Bytes pn14:=hy14;have hl14:=hK14.UK;have hd14:=hD14.UK;obtain⟨x14,m14,f14,q14,_,la14,lo14,lp14⟩:=(hD.r.mem M (by simp)).load (i:=i) (cs:=_) hc14;refine o1 K (Qe (j:=i) Vo (congrArg some q14) rfl (by rw[hD.ln];omega)) rfl fun _ K=>o1 K (Qr rfl (la14 _ XR)) rfl fun _ K=>?_;obtain⟨v16,st16,ev16,rfl,q16⟩:=hC ⟨pn14,pp14,.mk o14 s14 z14 a14 l14,pa14⟩ hm14 _ _ M.qt (hP14.mono M.rows);refine o1 K (Uu rfl rfl ev16) rfl fun _ K=>?_;replace M:=M.quiet q16;refine QG ?_;show W _ _ _ _ _ _ _;refine Qs (K.QB rfl) (fun h16=>?_) (fun h16=>?_)
  ·have hb16:=h16;refine Qg 2 K M ?_;intro _ K;refine Qf ⟨.inr rfl,_,J4 K rfl,?_⟩;exact⟨by rw[hx,X1 hi14,if_pos h16],M.qt⟩
  have hb16:=h16;refine QU ?_;show W _ _ _ _ _ _ _;refine Qb<|o1 K (Jo rfl rfl (by omega) (by omega)) rfl fun _ K=>o1 K (Qc rfl) rfl fun _ K=>QG ?_;exact⟨_,(by omega),i+1,rfl,(.cons (K _ _ rfl) (.cons (K _ _ rfl) (.cons (K _ _ rfl) (.cons (K _ _ rfl) .nil)))),M.less (.refl _),(by omega),(by rw[hx,X1 hi14,if_neg (by rw[h16];decide)])⟩
 refine Uq ?_;show W _ _ _ _ _ _ _;refine Qg 1 K M ?_;intro _ K;refine Qf ⟨.inr rfl,_,J4 K rfl,?_⟩;exact⟨by rw[hx,Un (by omega)];rfl,M.qt⟩

theorem EA{st:St}(hf:Qx st){l:List Pd}{kk:AV}{ls:List (List AV)}(hD:Fe st.h.get l kk ls){fo:FuncId}{fa fc:List AV}{p:Pd→Bool}(hC: ∀(k:Pd),k∈l→ ∀(st1:St) (cs:List AV),Qt st st1→Mb st1.h.get k cs→ ∃v st',Ev Tryz.prog QT fo (fa++([.agg cs]++fc)) st1 v st'∧v=.bool (p k)∧Qt st1 st'): ∃v st',Ev Tryz.prog QT 87 [kk,(AV.fn fo fa fc)] st v st'∧v=.bool (l.any p)∧Qt st st':=by
 have hln:=hD.ln;have hbn:=hD.UK;refine Q6 rfl Tryz.func87 rfl Tryz.ntmps87 rfl fun T hT=>?_;have K:Jf [(0,_),(1,_)] T:=(.cons (hT 0) (.cons (hT 1) .nil));have M:=Mem.start hf;refine Qg 3 K M ?_;intro _ K;refine oQ K M (IE M.fresh (Fe.mono M.rows hD) (fun k hk st1 cs q hr=>hC k hk st1 cs (M.qt.trans q) hr)) rfl rfl fun _ _ K M=>?_;refine Qg 2 K M ?_;intro _ K;refine Qf ⟨.inr rfl,_,J4 K rfl,?_⟩;exact⟨by rw[←IF p l 0],M.qt⟩

theorem jG{ds:List Dc}{ps:List Pd}{o s:List Nat}{z a:Int}{l:List Nd}{st:St}{cs:List AV}(hf:Qx st)(hr:yA st.h.get ⟨ds,ps,.mk o s z a l⟩ cs): ∃v st',Ev Tryz.prog QT 43 [.agg cs] st v st'∧v=.bool (V2 ⟨ds,ps,.mk o s z a l⟩)∧Qt st st':=by
 have hr0:=hr;obtain⟨kd,ld,kp,lp,o,s,z,a,kk,rfl,hD,hP,hn⟩:=hr0;obtain⟨kx,ls,ex,hK,hb⟩:=hn.Jl
 injection ex with x1 x;injection x with x2 x;injection x with x3 x;injection x with x4 x;injection x with x5 x
 injection x1 with x1;injection x2 with x2;injection x3 with _ x3;injection x4 with _ x4
 subst x1 x2 x3 x4 x5;replace hD:Y8 st.h.get ds kd ld:=hD;replace hP:Fe st.h.get ps kp lp:=hP;replace hn:Yq st.h.get (.mk o s z a l) _:=hn;have hbk:=hK.UK;have hbd:=hD.UK;have hbp:=hP.UK;have hlp:=hP.ln;refine Q6 rfl Tryz.func43 rfl Tryz.ntmps43 rfl fun T hT=>?_;have K:Jf [(0,_)] T:=(.cons (hT 0) .nil);have M:=Mem.start hf;refine Qo<|Qb ?_;refine QM K M rfl (Qa hD.cell (Qa hP.cell (Qa rfl (Qa rfl (Qa rfl (Qa rfl (Qa hK.cell Qy))))))) (by decide) fun c1 _ _ K M=>?_;refine Qg 3 K M ?_;intro _ K;refine oQ K M (He M.fresh (Y8.mono M.rows hD)) rfl rfl fun _ _ K M=>?_;refine oB K (Qc rfl) rfl fun b6 _ e6 K=>?_;cases b6
 ·refine Qg 11 K M ?_;intro _ K;refine Qf ⟨.inr rfl,_,J4 K rfl,?_⟩;refine⟨congrArg AV.bool ?_,M.qt⟩;rw[W8]
  try simp only[Km]at *
  try clear hr
  try clear hr0
  try clear hD
  try clear hP
  try clear hn
  try clear hK
  try clear hb
  try generalize ds.all Z6=q1 at *
  try generalize ps.all XA=q4 at *
  try generalize Uj (.mk o s z a l) 2000=q2 at *
  try generalize QO (.mk o s z a l)=q3 at *
  simp_all<;>first|done|rfl|omega|(intros;omega)|(intros;simp_all;done)
 refine Qg 2 K M ?_;intro _ K
 obtain⟨v9,st9,ev9,rfl,q9⟩:=EA (fa:=[]) (fc:=[]) (p:=fun k=> !XA k) M.fresh (Fe.mono M.rows hP) (fun k hk st1 cs q hr1=>by
  obtain⟨pn,pp,⟨o1,s1,z1,a1,l1⟩,pa⟩:=k
  exact uf q.fresh hr1)
 refine og K rfl rfl (Ql rfl ev9) rfl fun _ K=>?_;replace M:=M.quiet q9;refine Qg 2 K M ?_;intro _ K;refine oB K (Qc rfl) rfl fun b12 _ e12 K=>?_;cases b12
 ·replace e12:(ps.any fun k=> !XA k)=true:=by first|simpa using e12|(revert e12;cases(ps.any fun k=> !XA k)<;>simp)
  refine Qg 5 K M ?_;intro _ K;refine Qf ⟨.inr rfl,_,J4 K rfl,?_⟩;refine⟨congrArg AV.bool ?_,M.qt⟩;rw[W8]
  try simp only[Km]at *
  try clear hr
  try clear hr0
  try clear hD
  try clear hP
  try clear hn
  try clear hK
  try clear hb
  try generalize ds.all Z6=q1 at *
  try generalize ps.all XA=q4 at *
  try generalize Uj (.mk o s z a l) 2000=q2 at *
  try generalize QO (.mk o s z a l)=q3 at *
  simp_all<;>first|done|rfl|omega|(intros;omega)|(intros;simp_all;done)
 replace e12:(ps.any fun k=> !XA k)=false:=by first|simpa using e12|(revert e12;cases(ps.any fun k=> !XA k)<;>simp)
 refine Qg 2 K M ?_;intro _ K;obtain⟨v15,st15,ev15,rfl,q15⟩:=Ve M.fresh (hn.mono M.rows);refine og K rfl rfl (Ql rfl ev15) rfl fun _ K=>?_;replace M:=M.quiet q15;refine Qg 2 K M ?_;intro _ K;refine Qf ⟨.inr rfl,_,J4 K rfl,?_⟩;refine⟨congrArg AV.bool ?_,M.qt⟩;rw[W8]
 try simp only[Km]at *
 try clear hr
 try clear hr0
 try clear hD
 try clear hP
 try clear hn
 try clear hK
 try clear hb
 try generalize ds.all Z6=q1 at *
 try generalize ps.all XA=q4 at *
 try generalize Uj (.mk o s z a l) 2000=q2 at *
 try generalize QO (.mk o s z a l)=q3 at *
 simp_all<;>first|done|rfl|omega|(intros;omega)|(intros;simp_all;done)

end Go.Proofs.YtadjjadimlkkgaaGreatDoor
