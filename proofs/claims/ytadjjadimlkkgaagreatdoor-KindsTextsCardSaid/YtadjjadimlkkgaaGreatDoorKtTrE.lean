/-
  Programs: the program's answer, the reference's. TreeProgs.
-/
import Derived.Test.YtadjjadimlkkgaaGreatDoorKtTrD
import Derived.Test.YtadjjadimlkkgaaGreatDoorKtRdH
namespace Go.Proofs.YtadjjadimlkkgaaGreatDoor
open Go Go.RowKit
set_option maxHeartbeats 8000000
set_option linter.unusedVariables false
set_option linter.unusedSimpArgs false
set_option maxRecDepth 100000

def UZ(d:Dc):Bool:=Yr d.name&&(decide (0≤d.order)&&decide (d.order<3))
def Xc(p:Pd):Bool:=Yr p.name&&(decide (((p.params.length:Nat):Int)≤6)&&(p.params.all UZ&&(Yf p.body 2000&&Jm p.body)))
def XS(p:Pg):Bool:=p.decls.all UZ&&(p.preds.all Xc&&(Yf p.main 2000&&Jm p.main))
theorem Xb{α:Type}{l:List α}{i:Nat}{k:α}{p:α→Bool}(h:l[i]? =some k):(l.drop i).all p=(p k&&(l.drop (i+1)).all p):=by
 obtain⟨h1,h2⟩:=List.getElem?_eq_some_iff.1 h;rw[List.drop_eq_getElem_cons h1,List.all_cons,h2]
theorem GO{α:Type}(p:α→Bool)(l:List α):(!l.any fun k=> !p k)=l.all p:=by
 induction l with
 |nil=>rfl
 |cons k l ih=>rw[List.any_cons,List.all_cons,←ih];cases p k<;>simp
theorem Nf{α:Type}(p:α→Bool)(l:List α):(l.any fun k=> !p k)= !l.all p:=by rw[←GO,Bool.not_not]
theorem Zy(ds:List Dc)(ps:List Pd)(m:Nd):XS ⟨ds,ps,m⟩=(ds.all UZ&&(ps.all Xc&&(Yf m 2000&&Jm m))):=rfl
theorem ZN(n:List Nat)(pp:List Dc)(b:Nd)(z:Int):Xc ⟨n,pp,b,z⟩=(Yr n&&(decide (((pp.length:Nat):Int)≤6)&&(pp.all UZ&&(Yf b 2000&&Jm b)))):=rfl
theorem MN(z:Int):(z<3)=(z≤2):=propext (by omega)
theorem UI{α:Type}{l:List α}{i:Nat}{k:α}(h:l[i]? =some k):k∈l:=List.mem_of_getElem? h

theorem PY{nm:List Nat}{od at_:Int}{st:St}(hf:Q3 st): ∃v st',Ev Tryz.prog Jg 141 [.agg [.str nm,.int .i64 od,.int .i64 at_]] st v st'∧v=.bool (UZ ⟨nm,od,at_⟩)∧Qt st st':=by
 refine QG rfl Tryz.func141 rfl Tryz.ntmps141 rfl fun T hT=>?_;have K:Jk [(0,_)] T:=(.cons (hT 0) .nil);have M:=Mem.start hf;refine Qw<|Qi ?_;refine JL K M rfl rfl (by decide) fun c1 _ _ K M=>?_;refine Qc 3 K M ?_;intro _ K;refine oQ K M (Wm M.fresh nm) rfl rfl fun _ _ K M=>?_;refine oB K (Qb rfl) rfl fun b6 _ e6 K=>?_;cases b6
 ·refine Qc 10 K M ?_;intro _ K;refine Qd ⟨.inr rfl,_,J7 K rfl,?_⟩;refine⟨congrArg AV.bool ?_,M.qt⟩;rw[UZ]
  simp_all<;>first|done|rfl|omega|(intros;omega)|(intros;simp_all;done)
 refine Qc 4 K M ?_;intro _ K;refine oB K (Qb rfl) rfl fun b11 _ e11 K=>?_;cases b11
 ·replace e11:=of_decide_eq_false e11;refine Qc 5 K M ?_;intro _ K;refine Qd ⟨.inr rfl,_,J7 K rfl,?_⟩;refine⟨congrArg AV.bool ?_,M.qt⟩;rw[UZ]
  simp_all<;>first|done|rfl|omega|(intros;omega)|(intros;simp_all;done)
 replace e11:=of_decide_eq_true e11;refine Qc 5 K M ?_;intro _ K;refine Qd ⟨.inr rfl,_,J7 K rfl,?_⟩;refine⟨congrArg AV.bool ?_,M.qt⟩;rw[UZ]
 simp_all<;>first|done|rfl|omega|(intros;omega)|(intros;simp_all;done)

theorem Gg{nm:List Nat}{od at_:Int}{st:St}(hf:Q3 st): ∃v st',Ev Tryz.prog Jg 140 [.agg [.str nm,.int .i64 od,.int .i64 at_]] st v st'∧v=.bool (!UZ ⟨nm,od,at_⟩)∧Qt st st':=by
 refine QG rfl Tryz.func140 rfl Tryz.ntmps140 rfl fun T hT=>?_;have K:Jk [(0,_)] T:=(.cons (hT 0) .nil);have M:=Mem.start hf;refine Qw<|Qi ?_;refine JL K M rfl rfl (by decide) fun c1 _ _ K M=>?_;refine Qc 2 K M ?_;intro _ K;refine oQ K M (PY M.fresh) rfl rfl fun _ _ K M=>?_;refine Qc 2 K M ?_;intro _ K;refine Qd ⟨.inr rfl,_,J7 K rfl,?_⟩;exact⟨rfl,M.qt⟩

theorem CC{st:St}(hf:Q3 st){l:List Dc}{kk:AV}{ls:List (List AV)}(hD:Yo st.h.get l kk ls){fo:FuncId}{fa fc:List AV}{p:Dc→Bool}(hC: ∀(k:Dc),k∈l→ ∀(st1:St) (cs:List AV),Qt st st1→uR k cs→ ∃v st',Ev Tryz.prog Jg fo (fa++([.agg cs]++fc)) st1 v st'∧v=.bool (p k)∧Qt st1 st'): ∃v st',Ev Tryz.prog Jg 194 [kk,(AV.fn fo fa fc)] st v st'∧v=.int .i64 (VL p l 0)∧Qt st st':=by
 have hln:=hD.ln;have hbn:=hD.Yx;refine QG rfl Tryz.func194 rfl Tryz.ntmps194 rfl fun T hT=>?_;have K:Jk [(0,_),(1,_)] T:=(.cons (hT 0) (.cons (hT 1) .nil));have M:=Mem.start hf;refine Qc 2 K M ?_;intro _ K;refine o1 K (QP JR rfl rfl hD.len) rfl fun _ K=>?_;refine Qc 1 K M ?_;intro _ K;refine JX (fun mm1 T st9=> ∃(i:Nat),mm1=l.length-i∧Jk [(0,kk),(1,(AV.fn fo fa fc)),(7,.int .i64 (((l.length:Nat):Int))),(8,.int .i64 (((i:Nat):Int)))] T∧Mem st.h.get st.n [] st9 []∧i≤l.length∧VL p l 0=VL p (l.drop i) i) (fun mm1 T st9 hI=>?_) _ _ _ ⟨0,rfl,(.cons (K _ _ rfl) (.cons (K _ _ rfl) (.cons (K _ _ rfl) (.cons (K _ _ rfl) .nil)))),M.less (.refl _),(Nat.zero_le _),rfl⟩;obtain⟨i,rfl,K,M,hi,hx⟩:=hI;refine Qc 1 K M ?_;intro _ K;refine YX K rfl (fun h9=>?_) fun h9=>?_
 ·refine Qc 5 K M ?_;intro _ K;obtain⟨⟨dn14,do14,da14⟩,hi14⟩: ∃k,l[i]? =some k:=⟨_,List.getElem?_eq_getElem (by omega)⟩;have hm14:=UI hi14;obtain⟨_,hc14,rfl,hy14⟩:=hD.at_ _ _ hi14;obtain⟨x14,m14,f14,q14,_,la14,lo14,lp14⟩:=(hD.r.mem M (by simp)).load (i:=i) (cs:=_) hc14;refine o1 K (Qn (j:=i) Ug (congrArg some q14) rfl (by rw[hD.ln];omega)) rfl fun _ K=>o1 K (Qq rfl (la14 _ WT)) rfl fun _ K=>?_;obtain⟨v16,st16,ev16,rfl,q16⟩:=hC ⟨dn14,do14,da14⟩ hm14 _ _ M.qt ⟨rfl,hy14⟩;refine o1 K (H9 rfl rfl ev16) rfl fun _ K=>?_;replace M:=M.quiet q16;refine Q5 ?_;show W _ _ _ _ _ _ _;refine Qj (K.QN rfl) (fun h16=>?_) (fun h16=>?_)
  ·have hb16:=h16;refine Qc 2 K M ?_;intro _ K;refine Qd ⟨.inr rfl,_,J7 K rfl,?_⟩;exact⟨by rw[hx,XD hi14,if_pos h16],M.qt⟩
  have hb16:=h16;refine QO ?_;show W _ _ _ _ _ _ _;refine Qi<|o1 K (QV rfl rfl (by omega) (by omega)) rfl fun _ K=>o1 K (Qb rfl) rfl fun _ K=>Q5 ?_;exact⟨_,(by omega),i+1,rfl,(.cons (K _ _ rfl) (.cons (K _ _ rfl) (.cons (K _ _ rfl) (.cons (K _ _ rfl) .nil)))),M.less (.refl _),(by omega),(by rw[hx,XD hi14,if_neg (by rw[h16];decide)])⟩
 refine JJ ?_;show W _ _ _ _ _ _ _;refine Qc 1 K M ?_;intro _ K;refine Qd ⟨.inr rfl,_,J7 K rfl,?_⟩;exact⟨by rw[hx,Jh (by omega)];rfl,M.qt⟩

theorem N1{st:St}(hf:Q3 st){l:List Dc}{kk:AV}{ls:List (List AV)}(hD:Yo st.h.get l kk ls){fo:FuncId}{fa fc:List AV}{p:Dc→Bool}(hC: ∀(k:Dc),k∈l→ ∀(st1:St) (cs:List AV),Qt st st1→uR k cs→ ∃v st',Ev Tryz.prog Jg fo (fa++([.agg cs]++fc)) st1 v st'∧v=.bool (p k)∧Qt st1 st'): ∃v st',Ev Tryz.prog Jg 139 [kk,(AV.fn fo fa fc)] st v st'∧v=.bool (l.any p)∧Qt st st':=by
 have hln:=hD.ln;have hbn:=hD.Yx;refine QG rfl Tryz.func139 rfl Tryz.ntmps139 rfl fun T hT=>?_;have K:Jk [(0,_),(1,_)] T:=(.cons (hT 0) (.cons (hT 1) .nil));have M:=Mem.start hf;refine Qc 3 K M ?_;intro _ K;refine oQ K M (CC M.fresh (Yo.mono M.rows hD) (fun k hk st1 cs q hr=>hC k hk st1 cs (M.qt.trans q) hr)) rfl rfl fun _ _ K M=>?_;refine Qc 2 K M ?_;intro _ K;refine Qd ⟨.inr rfl,_,J7 K rfl,?_⟩;exact⟨by rw[←LA p l 0],M.qt⟩

theorem Kn{st:St}(hf:Q3 st){l:List Dc}{kk:AV}{ls:List (List AV)}(hD:Yo st.h.get l kk ls): ∃v st',Ev Tryz.prog Jg 86 [kk] st v st'∧v=.bool (l.all UZ)∧Qt st st':=by
 refine QG rfl Tryz.func86 rfl Tryz.ntmps86 rfl fun T hT=>?_;have K:Jk [(0,_)] T:=(.cons (hT 0) .nil);have M:=Mem.start hf;refine Qc 2 K M ?_;intro _ K
 obtain⟨v4,st4,ev4,rfl,q4⟩:=N1 (fa:=[]) (fc:=[]) (p:=fun k=> !UZ k) M.fresh (Yo.mono M.rows hD) (fun k hk st1 cs q hr1=>by
  obtain⟨k1,k2,k3⟩:=k;obtain⟨rfl,hy⟩:=hr1
  exact Gg q.fresh)
 refine o1 K (Qg rfl ev4) rfl fun _ K=>?_;replace M:=M.quiet q4;refine Qc 2 K M ?_;intro _ K;refine Qd ⟨.inr rfl,_,J7 K rfl,?_⟩;exact⟨by rw[GO],M.qt⟩

theorem PU{pn:List Nat}{pp:List Dc}{o s:List Nat}{z a pa:Int}{l:List Nd}{st:St}{cs:List AV}(hf:Q3 st)(hr:R9 st.h.get ⟨pn,pp,.mk o s z a l,pa⟩ cs): ∃v st',Ev Tryz.prog Jg 89 [.agg cs] st v st'∧v=.bool (Xc ⟨pn,pp,.mk o s z a l,pa⟩)∧Qt st st':=by
 have hr0:=hr;have hr0:=hr;obtain⟨kd,ld,o,s,z,a,kk,rfl,hD,hn,hy⟩:=hr0;obtain⟨kx,ls,ex,hK,hb⟩:=hn.Ju
 injection ex with x1 x;injection x with x2 x;injection x with x3 x;injection x with x4 x;injection x with x5 x
 injection x1 with x1;injection x2 with x2;injection x3 with _ x3;injection x4 with _ x4
 subst x1 x2 x3 x4 x5;replace hD:Yo st.h.get pp kd ld:=hD;replace hn:YW st.h.get (.mk o s z a l) _:=hn;replace hy:Bytes pn:=hy;have hl:=hK.Yx;have hd:=hD.Yx;refine QG rfl Tryz.func89 rfl Tryz.ntmps89 rfl fun T hT=>?_;have K:Jk [(0,_)] T:=(.cons (hT 0) .nil);have M:=Mem.start hf;refine Qw<|Qi ?_;refine JL K M rfl (Qa rfl (Qa hD.cell (Qa rfl (Qa rfl (Qa rfl (Qa rfl (Qa hK.cell (Qa rfl QE)))))))) (by decide) fun c1 _ _ K M=>?_;refine Qc 3 K M ?_;intro _ K;refine oQ K M (Wm M.fresh pn) rfl rfl fun _ _ K M=>?_;refine oB K (Qb rfl) rfl fun b6 _ e6 K=>?_;cases b6
 ·refine Qc 16 K M ?_;intro _ K;refine Qd ⟨.inr rfl,_,J7 K rfl,?_⟩;refine⟨congrArg AV.bool ?_,M.qt⟩;rw[ZN]
  try clear hr
  try clear hr0
  try clear hD
  try clear hn
  try clear hK
  try clear hb
  try generalize pp.all UZ=q1 at *
  try generalize Yf (.mk o s z a l) 2000=q2 at *
  try generalize Jm (.mk o s z a l)=q3 at *
  simp_all<;>first|done|rfl|omega|(intros;omega)|(intros;simp_all;done)
 refine Qc 2 K M ?_;intro _ K;refine og K rfl rfl (QP JR rfl rfl hD.len) rfl fun _ K=>?_;refine Qc 2 K M ?_;intro _ K;refine oB K (Qb rfl) rfl fun b12 _ e12 K=>?_;cases b12
 ·replace e12:=of_decide_eq_false e12;refine Qc 10 K M ?_;intro _ K;refine Qd ⟨.inr rfl,_,J7 K rfl,?_⟩;refine⟨congrArg AV.bool ?_,M.qt⟩;rw[ZN]
  try clear hr
  try clear hr0
  try clear hD
  try clear hn
  try clear hK
  try clear hb
  try generalize pp.all UZ=q1 at *
  try generalize Yf (.mk o s z a l) 2000=q2 at *
  try generalize Jm (.mk o s z a l)=q3 at *
  simp_all<;>first|done|rfl|omega|(intros;omega)|(intros;simp_all;done)
 replace e12:=of_decide_eq_true e12;refine Qc 2 K M ?_;intro _ K;obtain⟨v15,st15,ev15,rfl,q15⟩:=Kn M.fresh (Yo.mono M.rows hD);refine og K rfl rfl (Qg rfl ev15) rfl fun _ K=>?_;replace M:=M.quiet q15;refine o1 K (UH rfl rfl rfl) rfl fun _ K=>?_;refine oB K (Qb rfl) rfl fun b17 _ e17 K=>?_;cases b17
 ·refine Qc 5 K M ?_;intro _ K;refine Qd ⟨.inr rfl,_,J7 K rfl,?_⟩;refine⟨congrArg AV.bool ?_,M.qt⟩;rw[ZN]
  try clear hr
  try clear hr0
  try clear hD
  try clear hn
  try clear hK
  try clear hb
  try generalize pp.all UZ=q1 at *
  try generalize Yf (.mk o s z a l) 2000=q2 at *
  try generalize Jm (.mk o s z a l)=q3 at *
  simp_all<;>first|done|rfl|omega|(intros;omega)|(intros;simp_all;done)
 refine Qc 2 K M ?_;intro _ K;obtain⟨v20,st20,ev20,rfl,q20⟩:=F5 M.fresh (hn.mono M.rows);refine og K rfl rfl (Qg rfl ev20) rfl fun _ K=>?_;replace M:=M.quiet q20;refine Qc 2 K M ?_;intro _ K;refine Qd ⟨.inr rfl,_,J7 K rfl,?_⟩;refine⟨congrArg AV.bool ?_,M.qt⟩;rw[ZN]
 try clear hr
 try clear hr0
 try clear hD
 try clear hn
 try clear hK
 try clear hb
 try generalize pp.all UZ=q1 at *
 try generalize Yf (.mk o s z a l) 2000=q2 at *
 try generalize Jm (.mk o s z a l)=q3 at *
 simp_all<;>first|done|rfl|omega|(intros;omega)|(intros;simp_all;done)

theorem jL{pn:List Nat}{pp:List Dc}{o s:List Nat}{z a pa:Int}{l:List Nd}{st:St}{cs:List AV}(hf:Q3 st)(hr:R9 st.h.get ⟨pn,pp,.mk o s z a l,pa⟩ cs): ∃v st',Ev Tryz.prog Jg 88 [.agg cs] st v st'∧v=.bool (!Xc ⟨pn,pp,.mk o s z a l,pa⟩)∧Qt st st':=by
 have hr0:=hr;have hr0:=hr;obtain⟨kd,ld,o,s,z,a,kk,rfl,hD,hn,hy⟩:=hr0;obtain⟨kx,ls,ex,hK,hb⟩:=hn.Ju
 injection ex with x1 x;injection x with x2 x;injection x with x3 x;injection x with x4 x;injection x with x5 x
 injection x1 with x1;injection x2 with x2;injection x3 with _ x3;injection x4 with _ x4
 subst x1 x2 x3 x4 x5;replace hD:Yo st.h.get pp kd ld:=hD;replace hn:YW st.h.get (.mk o s z a l) _:=hn;replace hy:Bytes pn:=hy;have hl:=hK.Yx;have hd:=hD.Yx;refine QG rfl Tryz.func88 rfl Tryz.ntmps88 rfl fun T hT=>?_;have K:Jk [(0,_)] T:=(.cons (hT 0) .nil);have M:=Mem.start hf;refine Qw<|Qi ?_;refine JL K M rfl (Qa rfl (Qa hD.cell (Qa rfl (Qa rfl (Qa rfl (Qa rfl (Qa hK.cell (Qa rfl QE)))))))) (by decide) fun c1 _ _ K M=>?_;refine Qc 2 K M ?_;intro _ K;refine oQ K M (PU M.fresh (hr.mono M.rows)) rfl rfl fun _ _ K M=>?_;refine Qc 2 K M ?_;intro _ K;refine Qd ⟨.inr rfl,_,J7 K rfl,?_⟩;exact⟨rfl,M.qt⟩

theorem L8{st:St}(hf:Q3 st){l:List Pd}{kk:AV}{ls:List (List AV)}(hD:EE st.h.get l kk ls){fo:FuncId}{fa fc:List AV}{p:Pd→Bool}(hC: ∀(k:Pd),k∈l→ ∀(st1:St) (cs:List AV),Qt st st1→R9 st1.h.get k cs→ ∃v st',Ev Tryz.prog Jg fo (fa++([.agg cs]++fc)) st1 v st'∧v=.bool (p k)∧Qt st1 st'): ∃v st',Ev Tryz.prog Jg 142 [kk,(AV.fn fo fa fc)] st v st'∧v=.int .i64 (VL p l 0)∧Qt st st':=by
 have hln:=hD.ln;have hbn:=hD.Yx;refine QG rfl Tryz.func142 rfl Tryz.ntmps142 rfl fun T hT=>?_;have K:Jk [(0,_),(1,_)] T:=(.cons (hT 0) (.cons (hT 1) .nil));have M:=Mem.start hf;refine Qc 2 K M ?_;intro _ K;refine o1 K (QP Y3 rfl rfl hD.len) rfl fun _ K=>?_;refine Qc 1 K M ?_;intro _ K;refine JX (fun mm1 T st9=> ∃(i:Nat),mm1=l.length-i∧Jk [(0,kk),(1,(AV.fn fo fa fc)),(7,.int .i64 (((l.length:Nat):Int))),(8,.int .i64 (((i:Nat):Int)))] T∧Mem st.h.get st.n [] st9 []∧i≤l.length∧VL p l 0=VL p (l.drop i) i) (fun mm1 T st9 hI=>?_) _ _ _ ⟨0,rfl,(.cons (K _ _ rfl) (.cons (K _ _ rfl) (.cons (K _ _ rfl) (.cons (K _ _ rfl) .nil)))),M.less (.refl _),(Nat.zero_le _),rfl⟩;obtain⟨i,rfl,K,M,hi,hx⟩:=hI;refine Qc 1 K M ?_;intro _ K;refine YX K rfl (fun h9=>?_) fun h9=>?_
 ·refine Qc 5 K M ?_;intro _ K;obtain⟨⟨pn14,pp14,⟨_,_,_,_,l14⟩,pa14⟩,hi14⟩: ∃k,l[i]? =some k:=⟨_,List.getElem?_eq_getElem (by omega)⟩;have hm14:=UI hi14;obtain⟨_,hc14,hP14⟩:=hD.at_ _ _ hi14;have hP140:=hP14;obtain⟨kd14,ld14,o14,s14,z14,a14,kk14,rfl,hD14,hn14,hy14⟩:=hP140;obtain⟨kx14,ls14,ex14,hK14,hb14⟩:=hn14.Ju
  injection ex14 with x1 x;injection x with x2 x;injection x with x3 x;injection x with x4 x;injection x with x5 x
  injection x1 with x1;injection x2 with x2;injection x3 with _ x3;injection x4 with _ x4
  subst x1 x2 x3 x4 x5;replace hD14:Yo st.h.get pp14 kd14 ld14:=hD14;replace hn14:YW st.h.get (.mk o14 s14 z14 a14 l14) _:=hn14;replace hy14:Bytes pn14:=hy14;have hl14:=hK14.Yx;have hd14:=hD14.Yx;obtain⟨x14,m14,f14,q14,_,la14,lo14,lp14⟩:=(hD.r.mem M (by simp)).load (i:=i) (cs:=_) hc14;refine o1 K (Qn (j:=i) Um (congrArg some q14) rfl (by rw[hD.ln];omega)) rfl fun _ K=>o1 K (Qq rfl (la14 _ X8)) rfl fun _ K=>?_;obtain⟨v16,st16,ev16,rfl,q16⟩:=hC ⟨pn14,pp14,.mk o14 s14 z14 a14 l14,pa14⟩ hm14 _ _ M.qt (hP14.mono M.rows);refine o1 K (H9 rfl rfl ev16) rfl fun _ K=>?_;replace M:=M.quiet q16;refine Q5 ?_;show W _ _ _ _ _ _ _;refine Qj (K.QN rfl) (fun h16=>?_) (fun h16=>?_)
  ·have hb16:=h16;refine Qc 2 K M ?_;intro _ K;refine Qd ⟨.inr rfl,_,J7 K rfl,?_⟩;exact⟨by rw[hx,XD hi14,if_pos h16],M.qt⟩
  have hb16:=h16;refine QO ?_;show W _ _ _ _ _ _ _;refine Qi<|o1 K (QV rfl rfl (by omega) (by omega)) rfl fun _ K=>o1 K (Qb rfl) rfl fun _ K=>Q5 ?_;exact⟨_,(by omega),i+1,rfl,(.cons (K _ _ rfl) (.cons (K _ _ rfl) (.cons (K _ _ rfl) (.cons (K _ _ rfl) .nil)))),M.less (.refl _),(by omega),(by rw[hx,XD hi14,if_neg (by rw[h16];decide)])⟩
 refine JJ ?_;show W _ _ _ _ _ _ _;refine Qc 1 K M ?_;intro _ K;refine Qd ⟨.inr rfl,_,J7 K rfl,?_⟩;exact⟨by rw[hx,Jh (by omega)];rfl,M.qt⟩

theorem FG{st:St}(hf:Q3 st){l:List Pd}{kk:AV}{ls:List (List AV)}(hD:EE st.h.get l kk ls){fo:FuncId}{fa fc:List AV}{p:Pd→Bool}(hC: ∀(k:Pd),k∈l→ ∀(st1:St) (cs:List AV),Qt st st1→R9 st1.h.get k cs→ ∃v st',Ev Tryz.prog Jg fo (fa++([.agg cs]++fc)) st1 v st'∧v=.bool (p k)∧Qt st1 st'): ∃v st',Ev Tryz.prog Jg 87 [kk,(AV.fn fo fa fc)] st v st'∧v=.bool (l.any p)∧Qt st st':=by
 have hln:=hD.ln;have hbn:=hD.Yx;refine QG rfl Tryz.func87 rfl Tryz.ntmps87 rfl fun T hT=>?_;have K:Jk [(0,_),(1,_)] T:=(.cons (hT 0) (.cons (hT 1) .nil));have M:=Mem.start hf;refine Qc 3 K M ?_;intro _ K;refine oQ K M (L8 M.fresh (EE.mono M.rows hD) (fun k hk st1 cs q hr=>hC k hk st1 cs (M.qt.trans q) hr)) rfl rfl fun _ _ K M=>?_;refine Qc 2 K M ?_;intro _ K;refine Qd ⟨.inr rfl,_,J7 K rfl,?_⟩;exact⟨by rw[←LA p l 0],M.qt⟩

theorem ju{ds:List Dc}{ps:List Pd}{o s:List Nat}{z a:Int}{l:List Nd}{st:St}{cs:List AV}(hf:Q3 st)(hr:qp st.h.get ⟨ds,ps,.mk o s z a l⟩ cs): ∃v st',Ev Tryz.prog Jg 43 [.agg cs] st v st'∧v=.bool (XS ⟨ds,ps,.mk o s z a l⟩)∧Qt st st':=by
 have hr0:=hr;obtain⟨kd,ld,kp,lp,o,s,z,a,kk,rfl,hD,hP,hn⟩:=hr0;obtain⟨kx,ls,ex,hK,hb⟩:=hn.Ju
 injection ex with x1 x;injection x with x2 x;injection x with x3 x;injection x with x4 x;injection x with x5 x
 injection x1 with x1;injection x2 with x2;injection x3 with _ x3;injection x4 with _ x4
 subst x1 x2 x3 x4 x5;replace hD:Yo st.h.get ds kd ld:=hD;replace hP:EE st.h.get ps kp lp:=hP;replace hn:YW st.h.get (.mk o s z a l) _:=hn;have hbk:=hK.Yx;have hbd:=hD.Yx;have hbp:=hP.Yx;have hlp:=hP.ln;refine QG rfl Tryz.func43 rfl Tryz.ntmps43 rfl fun T hT=>?_;have K:Jk [(0,_)] T:=(.cons (hT 0) .nil);have M:=Mem.start hf;refine Qw<|Qi ?_;refine JL K M rfl (Qa hD.cell (Qa hP.cell (Qa rfl (Qa rfl (Qa rfl (Qa rfl (Qa hK.cell QE))))))) (by decide) fun c1 _ _ K M=>?_;refine Qc 3 K M ?_;intro _ K;refine oQ K M (Kn M.fresh (Yo.mono M.rows hD)) rfl rfl fun _ _ K M=>?_;refine oB K (Qb rfl) rfl fun b6 _ e6 K=>?_;cases b6
 ·refine Qc 11 K M ?_;intro _ K;refine Qd ⟨.inr rfl,_,J7 K rfl,?_⟩;refine⟨congrArg AV.bool ?_,M.qt⟩;rw[Zy]
  try simp only[Nf]at *
  try clear hr
  try clear hr0
  try clear hD
  try clear hP
  try clear hn
  try clear hK
  try clear hb
  try generalize ds.all UZ=q1 at *
  try generalize ps.all Xc=q4 at *
  try generalize Yf (.mk o s z a l) 2000=q2 at *
  try generalize Jm (.mk o s z a l)=q3 at *
  simp_all<;>first|done|rfl|omega|(intros;omega)|(intros;simp_all;done)
 refine Qc 2 K M ?_;intro _ K
 obtain⟨v9,st9,ev9,rfl,q9⟩:=FG (fa:=[]) (fc:=[]) (p:=fun k=> !Xc k) M.fresh (EE.mono M.rows hP) (fun k hk st1 cs q hr1=>by
  obtain⟨pn,pp,⟨o1,s1,z1,a1,l1⟩,pa⟩:=k
  exact jL q.fresh hr1)
 refine og K rfl rfl (Qg rfl ev9) rfl fun _ K=>?_;replace M:=M.quiet q9;refine Qc 2 K M ?_;intro _ K;refine oB K (Qb rfl) rfl fun b12 _ e12 K=>?_;cases b12
 ·replace e12:(ps.any fun k=> !Xc k)=true:=by first|simpa using e12|(revert e12;cases(ps.any fun k=> !Xc k)<;>simp)
  refine Qc 5 K M ?_;intro _ K;refine Qd ⟨.inr rfl,_,J7 K rfl,?_⟩;refine⟨congrArg AV.bool ?_,M.qt⟩;rw[Zy]
  try simp only[Nf]at *
  try clear hr
  try clear hr0
  try clear hD
  try clear hP
  try clear hn
  try clear hK
  try clear hb
  try generalize ds.all UZ=q1 at *
  try generalize ps.all Xc=q4 at *
  try generalize Yf (.mk o s z a l) 2000=q2 at *
  try generalize Jm (.mk o s z a l)=q3 at *
  simp_all<;>first|done|rfl|omega|(intros;omega)|(intros;simp_all;done)
 replace e12:(ps.any fun k=> !Xc k)=false:=by first|simpa using e12|(revert e12;cases(ps.any fun k=> !Xc k)<;>simp)
 refine Qc 2 K M ?_;intro _ K;obtain⟨v15,st15,ev15,rfl,q15⟩:=F5 M.fresh (hn.mono M.rows);refine og K rfl rfl (Qg rfl ev15) rfl fun _ K=>?_;replace M:=M.quiet q15;refine Qc 2 K M ?_;intro _ K;refine Qd ⟨.inr rfl,_,J7 K rfl,?_⟩;refine⟨congrArg AV.bool ?_,M.qt⟩;rw[Zy]
 try simp only[Nf]at *
 try clear hr
 try clear hr0
 try clear hD
 try clear hP
 try clear hn
 try clear hK
 try clear hb
 try generalize ds.all UZ=q1 at *
 try generalize ps.all Xc=q4 at *
 try generalize Yf (.mk o s z a l) 2000=q2 at *
 try generalize Jm (.mk o s z a l)=q3 at *
 simp_all<;>first|done|rfl|omega|(intros;omega)|(intros;simp_all;done)

theorem NN{st:St}(hf:Q3 st){l:List Dc}{kk:AV}{ls:List (List AV)}(hD:Yo st.h.get l kk ls): ∃v st',Ev Tryz.prog Jg 96 [kk] st v st'∧v=.bool (l.all UZ)∧Qt st st':=by
 have hln:=hD.ln;have hbn:=hD.Yx;refine QG rfl Tryz.func96 rfl Tryz.ntmps96 rfl fun T hT=>?_;have K:Jk [(0,_)] T:=(.cons (hT 0) .nil);have M:=Mem.start hf;refine Qc 2 K M ?_;intro _ K;refine JX (fun mm1 T st9=> ∃(i:Nat),mm1=l.length-i∧Jk [(0,kk),(3,.int .i64 (((i:Nat):Int)))] T∧Mem st.h.get st.n [] st9 []∧i≤l.length∧l.all UZ=(l.drop i).all UZ) (fun mm1 T st9 hI=>?_) _ _ _ ⟨0,rfl,(.cons (K _ _ rfl) (.cons (K _ _ rfl) .nil)),M.less (.refl _),(Nat.zero_le _),(by rw[List.drop_zero])⟩;obtain⟨i,rfl,K,M,hi,hx⟩:=hI;refine Qc 2 K M ?_;intro _ K;refine o1 K (QP JR rfl rfl hD.len) rfl fun _ K=>?_;refine Qc 1 K M ?_;intro _ K;refine YX K rfl (fun h7=>?_) fun h7=>?_
 ·refine Qc 2 K M ?_;intro _ K;obtain⟨⟨dn12,do12,da12⟩,hi12⟩: ∃k,l[i]? =some k:=⟨_,List.getElem?_eq_getElem (by omega)⟩;have hm12:=UI hi12;obtain⟨_,hc12,rfl,hy12⟩:=hD.at_ _ _ hi12;obtain⟨x12,m12,f12,q12,_,la12,lo12,lp12⟩:=(hD.r.mem M (by simp)).load (i:=i) (cs:=_) hc12;refine o1 K (Qn (j:=i) Ug (congrArg some q12) rfl (by rw[hD.ln];omega)) rfl fun _ K=>o1 K (Qf Z5 rfl) rfl fun _ K=>o1 K (Qq rfl (lo12 _ 0 _ Ji rfl)) rfl fun _ K=>?_;refine oQ K M (Vm M.fresh dn12 hy12) rfl rfl fun _ _ K M=>?_;refine o1 K (Lo rfl) rfl fun _ K=>?_;refine oB K (Qb rfl) rfl fun b17 _ e17 K=>?_;cases b17
  ·replace e17:(Yr dn12)=true:=by first|simpa using e17|(revert e17;cases(Yr dn12)<;>simp)
   refine Qc 2 K M ?_;intro _ K;obtain⟨⟨dn20,do20,da20⟩,hi20⟩: ∃k,l[i]? =some k:=⟨_,List.getElem?_eq_getElem (by omega)⟩;have hm20:=UI hi20;obtain⟨_,hc20,rfl,hy20⟩:=hD.at_ _ _ hi20;obtain⟨x20,m20,f20,q20,_,la20,lo20,lp20⟩:=(hD.r.mem M (by simp)).load (i:=i) (cs:=_) hc20;refine og K rfl rfl (Qn (j:=i) Ug (congrArg some q20) rfl (by rw[hD.ln];omega)) rfl fun _ K=>?_;refine Qc 1 K M ?_;intro _ K;refine og K rfl rfl (Qq rfl (lo20 _ 1 _ QA rfl)) rfl fun _ K=>?_;refine Qc 2 K M ?_;intro _ K;refine oB K (Qb rfl) rfl fun b25 _ e25 K=>?_;cases b25
   ·replace e25:=of_decide_eq_false e25;refine Qc 2 K M ?_;intro _ K;obtain⟨⟨dn28,do28,da28⟩,hi28⟩: ∃k,l[i]? =some k:=⟨_,List.getElem?_eq_getElem (by omega)⟩;have hm28:=UI hi28;obtain⟨_,hc28,rfl,hy28⟩:=hD.at_ _ _ hi28;obtain⟨x28,m28,f28,q28,_,la28,lo28,lp28⟩:=(hD.r.mem M (by simp)).load (i:=i) (cs:=_) hc28;refine og K rfl rfl (Qn (j:=i) Ug (congrArg some q28) rfl (by rw[hD.ln];omega)) rfl fun _ K=>?_;refine Qc 1 K M ?_;intro _ K;refine og K rfl rfl (Qq rfl (lo28 _ 1 _ QA rfl)) rfl fun _ K=>?_;refine Qc 2 K M ?_;intro _ K;refine YX K rfl (fun h32=>?_) fun h32=>?_
    ·refine Qc 1 K M ?_;intro _ K;refine Qd ⟨.inr rfl,_,J7 K rfl,?_⟩;refine⟨congrArg AV.bool ?_,M.qt⟩;rw[hx,Xb hi12,UZ]
     try clear hx
     try clear hD
     simp_all [MN]<;>first|done|rfl|omega|(intros;omega)|(intros;simp_all;done)
    refine Qc 1 K M ?_;intro _ K;refine o1 K (QV rfl rfl (by omega) (by omega)) rfl fun _ K=>o1 K (Qu rfl) rfl fun _ K=>Q5 ?_;exact⟨_,(by omega),i+1,rfl,(.cons (K _ _ rfl) (.cons (K _ _ rfl) .nil)),M.less (.refl _),(by omega),(by rw[hx,Xb hi12,UZ];simp_all [MN])⟩
   replace e25:=of_decide_eq_true e25;refine Qc 7 K M ?_;intro _ K;refine Qj (t:=true) (K.QN rfl) (fun _=>?_) (fun h=>by cases h);refine Qc 1 K M ?_;intro _ K;refine Qd ⟨.inr rfl,_,J7 K rfl,?_⟩;refine⟨congrArg AV.bool ?_,M.qt⟩;rw[hx,Xb hi12,UZ]
   try clear hx
   try clear hD
   simp_all [MN]<;>first|done|rfl|omega|(intros;omega)|(intros;simp_all;done)
  replace e17:(Yr dn12)=false:=by first|simpa using e17|(revert e17;cases(Yr dn12)<;>simp)
  refine Qc 15 K M ?_;intro _ K;refine Qj (t:=true) (K.QN rfl) (fun _=>?_) (fun h=>by cases h);refine Qc 1 K M ?_;intro _ K;refine Qd ⟨.inr rfl,_,J7 K rfl,?_⟩;refine⟨congrArg AV.bool ?_,M.qt⟩;rw[hx,Xb hi12,UZ]
  try clear hx
  try clear hD
  simp_all [MN]<;>first|done|rfl|omega|(intros;omega)|(intros;simp_all;done)
 refine JJ ?_;show W _ _ _ _ _ _ _;refine Qc 1 K M ?_;intro _ K;refine Qd ⟨.inr rfl,_,J7 K rfl,?_⟩;exact⟨by rw[hx,Jh (by omega)];rfl,M.qt⟩

theorem jy{ds:List Dc}{ps:List Pd}{o s:List Nat}{z a:Int}{l:List Nd}{st:St}{cs:List AV}(hf:Q3 st)(hr:qp st.h.get ⟨ds,ps,.mk o s z a l⟩ cs): ∃v st',Ev Tryz.prog Jg 47 [.agg cs] st v st'∧v=.bool (XS ⟨ds,ps,.mk o s z a l⟩)∧Qt st st':=by
 have hr0:=hr;obtain⟨kd,ld,kp,lp,o,s,z,a,kk,rfl,hD,hP,hn⟩:=hr0;obtain⟨kx,ls,ex,hK,hb⟩:=hn.Ju
 injection ex with x1 x;injection x with x2 x;injection x with x3 x;injection x with x4 x;injection x with x5 x
 injection x1 with x1;injection x2 with x2;injection x3 with _ x3;injection x4 with _ x4
 subst x1 x2 x3 x4 x5;replace hD:Yo st.h.get ds kd ld:=hD;replace hP:EE st.h.get ps kp lp:=hP;replace hn:YW st.h.get (.mk o s z a l) _:=hn;have hbk:=hK.Yx;have hbd:=hD.Yx;have hbp:=hP.Yx;have hlp:=hP.ln;refine QG rfl Tryz.func47 rfl Tryz.ntmps47 rfl fun T hT=>?_;have K:Jk [(0,_)] T:=(.cons (hT 0) .nil);have M:=Mem.start hf;refine Qw<|Qi ?_;refine JL K M rfl (Qa hD.cell (Qa hP.cell (Qa rfl (Qa rfl (Qa rfl (Qa rfl (Qa hK.cell QE))))))) (by decide) fun c1 _ _ K M=>?_;refine Qc 2 K M ?_;intro _ K;refine JX (fun mm1 T st9=> ∃(i:Nat),mm1=ps.length-i∧Jk [(1,.ptr c1 0 0),(3,.int .i64 (((i:Nat):Int)))] T∧Mem st.h.get st.n [] st9 [(c1,0,[kd,kp,.str o,.str s,.int .i64 z,.int .i64 a,kk])]∧i≤ps.length∧ps.all Xc=(ps.drop i).all Xc) (fun mm1 T st9 hI=>?_) _ _ _ ⟨0,rfl,(.cons (K _ _ rfl) (.cons (K _ _ rfl) .nil)),M.less (.refl _),(Nat.zero_le _),(by rw[List.drop_zero])⟩;obtain⟨i,rfl,K,M,hi,hx⟩:=hI;refine Qc 3 K M ?_;intro _ K;refine o1 K (QP Y3 rfl rfl hP.len) rfl fun _ K=>?_;refine Qc 1 K M ?_;intro _ K;refine YX K rfl (fun h9=>?_) fun h9=>?_
 ·refine Qc 3 K M ?_;intro _ K;obtain⟨⟨pn15,pp15,⟨_,_,_,_,l15⟩,pa15⟩,hi15⟩: ∃k,ps[i]? =some k:=⟨_,List.getElem?_eq_getElem (by omega)⟩;have hm15:=UI hi15;obtain⟨_,hc15,hP15⟩:=hP.at_ _ _ hi15;have hP150:=hP15;obtain⟨kd15,ld15,o15,s15,z15,a15,kk15,rfl,hD15,hn15,hy15⟩:=hP150;obtain⟨kx15,ls15,ex15,hK15,hb15⟩:=hn15.Ju
  injection ex15 with x1 x;injection x with x2 x;injection x with x3 x;injection x with x4 x;injection x with x5 x
  injection x1 with x1;injection x2 with x2;injection x3 with _ x3;injection x4 with _ x4
  subst x1 x2 x3 x4 x5;replace hD15:Yo st.h.get pp15 kd15 ld15:=hD15;replace hn15:YW st.h.get (.mk o15 s15 z15 a15 l15) _:=hn15;replace hy15:Bytes pn15:=hy15;have hl15:=hK15.Yx;have hd15:=hD15.Yx;obtain⟨x15,m15,f15,q15,_,la15,lo15,lp15⟩:=(hP.r.mem M (by simp)).load (i:=i) (cs:=_) hc15;refine o1 K (Qn (j:=i) Um (congrArg some q15) rfl (by rw[hP.ln];omega)) rfl fun _ K=>o1 K (Qq rfl (la15 _ X8)) rfl fun _ K=>?_;refine Yb K M YO (by decide) fun c4 _ _ K M=>?_;refine J5 (k:=0) K M rfl rfl rfl V4 rfl (Qa rfl (Qa hD15.cell (Qa rfl (Qa rfl (Qa rfl (Qa rfl (Qa hK15.cell (Qa rfl QE)))))))) rfl fun _ M=>?_;refine Qc 2 K M ?_;intro _ K;refine oQ K M (Vm M.fresh pn15 hy15) rfl rfl fun _ _ K M=>?_;refine o1 K (Lo rfl) rfl fun _ K=>?_;refine oB K (Qb rfl) rfl fun b21 _ e21 K=>?_;cases b21
  ·replace e21:(Yr pn15)=true:=by first|simpa using e21|(revert e21;cases(Yr pn15)<;>simp)
   refine Qc 2 K M ?_;intro _ K;refine og K rfl rfl (QP JR rfl rfl hD15.len) rfl fun _ K=>?_;refine Qc 2 K M ?_;intro _ K;refine oB K (Qb rfl) rfl fun b27 _ e27 K=>?_;cases b27
   ·replace e27:=of_decide_eq_false e27;refine Qc 2 K M ?_;intro _ K;obtain⟨v30,st30,ev30,rfl,q30⟩:=NN M.fresh (Yo.mono M.rows hD15);refine og K rfl rfl (Qg rfl ev30) rfl fun _ K=>?_;replace M:=M.quiet q30;refine Qc 2 K M ?_;intro _ K;refine oB K (Qb rfl) rfl fun b33 _ e33 K=>?_;cases b33
    ·replace e33:(pp15.all UZ)=true:=by first|simpa using e33|(revert e33;cases(pp15.all UZ)<;>simp)
     refine Qc 2 K M ?_;intro _ K;obtain⟨v36,st36,ev36,rfl,q36⟩:=F8 M.fresh (hn15.mono M.rows);refine og K rfl rfl (Qg rfl ev36) rfl fun _ K=>?_;replace M:=M.quiet q36;refine Qc 2 K M ?_;intro _ K;refine Qj (K.QN rfl) (fun h38=>?_) (fun h38=>?_)
     ·have hb38:=h38
      replace h38:(Yf (.mk o15 s15 z15 a15 l15) 2000&&Jm (.mk o15 s15 z15 a15 l15))=false:=by first|simpa using h38|(revert h38;cases(Yf (.mk o15 s15 z15 a15 l15) 2000&&Jm (.mk o15 s15 z15 a15 l15))<;>simp)
      refine Qc 1 K M ?_;intro _ K;refine Qd ⟨.inr rfl,_,J7 K rfl,?_⟩;refine⟨congrArg AV.bool ?_,M.qt⟩;rw[Zy,hx,Xb hi15,ZN]
      try generalize pp15.all UZ=q6 at *
      try clear hx
      try clear hr
      try clear hr0
      try clear hD
      try clear hP
      try clear hn
      try clear hK
      try clear hb
      try clear hP15
      try clear hD15
      try clear hn15
      try clear hK15
      simp_all<;>first|done|rfl|omega|(intros;omega)|(intros;simp_all;done)
     have hb38:=h38
     replace h38:(Yf (.mk o15 s15 z15 a15 l15) 2000&&Jm (.mk o15 s15 z15 a15 l15))=true:=by first|simpa using h38|(revert h38;cases(Yf (.mk o15 s15 z15 a15 l15) 2000&&Jm (.mk o15 s15 z15 a15 l15))<;>simp)
     refine Qc 1 K M ?_;intro _ K;refine o1 K (QV rfl rfl (by omega) (by omega)) rfl fun _ K=>o1 K (Qu rfl) rfl fun _ K=>Q5 ?_
     exact⟨_,(by omega),i+1,rfl,(.cons (K _ _ rfl) (.cons (K _ _ rfl) .nil)),M.less (.cons _ (.refl _)),(by omega),(by rw[hx,Xb hi15,ZN];simp_all<;>omega)⟩
    replace e33:(pp15.all UZ)=false:=by first|simpa using e33|(revert e33;cases(pp15.all UZ)<;>simp)
    refine Qc 5 K M ?_;intro _ K;refine Qj (t:=true) (K.QN rfl) (fun _=>?_) (fun h=>by cases h);refine Qc 1 K M ?_;intro _ K;refine Qd ⟨.inr rfl,_,J7 K rfl,?_⟩;refine⟨congrArg AV.bool ?_,M.qt⟩;rw[Zy,hx,Xb hi15,ZN]
    try generalize pp15.all UZ=q6 at *
    try clear hx
    try clear hr
    try clear hr0
    try clear hD
    try clear hP
    try clear hn
    try clear hK
    try clear hb
    try clear hP15
    try clear hD15
    try clear hn15
    try clear hK15
    simp_all<;>first|done|rfl|omega|(intros;omega)|(intros;simp_all;done)
   replace e27:=of_decide_eq_true e27;refine Qc 11 K M ?_;intro _ K;refine Qj (t:=true) (K.QN rfl) (fun _=>?_) (fun h=>by cases h);refine Qc 1 K M ?_;intro _ K;refine Qd ⟨.inr rfl,_,J7 K rfl,?_⟩;refine⟨congrArg AV.bool ?_,M.qt⟩;rw[Zy,hx,Xb hi15,ZN]
   try generalize pp15.all UZ=q6 at *
   try clear hx
   try clear hr
   try clear hr0
   try clear hD
   try clear hP
   try clear hn
   try clear hK
   try clear hb
   try clear hP15
   try clear hD15
   try clear hn15
   try clear hK15
   simp_all<;>first|done|rfl|omega|(intros;omega)|(intros;simp_all;done)
  replace e21:(Yr pn15)=false:=by first|simpa using e21|(revert e21;cases(Yr pn15)<;>simp)
  refine Qc 17 K M ?_;intro _ K;refine Qj (t:=true) (K.QN rfl) (fun _=>?_) (fun h=>by cases h);refine Qc 1 K M ?_;intro _ K;refine Qd ⟨.inr rfl,_,J7 K rfl,?_⟩;refine⟨congrArg AV.bool ?_,M.qt⟩;rw[Zy,hx,Xb hi15,ZN]
  try generalize pp15.all UZ=q6 at *
  try clear hx
  try clear hr
  try clear hr0
  try clear hD
  try clear hP
  try clear hn
  try clear hK
  try clear hb
  try clear hP15
  try clear hD15
  try clear hn15
  try clear hK15
  simp_all<;>first|done|rfl|omega|(intros;omega)|(intros;simp_all;done)
 refine JJ ?_;show W _ _ _ _ _ _ _;refine Qc 2 K M ?_;intro _ K;refine oQ K M (NN M.fresh (Yo.mono M.rows hD)) rfl rfl fun _ _ K M=>?_;refine oB K (Qb rfl) rfl fun b42 _ e42 K=>?_;cases b42
 ·refine Qc 5 K M ?_;intro _ K;refine Qd ⟨.inr rfl,_,J7 K rfl,?_⟩;refine⟨congrArg AV.bool ?_,M.qt⟩
  have hx2:ps.all Xc=true:=by rw[hx,Jh (by omega)];rfl
  try clear hx
  rw[Zy]
  try clear hr
  try clear hr0
  try clear hD
  try clear hP
  try clear hn
  try clear hK
  try clear hb
  try generalize ds.all UZ=q1 at *
  try generalize ps.all Xc=q4 at *
  try generalize Yf (.mk o s z a l) 2000=q2 at *
  try generalize Jm (.mk o s z a l)=q3 at *
  simp_all<;>first|done|rfl|omega|(intros;omega)|(intros;simp_all;done)
 refine Qc 2 K M ?_;intro _ K;obtain⟨v45,st45,ev45,rfl,q45⟩:=F8 M.fresh (hn.mono M.rows);refine og K rfl rfl (Qg rfl ev45) rfl fun _ K=>?_;replace M:=M.quiet q45;refine Qc 2 K M ?_;intro _ K;refine Qd ⟨.inr rfl,_,J7 K rfl,?_⟩;refine⟨congrArg AV.bool ?_,M.qt⟩
 have hx2:ps.all Xc=true:=by rw[hx,Jh (by omega)];rfl
 try clear hx
 rw[Zy]
 try clear hr
 try clear hr0
 try clear hD
 try clear hP
 try clear hn
 try clear hK
 try clear hb
 try generalize ds.all UZ=q1 at *
 try generalize ps.all Xc=q4 at *
 try generalize Yf (.mk o s z a l) 2000=q2 at *
 try generalize Jm (.mk o s z a l)=q3 at *
 simp_all<;>first|done|rfl|omega|(intros;omega)|(intros;simp_all;done)

end Go.Proofs.YtadjjadimlkkgaaGreatDoor
