/-
  Terms: the program's answer, the reference's.
-/
import Derived.Test.YtadjjadimlkkgaaGreatDoorLoTyf
set_option maxHeartbeats 8000000
set_option maxRecDepth 100000
set_option linter.unnecessarySimpa false
set_option linter.unusedSectionVars false
set_option linter.unusedSimpArgs false
set_option linter.unusedVariables false
section
namespace Go.Proofs.YtadjjadimlkkgaaGreatDoor
open Go Go.RowKit

def AB{α:Type}(p:α→Bool):List α→Nat→Int
 |[],_=> -1
 |k::l,i=>if p k then(i:Int)else AB p l (i+1)
theorem Wz{α:Type}{p:α→Bool}{l:List α}{i:Nat}{k:α}(h:l[i]? =some k):AB p (l.drop i) i=if p k then(i:Int)else AB p (l.drop (i+1)) (i+1):=by
 obtain⟨h1,h2⟩:=List.getElem?_eq_some_iff.1 h;rw[List.drop_eq_getElem_cons h1,AB,h2]
theorem NA{α:Type}(p:α→Bool): ∀(l:List α) (i:Nat),decide (0≤AB p l i)=l.any p:=by
 intro l
 induction l with
 |nil=>intro i;rfl
 |cons k l ih=>
  intro i;rw[AB,List.any_cons]
  cases hp:p k with
  |true=>rw[if_pos rfl];simp
  |false=>rw[if_neg (by decide),ih];rfl
theorem ux{α:Type}(p:α→Bool)(l:List α):(!l.any fun k=> !p k)=l.all p:=by
 induction l with
 |nil=>rfl
 |cons k l ih=>rw[List.any_cons,List.all_cons,←ih];cases p k<;>simp
theorem UJ{l:List Nd}{k:Nd}(h:((l.length:Nat):Int)=1)(hi:l[0]? =some k):l=[k]:=by
 match l,h,hi with
 |[a],_,hi=>injection hi with hi;rw[hi]
 |[],h,_=>simp at h
 |a::b::l,h,_=>exact absurd h (by simp only[List.length_cons];omega)
def hasB(name:List Nat)(n:Int)(kids:List Nd)(m:Int)(nm nb:Bool):Bool:=decide (((kids.length:Nat):Int)=m)&&((nm||decide (name=[]))&&((nb||decide (n=0))&&(!nm||VP name)))
theorem Y0{s:List Nat}{z:Int}{l:List Nd}{m:Int}(h:JO s z l m=true):((l.length:Nat):Int)=m:=by
 simp[JO]at h;exact h.2.2
theorem C4{o s:List Nat}{z a:Int}{l:List Nd}{st:St}{cs:List AV}(hf:Q6 st)(hr:Vn st.h.get (.mk o s z a l) cs): ∃v st',Ev Tryz.prog Ja 209 [.agg cs] st v st'∧v=.bool (Ul o)∧Qt st st':=by
 have hr0:=hr;obtain⟨kk,ls,rfl,hK,hb⟩:=hr.Ua;have hln:=hK.ln;have hbn:=hK.ZJ;refine QC rfl Tryz.func209 rfl Tryz.ntmps209 rfl fun T hT=>?_;have K:Jm [(0,_)] T:=(.cons (hT 0) .nil);have M:=Mem.start hf;refine Qq<|Qh ?_;refine J2 K M rfl (Qa rfl (Qa rfl (Qa rfl (Qa rfl (Qa hK.cell Qv))))) (by decide) fun c1 _ _ K M=>?_;refine Qg 3 K M ?_;intro _ K;refine o1 K (QV (b:=[117,110,105,111,110]) rfl rfl) rfl fun _ K=>?_;refine oB K (Qb rfl) rfl fun b6 _ e6 K=>?_;cases b6
 ·replace e6:=of_decide_eq_false e6;refine Qg 2 K M ?_;intro _ K;refine og K rfl rfl (QV (b:=[105,110,116,101,114]) rfl rfl) rfl fun _ K=>o1 K (UY rfl rfl rfl) rfl fun _ K=>?_;refine oB K (Qb rfl) rfl fun b11 _ e11 K=>?_;cases b11
  ·replace e11:=of_decide_eq_false e11;refine Qg 2 K M ?_;intro _ K;refine og K rfl rfl (QV (b:=[109,105,110,117,115]) rfl rfl) rfl fun _ K=>?_;refine Qg 2 K M ?_;intro _ K;refine Qe ⟨.inr rfl,_,JU K rfl,?_⟩;refine⟨?_,M.qt⟩
   simp_all [Qu,Ul]<;>first|done|rfl|omega|(congr 1;done)|(congr 2;done)|(intros;omega)
  replace e11:=of_decide_eq_true e11;refine Qg 5 K M ?_;intro _ K;refine Qe ⟨.inr rfl,_,JU K rfl,?_⟩;refine⟨?_,M.qt⟩
  simp_all [Qu,Ul]<;>first|done|rfl|omega|(congr 1;done)|(congr 2;done)|(intros;omega)
 replace e6:=of_decide_eq_true e6;refine Qg 10 K M ?_;intro _ K;refine Qe ⟨.inr rfl,_,JU K rfl,?_⟩;refine⟨?_,M.qt⟩
 simp_all [Qu,Ul]<;>first|done|rfl|omega|(congr 1;done)|(congr 2;done)|(intros;omega)

theorem IW{o s:List Nat}{z a:Int}{l:List Nd}{st:St}{cs:List AV}(hf:Q6 st)(hr:Vn st.h.get (.mk o s z a l) cs)(m:Int): ∃v st',Ev Tryz.prog Ja 163 [.agg cs,.int .i64 m] st v st'∧v=.bool (JO s z l m)∧Qt st st':=by
 have hr0:=hr;obtain⟨kk,ls,rfl,hK,hb⟩:=hr.Ua;have hln:=hK.ln;have hbn:=hK.ZJ;refine QC rfl Tryz.func163 rfl Tryz.ntmps163 rfl fun T hT=>?_;have K:Jm [(0,_),(1,_)] T:=(.cons (hT 0) (.cons (hT 1) .nil));have M:=Mem.start hf;refine Qq<|Qh ?_;refine J2 K M rfl (Qa rfl (Qa rfl (Qa rfl (Qa rfl (Qa hK.cell Qv))))) (by decide) fun c2 _ _ K M=>?_;refine Qg 3 K M ?_;intro _ K;refine o1 K (QV (b:=[]) rfl rfl) rfl fun _ K=>?_;refine oB K (Qb rfl) rfl fun b8 _ e8 K=>?_;cases b8
 ·replace e8:=of_decide_eq_false e8;refine Qg 12 K M ?_;intro _ K;refine Qe ⟨.inr rfl,_,JU K rfl,?_⟩;refine⟨?_,M.qt⟩
  simp_all [Qu,JO]<;>first|done|rfl|omega|(congr 1;done)|(congr 2;done)|(intros;omega)
 replace e8:=of_decide_eq_true e8;refine Qg 4 K M ?_;intro _ K;refine oB K (Qb rfl) rfl fun b13 _ e13 K=>?_;cases b13
 ·replace e13:=of_decide_eq_false e13;refine Qg 7 K M ?_;intro _ K;refine Qe ⟨.inr rfl,_,JU K rfl,?_⟩;refine⟨?_,M.qt⟩
  simp_all [Qu,JO]<;>first|done|rfl|omega|(congr 1;done)|(congr 2;done)|(intros;omega)
 replace e13:=of_decide_eq_true e13;refine Qg 2 K M ?_;intro _ K;refine og K rfl rfl (Jd J5 rfl rfl hK.len) rfl fun _ K=>?_;refine Qg 4 K M ?_;intro _ K;refine Qe ⟨.inr rfl,_,JU K rfl,?_⟩;refine⟨?_,M.qt⟩
 simp_all [Qu,JO]<;>first|done|rfl|omega|(congr 1;done)|(congr 2;done)|(intros;omega)

theorem Af.mem{h0:Hp}{n0:Nat}{st:St}{M:List (Nat×Nat×List AV)}{kids:List Nd}{kk:AV}{ls:List (List AV)}(H:Af h0 kids kk ls)(hM:Mem h0 n0 [] st M):Af st.h.get kids kk ls:=
 ⟨H.r.mem hM (by simp),H.ln,fun i k hi=>by
  obtain⟨cs,h1,h2⟩:=H.at_ i k hi
  exact⟨cs,h1,h2.mono hM.rows⟩⟩

theorem Pn{st:St}(hf:Q6 st){fo:FuncId}{fa fc:List AV}{p:Nd→Bool}{l:List Nd}{kk:AV}{ls:List (List AV)}(hK:Af st.h.get l kk ls)(hC: ∀(k:Nd),k∈l→ ∀(st1:St) (cs:List AV),Qt st st1→Vn st1.h.get k cs→ ∃v st',Ev Tryz.prog Ja fo (fa++([.agg cs]++fc)) st1 v st'∧v=.bool (p k)∧Qt st1 st'): ∃v st',Ev Tryz.prog Ja 166 [kk,(AV.fn fo fa fc)] st v st'∧v=.int .i64 (AB p l 0)∧Qt st st':=by
 have hln:=hK.ln;have hbn:=hK.ZJ;refine QC rfl Tryz.func166 rfl Tryz.ntmps166 rfl fun T hT=>?_;have K:Jm [(0,_),(1,_)] T:=(.cons (hT 0) (.cons (hT 1) .nil));have M:=Mem.start hf;refine Qg 2 K M ?_;intro _ K;refine o1 K (Jd J5 rfl rfl hK.len) rfl fun _ K=>?_;refine Qg 1 K M ?_;intro _ K;refine U8 (fun mm1 T st9=> ∃(i:Nat),mm1=l.length-i∧Jm [(0,kk),(1,(AV.fn fo fa fc)),(7,.int .i64 (((l.length:Nat):Int))),(8,.int .i64 (((i:Nat):Int)))] T∧Mem st.h.get st.n [] st9 []∧i≤l.length∧AB p l 0=AB p (l.drop i) i) (fun mm1 T st9 hI=>?_) _ _ _ ⟨0,rfl,(.cons (K _ _ rfl) (.cons (K _ _ rfl) (.cons (K _ _ rfl) (.cons (K _ _ rfl) .nil)))),M.less (.refl _),(Nat.zero_le _),rfl⟩;obtain⟨i,rfl,K,M,hi,hx⟩:=hI;refine Qg 1 K M ?_;intro _ K;refine Z0 K rfl (fun h9=>?_) fun h9=>?_
 ·refine Qg 5 K M ?_;intro _ K;obtain⟨⟨o14,s14,z14,a14,l14⟩,hi14⟩: ∃k,l[i]? =some k:=⟨_,List.getElem?_eq_getElem (by first|omega|(have:=Y0 (m:=1) (l:=l) (by assumption);omega)|(have:=Y0 (m:=2) (l:=l) (by assumption);omega)|(have:=has_len (m:=1) (l:=l) (by assumption);omega))⟩;have hm14:=Yb hi14;obtain⟨_,hc14,hn14⟩:=hK.at_ _ _ hi14;have hp14:=hn14;obtain⟨kk14,ls14,rfl,hK14,hb14⟩:=hp14.Ua;obtain⟨x14,m14,f14,q14,_,la14,lo14,lp14⟩:=(hK.r.mem M (by simp)).load (i:=i) (cs:=_) hc14;refine o1 K (Qr (j:=i) JH (congrArg some q14) rfl (by rw[hK.ln];first|omega|(have:=Y0 (m:=1) (l:=l) (by assumption);omega)|(have:=Y0 (m:=2) (l:=l) (by assumption);omega)|(have:=has_len (m:=1) (l:=l) (by assumption);omega))) rfl fun _ K=>o1 K (Qx rfl (la14 _ QO)) rfl fun _ K=>?_;obtain⟨v16,st16,ev16,rfl,q16⟩:=hC (.mk o14 s14 z14 a14 l14) hm14 _ _ M.qt (hn14.mono M.rows);refine o1 K (Yz rfl rfl ev16) rfl fun _ K=>?_;replace M:=M.quiet q16;refine Q5 ?_;show W _ _ _ _ _ _ _;refine Qn (K.QR rfl) (fun h16=>?_) (fun h16=>?_)
  ·have hb16:=h16;refine Qg 2 K M ?_;intro _ K;refine Qe ⟨.inr rfl,_,JU K rfl,?_⟩;exact⟨by rw[hx,Wz hi14,if_pos h16],M.qt⟩
  have hb16:=h16;refine QT ?_;show W _ _ _ _ _ _ _;refine Qh<|o1 K (Jn rfl rfl (by omega) (by omega)) rfl fun _ K=>o1 K (Qb rfl) rfl fun _ K=>Q5 ?_;exact⟨_,(by omega),i+1,rfl,(.cons (K _ _ rfl) (.cons (K _ _ rfl) (.cons (K _ _ rfl) (.cons (K _ _ rfl) .nil)))),M.less (.refl _),(by omega),(by rw[hx,Wz hi14,if_neg (by rw[h16];decide)])⟩
 refine Uc ?_;show W _ _ _ _ _ _ _;refine Qg 1 K M ?_;intro _ K;refine Qe ⟨.inr rfl,_,JU K rfl,?_⟩;exact⟨by rw[hx,Zi (by omega)];rfl,M.qt⟩

theorem Hx{st:St}(hf:Q6 st){fo:FuncId}{fa fc:List AV}{p:Nd→Bool}{l:List Nd}{kk:AV}{ls:List (List AV)}(hK:Af st.h.get l kk ls)(hC: ∀(k:Nd),k∈l→ ∀(st1:St) (cs:List AV),Qt st st1→Vn st1.h.get k cs→ ∃v st',Ev Tryz.prog Ja fo (fa++([.agg cs]++fc)) st1 v st'∧v=.bool (p k)∧Qt st1 st'): ∃v st',Ev Tryz.prog Ja 105 [kk,(AV.fn fo fa fc)] st v st'∧v=.bool (l.any p)∧Qt st st':=by
 have hln:=hK.ln;have hbn:=hK.ZJ;refine QC rfl Tryz.func105 rfl Tryz.ntmps105 rfl fun T hT=>?_;have K:Jm [(0,_),(1,_)] T:=(.cons (hT 0) (.cons (hT 1) .nil));have M:=Mem.start hf;refine Qg 3 K M ?_;intro _ K;refine oQ K M (Pn M.fresh (hK.mem M) (fun k hk st1 cs q hr=>hC k hk st1 cs (M.qt.trans q) hr)) rfl rfl fun _ _ K M=>?_;refine Qg 2 K M ?_;intro _ K;refine Qe ⟨.inr rfl,_,JU K rfl,?_⟩;exact⟨by rw[←NA p l 0],M.qt⟩

theorem yf{o s:List Nat}{z a:Int}{l:List Nd}{st:St}{cs:List AV}(hf:Q6 st)(hr:Vn st.h.get (.mk o s z a l) cs){c fo:Nat}(hc:Xf st.h.get c 0 [.fn fo [] []]){b:Bool}(hC: ∀(st1:St),Qt st st1→ ∃v st',Ev Tryz.prog Ja fo [.agg cs] st1 v st'∧v=.bool b∧Qt st1 st'): ∃v st',Ev Tryz.prog Ja 207 [.agg cs,.ptr c 0 0] st v st'∧v=.bool (!b)∧Qt st st':=by
 have hr0:=hr;obtain⟨kk,ls,rfl,hK,hb⟩:=hr.Ua;have hln:=hK.ln;have hbn:=hK.ZJ;refine QC rfl Tryz.func207 rfl Tryz.ntmps207 rfl fun T hT=>?_;have K:Jm [(0,_),(1,_)] T:=(.cons (hT 0) (.cons (hT 1) .nil));have M:=Mem.start hf;refine Qq<|Qh ?_;refine J2 K M rfl (Qa rfl (Qa rfl (Qa rfl (Qa rfl (Qa hK.cell Qv))))) (by decide) fun c2 _ _ K M=>?_;refine Qg 1 K M ?_;intro _ K;refine o1 K (Qx rfl (Yt (hc.U7 hf (M.qt.U7 []) (by simp)) (Qk Ak rfl))) rfl fun _ K=>?_;refine Qg 1 K M ?_;intro _ K;obtain⟨v6,st6,ev6,rfl,q6⟩:=hC _ M.qt;refine o1 K (Yz rfl rfl ev6) rfl fun _ K=>?_;replace M:=M.quiet q6;refine Qg 2 K M ?_;intro _ K;refine Qe ⟨.inr rfl,_,JU K rfl,?_⟩;exact⟨rfl,M.qt⟩

theorem Is{o s:List Nat}{z a:Int}{l:List Nd}{st:St}{cs:List AV}(hf:Q6 st)(hr:Vn st.h.get (.mk o s z a l) cs){fo:FuncId}{p:Nd→Bool}(hC: ∀(k:Nd),k∈l→ ∀(st1:St) (cs:List AV),Q6 st1→Vn st1.h.get k cs→ ∃v st',Ev Tryz.prog Ja fo [.agg cs] st1 v st'∧v=.bool (p k)∧Qt st1 st'): ∃v st',Ev Tryz.prog Ja 164 [.agg cs,(AV.fn fo [] [])] st v st'∧v=.bool (l.all p)∧Qt st st':=by
 have hr0:=hr;obtain⟨kk,ls,rfl,hK,hb⟩:=hr.Ua;have hln:=hK.ln;have hbn:=hK.ZJ;refine QC rfl Tryz.func164 rfl Tryz.ntmps164 rfl fun T hT=>?_;have K:Jm [(0,_),(1,_)] T:=(.cons (hT 0) (.cons (hT 1) .nil));have M:=Mem.start hf;refine Qq<|Qh ?_;refine J2 K M rfl (Qa rfl (Qa rfl (Qa rfl (Qa rfl (Qa hK.cell Qv))))) (by decide) fun c2 _ _ K M=>?_;refine J2 K M rfl rfl (by decide) fun c3 _ _ K M=>?_;refine Qg 3 K M ?_;intro _ K;refine o1 K (Ax rfl rfl) rfl fun _ K=>?_;have hrow:=(M.Qp (k:=0) rfl).Xg;have hfr:=M.fresh
 obtain⟨v8,st8,ev8,rfl,q8⟩:=Hx (fo:=207) (fa:=[]) (fc:=[.ptr c3 0 0]) (p:=fun k=> !p k) M.fresh (hK.mem M) (fun k hk st1 cs q hr1=>by
  obtain⟨ko,ks,kv,ka,kl⟩:=k
  exact yf q.fresh hr1 (hrow.U7 hfr (q.U7 []) (by simp)) (fun st2 q2=>hC _ hk st2 cs q2.fresh (hr1.qt q.fresh q2)))
 refine o1 K (Qc rfl ev8) rfl fun _ K=>?_;replace M:=M.quiet q8;refine Qg 2 K M ?_;intro _ K;refine Qe ⟨.inr rfl,_,JU K rfl,?_⟩;exact⟨by rw[ux],M.qt⟩

theorem SK{o s:List Nat}{z a:Int}{l:List Nd}{st:St}{cs:List AV}(hf:Q6 st)(hr:Vn st.h.get (.mk o s z a l) cs)(hTm: ∀(st1:St) (cs:List AV),Q6 st1→Vn st1.h.get (.mk o s z a l) cs→ ∃v st',Ev Tryz.prog Ja 165 [.agg cs] st1 v st'∧v=.bool (Jw (.mk o s z a l))∧Qt st1 st'): ∃v st',Ev Tryz.prog Ja 208 [.agg cs] st v st'∧v=.bool (YQ (.mk o s z a l))∧Qt st st':=by
 have hr0:=hr;obtain⟨kk,ls,rfl,hK,hb⟩:=hr.Ua;have hln:=hK.ln;have hbn:=hK.ZJ;refine QC rfl Tryz.func208 rfl Tryz.ntmps208 rfl fun T hT=>?_;have K:Jm [(0,_)] T:=(.cons (hT 0) .nil);have M:=Mem.start hf;refine Qq<|Qh ?_;refine J2 K M rfl (Qa rfl (Qa rfl (Qa rfl (Qa rfl (Qa hK.cell Qv))))) (by decide) fun c1 _ _ K M=>?_;refine Qg 2 K M ?_;intro _ K;refine oQ K M (hTm _ _ M.fresh (hr0.mono M.rows)) rfl rfl fun _ _ K M=>?_;refine oB K (Qb rfl) rfl fun b5 _ e5 K=>?_;cases b5
 ·refine Qg 10 K M ?_;intro _ K;refine Qe ⟨.inr rfl,_,JU K rfl,?_⟩;refine⟨?_,M.qt⟩
  simp_all [Qu,YQ,Nd.op,XA]<;>first|done|rfl|omega|(congr 1;done)|(congr 2;done)|(intros;omega)
 refine Qg 1 K M ?_;intro _ K;obtain⟨v7,st7,ev7,rfl,q7⟩:=C4 M.fresh (hr0.mono M.rows);refine og K rfl rfl (Qc rfl ev7) rfl fun _ K=>?_;replace M:=M.quiet q7;refine Qg 2 K M ?_;intro _ K;refine oB K (Qb rfl) rfl fun b10 _ e10 K=>?_;cases b10
 ·replace e10:(Ul o)=true:=by simpa using e10
  refine Qg 5 K M ?_;intro _ K;refine Qe ⟨.inr rfl,_,JU K rfl,?_⟩;refine⟨?_,M.qt⟩
  simp_all [Qu,YQ,Nd.op,XA]<;>first|done|rfl|omega|(congr 1;done)|(congr 2;done)|(intros;omega)
 replace e10:(Ul o)=false:=by simpa using e10
 refine Qg 2 K M ?_;intro _ K;refine og K rfl rfl (V1 (b:=[115,101,116]) rfl rfl) rfl fun _ K=>?_;refine Qg 2 K M ?_;intro _ K;refine Qe ⟨.inr rfl,_,JU K rfl,?_⟩;refine⟨?_,M.qt⟩
 simp_all [Qu,YQ,Nd.op,XA]<;>first|done|rfl|omega|(congr 1;done)|(congr 2;done)|(intros;omega)

theorem Gi(x:Nd): ∀(st:St) (cs:List AV),Q6 st→Vn st.h.get x cs→ ∃v st',Ev Tryz.prog Ja 165 [.agg cs] st v st'∧v=.bool (Jw x)∧Qt st st':=by
 refine A0 (M:=fun x=> ∀(st:St) (cs:List AV),Q6 st→Vn st.h.get x cs→ ∃v st',Ev Tryz.prog Ja 165 [.agg cs] st v st'∧v=.bool (Jw x)∧Qt st st') (fun o s z a l ih=>?_) x;intro st cs hf hr;have hr0:=hr;obtain⟨kk,ls,rfl,hK,hb⟩:=hr.Ua;have hln:=hK.ln;have hbn:=hK.ZJ;refine QC rfl Tryz.func165 rfl Tryz.ntmps165 rfl fun T hT=>?_;have K:Jm [(0,_)] T:=(.cons (hT 0) .nil);have M:=Mem.start hf;refine Qq<|Qh ?_;refine J2 K M rfl (Qa rfl (Qa rfl (Qa rfl (Qa rfl (Qa hK.cell Qv))))) (by decide) fun c1 _ _ K M=>?_;refine Qg 3 K M ?_;intro _ K;refine o1 K (QV (b:=[118,97,114]) rfl rfl) rfl fun _ K=>?_;refine Qg 1 K M ?_;intro _ K;refine Z0 K rfl (fun h5=>?_) fun h5=>?_
 ·refine Qg 2 K M ?_;intro _ K;obtain⟨v9,st9,ev9,rfl,q9⟩:=Wy M.fresh s;refine o1 K (Qc rfl ev9) rfl fun _ K=>?_;replace M:=M.quiet q9;refine oB K (Qb rfl) rfl fun b10 _ e10 K=>?_;cases b10
  ·refine Qg 11 K M ?_;intro _ K;refine Qe ⟨.inr rfl,_,JU K rfl,?_⟩;refine⟨congrArg AV.bool ?_,M.qt⟩;rw[Ut o s z a l]
   try generalize l.all Jw=q1 at *
   try generalize l.all YQ=q2 at *
   try clear M
   try clear ih
   try clear hr
   try clear hr0
   try clear hp
   try clear hn
   try clear hK
   try clear hb
   try clear hc
   try clear hm
   try clear hln
   try clear hbn
   try clear hf
   try(obtain hk:=UJ (by assumption) (by assumption);subst hk)
   simp_all [Qu,Vq,Wb,Zn,XA,Ul,JO,hasB,Nd.op]<;>first|done|rfl|omega|(congr 1;done)|(congr 2;done)|(intros;omega)
  refine Qg 4 K M ?_;intro _ K;refine oB K (Qb rfl) rfl fun b15 _ e15 K=>?_;cases b15
  ·replace e15:=of_decide_eq_false e15;refine Qg 6 K M ?_;intro _ K;refine Qe ⟨.inr rfl,_,JU K rfl,?_⟩;refine⟨congrArg AV.bool ?_,M.qt⟩;rw[Ut o s z a l]
   try generalize l.all Jw=q1 at *
   try generalize l.all YQ=q2 at *
   try clear M
   try clear ih
   try clear hr
   try clear hr0
   try clear hp
   try clear hn
   try clear hK
   try clear hb
   try clear hc
   try clear hm
   try clear hln
   try clear hbn
   try clear hf
   try(obtain hk:=UJ (by assumption) (by assumption);subst hk)
   simp_all [Qu,Vq,Wb,Zn,XA,Ul,JO,hasB,Nd.op]<;>first|done|rfl|omega|(congr 1;done)|(congr 2;done)|(intros;omega)
  replace e15:=of_decide_eq_true e15;refine Qg 2 K M ?_;intro _ K;refine og K rfl rfl (Jd J5 rfl rfl hK.len) rfl fun _ K=>?_;refine Qg 3 K M ?_;intro _ K;refine Qe ⟨.inr rfl,_,JU K rfl,?_⟩;refine⟨congrArg AV.bool ?_,M.qt⟩;rw[Ut o s z a l]
  try generalize l.all Jw=q1 at *
  try generalize l.all YQ=q2 at *
  try clear M
  try clear ih
  try clear hr
  try clear hr0
  try clear hp
  try clear hn
  try clear hK
  try clear hb
  try clear hc
  try clear hm
  try clear hln
  try clear hbn
  try clear hf
  try(obtain hk:=UJ (by assumption) (by assumption);subst hk)
  simp_all [Qu,Vq,Wb,Zn,XA,Ul,JO,hasB,Nd.op]<;>first|done|rfl|omega|(congr 1;done)|(congr 2;done)|(intros;omega)
 refine Qq<|Qh<|o1 K (QV (b:=[110,117,109]) rfl rfl) rfl fun _ K=>?_;refine Qg 1 K M ?_;intro _ K;refine Z0 K rfl (fun h21=>?_) fun h21=>?_
 ·refine Qg 2 K M ?_;intro _ K;refine o1 K (QV (b:=[]) rfl rfl) rfl fun _ K=>?_;refine oB K (Qb rfl) rfl fun b26 _ e26 K=>?_;cases b26
  ·replace e26:=of_decide_eq_false e26;refine Qg 16 K M ?_;intro _ K;refine Qe ⟨.inr rfl,_,JU K rfl,?_⟩;refine⟨congrArg AV.bool ?_,M.qt⟩;rw[Ut o s z a l]
   try generalize l.all Jw=q1 at *
   try generalize l.all YQ=q2 at *
   try clear M
   try clear ih
   try clear hr
   try clear hr0
   try clear hp
   try clear hn
   try clear hK
   try clear hb
   try clear hc
   try clear hm
   try clear hln
   try clear hbn
   try clear hf
   try(obtain hk:=UJ (by assumption) (by assumption);subst hk)
   simp_all [Qu,Vq,Wb,Zn,XA,Ul,JO,hasB,Nd.op]<;>first|done|rfl|omega|(congr 1;done)|(congr 2;done)|(intros;omega)
  replace e26:=of_decide_eq_true e26;refine Qg 4 K M ?_;intro _ K;refine oB K (Qb rfl) rfl fun b31 _ e31 K=>?_;cases b31
  ·replace e31:=of_decide_eq_false e31;refine Qg 11 K M ?_;intro _ K;refine Qe ⟨.inr rfl,_,JU K rfl,?_⟩;refine⟨congrArg AV.bool ?_,M.qt⟩;rw[Ut o s z a l]
   try generalize l.all Jw=q1 at *
   try generalize l.all YQ=q2 at *
   try clear M
   try clear ih
   try clear hr
   try clear hr0
   try clear hp
   try clear hn
   try clear hK
   try clear hb
   try clear hc
   try clear hm
   try clear hln
   try clear hbn
   try clear hf
   try(obtain hk:=UJ (by assumption) (by assumption);subst hk)
   simp_all [Qu,Vq,Wb,Zn,XA,Ul,JO,hasB,Nd.op]<;>first|done|rfl|omega|(congr 1;done)|(congr 2;done)|(intros;omega)
  replace e31:=of_decide_eq_true e31;refine Qg 4 K M ?_;intro _ K;refine oB K (Qb rfl) rfl fun b36 _ e36 K=>?_;cases b36
  ·replace e36:=of_decide_eq_false e36;refine Qg 6 K M ?_;intro _ K;refine Qe ⟨.inr rfl,_,JU K rfl,?_⟩;refine⟨congrArg AV.bool ?_,M.qt⟩;rw[Ut o s z a l]
   try generalize l.all Jw=q1 at *
   try generalize l.all YQ=q2 at *
   try clear M
   try clear ih
   try clear hr
   try clear hr0
   try clear hp
   try clear hn
   try clear hK
   try clear hb
   try clear hc
   try clear hm
   try clear hln
   try clear hbn
   try clear hf
   try(obtain hk:=UJ (by assumption) (by assumption);subst hk)
   simp_all [Qu,Vq,Wb,Zn,XA,Ul,JO,hasB,Nd.op]<;>first|done|rfl|omega|(congr 1;done)|(congr 2;done)|(intros;omega)
  replace e36:=of_decide_eq_true e36;refine Qg 2 K M ?_;intro _ K;refine og K rfl rfl (Jd J5 rfl rfl hK.len) rfl fun _ K=>?_;refine Qg 3 K M ?_;intro _ K;refine Qe ⟨.inr rfl,_,JU K rfl,?_⟩;refine⟨congrArg AV.bool ?_,M.qt⟩;rw[Ut o s z a l]
  try generalize l.all Jw=q1 at *
  try generalize l.all YQ=q2 at *
  try clear M
  try clear ih
  try clear hr
  try clear hr0
  try clear hp
  try clear hn
  try clear hK
  try clear hb
  try clear hc
  try clear hm
  try clear hln
  try clear hbn
  try clear hf
  try(obtain hk:=UJ (by assumption) (by assumption);subst hk)
  simp_all [Qu,Vq,Wb,Zn,XA,Ul,JO,hasB,Nd.op]<;>first|done|rfl|omega|(congr 1;done)|(congr 2;done)|(intros;omega)
 refine Qq<|Qh<|o1 K (QV (b:=[112,108,117,115]) rfl rfl) rfl fun _ K=>?_;refine Qg 1 K M ?_;intro _ K;refine Z0 K rfl (fun h42=>?_) fun h42=>?_
 ·refine Qg 2 K M ?_;intro _ K;refine o1 K (QV (b:=[]) rfl rfl) rfl fun _ K=>?_;refine oB K (Qb rfl) rfl fun b47 _ e47 K=>?_;cases b47
  ·replace e47:=of_decide_eq_false e47;refine Qg 31 K M ?_;intro _ K;refine Qe ⟨.inr rfl,_,JU K rfl,?_⟩;refine⟨congrArg AV.bool ?_,M.qt⟩;rw[Ut o s z a l]
   try generalize l.all Jw=q1 at *
   try generalize l.all YQ=q2 at *
   try clear M
   try clear ih
   try clear hr
   try clear hr0
   try clear hp
   try clear hn
   try clear hK
   try clear hb
   try clear hc
   try clear hm
   try clear hln
   try clear hbn
   try clear hf
   try(obtain hk:=UJ (by assumption) (by assumption);subst hk)
   simp_all [Qu,Vq,Wb,Zn,XA,Ul,JO,hasB,Nd.op]<;>first|done|rfl|omega|(congr 1;done)|(congr 2;done)|(intros;omega)
  replace e47:=of_decide_eq_true e47;refine Qg 4 K M ?_;intro _ K;refine oB K (Qb rfl) rfl fun b52 _ e52 K=>?_;cases b52
  ·replace e52:=of_decide_eq_false e52;refine Qg 26 K M ?_;intro _ K;refine Qe ⟨.inr rfl,_,JU K rfl,?_⟩;refine⟨congrArg AV.bool ?_,M.qt⟩;rw[Ut o s z a l]
   try generalize l.all Jw=q1 at *
   try generalize l.all YQ=q2 at *
   try clear M
   try clear ih
   try clear hr
   try clear hr0
   try clear hp
   try clear hn
   try clear hK
   try clear hb
   try clear hc
   try clear hm
   try clear hln
   try clear hbn
   try clear hf
   try(obtain hk:=UJ (by assumption) (by assumption);subst hk)
   simp_all [Qu,Vq,Wb,Zn,XA,Ul,JO,hasB,Nd.op]<;>first|done|rfl|omega|(congr 1;done)|(congr 2;done)|(intros;omega)
  replace e52:=of_decide_eq_true e52;refine Qg 4 K M ?_;intro _ K;refine oB K (Qb rfl) rfl fun b57 _ e57 K=>?_;cases b57
  ·replace e57:=of_decide_eq_false e57;refine Qg 21 K M ?_;intro _ K;refine Qe ⟨.inr rfl,_,JU K rfl,?_⟩;refine⟨congrArg AV.bool ?_,M.qt⟩;rw[Ut o s z a l]
   try generalize l.all Jw=q1 at *
   try generalize l.all YQ=q2 at *
   try clear M
   try clear ih
   try clear hr
   try clear hr0
   try clear hp
   try clear hn
   try clear hK
   try clear hb
   try clear hc
   try clear hm
   try clear hln
   try clear hbn
   try clear hf
   try(obtain hk:=UJ (by assumption) (by assumption);subst hk)
   simp_all [Qu,Vq,Wb,Zn,XA,Ul,JO,hasB,Nd.op]<;>first|done|rfl|omega|(congr 1;done)|(congr 2;done)|(intros;omega)
  replace e57:=of_decide_eq_true e57;refine Qg 2 K M ?_;intro _ K;refine og K rfl rfl (Jd J5 rfl rfl hK.len) rfl fun _ K=>?_;refine Qg 2 K M ?_;intro _ K;refine oB K (Qb rfl) rfl fun b63 _ e63 K=>?_;cases b63
  ·replace e63:=of_decide_eq_false e63;refine Qg 15 K M ?_;intro _ K;refine Qe ⟨.inr rfl,_,JU K rfl,?_⟩;refine⟨congrArg AV.bool ?_,M.qt⟩;rw[Ut o s z a l]
   try generalize l.all Jw=q1 at *
   try generalize l.all YQ=q2 at *
   try clear M
   try clear ih
   try clear hr
   try clear hr0
   try clear hp
   try clear hn
   try clear hK
   try clear hb
   try clear hc
   try clear hm
   try clear hln
   try clear hbn
   try clear hf
   try(obtain hk:=UJ (by assumption) (by assumption);subst hk)
   simp_all [Qu,Vq,Wb,Zn,XA,Ul,JO,hasB,Nd.op]<;>first|done|rfl|omega|(congr 1;done)|(congr 2;done)|(intros;omega)
  replace e63:=of_decide_eq_true e63;refine Qg 2 K M ?_;intro _ K;obtain⟨⟨o66,s66,z66,a66,l66⟩,hi66⟩: ∃k,l[0]? =some k:=⟨_,List.getElem?_eq_getElem (by first|omega|(have:=Y0 (m:=1) (l:=l) (by assumption);omega)|(have:=Y0 (m:=2) (l:=l) (by assumption);omega)|(have:=has_len (m:=1) (l:=l) (by assumption);omega))⟩;have hm66:=Yb hi66;obtain⟨_,hc66,hn66⟩:=hK.at_ _ _ hi66;have hp66:=hn66;obtain⟨kk66,ls66,rfl,hK66,hb66⟩:=hp66.Ua;obtain⟨x66,m66,f66,q66,_,la66,lo66,lp66⟩:=(hK.r.mem M (by simp)).load (i:=0) (cs:=_) hc66;refine og K rfl rfl (Qr (j:=0) JH (congrArg some q66) rfl (by rw[hK.ln];first|omega|(have:=Y0 (m:=1) (l:=l) (by assumption);omega)|(have:=Y0 (m:=2) (l:=l) (by assumption);omega)|(have:=has_len (m:=1) (l:=l) (by assumption);omega))) rfl fun _ K=>?_;refine Qg 1 K M ?_;intro _ K;refine og K rfl rfl (Qx rfl (lo66 _ 0 _ JI rfl)) rfl fun _ K=>og K rfl rfl (QV (b:=[118,97,114]) rfl rfl) rfl fun _ K=>o1 K (UY rfl rfl rfl) rfl fun _ K=>?_;refine oB K (Qb rfl) rfl fun b71 _ e71 K=>?_;cases b71
  ·replace e71:=of_decide_eq_false e71;refine Qg 7 K M ?_;intro _ K;refine Qe ⟨.inr rfl,_,JU K rfl,?_⟩;refine⟨congrArg AV.bool ?_,M.qt⟩;rw[Ut o s z a l]
   try generalize l.all Jw=q1 at *
   try generalize l.all YQ=q2 at *
   try clear M
   try clear ih
   try clear hr
   try clear hr0
   try clear hp
   try clear hn
   try clear hK
   try clear hb
   try clear hc
   try clear hm
   try clear hp66
   try clear hn66
   try clear hK66
   try clear hb66
   try clear hc66
   try clear hm66
   try clear hln
   try clear hbn
   try clear hf
   try(obtain hk:=UJ (by assumption) (by assumption);subst hk)
   simp_all [Qu,Vq,Wb,Zn,XA,Ul,JO,hasB,Nd.op]<;>first|done|rfl|omega|(congr 1;done)|(congr 2;done)|(intros;omega)
  replace e71:=of_decide_eq_true e71;refine Qg 2 K M ?_;intro _ K;obtain⟨⟨o74,s74,z74,a74,l74⟩,hi74⟩: ∃k,l[0]? =some k:=⟨_,List.getElem?_eq_getElem (by first|omega|(have:=Y0 (m:=1) (l:=l) (by assumption);omega)|(have:=Y0 (m:=2) (l:=l) (by assumption);omega)|(have:=has_len (m:=1) (l:=l) (by assumption);omega))⟩;have hm74:=Yb hi74;obtain⟨_,hc74,hn74⟩:=hK.at_ _ _ hi74;have hp74:=hn74;obtain⟨kk74,ls74,rfl,hK74,hb74⟩:=hp74.Ua;obtain⟨x74,m74,f74,q74,_,la74,lo74,lp74⟩:=(hK.r.mem M (by simp)).load (i:=0) (cs:=_) hc74;refine og K rfl rfl (Qr (j:=0) JH (congrArg some q74) rfl (by rw[hK.ln];first|omega|(have:=Y0 (m:=1) (l:=l) (by assumption);omega)|(have:=Y0 (m:=2) (l:=l) (by assumption);omega)|(have:=has_len (m:=1) (l:=l) (by assumption);omega))) rfl fun _ K=>og K rfl rfl (Qx rfl (la74 _ QO)) rfl fun _ K=>?_;obtain⟨v76,st76,ev76,rfl,q76⟩:=ih _ (hm74) _ _ M.fresh (hn74.mono M.rows);refine og K rfl rfl (Qc rfl ev76) rfl fun _ K=>?_;replace M:=M.quiet q76;refine Qg 2 K M ?_;intro _ K;refine Qe ⟨.inr rfl,_,JU K rfl,?_⟩;refine⟨congrArg AV.bool ?_,M.qt⟩;rw[Ut o s z a l]
  try generalize l.all Jw=q1 at *
  try generalize l.all YQ=q2 at *
  try clear M
  try clear ih
  try clear hr
  try clear hr0
  try clear hp
  try clear hn
  try clear hK
  try clear hb
  try clear hc
  try clear hm
  try clear hp66
  try clear hn66
  try clear hK66
  try clear hb66
  try clear hc66
  try clear hm66
  try clear hp74
  try clear hn74
  try clear hK74
  try clear hb74
  try clear hc74
  try clear hm74
  try clear hln
  try clear hbn
  try clear hf
  try(obtain hk:=UJ (by assumption) (by assumption);subst hk)
  simp_all [Qu,Vq,Wb,Zn,XA,Ul,JO,hasB,Nd.op]<;>first|done|rfl|omega|(congr 1;done)|(congr 2;done)|(intros;omega)
 refine Qq<|Qh<|o1 K (QV (b:=[115,101,116]) rfl rfl) rfl fun _ K=>?_;refine Qg 1 K M ?_;intro _ K;refine Z0 K rfl (fun h78=>?_) fun h78=>?_
 ·refine Qg 2 K M ?_;intro _ K;refine o1 K (QV (b:=[]) rfl rfl) rfl fun _ K=>?_;refine oB K (Qb rfl) rfl fun b83 _ e83 K=>?_;cases b83
  ·replace e83:=of_decide_eq_false e83;refine Qg 15 K M ?_;intro _ K;refine Qe ⟨.inr rfl,_,JU K rfl,?_⟩;refine⟨congrArg AV.bool ?_,M.qt⟩;rw[Ut o s z a l]
   try generalize l.all Jw=q1 at *
   try generalize l.all YQ=q2 at *
   try clear M
   try clear ih
   try clear hr
   try clear hr0
   try clear hp
   try clear hn
   try clear hK
   try clear hb
   try clear hc
   try clear hm
   try clear hln
   try clear hbn
   try clear hf
   try(obtain hk:=UJ (by assumption) (by assumption);subst hk)
   simp_all [Qu,Vq,Wb,Zn,XA,Ul,JO,hasB,Nd.op]<;>first|done|rfl|omega|(congr 1;done)|(congr 2;done)|(intros;omega)
  replace e83:=of_decide_eq_true e83;refine Qg 4 K M ?_;intro _ K;refine oB K (Qb rfl) rfl fun b88 _ e88 K=>?_;cases b88
  ·replace e88:=of_decide_eq_false e88;refine Qg 10 K M ?_;intro _ K;refine Qe ⟨.inr rfl,_,JU K rfl,?_⟩;refine⟨congrArg AV.bool ?_,M.qt⟩;rw[Ut o s z a l]
   try generalize l.all Jw=q1 at *
   try generalize l.all YQ=q2 at *
   try clear M
   try clear ih
   try clear hr
   try clear hr0
   try clear hp
   try clear hn
   try clear hK
   try clear hb
   try clear hc
   try clear hm
   try clear hln
   try clear hbn
   try clear hf
   try(obtain hk:=UJ (by assumption) (by assumption);subst hk)
   simp_all [Qu,Vq,Wb,Zn,XA,Ul,JO,hasB,Nd.op]<;>first|done|rfl|omega|(congr 1;done)|(congr 2;done)|(intros;omega)
  replace e88:=of_decide_eq_true e88;refine Qg 2 K M ?_;intro _ K;refine og K rfl rfl (Jd J5 rfl rfl hK.len) rfl fun _ K=>?_;refine Qg 2 K M ?_;intro _ K;refine oB K (Qb rfl) rfl fun b94 _ e94 K=>?_;cases b94
  ·replace e94:=of_decide_eq_false e94;refine Qg 4 K M ?_;intro _ K;refine Qe ⟨.inr rfl,_,JU K rfl,?_⟩;refine⟨congrArg AV.bool ?_,M.qt⟩;rw[Ut o s z a l]
   try generalize l.all Jw=q1 at *
   try generalize l.all YQ=q2 at *
   try clear M
   try clear ih
   try clear hr
   try clear hr0
   try clear hp
   try clear hn
   try clear hK
   try clear hb
   try clear hc
   try clear hm
   try clear hln
   try clear hbn
   try clear hf
   try(obtain hk:=UJ (by assumption) (by assumption);subst hk)
   simp_all [Qu,Vq,Wb,Zn,XA,Ul,JO,hasB,Nd.op]<;>first|done|rfl|omega|(congr 1;done)|(congr 2;done)|(intros;omega)
  replace e94:=of_decide_eq_true e94;refine Qg 1 K M ?_;intro _ K
  obtain⟨v96,st96,ev96,rfl,q96⟩:=Is (p:=YQ) M.fresh (hr0.mono M.rows) (fun k hk st1 cs hf1 hr1=>by
    obtain⟨ko,ks,kv,ka,kl⟩:=k
    exact SK hf1 hr1 (fun st2 cs2 h2 r2=>ih _ hk st2 cs2 h2 r2))
  refine og K rfl rfl (Qc rfl ev96) rfl fun _ K=>?_;replace M:=M.quiet q96;refine Qg 2 K M ?_;intro _ K;refine Qe ⟨.inr rfl,_,JU K rfl,?_⟩;refine⟨congrArg AV.bool ?_,M.qt⟩;rw[Ut o s z a l]
  try generalize l.all Jw=q1 at *
  try generalize l.all YQ=q2 at *
  try clear M
  try clear ih
  try clear hr
  try clear hr0
  try clear hp
  try clear hn
  try clear hK
  try clear hb
  try clear hc
  try clear hm
  try clear hln
  try clear hbn
  try clear hf
  try(obtain hk:=UJ (by assumption) (by assumption);subst hk)
  simp_all [Qu,Vq,Wb,Zn,XA,Ul,JO,hasB,Nd.op]<;>first|done|rfl|omega|(congr 1;done)|(congr 2;done)|(intros;omega)
 refine EK (J:=fun T st9=> ∃(b:Bool),Jm [(1,.ptr c1 0 0),(2,.bool false),(98,.bool b)] T∧Mem st.h.get st.n [] st9 [(c1,0,[.str o,.str s,.int .i64 z,.int .i64 a,kk])]∧b=Ul o) ?_ (fun T st9 hJ=>?_)
 ·refine Qq<|Qh<|o1 K (QV (b:=[117,110,105,111,110]) rfl rfl) rfl fun _ K=>?_;refine Qg 1 K M ?_;intro _ K;refine Qn (K.QR rfl) (fun h98=>?_) (fun h98=>?_)
  ·have hb98:=h98;replace h98:=of_decide_eq_true h98;refine QT ?_;exact⟨_,(.cons (K _ _ rfl) (.cons (K _ _ rfl) (.cons (K _ _ rfl) .nil))),M.less (.refl _),(by simp_all [Ul])⟩
  have hb98:=h98;replace h98:=of_decide_eq_false h98;refine Qq<|Qh<|o1 K (QV (b:=[105,110,116,101,114]) rfl rfl) rfl fun _ K=>?_;refine Qg 1 K M ?_;intro _ K;refine Qn (K.QR rfl) (fun h98=>?_) (fun h98=>?_)
  ·have hb98:=h98;replace h98:=of_decide_eq_true h98;refine QT ?_;exact⟨_,(.cons (K _ _ rfl) (.cons (K _ _ rfl) (.cons (K _ _ rfl) .nil))),M.less (.refl _),(by simp_all [Ul])⟩
  have hb98:=h98;replace h98:=of_decide_eq_false h98;refine Qh<|o1 K (QV (b:=[109,105,110,117,115]) rfl rfl) rfl fun _ K=>o1 K (QM rfl) rfl fun _ K=>Q5 ?_;exact⟨_,(.cons (K _ _ rfl) (.cons (K _ _ rfl) (.cons (K _ _ rfl) .nil))),M.less (.refl _),(by simp_all [Ul])⟩
 obtain⟨b,K,M,hbs⟩:=hJ;refine Qn (K.QR rfl) (fun h98=>?_) (fun h98=>?_)
 ·have hb98:=h98;refine Qg 1 K M ?_;intro _ K;refine oQ K M (IW M.fresh (hr0.mono M.rows) 2) rfl rfl fun _ _ K M=>?_;refine oB K (Qb rfl) rfl fun b104 _ e104 K=>?_;cases b104
  ·refine Qg 12 K M ?_;intro _ K;refine Qe ⟨.inr rfl,_,JU K rfl,?_⟩;refine⟨congrArg AV.bool ?_,M.qt⟩;rw[Ut o s z a l]
   try generalize l.all Jw=q1 at *
   try generalize l.all YQ=q2 at *
   try clear M
   try clear ih
   try clear hr
   try clear hr0
   try clear hp
   try clear hn
   try clear hK
   try clear hb
   try clear hc
   try clear hm
   try clear hln
   try clear hbn
   try clear hf
   try(obtain hk:=UJ (by assumption) (by assumption);subst hk)
   simp_all [Qu,Vq,Wb,Zn,XA,Ul,JO,hasB,Nd.op]<;>first|done|rfl|omega|(congr 1;done)|(congr 2;done)|(intros;omega)
  refine Qg 1 K M ?_;intro _ K;obtain⟨v106,st106,ev106,rfl,q106⟩:=Is (p:=Jw) M.fresh (hr0.mono M.rows) (fun k hk st1 cs hf1 hr1=>ih _ hk st1 cs hf1 hr1);refine og K rfl rfl (Qc rfl ev106) rfl fun _ K=>?_;replace M:=M.quiet q106;refine o1 K (UY rfl rfl rfl) rfl fun _ K=>?_;refine oB K (Qb rfl) rfl fun b108 _ e108 K=>?_;cases b108
  ·refine Qg 8 K M ?_;intro _ K;refine Qe ⟨.inr rfl,_,JU K rfl,?_⟩;refine⟨congrArg AV.bool ?_,M.qt⟩;rw[Ut o s z a l]
   try generalize l.all Jw=q1 at *
   try generalize l.all YQ=q2 at *
   try clear M
   try clear ih
   try clear hr
   try clear hr0
   try clear hp
   try clear hn
   try clear hK
   try clear hb
   try clear hc
   try clear hm
   try clear hln
   try clear hbn
   try clear hf
   try(obtain hk:=UJ (by assumption) (by assumption);subst hk)
   simp_all [Qu,Vq,Wb,Zn,XA,Ul,JO,hasB,Nd.op]<;>first|done|rfl|omega|(congr 1;done)|(congr 2;done)|(intros;omega)
  refine Qg 2 K M ?_;intro _ K;obtain⟨⟨o111,s111,z111,a111,l111⟩,hi111⟩: ∃k,l[1]? =some k:=⟨_,List.getElem?_eq_getElem (by first|omega|(have:=Y0 (m:=1) (l:=l) (by assumption);omega)|(have:=Y0 (m:=2) (l:=l) (by assumption);omega)|(have:=has_len (m:=1) (l:=l) (by assumption);omega))⟩;have hm111:=Yb hi111;obtain⟨_,hc111,hn111⟩:=hK.at_ _ _ hi111;have hp111:=hn111;obtain⟨kk111,ls111,rfl,hK111,hb111⟩:=hp111.Ua;obtain⟨x111,m111,f111,q111,_,la111,lo111,lp111⟩:=(hK.r.mem M (by simp)).load (i:=1) (cs:=_) hc111;refine og K rfl rfl (Qr (j:=1) JH (congrArg some q111) rfl (by rw[hK.ln];first|omega|(have:=Y0 (m:=1) (l:=l) (by assumption);omega)|(have:=Y0 (m:=2) (l:=l) (by assumption);omega)|(have:=has_len (m:=1) (l:=l) (by assumption);omega))) rfl fun _ K=>og K rfl rfl (Qx rfl (la111 _ QO)) rfl fun _ K=>?_;obtain⟨v113,st113,ev113,rfl,q113⟩:=C4 M.fresh (hn111.mono M.rows);refine og K rfl rfl (Qc rfl ev113) rfl fun _ K=>?_;replace M:=M.quiet q113;refine Qg 3 K M ?_;intro _ K;refine Qe ⟨.inr rfl,_,JU K rfl,?_⟩;refine⟨congrArg AV.bool ?_,M.qt⟩;rw[Ut o s z a l]
  try generalize l.all Jw=q1 at *
  try generalize l.all YQ=q2 at *
  try clear M
  try clear ih
  try clear hr
  try clear hr0
  try clear hp
  try clear hn
  try clear hK
  try clear hb
  try clear hc
  try clear hm
  try clear hp111
  try clear hn111
  try clear hK111
  try clear hb111
  try clear hc111
  try clear hm111
  try clear hln
  try clear hbn
  try clear hf
  try(obtain hk:=UJ (by assumption) (by assumption);subst hk)
  simp_all [Qu,Vq,Wb,Zn,XA,Ul,JO,hasB,Nd.op]<;>first|done|rfl|omega|(congr 1;done)|(congr 2;done)|(intros;omega)
 have hb98:=h98;refine Qg 1 K M ?_;intro _ K;refine Qe ⟨.inr rfl,_,JU K rfl,?_⟩;refine⟨congrArg AV.bool ?_,M.qt⟩;rw[Ut o s z a l]
 try generalize l.all Jw=q1 at *
 try generalize l.all YQ=q2 at *
 try clear M
 try clear ih
 try clear hr
 try clear hr0
 try clear hp
 try clear hn
 try clear hK
 try clear hb
 try clear hc
 try clear hm
 try clear hln
 try clear hbn
 try clear hf
 try(obtain hk:=UJ (by assumption) (by assumption);subst hk)
 simp_all [Qu,Vq,Wb,Zn,XA,Ul,JO,hasB,Nd.op]<;>first|done|rfl|omega|(congr 1;done)|(congr 2;done)|(intros;omega)
end Go.Proofs.YtadjjadimlkkgaaGreatDoor
end
section
namespace Go.Proofs.YtadjjadimlkkgaaGreatDoor
open Go Go.RowKit

theorem Gc(z:Int):(z<3)=(z≤2):=propext (by omega)
theorem Bd(x:Nd): ∀(st:St) (cs:List AV),Q6 st→Vn st.h.get x cs→ ∃v st',Ev Tryz.prog Ja 104 [.agg cs] st v st'∧v=.bool (Jz x)∧Qt st st':=by
 refine A0 (M:=fun x=> ∀(st:St) (cs:List AV),Q6 st→Vn st.h.get x cs→ ∃v st',Ev Tryz.prog Ja 104 [.agg cs] st v st'∧v=.bool (Jz x)∧Qt st st') (fun o s z a l ih=>?_) x;intro st cs hf hr;have hr0:=hr;obtain⟨kk,ls,rfl,hK,hb⟩:=hr.Ua;have hln:=hK.ln;have hbn:=hK.ZJ;refine QC rfl Tryz.func104 rfl Tryz.ntmps104 rfl fun T hT=>?_;have K:Jm [(0,_)] T:=(.cons (hT 0) .nil);have M:=Mem.start hf;refine Qq<|Qh ?_;refine J2 K M rfl (Qa rfl (Qa rfl (Qa rfl (Qa rfl (Qa hK.cell Qv))))) (by decide) fun c1 _ _ K M=>?_;refine o1 K (QM rfl) rfl fun _ K=>Q5 ?_;show W _ _ _ _ _ _ _;refine Qq<|Qq<|Qh<|o1 K (Qf VE rfl) rfl fun _ K=>o1 K (Qx rfl (M.load (k:=0) rfl (Qk JI rfl))) rfl fun _ K=>Q5 ?_;show W _ _ _ _ _ _ _;refine Uw ?_;refine EK (J:=fun T st9=> ∃(b:Bool),Jm [(1,.ptr c1 0 0),(2,.bool false),(4,.str o),(5,.bool b)] T∧Mem st.h.get st.n [] st9 [(c1,0,[.str o,.str s,.int .i64 z,.int .i64 a,kk])]∧b=oneOf o [[116,114,117,101],[102,97,108,115,101]]) ?_ (fun T st9 hJ=>?_)
 ·refine Qq<|Qh<|o1 K (QV (b:=[116,114,117,101]) rfl rfl) rfl fun _ K=>?_;refine Qg 1 K M ?_;intro _ K;refine Qn (K.QR rfl) (fun h5=>?_) (fun h5=>?_)
  ·have hb5:=h5;replace h5:=of_decide_eq_true h5;refine QT ?_;exact⟨_,(.cons (K _ _ rfl) (.cons (K _ _ rfl) (.cons (K _ _ rfl) (.cons (K _ _ rfl) .nil)))),M.less (.refl _),(by simp_all [oneOf])⟩
  have hb5:=h5;replace h5:=of_decide_eq_false h5;refine Qh<|o1 K (QV (b:=[102,97,108,115,101]) rfl rfl) rfl fun _ K=>o1 K (QM rfl) rfl fun _ K=>Q5 ?_;exact⟨_,(.cons (K _ _ rfl) (.cons (K _ _ rfl) (.cons (K _ _ rfl) (.cons (K _ _ rfl) .nil)))),M.less (.refl _),(by simp_all [oneOf])⟩
 obtain⟨b,K,M,hbs4⟩:=hJ;refine Qn (K.QR rfl) (fun h5=>?_) (fun h5=>?_)
 ·have hb5:=h5;refine Qg 1 K M ?_;intro _ K;obtain⟨v9,st9,ev9,rfl,q9⟩:=IW M.fresh (hr0.mono M.rows) 0;refine o1 K (Qc rfl ev9) rfl fun _ K=>?_;replace M:=M.quiet q9;refine Qg 1 K M ?_;intro _ K;refine Qe ⟨.inr rfl,_,JU K rfl,?_⟩;refine⟨congrArg AV.bool ?_,M.qt⟩;rw[Uv o s z a l]
  try generalize l.all Jz=q1 at *
  try generalize l.all Jw=q2 at *
  try clear M
  try clear ih
  try clear hr
  try clear hr0
  try clear hp
  try clear hn
  try clear hK
  try clear hb
  try clear hc
  try clear hm
  try clear hln
  try clear hbn
  try clear hf
  simp_all [Qu,JO,hasB,Gc]<;>first|done|rfl|omega|(congr 1;done)|(congr 2;done)|(intros;omega)|skip
 have hb5:=h5;refine Qq<|Qh<|o1 K (QV (b:=[110,111,116]) rfl rfl) rfl fun _ K=>?_;refine Qg 1 K M ?_;intro _ K;refine Z0 K rfl (fun h10=>?_) fun h10=>?_
 ·refine Qg 1 K M ?_;intro _ K;refine oQ K M (IW M.fresh (hr0.mono M.rows) 1) rfl rfl fun _ _ K M=>?_;refine oB K (Qb rfl) rfl fun b14 _ e14 K=>?_;cases b14
  ·refine Qg 4 K M ?_;intro _ K;refine Qe ⟨.inr rfl,_,JU K rfl,?_⟩;refine⟨congrArg AV.bool ?_,M.qt⟩;rw[Uv o s z a l]
   try generalize l.all Jz=q1 at *
   try generalize l.all Jw=q2 at *
   try clear M
   try clear ih
   try clear hr
   try clear hr0
   try clear hp
   try clear hn
   try clear hK
   try clear hb
   try clear hc
   try clear hm
   try clear hln
   try clear hbn
   try clear hf
   simp_all [Qu,JO,hasB,Gc]<;>first|done|rfl|omega|(congr 1;done)|(congr 2;done)|(intros;omega)|skip
  refine Qg 1 K M ?_;intro _ K;obtain⟨v16,st16,ev16,rfl,q16⟩:=Is (p:=Jz) M.fresh (hr0.mono M.rows) (fun k hk st1 cs hf1 hr1=>ih _ hk st1 cs hf1 hr1);refine og K rfl rfl (Qc rfl ev16) rfl fun _ K=>?_;replace M:=M.quiet q16;refine Qg 2 K M ?_;intro _ K;refine Qe ⟨.inr rfl,_,JU K rfl,?_⟩;refine⟨congrArg AV.bool ?_,M.qt⟩;rw[Uv o s z a l]
  try generalize l.all Jz=q1 at *
  try generalize l.all Jw=q2 at *
  try clear M
  try clear ih
  try clear hr
  try clear hr0
  try clear hp
  try clear hn
  try clear hK
  try clear hb
  try clear hc
  try clear hm
  try clear hln
  try clear hbn
  try clear hf
  simp_all [Qu,JO,hasB,Gc]<;>first|done|rfl|omega|(congr 1;done)|(congr 2;done)|(intros;omega)|skip
 refine EK (J:=fun T st9=> ∃(b:Bool),Jm [(1,.ptr c1 0 0),(2,.bool false),(4,.str o),(18,.bool b)] T∧Mem st.h.get st.n [] st9 [(c1,0,[.str o,.str s,.int .i64 z,.int .i64 a,kk])]∧b=oneOf o [[97,110,100],[111,114],[105,109,112],[105,102,102]]) ?_ (fun T st9 hJ=>?_)
 ·refine Qq<|Qh<|o1 K (QV (b:=[97,110,100]) rfl rfl) rfl fun _ K=>?_;refine Qg 1 K M ?_;intro _ K;refine Qn (K.QR rfl) (fun h18=>?_) (fun h18=>?_)
  ·have hb18:=h18;replace h18:=of_decide_eq_true h18;refine QT ?_;exact⟨_,(.cons (K _ _ rfl) (.cons (K _ _ rfl) (.cons (K _ _ rfl) (.cons (K _ _ rfl) .nil)))),M.less (.refl _),(by simp_all [oneOf])⟩
  have hb18:=h18;replace h18:=of_decide_eq_false h18;refine Qq<|Qh<|o1 K (QV (b:=[111,114]) rfl rfl) rfl fun _ K=>?_;refine Qg 1 K M ?_;intro _ K;refine Qn (K.QR rfl) (fun h18=>?_) (fun h18=>?_)
  ·have hb18:=h18;replace h18:=of_decide_eq_true h18;refine QT ?_;exact⟨_,(.cons (K _ _ rfl) (.cons (K _ _ rfl) (.cons (K _ _ rfl) (.cons (K _ _ rfl) .nil)))),M.less (.refl _),(by simp_all [oneOf])⟩
  have hb18:=h18;replace h18:=of_decide_eq_false h18;refine Qq<|Qh<|o1 K (QV (b:=[105,109,112]) rfl rfl) rfl fun _ K=>?_;refine Qg 1 K M ?_;intro _ K;refine Qn (K.QR rfl) (fun h18=>?_) (fun h18=>?_)
  ·have hb18:=h18;replace h18:=of_decide_eq_true h18;refine QT ?_;exact⟨_,(.cons (K _ _ rfl) (.cons (K _ _ rfl) (.cons (K _ _ rfl) (.cons (K _ _ rfl) .nil)))),M.less (.refl _),(by simp_all [oneOf])⟩
  have hb18:=h18;replace h18:=of_decide_eq_false h18;refine Qh<|o1 K (QV (b:=[105,102,102]) rfl rfl) rfl fun _ K=>o1 K (QM rfl) rfl fun _ K=>Q5 ?_;exact⟨_,(.cons (K _ _ rfl) (.cons (K _ _ rfl) (.cons (K _ _ rfl) (.cons (K _ _ rfl) .nil)))),M.less (.refl _),(by simp_all [oneOf])⟩
 obtain⟨b,K,M,hbs11⟩:=hJ;refine Qn (K.QR rfl) (fun h18=>?_) (fun h18=>?_)
 ·have hb18:=h18;refine Qg 1 K M ?_;intro _ K;refine oQ K M (IW M.fresh (hr0.mono M.rows) 2) rfl rfl fun _ _ K M=>?_;refine oB K (Qb rfl) rfl fun b25 _ e25 K=>?_;cases b25
  ·refine Qg 4 K M ?_;intro _ K;refine Qe ⟨.inr rfl,_,JU K rfl,?_⟩;refine⟨congrArg AV.bool ?_,M.qt⟩;rw[Uv o s z a l]
   try generalize l.all Jz=q1 at *
   try generalize l.all Jw=q2 at *
   try clear M
   try clear ih
   try clear hr
   try clear hr0
   try clear hp
   try clear hn
   try clear hK
   try clear hb
   try clear hc
   try clear hm
   try clear hln
   try clear hbn
   try clear hf
   simp_all [Qu,JO,hasB,Gc]<;>first|done|rfl|omega|(congr 1;done)|(congr 2;done)|(intros;omega)|skip
  refine Qg 1 K M ?_;intro _ K;obtain⟨v27,st27,ev27,rfl,q27⟩:=Is (p:=Jz) M.fresh (hr0.mono M.rows) (fun k hk st1 cs hf1 hr1=>ih _ hk st1 cs hf1 hr1);refine og K rfl rfl (Qc rfl ev27) rfl fun _ K=>?_;replace M:=M.quiet q27;refine Qg 2 K M ?_;intro _ K;refine Qe ⟨.inr rfl,_,JU K rfl,?_⟩;refine⟨congrArg AV.bool ?_,M.qt⟩;rw[Uv o s z a l]
  try generalize l.all Jz=q1 at *
  try generalize l.all Jw=q2 at *
  try clear M
  try clear ih
  try clear hr
  try clear hr0
  try clear hp
  try clear hn
  try clear hK
  try clear hb
  try clear hc
  try clear hm
  try clear hln
  try clear hbn
  try clear hf
  simp_all [Qu,JO,hasB,Gc]<;>first|done|rfl|omega|(congr 1;done)|(congr 2;done)|(intros;omega)|skip
 have hb18:=h18;refine EK (J:=fun T st9=> ∃(b:Bool),Jm [(1,.ptr c1 0 0),(2,.bool false),(4,.str o),(29,.bool b)] T∧Mem st.h.get st.n [] st9 [(c1,0,[.str o,.str s,.int .i64 z,.int .i64 a,kk])]∧b=oneOf o [[101,120],[97,108,108]]) ?_ (fun T st9 hJ=>?_)
 ·refine Qq<|Qh<|o1 K (QV (b:=[101,120]) rfl rfl) rfl fun _ K=>?_;refine Qg 1 K M ?_;intro _ K;refine Qn (K.QR rfl) (fun h29=>?_) (fun h29=>?_)
  ·have hb29:=h29;replace h29:=of_decide_eq_true h29;refine QT ?_;exact⟨_,(.cons (K _ _ rfl) (.cons (K _ _ rfl) (.cons (K _ _ rfl) (.cons (K _ _ rfl) .nil)))),M.less (.refl _),(by simp_all [oneOf])⟩
  have hb29:=h29;replace h29:=of_decide_eq_false h29;refine Qh<|o1 K (QV (b:=[97,108,108]) rfl rfl) rfl fun _ K=>o1 K (QM rfl) rfl fun _ K=>Q5 ?_;exact⟨_,(.cons (K _ _ rfl) (.cons (K _ _ rfl) (.cons (K _ _ rfl) (.cons (K _ _ rfl) .nil)))),M.less (.refl _),(by simp_all [oneOf])⟩
 obtain⟨b,K,M,hbs14⟩:=hJ;refine Qn (K.QR rfl) (fun h29=>?_) (fun h29=>?_)
 ·have hb29:=h29;refine Qg 2 K M ?_;intro _ K;refine oQ K M (Wy M.fresh s) rfl rfl fun _ _ K M=>?_;refine oB K (Qb rfl) rfl fun b35 _ e35 K=>?_;cases b35
  ·refine Qg 20 K M ?_;intro _ K;refine Qe ⟨.inr rfl,_,JU K rfl,?_⟩;refine⟨congrArg AV.bool ?_,M.qt⟩;rw[Uv o s z a l]
   try generalize l.all Jz=q1 at *
   try generalize l.all Jw=q2 at *
   try clear M
   try clear ih
   try clear hr
   try clear hr0
   try clear hp
   try clear hn
   try clear hK
   try clear hb
   try clear hc
   try clear hm
   try clear hln
   try clear hbn
   try clear hf
   simp_all [Qu,JO,hasB,Gc]<;>first|done|rfl|omega|(congr 1;done)|(congr 2;done)|(intros;omega)|skip
  refine Qg 4 K M ?_;intro _ K;refine oB K (Qb rfl) rfl fun b40 _ e40 K=>?_;cases b40
  ·replace e40:=of_decide_eq_false e40;refine Qg 15 K M ?_;intro _ K;refine Qe ⟨.inr rfl,_,JU K rfl,?_⟩;refine⟨congrArg AV.bool ?_,M.qt⟩;rw[Uv o s z a l]
   try generalize l.all Jz=q1 at *
   try generalize l.all Jw=q2 at *
   try clear M
   try clear ih
   try clear hr
   try clear hr0
   try clear hp
   try clear hn
   try clear hK
   try clear hb
   try clear hc
   try clear hm
   try clear hln
   try clear hbn
   try clear hf
   simp_all [Qu,JO,hasB,Gc]<;>first|done|rfl|omega|(congr 1;done)|(congr 2;done)|(intros;omega)|skip
  replace e40:=of_decide_eq_true e40;refine Qg 4 K M ?_;intro _ K;refine oB K (Qb rfl) rfl fun b45 _ e45 K=>?_;cases b45
  ·replace e45:=of_decide_eq_false e45;refine Qg 10 K M ?_;intro _ K;refine Qe ⟨.inr rfl,_,JU K rfl,?_⟩;refine⟨congrArg AV.bool ?_,M.qt⟩;rw[Uv o s z a l]
   try generalize l.all Jz=q1 at *
   try generalize l.all Jw=q2 at *
   try clear M
   try clear ih
   try clear hr
   try clear hr0
   try clear hp
   try clear hn
   try clear hK
   try clear hb
   try clear hc
   try clear hm
   try clear hln
   try clear hbn
   try clear hf
   simp_all [Qu,JO,hasB,Gc]<;>first|done|rfl|omega|(congr 1;done)|(congr 2;done)|(intros;omega)|skip
  replace e45:=of_decide_eq_true e45;refine Qg 2 K M ?_;intro _ K;refine og K rfl rfl (Jd J5 rfl rfl hK.len) rfl fun _ K=>?_;refine Qg 2 K M ?_;intro _ K;refine oB K (Qb rfl) rfl fun b51 _ e51 K=>?_;cases b51
  ·replace e51:=of_decide_eq_false e51;refine Qg 4 K M ?_;intro _ K;refine Qe ⟨.inr rfl,_,JU K rfl,?_⟩;refine⟨congrArg AV.bool ?_,M.qt⟩;rw[Uv o s z a l]
   try generalize l.all Jz=q1 at *
   try generalize l.all Jw=q2 at *
   try clear M
   try clear ih
   try clear hr
   try clear hr0
   try clear hp
   try clear hn
   try clear hK
   try clear hb
   try clear hc
   try clear hm
   try clear hln
   try clear hbn
   try clear hf
   simp_all [Qu,JO,hasB,Gc]<;>first|done|rfl|omega|(congr 1;done)|(congr 2;done)|(intros;omega)|skip
  replace e51:=of_decide_eq_true e51;refine Qg 1 K M ?_;intro _ K;obtain⟨v53,st53,ev53,rfl,q53⟩:=Is (p:=Jz) M.fresh (hr0.mono M.rows) (fun k hk st1 cs hf1 hr1=>ih _ hk st1 cs hf1 hr1);refine og K rfl rfl (Qc rfl ev53) rfl fun _ K=>?_;replace M:=M.quiet q53;refine Qg 2 K M ?_;intro _ K;refine Qe ⟨.inr rfl,_,JU K rfl,?_⟩;refine⟨congrArg AV.bool ?_,M.qt⟩;rw[Uv o s z a l]
  try generalize l.all Jz=q1 at *
  try generalize l.all Jw=q2 at *
  try clear M
  try clear ih
  try clear hr
  try clear hr0
  try clear hp
  try clear hn
  try clear hK
  try clear hb
  try clear hc
  try clear hm
  try clear hln
  try clear hbn
  try clear hf
  simp_all [Qu,JO,hasB,Gc]<;>first|done|rfl|omega|(congr 1;done)|(congr 2;done)|(intros;omega)|skip
 have hb29:=h29;refine Qq<|Qh<|o1 K (QV (b:=[105,115]) rfl rfl) rfl fun _ K=>?_;refine Qg 1 K M ?_;intro _ K;refine Z0 K rfl (fun h55=>?_) fun h55=>?_
 ·refine Qg 2 K M ?_;intro _ K;refine oQ K M (Wy M.fresh s) rfl rfl fun _ _ K M=>?_;refine oB K (Qb rfl) rfl fun b60 _ e60 K=>?_;cases b60
  ·refine Qg 11 K M ?_;intro _ K;refine Qe ⟨.inr rfl,_,JU K rfl,?_⟩;refine⟨congrArg AV.bool ?_,M.qt⟩;rw[Uv o s z a l]
   try generalize l.all Jz=q1 at *
   try generalize l.all Jw=q2 at *
   try clear M
   try clear ih
   try clear hr
   try clear hr0
   try clear hp
   try clear hn
   try clear hK
   try clear hb
   try clear hc
   try clear hm
   try clear hln
   try clear hbn
   try clear hf
   simp_all [Qu,JO,hasB,Gc]<;>first|done|rfl|omega|(congr 1;done)|(congr 2;done)|(intros;omega)|skip
  refine Qg 4 K M ?_;intro _ K;refine oB K (Qb rfl) rfl fun b65 _ e65 K=>?_;cases b65
  ·replace e65:=of_decide_eq_false e65;refine Qg 6 K M ?_;intro _ K;refine Qe ⟨.inr rfl,_,JU K rfl,?_⟩;refine⟨congrArg AV.bool ?_,M.qt⟩;rw[Uv o s z a l]
   try generalize l.all Jz=q1 at *
   try generalize l.all Jw=q2 at *
   try clear M
   try clear ih
   try clear hr
   try clear hr0
   try clear hp
   try clear hn
   try clear hK
   try clear hb
   try clear hc
   try clear hm
   try clear hln
   try clear hbn
   try clear hf
   simp_all [Qu,JO,hasB,Gc]<;>first|done|rfl|omega|(congr 1;done)|(congr 2;done)|(intros;omega)|skip
  replace e65:=of_decide_eq_true e65;refine Qg 2 K M ?_;intro _ K;refine og K rfl rfl (Jd J5 rfl rfl hK.len) rfl fun _ K=>?_;refine Qg 3 K M ?_;intro _ K;refine Qe ⟨.inr rfl,_,JU K rfl,?_⟩;refine⟨congrArg AV.bool ?_,M.qt⟩;rw[Uv o s z a l]
  try generalize l.all Jz=q1 at *
  try generalize l.all Jw=q2 at *
  try clear M
  try clear ih
  try clear hr
  try clear hr0
  try clear hp
  try clear hn
  try clear hK
  try clear hb
  try clear hc
  try clear hm
  try clear hln
  try clear hbn
  try clear hf
  simp_all [Qu,JO,hasB,Gc]<;>first|done|rfl|omega|(congr 1;done)|(congr 2;done)|(intros;omega)|skip
 refine EK (J:=fun T st9=> ∃(b:Bool),Jm [(1,.ptr c1 0 0),(2,.bool false),(4,.str o),(71,.bool b)] T∧Mem st.h.get st.n [] st9 [(c1,0,[.str o,.str s,.int .i64 z,.int .i64 a,kk])]∧b=oneOf o [[101,113],[110,101],[108,116],[108,101],[105,110],[110,111,116,105,110],[115,117,98]]) ?_ (fun T st9 hJ=>?_)
 ·refine Qq<|Qh<|o1 K (QV (b:=[101,113]) rfl rfl) rfl fun _ K=>?_;refine Qg 1 K M ?_;intro _ K;refine Qn (K.QR rfl) (fun h71=>?_) (fun h71=>?_)
  ·have hb71:=h71;replace h71:=of_decide_eq_true h71;refine QT ?_;exact⟨_,(.cons (K _ _ rfl) (.cons (K _ _ rfl) (.cons (K _ _ rfl) (.cons (K _ _ rfl) .nil)))),M.less (.refl _),(by simp_all [oneOf])⟩
  have hb71:=h71;replace h71:=of_decide_eq_false h71;refine Qq<|Qh<|o1 K (QV (b:=[110,101]) rfl rfl) rfl fun _ K=>?_;refine Qg 1 K M ?_;intro _ K;refine Qn (K.QR rfl) (fun h71=>?_) (fun h71=>?_)
  ·have hb71:=h71;replace h71:=of_decide_eq_true h71;refine QT ?_;exact⟨_,(.cons (K _ _ rfl) (.cons (K _ _ rfl) (.cons (K _ _ rfl) (.cons (K _ _ rfl) .nil)))),M.less (.refl _),(by simp_all [oneOf])⟩
  have hb71:=h71;replace h71:=of_decide_eq_false h71;refine Qq<|Qh<|o1 K (QV (b:=[108,116]) rfl rfl) rfl fun _ K=>?_;refine Qg 1 K M ?_;intro _ K;refine Qn (K.QR rfl) (fun h71=>?_) (fun h71=>?_)
  ·have hb71:=h71;replace h71:=of_decide_eq_true h71;refine QT ?_;exact⟨_,(.cons (K _ _ rfl) (.cons (K _ _ rfl) (.cons (K _ _ rfl) (.cons (K _ _ rfl) .nil)))),M.less (.refl _),(by simp_all [oneOf])⟩
  have hb71:=h71;replace h71:=of_decide_eq_false h71;refine Qq<|Qh<|o1 K (QV (b:=[108,101]) rfl rfl) rfl fun _ K=>?_;refine Qg 1 K M ?_;intro _ K;refine Qn (K.QR rfl) (fun h71=>?_) (fun h71=>?_)
  ·have hb71:=h71;replace h71:=of_decide_eq_true h71;refine QT ?_;exact⟨_,(.cons (K _ _ rfl) (.cons (K _ _ rfl) (.cons (K _ _ rfl) (.cons (K _ _ rfl) .nil)))),M.less (.refl _),(by simp_all [oneOf])⟩
  have hb71:=h71;replace h71:=of_decide_eq_false h71;refine Qq<|Qh<|o1 K (QV (b:=[105,110]) rfl rfl) rfl fun _ K=>?_;refine Qg 1 K M ?_;intro _ K;refine Qn (K.QR rfl) (fun h71=>?_) (fun h71=>?_)
  ·have hb71:=h71;replace h71:=of_decide_eq_true h71;refine QT ?_;exact⟨_,(.cons (K _ _ rfl) (.cons (K _ _ rfl) (.cons (K _ _ rfl) (.cons (K _ _ rfl) .nil)))),M.less (.refl _),(by simp_all [oneOf])⟩
  have hb71:=h71;replace h71:=of_decide_eq_false h71;refine Qq<|Qh<|o1 K (QV (b:=[110,111,116,105,110]) rfl rfl) rfl fun _ K=>?_;refine Qg 1 K M ?_;intro _ K;refine Qn (K.QR rfl) (fun h71=>?_) (fun h71=>?_)
  ·have hb71:=h71;replace h71:=of_decide_eq_true h71;refine QT ?_;exact⟨_,(.cons (K _ _ rfl) (.cons (K _ _ rfl) (.cons (K _ _ rfl) (.cons (K _ _ rfl) .nil)))),M.less (.refl _),(by simp_all [oneOf])⟩
  have hb71:=h71;replace h71:=of_decide_eq_false h71;refine Qh<|o1 K (QV (b:=[115,117,98]) rfl rfl) rfl fun _ K=>o1 K (QM rfl) rfl fun _ K=>Q5 ?_;exact⟨_,(.cons (K _ _ rfl) (.cons (K _ _ rfl) (.cons (K _ _ rfl) (.cons (K _ _ rfl) .nil)))),M.less (.refl _),(by simp_all [oneOf])⟩
 obtain⟨b,K,M,hbs24⟩:=hJ;refine Qn (K.QR rfl) (fun h71=>?_) (fun h71=>?_)
 ·have hb71:=h71;refine Qg 1 K M ?_;intro _ K;refine oQ K M (IW M.fresh (hr0.mono M.rows) 2) rfl rfl fun _ _ K M=>?_;refine oB K (Qb rfl) rfl fun b81 _ e81 K=>?_;cases b81
  ·refine Qg 4 K M ?_;intro _ K;refine Qe ⟨.inr rfl,_,JU K rfl,?_⟩;refine⟨congrArg AV.bool ?_,M.qt⟩;rw[Uv o s z a l]
   try generalize l.all Jz=q1 at *
   try generalize l.all Jw=q2 at *
   try clear M
   try clear ih
   try clear hr
   try clear hr0
   try clear hp
   try clear hn
   try clear hK
   try clear hb
   try clear hc
   try clear hm
   try clear hln
   try clear hbn
   try clear hf
   simp_all [Qu,JO,hasB,Gc]<;>first|done|rfl|omega|(congr 1;done)|(congr 2;done)|(intros;omega)|skip
  refine Qg 1 K M ?_;intro _ K;obtain⟨v83,st83,ev83,rfl,q83⟩:=Is (p:=Jw) M.fresh (hr0.mono M.rows) (fun k hk st1 cs hf1 hr1=>Gi k st1 cs hf1 hr1);refine og K rfl rfl (Qc rfl ev83) rfl fun _ K=>?_;replace M:=M.quiet q83;refine Qg 2 K M ?_;intro _ K;refine Qe ⟨.inr rfl,_,JU K rfl,?_⟩;refine⟨congrArg AV.bool ?_,M.qt⟩;rw[Uv o s z a l]
  try generalize l.all Jz=q1 at *
  try generalize l.all Jw=q2 at *
  try clear M
  try clear ih
  try clear hr
  try clear hr0
  try clear hp
  try clear hn
  try clear hK
  try clear hb
  try clear hc
  try clear hm
  try clear hln
  try clear hbn
  try clear hf
  simp_all [Qu,JO,hasB,Gc]<;>first|done|rfl|omega|(congr 1;done)|(congr 2;done)|(intros;omega)|skip
 have hb71:=h71;refine Qq<|Qh<|o1 K (QV (b:=[99,97,108,108]) rfl rfl) rfl fun _ K=>?_;refine Qg 1 K M ?_;intro _ K;refine Z0 K rfl (fun h85=>?_) fun h85=>?_
 ·refine Qg 2 K M ?_;intro _ K;refine oQ K M (Wy M.fresh s) rfl rfl fun _ _ K M=>?_;refine oB K (Qb rfl) rfl fun b90 _ e90 K=>?_;cases b90
  ·refine Qg 15 K M ?_;intro _ K;refine Qe ⟨.inr rfl,_,JU K rfl,?_⟩;refine⟨congrArg AV.bool ?_,M.qt⟩;rw[Uv o s z a l]
   try generalize l.all Jz=q1 at *
   try generalize l.all Jw=q2 at *
   try clear M
   try clear ih
   try clear hr
   try clear hr0
   try clear hp
   try clear hn
   try clear hK
   try clear hb
   try clear hc
   try clear hm
   try clear hln
   try clear hbn
   try clear hf
   simp_all [Qu,JO,hasB,Gc]<;>first|done|rfl|omega|(congr 1;done)|(congr 2;done)|(intros;omega)|skip
  refine Qg 4 K M ?_;intro _ K;refine oB K (Qb rfl) rfl fun b95 _ e95 K=>?_;cases b95
  ·replace e95:=of_decide_eq_false e95;refine Qg 10 K M ?_;intro _ K;refine Qe ⟨.inr rfl,_,JU K rfl,?_⟩;refine⟨congrArg AV.bool ?_,M.qt⟩;rw[Uv o s z a l]
   try generalize l.all Jz=q1 at *
   try generalize l.all Jw=q2 at *
   try clear M
   try clear ih
   try clear hr
   try clear hr0
   try clear hp
   try clear hn
   try clear hK
   try clear hb
   try clear hc
   try clear hm
   try clear hln
   try clear hbn
   try clear hf
   simp_all [Qu,JO,hasB,Gc]<;>first|done|rfl|omega|(congr 1;done)|(congr 2;done)|(intros;omega)|skip
  replace e95:=of_decide_eq_true e95;refine Qg 2 K M ?_;intro _ K;refine og K rfl rfl (Jd J5 rfl rfl hK.len) rfl fun _ K=>?_;refine Qg 2 K M ?_;intro _ K;refine oB K (Qb rfl) rfl fun b101 _ e101 K=>?_;cases b101
  ·replace e101:=of_decide_eq_false e101;refine Qg 4 K M ?_;intro _ K;refine Qe ⟨.inr rfl,_,JU K rfl,?_⟩;refine⟨congrArg AV.bool ?_,M.qt⟩;rw[Uv o s z a l]
   try generalize l.all Jz=q1 at *
   try generalize l.all Jw=q2 at *
   try clear M
   try clear ih
   try clear hr
   try clear hr0
   try clear hp
   try clear hn
   try clear hK
   try clear hb
   try clear hc
   try clear hm
   try clear hln
   try clear hbn
   try clear hf
   simp_all [Qu,JO,hasB,Gc]<;>first|done|rfl|omega|(congr 1;done)|(congr 2;done)|(intros;omega)|skip
  replace e101:=of_decide_eq_true e101;refine Qg 1 K M ?_;intro _ K;obtain⟨v103,st103,ev103,rfl,q103⟩:=Is (p:=Jw) M.fresh (hr0.mono M.rows) (fun k hk st1 cs hf1 hr1=>Gi k st1 cs hf1 hr1);refine og K rfl rfl (Qc rfl ev103) rfl fun _ K=>?_;replace M:=M.quiet q103;refine Qg 2 K M ?_;intro _ K;refine Qe ⟨.inr rfl,_,JU K rfl,?_⟩;refine⟨congrArg AV.bool ?_,M.qt⟩;rw[Uv o s z a l]
  try generalize l.all Jz=q1 at *
  try generalize l.all Jw=q2 at *
  try clear M
  try clear ih
  try clear hr
  try clear hr0
  try clear hp
  try clear hn
  try clear hK
  try clear hb
  try clear hc
  try clear hm
  try clear hln
  try clear hbn
  try clear hf
  simp_all [Qu,JO,hasB,Gc]<;>first|done|rfl|omega|(congr 1;done)|(congr 2;done)|(intros;omega)|skip
 refine Qg 1 K M ?_;intro _ K;refine Qe ⟨.inr rfl,_,JU K rfl,?_⟩;refine⟨congrArg AV.bool ?_,M.qt⟩;rw[Uv o s z a l]
 try generalize l.all Jz=q1 at *
 try generalize l.all Jw=q2 at *
 try clear M
 try clear ih
 try clear hr
 try clear hr0
 try clear hp
 try clear hn
 try clear hK
 try clear hb
 try clear hc
 try clear hm
 try clear hln
 try clear hbn
 try clear hf
 simp_all [Qu,JO,hasB,Gc]<;>first|done|rfl|omega|(congr 1;done)|(congr 2;done)|(intros;omega)|skip

end Go.Proofs.YtadjjadimlkkgaaGreatDoor
end
section
namespace Go.Proofs.YtadjjadimlkkgaaGreatDoor
open Go Go.RowKit

def UQ(x:Nd)(m:Int):Bool:=decide (min ((Ao x:Nat):Int) 2001≤m)&&decide (min ((Tg x:Nat):Int) 31≤30)
theorem YS(x:List Nat):Pw (.str x)=true:=rfl
theorem YT(k:IntKind)(x:Int):Pw (.int k x)=true:=rfl
theorem Ys(b:Bool):Pw (.bool b)=true:=rfl
theorem Mb{o s:List Nat}{z a:Int}{l:List Nd}{st:St}{cs:List AV}(hf:Q6 st)(hr:Vn st.h.get (.mk o s z a l) cs): ∃v st',Ev Tryz.prog Ja 150 [.agg cs] st v st'∧v=.int .i64 (min ((Ao (.mk o s z a l):Nat):Int) 2001)∧Qt st st':=by
 have hr0:=hr;obtain⟨kk,ls,rfl,hK,hb⟩:=hr.Ua;have hln:=hK.ln;have hbn:=hK.ZJ;refine QC rfl Tryz.func150 rfl Tryz.ntmps150 rfl fun T hT=>?_;have K:Jm [(0,_)] T:=(.cons (hT 0) .nil);have M:=Mem.start hf;refine Qq<|Qh ?_;refine J2 K M rfl (Qa rfl (Qa rfl (Qa rfl (Qa rfl (Qa hK.cell Qv))))) (by decide) fun c1 _ _ K M=>?_;refine Qg 2 K M ?_;intro _ K;refine oQ K M (jU _ 2001 _ _ M.fresh (hr0.mono M.rows) (by decide) (by decide)) rfl rfl fun _ _ K M=>?_;refine Qg 1 K M ?_;intro _ K;refine Qe ⟨.inr rfl,_,JU K rfl,?_⟩;exact⟨rfl,M.qt⟩

theorem RT{o s:List Nat}{z a:Int}{l:List Nd}{st:St}{cs:List AV}(hf:Q6 st)(hr:Vn st.h.get (.mk o s z a l) cs): ∃v st',Ev Tryz.prog Ja 162 [.agg cs] st v st'∧v=.int .i64 (min ((Tg (.mk o s z a l):Nat):Int) 31)∧Qt st st':=by
 have hr0:=hr;obtain⟨kk,ls,rfl,hK,hb⟩:=hr.Ua;have hln:=hK.ln;have hbn:=hK.ZJ;refine QC rfl Tryz.func162 rfl Tryz.ntmps162 rfl fun T hT=>?_;have K:Jm [(0,_)] T:=(.cons (hT 0) .nil);have M:=Mem.start hf;refine Qq<|Qh ?_;refine J2 K M rfl (Qa rfl (Qa rfl (Qa rfl (Qa rfl (Qa hK.cell Qv))))) (by decide) fun c1 _ _ K M=>?_;refine Qg 2 K M ?_;intro _ K;refine oQ K M (qU _ 31 _ _ M.fresh (hr0.mono M.rows) (by decide) (by decide)) rfl rfl fun _ _ K M=>?_;refine Qg 1 K M ?_;intro _ K;refine Qe ⟨.inr rfl,_,JU K rfl,?_⟩;exact⟨rfl,M.qt⟩

theorem zr{o s:List Nat}{z a:Int}{l:List Nd}{st:St}{cs:List AV}(hf:Q6 st)(hr:Vn st.h.get (.mk o s z a l) cs): ∃v st',Ev Tryz.prog Ja 103 [.agg cs] st v st'∧v=.bool (UQ (.mk o s z a l) 2000)∧Qt st st':=by
 have hr0:=hr;obtain⟨kk,ls,rfl,hK,hb⟩:=hr.Ua;have hln:=hK.ln;have hbn:=hK.ZJ;refine QC rfl Tryz.func103 rfl Tryz.ntmps103 rfl fun T hT=>?_;have K:Jm [(0,_)] T:=(.cons (hT 0) .nil);have M:=Mem.start hf;refine Qq<|Qh ?_;refine J2 K M rfl (Qa rfl (Qa rfl (Qa rfl (Qa rfl (Qa hK.cell Qv))))) (by decide) fun c1 _ _ K M=>?_;refine Qg 2 K M ?_;intro _ K;refine oQ K M (Mb M.fresh (hr0.mono M.rows)) rfl rfl fun _ _ K M=>?_;refine o1 K (DU rfl rfl) rfl fun _ K=>?_;refine oB K (Qb rfl) rfl fun b6 _ e6 K=>?_;cases b6
 ·replace e6:=of_decide_eq_false e6;refine Qg 5 K M ?_;intro _ K;refine Qe ⟨.inr rfl,_,JU K rfl,?_⟩;refine⟨congrArg AV.bool ?_,M.qt⟩;rw[UQ]
  simp_all<;>(intros;omega)
 replace e6:=of_decide_eq_true e6;refine Qg 1 K M ?_;intro _ K;obtain⟨v8,st8,ev8,rfl,q8⟩:=RT M.fresh (hr0.mono M.rows);refine og K rfl rfl (Qc rfl ev8) rfl fun _ K=>?_;replace M:=M.quiet q8;refine Qg 3 K M ?_;intro _ K;refine Qe ⟨.inr rfl,_,JU K rfl,?_⟩;refine⟨congrArg AV.bool ?_,M.qt⟩;rw[UQ]
 simp_all<;>(intros;omega)

theorem Ey{o s:List Nat}{z a:Int}{l:List Nd}{st:St}{cs:List AV}(hf:Q6 st)(hr:Vn st.h.get (.mk o s z a l) cs): ∃v st',Ev Tryz.prog Ja 59 [.agg cs] st v st'∧v=.bool (UQ (.mk o s z a l) 2000&&Jz (.mk o s z a l))∧Qt st st':=by
 have hr0:=hr;obtain⟨kk,ls,rfl,hK,hb⟩:=hr.Ua;have hln:=hK.ln;have hbn:=hK.ZJ;refine QC rfl Tryz.func59 rfl Tryz.ntmps59 rfl fun T hT=>?_;have K:Jm [(0,_)] T:=(.cons (hT 0) .nil);have M:=Mem.start hf;refine Qq<|Qh ?_;refine J2 K M rfl (Qa rfl (Qa rfl (Qa rfl (Qa rfl (Qa hK.cell Qv))))) (by decide) fun c1 _ _ K M=>?_;refine Qg 2 K M ?_;intro _ K;refine oQ K M (zr M.fresh (hr0.mono M.rows)) rfl rfl fun _ _ K M=>?_;refine oB K (Qb rfl) rfl fun b5 _ e5 K=>?_;cases b5
 ·refine Qg 4 K M ?_;intro _ K;refine Qe ⟨.inr rfl,_,JU K rfl,?_⟩;refine⟨congrArg AV.bool ?_,M.qt⟩
  simp_all
 refine Qg 1 K M ?_;intro _ K;obtain⟨v7,st7,ev7,rfl,q7⟩:=Bd _ _ _ M.fresh (hr0.mono M.rows);refine og K rfl rfl (Qc rfl ev7) rfl fun _ K=>?_;replace M:=M.quiet q7;refine Qg 2 K M ?_;intro _ K;refine Qe ⟨.inr rfl,_,JU K rfl,?_⟩;refine⟨congrArg AV.bool ?_,M.qt⟩
 simp_all

end Go.Proofs.YtadjjadimlkkgaaGreatDoor
end
section
namespace Go.Proofs.YtadjjadimlkkgaaGreatDoor
open Go Go.RowKit

def Nd.num:Nd→Int
 |.mk _ _ n _ _=>n
end Go.Proofs.YtadjjadimlkkgaaGreatDoor
end
section
namespace Go.Proofs.YtadjjadimlkkgaaGreatDoor
open Go Go.RowKit

def Oj(l:List (List Nat)):List (List AV):=l.map fun s=>[AV.str s]
theorem Wp(l:List (List Nat)):(Oj l).length=l.length:=by simp[Oj]
theorem PW{l:List (List Nat)}{i:Nat}{s:List Nat}(h:l[i]? =some s):(Oj l)[i]? =some [AV.str s]:=by rw[Oj,List.getElem?_map,h];rfl
theorem PX(a b:List (List Nat)):Oj (a++b)=Oj a++Oj b:=by simp[Oj]
theorem G8(l:List (List Nat)): ∀cs∈Oj l,cs.length=1:=by
 intro cs h;obtain⟨s,_,rfl⟩:=List.mem_map.1 h;rfl
end Go.Proofs.YtadjjadimlkkgaaGreatDoor
end
section
namespace Go.Proofs.YtadjjadimlkkgaaGreatDoor
open Go Go.RowKit

theorem TI(l:List (List Nat)):(Oj l).flatten=l.map AV.str:=by
 induction l with
 |nil=>rfl
 |cons s l ih=>rw[List.map_cons,←ih];rfl
theorem zf{h:Hp}{c m:Nat}{l:List (List Nat)}{rest:List AV}(r:JA h c m (l.map AV.str++rest))(hb:l.length≤1000000):J1 h [] 1 (Oj l) (.sl c m 0 l.length 1):=by
 refine⟨by rw[Wp];rfl,by rw[Wp];omega,rfl,fun i cs hi=>?_,fun c' m' off n z' e=>?_⟩
 ·have hlt:i<l.length:=by
   have:=(List.getElem?_eq_some_iff.1 hi).1;rw[Wp]at this;exact this
  rw[PW (List.getElem?_eq_getElem hlt)]at hi
  injection hi with hi
  subst hi;refine⟨c,m,0,_,by rw[Wp],by simp,r.Xg,rfl,?_⟩;rw[Nat.zero_add,Nat.mul_one,List.drop_append_of_le_length (by rw[List.length_map];omega),List.drop_eq_getElem_cons (by rw[List.length_map];exact hlt)];simp
 ·injection e with e1 e2 e3 e4 e5
  subst e1 e2 e3 e4 e5;exact⟨by simp,_,r.Xg,by simp⟩
end Go.Proofs.YtadjjadimlkkgaaGreatDoor
end
section
namespace Go.Proofs.YtadjjadimlkkgaaGreatDoor
open Go Go.RowKit

def Nd.name:Nd→List Nat
 |.mk _ name _ _ _=>name
end Go.Proofs.YtadjjadimlkkgaaGreatDoor
end
section
namespace Go.Proofs.YtadjjadimlkkgaaGreatDoor
open Go Go.RowKit

abbrev YX:=Nat→Nat→List AV→Prop
abbrev QJ:=List (Nat×Nat×List AV)
def EU(R:YX)(h:Hp):Prop:= ∀c m l,R c m l→Xf h c m l
def Jo(R:YX)(A:QJ):YX:=fun c m l=>R c m l∨(c,m,l)∈A
theorem Qm{R R':YX}{A A':QJ}(h: ∀c m l,R c m l→R' c m l)(hA: ∀x∈A,x∈A'): ∀c m l,Jo R A c m l→Jo R' A' c m l:=fun c m l h'=>h'.elim (fun x=>.inl (h _ _ _ x)) fun x=>.inr (hA _ x)
inductive Yh(R:YX):Nd→List AV→Prop
 |leaf {op name:List Nat} {n at_:Int} {ks:AV} (hs:ZF ks=some 0) (ha:ML ks=true) (hb:Bytes op∧Bytes name):Yh R (.mk op name n at_ []) [.str op,.str name,.int .i64 n,.int .i64 at_,ks]
 |node {op name:List Nat} {n at_:Int} {kids:List Nd} {c m off:Nat} {cells:List AV} (hr:R c m cells) (hn:(kids.length:Int)≤9223372036854775807) (hl:off+kids.length *5≤cells.length)
  (hk: ∀(i:Nat) (k:Nd),kids[i]? =some k→Yh R k ((cells.drop (off+i *5)).take 5)) (hb:Bytes op∧Bytes name):Yh R (.mk op name n at_ kids) [.str op,.str name,.int .i64 n,.int .i64 at_,.sl c m off kids.length 5]
theorem Yh.mono{R R':YX}(hl: ∀c m l,R c m l→R' c m l){t:Nd}{cs:List AV}(r:Yh R t cs):Yh R' t cs:=by
 induction r with
 |leaf hs ha hb=>exact .leaf hs ha hb
 |node hr hn hl' hk hb ih=>exact .node (hl _ _ _ hr) hn hl' ih hb
theorem Yh.Ly{R:YX}{h:Hp}(hl:EU R h){t:Nd}{cs:List AV}(r:Yh R t cs):Vn h t cs:=by
 induction r with
 |leaf hs ha hb=>exact .leaf hs ha hb
 |node hr hn hl' hk hb ih=>exact .node (hl _ _ _ hr) hn hl' ih hb
theorem Vn.toW{h:Hp}{t:Nd}{cs:List AV}(r:Vn h t cs):Yh (Xf h) t cs:=by
 induction r with
 |leaf hs ha hb=>exact .leaf hs ha hb
 |node hr hn hl' hk hb ih=>exact .node hr hn hl' ih hb
inductive Z2(R:YX):List Nd→AV→List (List AV)→Prop
 |none {kk:AV} (hs:ZF kk=some 0) (ha:ML kk=true):Z2 R [] kk []
 |row {kids:List Nd} {ls:List (List AV)} {c m off:Nat} {cells:List AV} (hr:R c m cells) (hn:(kids.length:Int)≤9223372036854775807) (hl:off+kids.length *5≤cells.length) (hls:ls.length=kids.length)
  (hcs: ∀(i:Nat) (cs:List AV),ls[i]? =some cs→cs=(cells.drop (off+i *5)).take 5) (hk: ∀(i:Nat) (k:Nd) (cs:List AV),kids[i]? =some k→ls[i]? =some cs→Yh R k cs):Z2 R kids (.sl c m off kids.length 5) ls
theorem Z2.mono{R R':YX}(hl: ∀c m l,R c m l→R' c m l){kids:List Nd}{kk:AV}{ls:List (List AV)}(K:Z2 R kids kk ls):Z2 R' kids kk ls:=by
 cases K with
 |none hs ha=>exact .none hs ha
 |row hr hn hl' hls hcs hk=>exact .row (hl _ _ _ hr) hn hl' hls hcs fun i k cs h1 h2=>(hk i k cs h1 h2).mono hl
theorem Z2.ln{R:YX}{kids:List Nd}{kk:AV}{ls:List (List AV)}(K:Z2 R kids kk ls):ls.length=kids.length:=by
 cases K with
 |none=>rfl
 |row _ _ _ h=>exact h
theorem Z2.len{R:YX}{kids:List Nd}{kk:AV}{ls:List (List AV)}(K:Z2 R kids kk ls):ZF kk=some kids.length:=by
 cases K with
 |none hs ha=>exact hs
 |row=>rfl
theorem Z2.cell{R:YX}{kids:List Nd}{kk:AV}{ls:List (List AV)}(K:Z2 R kids kk ls):Jy kk=true:=WB K.len
theorem Z2.ZJ{R:YX}{kids:List Nd}{kk:AV}{ls:List (List AV)}(K:Z2 R kids kk ls):(kids.length:Int)≤9223372036854775807:=by
 cases K with
 |none=>simp
 |row _ h=>exact h
theorem Z2.get{R:YX}{kids:List Nd}{kk:AV}{ls:List (List AV)}(K:Z2 R kids kk ls){i:Nat}{k:Nd}(hi:kids[i]? =some k): ∃cs,ls[i]? =some cs∧Yh R k cs:=by
 have hlt:i<ls.length:=by rw[K.ln];exact(List.getElem?_eq_some_iff.1 hi).1
 refine⟨_,List.getElem?_eq_getElem hlt,?_⟩
 cases K with
 |none=>simp at hi
 |row _ _ _ _ _ hk=>exact hk i k _ hi (List.getElem?_eq_getElem hlt)
theorem Z2.r{R:YX}{kids:List Nd}{kk:AV}{ls:List (List AV)}(K:Z2 R kids kk ls){h:Hp}(hi:EU R h):J1 h [] 5 ls kk:=by
 cases K with
 |none hs ha=>exact⟨hs,by simp,WB hs,fun i cs hi=>by simp at hi,fun c m off n z e=>by subst e;cases ha⟩
 |row hr hn hl hls hcs hk=>
  rename_i c m off cells;refine⟨by rw[hls];rfl,by rw[hls];exact hn,rfl,fun i cs he=>?_,fun c' m' off' n' z e=>?_⟩
  ·have hlt:=(List.getElem?_eq_some_iff.1 he).1;have:=hcs i cs he;refine⟨c,m,off,cells,by rw[hls],by simp,hi _ _ _ hr,?_,this.symm⟩;rw[this,List.length_take,List.length_drop];omega
  ·injection e with e1 e2 e3 e4 e5
   subst e1 e2 e3 e4 e5;exact⟨by simp,cells,hi _ _ _ hr,hl⟩
theorem Yh.zw{R:YX}{k:Nd}{cs:List AV}(r:Yh R k cs):cs.length=5:=by cases r<;>rfl
theorem Yh.Ua{R:YX}{op name:List Nat}{n at_:Int}{kids:List Nd}{cs:List AV}(r:Yh R (.mk op name n at_ kids) cs):
  ∃kk ls,cs=[.str op,.str name,.int .i64 n,.int .i64 at_,kk]∧Z2 R kids kk ls∧Bytes op∧Bytes name:=by
 cases r with
 |leaf hs ha hb=>exact⟨_,[],rfl,.none hs ha,hb⟩
 |node hr hn hl hk hb=>
  rename_i c m off cells
  have hlen:((List.range kids.length).map fun i=>(cells.drop (off+i *5)).take 5).length=kids.length:=by simp
  have hat: ∀(i:Nat) (cs:List AV),((List.range kids.length).map fun i=>(cells.drop (off+i *5)).take 5)[i]? =some cs→i<kids.length∧cs=(cells.drop (off+i *5)).take 5:=by
   intro i cs hi;rw[List.getElem?_map]at hi
   have hlt:i<kids.length:=by
    by_cases h:i<kids.length
    ·exact h
    ·rw[List.getElem?_eq_none (by simp;omega)]at hi;cases hi
   rw[List.getElem?_range hlt]at hi
   injection hi with hi
   exact⟨hlt,hi.symm⟩
  refine⟨_,(List.range kids.length).map fun i=>(cells.drop (off+i *5)).take 5,rfl,.row hr hn hl hlen (fun i cs hi=>(hat i cs hi).2) fun i k cs h1 h2=>?_,hb⟩;rw[(hat i cs h2).2];exact hk i k h1
theorem Z2.node{R:YX}{op name:List Nat}{n at_:Int}{kids:List Nd}{kk:AV}{ls:List (List AV)}(K:Z2 R kids kk ls)(hb:Bytes op∧Bytes name):Yh R (.mk op name n at_ kids) [.str op,.str name,.int .i64 n,.int .i64 at_,kk]:=by
 cases K with
 |none hs ha=>exact .leaf hs ha hb
 |row hr hn hl hls hcs hk=>
  refine .node hr hn hl (fun i k hi=>?_) hb
  have hlt:i<ls.length:=by rw[hls];exact(List.getElem?_eq_some_iff.1 hi).1
  have h1:=List.getElem?_eq_getElem hlt;rw[←hcs i _ h1];exact hk i k _ hi h1
theorem Yh.cell{R:YX}{op name:List Nat}{n at_:Int}{kids:List Nd}{a b c d kk:AV}(r:Yh R (.mk op name n at_ kids) [a,b,c,d,kk]):Jy kk=true:=by
 obtain⟨kk',ls,e,K,_⟩:=r.Ua
 injection e with _ e
 injection e with _ e
 injection e with _ e
 injection e with _ e
 injection e with e
 subst e;exact K.cell
structure Dt(n0:Nat)(st':St)(A:QJ):Prop where
 row: ∀c m l,(c,m,l)∈A→JA st'.h.get c m l
 own: ∀c m l,(c,m,l)∈A→n0≤c
 nodup:(A.map Prod.fst).Nodup
section
variable {h0:Hp} {n0:Nat} {st st':St} {M L A B:QJ}
theorem Mem.UK(h:Mem h0 n0 [] st M)(q:Qt st st')(s:Dt st.n st' A):Mem h0 n0 [] st' (M++(A++[])):=by
 rw[List.append_nil];refine h.CZ (q.U7 []) (fun c hc=>by simp at hc) ?_ fun c m l hm=>?_
 ·rw[List.map_append];refine List.nodup_append.2 ⟨h.nodup,s.nodup,fun x hx y hy e=>?_⟩;subst e;obtain⟨⟨c1,m1,l1⟩,h1,rfl⟩:=List.mem_map.1 hx;obtain⟨⟨c2,m2,l2⟩,h2,e⟩:=List.mem_map.1 hy;have e:c2=c1:=e;subst e;have:=h.lt _ _ _ h1;have:=s.own _ _ _ h2;omega
 ·rcases List.mem_append.1 hm with hm|hm
  ·exact .inl ⟨hm,by simp⟩
  ·exact .inr ⟨s.row _ _ _ hm,.inr (s.own _ _ _ hm)⟩
theorem Mem.Iv{st0:St}(h:Mem st0.h.get st0.n [] st' M)(hs:A.Sublist M):Dt st0.n st' A:=
 ⟨fun c m l hm=>h.row c m l (hs.subset hm),fun c m l hm=>(h.own c m l (hs.subset hm)).resolve_right (by simp),h.nodup.sublist (hs.map _)⟩
theorem Mem.EU(h:Mem h0 n0 [] st M){R:YX}(hR:EU R h0):Proofs.YtadjjadimlkkgaaGreatDoor.EU R st.h.get:=fun c m l hr=>h.rows c m l (hR c m l hr)
theorem Mem.Bg(h:Mem h0 n0 [] st M){R:YX}(hR:Proofs.YtadjjadimlkkgaaGreatDoor.EU R h0)(hB: ∀x∈B,x∈M):Proofs.YtadjjadimlkkgaaGreatDoor.EU (Jo R B) st.h.get:=fun c m l hr=>hr.elim (fun x=>h.rows c m l (hR c m l x)) fun x=>JA.Xg (h.row c m l (hB _ x))
end
def UL(R:YX)(st st':St)(k:Nd)(v:AV):Prop:= ∃o s z a l kk A,k=.mk o s z a l∧v=.agg [.str o,.str s,.int .i64 z,.int .i64 a,kk]∧Dt st.n st' A∧Yh (Jo R A) k [.str o,.str s,.int .i64 z,.int .i64 a,kk]
def FH{α:Type}(R:YX)(f:α→Nd)(l:List α)(lsn:List (List AV)):Prop:= ∀(j:Nat) (k:α) (cs:List AV),l[j]? =some k→lsn[j]? =some cs→Yh R (f k) cs
theorem FH.nil{α:Type}{R:YX}{f:α→Nd}{l:List α}:FH R f l []:=fun j k cs _ h=>by simp at h
theorem FH.mono{α:Type}{R R':YX}(hl: ∀c m l,R c m l→R' c m l){f:α→Nd}{l:List α}{lsn:List (List AV)}(h:FH R f l lsn):FH R' f l lsn:=fun j k cs h1 h2=>(h j k cs h1 h2).mono hl
theorem FH.xa{α:Type}{R:YX}{f:α→Nd}{l:List α}{lsn:List (List AV)}{k:α}{cs:List AV}(h:FH R f l lsn)(hn:lsn.length=l.length)(hk:Yh R (f k) cs):FH R f (l++[k]) (lsn++[cs]):=by
 intro j k' cs' h1 h2
 by_cases hj:j<lsn.length
 ·rw[List.getElem?_append_left hj]at h2;rw[List.getElem?_append_left (by omega)]at h1;exact h j k' cs' h1 h2
 ·have hji:j=l.length:=by
   have:=(List.getElem?_eq_some_iff.1 h2).1;rw[List.length_append]at this;simp at this;omega
  subst hji;rw[List.getElem?_append_right (by omega),hn,Nat.sub_self]at h2;rw[List.getElem?_append_right (by omega),Nat.sub_self]at h1
  injection h1 with h1
  injection h2 with h2
  subst h1 h2;exact hk
theorem FH.kids{α:Type}{R:YX}{A:QJ}{f:α→Nd}{l:List α}{lsn:List (List AV)}{n0:Nat}{ks:AV}(h:FH R f l lsn)(hn:lsn.length=l.length)(hA:Acc n0 5 A ks lsn):Z2 (Jo R A) (l.map f) ks lsn:=by
 have hz: ∀(i:Nat) (k:Nd) (cs:List AV),(l.map f)[i]? =some k→lsn[i]? =some cs→Yh (Jo R A) k cs:=by
  intro i k cs h1 h2;rw[List.getElem?_map]at h1;obtain⟨y,hy,rfl⟩:=Option.map_eq_some_iff.1 h1;exact(h i y cs hy h2).mono fun _ _ _ x=>.inl x
 cases hA with
 |none=>
  have:l=[]:=List.length_eq_zero_iff.1 hn.symm;subst this;exact .none rfl rfl
 |own hc hz5 hb=>
  have e:lsn.length=(l.map f).length:=by rw[List.length_map];exact hn
  rw[e];refine .row (.inr (List.mem_singleton.2 rfl)) (by rw[←e];omega) ?_ e (fun i cs hi=>?_) hz
  ·rw[Xb hz5,←e];omega
  ·rw[Nat.zero_add];exact(FT i cs hz5 hi).symm
inductive Zk(n0:Nat):QJ→AV→List (List Nat)→Prop
 |none:Zk n0 [] .nils []
 |own {c m:Nat} {l:List (List Nat)} {rest:List AV} (hc:n0≤c) (hb:l.length≤1000000):Zk n0 [(c,m,(Oj l).flatten++rest)] (.sl c m 0 l.length 1) l
theorem Zk.len{n0:Nat}{A:QJ}{ks:AV}{l:List (List Nat)}(h:Zk n0 A ks l):ZF ks=some l.length:=by cases h<;>rfl
theorem Zk.cell{n0:Nat}{A:QJ}{ks:AV}{l:List (List Nat)}(h:Zk n0 A ks l):Jy ks=true:=by cases h<;>rfl
section
variable {P:Program} {G:Env} {h0:Hp} {n0:Nat} {st st':St} {M L A B:QJ} {ks:AV} {l:List (List Nat)}
end
end Go.Proofs.YtadjjadimlkkgaaGreatDoor
end
section
namespace Go.Proofs.YtadjjadimlkkgaaGreatDoor
open Go Go.RowKit

def Tk.cells(t:Tk):List AV:=[.int .i64 t.k,.str t.s,.int .i64 t.n,.int .i64 t.a]
abbrev Wx(kl:AV)(S:PS):List AV:=[kl,.int .i64 ((S.i:Nat):Int),.int .i64 S.e,.int .i64 S.a]
structure YJ(L:List Tk):Prop where
 t:yR L
 b: ∀t∈L,Bytes t.s
 n:L.length≤100000
theorem D8{L:List Tk}{i:Nat}{t:Tk}(h:L[i]? =some t):(L.map Tk.cells)[i]? =some t.cells:=by rw[List.getElem?_map,h];rfl
theorem zn{L:List Tk}{S:PS}{t:Tk}(he:S.e=0)(h:L[S.i]? =some t):Qi L S=t:=by rw[Qi,if_neg (by simp[he]),h];rfl
theorem L6{L:List Tk}{S:PS}(he: ¬S.e=0):Qi L S=CM:=by rw[Qi,if_pos he]
theorem Qo{L:List Tk}(h:YJ L)(S:PS):Bytes (Qi L S).s:=by
 unfold Qi
 split
 ·intro x hx;cases hx
 ·cases hq:L[S.i]? with
  |none=>intro x hx;cases hx
  |some t=>exact h.b t (List.mem_of_getElem? hq)
theorem Qj{L:List Tk}(h:YJ L)(S:PS):Bytes (Je L S).s:=by
 unfold Je
 split
 ·intro x hx;cases hx
 ·exact Qo h S
abbrev R0:YX:=fun _ _ _=>False
section
variable {h0:Hp} {n0:Nat} {X:List Nat} {st st':St} {M L A B:QJ}
theorem Mem.J7(h:Mem h0 n0 X st M){k c m m':Nat}{l l':List AV}(hk:M[k]? =some (c,m,l))(q:Ag [c] st st')(r:JA st'.h.get c m' l')(s:Dt st.n st' A):Mem h0 n0 X st' (M.set k (c,m',l')++(A++[])):=by
 have hm0:=List.mem_of_getElem? hk;have h1:=h.JP hk q r;rw[List.append_nil];refine h.CZ q (fun c' hc=>?_) ?_ fun c1 m1 l1 hm=>?_
 ·rw[List.mem_singleton]at hc;subst hc;exact⟨m,l,hm0⟩
 ·rw[List.map_append];refine List.nodup_append.2 ⟨h1.nodup,s.nodup,fun x hx y hy e=>?_⟩;subst e;obtain⟨⟨c1,m1,l1⟩,h2,rfl⟩:=List.mem_map.1 hx;obtain⟨⟨c2,m2,l2⟩,h3,e⟩:=List.mem_map.1 hy;have e:c2=c1:=e;subst e
  have hlt:c2<st.n:=by
   rcases List.mem_or_eq_of_mem_set h2 with h4|h4
   ·exact h.lt _ _ _ h4
   ·injection h4 with h4 _
    rw[h4];exact h.lt _ _ _ hm0
  have:=s.own _ _ _ h3;omega
 ·rcases List.mem_append.1 hm with hm|hm
  ·by_cases hc:c1=c
   ·subst hc;exact .inr ⟨h1.row _ _ _ hm,.inl ⟨m,l,hm0⟩⟩
   ·refine .inl ⟨?_,by simpa using hc⟩;obtain⟨i,hi⟩:=List.getElem?_of_mem hm;rw[List.getElem?_set]at hi
    by_cases hki:k=i
    ·subst hki;have:=(List.getElem?_eq_some_iff.1 hk).1;simp[this]at hi;exact absurd hi.1.symm hc
    ·rw[if_neg hki]at hi;exact List.mem_of_getElem? hi
  ·exact .inr ⟨s.row _ _ _ hm,.inr (s.own _ _ _ hm)⟩
theorem Mem.UB{st0:St}{c m k:Nat}{l:List AV}(h:Mem st0.h.get st0.n [c] st' M)(hk:M[k]? =some (c,m,l))(hs:A.Sublist (M.eraseIdx k)):Dt st0.n st' A:=by
 have hsub:(M.eraseIdx k).Sublist M:=List.eraseIdx_sublist ..;refine⟨fun c' m' l' hm=>h.row c' m' l' (hsub.subset (hs.subset hm)),fun c' m' l' hm=>?_,h.nodup.sublist ((hs.trans hsub).map _)⟩;refine(h.own c' m' l' (hsub.subset (hs.subset hm))).resolve_right fun hc=>?_;rw[List.mem_singleton]at hc;subst hc;obtain⟨i,hi⟩:=List.getElem?_of_mem (hs.subset hm);rw[List.getElem?_eraseIdx]at hi
 have key: ∀j,M[j]? =some (c',m',l')→j=k:=fun j hj=>by
  have h1:(M.map Prod.fst)[j]? =some c':=by rw[List.getElem?_map,hj];rfl
  have h2:(M.map Prod.fst)[k]? =some c':=by rw[List.getElem?_map,hk];rfl
  exact(List.getElem?_inj (List.getElem?_eq_some_iff.1 h1).1 h.nodup).1 (h1.trans h2.symm)
 split at hi
 ·have:=key _ hi;omega
 ·have:=key _ hi;omega
end
theorem Gg{A:QJ}{ks:List Nd}{ls:List (List AV)}{o s:List Nat}{z a:Int}{c:Nat}(hr:(c,0,ls.flatten)∈A)(hl:ls.length=ks.length)(hn:ks.length≤1000000)(hz: ∀cs∈ls,cs.length=5)(hk: ∀(i:Nat) (k:Nd) (cs:List AV),ks[i]? =some k→ls[i]? =some cs→Yh (Jo R0 A) k cs)(hb:Bytes o∧Bytes s):
  Yh (Jo R0 A) (.mk o s z a ks) [.str o,.str s,.int .i64 z,.int .i64 a,.sl c 0 0 ks.length 5]:=by
 refine .node (.inr hr) (by omega) (by rw[Xb hz,hl];omega) (fun i k hi=>?_) hb
 have hlt:i<ls.length:=by rw[hl];exact(List.getElem?_eq_some_iff.1 hi).1
 have h1:=FT i _ hz (List.getElem?_eq_getElem hlt);rw[Nat.zero_add,h1];exact hk i k _ hi (List.getElem?_eq_getElem hlt)
theorem node1{A:QJ}{k:Nd}{kc:List AV}{o s:List Nat}{z a:Int}{c:Nat}(hr:(c,0,kc)∈A)(hk:Yh (Jo R0 A) k kc)(hb:Bytes o∧Bytes s):Yh (Jo R0 A) (.mk o s z a [k]) [.str o,.str s,.int .i64 z,.int .i64 a,.sl c 0 0 1 5]:=by
 refine Gg (ks:=[k]) (ls:=[kc]) (by simpa using hr) rfl (by simp) (by intro cs h;rw[List.mem_singleton]at h;rw[h];exact hk.zw) (fun i k' cs h1 h2=>?_) hb
 match i,h1,h2 with
 |0,h1,h2=>injection h1 with h1;injection h2 with h2;subst h1 h2;exact hk
theorem node2{A:QJ}{k j:Nd}{kc jc:List AV}{o s:List Nat}{z a:Int}{c:Nat}(hr:(c,0,kc++jc)∈A)(hk:Yh (Jo R0 A) k kc)(hj:Yh (Jo R0 A) j jc)(hb:Bytes o∧Bytes s):Yh (Jo R0 A) (.mk o s z a [k,j]) [.str o,.str s,.int .i64 z,.int .i64 a,.sl c 0 0 2 5]:=by
 refine Gg (ks:=[k,j]) (ls:=[kc,jc]) (by simpa using hr) rfl (by simp) (by intro cs h;rcases List.mem_cons.1 h with h|h;rw[h];exact hk.zw;rw[List.mem_singleton]at h;rw[h];exact hj.zw) (fun i k' cs h1 h2=>?_) hb
 match i,h1,h2 with
 |0,h1,h2=>injection h1 with h1;injection h2 with h2;subst h1 h2;exact hk
 |1,h1,h2=>injection h1 with h1;injection h2 with h2;subst h1 h2;exact hj
theorem YL{R:YX}{o s:List Nat}{z a:Int}(hb:Bytes o∧Bytes s):Yh R (.mk o s z a []) [.str o,.str s,.int .i64 z,.int .i64 a,.nils]:=.leaf rfl rfl hb
theorem Qs:Bytes []:=fun x h=>by cases h
theorem Yh.JV{R:YX}{k:Nd}{a b c d kk:AV}(r:Yh R k [a,b,c,d,kk]):Jy kk=true:=by cases k;exact r.cell
def xi:Nd→Nat
 |.mk _ _ _ _ l=>l.length
theorem Yh.Ox{R:YX}{k:Nd}{a b c d kk:AV}(r:Yh R k [a,b,c,d,kk]):ZF kk=some (xi k):=by
 obtain⟨o,s,z,at_,l⟩:=k;obtain⟨kk',ls,e,K,_⟩:=r.Ua
 injection e with _ e
 injection e with _ e
 injection e with _ e
 injection e with _ e
 injection e with e _
 subst e;exact K.len
theorem Yh.shape{R:YX}{k:Nd}{o s:List Nat}{z a:Int}{kk:AV}(r:Yh R k [.str o,.str s,.int .i64 z,.int .i64 a,kk]): ∃l,k=.mk o s z a l:=by
 obtain⟨o1,s1,z1,a1,l⟩:=k;obtain⟨kk',ls,e,K,_⟩:=r.Ua
 injection e with e1 e
 injection e with e2 e
 injection e with e3 e
 injection e with e4 e
 injection e1 with e1
 injection e2 with e2
 injection e3 with _ e3
 injection e4 with _ e4
 subst e1 e2 e3 e4;exact⟨l,rfl⟩
theorem UL.of{R:YX}{st st':St}{A:QJ}{k:Nd}{o s:List Nat}{z a:Int}{kk:AV}(r:Yh (Jo R A) k [.str o,.str s,.int .i64 z,.int .i64 a,kk])(h:Dt st.n st' A):UL R st st' k (.agg [.str o,.str s,.int .i64 z,.int .i64 a,kk]):=by
 obtain⟨l,rfl⟩:=r.shape;exact⟨_,_,_,_,_,_,A,rfl,rfl,h,r⟩
def OC(st st':St)(l:List Nd)(v:AV):Prop:= ∃lsn A B,Acc st.n 5 A v lsn∧lsn.length=l.length∧FH (Jo R0 B) (fun k=>k) l lsn∧Dt st.n st' (A++B)
theorem OC.kids{st st':St}{l:List Nd}{v:AV}(h:OC st st' l v): ∃ls A,Z2 (Jo R0 A) l v ls∧Dt st.n st' A:=by
 obtain⟨lsn,A,B,h1,h2,h3,h4⟩:=h;refine⟨lsn,A++B,?_,h4⟩;have:=h3.kids h2 h1;rw[List.map_id']at this
 exact this.mono fun c m l h=>by
  rcases h with(h|h)|h
  ·exact h.elim
  ·exact .inr (List.mem_append_right _ h)
  ·exact .inr (List.mem_append_left _ h)
end Go.Proofs.YtadjjadimlkkgaaGreatDoor
end
