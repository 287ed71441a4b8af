/-
  Terms: the program's answer, the reference's.
-/
import Derived.Test.YtadjjadimlkkgaaGreatDoorLiTrA
import Derived.Test.YtadjjadimlkkgaaGreatDoorLiTyf
namespace Go.Proofs.YtadjjadimlkkgaaGreatDoor
open Go Go.RowKit
set_option maxHeartbeats 8000000
set_option linter.unusedVariables false
set_option linter.unusedSimpArgs false
set_option maxRecDepth 100000

def Wc{α:Type}(p:α→Bool):List α→Nat→Int
 |[],_=> -1
 |k::l,i=>if p k then(i:Int)else Wc p l (i+1)
theorem X1{α:Type}{p:α→Bool}{l:List α}{i:Nat}{k:α}(h:l[i]? =some k):Wc p (l.drop i) i=if p k then(i:Int)else Wc p (l.drop (i+1)) (i+1):=by
 obtain⟨h1,h2⟩:=List.getElem?_eq_some_iff.1 h;rw[List.drop_eq_getElem_cons h1,Wc,h2]
theorem IF{α:Type}(p:α→Bool): ∀(l:List α) (i:Nat),decide (0≤Wc p l i)=l.any p:=by
 intro l
 induction l with
 |nil=>intro i;rfl
 |cons k l ih=>
  intro i;rw[Wc,List.any_cons]
  cases hp:p k with
  |true=>rw[if_pos rfl];simp
  |false=>rw[if_neg (by decide),ih];rfl
theorem MO{α:Type}(p:α→Bool)(l:List α):(!l.any fun k=> !p k)=l.all p:=by
 induction l with
 |nil=>rfl
 |cons k l ih=>rw[List.any_cons,List.all_cons,←ih];cases p k<;>simp
theorem JR{l:List Nd}{k:Nd}(h:((l.length:Nat):Int)=1)(hi:l[0]? =some k):l=[k]:=by
 match l,h,hi with
 |[a],_,hi=>injection hi with hi;rw[hi]
 |[],h,_=>simp at h
 |a::b::l,h,_=>exact absurd h (by simp only[List.length_cons];omega)
def hasB(name:List Nat)(n:Int)(kids:List Nd)(m:Int)(nm nb:Bool):Bool:=decide (((kids.length:Nat):Int)=m)&&((nm||decide (name=[]))&&((nb||decide (n=0))&&(!nm||ZT name)))
theorem Uv{s:List Nat}{z:Int}{l:List Nd}{m:Int}(h:Jh s z l m=true):((l.length:Nat):Int)=m:=by
 simp[Jh]at h;exact h.2.2
theorem Gl{o s:List Nat}{z a:Int}{l:List Nd}{st:St}{cs:List AV}(hf:Qx st)(hr:Yq st.h.get (.mk o s z a l) cs): ∃v st',Ev Tryz.prog QT 209 [.agg cs] st v st'∧v=.bool (Jr o)∧Qt st st':=by
 have hr0:=hr;obtain⟨kk,ls,rfl,hK,hb⟩:=hr.Jl;have hln:=hK.ln;have hbn:=hK.UK;refine Q6 rfl Tryz.func209 rfl Tryz.ntmps209 rfl fun T hT=>?_;have K:Jf [(0,_)] T:=(.cons (hT 0) .nil);have M:=Mem.start hf;refine Qo<|Qb ?_;refine QM K M rfl (Qa rfl (Qa rfl (Qa rfl (Qa rfl (Qa hK.cell Qy))))) (by decide) fun c1 _ _ K M=>?_;refine Qg 3 K M ?_;intro _ K;refine o1 K (Q8 (b:=[117,110,105,111,110]) rfl rfl) rfl fun _ K=>?_;refine oB K (Qc rfl) rfl fun b6 _ e6 K=>?_;cases b6
 ·replace e6:=of_decide_eq_false e6;refine Qg 2 K M ?_;intro _ K;refine og K rfl rfl (Q8 (b:=[105,110,116,101,114]) rfl rfl) rfl fun _ K=>o1 K (VT rfl rfl rfl) rfl fun _ K=>?_;refine oB K (Qc rfl) rfl fun b11 _ e11 K=>?_;cases b11
  ·replace e11:=of_decide_eq_false e11;refine Qg 2 K M ?_;intro _ K;refine og K rfl rfl (Q8 (b:=[109,105,110,117,115]) rfl rfl) rfl fun _ K=>?_;refine Qg 2 K M ?_;intro _ K;refine Qf ⟨.inr rfl,_,J4 K rfl,?_⟩;refine⟨?_,M.qt⟩
   simp_all [Qi,Jr]<;>first|done|rfl|omega|(congr 1;done)|(congr 2;done)|(intros;omega)
  replace e11:=of_decide_eq_true e11;refine Qg 5 K M ?_;intro _ K;refine Qf ⟨.inr rfl,_,J4 K rfl,?_⟩;refine⟨?_,M.qt⟩
  simp_all [Qi,Jr]<;>first|done|rfl|omega|(congr 1;done)|(congr 2;done)|(intros;omega)
 replace e6:=of_decide_eq_true e6;refine Qg 10 K M ?_;intro _ K;refine Qf ⟨.inr rfl,_,J4 K rfl,?_⟩;refine⟨?_,M.qt⟩
 simp_all [Qi,Jr]<;>first|done|rfl|omega|(congr 1;done)|(congr 2;done)|(intros;omega)

theorem AW{o s:List Nat}{z a:Int}{l:List Nd}{st:St}{cs:List AV}(hf:Qx st)(hr:Yq st.h.get (.mk o s z a l) cs)(m:Int): ∃v st',Ev Tryz.prog QT 163 [.agg cs,.int .i64 m] st v st'∧v=.bool (Jh s z l m)∧Qt st st':=by
 have hr0:=hr;obtain⟨kk,ls,rfl,hK,hb⟩:=hr.Jl;have hln:=hK.ln;have hbn:=hK.UK;refine Q6 rfl Tryz.func163 rfl Tryz.ntmps163 rfl fun T hT=>?_;have K:Jf [(0,_),(1,_)] T:=(.cons (hT 0) (.cons (hT 1) .nil));have M:=Mem.start hf;refine Qo<|Qb ?_;refine QM K M rfl (Qa rfl (Qa rfl (Qa rfl (Qa rfl (Qa hK.cell Qy))))) (by decide) fun c2 _ _ K M=>?_;refine Qg 3 K M ?_;intro _ K;refine o1 K (Q8 (b:=[]) rfl rfl) rfl fun _ K=>?_;refine oB K (Qc rfl) rfl fun b8 _ e8 K=>?_;cases b8
 ·replace e8:=of_decide_eq_false e8;refine Qg 12 K M ?_;intro _ K;refine Qf ⟨.inr rfl,_,J4 K rfl,?_⟩;refine⟨?_,M.qt⟩
  simp_all [Qi,Jh]<;>first|done|rfl|omega|(congr 1;done)|(congr 2;done)|(intros;omega)
 replace e8:=of_decide_eq_true e8;refine Qg 4 K M ?_;intro _ K;refine oB K (Qc rfl) rfl fun b13 _ e13 K=>?_;cases b13
 ·replace e13:=of_decide_eq_false e13;refine Qg 7 K M ?_;intro _ K;refine Qf ⟨.inr rfl,_,J4 K rfl,?_⟩;refine⟨?_,M.qt⟩
  simp_all [Qi,Jh]<;>first|done|rfl|omega|(congr 1;done)|(congr 2;done)|(intros;omega)
 replace e13:=of_decide_eq_true e13;refine Qg 2 K M ?_;intro _ K;refine og K rfl rfl (QF QV rfl rfl hK.len) rfl fun _ K=>?_;refine Qg 4 K M ?_;intro _ K;refine Qf ⟨.inr rfl,_,J4 K rfl,?_⟩;refine⟨?_,M.qt⟩
 simp_all [Qi,Jh]<;>first|done|rfl|omega|(congr 1;done)|(congr 2;done)|(intros;omega)

theorem VI.mem{h0:Hp}{n0:Nat}{st:St}{M:List (Nat×Nat×List AV)}{kids:List Nd}{kk:AV}{ls:List (List AV)}(H:VI h0 kids kk ls)(hM:Mem h0 n0 [] st M):VI st.h.get kids kk ls:=
 ⟨H.r.mem hM (by simp),H.ln,fun i k hi=>by
  obtain⟨cs,h1,h2⟩:=H.at_ i k hi
  exact⟨cs,h1,h2.mono hM.rows⟩⟩

theorem BT{st:St}(hf:Qx st){fo:FuncId}{fa fc:List AV}{p:Nd→Bool}{l:List Nd}{kk:AV}{ls:List (List AV)}(hK:VI st.h.get l kk ls)(hC: ∀(k:Nd),k∈l→ ∀(st1:St) (cs:List AV),Qt st st1→Yq st1.h.get k cs→ ∃v st',Ev Tryz.prog QT fo (fa++([.agg cs]++fc)) st1 v st'∧v=.bool (p k)∧Qt st1 st'): ∃v st',Ev Tryz.prog QT 166 [kk,(AV.fn fo fa fc)] st v st'∧v=.int .i64 (Wc p l 0)∧Qt st st':=by
 have hln:=hK.ln;have hbn:=hK.UK;refine Q6 rfl Tryz.func166 rfl Tryz.ntmps166 rfl fun T hT=>?_;have K:Jf [(0,_),(1,_)] T:=(.cons (hT 0) (.cons (hT 1) .nil));have M:=Mem.start hf;refine Qg 2 K M ?_;intro _ K;refine o1 K (QF QV rfl rfl hK.len) rfl fun _ K=>?_;refine Qg 1 K M ?_;intro _ K;refine UW (fun mm1 T st9=> ∃(i:Nat),mm1=l.length-i∧Jf [(0,kk),(1,(AV.fn fo fa fc)),(7,.int .i64 (((l.length:Nat):Int))),(8,.int .i64 (((i:Nat):Int)))] T∧Mem st.h.get st.n [] st9 []∧i≤l.length∧Wc p l 0=Wc p (l.drop i) i) (fun mm1 T st9 hI=>?_) _ _ _ ⟨0,rfl,(.cons (K _ _ rfl) (.cons (K _ _ rfl) (.cons (K _ _ rfl) (.cons (K _ _ rfl) .nil)))),M.less (.refl _),(Nat.zero_le _),rfl⟩;obtain⟨i,rfl,K,M,hi,hx⟩:=hI;refine Qg 1 K M ?_;intro _ K;refine YI K rfl (fun h9=>?_) fun h9=>?_
 ·refine Qg 5 K M ?_;intro _ K;obtain⟨⟨o14,s14,z14,a14,l14⟩,hi14⟩: ∃k,l[i]? =some k:=⟨_,List.getElem?_eq_getElem (by first|omega|(have:=Uv (m:=1) (l:=l) (by assumption);omega)|(have:=Uv (m:=2) (l:=l) (by assumption);omega)|(have:=has_len (m:=1) (l:=l) (by assumption);omega))⟩;have hm14:=JQ hi14;obtain⟨_,hc14,hn14⟩:=hK.at_ _ _ hi14;have hp14:=hn14;obtain⟨kk14,ls14,rfl,hK14,hb14⟩:=hp14.Jl;obtain⟨x14,m14,f14,q14,_,la14,lo14,lp14⟩:=(hK.r.mem M (by simp)).load (i:=i) (cs:=_) hc14;refine o1 K (Qe (j:=i) QP (congrArg some q14) rfl (by rw[hK.ln];first|omega|(have:=Uv (m:=1) (l:=l) (by assumption);omega)|(have:=Uv (m:=2) (l:=l) (by assumption);omega)|(have:=has_len (m:=1) (l:=l) (by assumption);omega))) rfl fun _ K=>o1 K (Qr rfl (la14 _ Ji)) rfl fun _ K=>?_;obtain⟨v16,st16,ev16,rfl,q16⟩:=hC (.mk o14 s14 z14 a14 l14) hm14 _ _ M.qt (hn14.mono M.rows);refine o1 K (Uu rfl rfl ev16) rfl fun _ K=>?_;replace M:=M.quiet q16;refine QG ?_;show W _ _ _ _ _ _ _;refine Qs (K.QB rfl) (fun h16=>?_) (fun h16=>?_)
  ·have hb16:=h16;refine Qg 2 K M ?_;intro _ K;refine Qf ⟨.inr rfl,_,J4 K rfl,?_⟩;exact⟨by rw[hx,X1 hi14,if_pos h16],M.qt⟩
  have hb16:=h16;refine QU ?_;show W _ _ _ _ _ _ _;refine Qb<|o1 K (Jo rfl rfl (by omega) (by omega)) rfl fun _ K=>o1 K (Qc rfl) rfl fun _ K=>QG ?_;exact⟨_,(by omega),i+1,rfl,(.cons (K _ _ rfl) (.cons (K _ _ rfl) (.cons (K _ _ rfl) (.cons (K _ _ rfl) .nil)))),M.less (.refl _),(by omega),(by rw[hx,X1 hi14,if_neg (by rw[h16];decide)])⟩
 refine Uq ?_;show W _ _ _ _ _ _ _;refine Qg 1 K M ?_;intro _ K;refine Qf ⟨.inr rfl,_,J4 K rfl,?_⟩;exact⟨by rw[hx,Un (by omega)];rfl,M.qt⟩

theorem EB{st:St}(hf:Qx st){fo:FuncId}{fa fc:List AV}{p:Nd→Bool}{l:List Nd}{kk:AV}{ls:List (List AV)}(hK:VI st.h.get l kk ls)(hC: ∀(k:Nd),k∈l→ ∀(st1:St) (cs:List AV),Qt st st1→Yq st1.h.get k cs→ ∃v st',Ev Tryz.prog QT fo (fa++([.agg cs]++fc)) st1 v st'∧v=.bool (p k)∧Qt st1 st'): ∃v st',Ev Tryz.prog QT 105 [kk,(AV.fn fo fa fc)] st v st'∧v=.bool (l.any p)∧Qt st st':=by
 have hln:=hK.ln;have hbn:=hK.UK;refine Q6 rfl Tryz.func105 rfl Tryz.ntmps105 rfl fun T hT=>?_;have K:Jf [(0,_),(1,_)] T:=(.cons (hT 0) (.cons (hT 1) .nil));have M:=Mem.start hf;refine Qg 3 K M ?_;intro _ K;refine oQ K M (BT M.fresh (hK.mem M) (fun k hk st1 cs q hr=>hC k hk st1 cs (M.qt.trans q) hr)) rfl rfl fun _ _ K M=>?_;refine Qg 2 K M ?_;intro _ K;refine Qf ⟨.inr rfl,_,J4 K rfl,?_⟩;exact⟨by rw[←IF p l 0],M.qt⟩

theorem qu{o s:List Nat}{z a:Int}{l:List Nd}{st:St}{cs:List AV}(hf:Qx st)(hr:Yq st.h.get (.mk o s z a l) cs){c fo:Nat}(hc:Yy st.h.get c 0 [.fn fo [] []]){b:Bool}(hC: ∀(st1:St),Qt st st1→ ∃v st',Ev Tryz.prog QT fo [.agg cs] st1 v st'∧v=.bool b∧Qt st1 st'): ∃v st',Ev Tryz.prog QT 207 [.agg cs,.ptr c 0 0] st v st'∧v=.bool (!b)∧Qt st st':=by
 have hr0:=hr;obtain⟨kk,ls,rfl,hK,hb⟩:=hr.Jl;have hln:=hK.ln;have hbn:=hK.UK;refine Q6 rfl Tryz.func207 rfl Tryz.ntmps207 rfl fun T hT=>?_;have K:Jf [(0,_),(1,_)] T:=(.cons (hT 0) (.cons (hT 1) .nil));have M:=Mem.start hf;refine Qo<|Qb ?_;refine QM K M rfl (Qa rfl (Qa rfl (Qa rfl (Qa rfl (Qa hK.cell Qy))))) (by decide) fun c2 _ _ K M=>?_;refine Qg 1 K M ?_;intro _ K;refine o1 K (Qr rfl (Wa (hc.Ks hf (M.qt.Ks []) (by simp)) (Qw VL rfl))) rfl fun _ K=>?_;refine Qg 1 K M ?_;intro _ K;obtain⟨v6,st6,ev6,rfl,q6⟩:=hC _ M.qt;refine o1 K (Uu rfl rfl ev6) rfl fun _ K=>?_;replace M:=M.quiet q6;refine Qg 2 K M ?_;intro _ K;refine Qf ⟨.inr rfl,_,J4 K rfl,?_⟩;exact⟨rfl,M.qt⟩

theorem Aj{o s:List Nat}{z a:Int}{l:List Nd}{st:St}{cs:List AV}(hf:Qx st)(hr:Yq st.h.get (.mk o s z a l) cs){fo:FuncId}{p:Nd→Bool}(hC: ∀(k:Nd),k∈l→ ∀(st1:St) (cs:List AV),Qx st1→Yq st1.h.get k cs→ ∃v st',Ev Tryz.prog QT fo [.agg cs] st1 v st'∧v=.bool (p k)∧Qt st1 st'): ∃v st',Ev Tryz.prog QT 164 [.agg cs,(AV.fn fo [] [])] st v st'∧v=.bool (l.all p)∧Qt st st':=by
 have hr0:=hr;obtain⟨kk,ls,rfl,hK,hb⟩:=hr.Jl;have hln:=hK.ln;have hbn:=hK.UK;refine Q6 rfl Tryz.func164 rfl Tryz.ntmps164 rfl fun T hT=>?_;have K:Jf [(0,_),(1,_)] T:=(.cons (hT 0) (.cons (hT 1) .nil));have M:=Mem.start hf;refine Qo<|Qb ?_;refine QM K M rfl (Qa rfl (Qa rfl (Qa rfl (Qa rfl (Qa hK.cell Qy))))) (by decide) fun c2 _ _ K M=>?_;refine QM K M rfl rfl (by decide) fun c3 _ _ K M=>?_;refine Qg 3 K M ?_;intro _ K;refine o1 K (VU rfl rfl) rfl fun _ K=>?_;have hrow:=(M.Wp (k:=0) rfl).EJ;have hfr:=M.fresh
 obtain⟨v8,st8,ev8,rfl,q8⟩:=EB (fo:=207) (fa:=[]) (fc:=[.ptr c3 0 0]) (p:=fun k=> !p k) M.fresh (hK.mem M) (fun k hk st1 cs q hr1=>by
  obtain⟨ko,ks,kv,ka,kl⟩:=k
  exact qu q.fresh hr1 (hrow.Ks hfr (q.Ks []) (by simp)) (fun st2 q2=>hC _ hk st2 cs q2.fresh (hr1.qt q.fresh q2)))
 refine o1 K (Ql rfl ev8) rfl fun _ K=>?_;replace M:=M.quiet q8;refine Qg 2 K M ?_;intro _ K;refine Qf ⟨.inr rfl,_,J4 K rfl,?_⟩;exact⟨by rw[MO],M.qt⟩

theorem Pq{o s:List Nat}{z a:Int}{l:List Nd}{st:St}{cs:List AV}(hf:Qx st)(hr:Yq st.h.get (.mk o s z a l) cs)(hTm: ∀(st1:St) (cs:List AV),Qx st1→Yq st1.h.get (.mk o s z a l) cs→ ∃v st',Ev Tryz.prog QT 165 [.agg cs] st1 v st'∧v=.bool (QJ (.mk o s z a l))∧Qt st1 st'): ∃v st',Ev Tryz.prog QT 208 [.agg cs] st v st'∧v=.bool (UG (.mk o s z a l))∧Qt st st':=by
 have hr0:=hr;obtain⟨kk,ls,rfl,hK,hb⟩:=hr.Jl;have hln:=hK.ln;have hbn:=hK.UK;refine Q6 rfl Tryz.func208 rfl Tryz.ntmps208 rfl fun T hT=>?_;have K:Jf [(0,_)] T:=(.cons (hT 0) .nil);have M:=Mem.start hf;refine Qo<|Qb ?_;refine QM K M rfl (Qa rfl (Qa rfl (Qa rfl (Qa rfl (Qa hK.cell Qy))))) (by decide) fun c1 _ _ K M=>?_;refine Qg 2 K M ?_;intro _ K;refine oQ K M (hTm _ _ M.fresh (hr0.mono M.rows)) rfl rfl fun _ _ K M=>?_;refine oB K (Qc rfl) rfl fun b5 _ e5 K=>?_;cases b5
 ·refine Qg 10 K M ?_;intro _ K;refine Qf ⟨.inr rfl,_,J4 K rfl,?_⟩;refine⟨?_,M.qt⟩
  simp_all [Qi,UG,Nd.op,YD]<;>first|done|rfl|omega|(congr 1;done)|(congr 2;done)|(intros;omega)
 refine Qg 1 K M ?_;intro _ K;obtain⟨v7,st7,ev7,rfl,q7⟩:=Gl M.fresh (hr0.mono M.rows);refine og K rfl rfl (Ql rfl ev7) rfl fun _ K=>?_;replace M:=M.quiet q7;refine Qg 2 K M ?_;intro _ K;refine oB K (Qc rfl) rfl fun b10 _ e10 K=>?_;cases b10
 ·replace e10:(Jr o)=true:=by simpa using e10
  refine Qg 5 K M ?_;intro _ K;refine Qf ⟨.inr rfl,_,J4 K rfl,?_⟩;refine⟨?_,M.qt⟩
  simp_all [Qi,UG,Nd.op,YD]<;>first|done|rfl|omega|(congr 1;done)|(congr 2;done)|(intros;omega)
 replace e10:(Jr o)=false:=by simpa using e10
 refine Qg 2 K M ?_;intro _ K;refine og K rfl rfl (N9 (b:=[115,101,116]) rfl rfl) rfl fun _ K=>?_;refine Qg 2 K M ?_;intro _ K;refine Qf ⟨.inr rfl,_,J4 K rfl,?_⟩;refine⟨?_,M.qt⟩
 simp_all [Qi,UG,Nd.op,YD]<;>first|done|rfl|omega|(congr 1;done)|(congr 2;done)|(intros;omega)

theorem LF(x:Nd): ∀(st:St) (cs:List AV),Qx st→Yq st.h.get x cs→ ∃v st',Ev Tryz.prog QT 165 [.agg cs] st v st'∧v=.bool (QJ x)∧Qt st st':=by
 refine Xi (M:=fun x=> ∀(st:St) (cs:List AV),Qx st→Yq st.h.get x cs→ ∃v st',Ev Tryz.prog QT 165 [.agg cs] st v st'∧v=.bool (QJ x)∧Qt st st') (fun o s z a l ih=>?_) x;intro st cs hf hr;have hr0:=hr;obtain⟨kk,ls,rfl,hK,hb⟩:=hr.Jl;have hln:=hK.ln;have hbn:=hK.UK;refine Q6 rfl Tryz.func165 rfl Tryz.ntmps165 rfl fun T hT=>?_;have K:Jf [(0,_)] T:=(.cons (hT 0) .nil);have M:=Mem.start hf;refine Qo<|Qb ?_;refine QM K M rfl (Qa rfl (Qa rfl (Qa rfl (Qa rfl (Qa hK.cell Qy))))) (by decide) fun c1 _ _ K M=>?_;refine Qg 3 K M ?_;intro _ K;refine o1 K (Q8 (b:=[118,97,114]) rfl rfl) rfl fun _ K=>?_;refine Qg 1 K M ?_;intro _ K;refine YI K rfl (fun h5=>?_) fun h5=>?_
 ·refine Qg 2 K M ?_;intro _ K;obtain⟨v9,st9,ev9,rfl,q9⟩:=X0 M.fresh s;refine o1 K (Ql rfl ev9) rfl fun _ K=>?_;replace M:=M.quiet q9;refine oB K (Qc rfl) rfl fun b10 _ e10 K=>?_;cases b10
  ·refine Qg 11 K M ?_;intro _ K;refine Qf ⟨.inr rfl,_,J4 K rfl,?_⟩;refine⟨congrArg AV.bool ?_,M.qt⟩;rw[Ju o s z a l]
   try generalize l.all QJ=q1 at *
   try generalize l.all UG=q2 at *
   try clear M
   try clear ih
   try clear hr
   try clear hr0
   try clear hp
   try clear hn
   try clear hK
   try clear hb
   try clear hc
   try clear hm
   try clear hln
   try clear hbn
   try clear hf
   try(obtain hk:=JR (by assumption) (by assumption);subst hk)
   simp_all [Qi,Zr,ZS,UM,YD,Jr,Jh,hasB,Nd.op]<;>first|done|rfl|omega|(congr 1;done)|(congr 2;done)|(intros;omega)
  refine Qg 4 K M ?_;intro _ K;refine oB K (Qc rfl) rfl fun b15 _ e15 K=>?_;cases b15
  ·replace e15:=of_decide_eq_false e15;refine Qg 6 K M ?_;intro _ K;refine Qf ⟨.inr rfl,_,J4 K rfl,?_⟩;refine⟨congrArg AV.bool ?_,M.qt⟩;rw[Ju o s z a l]
   try generalize l.all QJ=q1 at *
   try generalize l.all UG=q2 at *
   try clear M
   try clear ih
   try clear hr
   try clear hr0
   try clear hp
   try clear hn
   try clear hK
   try clear hb
   try clear hc
   try clear hm
   try clear hln
   try clear hbn
   try clear hf
   try(obtain hk:=JR (by assumption) (by assumption);subst hk)
   simp_all [Qi,Zr,ZS,UM,YD,Jr,Jh,hasB,Nd.op]<;>first|done|rfl|omega|(congr 1;done)|(congr 2;done)|(intros;omega)
  replace e15:=of_decide_eq_true e15;refine Qg 2 K M ?_;intro _ K;refine og K rfl rfl (QF QV rfl rfl hK.len) rfl fun _ K=>?_;refine Qg 3 K M ?_;intro _ K;refine Qf ⟨.inr rfl,_,J4 K rfl,?_⟩;refine⟨congrArg AV.bool ?_,M.qt⟩;rw[Ju o s z a l]
  try generalize l.all QJ=q1 at *
  try generalize l.all UG=q2 at *
  try clear M
  try clear ih
  try clear hr
  try clear hr0
  try clear hp
  try clear hn
  try clear hK
  try clear hb
  try clear hc
  try clear hm
  try clear hln
  try clear hbn
  try clear hf
  try(obtain hk:=JR (by assumption) (by assumption);subst hk)
  simp_all [Qi,Zr,ZS,UM,YD,Jr,Jh,hasB,Nd.op]<;>first|done|rfl|omega|(congr 1;done)|(congr 2;done)|(intros;omega)
 refine Qo<|Qb<|o1 K (Q8 (b:=[110,117,109]) rfl rfl) rfl fun _ K=>?_;refine Qg 1 K M ?_;intro _ K;refine YI K rfl (fun h21=>?_) fun h21=>?_
 ·refine Qg 2 K M ?_;intro _ K;refine o1 K (Q8 (b:=[]) rfl rfl) rfl fun _ K=>?_;refine oB K (Qc rfl) rfl fun b26 _ e26 K=>?_;cases b26
  ·replace e26:=of_decide_eq_false e26;refine Qg 16 K M ?_;intro _ K;refine Qf ⟨.inr rfl,_,J4 K rfl,?_⟩;refine⟨congrArg AV.bool ?_,M.qt⟩;rw[Ju o s z a l]
   try generalize l.all QJ=q1 at *
   try generalize l.all UG=q2 at *
   try clear M
   try clear ih
   try clear hr
   try clear hr0
   try clear hp
   try clear hn
   try clear hK
   try clear hb
   try clear hc
   try clear hm
   try clear hln
   try clear hbn
   try clear hf
   try(obtain hk:=JR (by assumption) (by assumption);subst hk)
   simp_all [Qi,Zr,ZS,UM,YD,Jr,Jh,hasB,Nd.op]<;>first|done|rfl|omega|(congr 1;done)|(congr 2;done)|(intros;omega)
  replace e26:=of_decide_eq_true e26;refine Qg 4 K M ?_;intro _ K;refine oB K (Qc rfl) rfl fun b31 _ e31 K=>?_;cases b31
  ·replace e31:=of_decide_eq_false e31;refine Qg 11 K M ?_;intro _ K;refine Qf ⟨.inr rfl,_,J4 K rfl,?_⟩;refine⟨congrArg AV.bool ?_,M.qt⟩;rw[Ju o s z a l]
   try generalize l.all QJ=q1 at *
   try generalize l.all UG=q2 at *
   try clear M
   try clear ih
   try clear hr
   try clear hr0
   try clear hp
   try clear hn
   try clear hK
   try clear hb
   try clear hc
   try clear hm
   try clear hln
   try clear hbn
   try clear hf
   try(obtain hk:=JR (by assumption) (by assumption);subst hk)
   simp_all [Qi,Zr,ZS,UM,YD,Jr,Jh,hasB,Nd.op]<;>first|done|rfl|omega|(congr 1;done)|(congr 2;done)|(intros;omega)
  replace e31:=of_decide_eq_true e31;refine Qg 4 K M ?_;intro _ K;refine oB K (Qc rfl) rfl fun b36 _ e36 K=>?_;cases b36
  ·replace e36:=of_decide_eq_false e36;refine Qg 6 K M ?_;intro _ K;refine Qf ⟨.inr rfl,_,J4 K rfl,?_⟩;refine⟨congrArg AV.bool ?_,M.qt⟩;rw[Ju o s z a l]
   try generalize l.all QJ=q1 at *
   try generalize l.all UG=q2 at *
   try clear M
   try clear ih
   try clear hr
   try clear hr0
   try clear hp
   try clear hn
   try clear hK
   try clear hb
   try clear hc
   try clear hm
   try clear hln
   try clear hbn
   try clear hf
   try(obtain hk:=JR (by assumption) (by assumption);subst hk)
   simp_all [Qi,Zr,ZS,UM,YD,Jr,Jh,hasB,Nd.op]<;>first|done|rfl|omega|(congr 1;done)|(congr 2;done)|(intros;omega)
  replace e36:=of_decide_eq_true e36;refine Qg 2 K M ?_;intro _ K;refine og K rfl rfl (QF QV rfl rfl hK.len) rfl fun _ K=>?_;refine Qg 3 K M ?_;intro _ K;refine Qf ⟨.inr rfl,_,J4 K rfl,?_⟩;refine⟨congrArg AV.bool ?_,M.qt⟩;rw[Ju o s z a l]
  try generalize l.all QJ=q1 at *
  try generalize l.all UG=q2 at *
  try clear M
  try clear ih
  try clear hr
  try clear hr0
  try clear hp
  try clear hn
  try clear hK
  try clear hb
  try clear hc
  try clear hm
  try clear hln
  try clear hbn
  try clear hf
  try(obtain hk:=JR (by assumption) (by assumption);subst hk)
  simp_all [Qi,Zr,ZS,UM,YD,Jr,Jh,hasB,Nd.op]<;>first|done|rfl|omega|(congr 1;done)|(congr 2;done)|(intros;omega)
 refine Qo<|Qb<|o1 K (Q8 (b:=[112,108,117,115]) rfl rfl) rfl fun _ K=>?_;refine Qg 1 K M ?_;intro _ K;refine YI K rfl (fun h42=>?_) fun h42=>?_
 ·refine Qg 2 K M ?_;intro _ K;refine o1 K (Q8 (b:=[]) rfl rfl) rfl fun _ K=>?_;refine oB K (Qc rfl) rfl fun b47 _ e47 K=>?_;cases b47
  ·replace e47:=of_decide_eq_false e47;refine Qg 31 K M ?_;intro _ K;refine Qf ⟨.inr rfl,_,J4 K rfl,?_⟩;refine⟨congrArg AV.bool ?_,M.qt⟩;rw[Ju o s z a l]
   try generalize l.all QJ=q1 at *
   try generalize l.all UG=q2 at *
   try clear M
   try clear ih
   try clear hr
   try clear hr0
   try clear hp
   try clear hn
   try clear hK
   try clear hb
   try clear hc
   try clear hm
   try clear hln
   try clear hbn
   try clear hf
   try(obtain hk:=JR (by assumption) (by assumption);subst hk)
   simp_all [Qi,Zr,ZS,UM,YD,Jr,Jh,hasB,Nd.op]<;>first|done|rfl|omega|(congr 1;done)|(congr 2;done)|(intros;omega)
  replace e47:=of_decide_eq_true e47;refine Qg 4 K M ?_;intro _ K;refine oB K (Qc rfl) rfl fun b52 _ e52 K=>?_;cases b52
  ·replace e52:=of_decide_eq_false e52;refine Qg 26 K M ?_;intro _ K;refine Qf ⟨.inr rfl,_,J4 K rfl,?_⟩;refine⟨congrArg AV.bool ?_,M.qt⟩;rw[Ju o s z a l]
   try generalize l.all QJ=q1 at *
   try generalize l.all UG=q2 at *
   try clear M
   try clear ih
   try clear hr
   try clear hr0
   try clear hp
   try clear hn
   try clear hK
   try clear hb
   try clear hc
   try clear hm
   try clear hln
   try clear hbn
   try clear hf
   try(obtain hk:=JR (by assumption) (by assumption);subst hk)
   simp_all [Qi,Zr,ZS,UM,YD,Jr,Jh,hasB,Nd.op]<;>first|done|rfl|omega|(congr 1;done)|(congr 2;done)|(intros;omega)
  replace e52:=of_decide_eq_true e52;refine Qg 4 K M ?_;intro _ K;refine oB K (Qc rfl) rfl fun b57 _ e57 K=>?_;cases b57
  ·replace e57:=of_decide_eq_false e57;refine Qg 21 K M ?_;intro _ K;refine Qf ⟨.inr rfl,_,J4 K rfl,?_⟩;refine⟨congrArg AV.bool ?_,M.qt⟩;rw[Ju o s z a l]
   try generalize l.all QJ=q1 at *
   try generalize l.all UG=q2 at *
   try clear M
   try clear ih
   try clear hr
   try clear hr0
   try clear hp
   try clear hn
   try clear hK
   try clear hb
   try clear hc
   try clear hm
   try clear hln
   try clear hbn
   try clear hf
   try(obtain hk:=JR (by assumption) (by assumption);subst hk)
   simp_all [Qi,Zr,ZS,UM,YD,Jr,Jh,hasB,Nd.op]<;>first|done|rfl|omega|(congr 1;done)|(congr 2;done)|(intros;omega)
  replace e57:=of_decide_eq_true e57;refine Qg 2 K M ?_;intro _ K;refine og K rfl rfl (QF QV rfl rfl hK.len) rfl fun _ K=>?_;refine Qg 2 K M ?_;intro _ K;refine oB K (Qc rfl) rfl fun b63 _ e63 K=>?_;cases b63
  ·replace e63:=of_decide_eq_false e63;refine Qg 15 K M ?_;intro _ K;refine Qf ⟨.inr rfl,_,J4 K rfl,?_⟩;refine⟨congrArg AV.bool ?_,M.qt⟩;rw[Ju o s z a l]
   try generalize l.all QJ=q1 at *
   try generalize l.all UG=q2 at *
   try clear M
   try clear ih
   try clear hr
   try clear hr0
   try clear hp
   try clear hn
   try clear hK
   try clear hb
   try clear hc
   try clear hm
   try clear hln
   try clear hbn
   try clear hf
   try(obtain hk:=JR (by assumption) (by assumption);subst hk)
   simp_all [Qi,Zr,ZS,UM,YD,Jr,Jh,hasB,Nd.op]<;>first|done|rfl|omega|(congr 1;done)|(congr 2;done)|(intros;omega)
  replace e63:=of_decide_eq_true e63;refine Qg 2 K M ?_;intro _ K;obtain⟨⟨o66,s66,z66,a66,l66⟩,hi66⟩: ∃k,l[0]? =some k:=⟨_,List.getElem?_eq_getElem (by first|omega|(have:=Uv (m:=1) (l:=l) (by assumption);omega)|(have:=Uv (m:=2) (l:=l) (by assumption);omega)|(have:=has_len (m:=1) (l:=l) (by assumption);omega))⟩;have hm66:=JQ hi66;obtain⟨_,hc66,hn66⟩:=hK.at_ _ _ hi66;have hp66:=hn66;obtain⟨kk66,ls66,rfl,hK66,hb66⟩:=hp66.Jl;obtain⟨x66,m66,f66,q66,_,la66,lo66,lp66⟩:=(hK.r.mem M (by simp)).load (i:=0) (cs:=_) hc66;refine og K rfl rfl (Qe (j:=0) QP (congrArg some q66) rfl (by rw[hK.ln];first|omega|(have:=Uv (m:=1) (l:=l) (by assumption);omega)|(have:=Uv (m:=2) (l:=l) (by assumption);omega)|(have:=has_len (m:=1) (l:=l) (by assumption);omega))) rfl fun _ K=>?_;refine Qg 1 K M ?_;intro _ K;refine og K rfl rfl (Qr rfl (lo66 _ 0 _ QY rfl)) rfl fun _ K=>og K rfl rfl (Q8 (b:=[118,97,114]) rfl rfl) rfl fun _ K=>o1 K (VT rfl rfl rfl) rfl fun _ K=>?_;refine oB K (Qc rfl) rfl fun b71 _ e71 K=>?_;cases b71
  ·replace e71:=of_decide_eq_false e71;refine Qg 7 K M ?_;intro _ K;refine Qf ⟨.inr rfl,_,J4 K rfl,?_⟩;refine⟨congrArg AV.bool ?_,M.qt⟩;rw[Ju o s z a l]
   try generalize l.all QJ=q1 at *
   try generalize l.all UG=q2 at *
   try clear M
   try clear ih
   try clear hr
   try clear hr0
   try clear hp
   try clear hn
   try clear hK
   try clear hb
   try clear hc
   try clear hm
   try clear hp66
   try clear hn66
   try clear hK66
   try clear hb66
   try clear hc66
   try clear hm66
   try clear hln
   try clear hbn
   try clear hf
   try(obtain hk:=JR (by assumption) (by assumption);subst hk)
   simp_all [Qi,Zr,ZS,UM,YD,Jr,Jh,hasB,Nd.op]<;>first|done|rfl|omega|(congr 1;done)|(congr 2;done)|(intros;omega)
  replace e71:=of_decide_eq_true e71;refine Qg 2 K M ?_;intro _ K;obtain⟨⟨o74,s74,z74,a74,l74⟩,hi74⟩: ∃k,l[0]? =some k:=⟨_,List.getElem?_eq_getElem (by first|omega|(have:=Uv (m:=1) (l:=l) (by assumption);omega)|(have:=Uv (m:=2) (l:=l) (by assumption);omega)|(have:=has_len (m:=1) (l:=l) (by assumption);omega))⟩;have hm74:=JQ hi74;obtain⟨_,hc74,hn74⟩:=hK.at_ _ _ hi74;have hp74:=hn74;obtain⟨kk74,ls74,rfl,hK74,hb74⟩:=hp74.Jl;obtain⟨x74,m74,f74,q74,_,la74,lo74,lp74⟩:=(hK.r.mem M (by simp)).load (i:=0) (cs:=_) hc74;refine og K rfl rfl (Qe (j:=0) QP (congrArg some q74) rfl (by rw[hK.ln];first|omega|(have:=Uv (m:=1) (l:=l) (by assumption);omega)|(have:=Uv (m:=2) (l:=l) (by assumption);omega)|(have:=has_len (m:=1) (l:=l) (by assumption);omega))) rfl fun _ K=>og K rfl rfl (Qr rfl (la74 _ Ji)) rfl fun _ K=>?_;obtain⟨v76,st76,ev76,rfl,q76⟩:=ih _ (hm74) _ _ M.fresh (hn74.mono M.rows);refine og K rfl rfl (Ql rfl ev76) rfl fun _ K=>?_;replace M:=M.quiet q76;refine Qg 2 K M ?_;intro _ K;refine Qf ⟨.inr rfl,_,J4 K rfl,?_⟩;refine⟨congrArg AV.bool ?_,M.qt⟩;rw[Ju o s z a l]
  try generalize l.all QJ=q1 at *
  try generalize l.all UG=q2 at *
  try clear M
  try clear ih
  try clear hr
  try clear hr0
  try clear hp
  try clear hn
  try clear hK
  try clear hb
  try clear hc
  try clear hm
  try clear hp66
  try clear hn66
  try clear hK66
  try clear hb66
  try clear hc66
  try clear hm66
  try clear hp74
  try clear hn74
  try clear hK74
  try clear hb74
  try clear hc74
  try clear hm74
  try clear hln
  try clear hbn
  try clear hf
  try(obtain hk:=JR (by assumption) (by assumption);subst hk)
  simp_all [Qi,Zr,ZS,UM,YD,Jr,Jh,hasB,Nd.op]<;>first|done|rfl|omega|(congr 1;done)|(congr 2;done)|(intros;omega)
 refine Qo<|Qb<|o1 K (Q8 (b:=[115,101,116]) rfl rfl) rfl fun _ K=>?_;refine Qg 1 K M ?_;intro _ K;refine YI K rfl (fun h78=>?_) fun h78=>?_
 ·refine Qg 2 K M ?_;intro _ K;refine o1 K (Q8 (b:=[]) rfl rfl) rfl fun _ K=>?_;refine oB K (Qc rfl) rfl fun b83 _ e83 K=>?_;cases b83
  ·replace e83:=of_decide_eq_false e83;refine Qg 15 K M ?_;intro _ K;refine Qf ⟨.inr rfl,_,J4 K rfl,?_⟩;refine⟨congrArg AV.bool ?_,M.qt⟩;rw[Ju o s z a l]
   try generalize l.all QJ=q1 at *
   try generalize l.all UG=q2 at *
   try clear M
   try clear ih
   try clear hr
   try clear hr0
   try clear hp
   try clear hn
   try clear hK
   try clear hb
   try clear hc
   try clear hm
   try clear hln
   try clear hbn
   try clear hf
   try(obtain hk:=JR (by assumption) (by assumption);subst hk)
   simp_all [Qi,Zr,ZS,UM,YD,Jr,Jh,hasB,Nd.op]<;>first|done|rfl|omega|(congr 1;done)|(congr 2;done)|(intros;omega)
  replace e83:=of_decide_eq_true e83;refine Qg 4 K M ?_;intro _ K;refine oB K (Qc rfl) rfl fun b88 _ e88 K=>?_;cases b88
  ·replace e88:=of_decide_eq_false e88;refine Qg 10 K M ?_;intro _ K;refine Qf ⟨.inr rfl,_,J4 K rfl,?_⟩;refine⟨congrArg AV.bool ?_,M.qt⟩;rw[Ju o s z a l]
   try generalize l.all QJ=q1 at *
   try generalize l.all UG=q2 at *
   try clear M
   try clear ih
   try clear hr
   try clear hr0
   try clear hp
   try clear hn
   try clear hK
   try clear hb
   try clear hc
   try clear hm
   try clear hln
   try clear hbn
   try clear hf
   try(obtain hk:=JR (by assumption) (by assumption);subst hk)
   simp_all [Qi,Zr,ZS,UM,YD,Jr,Jh,hasB,Nd.op]<;>first|done|rfl|omega|(congr 1;done)|(congr 2;done)|(intros;omega)
  replace e88:=of_decide_eq_true e88;refine Qg 2 K M ?_;intro _ K;refine og K rfl rfl (QF QV rfl rfl hK.len) rfl fun _ K=>?_;refine Qg 2 K M ?_;intro _ K;refine oB K (Qc rfl) rfl fun b94 _ e94 K=>?_;cases b94
  ·replace e94:=of_decide_eq_false e94;refine Qg 4 K M ?_;intro _ K;refine Qf ⟨.inr rfl,_,J4 K rfl,?_⟩;refine⟨congrArg AV.bool ?_,M.qt⟩;rw[Ju o s z a l]
   try generalize l.all QJ=q1 at *
   try generalize l.all UG=q2 at *
   try clear M
   try clear ih
   try clear hr
   try clear hr0
   try clear hp
   try clear hn
   try clear hK
   try clear hb
   try clear hc
   try clear hm
   try clear hln
   try clear hbn
   try clear hf
   try(obtain hk:=JR (by assumption) (by assumption);subst hk)
   simp_all [Qi,Zr,ZS,UM,YD,Jr,Jh,hasB,Nd.op]<;>first|done|rfl|omega|(congr 1;done)|(congr 2;done)|(intros;omega)
  replace e94:=of_decide_eq_true e94;refine Qg 1 K M ?_;intro _ K
  obtain⟨v96,st96,ev96,rfl,q96⟩:=Aj (p:=UG) M.fresh (hr0.mono M.rows) (fun k hk st1 cs hf1 hr1=>by
    obtain⟨ko,ks,kv,ka,kl⟩:=k
    exact Pq hf1 hr1 (fun st2 cs2 h2 r2=>ih _ hk st2 cs2 h2 r2))
  refine og K rfl rfl (Ql rfl ev96) rfl fun _ K=>?_;replace M:=M.quiet q96;refine Qg 2 K M ?_;intro _ K;refine Qf ⟨.inr rfl,_,J4 K rfl,?_⟩;refine⟨congrArg AV.bool ?_,M.qt⟩;rw[Ju o s z a l]
  try generalize l.all QJ=q1 at *
  try generalize l.all UG=q2 at *
  try clear M
  try clear ih
  try clear hr
  try clear hr0
  try clear hp
  try clear hn
  try clear hK
  try clear hb
  try clear hc
  try clear hm
  try clear hln
  try clear hbn
  try clear hf
  try(obtain hk:=JR (by assumption) (by assumption);subst hk)
  simp_all [Qi,Zr,ZS,UM,YD,Jr,Jh,hasB,Nd.op]<;>first|done|rfl|omega|(congr 1;done)|(congr 2;done)|(intros;omega)
 refine FH (J:=fun T st9=> ∃(b:Bool),Jf [(1,.ptr c1 0 0),(2,.bool false),(98,.bool b)] T∧Mem st.h.get st.n [] st9 [(c1,0,[.str o,.str s,.int .i64 z,.int .i64 a,kk])]∧b=Jr o) ?_ (fun T st9 hJ=>?_)
 ·refine Qo<|Qb<|o1 K (Q8 (b:=[117,110,105,111,110]) rfl rfl) rfl fun _ K=>?_;refine Qg 1 K M ?_;intro _ K;refine Qs (K.QB rfl) (fun h98=>?_) (fun h98=>?_)
  ·have hb98:=h98;replace h98:=of_decide_eq_true h98;refine QU ?_;exact⟨_,(.cons (K _ _ rfl) (.cons (K _ _ rfl) (.cons (K _ _ rfl) .nil))),M.less (.refl _),(by simp_all [Jr])⟩
  have hb98:=h98;replace h98:=of_decide_eq_false h98;refine Qo<|Qb<|o1 K (Q8 (b:=[105,110,116,101,114]) rfl rfl) rfl fun _ K=>?_;refine Qg 1 K M ?_;intro _ K;refine Qs (K.QB rfl) (fun h98=>?_) (fun h98=>?_)
  ·have hb98:=h98;replace h98:=of_decide_eq_true h98;refine QU ?_;exact⟨_,(.cons (K _ _ rfl) (.cons (K _ _ rfl) (.cons (K _ _ rfl) .nil))),M.less (.refl _),(by simp_all [Jr])⟩
  have hb98:=h98;replace h98:=of_decide_eq_false h98;refine Qb<|o1 K (Q8 (b:=[109,105,110,117,115]) rfl rfl) rfl fun _ K=>o1 K (Qq rfl) rfl fun _ K=>QG ?_;exact⟨_,(.cons (K _ _ rfl) (.cons (K _ _ rfl) (.cons (K _ _ rfl) .nil))),M.less (.refl _),(by simp_all [Jr])⟩
 obtain⟨b,K,M,hbs⟩:=hJ;refine Qs (K.QB rfl) (fun h98=>?_) (fun h98=>?_)
 ·have hb98:=h98;refine Qg 1 K M ?_;intro _ K;refine oQ K M (AW M.fresh (hr0.mono M.rows) 2) rfl rfl fun _ _ K M=>?_;refine oB K (Qc rfl) rfl fun b104 _ e104 K=>?_;cases b104
  ·refine Qg 12 K M ?_;intro _ K;refine Qf ⟨.inr rfl,_,J4 K rfl,?_⟩;refine⟨congrArg AV.bool ?_,M.qt⟩;rw[Ju o s z a l]
   try generalize l.all QJ=q1 at *
   try generalize l.all UG=q2 at *
   try clear M
   try clear ih
   try clear hr
   try clear hr0
   try clear hp
   try clear hn
   try clear hK
   try clear hb
   try clear hc
   try clear hm
   try clear hln
   try clear hbn
   try clear hf
   try(obtain hk:=JR (by assumption) (by assumption);subst hk)
   simp_all [Qi,Zr,ZS,UM,YD,Jr,Jh,hasB,Nd.op]<;>first|done|rfl|omega|(congr 1;done)|(congr 2;done)|(intros;omega)
  refine Qg 1 K M ?_;intro _ K;obtain⟨v106,st106,ev106,rfl,q106⟩:=Aj (p:=QJ) M.fresh (hr0.mono M.rows) (fun k hk st1 cs hf1 hr1=>ih _ hk st1 cs hf1 hr1);refine og K rfl rfl (Ql rfl ev106) rfl fun _ K=>?_;replace M:=M.quiet q106;refine o1 K (VT rfl rfl rfl) rfl fun _ K=>?_;refine oB K (Qc rfl) rfl fun b108 _ e108 K=>?_;cases b108
  ·refine Qg 8 K M ?_;intro _ K;refine Qf ⟨.inr rfl,_,J4 K rfl,?_⟩;refine⟨congrArg AV.bool ?_,M.qt⟩;rw[Ju o s z a l]
   try generalize l.all QJ=q1 at *
   try generalize l.all UG=q2 at *
   try clear M
   try clear ih
   try clear hr
   try clear hr0
   try clear hp
   try clear hn
   try clear hK
   try clear hb
   try clear hc
   try clear hm
   try clear hln
   try clear hbn
   try clear hf
   try(obtain hk:=JR (by assumption) (by assumption);subst hk)
   simp_all [Qi,Zr,ZS,UM,YD,Jr,Jh,hasB,Nd.op]<;>first|done|rfl|omega|(congr 1;done)|(congr 2;done)|(intros;omega)
  refine Qg 2 K M ?_;intro _ K;obtain⟨⟨o111,s111,z111,a111,l111⟩,hi111⟩: ∃k,l[1]? =some k:=⟨_,List.getElem?_eq_getElem (by first|omega|(have:=Uv (m:=1) (l:=l) (by assumption);omega)|(have:=Uv (m:=2) (l:=l) (by assumption);omega)|(have:=has_len (m:=1) (l:=l) (by assumption);omega))⟩;have hm111:=JQ hi111;obtain⟨_,hc111,hn111⟩:=hK.at_ _ _ hi111;have hp111:=hn111;obtain⟨kk111,ls111,rfl,hK111,hb111⟩:=hp111.Jl;obtain⟨x111,m111,f111,q111,_,la111,lo111,lp111⟩:=(hK.r.mem M (by simp)).load (i:=1) (cs:=_) hc111;refine og K rfl rfl (Qe (j:=1) QP (congrArg some q111) rfl (by rw[hK.ln];first|omega|(have:=Uv (m:=1) (l:=l) (by assumption);omega)|(have:=Uv (m:=2) (l:=l) (by assumption);omega)|(have:=has_len (m:=1) (l:=l) (by assumption);omega))) rfl fun _ K=>og K rfl rfl (Qr rfl (la111 _ Ji)) rfl fun _ K=>?_;obtain⟨v113,st113,ev113,rfl,q113⟩:=Gl M.fresh (hn111.mono M.rows);refine og K rfl rfl (Ql rfl ev113) rfl fun _ K=>?_;replace M:=M.quiet q113;refine Qg 3 K M ?_;intro _ K;refine Qf ⟨.inr rfl,_,J4 K rfl,?_⟩;refine⟨congrArg AV.bool ?_,M.qt⟩;rw[Ju o s z a l]
  try generalize l.all QJ=q1 at *
  try generalize l.all UG=q2 at *
  try clear M
  try clear ih
  try clear hr
  try clear hr0
  try clear hp
  try clear hn
  try clear hK
  try clear hb
  try clear hc
  try clear hm
  try clear hp111
  try clear hn111
  try clear hK111
  try clear hb111
  try clear hc111
  try clear hm111
  try clear hln
  try clear hbn
  try clear hf
  try(obtain hk:=JR (by assumption) (by assumption);subst hk)
  simp_all [Qi,Zr,ZS,UM,YD,Jr,Jh,hasB,Nd.op]<;>first|done|rfl|omega|(congr 1;done)|(congr 2;done)|(intros;omega)
 have hb98:=h98;refine Qg 1 K M ?_;intro _ K;refine Qf ⟨.inr rfl,_,J4 K rfl,?_⟩;refine⟨congrArg AV.bool ?_,M.qt⟩;rw[Ju o s z a l]
 try generalize l.all QJ=q1 at *
 try generalize l.all UG=q2 at *
 try clear M
 try clear ih
 try clear hr
 try clear hr0
 try clear hp
 try clear hn
 try clear hK
 try clear hb
 try clear hc
 try clear hm
 try clear hln
 try clear hbn
 try clear hf
 try(obtain hk:=JR (by assumption) (by assumption);subst hk)
 simp_all [Qi,Zr,ZS,UM,YD,Jr,Jh,hasB,Nd.op]<;>first|done|rfl|omega|(congr 1;done)|(congr 2;done)|(intros;omega)
end Go.Proofs.YtadjjadimlkkgaaGreatDoor
