/-
  Terms: the program's answer, the reference's.
-/
import Derived.Test.YtadjjadimlkkgaaGreatDoorMnTyf
namespace Go.Proofs.YtadjjadimlkkgaaGreatDoor
open Go Go.RowKit
set_option maxHeartbeats 8000000
set_option linter.unusedVariables false
set_option linter.unusedSimpArgs false
set_option maxRecDepth 100000

def YN{α:Type}(p:α→Bool):List α→Nat→Int
 |[],_=> -1
 |k::l,i=>if p k then(i:Int)else YN p l (i+1)
theorem Xl{α:Type}{p:α→Bool}{l:List α}{i:Nat}{k:α}(h:l[i]? =some k):YN p (l.drop i) i=if p k then(i:Int)else YN p (l.drop (i+1)) (i+1):=by
 obtain⟨h1,h2⟩:=List.getElem?_eq_some_iff.1 h;rw[List.drop_eq_getElem_cons h1,YN,h2]
theorem FD{α:Type}(p:α→Bool): ∀(l:List α) (i:Nat),decide (0≤YN p l i)=l.any p:=by
 intro l
 induction l with
 |nil=>intro i;rfl
 |cons k l ih=>
  intro i;rw[YN,List.any_cons]
  cases hp:p k with
  |true=>rw[if_pos rfl];simp
  |false=>rw[if_neg (by decide),ih];rfl
theorem jm{α:Type}(p:α→Bool)(l:List α):(!l.any fun k=> !p k)=l.all p:=by
 induction l with
 |nil=>rfl
 |cons k l ih=>rw[List.any_cons,List.all_cons,←ih];cases p k<;>simp
theorem JI{l:List Nd}{k:Nd}(h:((l.length:Nat):Int)=1)(hi:l[0]? =some k):l=[k]:=by
 match l,h,hi with
 |[a],_,hi=>injection hi with hi;rw[hi]
 |[],h,_=>simp at h
 |a::b::l,h,_=>exact absurd h (by simp only[List.length_cons];omega)
def hasB(name:List Nat)(n:Int)(kids:List Nd)(m:Int)(nm nb:Bool):Bool:=decide (((kids.length:Nat):Int)=m)&&((nm||decide (name=[]))&&((nb||decide (n=0))&&(!nm||ZO name)))
theorem Jj{s:List Nat}{z:Int}{l:List Nd}{m:Int}(h:QZ s z l m=true):((l.length:Nat):Int)=m:=by
 simp[QZ]at h;exact h.2.2
theorem Bg{o s:List Nat}{z a:Int}{l:List Nd}{st:St}{cs:List AV}(hf:Qu st)(hr:UN st.h.get (.mk o s z a l) cs): ∃v st',Ev Tryz.prog QU 209 [.agg cs] st v st'∧v=.bool (Jt o)∧Qt st st':=by
 have hr0:=hr;obtain⟨kk,ls,rfl,hK,hb⟩:=hr.QJ;have hln:=hK.ln;have hbn:=hK.Uj;refine QE rfl Tryz.func209 rfl Tryz.ntmps209 rfl fun T hT=>?_;have K:QT [(0,_)] T:=(.cons (hT 0) .nil);have M:=Mem.start hf;refine Qn<|Qb ?_;refine QO K M rfl (Qa rfl (Qa rfl (Qa rfl (Qa rfl (Qa hK.cell Qp))))) (by decide) fun c1 _ _ K M=>?_;refine Qf 3 K M ?_;intro _ K;refine o1 K (QC (b:=[117,110,105,111,110]) rfl rfl) rfl fun _ K=>?_;refine oB K (Qd rfl) rfl fun b6 _ e6 K=>?_;cases b6
 ·replace e6:=of_decide_eq_false e6;refine Qf 2 K M ?_;intro _ K;refine og K rfl rfl (QC (b:=[105,110,116,101,114]) rfl rfl) rfl fun _ K=>o1 K (ZN rfl rfl rfl) rfl fun _ K=>?_;refine oB K (Qd rfl) rfl fun b11 _ e11 K=>?_;cases b11
  ·replace e11:=of_decide_eq_false e11;refine Qf 2 K M ?_;intro _ K;refine og K rfl rfl (QC (b:=[109,105,110,117,115]) rfl rfl) rfl fun _ K=>?_;refine Qf 2 K M ?_;intro _ K;refine Qe ⟨.inr rfl,_,J5 K rfl,?_⟩;refine⟨?_,M.qt⟩
   simp_all [Qg,Jt]<;>first|done|rfl|omega|(congr 1;done)|(congr 2;done)|(intros;omega)
  replace e11:=of_decide_eq_true e11;refine Qf 5 K M ?_;intro _ K;refine Qe ⟨.inr rfl,_,J5 K rfl,?_⟩;refine⟨?_,M.qt⟩
  simp_all [Qg,Jt]<;>first|done|rfl|omega|(congr 1;done)|(congr 2;done)|(intros;omega)
 replace e6:=of_decide_eq_true e6;refine Qf 10 K M ?_;intro _ K;refine Qe ⟨.inr rfl,_,J5 K rfl,?_⟩;refine⟨?_,M.qt⟩
 simp_all [Qg,Jt]<;>first|done|rfl|omega|(congr 1;done)|(congr 2;done)|(intros;omega)

theorem FW{o s:List Nat}{z a:Int}{l:List Nd}{st:St}{cs:List AV}(hf:Qu st)(hr:UN st.h.get (.mk o s z a l) cs)(m:Int): ∃v st',Ev Tryz.prog QU 163 [.agg cs,.int .i64 m] st v st'∧v=.bool (QZ s z l m)∧Qt st st':=by
 have hr0:=hr;obtain⟨kk,ls,rfl,hK,hb⟩:=hr.QJ;have hln:=hK.ln;have hbn:=hK.Uj;refine QE rfl Tryz.func163 rfl Tryz.ntmps163 rfl fun T hT=>?_;have K:QT [(0,_),(1,_)] T:=(.cons (hT 0) (.cons (hT 1) .nil));have M:=Mem.start hf;refine Qn<|Qb ?_;refine QO K M rfl (Qa rfl (Qa rfl (Qa rfl (Qa rfl (Qa hK.cell Qp))))) (by decide) fun c2 _ _ K M=>?_;refine Qf 3 K M ?_;intro _ K;refine o1 K (QC (b:=[]) rfl rfl) rfl fun _ K=>?_;refine oB K (Qd rfl) rfl fun b8 _ e8 K=>?_;cases b8
 ·replace e8:=of_decide_eq_false e8;refine Qf 12 K M ?_;intro _ K;refine Qe ⟨.inr rfl,_,J5 K rfl,?_⟩;refine⟨?_,M.qt⟩
  simp_all [Qg,QZ]<;>first|done|rfl|omega|(congr 1;done)|(congr 2;done)|(intros;omega)
 replace e8:=of_decide_eq_true e8;refine Qf 4 K M ?_;intro _ K;refine oB K (Qd rfl) rfl fun b13 _ e13 K=>?_;cases b13
 ·replace e13:=of_decide_eq_false e13;refine Qf 7 K M ?_;intro _ K;refine Qe ⟨.inr rfl,_,J5 K rfl,?_⟩;refine⟨?_,M.qt⟩
  simp_all [Qg,QZ]<;>first|done|rfl|omega|(congr 1;done)|(congr 2;done)|(intros;omega)
 replace e13:=of_decide_eq_true e13;refine Qf 2 K M ?_;intro _ K;refine og K rfl rfl (QL Q7 rfl rfl hK.len) rfl fun _ K=>?_;refine Qf 4 K M ?_;intro _ K;refine Qe ⟨.inr rfl,_,J5 K rfl,?_⟩;refine⟨?_,M.qt⟩
 simp_all [Qg,QZ]<;>first|done|rfl|omega|(congr 1;done)|(congr 2;done)|(intros;omega)

theorem Vz.mem{h0:Hp}{n0:Nat}{st:St}{M:List (Nat×Nat×List AV)}{kids:List Nd}{kk:AV}{ls:List (List AV)}(H:Vz h0 kids kk ls)(hM:Mem h0 n0 [] st M):Vz st.h.get kids kk ls:=
 ⟨H.r.mem hM (by simp),H.ln,fun i k hi=>by
  obtain⟨cs,h1,h2⟩:=H.at_ i k hi
  exact⟨cs,h1,h2.mono hM.rows⟩⟩

theorem CZ{st:St}(hf:Qu st){fo:FuncId}{fa fc:List AV}{p:Nd→Bool}{l:List Nd}{kk:AV}{ls:List (List AV)}(hK:Vz st.h.get l kk ls)(hC: ∀(k:Nd),k∈l→ ∀(st1:St) (cs:List AV),Qt st st1→UN st1.h.get k cs→ ∃v st',Ev Tryz.prog QU fo (fa++([.agg cs]++fc)) st1 v st'∧v=.bool (p k)∧Qt st1 st'): ∃v st',Ev Tryz.prog QU 166 [kk,(AV.fn fo fa fc)] st v st'∧v=.int .i64 (YN p l 0)∧Qt st st':=by
 have hln:=hK.ln;have hbn:=hK.Uj;refine QE rfl Tryz.func166 rfl Tryz.ntmps166 rfl fun T hT=>?_;have K:QT [(0,_),(1,_)] T:=(.cons (hT 0) (.cons (hT 1) .nil));have M:=Mem.start hf;refine Qf 2 K M ?_;intro _ K;refine o1 K (QL Q7 rfl rfl hK.len) rfl fun _ K=>?_;refine Qf 1 K M ?_;intro _ K;refine JN (fun mm1 T st9=> ∃(i:Nat),mm1=l.length-i∧QT [(0,kk),(1,(AV.fn fo fa fc)),(7,.int .i64 (((l.length:Nat):Int))),(8,.int .i64 (((i:Nat):Int)))] T∧Mem st.h.get st.n [] st9 []∧i≤l.length∧YN p l 0=YN p (l.drop i) i) (fun mm1 T st9 hI=>?_) _ _ _ ⟨0,rfl,(.cons (K _ _ rfl) (.cons (K _ _ rfl) (.cons (K _ _ rfl) (.cons (K _ _ rfl) .nil)))),M.less (.refl _),(Nat.zero_le _),rfl⟩;obtain⟨i,rfl,K,M,hi,hx⟩:=hI;refine Qf 1 K M ?_;intro _ K;refine Xo K rfl (fun h9=>?_) fun h9=>?_
 ·refine Qf 5 K M ?_;intro _ K;obtain⟨⟨o14,s14,z14,a14,l14⟩,hi14⟩: ∃k,l[i]? =some k:=⟨_,List.getElem?_eq_getElem (by first|omega|(have:=Jj (m:=1) (l:=l) (by assumption);omega)|(have:=Jj (m:=2) (l:=l) (by assumption);omega)|(have:=has_len (m:=1) (l:=l) (by assumption);omega))⟩;have hm14:=J6 hi14;obtain⟨_,hc14,hn14⟩:=hK.at_ _ _ hi14;have hp14:=hn14;obtain⟨kk14,ls14,rfl,hK14,hb14⟩:=hp14.QJ;obtain⟨x14,m14,f14,q14,_,la14,lo14,lp14⟩:=(hK.r.mem M (by simp)).load (i:=i) (cs:=_) hc14;refine o1 K (Qj (j:=i) QH (congrArg some q14) rfl (by rw[hK.ln];first|omega|(have:=Jj (m:=1) (l:=l) (by assumption);omega)|(have:=Jj (m:=2) (l:=l) (by assumption);omega)|(have:=has_len (m:=1) (l:=l) (by assumption);omega))) rfl fun _ K=>o1 K (Qr rfl (la14 _ Qs)) rfl fun _ K=>?_;obtain⟨v16,st16,ev16,rfl,q16⟩:=hC (.mk o14 s14 z14 a14 l14) hm14 _ _ M.qt (hn14.mono M.rows);refine o1 K (F5 rfl rfl ev16) rfl fun _ K=>?_;replace M:=M.quiet q16;refine Qy ?_;show W _ _ _ _ _ _ _;refine Qm (K.QF rfl) (fun h16=>?_) (fun h16=>?_)
  ·have hb16:=h16;refine Qf 2 K M ?_;intro _ K;refine Qe ⟨.inr rfl,_,J5 K rfl,?_⟩;exact⟨by rw[hx,Xl hi14,if_pos h16],M.qt⟩
  have hb16:=h16;refine Q8 ?_;show W _ _ _ _ _ _ _;refine Qb<|o1 K (Jf rfl rfl (by omega) (by omega)) rfl fun _ K=>o1 K (Qd rfl) rfl fun _ K=>Qy ?_;exact⟨_,(by omega),i+1,rfl,(.cons (K _ _ rfl) (.cons (K _ _ rfl) (.cons (K _ _ rfl) (.cons (K _ _ rfl) .nil)))),M.less (.refl _),(by omega),(by rw[hx,Xl hi14,if_neg (by rw[h16];decide)])⟩
 refine J7 ?_;show W _ _ _ _ _ _ _;refine Qf 1 K M ?_;intro _ K;refine Qe ⟨.inr rfl,_,J5 K rfl,?_⟩;exact⟨by rw[hx,Jo (by omega)];rfl,M.qt⟩

theorem LD{st:St}(hf:Qu st){fo:FuncId}{fa fc:List AV}{p:Nd→Bool}{l:List Nd}{kk:AV}{ls:List (List AV)}(hK:Vz st.h.get l kk ls)(hC: ∀(k:Nd),k∈l→ ∀(st1:St) (cs:List AV),Qt st st1→UN st1.h.get k cs→ ∃v st',Ev Tryz.prog QU fo (fa++([.agg cs]++fc)) st1 v st'∧v=.bool (p k)∧Qt st1 st'): ∃v st',Ev Tryz.prog QU 105 [kk,(AV.fn fo fa fc)] st v st'∧v=.bool (l.any p)∧Qt st st':=by
 have hln:=hK.ln;have hbn:=hK.Uj;refine QE rfl Tryz.func105 rfl Tryz.ntmps105 rfl fun T hT=>?_;have K:QT [(0,_),(1,_)] T:=(.cons (hT 0) (.cons (hT 1) .nil));have M:=Mem.start hf;refine Qf 3 K M ?_;intro _ K;refine oQ K M (CZ M.fresh (hK.mem M) (fun k hk st1 cs q hr=>hC k hk st1 cs (M.qt.trans q) hr)) rfl rfl fun _ _ K M=>?_;refine Qf 2 K M ?_;intro _ K;refine Qe ⟨.inr rfl,_,J5 K rfl,?_⟩;exact⟨by rw[←FD p l 0],M.qt⟩

theorem jT{o s:List Nat}{z a:Int}{l:List Nd}{st:St}{cs:List AV}(hf:Qu st)(hr:UN st.h.get (.mk o s z a l) cs){c fo:Nat}(hc:UM st.h.get c 0 [.fn fo [] []]){b:Bool}(hC: ∀(st1:St),Qt st st1→ ∃v st',Ev Tryz.prog QU fo [.agg cs] st1 v st'∧v=.bool b∧Qt st1 st'): ∃v st',Ev Tryz.prog QU 207 [.agg cs,.ptr c 0 0] st v st'∧v=.bool (!b)∧Qt st st':=by
 have hr0:=hr;obtain⟨kk,ls,rfl,hK,hb⟩:=hr.QJ;have hln:=hK.ln;have hbn:=hK.Uj;refine QE rfl Tryz.func207 rfl Tryz.ntmps207 rfl fun T hT=>?_;have K:QT [(0,_),(1,_)] T:=(.cons (hT 0) (.cons (hT 1) .nil));have M:=Mem.start hf;refine Qn<|Qb ?_;refine QO K M rfl (Qa rfl (Qa rfl (Qa rfl (Qa rfl (Qa hK.cell Qp))))) (by decide) fun c2 _ _ K M=>?_;refine Qf 1 K M ?_;intro _ K;refine o1 K (Qr rfl (WN (hc.IF hf (M.qt.IF []) (by simp)) (QA Wz rfl))) rfl fun _ K=>?_;refine Qf 1 K M ?_;intro _ K;obtain⟨v6,st6,ev6,rfl,q6⟩:=hC _ M.qt;refine o1 K (F5 rfl rfl ev6) rfl fun _ K=>?_;replace M:=M.quiet q6;refine Qf 2 K M ?_;intro _ K;refine Qe ⟨.inr rfl,_,J5 K rfl,?_⟩;exact⟨rfl,M.qt⟩

theorem Fk{o s:List Nat}{z a:Int}{l:List Nd}{st:St}{cs:List AV}(hf:Qu st)(hr:UN st.h.get (.mk o s z a l) cs){fo:FuncId}{p:Nd→Bool}(hC: ∀(k:Nd),k∈l→ ∀(st1:St) (cs:List AV),Qu st1→UN st1.h.get k cs→ ∃v st',Ev Tryz.prog QU fo [.agg cs] st1 v st'∧v=.bool (p k)∧Qt st1 st'): ∃v st',Ev Tryz.prog QU 164 [.agg cs,(AV.fn fo [] [])] st v st'∧v=.bool (l.all p)∧Qt st st':=by
 have hr0:=hr;obtain⟨kk,ls,rfl,hK,hb⟩:=hr.QJ;have hln:=hK.ln;have hbn:=hK.Uj;refine QE rfl Tryz.func164 rfl Tryz.ntmps164 rfl fun T hT=>?_;have K:QT [(0,_),(1,_)] T:=(.cons (hT 0) (.cons (hT 1) .nil));have M:=Mem.start hf;refine Qn<|Qb ?_;refine QO K M rfl (Qa rfl (Qa rfl (Qa rfl (Qa rfl (Qa hK.cell Qp))))) (by decide) fun c2 _ _ K M=>?_;refine QO K M rfl rfl (by decide) fun c3 _ _ K M=>?_;refine Qf 3 K M ?_;intro _ K;refine o1 K (F4 rfl rfl) rfl fun _ K=>?_;have hrow:=(M.W9 (k:=0) rfl).AH;have hfr:=M.fresh
 obtain⟨v8,st8,ev8,rfl,q8⟩:=LD (fo:=207) (fa:=[]) (fc:=[.ptr c3 0 0]) (p:=fun k=> !p k) M.fresh (hK.mem M) (fun k hk st1 cs q hr1=>by
  obtain⟨ko,ks,kv,ka,kl⟩:=k
  exact jT q.fresh hr1 (hrow.IF hfr (q.IF []) (by simp)) (fun st2 q2=>hC _ hk st2 cs q2.fresh (hr1.qt q.fresh q2)))
 refine o1 K (Ql rfl ev8) rfl fun _ K=>?_;replace M:=M.quiet q8;refine Qf 2 K M ?_;intro _ K;refine Qe ⟨.inr rfl,_,J5 K rfl,?_⟩;exact⟨by rw[jm],M.qt⟩

theorem Rw{o s:List Nat}{z a:Int}{l:List Nd}{st:St}{cs:List AV}(hf:Qu st)(hr:UN st.h.get (.mk o s z a l) cs)(hTm: ∀(st1:St) (cs:List AV),Qu st1→UN st1.h.get (.mk o s z a l) cs→ ∃v st',Ev Tryz.prog QU 165 [.agg cs] st1 v st'∧v=.bool (Q9 (.mk o s z a l))∧Qt st1 st'): ∃v st',Ev Tryz.prog QU 208 [.agg cs] st v st'∧v=.bool (UB (.mk o s z a l))∧Qt st st':=by
 have hr0:=hr;obtain⟨kk,ls,rfl,hK,hb⟩:=hr.QJ;have hln:=hK.ln;have hbn:=hK.Uj;refine QE rfl Tryz.func208 rfl Tryz.ntmps208 rfl fun T hT=>?_;have K:QT [(0,_)] T:=(.cons (hT 0) .nil);have M:=Mem.start hf;refine Qn<|Qb ?_;refine QO K M rfl (Qa rfl (Qa rfl (Qa rfl (Qa rfl (Qa hK.cell Qp))))) (by decide) fun c1 _ _ K M=>?_;refine Qf 2 K M ?_;intro _ K;refine oQ K M (hTm _ _ M.fresh (hr0.mono M.rows)) rfl rfl fun _ _ K M=>?_;refine oB K (Qd rfl) rfl fun b5 _ e5 K=>?_;cases b5
 ·refine Qf 10 K M ?_;intro _ K;refine Qe ⟨.inr rfl,_,J5 K rfl,?_⟩;refine⟨?_,M.qt⟩
  simp_all [Qg,UB,Nd.op,Zr]<;>first|done|rfl|omega|(congr 1;done)|(congr 2;done)|(intros;omega)
 refine Qf 1 K M ?_;intro _ K;obtain⟨v7,st7,ev7,rfl,q7⟩:=Bg M.fresh (hr0.mono M.rows);refine og K rfl rfl (Ql rfl ev7) rfl fun _ K=>?_;replace M:=M.quiet q7;refine Qf 2 K M ?_;intro _ K;refine oB K (Qd rfl) rfl fun b10 _ e10 K=>?_;cases b10
 ·replace e10:(Jt o)=true:=by simpa using e10
  refine Qf 5 K M ?_;intro _ K;refine Qe ⟨.inr rfl,_,J5 K rfl,?_⟩;refine⟨?_,M.qt⟩
  simp_all [Qg,UB,Nd.op,Zr]<;>first|done|rfl|omega|(congr 1;done)|(congr 2;done)|(intros;omega)
 replace e10:(Jt o)=false:=by simpa using e10
 refine Qf 2 K M ?_;intro _ K;refine og K rfl rfl (E3 (b:=[115,101,116]) rfl rfl) rfl fun _ K=>?_;refine Qf 2 K M ?_;intro _ K;refine Qe ⟨.inr rfl,_,J5 K rfl,?_⟩;refine⟨?_,M.qt⟩
 simp_all [Qg,UB,Nd.op,Zr]<;>first|done|rfl|omega|(congr 1;done)|(congr 2;done)|(intros;omega)

theorem N4(x:Nd): ∀(st:St) (cs:List AV),Qu st→UN st.h.get x cs→ ∃v st',Ev Tryz.prog QU 165 [.agg cs] st v st'∧v=.bool (Q9 x)∧Qt st st':=by
 refine J2 (M:=fun x=> ∀(st:St) (cs:List AV),Qu st→UN st.h.get x cs→ ∃v st',Ev Tryz.prog QU 165 [.agg cs] st v st'∧v=.bool (Q9 x)∧Qt st st') (fun o s z a l ih=>?_) x;intro st cs hf hr;have hr0:=hr;obtain⟨kk,ls,rfl,hK,hb⟩:=hr.QJ;have hln:=hK.ln;have hbn:=hK.Uj;refine QE rfl Tryz.func165 rfl Tryz.ntmps165 rfl fun T hT=>?_;have K:QT [(0,_)] T:=(.cons (hT 0) .nil);have M:=Mem.start hf;refine Qn<|Qb ?_;refine QO K M rfl (Qa rfl (Qa rfl (Qa rfl (Qa rfl (Qa hK.cell Qp))))) (by decide) fun c1 _ _ K M=>?_;refine Qf 3 K M ?_;intro _ K;refine o1 K (QC (b:=[118,97,114]) rfl rfl) rfl fun _ K=>?_;refine Qf 1 K M ?_;intro _ K;refine Xo K rfl (fun h5=>?_) fun h5=>?_
 ·refine Qf 2 K M ?_;intro _ K;obtain⟨v9,st9,ev9,rfl,q9⟩:=XW M.fresh s;refine o1 K (Ql rfl ev9) rfl fun _ K=>?_;replace M:=M.quiet q9;refine oB K (Qd rfl) rfl fun b10 _ e10 K=>?_;cases b10
  ·refine Qf 11 K M ?_;intro _ K;refine Qe ⟨.inr rfl,_,J5 K rfl,?_⟩;refine⟨congrArg AV.bool ?_,M.qt⟩;rw[Jc o s z a l]
   try generalize l.all Q9=q1 at *
   try generalize l.all UB=q2 at *
   try clear M
   try clear ih
   try clear hr
   try clear hr0
   try clear hp
   try clear hn
   try clear hK
   try clear hb
   try clear hc
   try clear hm
   try clear hln
   try clear hbn
   try clear hf
   try(obtain hk:=JI (by assumption) (by assumption);subst hk)
   simp_all [Qg,ZX,YA,JZ,Zr,Jt,QZ,hasB,Nd.op]<;>first|done|rfl|omega|(congr 1;done)|(congr 2;done)|(intros;omega)
  refine Qf 4 K M ?_;intro _ K;refine oB K (Qd rfl) rfl fun b15 _ e15 K=>?_;cases b15
  ·replace e15:=of_decide_eq_false e15;refine Qf 6 K M ?_;intro _ K;refine Qe ⟨.inr rfl,_,J5 K rfl,?_⟩;refine⟨congrArg AV.bool ?_,M.qt⟩;rw[Jc o s z a l]
   try generalize l.all Q9=q1 at *
   try generalize l.all UB=q2 at *
   try clear M
   try clear ih
   try clear hr
   try clear hr0
   try clear hp
   try clear hn
   try clear hK
   try clear hb
   try clear hc
   try clear hm
   try clear hln
   try clear hbn
   try clear hf
   try(obtain hk:=JI (by assumption) (by assumption);subst hk)
   simp_all [Qg,ZX,YA,JZ,Zr,Jt,QZ,hasB,Nd.op]<;>first|done|rfl|omega|(congr 1;done)|(congr 2;done)|(intros;omega)
  replace e15:=of_decide_eq_true e15;refine Qf 2 K M ?_;intro _ K;refine og K rfl rfl (QL Q7 rfl rfl hK.len) rfl fun _ K=>?_;refine Qf 3 K M ?_;intro _ K;refine Qe ⟨.inr rfl,_,J5 K rfl,?_⟩;refine⟨congrArg AV.bool ?_,M.qt⟩;rw[Jc o s z a l]
  try generalize l.all Q9=q1 at *
  try generalize l.all UB=q2 at *
  try clear M
  try clear ih
  try clear hr
  try clear hr0
  try clear hp
  try clear hn
  try clear hK
  try clear hb
  try clear hc
  try clear hm
  try clear hln
  try clear hbn
  try clear hf
  try(obtain hk:=JI (by assumption) (by assumption);subst hk)
  simp_all [Qg,ZX,YA,JZ,Zr,Jt,QZ,hasB,Nd.op]<;>first|done|rfl|omega|(congr 1;done)|(congr 2;done)|(intros;omega)
 refine Qn<|Qb<|o1 K (QC (b:=[110,117,109]) rfl rfl) rfl fun _ K=>?_;refine Qf 1 K M ?_;intro _ K;refine Xo K rfl (fun h21=>?_) fun h21=>?_
 ·refine Qf 2 K M ?_;intro _ K;refine o1 K (QC (b:=[]) rfl rfl) rfl fun _ K=>?_;refine oB K (Qd rfl) rfl fun b26 _ e26 K=>?_;cases b26
  ·replace e26:=of_decide_eq_false e26;refine Qf 16 K M ?_;intro _ K;refine Qe ⟨.inr rfl,_,J5 K rfl,?_⟩;refine⟨congrArg AV.bool ?_,M.qt⟩;rw[Jc o s z a l]
   try generalize l.all Q9=q1 at *
   try generalize l.all UB=q2 at *
   try clear M
   try clear ih
   try clear hr
   try clear hr0
   try clear hp
   try clear hn
   try clear hK
   try clear hb
   try clear hc
   try clear hm
   try clear hln
   try clear hbn
   try clear hf
   try(obtain hk:=JI (by assumption) (by assumption);subst hk)
   simp_all [Qg,ZX,YA,JZ,Zr,Jt,QZ,hasB,Nd.op]<;>first|done|rfl|omega|(congr 1;done)|(congr 2;done)|(intros;omega)
  replace e26:=of_decide_eq_true e26;refine Qf 4 K M ?_;intro _ K;refine oB K (Qd rfl) rfl fun b31 _ e31 K=>?_;cases b31
  ·replace e31:=of_decide_eq_false e31;refine Qf 11 K M ?_;intro _ K;refine Qe ⟨.inr rfl,_,J5 K rfl,?_⟩;refine⟨congrArg AV.bool ?_,M.qt⟩;rw[Jc o s z a l]
   try generalize l.all Q9=q1 at *
   try generalize l.all UB=q2 at *
   try clear M
   try clear ih
   try clear hr
   try clear hr0
   try clear hp
   try clear hn
   try clear hK
   try clear hb
   try clear hc
   try clear hm
   try clear hln
   try clear hbn
   try clear hf
   try(obtain hk:=JI (by assumption) (by assumption);subst hk)
   simp_all [Qg,ZX,YA,JZ,Zr,Jt,QZ,hasB,Nd.op]<;>first|done|rfl|omega|(congr 1;done)|(congr 2;done)|(intros;omega)
  replace e31:=of_decide_eq_true e31;refine Qf 4 K M ?_;intro _ K;refine oB K (Qd rfl) rfl fun b36 _ e36 K=>?_;cases b36
  ·replace e36:=of_decide_eq_false e36;refine Qf 6 K M ?_;intro _ K;refine Qe ⟨.inr rfl,_,J5 K rfl,?_⟩;refine⟨congrArg AV.bool ?_,M.qt⟩;rw[Jc o s z a l]
   try generalize l.all Q9=q1 at *
   try generalize l.all UB=q2 at *
   try clear M
   try clear ih
   try clear hr
   try clear hr0
   try clear hp
   try clear hn
   try clear hK
   try clear hb
   try clear hc
   try clear hm
   try clear hln
   try clear hbn
   try clear hf
   try(obtain hk:=JI (by assumption) (by assumption);subst hk)
   simp_all [Qg,ZX,YA,JZ,Zr,Jt,QZ,hasB,Nd.op]<;>first|done|rfl|omega|(congr 1;done)|(congr 2;done)|(intros;omega)
  replace e36:=of_decide_eq_true e36;refine Qf 2 K M ?_;intro _ K;refine og K rfl rfl (QL Q7 rfl rfl hK.len) rfl fun _ K=>?_;refine Qf 3 K M ?_;intro _ K;refine Qe ⟨.inr rfl,_,J5 K rfl,?_⟩;refine⟨congrArg AV.bool ?_,M.qt⟩;rw[Jc o s z a l]
  try generalize l.all Q9=q1 at *
  try generalize l.all UB=q2 at *
  try clear M
  try clear ih
  try clear hr
  try clear hr0
  try clear hp
  try clear hn
  try clear hK
  try clear hb
  try clear hc
  try clear hm
  try clear hln
  try clear hbn
  try clear hf
  try(obtain hk:=JI (by assumption) (by assumption);subst hk)
  simp_all [Qg,ZX,YA,JZ,Zr,Jt,QZ,hasB,Nd.op]<;>first|done|rfl|omega|(congr 1;done)|(congr 2;done)|(intros;omega)
 refine Qn<|Qb<|o1 K (QC (b:=[112,108,117,115]) rfl rfl) rfl fun _ K=>?_;refine Qf 1 K M ?_;intro _ K;refine Xo K rfl (fun h42=>?_) fun h42=>?_
 ·refine Qf 2 K M ?_;intro _ K;refine o1 K (QC (b:=[]) rfl rfl) rfl fun _ K=>?_;refine oB K (Qd rfl) rfl fun b47 _ e47 K=>?_;cases b47
  ·replace e47:=of_decide_eq_false e47;refine Qf 31 K M ?_;intro _ K;refine Qe ⟨.inr rfl,_,J5 K rfl,?_⟩;refine⟨congrArg AV.bool ?_,M.qt⟩;rw[Jc o s z a l]
   try generalize l.all Q9=q1 at *
   try generalize l.all UB=q2 at *
   try clear M
   try clear ih
   try clear hr
   try clear hr0
   try clear hp
   try clear hn
   try clear hK
   try clear hb
   try clear hc
   try clear hm
   try clear hln
   try clear hbn
   try clear hf
   try(obtain hk:=JI (by assumption) (by assumption);subst hk)
   simp_all [Qg,ZX,YA,JZ,Zr,Jt,QZ,hasB,Nd.op]<;>first|done|rfl|omega|(congr 1;done)|(congr 2;done)|(intros;omega)
  replace e47:=of_decide_eq_true e47;refine Qf 4 K M ?_;intro _ K;refine oB K (Qd rfl) rfl fun b52 _ e52 K=>?_;cases b52
  ·replace e52:=of_decide_eq_false e52;refine Qf 26 K M ?_;intro _ K;refine Qe ⟨.inr rfl,_,J5 K rfl,?_⟩;refine⟨congrArg AV.bool ?_,M.qt⟩;rw[Jc o s z a l]
   try generalize l.all Q9=q1 at *
   try generalize l.all UB=q2 at *
   try clear M
   try clear ih
   try clear hr
   try clear hr0
   try clear hp
   try clear hn
   try clear hK
   try clear hb
   try clear hc
   try clear hm
   try clear hln
   try clear hbn
   try clear hf
   try(obtain hk:=JI (by assumption) (by assumption);subst hk)
   simp_all [Qg,ZX,YA,JZ,Zr,Jt,QZ,hasB,Nd.op]<;>first|done|rfl|omega|(congr 1;done)|(congr 2;done)|(intros;omega)
  replace e52:=of_decide_eq_true e52;refine Qf 4 K M ?_;intro _ K;refine oB K (Qd rfl) rfl fun b57 _ e57 K=>?_;cases b57
  ·replace e57:=of_decide_eq_false e57;refine Qf 21 K M ?_;intro _ K;refine Qe ⟨.inr rfl,_,J5 K rfl,?_⟩;refine⟨congrArg AV.bool ?_,M.qt⟩;rw[Jc o s z a l]
   try generalize l.all Q9=q1 at *
   try generalize l.all UB=q2 at *
   try clear M
   try clear ih
   try clear hr
   try clear hr0
   try clear hp
   try clear hn
   try clear hK
   try clear hb
   try clear hc
   try clear hm
   try clear hln
   try clear hbn
   try clear hf
   try(obtain hk:=JI (by assumption) (by assumption);subst hk)
   simp_all [Qg,ZX,YA,JZ,Zr,Jt,QZ,hasB,Nd.op]<;>first|done|rfl|omega|(congr 1;done)|(congr 2;done)|(intros;omega)
  replace e57:=of_decide_eq_true e57;refine Qf 2 K M ?_;intro _ K;refine og K rfl rfl (QL Q7 rfl rfl hK.len) rfl fun _ K=>?_;refine Qf 2 K M ?_;intro _ K;refine oB K (Qd rfl) rfl fun b63 _ e63 K=>?_;cases b63
  ·replace e63:=of_decide_eq_false e63;refine Qf 15 K M ?_;intro _ K;refine Qe ⟨.inr rfl,_,J5 K rfl,?_⟩;refine⟨congrArg AV.bool ?_,M.qt⟩;rw[Jc o s z a l]
   try generalize l.all Q9=q1 at *
   try generalize l.all UB=q2 at *
   try clear M
   try clear ih
   try clear hr
   try clear hr0
   try clear hp
   try clear hn
   try clear hK
   try clear hb
   try clear hc
   try clear hm
   try clear hln
   try clear hbn
   try clear hf
   try(obtain hk:=JI (by assumption) (by assumption);subst hk)
   simp_all [Qg,ZX,YA,JZ,Zr,Jt,QZ,hasB,Nd.op]<;>first|done|rfl|omega|(congr 1;done)|(congr 2;done)|(intros;omega)
  replace e63:=of_decide_eq_true e63;refine Qf 2 K M ?_;intro _ K;obtain⟨⟨o66,s66,z66,a66,l66⟩,hi66⟩: ∃k,l[0]? =some k:=⟨_,List.getElem?_eq_getElem (by first|omega|(have:=Jj (m:=1) (l:=l) (by assumption);omega)|(have:=Jj (m:=2) (l:=l) (by assumption);omega)|(have:=has_len (m:=1) (l:=l) (by assumption);omega))⟩;have hm66:=J6 hi66;obtain⟨_,hc66,hn66⟩:=hK.at_ _ _ hi66;have hp66:=hn66;obtain⟨kk66,ls66,rfl,hK66,hb66⟩:=hp66.QJ;obtain⟨x66,m66,f66,q66,_,la66,lo66,lp66⟩:=(hK.r.mem M (by simp)).load (i:=0) (cs:=_) hc66;refine og K rfl rfl (Qj (j:=0) QH (congrArg some q66) rfl (by rw[hK.ln];first|omega|(have:=Jj (m:=1) (l:=l) (by assumption);omega)|(have:=Jj (m:=2) (l:=l) (by assumption);omega)|(have:=has_len (m:=1) (l:=l) (by assumption);omega))) rfl fun _ K=>?_;refine Qf 1 K M ?_;intro _ K;refine og K rfl rfl (Qr rfl (lo66 _ 0 _ QN rfl)) rfl fun _ K=>og K rfl rfl (QC (b:=[118,97,114]) rfl rfl) rfl fun _ K=>o1 K (ZN rfl rfl rfl) rfl fun _ K=>?_;refine oB K (Qd rfl) rfl fun b71 _ e71 K=>?_;cases b71
  ·replace e71:=of_decide_eq_false e71;refine Qf 7 K M ?_;intro _ K;refine Qe ⟨.inr rfl,_,J5 K rfl,?_⟩;refine⟨congrArg AV.bool ?_,M.qt⟩;rw[Jc o s z a l]
   try generalize l.all Q9=q1 at *
   try generalize l.all UB=q2 at *
   try clear M
   try clear ih
   try clear hr
   try clear hr0
   try clear hp
   try clear hn
   try clear hK
   try clear hb
   try clear hc
   try clear hm
   try clear hp66
   try clear hn66
   try clear hK66
   try clear hb66
   try clear hc66
   try clear hm66
   try clear hln
   try clear hbn
   try clear hf
   try(obtain hk:=JI (by assumption) (by assumption);subst hk)
   simp_all [Qg,ZX,YA,JZ,Zr,Jt,QZ,hasB,Nd.op]<;>first|done|rfl|omega|(congr 1;done)|(congr 2;done)|(intros;omega)
  replace e71:=of_decide_eq_true e71;refine Qf 2 K M ?_;intro _ K;obtain⟨⟨o74,s74,z74,a74,l74⟩,hi74⟩: ∃k,l[0]? =some k:=⟨_,List.getElem?_eq_getElem (by first|omega|(have:=Jj (m:=1) (l:=l) (by assumption);omega)|(have:=Jj (m:=2) (l:=l) (by assumption);omega)|(have:=has_len (m:=1) (l:=l) (by assumption);omega))⟩;have hm74:=J6 hi74;obtain⟨_,hc74,hn74⟩:=hK.at_ _ _ hi74;have hp74:=hn74;obtain⟨kk74,ls74,rfl,hK74,hb74⟩:=hp74.QJ;obtain⟨x74,m74,f74,q74,_,la74,lo74,lp74⟩:=(hK.r.mem M (by simp)).load (i:=0) (cs:=_) hc74;refine og K rfl rfl (Qj (j:=0) QH (congrArg some q74) rfl (by rw[hK.ln];first|omega|(have:=Jj (m:=1) (l:=l) (by assumption);omega)|(have:=Jj (m:=2) (l:=l) (by assumption);omega)|(have:=has_len (m:=1) (l:=l) (by assumption);omega))) rfl fun _ K=>og K rfl rfl (Qr rfl (la74 _ Qs)) rfl fun _ K=>?_;obtain⟨v76,st76,ev76,rfl,q76⟩:=ih _ (hm74) _ _ M.fresh (hn74.mono M.rows);refine og K rfl rfl (Ql rfl ev76) rfl fun _ K=>?_;replace M:=M.quiet q76;refine Qf 2 K M ?_;intro _ K;refine Qe ⟨.inr rfl,_,J5 K rfl,?_⟩;refine⟨congrArg AV.bool ?_,M.qt⟩;rw[Jc o s z a l]
  try generalize l.all Q9=q1 at *
  try generalize l.all UB=q2 at *
  try clear M
  try clear ih
  try clear hr
  try clear hr0
  try clear hp
  try clear hn
  try clear hK
  try clear hb
  try clear hc
  try clear hm
  try clear hp66
  try clear hn66
  try clear hK66
  try clear hb66
  try clear hc66
  try clear hm66
  try clear hp74
  try clear hn74
  try clear hK74
  try clear hb74
  try clear hc74
  try clear hm74
  try clear hln
  try clear hbn
  try clear hf
  try(obtain hk:=JI (by assumption) (by assumption);subst hk)
  simp_all [Qg,ZX,YA,JZ,Zr,Jt,QZ,hasB,Nd.op]<;>first|done|rfl|omega|(congr 1;done)|(congr 2;done)|(intros;omega)
 refine Qn<|Qb<|o1 K (QC (b:=[115,101,116]) rfl rfl) rfl fun _ K=>?_;refine Qf 1 K M ?_;intro _ K;refine Xo K rfl (fun h78=>?_) fun h78=>?_
 ·refine Qf 2 K M ?_;intro _ K;refine o1 K (QC (b:=[]) rfl rfl) rfl fun _ K=>?_;refine oB K (Qd rfl) rfl fun b83 _ e83 K=>?_;cases b83
  ·replace e83:=of_decide_eq_false e83;refine Qf 15 K M ?_;intro _ K;refine Qe ⟨.inr rfl,_,J5 K rfl,?_⟩;refine⟨congrArg AV.bool ?_,M.qt⟩;rw[Jc o s z a l]
   try generalize l.all Q9=q1 at *
   try generalize l.all UB=q2 at *
   try clear M
   try clear ih
   try clear hr
   try clear hr0
   try clear hp
   try clear hn
   try clear hK
   try clear hb
   try clear hc
   try clear hm
   try clear hln
   try clear hbn
   try clear hf
   try(obtain hk:=JI (by assumption) (by assumption);subst hk)
   simp_all [Qg,ZX,YA,JZ,Zr,Jt,QZ,hasB,Nd.op]<;>first|done|rfl|omega|(congr 1;done)|(congr 2;done)|(intros;omega)
  replace e83:=of_decide_eq_true e83;refine Qf 4 K M ?_;intro _ K;refine oB K (Qd rfl) rfl fun b88 _ e88 K=>?_;cases b88
  ·replace e88:=of_decide_eq_false e88;refine Qf 10 K M ?_;intro _ K;refine Qe ⟨.inr rfl,_,J5 K rfl,?_⟩;refine⟨congrArg AV.bool ?_,M.qt⟩;rw[Jc o s z a l]
   try generalize l.all Q9=q1 at *
   try generalize l.all UB=q2 at *
   try clear M
   try clear ih
   try clear hr
   try clear hr0
   try clear hp
   try clear hn
   try clear hK
   try clear hb
   try clear hc
   try clear hm
   try clear hln
   try clear hbn
   try clear hf
   try(obtain hk:=JI (by assumption) (by assumption);subst hk)
   simp_all [Qg,ZX,YA,JZ,Zr,Jt,QZ,hasB,Nd.op]<;>first|done|rfl|omega|(congr 1;done)|(congr 2;done)|(intros;omega)
  replace e88:=of_decide_eq_true e88;refine Qf 2 K M ?_;intro _ K;refine og K rfl rfl (QL Q7 rfl rfl hK.len) rfl fun _ K=>?_;refine Qf 2 K M ?_;intro _ K;refine oB K (Qd rfl) rfl fun b94 _ e94 K=>?_;cases b94
  ·replace e94:=of_decide_eq_false e94;refine Qf 4 K M ?_;intro _ K;refine Qe ⟨.inr rfl,_,J5 K rfl,?_⟩;refine⟨congrArg AV.bool ?_,M.qt⟩;rw[Jc o s z a l]
   try generalize l.all Q9=q1 at *
   try generalize l.all UB=q2 at *
   try clear M
   try clear ih
   try clear hr
   try clear hr0
   try clear hp
   try clear hn
   try clear hK
   try clear hb
   try clear hc
   try clear hm
   try clear hln
   try clear hbn
   try clear hf
   try(obtain hk:=JI (by assumption) (by assumption);subst hk)
   simp_all [Qg,ZX,YA,JZ,Zr,Jt,QZ,hasB,Nd.op]<;>first|done|rfl|omega|(congr 1;done)|(congr 2;done)|(intros;omega)
  replace e94:=of_decide_eq_true e94;refine Qf 1 K M ?_;intro _ K
  obtain⟨v96,st96,ev96,rfl,q96⟩:=Fk (p:=UB) M.fresh (hr0.mono M.rows) (fun k hk st1 cs hf1 hr1=>by
    obtain⟨ko,ks,kv,ka,kl⟩:=k
    exact Rw hf1 hr1 (fun st2 cs2 h2 r2=>ih _ hk st2 cs2 h2 r2))
  refine og K rfl rfl (Ql rfl ev96) rfl fun _ K=>?_;replace M:=M.quiet q96;refine Qf 2 K M ?_;intro _ K;refine Qe ⟨.inr rfl,_,J5 K rfl,?_⟩;refine⟨congrArg AV.bool ?_,M.qt⟩;rw[Jc o s z a l]
  try generalize l.all Q9=q1 at *
  try generalize l.all UB=q2 at *
  try clear M
  try clear ih
  try clear hr
  try clear hr0
  try clear hp
  try clear hn
  try clear hK
  try clear hb
  try clear hc
  try clear hm
  try clear hln
  try clear hbn
  try clear hf
  try(obtain hk:=JI (by assumption) (by assumption);subst hk)
  simp_all [Qg,ZX,YA,JZ,Zr,Jt,QZ,hasB,Nd.op]<;>first|done|rfl|omega|(congr 1;done)|(congr 2;done)|(intros;omega)
 refine Eh (J:=fun T st9=> ∃(b:Bool),QT [(1,.ptr c1 0 0),(2,.bool false),(98,.bool b)] T∧Mem st.h.get st.n [] st9 [(c1,0,[.str o,.str s,.int .i64 z,.int .i64 a,kk])]∧b=Jt o) ?_ (fun T st9 hJ=>?_)
 ·refine Qn<|Qb<|o1 K (QC (b:=[117,110,105,111,110]) rfl rfl) rfl fun _ K=>?_;refine Qf 1 K M ?_;intro _ K;refine Qm (K.QF rfl) (fun h98=>?_) (fun h98=>?_)
  ·have hb98:=h98;replace h98:=of_decide_eq_true h98;refine Q8 ?_;exact⟨_,(.cons (K _ _ rfl) (.cons (K _ _ rfl) (.cons (K _ _ rfl) .nil))),M.less (.refl _),(by simp_all [Jt])⟩
  have hb98:=h98;replace h98:=of_decide_eq_false h98;refine Qn<|Qb<|o1 K (QC (b:=[105,110,116,101,114]) rfl rfl) rfl fun _ K=>?_;refine Qf 1 K M ?_;intro _ K;refine Qm (K.QF rfl) (fun h98=>?_) (fun h98=>?_)
  ·have hb98:=h98;replace h98:=of_decide_eq_true h98;refine Q8 ?_;exact⟨_,(.cons (K _ _ rfl) (.cons (K _ _ rfl) (.cons (K _ _ rfl) .nil))),M.less (.refl _),(by simp_all [Jt])⟩
  have hb98:=h98;replace h98:=of_decide_eq_false h98;refine Qb<|o1 K (QC (b:=[109,105,110,117,115]) rfl rfl) rfl fun _ K=>o1 K (Q0 rfl) rfl fun _ K=>Qy ?_;exact⟨_,(.cons (K _ _ rfl) (.cons (K _ _ rfl) (.cons (K _ _ rfl) .nil))),M.less (.refl _),(by simp_all [Jt])⟩
 obtain⟨b,K,M,hbs⟩:=hJ;refine Qm (K.QF rfl) (fun h98=>?_) (fun h98=>?_)
 ·have hb98:=h98;refine Qf 1 K M ?_;intro _ K;refine oQ K M (FW M.fresh (hr0.mono M.rows) 2) rfl rfl fun _ _ K M=>?_;refine oB K (Qd rfl) rfl fun b104 _ e104 K=>?_;cases b104
  ·refine Qf 12 K M ?_;intro _ K;refine Qe ⟨.inr rfl,_,J5 K rfl,?_⟩;refine⟨congrArg AV.bool ?_,M.qt⟩;rw[Jc o s z a l]
   try generalize l.all Q9=q1 at *
   try generalize l.all UB=q2 at *
   try clear M
   try clear ih
   try clear hr
   try clear hr0
   try clear hp
   try clear hn
   try clear hK
   try clear hb
   try clear hc
   try clear hm
   try clear hln
   try clear hbn
   try clear hf
   try(obtain hk:=JI (by assumption) (by assumption);subst hk)
   simp_all [Qg,ZX,YA,JZ,Zr,Jt,QZ,hasB,Nd.op]<;>first|done|rfl|omega|(congr 1;done)|(congr 2;done)|(intros;omega)
  refine Qf 1 K M ?_;intro _ K;obtain⟨v106,st106,ev106,rfl,q106⟩:=Fk (p:=Q9) M.fresh (hr0.mono M.rows) (fun k hk st1 cs hf1 hr1=>ih _ hk st1 cs hf1 hr1);refine og K rfl rfl (Ql rfl ev106) rfl fun _ K=>?_;replace M:=M.quiet q106;refine o1 K (ZN rfl rfl rfl) rfl fun _ K=>?_;refine oB K (Qd rfl) rfl fun b108 _ e108 K=>?_;cases b108
  ·refine Qf 8 K M ?_;intro _ K;refine Qe ⟨.inr rfl,_,J5 K rfl,?_⟩;refine⟨congrArg AV.bool ?_,M.qt⟩;rw[Jc o s z a l]
   try generalize l.all Q9=q1 at *
   try generalize l.all UB=q2 at *
   try clear M
   try clear ih
   try clear hr
   try clear hr0
   try clear hp
   try clear hn
   try clear hK
   try clear hb
   try clear hc
   try clear hm
   try clear hln
   try clear hbn
   try clear hf
   try(obtain hk:=JI (by assumption) (by assumption);subst hk)
   simp_all [Qg,ZX,YA,JZ,Zr,Jt,QZ,hasB,Nd.op]<;>first|done|rfl|omega|(congr 1;done)|(congr 2;done)|(intros;omega)
  refine Qf 2 K M ?_;intro _ K;obtain⟨⟨o111,s111,z111,a111,l111⟩,hi111⟩: ∃k,l[1]? =some k:=⟨_,List.getElem?_eq_getElem (by first|omega|(have:=Jj (m:=1) (l:=l) (by assumption);omega)|(have:=Jj (m:=2) (l:=l) (by assumption);omega)|(have:=has_len (m:=1) (l:=l) (by assumption);omega))⟩;have hm111:=J6 hi111;obtain⟨_,hc111,hn111⟩:=hK.at_ _ _ hi111;have hp111:=hn111;obtain⟨kk111,ls111,rfl,hK111,hb111⟩:=hp111.QJ;obtain⟨x111,m111,f111,q111,_,la111,lo111,lp111⟩:=(hK.r.mem M (by simp)).load (i:=1) (cs:=_) hc111;refine og K rfl rfl (Qj (j:=1) QH (congrArg some q111) rfl (by rw[hK.ln];first|omega|(have:=Jj (m:=1) (l:=l) (by assumption);omega)|(have:=Jj (m:=2) (l:=l) (by assumption);omega)|(have:=has_len (m:=1) (l:=l) (by assumption);omega))) rfl fun _ K=>og K rfl rfl (Qr rfl (la111 _ Qs)) rfl fun _ K=>?_;obtain⟨v113,st113,ev113,rfl,q113⟩:=Bg M.fresh (hn111.mono M.rows);refine og K rfl rfl (Ql rfl ev113) rfl fun _ K=>?_;replace M:=M.quiet q113;refine Qf 3 K M ?_;intro _ K;refine Qe ⟨.inr rfl,_,J5 K rfl,?_⟩;refine⟨congrArg AV.bool ?_,M.qt⟩;rw[Jc o s z a l]
  try generalize l.all Q9=q1 at *
  try generalize l.all UB=q2 at *
  try clear M
  try clear ih
  try clear hr
  try clear hr0
  try clear hp
  try clear hn
  try clear hK
  try clear hb
  try clear hc
  try clear hm
  try clear hp111
  try clear hn111
  try clear hK111
  try clear hb111
  try clear hc111
  try clear hm111
  try clear hln
  try clear hbn
  try clear hf
  try(obtain hk:=JI (by assumption) (by assumption);subst hk)
  simp_all [Qg,ZX,YA,JZ,Zr,Jt,QZ,hasB,Nd.op]<;>first|done|rfl|omega|(congr 1;done)|(congr 2;done)|(intros;omega)
 have hb98:=h98;refine Qf 1 K M ?_;intro _ K;refine Qe ⟨.inr rfl,_,J5 K rfl,?_⟩;refine⟨congrArg AV.bool ?_,M.qt⟩;rw[Jc o s z a l]
 try generalize l.all Q9=q1 at *
 try generalize l.all UB=q2 at *
 try clear M
 try clear ih
 try clear hr
 try clear hr0
 try clear hp
 try clear hn
 try clear hK
 try clear hb
 try clear hc
 try clear hm
 try clear hln
 try clear hbn
 try clear hf
 try(obtain hk:=JI (by assumption) (by assumption);subst hk)
 simp_all [Qg,ZX,YA,JZ,Zr,Jt,QZ,hasB,Nd.op]<;>first|done|rfl|omega|(congr 1;done)|(congr 2;done)|(intros;omega)
end Go.Proofs.YtadjjadimlkkgaaGreatDoor
