/-
  Formulas: the program's answer. Terms and formulas: the reference's.
-/
import Derived.Test.YthjgndgnmkiaiaaGreatDoorZpTrB
namespace Go.Proofs.YthjgndgnmkiaiaaGreatDoor
open Go Go.RowKit
set_option maxHeartbeats 8000000
set_option linter.unusedVariables false
set_option linter.unusedSimpArgs false
set_option maxRecDepth 100000
variable {l:List Nd} {m z:Int} {s:List Nat}

theorem Sj(z:Int):(z<3)=(z≤2):=propext Qk
theorem UA{kids:List Nd}{i:Nat}{k:Nd}{p:Nd→Bool}(h:kids[i]? =some k):(kids.drop i).any p=(p k||(kids.drop (i+1)).any p):=by
 obtain⟨h1,h2⟩:=List.getElem?_eq_some_iff.1 h;rw[List.drop_eq_getElem_cons h1,List.any_cons,h2]
theorem Ub:hasB s z l m true false=(Ui s&&(decide (z=0)&&decide (((l.length:Nat):Int)=m))):=by
 rw[hasB];cases decide (((l.length:Nat):Int)=m)<;>cases decide (z=0)<;>cases Ui s<;>rfl
theorem Uc:hasB s z l m false true=(decide (s=[])&&decide (((l.length:Nat):Int)=m)):=by
 rw[hasB];cases decide (((l.length:Nat):Int)=m)<;>cases decide (s=[])<;>rfl
theorem Ud:hasB s z l m false false=JQ s z l m:=by
 rw[hasB,JQ];cases decide (((l.length:Nat):Int)=m)<;>cases decide (z=0)<;>cases decide (s=[])<;>rfl
theorem Ua:hasB s z l m true true=(Ui s&&decide (((l.length:Nat):Int)=m)):=by
 rw[hasB];cases decide (((l.length:Nat):Int)=m)<;>cases Ui s<;>rfl
def YP(k:Nd):Bool:=Jf k.op||decide (k.op=U3)
theorem UH: ∀(l:List Nd),l.all L6=(!l.any YP&&l.all QM):=by
 intro l
 induction l with
 |nil=>rfl
 |cons k l ih=>
  rw[List.all_cons,List.all_cons,List.any_cons,ih,L6,YP]
  cases QM k<;>cases Jf k.op<;>cases decide (k.op=U3)<;>cases l.any YP<;>cases l.all QM<;>rfl

theorem F8{o:List Nat}{a:Int}{st:St}{cs:List AV}(hf:Q3 st)(hr:XW st.h.get (.mk o s z a l) cs)(hC: ∀(k:Nd),k∈l→ ∀(st1:St) (cs:List AV),Q3 st1→XW st1.h.get k cs→ ∃v st',Ev Tryz.prog JF 89 [.agg cs] st1 v st'∧v=.bool (QM k)∧Qt st1 st'): ∃v st',Ev Tryz.prog JF 56 [.agg cs] st v st'∧v=.bool (l.all QM)∧Qt st st':=by
 have hr0:=hr;obtain⟨kk,ls,rfl,hK,hb⟩:=hr.J3;have hln:=hK.ln;have hbn:=hK.W9;refine XB Tryz.func56 Tryz.ntmps56 fun T K=>?_;have M:=Mem.start hf;refine Qg 0 K M fun _ K=>?_;refine Y8 K M rfl (Qa rfl (Qa rfl (Qa rfl (Qa rfl (Qa hK.cell QV))))) Qo fun c1 _ _ K M=>?_;refine Qg 2 K M fun _ K=>?_;refine UE (fun mm1 T st9=> ∃(i:Nat),mm1=l.length-i∧Jn [(1,.ptr c1 0 0),(3,iN i)] T∧Mem st.h.get st.n [] st9 [(c1,0,[.str o,.str s,iZ z,iZ a,kk])]∧i≤l.length∧l.all QM=(l.drop i).all QM) (fun mm1 T st9 hI=>?_) _ _ _ ⟨0,rfl,(K.sub rfl),M.less (.refl _),(Nat.zero_le _),(by rw[List.drop_zero])⟩;obtain⟨i,rfl,K,M,hi,hx⟩:=hI;refine Qg 3 K M fun _ K=>?_;refine p1 K (Jp Jj rfl rfl hK.len) fun _ K=>?_;refine Qg 1 K M fun _ K=>?_;refine WU K rfl (fun h8=>?_) fun h8=>?_
 ·refine Qg 3 K M fun _ K=>?_;obtain⟨⟨o14,s14,z14,a14,l14⟩,hi14⟩: ∃k,l[i]? =some k:=⟨_,List.getElem?_eq_getElem (by first|omega|(have:=bare_len (m:=1) (l:=l) (by assumption);omega)|(have:=bare_len (m:=2) (l:=l) (by assumption);omega)|(have:=Q5 (m:=1) (l:=l) (by assumption);omega))⟩;have hm14:=J7 hi14;obtain⟨_,hc14,hn14⟩:=hK.at_ _ _ hi14;have hp14:=hn14;obtain⟨kk14,ls14,rfl,hK14,hb14⟩:=hp14.J3;refine aJ (hK.r.mem M Q1) hc14 K QB Qs rfl rfl fun _ _ _ _ K=>?_;refine oQ K M (hC _ hm14 _ _ M.fresh (hn14.mono M.rows)) rfl rfl fun _ _ K M=>?_;refine Qg 1 K M fun _ K=>?_;refine Zb K rfl (fun h17=>?_) fun h17=>?_
  ·have hb17:=h17
   replace h17:(QM (.mk o14 s14 z14 a14 l14))=false:=by simpa using h17
   refine Qg 1 K M ?_;exact⟨by rw[hx,Kz hi14];simp[h17],M.qt⟩
  have hb17:=h17
  replace h17:(QM (.mk o14 s14 z14 a14 l14))=true:=by simpa using h17
  refine Qg 3 K M fun _ K=>?_;exact⟨_,Qk,i+1,rfl,(K.sub rfl),M.less (.refl _),Qk,(by rw[hx,Kz hi14];simp[h17])⟩
 refine Uz ?_;show W _ _ _ _ _ _ _;refine Qg 1 K M ?_;exact⟨by rw[hx,J0 Qk];rfl,M.qt⟩

theorem KN{o:List Nat}{a:Int}{st:St}{cs:List AV}(hf:Q3 st)(hr:XW st.h.get (.mk o s z a l) cs)(hC: ∀(k:Nd),k∈l→ ∀(st1:St) (cs:List AV),Q3 st1→XW st1.h.get k cs→ ∃v st',Ev Tryz.prog JF 26 [.agg cs] st1 v st'∧v=.bool (Jg k)∧Qt st1 st'): ∃v st',Ev Tryz.prog JF 55 [.agg cs] st v st'∧v=.bool (l.all Jg)∧Qt st st':=by
 have hr0:=hr;obtain⟨kk,ls,rfl,hK,hb⟩:=hr.J3;have hln:=hK.ln;have hbn:=hK.W9;refine XB Tryz.func55 Tryz.ntmps55 fun T K=>?_;have M:=Mem.start hf;refine Qg 0 K M fun _ K=>?_;refine Y8 K M rfl (Qa rfl (Qa rfl (Qa rfl (Qa rfl (Qa hK.cell QV))))) Qo fun c1 _ _ K M=>?_;refine Qg 2 K M fun _ K=>?_;refine UE (fun mm1 T st9=> ∃(i:Nat),mm1=l.length-i∧Jn [(1,.ptr c1 0 0),(3,iN i)] T∧Mem st.h.get st.n [] st9 [(c1,0,[.str o,.str s,iZ z,iZ a,kk])]∧i≤l.length∧l.all Jg=(l.drop i).all Jg) (fun mm1 T st9 hI=>?_) _ _ _ ⟨0,rfl,(K.sub rfl),M.less (.refl _),(Nat.zero_le _),(by rw[List.drop_zero])⟩;obtain⟨i,rfl,K,M,hi,hx⟩:=hI;refine Qg 3 K M fun _ K=>?_;refine p1 K (Jp Jj rfl rfl hK.len) fun _ K=>?_;refine Qg 1 K M fun _ K=>?_;refine WU K rfl (fun h8=>?_) fun h8=>?_
 ·refine Qg 3 K M fun _ K=>?_;obtain⟨⟨o14,s14,z14,a14,l14⟩,hi14⟩: ∃k,l[i]? =some k:=⟨_,List.getElem?_eq_getElem (by first|omega|(have:=bare_len (m:=1) (l:=l) (by assumption);omega)|(have:=bare_len (m:=2) (l:=l) (by assumption);omega)|(have:=Q5 (m:=1) (l:=l) (by assumption);omega))⟩;have hm14:=J7 hi14;obtain⟨_,hc14,hn14⟩:=hK.at_ _ _ hi14;have hp14:=hn14;obtain⟨kk14,ls14,rfl,hK14,hb14⟩:=hp14.J3;refine aJ (hK.r.mem M Q1) hc14 K QB Qs rfl rfl fun _ _ _ _ K=>?_;refine oQ K M (hC _ hm14 _ _ M.fresh (hn14.mono M.rows)) rfl rfl fun _ _ K M=>?_;refine Qg 1 K M fun _ K=>?_;refine Zb K rfl (fun h17=>?_) fun h17=>?_
  ·have hb17:=h17
   replace h17:(Jg (.mk o14 s14 z14 a14 l14))=false:=by simpa using h17
   refine Qg 1 K M ?_;exact⟨by rw[hx,Kz hi14];simp[h17],M.qt⟩
  have hb17:=h17
  replace h17:(Jg (.mk o14 s14 z14 a14 l14))=true:=by simpa using h17
  refine Qg 3 K M fun _ K=>?_;exact⟨_,Qk,i+1,rfl,(K.sub rfl),M.less (.refl _),Qk,(by rw[hx,Kz hi14];simp[h17])⟩
 refine Uz ?_;show W _ _ _ _ _ _ _;refine Qg 1 K M ?_;exact⟨by rw[hx,J0 Qk];rfl,M.qt⟩

theorem Pw(x:Nd): ∀(st:St) (cs:List AV),Q3 st→XW st.h.get x cs→ ∃v st',Ev Tryz.prog JF 89 [.agg cs] st v st'∧v=.bool (QM x)∧Qt st st':=by
 refine H4 (M:=fun x=> ∀(st:St) (cs:List AV),Q3 st→XW st.h.get x cs→ ∃v st',Ev Tryz.prog JF 89 [.agg cs] st v st'∧v=.bool (QM x)∧Qt st st') (fun o s z a l ih=>?_) x;intro st cs hf hr;have hr0:=hr;obtain⟨kk,ls,rfl,hK,hb⟩:=hr.J3;have hln:=hK.ln;have hbn:=hK.W9;refine XB Tryz.func89 Tryz.ntmps89 fun T K=>?_;have M:=Mem.start hf;refine Qg 0 K M fun _ K=>?_;refine Y8 K M rfl (Qa rfl (Qa rfl (Qa rfl (Qa rfl (Qa hK.cell QV))))) Qo fun c1 _ _ K M=>?_;refine Qg 3 K M fun _ K=>?_;refine p1 K (Jw (b:=[118,97,114]) rfl rfl) fun _ K=>?_;refine Qg 1 K M fun _ K=>?_;refine WU K rfl (fun h6=>?_) fun h6=>?_
 ·refine Qg 1 K M fun _ K=>?_;obtain⟨v9,st9,ev9,rfl,q9⟩:=VI M.fresh (hr0.mono M.rows) 0 true false;refine p1 K (Qh rfl ev9) fun _ K=>?_;replace M:=M.quiet q9;refine Qg 1 K M ?_;refine⟨congrArg AV.bool ?_,M.qt⟩;rw[Uf o s z a l,UH l]
  try generalize l.all QM=q1 at *
  try generalize hq:l.any YP=q2 at *
  try(have hq2:q2=true:=by rw[hx,UA hi65,YP];simp_all [Nd.op,U3])
  try(have hq2:q2=false:=by rw[hx,J0 Qk];rfl)
  try clear hx
  try clear hq
  try clear M
  try clear ih
  try clear hr
  try clear hr0
  try clear hp
  try clear hn
  try clear hK
  try clear hb
  try clear hc
  try clear hm
  try clear hln
  try clear hbn
  try clear hf
  try(obtain hk:=Y4 (Q5 (by assumption)) (by assumption);subst hk)
  try simp only[Ub,Uc,Ud,Ua]at *
  simp_all [Ql,Y7,ZS,Yr,U3,Jf,JQ,Nd.op]<;>first|done|rfl|omega|(congr 1;done)|(congr 2;done)|(intros;omega)|(intros;simp_all;done)
 refine Qg 0 K M fun _ K=>?_;refine p1 K (Jw (b:=[110,117,109]) rfl rfl) fun _ K=>?_;refine Qg 1 K M fun _ K=>?_;refine WU K rfl (fun h10=>?_) fun h10=>?_
 ·refine Qg 1 K M fun _ K=>?_;refine oQ K M (VI M.fresh (hr0.mono M.rows) 0 false true) rfl rfl fun _ _ K M=>?_;refine oB K (Q7 rfl) rfl fun b14 _ e14 K=>?_;cases b14
  ·refine Qg 10 K M ?_;refine⟨congrArg AV.bool ?_,M.qt⟩;rw[Uf o s z a l,UH l]
   try generalize l.all QM=q1 at *
   try generalize hq:l.any YP=q2 at *
   try(have hq2:q2=true:=by rw[hx,UA hi65,YP];simp_all [Nd.op,U3])
   try(have hq2:q2=false:=by rw[hx,J0 Qk];rfl)
   try clear hx
   try clear hq
   try clear M
   try clear ih
   try clear hr
   try clear hr0
   try clear hp
   try clear hn
   try clear hK
   try clear hb
   try clear hc
   try clear hm
   try clear hln
   try clear hbn
   try clear hf
   try(obtain hk:=Y4 (Q5 (by assumption)) (by assumption);subst hk)
   try simp only[Ub,Uc,Ud,Ua]at *
   simp_all [Ql,Y7,ZS,Yr,U3,Jf,JQ,Nd.op]<;>first|done|rfl|omega|(congr 1;done)|(congr 2;done)|(intros;omega)|(intros;simp_all;done)
  refine Qg 4 K M fun _ K=>?_;refine No K rfl (fun _ e19 K=>?_) fun _ e19 K=>?_
  ·refine Qg 5 K M ?_;refine⟨congrArg AV.bool ?_,M.qt⟩;rw[Uf o s z a l,UH l]
   try generalize l.all QM=q1 at *
   try generalize hq:l.any YP=q2 at *
   try(have hq2:q2=true:=by rw[hx,UA hi65,YP];simp_all [Nd.op,U3])
   try(have hq2:q2=false:=by rw[hx,J0 Qk];rfl)
   try clear hx
   try clear hq
   try clear M
   try clear ih
   try clear hr
   try clear hr0
   try clear hp
   try clear hn
   try clear hK
   try clear hb
   try clear hc
   try clear hm
   try clear hln
   try clear hbn
   try clear hf
   try(obtain hk:=Y4 (Q5 (by assumption)) (by assumption);subst hk)
   try simp only[Ub,Uc,Ud,Ua]at *
   simp_all [Ql,Y7,ZS,Yr,U3,Jf,JQ,Nd.op]<;>first|done|rfl|omega|(congr 1;done)|(congr 2;done)|(intros;omega)|(intros;simp_all;done)
  refine Qg 5 K M ?_;refine⟨congrArg AV.bool ?_,M.qt⟩;rw[Uf o s z a l,UH l]
  try generalize l.all QM=q1 at *
  try generalize hq:l.any YP=q2 at *
  try(have hq2:q2=true:=by rw[hx,UA hi65,YP];simp_all [Nd.op,U3])
  try(have hq2:q2=false:=by rw[hx,J0 Qk];rfl)
  try clear hx
  try clear hq
  try clear M
  try clear ih
  try clear hr
  try clear hr0
  try clear hp
  try clear hn
  try clear hK
  try clear hb
  try clear hc
  try clear hm
  try clear hln
  try clear hbn
  try clear hf
  try(obtain hk:=Y4 (Q5 (by assumption)) (by assumption);subst hk)
  try simp only[Ub,Uc,Ud,Ua]at *
  simp_all [Ql,Y7,ZS,Yr,U3,Jf,JQ,Nd.op]<;>first|done|rfl|omega|(congr 1;done)|(congr 2;done)|(intros;omega)|(intros;simp_all;done)
 refine Qg 0 K M fun _ K=>?_;refine p1 K (Jw (b:=[112,108,117,115]) rfl rfl) fun _ K=>?_;refine Qg 1 K M fun _ K=>?_;refine WU K rfl (fun h24=>?_) fun h24=>?_
 ·refine Qg 1 K M fun _ K=>?_;refine oQ K M (VI M.fresh (hr0.mono M.rows) 1 false true) rfl rfl fun _ _ K M=>?_;refine oB K (Q7 rfl) rfl fun b28 _ e28 K=>?_;cases b28
  ·refine Qg 25 K M ?_;refine⟨congrArg AV.bool ?_,M.qt⟩;rw[Uf o s z a l,UH l]
   try generalize l.all QM=q1 at *
   try generalize hq:l.any YP=q2 at *
   try(have hq2:q2=true:=by rw[hx,UA hi65,YP];simp_all [Nd.op,U3])
   try(have hq2:q2=false:=by rw[hx,J0 Qk];rfl)
   try clear hx
   try clear hq
   try clear M
   try clear ih
   try clear hr
   try clear hr0
   try clear hp
   try clear hn
   try clear hK
   try clear hb
   try clear hc
   try clear hm
   try clear hln
   try clear hbn
   try clear hf
   try(obtain hk:=Y4 (Q5 (by assumption)) (by assumption);subst hk)
   try simp only[Ub,Uc,Ud,Ua]at *
   simp_all [Ql,Y7,ZS,Yr,U3,Jf,JQ,Nd.op]<;>first|done|rfl|omega|(congr 1;done)|(congr 2;done)|(intros;omega)|(intros;simp_all;done)
  refine Qg 4 K M fun _ K=>?_;refine No K rfl (fun _ e33 K=>?_) fun _ e33 K=>?_
  ·refine Qg 20 K M ?_;refine⟨congrArg AV.bool ?_,M.qt⟩;rw[Uf o s z a l,UH l]
   try generalize l.all QM=q1 at *
   try generalize hq:l.any YP=q2 at *
   try(have hq2:q2=true:=by rw[hx,UA hi65,YP];simp_all [Nd.op,U3])
   try(have hq2:q2=false:=by rw[hx,J0 Qk];rfl)
   try clear hx
   try clear hq
   try clear M
   try clear ih
   try clear hr
   try clear hr0
   try clear hp
   try clear hn
   try clear hK
   try clear hb
   try clear hc
   try clear hm
   try clear hln
   try clear hbn
   try clear hf
   try(obtain hk:=Y4 (Q5 (by assumption)) (by assumption);subst hk)
   try simp only[Ub,Uc,Ud,Ua]at *
   simp_all [Ql,Y7,ZS,Yr,U3,Jf,JQ,Nd.op]<;>first|done|rfl|omega|(congr 1;done)|(congr 2;done)|(intros;omega)|(intros;simp_all;done)
  refine Qg 4 K M fun _ K=>?_;refine No K rfl (fun _ e38 K=>?_) fun _ e38 K=>?_
  ·refine Qg 15 K M ?_;refine⟨congrArg AV.bool ?_,M.qt⟩;rw[Uf o s z a l,UH l]
   try generalize l.all QM=q1 at *
   try generalize hq:l.any YP=q2 at *
   try(have hq2:q2=true:=by rw[hx,UA hi65,YP];simp_all [Nd.op,U3])
   try(have hq2:q2=false:=by rw[hx,J0 Qk];rfl)
   try clear hx
   try clear hq
   try clear M
   try clear ih
   try clear hr
   try clear hr0
   try clear hp
   try clear hn
   try clear hK
   try clear hb
   try clear hc
   try clear hm
   try clear hln
   try clear hbn
   try clear hf
   try(obtain hk:=Y4 (Q5 (by assumption)) (by assumption);subst hk)
   try simp only[Ub,Uc,Ud,Ua]at *
   simp_all [Ql,Y7,ZS,Yr,U3,Jf,JQ,Nd.op]<;>first|done|rfl|omega|(congr 1;done)|(congr 2;done)|(intros;omega)|(intros;simp_all;done)
  refine Qg 2 K M fun _ K=>?_;obtain⟨⟨o41,s41,z41,a41,l41⟩,hi41⟩: ∃k,l[0]? =some k:=⟨_,List.getElem?_eq_getElem (by first|omega|(have:=bare_len (m:=1) (l:=l) (by assumption);omega)|(have:=bare_len (m:=2) (l:=l) (by assumption);omega)|(have:=Q5 (m:=1) (l:=l) (by assumption);omega)|(have:=Q5 (m:=2) (l:=l) (by assumption);omega))⟩;have hm41:=J7 hi41;obtain⟨_,hc41,hn41⟩:=hK.at_ _ _ hi41;have hp41:=hn41;obtain⟨kk41,ls41,rfl,hK41,hb41⟩:=hp41.J3;obtain⟨x41,m41,f41,q41,_,la41,lo41,lp41⟩:=(hK.r.mem M Q1).load (i:=0) (cs:=_) hc41;refine pg K rfl rfl (Qp (j:=0) QB (congrArg some q41) rfl (by rw[hK.ln];first|omega|(have:=bare_len (m:=1) (l:=l) (by assumption);omega)|(have:=bare_len (m:=2) (l:=l) (by assumption);omega)|(have:=Q5 (m:=1) (l:=l) (by assumption);omega)|(have:=Q5 (m:=2) (l:=l) (by assumption);omega))) fun _ K=>?_;refine Qg 1 K M fun _ K=>?_;refine pg K rfl rfl (QK rfl (lo41 _ 0 _ Qr rfl)) fun _ K=>pg K rfl rfl (Jw (b:=[118,97,114]) rfl rfl) fun _ K=>?_;refine Qg 1 K M fun _ K=>?_;refine No K rfl (fun _ e46 K=>?_) fun _ e46 K=>?_
  ·refine Qg 7 K M ?_;refine⟨congrArg AV.bool ?_,M.qt⟩;rw[Uf o s z a l,UH l]
   try generalize l.all QM=q1 at *
   try generalize hq:l.any YP=q2 at *
   try(have hq2:q2=true:=by rw[hx,UA hi65,YP];simp_all [Nd.op,U3])
   try(have hq2:q2=false:=by rw[hx,J0 Qk];rfl)
   try clear hx
   try clear hq
   try clear M
   try clear ih
   try clear hr
   try clear hr0
   try clear hp
   try clear hn
   try clear hK
   try clear hb
   try clear hc
   try clear hm
   try clear hp41
   try clear hn41
   try clear hK41
   try clear hb41
   try clear hc41
   try clear hm41
   try clear hln
   try clear hbn
   try clear hf
   try(obtain hk:=Y4 (Q5 (by assumption)) (by assumption);subst hk)
   try simp only[Ub,Uc,Ud,Ua]at *
   simp_all [Ql,Y7,ZS,Yr,U3,Jf,JQ,Nd.op]<;>first|done|rfl|omega|(congr 1;done)|(congr 2;done)|(intros;omega)|(intros;simp_all;done)
  refine Qg 2 K M fun _ K=>?_;obtain⟨⟨o49,s49,z49,a49,l49⟩,hi49⟩: ∃k,l[0]? =some k:=⟨_,List.getElem?_eq_getElem (by first|omega|(have:=bare_len (m:=1) (l:=l) (by assumption);omega)|(have:=bare_len (m:=2) (l:=l) (by assumption);omega)|(have:=Q5 (m:=1) (l:=l) (by assumption);omega)|(have:=Q5 (m:=2) (l:=l) (by assumption);omega))⟩;have hm49:=J7 hi49;obtain⟨_,hc49,hn49⟩:=hK.at_ _ _ hi49;have hp49:=hn49;obtain⟨kk49,ls49,rfl,hK49,hb49⟩:=hp49.J3;obtain⟨x49,m49,f49,q49,_,la49,lo49,lp49⟩:=(hK.r.mem M Q1).load (i:=0) (cs:=_) hc49;refine pg K rfl rfl (Qp (j:=0) QB (congrArg some q49) rfl (by rw[hK.ln];first|omega|(have:=bare_len (m:=1) (l:=l) (by assumption);omega)|(have:=bare_len (m:=2) (l:=l) (by assumption);omega)|(have:=Q5 (m:=1) (l:=l) (by assumption);omega)|(have:=Q5 (m:=2) (l:=l) (by assumption);omega))) fun _ K=>pg K rfl rfl (QK rfl (la49 _ Qs)) fun _ K=>?_;obtain⟨v51,st51,ev51,rfl,q51⟩:=ih _ (hm49) _ _ M.fresh (hn49.mono M.rows);refine pg K rfl rfl (Qh rfl ev51) fun _ K=>?_;replace M:=M.quiet q51;refine Qg 2 K M ?_;refine⟨congrArg AV.bool ?_,M.qt⟩;rw[Uf o s z a l,UH l]
  try generalize l.all QM=q1 at *
  try generalize hq:l.any YP=q2 at *
  try(have hq2:q2=true:=by rw[hx,UA hi65,YP];simp_all [Nd.op,U3])
  try(have hq2:q2=false:=by rw[hx,J0 Qk];rfl)
  try clear hx
  try clear hq
  try clear M
  try clear ih
  try clear hr
  try clear hr0
  try clear hp
  try clear hn
  try clear hK
  try clear hb
  try clear hc
  try clear hm
  try clear hp41
  try clear hn41
  try clear hK41
  try clear hb41
  try clear hc41
  try clear hm41
  try clear hp49
  try clear hn49
  try clear hK49
  try clear hb49
  try clear hc49
  try clear hm49
  try clear hln
  try clear hbn
  try clear hf
  try(obtain hk:=Y4 (Q5 (by assumption)) (by assumption);subst hk)
  try simp only[Ub,Uc,Ud,Ua]at *
  simp_all [Ql,Y7,ZS,Yr,U3,Jf,JQ,Nd.op]<;>first|done|rfl|omega|(congr 1;done)|(congr 2;done)|(intros;omega)|(intros;simp_all;done)
 refine Qg 0 K M fun _ K=>?_;refine p1 K (Jw (b:=[115,101,116]) rfl rfl) fun _ K=>?_;refine Qg 1 K M fun _ K=>?_;refine WU K rfl (fun h53=>?_) fun h53=>?_
 ·refine Qg 1 K M fun _ K=>?_;refine UE (fun mm1 T st9=> ∃(i:Nat),mm1=l.length-i∧Jn [(1,.ptr c1 0 0),(3,iN i)] T∧Mem st.h.get st.n [] st9 [(c1,0,[.str o,.str s,iZ z,iZ a,kk])]∧i≤l.length∧l.any YP=(l.drop i).any YP) (fun mm1 T st9 hI=>?_) _ _ _ ⟨0,rfl,(K.sub rfl),M.less (.refl _),(Nat.zero_le _),(by rw[List.drop_zero])⟩;obtain⟨i,rfl,K,M,hi,hx⟩:=hI;refine Qg 3 K M fun _ K=>?_;refine p1 K (Jp Jj rfl rfl hK.len) fun _ K=>?_;refine Qg 1 K M fun _ K=>?_;refine WU K rfl (fun h59=>?_) fun h59=>?_
  ·refine Qg 3 K M fun _ K=>?_;obtain⟨⟨o65,s65,z65,a65,l65⟩,hi65⟩: ∃k,l[i]? =some k:=⟨_,List.getElem?_eq_getElem (by first|omega|(have:=bare_len (m:=1) (l:=l) (by assumption);omega)|(have:=bare_len (m:=2) (l:=l) (by assumption);omega)|(have:=Q5 (m:=1) (l:=l) (by assumption);omega)|(have:=Q5 (m:=2) (l:=l) (by assumption);omega))⟩;have hm65:=J7 hi65;obtain⟨_,hc65,hn65⟩:=hK.at_ _ _ hi65;have hp65:=hn65;obtain⟨kk65,ls65,rfl,hK65,hb65⟩:=hp65.J3;refine aJ (hK.r.mem M Q1) hc65 K QB Qs rfl rfl fun _ _ _ _ K=>?_;refine oQ K M (CF M.fresh (hn65.mono M.rows)) rfl rfl fun _ _ K M=>?_;refine oB K (Q7 rfl) rfl fun b68 _ e68 K=>?_;cases b68
   ·refine Qg 3 K M fun _ K=>?_;obtain⟨⟨o72,s72,z72,a72,l72⟩,hi72⟩: ∃k,l[i]? =some k:=⟨_,List.getElem?_eq_getElem (by first|omega|(have:=bare_len (m:=1) (l:=l) (by assumption);omega)|(have:=bare_len (m:=2) (l:=l) (by assumption);omega)|(have:=Q5 (m:=1) (l:=l) (by assumption);omega)|(have:=Q5 (m:=2) (l:=l) (by assumption);omega))⟩;have hm72:=J7 hi72;obtain⟨_,hc72,hn72⟩:=hK.at_ _ _ hi72;have hp72:=hn72;obtain⟨kk72,ls72,rfl,hK72,hb72⟩:=hp72.J3;obtain⟨x72,m72,f72,q72,_,la72,lo72,lp72⟩:=(hK.r.mem M Q1).load (i:=i) (cs:=_) hc72;refine pg K rfl rfl (Qp (j:=i) QB (congrArg some q72) rfl (by rw[hK.ln];first|omega|(have:=bare_len (m:=1) (l:=l) (by assumption);omega)|(have:=bare_len (m:=2) (l:=l) (by assumption);omega)|(have:=Q5 (m:=1) (l:=l) (by assumption);omega)|(have:=Q5 (m:=2) (l:=l) (by assumption);omega))) fun _ K=>?_;refine Qg 1 K M fun _ K=>?_;refine pg K rfl rfl (QK rfl (lo72 _ 0 _ Qr rfl)) fun _ K=>pg K rfl rfl (Jw (b:=[115,101,116]) rfl rfl) fun _ K=>?_;refine Qg 1 K M fun _ K=>?_;refine WU K rfl (fun h76=>?_) fun h76=>?_
    ·refine Qg 1 K M ?_;refine⟨congrArg AV.bool ?_,M.qt⟩;rw[Uf o s z a l,UH l]
     try generalize l.all QM=q1 at *
     try generalize hq:l.any YP=q2 at *
     try(have hq2:q2=true:=by rw[hx,UA hi65,YP];simp_all [Nd.op,U3])
     try(have hq2:q2=false:=by rw[hx,J0 Qk];rfl)
     try clear hx
     try clear hq
     try clear M
     try clear ih
     try clear hr
     try clear hr0
     try clear hp
     try clear hn
     try clear hK
     try clear hb
     try clear hc
     try clear hm
     try clear hp65
     try clear hn65
     try clear hK65
     try clear hb65
     try clear hc65
     try clear hm65
     try clear hp72
     try clear hn72
     try clear hK72
     try clear hb72
     try clear hc72
     try clear hm72
     try clear hln
     try clear hbn
     try clear hf
     try(obtain hk:=Y4 (Q5 (by assumption)) (by assumption);subst hk)
     try simp only[Ub,Uc,Ud,Ua]at *
     simp_all [Ql,Y7,ZS,Yr,U3,Jf,JQ,Nd.op]<;>first|done|rfl|omega|(congr 1;done)|(congr 2;done)|(intros;omega)|(intros;simp_all;done)
    refine Qg 3 K M fun _ K=>?_;exact⟨_,Qk,i+1,rfl,(K.sub rfl),M.less (.refl _),Qk,(by rw[hx,UA hi65,YP];simp_all [Nd.op,U3])⟩
   refine Qg 10 K M ?_;refine⟨congrArg AV.bool ?_,M.qt⟩;rw[Uf o s z a l,UH l]
   try generalize l.all QM=q1 at *
   try generalize hq:l.any YP=q2 at *
   try(have hq2:q2=true:=by rw[hx,UA hi65,YP];simp_all [Nd.op,U3])
   try(have hq2:q2=false:=by rw[hx,J0 Qk];rfl)
   try clear hx
   try clear hq
   try clear M
   try clear ih
   try clear hr
   try clear hr0
   try clear hp
   try clear hn
   try clear hK
   try clear hb
   try clear hc
   try clear hm
   try clear hp65
   try clear hn65
   try clear hK65
   try clear hb65
   try clear hc65
   try clear hm65
   try clear hln
   try clear hbn
   try clear hf
   try(obtain hk:=Y4 (Q5 (by assumption)) (by assumption);subst hk)
   try simp only[Ub,Uc,Ud,Ua]at *
   simp_all [Ql,Y7,ZS,Yr,U3,Jf,JQ,Nd.op]<;>first|done|rfl|omega|(congr 1;done)|(congr 2;done)|(intros;omega)|(intros;simp_all;done)
  refine Uz ?_;show W _ _ _ _ _ _ _;refine Qg 3 K M fun _ K=>?_;refine p1 K (Jp Jj rfl rfl hK.len) fun _ K=>?_;refine oQ K M (VI M.fresh (hr0.mono M.rows) (((l.length:Nat):Int)) false false) rfl rfl fun _ _ K M=>?_;refine oB K (Q7 rfl) rfl fun b82 _ e82 K=>?_;cases b82
  ·refine Qg 10 K M ?_;refine⟨congrArg AV.bool ?_,M.qt⟩;rw[Uf o s z a l,UH l]
   try generalize l.all QM=q1 at *
   try generalize hq:l.any YP=q2 at *
   try(have hq2:q2=true:=by rw[hx,UA hi65,YP];simp_all [Nd.op,U3])
   try(have hq2:q2=false:=by rw[hx,J0 Qk];rfl)
   try clear hx
   try clear hq
   try clear M
   try clear ih
   try clear hr
   try clear hr0
   try clear hp
   try clear hn
   try clear hK
   try clear hb
   try clear hc
   try clear hm
   try clear hln
   try clear hbn
   try clear hf
   try(obtain hk:=Y4 (Q5 (by assumption)) (by assumption);subst hk)
   try simp only[Ub,Uc,Ud,Ua]at *
   simp_all [Ql,Y7,ZS,Yr,U3,Jf,JQ,Nd.op]<;>first|done|rfl|omega|(congr 1;done)|(congr 2;done)|(intros;omega)|(intros;simp_all;done)
  refine Qg 2 K M fun _ K=>?_;refine pg K rfl rfl (Jp Jj rfl rfl hK.len) fun _ K=>?_;refine Qg 2 K M fun _ K=>?_;refine No K rfl (fun _ e88 K=>?_) fun _ e88 K=>?_
  ·refine Qg 4 K M ?_;refine⟨congrArg AV.bool ?_,M.qt⟩;rw[Uf o s z a l,UH l]
   try generalize l.all QM=q1 at *
   try generalize hq:l.any YP=q2 at *
   try(have hq2:q2=true:=by rw[hx,UA hi65,YP];simp_all [Nd.op,U3])
   try(have hq2:q2=false:=by rw[hx,J0 Qk];rfl)
   try clear hx
   try clear hq
   try clear M
   try clear ih
   try clear hr
   try clear hr0
   try clear hp
   try clear hn
   try clear hK
   try clear hb
   try clear hc
   try clear hm
   try clear hln
   try clear hbn
   try clear hf
   try(obtain hk:=Y4 (Q5 (by assumption)) (by assumption);subst hk)
   try simp only[Ub,Uc,Ud,Ua]at *
   simp_all [Ql,Y7,ZS,Yr,U3,Jf,JQ,Nd.op]<;>first|done|rfl|omega|(congr 1;done)|(congr 2;done)|(intros;omega)|(intros;simp_all;done)
  refine Qg 1 K M fun _ K=>?_;obtain⟨v90,st90,ev90,rfl,q90⟩:=F8 M.fresh (hr0.mono M.rows) ih;refine pg K rfl rfl (Qh rfl ev90) fun _ K=>?_;replace M:=M.quiet q90;refine Qg 2 K M ?_;refine⟨congrArg AV.bool ?_,M.qt⟩;rw[Uf o s z a l,UH l]
  try generalize l.all QM=q1 at *
  try generalize hq:l.any YP=q2 at *
  try(have hq2:q2=true:=by rw[hx,UA hi65,YP];simp_all [Nd.op,U3])
  try(have hq2:q2=false:=by rw[hx,J0 Qk];rfl)
  try clear hx
  try clear hq
  try clear M
  try clear ih
  try clear hr
  try clear hr0
  try clear hp
  try clear hn
  try clear hK
  try clear hb
  try clear hc
  try clear hm
  try clear hln
  try clear hbn
  try clear hf
  try(obtain hk:=Y4 (Q5 (by assumption)) (by assumption);subst hk)
  try simp only[Ub,Uc,Ud,Ua]at *
  simp_all [Ql,Y7,ZS,Yr,U3,Jf,JQ,Nd.op]<;>first|done|rfl|omega|(congr 1;done)|(congr 2;done)|(intros;omega)|(intros;simp_all;done)
 refine Qg 1 K M fun _ K=>?_;refine oQ K M (CF M.fresh (hr0.mono M.rows)) rfl rfl fun _ _ K M=>?_;refine oB K (Q7 rfl) rfl fun b94 _ e94 K=>?_;cases b94
 ·refine Qg 16 K M ?_;refine⟨congrArg AV.bool ?_,M.qt⟩;rw[Uf o s z a l,UH l]
  try generalize l.all QM=q1 at *
  try generalize hq:l.any YP=q2 at *
  try(have hq2:q2=true:=by rw[hx,UA hi65,YP];simp_all [Nd.op,U3])
  try(have hq2:q2=false:=by rw[hx,J0 Qk];rfl)
  try clear hx
  try clear hq
  try clear M
  try clear ih
  try clear hr
  try clear hr0
  try clear hp
  try clear hn
  try clear hK
  try clear hb
  try clear hc
  try clear hm
  try clear hln
  try clear hbn
  try clear hf
  try(obtain hk:=Y4 (Q5 (by assumption)) (by assumption);subst hk)
  try simp only[Ub,Uc,Ud,Ua]at *
  simp_all [Ql,Y7,ZS,Yr,U3,Jf,JQ,Nd.op]<;>first|done|rfl|omega|(congr 1;done)|(congr 2;done)|(intros;omega)|(intros;simp_all;done)
 refine Qg 1 K M fun _ K=>?_;obtain⟨v96,st96,ev96,rfl,q96⟩:=VI M.fresh (hr0.mono M.rows) 2 false false;refine pg K rfl rfl (Qh rfl ev96) fun _ K=>?_;replace M:=M.quiet q96;refine Qg 1 K M fun _ K=>?_;refine oB K (Q7 rfl) rfl fun b98 _ e98 K=>?_;cases b98
 ·refine Qg 12 K M ?_;refine⟨congrArg AV.bool ?_,M.qt⟩;rw[Uf o s z a l,UH l]
  try generalize l.all QM=q1 at *
  try generalize hq:l.any YP=q2 at *
  try(have hq2:q2=true:=by rw[hx,UA hi65,YP];simp_all [Nd.op,U3])
  try(have hq2:q2=false:=by rw[hx,J0 Qk];rfl)
  try clear hx
  try clear hq
  try clear M
  try clear ih
  try clear hr
  try clear hr0
  try clear hp
  try clear hn
  try clear hK
  try clear hb
  try clear hc
  try clear hm
  try clear hln
  try clear hbn
  try clear hf
  try(obtain hk:=Y4 (Q5 (by assumption)) (by assumption);subst hk)
  try simp only[Ub,Uc,Ud,Ua]at *
  simp_all [Ql,Y7,ZS,Yr,U3,Jf,JQ,Nd.op]<;>first|done|rfl|omega|(congr 1;done)|(congr 2;done)|(intros;omega)|(intros;simp_all;done)
 refine Qg 1 K M fun _ K=>?_;obtain⟨v100,st100,ev100,rfl,q100⟩:=F8 M.fresh (hr0.mono M.rows) ih;refine pg K rfl rfl (Qh rfl ev100) fun _ K=>?_;replace M:=M.quiet q100;refine Qg 1 K M fun _ K=>?_;refine oB K (Q7 rfl) rfl fun b102 _ e102 K=>?_;cases b102
 ·refine Qg 8 K M ?_;refine⟨congrArg AV.bool ?_,M.qt⟩;rw[Uf o s z a l,UH l]
  try generalize l.all QM=q1 at *
  try generalize hq:l.any YP=q2 at *
  try(have hq2:q2=true:=by rw[hx,UA hi65,YP];simp_all [Nd.op,U3])
  try(have hq2:q2=false:=by rw[hx,J0 Qk];rfl)
  try clear hx
  try clear hq
  try clear M
  try clear ih
  try clear hr
  try clear hr0
  try clear hp
  try clear hn
  try clear hK
  try clear hb
  try clear hc
  try clear hm
  try clear hln
  try clear hbn
  try clear hf
  try(obtain hk:=Y4 (Q5 (by assumption)) (by assumption);subst hk)
  try simp only[Ub,Uc,Ud,Ua]at *
  simp_all [Ql,Y7,ZS,Yr,U3,Jf,JQ,Nd.op]<;>first|done|rfl|omega|(congr 1;done)|(congr 2;done)|(intros;omega)|(intros;simp_all;done)
 refine Qg 2 K M fun _ K=>?_;obtain⟨⟨o105,s105,z105,a105,l105⟩,hi105⟩: ∃k,l[1]? =some k:=⟨_,List.getElem?_eq_getElem (by first|omega|(have:=bare_len (m:=1) (l:=l) (by assumption);omega)|(have:=bare_len (m:=2) (l:=l) (by assumption);omega)|(have:=Q5 (m:=1) (l:=l) (by assumption);omega)|(have:=Q5 (m:=2) (l:=l) (by assumption);omega))⟩;have hm105:=J7 hi105;obtain⟨_,hc105,hn105⟩:=hK.at_ _ _ hi105;have hp105:=hn105;obtain⟨kk105,ls105,rfl,hK105,hb105⟩:=hp105.J3;obtain⟨x105,m105,f105,q105,_,la105,lo105,lp105⟩:=(hK.r.mem M Q1).load (i:=1) (cs:=_) hc105;refine pg K rfl rfl (Qp (j:=1) QB (congrArg some q105) rfl (by rw[hK.ln];first|omega|(have:=bare_len (m:=1) (l:=l) (by assumption);omega)|(have:=bare_len (m:=2) (l:=l) (by assumption);omega)|(have:=Q5 (m:=1) (l:=l) (by assumption);omega)|(have:=Q5 (m:=2) (l:=l) (by assumption);omega))) fun _ K=>pg K rfl rfl (QK rfl (la105 _ Qs)) fun _ K=>?_;obtain⟨v107,st107,ev107,rfl,q107⟩:=CF M.fresh (hn105.mono M.rows);refine pg K rfl rfl (Qh rfl ev107) fun _ K=>?_;replace M:=M.quiet q107;refine Qg 3 K M ?_;refine⟨congrArg AV.bool ?_,M.qt⟩;rw[Uf o s z a l,UH l]
 try generalize l.all QM=q1 at *
 try generalize hq:l.any YP=q2 at *
 try(have hq2:q2=true:=by rw[hx,UA hi65,YP];simp_all [Nd.op,U3])
 try(have hq2:q2=false:=by rw[hx,J0 Qk];rfl)
 try clear hx
 try clear hq
 try clear M
 try clear ih
 try clear hr
 try clear hr0
 try clear hp
 try clear hn
 try clear hK
 try clear hb
 try clear hc
 try clear hm
 try clear hp105
 try clear hn105
 try clear hK105
 try clear hb105
 try clear hc105
 try clear hm105
 try clear hln
 try clear hbn
 try clear hf
 try(obtain hk:=Y4 (Q5 (by assumption)) (by assumption);subst hk)
 try simp only[Ub,Uc,Ud,Ua]at *
 simp_all [Ql,Y7,ZS,Yr,U3,Jf,JQ,Nd.op]<;>first|done|rfl|omega|(congr 1;done)|(congr 2;done)|(intros;omega)|(intros;simp_all;done)

theorem yR(x:Nd): ∀(st:St) (cs:List AV),Q3 st→XW st.h.get x cs→ ∃v st',Ev Tryz.prog JF 26 [.agg cs] st v st'∧v=.bool (Jg x)∧Qt st st':=by
 refine H4 (M:=fun x=> ∀(st:St) (cs:List AV),Q3 st→XW st.h.get x cs→ ∃v st',Ev Tryz.prog JF 26 [.agg cs] st v st'∧v=.bool (Jg x)∧Qt st st') (fun o s z a l ih=>?_) x;intro st cs hf hr;have hr0:=hr;obtain⟨kk,ls,rfl,hK,hb⟩:=hr.J3;have hln:=hK.ln;have hbn:=hK.W9;refine XB Tryz.func26 Tryz.ntmps26 fun T K=>?_;have M:=Mem.start hf;refine Qg 0 K M fun _ K=>?_;refine Y8 K M rfl (Qa rfl (Qa rfl (Qa rfl (Qa rfl (Qa hK.cell QV))))) Qo fun c1 _ _ K M=>?_;refine p1 K (JL rfl) fun _ K=>Xr ?_;show W _ _ _ _ _ _ _;refine JK<|JK<|US<|p1 K (IJ Hg rfl) fun _ K=>p1 K (QK rfl (M.load (k:=0) rfl (Qj Qr rfl))) fun _ K=>Xr ?_;show W _ _ _ _ _ _ _;refine F3 ?_;refine AA (J:=fun T st9=> ∃(b:Bool),Jn [(1,.ptr c1 0 0),(2,.bool false),(4,.str o),(5,.bool b)] T∧Mem st.h.get st.n [] st9 [(c1,0,[.str o,.str s,iZ z,iZ a,kk])]∧b=oneOf o [[116,114,117,101],[102,97,108,115,101]]) ?_ (fun T st9 hJ=>?_)
 ·refine Qg 0 K M fun _ K=>?_;refine p1 K (Jw (b:=[116,114,117,101]) rfl rfl) fun _ K=>?_;refine Qg 1 K M fun _ K=>?_;refine Zb K rfl (fun h5=>?_) fun h5=>?_
  ·have hb5:=h5;replace h5:=of_decide_eq_true h5;refine Zg ?_;exact⟨_,(K.sub rfl),M.less (.refl _),(by simp_all [oneOf])⟩
  have hb5:=h5;replace h5:=of_decide_eq_false h5;refine US<|p1 K (Jw (b:=[102,97,108,115,101]) rfl rfl) fun _ K=>?_;refine Qg 1 K M fun _ K=>?_;exact⟨_,(K.sub rfl),M.less (.refl _),(by simp_all [oneOf])⟩
 obtain⟨b,K,M,hbs4⟩:=hJ;refine Zb K rfl (fun h5=>?_) fun h5=>?_
 ·have hb5:=h5;refine Qg 1 K M fun _ K=>?_;obtain⟨v9,st9,ev9,rfl,q9⟩:=VI M.fresh (hr0.mono M.rows) 0 false false;refine p1 K (Qh rfl ev9) fun _ K=>?_;replace M:=M.quiet q9;refine Qg 1 K M ?_;refine⟨congrArg AV.bool ?_,M.qt⟩;rw[UY o s z a l]
  try generalize l.all Jg=q1 at *
  try generalize l.all QM=q2 at *
  try clear M
  try clear ih
  try clear hr
  try clear hr0
  try clear hp
  try clear hn
  try clear hK
  try clear hb
  try clear hc
  try clear hm
  try clear hln
  try clear hbn
  try clear hf
  try simp only[Ub,Uc,Ud,Ua]at *
  simp_all [Ql,JQ,Sj]<;>first|done|rfl|omega|(congr 1;done)|(congr 2;done)|(intros;omega)|(intros;simp_all;done)
 have hb5:=h5;refine Qg 0 K M fun _ K=>?_;refine p1 K (Jw (b:=[110,111,116]) rfl rfl) fun _ K=>?_;refine Qg 1 K M fun _ K=>?_;refine WU K rfl (fun h10=>?_) fun h10=>?_
 ·refine Qg 1 K M fun _ K=>?_;refine oQ K M (VI M.fresh (hr0.mono M.rows) 1 false false) rfl rfl fun _ _ K M=>?_;refine oB K (Q7 rfl) rfl fun b14 _ e14 K=>?_;cases b14
  ·refine Qg 4 K M ?_;refine⟨congrArg AV.bool ?_,M.qt⟩;rw[UY o s z a l]
   try generalize l.all Jg=q1 at *
   try generalize l.all QM=q2 at *
   try clear M
   try clear ih
   try clear hr
   try clear hr0
   try clear hp
   try clear hn
   try clear hK
   try clear hb
   try clear hc
   try clear hm
   try clear hln
   try clear hbn
   try clear hf
   try simp only[Ub,Uc,Ud,Ua]at *
   simp_all [Ql,JQ,Sj]<;>first|done|rfl|omega|(congr 1;done)|(congr 2;done)|(intros;omega)|(intros;simp_all;done)
  refine Qg 1 K M fun _ K=>?_;obtain⟨v16,st16,ev16,rfl,q16⟩:=KN M.fresh (hr0.mono M.rows) ih;refine pg K rfl rfl (Qh rfl ev16) fun _ K=>?_;replace M:=M.quiet q16;refine Qg 2 K M ?_;refine⟨congrArg AV.bool ?_,M.qt⟩;rw[UY o s z a l]
  try generalize l.all Jg=q1 at *
  try generalize l.all QM=q2 at *
  try clear M
  try clear ih
  try clear hr
  try clear hr0
  try clear hp
  try clear hn
  try clear hK
  try clear hb
  try clear hc
  try clear hm
  try clear hln
  try clear hbn
  try clear hf
  try simp only[Ub,Uc,Ud,Ua]at *
  simp_all [Ql,JQ,Sj]<;>first|done|rfl|omega|(congr 1;done)|(congr 2;done)|(intros;omega)|(intros;simp_all;done)
 refine AA (J:=fun T st9=> ∃(b:Bool),Jn [(1,.ptr c1 0 0),(2,.bool false),(4,.str o),(18,.bool b)] T∧Mem st.h.get st.n [] st9 [(c1,0,[.str o,.str s,iZ z,iZ a,kk])]∧b=oneOf o [[97,110,100],[111,114],[105,109,112],[105,102,102]]) ?_ (fun T st9 hJ=>?_)
 ·refine Qg 0 K M fun _ K=>?_;refine p1 K (Jw (b:=[97,110,100]) rfl rfl) fun _ K=>?_;refine Qg 1 K M fun _ K=>?_;refine Zb K rfl (fun h18=>?_) fun h18=>?_
  ·have hb18:=h18;replace h18:=of_decide_eq_true h18;refine Zg ?_;exact⟨_,(K.sub rfl),M.less (.refl _),(by simp_all [oneOf])⟩
  have hb18:=h18;replace h18:=of_decide_eq_false h18;refine Qg 0 K M fun _ K=>?_;refine p1 K (Jw (b:=[111,114]) rfl rfl) fun _ K=>?_;refine Qg 1 K M fun _ K=>?_;refine Zb K rfl (fun h18=>?_) fun h18=>?_
  ·have hb18:=h18;replace h18:=of_decide_eq_true h18;refine Zg ?_;exact⟨_,(K.sub rfl),M.less (.refl _),(by simp_all [oneOf])⟩
  have hb18:=h18;replace h18:=of_decide_eq_false h18;refine Qg 0 K M fun _ K=>?_;refine p1 K (Jw (b:=[105,109,112]) rfl rfl) fun _ K=>?_;refine Qg 1 K M fun _ K=>?_;refine Zb K rfl (fun h18=>?_) fun h18=>?_
  ·have hb18:=h18;replace h18:=of_decide_eq_true h18;refine Zg ?_;exact⟨_,(K.sub rfl),M.less (.refl _),(by simp_all [oneOf])⟩
  have hb18:=h18;replace h18:=of_decide_eq_false h18;refine US<|p1 K (Jw (b:=[105,102,102]) rfl rfl) fun _ K=>?_;refine Qg 1 K M fun _ K=>?_;exact⟨_,(K.sub rfl),M.less (.refl _),(by simp_all [oneOf])⟩
 obtain⟨b,K,M,hbs11⟩:=hJ;refine Zb K rfl (fun h18=>?_) fun h18=>?_
 ·have hb18:=h18;refine Qg 1 K M fun _ K=>?_;refine oQ K M (VI M.fresh (hr0.mono M.rows) 2 false false) rfl rfl fun _ _ K M=>?_;refine oB K (Q7 rfl) rfl fun b25 _ e25 K=>?_;cases b25
  ·refine Qg 4 K M ?_;refine⟨congrArg AV.bool ?_,M.qt⟩;rw[UY o s z a l]
   try generalize l.all Jg=q1 at *
   try generalize l.all QM=q2 at *
   try clear M
   try clear ih
   try clear hr
   try clear hr0
   try clear hp
   try clear hn
   try clear hK
   try clear hb
   try clear hc
   try clear hm
   try clear hln
   try clear hbn
   try clear hf
   try simp only[Ub,Uc,Ud,Ua]at *
   simp_all [Ql,JQ,Sj]<;>first|done|rfl|omega|(congr 1;done)|(congr 2;done)|(intros;omega)|(intros;simp_all;done)
  refine Qg 1 K M fun _ K=>?_;obtain⟨v27,st27,ev27,rfl,q27⟩:=KN M.fresh (hr0.mono M.rows) ih;refine pg K rfl rfl (Qh rfl ev27) fun _ K=>?_;replace M:=M.quiet q27;refine Qg 2 K M ?_;refine⟨congrArg AV.bool ?_,M.qt⟩;rw[UY o s z a l]
  try generalize l.all Jg=q1 at *
  try generalize l.all QM=q2 at *
  try clear M
  try clear ih
  try clear hr
  try clear hr0
  try clear hp
  try clear hn
  try clear hK
  try clear hb
  try clear hc
  try clear hm
  try clear hln
  try clear hbn
  try clear hf
  try simp only[Ub,Uc,Ud,Ua]at *
  simp_all [Ql,JQ,Sj]<;>first|done|rfl|omega|(congr 1;done)|(congr 2;done)|(intros;omega)|(intros;simp_all;done)
 have hb18:=h18;refine AA (J:=fun T st9=> ∃(b:Bool),Jn [(1,.ptr c1 0 0),(2,.bool false),(4,.str o),(29,.bool b)] T∧Mem st.h.get st.n [] st9 [(c1,0,[.str o,.str s,iZ z,iZ a,kk])]∧b=oneOf o [[101,120],[97,108,108]]) ?_ (fun T st9 hJ=>?_)
 ·refine Qg 0 K M fun _ K=>?_;refine p1 K (Jw (b:=[101,120]) rfl rfl) fun _ K=>?_;refine Qg 1 K M fun _ K=>?_;refine Zb K rfl (fun h29=>?_) fun h29=>?_
  ·have hb29:=h29;replace h29:=of_decide_eq_true h29;refine Zg ?_;exact⟨_,(K.sub rfl),M.less (.refl _),(by simp_all [oneOf])⟩
  have hb29:=h29;replace h29:=of_decide_eq_false h29;refine US<|p1 K (Jw (b:=[97,108,108]) rfl rfl) fun _ K=>?_;refine Qg 1 K M fun _ K=>?_;exact⟨_,(K.sub rfl),M.less (.refl _),(by simp_all [oneOf])⟩
 obtain⟨b,K,M,hbs14⟩:=hJ;refine Zb K rfl (fun h29=>?_) fun h29=>?_
 ·have hb29:=h29;refine Qg 1 K M fun _ K=>?_;refine oQ K M (VI M.fresh (hr0.mono M.rows) 1 true true) rfl rfl fun _ _ K M=>?_;refine oB K (Q7 rfl) rfl fun b34 _ e34 K=>?_;cases b34
  ·refine Qg 14 K M ?_;refine⟨congrArg AV.bool ?_,M.qt⟩;rw[UY o s z a l]
   try generalize l.all Jg=q1 at *
   try generalize l.all QM=q2 at *
   try clear M
   try clear ih
   try clear hr
   try clear hr0
   try clear hp
   try clear hn
   try clear hK
   try clear hb
   try clear hc
   try clear hm
   try clear hln
   try clear hbn
   try clear hf
   try simp only[Ub,Uc,Ud,Ua]at *
   simp_all [Ql,JQ,Sj]<;>first|done|rfl|omega|(congr 1;done)|(congr 2;done)|(intros;omega)|(intros;simp_all;done)
  refine Qg 4 K M fun _ K=>?_;refine No K rfl (fun _ e39 K=>?_) fun _ e39 K=>?_
  ·refine Qg 9 K M ?_;refine⟨congrArg AV.bool ?_,M.qt⟩;rw[UY o s z a l]
   try generalize l.all Jg=q1 at *
   try generalize l.all QM=q2 at *
   try clear M
   try clear ih
   try clear hr
   try clear hr0
   try clear hp
   try clear hn
   try clear hK
   try clear hb
   try clear hc
   try clear hm
   try clear hln
   try clear hbn
   try clear hf
   try simp only[Ub,Uc,Ud,Ua]at *
   simp_all [Ql,JQ,Sj]<;>first|done|rfl|omega|(congr 1;done)|(congr 2;done)|(intros;omega)|(intros;simp_all;done)
  refine Qg 4 K M fun _ K=>?_;refine No K rfl (fun _ e44 K=>?_) fun _ e44 K=>?_
  ·refine Qg 4 K M ?_;refine⟨congrArg AV.bool ?_,M.qt⟩;rw[UY o s z a l]
   try generalize l.all Jg=q1 at *
   try generalize l.all QM=q2 at *
   try clear M
   try clear ih
   try clear hr
   try clear hr0
   try clear hp
   try clear hn
   try clear hK
   try clear hb
   try clear hc
   try clear hm
   try clear hln
   try clear hbn
   try clear hf
   try simp only[Ub,Uc,Ud,Ua]at *
   simp_all [Ql,JQ,Sj]<;>first|done|rfl|omega|(congr 1;done)|(congr 2;done)|(intros;omega)|(intros;simp_all;done)
  refine Qg 1 K M fun _ K=>?_;obtain⟨v46,st46,ev46,rfl,q46⟩:=KN M.fresh (hr0.mono M.rows) ih;refine pg K rfl rfl (Qh rfl ev46) fun _ K=>?_;replace M:=M.quiet q46;refine Qg 2 K M ?_;refine⟨congrArg AV.bool ?_,M.qt⟩;rw[UY o s z a l]
  try generalize l.all Jg=q1 at *
  try generalize l.all QM=q2 at *
  try clear M
  try clear ih
  try clear hr
  try clear hr0
  try clear hp
  try clear hn
  try clear hK
  try clear hb
  try clear hc
  try clear hm
  try clear hln
  try clear hbn
  try clear hf
  try simp only[Ub,Uc,Ud,Ua]at *
  simp_all [Ql,JQ,Sj]<;>first|done|rfl|omega|(congr 1;done)|(congr 2;done)|(intros;omega)|(intros;simp_all;done)
 have hb29:=h29;refine Qg 0 K M fun _ K=>?_;refine p1 K (Jw (b:=[105,115]) rfl rfl) fun _ K=>?_;refine Qg 1 K M fun _ K=>?_;refine WU K rfl (fun h48=>?_) fun h48=>?_
 ·refine Qg 1 K M fun _ K=>?_;refine oQ K M (VI M.fresh (hr0.mono M.rows) 0 true false) rfl rfl fun _ _ K M=>?_;refine Qg 1 K M ?_;refine⟨congrArg AV.bool ?_,M.qt⟩;rw[UY o s z a l]
  try generalize l.all Jg=q1 at *
  try generalize l.all QM=q2 at *
  try clear M
  try clear ih
  try clear hr
  try clear hr0
  try clear hp
  try clear hn
  try clear hK
  try clear hb
  try clear hc
  try clear hm
  try clear hln
  try clear hbn
  try clear hf
  try simp only[Ub,Uc,Ud,Ua]at *
  simp_all [Ql,JQ,Sj]<;>first|done|rfl|omega|(congr 1;done)|(congr 2;done)|(intros;omega)|(intros;simp_all;done)
 refine AA (J:=fun T st9=> ∃(b:Bool),Jn [(1,.ptr c1 0 0),(2,.bool false),(4,.str o),(52,.bool b)] T∧Mem st.h.get st.n [] st9 [(c1,0,[.str o,.str s,iZ z,iZ a,kk])]∧b=oneOf o [[101,113],[110,101],[108,116],[108,101],[105,110],[110,111,116,105,110],[115,117,98]]) ?_ (fun T st9 hJ=>?_)
 ·refine Qg 0 K M fun _ K=>?_;refine p1 K (Jw (b:=[101,113]) rfl rfl) fun _ K=>?_;refine Qg 1 K M fun _ K=>?_;refine Zb K rfl (fun h52=>?_) fun h52=>?_
  ·have hb52:=h52;replace h52:=of_decide_eq_true h52;refine Zg ?_;exact⟨_,(K.sub rfl),M.less (.refl _),(by simp_all [oneOf])⟩
  have hb52:=h52;replace h52:=of_decide_eq_false h52;refine Qg 0 K M fun _ K=>?_;refine p1 K (Jw (b:=[110,101]) rfl rfl) fun _ K=>?_;refine Qg 1 K M fun _ K=>?_;refine Zb K rfl (fun h52=>?_) fun h52=>?_
  ·have hb52:=h52;replace h52:=of_decide_eq_true h52;refine Zg ?_;exact⟨_,(K.sub rfl),M.less (.refl _),(by simp_all [oneOf])⟩
  have hb52:=h52;replace h52:=of_decide_eq_false h52;refine Qg 0 K M fun _ K=>?_;refine p1 K (Jw (b:=[108,116]) rfl rfl) fun _ K=>?_;refine Qg 1 K M fun _ K=>?_;refine Zb K rfl (fun h52=>?_) fun h52=>?_
  ·have hb52:=h52;replace h52:=of_decide_eq_true h52;refine Zg ?_;exact⟨_,(K.sub rfl),M.less (.refl _),(by simp_all [oneOf])⟩
  have hb52:=h52;replace h52:=of_decide_eq_false h52;refine Qg 0 K M fun _ K=>?_;refine p1 K (Jw (b:=[108,101]) rfl rfl) fun _ K=>?_;refine Qg 1 K M fun _ K=>?_;refine Zb K rfl (fun h52=>?_) fun h52=>?_
  ·have hb52:=h52;replace h52:=of_decide_eq_true h52;refine Zg ?_;exact⟨_,(K.sub rfl),M.less (.refl _),(by simp_all [oneOf])⟩
  have hb52:=h52;replace h52:=of_decide_eq_false h52;refine Qg 0 K M fun _ K=>?_;refine p1 K (Jw (b:=[105,110]) rfl rfl) fun _ K=>?_;refine Qg 1 K M fun _ K=>?_;refine Zb K rfl (fun h52=>?_) fun h52=>?_
  ·have hb52:=h52;replace h52:=of_decide_eq_true h52;refine Zg ?_;exact⟨_,(K.sub rfl),M.less (.refl _),(by simp_all [oneOf])⟩
  have hb52:=h52;replace h52:=of_decide_eq_false h52;refine Qg 0 K M fun _ K=>?_;refine p1 K (Jw (b:=[110,111,116,105,110]) rfl rfl) fun _ K=>?_;refine Qg 1 K M fun _ K=>?_;refine Zb K rfl (fun h52=>?_) fun h52=>?_
  ·have hb52:=h52;replace h52:=of_decide_eq_true h52;refine Zg ?_;exact⟨_,(K.sub rfl),M.less (.refl _),(by simp_all [oneOf])⟩
  have hb52:=h52;replace h52:=of_decide_eq_false h52;refine US<|p1 K (Jw (b:=[115,117,98]) rfl rfl) fun _ K=>?_;refine Qg 1 K M fun _ K=>?_;exact⟨_,(K.sub rfl),M.less (.refl _),(by simp_all [oneOf])⟩
 obtain⟨b,K,M,hbs24⟩:=hJ;refine Zb K rfl (fun h52=>?_) fun h52=>?_
 ·have hb52:=h52;refine Qg 1 K M fun _ K=>?_;refine oQ K M (VI M.fresh (hr0.mono M.rows) 2 false false) rfl rfl fun _ _ K M=>?_;refine oB K (Q7 rfl) rfl fun b62 _ e62 K=>?_;cases b62
  ·refine Qg 4 K M ?_;refine⟨congrArg AV.bool ?_,M.qt⟩;rw[UY o s z a l]
   try generalize l.all Jg=q1 at *
   try generalize l.all QM=q2 at *
   try clear M
   try clear ih
   try clear hr
   try clear hr0
   try clear hp
   try clear hn
   try clear hK
   try clear hb
   try clear hc
   try clear hm
   try clear hln
   try clear hbn
   try clear hf
   try simp only[Ub,Uc,Ud,Ua]at *
   simp_all [Ql,JQ,Sj]<;>first|done|rfl|omega|(congr 1;done)|(congr 2;done)|(intros;omega)|(intros;simp_all;done)
  refine Qg 1 K M fun _ K=>?_;obtain⟨v64,st64,ev64,rfl,q64⟩:=F8 M.fresh (hr0.mono M.rows) (fun k hk st1 cs hf1 hr1=>Pw k st1 cs hf1 hr1);refine pg K rfl rfl (Qh rfl ev64) fun _ K=>?_;replace M:=M.quiet q64;refine Qg 2 K M ?_;refine⟨congrArg AV.bool ?_,M.qt⟩;rw[UY o s z a l]
  try generalize l.all Jg=q1 at *
  try generalize l.all QM=q2 at *
  try clear M
  try clear ih
  try clear hr
  try clear hr0
  try clear hp
  try clear hn
  try clear hK
  try clear hb
  try clear hc
  try clear hm
  try clear hln
  try clear hbn
  try clear hf
  try simp only[Ub,Uc,Ud,Ua]at *
  simp_all [Ql,JQ,Sj]<;>first|done|rfl|omega|(congr 1;done)|(congr 2;done)|(intros;omega)|(intros;simp_all;done)
 have hb52:=h52;refine Qg 0 K M fun _ K=>?_;refine p1 K (Jw (b:=[99,97,108,108]) rfl rfl) fun _ K=>?_;refine Qg 1 K M fun _ K=>?_;refine WU K rfl (fun h66=>?_) fun h66=>?_
 ·refine Qg 3 K M fun _ K=>?_;refine p1 K (Jp Jj rfl rfl hK.len) fun _ K=>?_;refine oQ K M (VI M.fresh (hr0.mono M.rows) (((l.length:Nat):Int)) true false) rfl rfl fun _ _ K M=>?_;refine oB K (Q7 rfl) rfl fun b73 _ e73 K=>?_;cases b73
  ·refine Qg 10 K M ?_;refine⟨congrArg AV.bool ?_,M.qt⟩;rw[UY o s z a l]
   try generalize l.all Jg=q1 at *
   try generalize l.all QM=q2 at *
   try clear M
   try clear ih
   try clear hr
   try clear hr0
   try clear hp
   try clear hn
   try clear hK
   try clear hb
   try clear hc
   try clear hm
   try clear hln
   try clear hbn
   try clear hf
   try simp only[Ub,Uc,Ud,Ua]at *
   simp_all [Ql,JQ,Sj]<;>first|done|rfl|omega|(congr 1;done)|(congr 2;done)|(intros;omega)|(intros;simp_all;done)
  refine Qg 2 K M fun _ K=>?_;refine pg K rfl rfl (Jp Jj rfl rfl hK.len) fun _ K=>?_;refine Qg 2 K M fun _ K=>?_;refine No K rfl (fun _ e79 K=>?_) fun _ e79 K=>?_
  ·refine Qg 4 K M ?_;refine⟨congrArg AV.bool ?_,M.qt⟩;rw[UY o s z a l]
   try generalize l.all Jg=q1 at *
   try generalize l.all QM=q2 at *
   try clear M
   try clear ih
   try clear hr
   try clear hr0
   try clear hp
   try clear hn
   try clear hK
   try clear hb
   try clear hc
   try clear hm
   try clear hln
   try clear hbn
   try clear hf
   try simp only[Ub,Uc,Ud,Ua]at *
   simp_all [Ql,JQ,Sj]<;>first|done|rfl|omega|(congr 1;done)|(congr 2;done)|(intros;omega)|(intros;simp_all;done)
  refine Qg 1 K M fun _ K=>?_;obtain⟨v81,st81,ev81,rfl,q81⟩:=F8 M.fresh (hr0.mono M.rows) (fun k hk st1 cs hf1 hr1=>Pw k st1 cs hf1 hr1);refine pg K rfl rfl (Qh rfl ev81) fun _ K=>?_;replace M:=M.quiet q81;refine Qg 2 K M ?_;refine⟨congrArg AV.bool ?_,M.qt⟩;rw[UY o s z a l]
  try generalize l.all Jg=q1 at *
  try generalize l.all QM=q2 at *
  try clear M
  try clear ih
  try clear hr
  try clear hr0
  try clear hp
  try clear hn
  try clear hK
  try clear hb
  try clear hc
  try clear hm
  try clear hln
  try clear hbn
  try clear hf
  try simp only[Ub,Uc,Ud,Ua]at *
  simp_all [Ql,JQ,Sj]<;>first|done|rfl|omega|(congr 1;done)|(congr 2;done)|(intros;omega)|(intros;simp_all;done)
 refine Qg 1 K M ?_;refine⟨congrArg AV.bool ?_,M.qt⟩;rw[UY o s z a l]
 try generalize l.all Jg=q1 at *
 try generalize l.all QM=q2 at *
 try clear M
 try clear ih
 try clear hr
 try clear hr0
 try clear hp
 try clear hn
 try clear hK
 try clear hb
 try clear hc
 try clear hm
 try clear hln
 try clear hbn
 try clear hf
 try simp only[Ub,Uc,Ud,Ua]at *
 simp_all [Ql,JQ,Sj]<;>first|done|rfl|omega|(congr 1;done)|(congr 2;done)|(intros;omega)|(intros;simp_all;done)
end Go.Proofs.YthjgndgnmkiaiaaGreatDoor
