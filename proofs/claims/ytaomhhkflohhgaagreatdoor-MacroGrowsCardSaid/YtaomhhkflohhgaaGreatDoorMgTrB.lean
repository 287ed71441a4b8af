/-
  Terms: the program's answer, the reference's.
-/
import Derived.Test.YtaomhhkflohhgaaGreatDoorMgTyf
namespace Go.Proofs.YtaomhhkflohhgaaGreatDoor
open Go Go.RowKit
set_option maxHeartbeats 8000000
set_option linter.unusedVariables false
set_option linter.unusedSimpArgs false
set_option maxRecDepth 100000
variable {a z:Int} {cs:List AV} {fo:FuncId} {l:List Nd} {o s:List Nat} {st:St}

def Xa{α:Type}(p:α→Bool):List α→Nat→Int
 |[],_=> -1
 |k::l,i=>if p k then(i:Int)else Xa p l (i+1)
theorem Vu{α:Type}{p:α→Bool}{l:List α}{i:Nat}{k:α}(h:l[i]? =some k):Xa p (l.drop i) i=if p k then(i:Int)else Xa p (l.drop (i+1)) (i+1):=by
 obtain⟨h1,h2⟩:=List.getElem?_eq_some_iff.1 h;rw[List.drop_eq_getElem_cons h1,Xa,h2]
theorem Kh{α:Type}(p:α→Bool): ∀(l:List α) (i:Nat),decide (0≤Xa p l i)=l.any p:=by
 intro l
 induction l with
 |nil=>intro i;rfl
 |cons k l ih=>
  intro i;rw[Xa,List.any_cons]
  cases hp:p k with
  |true=>rw[if_pos rfl];simp
  |false=>rw[if_neg QT,ih];rfl
theorem zi{α:Type}(p:α→Bool)(l:List α):(!l.any fun k=> !p k)=l.all p:=by
 induction l with
 |nil=>rfl
 |cons k l ih=>rw[List.any_cons,List.all_cons,←ih];cases p k<;>simp
theorem U9{k:Nd}(h:((l.length:Nat):Int)=1)(hi:l[0]? =some k):l=[k]:=by
 match l,h,hi with
 |[a],_,hi=>injection hi with hi;rw[hi]
 |[],h,_=>simp at h
 |a::b::l,h,_=>exact absurd h (by simp only[List.length_cons];omega)
def hasB(name:List Nat)(n:Int)(kids:List Nd)(m:Int)(nm nb:Bool):Bool:=decide (((kids.length:Nat):Int)=m)&&((nm||decide (name=[]))&&((nb||decide (n=0))&&(!nm||Vb name)))
theorem UN{m:Int}(h:J4 s z l m=true):((l.length:Nat):Int)=m:=by
 simp[J4]at h;exact h.2.2
theorem D3(hf:Qw st)(hr:XE st.h.get (.mk o s z a l) cs): ∃v st',Ev Tryz.prog QR 91 [.agg cs] st v st'∧v=.bool (JR o)∧Qt st st':=by
 have hr0:=hr;obtain⟨kk,ls,rfl,hK,hb⟩:=hr.Jn;have hln:=hK.ln;have hbn:=hK.YZ;refine Yu Tryz.func91 Tryz.ntmps91 fun T K=>?_;have M:=Mem.start hf;refine Qc 0 K M fun _ K=>?_;refine J3 K M rfl (Qa rfl (Qa rfl (Qa rfl (Qa rfl (Qa hK.cell Qo))))) QT fun c1 _ _ K M=>?_;refine Qc 3 K M fun _ K=>?_;refine p1 K (QU (b:=[117,110,105,111,110]) rfl rfl) fun _ K=>?_;refine Eh K rfl (fun _ e6 K=>?_) fun _ e6 K=>?_
 ·refine Qc 2 K M fun _ K=>?_;refine pg K rfl rfl (QU (b:=[105,110,116,101,114]) rfl rfl) fun _ K=>?_;refine Qc 1 K M fun _ K=>?_;refine Eh K rfl (fun _ e11 K=>?_) fun _ e11 K=>?_
  ·refine Qc 2 K M fun _ K=>?_;refine pg K rfl rfl (QU (b:=[109,105,110,117,115]) rfl rfl) fun _ K=>?_;refine Qc 2 K M ?_;refine⟨?_,M.qt⟩
   simp_all [Qp,JR]<;>first|done|rfl|omega|(congr 1;done)|(congr 2;done)|(intros;omega)
  refine Qc 5 K M ?_;refine⟨?_,M.qt⟩
  simp_all [Qp,JR]<;>first|done|rfl|omega|(congr 1;done)|(congr 2;done)|(intros;omega)
 refine Qc 10 K M ?_;refine⟨?_,M.qt⟩
 simp_all [Qp,JR]<;>first|done|rfl|omega|(congr 1;done)|(congr 2;done)|(intros;omega)

theorem Kw(hf:Qw st)(hr:XE st.h.get (.mk o s z a l) cs)(m:Int): ∃v st',Ev Tryz.prog QR 73 [.agg cs,iZ m] st v st'∧v=.bool (J4 s z l m)∧Qt st st':=by
 have hr0:=hr;obtain⟨kk,ls,rfl,hK,hb⟩:=hr.Jn;have hln:=hK.ln;have hbn:=hK.YZ;refine Yu Tryz.func73 Tryz.ntmps73 fun T K=>?_;have M:=Mem.start hf;refine Qc 0 K M fun _ K=>?_;refine J3 K M rfl (Qa rfl (Qa rfl (Qa rfl (Qa rfl (Qa hK.cell Qo))))) QT fun c2 _ _ K M=>?_;refine Qc 3 K M fun _ K=>?_;refine p1 K (QU (b:=[]) rfl rfl) fun _ K=>?_;refine Eh K rfl (fun _ e8 K=>?_) fun _ e8 K=>?_
 ·refine Qc 12 K M ?_;refine⟨?_,M.qt⟩
  simp_all [Qp,J4]<;>first|done|rfl|omega|(congr 1;done)|(congr 2;done)|(intros;omega)
 refine Qc 4 K M fun _ K=>?_;refine Eh K rfl (fun _ e13 K=>?_) fun _ e13 K=>?_
 ·refine Qc 7 K M ?_;refine⟨?_,M.qt⟩
  simp_all [Qp,J4]<;>first|done|rfl|omega|(congr 1;done)|(congr 2;done)|(intros;omega)
 refine Qc 2 K M fun _ K=>?_;refine pg K rfl rfl (Jg QI rfl rfl hK.len) fun _ K=>?_;refine Qc 4 K M ?_;refine⟨?_,M.qt⟩
 simp_all [Qp,J4]<;>first|done|rfl|omega|(congr 1;done)|(congr 2;done)|(intros;omega)

theorem Ed.mem{h0:Hp}{n0:Nat}{st:St}{M:List (Nat×Nat×List AV)}{kids:List Nd}{kk:AV}{ls:List (List AV)}(H:Ed h0 kids kk ls)(hM:Mem h0 n0 [] st M):Ed st.h.get kids kk ls:=
 ⟨H.r.mem hM Q3,H.ln,fun i k hi=>by
  obtain⟨cs,h1,h2⟩:=H.at_ i k hi
  exact⟨cs,h1,h2.mono hM.rows⟩⟩

theorem Rt(hf:Qw st){fa fc:List AV}{p:Nd→Bool}{kk:AV}{ls:List (List AV)}(hK:Ed st.h.get l kk ls)(hC: ∀(k:Nd),k∈l→ ∀(st1:St) (cs:List AV),Qt st st1→XE st1.h.get k cs→ ∃v st',Ev Tryz.prog QR fo (fa++([.agg cs]++fc)) st1 v st'∧v=.bool (p k)∧Qt st1 st'): ∃v st',Ev Tryz.prog QR 105 [kk,(AV.fn fo fa fc)] st v st'∧v=iZ (Xa p l 0)∧Qt st st':=by
 have hln:=hK.ln;have hbn:=hK.YZ;refine Yu Tryz.func105 Tryz.ntmps105 fun T K=>?_;have M:=Mem.start hf;refine Qc 2 K M fun _ K=>?_;refine p1 K (Jg QI rfl rfl hK.len) fun _ K=>?_;refine Qc 1 K M fun _ K=>?_;refine JQ (fun mm1 T st9=> ∃(i:Nat),mm1=l.length-i∧Jr [(0,kk),(1,(AV.fn fo fa fc)),(7,iZ (l.length:Nat)),(8,iN i)] T∧Mem st.h.get st.n [] st9 []∧i≤l.length∧Xa p l 0=Xa p (l.drop i) i) (fun mm1 T st9 hI=>?_) _ _ _ ⟨0,rfl,(K.sub rfl),M.less (.refl _),(Nat.zero_le _),rfl⟩;obtain⟨i,rfl,K,M,hi,hx⟩:=hI;refine Qc 1 K M fun _ K=>?_;refine Xj K rfl (fun h9=>?_) fun h9=>?_
 ·refine Qc 5 K M fun _ K=>?_;obtain⟨⟨o14,s14,z14,a14,l14⟩,hi14⟩: ∃k,l[i]? =some k:=⟨_,List.getElem?_eq_getElem (by first|omega|(have:=UN (m:=1) (l:=l) (by assumption);omega)|(have:=UN (m:=2) (l:=l) (by assumption);omega)|(have:=has_len (m:=1) (l:=l) (by assumption);omega))⟩;have hm14:=U7 hi14;obtain⟨_,hc14,hn14⟩:=hK.at_ _ _ hi14;have hp14:=hn14;obtain⟨kk14,ls14,rfl,hK14,hb14⟩:=hp14.Jn;refine OJ (hK.r.mem M Q3) hc14 K Jf Qv rfl rfl fun _ _ _ _ K=>?_;obtain⟨v16,st16,ev16,rfl,q16⟩:=hC (.mk o14 s14 z14 a14 l14) hm14 _ _ M.qt (hn14.mono M.rows);refine p1 K (IW rfl rfl ev16) fun _ K=>?_;replace M:=M.quiet q16;refine Qc 0 K M fun _ K=>?_;refine JU K rfl (fun h16=>?_) fun h16=>?_
  ·have hb16:=h16;refine Qc 2 K M ?_;exact⟨by rw[hx,Vu hi14,if_pos h16],M.qt⟩
  have hb16:=h16;refine Qc 2 K M fun _ K=>?_;exact⟨_,Qh,i+1,rfl,(K.sub rfl),M.less (.refl _),Qh,(by rw[hx,Vu hi14,if_neg (by rw[h16];decide)])⟩
 refine Jx ?_;show W _ _ _ _ _ _ _;refine Qc 1 K M ?_;exact⟨by rw[hx,UM Qh];rfl,M.qt⟩

theorem Gi(hf:Qw st){fa fc:List AV}{p:Nd→Bool}{kk:AV}{ls:List (List AV)}(hK:Ed st.h.get l kk ls)(hC: ∀(k:Nd),k∈l→ ∀(st1:St) (cs:List AV),Qt st st1→XE st1.h.get k cs→ ∃v st',Ev Tryz.prog QR fo (fa++([.agg cs]++fc)) st1 v st'∧v=.bool (p k)∧Qt st1 st'): ∃v st',Ev Tryz.prog QR 88 [kk,(AV.fn fo fa fc)] st v st'∧v=.bool (l.any p)∧Qt st st':=by
 have hln:=hK.ln;have hbn:=hK.YZ;refine Yu Tryz.func88 Tryz.ntmps88 fun T K=>?_;have M:=Mem.start hf;refine Qc 3 K M fun _ K=>?_;refine oQ K M (Rt M.fresh (hK.mem M) (fun k hk st1 cs q hr=>hC k hk st1 cs (M.qt.trans q) hr)) rfl rfl fun _ _ K M=>?_;refine Qc 2 K M ?_;exact⟨by rw[←Kh p l 0],M.qt⟩

theorem zV(hf:Qw st)(hr:XE st.h.get (.mk o s z a l) cs){c fo:Nat}(hc:Z9 st.h.get c 0 [.fn fo [] []]){b:Bool}(hC: ∀(st1:St),Qt st st1→ ∃v st',Ev Tryz.prog QR fo [.agg cs] st1 v st'∧v=.bool b∧Qt st1 st'): ∃v st',Ev Tryz.prog QR 89 [.agg cs,.ptr c 0 0] st v st'∧v=.bool (!b)∧Qt st st':=by
 have hr0:=hr;obtain⟨kk,ls,rfl,hK,hb⟩:=hr.Jn;have hln:=hK.ln;have hbn:=hK.YZ;refine Yu Tryz.func89 Tryz.ntmps89 fun T K=>?_;have M:=Mem.start hf;refine Qc 0 K M fun _ K=>?_;refine J3 K M rfl (Qa rfl (Qa rfl (Qa rfl (Qa rfl (Qa hK.cell Qo))))) QT fun c2 _ _ K M=>?_;refine Qc 1 K M fun _ K=>?_;refine p1 K (QW rfl (Yh (hc.Us hf (M.qt.Us []) Q3) (Qj Af rfl))) fun _ K=>?_;refine Qc 1 K M fun _ K=>?_;obtain⟨v6,st6,ev6,rfl,q6⟩:=hC _ M.qt;refine p1 K (IW rfl rfl ev6) fun _ K=>?_;replace M:=M.quiet q6;refine Qc 2 K M ?_;exact⟨rfl,M.qt⟩

theorem I5(hf:Qw st)(hr:XE st.h.get (.mk o s z a l) cs){p:Nd→Bool}(hC: ∀(k:Nd),k∈l→ ∀(st1:St) (cs:List AV),Qw st1→XE st1.h.get k cs→ ∃v st',Ev Tryz.prog QR fo [.agg cs] st1 v st'∧v=.bool (p k)∧Qt st1 st'): ∃v st',Ev Tryz.prog QR 74 [.agg cs,(AV.fn fo [] [])] st v st'∧v=.bool (l.all p)∧Qt st st':=by
 have hr0:=hr;obtain⟨kk,ls,rfl,hK,hb⟩:=hr.Jn;have hln:=hK.ln;have hbn:=hK.YZ;refine Yu Tryz.func74 Tryz.ntmps74 fun T K=>?_;have M:=Mem.start hf;refine Qc 0 K M fun _ K=>?_;refine J3 K M rfl (Qa rfl (Qa rfl (Qa rfl (Qa rfl (Qa hK.cell Qo))))) QT fun c2 _ _ K M=>?_;refine au 4 K M ?_;intro c3 _ _ K _ M;refine p1 K (IT rfl rfl) fun _ K=>?_;have hrow:=(M.Qn (k:=0) rfl).YQ;have hfr:=M.fresh
 obtain⟨v8,st8,ev8,rfl,q8⟩:=Gi (fo:=89) (fa:=[]) (fc:=[.ptr c3 0 0]) (p:=fun k=> !p k) M.fresh (hK.mem M) (fun k hk st1 cs q hr1=>by
  obtain⟨ko,ks,kv,ka,kl⟩:=k
  exact zV q.fresh hr1 (hrow.Us hfr (q.Us []) Q3) (fun st2 q2=>hC _ hk st2 cs q2.fresh (hr1.qt q.fresh q2)))
 refine p1 K (Qe rfl ev8) fun _ K=>?_;replace M:=M.quiet q8;refine Qc 2 K M ?_;exact⟨by rw[zi],M.qt⟩

theorem Mm(hf:Qw st)(hr:XE st.h.get (.mk o s z a l) cs)(hTm: ∀(st1:St) (cs:List AV),Qw st1→XE st1.h.get (.mk o s z a l) cs→ ∃v st',Ev Tryz.prog QR 75 [.agg cs] st1 v st'∧v=.bool (QO (.mk o s z a l))∧Qt st1 st'): ∃v st',Ev Tryz.prog QR 90 [.agg cs] st v st'∧v=.bool (Y3 (.mk o s z a l))∧Qt st st':=by
 have hr0:=hr;obtain⟨kk,ls,rfl,hK,hb⟩:=hr.Jn;have hln:=hK.ln;have hbn:=hK.YZ;refine Yu Tryz.func90 Tryz.ntmps90 fun T K=>?_;have M:=Mem.start hf;refine Qc 0 K M fun _ K=>?_;refine J3 K M rfl (Qa rfl (Qa rfl (Qa rfl (Qa rfl (Qa hK.cell Qo))))) QT fun c1 _ _ K M=>?_;refine Qc 2 K M fun _ K=>?_;refine oQ K M (hTm _ _ M.fresh (hr0.mono M.rows)) rfl rfl fun _ _ K M=>?_;refine oB K (Q9 rfl) rfl fun b5 _ e5 K=>?_;cases b5
 ·refine Qc 10 K M ?_;refine⟨?_,M.qt⟩
  simp_all [Qp,Y3,Nd.op,X7]<;>first|done|rfl|omega|(congr 1;done)|(congr 2;done)|(intros;omega)
 refine Qc 1 K M fun _ K=>?_;obtain⟨v7,st7,ev7,rfl,q7⟩:=D3 M.fresh (hr0.mono M.rows);refine pg K rfl rfl (Qe rfl ev7) fun _ K=>?_;replace M:=M.quiet q7;refine Qc 2 K M fun _ K=>?_;refine oB K (Q9 rfl) rfl fun b10 _ e10 K=>?_;cases b10
 ·replace e10:(JR o)=true:=by simpa using e10
  refine Qc 5 K M ?_;refine⟨?_,M.qt⟩
  simp_all [Qp,Y3,Nd.op,X7]<;>first|done|rfl|omega|(congr 1;done)|(congr 2;done)|(intros;omega)
 replace e10:(JR o)=false:=by simpa using e10
 refine Qc 2 K M fun _ K=>?_;refine pg K rfl rfl (VS (b:=[115,101,116]) rfl rfl) fun _ K=>?_;refine Qc 2 K M ?_;refine⟨?_,M.qt⟩
 simp_all [Qp,Y3,Nd.op,X7]<;>first|done|rfl|omega|(congr 1;done)|(congr 2;done)|(intros;omega)

theorem GR(x:Nd): ∀(st:St) (cs:List AV),Qw st→XE st.h.get x cs→ ∃v st',Ev Tryz.prog QR 75 [.agg cs] st v st'∧v=.bool (QO x)∧Qt st st':=by
 refine Uz (M:=fun x=> ∀(st:St) (cs:List AV),Qw st→XE st.h.get x cs→ ∃v st',Ev Tryz.prog QR 75 [.agg cs] st v st'∧v=.bool (QO x)∧Qt st st') (fun o s z a l ih=>?_) x;intro st cs hf hr;have hr0:=hr;obtain⟨kk,ls,rfl,hK,hb⟩:=hr.Jn;have hln:=hK.ln;have hbn:=hK.YZ;refine Yu Tryz.func75 Tryz.ntmps75 fun T K=>?_;have M:=Mem.start hf;refine Qc 0 K M fun _ K=>?_;refine J3 K M rfl (Qa rfl (Qa rfl (Qa rfl (Qa rfl (Qa hK.cell Qo))))) QT fun c1 _ _ K M=>?_;refine Qc 3 K M fun _ K=>?_;refine p1 K (QU (b:=[118,97,114]) rfl rfl) fun _ K=>?_;refine Qc 1 K M fun _ K=>?_;refine Xj K rfl (fun h5=>?_) fun h5=>?_
 ·refine Qc 2 K M fun _ K=>?_;obtain⟨v9,st9,ev9,rfl,q9⟩:=Wy M.fresh s;refine p1 K (Qe rfl ev9) fun _ K=>?_;replace M:=M.quiet q9;refine oB K (Q9 rfl) rfl fun b10 _ e10 K=>?_;cases b10
  ·refine Qc 11 K M ?_;refine⟨congrArg AV.bool ?_,M.qt⟩;rw[J6 o s z a l]
   try generalize l.all QO=q1 at *
   try generalize l.all Y3=q2 at *
   try clear M
   try clear ih
   try clear hr
   try clear hr0
   try clear hp
   try clear hn
   try clear hK
   try clear hb
   try clear hc
   try clear hm
   try clear hln
   try clear hbn
   try clear hf
   try(obtain hk:=U9 (by assumption) (by assumption);subst hk)
   simp_all [Qp,Vk,ZK,US,X7,JR,J4,hasB,Nd.op]<;>first|done|rfl|omega|(congr 1;done)|(congr 2;done)|(intros;omega)
  refine Qc 4 K M fun _ K=>?_;refine Eh K rfl (fun _ e15 K=>?_) fun _ e15 K=>?_
  ·refine Qc 6 K M ?_;refine⟨congrArg AV.bool ?_,M.qt⟩;rw[J6 o s z a l]
   try generalize l.all QO=q1 at *
   try generalize l.all Y3=q2 at *
   try clear M
   try clear ih
   try clear hr
   try clear hr0
   try clear hp
   try clear hn
   try clear hK
   try clear hb
   try clear hc
   try clear hm
   try clear hln
   try clear hbn
   try clear hf
   try(obtain hk:=U9 (by assumption) (by assumption);subst hk)
   simp_all [Qp,Vk,ZK,US,X7,JR,J4,hasB,Nd.op]<;>first|done|rfl|omega|(congr 1;done)|(congr 2;done)|(intros;omega)
  refine Qc 2 K M fun _ K=>?_;refine pg K rfl rfl (Jg QI rfl rfl hK.len) fun _ K=>?_;refine Qc 3 K M ?_;refine⟨congrArg AV.bool ?_,M.qt⟩;rw[J6 o s z a l]
  try generalize l.all QO=q1 at *
  try generalize l.all Y3=q2 at *
  try clear M
  try clear ih
  try clear hr
  try clear hr0
  try clear hp
  try clear hn
  try clear hK
  try clear hb
  try clear hc
  try clear hm
  try clear hln
  try clear hbn
  try clear hf
  try(obtain hk:=U9 (by assumption) (by assumption);subst hk)
  simp_all [Qp,Vk,ZK,US,X7,JR,J4,hasB,Nd.op]<;>first|done|rfl|omega|(congr 1;done)|(congr 2;done)|(intros;omega)
 refine Qc 0 K M fun _ K=>?_;refine p1 K (QU (b:=[110,117,109]) rfl rfl) fun _ K=>?_;refine Qc 1 K M fun _ K=>?_;refine Xj K rfl (fun h21=>?_) fun h21=>?_
 ·refine Qc 2 K M fun _ K=>?_;refine p1 K (QU (b:=[]) rfl rfl) fun _ K=>?_;refine Eh K rfl (fun _ e26 K=>?_) fun _ e26 K=>?_
  ·refine Qc 16 K M ?_;refine⟨congrArg AV.bool ?_,M.qt⟩;rw[J6 o s z a l]
   try generalize l.all QO=q1 at *
   try generalize l.all Y3=q2 at *
   try clear M
   try clear ih
   try clear hr
   try clear hr0
   try clear hp
   try clear hn
   try clear hK
   try clear hb
   try clear hc
   try clear hm
   try clear hln
   try clear hbn
   try clear hf
   try(obtain hk:=U9 (by assumption) (by assumption);subst hk)
   simp_all [Qp,Vk,ZK,US,X7,JR,J4,hasB,Nd.op]<;>first|done|rfl|omega|(congr 1;done)|(congr 2;done)|(intros;omega)
  refine Qc 4 K M fun _ K=>?_;refine Eh K rfl (fun _ e31 K=>?_) fun _ e31 K=>?_
  ·refine Qc 11 K M ?_;refine⟨congrArg AV.bool ?_,M.qt⟩;rw[J6 o s z a l]
   try generalize l.all QO=q1 at *
   try generalize l.all Y3=q2 at *
   try clear M
   try clear ih
   try clear hr
   try clear hr0
   try clear hp
   try clear hn
   try clear hK
   try clear hb
   try clear hc
   try clear hm
   try clear hln
   try clear hbn
   try clear hf
   try(obtain hk:=U9 (by assumption) (by assumption);subst hk)
   simp_all [Qp,Vk,ZK,US,X7,JR,J4,hasB,Nd.op]<;>first|done|rfl|omega|(congr 1;done)|(congr 2;done)|(intros;omega)
  refine Qc 4 K M fun _ K=>?_;refine Eh K rfl (fun _ e36 K=>?_) fun _ e36 K=>?_
  ·refine Qc 6 K M ?_;refine⟨congrArg AV.bool ?_,M.qt⟩;rw[J6 o s z a l]
   try generalize l.all QO=q1 at *
   try generalize l.all Y3=q2 at *
   try clear M
   try clear ih
   try clear hr
   try clear hr0
   try clear hp
   try clear hn
   try clear hK
   try clear hb
   try clear hc
   try clear hm
   try clear hln
   try clear hbn
   try clear hf
   try(obtain hk:=U9 (by assumption) (by assumption);subst hk)
   simp_all [Qp,Vk,ZK,US,X7,JR,J4,hasB,Nd.op]<;>first|done|rfl|omega|(congr 1;done)|(congr 2;done)|(intros;omega)
  refine Qc 2 K M fun _ K=>?_;refine pg K rfl rfl (Jg QI rfl rfl hK.len) fun _ K=>?_;refine Qc 3 K M ?_;refine⟨congrArg AV.bool ?_,M.qt⟩;rw[J6 o s z a l]
  try generalize l.all QO=q1 at *
  try generalize l.all Y3=q2 at *
  try clear M
  try clear ih
  try clear hr
  try clear hr0
  try clear hp
  try clear hn
  try clear hK
  try clear hb
  try clear hc
  try clear hm
  try clear hln
  try clear hbn
  try clear hf
  try(obtain hk:=U9 (by assumption) (by assumption);subst hk)
  simp_all [Qp,Vk,ZK,US,X7,JR,J4,hasB,Nd.op]<;>first|done|rfl|omega|(congr 1;done)|(congr 2;done)|(intros;omega)
 refine Qc 0 K M fun _ K=>?_;refine p1 K (QU (b:=[112,108,117,115]) rfl rfl) fun _ K=>?_;refine Qc 1 K M fun _ K=>?_;refine Xj K rfl (fun h42=>?_) fun h42=>?_
 ·refine Qc 2 K M fun _ K=>?_;refine p1 K (QU (b:=[]) rfl rfl) fun _ K=>?_;refine Eh K rfl (fun _ e47 K=>?_) fun _ e47 K=>?_
  ·refine Qc 31 K M ?_;refine⟨congrArg AV.bool ?_,M.qt⟩;rw[J6 o s z a l]
   try generalize l.all QO=q1 at *
   try generalize l.all Y3=q2 at *
   try clear M
   try clear ih
   try clear hr
   try clear hr0
   try clear hp
   try clear hn
   try clear hK
   try clear hb
   try clear hc
   try clear hm
   try clear hln
   try clear hbn
   try clear hf
   try(obtain hk:=U9 (by assumption) (by assumption);subst hk)
   simp_all [Qp,Vk,ZK,US,X7,JR,J4,hasB,Nd.op]<;>first|done|rfl|omega|(congr 1;done)|(congr 2;done)|(intros;omega)
  refine Qc 4 K M fun _ K=>?_;refine Eh K rfl (fun _ e52 K=>?_) fun _ e52 K=>?_
  ·refine Qc 26 K M ?_;refine⟨congrArg AV.bool ?_,M.qt⟩;rw[J6 o s z a l]
   try generalize l.all QO=q1 at *
   try generalize l.all Y3=q2 at *
   try clear M
   try clear ih
   try clear hr
   try clear hr0
   try clear hp
   try clear hn
   try clear hK
   try clear hb
   try clear hc
   try clear hm
   try clear hln
   try clear hbn
   try clear hf
   try(obtain hk:=U9 (by assumption) (by assumption);subst hk)
   simp_all [Qp,Vk,ZK,US,X7,JR,J4,hasB,Nd.op]<;>first|done|rfl|omega|(congr 1;done)|(congr 2;done)|(intros;omega)
  refine Qc 4 K M fun _ K=>?_;refine Eh K rfl (fun _ e57 K=>?_) fun _ e57 K=>?_
  ·refine Qc 21 K M ?_;refine⟨congrArg AV.bool ?_,M.qt⟩;rw[J6 o s z a l]
   try generalize l.all QO=q1 at *
   try generalize l.all Y3=q2 at *
   try clear M
   try clear ih
   try clear hr
   try clear hr0
   try clear hp
   try clear hn
   try clear hK
   try clear hb
   try clear hc
   try clear hm
   try clear hln
   try clear hbn
   try clear hf
   try(obtain hk:=U9 (by assumption) (by assumption);subst hk)
   simp_all [Qp,Vk,ZK,US,X7,JR,J4,hasB,Nd.op]<;>first|done|rfl|omega|(congr 1;done)|(congr 2;done)|(intros;omega)
  refine Qc 2 K M fun _ K=>?_;refine pg K rfl rfl (Jg QI rfl rfl hK.len) fun _ K=>?_;refine Qc 2 K M fun _ K=>?_;refine Eh K rfl (fun _ e63 K=>?_) fun _ e63 K=>?_
  ·refine Qc 15 K M ?_;refine⟨congrArg AV.bool ?_,M.qt⟩;rw[J6 o s z a l]
   try generalize l.all QO=q1 at *
   try generalize l.all Y3=q2 at *
   try clear M
   try clear ih
   try clear hr
   try clear hr0
   try clear hp
   try clear hn
   try clear hK
   try clear hb
   try clear hc
   try clear hm
   try clear hln
   try clear hbn
   try clear hf
   try(obtain hk:=U9 (by assumption) (by assumption);subst hk)
   simp_all [Qp,Vk,ZK,US,X7,JR,J4,hasB,Nd.op]<;>first|done|rfl|omega|(congr 1;done)|(congr 2;done)|(intros;omega)
  refine Qc 2 K M fun _ K=>?_;obtain⟨⟨o66,s66,z66,a66,l66⟩,hi66⟩: ∃k,l[0]? =some k:=⟨_,List.getElem?_eq_getElem (by first|omega|(have:=UN (m:=1) (l:=l) (by assumption);omega)|(have:=UN (m:=2) (l:=l) (by assumption);omega)|(have:=has_len (m:=1) (l:=l) (by assumption);omega))⟩;have hm66:=U7 hi66;obtain⟨_,hc66,hn66⟩:=hK.at_ _ _ hi66;have hp66:=hn66;obtain⟨kk66,ls66,rfl,hK66,hb66⟩:=hp66.Jn;obtain⟨x66,m66,f66,q66,_,la66,lo66,lp66⟩:=(hK.r.mem M Q3).load (i:=0) (cs:=_) hc66;refine pg K rfl rfl (Q5 (j:=0) Jf (congrArg some q66) rfl (by rw[hK.ln];first|omega|(have:=UN (m:=1) (l:=l) (by assumption);omega)|(have:=UN (m:=2) (l:=l) (by assumption);omega)|(have:=has_len (m:=1) (l:=l) (by assumption);omega))) fun _ K=>?_;refine Qc 1 K M fun _ K=>?_;refine pg K rfl rfl (QW rfl (lo66 _ 0 _ J0 rfl)) fun _ K=>pg K rfl rfl (QU (b:=[118,97,114]) rfl rfl) fun _ K=>?_;refine Qc 1 K M fun _ K=>?_;refine Eh K rfl (fun _ e71 K=>?_) fun _ e71 K=>?_
  ·refine Qc 7 K M ?_;refine⟨congrArg AV.bool ?_,M.qt⟩;rw[J6 o s z a l]
   try generalize l.all QO=q1 at *
   try generalize l.all Y3=q2 at *
   try clear M
   try clear ih
   try clear hr
   try clear hr0
   try clear hp
   try clear hn
   try clear hK
   try clear hb
   try clear hc
   try clear hm
   try clear hp66
   try clear hn66
   try clear hK66
   try clear hb66
   try clear hc66
   try clear hm66
   try clear hln
   try clear hbn
   try clear hf
   try(obtain hk:=U9 (by assumption) (by assumption);subst hk)
   simp_all [Qp,Vk,ZK,US,X7,JR,J4,hasB,Nd.op]<;>first|done|rfl|omega|(congr 1;done)|(congr 2;done)|(intros;omega)
  refine Qc 2 K M fun _ K=>?_;obtain⟨⟨o74,s74,z74,a74,l74⟩,hi74⟩: ∃k,l[0]? =some k:=⟨_,List.getElem?_eq_getElem (by first|omega|(have:=UN (m:=1) (l:=l) (by assumption);omega)|(have:=UN (m:=2) (l:=l) (by assumption);omega)|(have:=has_len (m:=1) (l:=l) (by assumption);omega))⟩;have hm74:=U7 hi74;obtain⟨_,hc74,hn74⟩:=hK.at_ _ _ hi74;have hp74:=hn74;obtain⟨kk74,ls74,rfl,hK74,hb74⟩:=hp74.Jn;obtain⟨x74,m74,f74,q74,_,la74,lo74,lp74⟩:=(hK.r.mem M Q3).load (i:=0) (cs:=_) hc74;refine pg K rfl rfl (Q5 (j:=0) Jf (congrArg some q74) rfl (by rw[hK.ln];first|omega|(have:=UN (m:=1) (l:=l) (by assumption);omega)|(have:=UN (m:=2) (l:=l) (by assumption);omega)|(have:=has_len (m:=1) (l:=l) (by assumption);omega))) fun _ K=>pg K rfl rfl (QW rfl (la74 _ Qv)) fun _ K=>?_;obtain⟨v76,st76,ev76,rfl,q76⟩:=ih _ (hm74) _ _ M.fresh (hn74.mono M.rows);refine pg K rfl rfl (Qe rfl ev76) fun _ K=>?_;replace M:=M.quiet q76;refine Qc 2 K M ?_;refine⟨congrArg AV.bool ?_,M.qt⟩;rw[J6 o s z a l]
  try generalize l.all QO=q1 at *
  try generalize l.all Y3=q2 at *
  try clear M
  try clear ih
  try clear hr
  try clear hr0
  try clear hp
  try clear hn
  try clear hK
  try clear hb
  try clear hc
  try clear hm
  try clear hp66
  try clear hn66
  try clear hK66
  try clear hb66
  try clear hc66
  try clear hm66
  try clear hp74
  try clear hn74
  try clear hK74
  try clear hb74
  try clear hc74
  try clear hm74
  try clear hln
  try clear hbn
  try clear hf
  try(obtain hk:=U9 (by assumption) (by assumption);subst hk)
  simp_all [Qp,Vk,ZK,US,X7,JR,J4,hasB,Nd.op]<;>first|done|rfl|omega|(congr 1;done)|(congr 2;done)|(intros;omega)
 refine Qc 0 K M fun _ K=>?_;refine p1 K (QU (b:=[115,101,116]) rfl rfl) fun _ K=>?_;refine Qc 1 K M fun _ K=>?_;refine Xj K rfl (fun h78=>?_) fun h78=>?_
 ·refine Qc 2 K M fun _ K=>?_;refine p1 K (QU (b:=[]) rfl rfl) fun _ K=>?_;refine Eh K rfl (fun _ e83 K=>?_) fun _ e83 K=>?_
  ·refine Qc 15 K M ?_;refine⟨congrArg AV.bool ?_,M.qt⟩;rw[J6 o s z a l]
   try generalize l.all QO=q1 at *
   try generalize l.all Y3=q2 at *
   try clear M
   try clear ih
   try clear hr
   try clear hr0
   try clear hp
   try clear hn
   try clear hK
   try clear hb
   try clear hc
   try clear hm
   try clear hln
   try clear hbn
   try clear hf
   try(obtain hk:=U9 (by assumption) (by assumption);subst hk)
   simp_all [Qp,Vk,ZK,US,X7,JR,J4,hasB,Nd.op]<;>first|done|rfl|omega|(congr 1;done)|(congr 2;done)|(intros;omega)
  refine Qc 4 K M fun _ K=>?_;refine Eh K rfl (fun _ e88 K=>?_) fun _ e88 K=>?_
  ·refine Qc 10 K M ?_;refine⟨congrArg AV.bool ?_,M.qt⟩;rw[J6 o s z a l]
   try generalize l.all QO=q1 at *
   try generalize l.all Y3=q2 at *
   try clear M
   try clear ih
   try clear hr
   try clear hr0
   try clear hp
   try clear hn
   try clear hK
   try clear hb
   try clear hc
   try clear hm
   try clear hln
   try clear hbn
   try clear hf
   try(obtain hk:=U9 (by assumption) (by assumption);subst hk)
   simp_all [Qp,Vk,ZK,US,X7,JR,J4,hasB,Nd.op]<;>first|done|rfl|omega|(congr 1;done)|(congr 2;done)|(intros;omega)
  refine Qc 2 K M fun _ K=>?_;refine pg K rfl rfl (Jg QI rfl rfl hK.len) fun _ K=>?_;refine Qc 2 K M fun _ K=>?_;refine Eh K rfl (fun _ e94 K=>?_) fun _ e94 K=>?_
  ·refine Qc 4 K M ?_;refine⟨congrArg AV.bool ?_,M.qt⟩;rw[J6 o s z a l]
   try generalize l.all QO=q1 at *
   try generalize l.all Y3=q2 at *
   try clear M
   try clear ih
   try clear hr
   try clear hr0
   try clear hp
   try clear hn
   try clear hK
   try clear hb
   try clear hc
   try clear hm
   try clear hln
   try clear hbn
   try clear hf
   try(obtain hk:=U9 (by assumption) (by assumption);subst hk)
   simp_all [Qp,Vk,ZK,US,X7,JR,J4,hasB,Nd.op]<;>first|done|rfl|omega|(congr 1;done)|(congr 2;done)|(intros;omega)
  refine Qc 1 K M fun _ K=>?_
  obtain⟨v96,st96,ev96,rfl,q96⟩:=I5 (p:=Y3) M.fresh (hr0.mono M.rows) (fun k hk st1 cs hf1 hr1=>by
    obtain⟨ko,ks,kv,ka,kl⟩:=k
    exact Mm hf1 hr1 (fun st2 cs2 h2 r2=>ih _ hk st2 cs2 h2 r2))
  refine pg K rfl rfl (Qe rfl ev96) fun _ K=>?_;replace M:=M.quiet q96;refine Qc 2 K M ?_;refine⟨congrArg AV.bool ?_,M.qt⟩;rw[J6 o s z a l]
  try generalize l.all QO=q1 at *
  try generalize l.all Y3=q2 at *
  try clear M
  try clear ih
  try clear hr
  try clear hr0
  try clear hp
  try clear hn
  try clear hK
  try clear hb
  try clear hc
  try clear hm
  try clear hln
  try clear hbn
  try clear hf
  try(obtain hk:=U9 (by assumption) (by assumption);subst hk)
  simp_all [Qp,Vk,ZK,US,X7,JR,J4,hasB,Nd.op]<;>first|done|rfl|omega|(congr 1;done)|(congr 2;done)|(intros;omega)
 refine VY (J:=fun T st9=> ∃(b:Bool),Jr [(1,.ptr c1 0 0),(2,.bool false),(98,.bool b)] T∧Mem st.h.get st.n [] st9 [(c1,0,[.str o,.str s,iZ z,iZ a,kk])]∧b=JR o) ?_ (fun T st9 hJ=>?_)
 ·refine Qc 0 K M fun _ K=>?_;refine p1 K (QU (b:=[117,110,105,111,110]) rfl rfl) fun _ K=>?_;refine Qc 1 K M fun _ K=>?_;refine JU K rfl (fun h98=>?_) fun h98=>?_
  ·have hb98:=h98;replace h98:=of_decide_eq_true h98;refine JM ?_;exact⟨_,(K.sub rfl),M.less (.refl _),(by simp_all [JR])⟩
  have hb98:=h98;replace h98:=of_decide_eq_false h98;refine Qc 0 K M fun _ K=>?_;refine p1 K (QU (b:=[105,110,116,101,114]) rfl rfl) fun _ K=>?_;refine Qc 1 K M fun _ K=>?_;refine JU K rfl (fun h98=>?_) fun h98=>?_
  ·have hb98:=h98;replace h98:=of_decide_eq_true h98;refine JM ?_;exact⟨_,(K.sub rfl),M.less (.refl _),(by simp_all [JR])⟩
  have hb98:=h98;replace h98:=of_decide_eq_false h98;refine Uf<|p1 K (QU (b:=[109,105,110,117,115]) rfl rfl) fun _ K=>?_;refine Qc 1 K M fun _ K=>?_;exact⟨_,(K.sub rfl),M.less (.refl _),(by simp_all [JR])⟩
 obtain⟨b,K,M,hbs⟩:=hJ;refine JU K rfl (fun h98=>?_) fun h98=>?_
 ·have hb98:=h98;refine Qc 1 K M fun _ K=>?_;refine oQ K M (Kw M.fresh (hr0.mono M.rows) 2) rfl rfl fun _ _ K M=>?_;refine oB K (Q9 rfl) rfl fun b104 _ e104 K=>?_;cases b104
  ·refine Qc 12 K M ?_;refine⟨congrArg AV.bool ?_,M.qt⟩;rw[J6 o s z a l]
   try generalize l.all QO=q1 at *
   try generalize l.all Y3=q2 at *
   try clear M
   try clear ih
   try clear hr
   try clear hr0
   try clear hp
   try clear hn
   try clear hK
   try clear hb
   try clear hc
   try clear hm
   try clear hln
   try clear hbn
   try clear hf
   try(obtain hk:=U9 (by assumption) (by assumption);subst hk)
   simp_all [Qp,Vk,ZK,US,X7,JR,J4,hasB,Nd.op]<;>first|done|rfl|omega|(congr 1;done)|(congr 2;done)|(intros;omega)
  refine Qc 1 K M fun _ K=>?_;obtain⟨v106,st106,ev106,rfl,q106⟩:=I5 (p:=QO) M.fresh (hr0.mono M.rows) (fun k hk st1 cs hf1 hr1=>ih _ hk st1 cs hf1 hr1);refine pg K rfl rfl (Qe rfl ev106) fun _ K=>?_;replace M:=M.quiet q106;refine Qc 1 K M fun _ K=>?_;refine oB K (Q9 rfl) rfl fun b108 _ e108 K=>?_;cases b108
  ·refine Qc 8 K M ?_;refine⟨congrArg AV.bool ?_,M.qt⟩;rw[J6 o s z a l]
   try generalize l.all QO=q1 at *
   try generalize l.all Y3=q2 at *
   try clear M
   try clear ih
   try clear hr
   try clear hr0
   try clear hp
   try clear hn
   try clear hK
   try clear hb
   try clear hc
   try clear hm
   try clear hln
   try clear hbn
   try clear hf
   try(obtain hk:=U9 (by assumption) (by assumption);subst hk)
   simp_all [Qp,Vk,ZK,US,X7,JR,J4,hasB,Nd.op]<;>first|done|rfl|omega|(congr 1;done)|(congr 2;done)|(intros;omega)
  refine Qc 2 K M fun _ K=>?_;obtain⟨⟨o111,s111,z111,a111,l111⟩,hi111⟩: ∃k,l[1]? =some k:=⟨_,List.getElem?_eq_getElem (by first|omega|(have:=UN (m:=1) (l:=l) (by assumption);omega)|(have:=UN (m:=2) (l:=l) (by assumption);omega)|(have:=has_len (m:=1) (l:=l) (by assumption);omega))⟩;have hm111:=U7 hi111;obtain⟨_,hc111,hn111⟩:=hK.at_ _ _ hi111;have hp111:=hn111;obtain⟨kk111,ls111,rfl,hK111,hb111⟩:=hp111.Jn;obtain⟨x111,m111,f111,q111,_,la111,lo111,lp111⟩:=(hK.r.mem M Q3).load (i:=1) (cs:=_) hc111;refine pg K rfl rfl (Q5 (j:=1) Jf (congrArg some q111) rfl (by rw[hK.ln];first|omega|(have:=UN (m:=1) (l:=l) (by assumption);omega)|(have:=UN (m:=2) (l:=l) (by assumption);omega)|(have:=has_len (m:=1) (l:=l) (by assumption);omega))) fun _ K=>pg K rfl rfl (QW rfl (la111 _ Qv)) fun _ K=>?_;obtain⟨v113,st113,ev113,rfl,q113⟩:=D3 M.fresh (hn111.mono M.rows);refine pg K rfl rfl (Qe rfl ev113) fun _ K=>?_;replace M:=M.quiet q113;refine Qc 3 K M ?_;refine⟨congrArg AV.bool ?_,M.qt⟩;rw[J6 o s z a l]
  try generalize l.all QO=q1 at *
  try generalize l.all Y3=q2 at *
  try clear M
  try clear ih
  try clear hr
  try clear hr0
  try clear hp
  try clear hn
  try clear hK
  try clear hb
  try clear hc
  try clear hm
  try clear hp111
  try clear hn111
  try clear hK111
  try clear hb111
  try clear hc111
  try clear hm111
  try clear hln
  try clear hbn
  try clear hf
  try(obtain hk:=U9 (by assumption) (by assumption);subst hk)
  simp_all [Qp,Vk,ZK,US,X7,JR,J4,hasB,Nd.op]<;>first|done|rfl|omega|(congr 1;done)|(congr 2;done)|(intros;omega)
 have hb98:=h98;refine Qc 1 K M ?_;refine⟨congrArg AV.bool ?_,M.qt⟩;rw[J6 o s z a l]
 try generalize l.all QO=q1 at *
 try generalize l.all Y3=q2 at *
 try clear M
 try clear ih
 try clear hr
 try clear hr0
 try clear hp
 try clear hn
 try clear hK
 try clear hb
 try clear hc
 try clear hm
 try clear hln
 try clear hbn
 try clear hf
 try(obtain hk:=U9 (by assumption) (by assumption);subst hk)
 simp_all [Qp,Vk,ZK,US,X7,JR,J4,hasB,Nd.op]<;>first|done|rfl|omega|(congr 1;done)|(congr 2;done)|(intros;omega)
end Go.Proofs.YtaomhhkflohhgaaGreatDoor
