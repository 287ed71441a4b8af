/-
  Programs: the program's answer, the reference's. TreeProgs.
-/
import Derived.Test.YtaomhhkflohhgaaGreatDoorMgRpD
set_option maxHeartbeats 8000000
set_option maxRecDepth 100000
set_option linter.unnecessarySimpa false
set_option linter.unusedSimpArgs false
set_option linter.unusedVariables false
namespace Go.Proofs.YtaomhhkflohhgaaGreatDoor
section
open Go Go.RowKit
variable {a z:Int} {cs fa fc:List AV} {fo:FuncId} {kk:AV} {l:List Nd} {ls:List (List AV)} {o s:List Nat} {st:St}

def Vh(d:Dc):Bool:=Vb d.name&&(decide (0≤d.order)&&decide (d.order<3))
def En(p:Pd):Bool:=Vb p.name&&(decide (((p.params.length:Nat):Int)≤6)&&(p.params.all Vh&&(ZF p.body 2000&&Jw p.body)))
def Em(p:Pg):Bool:=p.decls.all Vh&&(p.preds.all En&&(ZF p.main 2000&&Jw p.main))
theorem Dr{α:Type}(p:α→Bool)(l:List α):(!l.any fun k=> !p k)=l.all p:=by
 induction l with
 |nil=>rfl
 |cons k l ih=>rw[List.any_cons,List.all_cons,←ih];cases p k<;>simp
theorem O7{α:Type}(p:α→Bool)(l:List α):(l.any fun k=> !p k)= !l.all p:=by rw[←Dr,Bool.not_not]
theorem Fu(ds:List Dc)(ps:List Pd)(m:Nd):Em ⟨ds,ps,m⟩=(ds.all Vh&&(ps.all En&&(ZF m 2000&&Jw m))):=rfl
theorem Fv(n:List Nat)(pp:List Dc)(b:Nd)(z:Int):En ⟨n,pp,b,z⟩=(Vb n&&(decide (((pp.length:Nat):Int)≤6)&&(pp.all Vh&&(ZF b 2000&&Jw b)))):=rfl
theorem Er{α:Type}{l:List α}{i:Nat}{k:α}(h:l[i]? =some k):k∈l:=List.mem_of_getElem? h

theorem Ms{nm:List Nat}{od at_:Int}(hf:Qw st): ∃v st',Ev Tryz.prog QR 51 [.agg [.str nm,iZ od,iZ at_]] st v st'∧v=.bool (Vh ⟨nm,od,at_⟩)∧Qt st st':=by
 refine Yu Tryz.func51 Tryz.ntmps51 fun T K=>?_;have M:=Mem.start hf;refine au 4 K M ?_;intro c1 _ _ K _ M;refine oQ K M (Wy M.fresh nm) rfl rfl fun _ _ K M=>?_;refine oB K (Q9 rfl) rfl fun b6 _ e6 K=>?_;cases b6
 ·refine Qc 10 K M ?_;refine⟨congrArg AV.bool ?_,M.qt⟩;rw[Vh]
  simp_all<;>first|done|rfl|omega|(intros;omega)|(intros;simp_all;done)
 refine Qc 4 K M fun _ K=>?_;refine Eh K rfl (fun _ e11 K=>?_) fun _ e11 K=>?_
 ·refine Qc 5 K M ?_;refine⟨congrArg AV.bool ?_,M.qt⟩;rw[Vh]
  simp_all<;>first|done|rfl|omega|(intros;omega)|(intros;simp_all;done)
 refine Qc 5 K M ?_;refine⟨congrArg AV.bool ?_,M.qt⟩;rw[Vh]
 simp_all<;>first|done|rfl|omega|(intros;omega)|(intros;simp_all;done)

theorem Ct{nm:List Nat}{od at_:Int}(hf:Qw st): ∃v st',Ev Tryz.prog QR 50 [.agg [.str nm,iZ od,iZ at_]] st v st'∧v=.bool (!Vh ⟨nm,od,at_⟩)∧Qt st st':=by
 refine Yu Tryz.func50 Tryz.ntmps50 fun T K=>?_;have M:=Mem.start hf;refine au 3 K M ?_;intro c1 _ _ K _ M;refine oQ K M (Ms M.fresh) rfl rfl fun _ _ K M=>?_;refine Qc 2 K M ?_;exact⟨rfl,M.qt⟩

theorem Ru(hf:Qw st){l:List Dc}(hD:Xi st.h.get l kk ls){p:Dc→Bool}(hC: ∀(k:Dc),k∈l→ ∀(st1:St) (cs:List AV),Qt st st1→eo k cs→ ∃v st',Ev Tryz.prog QR fo (fa++([.agg cs]++fc)) st1 v st'∧v=.bool (p k)∧Qt st1 st'): ∃v st',Ev Tryz.prog QR 70 [kk,(AV.fn fo fa fc)] st v st'∧v=iZ (Xa p l 0)∧Qt st st':=by
 have hln:=hD.ln;have hbn:=hD.YZ;refine Yu Tryz.func70 Tryz.ntmps70 fun T K=>?_;have M:=Mem.start hf;refine Qc 2 K M fun _ K=>?_;refine p1 K (Jg Ux rfl rfl hD.len) fun _ K=>?_;refine Qc 1 K M fun _ K=>?_;refine JQ (fun mm1 T st9=> ∃(i:Nat),mm1=l.length-i∧Jr [(0,kk),(1,(AV.fn fo fa fc)),(7,iZ (l.length:Nat)),(8,iN i)] T∧Mem st.h.get st.n [] st9 []∧i≤l.length∧Xa p l 0=Xa p (l.drop i) i) (fun mm1 T st9 hI=>?_) _ _ _ ⟨0,rfl,(K.sub rfl),M.less (.refl _),(Nat.zero_le _),rfl⟩;obtain⟨i,rfl,K,M,hi,hx⟩:=hI;refine Qc 1 K M fun _ K=>?_;refine Xj K rfl (fun h9=>?_) fun h9=>?_
 ·refine Qc 5 K M fun _ K=>?_;obtain⟨⟨dn14,do14,da14⟩,hi14⟩: ∃k,l[i]? =some k:=⟨_,List.getElem?_eq_getElem Qh⟩;have hm14:=Er hi14;obtain⟨_,hc14,rfl,hy14⟩:=hD.at_ _ _ hi14;refine OJ (hD.r.mem M Q3) hc14 K Zw VA rfl rfl fun _ _ _ _ K=>?_;obtain⟨v16,st16,ev16,rfl,q16⟩:=hC ⟨dn14,do14,da14⟩ hm14 _ _ M.qt ⟨rfl,hy14⟩;refine p1 K (IW rfl rfl ev16) fun _ K=>?_;replace M:=M.quiet q16;refine Qc 0 K M fun _ K=>?_;refine JU K rfl (fun h16=>?_) fun h16=>?_
  ·have hb16:=h16;refine Qc 2 K M ?_;exact⟨by rw[hx,Vu hi14,if_pos h16],M.qt⟩
  have hb16:=h16;refine Qc 2 K M fun _ K=>?_;exact⟨_,Qh,i+1,rfl,(K.sub rfl),M.less (.refl _),Qh,(by rw[hx,Vu hi14,if_neg (by rw[h16];decide)])⟩
 refine Jx ?_;show W _ _ _ _ _ _ _;refine Qc 1 K M ?_;exact⟨by rw[hx,UM Qh];rfl,M.qt⟩

theorem Gj(hf:Qw st){l:List Dc}(hD:Xi st.h.get l kk ls){p:Dc→Bool}(hC: ∀(k:Dc),k∈l→ ∀(st1:St) (cs:List AV),Qt st st1→eo k cs→ ∃v st',Ev Tryz.prog QR fo (fa++([.agg cs]++fc)) st1 v st'∧v=.bool (p k)∧Qt st1 st'): ∃v st',Ev Tryz.prog QR 49 [kk,(AV.fn fo fa fc)] st v st'∧v=.bool (l.any p)∧Qt st st':=by
 have hln:=hD.ln;have hbn:=hD.YZ;refine Yu Tryz.func49 Tryz.ntmps49 fun T K=>?_;have M:=Mem.start hf;refine Qc 3 K M fun _ K=>?_;refine oQ K M (Ru M.fresh (Xi.mono M.rows hD) (fun k hk st1 cs q hr=>hC k hk st1 cs (M.qt.trans q) hr)) rfl rfl fun _ _ K M=>?_;refine Qc 2 K M ?_;exact⟨by rw[←Kh p l 0],M.qt⟩

theorem L9(hf:Qw st){l:List Dc}(hD:Xi st.h.get l kk ls): ∃v st',Ev Tryz.prog QR 27 [kk] st v st'∧v=.bool (l.all Vh)∧Qt st st':=by
 refine Yu Tryz.func27 Tryz.ntmps27 fun T K=>?_;have M:=Mem.start hf;refine Qc 2 K M fun _ K=>?_
 obtain⟨v4,st4,ev4,rfl,q4⟩:=Gj (fa:=[]) (fc:=[]) (p:=fun k=> !Vh k) M.fresh (Xi.mono M.rows hD) (fun k hk st1 cs q hr1=>by
  obtain⟨k1,k2,k3⟩:=k;obtain⟨rfl,hy⟩:=hr1
  exact Ct q.fresh)
 refine p1 K (Qe rfl ev4) fun _ K=>?_;replace M:=M.quiet q4;refine Qc 2 K M ?_;exact⟨by rw[Dr],M.qt⟩

theorem Ml{pn:List Nat}{pp:List Dc}{pa:Int}(hf:Qw st)(hr:MY st.h.get ⟨pn,pp,.mk o s z a l,pa⟩ cs): ∃v st',Ev Tryz.prog QR 30 [.agg cs] st v st'∧v=.bool (En ⟨pn,pp,.mk o s z a l,pa⟩)∧Qt st st':=by
 have hr0:=hr;have hr0:=hr;obtain⟨kd,ld,o,s,z,a,kk,rfl,hD,hn,hy⟩:=hr0;obtain⟨kx,ls,ex,hK,hb⟩:=hn.Jn
 injection ex with x1 x;injection x with x2 x;injection x with x3 x;injection x with x4 x;injection x with x5 x
 injection x1 with x1;injection x2 with x2;injection x3 with _ x3;injection x4 with _ x4
 subst x1 x2 x3 x4 x5;replace hD:Xi st.h.get pp kd ld:=hD;replace hn:XE st.h.get (.mk o s z a l) _:=hn;replace hy:Bytes pn:=hy;have hl:=hK.YZ;have hd:=hD.YZ;refine Yu Tryz.func30 Tryz.ntmps30 fun T K=>?_;have M:=Mem.start hf;refine Qc 0 K M fun _ K=>?_;refine J3 K M rfl (Qa rfl (Qa hD.cell (Qa rfl (Qa rfl (Qa rfl (Qa rfl (Qa hK.cell (Qa rfl Qo)))))))) QT fun c1 _ _ K M=>?_;refine Qc 3 K M fun _ K=>?_;refine oQ K M (Wy M.fresh pn) rfl rfl fun _ _ K M=>?_;refine oB K (Q9 rfl) rfl fun b6 _ e6 K=>?_;cases b6
 ·refine Qc 16 K M ?_;refine⟨congrArg AV.bool ?_,M.qt⟩;rw[Fv]
  try clear hr
  try clear hr0
  try clear hD
  try clear hn
  try clear hK
  try clear hb
  try generalize pp.all Vh=q1 at *
  try generalize ZF (.mk o s z a l) 2000=q2 at *
  try generalize Jw (.mk o s z a l)=q3 at *
  simp_all<;>first|done|rfl|omega|(intros;omega)|(intros;simp_all;done)
 refine Qc 2 K M fun _ K=>?_;refine pg K rfl rfl (Jg Ux rfl rfl hD.len) fun _ K=>?_;refine Qc 2 K M fun _ K=>?_;refine Eh K rfl (fun _ e12 K=>?_) fun _ e12 K=>?_
 ·refine Qc 10 K M ?_;refine⟨congrArg AV.bool ?_,M.qt⟩;rw[Fv]
  try clear hr
  try clear hr0
  try clear hD
  try clear hn
  try clear hK
  try clear hb
  try generalize pp.all Vh=q1 at *
  try generalize ZF (.mk o s z a l) 2000=q2 at *
  try generalize Jw (.mk o s z a l)=q3 at *
  simp_all<;>first|done|rfl|omega|(intros;omega)|(intros;simp_all;done)
 refine Qc 2 K M fun _ K=>?_;obtain⟨v15,st15,ev15,rfl,q15⟩:=L9 M.fresh (Xi.mono M.rows hD);refine pg K rfl rfl (Qe rfl ev15) fun _ K=>?_;replace M:=M.quiet q15;refine Qc 1 K M fun _ K=>?_;refine oB K (Q9 rfl) rfl fun b17 _ e17 K=>?_;cases b17
 ·refine Qc 5 K M ?_;refine⟨congrArg AV.bool ?_,M.qt⟩;rw[Fv]
  try clear hr
  try clear hr0
  try clear hD
  try clear hn
  try clear hK
  try clear hb
  try generalize pp.all Vh=q1 at *
  try generalize ZF (.mk o s z a l) 2000=q2 at *
  try generalize Jw (.mk o s z a l)=q3 at *
  simp_all<;>first|done|rfl|omega|(intros;omega)|(intros;simp_all;done)
 refine Qc 2 K M fun _ K=>?_;obtain⟨v20,st20,ev20,rfl,q20⟩:=Hr M.fresh (hn.mono M.rows);refine pg K rfl rfl (Qe rfl ev20) fun _ K=>?_;replace M:=M.quiet q20;refine Qc 2 K M ?_;refine⟨congrArg AV.bool ?_,M.qt⟩;rw[Fv]
 try clear hr
 try clear hr0
 try clear hD
 try clear hn
 try clear hK
 try clear hb
 try generalize pp.all Vh=q1 at *
 try generalize ZF (.mk o s z a l) 2000=q2 at *
 try generalize Jw (.mk o s z a l)=q3 at *
 simp_all<;>first|done|rfl|omega|(intros;omega)|(intros;simp_all;done)

theorem vj{pn:List Nat}{pp:List Dc}{pa:Int}(hf:Qw st)(hr:MY st.h.get ⟨pn,pp,.mk o s z a l,pa⟩ cs): ∃v st',Ev Tryz.prog QR 29 [.agg cs] st v st'∧v=.bool (!En ⟨pn,pp,.mk o s z a l,pa⟩)∧Qt st st':=by
 have hr0:=hr;have hr0:=hr;obtain⟨kd,ld,o,s,z,a,kk,rfl,hD,hn,hy⟩:=hr0;obtain⟨kx,ls,ex,hK,hb⟩:=hn.Jn
 injection ex with x1 x;injection x with x2 x;injection x with x3 x;injection x with x4 x;injection x with x5 x
 injection x1 with x1;injection x2 with x2;injection x3 with _ x3;injection x4 with _ x4
 subst x1 x2 x3 x4 x5;replace hD:Xi st.h.get pp kd ld:=hD;replace hn:XE st.h.get (.mk o s z a l) _:=hn;replace hy:Bytes pn:=hy;have hl:=hK.YZ;have hd:=hD.YZ;refine Yu Tryz.func29 Tryz.ntmps29 fun T K=>?_;have M:=Mem.start hf;refine Qc 0 K M fun _ K=>?_;refine J3 K M rfl (Qa rfl (Qa hD.cell (Qa rfl (Qa rfl (Qa rfl (Qa rfl (Qa hK.cell (Qa rfl Qo)))))))) QT fun c1 _ _ K M=>?_;refine Qc 2 K M fun _ K=>?_;refine oQ K M (Ml M.fresh (hr.mono M.rows)) rfl rfl fun _ _ K M=>?_;refine Qc 2 K M ?_;exact⟨rfl,M.qt⟩

theorem Im(hf:Qw st){l:List Pd}(hD:I9 st.h.get l kk ls){p:Pd→Bool}(hC: ∀(k:Pd),k∈l→ ∀(st1:St) (cs:List AV),Qt st st1→MY st1.h.get k cs→ ∃v st',Ev Tryz.prog QR fo (fa++([.agg cs]++fc)) st1 v st'∧v=.bool (p k)∧Qt st1 st'): ∃v st',Ev Tryz.prog QR 52 [kk,(AV.fn fo fa fc)] st v st'∧v=iZ (Xa p l 0)∧Qt st st':=by
 have hln:=hD.ln;have hbn:=hD.YZ;refine Yu Tryz.func52 Tryz.ntmps52 fun T K=>?_;have M:=Mem.start hf;refine Qc 2 K M fun _ K=>?_;refine p1 K (Jg Xs rfl rfl hD.len) fun _ K=>?_;refine Qc 1 K M fun _ K=>?_;refine JQ (fun mm1 T st9=> ∃(i:Nat),mm1=l.length-i∧Jr [(0,kk),(1,(AV.fn fo fa fc)),(7,iZ (l.length:Nat)),(8,iN i)] T∧Mem st.h.get st.n [] st9 []∧i≤l.length∧Xa p l 0=Xa p (l.drop i) i) (fun mm1 T st9 hI=>?_) _ _ _ ⟨0,rfl,(K.sub rfl),M.less (.refl _),(Nat.zero_le _),rfl⟩;obtain⟨i,rfl,K,M,hi,hx⟩:=hI;refine Qc 1 K M fun _ K=>?_;refine Xj K rfl (fun h9=>?_) fun h9=>?_
 ·refine Qc 5 K M fun _ K=>?_;obtain⟨⟨pn14,pp14,⟨_,_,_,_,l14⟩,pa14⟩,hi14⟩: ∃k,l[i]? =some k:=⟨_,List.getElem?_eq_getElem Qh⟩;have hm14:=Er hi14;obtain⟨_,hc14,hP14⟩:=hD.at_ _ _ hi14;have hP140:=hP14;obtain⟨kd14,ld14,o14,s14,z14,a14,kk14,rfl,hD14,hn14,hy14⟩:=hP140;obtain⟨kx14,ls14,ex14,hK14,hb14⟩:=hn14.Jn
  injection ex14 with x1 x;injection x with x2 x;injection x with x3 x;injection x with x4 x;injection x with x5 x
  injection x1 with x1;injection x2 with x2;injection x3 with _ x3;injection x4 with _ x4
  subst x1 x2 x3 x4 x5;replace hD14:Xi st.h.get pp14 kd14 ld14:=hD14;replace hn14:XE st.h.get (.mk o14 s14 z14 a14 l14) _:=hn14;replace hy14:Bytes pn14:=hy14;have hl14:=hK14.YZ;have hd14:=hD14.YZ;refine OJ (hD.r.mem M Q3) hc14 K Xy V9 rfl rfl fun _ _ _ _ K=>?_;obtain⟨v16,st16,ev16,rfl,q16⟩:=hC ⟨pn14,pp14,.mk o14 s14 z14 a14 l14,pa14⟩ hm14 _ _ M.qt (hP14.mono M.rows);refine p1 K (IW rfl rfl ev16) fun _ K=>?_;replace M:=M.quiet q16;refine Qc 0 K M fun _ K=>?_;refine JU K rfl (fun h16=>?_) fun h16=>?_
  ·have hb16:=h16;refine Qc 2 K M ?_;exact⟨by rw[hx,Vu hi14,if_pos h16],M.qt⟩
  have hb16:=h16;refine Qc 2 K M fun _ K=>?_;exact⟨_,Qh,i+1,rfl,(K.sub rfl),M.less (.refl _),Qh,(by rw[hx,Vu hi14,if_neg (by rw[h16];decide)])⟩
 refine Jx ?_;show W _ _ _ _ _ _ _;refine Qc 1 K M ?_;exact⟨by rw[hx,UM Qh];rfl,M.qt⟩

theorem H3(hf:Qw st){l:List Pd}(hD:I9 st.h.get l kk ls){p:Pd→Bool}(hC: ∀(k:Pd),k∈l→ ∀(st1:St) (cs:List AV),Qt st st1→MY st1.h.get k cs→ ∃v st',Ev Tryz.prog QR fo (fa++([.agg cs]++fc)) st1 v st'∧v=.bool (p k)∧Qt st1 st'): ∃v st',Ev Tryz.prog QR 28 [kk,(AV.fn fo fa fc)] st v st'∧v=.bool (l.any p)∧Qt st st':=by
 have hln:=hD.ln;have hbn:=hD.YZ;refine Yu Tryz.func28 Tryz.ntmps28 fun T K=>?_;have M:=Mem.start hf;refine Qc 3 K M fun _ K=>?_;refine oQ K M (Im M.fresh (I9.mono M.rows hD) (fun k hk st1 cs q hr=>hC k hk st1 cs (M.qt.trans q) hr)) rfl rfl fun _ _ K M=>?_;refine Qc 2 K M ?_;exact⟨by rw[←Kh p l 0],M.qt⟩

theorem xD{ds:List Dc}{ps:List Pd}(hf:Qw st)(hr:vH st.h.get ⟨ds,ps,.mk o s z a l⟩ cs): ∃v st',Ev Tryz.prog QR 13 [.agg cs] st v st'∧v=.bool (Em ⟨ds,ps,.mk o s z a l⟩)∧Qt st st':=by
 have hr0:=hr;obtain⟨kd,ld,kp,lp,o,s,z,a,kk,rfl,hD,hP,hn⟩:=hr0;obtain⟨kx,ls,ex,hK,hb⟩:=hn.Jn
 injection ex with x1 x;injection x with x2 x;injection x with x3 x;injection x with x4 x;injection x with x5 x
 injection x1 with x1;injection x2 with x2;injection x3 with _ x3;injection x4 with _ x4
 subst x1 x2 x3 x4 x5;replace hD:Xi st.h.get ds kd ld:=hD;replace hP:I9 st.h.get ps kp lp:=hP;replace hn:XE st.h.get (.mk o s z a l) _:=hn;have hbk:=hK.YZ;have hbd:=hD.YZ;have hbp:=hP.YZ;have hlp:=hP.ln;refine Yu Tryz.func13 Tryz.ntmps13 fun T K=>?_;have M:=Mem.start hf;refine Qc 0 K M fun _ K=>?_;refine J3 K M rfl (Qa hD.cell (Qa hP.cell (Qa rfl (Qa rfl (Qa rfl (Qa rfl (Qa hK.cell Qo))))))) QT fun c1 _ _ K M=>?_;refine Qc 3 K M fun _ K=>?_;refine oQ K M (L9 M.fresh (Xi.mono M.rows hD)) rfl rfl fun _ _ K M=>?_;refine oB K (Q9 rfl) rfl fun b6 _ e6 K=>?_;cases b6
 ·refine Qc 11 K M ?_;refine⟨congrArg AV.bool ?_,M.qt⟩;rw[Fu]
  try simp only[O7]at *
  try clear hr
  try clear hr0
  try clear hD
  try clear hP
  try clear hn
  try clear hK
  try clear hb
  try generalize ds.all Vh=q1 at *
  try generalize ps.all En=q4 at *
  try generalize ZF (.mk o s z a l) 2000=q2 at *
  try generalize Jw (.mk o s z a l)=q3 at *
  simp_all<;>first|done|rfl|omega|(intros;omega)|(intros;simp_all;done)
 refine Qc 2 K M fun _ K=>?_
 obtain⟨v9,st9,ev9,rfl,q9⟩:=H3 (fa:=[]) (fc:=[]) (p:=fun k=> !En k) M.fresh (I9.mono M.rows hP) (fun k hk st1 cs q hr1=>by
  obtain⟨pn,pp,⟨o1,s1,z1,a1,l1⟩,pa⟩:=k
  exact vj q.fresh hr1)
 refine pg K rfl rfl (Qe rfl ev9) fun _ K=>?_;replace M:=M.quiet q9;refine Qc 2 K M fun _ K=>?_;refine oB K (Q9 rfl) rfl fun b12 _ e12 K=>?_;cases b12
 ·replace e12:(ps.any fun k=> !En k)=true:=by simpa using e12
  refine Qc 5 K M ?_;refine⟨congrArg AV.bool ?_,M.qt⟩;rw[Fu]
  try simp only[O7]at *
  try clear hr
  try clear hr0
  try clear hD
  try clear hP
  try clear hn
  try clear hK
  try clear hb
  try generalize ds.all Vh=q1 at *
  try generalize ps.all En=q4 at *
  try generalize ZF (.mk o s z a l) 2000=q2 at *
  try generalize Jw (.mk o s z a l)=q3 at *
  simp_all<;>first|done|rfl|omega|(intros;omega)|(intros;simp_all;done)
 replace e12:(ps.any fun k=> !En k)=false:=by simpa using e12
 refine Qc 2 K M fun _ K=>?_;obtain⟨v15,st15,ev15,rfl,q15⟩:=Hr M.fresh (hn.mono M.rows);refine pg K rfl rfl (Qe rfl ev15) fun _ K=>?_;replace M:=M.quiet q15;refine Qc 2 K M ?_;refine⟨congrArg AV.bool ?_,M.qt⟩;rw[Fu]
 try simp only[O7]at *
 try clear hr
 try clear hr0
 try clear hD
 try clear hP
 try clear hn
 try clear hK
 try clear hb
 try generalize ds.all Vh=q1 at *
 try generalize ps.all En=q4 at *
 try generalize ZF (.mk o s z a l) 2000=q2 at *
 try generalize Jw (.mk o s z a l)=q3 at *
 simp_all<;>first|done|rfl|omega|(intros;omega)|(intros;simp_all;done)

end
section
open Go Go.RowKit
variable {i:Nat} {k:Nd} {l:List Nd}

def Nd.place:Nd→Int
 |.mk _ _ _ a _=>a
def JA(l:List Dc)(s:List Nat):Int:=l.foldl (fun r d=>if d.name=s then d.order else r) (-1)
theorem XL(l:List Dc)(d:Dc)(s:List Nat):JA (l++[d]) s=if d.name=s then d.order else JA l s:=by
 unfold JA;rw[List.foldl_append];rfl
theorem Lt{l:List Dc}{d:Dc}(h:l[i]? =some d)(s:List Nat):JA (l.take (i+1)) s=if d.name=s then d.order else JA (l.take i) s:=by
 have:l.take (i+1)=l.take i++[d]:=by rw[List.take_add_one,h];rfl
 rw[this,XL]
mutual
def QB (sc : List Dc) : Nd → Int × Int × Int
  | .mk op name _ a kids =>
    if op = [118, 97, 114] then (if JA sc name < 0 then (0, a, 5) else (JA sc name, 0, 0))
    else if op = [110, 117, 109] then (1, 0, 0)
    else match Zq sc (decide (op = [112, 108, 117, 115])) a (if op = [112, 108, 117, 115] ∨ op = [115, 101, 116] then 1 else 2) kids with
      | some r => (0, r.1, r.2)
      | none => (if op = [112, 108, 117, 115] then 1 else 2, 0, 0)
def Zq (sc : List Dc) (pl : Bool) (a want : Int) : List Nd → Option (Int × Int)
  | [] => none
  | k :: l => if (QB sc k).2.2 ≠ 0 then some ((QB sc k).2.1, (QB sc k).2.2)
    else if (QB sc k).1 ≠ want then some (if pl then a else k.place, 7)
    else Zq sc pl a want l
end
def Yn(op:List Nat):Int×Int:=if op=[108,116]∨op=[108,101]then(1,1)else if op=[105,110]∨op=[110,111,116,105,110]then(1,2)else(2,2)
def UD(sc:List Dc)(op:List Nat)(a:Int)(k j:Nd):Int×Int:=
 if(QB sc k).2.2≠0 then((QB sc k).2.1,(QB sc k).2.2)
 else if(QB sc j).2.2≠0 then((QB sc j).2.1,(QB sc j).2.2)
 else if op=[101,113]∨op=[110,101]then(if(QB sc k).1=(QB sc j).1∧0<(QB sc k).1 then(0,0)else(a,7))
 else if((QB sc k).1,(QB sc j).1)=Yn op then(0,0)else(a,7)
def Aa(sc:List Dc)(a:Int):List Dc→List Nd→Int×Int
 |d::ds,k::l=>if(QB sc k).2.2≠0 then((QB sc k).2.1,(QB sc k).2.2)else if(QB sc k).1≠d.order then(a,7)else Aa sc a ds l
 |_,_=>(0,0)
def XQ(ps:List Pd)(sc:List Dc)(name:List Nat)(a:Int)(kids:List Nd):Int×Int:=
 match ps.find? (fun p=>decide (p.name=name))with
 |none=>(a,5)
 |some p=>if p.params.length≠kids.length then(a,7)else Aa sc a p.params kids
def Zd(op:List Nat):Bool:=oneOf op [[101,113],[110,101],[108,116],[108,101],[105,110],[110,111,116,105,110],[115,117,98]]
mutual
def YJ(ps:List Pd):Nd→List Dc→Int×Int
 |.mk op name n a kids,sc=>
  if op=[105,115]then(if JA sc name= -1 then(a,5)else if JA sc name=0 then(0,0)else(a,7))
  else if op=[99,97,108,108]then XQ ps sc name a kids
  else if Zd op then(match kids with
   |[k,j]=>UD sc op a k j
   |_=>(0,0))
  else Ow ps kids (if op=[101,120]∨op=[97,108,108]then sc++[⟨name,n,0⟩]else sc)
def Ow(ps:List Pd):List Nd→List Dc→Int×Int
 |[],_=>(0,0)
 |k::l,sc=>if(YJ ps k sc).2≠0 then YJ ps k sc else Ow ps l sc
end
def Ue:List Dc→List Dc→Option Int
 |_,[]=>none
 |pre,d::l=>if 0≤JA pre d.name then some d.at_ else Ue (pre++[d]) l
def EL:List Pd→List Pd→Option (Int×Int)
 |_,[]=>none
 |pre,p::l=>if pre.any (fun q=>decide (q.name=p.name))then some (p.at_,6)else match Ue [] p.params with
  |some a=>some (a,6)
  |none=>if(YJ pre p.body p.params).2≠0 then some (YJ pre p.body p.params)else EL (pre++[p]) l
def UH(p:Pg):Int×Int:=
 if Em p then match Ue [] p.decls with
  |some a=>(a,6)
  |none=>match EL [] p.preds with
   |some r=>r
   |none=>YJ p.preds p.main p.decls
 else(0,1)
theorem Ih{sc:List Dc}{pl:Bool}{a want:Int}(h:l[i]? =some k):Zq sc pl a want (l.drop i)=if(QB sc k).2.2≠0 then some ((QB sc k).2.1,(QB sc k).2.2)else if(QB sc k).1≠want then some (if pl then a else k.place,7)else Zq sc pl a want (l.drop (i+1)):=by
 obtain⟨h1,h2⟩:=List.getElem?_eq_some_iff.1 h;rw[List.drop_eq_getElem_cons h1,Zq,h2]
theorem Bl{ps:List Pd}{sc:List Dc}(h:l[i]? =some k):Ow ps (l.drop i) sc=if(YJ ps k sc).2≠0 then YJ ps k sc else Ow ps (l.drop (i+1)) sc:=by
 obtain⟨h1,h2⟩:=List.getElem?_eq_some_iff.1 h;rw[List.drop_eq_getElem_cons h1,Ow,h2]
theorem I3{sc:List Dc}{a:Int}{ds:List Dc}{d:Dc}(hd:ds[i]? =some d)(h:l[i]? =some k):Aa sc a (ds.drop i) (l.drop i)=if(QB sc k).2.2≠0 then((QB sc k).2.1,(QB sc k).2.2)else if(QB sc k).1≠d.order then(a,7)else Aa sc a (ds.drop (i+1)) (l.drop (i+1)):=by
 obtain⟨h1,h2⟩:=List.getElem?_eq_some_iff.1 h;obtain⟨h3,h4⟩:=List.getElem?_eq_some_iff.1 hd;rw[List.drop_eq_getElem_cons h1,List.drop_eq_getElem_cons h3,Aa,h2,h4]
theorem Ll{l:List Dc}{d:Dc}(h:l[i]? =some d):Ue (l.take i) (l.drop i)=if 0≤JA (l.take i) d.name then some d.at_ else Ue (l.take (i+1)) (l.drop (i+1)):=by
 obtain⟨h1,h2⟩:=List.getElem?_eq_some_iff.1 h
 have:l.take (i+1)=l.take i++[d]:=by rw[List.take_add_one,h];rfl
 rw[List.drop_eq_getElem_cons h1,Ue,h2,this]
theorem TE{l:List Pd}{p:Pd}(h:l[i]? =some p):EL (l.take i) (l.drop i)=if(l.take i).any (fun q=>decide (q.name=p.name))then some (p.at_,6)else match Ue [] p.params with
  |some a=>some (a,6)
  |none=>if(YJ (l.take i) p.body p.params).2≠0 then some (YJ (l.take i) p.body p.params)else EL (l.take (i+1)) (l.drop (i+1)):=by
 obtain⟨h1,h2⟩:=List.getElem?_eq_some_iff.1 h
 have:l.take (i+1)=l.take i++[p]:=by rw[List.take_add_one,h];rfl
 rw[List.drop_eq_getElem_cons h1,EL,h2,this]
end
section
open Go
variable {a b:Code} {n t1 t2:Nat} {te ts:TypeId}

section
variable {P:Program} {G:Env} {N:Nat} {T:Tr AV} {st:St} {Q:Ex→Tr AV→St→Prop}
def RP(Q:Ex→Tr AV→St→Prop)(T:Tr AV)(J:St→Prop):Ex→Tr AV→St→Prop:=fun y _ st=>match y with
 |.nor=>J st
 |.exit id=>Q (.exit id) T st
 |.ret=>Q .ret T st
theorem G6{β:Type}{d:Nat}{v:AV}{T:Tr AV}{k:Tr AV→Option β}(h:Nat.ble (d+1) N=true):E4 N (some d) v T k=k (T.set d v):=by
 show QZ (Nat.ble (d+1) N) (T.put d v k)=_;rw[h,Tr.put_eq];rfl
theorem MS{β:Type}{i v:AV}{T:Tr AV}{k:Tr AV→Option β}:Kz N [t1,t2] i v T k=E4 N (some t1) i T fun T=>E4 N (some t2) v T k:=rfl
theorem OG{x:AV}(h1:Nat.ble (t1+1) N=true)(h2:Nat.ble (t2+1) N=true)(J:Nat→St→Prop)
  (hround: ∀i st,i<n→J (i+1) st→ ∃s q v,JD P ts x st.h.get=some s∧UF P ts s (.int .i64 (Int.ofNat i))=some q∧JD P te q st.h.get=some v∧W P G N a (fun e T' st'=>e=.nor∧W P G N b (RP Q T (J i)) T' st') ((T.set t1 (.int .i64 (Int.ofNat i))).set t2 v) st)
  (hend: ∀st,J 0 st→Q .nor T st): ∀i st,i≤n→J i st→ ∃L m e st',WX P N ts te x [t1,t2] (codeF P G (JT P G L m) N L a) (codeF P G (JT P G L m) N L b) T i st=some (e,T,st')∧Q e T st':=by
 intro i
 induction i with
 |zero=>intro st _ hJ;exact⟨0,0,.nor,st,rfl,hend st hJ⟩
 |succ i ih=>
  intro st hi hJ;obtain⟨s,q,v,e1,e2,e3,L,m,ex,T1,st1,h3,rfl,L',m',ey,T2,st2,h4,h5⟩:=hround i st hi hJ
  have key: ∀L0 m0,L≤L0→m≤m0→L'≤L0→m'≤m0→WX P N ts te x [t1,t2] (codeF P G (JT P G L0 m0) N L0 a) (codeF P G (JT P G L0 m0) N L0 b) T (i+1) st=
    Ex.rec (tl (WX P N ts te x [t1,t2] (codeF P G (JT P G L0 m0) N L0 a) (codeF P G (JT P G L0 m0) N L0 b) T i st2)) (fun id=>some (.exit id,T,st2)) (some (.ret,T,st2)) ey:=by
   intro L0 m0 hL hm hL' hm'
   show(ob (JD P ts x st.h.get) fun s=>ob (UF P ts s (.int .i64 (Int.ofNat i))) fun q=>ob (JD P te q st.h.get) fun v=>
    Kz N [t1,t2] (.int .i64 (Int.ofNat i)) v T fun T1=>ob (codeF P G (JT P G L0 m0) N L0 a T1 st) fun r=>Ex.rec (ob (codeF P G (JT P G L0 m0) N L0 b r.2.1 r.2.2) fun q=>Ex.rec (tl (WX P N ts te x [t1,t2] (codeF P G (JT P G L0 m0) N L0 a) (codeF P G (JT P G L0 m0) N L0 b) T i q.2.2)) (fun id=>some (.exit id,T,q.2.2)) (some (.ret,T,q.2.2)) q.1) (fun _=>none) none r.1)=_
   rw[e1,Q1,e2,Q1,e3,Q1];rw[MS,G6 h1,G6 h2,Zx hL hm h3,Q1];show(ob (codeF P G (JT P G L0 m0) N L0 b T1 st1) _)=_;rw[Zx hL' hm' h4,Q1]
  cases ey with
  |nor=>
   obtain⟨L2,m2,e,st3,h6,h7⟩:=ih st2 Qh h5;refine⟨max (max L L') L2,max (max m m') m2,e,st3,?_,h7⟩;rw[key _ _ Qh Qh Qh Qh];exact O6 (fun T st r h=>Zx Qh Qh h) (fun T st r h=>Zx Qh Qh h) i st2 _ h6
  |exit id=>exact⟨max L L',max m m',_,st2,key _ _ Qh Qh Qh Qh,h5⟩
  |ret=>exact⟨max L L',max m m',_,st2,key _ _ Qh Qh Qh Qh,h5⟩
theorem yA{g:Operand}{ps:Array Tmp}{f:FuncId}{x s0:AV}(hp:Qp (Zh a) (Zh b) false=true)(hps:ps.toList=[t1,t2])(h1:Nat.ble (t1+1) N=true)(h2:Nat.ble (t2+1) N=true)
  (hg:Ug G T g=some (.fn f [] [x])) (hb:G.b f=some (ts,te)) (hs:JD P ts x st.h.get=some s0) (hl:Ke P [ts] s0=some (.int .i64 (n:Nat))) (hn:n≤Vc) (J:Nat→St→Prop) (h0:J n st)
  (hround: ∀i st,i<n→J (i+1) st→ ∃s q v,JD P ts x st.h.get=some s∧UF P ts s (.int .i64 (Int.ofNat i))=some q∧JD P te q st.h.get=some v∧W P G N a (fun e T' st'=>e=.nor∧W P G N b (RP Q T (J i)) T' st') ((T.set t1 (.int .i64 (Int.ofNat i))).set t2 v) st)
  (hend: ∀st,J 0 st→Q .nor T st):W P G N (.rangeFunc g ps a b) Q T st:=by
 obtain⟨L,m,e,st',h3,h4⟩:=OG (P:=P) (G:=G) (Q:=Q) (ts:=ts) (te:=te) (x:=x) h1 h2 J hround hend n st (Nat.le_refl _) h0;refine⟨L,m,e,T,st',?_,h4⟩;show Ft P G N g ps.toList (Qp (Zh a) (Zh b) false) (codeF P G (JT P G L m) N L a) (codeF P G (JT P G L m) N L b) T st=_;unfold Ft;rw[hp,Jy,hg,Q1];simp only[hb,Q1,hs,hl];have ht:AP ((n:Nat):Int)=some n:=Tm n;rw[ht,Q1,Nat.ble_eq_true_of_le hn,Jy,hps];exact h3
theorem wG{t:TypeId}{c m off len z z':Nat}{j:Nat}(he:UA P t=some z)(hj:j<len):UF P t (.sl c m off len z') (.int .i64 (Int.ofNat j))=some (.ptr c m (off+j *z)):=by
 show(ob (AP (j:Int)) fun i=>QZ (Nat.ble (i+1) len) (ob (UA P t) fun z=>Ye (off+i *z) fun o=>some (AV.ptr c m o)))=_;show(QZ (Nat.ble (j+1) len) (ob (UA P t) fun z=>Ye (off+j *z) fun o=>some (AV.ptr c m o)))=_;rw[Nat.ble_eq_true_of_le hj,he];show(Ye (off+j *z) fun o=>some (AV.ptr c m o))=_;rw[Ju]
theorem wD{t e:TypeId}{u:AV}(ht:P.underlying t=some (.slice e))(hn:XI u=some n):Ke P [t] u=some (.int .i64 (n:Int)):=by
 cases u<;>simp only[XI]at hn<;>first|(cases hn;done)|skip
 all_goals
  injection hn with hn
  subst hn;unfold Ke;simp only[ht];rfl
theorem qg{K0:List (Nat×AV)}{g:Operand}{ps:Array Tmp}{z c:Nat}{f:FuncId}{ks:AV}{e:TypeId}(hK:Jr K0 T)(hg:JF G K0 g=some (.fn f [] [.ptr c 0 0]))(hp:Qp (Zh a) (Zh b) false=true)(hps:ps.toList=[t1,t2])(h1:Nat.ble (t1+1) N=true)(h2:Nat.ble (t2+1) N=true)
  (hb:G.b f=some (ts,te)) (hs:JD P ts (.ptr c 0 0) st.h.get=some ks) (ht:P.underlying ts=some (.slice e)) (he:UA P ts=some z) (hte:tk P te=.agg z) (hl:XI ks=some n) (hn:(n:Int)≤9223372036854775807) (J:Nat→St→Prop) (h0:J n st)
  (hround: ∀i st1,i<n→J (i+1) st1→JD P ts (.ptr c 0 0) st1.h.get=some ks∧ ∃X ls cs,QS st1.h.get X z ls ks∧ls[i]? =some cs∧ ∀T1,Jr ((t2,.agg cs)::(t1,.int .i64 (i:Nat))::K0) T1→W P G N a (fun e T' st'=>e=.nor∧W P G N b (RP Q T (J i)) T' st') T1 st1)
  (hend: ∀st1,J 0 st1→Q .nor T st1):W P G N (.rangeFunc g ps a b) Q T st:=by
 refine yA (f:=f) (x:=.ptr c 0 0) (s0:=ks) hp hps h1 h2 (hK.Ug hg) hb hs (wD ht hl) (by have:(Vc:Int)=9223372036854775807:=rfl;omega) J h0 (fun i st1 hi hJ=>?_) hend;obtain⟨h3,X,ls,cs,r,h4,h5⟩:=hround i st1 hi hJ;obtain⟨c',m,off,rfl,_,h6,_⟩:=r.load (P:=P) h4;have hi':i<ls.length:=(List.getElem?_eq_some_iff.1 h4).1;exact⟨_,_,_,h3,wG he hi',h6 te hte,h5 _ ((hK.set t1 _).set t2 _)⟩
end
end
section
open Go Go.RowKit

theorem Rj(l:List Dc)(s:List Nat):JA (l.take l.length) s=JA l s:=by rw[List.take_length]
theorem MR{st:St}(hf:Qw st){kd:AV}(hc:Jl kd=true): ∃v st',Ev Tryz.prog QR 56 [kd] st v st'∧ ∃c,v=.fn 76 [] [.ptr c 0 0]∧Qt st st'∧Jj st'.h.get c 0 [kd]∧st.n≤c:=by
 refine Yu Tryz.func56 Tryz.ntmps56 fun T K=>?_;have M:=Mem.start hf;refine Qc 0 K M fun _ K=>?_;refine J3 K M rfl (Ox hc) QT fun c1 _ _ K M=>?_;replace M:=Mem.cast (M':=[(c1,0,[kd])]) M (congrArg (fun q=>(c1,0,q)::[]) (W0 (hc)));refine Qc 1 K M fun _ K=>?_;refine p1 K (IT rfl rfl) fun _ K=>?_;refine Qc 1 K M ?_;exact⟨_,rfl,M.qt,M.Qn (k:=0) rfl,(M.own c1 0 [kd] Q3).resolve_right Q3⟩

theorem N8{st:St}(hf:Qw st){sc:List Dc}{kd:AV}{ld:List (List AV)}(hD:Xi st.h.get sc kd ld)(nm:List Nat): ∃v st',Ev Tryz.prog QR 32 [kd,.str nm] st v st'∧v=.int .i64 (JA sc nm)∧Qt st st':=by
 have hln:=hD.ln;have hbn:=hD.YZ;refine uC rfl Tryz.func32 rfl Tryz.ntmps32 rfl fun T hT=>?_;have K:Jr [(0,_),(1,_)] T:=(.cons (hT 0) (.cons (hT 1) .nil));have M:=Mem.start hf;refine au 3 K M ?_;intro c3 c4 _ _ K _ M;obtain⟨v8,st8,ev8,c8,rfl,q8,r8,l8⟩:=MR M.fresh hD.cell;refine p1 K (Qe rfl ev8) fun _ K=>?_;replace M:=M.XQ q8 r8 l8;refine Y5 ?_;show W _ _ _ _ _ _ _;refine Wh ?_;have K9:=K;refine qg K rfl rfl rfl QT QT rfl (M.load (k:=0) rfl (Qj Yt rfl)) Ux Zw VA hD.len hD.YZ (fun i st9=>Mem st.h.get st.n [] st9 [(c8,0,[kd]),(c4,0,[.int .i64 0]),(c3,0,[.str nm])]∧JA sc nm=JA (sc.take i) nm) ⟨M,(by rw[Rj])⟩ (fun i st9 hi hJ=>?_) (fun st9 hJ=>?_)
 ·obtain⟨M,hx⟩:=hJ;obtain⟨⟨dn10,do10,da10⟩,hi10⟩: ∃k,sc[i]? =some k:=⟨_,List.getElem?_eq_getElem Qh⟩;have hm10:=Er hi10;obtain⟨_,hc10,rfl,hy10⟩:=hD.at_ _ _ hi10;refine⟨M.load (k:=0) rfl (Qj Yt rfl),_,_,_,(hD.r.mem M Q3),hc10,fun T hT=>?_⟩;have K:=hT;refine au 2 K M ?_;intro c6 _ _ K _ M;refine⟨rfl,?_⟩;refine Qc 4 K M fun _ K=>?_;refine Xj K rfl (fun h14=>?_) fun h14=>?_
  ·refine au 3 K M ?_;intro _ _ K _ M;refine Jv ?_;have K:=K9;refine⟨.inr rfl,_,(Am (JC K rfl (M.load (k:=2) rfl (Qj QH rfl)))),?_⟩;exact⟨by rw[hx,Lt hi10,if_pos h14],M.qt⟩
  refine JM ?_;exact⟨M.less (.cons _ (.refl _)),(by rw[hx,Lt hi10,if_neg h14])⟩
 obtain⟨M,hx⟩:=hJ;show W _ _ _ _ _ _ _;refine au 1 K M ?_;intro _ _ K _ M;refine Jv ⟨.inr rfl,_,(Am (JC K rfl (M.load (k:=1) rfl (Qj QH rfl)))),?_⟩;exact⟨by rw[hx];rfl,M.qt⟩

end
end Go.Proofs.YtaomhhkflohhgaaGreatDoor
