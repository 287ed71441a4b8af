/-
  Kinds of formulas: the program's answer.
-/
import Derived.Test.YtaomhhkflohhgaaGreatDoorMgKnP
namespace Go.Proofs.YtaomhhkflohhgaaGreatDoor
open Go Go.RowKit
set_option maxHeartbeats 8000000
set_option linter.unusedVariables false
set_option linter.unusedSimpArgs false
set_option linter.unnecessarySimpa false
set_option maxRecDepth 100000
variable {a z:Int} {h:Hp} {kb:AV} {l:List Nd} {ls:List (List AV)} {o s:List Nat} {st:St}

theorem Xi.three{l:List Dc}(H:Xi h l kb ls): ∀cs∈ls,cs.length=3:=by
 intro cs hm;obtain⟨i,hi,e⟩:=List.mem_iff_getElem.1 hm
 have hl:i<l.length:=by rw[←H.ln];exact hi
 obtain⟨cs',h1,h2,_⟩:=H.at_ i _ (List.getElem?_eq_getElem hl);rw[List.getElem?_eq_getElem hi]at h1
 injection h1 with h1
 rw[←e,h1,h2];rfl
def vJ(l:List Dc)(ls:List (List AV)):Prop:=ls.length=l.length∧ ∀(i:Nat) (k:Dc),l[i]? =some k→ ∃cs,ls[i]? =some cs∧eo k cs
theorem Xi.vM{l:List Dc}(H:Xi h l kb ls):vJ l ls:=⟨H.ln,H.at_⟩
theorem vJ.ds{l:List Dc}(H:vJ l ls)(r:QS h [] 3 ls kb):Xi h l kb ls:=⟨r,H.1,H.2⟩
theorem vJ.snoc{l:List Dc}(H:vJ l ls)(hb:Bytes s):vJ (l++[⟨s,z,0⟩]) (ls++[[.str s,.int .i64 z,.int .i64 0]]):=
 ⟨by rw[List.length_append,List.length_append,H.1];rfl,fun i k hi=>by
  by_cases hl:i<l.length
  ·rw[List.getElem?_append_left hl]at hi;obtain⟨cs,h1,h2⟩:=H.2 i k hi;exact⟨cs,by rw[List.getElem?_append_left (by rw[H.1];exact hl)];exact h1,h2⟩
  ·rw[List.getElem?_append_right Qh]at hi
   have h0:i-l.length=0:=by
    by_cases h:i-l.length=0
    ·exact h
    ·rw[List.getElem?_eq_none (by simp;omega)]at hi;cases hi
   rw[h0]at hi
   injection hi with hi
   subst hi
   exact⟨_,by rw[List.getElem?_append_right (by rw[H.1];omega),H.1,h0];rfl,rfl,hb⟩⟩
theorem Mem.vE{h0:Hp}{n0 z:Nat}{L A B:List (Nat×Nat×List AV)}{ks:AV}(hM:Mem h0 n0 [] st (L++(A++B)))(h:Acc n0 z A ks ls∨(A=[]∧QS h0 [] z ls ks)):QS st.h.get [] z ls ks:=by
 rcases h with h|⟨_,h⟩
 ·exact hM.LJ h
 ·exact QS.mem hM h Q3
theorem Zn(ps:List Pd)(op name:List Nat)(n a:Int)(kids:List Nd)(sc:List Dc):YJ ps (.mk op name n a kids) sc=if op=[105,115]then(if JA sc name= -1 then(a,5)else if JA sc name=0 then(0,0)else(a,7))
  else if op=[99,97,108,108]then XQ ps sc name a kids
  else if Zd op then(match kids with
   |[k,j]=>UD sc op a k j
   |_=>(0,0))
  else Ow ps kids (if op=[101,120]∨op=[97,108,108]then sc++[⟨name,n,0⟩]else sc):=by
 rcases kids with _|⟨k,_|⟨j,_|⟨m,l⟩⟩⟩<;>rw[YJ]<;>first|rfl|(intro k j h;cases h)
theorem Zl(h:Jw (.mk o s z a l)=true)(ho:Zd o=true): ∃k j,l=[k,j]∧ ∀x∈l,QO x=true:=by
 have key:l.length=2∧l.all QO=true:=by
  rw[J7]at h;unfold Zd at ho;simp only[oneOf,List.any_cons,List.any_nil,Bool.or_false,Bool.or_eq_true,decide_eq_true_eq]at ho
  rcases ho with rfl|rfl|rfl|rfl|rfl|rfl|rfl<;>simp[oneOf,J4]at h<;>exact⟨by omega,by simp;exact h.2⟩
 obtain⟨h1,h2⟩:=key
 match l,h1 with
 |[k,j],_=>exact⟨k,j,rfl,by simpa using h2⟩
theorem Ip(h:Jw (.mk [99,97,108,108] s z a l)=true): ∀x∈l,QO x=true:=by
 rw[J7]at h;simp[oneOf]at h;intro x hx;exact h.2.2.2 x hx
theorem KX(h:Jw (.mk o s z a l)=true)(h1:o≠[105,115])(h2:o≠[99,97,108,108])(h3:Zd o=false): ∀x∈l,Jw x=true:=by
 rw[J7]at h;unfold Zd at h3;intro x hx
 split at h
 ·simp[J4]at h;simp[h.2.2]at hx
 split at h
 ·simp at h;exact h.2 x hx
 split at h
 ·simp at h;exact h.2 x hx
 split at h
 ·simp at h;exact h.2.2.2.2 x hx
 split at h
 ·rename_i h9;rw[h9]at h3;cases h3
 ·cases h

theorem Oo(hf:Qw st){sc:List Dc}{kd:AV}{ld:List (List AV)}(hD:Xi st.h.get sc kd ld)(hl:sc.length≤1000000): ∃v st',Ev Tryz.prog QR 36 [kd] st v st'∧ ∃ks,v=ks∧OE st st' 3 ks ld∧Qt st st':=by
 have hln:=hD.ln;refine Yu Tryz.func36 Tryz.ntmps36 fun T K=>?_;have M:=Mem.start hf;refine Qc 2 K M fun _ K=>?_;refine p1 K (TO hD.len Ux rfl rfl) fun _ K=>?_;refine Qc 0 K M fun _ K=>?_;refine JU K rfl (fun h4=>?_) fun h4=>?_
 ·have hb4:=h4;refine Qc 1 K M ?_
  have hbl:ld=[]:=by
   have h:=hD.r.len;rw[zm h4]at h
   injection h with h
   exact List.length_eq_zero_iff.1 h.symm
  exact⟨.nils,rfl,⟨[],by rw[hbl];exact .none,fun _ _ _ h=>by cases h⟩,M.qt⟩
 have hb4:=h4;refine au 2 K M ?_;intro c5 _ _ K _ M;replace M:=Mem.cast (M':=([(c5,0,[])]++[])) (Mem.perm M (List.perm_append_comm (l₁:=[(c5,0,[])]))) Za;have hA0c5:Acc st.n 3 [(c5,0,[])] (.sl c5 0 0 0 3) []:=Acc.own (n0:=st.n) (z:=3) (c:=c5) (m:=0) (ls:=[]) ((M.own c5 0 [] Q3).resolve_right Q3) Q3 Q3;refine Bv (L:=[]) (A:=[(c5,0,[])]) (B:=[]) K M hA0c5 JZ rfl rfl (hD.r.mem M Q3) (Xi.three hD) (by simp only[List.length_nil];omega) rfl fun ks7 A7 _ _ K hA7 M=>?_;refine Qc 1 K M ?_;refine⟨_,rfl,?_,M.qt⟩;have h:=Mem.jI (L:=[]) (B:=[]) M hA7
 simpa using h

theorem uZ{pn:List Nat}{pp:List Dc}{pa:Int}{cs:List AV}(hf:Qw st)(hr:MY st.h.get ⟨pn,pp,.mk o s z a l,pa⟩ cs){c5:Nat}{o5 s5:List Nat}{z5 a5:Int}{kk5:AV}(h5:Z9 st.h.get c5 0 [.str o5,.str s5,iZ z5,iZ a5,kk5]): ∃v st',Ev Tryz.prog QR 57 [.agg cs,.ptr c5 0 0] st v st'∧v=.bool (decide (pn=s5))∧Qt st st':=by
 have hr0:=hr;have hr0:=hr;obtain⟨kd,ld,o,s,z,a,kk,rfl,hD,hn,hy⟩:=hr0;obtain⟨kx,ls,ex,hK,hb⟩:=hn.Jn
 injection ex with x1 x;injection x with x2 x;injection x with x3 x;injection x with x4 x;injection x with x5 x
 injection x1 with x1;injection x2 with x2;injection x3 with _ x3;injection x4 with _ x4
 subst x1 x2 x3 x4 x5;replace hD:Xi st.h.get pp kd ld:=hD;replace hn:XE st.h.get (.mk o s z a l) _:=hn;replace hy:Bytes pn:=hy;have hl:=hK.YZ;have hd:=hD.YZ;refine Yu Tryz.func57 Tryz.ntmps57 fun T K=>?_;have M:=Mem.start hf;refine Qc 0 K M fun _ K=>?_;refine J3 K M rfl (Qa rfl (Qa hD.cell (Qa rfl (Qa rfl (Qa rfl (Qa rfl (Qa hK.cell (Qa rfl Qo)))))))) QT fun c2 _ _ K M=>?_;refine Qc 4 K M fun _ K=>?_;refine p1 K (QW rfl (Yh (M.rows _ _ _ h5) (Qj J0 rfl))) fun _ K=>?_;refine Qc 2 K M ?_;exact⟨rfl,M.qt⟩

theorem ub{cs:List AV}(hf:Qw st){cc:Nat}{ps:List Pd}{kp:AV}{lp:List (List AV)}(hC:Z9 st.h.get cc 0 [kp])(hP:I9 st.h.get ps kp lp){sc:List Dc}{kd:AV}{ld:List (List AV)}(hD:Xi st.h.get sc kd ld)(hr:XE st.h.get (.mk o s z a l) cs)(hTm: ∀k∈l,QO k=true): ∃v st',Ev Tryz.prog QR 34 [.ptr cc 0 0,kd,.agg cs] st v st'∧v=pT (XQ ps sc s a l)∧Qt st st':=by
 have hr0:=hr;obtain⟨kk,ls,rfl,hK,hb⟩:=hr.Jn;have hln:=hK.ln;have hbn:=hK.YZ;have hlp:=hP.ln;have hbp:=hP.YZ;refine Yu Tryz.func34 Tryz.ntmps34 fun T K=>?_;have M:=Mem.start hf;refine Qc 0 K M fun _ K=>?_;refine J3 K M rfl (Qa rfl (Qa rfl (Qa rfl (Qa rfl (Qa hK.cell Qo))))) QT fun c5 _ _ K M=>?_;refine Qc 5 K M fun _ K=>?_;refine p1 K (QW rfl (Yh (M.rows _ _ _ hC) (Qj UB rfl))) fun _ K=>p1 K (IT rfl rfl) fun _ K=>?_
 obtain⟨v20,st20,ev20,rfl,q20⟩:=Im (fa:=[]) (fc:=[.ptr c5 0 0]) (p:=fun p:Pd=>decide (p.name=s)) M.fresh (I9.mono M.rows hP) (fun k hk st1 cs q hr1=>by
  obtain⟨pn9,pp9,⟨o9,s9,z9,a9,l9⟩,pa9⟩:=k
  exact uZ q.fresh hr1 ((Jj.YQ (M.Qn (k:=0) rfl)).Us M.fresh (q.Us []) Q3))
 refine p1 K (Qe rfl ev20) fun _ K=>?_;replace M:=M.quiet q20;obtain⟨fi,hfi⟩: ∃fi,fi=Xa (fun p:Pd=>decide (p.name=s)) ps 0:=⟨_,rfl⟩;rw[←hfi]at K
 have hfb:(fi= -1∧ps.find? (fun p=>decide (p.name=s))=none)∨(0≤fi∧fi<((ps.length:Nat):Int)∧ps.find? (fun p=>decide (p.name=s))=ps[fi.toNat]?):=by
  rcases GV (fun p:Pd=>decide (p.name=s)) ps 0 with⟨h1,h2⟩|⟨j,k,h1,h2,h3⟩
  ·exact .inl ⟨by rw[hfi,h1],h2⟩
  ·have h4:=(List.getElem?_eq_some_iff.1 h2).1
   have h5:fi.toNat=j:=by rw[hfi,h1];omega
   exact .inr ⟨by rw[hfi,h1];omega,by rw[hfi,h1];omega,by rw[h3,h5,h2]⟩
 refine Qc 3 K M fun _ K=>?_;refine Xj K rfl (fun h22=>?_) fun h22=>?_
 ·refine Qc 4 K M ?_;refine⟨congrArg pT (a₁:=(a,5)) (a₂:=XQ ps sc s a l) (Eq.symm ?_),M.qt⟩;exact RD (by rcases hfb with h|h;exact h.2;omega)
 refine Qc 3 K M fun _ K=>?_;refine p1 K (QW rfl (Yh (M.rows _ _ _ hC) (Qj UB rfl))) fun _ K=>?_;refine Qc 1 K M fun _ K=>?_;obtain⟨⟨pn30,pp30,⟨_,_,_,_,l30⟩,pa30⟩,hi30⟩: ∃k,ps[fi.toNat]? =some k:=⟨_,List.getElem?_eq_getElem Qh⟩;have hm30:=Er hi30;obtain⟨_,hc30,hP30⟩:=hP.at_ _ _ hi30;have hP300:=hP30;obtain⟨kd30,ld30,o30,s30,z30,a30,kk30,rfl,hD30,hn30,hy30⟩:=hP300;obtain⟨kx30,ls30,ex30,hK30,hb30⟩:=hn30.Jn
 injection ex30 with x1 x;injection x with x2 x;injection x with x3 x;injection x with x4 x;injection x with x5 x
 injection x1 with x1;injection x2 with x2;injection x3 with _ x3;injection x4 with _ x4
 subst x1 x2 x3 x4 x5;replace hD30:Xi st.h.get pp30 kd30 ld30:=hD30;replace hn30:XE st.h.get (.mk o30 s30 z30 a30 l30) _:=hn30;replace hy30:Bytes pn30:=hy30;have hl30:=hK30.YZ;have hd30:=hD30.YZ;obtain⟨x30,m30,f30,q30,_,la30,lo30,lp30⟩:=(hP.r.mem M Q3).load (i:=fi.toNat) (cs:=_) hc30;refine p1 K (Q5 (j:=fi.toNat) Xy (congrArg some q30) (congrArg (fun z=>some (iZ z)) (by omega:_=((fi.toNat:Nat):Int))) (by rw[hP.ln];omega)) fun _ K=>?_;refine Qc 1 K M fun _ K=>?_;refine p1 K (QW rfl (lo30 _ 1 _ Yt rfl)) fun _ K=>?_;refine Qc 2 K M fun _ K=>?_;refine p1 K (Jg Ux rfl rfl hD30.len) fun _ K=>?_;refine Qc 2 K M fun _ K=>?_;refine p1 K (Jg QI rfl rfl hK.len) fun _ K=>?_;refine Qc 1 K M fun _ K=>?_;refine C5 K rfl (fun h38=>?_) fun h38=>?_
 ·refine Qc 4 K M ?_;refine⟨congrArg pT (a₁:=(a,7)) (a₂:=XQ ps sc s a l) (Eq.symm ?_),M.qt⟩;have hfs:ps.find? (fun p=>decide (p.name=s))=some _:=(hfb.resolve_left Qh).2.2.trans hi30;exact(AA hfs).trans (if_pos (by show pp30.length≠l.length;omega))
 refine Qc 2 K M fun _ K=>?_;refine p1 K (Jg QI rfl rfl hK.len) fun _ K=>?_;refine Qc 1 K M fun _ K=>?_;refine JQ (fun mm1 T st9=> ∃(i:Nat),mm1=l.length-i∧Jr [(1,kd),(5,.ptr c5 0 0),(9,kd30),(42,kk),(43,iZ (l.length:Nat)),(44,iN i)] T∧Mem st.h.get st.n [] st9 [(c5,0,[.str o,.str s,iZ z,iZ a,kk])]∧i≤l.length∧Aa sc a pp30 l=Aa sc a (pp30.drop i) (l.drop i)) (fun mm1 T st9 hI=>?_) _ _ _ ⟨0,rfl,(K.sub rfl),M.less (.refl _),(Nat.zero_le _),(by rw[List.drop_zero,List.drop_zero])⟩;obtain⟨i,rfl,K,M,hi,hx⟩:=hI;refine Qc 1 K M fun _ K=>?_;refine Xj K rfl (fun h45=>?_) fun h45=>?_
 ·refine Qc 1 K M fun _ K=>?_;obtain⟨⟨o47,s47,z47,a47,l47⟩,hi47⟩: ∃k,l[i]? =some k:=⟨_,List.getElem?_eq_getElem (by first|omega|(have:=ZI ht (by assumption);omega))⟩;have hm47:=U7 hi47;obtain⟨_,hc47,hn47⟩:=hK.at_ _ _ hi47;have hp47:=hn47;obtain⟨kk47,ls47,rfl,hK47,hb47⟩:=hp47.Jn;refine OJ (hK.r.mem M Q3) hc47 K Jf Qv rfl rfl fun _ _ _ _ K=>?_;refine au 2 K M ?_;intro c11 _ _ K _ M;refine Qz (k:=0) K M rfl rfl rfl Qi rfl (Qa rfl (Qa rfl (Qa rfl (Qa rfl (Qa hK47.cell Qo))))) rfl fun _ M=>?_;refine Qc 2 K M fun _ K=>?_;refine oQ K M (BX _ _ _ M.fresh (Xi.mono M.rows hD) (hn47.mono M.rows) (hTm _ hm47)) rfl rfl fun _ _ K M=>?_;refine Qc 9 K M fun _ K=>?_;refine C5 K rfl (fun h57=>?_) fun h57=>?_
  ·refine Qc 4 K M ?_;refine⟨congrArg pT (a₁:=((QB sc (.mk o47 s47 z47 a47 l47)).2.1,(QB sc (.mk o47 s47 z47 a47 l47)).2.2)) (a₂:=XQ ps sc s a l) (Eq.symm ?_),M.qt⟩;have hfs:ps.find? (fun p=>decide (p.name=s))=some _:=(hfb.resolve_left Qh).2.2.trans hi30;refine(AA hfs).trans ((if_neg (by show¬pp30.length≠l.length;omega)).trans ?_);show Aa sc a pp30 l=_;obtain⟨dq,hdq⟩: ∃d,pp30[i]? =some d:=⟨_,List.getElem?_eq_getElem Qh⟩;rw[hx,I3 hdq hi47,if_pos Qh]
  refine Qc 3 K M fun _ K=>?_;obtain⟨⟨dn63,do63,da63⟩,hi63⟩: ∃k,pp30[i]? =some k:=⟨_,List.getElem?_eq_getElem Qh⟩;have hm63:=Er hi63;obtain⟨_,hc63,rfl,hy63⟩:=hD30.at_ _ _ hi63;obtain⟨x63,m63,f63,q63,_,la63,lo63,lp63⟩:=(hD30.r.mem M Q3).load (i:=i) (cs:=_) hc63;refine p1 K (Q5 (j:=i) Zw (congrArg some q63) rfl (by rw[hD30.ln];omega)) fun _ K=>?_;refine Qc 1 K M fun _ K=>?_;refine p1 K (QW rfl (lo63 _ 1 _ QH rfl)) fun _ K=>?_;refine Qc 1 K M fun _ K=>?_;refine C5 K rfl (fun h66=>?_) fun h66=>?_
  ·refine Qc 4 K M ?_;refine⟨congrArg pT (a₁:=(a,7)) (a₂:=XQ ps sc s a l) (Eq.symm ?_),M.qt⟩;have hfs:ps.find? (fun p=>decide (p.name=s))=some _:=(hfb.resolve_left Qh).2.2.trans hi30;refine(AA hfs).trans ((if_neg (by show¬pp30.length≠l.length;omega)).trans ?_);show Aa sc a pp30 l=_;rw[hx,I3 hi63 hi47,if_neg Qh,if_pos (by first|exact h66|omega)]
  refine Qc 2 K M fun _ K=>?_;exact⟨_,Qh,i+1,rfl,(K.sub rfl),M.less (.cons _ (.refl _)),Qh,(by rw[hx,I3 hi63 hi47,if_neg Qh,if_neg (fun hh=>hh h66)])⟩
 refine Jx ?_;show W _ _ _ _ _ _ _;refine Qc 2 K M ?_;refine⟨congrArg pT (a₁:=(0,0)) (a₂:=XQ ps sc s a l) (Eq.symm ?_),M.qt⟩;have hfs:ps.find? (fun p=>decide (p.name=s))=some _:=(hfb.resolve_left Qh).2.2.trans hi30;refine(AA hfs).trans ((if_neg (by show¬pp30.length≠l.length;omega)).trans ?_);show Aa sc a pp30 l=_;rw[hx,UM (show l.length≤i by omega)]
 cases pp30.drop i<;>rfl

theorem D2{cc:Nat}{ps:List Pd}{kp:AV}{lp:List (List AV)}(x:Nd): ∀(sc:List Dc) (kd:AV) (ld:List (List AV)) (st:St) (cs:List AV),Qw st→Z9 st.h.get cc 0 [kp]→I9 st.h.get ps kp lp→Xi st.h.get sc kd ld→XE st.h.get x cs→Jw x=true→sc.length+Uj x≤1000000→ ∃v st',Ev Tryz.prog QR 16 [.ptr cc 0 0,kd,.agg cs] st v st'∧v=pT (YJ ps x sc)∧Qt st st':=by
 refine Uz (M:=fun x=> ∀(sc:List Dc) (kd:AV) (ld:List (List AV)) (st:St) (cs:List AV),Qw st→Z9 st.h.get cc 0 [kp]→I9 st.h.get ps kp lp→Xi st.h.get sc kd ld→XE st.h.get x cs→Jw x=true→sc.length+Uj x≤1000000→ ∃v st',Ev Tryz.prog QR 16 [.ptr cc 0 0,kd,.agg cs] st v st'∧v=pT (YJ ps x sc)∧Qt st st') (fun o s z a l ih=>?_) x;intro sc kd ld st cs hf hC hP hD hr ht hsz;have hr0:=hr;obtain⟨kk,ls,rfl,hK,hb⟩:=hr.Jn;have hln:=hK.ln;have hbn:=hK.YZ;rw[Uj]at hsz;have hlD:=hD.ln;refine Yu Tryz.func16 Tryz.ntmps16 fun T K=>?_;have M:=Mem.start hf;refine Qc 0 K M fun _ K=>?_;refine J3 K M rfl (Qa rfl (Qa rfl (Qa rfl (Qa rfl (Qa hK.cell Qo))))) QT fun c5 _ _ K M=>?_;refine p1 K (JH rfl) fun _ K=>p1 K (JH rfl) fun _ K=>Y5 ?_;show W _ _ _ _ _ _ _;refine VY (J:=fun T st9=> ∃(kd2:AV) (sc2:List Dc) (ld2:List (List AV)) (A2:List (Nat×Nat×List AV)),Jr [(0,.ptr cc 0 0),(1,kd2),(5,.ptr c5 0 0)] T∧Mem st.h.get st.n [] st9 ((c5,0,[.str o,.str s,iZ z,iZ a,kk])::(A2++[]))∧(Acc st.n 3 A2 kd2 ld2∨(A2=[]∧QS st.h.get [] 3 ld2 kd2))∧vJ sc2 ld2∧sc2=(if o=[101,120]∨o=[97,108,108]then sc++[⟨s,z,0⟩]else sc)∧(o≠[105,115]∧o≠[99,97,108,108]∧Zd o=false)) ?_ (fun T st9 hJ=>?_)
 ·refine Qc 2 K M fun _ K=>?_;refine p1 K (QU (b:=[105,115]) rfl rfl) fun _ K=>?_;refine Qc 1 K M fun _ K=>?_;refine Xj K rfl (fun h14=>?_) fun h14=>?_
  ·refine Qc 3 K M fun _ K=>?_;refine oQ K M (N8 M.fresh (Xi.mono M.rows hD) s) rfl rfl fun _ _ K M=>?_;refine Qc 2 K M fun _ K=>?_;refine Xj K rfl (fun h20=>?_) fun h20=>?_
   ·refine Qc 4 K M ?_;refine⟨congrArg pT (a₁:=(a,5)) (a₂:=YJ ps (.mk o s z a l) sc) (Eq.symm ?_),M.qt⟩;refine(Zn ..).trans ((if_pos (by assumption)).trans (if_pos (by assumption)))
   refine Qc 2 K M fun _ K=>?_;refine Xj K rfl (fun h24=>?_) fun h24=>?_
   ·refine Qc 2 K M ?_;refine⟨congrArg pT (a₁:=(0,0)) (a₂:=YJ ps (.mk o s z a l) sc) (Eq.symm ?_),M.qt⟩;refine(Zn ..).trans ((if_pos (by assumption)).trans ((if_neg (by assumption)).trans (if_pos (by assumption))))
   refine Qc 4 K M ?_;refine⟨congrArg pT (a₁:=(a,7)) (a₂:=YJ ps (.mk o s z a l) sc) (Eq.symm ?_),M.qt⟩;refine(Zn ..).trans ((if_pos (by assumption)).trans ((if_neg (by assumption)).trans (if_neg (by assumption))))
  refine Qc 0 K M fun _ K=>?_;refine p1 K (QU (b:=[99,97,108,108]) rfl rfl) fun _ K=>?_;refine Qc 1 K M fun _ K=>?_;refine Xj K rfl (fun h28=>?_) fun h28=>?_
  ·refine Qc 3 K M fun _ K=>?_;refine oQ K M (ub M.fresh (M.rows _ _ _ hC) (I9.mono M.rows hP) (Xi.mono M.rows hD) (hr0.mono M.rows) (Ip (by rw[←h28];exact ht))) rfl rfl fun _ _ K M=>?_;refine Qc 4 K M ?_;refine⟨congrArg pT (a₁:=((XQ ps sc s a l).1,(XQ ps sc s a l).2)) (a₂:=YJ ps (.mk o s z a l) sc) (Eq.symm ?_),M.qt⟩;exact(Zn ..).trans ((if_neg (by simp_all)).trans (if_pos (by assumption)))
  refine Qc 0 K M fun _ K=>?_;refine p1 K (QU (b:=[101,113]) rfl rfl) fun _ K=>?_;refine Qc 1 K M fun _ K=>?_;refine JU K rfl (fun h36=>?_) fun h36=>?_
  ·have hb36:=h36;replace h36:=of_decide_eq_true h36;refine Qc 0 K M fun _ K=>?_;refine Zz (t:=true) ((K.Ug rfl).trans (congrArg (fun b=>some (AV.bool b)) hb36)) (fun _=>?_) (fun h=>by cases h);refine Qc 3 K M fun _ K=>?_;obtain⟨k,j,hl2,hTm⟩:=Zl ht (by unfold Zd;simp_all [oneOf]);obtain⟨v47,st47,ev47,rfl,q47⟩:=Ap M.fresh (Xi.mono M.rows hD) (hr0.mono M.rows) hl2 hTm _;refine p1 K (Qe rfl ev47) fun _ K=>?_;replace M:=M.quiet q47;refine Qc 4 K M ?_;refine⟨congrArg pT (a₁:=((UD sc o a k j).1,(UD sc o a k j).2)) (a₂:=YJ ps (.mk o s z a l) sc) (Eq.symm ?_),M.qt⟩;refine(Zn ..).trans ((if_neg (by simp_all)).trans ((if_neg (by simp_all)).trans ((if_pos (by unfold Zd;simp_all [oneOf])).trans ?_)));rw[hl2]
  have hb36:=h36;replace h36:=of_decide_eq_false h36;refine Qc 0 K M fun _ K=>?_;refine p1 K (QU (b:=[110,101]) rfl rfl) fun _ K=>?_;refine Qc 1 K M fun _ K=>?_;refine JU K rfl (fun h36=>?_) fun h36=>?_
  ·have hb36:=h36;replace h36:=of_decide_eq_true h36;refine Qc 0 K M fun _ K=>?_;refine Zz (t:=true) ((K.Ug rfl).trans (congrArg (fun b=>some (AV.bool b)) hb36)) (fun _=>?_) (fun h=>by cases h);refine Qc 3 K M fun _ K=>?_;obtain⟨k,j,hl2,hTm⟩:=Zl ht (by unfold Zd;simp_all [oneOf]);obtain⟨v47,st47,ev47,rfl,q47⟩:=Ap M.fresh (Xi.mono M.rows hD) (hr0.mono M.rows) hl2 hTm _;refine p1 K (Qe rfl ev47) fun _ K=>?_;replace M:=M.quiet q47;refine Qc 4 K M ?_;refine⟨congrArg pT (a₁:=((UD sc o a k j).1,(UD sc o a k j).2)) (a₂:=YJ ps (.mk o s z a l) sc) (Eq.symm ?_),M.qt⟩;refine(Zn ..).trans ((if_neg (by simp_all)).trans ((if_neg (by simp_all)).trans ((if_pos (by unfold Zd;simp_all [oneOf])).trans ?_)));rw[hl2]
  have hb36:=h36;replace h36:=of_decide_eq_false h36;refine Qc 0 K M fun _ K=>?_;refine p1 K (QU (b:=[108,116]) rfl rfl) fun _ K=>?_;refine Qc 1 K M fun _ K=>?_;refine JU K rfl (fun h36=>?_) fun h36=>?_
  ·have hb36:=h36;replace h36:=of_decide_eq_true h36;refine Qc 0 K M fun _ K=>?_;refine Zz (t:=true) ((K.Ug rfl).trans (congrArg (fun b=>some (AV.bool b)) hb36)) (fun _=>?_) (fun h=>by cases h);refine Qc 3 K M fun _ K=>?_;obtain⟨k,j,hl2,hTm⟩:=Zl ht (by unfold Zd;simp_all [oneOf]);obtain⟨v47,st47,ev47,rfl,q47⟩:=Ap M.fresh (Xi.mono M.rows hD) (hr0.mono M.rows) hl2 hTm _;refine p1 K (Qe rfl ev47) fun _ K=>?_;replace M:=M.quiet q47;refine Qc 4 K M ?_;refine⟨congrArg pT (a₁:=((UD sc o a k j).1,(UD sc o a k j).2)) (a₂:=YJ ps (.mk o s z a l) sc) (Eq.symm ?_),M.qt⟩;refine(Zn ..).trans ((if_neg (by simp_all)).trans ((if_neg (by simp_all)).trans ((if_pos (by unfold Zd;simp_all [oneOf])).trans ?_)));rw[hl2]
  have hb36:=h36;replace h36:=of_decide_eq_false h36;refine Qc 0 K M fun _ K=>?_;refine p1 K (QU (b:=[108,101]) rfl rfl) fun _ K=>?_;refine Qc 1 K M fun _ K=>?_;refine JU K rfl (fun h36=>?_) fun h36=>?_
  ·have hb36:=h36;replace h36:=of_decide_eq_true h36;refine Qc 0 K M fun _ K=>?_;refine Zz (t:=true) ((K.Ug rfl).trans (congrArg (fun b=>some (AV.bool b)) hb36)) (fun _=>?_) (fun h=>by cases h);refine Qc 3 K M fun _ K=>?_;obtain⟨k,j,hl2,hTm⟩:=Zl ht (by unfold Zd;simp_all [oneOf]);obtain⟨v47,st47,ev47,rfl,q47⟩:=Ap M.fresh (Xi.mono M.rows hD) (hr0.mono M.rows) hl2 hTm _;refine p1 K (Qe rfl ev47) fun _ K=>?_;replace M:=M.quiet q47;refine Qc 4 K M ?_;refine⟨congrArg pT (a₁:=((UD sc o a k j).1,(UD sc o a k j).2)) (a₂:=YJ ps (.mk o s z a l) sc) (Eq.symm ?_),M.qt⟩;refine(Zn ..).trans ((if_neg (by simp_all)).trans ((if_neg (by simp_all)).trans ((if_pos (by unfold Zd;simp_all [oneOf])).trans ?_)));rw[hl2]
  have hb36:=h36;replace h36:=of_decide_eq_false h36;refine Qc 0 K M fun _ K=>?_;refine p1 K (QU (b:=[105,110]) rfl rfl) fun _ K=>?_;refine Qc 1 K M fun _ K=>?_;refine JU K rfl (fun h36=>?_) fun h36=>?_
  ·have hb36:=h36;replace h36:=of_decide_eq_true h36;refine Qc 0 K M fun _ K=>?_;refine Zz (t:=true) ((K.Ug rfl).trans (congrArg (fun b=>some (AV.bool b)) hb36)) (fun _=>?_) (fun h=>by cases h);refine Qc 3 K M fun _ K=>?_;obtain⟨k,j,hl2,hTm⟩:=Zl ht (by unfold Zd;simp_all [oneOf]);obtain⟨v47,st47,ev47,rfl,q47⟩:=Ap M.fresh (Xi.mono M.rows hD) (hr0.mono M.rows) hl2 hTm _;refine p1 K (Qe rfl ev47) fun _ K=>?_;replace M:=M.quiet q47;refine Qc 4 K M ?_;refine⟨congrArg pT (a₁:=((UD sc o a k j).1,(UD sc o a k j).2)) (a₂:=YJ ps (.mk o s z a l) sc) (Eq.symm ?_),M.qt⟩;refine(Zn ..).trans ((if_neg (by simp_all)).trans ((if_neg (by simp_all)).trans ((if_pos (by unfold Zd;simp_all [oneOf])).trans ?_)));rw[hl2]
  have hb36:=h36;replace h36:=of_decide_eq_false h36;refine Qc 0 K M fun _ K=>?_;refine p1 K (QU (b:=[110,111,116,105,110]) rfl rfl) fun _ K=>?_;refine Qc 1 K M fun _ K=>?_;refine JU K rfl (fun h36=>?_) fun h36=>?_
  ·have hb36:=h36;replace h36:=of_decide_eq_true h36;refine Qc 0 K M fun _ K=>?_;refine Zz (t:=true) ((K.Ug rfl).trans (congrArg (fun b=>some (AV.bool b)) hb36)) (fun _=>?_) (fun h=>by cases h);refine Qc 3 K M fun _ K=>?_;obtain⟨k,j,hl2,hTm⟩:=Zl ht (by unfold Zd;simp_all [oneOf]);obtain⟨v47,st47,ev47,rfl,q47⟩:=Ap M.fresh (Xi.mono M.rows hD) (hr0.mono M.rows) hl2 hTm _;refine p1 K (Qe rfl ev47) fun _ K=>?_;replace M:=M.quiet q47;refine Qc 4 K M ?_;refine⟨congrArg pT (a₁:=((UD sc o a k j).1,(UD sc o a k j).2)) (a₂:=YJ ps (.mk o s z a l) sc) (Eq.symm ?_),M.qt⟩;refine(Zn ..).trans ((if_neg (by simp_all)).trans ((if_neg (by simp_all)).trans ((if_pos (by unfold Zd;simp_all [oneOf])).trans ?_)));rw[hl2]
  have hb36:=h36;replace h36:=of_decide_eq_false h36;refine Uf<|p1 K (QU (b:=[115,117,98]) rfl rfl) fun _ K=>?_;refine Qc 1 K M fun _ K=>?_;refine JU K rfl (fun h36=>?_) fun h36=>?_
  ·have hb36:=h36;replace h36:=of_decide_eq_true h36;refine Qc 3 K M fun _ K=>?_;obtain⟨k,j,hl2,hTm⟩:=Zl ht (by unfold Zd;simp_all [oneOf]);obtain⟨v47,st47,ev47,rfl,q47⟩:=Ap M.fresh (Xi.mono M.rows hD) (hr0.mono M.rows) hl2 hTm _;refine p1 K (Qe rfl ev47) fun _ K=>?_;replace M:=M.quiet q47;refine Qc 4 K M ?_;refine⟨congrArg pT (a₁:=((UD sc o a k j).1,(UD sc o a k j).2)) (a₂:=YJ ps (.mk o s z a l) sc) (Eq.symm ?_),M.qt⟩;refine(Zn ..).trans ((if_neg (by simp_all)).trans ((if_neg (by simp_all)).trans ((if_pos (by unfold Zd;simp_all [oneOf])).trans ?_)));rw[hl2]
  have hb36:=h36;replace h36:=of_decide_eq_false h36;refine Qc 0 K M fun _ K=>?_;refine p1 K (QU (b:=[101,120]) rfl rfl) fun _ K=>?_;refine Qc 1 K M fun _ K=>?_;refine JU K rfl (fun h50=>?_) fun h50=>?_
  ·have hb50:=h50;replace h50:=of_decide_eq_true h50;refine Qc 0 K M fun _ K=>?_;refine Zz (t:=true) ((K.Ug rfl).trans (congrArg (fun b=>some (AV.bool b)) hb50)) (fun _=>?_) (fun h=>by cases h);refine Ja (l:=[(0,0),(1,0),(2,0),(3,1),(4,0),(5,1),(6,0),(7,0),(8,0),(9,0)]) (by kernel_rfl) ?_;have Mq:=M;refine q1 rfl K (Q9 rfl) fun _ K=>?_;obtain⟨v54,st54,ev54,ks54,rfl,nr54,q54⟩:=Oo M.fresh (Xi.mono M.rows hD) Qh;refine qA rfl K (Qe rfl ev54) fun _ K=>?_;obtain⟨A54,hA54,M⟩:=M.Wp q54 nr54;have Mp:=Mq;have Mq:=M;refine Ui 1 K M fun _ K=>?_;refine QL rfl K rfl (M.load (k:=0) rfl (Qj J0 rfl)) (Mp.load (k:=0) rfl (Qj J0 rfl)) (J2 rfl) rfl QT fun _ K=>?_;refine Ui 1 K M fun _ K=>?_;refine QL rfl K rfl (M.load (k:=0) rfl (Qj QH rfl)) (Mp.load (k:=0) rfl (Qj QH rfl)) (J2 rfl) rfl QT fun _ K=>?_;refine Ui 1 K M fun _ K=>?_;refine Z3 rfl K M JZ V5 rfl rfl rfl rfl rfl fun c60 _ _ K M=>?_;refine XT (k2:=0) (L:=[(c60,0,[.str s,iZ z,iZ 0]),(c5,0,[.str o,.str s,iZ z,iZ a,kk])]) (B:=[]) rfl K M hA54 JZ rfl rfl rfl rfl Qh rfl fun ks61 A61 _ _ K hA61 M=>?_;have Mp:=Mq;have Mq:=M;refine q1 rfl K (JH rfl) fun _ K=>Ji ?_;exact⟨ks61,sc++[⟨s,z,0⟩],ld++[[.str s,iZ z,iZ 0]],A61,(K.sub rfl),M.less (.cons _ (.refl _)),(by first|exact .inl hA61|exact .inr ⟨rfl,hD.r⟩),(by first|exact hD.vM.snoc hb.2|exact hD.vM),(by simp_all),⟨by simp_all,by simp_all,by unfold Zd;simp_all [oneOf]⟩⟩
  have hb50:=h50;replace h50:=of_decide_eq_false h50;refine Uf<|p1 K (QU (b:=[97,108,108]) rfl rfl) fun _ K=>?_;refine Qc 1 K M fun _ K=>?_;refine JU K rfl (fun h50=>?_) fun h50=>?_
  ·have hb50:=h50;replace h50:=of_decide_eq_true h50;refine Ja (l:=[(0,0),(1,0),(2,0),(3,1),(4,0),(5,1),(6,0),(7,0),(8,0),(9,0)]) (by kernel_rfl) ?_;have Mq:=M;refine q1 rfl K (Q9 rfl) fun _ K=>?_;obtain⟨v54,st54,ev54,ks54,rfl,nr54,q54⟩:=Oo M.fresh (Xi.mono M.rows hD) Qh;refine qA rfl K (Qe rfl ev54) fun _ K=>?_;obtain⟨A54,hA54,M⟩:=M.Wp q54 nr54;have Mp:=Mq;have Mq:=M;refine Ui 1 K M fun _ K=>?_;refine QL rfl K rfl (M.load (k:=0) rfl (Qj J0 rfl)) (Mp.load (k:=0) rfl (Qj J0 rfl)) (J2 rfl) rfl QT fun _ K=>?_;refine Ui 1 K M fun _ K=>?_;refine QL rfl K rfl (M.load (k:=0) rfl (Qj QH rfl)) (Mp.load (k:=0) rfl (Qj QH rfl)) (J2 rfl) rfl QT fun _ K=>?_;refine Ui 1 K M fun _ K=>?_;refine Z3 rfl K M JZ V5 rfl rfl rfl rfl rfl fun c60 _ _ K M=>?_;refine XT (k2:=0) (L:=[(c60,0,[.str s,iZ z,iZ 0]),(c5,0,[.str o,.str s,iZ z,iZ a,kk])]) (B:=[]) rfl K M hA54 JZ rfl rfl rfl rfl Qh rfl fun ks61 A61 _ _ K hA61 M=>?_;have Mp:=Mq;have Mq:=M;refine q1 rfl K (JH rfl) fun _ K=>Ji ?_;exact⟨ks61,sc++[⟨s,z,0⟩],ld++[[.str s,iZ z,iZ 0]],A61,(K.sub rfl),M.less (.cons _ (.refl _)),(by first|exact .inl hA61|exact .inr ⟨rfl,hD.r⟩),(by first|exact hD.vM.snoc hb.2|exact hD.vM),(by simp_all),⟨by simp_all,by simp_all,by unfold Zd;simp_all [oneOf]⟩⟩
  have hb50:=h50;replace h50:=of_decide_eq_false h50;refine JM ?_;exact⟨kd,sc,ld,[],(K.sub rfl),M.less (.refl _),(by first|exact .inl hA61|exact .inr ⟨rfl,hD.r⟩),(by first|exact hD.vM.snoc hb.2|exact hD.vM),(by simp_all),⟨by simp_all,by simp_all,by unfold Zd;simp_all [oneOf]⟩⟩
 obtain⟨kd2,sc2,ld2,A2,K,M,hA2,hL2,hs2,hno⟩:=hJ
 have hbl2:sc2.length≤sc.length+1:=by rw[hs2];split<;>simp
 refine Qc 2 K M fun _ K=>?_;refine p1 K (Jg QI rfl rfl hK.len) fun _ K=>?_;refine Qc 1 K M fun _ K=>?_;refine JQ (fun mm1 T st9=> ∃(i:Nat),mm1=l.length-i∧Jr [(0,.ptr cc 0 0),(1,kd2),(63,kk),(64,iZ (l.length:Nat)),(65,iN i)] T∧Mem st.h.get st.n [] st9 ((c5,0,[.str o,.str s,iZ z,iZ a,kk])::(A2++[]))∧i≤l.length∧Ow ps l sc2=Ow ps (l.drop i) sc2) (fun mm1 T st9 hI=>?_) _ _ _ ⟨0,rfl,(K.sub rfl),M.less (.refl _),(Nat.zero_le _),(by rw[List.drop_zero])⟩;obtain⟨i,rfl,K,M,hi,hx⟩:=hI;refine Qc 1 K M fun _ K=>?_;refine Xj K rfl (fun h66=>?_) fun h66=>?_
 ·refine Qc 0 K M fun _ K=>?_;obtain⟨⟨o67,s67,z67,a67,l67⟩,hi67⟩: ∃k,l[i]? =some k:=⟨_,List.getElem?_eq_getElem (by first|omega|(have:=ZI ht (by assumption);omega))⟩;have hm67:=U7 hi67;obtain⟨_,hc67,hn67⟩:=hK.at_ _ _ hi67;have hp67:=hn67;obtain⟨kk67,ls67,rfl,hK67,hb67⟩:=hp67.Jn;refine OJ (hK.r.mem M Q3) hc67 K Jf Qv rfl rfl fun _ _ _ _ K=>?_;refine au 1 K M ?_;intro c9 _ _ K _ M;refine Qz (k:=0) K M rfl rfl rfl Qi rfl (Qa rfl (Qa rfl (Qa rfl (Qa rfl (Qa hK67.cell Qo))))) rfl fun _ M=>?_;refine Qc 3 K M fun _ K=>?_;have hkk:=Z4 hm67;refine oQ K M (ih _ hm67 sc2 kd2 ld2 _ _ M.fresh (M.rows _ _ _ hC) (I9.mono M.rows hP) (hL2.ds (Mem.vE (L:=[(c9,0,[.str o67,.str s67,iZ z67,iZ a67,kk67]),(c5,0,[.str o,.str s,iZ z,iZ a,kk])]) (B:=[]) M hA2)) (hn67.mono M.rows) (KX ht hno.1 hno.2.1 hno.2.2 _ hm67) Qh) rfl rfl fun _ _ K M=>?_;refine Qc 7 K M fun _ K=>?_;refine C5 K rfl (fun h77=>?_) fun h77=>?_
  ·refine Qc 4 K M ?_;refine⟨congrArg pT (a₁:=((YJ ps (.mk o67 s67 z67 a67 l67) sc2).1,(YJ ps (.mk o67 s67 z67 a67 l67) sc2).2)) (a₂:=YJ ps (.mk o s z a l) sc) (Eq.symm ?_),M.qt⟩;rw[Zn,if_neg hno.1,if_neg hno.2.1,hno.2.2,if_neg QT,←hs2,hx,Bl hi67,if_pos Qh]
  refine Qc 2 K M fun _ K=>?_;exact⟨_,Qh,i+1,rfl,(K.sub rfl),M.less (.cons _ (.refl _)),Qh,(by rw[hx,Bl hi67,if_neg Qh])⟩
 refine Jx ?_;show W _ _ _ _ _ _ _;refine Qc 2 K M ?_;refine⟨congrArg pT (a₁:=(0,0)) (a₂:=YJ ps (.mk o s z a l) sc) (Eq.symm ?_),M.qt⟩;rw[Zn,if_neg hno.1,if_neg hno.2.1,hno.2.2,if_neg QT,←hs2,hx,UM Qh,Ow]
end Go.Proofs.YtaomhhkflohhgaaGreatDoor
