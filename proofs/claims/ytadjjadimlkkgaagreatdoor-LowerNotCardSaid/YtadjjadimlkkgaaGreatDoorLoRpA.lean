/-
  Kinds of formulas: the program's answer.
-/
import Derived.Test.YtadjjadimlkkgaaGreatDoorLoKnP
import Derived.Test.YtadjjadimlkkgaaGreatDoorLoLwE
set_option maxHeartbeats 8000000
set_option maxRecDepth 100000
set_option linter.unnecessarySimpa false
set_option linter.unusedSectionVars false
set_option linter.unusedSimpArgs false
set_option linter.unusedVariables false
section
namespace Go.Proofs.YtadjjadimlkkgaaGreatDoor
open Go Go.RowKit

theorem Xs.three{h:Hp}{l:List Dc}{kb:AV}{ls:List (List AV)}(H:Xs h l kb ls): ∀cs∈ls,cs.length=3:=by
 intro cs hm;obtain⟨i,hi,e⟩:=List.mem_iff_getElem.1 hm
 have hl:i<l.length:=by rw[←H.ln];exact hi
 obtain⟨cs',h1,h2,_⟩:=H.at_ i _ (List.getElem?_eq_getElem hl);rw[List.getElem?_eq_getElem hi]at h1
 injection h1 with h1
 rw[←e,h1,h2];rfl
def zL(l:List Dc)(ls:List (List AV)):Prop:=ls.length=l.length∧ ∀(i:Nat) (k:Dc),l[i]? =some k→ ∃cs,ls[i]? =some cs∧xD k cs
theorem Xs.zP{h:Hp}{l:List Dc}{kb:AV}{ls:List (List AV)}(H:Xs h l kb ls):zL l ls:=⟨H.ln,H.at_⟩
theorem zL.ds{h:Hp}{l:List Dc}{kb:AV}{ls:List (List AV)}(H:zL l ls)(r:J1 h [] 3 ls kb):Xs h l kb ls:=⟨r,H.1,H.2⟩
theorem zL.snoc{l:List Dc}{ls:List (List AV)}(H:zL l ls){s:List Nat}{z:Int}(hb:Bytes s):zL (l++[⟨s,z,0⟩]) (ls++[[.str s,.int .i64 z,.int .i64 0]]):=
 ⟨by rw[List.length_append,List.length_append,H.1];rfl,fun i k hi=>by
  by_cases hl:i<l.length
  ·rw[List.getElem?_append_left hl]at hi;obtain⟨cs,h1,h2⟩:=H.2 i k hi;exact⟨cs,by rw[List.getElem?_append_left (by rw[H.1];exact hl)];exact h1,h2⟩
  ·rw[List.getElem?_append_right (by omega)]at hi
   have h0:i-l.length=0:=by
    by_cases h:i-l.length=0
    ·exact h
    ·rw[List.getElem?_eq_none (by simp;omega)]at hi;cases hi
   rw[h0]at hi
   injection hi with hi
   subst hi
   exact⟨_,by rw[List.getElem?_append_right (by rw[H.1];omega),H.1,h0];rfl,rfl,hb⟩⟩
theorem Mem.zI{h0:Hp}{n0 z:Nat}{st:St}{L A B:List (Nat×Nat×List AV)}{ks:AV}{ls:List (List AV)}(hM:Mem h0 n0 [] st (L++(A++B)))(h:Acc n0 z A ks ls∨(A=[]∧J1 h0 [] z ls ks)):J1 st.h.get [] z ls ks:=by
 rcases h with h|⟨_,h⟩
 ·exact hM.Lv h
 ·exact J1.mem hM h (by simp)
theorem Xm(ps:List Pd)(op name:List Nat)(n a:Int)(kids:List Nd)(sc:List Dc):ZO ps (.mk op name n a kids) sc=if op=[105,115]then(if Zb sc name= -1 then(a,5)else if Zb sc name=0 then(0,0)else(a,7))
  else if op=[99,97,108,108]then Vl ps sc name a kids
  else if ZK op then(match kids with
   |[k,j]=>Ya sc op a k j
   |_=>(0,0))
  else Bs ps kids (if op=[101,120]∨op=[97,108,108]then sc++[⟨name,n,0⟩]else sc):=by
 rcases kids with _|⟨k,_|⟨j,_|⟨m,l⟩⟩⟩<;>rw[ZO]<;>first|rfl|(intro k j h;cases h)
theorem XE{o s:List Nat}{z a:Int}{l:List Nd}(h:Jz (.mk o s z a l)=true)(ho:ZK o=true): ∃k j,l=[k,j]∧ ∀x∈l,Jw x=true:=by
 have key:l.length=2∧l.all Jw=true:=by
  rw[Uv]at h;unfold ZK at ho;simp only[oneOf,List.any_cons,List.any_nil,Bool.or_false,Bool.or_eq_true,decide_eq_true_eq]at ho
  rcases ho with rfl|rfl|rfl|rfl|rfl|rfl|rfl<;>simp[oneOf,JO]at h<;>exact⟨by omega,by simp;exact h.2⟩
 obtain⟨h1,h2⟩:=key
 match l,h1 with
 |[k,j],_=>exact⟨k,j,rfl,by simpa using h2⟩
theorem Pt{s:List Nat}{z a:Int}{l:List Nd}(h:Jz (.mk [99,97,108,108] s z a l)=true): ∀x∈l,Jw x=true:=by
 rw[Uv]at h;simp[oneOf]at h;intro x hx;exact h.2.2.2 x hx
theorem SW{o s:List Nat}{z a:Int}{l:List Nd}(h:Jz (.mk o s z a l)=true)(h1:o≠[105,115])(h2:o≠[99,97,108,108])(h3:ZK o=false): ∀x∈l,Jz x=true:=by
 rw[Uv]at h;unfold ZK at h3;intro x hx
 split at h
 ·simp[JO]at h;simp[h.2.2]at hx
 split at h
 ·simp at h;exact h.2 x hx
 split at h
 ·simp at h;exact h.2 x hx
 split at h
 ·simp at h;exact h.2.2.2.2 x hx
 split at h
 ·rename_i h9;rw[h9]at h3;cases h3
 ·cases h

theorem NO{st:St}(hf:Q6 st){sc:List Dc}{kd:AV}{ld:List (List AV)}(hD:Xs st.h.get sc kd ld)(hl:sc.length≤1000000): ∃v st',Ev Tryz.prog Ja 94 [kd] st v st'∧ ∃ks,v=ks∧Dv st st' 3 ks ld∧Qt st st':=by
 have hln:=hD.ln;refine QC rfl Tryz.func94 rfl Tryz.ntmps94 rfl fun T hT=>?_;have K:Jm [(0,_)] T:=(.cons (hT 0) .nil);have M:=Mem.start hf;refine Qg 2 K M ?_;intro _ K;refine o1 K (Sy hD.len U9 rfl rfl) rfl fun _ K=>Q5 ?_;show W _ _ _ _ _ _ _;refine Qn (K.QR rfl) (fun h4=>?_) (fun h4=>?_)
 ·have hb4:=h4;refine Qg 1 K M ?_;intro _ K;refine Qe ⟨.inr rfl,_,JU K rfl,?_⟩
  have hbl:ld=[]:=by
   have h:=hD.r.len;rw[uy h4]at h
   injection h with h
   exact List.length_eq_zero_iff.1 h.symm
  exact⟨.nils,rfl,⟨[],by rw[hbl];exact .none,fun _ _ _ h=>by cases h⟩,M.qt⟩
 have hb4:=h4;refine QT ?_;show W _ _ _ _ _ _ _;refine Qq<|Qh ?_;refine YK K M JG Ym rfl rfl rfl rfl rfl fun c5 _ _ K M=>?_;refine o1 K (Qb rfl) rfl fun _ K=>?_;replace M:=Mem.cast (M':=([(c5,0,[])]++[])) (Mem.perm M (List.perm_append_comm (l₁:=[(c5,0,[])]))) (by first|(simp only[List.append_assoc,List.cons_append,List.nil_append,List.append_nil,List.set_cons_zero,List.set_cons_succ];done)|(simp only[List.append_assoc,List.cons_append,List.nil_append,List.append_nil,List.set_cons_zero,List.set_cons_succ];rfl));have hA0c5:Acc st.n 3 [(c5,0,[])] (.sl c5 0 0 0 3) []:=Acc.own (n0:=st.n) (z:=3) (c:=c5) (m:=0) (ls:=[]) ((M.own c5 0 [] (by simp)).resolve_right (by simp)) (by simp) (by simp);refine jE (L:=[]) (A:=[(c5,0,[])]) (B:=[]) K M hA0c5 JG rfl rfl (hD.r.mem M (by simp)) (Xs.three hD) (by simp only[List.length_nil];omega) rfl fun ks7 A7 _ _ K hA7 M=>?_;refine Qg 1 K M ?_;intro _ K;refine Qe ⟨.inr rfl,_,JU K rfl,?_⟩;refine⟨_,rfl,?_,M.qt⟩;have h:=Mem.zp (L:=[]) (A:=A7) (B:=[]) M hA7
 simpa using h

theorem je{pn:List Nat}{pp:List Dc}{o s:List Nat}{z a pa:Int}{l:List Nd}{st:St}{cs:List AV}(hf:Q6 st)(hr:jy st.h.get ⟨pn,pp,.mk o s z a l,pa⟩ cs){c5:Nat}{o5 s5:List Nat}{z5 a5:Int}{kk5:AV}(h5:Xf st.h.get c5 0 [.str o5,.str s5,.int .i64 z5,.int .i64 a5,kk5]): ∃v st',Ev Tryz.prog Ja 145 [.agg cs,.ptr c5 0 0] st v st'∧v=.bool (decide (pn=s5))∧Qt st st':=by
 have hr0:=hr;have hr0:=hr;obtain⟨kd,ld,o,s,z,a,kk,rfl,hD,hn,hy⟩:=hr0;obtain⟨kx,ls,ex,hK,hb⟩:=hn.Ua
 injection ex with x1 x;injection x with x2 x;injection x with x3 x;injection x with x4 x;injection x with x5 x
 injection x1 with x1;injection x2 with x2;injection x3 with _ x3;injection x4 with _ x4
 subst x1 x2 x3 x4 x5;replace hD:Xs st.h.get pp kd ld:=hD;replace hn:Vn st.h.get (.mk o s z a l) _:=hn;replace hy:Bytes pn:=hy;have hl:=hK.ZJ;have hd:=hD.ZJ;refine QC rfl Tryz.func145 rfl Tryz.ntmps145 rfl fun T hT=>?_;have K:Jm [(0,_),(1,_)] T:=(.cons (hT 0) (.cons (hT 1) .nil));have M:=Mem.start hf;refine Qq<|Qh ?_;refine J2 K M rfl (Qa rfl (Qa hD.cell (Qa rfl (Qa rfl (Qa rfl (Qa rfl (Qa hK.cell (Qa rfl Qv)))))))) (by decide) fun c2 _ _ K M=>?_;refine Qg 4 K M ?_;intro _ K;refine o1 K (Qx rfl (Yt (M.rows _ _ _ h5) (Qk JI rfl))) rfl fun _ K=>?_;refine Qg 2 K M ?_;intro _ K;refine Qe ⟨.inr rfl,_,JU K rfl,?_⟩;exact⟨rfl,M.qt⟩

theorem qi{st:St}{cs:List AV}(hf:Q6 st){cc:Nat}{ps:List Pd}{kp:AV}{lp:List (List AV)}(hC:Xf st.h.get cc 0 [kp])(hP:Kj st.h.get ps kp lp){sc:List Dc}{kd:AV}{ld:List (List AV)}(hD:Xs st.h.get sc kd ld){o s:List Nat}{z a:Int}{l:List Nd}(hr:Vn st.h.get (.mk o s z a l) cs)(hTm: ∀k∈l,Jw k=true): ∃v st',Ev Tryz.prog Ja 92 [.ptr cc 0 0,kd,.agg cs] st v st'∧v=pT (Vl ps sc s a l)∧Qt st st':=by
 have hr0:=hr;obtain⟨kk,ls,rfl,hK,hb⟩:=hr.Ua;have hln:=hK.ln;have hbn:=hK.ZJ;have hlp:=hP.ln;have hbp:=hP.ZJ;refine QC rfl Tryz.func92 rfl Tryz.ntmps92 rfl fun T hT=>?_;have K:Jm [(0,_),(1,_),(2,_)] T:=(.cons (hT 0) (.cons (hT 1) (.cons (hT 2) .nil)));have M:=Mem.start hf;refine Qq<|Qh ?_;refine J2 K M rfl (Qa rfl (Qa rfl (Qa rfl (Qa rfl (Qa hK.cell Qv))))) (by decide) fun c5 _ _ K M=>?_;refine Qg 5 K M ?_;intro _ K;refine o1 K (Qx rfl (Yt (M.rows _ _ _ hC) (Qk Yi rfl))) rfl fun _ K=>o1 K (Ax rfl rfl) rfl fun _ K=>?_
 obtain⟨v20,st20,ev20,rfl,q20⟩:=N8 (fa:=[]) (fc:=[.ptr c5 0 0]) (p:=fun p:Pd=>decide (p.name=s)) M.fresh (Kj.mono M.rows hP) (fun k hk st1 cs q hr1=>by
  obtain⟨pn9,pp9,⟨o9,s9,z9,a9,l9⟩,pa9⟩:=k
  exact je q.fresh hr1 ((JA.Xg (M.Qp (k:=0) rfl)).U7 M.fresh (q.U7 []) (by simp)))
 refine o1 K (Qc rfl ev20) rfl fun _ K=>?_;replace M:=M.quiet q20;obtain⟨fi,hfi⟩: ∃fi,fi=AB (fun p:Pd=>decide (p.name=s)) ps 0:=⟨_,rfl⟩;rw[←hfi]at K
 have hfb:(fi= -1∧ps.find? (fun p=>decide (p.name=s))=none)∨(0≤fi∧fi<((ps.length:Nat):Int)∧ps.find? (fun p=>decide (p.name=s))=ps[fi.toNat]?):=by
  rcases SS (fun p:Pd=>decide (p.name=s)) ps 0 with⟨h1,h2⟩|⟨j,k,h1,h2,h3⟩
  ·exact .inl ⟨by rw[hfi,h1],h2⟩
  ·have h4:=(List.getElem?_eq_some_iff.1 h2).1
   have h5:fi.toNat=j:=by rw[hfi,h1];omega
   exact .inr ⟨by rw[hfi,h1];omega,by rw[hfi,h1];omega,by rw[h3,h5,h2]⟩
 refine Qg 3 K M ?_;intro _ K;refine Z0 K rfl (fun h22=>?_) fun h22=>?_
 ·refine Qg 4 K M ?_;intro _ K;refine Qe ⟨.inr rfl,_,Ah K rfl rfl,?_⟩;refine⟨congrArg pT (a₁:=(a,5)) (a₂:=Vl ps sc s a l) (Eq.symm ?_),M.qt⟩;exact PB (by rcases hfb with h|h;exact h.2;omega)
 refine Qg 3 K M ?_;intro _ K;refine o1 K (Qx rfl (Yt (M.rows _ _ _ hC) (Qk Yi rfl))) rfl fun _ K=>o1 K (Qb rfl) rfl fun _ K=>?_;obtain⟨⟨pn30,pp30,⟨_,_,_,_,l30⟩,pa30⟩,hi30⟩: ∃k,ps[fi.toNat]? =some k:=⟨_,List.getElem?_eq_getElem (by omega)⟩;have hm30:=En hi30;obtain⟨_,hc30,hP30⟩:=hP.at_ _ _ hi30;have hP300:=hP30;obtain⟨kd30,ld30,o30,s30,z30,a30,kk30,rfl,hD30,hn30,hy30⟩:=hP300;obtain⟨kx30,ls30,ex30,hK30,hb30⟩:=hn30.Ua
 injection ex30 with x1 x;injection x with x2 x;injection x with x3 x;injection x with x4 x;injection x with x5 x
 injection x1 with x1;injection x2 with x2;injection x3 with _ x3;injection x4 with _ x4
 subst x1 x2 x3 x4 x5;replace hD30:Xs st.h.get pp30 kd30 ld30:=hD30;replace hn30:Vn st.h.get (.mk o30 s30 z30 a30 l30) _:=hn30;replace hy30:Bytes pn30:=hy30;have hl30:=hK30.ZJ;have hd30:=hD30.ZJ;obtain⟨x30,m30,f30,q30,_,la30,lo30,lp30⟩:=(hP.r.mem M (by simp)).load (i:=fi.toNat) (cs:=_) hc30;refine o1 K (Qr (j:=fi.toNat) EB (congrArg some q30) (congrArg (fun z=>some (AV.int .i64 z)) (by omega:_=((fi.toNat:Nat):Int))) (by rw[hP.ln];omega)) rfl fun _ K=>o1 K (Qf E5 rfl) rfl fun _ K=>o1 K (Qx rfl (lo30 _ 1 _ Y5 rfl)) rfl fun _ K=>?_;refine Qg 2 K M ?_;intro _ K;refine o1 K (Jd U9 rfl rfl hD30.len) rfl fun _ K=>?_;refine Qg 2 K M ?_;intro _ K;refine o1 K (Jd J5 rfl rfl hK.len) rfl fun _ K=>?_;refine Qg 1 K M ?_;intro _ K;refine G5 K rfl (fun h38=>?_) fun h38=>?_
 ·refine Qg 4 K M ?_;intro _ K;refine Qe ⟨.inr rfl,_,Ah K rfl rfl,?_⟩;refine⟨congrArg pT (a₁:=(a,7)) (a₂:=Vl ps sc s a l) (Eq.symm ?_),M.qt⟩;have hfs:ps.find? (fun p=>decide (p.name=s))=some _:=(hfb.resolve_left (by omega)).2.2.trans hi30;exact(AJ hfs).trans (if_pos (by show pp30.length≠l.length;omega))
 refine Qg 2 K M ?_;intro _ K;refine o1 K (Jd J5 rfl rfl hK.len) rfl fun _ K=>?_;refine Qg 1 K M ?_;intro _ K;refine U8 (fun mm1 T st9=> ∃(i:Nat),mm1=l.length-i∧Jm [(1,kd),(5,.ptr c5 0 0),(9,kd30),(42,kk),(43,.int .i64 (((l.length:Nat):Int))),(44,.int .i64 (((i:Nat):Int)))] T∧Mem st.h.get st.n [] st9 [(c5,0,[.str o,.str s,.int .i64 z,.int .i64 a,kk])]∧i≤l.length∧FD sc a pp30 l=FD sc a (pp30.drop i) (l.drop i)) (fun mm1 T st9 hI=>?_) _ _ _ ⟨0,rfl,(.cons (K _ _ rfl) (.cons (K _ _ rfl) (.cons (K _ _ rfl) (.cons (K _ _ rfl) (.cons (K _ _ rfl) (.cons (K _ _ rfl) .nil)))))),M.less (.refl _),(Nat.zero_le _),(by rw[List.drop_zero,List.drop_zero])⟩;obtain⟨i,rfl,K,M,hi,hx⟩:=hI;refine Qg 1 K M ?_;intro _ K;refine Z0 K rfl (fun h45=>?_) fun h45=>?_
 ·refine Qg 1 K M ?_;intro _ K;obtain⟨⟨o47,s47,z47,a47,l47⟩,hi47⟩: ∃k,l[i]? =some k:=⟨_,List.getElem?_eq_getElem (by first|omega|(have:=Y8 ht (by assumption);omega))⟩;have hm47:=Yb hi47;obtain⟨_,hc47,hn47⟩:=hK.at_ _ _ hi47;have hp47:=hn47;obtain⟨kk47,ls47,rfl,hK47,hb47⟩:=hp47.Ua;obtain⟨x47,m47,f47,q47,_,la47,lo47,lp47⟩:=(hK.r.mem M (by simp)).load (i:=i) (cs:=_) hc47;refine o1 K (Qr (j:=i) JH (congrArg some q47) rfl (by rw[hK.ln];first|omega|(have:=Y8 ht (by assumption);omega))) rfl fun _ K=>o1 K (Qx rfl (la47 _ QO)) rfl fun _ K=>?_;refine au 2 K M ?_;intro c11 _ _ K _ M;refine QB (k:=0) K M rfl rfl rfl QH rfl (Qa rfl (Qa rfl (Qa rfl (Qa rfl (Qa hK47.cell Qv))))) rfl fun _ M=>?_;refine Qg 2 K M ?_;intro _ K;refine oQ K M (Bb _ _ _ M.fresh (Xs.mono M.rows hD) (hn47.mono M.rows) (hTm _ hm47)) rfl rfl fun _ _ K M=>?_;refine Qg 9 K M ?_;intro _ K;refine G5 K rfl (fun h57=>?_) fun h57=>?_
  ·refine Qg 4 K M ?_;intro _ K;refine Qe ⟨.inr rfl,_,Ah K rfl rfl,?_⟩;refine⟨congrArg pT (a₁:=((Jb sc (.mk o47 s47 z47 a47 l47)).2.1,(Jb sc (.mk o47 s47 z47 a47 l47)).2.2)) (a₂:=Vl ps sc s a l) (Eq.symm ?_),M.qt⟩;have hfs:ps.find? (fun p=>decide (p.name=s))=some _:=(hfb.resolve_left (by omega)).2.2.trans hi30;refine(AJ hfs).trans ((if_neg (by show¬pp30.length≠l.length;omega)).trans ?_);show FD sc a pp30 l=_;obtain⟨dq,hdq⟩: ∃d,pp30[i]? =some d:=⟨_,List.getElem?_eq_getElem (by omega)⟩;rw[hx,Iq hdq hi47,if_pos (by omega)]
  refine Qg 3 K M ?_;intro _ K;obtain⟨⟨dn63,do63,da63⟩,hi63⟩: ∃k,pp30[i]? =some k:=⟨_,List.getElem?_eq_getElem (by omega)⟩;have hm63:=En hi63;obtain⟨_,hc63,rfl,hy63⟩:=hD30.at_ _ _ hi63;obtain⟨x63,m63,f63,q63,_,la63,lo63,lp63⟩:=(hD30.r.mem M (by simp)).load (i:=i) (cs:=_) hc63;refine o1 K (Qr (j:=i) Z7 (congrArg some q63) rfl (by rw[hD30.ln];omega)) rfl fun _ K=>o1 K (Qf Hu rfl) rfl fun _ K=>o1 K (Qx rfl (lo63 _ 1 _ QI rfl)) rfl fun _ K=>?_;refine Qg 1 K M ?_;intro _ K;refine G5 K rfl (fun h66=>?_) fun h66=>?_
  ·refine Qg 4 K M ?_;intro _ K;refine Qe ⟨.inr rfl,_,Ah K rfl rfl,?_⟩;refine⟨congrArg pT (a₁:=(a,7)) (a₂:=Vl ps sc s a l) (Eq.symm ?_),M.qt⟩;have hfs:ps.find? (fun p=>decide (p.name=s))=some _:=(hfb.resolve_left (by omega)).2.2.trans hi30;refine(AJ hfs).trans ((if_neg (by show¬pp30.length≠l.length;omega)).trans ?_);show FD sc a pp30 l=_;rw[hx,Iq hi63 hi47,if_neg (by omega),if_pos (by first|exact h66|omega)]
  refine QT ?_;show W _ _ _ _ _ _ _;refine Qh<|o1 K (Jn rfl rfl (by omega) (by omega)) rfl fun _ K=>o1 K (Qb rfl) rfl fun _ K=>Q5 ?_;exact⟨_,(by omega),i+1,rfl,(.cons (K _ _ rfl) (.cons (K _ _ rfl) (.cons (K _ _ rfl) (.cons (K _ _ rfl) (.cons (K _ _ rfl) (.cons (K _ _ rfl) .nil)))))),M.less (.cons _ (.refl _)),(by omega),(by rw[hx,Iq hi63 hi47,if_neg (by omega),if_neg (fun hh=>hh h66)])⟩
 refine Uc ?_;show W _ _ _ _ _ _ _;refine Qg 2 K M ?_;intro _ K;refine Qe ⟨.inr rfl,_,Ah K rfl rfl,?_⟩;refine⟨congrArg pT (a₁:=(0,0)) (a₂:=Vl ps sc s a l) (Eq.symm ?_),M.qt⟩;have hfs:ps.find? (fun p=>decide (p.name=s))=some _:=(hfb.resolve_left (by omega)).2.2.trans hi30;refine(AJ hfs).trans ((if_neg (by show¬pp30.length≠l.length;omega)).trans ?_);show FD sc a pp30 l=_;rw[hx,Zi (show l.length≤i by omega)]
 cases pp30.drop i<;>rfl

theorem Cy{cc:Nat}{ps:List Pd}{kp:AV}{lp:List (List AV)}(x:Nd): ∀(sc:List Dc) (kd:AV) (ld:List (List AV)) (st:St) (cs:List AV),Q6 st→Xf st.h.get cc 0 [kp]→Kj st.h.get ps kp lp→Xs st.h.get sc kd ld→Vn st.h.get x cs→Jz x=true→sc.length+Ao x≤1000000→ ∃v st',Ev Tryz.prog Ja 46 [.ptr cc 0 0,kd,.agg cs] st v st'∧v=pT (ZO ps x sc)∧Qt st st':=by
 refine A0 (M:=fun x=> ∀(sc:List Dc) (kd:AV) (ld:List (List AV)) (st:St) (cs:List AV),Q6 st→Xf st.h.get cc 0 [kp]→Kj st.h.get ps kp lp→Xs st.h.get sc kd ld→Vn st.h.get x cs→Jz x=true→sc.length+Ao x≤1000000→ ∃v st',Ev Tryz.prog Ja 46 [.ptr cc 0 0,kd,.agg cs] st v st'∧v=pT (ZO ps x sc)∧Qt st st') (fun o s z a l ih=>?_) x;intro sc kd ld st cs hf hC hP hD hr ht hsz;have hr0:=hr;obtain⟨kk,ls,rfl,hK,hb⟩:=hr.Ua;have hln:=hK.ln;have hbn:=hK.ZJ;rw[Ao]at hsz;have hlD:=hD.ln;refine QC rfl Tryz.func46 rfl Tryz.ntmps46 rfl fun T hT=>?_;have K:Jm [(0,_),(1,_),(2,_)] T:=(.cons (hT 0) (.cons (hT 1) (.cons (hT 2) .nil)));have M:=Mem.start hf;refine Qq<|Qh ?_;refine J2 K M rfl (Qa rfl (Qa rfl (Qa rfl (Qa rfl (Qa hK.cell Qv))))) (by decide) fun c5 _ _ K M=>?_;refine o1 K (QM rfl) rfl fun _ K=>o1 K (QM rfl) rfl fun _ K=>Q5 ?_;show W _ _ _ _ _ _ _;refine EK (J:=fun T st9=> ∃(kd2:AV) (sc2:List Dc) (ld2:List (List AV)) (A2:List (Nat×Nat×List AV)),Jm [(0,.ptr cc 0 0),(1,kd2),(5,.ptr c5 0 0)] T∧Mem st.h.get st.n [] st9 ((c5,0,[.str o,.str s,.int .i64 z,.int .i64 a,kk])::(A2++[]))∧(Acc st.n 3 A2 kd2 ld2∨(A2=[]∧J1 st.h.get [] 3 ld2 kd2))∧zL sc2 ld2∧sc2=(if o=[101,120]∨o=[97,108,108]then sc++[⟨s,z,0⟩]else sc)∧(o≠[105,115]∧o≠[99,97,108,108]∧ZK o=false)) ?_ (fun T st9 hJ=>?_)
 ·refine Qg 2 K M ?_;intro _ K;refine o1 K (QV (b:=[105,115]) rfl rfl) rfl fun _ K=>?_;refine Qg 1 K M ?_;intro _ K;refine Z0 K rfl (fun h14=>?_) fun h14=>?_
  ·refine Qg 3 K M ?_;intro _ K;refine oQ K M (Nv M.fresh (Xs.mono M.rows hD) s) rfl rfl fun _ _ K M=>?_;refine Qg 2 K M ?_;intro _ K;refine Z0 K rfl (fun h20=>?_) fun h20=>?_
   ·refine Qg 4 K M ?_;intro _ K;refine Qe ⟨.inr rfl,_,Ah K rfl rfl,?_⟩;refine⟨congrArg pT (a₁:=(a,5)) (a₂:=ZO ps (.mk o s z a l) sc) (Eq.symm ?_),M.qt⟩;refine(Xm ..).trans ((if_pos (by assumption)).trans (if_pos (by assumption)))
   refine Qg 2 K M ?_;intro _ K;refine Z0 K rfl (fun h24=>?_) fun h24=>?_
   ·refine Qg 2 K M ?_;intro _ K;refine Qe ⟨.inr rfl,_,Ah K rfl rfl,?_⟩;refine⟨congrArg pT (a₁:=(0,0)) (a₂:=ZO ps (.mk o s z a l) sc) (Eq.symm ?_),M.qt⟩;refine(Xm ..).trans ((if_pos (by assumption)).trans ((if_neg (by assumption)).trans (if_pos (by assumption))))
   refine Qg 4 K M ?_;intro _ K;refine Qe ⟨.inr rfl,_,Ah K rfl rfl,?_⟩;refine⟨congrArg pT (a₁:=(a,7)) (a₂:=ZO ps (.mk o s z a l) sc) (Eq.symm ?_),M.qt⟩;refine(Xm ..).trans ((if_pos (by assumption)).trans ((if_neg (by assumption)).trans (if_neg (by assumption))))
  refine Qq<|Qh<|o1 K (QV (b:=[99,97,108,108]) rfl rfl) rfl fun _ K=>?_;refine Qg 1 K M ?_;intro _ K;refine Z0 K rfl (fun h28=>?_) fun h28=>?_
  ·refine Qg 3 K M ?_;intro _ K;refine oQ K M (qi M.fresh (M.rows _ _ _ hC) (Kj.mono M.rows hP) (Xs.mono M.rows hD) (hr0.mono M.rows) (Pt (by rw[←h28];exact ht))) rfl rfl fun _ _ K M=>?_;refine Qg 4 K M ?_;intro _ K;refine Qe ⟨.inr rfl,_,Ah K rfl rfl,?_⟩;refine⟨congrArg pT (a₁:=((Vl ps sc s a l).1,(Vl ps sc s a l).2)) (a₂:=ZO ps (.mk o s z a l) sc) (Eq.symm ?_),M.qt⟩;exact(Xm ..).trans ((if_neg (by simp_all)).trans (if_pos (by assumption)))
  refine Qq<|Qq<|Qh<|o1 K (QV (b:=[101,113]) rfl rfl) rfl fun _ K=>?_;refine Qg 1 K M ?_;intro _ K;refine Qn (K.QR rfl) (fun h36=>?_) (fun h36=>?_)
  ·have hb36:=h36;replace h36:=of_decide_eq_true h36;refine QT ?_;show W _ _ _ _ _ _ _;refine Qn (t:=true) ((K.QR rfl).trans (congrArg (fun b=>some (AV.bool b)) hb36)) (fun _=>?_) (fun h=>by cases h);refine Qg 3 K M ?_;intro _ K;obtain⟨k,j,hl2,hTm⟩:=XE ht (by unfold ZK;simp_all [oneOf]);obtain⟨v47,st47,ev47,rfl,q47⟩:=Aw M.fresh (Xs.mono M.rows hD) (hr0.mono M.rows) hl2 hTm _;refine o1 K (Qc rfl ev47) rfl fun _ K=>?_;replace M:=M.quiet q47;refine Qg 4 K M ?_;intro _ K;refine Qe ⟨.inr rfl,_,Ah K rfl rfl,?_⟩;refine⟨congrArg pT (a₁:=((Ya sc o a k j).1,(Ya sc o a k j).2)) (a₂:=ZO ps (.mk o s z a l) sc) (Eq.symm ?_),M.qt⟩;refine(Xm ..).trans ((if_neg (by simp_all)).trans ((if_neg (by simp_all)).trans ((if_pos (by unfold ZK;simp_all [oneOf])).trans ?_)));rw[hl2]
  have hb36:=h36;replace h36:=of_decide_eq_false h36;refine Qq<|Qh<|o1 K (QV (b:=[110,101]) rfl rfl) rfl fun _ K=>?_;refine Qg 1 K M ?_;intro _ K;refine Qn (K.QR rfl) (fun h36=>?_) (fun h36=>?_)
  ·have hb36:=h36;replace h36:=of_decide_eq_true h36;refine QT ?_;show W _ _ _ _ _ _ _;refine Qn (t:=true) ((K.QR rfl).trans (congrArg (fun b=>some (AV.bool b)) hb36)) (fun _=>?_) (fun h=>by cases h);refine Qg 3 K M ?_;intro _ K;obtain⟨k,j,hl2,hTm⟩:=XE ht (by unfold ZK;simp_all [oneOf]);obtain⟨v47,st47,ev47,rfl,q47⟩:=Aw M.fresh (Xs.mono M.rows hD) (hr0.mono M.rows) hl2 hTm _;refine o1 K (Qc rfl ev47) rfl fun _ K=>?_;replace M:=M.quiet q47;refine Qg 4 K M ?_;intro _ K;refine Qe ⟨.inr rfl,_,Ah K rfl rfl,?_⟩;refine⟨congrArg pT (a₁:=((Ya sc o a k j).1,(Ya sc o a k j).2)) (a₂:=ZO ps (.mk o s z a l) sc) (Eq.symm ?_),M.qt⟩;refine(Xm ..).trans ((if_neg (by simp_all)).trans ((if_neg (by simp_all)).trans ((if_pos (by unfold ZK;simp_all [oneOf])).trans ?_)));rw[hl2]
  have hb36:=h36;replace h36:=of_decide_eq_false h36;refine Qq<|Qh<|o1 K (QV (b:=[108,116]) rfl rfl) rfl fun _ K=>?_;refine Qg 1 K M ?_;intro _ K;refine Qn (K.QR rfl) (fun h36=>?_) (fun h36=>?_)
  ·have hb36:=h36;replace h36:=of_decide_eq_true h36;refine QT ?_;show W _ _ _ _ _ _ _;refine Qn (t:=true) ((K.QR rfl).trans (congrArg (fun b=>some (AV.bool b)) hb36)) (fun _=>?_) (fun h=>by cases h);refine Qg 3 K M ?_;intro _ K;obtain⟨k,j,hl2,hTm⟩:=XE ht (by unfold ZK;simp_all [oneOf]);obtain⟨v47,st47,ev47,rfl,q47⟩:=Aw M.fresh (Xs.mono M.rows hD) (hr0.mono M.rows) hl2 hTm _;refine o1 K (Qc rfl ev47) rfl fun _ K=>?_;replace M:=M.quiet q47;refine Qg 4 K M ?_;intro _ K;refine Qe ⟨.inr rfl,_,Ah K rfl rfl,?_⟩;refine⟨congrArg pT (a₁:=((Ya sc o a k j).1,(Ya sc o a k j).2)) (a₂:=ZO ps (.mk o s z a l) sc) (Eq.symm ?_),M.qt⟩;refine(Xm ..).trans ((if_neg (by simp_all)).trans ((if_neg (by simp_all)).trans ((if_pos (by unfold ZK;simp_all [oneOf])).trans ?_)));rw[hl2]
  have hb36:=h36;replace h36:=of_decide_eq_false h36;refine Qq<|Qh<|o1 K (QV (b:=[108,101]) rfl rfl) rfl fun _ K=>?_;refine Qg 1 K M ?_;intro _ K;refine Qn (K.QR rfl) (fun h36=>?_) (fun h36=>?_)
  ·have hb36:=h36;replace h36:=of_decide_eq_true h36;refine QT ?_;show W _ _ _ _ _ _ _;refine Qn (t:=true) ((K.QR rfl).trans (congrArg (fun b=>some (AV.bool b)) hb36)) (fun _=>?_) (fun h=>by cases h);refine Qg 3 K M ?_;intro _ K;obtain⟨k,j,hl2,hTm⟩:=XE ht (by unfold ZK;simp_all [oneOf]);obtain⟨v47,st47,ev47,rfl,q47⟩:=Aw M.fresh (Xs.mono M.rows hD) (hr0.mono M.rows) hl2 hTm _;refine o1 K (Qc rfl ev47) rfl fun _ K=>?_;replace M:=M.quiet q47;refine Qg 4 K M ?_;intro _ K;refine Qe ⟨.inr rfl,_,Ah K rfl rfl,?_⟩;refine⟨congrArg pT (a₁:=((Ya sc o a k j).1,(Ya sc o a k j).2)) (a₂:=ZO ps (.mk o s z a l) sc) (Eq.symm ?_),M.qt⟩;refine(Xm ..).trans ((if_neg (by simp_all)).trans ((if_neg (by simp_all)).trans ((if_pos (by unfold ZK;simp_all [oneOf])).trans ?_)));rw[hl2]
  have hb36:=h36;replace h36:=of_decide_eq_false h36;refine Qq<|Qh<|o1 K (QV (b:=[105,110]) rfl rfl) rfl fun _ K=>?_;refine Qg 1 K M ?_;intro _ K;refine Qn (K.QR rfl) (fun h36=>?_) (fun h36=>?_)
  ·have hb36:=h36;replace h36:=of_decide_eq_true h36;refine QT ?_;show W _ _ _ _ _ _ _;refine Qn (t:=true) ((K.QR rfl).trans (congrArg (fun b=>some (AV.bool b)) hb36)) (fun _=>?_) (fun h=>by cases h);refine Qg 3 K M ?_;intro _ K;obtain⟨k,j,hl2,hTm⟩:=XE ht (by unfold ZK;simp_all [oneOf]);obtain⟨v47,st47,ev47,rfl,q47⟩:=Aw M.fresh (Xs.mono M.rows hD) (hr0.mono M.rows) hl2 hTm _;refine o1 K (Qc rfl ev47) rfl fun _ K=>?_;replace M:=M.quiet q47;refine Qg 4 K M ?_;intro _ K;refine Qe ⟨.inr rfl,_,Ah K rfl rfl,?_⟩;refine⟨congrArg pT (a₁:=((Ya sc o a k j).1,(Ya sc o a k j).2)) (a₂:=ZO ps (.mk o s z a l) sc) (Eq.symm ?_),M.qt⟩;refine(Xm ..).trans ((if_neg (by simp_all)).trans ((if_neg (by simp_all)).trans ((if_pos (by unfold ZK;simp_all [oneOf])).trans ?_)));rw[hl2]
  have hb36:=h36;replace h36:=of_decide_eq_false h36;refine Qq<|Qh<|o1 K (QV (b:=[110,111,116,105,110]) rfl rfl) rfl fun _ K=>?_;refine Qg 1 K M ?_;intro _ K;refine Qn (K.QR rfl) (fun h36=>?_) (fun h36=>?_)
  ·have hb36:=h36;replace h36:=of_decide_eq_true h36;refine QT ?_;show W _ _ _ _ _ _ _;refine Qn (t:=true) ((K.QR rfl).trans (congrArg (fun b=>some (AV.bool b)) hb36)) (fun _=>?_) (fun h=>by cases h);refine Qg 3 K M ?_;intro _ K;obtain⟨k,j,hl2,hTm⟩:=XE ht (by unfold ZK;simp_all [oneOf]);obtain⟨v47,st47,ev47,rfl,q47⟩:=Aw M.fresh (Xs.mono M.rows hD) (hr0.mono M.rows) hl2 hTm _;refine o1 K (Qc rfl ev47) rfl fun _ K=>?_;replace M:=M.quiet q47;refine Qg 4 K M ?_;intro _ K;refine Qe ⟨.inr rfl,_,Ah K rfl rfl,?_⟩;refine⟨congrArg pT (a₁:=((Ya sc o a k j).1,(Ya sc o a k j).2)) (a₂:=ZO ps (.mk o s z a l) sc) (Eq.symm ?_),M.qt⟩;refine(Xm ..).trans ((if_neg (by simp_all)).trans ((if_neg (by simp_all)).trans ((if_pos (by unfold ZK;simp_all [oneOf])).trans ?_)));rw[hl2]
  have hb36:=h36;replace h36:=of_decide_eq_false h36;refine Qh<|o1 K (QV (b:=[115,117,98]) rfl rfl) rfl fun _ K=>?_;refine Qg 1 K M ?_;intro _ K;refine Qn (K.QR rfl) (fun h36=>?_) (fun h36=>?_)
  ·have hb36:=h36;replace h36:=of_decide_eq_true h36;refine Qg 3 K M ?_;intro _ K;obtain⟨k,j,hl2,hTm⟩:=XE ht (by unfold ZK;simp_all [oneOf]);obtain⟨v47,st47,ev47,rfl,q47⟩:=Aw M.fresh (Xs.mono M.rows hD) (hr0.mono M.rows) hl2 hTm _;refine o1 K (Qc rfl ev47) rfl fun _ K=>?_;replace M:=M.quiet q47;refine Qg 4 K M ?_;intro _ K;refine Qe ⟨.inr rfl,_,Ah K rfl rfl,?_⟩;refine⟨congrArg pT (a₁:=((Ya sc o a k j).1,(Ya sc o a k j).2)) (a₂:=ZO ps (.mk o s z a l) sc) (Eq.symm ?_),M.qt⟩;refine(Xm ..).trans ((if_neg (by simp_all)).trans ((if_neg (by simp_all)).trans ((if_pos (by unfold ZK;simp_all [oneOf])).trans ?_)));rw[hl2]
  have hb36:=h36;replace h36:=of_decide_eq_false h36;refine Qq<|Qq<|Qh<|o1 K (QV (b:=[101,120]) rfl rfl) rfl fun _ K=>?_;refine Qg 1 K M ?_;intro _ K;refine Qn (K.QR rfl) (fun h50=>?_) (fun h50=>?_)
  ·have hb50:=h50;replace h50:=of_decide_eq_true h50;refine QT ?_;show W _ _ _ _ _ _ _;refine Qn (t:=true) ((K.QR rfl).trans (congrArg (fun b=>some (AV.bool b)) hb50)) (fun _=>?_) (fun h=>by cases h);refine Jk (l:=[(0,0),(1,0),(2,0),(3,1),(4,0),(5,1),(6,0),(7,0),(8,0),(9,0)]) (by kernel_rfl) ?_;have Mq:=M;refine d1 rfl K (Qb rfl) rfl rfl fun _ K=>?_;obtain⟨v54,st54,ev54,ks54,rfl,nr54,q54⟩:=NO M.fresh (Xs.mono M.rows hD) (by omega);refine dA rfl K (Qc rfl ev54) rfl rfl fun _ K=>?_;obtain⟨A54,hA54,M⟩:=M.FZ q54 nr54;have Mp:=Mq;have Mq:=M;refine d1 rfl K (Qf E8 rfl) rfl rfl fun _ K=>?_;refine QZ rfl K rfl (M.load (k:=0) rfl (Qk JI rfl)) (Mp.load (k:=0) rfl (Qk JI rfl)) (Ub rfl) rfl (by decide) fun _ K=>?_;refine d1 rfl K (Qf E7 rfl) rfl rfl fun _ K=>?_;refine QZ rfl K rfl (M.load (k:=0) rfl (Qk QI rfl)) (Mp.load (k:=0) rfl (Qk QI rfl)) (Ub rfl) rfl (by decide) fun _ K=>?_;refine d1 rfl K (Qz ZV rfl rfl) rfl rfl fun _ K=>?_;refine Vr rfl K M JG Ym rfl rfl rfl rfl rfl fun c60 _ _ K M=>?_;refine Iz (k2:=0) (L:=[(c60,0,[.str s,.int .i64 z,.int .i64 0]),(c5,0,[.str o,.str s,.int .i64 z,.int .i64 a,kk])]) (A:=A54) (B:=[]) rfl K M hA54 JG rfl rfl rfl rfl (by omega) rfl fun ks61 A61 _ _ K hA61 M=>?_;have Mp:=Mq;have Mq:=M;refine d1 rfl K (QM rfl) rfl rfl fun _ K=>J0 ?_;exact⟨ks61,sc++[⟨s,z,0⟩],ld++[[.str s,.int .i64 z,.int .i64 0]],A61,(.cons (K _ _ rfl) (.cons (K _ _ rfl) (.cons (K _ _ rfl) .nil))),M.less (.cons _ (.refl _)),(by first|exact .inl hA61|exact .inr ⟨rfl,hD.r⟩),(by first|exact hD.zP.snoc hb.2|exact hD.zP),(by simp_all),⟨by simp_all,by simp_all,by unfold ZK;simp_all [oneOf]⟩⟩
  have hb50:=h50;replace h50:=of_decide_eq_false h50;refine Qh<|o1 K (QV (b:=[97,108,108]) rfl rfl) rfl fun _ K=>?_;refine Qg 1 K M ?_;intro _ K;refine Qn (K.QR rfl) (fun h50=>?_) (fun h50=>?_)
  ·have hb50:=h50;replace h50:=of_decide_eq_true h50;refine Jk (l:=[(0,0),(1,0),(2,0),(3,1),(4,0),(5,1),(6,0),(7,0),(8,0),(9,0)]) (by kernel_rfl) ?_;have Mq:=M;refine d1 rfl K (Qb rfl) rfl rfl fun _ K=>?_;obtain⟨v54,st54,ev54,ks54,rfl,nr54,q54⟩:=NO M.fresh (Xs.mono M.rows hD) (by omega);refine dA rfl K (Qc rfl ev54) rfl rfl fun _ K=>?_;obtain⟨A54,hA54,M⟩:=M.FZ q54 nr54;have Mp:=Mq;have Mq:=M;refine d1 rfl K (Qf E8 rfl) rfl rfl fun _ K=>?_;refine QZ rfl K rfl (M.load (k:=0) rfl (Qk JI rfl)) (Mp.load (k:=0) rfl (Qk JI rfl)) (Ub rfl) rfl (by decide) fun _ K=>?_;refine d1 rfl K (Qf E7 rfl) rfl rfl fun _ K=>?_;refine QZ rfl K rfl (M.load (k:=0) rfl (Qk QI rfl)) (Mp.load (k:=0) rfl (Qk QI rfl)) (Ub rfl) rfl (by decide) fun _ K=>?_;refine d1 rfl K (Qz ZV rfl rfl) rfl rfl fun _ K=>?_;refine Vr rfl K M JG Ym rfl rfl rfl rfl rfl fun c60 _ _ K M=>?_;refine Iz (k2:=0) (L:=[(c60,0,[.str s,.int .i64 z,.int .i64 0]),(c5,0,[.str o,.str s,.int .i64 z,.int .i64 a,kk])]) (A:=A54) (B:=[]) rfl K M hA54 JG rfl rfl rfl rfl (by omega) rfl fun ks61 A61 _ _ K hA61 M=>?_;have Mp:=Mq;have Mq:=M;refine d1 rfl K (QM rfl) rfl rfl fun _ K=>J0 ?_;exact⟨ks61,sc++[⟨s,z,0⟩],ld++[[.str s,.int .i64 z,.int .i64 0]],A61,(.cons (K _ _ rfl) (.cons (K _ _ rfl) (.cons (K _ _ rfl) .nil))),M.less (.cons _ (.refl _)),(by first|exact .inl hA61|exact .inr ⟨rfl,hD.r⟩),(by first|exact hD.zP.snoc hb.2|exact hD.zP),(by simp_all),⟨by simp_all,by simp_all,by unfold ZK;simp_all [oneOf]⟩⟩
  have hb50:=h50;replace h50:=of_decide_eq_false h50;refine QT ?_;exact⟨kd,sc,ld,[],(.cons (K _ _ rfl) (.cons (K _ _ rfl) (.cons (K _ _ rfl) .nil))),M.less (.refl _),(by first|exact .inl hA61|exact .inr ⟨rfl,hD.r⟩),(by first|exact hD.zP.snoc hb.2|exact hD.zP),(by simp_all),⟨by simp_all,by simp_all,by unfold ZK;simp_all [oneOf]⟩⟩
 obtain⟨kd2,sc2,ld2,A2,K,M,hA2,hL2,hs2,hno⟩:=hJ
 have hbl2:sc2.length≤sc.length+1:=by rw[hs2];split<;>simp
 refine Qg 2 K M ?_;intro _ K;refine o1 K (Jd J5 rfl rfl hK.len) rfl fun _ K=>?_;refine Qg 1 K M ?_;intro _ K;refine U8 (fun mm1 T st9=> ∃(i:Nat),mm1=l.length-i∧Jm [(0,.ptr cc 0 0),(1,kd2),(63,kk),(64,.int .i64 (((l.length:Nat):Int))),(65,.int .i64 (((i:Nat):Int)))] T∧Mem st.h.get st.n [] st9 ((c5,0,[.str o,.str s,.int .i64 z,.int .i64 a,kk])::(A2++[]))∧i≤l.length∧Bs ps l sc2=Bs ps (l.drop i) sc2) (fun mm1 T st9 hI=>?_) _ _ _ ⟨0,rfl,(.cons (K _ _ rfl) (.cons (K _ _ rfl) (.cons (K _ _ rfl) (.cons (K _ _ rfl) (.cons (K _ _ rfl) .nil))))),M.less (.refl _),(Nat.zero_le _),(by rw[List.drop_zero])⟩;obtain⟨i,rfl,K,M,hi,hx⟩:=hI;refine Qg 1 K M ?_;intro _ K;refine Z0 K rfl (fun h66=>?_) fun h66=>?_
 ·refine QT ?_;show W _ _ _ _ _ _ _;refine Qq<|Uw<|Qq<|Qh ?_;obtain⟨⟨o67,s67,z67,a67,l67⟩,hi67⟩: ∃k,l[i]? =some k:=⟨_,List.getElem?_eq_getElem (by first|omega|(have:=Y8 ht (by assumption);omega))⟩;have hm67:=Yb hi67;obtain⟨_,hc67,hn67⟩:=hK.at_ _ _ hi67;have hp67:=hn67;obtain⟨kk67,ls67,rfl,hK67,hb67⟩:=hp67.Ua;obtain⟨x67,m67,f67,q67,_,la67,lo67,lp67⟩:=(hK.r.mem M (by simp)).load (i:=i) (cs:=_) hc67;refine o1 K (Qr (j:=i) JH (congrArg some q67) rfl (by rw[hK.ln];first|omega|(have:=Y8 ht (by assumption);omega))) rfl fun _ K=>o1 K (Qx rfl (la67 _ QO)) rfl fun _ K=>?_;refine U0 K M QN (by decide) fun c9 _ _ K M=>?_;refine QB (k:=0) K M rfl rfl rfl QH rfl (Qa rfl (Qa rfl (Qa rfl (Qa rfl (Qa hK67.cell Qv))))) rfl fun _ M=>?_;refine Qg 3 K M ?_;intro _ K;have hkk:=UX hm67;refine oQ K M (ih _ hm67 sc2 kd2 ld2 _ _ M.fresh (M.rows _ _ _ hC) (Kj.mono M.rows hP) (hL2.ds (Mem.zI (L:=[(c9,0,[.str o67,.str s67,.int .i64 z67,.int .i64 a67,kk67]),(c5,0,[.str o,.str s,.int .i64 z,.int .i64 a,kk])]) (A:=A2) (B:=[]) M hA2)) (hn67.mono M.rows) (SW ht hno.1 hno.2.1 hno.2.2 _ hm67) (by omega)) rfl rfl fun _ _ K M=>?_;refine Qg 7 K M ?_;intro _ K;refine G5 K rfl (fun h77=>?_) fun h77=>?_
  ·refine Qg 4 K M ?_;intro _ K;refine Qe ⟨.inr rfl,_,Ah K rfl rfl,?_⟩;refine⟨congrArg pT (a₁:=((ZO ps (.mk o67 s67 z67 a67 l67) sc2).1,(ZO ps (.mk o67 s67 z67 a67 l67) sc2).2)) (a₂:=ZO ps (.mk o s z a l) sc) (Eq.symm ?_),M.qt⟩;rw[Xm,if_neg hno.1,if_neg hno.2.1,hno.2.2,if_neg (by decide),←hs2,hx,Gw hi67,if_pos (by omega)]
  refine QT ?_;show W _ _ _ _ _ _ _;refine Qh<|o1 K (Jn rfl rfl (by omega) (by omega)) rfl fun _ K=>o1 K (Qb rfl) rfl fun _ K=>Q5 ?_;exact⟨_,(by omega),i+1,rfl,(.cons (K _ _ rfl) (.cons (K _ _ rfl) (.cons (K _ _ rfl) (.cons (K _ _ rfl) (.cons (K _ _ rfl) .nil))))),M.less (.cons _ (.refl _)),(by omega),(by rw[hx,Gw hi67,if_neg (by omega)])⟩
 refine Uc ?_;show W _ _ _ _ _ _ _;refine Qg 2 K M ?_;intro _ K;refine Qe ⟨.inr rfl,_,Ah K rfl rfl,?_⟩;refine⟨congrArg pT (a₁:=(0,0)) (a₂:=ZO ps (.mk o s z a l) sc) (Eq.symm ?_),M.qt⟩;rw[Xm,if_neg hno.1,if_neg hno.2.1,hno.2.2,if_neg (by decide),←hs2,hx,Zi (by omega),Bs]
end Go.Proofs.YtadjjadimlkkgaaGreatDoor
end
section
namespace Go.Proofs.YtadjjadimlkkgaaGreatDoor
open Go Go.RowKit

def xL(r:Option Int):Int:=r.getD 0
def xK:Option Int→Int
 |some _=>6
 |none=>0
theorem OD{st:St}(hf:Q6 st){l:List Dc}{kd:AV}{ld:List (List AV)}(hD:Xs st.h.get l kd ld): ∃v st',Ev Tryz.prog Ja 44 [kd] st v st'∧v=.tup [.int .i64 (xL (UH [] l)),.int .i64 (xK (UH [] l))]∧Qt st st':=by
 obtain⟨v,st',h,rfl,q⟩:=TJ hf hD
 exact⟨_,_,h,by cases UH [] l<;>rfl,q⟩
def Lp(ps:List Pd)(p:Pd):Int×Int:=if ps.any (fun q=>decide (q.name=p.name))then(p.at_,6)else match UH [] p.params with
 |some a=>(a,6)
 |none=>ZO ps p.body p.params
theorem Ca{l:List Pd}{i:Nat}{p:Pd}(h:l[i]? =some p):IA (l.take i) (l.drop i)=if(Lp (l.take i) p).2≠0 then some (Lp (l.take i) p)else IA (l.take (i+1)) (l.drop (i+1)):=by
 rw[Sp h,Lp]
 by_cases h1:(l.take i).any (fun q=>decide (q.name=p.name))=true
 ·rw[if_pos h1,if_pos h1];rfl
 rw[if_neg h1,if_neg h1]
 cases UH [] p.params with
 |some a=>rfl
 |none=>rfl
theorem DP{n:List Nat}{pp:List Dc}{b:Nd}{z:Int}(h:WH ⟨n,pp,b,z⟩=true):Jz b=true∧pp.length+Ao b≤1000000:=by
 rw[Fk]at h;simp only[Bool.and_eq_true,decide_eq_true_eq,UQ]at h;obtain⟨_,h2,_,⟨h3,_⟩,h4⟩:=h;exact⟨h4,by omega⟩
theorem DN{ds:List Dc}{ps:List Pd}{m:Nd}(h:EP ⟨ds,ps,m⟩=true){p:Pd}(hm:p∈ps):WH p=true:=by
 rw[Fj]at h;simp only[Bool.and_eq_true,List.all_eq_true]at h;exact h.2.1 p hm
theorem DO{ds:List Dc}{ps:List Pd}{m:Nd}(h:EP ⟨ds,ps,m⟩=true):Jz m=true∧Ao m≤2000:=by
 rw[Fj]at h;simp only[Bool.and_eq_true,decide_eq_true_eq,UQ]at h;exact⟨h.2.2.2,by have:=h.2.2.1.1;omega⟩
theorem Kj.take{h h':Hp}(hl:FG h h'){ps:List Pd}{kp:AV}{lp:List (List AV)}(H:Kj h ps kp lp){i:Nat}{ks:AV}(r:J1 h' [] 8 (lp.take i) ks):Kj h' (ps.take i) ks (lp.take i):=
 ⟨r,by rw[List.length_take,List.length_take,H.ln],fun j k hj=>by
  have hlt:=(List.getElem?_eq_some_iff.1 hj).1;rw[List.length_take]at hlt;rw[List.getElem?_take_of_lt (by omega)]at hj;obtain⟨cs,h1,h2⟩:=H.at_ _ _ hj
  exact⟨cs,by rw[List.getElem?_take_of_lt (by omega)];exact h1,h2.mono hl⟩⟩
theorem Kj.jK{h h':Hp}(hl:FG h h'){ps:List Pd}{kp:AV}{lp:List (List AV)}(H:Kj h ps kp lp){i:Nat}(hi:ps.length≤i){ks:AV}(r:J1 h' [] 8 (lp.take i) ks):Kj h' ps ks (lp.take i):=by
 have h1:=Kj.take hl H r;rw[List.take_of_length_le hi]at h1;exact h1
theorem RS{α:Type}{l:List α}{i:Nat}{x:α}(h:l[i]? =some x):l.take (i+1)=l.take i++[x]:=by rw[List.take_add_one,h];rfl
theorem Tp{p:Pg}(h:EP p=false):Zj p=(0,1):=by rw[Zj,if_neg (by rw[h];decide)]
theorem Bt{p:Pg}(h:EP p=true){a:Int}(h2:UH [] p.decls=some a):Zj p=(a,6):=by rw[Zj,if_pos h,h2]
theorem P9{p:Pg}(h:EP p=true)(h2:UH [] p.decls=none){r:Int×Int}(h3:IA [] p.preds=some r):Zj p=r:=by rw[Zj,if_pos h,h2];simp only[h3]
theorem CW{p:Pg}(h:EP p=true)(h2:UH [] p.decls=none)(h3:IA [] p.preds=none):Zj p=ZO p.preds p.main p.decls:=by rw[Zj,if_pos h,h2];simp only[h3]

theorem M4{pn:List Nat}{pp:List Dc}{o s:List Nat}{z a pa:Int}{l:List Nd}{st:St}{cs:List AV}(hf:Q6 st)(hr:jy st.h.get ⟨pn,pp,.mk o s z a l,pa⟩ cs){c3:Nat}{n3 o3 s3:List Nat}{z3 a3 pa3:Int}{kd3 kk3:AV}(h3:Xf st.h.get c3 0 [.str n3,kd3,.str o3,.str s3,.int .i64 z3,.int .i64 a3,kk3,.int .i64 pa3]): ∃v st',Ev Tryz.prog Ja 91 [.agg cs,.ptr c3 0 0] st v st'∧v=.bool (decide (pn=n3))∧Qt st st':=by
 have hr0:=hr;have hr0:=hr;obtain⟨kd,ld,o,s,z,a,kk,rfl,hD,hn,hy⟩:=hr0;obtain⟨kx,ls,ex,hK,hb⟩:=hn.Ua
 injection ex with x1 x;injection x with x2 x;injection x with x3 x;injection x with x4 x;injection x with x5 x
 injection x1 with x1;injection x2 with x2;injection x3 with _ x3;injection x4 with _ x4
 subst x1 x2 x3 x4 x5;replace hD:Xs st.h.get pp kd ld:=hD;replace hn:Vn st.h.get (.mk o s z a l) _:=hn;replace hy:Bytes pn:=hy;have hl:=hK.ZJ;have hd:=hD.ZJ;refine QC rfl Tryz.func91 rfl Tryz.ntmps91 rfl fun T hT=>?_;have K:Jm [(0,_),(1,_)] T:=(.cons (hT 0) (.cons (hT 1) .nil));have M:=Mem.start hf;refine Qq<|Qh ?_;refine J2 K M rfl (Qa rfl (Qa hD.cell (Qa rfl (Qa rfl (Qa rfl (Qa rfl (Qa hK.cell (Qa rfl Qv)))))))) (by decide) fun c2 _ _ K M=>?_;refine Qg 4 K M ?_;intro _ K;refine o1 K (Qx rfl (Yt (M.rows _ _ _ h3) (Qk JI rfl))) rfl fun _ K=>?_;refine Qg 2 K M ?_;intro _ K;refine Qe ⟨.inr rfl,_,JU K rfl,?_⟩;exact⟨rfl,M.qt⟩

theorem qe{pn:List Nat}{pp:List Dc}{o s:List Nat}{z a pa:Int}{l:List Nd}{st:St}{cs:List AV}(hf:Q6 st){cc:Nat}{ps:List Pd}{kp:AV}{lp:List (List AV)}(hC:Xf st.h.get cc 0 [kp])(hP:Kj st.h.get ps kp lp)(hr:jy st.h.get ⟨pn,pp,.mk o s z a l,pa⟩ cs)(ht:Jz (.mk o s z a l)=true)(hsz:pp.length+Ao (.mk o s z a l)≤1000000): ∃v st',Ev Tryz.prog Ja 45 [.ptr cc 0 0,.agg cs] st v st'∧v=pT (Lp ps ⟨pn,pp,.mk o s z a l,pa⟩)∧Qt st st':=by
 have hr0:=hr;have hr0:=hr;obtain⟨kd,ld,o,s,z,a,kk,rfl,hD,hn,hy⟩:=hr0;obtain⟨kx,ls,ex,hK,hb⟩:=hn.Ua
 injection ex with x1 x;injection x with x2 x;injection x with x3 x;injection x with x4 x;injection x with x5 x
 injection x1 with x1;injection x2 with x2;injection x3 with _ x3;injection x4 with _ x4
 subst x1 x2 x3 x4 x5;replace hD:Xs st.h.get pp kd ld:=hD;replace hn:Vn st.h.get (.mk o s z a l) _:=hn;replace hy:Bytes pn:=hy;have hl:=hK.ZJ;have hd:=hD.ZJ;have hlp:=hP.ln;refine QC rfl Tryz.func45 rfl Tryz.ntmps45 rfl fun T hT=>?_;have K:Jm [(0,_),(1,_)] T:=(.cons (hT 0) (.cons (hT 1) .nil));have M:=Mem.start hf;refine Qq<|Qh ?_;refine J2 K M rfl (Qa rfl (Qa hD.cell (Qa rfl (Qa rfl (Qa rfl (Qa rfl (Qa hK.cell (Qa rfl Qv)))))))) (by decide) fun c3 _ _ K M=>?_;refine Qg 5 K M ?_;intro _ K;refine o1 K (Qx rfl (Yt (M.rows _ _ _ hC) (Qk Yi rfl))) rfl fun _ K=>o1 K (Ax rfl rfl) rfl fun _ K=>?_
 obtain⟨v13,st13,ev13,rfl,q13⟩:=Hw (fa:=[]) (fc:=[.ptr c3 0 0]) (p:=fun p:Pd=>decide (p.name=pn)) M.fresh (Kj.mono M.rows hP) (fun k hk st1 cs q hr1=>by
  obtain⟨pn9,pp9,⟨o9,s9,z9,a9,l9⟩,pa9⟩:=k
  exact M4 q.fresh hr1 ((JA.Xg (M.Qp (k:=0) rfl)).U7 M.fresh (q.U7 []) (by simp)))
 refine o1 K (Qc rfl ev13) rfl fun _ K=>?_;replace M:=M.quiet q13;refine Q5 ?_;show W _ _ _ _ _ _ _;refine Qn (K.QR rfl) (fun h13=>?_) (fun h13=>?_)
 ·have hb13:=h13;refine Qg 4 K M ?_;intro _ K;refine Qe ⟨.inr rfl,_,Ah K rfl rfl,?_⟩;refine⟨congrArg pT (a₁:=(pa,6)) (a₂:=Lp ps ⟨pn,pp,.mk o s z a l,pa⟩) (Eq.symm ?_),M.qt⟩;exact if_pos h13
 have hb13:=h13;refine Qg 2 K M ?_;intro _ K;refine oQ K M (OD M.fresh (Xs.mono M.rows hD)) rfl rfl fun _ _ K M=>?_;refine Qg 7 K M ?_;intro _ K;refine G5 K rfl (fun h23=>?_) fun h23=>?_
 ·refine Qg 4 K M ?_;intro _ K;refine Qe ⟨.inr rfl,_,Ah K rfl rfl,?_⟩;refine⟨congrArg pT (a₁:=(xL (UH [] pp),xK (UH [] pp))) (a₂:=Lp ps ⟨pn,pp,.mk o s z a l,pa⟩) (Eq.symm ?_),M.qt⟩;refine(if_neg (by rw[h13];decide)).trans ?_;show(match UH [] pp with|some a=>(a,6)|none=>ZO ps (.mk o s z a l) pp)=_
  cases hq:UH [] pp with
  |none=>rw[hq]at h23;exact absurd rfl h23
  |some b=>rfl
 refine Qg 5 K M ?_;intro _ K;refine oQ K M (Cy _ _ _ _ _ _ M.fresh (M.rows _ _ _ hC) (Kj.mono M.rows hP) (Xs.mono M.rows hD) (hn.mono M.rows) ht hsz) rfl rfl fun _ _ K M=>?_;refine Qg 4 K M ?_;intro _ K;refine Qe ⟨.inr rfl,_,Ah K rfl rfl,?_⟩;refine⟨congrArg pT (a₁:=((ZO ps (.mk o s z a l) pp).1,(ZO ps (.mk o s z a l) pp).2)) (a₂:=Lp ps ⟨pn,pp,.mk o s z a l,pa⟩) (Eq.symm ?_),M.qt⟩;refine(if_neg (by rw[h13];decide)).trans ?_;show(match UH [] pp with|some a=>(a,6)|none=>ZO ps (.mk o s z a l) pp)=_
 cases hq:UH [] pp with
 |none=>rfl
 |some b=>rw[hq]at h23;exact absurd h23 (by show¬(6:Int)=0;decide)

theorem SI{ds:List Dc}{ps:List Pd}{o s:List Nat}{z a:Int}{l:List Nd}{st:St}{cs:List AV}(hf:Q6 st)(hr:xw st.h.get ⟨ds,ps,.mk o s z a l⟩ cs)(hds:ds.length≤100000)(hps:ps.length≤100000): ∃v st',Ev Tryz.prog Ja 11 [.agg cs] st v st'∧v=pT (Zj ⟨ds,ps,.mk o s z a l⟩)∧Qt st st':=by
 have hr0:=hr;obtain⟨kd,ld,kp,lp,o,s,z,a,kk,rfl,hD,hP,hn⟩:=hr0;obtain⟨kx,ls,ex,hK,hb⟩:=hn.Ua
 injection ex with x1 x;injection x with x2 x;injection x with x3 x;injection x with x4 x;injection x with x5 x
 injection x1 with x1;injection x2 with x2;injection x3 with _ x3;injection x4 with _ x4
 subst x1 x2 x3 x4 x5;replace hD:Xs st.h.get ds kd ld:=hD;replace hP:Kj st.h.get ps kp lp:=hP;replace hn:Vn st.h.get (.mk o s z a l) _:=hn;have hbk:=hK.ZJ;have hbd:=hD.ZJ;have hbp:=hP.ZJ;have hlp:=hP.ln;refine QC rfl Tryz.func11 rfl Tryz.ntmps11 rfl fun T hT=>?_;have K:Jm [(0,_)] T:=(.cons (hT 0) .nil);have M:=Mem.start hf;refine Qq<|Qh ?_;refine J2 K M rfl (Qa hD.cell (Qa hP.cell (Qa rfl (Qa rfl (Qa rfl (Qa rfl (Qa hK.cell Qv))))))) (by decide) fun c1 _ _ K M=>?_;refine Qg 3 K M ?_;intro _ K;refine oQ K M (zb M.fresh (hr.mono M.rows)) rfl rfl fun _ _ K M=>?_;refine Qg 1 K M ?_;intro _ K;refine Qn (K.QR rfl) (fun h13=>?_) (fun h13=>?_)
 ·have hb13:=h13
  replace h13:(EP ⟨ds,ps,.mk o s z a l⟩)=false:=by first|simpa using h13|(revert h13;cases(EP ⟨ds,ps,.mk o s z a l⟩)<;>simp)
  refine Qg 2 K M ?_;intro _ K;refine Qe ⟨.inr rfl,_,Ah K rfl rfl,?_⟩;refine⟨congrArg pT (a₁:=(0,1)) (a₂:=Zj ⟨ds,ps,.mk o s z a l⟩) (Eq.symm ?_),M.qt⟩;exact Tp h13
 have hb13:=h13
 replace h13:(EP ⟨ds,ps,.mk o s z a l⟩)=true:=by first|simpa using h13|(revert h13;cases(EP ⟨ds,ps,.mk o s z a l⟩)<;>simp)
 refine Qg 2 K M ?_;intro _ K;refine oQ K M (OD M.fresh (Xs.mono M.rows hD)) rfl rfl fun _ _ K M=>?_;refine Qg 7 K M ?_;intro _ K;refine G5 K rfl (fun h21=>?_) fun h21=>?_
 ·refine Qg 4 K M ?_;intro _ K;refine Qe ⟨.inr rfl,_,Ah K rfl rfl,?_⟩;refine⟨congrArg pT (a₁:=(xL (UH [] ds),xK (UH [] ds))) (a₂:=Zj ⟨ds,ps,.mk o s z a l⟩) (Eq.symm ?_),M.qt⟩
  cases hq:UH [] ds with
  |none=>rw[hq]at h21;exact absurd rfl h21
  |some b=>exact Bt h13 hq
 refine QT ?_;show W _ _ _ _ _ _ _;refine Qq<|Qh<|o1 K (Qz Ko rfl rfl) rfl fun _ K=>?_;refine J2 K M rfl rfl (by decide) fun c25 _ _ K M=>?_;refine Qg 3 K M ?_;intro _ K;refine o1 K (Jd Et rfl rfl hP.len) rfl fun _ K=>?_;refine Qg 1 K M ?_;intro _ K;refine U8 (fun mm1 T st9=> ∃(i:Nat) (ks:AV) (A:List (Nat×Nat×List AV)),mm1=ps.length-i∧Jm [(1,.ptr c1 0 0),(6,.ptr c25 0 0),(27,kp),(28,.int .i64 (((ps.length:Nat):Int))),(29,.int .i64 (((i:Nat):Int)))] T∧Mem st.h.get st.n [] st9 ((c25,0,[ks])::(c1,0,[kd,kp,.str o,.str s,.int .i64 z,.int .i64 a,kk])::(A++[]))∧Acc st.n 8 A ks (lp.take i)∧i≤ps.length∧IA [] ps=IA (ps.take i) (ps.drop i)) (fun mm1 T st9 hI=>?_) _ _ _ ⟨0,.nils,[],rfl,(.cons (K _ _ rfl) (.cons (K _ _ rfl) (.cons (K _ _ rfl) (.cons (K _ _ rfl) (.cons (K _ _ rfl) .nil))))),M.less (.refl _),(by rw[List.take_zero];exact .none),(Nat.zero_le _),rfl⟩;obtain⟨i,ks,A,rfl,K,M,hA,hi,hx⟩:=hI;refine Qg 1 K M ?_;intro _ K;refine Z0 K rfl (fun h30=>?_) fun h30=>?_
 ·refine QT ?_;show W _ _ _ _ _ _ _;refine Qq<|Uw<|Qq<|Qh ?_;obtain⟨⟨pn31,pp31,⟨_,_,_,_,l31⟩,pa31⟩,hi31⟩: ∃k,ps[i]? =some k:=⟨_,List.getElem?_eq_getElem (by omega)⟩;have hm31:=En hi31;obtain⟨_,hc31,hP31⟩:=hP.at_ _ _ hi31;have hP310:=hP31;obtain⟨kd31,ld31,o31,s31,z31,a31,kk31,rfl,hD31,hn31,hy31⟩:=hP310;obtain⟨kx31,ls31,ex31,hK31,hb31⟩:=hn31.Ua
  injection ex31 with x1 x;injection x with x2 x;injection x with x3 x;injection x with x4 x;injection x with x5 x
  injection x1 with x1;injection x2 with x2;injection x3 with _ x3;injection x4 with _ x4
  subst x1 x2 x3 x4 x5;replace hD31:Xs st.h.get pp31 kd31 ld31:=hD31;replace hn31:Vn st.h.get (.mk o31 s31 z31 a31 l31) _:=hn31;replace hy31:Bytes pn31:=hy31;have hl31:=hK31.ZJ;have hd31:=hD31.ZJ;obtain⟨x31,m31,f31,q31,_,la31,lo31,lp31⟩:=(hP.r.mem M (by simp)).load (i:=i) (cs:=_) hc31;refine o1 K (Qr (j:=i) EB (congrArg some q31) rfl (by rw[hP.ln];omega)) rfl fun _ K=>o1 K (Qx rfl (la31 _ Ei)) rfl fun _ K=>?_;refine U0 K M ZQ (by decide) fun c8 _ _ K M=>?_;refine QB (k:=0) K M rfl rfl rfl Fa rfl (Qa rfl (Qa hD31.cell (Qa rfl (Qa rfl (Qa rfl (Qa rfl (Qa hK31.cell (Qa rfl Qv)))))))) rfl fun _ M=>?_;refine Qg 2 K M ?_;intro _ K;obtain⟨hfm,hfs⟩:=DP (DN h13 hm31);refine oQ K M (qe M.fresh (JA.Xg (M.Qp (k:=1) rfl)) (Kj.take M.rows hP (Mem.Lv (L:=[(c8,0,[.str pn31,kd31,.str o31,.str s31,.int .i64 z31,.int .i64 a31,kk31,.int .i64 pa31]),(c25,0,[ks]),(c1,0,[kd,kp,.str o,.str s,.int .i64 z,.int .i64 a,kk])]) (A:=A) (B:=[]) M hA)) (hP31.mono M.rows) hfm hfs) rfl rfl fun _ _ K M=>?_;refine Qg 7 K M ?_;intro _ K;refine Qn (K.QR rfl) (fun h40=>?_) (fun h40=>?_)
  ·have hb40:=h40
   replace h40: ¬((Lp (ps.take i) ⟨pn31,pp31,.mk o31 s31 z31 a31 l31,pa31⟩).2=0):=by intro hq;rw[decide_eq_true hq]at h40;cases h40
   refine Qg 4 K M ?_;intro _ K;refine Qe ⟨.inr rfl,_,Ah K rfl rfl,?_⟩
   have htw:UH [] ds=none:=by
    cases hq:UH [] ds with
    |none=>rfl
    |some b=>rw[hq]at h21;exact absurd h21 (by show¬(6:Int)=0;decide)
   refine⟨congrArg pT (a₁:=((Lp (ps.take i) ⟨pn31,pp31,.mk o31 s31 z31 a31 l31,pa31⟩).1,(Lp (ps.take i) ⟨pn31,pp31,.mk o31 s31 z31 a31 l31,pa31⟩).2)) (a₂:=Zj ⟨ds,ps,.mk o s z a l⟩) (Eq.symm ?_),M.qt⟩;exact P9 h13 htw (by show IA [] ps=_;rw[hx,Ca hi31,if_pos (by omega)])
  have hb40:=h40
  replace h40:((Lp (ps.take i) ⟨pn31,pp31,.mk o31 s31 z31 a31 l31,pa31⟩).2=0):=by by_cases hq:(Lp (ps.take i) ⟨pn31,pp31,.mk o31 s31 z31 a31 l31,pa31⟩).2=0;exact hq;rw[decide_eq_false hq]at h40;cases h40
  refine QT ?_;show W _ _ _ _ _ _ _;refine Jk (l:=[(1,0),(2,0),(3,0),(4,0),(5,0),(6,0),(7,0),(0,0),(8,0),(9,0),(10,0)]) (by kernel_rfl) ?_;refine d1 rfl K (Qb rfl) rfl rfl fun _ K=>d1 rfl K (JN rfl rfl) rfl rfl fun _ K=>d1 rfl K (Qf XG rfl) rfl rfl fun _ K=>d1 rfl K (Qx rfl (M.load (k:=1) rfl (Qk Yi rfl))) rfl rfl fun _ K=>d1 rfl K (Qx rfl (M.load (k:=0) rfl (QG Ei rfl))) rfl rfl fun _ K=>?_;refine Vr rfl K M Z4 ZQ rfl rfl (Qa rfl (Qa hD31.cell (Qa rfl (Qa rfl (Qa rfl (Qa rfl (Qa hK31.cell (Qa rfl Qv)))))))) rfl rfl fun c49 _ _ K M=>?_;refine Iz (k2:=0) (L:=[(c49,0,[.str pn31,kd31,.str o31,.str s31,.int .i64 z31,.int .i64 a31,kk31,.int .i64 pa31]),(c8,0,[.str pn31,kd31,.str o31,.str s31,.int .i64 z31,.int .i64 a31,kk31,.int .i64 pa31]),(c25,0,[ks]),(c1,0,[kd,kp,.str o,.str s,.int .i64 z,.int .i64 a,kk])]) (A:=A) (B:=[]) rfl K M hA Z4 rfl rfl rfl rfl (by rw[List.length_take];omega) rfl fun ks50 A50 _ _ K hA50 M=>?_;refine d1 rfl K (Qb rfl) rfl rfl fun _ K=>d1 rfl K (JN rfl rfl) rfl rfl fun _ K=>d1 rfl K (Qf XG rfl) rfl rfl fun _ K=>?_;refine Vy (k:=2) rfl K M rfl rfl rfl V8 (hA50.cell) rfl fun _ M=>?_;refine J0 ?_;show W _ _ _ _ _ _ _;refine Qh<|o1 K (Jn rfl rfl (by omega) (by omega)) rfl fun _ K=>o1 K (Qb rfl) rfl fun _ K=>Q5 ?_;exact⟨_,(by omega),i+1,ks50,A50,rfl,(.cons (K _ _ rfl) (.cons (K _ _ rfl) (.cons (K _ _ rfl) (.cons (K _ _ rfl) (.cons (K _ _ rfl) .nil))))),M.less (.cons _ (.cons _ (.refl _))),(by rw[RS hc31];exact hA50),(by omega),(by rw[hx,Ca hi31,if_neg (by omega)])⟩
 refine Uc ?_;show W _ _ _ _ _ _ _;refine Qg 5 K M ?_;intro _ K;obtain⟨hfm,hfs⟩:=DO h13;refine oQ K M (Cy _ _ _ _ _ _ M.fresh (JA.Xg (M.Qp (k:=0) rfl)) (Kj.jK M.rows hP (by omega) (Mem.Lv (L:=[(c25,0,[ks]),(c1,0,[kd,kp,.str o,.str s,.int .i64 z,.int .i64 a,kk])]) (A:=A) (B:=[]) M hA)) (Xs.mono M.rows hD) (hn.mono M.rows) hfm (by omega)) rfl rfl fun _ _ K M=>?_;refine Qg 4 K M ?_;intro _ K;refine Qe ⟨.inr rfl,_,Ah K rfl rfl,?_⟩
 have htw:UH [] ds=none:=by
  cases hq:UH [] ds with
  |none=>rfl
  |some b=>rw[hq]at h21;exact absurd h21 (by show¬(6:Int)=0;decide)
 refine⟨congrArg pT (a₁:=((ZO ps (.mk o s z a l) ds).1,(ZO ps (.mk o s z a l) ds).2)) (a₂:=Zj ⟨ds,ps,.mk o s z a l⟩) (Eq.symm ?_),M.qt⟩;exact CW h13 htw (by show IA [] ps=_;rw[hx,Zi (by omega),IA])
end Go.Proofs.YtadjjadimlkkgaaGreatDoor
end
section
namespace Go.Proofs.YtadjjadimlkkgaaGreatDoor
open Go

theorem FV{place:Nat→Option (Nat×Nat)}{i off:Nat}{v:AV}{ps:List (Nat×AV)}{l l1:List AV}(hp:place i=some (off,1))(hc:Jy v=true)(ho:Xx [v] off l=some l1):WW place ((i,v)::ps) l=WW place ps l1:=by
 rw[Ie,hp,QD,XR hc];show Js true (ob (Xx [v] off l) _)=_;rw[ho];rfl
theorem W2{place:Nat→Option (Nat×Nat)}{i off n:Nat}{v:AV}{ps:List (Nat×AV)}{l l1:List AV}(hp:place i=some (off,n))(hn:Nat.beq (Xh (JZ v)) n=true)(ho:Xx (JZ v) off l=some l1):WW place ((i,v)::ps) l=WW place ps l1:=by
 rw[Ie,hp,QD];show Js (Nat.beq (Xh (JZ v)) n) (ob (Xx (JZ v) off l) _)=_;rw[hn,ho];rfl
end Go.Proofs.YtadjjadimlkkgaaGreatDoor
end
section
namespace Go.Proofs.YtadjjadimlkkgaaGreatDoor
open Go Go.RowKit

theorem zJ(h:Hp):EU R0 h:=fun _ _ _ h=>h.elim
theorem jQ(k:Cr):1≤Ou k:=by cases k;rw[Ou];omega
theorem Md{k:Cr}{l:List Cr}(h:k∈l):Ou k≤Lo l:=by
 induction l with
 |nil=>cases h
 |cons x l ih=>
  rw[Lo];rcases List.mem_cons.1 h with rfl|h
  ·omega
  ·have:=ih h;omega
theorem RV{l:List Cr}{i:Nat}{k:Cr}(h:l[i]? =some k):Lo (l.drop i)=Ou k+Lo (l.drop (i+1)):=by
 obtain⟨h1,h2⟩:=List.getElem?_eq_some_iff.1 h;rw[List.drop_eq_getElem_cons h1,Lo,h2]
theorem qY{M:Cr→Prop}(h: ∀o a b g n kids,(∀k,k∈kids→M k)→M (.mk o a b g n kids))(k:Cr):M k:=by
 have: ∀n k,Ou k≤n→M k:=by
  intro n
  induction n with
  |zero=>intro k hk;cases k;rw[Ou]at hk;omega
  |succ n ih=>
   intro k hk
   cases k with
   |mk o a b g z kids=>
    rw[Ou]at hk;exact h _ _ _ _ _ _ fun k hm=>ih k (by have:=Md hm;omega)
 exact this _ k (Nat.le_refl _)
theorem P5{l:List Cr}{i:Nat}{k:Cr}(h:l[i]? =some k):k∈l:=List.mem_of_getElem? h
theorem KD{l:List Cr}{i:Nat}(h:l.length≤i):l.drop i=[]:=List.drop_eq_nil_of_le h
def Us(ds:List Dc)(x:Nd):Cr×Int:=
 if(UQ x 2000&&Jz x)=false∨U2 x=true∨6<ds.length then(GU,1)
 else if(Zj ⟨ds,[],x⟩).2≠0 then(GU,1)
 else if(Qy x ⟨ds.map Dc.name,false⟩).2.lg=true∨2000<Ou (Qy x ⟨ds.map Dc.name,false⟩).1 then(GU,8)else((Qy x ⟨ds.map Dc.name,false⟩).1,0)
theorem Mi{x:Nd}(h:UQ x 2000=true):Ao x≤2000:=by
 simp only[UQ,Bool.and_eq_true,decide_eq_true_eq]at h;omega
theorem Oa: ∀l:List Nd,l.any U2=Fw l
 |[]=>rfl
 |k::l=>by rw[List.any_cons,Fw,Oa l]

theorem qX (x : Cr) : ∀ (most : Int) (R : YX) (st : St) (cs : List AV), Q6 st → EU R st.h.get → Vo R x cs → 1 ≤ most → most ≤ 1000000 → ∃ v st', Ev Tryz.prog Ja 113 [.agg cs, .int .i64 most] st v st' ∧ v = .int .i64 (min ((Ou x : Nat) : Int) most) ∧ Qt st st' := by
 refine qY (M := fun x => ∀ (most : Int) (R : YX) (st : St) (cs : List AV), Q6 st → EU R st.h.get → Vo R x cs → 1 ≤ most → most ≤ 1000000 → ∃ v st', Ev Tryz.prog Ja 113 [.agg cs, .int .i64 most] st v st' ∧ v = .int .i64 (min ((Ou x : Nat) : Int) most) ∧ Qt st st') (fun o a b g n l ih => ?_) x;intro most R st cs hf hR hr h1 h2;have hr0 := hr;obtain ⟨kc, ls, rfl, hK⟩ := hr.KX;have hln := hK.ln;have hbn := hK.ZJ;refine QC rfl Tryz.func113 rfl Tryz.ntmps113 rfl fun T hT => ?_;have K : Jm [(0, _), (1, _)] T := (.cons (hT 0) (.cons (hT 1) .nil));have M := Mem.start hf;refine Qq <| Qh ?_;refine J2 K M rfl (Qa rfl (Qa rfl (Qa rfl (Qa rfl (Qa rfl (Qa hK.cell Qv)))))) (by decide) fun c2 _ _ K M => ?_;refine Qg 3 K M ?_;intro _ K;refine Z0 K rfl (fun h9 => ?_) fun h9 => ?_
 · refine Qg 1 K M ?_;intro _ K;refine Qe ⟨.inr rfl, _, JU K rfl, ?_⟩
   first
    | (exfalso; omega)
    | (refine ⟨?_, M.qt⟩; rw [hinv]; congr 1; have hz : i = l.length := by omega
       rw [KD (by omega), Lo]; omega)
    | (refine ⟨?_, M.qt⟩; rw [hinv]; congr 1; omega)
 refine Qg 3 K M ?_;intro _ K;refine o1 K (Jd Xu rfl rfl hK.len) rfl fun _ K => ?_;refine Qg 1 K M ?_;intro _ K;refine U8 (fun mm1 T st9 => ∃ (i : Nat) (m : Int), mm1 = l.length - i ∧ Jm [(1, .int .i64 most), (4, .int .i64 0), (5, .int .i64 m), (11, kc), (12, .int .i64 (((l.length : Nat) : Int))), (13, .int .i64 (((i : Nat) : Int)))] T ∧ Mem st.h.get st.n [] st9 [(c2, 0, [.str o, .int .i64 a, .int .i64 b, .int .i64 g, .int .i64 n, kc])] ∧ i ≤ l.length ∧ 1 ≤ m ∧ m ≤ most ∧ min (((Ou (.mk o a b g n l)) : Nat) : Int) most = min (m + ((Lo (l.drop i) : Nat) : Int)) most) (fun mm1 T st9 hI => ?_) _ _ _ ⟨0, 1, rfl, (.cons (K _ _ rfl) (.cons (K _ _ rfl) (.cons (K _ _ rfl) (.cons (K _ _ rfl) (.cons (K _ _ rfl) (.cons (K _ _ rfl) .nil)))))), M.less (.refl _), (Nat.zero_le _), (by omega), h1, (by rw [Ou, List.drop_zero]; omega)⟩;obtain ⟨i, m, rfl, K, M, hi, hm1, hm2, hinv⟩ := hI;refine Qg 1 K M ?_;intro _ K;refine Z0 K rfl (fun h14 => ?_) fun h14 => ?_
 · refine QT ?_;show W _ _ _ _ _ _ _;refine Qq <| Uw <| Qq <| Qh ?_;obtain ⟨⟨o15, a15, b15, g15, n15, l15⟩, hi15⟩ : ∃ k, l[i]? = some k := ⟨_, List.getElem?_eq_getElem (by omega)⟩;have hm15 := P5 hi15;obtain ⟨_, hc15, hn15⟩ := hK.get hi15;have hp15 := hn15;obtain ⟨kc15, ls15, rfl, hK15⟩ := hp15.KX;obtain ⟨x15, m15, f15, q15, _, la15, lo15, lp15⟩ := (hK.r (M.EU hR)).load (i := i) (cs := _) hc15;refine o1 K (Qr (j := i) EC (congrArg some q15) rfl (by rw [hK.ln]; omega)) rfl fun _ K => o1 K (Qx rfl (la15 _ J3)) rfl fun _ K => ?_;refine U0 K M UW (by decide) fun c7 _ _ K M => ?_;refine QB (k := 0) K M rfl rfl rfl QP rfl (Qa rfl (Qa rfl (Qa rfl (Qa rfl (Qa rfl (Qa hK15.cell Qv)))))) rfl fun _ M => ?_;refine Qg 3 K M ?_;intro _ K;refine Z0 K rfl (fun h19 => ?_) fun h19 => ?_
   · refine Uc ?_;show W _ _ _ _ _ _ _;refine Qg 2 K M ?_;intro _ K;refine Qe ⟨.inr rfl, _, JU K rfl, ?_⟩
     first
      | (exfalso; omega)
      | (refine ⟨?_, M.qt⟩; rw [hinv]; congr 1; have hz : i = l.length := by omega
         rw [KD (by omega), Lo]; omega)
      | (refine ⟨?_, M.qt⟩; rw [hinv]; congr 1; omega)
   refine Qg 4 K M ?_;intro _ K;refine o1 K (No rfl rfl (by omega) (by omega)) rfl fun _ K => ?_;refine oQ K M (ih _ hm15 (most - m) R _ _ M.fresh (M.EU hR) hn15 (by omega) (by omega)) rfl rfl fun _ _ K M => ?_;refine o1 K (Jn rfl rfl (by omega) (by omega)) rfl fun _ K => ?_;refine Qg 1 K M ?_;intro _ K;refine o1 K (Jn rfl rfl (by omega) (by omega)) rfl fun _ K => o1 K (Qb rfl) rfl fun _ K => Q5 ?_;have hst := RV hi15;have hsp := jQ (.mk o15 a15 b15 g15 n15 l15);exact ⟨_, (by omega), i + 1, (m + min ((Ou (.mk o15 a15 b15 g15 n15 l15) : Nat) : Int) (most - m)), rfl, (.cons (K _ _ rfl) (.cons (K _ _ rfl) (.cons (K _ _ rfl) (.cons (K _ _ rfl) (.cons (K _ _ rfl) (.cons (K _ _ rfl) .nil)))))), M.less (.cons _ (.refl _)), (by omega), (by omega), (by omega), (by omega)⟩
 refine Uc ?_;show W _ _ _ _ _ _ _;refine Qg 2 K M ?_;intro _ K;refine Qe ⟨.inr rfl, _, JU K rfl, ?_⟩
 first
  | (exfalso; omega)
  | (refine ⟨?_, M.qt⟩; rw [hinv]; congr 1; have hz : i = l.length := by omega
     rw [KD (by omega), Lo]; omega)
  | (refine ⟨?_, M.qt⟩; rw [hinv]; congr 1; omega)

theorem Tl{R:YX}{st:St}(hf:Q6 st)(hR:EU R st.h.get){o:List Nat}{a b g n:Int}{l:List Cr}{cs:List AV}(hr:Vo R (.mk o a b g n l) cs): ∃v st',Ev Tryz.prog Ja 62 [.agg cs] st v st'∧v=.int .i64 (min ((Ou (.mk o a b g n l):Nat):Int) 2001)∧Qt st st':=by
 have hr0:=hr;obtain⟨kc,ls,rfl,hK⟩:=hr.KX;have hln:=hK.ln;have hbn:=hK.ZJ;refine QC rfl Tryz.func62 rfl Tryz.ntmps62 rfl fun T hT=>?_;have K:Jm [(0,_)] T:=(.cons (hT 0) .nil);have M:=Mem.start hf;refine Qq<|Qh ?_;refine J2 K M rfl (Qa rfl (Qa rfl (Qa rfl (Qa rfl (Qa rfl (Qa hK.cell Qv)))))) (by decide) fun c1 _ _ K M=>?_;refine Qg 2 K M ?_;intro _ K;refine oQ K M (qX (.mk o a b g n l) 2001 R _ _ M.fresh (M.EU hR) hr0 (by decide) (by decide)) rfl rfl fun _ _ K M=>?_;refine Qg 1 K M ?_;intro _ K;refine Qe ⟨.inr rfl,_,JU K rfl,?_⟩;exact⟨rfl,M.qt⟩

theorem Pr(x:Nd): ∀(st:St) (cs:List AV),Q6 st→Vn st.h.get x cs→ ∃v st',Ev Tryz.prog Ja 60 [.agg cs] st v st'∧v=.bool (U2 x)∧Qt st st':=by
 refine A0 (M:=fun x=> ∀(st:St) (cs:List AV),Q6 st→Vn st.h.get x cs→ ∃v st',Ev Tryz.prog Ja 60 [.agg cs] st v st'∧v=.bool (U2 x)∧Qt st st') (fun o s z a l ih=>?_) x;intro st cs hf hr;have hr0:=hr;obtain⟨kk,ls,rfl,hK,hb⟩:=hr.Ua;have hln:=hK.ln;have hbn:=hK.ZJ;refine QC rfl Tryz.func60 rfl Tryz.ntmps60 rfl fun T hT=>?_;have K:Jm [(0,_)] T:=(.cons (hT 0) .nil);have M:=Mem.start hf;refine Qq<|Qh ?_;refine J2 K M rfl (Qa rfl (Qa rfl (Qa rfl (Qa rfl (Qa hK.cell Qv))))) (by decide) fun c1 _ _ K M=>?_;refine Qg 3 K M ?_;intro _ K;refine o1 K (QV (b:=[99,97,108,108]) rfl rfl) rfl fun _ K=>?_;refine oB K (Qb rfl) rfl fun b6 _ e6 K=>?_;cases b6
 ·replace e6:=of_decide_eq_false e6;refine Qg 2 K M ?_;intro _ K;obtain⟨v9,st9,ev9,rfl,q9⟩:=Hx (fo:=60) (fa:=[]) (fc:=[]) (p:=U2) M.fresh (hK.mem M) (fun k hk st1 cs q hr1=>ih k hk st1 cs q.fresh hr1);refine og K rfl rfl (Qc rfl ev9) rfl fun _ K=>?_;replace M:=M.quiet q9;refine Qg 2 K M ?_;intro _ K;refine Qe ⟨.inr rfl,_,JU K rfl,?_⟩;refine⟨congrArg AV.bool ?_,M.qt⟩;rw[U2,←Oa]
  simp_all
 replace e6:=of_decide_eq_true e6;refine Qg 5 K M ?_;intro _ K;refine Qe ⟨.inr rfl,_,JU K rfl,?_⟩;refine⟨congrArg AV.bool ?_,M.qt⟩;rw[U2,←Oa]
 simp_all
end Go.Proofs.YtadjjadimlkkgaaGreatDoor
end
section
namespace Go.Proofs.YtadjjadimlkkgaaGreatDoor
open Go Go.RowKit

theorem Pa{l:List Dc}{i:Nat}{d:Dc}(h:l[i]? =some d):(l.take (i+1)).map Dc.name=(l.take i).map Dc.name++[d.name]:=by
 have:l.take (i+1)=l.take i++[d]:=by rw[List.take_add_one,h];rfl
 rw[this,List.map_append];rfl

theorem MY{st:St}(hf:Q6 st){ds:List Dc}{kd:AV}{ld:List (List AV)}(hD:Xs st.h.get ds kd ld){o s:List Nat}{z a:Int}{l:List Nd}{cs:List AV}(hr:Vn st.h.get (.mk o s z a l) cs): ∃v st',Ev Tryz.prog Ja 23 [kd,.agg cs] st v st'∧(∃v1,v=.tup [v1,.int .i64 (Us ds (.mk o s z a l)).2]∧Xo R0 st st' (Us ds (.mk o s z a l)).1 v1)∧Qt st st':=by
 have hr0:=hr;obtain⟨R,hR,hrW⟩: ∃R:YX,EU R st.h.get∧Yh R (.mk o s z a l) cs:=⟨Xf st.h.get,fun _ _ _ h=>h,hr.toW⟩;have hX: ∀c m l,R c m l→c∉([]:List Nat):=fun _ _ _ _=>List.not_mem_nil;obtain⟨kk,ls,rfl,hK,hb⟩:=hr.Ua;have hln:=hD.ln;have hbn:=hD.ZJ;have hlk:=hK.ln;have hbk:=hK.ZJ;refine QC rfl Tryz.func23 rfl Tryz.ntmps23 rfl fun T hT=>?_;have K:Jm [(0,_),(1,_)] T:=(.cons (hT 0) (.cons (hT 1) .nil));have M:=Mem.start hf;refine Qq<|Qh ?_;refine J2 K M rfl (Qa rfl (Qa rfl (Qa rfl (Qa rfl (Qa hK.cell Qv))))) (by decide) fun c3 _ _ K M=>?_;refine au 3 K M ?_;intro c4 _ _ K _ M;refine oQ K M (Ey M.fresh (hr0.mono M.rows)) rfl rfl fun _ _ K M=>?_;refine o1 K (Nq rfl) rfl fun _ K=>?_;refine oB K (Qb rfl) rfl fun b15 _ e15 K=>?_;cases b15
 ·replace e15:(UQ (.mk o s z a l) 2000&&Jz (.mk o s z a l))=true:=by first|simpa using e15|(revert e15;cases(UQ (.mk o s z a l) 2000&&Jz (.mk o s z a l))<;>simp)
  refine Qg 1 K M ?_;intro _ K;obtain⟨v17,st17,ev17,rfl,q17⟩:=Pr (.mk o s z a l) _ _ M.fresh (hr0.mono M.rows);refine og K rfl rfl (Qc rfl ev17) rfl fun _ K=>?_;replace M:=M.quiet q17;refine o1 K (UY rfl rfl rfl) rfl fun _ K=>?_;refine oB K (Qb rfl) rfl fun b19 _ e19 K=>?_;cases b19
  ·refine og K rfl rfl (Qb rfl) rfl fun _ K=>og K rfl rfl (Jd U9 rfl rfl hD.len) rfl fun _ K=>?_;refine Qg 2 K M ?_;intro _ K;refine Z0 K rfl (fun h23=>?_) fun h23=>?_
   ·refine Qq<|Qh<|o1 K (Qz JC rfl rfl) rfl fun _ K=>?_;refine au 2 K M ?_;intro _ _ K _ M;refine Qe ⟨.inr rfl,_,(YC (Uk K rfl (M.load (k:=0) rfl (QG J3 rfl))) (QY K rfl)),?_⟩
    have hF:Us ds (.mk o s z a l)=((.mk [] 0 0 0 0 []),1):=by rw[Us,if_pos (by first|(simp_all;done)|(simp_all;omega))]
    rw[hF];exact⟨⟨_,rfl,Xo.of (A:=((c4,0,[.str [],.int .i64 0,.int .i64 0,.int .i64 0,.int .i64 0,.nils])::(c3,0,[.str o,.str s,.int .i64 z,.int .i64 a,kk])::[])) Wn (M.Iv (.refl _))⟩,M.qt⟩
   refine QT ?_;show W _ _ _ _ _ _ _;refine Qq<|Qq ?_
   have hno: ¬((UQ (.mk o s z a l) 2000&&Jz (.mk o s z a l))=false∨U2 (.mk o s z a l)=true∨6<ds.length):=by first|(simp_all;done)|(simp_all;omega)
   obtain⟨hsb,hfn,hnc,hd6⟩:UQ (.mk o s z a l) 2000=true∧Jz (.mk o s z a l)=true∧U2 (.mk o s z a l)=false∧ds.length≤6:=by
    have h1:=fun h=>hno (.inl h);have h2:=fun h=>hno (.inr (.inl h));have h3:=fun h=>hno (.inr (.inr h));have h4:=Bool.of_not_eq_false h1;rw[Bool.and_eq_true]at h4;exact⟨h4.1,h4.2,Bool.eq_false_iff.2 h2,by omega⟩
   have hsm:=Mi hsb;refine Qg 2 K M ?_;intro _ K;refine o1 K (Qz ZU rfl ((FV rfl hD.cell rfl).trans ((W2 rfl rfl rfl).trans rfl))) rfl fun _ K=>?_;refine oQ K M (SI (ds:=ds) (ps:=[]) M.fresh ⟨kd,ld,.nils,[],o,s,z,a,kk,rfl,Xs.mono M.rows hD,⟨.nil _ _ _,rfl,fun i p h=>by cases h⟩,hr0.mono M.rows⟩ (by omega) (Nat.zero_le _)) rfl rfl fun _ _ K M=>?_;refine Qg 7 K M ?_;intro _ K;refine Qn (K.QR rfl) (fun h33=>?_) (fun h33=>?_)
   ·have hb33:=h33
    replace h33: ¬((Zj ⟨ds,[],(.mk o s z a l)⟩).2=0):=by intro hq;rw[decide_eq_true hq]at h33;cases h33
    refine Qq<|Qh<|o1 K (Qz JC rfl rfl) rfl fun _ K=>?_;refine au 2 K M ?_;intro _ _ K _ M;refine Qe ⟨.inr rfl,_,(YC (Uk K rfl (M.load (k:=0) rfl (QG J3 rfl))) (QY K rfl)),?_⟩
    have hF:Us ds (.mk o s z a l)=((.mk [] 0 0 0 0 []),1):=by rw[Us,if_neg hno,if_pos h33]
    rw[hF];exact⟨⟨_,rfl,Xo.of (A:=((c4,0,[.str [],.int .i64 0,.int .i64 0,.int .i64 0,.int .i64 0,.nils])::(c3,0,[.str o,.str s,.int .i64 z,.int .i64 a,kk])::[])) Wn (M.Iv (.refl _))⟩,M.qt⟩
   have hb33:=h33
   replace h33:((Zj ⟨ds,[],(.mk o s z a l)⟩).2=0):=by by_cases hq:(Zj ⟨ds,[],(.mk o s z a l)⟩).2=0;exact hq;rw[decide_eq_false hq]at h33;cases h33
   refine QT ?_;show W _ _ _ _ _ _ _;refine Qq<|Qh<|o1 K (Qz Kn rfl rfl) rfl fun _ K=>?_;refine J2 K M rfl rfl (by decide) fun c36 _ _ K M=>?_;refine Qg 2 K M ?_;intro _ K;refine o1 K (Jd U9 rfl rfl hD.len) rfl fun _ K=>?_;refine Qg 1 K M ?_;intro _ K;refine U8 (fun mm1 T st9=> ∃(i:Nat) (kn:AV) (A:QJ),mm1=ds.length-i∧Jm [(3,.ptr c3 0 0),(4,.ptr c4 0 0),(5,.int .i64 0),(8,.ptr c36 0 0),(37,kd),(38,.int .i64 (((ds.length:Nat):Int))),(39,.int .i64 (((i:Nat):Int)))] T∧Mem st.h.get st.n [] st9 ((c36,0,[kn,.bool false])::(c4,0,[.str [],.int .i64 0,.int .i64 0,.int .i64 0,.int .i64 0,.nils])::(c3,0,[.str o,.str s,.int .i64 z,.int .i64 a,kk])::(A++[]))∧Zk 0 A kn ((ds.take i).map Dc.name)∧i≤ds.length) (fun mm1 T st9 hI=>?_) _ _ _ ⟨0,.nils,[],rfl,(.cons (K _ _ rfl) (.cons (K _ _ rfl) (.cons (K _ _ rfl) (.cons (K _ _ rfl) (.cons (K _ _ rfl) (.cons (K _ _ rfl) (.cons (K _ _ rfl) .nil))))))),M.less (.refl _),.none,(Nat.zero_le _)⟩;obtain⟨i,kn,A,rfl,K,M,hA,hi⟩:=hI;refine Qg 1 K M ?_;intro _ K;refine Z0 K rfl (fun h40=>?_) fun h40=>?_
   ·refine QT ?_;show W _ _ _ _ _ _ _;refine Qq<|Uw<|Qq<|Qh ?_;obtain⟨⟨dn41,do41,da41⟩,hi41⟩: ∃k,ds[i]? =some k:=⟨_,List.getElem?_eq_getElem (by omega)⟩;have hm41:=En hi41;obtain⟨_,hc41,rfl,hy41⟩:=hD.at_ _ _ hi41;obtain⟨x41,m41,f41,q41,_,la41,lo41,lp41⟩:=(hD.r.mem M (by simp)).load (i:=i) (cs:=_) hc41;refine o1 K (Qr (j:=i) Z7 (congrArg some q41) rfl (by rw[hD.ln];omega)) rfl fun _ K=>o1 K (Qx rfl (la41 _ VJ)) rfl fun _ K=>?_;refine au 2 K M ?_;intro c10 _ _ K _ M;refine Jk (l:=[(1,0),(2,0),(3,0),(4,0),(5,0),(6,0),(7,0),(8,0),(0,0),(9,0),(10,0),(11,0)]) (by kernel_rfl) ?_;refine d1 rfl K (Qb rfl) rfl rfl fun _ K=>d1 rfl K (JN rfl rfl) rfl rfl fun _ K=>d1 rfl K (Qf XF rfl) rfl rfl fun _ K=>d1 rfl K (Qx rfl (M.load (k:=1) rfl (Qk VK rfl))) rfl rfl fun _ K=>d1 rfl K (Qf E9 rfl) rfl rfl fun _ K=>d1 rfl K (Qx rfl (M.load (k:=0) rfl (Qk JI rfl))) rfl rfl fun _ K=>?_;refine Vr rfl K M Zl XK rfl rfl rfl rfl rfl fun c50 _ _ K M=>?_;refine jF (k2:=0) (L:=[(c50,0,[.str dn41]),(c10,0,[.str dn41,.int .i64 do41,.int .i64 da41]),(c36,0,[kn,.bool false]),(c4,0,[.str [],.int .i64 0,.int .i64 0,.int .i64 0,.int .i64 0,.nils]),(c3,0,[.str o,.str s,.int .i64 z,.int .i64 a,kk])]) (A:=A) (B:=[]) rfl K M hA Zl rfl rfl rfl (by simp only[List.length_map,List.length_take];omega) rfl fun ks51 A51 _ _ K hA51 M=>?_;simp only[List.append_assoc,List.cons_append,List.nil_append,List.set_cons_zero,List.set_cons_succ]at M;refine d1 rfl K (Qb rfl) rfl rfl fun _ K=>d1 rfl K (JN rfl rfl) rfl rfl fun _ K=>d1 rfl K (Qf XF rfl) rfl rfl fun _ K=>?_;refine Vy (k:=2) rfl K M rfl rfl rfl Ej (hA51.cell) rfl fun _ M=>?_;refine J0 ?_;show W _ _ _ _ _ _ _;refine Qh<|o1 K (Jn rfl rfl (by omega) (by omega)) rfl fun _ K=>o1 K (Qb rfl) rfl fun _ K=>Q5 ?_;exact⟨_,(by omega),i+1,ks51,A51,rfl,(.cons (K _ _ rfl) (.cons (K _ _ rfl) (.cons (K _ _ rfl) (.cons (K _ _ rfl) (.cons (K _ _ rfl) (.cons (K _ _ rfl) (.cons (K _ _ rfl) .nil))))))),M.less (.cons _ (.cons _ (.refl _))),(by rw[Pa hi41];exact hA51),(by omega)⟩
   refine Uc ?_;show W _ _ _ _ _ _ _;refine Qq ?_
   have hi2:i=ds.length:=by omega
   have hA2:Zk 0 A kn (LS.mk (ds.map Dc.name) false).ns:=by have h:=hA;rw[hi2,List.take_length]at h;exact h
   refine Qg 2 K M ?_;intro _ K;have Mp:=Mem.pick (F:=(FL c36 A kn false)) [[(c36,0,[kn,.bool false])],[(c4,0,[.str [],.int .i64 0,.int .i64 0,.int .i64 0,.int .i64 0,.nils])],[(c3,0,[.str o,.str s,.int .i64 z,.int .i64 a,kk])],A] M [0,3,1,2] (n:=4) rfl (by decide) 2 (by simp);obtain⟨v57,st57,ev57,kn57,A57,C57,on57,an57,bn57,cn57,nn57,kkn57,rfl,hF57,hA57,hN57⟩:=Ps c36 (.mk o s z a l) R _ _ (LS.mk (ds.map Dc.name) false) _ _ Mp.fresh Mp.Xy hA2 (Mp.Bf hR hX) (Mp.Nw hR hX) hrW hfn hnc (by simp only[List.length_map];omega);refine o1 K (Qc rfl ev57) rfl fun _ K=>?_;replace M:Mem _ _ _ _ ((c36,0,[kn57,.bool (((Qy (.mk o s z a l) (LS.mk (ds.map Dc.name) false)).2).lg)])::(c4,0,[.str [],.int .i64 0,.int .i64 0,.int .i64 0,.int .i64 0,.nils])::(c3,0,[.str o,.str s,.int .i64 z,.int .i64 a,kk])::(A57++(C57++[]))):=Mem.back [[(c36,0,[kn57,.bool (((Qy (.mk o s z a l) (LS.mk (ds.map Dc.name) false)).2).lg)])],A57,C57] Mp hF57 (by simp) [0,3,4,1,2] (n:=5) rfl (by decide);refine U0 K M UW (by decide) fun c11 _ _ K M=>?_;refine QB (k:=0) K M rfl rfl rfl QP rfl (Qa rfl (Qa rfl (Qa rfl (Qa rfl (Qa rfl (Qa hN57.Un Qv)))))) rfl fun _ M=>?_;refine Qg 4 K M ?_;intro _ K;refine oB K (Qb rfl) rfl fun b62 _ e62 K=>?_;cases b62
   ·refine Qg 1 K M ?_;intro _ K;obtain⟨lc,lsc,hcs,hKc⟩:=hN57.shape;rw[hcs]at hN57;obtain⟨v64,st64,ev64,rfl,q64⟩:=Tl (R:=Jo R0 C57) M.fresh (M.Bg (zJ _) (fun x hx=>by simp[hx])) hN57;refine og K rfl rfl (Qc rfl ev64) rfl fun _ K=>?_;replace M:=M.quiet q64;refine Qg 2 K M ?_;intro _ K;refine Z0 K rfl (fun h66=>?_) fun h66=>?_
    ·refine Qq<|Qh<|o1 K (Qz JC rfl rfl) rfl fun _ K=>?_;refine au 2 K M ?_;intro _ _ K _ M;refine Qe ⟨.inr rfl,_,(YC (Uk K rfl (M.load (k:=2) rfl (QG J3 rfl))) (QY K rfl)),?_⟩
     have hF:Us ds (.mk o s z a l)=((.mk [] 0 0 0 0 []),8):=by rw[Us,if_neg hno,if_neg (fun hq=>hq h33),if_pos (by first|exact .inl (by assumption)|(right;rw[hcs];omega)|(simp_all;done))]
     rw[hF];exact⟨⟨_,rfl,Xo.of (A:=((c11,0,[.str on57,.int .i64 an57,.int .i64 bn57,.int .i64 cn57,.int .i64 nn57,kkn57])::(c36,0,[kn57,.bool (((Qy (.mk o s z a l) (LS.mk (ds.map Dc.name) false)).2).lg)])::(c4,0,[.str [],.int .i64 0,.int .i64 0,.int .i64 0,.int .i64 0,.nils])::(c3,0,[.str o,.str s,.int .i64 z,.int .i64 a,kk])::(A57++(C57++[])))) Wn (M.Iv (.refl _))⟩,M.qt⟩
    refine Qg 1 K M ?_;intro _ K;refine QB (k:=2) K M rfl rfl rfl QP rfl (Qa rfl (Qa rfl (Qa rfl (Qa rfl (Qa rfl (Qa hN57.Un Qv)))))) rfl fun _ M=>?_;refine Qg 1 K M ?_;intro _ K;refine Qe ⟨.inr rfl,_,(YC (Uk K rfl (M.load (k:=2) rfl (QG J3 rfl))) (QY K rfl)),?_⟩
    have hF:Us ds (.mk o s z a l)=((.mk on57 an57 bn57 cn57 nn57 lc),0):=by rw[Us,if_neg hno,if_neg (fun hq=>hq h33),if_neg (by rw[hcs];intro hq;rcases hq with hq|hq<;>first|(simp_all;done)|omega|(simp_all;omega))];rw[hcs]
    rw[hF];exact⟨⟨_,rfl,Xo.of (A:=((c11,0,[.str on57,.int .i64 an57,.int .i64 bn57,.int .i64 cn57,.int .i64 nn57,kkn57])::(c36,0,[kn57,.bool (((Qy (.mk o s z a l) (LS.mk (ds.map Dc.name) false)).2).lg)])::(c4,0,[.str on57,.int .i64 an57,.int .i64 bn57,.int .i64 cn57,.int .i64 nn57,kkn57])::(c3,0,[.str o,.str s,.int .i64 z,.int .i64 a,kk])::(A57++(C57++[])))) (hN57.mono (Qm (fun _ _ _ h=>h) (fun x h=>by simp[h]))) (M.Iv (.refl _))⟩,M.qt⟩
   refine Qg 4 K M ?_;intro _ K;refine Qn (t:=true) (K.QR rfl) (fun _=>?_) (fun h=>by cases h);refine Qq<|Qh<|o1 K (Qz JC rfl rfl) rfl fun _ K=>?_;refine au 2 K M ?_;intro _ _ K _ M;refine Qe ⟨.inr rfl,_,(YC (Uk K rfl (M.load (k:=2) rfl (QG J3 rfl))) (QY K rfl)),?_⟩
   have hF:Us ds (.mk o s z a l)=((.mk [] 0 0 0 0 []),8):=by rw[Us,if_neg hno,if_neg (fun hq=>hq h33),if_pos (by first|exact .inl (by assumption)|(right;rw[hcs];omega)|(simp_all;done))]
   rw[hF];exact⟨⟨_,rfl,Xo.of (A:=((c11,0,[.str on57,.int .i64 an57,.int .i64 bn57,.int .i64 cn57,.int .i64 nn57,kkn57])::(c36,0,[kn57,.bool (((Qy (.mk o s z a l) (LS.mk (ds.map Dc.name) false)).2).lg)])::(c4,0,[.str [],.int .i64 0,.int .i64 0,.int .i64 0,.int .i64 0,.nils])::(c3,0,[.str o,.str s,.int .i64 z,.int .i64 a,kk])::(A57++(C57++[])))) Wn (M.Iv (.refl _))⟩,M.qt⟩
  refine Qg 4 K M ?_;intro _ K;refine Qn (t:=true) (K.QR rfl) (fun _=>?_) (fun h=>by cases h);refine Qq<|Qh<|o1 K (Qz JC rfl rfl) rfl fun _ K=>?_;refine au 2 K M ?_;intro _ _ K _ M;refine Qe ⟨.inr rfl,_,(YC (Uk K rfl (M.load (k:=0) rfl (QG J3 rfl))) (QY K rfl)),?_⟩
  have hF:Us ds (.mk o s z a l)=((.mk [] 0 0 0 0 []),1):=by rw[Us,if_pos (by first|(simp_all;done)|(simp_all;omega))]
  rw[hF];exact⟨⟨_,rfl,Xo.of (A:=((c4,0,[.str [],.int .i64 0,.int .i64 0,.int .i64 0,.int .i64 0,.nils])::(c3,0,[.str o,.str s,.int .i64 z,.int .i64 a,kk])::[])) Wn (M.Iv (.refl _))⟩,M.qt⟩
 replace e15:(UQ (.mk o s z a l) 2000&&Jz (.mk o s z a l))=false:=by first|simpa using e15|(revert e15;cases(UQ (.mk o s z a l) 2000&&Jz (.mk o s z a l))<;>simp)
 refine Qg 8 K M ?_;intro _ K;refine Qn (t:=true) (K.QR rfl) (fun _=>?_) (fun h=>by cases h);refine Qq<|Qh<|o1 K (Qz JC rfl rfl) rfl fun _ K=>?_;refine au 2 K M ?_;intro _ _ K _ M;refine Qe ⟨.inr rfl,_,(YC (Uk K rfl (M.load (k:=0) rfl (QG J3 rfl))) (QY K rfl)),?_⟩
 have hF:Us ds (.mk o s z a l)=((.mk [] 0 0 0 0 []),1):=by rw[Us,if_pos (by first|(simp_all;done)|(simp_all;omega))]
 rw[hF];exact⟨⟨_,rfl,Xo.of (A:=((c4,0,[.str [],.int .i64 0,.int .i64 0,.int .i64 0,.int .i64 0,.nils])::(c3,0,[.str o,.str s,.int .i64 z,.int .i64 a,kk])::[])) Wn (M.Iv (.refl _))⟩,M.qt⟩
end Go.Proofs.YtadjjadimlkkgaaGreatDoor
end
section
namespace Go.Proofs.YtadjjadimlkkgaaGreatDoor
open Go Go.RowKit

theorem uI{x:Nd}{S:LS}(h:(Qy x S).2.lg=false):S.lg=false:=by
 cases hl:S.lg with
 |false=>rfl
 |true=>
  obtain⟨o,s,z,a,l⟩:=x;rw[Qy,if_pos hl]at h;rw[hl]at h;cases h
end Go.Proofs.YtadjjadimlkkgaaGreatDoor
end
section
namespace Go.Proofs.YtadjjadimlkkgaaGreatDoor
open Go Go.RowKit

theorem XC(st:St):Ev Tryz.prog Ja 25 [] st (.bool true) st:=⟨0,1,rfl⟩

end Go.Proofs.YtadjjadimlkkgaaGreatDoor
end
section
namespace Go.Proofs.YtadjjadimlkkgaaGreatDoor
open Go Go.RowKit

abbrev RC(x y:Nd):Nd:=.mk [97,110,100] [] 0 0 [x,y]
theorem Kx{ds:List Dc}{x:Nd}(h:(Us ds x).2=0):(UQ x 2000&&Jz x)=true∧U2 x=false∧ds.length≤6∧(Zj ⟨ds,[],x⟩).2=0∧(Qy x ⟨ds.map Dc.name,false⟩).2.lg=false∧Ou (Qy x ⟨ds.map Dc.name,false⟩).1≤2000∧Us ds x=((Qy x ⟨ds.map Dc.name,false⟩).1,0):=by
 by_cases h1:(UQ x 2000&&Jz x)=false∨U2 x=true∨6<ds.length
 ·rw[Us,if_pos h1]at h;cases h
 by_cases h2:(Zj ⟨ds,[],x⟩).2=0
 ·by_cases h3:(Qy x ⟨ds.map Dc.name,false⟩).2.lg=true∨2000<Ou (Qy x ⟨ds.map Dc.name,false⟩).1
  ·rw[Us,if_neg h1,if_neg (fun q=>q h2),if_pos h3]at h;cases h
  ·refine⟨Bool.of_not_eq_false fun e=>h1 (.inl e),Bool.eq_false_iff.2 fun e=>h1 (.inr (.inl e)),?_,h2,Bool.eq_false_iff.2 fun e=>h3 (.inl e),Nat.le_of_not_lt fun e=>h3 (.inr e),?_⟩
   ·have:=fun e=>h1 (.inr (.inr e));omega
   ·rw[Us,if_neg h1,if_neg (fun q=>q h2),if_neg h3]
 ·rw[Us,if_neg h1,if_pos h2]at h;cases h
theorem GW{ds:List Dc}{x:Nd}(h:(Us ds x).2=8):(Qy x ⟨ds.map Dc.name,false⟩).2.lg=true∨2000<Ou (Qy x ⟨ds.map Dc.name,false⟩).1:=by
 by_cases h1:(UQ x 2000&&Jz x)=false∨U2 x=true∨6<ds.length
 ·rw[Us,if_pos h1]at h;cases h
 by_cases h2:(Zj ⟨ds,[],x⟩).2=0
 ·by_cases h3:(Qy x ⟨ds.map Dc.name,false⟩).2.lg=true∨2000<Ou (Qy x ⟨ds.map Dc.name,false⟩).1
  ·exact h3
  ·rw[Us,if_neg h1,if_neg (fun q=>q h2),if_neg h3]at h;cases h
 ·rw[Us,if_neg h1,if_pos h2]at h;cases h
theorem LS.eq{a b:LS}(h1:a.ns=b.ns)(h2:a.lg=b.lg):a=b:=by cases a;cases b;simp_all
theorem Tu(x y:Nd)(ns:List (List Nat)):Qy (RC x y) ⟨ns,false⟩=(AL (Qy x ⟨ns,false⟩).1 (Qy y (Qy x ⟨ns,false⟩).2).1,(Qy y (Qy x ⟨ns,false⟩).2).2):=by
 rw[Qy,if_neg (show¬false=true by decide),if_neg (by decide),if_neg (by decide),if_neg (by decide),if_pos rfl,Ui,Ui,Ui];rfl
theorem ya{ds:List Dc}{x y:Nd}(h:(Us ds (RC x y)).2=0):(Us ds x).2≠8∧((Us ds x).2=0→(Us ds y).2=0→(Us ds (RC x y)).1=AL (Us ds x).1 (Us ds y).1):=by
 obtain⟨_,_,_,_,h5,h6,h7⟩:=Kx h;rw[Tu]at h5 h6 h7;have hl:=uI h5;have hS:(Qy x ⟨ds.map Dc.name,false⟩).2=⟨ds.map Dc.name,false⟩:=LS.eq (Xj x _) hl;refine⟨fun h8=>?_,fun hx hy=>?_⟩
 ·rcases GW h8 with e|e
  ·rw[hl]at e;cases e
  ·have e2:Ou (AL (Qy x ⟨ds.map Dc.name,false⟩).1 (Qy y (Qy x ⟨ds.map Dc.name,false⟩).2).1)≤2000:=h6;rw[Ou,Lo]at e2;omega
 ·obtain⟨_,_,_,_,_,_,gx⟩:=Kx hx;obtain⟨_,_,_,_,_,_,gy⟩:=Kx hy;rw[h7,gx,gy,hS]
end Go.Proofs.YtadjjadimlkkgaaGreatDoor
end
section
namespace Go.Proofs.YtadjjadimlkkgaaGreatDoor
open Go Go.RowKit

theorem YM{st:St}(hf:Q6 st){cp:Nat}{L:List Tk}{kl:AV}(hL:J1 st.h.get [cp] 4 (L.map Tk.cells) kl)(hO:YJ L){S:PS}(hr:JA st.h.get cp 0 (Wx kl S))(hi:S.i<L.length): ∃v st',Ev Tryz.prog Ja 41 [.ptr cp 0 0] st v st'∧v=.agg (Qi L S).cells∧Qt st st':=by
 have hLn:=hO.n;refine QC rfl Tryz.func41 rfl Tryz.ntmps41 rfl fun T hT=>?_;have K:Jm [(0,_)] T:=(.cons (hT 0) .nil);have M:=Mem.start hf;refine au 4 K M ?_;intro c2 _ _ K _ M;refine o1 K (Qx rfl (Yt (M.Ar (by simp) hr.Xg) (Qk QI rfl))) rfl fun _ K=>?_;refine Qg 1 K M ?_;intro _ K;refine G5 K rfl (fun h7=>?_) fun h7=>?_
 ·refine Qq<|Qh<|o1 K (Qz Zu rfl rfl) rfl fun _ K=>?_;refine au 1 K M ?_;intro _ _ K _ M;refine Qe ⟨.inr rfl,_,YI 0 K M rfl rfl rfl,?_⟩;refine⟨?_,M.qt⟩;rw[L6 h7];rfl
 refine QT ?_;show W _ _ _ _ _ _ _;refine Qq ?_;refine Jk (l:=[(0,0),(1,0),(2,0),(3,0),(4,0),(5,0),(6,0),(7,0),(8,0),(9,0),(10,0)]) (by kernel_rfl) ?_;refine d1 rfl K (Qb rfl) rfl rfl fun _ K=>d1 rfl K (JN rfl rfl) rfl rfl fun _ K=>d1 rfl K (Qf YE rfl) rfl rfl fun _ K=>d1 rfl K (Qx rfl (Yt (M.Ar (by simp) hr.Xg) (Qk XW rfl))) rfl rfl fun _ K=>d1 rfl K (Qb rfl) rfl rfl fun _ K=>d1 rfl K (JN rfl rfl) rfl rfl fun _ K=>d1 rfl K (Qf YD rfl) rfl rfl fun _ K=>d1 rfl K (Qx rfl (Yt (M.Ar (by simp) hr.Xg) (Qk QI rfl))) rfl rfl fun _ K=>?_;obtain⟨t17,hi17⟩: ∃x,L[S.i]? =some x:=⟨_,List.getElem?_eq_getElem (by first|omega|exact hi|exact hat (by simp_all))⟩;obtain⟨x17,m17,f17,q17,_,la17,lo17,lp17⟩:=(J1.mem M hL (by simp)).load (i:=S.i) (cs:=_) (D8 hi17);refine d1 rfl K (Qr (j:=S.i) Xc (congrArg some q17) rfl (by rw[List.length_map];first|omega|exact hi|exact hat (by simp_all))) rfl rfl fun _ K=>d1 rfl K (Qx rfl (la17 _ UF)) rfl rfl fun _ K=>?_;refine JX (k:=0) rfl K M rfl rfl rfl An rfl rfl rfl fun _ M=>?_;refine J0 ?_;show W _ _ _ _ _ _ _;refine Qe ⟨.inr rfl,_,YI 0 K M rfl rfl rfl,?_⟩;refine⟨?_,M.qt⟩;rw[zn h7 hi17];rfl

theorem Z1{st:St}(hf:Q6 st){cp:Nat}{L:List Tk}{kl:AV}(hL:J1 st.h.get [cp] 4 (L.map Tk.cells) kl)(hO:YJ L){S:PS}(hr:JA st.h.get cp 0 (Wx kl S))(hi:S.i<L.length)(w:List Nat): ∃v st',Ev Tryz.prog Ja 35 [.ptr cp 0 0,.str w] st v st'∧v=.bool (UN L S w)∧Qt st st':=by
 have hLn:=hO.n;refine QC rfl Tryz.func35 rfl Tryz.ntmps35 rfl fun T hT=>?_;have K:Jm [(0,_),(1,_)] T:=(.cons (hT 0) (.cons (hT 1) .nil));have M:=Mem.start hf;refine Qg 2 K M ?_;intro _ K;refine oQ K M (YM M.fresh (J1.mem M hL (by simp)) hO (JA.U7 hf (M.qt.U7 []) hr (by simp)) hi) rfl rfl fun _ _ K M=>?_;refine au 5 K M ?_;intro c5 _ _ K _ M;refine oB K (Qb rfl) rfl fun b11 _ e11 K=>?_;cases b11
 ·replace e11:=of_decide_eq_false e11;refine Qg 6 K M ?_;intro _ K;refine Qe ⟨.inr rfl,_,JU K rfl,?_⟩;refine⟨?_,M.qt⟩;unfold UN
  first|rfl|(simp_all [Qu];done)
 replace e11:=of_decide_eq_true e11;refine Qg 6 K M ?_;intro _ K;refine Qe ⟨.inr rfl,_,JU K rfl,?_⟩;refine⟨?_,M.qt⟩;unfold UN
 first|rfl|(simp_all [Qu];done)

theorem UT{st:St}(hf:Q6 st){cp:Nat}{kl:AV}{S:PS}(hr:JA st.h.get cp 0 (Wx kl S))(at_ e:Int): ∃v st',Ev Tryz.prog Ja 42 [.ptr cp 0 0,.int .i64 at_,.int .i64 e] st v st'∧v=.tup []∧Ag [cp] st st'∧JA st'.h.get cp 0 (Wx kl (Q4 S at_ e)):=by
 refine QC rfl Tryz.func42 rfl Tryz.ntmps42 rfl fun T hT=>?_;have K:Jm [(0,_),(1,_),(2,_)] T:=(.cons (hT 0) (.cons (hT 1) (.cons (hT 2) .nil)));have M:=Mem.UP hf hr;refine Qg 5 K M ?_;intro _ K;refine Z0 K rfl (fun h10=>?_) fun h10=>?_
 ·refine au 10 K M ?_;intro _ _ K _ M;refine⟨.inl rfl,_,Xv,?_⟩;refine⟨rfl,M.U7,?_⟩;rw[show Q4 S at_ e=⟨S.i,e,at_⟩from if_pos h10];exact M.Qp (k:=0) rfl
 refine QT ?_;refine⟨.inl rfl,_,Xv,?_⟩;refine⟨rfl,M.U7,?_⟩;rw[show Q4 S at_ e=S from if_neg h10];exact M.Qp (k:=0) rfl

theorem Uu{st:St}(hf:Q6 st){cp:Nat}{L:List Tk}{kl:AV}(hL:J1 st.h.get [cp] 4 (L.map Tk.cells) kl)(hO:YJ L){S:PS}(hr:JA st.h.get cp 0 (Wx kl S))(hi:S.i<L.length): ∃v st',Ev Tryz.prog Ja 80 [.ptr cp 0 0] st v st'∧v=.agg (Qi L S).cells∧Ag [cp] st st'∧JA st'.h.get cp 0 (Wx kl (Qd L S)):=by
 have hLn:=hO.n;refine QC rfl Tryz.func80 rfl Tryz.ntmps80 rfl fun T hT=>?_;have K:Jm [(0,_)] T:=(.cons (hT 0) .nil);have M:=Mem.UP hf hr;refine au 2 K M ?_;intro c2 _ _ K _ M;refine oQ K M (YM M.fresh (J1.mem M hL (by simp)) hO (M.Qp (k:=1) rfl) hi) rfl rfl fun _ _ K M=>?_;refine au 7 K M ?_;intro c3 _ _ K _ M;refine oB K (Qb rfl) rfl fun b11 _ e11 K=>?_;cases b11
 ·replace e11:=of_decide_eq_false e11;refine Qg 4 K M ?_;intro _ K;refine Qn (t:=false) (K.QR rfl) (fun h=>by cases h) (fun _=>?_);refine au 2 K M ?_;intro _ _ K _ M;refine Qe ⟨.inr rfl,_,YI 1 K M rfl rfl rfl,?_⟩;refine⟨rfl,M.U7,?_⟩;rw[show Qd L S=S from if_neg (fun h=>e11 h.1)];exact M.Qp (k:=2) rfl
 replace e11:=of_decide_eq_true e11;refine Qg 4 K M ?_;intro _ K;refine G5 K rfl (fun h15=>?_) fun h15=>?_
 ·refine Qg 4 K M ?_;intro _ K;refine o1 K (Jn rfl rfl (by omega) (by omega)) rfl fun _ K=>?_;refine au 5 K M ?_;intro _ _ K _ M;refine Qe ⟨.inr rfl,_,YI 1 K M rfl rfl rfl,?_⟩;refine⟨rfl,M.U7,?_⟩;rw[show Qd L S=⟨S.i+1,S.e,S.a⟩from if_pos ⟨e11,h15⟩];exact M.Qp (k:=2) rfl
 refine au 2 K M ?_;intro _ _ K _ M;refine Qe ⟨.inr rfl,_,YI 1 K M rfl rfl rfl,?_⟩;refine⟨rfl,M.U7,?_⟩;rw[show Qd L S=S from if_neg (fun h=>h.2 h15)];exact M.Qp (k:=2) rfl

theorem Zt{st:St}(hf:Q6 st){cp:Nat}{L:List Tk}{kl:AV}(hL:J1 st.h.get [cp] 4 (L.map Tk.cells) kl)(hO:YJ L){S:PS}(hr:JA st.h.get cp 0 (Wx kl S))(hi:S.i<L.length)(w:List Nat): ∃v st',Ev Tryz.prog Ja 83 [.ptr cp 0 0,.str w] st v st'∧v=.bool (UN L S w)∧Ag [cp] st st'∧JA st'.h.get cp 0 (Wx kl (Q8 L S w)):=by
 have hLn:=hO.n;refine QC rfl Tryz.func83 rfl Tryz.ntmps83 rfl fun T hT=>?_;have K:Jm [(0,_),(1,_)] T:=(.cons (hT 0) (.cons (hT 1) .nil));have M:=Mem.UP hf hr;refine Qg 3 K M ?_;intro _ K;refine oQ K M (Z1 M.fresh (J1.mem M hL (by simp)) hO (M.Qp (k:=0) rfl) hi w) rfl rfl fun _ _ K M=>?_;refine Qg 1 K M ?_;intro _ K;refine Qn (K.QR rfl) (fun h8=>?_) (fun h8=>?_)
 ·have hb8:=h8
  replace h8:(UN L S w)=false:=by first|simpa using h8|(revert h8;cases(UN L S w)<;>simp)
  refine Qg 1 K M ?_;intro _ K;refine Qe ⟨.inr rfl,_,JU K rfl,?_⟩;refine⟨(by simp_all),M.U7,?_⟩;rw[show Q8 L S w=S from(by unfold Q8;simp_all)];exact M.Qp (k:=0) rfl
 have hb8:=h8
 replace h8:(UN L S w)=true:=by first|simpa using h8|(revert h8;cases(UN L S w)<;>simp)
 refine Qg 1 K M ?_;intro _ K;refine oR 0 K M (Uu M.fresh (J1.mem M hL (by simp)) hO (M.Qp (k:=0) rfl) hi) rfl rfl rfl fun _ _ K M=>?_;refine Qg 1 K M ?_;intro _ K;refine Qe ⟨.inr rfl,_,JU K rfl,?_⟩;refine⟨(by simp_all),M.U7,?_⟩;rw[show Q8 L S w=(Qd L S)from(by unfold Q8;simp_all)];exact M.Qp (k:=0) rfl

theorem YR{st:St}(hf:Q6 st){cp:Nat}{L:List Tk}{kl:AV}(hL:J1 st.h.get [cp] 4 (L.map Tk.cells) kl)(hO:YJ L){S:PS}(hr:JA st.h.get cp 0 (Wx kl S))(hi:S.i<L.length)(w:List Nat): ∃v st',Ev Tryz.prog Ja 40 [.ptr cp 0 0,.str w] st v st'∧v=.tup []∧Ag [cp] st st'∧JA st'.h.get cp 0 (Wx kl (QS L S w)):=by
 have hLn:=hO.n;refine QC rfl Tryz.func40 rfl Tryz.ntmps40 rfl fun T hT=>?_;have K:Jm [(0,_),(1,_)] T:=(.cons (hT 0) (.cons (hT 1) .nil));have M:=Mem.UP hf hr;refine Qg 2 K M ?_;intro _ K;refine oR 0 K M (Zt M.fresh (J1.mem M hL (by simp)) hO (M.Qp (k:=0) rfl) hi w) rfl rfl rfl fun _ _ K M=>?_;refine Qg 1 K M ?_;intro _ K;refine Qn (K.QR rfl) (fun h7=>?_) (fun h7=>?_)
 ·have hb7:=h7
  replace h7:(UN L S w)=false:=by first|simpa using h7|(revert h7;cases(UN L S w)<;>simp)
  refine Qg 2 K M ?_;intro _ K;refine oQ K M (YM M.fresh (J1.mem M hL (by simp)) hO (M.Qp (k:=0) rfl) ((Jc hO.t _ _).2 hi)) rfl rfl fun _ _ K M=>?_;refine o1 K (YA rfl ((UD _).trans (Qk QI rfl))) rfl fun _ K=>?_;refine oR 0 K M (UT M.fresh (M.Qp (k:=0) rfl) ((Qi L (Q8 L S w)).a) 2) rfl rfl rfl fun _ _ K M=>?_;refine Q5 ?_;refine⟨.inl rfl,_,Xv,?_⟩;refine⟨rfl,M.U7,?_⟩;rw[show QS L S w=(Q4 (Q8 L S w) ((Qi L (Q8 L S w)).a) 2)from(by unfold QS;simp_all [Q8])];exact M.Qp (k:=0) rfl
 have hb7:=h7
 replace h7:(UN L S w)=true:=by first|simpa using h7|(revert h7;cases(UN L S w)<;>simp)
 refine QT ?_;refine⟨.inl rfl,_,Xv,?_⟩;refine⟨rfl,M.U7,?_⟩;rw[show QS L S w=(Q8 L S w)from(by unfold QS;simp_all [Q8])];exact M.Qp (k:=0) rfl

theorem Em{st:St}(hf:Q6 st){cp:Nat}{L:List Tk}{kl:AV}(hL:J1 st.h.get [cp] 4 (L.map Tk.cells) kl)(hO:YJ L){S:PS}(hr:JA st.h.get cp 0 (Wx kl S))(hi:S.i<L.length): ∃v st',Ev Tryz.prog Ja 81 [.ptr cp 0 0] st v st'∧v=.agg (Je L S).cells∧Ag [cp] st st'∧JA st'.h.get cp 0 (Wx kl (Jf L S)):=by
 have hLn:=hO.n;refine QC rfl Tryz.func81 rfl Tryz.ntmps81 rfl fun T hT=>?_;have K:Jm [(0,_)] T:=(.cons (hT 0) .nil);have M:=Mem.UP hf hr;refine au 2 K M ?_;intro c2 _ _ K _ M;refine oQ K M (YM M.fresh (J1.mem M hL (by simp)) hO (M.Qp (k:=1) rfl) hi) rfl rfl fun _ _ K M=>?_;refine o1 K (YA rfl ((WX _).trans (Qk QI rfl))) rfl fun _ K=>?_;refine Qg 1 K M ?_;intro _ K;refine G5 K rfl (fun h6=>?_) fun h6=>?_
 ·refine Qg 2 K M ?_;intro _ K;refine oQ K M (YM M.fresh (J1.mem M hL (by simp)) hO (M.Qp (k:=1) rfl) hi) rfl rfl fun _ _ K M=>?_;refine o1 K (YA rfl ((UD _).trans (Qk QI rfl))) rfl fun _ K=>?_;refine oR 1 K M (UT M.fresh (M.Qp (k:=1) rfl) ((Qi L S).a) 2) rfl rfl rfl fun _ _ K M=>?_;refine Q5 ?_;show W _ _ _ _ _ _ _;refine Qq<|Qh<|o1 K (Qz Zu rfl rfl) rfl fun _ K=>?_;refine au 1 K M ?_;intro _ _ K _ M;refine Qe ⟨.inr rfl,_,YI 0 K M rfl rfl rfl,?_⟩;refine⟨(by unfold Je;simp_all [Tk.cells,zo]),M.U7,?_⟩;rw[show Jf L S=(Q4 S ((Qi L S).a) 2)from(by unfold Jf;simp_all)];exact M.Qp (k:=1) rfl
 refine Qg 1 K M ?_;intro _ K;refine oR 1 K M (Uu M.fresh (J1.mem M hL (by simp)) hO (M.Qp (k:=1) rfl) hi) rfl rfl rfl fun _ _ K M=>?_;refine au 1 K M ?_;intro _ _ K _ M;refine Qe ⟨.inr rfl,_,YI 0 K M rfl rfl rfl,?_⟩;refine⟨(by unfold Je;simp_all [Tk.cells,zo]),M.U7,?_⟩;rw[show Jf L S=(Qd L S)from(by unfold Jf;simp_all)];exact M.Qp (k:=1) rfl

theorem IB{st:St}(hf:Q6 st){cp:Nat}{L:List Tk}{kl:AV}(hL:J1 st.h.get [cp] 4 (L.map Tk.cells) kl)(hO:YJ L){S:PS}(hr:JA st.h.get cp 0 (Wx kl S))(hi:S.i<L.length)(s:List Nat)(hs:s.length≤1000): ∃v st',Ev Tryz.prog Ja 36 [.ptr cp 0 0,.str s] st v st'∧v=.int .i64 (QQ L S s)∧Qt st st':=by
 have hLn:=hO.n;refine QC rfl Tryz.func36 rfl Tryz.ntmps36 rfl fun T hT=>?_;have K:Jm [(0,_),(1,_)] T:=(.cons (hT 0) (.cons (hT 1) .nil));have M:=Mem.start hf;refine Qg 2 K M ?_;intro _ K;refine Uq ?_;refine Qg 2 K M ?_;intro _ K;refine Qn (K.QR rfl) (fun h7=>?_) (fun h7=>?_)
 ·have hb7:=h7;replace h7:=of_decide_eq_true h7;refine Qg 3 K M ?_;intro _ K;refine o1 K (Jn rfl rfl (by omega) (by omega)) rfl fun _ K=>o1 K (ID W7 G6 rfl) rfl fun _ K=>?_;refine YK K M H4 AT rfl rfl rfl rfl rfl fun c15 _ _ K M=>?_;refine o1 K (Ks Aj W7 UI rfl (JA.Xg (M.Qp (k:=0) rfl)) (by first|decide|omega)) rfl fun _ K=>o1 K (GP rfl rfl (by first|omega|(simp only[List.length_append,List.length_cons,List.length_nil];omega))) rfl fun _ K=>?_;obtain⟨v18,st18,ev18,rfl,q18⟩:=Z1 M.fresh (J1.mem M hL (by simp)) hO (JA.U7 hf (M.qt.U7 []) hr (by simp)) hi (s++[48]);refine o1 K (Qc rfl ev18) rfl fun _ K=>?_;replace M:=M.quiet q18;refine Q5 ?_;show W _ _ _ _ _ _ _;refine Qn (K.QR rfl) (fun h18=>?_) (fun h18=>?_)
  ·have hb18:=h18;refine Qg 2 K M ?_;intro _ K;refine Qe ⟨.inr rfl,_,JU K rfl,?_⟩;refine⟨?_,M.qt⟩;unfold QQ
   simp_all
  have hb18:=h18;refine Qg 1 K M ?_;intro _ K;refine o1 K (Jn rfl rfl (by omega) (by omega)) rfl fun _ K=>?_;refine Qg 1 K M ?_;intro _ K;refine Uq ?_;refine Qg 2 K M ?_;intro _ K;refine Qn (K.QR rfl) (fun h7=>?_) (fun h7=>?_)
  ·have hb7:=h7;replace h7:=of_decide_eq_true h7;refine Qg 3 K M ?_;intro _ K;refine o1 K (Jn rfl rfl (by omega) (by omega)) rfl fun _ K=>o1 K (ID W7 G6 rfl) rfl fun _ K=>?_;refine YK K M H4 AT rfl rfl rfl rfl rfl fun c15 _ _ K M=>?_;refine o1 K (Ks Aj W7 UI rfl (JA.Xg (M.Qp (k:=0) rfl)) (by first|decide|omega)) rfl fun _ K=>o1 K (GP rfl rfl (by first|omega|(simp only[List.length_append,List.length_cons,List.length_nil];omega))) rfl fun _ K=>?_;obtain⟨v18,st18,ev18,rfl,q18⟩:=Z1 M.fresh (J1.mem M hL (by simp)) hO (JA.U7 hf (M.qt.U7 []) hr (by simp)) hi (s++[49]);refine o1 K (Qc rfl ev18) rfl fun _ K=>?_;replace M:=M.quiet q18;refine Q5 ?_;show W _ _ _ _ _ _ _;refine Qn (K.QR rfl) (fun h18=>?_) (fun h18=>?_)
   ·have hb18:=h18;refine Qg 2 K M ?_;intro _ K;refine Qe ⟨.inr rfl,_,JU K rfl,?_⟩;refine⟨?_,M.qt⟩;unfold QQ
    simp_all
   have hb18:=h18;refine Qg 1 K M ?_;intro _ K;refine o1 K (Jn rfl rfl (by omega) (by omega)) rfl fun _ K=>?_;refine Qg 1 K M ?_;intro _ K;refine Uq ?_;refine Qg 2 K M ?_;intro _ K;refine Qn (K.QR rfl) (fun h7=>?_) (fun h7=>?_)
   ·have hb7:=h7;replace h7:=of_decide_eq_true h7;refine Qg 3 K M ?_;intro _ K;refine o1 K (Jn rfl rfl (by omega) (by omega)) rfl fun _ K=>o1 K (ID W7 G6 rfl) rfl fun _ K=>?_;refine YK K M H4 AT rfl rfl rfl rfl rfl fun c15 _ _ K M=>?_;refine o1 K (Ks Aj W7 UI rfl (JA.Xg (M.Qp (k:=0) rfl)) (by first|decide|omega)) rfl fun _ K=>o1 K (GP rfl rfl (by first|omega|(simp only[List.length_append,List.length_cons,List.length_nil];omega))) rfl fun _ K=>?_;obtain⟨v18,st18,ev18,rfl,q18⟩:=Z1 M.fresh (J1.mem M hL (by simp)) hO (JA.U7 hf (M.qt.U7 []) hr (by simp)) hi (s++[50]);refine o1 K (Qc rfl ev18) rfl fun _ K=>?_;replace M:=M.quiet q18;refine Q5 ?_;show W _ _ _ _ _ _ _;refine Qn (K.QR rfl) (fun h18=>?_) (fun h18=>?_)
    ·have hb18:=h18;refine Qg 2 K M ?_;intro _ K;refine Qe ⟨.inr rfl,_,JU K rfl,?_⟩;refine⟨?_,M.qt⟩;unfold QQ
     simp_all
    have hb18:=h18;refine Qg 1 K M ?_;intro _ K;refine o1 K (Jn rfl rfl (by omega) (by omega)) rfl fun _ K=>?_;refine Qg 1 K M ?_;intro _ K;refine Uq ?_;refine Qg 2 K M ?_;intro _ K;refine Qn (K.QR rfl) (fun h7=>?_) (fun h7=>?_)
    ·have hb7:=h7;replace h7:=of_decide_eq_true h7
     exfalso;omega
    have hb7:=h7;replace h7:=of_decide_eq_false h7;refine Uc ?_;show W _ _ _ _ _ _ _;refine Qg 1 K M ?_;intro _ K;refine Qe ⟨.inr rfl,_,JU K rfl,?_⟩;refine⟨?_,M.qt⟩;unfold QQ
    simp_all
   have hb7:=h7;replace h7:=of_decide_eq_false h7
   exfalso;omega
  have hb7:=h7;replace h7:=of_decide_eq_false h7
  exfalso;omega
 have hb7:=h7;replace h7:=of_decide_eq_false h7
 exfalso;omega
end Go.Proofs.YtadjjadimlkkgaaGreatDoor
end
