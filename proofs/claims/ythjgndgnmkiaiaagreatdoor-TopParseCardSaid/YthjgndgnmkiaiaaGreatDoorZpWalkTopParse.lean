/-
  SameProg of two programs that are the same.
-/
import Derived.Test.YthjgndgnmkiaiaaGreatDoorZpEnT
import Derived.Test.YthjgndgnmkiaiaaGreatDoorZpPpT
set_option maxHeartbeats 8000000
set_option maxRecDepth 100000
set_option linter.unnecessarySimpa false
set_option linter.unusedSectionVars false
set_option linter.unusedSimpArgs false
set_option linter.unusedVariables false
namespace Go.Proofs.YthjgndgnmkiaiaaGreatDoor
open Go Go.RowKit
section

theorem Bl: ∀{a b:List Dc} {i:Nat} {n:List Nat} {o z:Int},Z0 a b=true→a[i]? =some ⟨n,o,z⟩→ ∃y,b[i]? =some ⟨n,o,y⟩
 |[],_,i,n,o,z,_,hi=>by simp at hi
 |d::a,[],i,n,o,z,h,hi=>by cases h
 |d::a,e::b,0,n,o,z,h,hi=>by
  rw[Z0,Bool.and_eq_true]at h;have h1:=h.1;unfold Bm at h1;simp only[Bool.and_eq_true,decide_eq_true_eq]at h1;simp only[List.getElem?_cons_zero,Option.some.injEq]at hi;subst hi;obtain⟨en,eo,ez⟩:=e;have e1:n=en:=h1.1;have e2:o=eo:=h1.2;exact⟨ez,by simp only[List.getElem?_cons_zero,Option.some.injEq];rw[e1,e2]⟩
 |d::a,e::b,i+1,n,o,z,h,hi=>by
  rw[Z0,Bool.and_eq_true]at h;rw[List.getElem?_cons_succ]at hi ⊢;exact Bl h.2 hi
theorem Bk: ∀{a b:List Dc},Z0 a b=true→a.length=b.length
 |[],[],_=>rfl
 |[],_::_,h=>by cases h
 |_::_,[],h=>by cases h
 |d::a,e::b,h=>by
  rw[Z0,Bool.and_eq_true]at h;rw[List.length_cons,List.length_cons,Bk h.2]
theorem Bh: ∀{a b:List Pd} {i:Nat} {p:Pd},Wj a b=true→a[i]? =some p→ ∃q,b[i]? =some q∧p.name=q.name∧Z0 p.params q.params=true∧Un p.body q.body=true
 |[],_,i,p,_,hi=>by simp at hi
 |d::a,[],i,p,h,hi=>by cases h
 |d::a,e::b,0,p,h,hi=>by
  rw[Wj,Bool.and_eq_true]at h;have h1:=h.1;unfold Mu at h1;simp only[Bool.and_eq_true,decide_eq_true_eq]at h1;simp only[List.getElem?_cons_zero,Option.some.injEq]at hi;subst hi;exact⟨e,rfl,h1⟩
 |d::a,e::b,i+1,p,h,hi=>by
  rw[Wj,Bool.and_eq_true]at h;rw[List.getElem?_cons_succ]at hi ⊢;exact Bh h.2 hi
theorem Bg: ∀{a b:List Pd},Wj a b=true→a.length=b.length
 |[],[],_=>rfl
 |[],_::_,h=>by cases h
 |_::_,[],h=>by cases h
 |d::a,e::b,h=>by
  rw[Wj,Bool.and_eq_true]at h;rw[List.length_cons,List.length_cons,Bg h.2]
theorem yB{g k:Pg}(h:NP g k=true):Z0 g.decls k.decls=true∧Wj g.preds k.preds=true∧Un g.main k.main=true:=by
 unfold NP at h;simp only[Bool.and_eq_true]at h;exact h

theorem I6{st:St}(hf:Q3 st){l l':List Dc}{kk kw:AV}{ls lt:List (List AV)}(hD:LV st.h.get l kk ls)(hE:LV st.h.get l' kw lt)(hs:Z0 l l'=true): ∃v st',Ev Tryz.prog JF 21 [kk,kw] st v st'∧v=.bool true∧Qt st st':=by
 have hln:=hD.ln;have hbn:=hD.W9;have hlm:=hE.ln;have hll:=Bk hs;refine XB Tryz.func21 Tryz.ntmps21 fun T K=>?_;have M:=Mem.start hf;refine Qg 2 K M fun _ K=>?_;refine p1 K (Jp UO rfl rfl hD.len) fun _ K=>?_;refine Qg 1 K M fun _ K=>?_;refine p1 K (Jp UO rfl rfl hE.len) fun _ K=>?_;refine Qg 1 K M fun _ K=>?_;refine Zb K rfl (fun h10=>?_) fun h10=>?_
 ·have hb10:=h10
  replace h10: ¬(((l.length:Nat):Int)=((l'.length:Nat):Int)):=by first|exact of_decide_eq_false h10|exact yF h10|simpa using h10
  exfalso;omega
 have hb10:=h10
 replace h10:(((l.length:Nat):Int)=((l'.length:Nat):Int)):=by first|exact of_decide_eq_true h10|exact yT h10|simpa using h10
 refine Qg 1 K M fun _ K=>?_;refine UE (fun mm1 T st9=> ∃(i:Nat),mm1=l.length-i∧Jn [(0,kk),(1,kw),(5,iN i)] T∧Mem st.h.get st.n [] st9 []∧i≤l.length) (fun mm1 T st9 hI=>?_) _ _ _ ⟨0,rfl,(K.sub rfl),M.less (.refl _),(Nat.zero_le _)⟩;obtain⟨i,rfl,K,M,hi⟩:=hI;refine Qg 2 K M fun _ K=>?_;refine p1 K (Jp UO rfl rfl hD.len) fun _ K=>?_;refine Qg 1 K M fun _ K=>?_;refine WU K rfl (fun h14=>?_) fun h14=>?_
 ·refine Qg 0 K M fun _ K=>?_;refine QU (l:=[(0,0),(1,0),(2,0),(3,0),(4,0),(5,0),(6,0),(7,0),(8,0),(9,0),(10,0),(11,0),(12,0),(13,0),(14,0),(15,0),(16,0),(17,0),(18,0),(19,0),(20,0),(21,0),(22,0),(23,0)]) (by kernel_rfl) ?_;refine Ue 2 K M fun _ K=>?_;obtain⟨⟨dn19,do19,da19⟩,hi19⟩: ∃k,l[i]? =some k:=⟨_,List.getElem?_eq_getElem Qk⟩;obtain⟨_,hc19,rfl,hy19⟩:=hD.at_ _ _ hi19;obtain⟨x19,m19,f19,q19,_,la19,lo19,lp19⟩:=(hD.r.mem M Q1).load (i:=i) (cs:=_) hc19;refine q1 rfl K (Qp (j:=i) YK (congrArg some q19) rfl (by rw[hD.ln];omega)) fun _ K=>?_;refine Ue 1 K M fun _ K=>?_;refine q1 rfl K (QK rfl (lo19 _ 0 _ Qr rfl)) fun _ K=>?_;refine Ue 2 K M fun _ K=>?_;obtain⟨da24,hi24⟩:=Bl hs hi19;obtain⟨_,hc24,rfl,hy24⟩:=hE.at_ _ _ hi24;obtain⟨x24,m24,f24,q24,_,la24,lo24,lp24⟩:=(hE.r.mem M Q1).load (i:=i) (cs:=_) hc24;refine q1 rfl K (Qp (j:=i) YK (congrArg some q24) rfl (by rw[hE.ln];omega)) fun _ K=>?_;refine Ue 1 K M fun _ K=>?_;refine q1 rfl K (QK rfl (lo24 _ 0 _ Qr rfl)) fun _ K=>q1 rfl K (Ol rfl rfl) fun _ K=>?_;refine oW rfl K (Q7 rfl) rfl rfl (fun _ e28 K=>?_) fun _ e28 K=>?_
  ·refine Ue 2 K M fun _ K=>?_;obtain⟨x31,m31,f31,q31,_,la31,lo31,lp31⟩:=(hD.r.mem M Q1).load (i:=i) (cs:=_) hc19;refine dg rfl K rfl rfl (Qp (j:=i) YK (congrArg some q31) rfl (by rw[hD.ln];omega)) rfl rfl fun _ K=>?_;refine Ue 1 K M fun _ K=>?_;refine dg rfl K rfl rfl (QK rfl (lo31 _ 1 _ J4 rfl)) rfl rfl fun _ K=>?_;refine Ue 2 K M fun _ K=>?_;obtain⟨x36,m36,f36,q36,_,la36,lo36,lp36⟩:=(hE.r.mem M Q1).load (i:=i) (cs:=_) hc24;refine dg rfl K rfl rfl (Qp (j:=i) YK (congrArg some q36) rfl (by rw[hE.ln];omega)) rfl rfl fun _ K=>?_;refine Ue 1 K M fun _ K=>?_;refine dg rfl K rfl rfl (QK rfl (lo36 _ 1 _ J4 rfl)) rfl rfl fun _ K=>?_;refine Ue 2 K M fun _ K=>?_;refine QZ ?_;show W _ _ _ _ _ _ _;refine Zb K rfl (fun h40=>?_) fun h40=>?_
   ·have hb40:=h40
    replace h40: ¬(do19=do19):=by first|exact of_decide_eq_false h40|exact yF h40|simpa using h40
    exact absurd rfl h40
   have hb40:=h40
   replace h40:(do19=do19):=by first|exact of_decide_eq_true h40|exact yT h40|simpa using h40
   refine Qg 3 K M fun _ K=>?_;exact⟨_,Qk,i+1,rfl,(K.sub rfl),M.less (.refl _),Qk⟩
  exact absurd rfl e28
 refine Uz ?_;show W _ _ _ _ _ _ _;refine Qg 1 K M ?_;exact⟨rfl,M.qt⟩

theorem Pm{ds dsw:List Dc}{ps psw:List Pd}{o s ow sw:List Nat}{z a zw aw:Int}{l lw:List Nd}{st:St}{cs ct:List AV}(hf:Q3 st)(hr:u5 st.h.get ⟨ds,ps,.mk o s z a l⟩ cs)(hr':u5 st.h.get ⟨dsw,psw,.mk ow sw zw aw lw⟩ ct)(hs:NP ⟨ds,ps,.mk o s z a l⟩ ⟨dsw,psw,.mk ow sw zw aw lw⟩=true): ∃v st',Ev Tryz.prog JF 8 [.agg cs,.agg ct] st v st'∧v=.bool true∧Qt st st':=by
 have hr0:=hr;obtain⟨kd,ld,kp,lp,o,s,z,a,kk,rfl,hD,hP,hn⟩:=hr0;obtain⟨kx,ls,ex,hK,hb⟩:=hn.J3
 injection ex with x1 x;injection x with x2 x;injection x with x3 x;injection x with x4 x;injection x with x5 x
 injection x1 with x1;injection x2 with x2;injection x3 with _ x3;injection x4 with _ x4
 subst x1 x2 x3 x4 x5;replace hD:LV st.h.get ds kd ld:=hD;replace hP:ak st.h.get ps kp lp:=hP;replace hn:XW st.h.get (.mk o s z a l) _:=hn;have hbk:=hK.W9;have hbd:=hD.W9;have hbp:=hP.W9;have hlp:=hP.ln;have hr'0:=hr';obtain⟨kdw,ldw,kpw,lpw,ow,sw,zw,aw,kkw,rfl,hDw,hPw,hnw⟩:=hr'0;obtain⟨kxw,lsw,exw,hKw,hbw⟩:=hnw.J3
 injection exw with x1 x;injection x with x2 x;injection x with x3 x;injection x with x4 x;injection x with x5 x
 injection x1 with x1;injection x2 with x2;injection x3 with _ x3;injection x4 with _ x4
 subst x1 x2 x3 x4 x5;replace hDw:LV st.h.get dsw kdw ldw:=hDw;replace hPw:ak st.h.get psw kpw lpw:=hPw;replace hnw:XW st.h.get (.mk ow sw zw aw lw) _:=hnw;have hbkw:=hKw.W9;have hbdw:=hDw.W9;have hbpw:=hPw.W9;have hlpw:=hPw.ln;obtain⟨hs1,hs2,hs3⟩:=yB hs;replace hs1:Z0 ds dsw=true:=hs1;replace hs2:Wj ps psw=true:=hs2;replace hs3:Un (.mk o s z a l) (.mk ow sw zw aw lw)=true:=hs3;have hlq:=Bg hs2;refine XB Tryz.func8 Tryz.ntmps8 fun T K=>?_;have M:=Mem.start hf;refine Qg 0 K M fun _ K=>?_;refine Y8 K M rfl (Qa hD.cell (Qa hP.cell (Qa rfl (Qa rfl (Qa rfl (Qa rfl (Qa hK.cell QV))))))) Qo fun c2 _ _ K M=>?_;refine Y8 K M rfl (Qa hDw.cell (Qa hPw.cell (Qa rfl (Qa rfl (Qa rfl (Qa rfl (Qa hKw.cell QV))))))) Qo fun c3 _ _ K M=>?_;refine Qg 5 K M fun _ K=>?_;refine oQ K M (I6 M.fresh (LV.mono M.rows hD) (LV.mono M.rows hDw) hs1) rfl rfl fun _ _ K M=>?_;refine Qg 4 K M fun _ K=>?_;refine pg K rfl rfl (Jp Yq rfl rfl hP.len) fun _ K=>?_;refine Qg 2 K M fun _ K=>?_;refine pg K rfl rfl (Jp Yq rfl rfl hPw.len) fun _ K=>?_;refine Qg 2 K M fun _ K=>?_;refine nX K rfl (fun _ e23 K=>?_) fun _ e23 K=>?_
 ·refine Qg 4 K M fun _ K=>?_;obtain⟨v28,st28,ev28,rj28,q28⟩:=Px _ _ _ _ _ M.fresh (hn.mono M.rows) (hnw.mono M.rows);refine pg K rfl rfl (Qh rfl ev28) fun _ K=>?_;replace rj28:=rj28.trans (congrArg AV.bool hs3);subst rj28;replace M:=M.quiet q28;refine Qg 4 K M fun _ K=>?_;refine UE (fun mm1 T st9=> ∃(i:Nat),mm1=ps.length-i∧Jn [(2,.ptr c2 0 0),(3,.ptr c3 0 0),(5,iN i)] T∧Mem st.h.get st.n [] st9 [(c3,0,[kdw,kpw,.str ow,.str sw,iZ zw,iZ aw,kkw]),(c2,0,[kd,kp,.str o,.str s,iZ z,iZ a,kk])]∧i≤ps.length) (fun mm1 T st9 hI=>?_) _ _ _ ⟨0,rfl,(K.sub rfl),M.less (.refl _),(Nat.zero_le _)⟩;obtain⟨i,rfl,K,M,hi⟩:=hI;refine Qg 3 K M fun _ K=>?_;refine p1 K (Jp Yq rfl rfl hP.len) fun _ K=>?_;refine Qg 1 K M fun _ K=>?_;refine WU K rfl (fun h35=>?_) fun h35=>?_
  ·refine Qg 0 K M fun _ K=>?_;refine QU (l:=[(0,0),(1,0),(2,0),(3,0),(4,0),(10,0),(11,0),(12,0),(5,0),(6,1),(7,0),(8,0),(9,1),(13,0)]) (by kernel_rfl) ?_;have Mq:=M;refine Ue 3 K M fun _ K=>?_;obtain⟨⟨pn41,pp41,⟨_,_,_,_,l41⟩,pa41⟩,hi41⟩: ∃k,ps[i]? =some k:=⟨_,List.getElem?_eq_getElem Qk⟩;have hm41:=FC hi41;obtain⟨_,hc41,hP41⟩:=hP.at_ _ _ hi41;have hP410:=hP41;obtain⟨kd41,ld41,o41,s41,z41,a41,kk41,rfl,hD41,hn41,hy41⟩:=hP410;obtain⟨kx41,ls41,ex41,hK41,hb41⟩:=hn41.J3
   injection ex41 with x1 x;injection x with x2 x;injection x with x3 x;injection x with x4 x;injection x with x5 x
   injection x1 with x1;injection x2 with x2;injection x3 with _ x3;injection x4 with _ x4
   subst x1 x2 x3 x4 x5;replace hD41:LV st.h.get pp41 kd41 ld41:=hD41;replace hn41:XW st.h.get (.mk o41 s41 z41 a41 l41) _:=hn41;replace hy41:Bytes pn41:=hy41;have hl41:=hK41.W9;have hd41:=hD41.W9;refine iT rfl rfl (hP.r.mem M Q1) hc41 K Vx V2 rfl rfl fun _ _ _ _ K=>?_;refine Ir rfl K M X2 Qo fun c6 _ _ K M=>?_;refine Ir rfl K M X2 Qo fun c7 _ _ K M=>?_;refine Um (k:=1) rfl K M rfl rfl rfl X4 rfl (Qa rfl (Qa hD41.cell (Qa rfl (Qa rfl (Qa rfl (Qa rfl (Qa hK41.cell (Qa rfl QV)))))))) rfl fun _ M=>?_;have Mp:=Mq;have Mq:=M;refine Ue 1 K M fun _ K=>?_;refine QO rfl K rfl (M.load (k:=2) rfl (Qj Xg rfl)) (Mp.load (k:=0) rfl (Qj Xg rfl)) (Ji (Jz hPw.len)) rfl Qo fun _ K=>?_;refine q1 rfl K (Q7 rfl) fun _ K=>?_;obtain⟨⟨pn46,pp46,⟨_,_,_,_,l46⟩,pa46⟩,hi46,hsn46,hsd46,hsb46⟩:=Bh hs2 hi41;replace hsn46:pn41=pn46:=hsn46;subst hsn46;obtain⟨_,hc46,hP46⟩:=hPw.at_ _ _ hi46;have hP460:=hP46;obtain⟨kd46,ld46,o46,s46,z46,a46,kk46,rfl,hD46,hn46,hy46⟩:=hP460;obtain⟨kx46,ls46,ex46,hK46,hb46⟩:=hn46.J3
   injection ex46 with x1 x;injection x with x2 x;injection x with x3 x;injection x with x4 x;injection x with x5 x
   injection x1 with x1;injection x2 with x2;injection x3 with _ x3;injection x4 with _ x4
   subst x1 x2 x3 x4 x5;replace hD46:LV st.h.get pp46 kd46 ld46:=hD46;replace hn46:XW st.h.get (.mk o46 s46 z46 a46 l46) _:=hn46;have hl46:=hK46.W9;have hd46:=hD46.W9;obtain⟨x46,m46,f46,q46,_,la46,lo46,lp46,la'46,lo'46,lp'46⟩:=Ja.Wq (hPw.r.mem M Q1) (hPw.r.mem Mp Q1) (i:=i) (cs:=_) hc46;refine q1 rfl K (Qp (j:=i) Vx (congrArg some q46) rfl (by rw[hPw.ln];omega)) fun _ K=>?_;refine QO rfl K rfl (la46 _ V2) (la'46 _ V2) (YR (by simp[Yj,Yk,UB,Jz hD46.len,Jz hK46.len])) rfl Qo fun _ K=>?_;refine Um (k:=0) rfl K M rfl rfl rfl X4 rfl (Qa rfl (Qa hD46.cell (Qa rfl (Qa rfl (Qa rfl (Qa rfl (Qa hK46.cell (Qa rfl QV)))))))) rfl fun _ M=>?_;have Mp:=Mq;have Mq:=M;refine QZ ?_;show W _ _ _ _ _ _ _;refine Qg 5 K M fun _ K=>?_;refine nX K rfl (fun _ e53 K=>?_) fun _ e53 K=>?_
   ·refine Qg 4 K M fun _ K=>?_;obtain⟨v58,st58,ev58,rfl,q58⟩:=I6 M.fresh (LV.mono M.rows hD41) (LV.mono M.rows hD46) hsd46;refine pg K rfl rfl (Qh rfl ev58) fun _ K=>?_;replace M:=M.quiet q58;refine Qg 7 K M fun _ K=>?_;obtain⟨v66,st66,ev66,rj66,q66⟩:=Px _ _ _ _ _ M.fresh (hn41.mono M.rows) (hn46.mono M.rows);refine pg K rfl rfl (Qh rfl ev66) fun _ K=>?_;replace rj66:=rj66.trans (congrArg AV.bool hsb46);subst rj66;replace M:=M.quiet q66;refine Qg 6 K M fun _ K=>?_;exact⟨_,Qk,i+1,rfl,(K.sub rfl),M.less (.cons _ (.cons _ (.refl _))),Qk⟩
   exact absurd rfl e53
  refine Uz ?_;show W _ _ _ _ _ _ _;refine Qg 1 K M ?_;exact⟨rfl,M.qt⟩
 exfalso;omega
end
section
variable {R:KC} {h:Hp}

def Sl(l:List Dc):Prop:= ∀d∈l,Bytes d.name
def nf(p:Pd):Prop:=Bytes p.name∧Sl p.params
def n9(g:Pg):Prop:=Sl g.decls∧ ∀p∈g.preds,nf p
theorem Sl.snoc{l:List Dc}{d:Dc}(h:Sl l)(hd:Bytes d.name):Sl (l++[d]):=fun x hx=>by
 rcases List.mem_append.1 hx with hx|hx
 ·exact h x hx
 ·rw[List.mem_singleton.1 hx];exact hd
section
variable {L:List Tk} (hO:UM L)
include hO
theorem R8(o:Int): ∀f S l,Sl l→Sl (YZ L o f S l).2
 |0,S,l,h=>by rw[YZ];exact h
 |f+1,S,l,h=>by
  have h2:Sl (l++[⟨(Jq L S).s,o,(Jq L S).a⟩]):=h.snoc (AU hO S);rw[YZ]
  split
  ·exact h
  split
  ·exact R8 o f _ _ h2
  ·exact h2
theorem B6: ∀f S l,Sl l→Sl (Yn L f S l).2
 |0,S,l,h=>by rw[Yn];exact h
 |f+1,S,l,h=>by
  have h2:Sl (l++[⟨(Jq L (JY L S l.length)).s,Qw L S [118,97,114],(Jq L (JY L S l.length)).a⟩]):=h.snoc (AU hO _);rw[Yn]
  split
  ·exact h
  split
  ·exact B6 f _ _ h2
  ·exact h2
theorem zp(S:PS):Sl (YB L S).2:=by
 unfold YB
 split
 ·intro d hd;cases hd
 ·exact B6 hO _ _ _ (fun d hd=>by cases hd)
theorem fM(S:PS):nf (UN L S).2:=⟨AU hO _,zp hO _⟩
theorem iQ(S:PS):Sl (Zs L S).2:=R8 hO _ _ _ _ (fun d hd=>by cases hd)
theorem NZ: ∀f S ds ps,Sl ds→(∀p∈ps,nf p)→Sl (JS L f S ds ps).2.1∧ ∀p∈(JS L f S ds ps).2.2,nf p
 |0,S,ds,ps,h1,h2=>by rw[JS];exact⟨h1,h2⟩
 |f+1,S,ds,ps,h1,h2=>by
  rw[JS]
  split
  ·exact⟨h1,h2⟩
  split
  ·refine NZ f _ _ _ h1 fun p hp=>?_;rcases List.mem_append.1 hp with hp|hp
   ·exact h2 p hp
   ·rw[List.mem_singleton.1 hp];exact fM hO S
  split
  ·refine NZ f _ _ _ (fun d hd=>?_) h2;rcases List.mem_append.1 hd with hd|hd
   ·exact h1 d hd
   ·exact iQ hO S d hd
  ·exact⟨h1,h2⟩
theorem zo:n9 (ZF L).2:=NZ hO _ _ _ _ (fun d hd=>by cases hd) (fun p hp=>by cases hp)
end
theorem zH:n9 zI:=⟨(fun d hd=>by cases hd),(fun p hp=>by cases hp)⟩
theorem wE(l:List Nat):n9 (Y2 l).1:=by
 unfold Y2
 split
 ·exact zH
 ·rename_i h
  split
  ·exact zH
  ·exact zo (Me l Qk).1
theorem Ja.nV{X:List Nat}{c m z:Nat}{ls:List (List AV)}(r:Va h c m ls.flatten)(hz: ∀cs∈ls,cs.length=z)(hX:c∉X)(hb:(ls.length:Int)≤9223372036854775807):Ja h X z ls (.sl c m 0 ls.length z):=
 ⟨rfl,hb,rfl,fun i cs hi=>⟨c,m,0,_,rfl,hX,r,hz cs (List.mem_of_getElem? hi),by rw[Nat.zero_add];exact FD i cs hz hi⟩,fun c' m' off n z' e=>by
  injection e with e1 e2 e3 e4 e5
  subst e1 e2 e3 e4 e5
  exact⟨hX,_,r,by rw[Wv hz];omega⟩⟩
theorem Acc.oC{n0 z:Nat}{A:YO}{ks:AV}{ls:List (List AV)}(hA:Acc n0 z A ks ls)(hx: ∀x∈A,R x.1 x.2.1 x.2.2)(hR:aL R h):Ja h [] z ls ks:=by
 cases hA with
 |none=>exact .nil _ _ _
 |own hc hz hb=>exact Ja.nV (hR _ _ _ (hx _ (List.mem_singleton.2 rfl))) hz Q1 Qk
theorem aO{n0:Nat}{A:YO}{ks:AV}{l:List Dc}(hA:Acc n0 3 A ks (l.map Dc.cells))(hx: ∀x∈A,R x.1 x.2.1 x.2.2)(hR:aL R h)(hb:Sl l):LV h l ks (l.map Dc.cells):=
 ⟨hA.oC hx hR,List.length_map _,fun i k hk=>⟨k.cells,by rw[List.getElem?_map,hk];rfl,rfl,hb k (List.mem_of_getElem? hk)⟩⟩
theorem aU.toR{p:Pd}{cs:List AV}(r:aU R p cs)(hR:aL R h)(hb:nf p):kj h p cs:=by
 obtain⟨kp,o,s,z,a,kk,e,⟨A,hx,n0,hA⟩,hn⟩:=r;exact⟨kp,_,o,s,z,a,kk,e,aO hA hx hR hb.2,hn.GV hR,hb.1⟩
theorem vK.toR{R:KC}{h:Hp}{g:Pg}{cs:List AV}(r:vK R g cs)(hR:aL R h)(hb:n9 g):u5 h g cs:=by
 obtain⟨kd,kp,o,s,z,a,kk,lsp,e,⟨A,hx,n0,hA⟩,⟨A2,hx2,n2,hA2⟩,hl,hP,hn⟩:=r;refine⟨kd,_,kp,lsp,o,s,z,a,kk,e,aO hA hx hR hb.1,⟨hA2.oC hx2 hR,hl,fun i p hi=>?_⟩,hn.GV hR⟩
 have hlt:i<lsp.length:=by rw[hl];exact(List.getElem?_eq_some_iff.1 hi).1
 exact⟨_,List.getElem?_eq_getElem hlt,(hP i p _ hi (List.getElem?_eq_getElem hlt)).toR hR (hb.2 p (List.mem_of_getElem? hi))⟩
theorem nc(h:Hp):aL R0 h:=fun _ _ _ h=>h.elim
end
section
variable {st:St}

theorem IT{P:Program}{G G':Env}{f:FuncId}(hs:G'.s f=some (I2 P G f)){args:List AV}{Q:AV→St→Prop}(h: ∃v st',Ev P G f args st v st'∧Q v st'): ∃v st',Ev P G' f args st v st'∧Q v st':=by
 obtain⟨v,st',h1,h2⟩:=h;exact⟨v,st',xI hs h1,h2⟩
theorem we{ml:A9}{cs:List AV}{g:Pg}(hf:Q3 st)(h0:st.h.get 0=some (Lg ml))(hk:Ll g){tx:List Nat}(ht:tx=QQ (Xk g)): ∃v st',Ev Tryz.prog (OW ml cs g) 7 [.agg cs] st v st'∧v=.str tx∧Qt st st':=by
 subst ht;exact⟨_,st,S6 (sm:=Iz ml cs g) rfl (by unfold Iz;rw[if_pos ⟨rfl,h0,hk⟩]),rfl,Qt.refl hf⟩
theorem KX{ml:A9}{cs:List AV}{g:Pg}(st:St):Ev Tryz.prog (OW ml cs g) 9 [] st (.bool true) st:=S6 rfl rfl
theorem RQ{ps:List Pd}{i:Nat}{q:Pd}(hx: ∀(j:Nat) p,j<i→ps[j]? =some p→YT p.body≤60)(hi:ps[i]? =some q)(hq:YT q.body≤60): ∀(j:Nat) p,j<i+1→ps[j]? =some p→YT p.body≤60:=fun j p hj hp=>by
 by_cases h:j<i
 ·exact hx j p h hp
 ·have h:j=i:=by omega
  subst h;rw[hi]at hp
  injection hp with hp
  rw[←hp];exact hq
theorem jq{g:Pg}(h:Ll g):(QQ (Xk g)).length≤140737488351232:=by
 obtain⟨hB,hz,hzp,hd,hp⟩:=h;unfold Vd at hB;simp only[Bool.and_eq_true]at hB;obtain⟨h1,h2,h3,h4⟩:=hB;have k1:=Ib _ h1;have k2:=Hw _ h2 hzp;have k3:=UJ h4 hz;rw[Bu];simp only[List.length_append,List.length_cons,List.length_nil];omega
theorem zn(l:List Nat): ∃ds ps o s z a k,(Y2 l).1=⟨ds,ps,.mk o s z a k⟩:=by
 obtain⟨ds,ps,⟨o,s,z,a,k⟩⟩:=(Y2 l).1;exact⟨ds,ps,o,s,z,a,k,rfl⟩

theorem DQ{ml:A9}{ds:List Dc}{ps:List Pd}{o s:List Nat}{z a:Int}{l:List Nd}{cs:List AV}(hf:Q3 st)(hr:u5 st.h.get ⟨ds,ps,.mk o s z a l⟩ cs)(h0:st.h.get 0=some (Lg ml))(hpos:0<st.n): ∃v st',Ev Tryz.prog (OW ml cs ⟨ds,ps,.mk o s z a l⟩) 3 [.agg cs] st v st'∧v=.bool true:=by
 have hr0:=hr;obtain⟨kd,ld,kp,lp,o,s,z,a,kk,rfl,hD,hP,hn⟩:=hr0;obtain⟨kx,ls,ex,hK,hb⟩:=hn.J3
 injection ex with x1 x;injection x with x2 x;injection x with x3 x;injection x with x4 x;injection x with x5 x
 injection x1 with x1;injection x2 with x2;injection x3 with _ x3;injection x4 with _ x4
 subst x1 x2 x3 x4 x5;replace hD:LV st.h.get ds kd ld:=hD;replace hP:ak st.h.get ps kp lp:=hP;replace hn:XW st.h.get (.mk o s z a l) _:=hn;have hbk:=hK.W9;have hbd:=hD.W9;have hbp:=hP.W9;have hlp:=hP.ln;refine XB Tryz.func3 Tryz.ntmps3 fun T K=>?_;have M:=Mem.start hf;refine Qg 0 K M fun _ K=>?_;refine Y8 K M rfl (Qa hD.cell (Qa hP.cell (Qa rfl (Qa rfl (Qa rfl (Qa rfl (Qa hK.cell QV))))))) Qo fun c1 _ _ K M=>?_;refine Qg 3 K M fun _ K=>?_;refine p1 K (Jp UO rfl rfl hD.len) fun _ K=>?_;refine Qg 1 K M fun _ K=>?_;refine No K rfl (fun _ e11 K=>?_) fun _ e11 K=>?_
 · refine Qg 2 K M fun _ K=>?_;refine pg K rfl rfl (Jp Yq rfl rfl hP.len) fun _ K=>?_;refine Qg 2 K M fun _ K=>?_;refine No K rfl (fun _ e17 K=>?_) fun _ e17 K=>?_
   · refine Qg 2 K M fun _ K=>?_;obtain⟨v20,st20,ev20,rfl,q20⟩:=IT (G':=OW ml [kd,kp,.str o,.str s,iZ z,iZ a,kk] ⟨ds,ps,.mk o s z a l⟩) rfl (NV M.fresh (hn.mono M.rows));refine pg K rfl rfl (Qh rfl ev20) fun _ K=>?_;replace M:=M.quiet q20;refine Qg 2 K M fun _ K=>?_;refine WU K rfl (fun h22=>?_) fun h22=>?_
     · refine Qg 1 K M ?_
       first
        |rfl
        |(simp_all;done)
        |(exfalso;simp_all;done)
        |(exfalso;omega)
     refine Qg 1 K M fun _ K=>?_;refine UE (fun mm1 T st9=> ∃(i:Nat),mm1=ps.length-i∧Jn [(1,.ptr c1 0 0),(3,iN i)] T∧Mem st.h.get st.n [] st9 [(c1,0,[kd,kp,.str o,.str s,iZ z,iZ a,kk])]∧i≤ps.length∧ ∀(j:Nat) p,j<i→ps[j]? =some p→YT p.body≤60) (fun mm1 T st9 hI=>?_) _ _ _ ⟨0,rfl,(K.sub rfl),M.less (.refl _),(Nat.zero_le _),(fun j p h=>absurd h (Nat.not_lt_zero _))⟩;obtain⟨i,rfl,K,M,hi,hx⟩:=hI;refine Qg 3 K M fun _ K=>?_;refine p1 K (Jp Yq rfl rfl hP.len) fun _ K=>?_;refine Qg 1 K M fun _ K=>?_;refine WU K rfl (fun h27=>?_) fun h27=>?_
     · refine Qg 3 K M fun _ K=>?_;obtain⟨⟨pn33,pp33,⟨_,_,_,_,l33⟩,pa33⟩,hi33⟩: ∃k,ps[i]? =some k:=⟨_,List.getElem?_eq_getElem Qk⟩;have hm33:=FC hi33;obtain⟨_,hc33,hP33⟩:=hP.at_ _ _ hi33;have hP330:=hP33;obtain⟨kd33,ld33,o33,s33,z33,a33,kk33,rfl,hD33,hn33,hy33⟩:=hP330;obtain⟨kx33,ls33,ex33,hK33,hb33⟩:=hn33.J3
       injection ex33 with x1 x;injection x with x2 x;injection x with x3 x;injection x with x4 x;injection x with x5 x
       injection x1 with x1;injection x2 with x2;injection x3 with _ x3;injection x4 with _ x4
       subst x1 x2 x3 x4 x5;replace hD33:LV st.h.get pp33 kd33 ld33:=hD33;replace hn33:XW st.h.get (.mk o33 s33 z33 a33 l33) _:=hn33;replace hy33:Bytes pn33:=hy33;have hl33:=hK33.W9;have hd33:=hD33.W9;obtain⟨x33,m33,f33,q33,_,la33,lo33,lp33⟩:=(hP.r.mem M Q1).load (i:=i) (cs:=_) hc33;refine p1 K (Qp (j:=i) Vx (congrArg some q33) rfl (by rw[hP.ln];omega)) fun _ K=>?_;refine Qg 1 K M fun _ K=>?_;refine p1 K (QK rfl (lp33 _ 2 _ Qs Qo)) fun _ K=>?_;refine oQ K M (IT (G':=OW ml [kd,kp,.str o,.str s,iZ z,iZ a,kk] ⟨ds,ps,.mk o s z a l⟩) rfl (NV M.fresh (hn33.mono M.rows))) rfl rfl fun _ _ K M=>?_;refine Qg 1 K M fun _ K=>?_;refine WU K rfl (fun h37=>?_) fun h37=>?_
       · refine Qg 1 K M ?_
         first
          |rfl
          |(simp_all;done)
          |(exfalso;simp_all;done)
          |(exfalso;omega)
       refine Qg 3 K M fun _ K=>?_;exact⟨_,Qk,i+1,rfl,(K.sub rfl),M.less (.refl _),Qk,(RQ hx hi33 (by show YT (.mk o33 s33 z33 a33 l33)≤60;omega))⟩
     refine Uz ?_;show W _ _ _ _ _ _ _;refine Qg 1 K M fun _ K=>?_;refine oQ K M (IT (G':=OW ml [kd,kp,.str o,.str s,iZ z,iZ a,kk] ⟨ds,ps,.mk o s z a l⟩) rfl (fL M.fresh (hr.mono M.rows))) rfl rfl fun _ _ K M=>?_;refine Qg 1 K M fun _ K=>?_;refine Zb K rfl (fun h40=>?_) fun h40=>?_
     · have hb40:=h40
       replace h40:(Vd ⟨ds,ps,.mk o s z a l⟩)=false:=by simpa using h40
       refine Qg 1 K M ?_
       first
        |rfl
        |(simp_all;done)
        |(exfalso;simp_all;done)
        |(exfalso;omega)
     have hb40:=h40
     replace h40:(Vd ⟨ds,ps,.mk o s z a l⟩)=true:=by simpa using h40
     refine Qg 0 K M fun _ K=>?_
     have hPB:Vd ⟨ds,ps,.mk o s z a l⟩=true:=by simpa using hb40
     have hall: ∀p∈ps,YT p.body≤1000:=fun p hp=>by
       obtain⟨j,hj⟩:=List.getElem?_of_mem hp;have h9:=(List.getElem?_eq_some_iff.1 hj).1;have h8:=hx j p Qk hj;omega
     have hok:Ll ⟨ds,ps,.mk o s z a l⟩:=⟨hPB,by show YT (.mk o s z a l)≤1000;omega,hall,by show ds.length≤10;omega,by show ps.length≤5;omega⟩;obtain⟨hw0,hrs⟩:=fO hPB;have htl:(QQ (Xk ⟨ds,ps,.mk o s z a l⟩)).length≤140737488351232:=jq hok;obtain⟨tx,htx⟩: ∃tx,tx=QQ (Xk ⟨ds,ps,.mk o s z a l⟩):=⟨_,rfl⟩;rw[←htx]at hw0 hrs htl;obtain⟨ds0,ps0,o0,s0,z0,a0,l0,hg⟩:=zn tx;have hgB:=wE tx;rw[hg]at hgB;have hE:(Y2 tx).2.2=3∨(Y2 tx).2.2=4∨(Y2 tx).2.2=0:=hrs.imp id fun h=>h.imp id fun h=>h.1
     have hsm:(Y2 tx).2.2=0→NP ⟨ds,ps,.mk o s z a l⟩ ⟨ds0,ps0,.mk o0 s0 z0 a0 l0⟩=true:=fun h0=>by
       rcases hrs with h|h|h
       · omega
       · omega
       · rw[←hg];exact h.2
     refine Qg 1 K M fun _ K=>?_;refine oQ K M (we (cs:=[kd,kp,.str o,.str s,iZ z,iZ a,kk]) M.fresh ((M.qt.old 0 hpos).trans h0) hok htx) rfl rfl fun _ _ K M=>?_;obtain⟨v44,st44,ev44,cs44,rfl,⟨A44,hS44,hW44⟩,q44⟩:=IT (G':=OW ml [kd,kp,.str o,.str s,iZ z,iZ a,kk] ⟨ds,ps,.mk o s z a l⟩) rfl (jl M.fresh tx htl hw0);refine p1 K (Qh rfl ev44) fun _ K=>?_;replace M:=M.eV q44 hS44;rw[hg]at hW44;have hw44:=hW44;obtain⟨kd44,kp44,oP44,sP44,zP44,aP44,kk44,lsp44,rfl,⟨Ad44,hxd44,nd44,hAd44⟩,⟨Ap44,hxp44,np44,hAp44⟩,hlp44,hPA44,hN44⟩:=hw44;simp only[oJ]at M;refine au 5 K M ?_;intro c4 _ _ K _ M;refine Jr (k:=0) K M rfl rfl rfl X3 rfl (Qa hAd44.cell (Qa hAp44.cell (Qa rfl (Qa rfl (Qa rfl (Qa rfl (Qa hN44.JV QV))))))) rfl fun _ M=>?_;refine Qg 4 K M fun _ K=>?_;refine No K rfl (fun _ e50 K=>?_) fun _ e50 K=>?_
     · refine Qg 3 K M fun _ K=>?_;refine No K rfl (fun _ e54 K=>?_) fun _ e54 K=>?_
       · refine Qg 2 K M fun _ K=>?_;refine nY K rfl rfl (Q7 rfl) rfl (fun _ e57 K=>?_) fun _ e57 K=>?_
         · exfalso;omega
         refine Qg 2 K M fun _ K=>?_;obtain⟨v60,st60,ev60,rfl,q60⟩:=IT (G':=OW ml [kd,kp,.str o,.str s,iZ z,iZ a,kk] ⟨ds,ps,.mk o s z a l⟩) rfl (Pm M.fresh (hr.mono M.rows) (hW44.toR (M.oi (nc _) (fun x hx=>by simp[hx])) hgB) (hsm Qk));refine pg K rfl rfl (Qh rfl ev60) fun _ K=>?_;replace M:=M.quiet q60;refine Qg 3 K M fun _ K=>?_;have ev64:= @KX ml [kd,kp,.str o,.str s,iZ z,iZ a,kk] ⟨ds,ps,.mk o s z a l⟩;refine pg K rfl rfl (Qh rfl (ev64 _)) fun _ K=>?_;refine Qg 2 K M ?_
         first
          |rfl
          |(simp_all;done)
          |(exfalso;simp_all;done)
          |(exfalso;omega)
       refine Qg 9 K M fun _ K=>?_;have ev64:= @KX ml [kd,kp,.str o,.str s,iZ z,iZ a,kk] ⟨ds,ps,.mk o s z a l⟩;refine pg K rfl rfl (Qh rfl (ev64 _)) fun _ K=>?_;refine Qg 2 K M ?_
       first
        |rfl
        |(simp_all;done)
        |(exfalso;simp_all;done)
        |(exfalso;omega)
     refine Qg 13 K M fun _ K=>?_;have ev64:= @KX ml [kd,kp,.str o,.str s,iZ z,iZ a,kk] ⟨ds,ps,.mk o s z a l⟩;refine pg K rfl rfl (Qh rfl (ev64 _)) fun _ K=>?_;refine Qg 2 K M ?_
     first
      |rfl
      |(simp_all;done)
      |(exfalso;simp_all;done)
      |(exfalso;omega)
   refine Qg 7 K M ?_
   first
    |rfl
    |(simp_all;done)
    |(exfalso;simp_all;done)
    |(exfalso;omega)
 refine Qg 13 K M ?_
 first
  |rfl
  |(simp_all;done)
  |(exfalso;simp_all;done)
  |(exfalso;omega)
end
section

theorem Gy{H:Type}{enc:TypeId×Value→H}{W:World}{v0:Value}{d0:DataW H}{p0:List MemPlace}(h0:DataW.Trod enc Tryz.prog W 0 (fun _=>true) true 28 v0 d0 p0)(hT:Lk W∧VC W):
  Calls Tryz.prog 3 #[v0] W fun e w'=>e=.returned (.bool true)∧Below W.heap.size W w':=by
 obtain⟨ml1,cs,⟨ds,ps,⟨o,s,z,a,l⟩⟩,_,hM1,hk,hw,hc⟩:=Ty Xn.nil h0
 have:=jx (G:=OW ml1 cs ⟨ds,ps,.mk o s z a l⟩) (fun _=>rfl) (eK hM1 hw hk) mixed (f:=3) (args:=[.agg cs]) hM1 ⟨hw,trivial⟩
  (DQ (Em ml1) (by rw[WL];exact hk) (by rw[WL];rfl) (Nat.lt_succ_self 0)) hT
 rw[show Qn (Oe ml1) [.agg cs]=[v0] by rw[←hc];rfl]at this;exact this
end
end Go.Proofs.YthjgndgnmkiaiaaGreatDoor
