/-
  Kinds of formulas and programs: the reference's answer.
-/
import Derived.Test.YtadjjadimlkkgaaGreatDoorKtKnJ
set_option linter.unnecessarySimpa false
set_option linter.unusedSimpArgs false
set_option linter.unusedVariables false
namespace Go.Proofs.YtadjjadimlkkgaaGreatDoor
open Go Go.RowKit
set_option maxHeartbeats 8000000
set_option maxRecDepth 100000

def Xd(op:List Nat):Int×Int:=if op=[101,113]∨op=[110,101]then(0,0)else U2 op
theorem Vn{sc:List Dc}{op:List Nat}{a w1 w2:Int}{k j:Nd}(h:Xd op=(w1,w2)):UQ sc op a k j=Y6 sc a w1 w2 k j:=by
 unfold UQ Y6
 split
 ·rfl
 split
 ·rfl
 unfold Xd at h
 by_cases he:op=[101,113]∨op=[110,101]
 ·rw[if_pos he]at h
  injection h with h1 h2
  subst h1 h2;rw[if_pos he,if_pos rfl];have:=OO sc k
  by_cases hq:(Q0 sc k).1=(Q0 sc j).1∧0<(Q0 sc k).1
  ·rw[if_pos hq,if_pos ⟨hq.1,by omega⟩]
  ·rw[if_neg hq,if_neg (by rintro⟨h1,h2⟩;exact hq ⟨h1,by omega⟩)]
 ·rw[if_neg he]at h;rw[if_neg he,h]
  have hw:w1≠0:=by
   unfold U2 at h
   split at h
   ·injection h with h1 h2;omega
   split at h
   ·injection h with h1 h2;omega
   ·injection h with h1 h2;omega
  rw[if_neg hw]
  by_cases hq:(Q0 sc k).1=w1∧(Q0 sc j).1=w2
  ·rw[if_pos hq,if_pos (by rw[hq.1,hq.2])]
  ·rw[if_neg hq,if_neg (by rintro h1;injection h1 with h1 h2;exact hq ⟨h1,h2⟩)]
theorem Bi{o s:List Nat}{z a:Int}{l:List Nd}(h:Jm (.mk o s z a l)=true)(ho:o=[101,120]∨o=[97,108,108]):0≤z:=by
 rw[J0]at h
 rcases ho with rfl|rfl<;>simp[oneOf,Jc]at h<;>omega
theorem Kb{ds:List Dc}{ps:List Pd}{m:Nd}(h:XS ⟨ds,ps,m⟩=true): ∀d∈ds,0≤d.order:=by
 rw[Zy]at h;simp only[Bool.and_eq_true,List.all_eq_true]at h;intro d hd;have:=h.1 d hd;simp[UZ]at this;omega
theorem Kc{n:List Nat}{pp:List Dc}{b:Nd}{z:Int}(h:Xc ⟨n,pp,b,z⟩=true): ∀d∈pp,0≤d.order:=by
 rw[ZN]at h;simp only[Bool.and_eq_true,List.all_eq_true]at h;intro d hd
 have h2:UZ d=true:=by first|exact h.2.1 d hd|exact h.2.2.1 d hd|exact h.1.2 d hd|exact h.1.1.2 d hd|exact h.1.2.1 d hd|exact h.1.1.2.1 d hd
 simp[UZ]at h2;omega
theorem Ld{st:St}(hf:Q3 st){l:List Dc}{kd:AV}{ld:List (List AV)}(hD:Yo st.h.get l kd ld)(ho: ∀d∈l,0≤d.order): ∃v st',Ev Tryz.prog Jg 48 [kd] st v st'∧v=.tup [.int .i64 (ua (J2 [] l)),.bool (J2 [] l).isSome]∧Qt st st':=by
 obtain⟨v,st',h,rfl,q⟩:=Px hf hD ho
 exact⟨_,_,h,by cases J2 [] l<;>rfl,q⟩
theorem Ti{α:Type}{p:α→Bool}{l:List α}(h:0≤VL p l 0):l.any p=true:=by
 rcases Fk p l 0 with⟨h1,_⟩|⟨j,k,_,h2,h3⟩
 ·omega
 ·exact List.any_eq_true.2 ⟨k,List.mem_of_getElem? h2,List.find?_some h3⟩
theorem OS{α:Type}{p:α→Bool}{l:List α}(h: ¬0≤VL p l 0):l.any p=false:=by
 rcases Fk p l 0 with⟨_,h1⟩|⟨j,k,h1,_,_⟩
 ·rw[List.any_eq_false];exact fun x hx=>List.find?_eq_none.1 h1 x hx
 ·omega
theorem Sv{ps:List Pd}{n:List Nat}{pp:List Dc}{b:Nd}{z:Int}(h:(ps.any fun p=>decide (p.name=n))=true):Ao ps ⟨n,pp,b,z⟩=(z,6):=by rw[Ao,if_pos h]
theorem MA{ps:List Pd}{n:List Nat}{pp:List Dc}{b:Nd}{z a:Int}(h:(ps.any fun p=>decide (p.name=n))=false)(h2:J2 [] pp=some a):Ao ps ⟨n,pp,b,z⟩=(a,6):=by
 rw[Ao,if_neg (by rw[h];decide)];show(match J2 [] pp with|some a=>(a,6)|none=>UJ ps b pp)=_;rw[h2]
theorem Dy{ps:List Pd}{n:List Nat}{pp:List Dc}{b:Nd}{z:Int}(h:(ps.any fun p=>decide (p.name=n))=false)(h2:J2 [] pp=none):Ao ps ⟨n,pp,b,z⟩=UJ ps b pp:=by
 rw[Ao,if_neg (by rw[h];decide)];show(match J2 [] pp with|some a=>(a,6)|none=>UJ ps b pp)=_;rw[h2]

theorem NO{ps:List Pd}{kp:AV}{lp:List (List AV)}(x:Nd): ∀(sc:List Dc) (kd:AV) (ld:List (List AV)) (st:St) (cs:List AV),Q3 st→EE st.h.get ps kp lp→Yo st.h.get sc kd ld→YW st.h.get x cs→Jm x=true→(∀d∈sc,0≤d.order)→sc.length+Fe x≤1000000→ ∃v st',Ev Tryz.prog Jg 50 [kp,kd,.agg cs] st v st'∧v=pT (UJ ps x sc)∧Qt st st':=by
 refine VJ (M:=fun x=> ∀(sc:List Dc) (kd:AV) (ld:List (List AV)) (st:St) (cs:List AV),Q3 st→EE st.h.get ps kp lp→Yo st.h.get sc kd ld→YW st.h.get x cs→Jm x=true→(∀d∈sc,0≤d.order)→sc.length+Fe x≤1000000→ ∃v st',Ev Tryz.prog Jg 50 [kp,kd,.agg cs] st v st'∧v=pT (UJ ps x sc)∧Qt st st') (fun o s z a l ih=>?_) x;intro sc kd ld st cs hf hP hD hr ht hod hsz;have hr0:=hr;obtain⟨kk,ls,rfl,hK,hb⟩:=hr.Ju;have hln:=hK.ln;have hbn:=hK.Yx;rw[Fe]at hsz;have hlD:=hD.ln;refine QG rfl Tryz.func50 rfl Tryz.ntmps50 rfl fun T hT=>?_;have K:Jk [(0,_),(1,_),(2,_)] T:=(.cons (hT 0) (.cons (hT 1) (.cons (hT 2) .nil)));have M:=Mem.start hf;refine Qw<|Qi ?_;refine JL K M rfl (Qa rfl (Qa rfl (Qa rfl (Qa rfl (Qa hK.cell QE))))) (by decide) fun c5 _ _ K M=>?_;refine o1 K (Qu rfl) rfl fun _ K=>o1 K (Qu rfl) rfl fun _ K=>Q5 ?_;show W _ _ _ _ _ _ _;refine X7 (J:=fun T st9=> ∃(kd2:AV) (sc2:List Dc) (ld2:List (List AV)) (A2:List (Nat×Nat×List AV)),Jk [(0,kp),(1,kd2),(5,.ptr c5 0 0)] T∧Mem st.h.get st.n [] st9 ((c5,0,[.str o,.str s,.int .i64 z,.int .i64 a,kk])::(A2++[]))∧(Acc st.n 3 A2 kd2 ld2∨(A2=[]∧J8 st.h.get [] 3 ld2 kd2))∧jl sc2 ld2∧sc2=(if o=[101,120]∨o=[97,108,108]then sc++[⟨s,z,0⟩]else sc)∧(o≠[105,115]∧o≠[99,97,108,108]∧UE o=false)) ?_ (fun T st9 hJ=>?_)
 ·refine Qc 2 K M ?_;intro _ K;refine o1 K (QD (b:=[105,115]) rfl rfl) rfl fun _ K=>?_;refine Qc 1 K M ?_;intro _ K;refine YX K rfl (fun h14=>?_) fun h14=>?_
  ·refine Qc 3 K M ?_;intro _ K;refine oQ K M (NM M.fresh (Yo.mono M.rows hD) s) rfl rfl fun _ _ K M=>?_;refine Qc 3 K M ?_;intro _ K;refine YX K rfl (fun h21=>?_) fun h21=>?_
   ·refine Qc 4 K M ?_;intro _ K;refine Qd ⟨.inr rfl,_,Zm K rfl rfl,?_⟩;refine⟨congrArg pT (a₁:=(a,5)) (a₂:=UJ ps (.mk o s z a l) sc) (Eq.symm ?_),M.qt⟩;have hge:=IB sc s hod;refine(U4 ..).trans ((if_pos (by assumption)).trans (if_pos (by omega)))
   refine Qc 2 K M ?_;intro _ K;refine IU K rfl (fun h25=>?_) fun h25=>?_
   ·refine Qc 4 K M ?_;intro _ K;refine Qd ⟨.inr rfl,_,Zm K rfl rfl,?_⟩;refine⟨congrArg pT (a₁:=(a,7)) (a₂:=UJ ps (.mk o s z a l) sc) (Eq.symm ?_),M.qt⟩;have hge:=IB sc s hod;refine(U4 ..).trans ((if_pos (by assumption)).trans ((if_neg (by omega)).trans (if_neg (by omega))))
   refine Qc 2 K M ?_;intro _ K;refine Qd ⟨.inr rfl,_,Zm K rfl rfl,?_⟩;refine⟨congrArg pT (a₁:=(0,0)) (a₂:=UJ ps (.mk o s z a l) sc) (Eq.symm ?_),M.qt⟩;have hge:=IB sc s hod;refine(U4 ..).trans ((if_pos (by assumption)).trans ((if_neg (by omega)).trans (if_pos (by omega))))
  refine Qw<|Qw<|Qi<|o1 K (QD (b:=[101,113]) rfl rfl) rfl fun _ K=>?_;refine Qc 1 K M ?_;intro _ K;refine Qj (K.QN rfl) (fun h28=>?_) (fun h28=>?_)
  ·have hb28:=h28;replace h28:=of_decide_eq_true h28;refine QO ?_;show W _ _ _ _ _ _ _;refine Qj (t:=true) ((K.QN rfl).trans (congrArg (fun b=>some (AV.bool b)) hb28)) (fun _=>?_) (fun h=>by cases h);refine Qc 2 K M ?_;intro _ K;obtain⟨k,j,hl2,hTm⟩:=US ht (by unfold UE;simp_all [oneOf])
   have hw:Xd o=(0,0):=by unfold Xd U2;simp_all
   obtain⟨v33,st33,ev33,rfl,q33⟩:=FL M.fresh (Yo.mono M.rows hD) (hr0.mono M.rows) hl2 hTm 0 0;refine o1 K (Qg rfl ev33) rfl fun _ K=>?_;replace M:=M.quiet q33;refine Qc 4 K M ?_;intro _ K;refine Qd ⟨.inr rfl,_,Zm K rfl rfl,?_⟩;refine⟨congrArg pT (a₁:=((Y6 sc a 0 0 k j).1,(Y6 sc a 0 0 k j).2)) (a₂:=UJ ps (.mk o s z a l) sc) (Eq.symm ?_),M.qt⟩;refine(U4 ..).trans ((if_neg (by simp_all)).trans ((if_neg (by simp_all)).trans ((if_pos (by unfold UE;simp_all [oneOf])).trans ?_)));rw[hl2];exact Vn hw
  have hb28:=h28;replace h28:=of_decide_eq_false h28;refine Qi<|o1 K (QD (b:=[110,101]) rfl rfl) rfl fun _ K=>?_;refine Qc 1 K M ?_;intro _ K;refine Qj (K.QN rfl) (fun h28=>?_) (fun h28=>?_)
  ·have hb28:=h28;replace h28:=of_decide_eq_true h28;refine Qc 2 K M ?_;intro _ K;obtain⟨k,j,hl2,hTm⟩:=US ht (by unfold UE;simp_all [oneOf])
   have hw:Xd o=(0,0):=by unfold Xd U2;simp_all
   obtain⟨v33,st33,ev33,rfl,q33⟩:=FL M.fresh (Yo.mono M.rows hD) (hr0.mono M.rows) hl2 hTm 0 0;refine o1 K (Qg rfl ev33) rfl fun _ K=>?_;replace M:=M.quiet q33;refine Qc 4 K M ?_;intro _ K;refine Qd ⟨.inr rfl,_,Zm K rfl rfl,?_⟩;refine⟨congrArg pT (a₁:=((Y6 sc a 0 0 k j).1,(Y6 sc a 0 0 k j).2)) (a₂:=UJ ps (.mk o s z a l) sc) (Eq.symm ?_),M.qt⟩;refine(U4 ..).trans ((if_neg (by simp_all)).trans ((if_neg (by simp_all)).trans ((if_pos (by unfold UE;simp_all [oneOf])).trans ?_)));rw[hl2];exact Vn hw
  have hb28:=h28;replace h28:=of_decide_eq_false h28;refine Qw<|Qw<|Qi<|o1 K (QD (b:=[108,116]) rfl rfl) rfl fun _ K=>?_;refine Qc 1 K M ?_;intro _ K;refine Qj (K.QN rfl) (fun h36=>?_) (fun h36=>?_)
  ·have hb36:=h36;replace h36:=of_decide_eq_true h36;refine QO ?_;show W _ _ _ _ _ _ _;refine Qj (t:=true) ((K.QN rfl).trans (congrArg (fun b=>some (AV.bool b)) hb36)) (fun _=>?_) (fun h=>by cases h);refine Qc 2 K M ?_;intro _ K;obtain⟨k,j,hl2,hTm⟩:=US ht (by unfold UE;simp_all [oneOf])
   have hw:Xd o=(1,1):=by unfold Xd U2;simp_all
   obtain⟨v41,st41,ev41,rfl,q41⟩:=FL M.fresh (Yo.mono M.rows hD) (hr0.mono M.rows) hl2 hTm 1 1;refine o1 K (Qg rfl ev41) rfl fun _ K=>?_;replace M:=M.quiet q41;refine Qc 4 K M ?_;intro _ K;refine Qd ⟨.inr rfl,_,Zm K rfl rfl,?_⟩;refine⟨congrArg pT (a₁:=((Y6 sc a 1 1 k j).1,(Y6 sc a 1 1 k j).2)) (a₂:=UJ ps (.mk o s z a l) sc) (Eq.symm ?_),M.qt⟩;refine(U4 ..).trans ((if_neg (by simp_all)).trans ((if_neg (by simp_all)).trans ((if_pos (by unfold UE;simp_all [oneOf])).trans ?_)));rw[hl2];exact Vn hw
  have hb36:=h36;replace h36:=of_decide_eq_false h36;refine Qi<|o1 K (QD (b:=[108,101]) rfl rfl) rfl fun _ K=>?_;refine Qc 1 K M ?_;intro _ K;refine Qj (K.QN rfl) (fun h36=>?_) (fun h36=>?_)
  ·have hb36:=h36;replace h36:=of_decide_eq_true h36;refine Qc 2 K M ?_;intro _ K;obtain⟨k,j,hl2,hTm⟩:=US ht (by unfold UE;simp_all [oneOf])
   have hw:Xd o=(1,1):=by unfold Xd U2;simp_all
   obtain⟨v41,st41,ev41,rfl,q41⟩:=FL M.fresh (Yo.mono M.rows hD) (hr0.mono M.rows) hl2 hTm 1 1;refine o1 K (Qg rfl ev41) rfl fun _ K=>?_;replace M:=M.quiet q41;refine Qc 4 K M ?_;intro _ K;refine Qd ⟨.inr rfl,_,Zm K rfl rfl,?_⟩;refine⟨congrArg pT (a₁:=((Y6 sc a 1 1 k j).1,(Y6 sc a 1 1 k j).2)) (a₂:=UJ ps (.mk o s z a l) sc) (Eq.symm ?_),M.qt⟩;refine(U4 ..).trans ((if_neg (by simp_all)).trans ((if_neg (by simp_all)).trans ((if_pos (by unfold UE;simp_all [oneOf])).trans ?_)));rw[hl2];exact Vn hw
  have hb36:=h36;replace h36:=of_decide_eq_false h36;refine Qw<|Qw<|Qi<|o1 K (QD (b:=[105,110]) rfl rfl) rfl fun _ K=>?_;refine Qc 1 K M ?_;intro _ K;refine Qj (K.QN rfl) (fun h44=>?_) (fun h44=>?_)
  ·have hb44:=h44;replace h44:=of_decide_eq_true h44;refine QO ?_;show W _ _ _ _ _ _ _;refine Qj (t:=true) ((K.QN rfl).trans (congrArg (fun b=>some (AV.bool b)) hb44)) (fun _=>?_) (fun h=>by cases h);refine Qc 2 K M ?_;intro _ K;obtain⟨k,j,hl2,hTm⟩:=US ht (by unfold UE;simp_all [oneOf])
   have hw:Xd o=(1,2):=by unfold Xd U2;simp_all
   obtain⟨v49,st49,ev49,rfl,q49⟩:=FL M.fresh (Yo.mono M.rows hD) (hr0.mono M.rows) hl2 hTm 1 2;refine o1 K (Qg rfl ev49) rfl fun _ K=>?_;replace M:=M.quiet q49;refine Qc 4 K M ?_;intro _ K;refine Qd ⟨.inr rfl,_,Zm K rfl rfl,?_⟩;refine⟨congrArg pT (a₁:=((Y6 sc a 1 2 k j).1,(Y6 sc a 1 2 k j).2)) (a₂:=UJ ps (.mk o s z a l) sc) (Eq.symm ?_),M.qt⟩;refine(U4 ..).trans ((if_neg (by simp_all)).trans ((if_neg (by simp_all)).trans ((if_pos (by unfold UE;simp_all [oneOf])).trans ?_)));rw[hl2];exact Vn hw
  have hb44:=h44;replace h44:=of_decide_eq_false h44;refine Qi<|o1 K (QD (b:=[110,111,116,105,110]) rfl rfl) rfl fun _ K=>?_;refine Qc 1 K M ?_;intro _ K;refine Qj (K.QN rfl) (fun h44=>?_) (fun h44=>?_)
  ·have hb44:=h44;replace h44:=of_decide_eq_true h44;refine Qc 2 K M ?_;intro _ K;obtain⟨k,j,hl2,hTm⟩:=US ht (by unfold UE;simp_all [oneOf])
   have hw:Xd o=(1,2):=by unfold Xd U2;simp_all
   obtain⟨v49,st49,ev49,rfl,q49⟩:=FL M.fresh (Yo.mono M.rows hD) (hr0.mono M.rows) hl2 hTm 1 2;refine o1 K (Qg rfl ev49) rfl fun _ K=>?_;replace M:=M.quiet q49;refine Qc 4 K M ?_;intro _ K;refine Qd ⟨.inr rfl,_,Zm K rfl rfl,?_⟩;refine⟨congrArg pT (a₁:=((Y6 sc a 1 2 k j).1,(Y6 sc a 1 2 k j).2)) (a₂:=UJ ps (.mk o s z a l) sc) (Eq.symm ?_),M.qt⟩;refine(U4 ..).trans ((if_neg (by simp_all)).trans ((if_neg (by simp_all)).trans ((if_pos (by unfold UE;simp_all [oneOf])).trans ?_)));rw[hl2];exact Vn hw
  have hb44:=h44;replace h44:=of_decide_eq_false h44;refine Qw<|Qi<|o1 K (QD (b:=[115,117,98]) rfl rfl) rfl fun _ K=>?_;refine Qc 1 K M ?_;intro _ K;refine YX K rfl (fun h52=>?_) fun h52=>?_
  ·refine Qc 2 K M ?_;intro _ K;obtain⟨k,j,hl2,hTm⟩:=US ht (by unfold UE;simp_all [oneOf])
   have hw:Xd o=(2,2):=by unfold Xd U2;simp_all
   refine oQ K M (FL M.fresh (Yo.mono M.rows hD) (hr0.mono M.rows) hl2 hTm 2 2) rfl rfl fun _ _ K M=>?_;refine Qc 4 K M ?_;intro _ K;refine Qd ⟨.inr rfl,_,Zm K rfl rfl,?_⟩;refine⟨congrArg pT (a₁:=((Y6 sc a 2 2 k j).1,(Y6 sc a 2 2 k j).2)) (a₂:=UJ ps (.mk o s z a l) sc) (Eq.symm ?_),M.qt⟩;refine(U4 ..).trans ((if_neg (by simp_all)).trans ((if_neg (by simp_all)).trans ((if_pos (by unfold UE;simp_all [oneOf])).trans ?_)));rw[hl2];exact Vn hw
  refine Qw<|Qi<|o1 K (QD (b:=[99,97,108,108]) rfl rfl) rfl fun _ K=>?_;refine Qc 1 K M ?_;intro _ K;refine YX K rfl (fun h59=>?_) fun h59=>?_
  ·refine Qc 3 K M ?_;intro _ K;refine oQ K M (Sq M.fresh (EE.mono M.rows hP) (Yo.mono M.rows hD) (hr0.mono M.rows) (LC (by first|exact(‹o=[99,97,108,108]›▸ht)|(rw[←h59];exact ht)))) rfl rfl fun _ _ K M=>?_;refine Qc 4 K M ?_;intro _ K;refine Qd ⟨.inr rfl,_,Zm K rfl rfl,?_⟩;refine⟨congrArg pT (a₁:=((Z0 ps sc s a l).1,(Z0 ps sc s a l).2)) (a₂:=UJ ps (.mk o s z a l) sc) (Eq.symm ?_),M.qt⟩;exact(U4 ..).trans ((if_neg (by simp_all)).trans (if_pos (by assumption)))
  refine Qw<|Qw<|Qi<|o1 K (QD (b:=[101,120]) rfl rfl) rfl fun _ K=>?_;refine Qc 1 K M ?_;intro _ K;refine Qj (K.QN rfl) (fun h67=>?_) (fun h67=>?_)
  ·have hb67:=h67;replace h67:=of_decide_eq_true h67;refine QO ?_;show W _ _ _ _ _ _ _;refine Qj (t:=true) ((K.QN rfl).trans (congrArg (fun b=>some (AV.bool b)) hb67)) (fun _=>?_) (fun h=>by cases h);refine Jr (l:=[(0,0),(1,0),(2,0),(3,0),(4,1),(5,0),(6,1),(7,0),(8,0),(9,0),(10,0)]) (by kernel_rfl) ?_;have Mq:=M;refine X6 rfl K M QY Up rfl rfl rfl rfl rfl fun c70 _ _ K M=>?_;refine d1 rfl K (Qb rfl) rfl rfl fun _ K=>?_;replace M:=Mem.cast (M':=((c5,0,[.str o,.str s,.int .i64 z,.int .i64 a,kk])::([(c70,0,[])]++[]))) (Mem.perm M (List.perm_append_comm (α:=Nat×Nat×List AV) (l₁:=[(c70,0,[])]) (l₂:=[(c5,0,[.str o,.str s,.int .i64 z,.int .i64 a,kk])]))) (by first|(simp only[List.append_assoc,List.cons_append,List.nil_append,List.append_nil,List.set_cons_zero,List.set_cons_succ];done)|(simp only[List.append_assoc,List.cons_append,List.nil_append,List.append_nil,List.set_cons_zero,List.set_cons_succ];rfl));have hA0c70:Acc st.n 3 [(c70,0,[])] (.sl c70 0 0 0 3) []:=Acc.own (n0:=st.n) (z:=3) (c:=c70) (m:=0) (ls:=[]) ((M.own c70 0 [] (by simp)).resolve_right (by simp)) (by simp) (by simp);refine Kx (L:=[(c5,0,[.str o,.str s,.int .i64 z,.int .i64 a,kk])]) (A:=[(c70,0,[])]) (B:=[]) rfl K M hA0c70 QY rfl rfl (hD.r.mem M (by simp)) (Yo.three hD) (by simp only[List.length_nil,List.nil_append];omega) rfl fun ks72 A72 _ _ K hA72 M=>?_;have Mp:=Mq;have Mq:=M;refine d1 rfl K (Qf Xm rfl) rfl rfl fun _ K=>?_;refine QZ rfl K rfl (M.load (k:=0) rfl (Ql Ji rfl)) (Mp.load (k:=0) rfl (Ql Ji rfl)) (JQ rfl) rfl (by decide) fun _ K=>?_;refine d1 rfl K (Qf Xl rfl) rfl rfl fun _ K=>?_;refine QZ rfl K rfl (M.load (k:=0) rfl (Ql QA rfl)) (Mp.load (k:=0) rfl (Ql QA rfl)) (JQ rfl) rfl (by decide) fun _ K=>?_;refine d1 rfl K (QH YR rfl rfl) rfl rfl fun _ K=>?_;refine X6 rfl K M QY Up rfl rfl rfl rfl rfl fun c78 _ _ K M=>?_;refine EH (k2:=0) (L:=[(c78,0,[.str s,.int .i64 z,.int .i64 0]),(c5,0,[.str o,.str s,.int .i64 z,.int .i64 a,kk])]) (A:=A72) (B:=[]) rfl K M hA72 QY rfl rfl rfl rfl (by simp only[List.length_nil,List.nil_append];omega) rfl fun ks79 A79 _ _ K hA79 M=>?_;have Mp:=Mq;have Mq:=M;refine d1 rfl K (Qu rfl) rfl rfl fun _ K=>J4 ?_;exact⟨ks79,sc++[⟨s,z,0⟩],ld++[[.str s,.int .i64 z,.int .i64 0]],A79,(.cons (K _ _ rfl) (.cons (K _ _ rfl) (.cons (K _ _ rfl) .nil))),M.less (.cons _ (.refl _)),(by first|exact .inl (by simpa using hA79)|exact .inr ⟨rfl,hD.r⟩),(by first|exact hD.R8.snoc hb.2|exact hD.R8),(by simp_all),⟨by simp_all,by simp_all,by unfold UE;simp_all [oneOf]⟩⟩
  have hb67:=h67;replace h67:=of_decide_eq_false h67;refine Qi<|o1 K (QD (b:=[97,108,108]) rfl rfl) rfl fun _ K=>?_;refine Qc 1 K M ?_;intro _ K;refine Qj (K.QN rfl) (fun h67=>?_) (fun h67=>?_)
  ·have hb67:=h67;replace h67:=of_decide_eq_true h67;refine Jr (l:=[(0,0),(1,0),(2,0),(3,0),(4,1),(5,0),(6,1),(7,0),(8,0),(9,0),(10,0)]) (by kernel_rfl) ?_;have Mq:=M;refine X6 rfl K M QY Up rfl rfl rfl rfl rfl fun c70 _ _ K M=>?_;refine d1 rfl K (Qb rfl) rfl rfl fun _ K=>?_;replace M:=Mem.cast (M':=((c5,0,[.str o,.str s,.int .i64 z,.int .i64 a,kk])::([(c70,0,[])]++[]))) (Mem.perm M (List.perm_append_comm (α:=Nat×Nat×List AV) (l₁:=[(c70,0,[])]) (l₂:=[(c5,0,[.str o,.str s,.int .i64 z,.int .i64 a,kk])]))) (by first|(simp only[List.append_assoc,List.cons_append,List.nil_append,List.append_nil,List.set_cons_zero,List.set_cons_succ];done)|(simp only[List.append_assoc,List.cons_append,List.nil_append,List.append_nil,List.set_cons_zero,List.set_cons_succ];rfl));have hA0c70:Acc st.n 3 [(c70,0,[])] (.sl c70 0 0 0 3) []:=Acc.own (n0:=st.n) (z:=3) (c:=c70) (m:=0) (ls:=[]) ((M.own c70 0 [] (by simp)).resolve_right (by simp)) (by simp) (by simp);refine Kx (L:=[(c5,0,[.str o,.str s,.int .i64 z,.int .i64 a,kk])]) (A:=[(c70,0,[])]) (B:=[]) rfl K M hA0c70 QY rfl rfl (hD.r.mem M (by simp)) (Yo.three hD) (by simp only[List.length_nil,List.nil_append];omega) rfl fun ks72 A72 _ _ K hA72 M=>?_;have Mp:=Mq;have Mq:=M;refine d1 rfl K (Qf Xm rfl) rfl rfl fun _ K=>?_;refine QZ rfl K rfl (M.load (k:=0) rfl (Ql Ji rfl)) (Mp.load (k:=0) rfl (Ql Ji rfl)) (JQ rfl) rfl (by decide) fun _ K=>?_;refine d1 rfl K (Qf Xl rfl) rfl rfl fun _ K=>?_;refine QZ rfl K rfl (M.load (k:=0) rfl (Ql QA rfl)) (Mp.load (k:=0) rfl (Ql QA rfl)) (JQ rfl) rfl (by decide) fun _ K=>?_;refine d1 rfl K (QH YR rfl rfl) rfl rfl fun _ K=>?_;refine X6 rfl K M QY Up rfl rfl rfl rfl rfl fun c78 _ _ K M=>?_;refine EH (k2:=0) (L:=[(c78,0,[.str s,.int .i64 z,.int .i64 0]),(c5,0,[.str o,.str s,.int .i64 z,.int .i64 a,kk])]) (A:=A72) (B:=[]) rfl K M hA72 QY rfl rfl rfl rfl (by simp only[List.length_nil,List.nil_append];omega) rfl fun ks79 A79 _ _ K hA79 M=>?_;have Mp:=Mq;have Mq:=M;refine d1 rfl K (Qu rfl) rfl rfl fun _ K=>J4 ?_;exact⟨ks79,sc++[⟨s,z,0⟩],ld++[[.str s,.int .i64 z,.int .i64 0]],A79,(.cons (K _ _ rfl) (.cons (K _ _ rfl) (.cons (K _ _ rfl) .nil))),M.less (.cons _ (.refl _)),(by first|exact .inl (by simpa using hA79)|exact .inr ⟨rfl,hD.r⟩),(by first|exact hD.R8.snoc hb.2|exact hD.R8),(by simp_all),⟨by simp_all,by simp_all,by unfold UE;simp_all [oneOf]⟩⟩
  have hb67:=h67;replace h67:=of_decide_eq_false h67;refine QO ?_;exact⟨kd,sc,ld,[],(.cons (K _ _ rfl) (.cons (K _ _ rfl) (.cons (K _ _ rfl) .nil))),M.less (.refl _),(by first|exact .inl (by simpa using hA79)|exact .inr ⟨rfl,hD.r⟩),(by first|exact hD.R8.snoc hb.2|exact hD.R8),(by simp_all),⟨by simp_all,by simp_all,by unfold UE;simp_all [oneOf]⟩⟩
 obtain⟨kd2,sc2,ld2,A2,K,M,hA2,hL2,hs2,hno⟩:=hJ
 have hbl2:sc2.length≤sc.length+1:=by rw[hs2];split<;>simp
 have ho2: ∀d∈sc2,0≤d.order:=by
  rw[hs2]
  split
  ·rename_i hq;intro d hd;rcases List.mem_append.1 hd with hd|hd
   ·exact hod d hd
   ·rw[List.mem_singleton.1 hd];exact Bi ht hq
  ·exact hod
 refine Qc 1 K M ?_;intro _ K;refine JX (fun mm1 T st9=> ∃(i:Nat),mm1=l.length-i∧Jk [(0,kp),(1,kd2),(5,.ptr c5 0 0),(9,.int .i64 (((i:Nat):Int)))] T∧Mem st.h.get st.n [] st9 ((c5,0,[.str o,.str s,.int .i64 z,.int .i64 a,kk])::(A2++[]))∧i≤l.length∧Ku ps l sc2=Ku ps (l.drop i) sc2) (fun mm1 T st9 hI=>?_) _ _ _ ⟨0,rfl,(.cons (K _ _ rfl) (.cons (K _ _ rfl) (.cons (K _ _ rfl) (.cons (K _ _ rfl) .nil)))),M.less (.refl _),(Nat.zero_le _),(by rw[List.drop_zero])⟩;obtain⟨i,rfl,K,M,hi,hx⟩:=hI;refine Qc 3 K M ?_;intro _ K;refine o1 K (QP QK rfl rfl hK.len) rfl fun _ K=>?_;refine Qc 1 K M ?_;intro _ K;refine YX K rfl (fun h84=>?_) fun h84=>?_
 ·refine Qc 5 K M ?_;intro _ K;obtain⟨⟨o93,s93,z93,a93,l93⟩,hi93⟩: ∃k,l[i]? =some k:=⟨_,List.getElem?_eq_getElem (by first|omega|(have:=Uq ht (by assumption);omega))⟩;have hm93:=Ub hi93;obtain⟨_,hc93,hn93⟩:=hK.at_ _ _ hi93;have hp93:=hn93;obtain⟨kk93,ls93,rfl,hK93,hb93⟩:=hp93.Ju;obtain⟨x93,m93,f93,q93,_,la93,lo93,lp93⟩:=(hK.r.mem M (by simp)).load (i:=i) (cs:=_) hc93;refine o1 K (Qn (j:=i) QW (congrArg some q93) rfl (by rw[hK.ln];first|omega|(have:=Uq ht (by assumption);omega))) rfl fun _ K=>o1 K (Qq rfl (la93 _ Q8)) rfl fun _ K=>?_;have hkk:=Hw hm93;refine oQ K M (ih _ hm93 sc2 kd2 ld2 _ _ M.fresh (EE.mono M.rows hP) (hL2.ds (Mem.Mg (L:=[(c5,0,[.str o,.str s,.int .i64 z,.int .i64 a,kk])]) (A:=A2) (B:=[]) M hA2)) (hn93.mono M.rows) (Od ht hno.1 hno.2.1 hno.2.2 _ hm93) ho2 (by omega)) rfl rfl fun _ _ K M=>?_;refine Qc 7 K M ?_;intro _ K;refine IU K rfl (fun h99=>?_) fun h99=>?_
  ·refine Qc 4 K M ?_;intro _ K;refine Qd ⟨.inr rfl,_,Zm K rfl rfl,?_⟩;refine⟨congrArg pT (a₁:=((UJ ps (.mk o93 s93 z93 a93 l93) sc2).1,(UJ ps (.mk o93 s93 z93 a93 l93) sc2).2)) (a₂:=UJ ps (.mk o s z a l) sc) (Eq.symm ?_),M.qt⟩;rw[U4,if_neg hno.1,if_neg hno.2.1,hno.2.2,if_neg (by decide),←hs2,hx,Fq hi93,if_pos (by omega)]
  refine Qc 1 K M ?_;intro _ K;refine o1 K (QV rfl rfl (by omega) (by omega)) rfl fun _ K=>o1 K (Qu rfl) rfl fun _ K=>Q5 ?_;exact⟨_,(by omega),i+1,rfl,(.cons (K _ _ rfl) (.cons (K _ _ rfl) (.cons (K _ _ rfl) (.cons (K _ _ rfl) .nil)))),M.less (.refl _),(by omega),(by rw[hx,Fq hi93,if_neg (by omega)])⟩
 refine JJ ?_;show W _ _ _ _ _ _ _;refine Qc 2 K M ?_;intro _ K;refine Qd ⟨.inr rfl,_,Zm K rfl rfl,?_⟩;refine⟨congrArg pT (a₁:=(0,0)) (a₂:=UJ ps (.mk o s z a l) sc) (Eq.symm ?_),M.qt⟩;rw[U4,if_neg hno.1,if_neg hno.2.1,hno.2.2,if_neg (by decide),←hs2,hx,Jh (by omega),Ku]

theorem Py{ds:List Dc}{ps:List Pd}{o s:List Nat}{z a:Int}{l:List Nd}{st:St}{cs:List AV}(hf:Q3 st)(hr:qp st.h.get ⟨ds,ps,.mk o s z a l⟩ cs)(hds:ds.length≤100000)(hps:ps.length≤100000): ∃v st',Ev Tryz.prog Jg 12 [.agg cs] st v st'∧v=pT (Zk ⟨ds,ps,.mk o s z a l⟩)∧Qt st st':=by
 have hr0:=hr;obtain⟨kd,ld,kp,lp,o,s,z,a,kk,rfl,hD,hP,hn⟩:=hr0;obtain⟨kx,ls,ex,hK,hb⟩:=hn.Ju
 injection ex with x1 x;injection x with x2 x;injection x with x3 x;injection x with x4 x;injection x with x5 x
 injection x1 with x1;injection x2 with x2;injection x3 with _ x3;injection x4 with _ x4
 subst x1 x2 x3 x4 x5;replace hD:Yo st.h.get ds kd ld:=hD;replace hP:EE st.h.get ps kp lp:=hP;replace hn:YW st.h.get (.mk o s z a l) _:=hn;have hbk:=hK.Yx;have hbd:=hD.Yx;have hbp:=hP.Yx;have hlp:=hP.ln;refine QG rfl Tryz.func12 rfl Tryz.ntmps12 rfl fun T hT=>?_;have K:Jk [(0,_)] T:=(.cons (hT 0) .nil);have M:=Mem.start hf;refine Qw<|Qi ?_;refine JL K M rfl (Qa hD.cell (Qa hP.cell (Qa rfl (Qa rfl (Qa rfl (Qa rfl (Qa hK.cell QE))))))) (by decide) fun c1 _ _ K M=>?_;refine Qc 3 K M ?_;intro _ K;refine oQ K M (jy M.fresh (hr.mono M.rows)) rfl rfl fun _ _ K M=>?_;refine Qc 1 K M ?_;intro _ K;refine Qj (K.QN rfl) (fun h12=>?_) (fun h12=>?_)
 ·have hb12:=h12
  replace h12:(XS ⟨ds,ps,.mk o s z a l⟩)=false:=by first|simpa using h12|(revert h12;cases(XS ⟨ds,ps,.mk o s z a l⟩)<;>simp)
  refine Qc 2 K M ?_;intro _ K;refine Qd ⟨.inr rfl,_,Zm K rfl rfl,?_⟩;refine⟨congrArg pT (a₁:=(0,1)) (a₂:=Zk ⟨ds,ps,.mk o s z a l⟩) (Eq.symm ?_),M.qt⟩;exact Oq h12
 have hb12:=h12
 replace h12:(XS ⟨ds,ps,.mk o s z a l⟩)=true:=by first|simpa using h12|(revert h12;cases(XS ⟨ds,ps,.mk o s z a l⟩)<;>simp)
 refine Qc 2 K M ?_;intro _ K;refine oQ K M (Ld M.fresh (Yo.mono M.rows hD) (Kb h12)) rfl rfl fun _ _ K M=>?_;refine Qc 6 K M ?_;intro _ K;refine Qj (K.QN rfl) (fun h19=>?_) (fun h19=>?_)
 ·have hb19:=h19;refine Qc 3 K M ?_;intro _ K;refine Qd ⟨.inr rfl,_,Zm K rfl rfl,?_⟩;refine⟨congrArg pT (a₁:=(ua (J2 [] ds),6)) (a₂:=Zk ⟨ds,ps,.mk o s z a l⟩) (Eq.symm ?_),M.qt⟩
  cases hq:J2 [] ds with
  |none=>rw[hq]at h19;cases h19
  |some b=>exact Ii h12 hq
 have hb19:=h19;refine Qc 1 K M ?_;intro _ K;refine JX (fun mm1 T st9=> ∃(i:Nat),mm1=ps.length-i∧Jk [(1,.ptr c1 0 0),(6,.int .i64 (((i:Nat):Int)))] T∧Mem st.h.get st.n [] st9 [(c1,0,[kd,kp,.str o,.str s,.int .i64 z,.int .i64 a,kk])]∧i≤ps.length∧Ef [] ps=Ef (ps.take i) (ps.drop i)) (fun mm1 T st9 hI=>?_) _ _ _ ⟨0,rfl,(.cons (K _ _ rfl) (.cons (K _ _ rfl) .nil)),M.less (.refl _),(Nat.zero_le _),rfl⟩;obtain⟨i,rfl,K,M,hi,hx⟩:=hI;refine Qc 3 K M ?_;intro _ K;refine o1 K (QP Y3 rfl rfl hP.len) rfl fun _ K=>?_;refine Qc 1 K M ?_;intro _ K;refine YX K rfl (fun h25=>?_) fun h25=>?_
 ·refine Qc 3 K M ?_;intro _ K;obtain⟨⟨pn31,pp31,⟨_,_,_,_,l31⟩,pa31⟩,hi31⟩: ∃k,ps[i]? =some k:=⟨_,List.getElem?_eq_getElem (by omega)⟩;have hm31:=UI hi31;obtain⟨_,hc31,hP31⟩:=hP.at_ _ _ hi31;have hP310:=hP31;obtain⟨kd31,ld31,o31,s31,z31,a31,kk31,rfl,hD31,hn31,hy31⟩:=hP310;obtain⟨kx31,ls31,ex31,hK31,hb31⟩:=hn31.Ju
  injection ex31 with x1 x;injection x with x2 x;injection x with x3 x;injection x with x4 x;injection x with x5 x
  injection x1 with x1;injection x2 with x2;injection x3 with _ x3;injection x4 with _ x4
  subst x1 x2 x3 x4 x5;replace hD31:Yo st.h.get pp31 kd31 ld31:=hD31;replace hn31:YW st.h.get (.mk o31 s31 z31 a31 l31) _:=hn31;replace hy31:Bytes pn31:=hy31;have hl31:=hK31.Yx;have hd31:=hD31.Yx;obtain⟨x31,m31,f31,q31,_,la31,lo31,lp31⟩:=(hP.r.mem M (by simp)).load (i:=i) (cs:=_) hc31;refine o1 K (Qn (j:=i) Um (congrArg some q31) rfl (by rw[hP.ln];omega)) rfl fun _ K=>o1 K (Qq rfl (la31 _ X8)) rfl fun _ K=>?_;refine Yb K M YO (by decide) fun c7 _ _ K M=>?_;refine J5 (k:=0) K M rfl rfl rfl V4 rfl (Qa rfl (Qa hD31.cell (Qa rfl (Qa rfl (Qa rfl (Qa rfl (Qa hK31.cell (Qa rfl QE)))))))) rfl fun _ M=>?_;refine Q5 ?_;show W _ _ _ _ _ _ _;refine Qw<|Qw ?_;refine Jr (l:=[(0,0),(1,0),(2,0),(3,0),(4,0),(5,0),(6,0),(7,0)]) (by kernel_rfl) ?_;refine d1 rfl K (Qf YZ rfl) rfl rfl fun _ K=>d1 rfl K (Qq rfl (M.load (k:=1) rfl (Ql U6 rfl))) rfl rfl fun _ K=>d1 rfl K (Qb rfl) rfl rfl fun _ K=>d1 rfl K (OI (n:=i) hP.r (by omega) Um rfl rfl (by omega)) rfl rfl fun _ K=>d1 rfl K (Qf El rfl) rfl rfl fun _ K=>d1 rfl K (Qq rfl (M.load (k:=0) rfl (Ql Ji rfl))) rfl rfl fun _ K=>?_;obtain⟨v39,st39,ev39,rfl,q39⟩:=D8 M.fresh (EE.mono M.rows (Vd.head hP (n:=i) (by omega) (by omega))) pn31;refine dA rfl K (Qg rfl ev39) rfl rfl fun _ K=>?_;replace M:=M.quiet q39;refine d1 rfl K (AD rfl rfl) rfl rfl fun _ K=>J4 ?_;show W _ _ _ _ _ _ _;refine YX K rfl (fun h40=>?_) fun h40=>?_
  ·refine Qc 4 K M ?_;intro _ K;refine Qd ⟨.inr rfl,_,Zm K rfl rfl,?_⟩
   have htw:J2 [] ds=none:=by
    cases hq:J2 [] ds with
    |none=>rfl
    |some b=>rw[hq]at h19;cases h19
   refine⟨congrArg pT (a₁:=(pa31,6)) (a₂:=Zk ⟨ds,ps,.mk o s z a l⟩) (Eq.symm ?_),M.qt⟩;exact Ag h12 htw (by show Ef [] ps=_;rw[hx,Ez hi31,Sv (Ti h40)];exact if_pos (by first|decide|(show¬(6:Int)=0;decide)|assumption))
  refine Qc 2 K M ?_;intro _ K;refine oQ K M (Ld M.fresh (Yo.mono M.rows hD31) (Kc (ES h12 hm31))) rfl rfl fun _ _ K M=>?_;refine Qc 6 K M ?_;intro _ K;refine Qj (K.QN rfl) (fun h49=>?_) (fun h49=>?_)
  ·have hb49:=h49;refine Qc 3 K M ?_;intro _ K;refine Qd ⟨.inr rfl,_,Zm K rfl rfl,?_⟩
   have htw:J2 [] ds=none:=by
    cases hq:J2 [] ds with
    |none=>rfl
    |some b=>rw[hq]at h19;cases h19
   refine⟨congrArg pT (a₁:=(ua (J2 [] pp31),6)) (a₂:=Zk ⟨ds,ps,.mk o s z a l⟩) (Eq.symm ?_),M.qt⟩
   cases hq:J2 [] pp31 with
   |none=>rw[hq]at h49;cases h49
   |some b=>exact Ag h12 htw (by show Ef [] ps=_;rw[hx,Ez hi31,MA (OS h40) hq];exact if_pos (by first|decide|(show¬(6:Int)=0;decide)|assumption))
  have hb49:=h49;refine QO ?_;show W _ _ _ _ _ _ _;refine Qw ?_;refine Jr (l:=[(0,0),(1,0),(2,0),(3,0),(4,0),(5,0),(6,0),(7,0),(8,0),(9,0),(10,0),(11,0),(12,0),(13,0)]) (by kernel_rfl) ?_;refine d1 rfl K (Qf YZ rfl) rfl rfl fun _ K=>d1 rfl K (Qq rfl (M.load (k:=1) rfl (Ql U6 rfl))) rfl rfl fun _ K=>d1 rfl K (Qb rfl) rfl rfl fun _ K=>d1 rfl K (OI (n:=i) hP.r (by omega) Um rfl rfl (by omega)) rfl rfl fun _ K=>d1 rfl K (Qf Za rfl) rfl rfl fun _ K=>d1 rfl K (Qq rfl (M.load (k:=0) rfl (Ql Ut rfl))) rfl rfl fun _ K=>d1 rfl K (Qf Ek rfl) rfl rfl fun _ K=>d1 rfl K (Qq rfl (M.load (k:=0) rfl (Ja Q8 rfl))) rfl rfl fun _ K=>?_;obtain⟨hfm,hfs⟩:=Li (ES h12 hm31);obtain⟨v60,st60,ev60,rfl,q60⟩:=NO _ _ _ _ _ _ M.fresh (EE.mono M.rows (Vd.head hP (n:=i) (by omega) (by omega))) (Yo.mono M.rows hD31) (hn31.mono M.rows) hfm (Kc (ES h12 hm31)) (by omega);refine dA rfl K (Qg rfl ev60) rfl rfl fun _ K=>?_;replace M:=M.quiet q60;refine d1 rfl K (Qb rfl) rfl rfl fun _ K=>d1 rfl K (EV rfl rfl) rfl rfl fun _ K=>d1 rfl K (EV rfl rfl) rfl rfl fun _ K=>d1 rfl K (Qu rfl) rfl rfl fun _ K=>d1 rfl K (Qu rfl) rfl rfl fun _ K=>J4 ?_;show W _ _ _ _ _ _ _;refine Qc 2 K M ?_;intro _ K;refine IU K rfl (fun h64=>?_) fun h64=>?_
  ·refine Qc 4 K M ?_;intro _ K;refine Qd ⟨.inr rfl,_,Zm K rfl rfl,?_⟩
   have htw:J2 [] ds=none:=by
    cases hq:J2 [] ds with
    |none=>rfl
    |some b=>rw[hq]at h19;cases h19
   have htw2:J2 [] pp31=none:=by
    cases hq:J2 [] pp31 with
    |none=>rfl
    |some b=>rw[hq]at h49;cases h49
   refine⟨congrArg pT (a₁:=((UJ (ps.take i) (.mk o31 s31 z31 a31 l31) pp31).1,(UJ (ps.take i) (.mk o31 s31 z31 a31 l31) pp31).2)) (a₂:=Zk ⟨ds,ps,.mk o s z a l⟩) (Eq.symm ?_),M.qt⟩;exact Ag h12 htw (by show Ef [] ps=_;rw[hx,Ez hi31,Dy (OS h40) htw2];exact if_pos (by first|decide|(show¬(6:Int)=0;decide)|assumption))
  refine Qc 1 K M ?_;intro _ K;refine o1 K (QV rfl rfl (by omega) (by omega)) rfl fun _ K=>o1 K (Qu rfl) rfl fun _ K=>Q5 ?_
  have htw2:J2 [] pp31=none:=by
   cases hq:J2 [] pp31 with
   |none=>rfl
   |some b=>rw[hq]at h49;cases h49
  exact⟨_,(by omega),i+1,rfl,(.cons (K _ _ rfl) (.cons (K _ _ rfl) .nil)),M.less (.cons _ (.refl _)),(by omega),(by rw[hx,Ez hi31,Dy (OS h40) htw2];exact if_neg (by show¬(UJ _ _ _).2≠0;omega))⟩
 refine JJ ?_;show W _ _ _ _ _ _ _;refine Qc 6 K M ?_;intro _ K;obtain⟨hfm,hfs⟩:=Lh h12;refine oQ K M (NO _ _ _ _ _ _ M.fresh (EE.mono M.rows hP) (Yo.mono M.rows hD) (hn.mono M.rows) hfm (Kb h12) (by omega)) rfl rfl fun _ _ K M=>?_;refine Qc 4 K M ?_;intro _ K;refine Qd ⟨.inr rfl,_,Zm K rfl rfl,?_⟩
 have htw:J2 [] ds=none:=by
  cases hq:J2 [] ds with
  |none=>rfl
  |some b=>rw[hq]at h19;cases h19
 refine⟨congrArg pT (a₁:=((UJ ps (.mk o s z a l) ds).1,(UJ ps (.mk o s z a l) ds).2)) (a₂:=Zk ⟨ds,ps,.mk o s z a l⟩) (Eq.symm ?_),M.qt⟩;exact Kl h12 htw (by show Ef [] ps=_;rw[hx,Jh (by omega),Ef])
end Go.Proofs.YtadjjadimlkkgaaGreatDoor
