/-
  Kinds of programs: the program's answer.
-/
import Derived.Test.YtadjjadimlkkgaaGreatDoorMnKnI
namespace Go.Proofs.YtadjjadimlkkgaaGreatDoor
open Go Go.RowKit
set_option maxHeartbeats 8000000
set_option linter.unusedVariables false
set_option linter.unusedSimpArgs false
set_option linter.unnecessarySimpa false
set_option maxRecDepth 100000

def xA(r:Option Int):Int:=r.getD 0
def xz:Option Int→Int
 |some _=>6
 |none=>0
theorem LN{st:St}(hf:Qu st){l:List Dc}{kd:AV}{ld:List (List AV)}(hD:Y1 st.h.get l kd ld): ∃v st',Ev Tryz.prog QU 44 [kd] st v st'∧v=.tup [.int .i64 (xA (Jx [] l)),.int .i64 (xz (Jx [] l))]∧Qt st st':=by
 obtain⟨v,st',h,rfl,q⟩:=Sz hf hD
 exact⟨_,_,h,by cases Jx [] l<;>rfl,q⟩
def Iz(ps:List Pd)(p:Pd):Int×Int:=if ps.any (fun q=>decide (q.name=p.name))then(p.at_,6)else match Jx [] p.params with
 |some a=>(a,6)
 |none=>UK ps p.body p.params
theorem GI{l:List Pd}{i:Nat}{p:Pd}(h:l[i]? =some p):Wf (l.take i) (l.drop i)=if(Iz (l.take i) p).2≠0 then some (Iz (l.take i) p)else Wf (l.take (i+1)) (l.drop (i+1)):=by
 rw[PV h,Iz]
 by_cases h1:(l.take i).any (fun q=>decide (q.name=p.name))=true
 ·rw[if_pos h1,if_pos h1];rfl
 rw[if_neg h1,if_neg h1]
 cases Jx [] p.params with
 |some a=>rfl
 |none=>rfl
theorem CB{n:List Nat}{pp:List Dc}{b:Nd}{z:Int}(h:XE ⟨n,pp,b,z⟩=true):QW b=true∧pp.length+Jz b≤1000000:=by
 rw[E1]at h;simp only[Bool.and_eq_true,decide_eq_true_eq,Y8]at h;obtain⟨_,h2,_,⟨h3,_⟩,h4⟩:=h;exact⟨h4,by omega⟩
theorem C9{ds:List Dc}{ps:List Pd}{m:Nd}(h:XD ⟨ds,ps,m⟩=true){p:Pd}(hm:p∈ps):XE p=true:=by
 rw[E0]at h;simp only[Bool.and_eq_true,List.all_eq_true]at h;exact h.2.1 p hm
theorem CA{ds:List Dc}{ps:List Pd}{m:Nd}(h:XD ⟨ds,ps,m⟩=true):QW m=true∧Jz m≤2000:=by
 rw[E0]at h;simp only[Bool.and_eq_true,decide_eq_true_eq,Y8]at h;exact⟨h.2.2.2,by have:=h.2.2.1.1;omega⟩
theorem ET.take{h h':Hp}(hl:Wx h h'){ps:List Pd}{kp:AV}{lp:List (List AV)}(H:ET h ps kp lp){i:Nat}{ks:AV}(r:Un h' [] 8 (lp.take i) ks):ET h' (ps.take i) ks (lp.take i):=
 ⟨r,by rw[List.length_take,List.length_take,H.ln],fun j k hj=>by
  have hlt:=(List.getElem?_eq_some_iff.1 hj).1;rw[List.length_take]at hlt;rw[List.getElem?_take_of_lt (by omega)]at hj;obtain⟨cs,h1,h2⟩:=H.at_ _ _ hj
  exact⟨cs,by rw[List.getElem?_take_of_lt (by omega)];exact h1,h2.mono hl⟩⟩
theorem ET.qP{h h':Hp}(hl:Wx h h'){ps:List Pd}{kp:AV}{lp:List (List AV)}(H:ET h ps kp lp){i:Nat}(hi:ps.length≤i){ks:AV}(r:Un h' [] 8 (lp.take i) ks):ET h' ps ks (lp.take i):=by
 have h1:=ET.take hl H r;rw[List.take_of_length_le hi]at h1;exact h1
theorem PA{α:Type}{l:List α}{i:Nat}{x:α}(h:l[i]? =some x):l.take (i+1)=l.take i++[x]:=by rw[List.take_add_one,h];rfl
theorem RO{p:Pg}(h:XD p=false):JK p=(0,1):=by rw[JK,if_neg (by rw[h];decide)]
theorem OU{p:Pg}(h:XD p=true){a:Int}(h2:Jx [] p.decls=some a):JK p=(a,6):=by rw[JK,if_pos h,h2]
theorem Dr{p:Pg}(h:XD p=true)(h2:Jx [] p.decls=none){r:Int×Int}(h3:Wf [] p.preds=some r):JK p=r:=by rw[JK,if_pos h,h2];simp only[h3]
theorem BI{p:Pg}(h:XD p=true)(h2:Jx [] p.decls=none)(h3:Wf [] p.preds=none):JK p=UK p.preds p.main p.decls:=by rw[JK,if_pos h,h2];simp only[h3]

theorem Te{pn:List Nat}{pp:List Dc}{o s:List Nat}{z a pa:Int}{l:List Nd}{st:St}{cs:List AV}(hf:Qu st)(hr:Cm st.h.get ⟨pn,pp,.mk o s z a l,pa⟩ cs){c3:Nat}{n3 o3 s3:List Nat}{z3 a3 pa3:Int}{kd3 kk3:AV}(h3:UM st.h.get c3 0 [.str n3,kd3,.str o3,.str s3,.int .i64 z3,.int .i64 a3,kk3,.int .i64 pa3]): ∃v st',Ev Tryz.prog QU 91 [.agg cs,.ptr c3 0 0] st v st'∧v=.bool (decide (pn=n3))∧Qt st st':=by
 have hr0:=hr;have hr0:=hr;obtain⟨kd,ld,o,s,z,a,kk,rfl,hD,hn,hy⟩:=hr0;obtain⟨kx,ls,ex,hK,hb⟩:=hn.QJ
 injection ex with x1 x;injection x with x2 x;injection x with x3 x;injection x with x4 x;injection x with x5 x
 injection x1 with x1;injection x2 with x2;injection x3 with _ x3;injection x4 with _ x4
 subst x1 x2 x3 x4 x5;replace hD:Y1 st.h.get pp kd ld:=hD;replace hn:UN st.h.get (.mk o s z a l) _:=hn;replace hy:Bytes pn:=hy;have hl:=hK.Uj;have hd:=hD.Uj;refine QE rfl Tryz.func91 rfl Tryz.ntmps91 rfl fun T hT=>?_;have K:QT [(0,_),(1,_)] T:=(.cons (hT 0) (.cons (hT 1) .nil));have M:=Mem.start hf;refine Qn<|Qb ?_;refine QO K M rfl (Qa rfl (Qa hD.cell (Qa rfl (Qa rfl (Qa rfl (Qa rfl (Qa hK.cell (Qa rfl Qp)))))))) (by decide) fun c2 _ _ K M=>?_;refine Qf 4 K M ?_;intro _ K;refine o1 K (Qr rfl (WN (M.rows _ _ _ h3) (QA QN rfl))) rfl fun _ K=>?_;refine Qf 2 K M ?_;intro _ K;refine Qe ⟨.inr rfl,_,J5 K rfl,?_⟩;exact⟨rfl,M.qt⟩

theorem Mb{pn:List Nat}{pp:List Dc}{o s:List Nat}{z a pa:Int}{l:List Nd}{st:St}{cs:List AV}(hf:Qu st){cc:Nat}{ps:List Pd}{kp:AV}{lp:List (List AV)}(hC:UM st.h.get cc 0 [kp])(hP:ET st.h.get ps kp lp)(hr:Cm st.h.get ⟨pn,pp,.mk o s z a l,pa⟩ cs)(ht:QW (.mk o s z a l)=true)(hsz:pp.length+Jz (.mk o s z a l)≤1000000): ∃v st',Ev Tryz.prog QU 45 [.ptr cc 0 0,.agg cs] st v st'∧v=pT (Iz ps ⟨pn,pp,.mk o s z a l,pa⟩)∧Qt st st':=by
 have hr0:=hr;have hr0:=hr;obtain⟨kd,ld,o,s,z,a,kk,rfl,hD,hn,hy⟩:=hr0;obtain⟨kx,ls,ex,hK,hb⟩:=hn.QJ
 injection ex with x1 x;injection x with x2 x;injection x with x3 x;injection x with x4 x;injection x with x5 x
 injection x1 with x1;injection x2 with x2;injection x3 with _ x3;injection x4 with _ x4
 subst x1 x2 x3 x4 x5;replace hD:Y1 st.h.get pp kd ld:=hD;replace hn:UN st.h.get (.mk o s z a l) _:=hn;replace hy:Bytes pn:=hy;have hl:=hK.Uj;have hd:=hD.Uj;have hlp:=hP.ln;refine QE rfl Tryz.func45 rfl Tryz.ntmps45 rfl fun T hT=>?_;have K:QT [(0,_),(1,_)] T:=(.cons (hT 0) (.cons (hT 1) .nil));have M:=Mem.start hf;refine Qn<|Qb ?_;refine QO K M rfl (Qa rfl (Qa hD.cell (Qa rfl (Qa rfl (Qa rfl (Qa rfl (Qa hK.cell (Qa rfl Qp)))))))) (by decide) fun c3 _ _ K M=>?_;refine Qf 5 K M ?_;intro _ K;refine o1 K (Qr rfl (WN (M.rows _ _ _ hC) (QA U0 rfl))) rfl fun _ K=>o1 K (F4 rfl rfl) rfl fun _ K=>?_
 obtain⟨v13,st13,ev13,rfl,q13⟩:=A1 (fa:=[]) (fc:=[.ptr c3 0 0]) (p:=fun p:Pd=>decide (p.name=pn)) M.fresh (ET.mono M.rows hP) (fun k hk st1 cs q hr1=>by
  obtain⟨pn9,pp9,⟨o9,s9,z9,a9,l9⟩,pa9⟩:=k
  exact Te q.fresh hr1 ((UC.AH (M.W9 (k:=0) rfl)).IF M.fresh (q.IF []) (by simp)))
 refine o1 K (Ql rfl ev13) rfl fun _ K=>?_;replace M:=M.quiet q13;refine Qy ?_;show W _ _ _ _ _ _ _;refine Qm (K.QF rfl) (fun h13=>?_) (fun h13=>?_)
 ·have hb13:=h13;refine Qf 4 K M ?_;intro _ K;refine Qe ⟨.inr rfl,_,Wy K rfl rfl,?_⟩;refine⟨congrArg pT (a₁:=(pa,6)) (a₂:=Iz ps ⟨pn,pp,.mk o s z a l,pa⟩) (Eq.symm ?_),M.qt⟩;exact if_pos h13
 have hb13:=h13;refine Qf 2 K M ?_;intro _ K;refine oQ K M (LN M.fresh (Y1.mono M.rows hD)) rfl rfl fun _ _ K M=>?_;refine Qf 7 K M ?_;intro _ K;refine P4 K rfl (fun h23=>?_) fun h23=>?_
 ·refine Qf 4 K M ?_;intro _ K;refine Qe ⟨.inr rfl,_,Wy K rfl rfl,?_⟩;refine⟨congrArg pT (a₁:=(xA (Jx [] pp),xz (Jx [] pp))) (a₂:=Iz ps ⟨pn,pp,.mk o s z a l,pa⟩) (Eq.symm ?_),M.qt⟩;refine(if_neg (by rw[h13];decide)).trans ?_;show(match Jx [] pp with|some a=>(a,6)|none=>UK ps (.mk o s z a l) pp)=_
  cases hq:Jx [] pp with
  |none=>rw[hq]at h23;exact absurd rfl h23
  |some b=>rfl
 refine Qf 5 K M ?_;intro _ K;refine oQ K M (Bf _ _ _ _ _ _ M.fresh (M.rows _ _ _ hC) (ET.mono M.rows hP) (Y1.mono M.rows hD) (hn.mono M.rows) ht hsz) rfl rfl fun _ _ K M=>?_;refine Qf 4 K M ?_;intro _ K;refine Qe ⟨.inr rfl,_,Wy K rfl rfl,?_⟩;refine⟨congrArg pT (a₁:=((UK ps (.mk o s z a l) pp).1,(UK ps (.mk o s z a l) pp).2)) (a₂:=Iz ps ⟨pn,pp,.mk o s z a l,pa⟩) (Eq.symm ?_),M.qt⟩;refine(if_neg (by rw[h13];decide)).trans ?_;show(match Jx [] pp with|some a=>(a,6)|none=>UK ps (.mk o s z a l) pp)=_
 cases hq:Jx [] pp with
 |none=>rfl
 |some b=>rw[hq]at h23;exact absurd h23 (by show¬(6:Int)=0;decide)

theorem Rt{ds:List Dc}{ps:List Pd}{o s:List Nat}{z a:Int}{l:List Nd}{st:St}{cs:List AV}(hf:Qu st)(hr:Sg st.h.get ⟨ds,ps,.mk o s z a l⟩ cs)(hds:ds.length≤100000)(hps:ps.length≤100000): ∃v st',Ev Tryz.prog QU 11 [.agg cs] st v st'∧v=pT (JK ⟨ds,ps,.mk o s z a l⟩)∧Qt st st':=by
 have hr0:=hr;obtain⟨kd,ld,kp,lp,o,s,z,a,kk,rfl,hD,hP,hn⟩:=hr0;obtain⟨kx,ls,ex,hK,hb⟩:=hn.QJ
 injection ex with x1 x;injection x with x2 x;injection x with x3 x;injection x with x4 x;injection x with x5 x
 injection x1 with x1;injection x2 with x2;injection x3 with _ x3;injection x4 with _ x4
 subst x1 x2 x3 x4 x5;replace hD:Y1 st.h.get ds kd ld:=hD;replace hP:ET st.h.get ps kp lp:=hP;replace hn:UN st.h.get (.mk o s z a l) _:=hn;have hbk:=hK.Uj;have hbd:=hD.Uj;have hbp:=hP.Uj;have hlp:=hP.ln;refine QE rfl Tryz.func11 rfl Tryz.ntmps11 rfl fun T hT=>?_;have K:QT [(0,_)] T:=(.cons (hT 0) .nil);have M:=Mem.start hf;refine Qn<|Qb ?_;refine QO K M rfl (Qa hD.cell (Qa hP.cell (Qa rfl (Qa rfl (Qa rfl (Qa rfl (Qa hK.cell Qp))))))) (by decide) fun c1 _ _ K M=>?_;refine Qf 3 K M ?_;intro _ K;refine oQ K M (yp M.fresh (hr.mono M.rows)) rfl rfl fun _ _ K M=>?_;refine Qf 1 K M ?_;intro _ K;refine Qm (K.QF rfl) (fun h13=>?_) (fun h13=>?_)
 ·have hb13:=h13
  replace h13:(XD ⟨ds,ps,.mk o s z a l⟩)=false:=by first|simpa using h13|(revert h13;cases(XD ⟨ds,ps,.mk o s z a l⟩)<;>simp)
  refine Qf 2 K M ?_;intro _ K;refine Qe ⟨.inr rfl,_,Wy K rfl rfl,?_⟩;refine⟨congrArg pT (a₁:=(0,1)) (a₂:=JK ⟨ds,ps,.mk o s z a l⟩) (Eq.symm ?_),M.qt⟩;exact RO h13
 have hb13:=h13
 replace h13:(XD ⟨ds,ps,.mk o s z a l⟩)=true:=by first|simpa using h13|(revert h13;cases(XD ⟨ds,ps,.mk o s z a l⟩)<;>simp)
 refine Qf 2 K M ?_;intro _ K;refine oQ K M (LN M.fresh (Y1.mono M.rows hD)) rfl rfl fun _ _ K M=>?_;refine Qf 7 K M ?_;intro _ K;refine P4 K rfl (fun h21=>?_) fun h21=>?_
 ·refine Qf 4 K M ?_;intro _ K;refine Qe ⟨.inr rfl,_,Wy K rfl rfl,?_⟩;refine⟨congrArg pT (a₁:=(xA (Jx [] ds),xz (Jx [] ds))) (a₂:=JK ⟨ds,ps,.mk o s z a l⟩) (Eq.symm ?_),M.qt⟩
  cases hq:Jx [] ds with
  |none=>rw[hq]at h21;exact absurd rfl h21
  |some b=>exact OU h13 hq
 refine Q8 ?_;show W _ _ _ _ _ _ _;refine Qn<|Qb<|o1 K (UF Hk rfl rfl) rfl fun _ K=>?_;refine QO K M rfl rfl (by decide) fun c25 _ _ K M=>?_;refine Qf 3 K M ?_;intro _ K;refine o1 K (QL Ym rfl rfl hP.len) rfl fun _ K=>?_;refine Qf 1 K M ?_;intro _ K;refine JN (fun mm1 T st9=> ∃(i:Nat) (ks:AV) (A:List (Nat×Nat×List AV)),mm1=ps.length-i∧QT [(1,.ptr c1 0 0),(6,.ptr c25 0 0),(27,kp),(28,.int .i64 (((ps.length:Nat):Int))),(29,.int .i64 (((i:Nat):Int)))] T∧Mem st.h.get st.n [] st9 ((c25,0,[ks])::(c1,0,[kd,kp,.str o,.str s,.int .i64 z,.int .i64 a,kk])::(A++[]))∧Acc st.n 8 A ks (lp.take i)∧i≤ps.length∧Wf [] ps=Wf (ps.take i) (ps.drop i)) (fun mm1 T st9 hI=>?_) _ _ _ ⟨0,.nils,[],rfl,(.cons (K _ _ rfl) (.cons (K _ _ rfl) (.cons (K _ _ rfl) (.cons (K _ _ rfl) (.cons (K _ _ rfl) .nil))))),M.less (.refl _),(by rw[List.take_zero];exact .none),(Nat.zero_le _),rfl⟩;obtain⟨i,ks,A,rfl,K,M,hA,hi,hx⟩:=hI;refine Qf 1 K M ?_;intro _ K;refine Xo K rfl (fun h30=>?_) fun h30=>?_
 ·refine Q8 ?_;show W _ _ _ _ _ _ _;refine Qn<|Uq<|Qn<|Qb ?_;obtain⟨⟨pn31,pp31,⟨_,_,_,_,l31⟩,pa31⟩,hi31⟩: ∃k,ps[i]? =some k:=⟨_,List.getElem?_eq_getElem (by omega)⟩;have hm31:=ZP hi31;obtain⟨_,hc31,hP31⟩:=hP.at_ _ _ hi31;have hP310:=hP31;obtain⟨kd31,ld31,o31,s31,z31,a31,kk31,rfl,hD31,hn31,hy31⟩:=hP310;obtain⟨kx31,ls31,ex31,hK31,hb31⟩:=hn31.QJ
  injection ex31 with x1 x;injection x with x2 x;injection x with x3 x;injection x with x4 x;injection x with x5 x
  injection x1 with x1;injection x2 with x2;injection x3 with _ x3;injection x4 with _ x4
  subst x1 x2 x3 x4 x5;replace hD31:Y1 st.h.get pp31 kd31 ld31:=hD31;replace hn31:UN st.h.get (.mk o31 s31 z31 a31 l31) _:=hn31;replace hy31:Bytes pn31:=hy31;have hl31:=hK31.Uj;have hd31:=hD31.Uj;obtain⟨x31,m31,f31,q31,_,la31,lo31,lp31⟩:=(hP.r.mem M (by simp)).load (i:=i) (cs:=_) hc31;refine o1 K (Qj (j:=i) U1 (congrArg some q31) rfl (by rw[hP.ln];omega)) rfl fun _ K=>o1 K (Qr rfl (la31 _ Y7)) rfl fun _ K=>?_;refine Ul K M Y5 (by decide) fun c8 _ _ K M=>?_;refine Q5 (k:=0) K M rfl rfl rfl V9 rfl (Qa rfl (Qa hD31.cell (Qa rfl (Qa rfl (Qa rfl (Qa rfl (Qa hK31.cell (Qa rfl Qp)))))))) rfl fun _ M=>?_;refine Qf 2 K M ?_;intro _ K;obtain⟨hfm,hfs⟩:=CB (C9 h13 hm31);refine oQ K M (Mb M.fresh (UC.AH (M.W9 (k:=1) rfl)) (ET.take M.rows hP (Mem.Ww (L:=[(c8,0,[.str pn31,kd31,.str o31,.str s31,.int .i64 z31,.int .i64 a31,kk31,.int .i64 pa31]),(c25,0,[ks]),(c1,0,[kd,kp,.str o,.str s,.int .i64 z,.int .i64 a,kk])]) (A:=A) (B:=[]) M hA)) (hP31.mono M.rows) hfm hfs) rfl rfl fun _ _ K M=>?_;refine Qf 7 K M ?_;intro _ K;refine Qm (K.QF rfl) (fun h40=>?_) (fun h40=>?_)
  ·have hb40:=h40
   replace h40: ¬((Iz (ps.take i) ⟨pn31,pp31,.mk o31 s31 z31 a31 l31,pa31⟩).2=0):=by intro hq;rw[decide_eq_true hq]at h40;cases h40
   refine Qf 4 K M ?_;intro _ K;refine Qe ⟨.inr rfl,_,Wy K rfl rfl,?_⟩
   have htw:Jx [] ds=none:=by
    cases hq:Jx [] ds with
    |none=>rfl
    |some b=>rw[hq]at h21;exact absurd h21 (by show¬(6:Int)=0;decide)
   refine⟨congrArg pT (a₁:=((Iz (ps.take i) ⟨pn31,pp31,.mk o31 s31 z31 a31 l31,pa31⟩).1,(Iz (ps.take i) ⟨pn31,pp31,.mk o31 s31 z31 a31 l31,pa31⟩).2)) (a₂:=JK ⟨ds,ps,.mk o s z a l⟩) (Eq.symm ?_),M.qt⟩;exact Dr h13 htw (by show Wf [] ps=_;rw[hx,GI hi31,if_pos (by omega)])
  have hb40:=h40
  replace h40:((Iz (ps.take i) ⟨pn31,pp31,.mk o31 s31 z31 a31 l31,pa31⟩).2=0):=by by_cases hq:(Iz (ps.take i) ⟨pn31,pp31,.mk o31 s31 z31 a31 l31,pa31⟩).2=0;exact hq;rw[decide_eq_false hq]at h40;cases h40
  refine Q8 ?_;show W _ _ _ _ _ _ _;refine Up (l:=[(1,0),(2,0),(3,0),(4,0),(5,0),(6,0),(7,0),(0,0),(8,0),(9,0),(10,0)]) (by kernel_rfl) ?_;refine d1 rfl K (Qd rfl) rfl rfl fun _ K=>d1 rfl K (WE rfl rfl) rfl rfl fun _ K=>d1 rfl K (Qw Zv rfl) rfl rfl fun _ K=>d1 rfl K (Qr rfl (M.load (k:=1) rfl (QA U0 rfl))) rfl rfl fun _ K=>d1 rfl K (Qr rfl (M.load (k:=0) rfl (Ji Y7 rfl))) rfl rfl fun _ K=>?_;refine Xv rfl K M Xr Y5 rfl rfl (Qa rfl (Qa hD31.cell (Qa rfl (Qa rfl (Qa rfl (Qa rfl (Qa hK31.cell (Qa rfl Qp)))))))) rfl rfl fun c49 _ _ K M=>?_;refine YH (k2:=0) (L:=[(c49,0,[.str pn31,kd31,.str o31,.str s31,.int .i64 z31,.int .i64 a31,kk31,.int .i64 pa31]),(c8,0,[.str pn31,kd31,.str o31,.str s31,.int .i64 z31,.int .i64 a31,kk31,.int .i64 pa31]),(c25,0,[ks]),(c1,0,[kd,kp,.str o,.str s,.int .i64 z,.int .i64 a,kk])]) (A:=A) (B:=[]) rfl K M hA Xr rfl rfl rfl rfl (by rw[List.length_take];omega) rfl fun ks50 A50 _ _ K hA50 M=>?_;refine d1 rfl K (Qd rfl) rfl rfl fun _ K=>d1 rfl K (WE rfl rfl) rfl rfl fun _ K=>d1 rfl K (Qw Zv rfl) rfl rfl fun _ K=>?_;refine XS (k:=2) rfl K M rfl rfl rfl VI (hA50.cell) rfl fun _ M=>?_;refine UG ?_;show W _ _ _ _ _ _ _;refine Qb<|o1 K (Jf rfl rfl (by omega) (by omega)) rfl fun _ K=>o1 K (Qd rfl) rfl fun _ K=>Qy ?_;exact⟨_,(by omega),i+1,ks50,A50,rfl,(.cons (K _ _ rfl) (.cons (K _ _ rfl) (.cons (K _ _ rfl) (.cons (K _ _ rfl) (.cons (K _ _ rfl) .nil))))),M.less (.cons _ (.cons _ (.refl _))),(by rw[PA hc31];exact hA50),(by omega),(by rw[hx,GI hi31,if_neg (by omega)])⟩
 refine J7 ?_;show W _ _ _ _ _ _ _;refine Qf 5 K M ?_;intro _ K;obtain⟨hfm,hfs⟩:=CA h13;refine oQ K M (Bf _ _ _ _ _ _ M.fresh (UC.AH (M.W9 (k:=0) rfl)) (ET.qP M.rows hP (by omega) (Mem.Ww (L:=[(c25,0,[ks]),(c1,0,[kd,kp,.str o,.str s,.int .i64 z,.int .i64 a,kk])]) (A:=A) (B:=[]) M hA)) (Y1.mono M.rows hD) (hn.mono M.rows) hfm (by omega)) rfl rfl fun _ _ K M=>?_;refine Qf 4 K M ?_;intro _ K;refine Qe ⟨.inr rfl,_,Wy K rfl rfl,?_⟩
 have htw:Jx [] ds=none:=by
  cases hq:Jx [] ds with
  |none=>rfl
  |some b=>rw[hq]at h21;exact absurd h21 (by show¬(6:Int)=0;decide)
 refine⟨congrArg pT (a₁:=((UK ps (.mk o s z a l) ds).1,(UK ps (.mk o s z a l) ds).2)) (a₂:=JK ⟨ds,ps,.mk o s z a l⟩) (Eq.symm ?_),M.qt⟩;exact BI h13 htw (by show Wf [] ps=_;rw[hx,Jo (by omega),Wf])
end Go.Proofs.YtadjjadimlkkgaaGreatDoor
