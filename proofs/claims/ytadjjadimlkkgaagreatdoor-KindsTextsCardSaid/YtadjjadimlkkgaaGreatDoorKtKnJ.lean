/-
  Kinds of programs: the program's answer.
-/
import Derived.Test.YtadjjadimlkkgaaGreatDoorKtKnI
namespace Go.Proofs.YtadjjadimlkkgaaGreatDoor
open Go Go.RowKit
set_option maxHeartbeats 8000000
set_option linter.unusedVariables false
set_option linter.unusedSimpArgs false
set_option linter.unnecessarySimpa false
set_option maxRecDepth 100000

def ua(r:Option Int):Int:=r.getD 0
def uY:Option Int→Int
 |some _=>6
 |none=>0
theorem N7{st:St}(hf:Q3 st){l:List Dc}{kd:AV}{ld:List (List AV)}(hD:Yo st.h.get l kd ld): ∃v st',Ev Tryz.prog Jg 44 [kd] st v st'∧v=.tup [.int .i64 (ua (J2 [] l)),.int .i64 (uY (J2 [] l))]∧Qt st st':=by
 obtain⟨v,st',h,rfl,q⟩:=RG hf hD
 exact⟨_,_,h,by cases J2 [] l<;>rfl,q⟩
def Ao(ps:List Pd)(p:Pd):Int×Int:=if ps.any (fun q=>decide (q.name=p.name))then(p.at_,6)else match J2 [] p.params with
 |some a=>(a,6)
 |none=>UJ ps p.body p.params
theorem Ez{l:List Pd}{i:Nat}{p:Pd}(h:l[i]? =some p):Ef (l.take i) (l.drop i)=if(Ao (l.take i) p).2≠0 then some (Ao (l.take i) p)else Ef (l.take (i+1)) (l.drop (i+1)):=by
 rw[P2 h,Ao]
 by_cases h1:(l.take i).any (fun q=>decide (q.name=p.name))=true
 ·rw[if_pos h1,if_pos h1];rfl
 rw[if_neg h1,if_neg h1]
 cases J2 [] p.params with
 |some a=>rfl
 |none=>rfl
theorem Li{n:List Nat}{pp:List Dc}{b:Nd}{z:Int}(h:Xc ⟨n,pp,b,z⟩=true):Jm b=true∧pp.length+Fe b≤1000000:=by
 rw[ZN]at h;simp only[Bool.and_eq_true,decide_eq_true_eq,Yf]at h;obtain⟨_,h2,_,⟨h3,_⟩,h4⟩:=h;exact⟨h4,by omega⟩
theorem ES{ds:List Dc}{ps:List Pd}{m:Nd}(h:XS ⟨ds,ps,m⟩=true){p:Pd}(hm:p∈ps):Xc p=true:=by
 rw[Zy]at h;simp only[Bool.and_eq_true,List.all_eq_true]at h;exact h.2.1 p hm
theorem Lh{ds:List Dc}{ps:List Pd}{m:Nd}(h:XS ⟨ds,ps,m⟩=true):Jm m=true∧Fe m≤2000:=by
 rw[Zy]at h;simp only[Bool.and_eq_true,decide_eq_true_eq,Yf]at h;exact⟨h.2.2.2,by have:=h.2.2.1.1;omega⟩
theorem EE.take{h h':Hp}(hl:AZ h h'){ps:List Pd}{kp:AV}{lp:List (List AV)}(H:EE h ps kp lp){i:Nat}{ks:AV}(r:J8 h' [] 8 (lp.take i) ks):EE h' (ps.take i) ks (lp.take i):=
 ⟨r,by rw[List.length_take,List.length_take,H.ln],fun j k hj=>by
  have hlt:=(List.getElem?_eq_some_iff.1 hj).1;rw[List.length_take]at hlt;rw[List.getElem?_take_of_lt (by omega)]at hj;obtain⟨cs,h1,h2⟩:=H.at_ _ _ hj
  exact⟨cs,by rw[List.getElem?_take_of_lt (by omega)];exact h1,h2.mono hl⟩⟩
theorem EE.Mt{h h':Hp}(hl:AZ h h'){ps:List Pd}{kp:AV}{lp:List (List AV)}(H:EE h ps kp lp){i:Nat}(hi:ps.length≤i){ks:AV}(r:J8 h' [] 8 (lp.take i) ks):EE h' ps ks (lp.take i):=by
 have h1:=EE.take hl H r;rw[List.take_of_length_le hi]at h1;exact h1
theorem Pe{α:Type}{l:List α}{i:Nat}{x:α}(h:l[i]? =some x):l.take (i+1)=l.take i++[x]:=by rw[List.take_add_one,h];rfl
theorem Oq{p:Pg}(h:XS p=false):Zk p=(0,1):=by rw[Zk,if_neg (by rw[h];decide)]
theorem Ii{p:Pg}(h:XS p=true){a:Int}(h2:J2 [] p.decls=some a):Zk p=(a,6):=by rw[Zk,if_pos h,h2]
theorem Ag{p:Pg}(h:XS p=true)(h2:J2 [] p.decls=none){r:Int×Int}(h3:Ef [] p.preds=some r):Zk p=r:=by rw[Zk,if_pos h,h2];simp only[h3]
theorem Kl{p:Pg}(h:XS p=true)(h2:J2 [] p.decls=none)(h3:Ef [] p.preds=none):Zk p=UJ p.preds p.main p.decls:=by rw[Zk,if_pos h,h2];simp only[h3]

theorem Ss{pn:List Nat}{pp:List Dc}{o s:List Nat}{z a pa:Int}{l:List Nd}{st:St}{cs:List AV}(hf:Q3 st)(hr:R9 st.h.get ⟨pn,pp,.mk o s z a l,pa⟩ cs){c3:Nat}{n3 o3 s3:List Nat}{z3 a3 pa3:Int}{kd3 kk3:AV}(h3:X4 st.h.get c3 0 [.str n3,kd3,.str o3,.str s3,.int .i64 z3,.int .i64 a3,kk3,.int .i64 pa3]): ∃v st',Ev Tryz.prog Jg 91 [.agg cs,.ptr c3 0 0] st v st'∧v=.bool (decide (pn=n3))∧Qt st st':=by
 have hr0:=hr;have hr0:=hr;obtain⟨kd,ld,o,s,z,a,kk,rfl,hD,hn,hy⟩:=hr0;obtain⟨kx,ls,ex,hK,hb⟩:=hn.Ju
 injection ex with x1 x;injection x with x2 x;injection x with x3 x;injection x with x4 x;injection x with x5 x
 injection x1 with x1;injection x2 with x2;injection x3 with _ x3;injection x4 with _ x4
 subst x1 x2 x3 x4 x5;replace hD:Yo st.h.get pp kd ld:=hD;replace hn:YW st.h.get (.mk o s z a l) _:=hn;replace hy:Bytes pn:=hy;have hl:=hK.Yx;have hd:=hD.Yx;refine QG rfl Tryz.func91 rfl Tryz.ntmps91 rfl fun T hT=>?_;have K:Jk [(0,_),(1,_)] T:=(.cons (hT 0) (.cons (hT 1) .nil));have M:=Mem.start hf;refine Qw<|Qi ?_;refine JL K M rfl (Qa rfl (Qa hD.cell (Qa rfl (Qa rfl (Qa rfl (Qa rfl (Qa hK.cell (Qa rfl QE)))))))) (by decide) fun c2 _ _ K M=>?_;refine Qc 4 K M ?_;intro _ K;refine o1 K (Qq rfl (YM (M.rows _ _ _ h3) (Ql Ji rfl))) rfl fun _ K=>?_;refine Qc 2 K M ?_;intro _ K;refine Qd ⟨.inr rfl,_,J7 K rfl,?_⟩;exact⟨rfl,M.qt⟩

theorem SX{pn:List Nat}{pp:List Dc}{o s:List Nat}{z a pa:Int}{l:List Nd}{st:St}{cs:List AV}(hf:Q3 st){cc:Nat}{ps:List Pd}{kp:AV}{lp:List (List AV)}(hC:X4 st.h.get cc 0 [kp])(hP:EE st.h.get ps kp lp)(hr:R9 st.h.get ⟨pn,pp,.mk o s z a l,pa⟩ cs)(ht:Jm (.mk o s z a l)=true)(hsz:pp.length+Fe (.mk o s z a l)≤1000000): ∃v st',Ev Tryz.prog Jg 45 [.ptr cc 0 0,.agg cs] st v st'∧v=pT (Ao ps ⟨pn,pp,.mk o s z a l,pa⟩)∧Qt st st':=by
 have hr0:=hr;have hr0:=hr;obtain⟨kd,ld,o,s,z,a,kk,rfl,hD,hn,hy⟩:=hr0;obtain⟨kx,ls,ex,hK,hb⟩:=hn.Ju
 injection ex with x1 x;injection x with x2 x;injection x with x3 x;injection x with x4 x;injection x with x5 x
 injection x1 with x1;injection x2 with x2;injection x3 with _ x3;injection x4 with _ x4
 subst x1 x2 x3 x4 x5;replace hD:Yo st.h.get pp kd ld:=hD;replace hn:YW st.h.get (.mk o s z a l) _:=hn;replace hy:Bytes pn:=hy;have hl:=hK.Yx;have hd:=hD.Yx;have hlp:=hP.ln;refine QG rfl Tryz.func45 rfl Tryz.ntmps45 rfl fun T hT=>?_;have K:Jk [(0,_),(1,_)] T:=(.cons (hT 0) (.cons (hT 1) .nil));have M:=Mem.start hf;refine Qw<|Qi ?_;refine JL K M rfl (Qa rfl (Qa hD.cell (Qa rfl (Qa rfl (Qa rfl (Qa rfl (Qa hK.cell (Qa rfl QE)))))))) (by decide) fun c3 _ _ K M=>?_;refine Qc 5 K M ?_;intro _ K;refine o1 K (Qq rfl (YM (M.rows _ _ _ hC) (Ql U6 rfl))) rfl fun _ K=>o1 K (KB rfl rfl) rfl fun _ K=>?_
 obtain⟨v13,st13,ev13,rfl,q13⟩:=FG (fa:=[]) (fc:=[.ptr c3 0 0]) (p:=fun p:Pd=>decide (p.name=pn)) M.fresh (EE.mono M.rows hP) (fun k hk st1 cs q hr1=>by
  obtain⟨pn9,pp9,⟨o9,s9,z9,a9,l9⟩,pa9⟩:=k
  exact Ss q.fresh hr1 ((JS.Vl (M.Qr (k:=0) rfl)).UG M.fresh (q.UG []) (by simp)))
 refine o1 K (Qg rfl ev13) rfl fun _ K=>?_;replace M:=M.quiet q13;refine Q5 ?_;show W _ _ _ _ _ _ _;refine Qj (K.QN rfl) (fun h13=>?_) (fun h13=>?_)
 ·have hb13:=h13;refine Qc 4 K M ?_;intro _ K;refine Qd ⟨.inr rfl,_,Zm K rfl rfl,?_⟩;refine⟨congrArg pT (a₁:=(pa,6)) (a₂:=Ao ps ⟨pn,pp,.mk o s z a l,pa⟩) (Eq.symm ?_),M.qt⟩;exact if_pos h13
 have hb13:=h13;refine Qc 2 K M ?_;intro _ K;refine oQ K M (N7 M.fresh (Yo.mono M.rows hD)) rfl rfl fun _ _ K M=>?_;refine Qc 7 K M ?_;intro _ K;refine IU K rfl (fun h23=>?_) fun h23=>?_
 ·refine Qc 4 K M ?_;intro _ K;refine Qd ⟨.inr rfl,_,Zm K rfl rfl,?_⟩;refine⟨congrArg pT (a₁:=(ua (J2 [] pp),uY (J2 [] pp))) (a₂:=Ao ps ⟨pn,pp,.mk o s z a l,pa⟩) (Eq.symm ?_),M.qt⟩;refine(if_neg (by rw[h13];decide)).trans ?_;show(match J2 [] pp with|some a=>(a,6)|none=>UJ ps (.mk o s z a l) pp)=_
  cases hq:J2 [] pp with
  |none=>rw[hq]at h23;exact absurd rfl h23
  |some b=>rfl
 refine Qc 5 K M ?_;intro _ K;refine oQ K M (GZ _ _ _ _ _ _ M.fresh (M.rows _ _ _ hC) (EE.mono M.rows hP) (Yo.mono M.rows hD) (hn.mono M.rows) ht hsz) rfl rfl fun _ _ K M=>?_;refine Qc 4 K M ?_;intro _ K;refine Qd ⟨.inr rfl,_,Zm K rfl rfl,?_⟩;refine⟨congrArg pT (a₁:=((UJ ps (.mk o s z a l) pp).1,(UJ ps (.mk o s z a l) pp).2)) (a₂:=Ao ps ⟨pn,pp,.mk o s z a l,pa⟩) (Eq.symm ?_),M.qt⟩;refine(if_neg (by rw[h13];decide)).trans ?_;show(match J2 [] pp with|some a=>(a,6)|none=>UJ ps (.mk o s z a l) pp)=_
 cases hq:J2 [] pp with
 |none=>rfl
 |some b=>rw[hq]at h23;exact absurd h23 (by show¬(6:Int)=0;decide)

theorem PT{ds:List Dc}{ps:List Pd}{o s:List Nat}{z a:Int}{l:List Nd}{st:St}{cs:List AV}(hf:Q3 st)(hr:qp st.h.get ⟨ds,ps,.mk o s z a l⟩ cs)(hds:ds.length≤100000)(hps:ps.length≤100000): ∃v st',Ev Tryz.prog Jg 11 [.agg cs] st v st'∧v=pT (Zk ⟨ds,ps,.mk o s z a l⟩)∧Qt st st':=by
 have hr0:=hr;obtain⟨kd,ld,kp,lp,o,s,z,a,kk,rfl,hD,hP,hn⟩:=hr0;obtain⟨kx,ls,ex,hK,hb⟩:=hn.Ju
 injection ex with x1 x;injection x with x2 x;injection x with x3 x;injection x with x4 x;injection x with x5 x
 injection x1 with x1;injection x2 with x2;injection x3 with _ x3;injection x4 with _ x4
 subst x1 x2 x3 x4 x5;replace hD:Yo st.h.get ds kd ld:=hD;replace hP:EE st.h.get ps kp lp:=hP;replace hn:YW st.h.get (.mk o s z a l) _:=hn;have hbk:=hK.Yx;have hbd:=hD.Yx;have hbp:=hP.Yx;have hlp:=hP.ln;refine QG rfl Tryz.func11 rfl Tryz.ntmps11 rfl fun T hT=>?_;have K:Jk [(0,_)] T:=(.cons (hT 0) .nil);have M:=Mem.start hf;refine Qw<|Qi ?_;refine JL K M rfl (Qa hD.cell (Qa hP.cell (Qa rfl (Qa rfl (Qa rfl (Qa rfl (Qa hK.cell QE))))))) (by decide) fun c1 _ _ K M=>?_;refine Qc 3 K M ?_;intro _ K;refine oQ K M (ju M.fresh (hr.mono M.rows)) rfl rfl fun _ _ K M=>?_;refine Qc 1 K M ?_;intro _ K;refine Qj (K.QN rfl) (fun h13=>?_) (fun h13=>?_)
 ·have hb13:=h13
  replace h13:(XS ⟨ds,ps,.mk o s z a l⟩)=false:=by first|simpa using h13|(revert h13;cases(XS ⟨ds,ps,.mk o s z a l⟩)<;>simp)
  refine Qc 2 K M ?_;intro _ K;refine Qd ⟨.inr rfl,_,Zm K rfl rfl,?_⟩;refine⟨congrArg pT (a₁:=(0,1)) (a₂:=Zk ⟨ds,ps,.mk o s z a l⟩) (Eq.symm ?_),M.qt⟩;exact Oq h13
 have hb13:=h13
 replace h13:(XS ⟨ds,ps,.mk o s z a l⟩)=true:=by first|simpa using h13|(revert h13;cases(XS ⟨ds,ps,.mk o s z a l⟩)<;>simp)
 refine Qc 2 K M ?_;intro _ K;refine oQ K M (N7 M.fresh (Yo.mono M.rows hD)) rfl rfl fun _ _ K M=>?_;refine Qc 7 K M ?_;intro _ K;refine IU K rfl (fun h21=>?_) fun h21=>?_
 ·refine Qc 4 K M ?_;intro _ K;refine Qd ⟨.inr rfl,_,Zm K rfl rfl,?_⟩;refine⟨congrArg pT (a₁:=(ua (J2 [] ds),uY (J2 [] ds))) (a₂:=Zk ⟨ds,ps,.mk o s z a l⟩) (Eq.symm ?_),M.qt⟩
  cases hq:J2 [] ds with
  |none=>rw[hq]at h21;exact absurd rfl h21
  |some b=>exact Ii h13 hq
 refine QO ?_;show W _ _ _ _ _ _ _;refine Qw<|Qi<|o1 K (QH I3 rfl rfl) rfl fun _ K=>?_;refine JL K M rfl rfl (by decide) fun c25 _ _ K M=>?_;refine Qc 3 K M ?_;intro _ K;refine o1 K (QP Y3 rfl rfl hP.len) rfl fun _ K=>?_;refine Qc 1 K M ?_;intro _ K;refine JX (fun mm1 T st9=> ∃(i:Nat) (ks:AV) (A:List (Nat×Nat×List AV)),mm1=ps.length-i∧Jk [(1,.ptr c1 0 0),(6,.ptr c25 0 0),(27,kp),(28,.int .i64 (((ps.length:Nat):Int))),(29,.int .i64 (((i:Nat):Int)))] T∧Mem st.h.get st.n [] st9 ((c25,0,[ks])::(c1,0,[kd,kp,.str o,.str s,.int .i64 z,.int .i64 a,kk])::(A++[]))∧Acc st.n 8 A ks (lp.take i)∧i≤ps.length∧Ef [] ps=Ef (ps.take i) (ps.drop i)) (fun mm1 T st9 hI=>?_) _ _ _ ⟨0,.nils,[],rfl,(.cons (K _ _ rfl) (.cons (K _ _ rfl) (.cons (K _ _ rfl) (.cons (K _ _ rfl) (.cons (K _ _ rfl) .nil))))),M.less (.refl _),(by rw[List.take_zero];exact .none),(Nat.zero_le _),rfl⟩;obtain⟨i,ks,A,rfl,K,M,hA,hi,hx⟩:=hI;refine Qc 1 K M ?_;intro _ K;refine YX K rfl (fun h30=>?_) fun h30=>?_
 ·refine QO ?_;show W _ _ _ _ _ _ _;refine Qw<|UN<|Qw<|Qi ?_;obtain⟨⟨pn31,pp31,⟨_,_,_,_,l31⟩,pa31⟩,hi31⟩: ∃k,ps[i]? =some k:=⟨_,List.getElem?_eq_getElem (by omega)⟩;have hm31:=UI hi31;obtain⟨_,hc31,hP31⟩:=hP.at_ _ _ hi31;have hP310:=hP31;obtain⟨kd31,ld31,o31,s31,z31,a31,kk31,rfl,hD31,hn31,hy31⟩:=hP310;obtain⟨kx31,ls31,ex31,hK31,hb31⟩:=hn31.Ju
  injection ex31 with x1 x;injection x with x2 x;injection x with x3 x;injection x with x4 x;injection x with x5 x
  injection x1 with x1;injection x2 with x2;injection x3 with _ x3;injection x4 with _ x4
  subst x1 x2 x3 x4 x5;replace hD31:Yo st.h.get pp31 kd31 ld31:=hD31;replace hn31:YW st.h.get (.mk o31 s31 z31 a31 l31) _:=hn31;replace hy31:Bytes pn31:=hy31;have hl31:=hK31.Yx;have hd31:=hD31.Yx;obtain⟨x31,m31,f31,q31,_,la31,lo31,lp31⟩:=(hP.r.mem M (by simp)).load (i:=i) (cs:=_) hc31;refine o1 K (Qn (j:=i) Um (congrArg some q31) rfl (by rw[hP.ln];omega)) rfl fun _ K=>o1 K (Qq rfl (la31 _ X8)) rfl fun _ K=>?_;refine Yb K M YO (by decide) fun c8 _ _ K M=>?_;refine J5 (k:=0) K M rfl rfl rfl V4 rfl (Qa rfl (Qa hD31.cell (Qa rfl (Qa rfl (Qa rfl (Qa rfl (Qa hK31.cell (Qa rfl QE)))))))) rfl fun _ M=>?_;refine Qc 2 K M ?_;intro _ K;obtain⟨hfm,hfs⟩:=Li (ES h13 hm31);refine oQ K M (SX M.fresh (JS.Vl (M.Qr (k:=1) rfl)) (EE.take M.rows hP (Mem.Gj (L:=[(c8,0,[.str pn31,kd31,.str o31,.str s31,.int .i64 z31,.int .i64 a31,kk31,.int .i64 pa31]),(c25,0,[ks]),(c1,0,[kd,kp,.str o,.str s,.int .i64 z,.int .i64 a,kk])]) (A:=A) (B:=[]) M hA)) (hP31.mono M.rows) hfm hfs) rfl rfl fun _ _ K M=>?_;refine Qc 7 K M ?_;intro _ K;refine Qj (K.QN rfl) (fun h40=>?_) (fun h40=>?_)
  ·have hb40:=h40
   replace h40: ¬((Ao (ps.take i) ⟨pn31,pp31,.mk o31 s31 z31 a31 l31,pa31⟩).2=0):=by intro hq;rw[decide_eq_true hq]at h40;cases h40
   refine Qc 4 K M ?_;intro _ K;refine Qd ⟨.inr rfl,_,Zm K rfl rfl,?_⟩
   have htw:J2 [] ds=none:=by
    cases hq:J2 [] ds with
    |none=>rfl
    |some b=>rw[hq]at h21;exact absurd h21 (by show¬(6:Int)=0;decide)
   refine⟨congrArg pT (a₁:=((Ao (ps.take i) ⟨pn31,pp31,.mk o31 s31 z31 a31 l31,pa31⟩).1,(Ao (ps.take i) ⟨pn31,pp31,.mk o31 s31 z31 a31 l31,pa31⟩).2)) (a₂:=Zk ⟨ds,ps,.mk o s z a l⟩) (Eq.symm ?_),M.qt⟩;exact Ag h13 htw (by show Ef [] ps=_;rw[hx,Ez hi31,if_pos (by omega)])
  have hb40:=h40
  replace h40:((Ao (ps.take i) ⟨pn31,pp31,.mk o31 s31 z31 a31 l31,pa31⟩).2=0):=by by_cases hq:(Ao (ps.take i) ⟨pn31,pp31,.mk o31 s31 z31 a31 l31,pa31⟩).2=0;exact hq;rw[decide_eq_false hq]at h40;cases h40
  refine QO ?_;show W _ _ _ _ _ _ _;refine Jr (l:=[(1,0),(2,0),(3,0),(4,0),(5,0),(6,0),(7,0),(0,0),(8,0),(9,0),(10,0)]) (by kernel_rfl) ?_;refine d1 rfl K (Qb rfl) rfl rfl fun _ K=>d1 rfl K (JY rfl rfl) rfl rfl fun _ K=>d1 rfl K (Qf X1 rfl) rfl rfl fun _ K=>d1 rfl K (Qq rfl (M.load (k:=1) rfl (Ql U6 rfl))) rfl rfl fun _ K=>d1 rfl K (Qq rfl (M.load (k:=0) rfl (Ja X8 rfl))) rfl rfl fun _ K=>?_;refine X6 rfl K M Z2 YO rfl rfl (Qa rfl (Qa hD31.cell (Qa rfl (Qa rfl (Qa rfl (Qa rfl (Qa hK31.cell (Qa rfl QE)))))))) rfl rfl fun c49 _ _ K M=>?_;refine EH (k2:=0) (L:=[(c49,0,[.str pn31,kd31,.str o31,.str s31,.int .i64 z31,.int .i64 a31,kk31,.int .i64 pa31]),(c8,0,[.str pn31,kd31,.str o31,.str s31,.int .i64 z31,.int .i64 a31,kk31,.int .i64 pa31]),(c25,0,[ks]),(c1,0,[kd,kp,.str o,.str s,.int .i64 z,.int .i64 a,kk])]) (A:=A) (B:=[]) rfl K M hA Z2 rfl rfl rfl rfl (by rw[List.length_take];omega) rfl fun ks50 A50 _ _ K hA50 M=>?_;refine d1 rfl K (Qb rfl) rfl rfl fun _ K=>d1 rfl K (JY rfl rfl) rfl rfl fun _ K=>d1 rfl K (Qf X1 rfl) rfl rfl fun _ K=>?_;refine Eu (k:=2) rfl K M rfl rfl rfl Vt (hA50.cell) rfl fun _ M=>?_;refine J4 ?_;show W _ _ _ _ _ _ _;refine Qi<|o1 K (QV rfl rfl (by omega) (by omega)) rfl fun _ K=>o1 K (Qb rfl) rfl fun _ K=>Q5 ?_;exact⟨_,(by omega),i+1,ks50,A50,rfl,(.cons (K _ _ rfl) (.cons (K _ _ rfl) (.cons (K _ _ rfl) (.cons (K _ _ rfl) (.cons (K _ _ rfl) .nil))))),M.less (.cons _ (.cons _ (.refl _))),(by rw[Pe hc31];exact hA50),(by omega),(by rw[hx,Ez hi31,if_neg (by omega)])⟩
 refine JJ ?_;show W _ _ _ _ _ _ _;refine Qc 5 K M ?_;intro _ K;obtain⟨hfm,hfs⟩:=Lh h13;refine oQ K M (GZ _ _ _ _ _ _ M.fresh (JS.Vl (M.Qr (k:=0) rfl)) (EE.Mt M.rows hP (by omega) (Mem.Gj (L:=[(c25,0,[ks]),(c1,0,[kd,kp,.str o,.str s,.int .i64 z,.int .i64 a,kk])]) (A:=A) (B:=[]) M hA)) (Yo.mono M.rows hD) (hn.mono M.rows) hfm (by omega)) rfl rfl fun _ _ K M=>?_;refine Qc 4 K M ?_;intro _ K;refine Qd ⟨.inr rfl,_,Zm K rfl rfl,?_⟩
 have htw:J2 [] ds=none:=by
  cases hq:J2 [] ds with
  |none=>rfl
  |some b=>rw[hq]at h21;exact absurd h21 (by show¬(6:Int)=0;decide)
 refine⟨congrArg pT (a₁:=((UJ ps (.mk o s z a l) ds).1,(UJ ps (.mk o s z a l) ds).2)) (a₂:=Zk ⟨ds,ps,.mk o s z a l⟩) (Eq.symm ?_),M.qt⟩;exact Kl h13 htw (by show Ef [] ps=_;rw[hx,Jh (by omega),Ef])
end Go.Proofs.YtadjjadimlkkgaaGreatDoor
