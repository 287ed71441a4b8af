/-
  Kinds of programs: the program's answer.
-/
import Derived.Test.YtadjjadimlkkgaaGreatDoorLiKnI
namespace Go.Proofs.YtadjjadimlkkgaaGreatDoor
open Go Go.RowKit
set_option maxHeartbeats 8000000
set_option linter.unusedVariables false
set_option linter.unusedSimpArgs false
set_option linter.unnecessarySimpa false
set_option maxRecDepth 100000

def yM(r:Option Int):Int:=r.getD 0
def yL:Option Int→Int
 |some _=>6
 |none=>0
theorem KZ{st:St}(hf:Qx st){l:List Dc}{kd:AV}{ld:List (List AV)}(hD:Y8 st.h.get l kd ld): ∃v st',Ev Tryz.prog QT 44 [kd] st v st'∧v=.tup [.int .i64 (yM (JO [] l)),.int .i64 (yL (JO [] l))]∧Qt st st':=by
 obtain⟨v,st',h,rfl,q⟩:=Ry hf hD
 exact⟨_,_,h,by cases JO [] l<;>rfl,q⟩
def Hl(ps:List Pd)(p:Pd):Int×Int:=if ps.any (fun q=>decide (q.name=p.name))then(p.at_,6)else match JO [] p.params with
 |some a=>(a,6)
 |none=>UC ps p.body p.params
theorem OU{l:List Pd}{i:Nat}{p:Pd}(h:l[i]? =some p):A0 (l.take i) (l.drop i)=if(Hl (l.take i) p).2≠0 then some (Hl (l.take i) p)else A0 (l.take (i+1)) (l.drop (i+1)):=by
 rw[DQ h,Hl]
 by_cases h1:(l.take i).any (fun q=>decide (q.name=p.name))=true
 ·rw[if_pos h1,if_pos h1];rfl
 rw[if_neg h1,if_neg h1]
 cases JO [] p.params with
 |some a=>rfl
 |none=>rfl
theorem B7{n:List Nat}{pp:List Dc}{b:Nd}{z:Int}(h:XA ⟨n,pp,b,z⟩=true):QO b=true∧pp.length+XN b≤1000000:=by
 rw[W9]at h;simp only[Bool.and_eq_true,decide_eq_true_eq,Uj]at h;obtain⟨_,h2,_,⟨h3,_⟩,h4⟩:=h;exact⟨h4,by omega⟩
theorem B5{ds:List Dc}{ps:List Pd}{m:Nd}(h:V2 ⟨ds,ps,m⟩=true){p:Pd}(hm:p∈ps):XA p=true:=by
 rw[W8]at h;simp only[Bool.and_eq_true,List.all_eq_true]at h;exact h.2.1 p hm
theorem B6{ds:List Dc}{ps:List Pd}{m:Nd}(h:V2 ⟨ds,ps,m⟩=true):QO m=true∧XN m≤2000:=by
 rw[W8]at h;simp only[Bool.and_eq_true,decide_eq_true_eq,Uj]at h;exact⟨h.2.2.2,by have:=h.2.2.1.1;omega⟩
theorem Fe.take{h h':Hp}(hl:VH h h'){ps:List Pd}{kp:AV}{lp:List (List AV)}(H:Fe h ps kp lp){i:Nat}{ks:AV}(r:VK h' [] 8 (lp.take i) ks):Fe h' (ps.take i) ks (lp.take i):=
 ⟨r,by rw[List.length_take,List.length_take,H.ln],fun j k hj=>by
  have hlt:=(List.getElem?_eq_some_iff.1 hj).1;rw[List.length_take]at hlt;rw[List.getElem?_take_of_lt (by omega)]at hj;obtain⟨cs,h1,h2⟩:=H.at_ _ _ hj
  exact⟨cs,by rw[List.getElem?_take_of_lt (by omega)];exact h1,h2.mono hl⟩⟩
theorem Fe.Mr{h h':Hp}(hl:VH h h'){ps:List Pd}{kp:AV}{lp:List (List AV)}(H:Fe h ps kp lp){i:Nat}(hi:ps.length≤i){ks:AV}(r:VK h' [] 8 (lp.take i) ks):Fe h' ps ks (lp.take i):=by
 have h1:=Fe.take hl H r;rw[List.take_of_length_le hi]at h1;exact h1
theorem D5{α:Type}{l:List α}{i:Nat}{x:α}(h:l[i]? =some x):l.take (i+1)=l.take i++[x]:=by rw[List.take_add_one,h];rfl
theorem PT{p:Pg}(h:V2 p=false):UP p=(0,1):=by rw[UP,if_neg (by rw[h];decide)]
theorem Og{p:Pg}(h:V2 p=true){a:Int}(h2:JO [] p.decls=some a):UP p=(a,6):=by rw[UP,if_pos h,h2]
theorem Cm{p:Pg}(h:V2 p=true)(h2:JO [] p.decls=none){r:Int×Int}(h3:A0 [] p.preds=some r):UP p=r:=by rw[UP,if_pos h,h2];simp only[h3]
theorem GJ{p:Pg}(h:V2 p=true)(h2:JO [] p.decls=none)(h3:A0 [] p.preds=none):UP p=UC p.preds p.main p.decls:=by rw[UP,if_pos h,h2];simp only[h3]

theorem RW{pn:List Nat}{pp:List Dc}{o s:List Nat}{z a pa:Int}{l:List Nd}{st:St}{cs:List AV}(hf:Qx st)(hr:Mb st.h.get ⟨pn,pp,.mk o s z a l,pa⟩ cs){c3:Nat}{n3 o3 s3:List Nat}{z3 a3 pa3:Int}{kd3 kk3:AV}(h3:Yy st.h.get c3 0 [.str n3,kd3,.str o3,.str s3,.int .i64 z3,.int .i64 a3,kk3,.int .i64 pa3]): ∃v st',Ev Tryz.prog QT 91 [.agg cs,.ptr c3 0 0] st v st'∧v=.bool (decide (pn=n3))∧Qt st st':=by
 have hr0:=hr;have hr0:=hr;obtain⟨kd,ld,o,s,z,a,kk,rfl,hD,hn,hy⟩:=hr0;obtain⟨kx,ls,ex,hK,hb⟩:=hn.Jl
 injection ex with x1 x;injection x with x2 x;injection x with x3 x;injection x with x4 x;injection x with x5 x
 injection x1 with x1;injection x2 with x2;injection x3 with _ x3;injection x4 with _ x4
 subst x1 x2 x3 x4 x5;replace hD:Y8 st.h.get pp kd ld:=hD;replace hn:Yq st.h.get (.mk o s z a l) _:=hn;replace hy:Bytes pn:=hy;have hl:=hK.UK;have hd:=hD.UK;refine Q6 rfl Tryz.func91 rfl Tryz.ntmps91 rfl fun T hT=>?_;have K:Jf [(0,_),(1,_)] T:=(.cons (hT 0) (.cons (hT 1) .nil));have M:=Mem.start hf;refine Qo<|Qb ?_;refine QM K M rfl (Qa rfl (Qa hD.cell (Qa rfl (Qa rfl (Qa rfl (Qa rfl (Qa hK.cell (Qa rfl Qy)))))))) (by decide) fun c2 _ _ K M=>?_;refine Qg 4 K M ?_;intro _ K;refine o1 K (Qr rfl (Wa (M.rows _ _ _ h3) (Qw QY rfl))) rfl fun _ K=>?_;refine Qg 2 K M ?_;intro _ K;refine Qf ⟨.inr rfl,_,J4 K rfl,?_⟩;exact⟨rfl,M.qt⟩

theorem SC{pn:List Nat}{pp:List Dc}{o s:List Nat}{z a pa:Int}{l:List Nd}{st:St}{cs:List AV}(hf:Qx st){cc:Nat}{ps:List Pd}{kp:AV}{lp:List (List AV)}(hC:Yy st.h.get cc 0 [kp])(hP:Fe st.h.get ps kp lp)(hr:Mb st.h.get ⟨pn,pp,.mk o s z a l,pa⟩ cs)(ht:QO (.mk o s z a l)=true)(hsz:pp.length+XN (.mk o s z a l)≤1000000): ∃v st',Ev Tryz.prog QT 45 [.ptr cc 0 0,.agg cs] st v st'∧v=pT (Hl ps ⟨pn,pp,.mk o s z a l,pa⟩)∧Qt st st':=by
 have hr0:=hr;have hr0:=hr;obtain⟨kd,ld,o,s,z,a,kk,rfl,hD,hn,hy⟩:=hr0;obtain⟨kx,ls,ex,hK,hb⟩:=hn.Jl
 injection ex with x1 x;injection x with x2 x;injection x with x3 x;injection x with x4 x;injection x with x5 x
 injection x1 with x1;injection x2 with x2;injection x3 with _ x3;injection x4 with _ x4
 subst x1 x2 x3 x4 x5;replace hD:Y8 st.h.get pp kd ld:=hD;replace hn:Yq st.h.get (.mk o s z a l) _:=hn;replace hy:Bytes pn:=hy;have hl:=hK.UK;have hd:=hD.UK;have hlp:=hP.ln;refine Q6 rfl Tryz.func45 rfl Tryz.ntmps45 rfl fun T hT=>?_;have K:Jf [(0,_),(1,_)] T:=(.cons (hT 0) (.cons (hT 1) .nil));have M:=Mem.start hf;refine Qo<|Qb ?_;refine QM K M rfl (Qa rfl (Qa hD.cell (Qa rfl (Qa rfl (Qa rfl (Qa rfl (Qa hK.cell (Qa rfl Qy)))))))) (by decide) fun c3 _ _ K M=>?_;refine Qg 5 K M ?_;intro _ K;refine o1 K (Qr rfl (Wa (M.rows _ _ _ hC) (Qw YB rfl))) rfl fun _ K=>o1 K (VU rfl rfl) rfl fun _ K=>?_
 obtain⟨v13,st13,ev13,rfl,q13⟩:=EA (fa:=[]) (fc:=[.ptr c3 0 0]) (p:=fun p:Pd=>decide (p.name=pn)) M.fresh (Fe.mono M.rows hP) (fun k hk st1 cs q hr1=>by
  obtain⟨pn9,pp9,⟨o9,s9,z9,a9,l9⟩,pa9⟩:=k
  exact RW q.fresh hr1 ((UI.EJ (M.Wp (k:=0) rfl)).Ks M.fresh (q.Ks []) (by simp)))
 refine o1 K (Ql rfl ev13) rfl fun _ K=>?_;replace M:=M.quiet q13;refine QG ?_;show W _ _ _ _ _ _ _;refine Qs (K.QB rfl) (fun h13=>?_) (fun h13=>?_)
 ·have hb13:=h13;refine Qg 4 K M ?_;intro _ K;refine Qf ⟨.inr rfl,_,VJ K rfl rfl,?_⟩;refine⟨congrArg pT (a₁:=(pa,6)) (a₂:=Hl ps ⟨pn,pp,.mk o s z a l,pa⟩) (Eq.symm ?_),M.qt⟩;exact if_pos h13
 have hb13:=h13;refine Qg 2 K M ?_;intro _ K;refine oQ K M (KZ M.fresh (Y8.mono M.rows hD)) rfl rfl fun _ _ K M=>?_;refine Qg 7 K M ?_;intro _ K;refine Rn K rfl (fun h23=>?_) fun h23=>?_
 ·refine Qg 4 K M ?_;intro _ K;refine Qf ⟨.inr rfl,_,VJ K rfl rfl,?_⟩;refine⟨congrArg pT (a₁:=(yM (JO [] pp),yL (JO [] pp))) (a₂:=Hl ps ⟨pn,pp,.mk o s z a l,pa⟩) (Eq.symm ?_),M.qt⟩;refine(if_neg (by rw[h13];decide)).trans ?_;show(match JO [] pp with|some a=>(a,6)|none=>UC ps (.mk o s z a l) pp)=_
  cases hq:JO [] pp with
  |none=>rw[hq]at h23;exact absurd rfl h23
  |some b=>rfl
 refine Qg 5 K M ?_;intro _ K;refine oQ K M (Gj _ _ _ _ _ _ M.fresh (M.rows _ _ _ hC) (Fe.mono M.rows hP) (Y8.mono M.rows hD) (hn.mono M.rows) ht hsz) rfl rfl fun _ _ K M=>?_;refine Qg 4 K M ?_;intro _ K;refine Qf ⟨.inr rfl,_,VJ K rfl rfl,?_⟩;refine⟨congrArg pT (a₁:=((UC ps (.mk o s z a l) pp).1,(UC ps (.mk o s z a l) pp).2)) (a₂:=Hl ps ⟨pn,pp,.mk o s z a l,pa⟩) (Eq.symm ?_),M.qt⟩;refine(if_neg (by rw[h13];decide)).trans ?_;show(match JO [] pp with|some a=>(a,6)|none=>UC ps (.mk o s z a l) pp)=_
 cases hq:JO [] pp with
 |none=>rfl
 |some b=>rw[hq]at h23;exact absurd h23 (by show¬(6:Int)=0;decide)

theorem Po{ds:List Dc}{ps:List Pd}{o s:List Nat}{z a:Int}{l:List Nd}{st:St}{cs:List AV}(hf:Qx st)(hr:yA st.h.get ⟨ds,ps,.mk o s z a l⟩ cs)(hds:ds.length≤100000)(hps:ps.length≤100000): ∃v st',Ev Tryz.prog QT 11 [.agg cs] st v st'∧v=pT (UP ⟨ds,ps,.mk o s z a l⟩)∧Qt st st':=by
 have hr0:=hr;obtain⟨kd,ld,kp,lp,o,s,z,a,kk,rfl,hD,hP,hn⟩:=hr0;obtain⟨kx,ls,ex,hK,hb⟩:=hn.Jl
 injection ex with x1 x;injection x with x2 x;injection x with x3 x;injection x with x4 x;injection x with x5 x
 injection x1 with x1;injection x2 with x2;injection x3 with _ x3;injection x4 with _ x4
 subst x1 x2 x3 x4 x5;replace hD:Y8 st.h.get ds kd ld:=hD;replace hP:Fe st.h.get ps kp lp:=hP;replace hn:Yq st.h.get (.mk o s z a l) _:=hn;have hbk:=hK.UK;have hbd:=hD.UK;have hbp:=hP.UK;have hlp:=hP.ln;refine Q6 rfl Tryz.func11 rfl Tryz.ntmps11 rfl fun T hT=>?_;have K:Jf [(0,_)] T:=(.cons (hT 0) .nil);have M:=Mem.start hf;refine Qo<|Qb ?_;refine QM K M rfl (Qa hD.cell (Qa hP.cell (Qa rfl (Qa rfl (Qa rfl (Qa rfl (Qa hK.cell Qy))))))) (by decide) fun c1 _ _ K M=>?_;refine Qg 3 K M ?_;intro _ K;refine oQ K M (jG M.fresh (hr.mono M.rows)) rfl rfl fun _ _ K M=>?_;refine Qg 1 K M ?_;intro _ K;refine Qs (K.QB rfl) (fun h13=>?_) (fun h13=>?_)
 ·have hb13:=h13
  replace h13:(V2 ⟨ds,ps,.mk o s z a l⟩)=false:=by first|simpa using h13|(revert h13;cases(V2 ⟨ds,ps,.mk o s z a l⟩)<;>simp)
  refine Qg 2 K M ?_;intro _ K;refine Qf ⟨.inr rfl,_,VJ K rfl rfl,?_⟩;refine⟨congrArg pT (a₁:=(0,1)) (a₂:=UP ⟨ds,ps,.mk o s z a l⟩) (Eq.symm ?_),M.qt⟩;exact PT h13
 have hb13:=h13
 replace h13:(V2 ⟨ds,ps,.mk o s z a l⟩)=true:=by first|simpa using h13|(revert h13;cases(V2 ⟨ds,ps,.mk o s z a l⟩)<;>simp)
 refine Qg 2 K M ?_;intro _ K;refine oQ K M (KZ M.fresh (Y8.mono M.rows hD)) rfl rfl fun _ _ K M=>?_;refine Qg 7 K M ?_;intro _ K;refine Rn K rfl (fun h21=>?_) fun h21=>?_
 ·refine Qg 4 K M ?_;intro _ K;refine Qf ⟨.inr rfl,_,VJ K rfl rfl,?_⟩;refine⟨congrArg pT (a₁:=(yM (JO [] ds),yL (JO [] ds))) (a₂:=UP ⟨ds,ps,.mk o s z a l⟩) (Eq.symm ?_),M.qt⟩
  cases hq:JO [] ds with
  |none=>rw[hq]at h21;exact absurd rfl h21
  |some b=>exact Og h13 hq
 refine QU ?_;show W _ _ _ _ _ _ _;refine Qo<|Qb<|o1 K (Jq Fo rfl rfl) rfl fun _ K=>?_;refine QM K M rfl rfl (by decide) fun c25 _ _ K M=>?_;refine Qg 3 K M ?_;intro _ K;refine o1 K (QF Vb rfl rfl hP.len) rfl fun _ K=>?_;refine Qg 1 K M ?_;intro _ K;refine UW (fun mm1 T st9=> ∃(i:Nat) (ks:AV) (A:List (Nat×Nat×List AV)),mm1=ps.length-i∧Jf [(1,.ptr c1 0 0),(6,.ptr c25 0 0),(27,kp),(28,.int .i64 (((ps.length:Nat):Int))),(29,.int .i64 (((i:Nat):Int)))] T∧Mem st.h.get st.n [] st9 ((c25,0,[ks])::(c1,0,[kd,kp,.str o,.str s,.int .i64 z,.int .i64 a,kk])::(A++[]))∧Acc st.n 8 A ks (lp.take i)∧i≤ps.length∧A0 [] ps=A0 (ps.take i) (ps.drop i)) (fun mm1 T st9 hI=>?_) _ _ _ ⟨0,.nils,[],rfl,(.cons (K _ _ rfl) (.cons (K _ _ rfl) (.cons (K _ _ rfl) (.cons (K _ _ rfl) (.cons (K _ _ rfl) .nil))))),M.less (.refl _),(by rw[List.take_zero];exact .none),(Nat.zero_le _),rfl⟩;obtain⟨i,ks,A,rfl,K,M,hA,hi,hx⟩:=hI;refine Qg 1 K M ?_;intro _ K;refine YI K rfl (fun h30=>?_) fun h30=>?_
 ·refine QU ?_;show W _ _ _ _ _ _ _;refine Qo<|Yh<|Qo<|Qb ?_;obtain⟨⟨pn31,pp31,⟨_,_,_,_,l31⟩,pa31⟩,hi31⟩: ∃k,ps[i]? =some k:=⟨_,List.getElem?_eq_getElem (by omega)⟩;have hm31:=XV hi31;obtain⟨_,hc31,hP31⟩:=hP.at_ _ _ hi31;have hP310:=hP31;obtain⟨kd31,ld31,o31,s31,z31,a31,kk31,rfl,hD31,hn31,hy31⟩:=hP310;obtain⟨kx31,ls31,ex31,hK31,hb31⟩:=hn31.Jl
  injection ex31 with x1 x;injection x with x2 x;injection x with x3 x;injection x with x4 x;injection x with x5 x
  injection x1 with x1;injection x2 with x2;injection x3 with _ x3;injection x4 with _ x4
  subst x1 x2 x3 x4 x5;replace hD31:Y8 st.h.get pp31 kd31 ld31:=hD31;replace hn31:Yq st.h.get (.mk o31 s31 z31 a31 l31) _:=hn31;replace hy31:Bytes pn31:=hy31;have hl31:=hK31.UK;have hd31:=hD31.UK;obtain⟨x31,m31,f31,q31,_,la31,lo31,lp31⟩:=(hP.r.mem M (by simp)).load (i:=i) (cs:=_) hc31;refine o1 K (Qe (j:=i) Vo (congrArg some q31) rfl (by rw[hP.ln];omega)) rfl fun _ K=>o1 K (Qr rfl (la31 _ XR)) rfl fun _ K=>?_;refine UZ K M XP (by decide) fun c8 _ _ K M=>?_;refine QI (k:=0) K M rfl rfl rfl FK rfl (Qa rfl (Qa hD31.cell (Qa rfl (Qa rfl (Qa rfl (Qa rfl (Qa hK31.cell (Qa rfl Qy)))))))) rfl fun _ M=>?_;refine Qg 2 K M ?_;intro _ K;obtain⟨hfm,hfs⟩:=B7 (B5 h13 hm31);refine oQ K M (SC M.fresh (UI.EJ (M.Wp (k:=1) rfl)) (Fe.take M.rows hP (Mem.KT (L:=[(c8,0,[.str pn31,kd31,.str o31,.str s31,.int .i64 z31,.int .i64 a31,kk31,.int .i64 pa31]),(c25,0,[ks]),(c1,0,[kd,kp,.str o,.str s,.int .i64 z,.int .i64 a,kk])]) (A:=A) (B:=[]) M hA)) (hP31.mono M.rows) hfm hfs) rfl rfl fun _ _ K M=>?_;refine Qg 7 K M ?_;intro _ K;refine Qs (K.QB rfl) (fun h40=>?_) (fun h40=>?_)
  ·have hb40:=h40
   replace h40: ¬((Hl (ps.take i) ⟨pn31,pp31,.mk o31 s31 z31 a31 l31,pa31⟩).2=0):=by intro hq;rw[decide_eq_true hq]at h40;cases h40
   refine Qg 4 K M ?_;intro _ K;refine Qf ⟨.inr rfl,_,VJ K rfl rfl,?_⟩
   have htw:JO [] ds=none:=by
    cases hq:JO [] ds with
    |none=>rfl
    |some b=>rw[hq]at h21;exact absurd h21 (by show¬(6:Int)=0;decide)
   refine⟨congrArg pT (a₁:=((Hl (ps.take i) ⟨pn31,pp31,.mk o31 s31 z31 a31 l31,pa31⟩).1,(Hl (ps.take i) ⟨pn31,pp31,.mk o31 s31 z31 a31 l31,pa31⟩).2)) (a₂:=UP ⟨ds,ps,.mk o s z a l⟩) (Eq.symm ?_),M.qt⟩;exact Cm h13 htw (by show A0 [] ps=_;rw[hx,OU hi31,if_pos (by omega)])
  have hb40:=h40
  replace h40:((Hl (ps.take i) ⟨pn31,pp31,.mk o31 s31 z31 a31 l31,pa31⟩).2=0):=by by_cases hq:(Hl (ps.take i) ⟨pn31,pp31,.mk o31 s31 z31 a31 l31,pa31⟩).2=0;exact hq;rw[decide_eq_false hq]at h40;cases h40
  refine QU ?_;show W _ _ _ _ _ _ _;refine JC (l:=[(1,0),(2,0),(3,0),(4,0),(5,0),(6,0),(7,0),(0,0),(8,0),(9,0),(10,0)]) (by kernel_rfl) ?_;refine d1 rfl K (Qc rfl) rfl rfl fun _ K=>d1 rfl K (WC rfl rfl) rfl rfl fun _ K=>d1 rfl K (QZ YT rfl) rfl rfl fun _ K=>d1 rfl K (Qr rfl (M.load (k:=1) rfl (Qw YB rfl))) rfl rfl fun _ K=>d1 rfl K (Qr rfl (M.load (k:=0) rfl (J3 XR rfl))) rfl rfl fun _ K=>?_;refine O2 rfl K M E2 XP rfl rfl (Qa rfl (Qa hD31.cell (Qa rfl (Qa rfl (Qa rfl (Qa rfl (Qa hK31.cell (Qa rfl Qy)))))))) rfl rfl fun c49 _ _ K M=>?_;refine Nk (k2:=0) (L:=[(c49,0,[.str pn31,kd31,.str o31,.str s31,.int .i64 z31,.int .i64 a31,kk31,.int .i64 pa31]),(c8,0,[.str pn31,kd31,.str o31,.str s31,.int .i64 z31,.int .i64 a31,kk31,.int .i64 pa31]),(c25,0,[ks]),(c1,0,[kd,kp,.str o,.str s,.int .i64 z,.int .i64 a,kk])]) (A:=A) (B:=[]) rfl K M hA E2 rfl rfl rfl rfl (by rw[List.length_take];omega) rfl fun ks50 A50 _ _ K hA50 M=>?_;refine d1 rfl K (Qc rfl) rfl rfl fun _ K=>d1 rfl K (WC rfl rfl) rfl rfl fun _ K=>d1 rfl K (QZ YT rfl) rfl rfl fun _ K=>?_;refine Fh (k:=2) rfl K M rfl rfl rfl E1 (hA50.cell) rfl fun _ M=>?_;refine Ui ?_;show W _ _ _ _ _ _ _;refine Qb<|o1 K (Jo rfl rfl (by omega) (by omega)) rfl fun _ K=>o1 K (Qc rfl) rfl fun _ K=>QG ?_;exact⟨_,(by omega),i+1,ks50,A50,rfl,(.cons (K _ _ rfl) (.cons (K _ _ rfl) (.cons (K _ _ rfl) (.cons (K _ _ rfl) (.cons (K _ _ rfl) .nil))))),M.less (.cons _ (.cons _ (.refl _))),(by rw[D5 hc31];exact hA50),(by omega),(by rw[hx,OU hi31,if_neg (by omega)])⟩
 refine Uq ?_;show W _ _ _ _ _ _ _;refine Qg 5 K M ?_;intro _ K;obtain⟨hfm,hfs⟩:=B6 h13;refine oQ K M (Gj _ _ _ _ _ _ M.fresh (UI.EJ (M.Wp (k:=0) rfl)) (Fe.Mr M.rows hP (by omega) (Mem.KT (L:=[(c25,0,[ks]),(c1,0,[kd,kp,.str o,.str s,.int .i64 z,.int .i64 a,kk])]) (A:=A) (B:=[]) M hA)) (Y8.mono M.rows hD) (hn.mono M.rows) hfm (by omega)) rfl rfl fun _ _ K M=>?_;refine Qg 4 K M ?_;intro _ K;refine Qf ⟨.inr rfl,_,VJ K rfl rfl,?_⟩
 have htw:JO [] ds=none:=by
  cases hq:JO [] ds with
  |none=>rfl
  |some b=>rw[hq]at h21;exact absurd h21 (by show¬(6:Int)=0;decide)
 refine⟨congrArg pT (a₁:=((UC ps (.mk o s z a l) ds).1,(UC ps (.mk o s z a l) ds).2)) (a₂:=UP ⟨ds,ps,.mk o s z a l⟩) (Eq.symm ?_),M.qt⟩;exact GJ h13 htw (by show A0 [] ps=_;rw[hx,Un (by omega),A0])
end Go.Proofs.YtadjjadimlkkgaaGreatDoor
