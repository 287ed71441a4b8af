/-
  What is shown: a formula's text by cases.
-/
import Derived.Test.YthjgndgnmkiaiaaGreatDoorZpShU
set_option maxRecDepth 100000
set_option linter.unusedSectionVars false
set_option linter.unusedSimpArgs false
set_option linter.unusedVariables false
namespace Go.Proofs.YthjgndgnmkiaiaaGreatDoor
open Go Go.RowKit
section

theorem Tg{o:List Nat}{W:List (List Nat)}(h:oneOf o W=true):o∈W:=by
 unfold oneOf at h;rw[List.any_eq_true]at h;obtain⟨x,hx,he⟩:=h;rw[of_decide_eq_true he];exact hx
section
variable {o s:List Nat} {z a:Int} {l:List Nd} (h:Jg (.mk o s z a l)=true)
include h
theorem HP:(o∈[[116,114,117,101],[102,97,108,115,101]]∧QQ (Q8 (.mk o s z a l))=o)∨(o=[110,111,116]∧ ∃x,l=[x]∧Jg x=true∧QQ (Q8 (.mk o s z a l))=[126]++QQ (Q8 x))∨
  (o∈[[97,110,100],[111,114],[105,109,112],[105,102,102]]∧ ∃x y,l=[x,y]∧Jg x=true∧Jg y=true∧QQ (Q8 (.mk o s z a l))=[40]++QQ (Q8 x)++[32]++Pc.tx (Vs o)++[32]++QQ (Q8 y)++[41])∨
  (o∈[[101,120],[97,108,108]]∧ ∃x,l=[x]∧Jg x=true∧Ui s=true∧0≤z∧z≤99∧QQ (Q8 (.mk o s z a l))=[40]++o++U4 z.toNat++[32]++s++[58,32]++QQ (Q8 x)++[41])∨
  (o=[105,115]∧Ui s=true∧QQ (Q8 (.mk o s z a l))=s)∨
  (G2 o=true∧ ∃x y,l=[x,y]∧QM x=true∧QM y=true∧QQ (Q8 (.mk o s z a l))=QQ (QP x)++[32]++Pc.tx (Vs o)++[32]++QQ (QP y))∨
  (o=[99,97,108,108]∧Ui s=true∧(∀k∈l,QM k=true)∧QQ (Q8 (.mk o s z a l))=s++[40]++QQ (UF (Js l))++[41]):=by
 rcases Wt h with⟨o',a',ho,e⟩|⟨a',x,hx,e⟩|⟨o',a',x,y,ho,hx,hy,e⟩|⟨o',s',z',a',x,ho,hs,h0,h3,hx,e⟩|⟨s',a',hs,e⟩|⟨o',a',x,y,ho,hx,hy,e⟩|⟨s',a',ks,hs,h6,hk,e⟩<;>injection e with e1 e2 e3 e4 e5<;>subst e1 e2 e3 e4 e5
 ·exact .inl ⟨Tg ho,by rw[E6 ho];simp[QQ,Pc.tx]⟩
 ·exact .inr (.inl ⟨rfl,x,rfl,hx,by rw[E5];rfl⟩)
 ·exact .inr (.inr (.inl ⟨Tg ho,x,y,rfl,hx,hy,by rw[E3 ho,Qz,JR,Qz,Qz,Qz,JR];simp[Pc.tx,QQ]⟩))
 ·exact .inr (.inr (.inr (.inl ⟨Tg ho,x,rfl,hx,hs,h0,by omega,by rw[Fi ho,Qz,Qz,Qz,Qz,Qz,Qz,JR];simp[Pc.tx,QQ]⟩)))
 ·exact .inr (.inr (.inr (.inr (.inl ⟨rfl,hs,by rw[Fj];simp[QQ,Pc.tx]⟩))))
 ·exact .inr (.inr (.inr (.inr (.inr (.inl ⟨ho,x,y,rfl,hx,hy,by rw[E4 ho,JR,Qz,Qz,Qz];simp[Pc.tx]⟩)))))
 ·exact .inr (.inr (.inr (.inr (.inr (.inr ⟨rfl,hs,hk,by rw[Wu,Qz,Qz,JR];simp[Pc.tx,QQ]⟩)))))
theorem iF(ho:o=[110,111,116]): ∃x,l=[x]∧Jg x=true∧QQ (Q8 (.mk o s z a l))=[126]++QQ (Q8 x):=by
 subst ho;rcases HP h with⟨hm,_⟩|⟨_,r⟩|⟨hm,_⟩|⟨hm,_⟩|⟨hm,_⟩|⟨hm,_⟩|⟨hm,_⟩
 ·exact absurd hm Qo
 ·exact r
 ·exact absurd hm Qo
 ·exact absurd hm Qo
 ·exact absurd hm Qo
 ·exact absurd hm Qo
 ·exact absurd hm Qo
theorem lU(ho:o=[105,115]):Ui s=true∧QQ (Q8 (.mk o s z a l))=s:=by
 subst ho;rcases HP h with⟨hm,_⟩|⟨hm,_⟩|⟨hm,_⟩|⟨hm,_⟩|⟨_,r⟩|⟨hm,_⟩|⟨hm,_⟩
 ·exact absurd hm Qo
 ·exact absurd hm Qo
 ·exact absurd hm Qo
 ·exact absurd hm Qo
 ·exact r
 ·exact absurd hm Qo
 ·exact absurd hm Qo
theorem eA(ho:o=[99,97,108,108]):Ui s=true∧(∀k∈l,QM k=true)∧QQ (Q8 (.mk o s z a l))=s++[40]++QQ (UF (Js l))++[41]:=by
 subst ho;rcases HP h with⟨hm,_⟩|⟨hm,_⟩|⟨hm,_⟩|⟨hm,_⟩|⟨hm,_⟩|⟨hm,_⟩|⟨_,r⟩
 ·exact absurd hm Qo
 ·exact absurd hm Qo
 ·exact absurd hm Qo
 ·exact absurd hm Qo
 ·exact absurd hm Qo
 ·exact absurd hm Qo
 ·exact r
theorem xH(ho:o=[116,114,117,101]∨o=[102,97,108,115,101]):QQ (Q8 (.mk o s z a l))=o:=by
 rcases HP h with⟨_,r⟩|⟨hm,_⟩|⟨hm,_⟩|⟨hm,_⟩|⟨hm,_⟩|⟨hm,_⟩|⟨hm,_⟩
 ·exact r
 ·exact absurd hm (by rcases ho with rfl|rfl<;>decide)
 ·exact absurd hm (by rcases ho with rfl|rfl<;>decide)
 ·exact absurd hm (by rcases ho with rfl|rfl<;>decide)
 ·exact absurd hm (by rcases ho with rfl|rfl<;>decide)
 ·exact absurd hm (by rcases ho with rfl|rfl<;>decide)
 ·exact absurd hm (by rcases ho with rfl|rfl<;>decide)
theorem aM(ho:o=[101,120]∨o=[97,108,108]): ∃x,l=[x]∧Jg x=true∧Ui s=true∧0≤z∧z≤99∧QQ (Q8 (.mk o s z a l))=[40]++o++U4 z.toNat++[32]++s++[58,32]++QQ (Q8 x)++[41]:=by
 rcases HP h with⟨hm,_⟩|⟨hm,_⟩|⟨hm,_⟩|⟨_,r⟩|⟨hm,_⟩|⟨hm,_⟩|⟨hm,_⟩
 ·exact absurd hm (by rcases ho with rfl|rfl<;>decide)
 ·exact absurd hm (by rcases ho with rfl|rfl<;>decide)
 ·exact absurd hm (by rcases ho with rfl|rfl<;>decide)
 ·exact r
 ·exact absurd hm (by rcases ho with rfl|rfl<;>decide)
 ·exact absurd hm (by rcases ho with rfl|rfl<;>decide)
 ·exact absurd hm (by rcases ho with rfl|rfl<;>decide)
theorem Dj(ho:o=[97,110,100]∨o=[111,114]∨o=[105,109,112]∨o=[105,102,102]): ∃x y,l=[x,y]∧Jg x=true∧Jg y=true∧QQ (Q8 (.mk o s z a l))=[40]++QQ (Q8 x)++[32]++Pc.tx (Vs o)++[32]++QQ (Q8 y)++[41]:=by
 rcases HP h with⟨hm,_⟩|⟨hm,_⟩|⟨_,r⟩|⟨hm,_⟩|⟨hm,_⟩|⟨hm,_⟩|⟨hm,_⟩
 ·exact absurd hm (by rcases ho with rfl|rfl|rfl|rfl<;>decide)
 ·exact absurd hm (by rcases ho with rfl|rfl|rfl|rfl<;>decide)
 ·exact r
 ·exact absurd hm (by rcases ho with rfl|rfl|rfl|rfl<;>decide)
 ·exact absurd hm (by rcases ho with rfl|rfl|rfl|rfl<;>decide)
 ·exact absurd hm (by rcases ho with rfl|rfl|rfl|rfl<;>decide)
 ·exact absurd hm (by rcases ho with rfl|rfl|rfl|rfl<;>decide)
theorem iE(h1: ¬(o=[116,114,117,101]∨o=[102,97,108,115,101]))(h2: ¬o=[110,111,116])(h3: ¬(o=[101,120]∨o=[97,108,108]))(h4: ¬o=[105,115])(h5: ¬o=[99,97,108,108])(h6: ¬(o=[97,110,100]∨o=[111,114]∨o=[105,109,112]∨o=[105,102,102])):G2 o=true∧ ∃x y,l=[x,y]∧QM x=true∧QM y=true∧QQ (Q8 (.mk o s z a l))=QQ (QP x)++[32]++Pc.tx (Vs o)++[32]++QQ (QP y):=by
 rcases HP h with⟨hm,_⟩|⟨hm,_⟩|⟨hm,_⟩|⟨hm,_⟩|⟨hm,_⟩|⟨hm,r⟩|⟨hm,_⟩
 ·exact absurd (by simpa using hm) h1
 ·exact absurd hm h2
 ·exact absurd (by simpa using hm) h6
 ·exact absurd (by simpa using hm) h3
 ·exact absurd hm h4
 ·exact⟨hm,r⟩
 ·exact absurd hm h5
end
end
section
variable {o:List Nat}

theorem Yi{p:Pc}{l:List Pc}(h1:uB p=true)(h2:im p l=true)(h3:EI l=true):EI (p::l)=true:=by rw[EI,h1,h2,h3];rfl
theorem LZ{l:List Pc}(h:EI l=true):EI (.b::l)=true:=Yi rfl rfl h
theorem MP{s:List Nat}{l:List Pc}(h:s.head? ≠some 61):iJ (.g s::l)=false:=decide_eq_false h
theorem fF(h:Jf o=true):uB (Vs o)=true∧ ∀l,im (Vs o) (.b::l)=true:=by
 rcases EV h with rfl|rfl|rfl<;>exact⟨by decide,fun l=>rfl⟩
theorem fG(h:G2 o=true):uB (Vs o)=true∧ ∀l,im (Vs o) (.b::l)=true:=by
 rcases KL h with rfl|rfl|rfl|rfl|rfl|rfl|rfl<;>exact⟨by decide,fun l=>rfl⟩
theorem fE(h:oneOf o [[97,110,100],[111,114],[105,109,112],[105,102,102]]=true):uB (Vs o)=true∧ ∀l,im (Vs o) (.b::l)=true:=by
 rcases N9 h with rfl|rfl|rfl|rfl<;>exact⟨by decide,fun l=>rfl⟩
def Fit(p:List Pc):Prop:= ∀R,EI R=true→y9 R=true→EI (p++R)=true∧iJ (p++R)=false
theorem Di: ∀ks:List Nd,(∀k∈ks,Fit (QP k))→ ∀R,EI R=true→y9 R=true→EI (UF (Js ks)++R)=true
 |[],_,R,h,_=>h
 |[k],hk,R,h,hs=>(hk k Q1 R h hs).1
 |k::l::ks,hk,R,h,hs=>by
  have ih:=Di (l::ks) (fun x hx=>hk x (List.mem_cons_of_mem _ hx)) R h hs;rw[Js,Js,UF,List.append_assoc];exact(hk k Q1 _ (Yi (p:=.g [44]) Qo rfl (LZ ih)) rfl).1
theorem Dh{p q:List Pc}{s:Pc}(hp:Fit p)(hq:Fit q)(h:uB s=true∧ ∀l,im s (.b::l)=true):Fit (p++(.b::s:: .b::q)):=fun R hR hs=>by
 rw[List.append_assoc];exact hp _ (LZ (Yi h.1 (h.2 _) (LZ (hq R hR hs).1))) rfl
theorem Ej: ∀(n:Nat) (k:Nd),YT k≤n→QM k=true→Fit (QP k)
 |0,k,hn,_=>by have:=XJ k;omega
 |n+1,k,hn,h=>by
  rcases Yx h with⟨s,at_,hs,rfl⟩|⟨z,at_,hz,hz9,rfl⟩|⟨s,z,a1,a2,hs,hz,hz9,rfl⟩|⟨at_,ks,h6,hp,rfl⟩|⟨o,at_,x,y,ho,hx,hy,_,rfl⟩
  ·have e:QP (.mk Y7 s 0 at_ [])=[.m s]:=by rw[QP,if_pos rfl]
   rw[e];exact fun R hR hs'=>⟨Yi hs hs' hR,rfl⟩
  ·have e:QP (.mk ZS [] z at_ [])=[.n z.toNat]:=by rw[QP,if_neg Qo,if_pos rfl]
   rw[e];exact fun R hR hs'=>⟨Yi (decide_eq_true (show z.toNat≤99 by omega)) hs' hR,rfl⟩
  ·have e:QP (.mk Yr [] z a1 [.mk Y7 s 0 a2 []])=[.m s,.b,.g [43],.b,.n z.toNat]:=by rw[QP,if_neg Qo,if_neg Qo,if_pos rfl,Js,QP,if_pos rfl];rfl
   rw[e];exact fun R hR hs'=>⟨Yi hs rfl (LZ (Yi Qo (decide_eq_true (show z.toNat≠0 by omega)) (LZ (Yi (decide_eq_true (show z.toNat≤99 by omega)) hs' hR)))),rfl⟩
  ·have e:QP (.mk U3 [] 0 at_ ks)=.g [123]::(UF (Js ks)++[.g [125]]):=by rw[QP,if_neg Qo,if_neg Qo,if_neg Qo,if_pos rfl]
   rw[e]
   have hk: ∀k∈ks,Fit (QP k):=fun k hk=>by
    have:=hp k hk;unfold L6 at this;rw[Bool.and_eq_true]at this;have h3:=F5 hk;exact Ej n k (by simp only[YT]at hn;omega) this.1
   intro R hR hs';rw[List.cons_append,List.append_assoc];exact⟨Yi Qo rfl (Di ks hk _ (Yi (p:=.g [125]) Qo rfl hR) rfl),MP Qo⟩
  ·rw[Ek ho];simp only[YT,WC]at hn;exact Dh (Ej n x Qk hx) (Ej n y Qk hy) (fF ho)
theorem Fh: ∀(n:Nat) (k:Nd),YT k≤n→Jg k=true→Fit (Q8 k)
 |0,k,hn,_=>by have:=XJ k;omega
 |n+1,k,hn,h=>by
  rcases Wt h with⟨o,at_,ho,rfl⟩|⟨at_,x,hx,rfl⟩|⟨o,at_,x,y,ho,hx,hy,rfl⟩|⟨o,s,z,at_,x,ho,hs,hz0,hz3,hx,rfl⟩|⟨s,at_,hs,rfl⟩|⟨o,at_,x,y,ho,hx,hy,rfl⟩|⟨s,at_,ks,hs,h6,hk,rfl⟩
  ·rw[E6 ho];intro R hR hs'
   have:o=[116,114,117,101]∨o=[102,97,108,115,101]:=by simpa [oneOf]using ho
   exact⟨Yi (by rcases this with rfl|rfl<;>decide) hs' hR,rfl⟩
  ·rw[E5];intro R hR hs';simp only[YT,WC]at hn;have:=Fh n x Qk hx R hR hs';exact⟨Yi (p:=.g [126]) Qo (show(!iJ (Q8 x++R))=true by rw[this.2];rfl) this.1,MP Qo⟩
  ·rw[E3 ho];intro R hR hs';simp only[YT,WC]at hn;have h1:=Fh n x Qk hx;have h2:=Fh n y Qk hy;have h3:=Dh h1 h2 (fE ho) (.g [41]::R) (Yi Qo rfl hR) rfl
   have e:(.g [40]::(Q8 x++(.b::Vs o:: .b::(Q8 y++[.g [41]]))))++R=.g [40]::((Q8 x++(.b::Vs o:: .b::Q8 y))++(.g [41]::R)):=by simp
   rw[e];exact⟨Yi Qo rfl h3.1,MP Qo⟩
  ·rw[Fi ho];intro R hR hs';simp only[YT,WC]at hn;have h1:=Fh n x Qk hx (.g [41]::R) (Yi Qo rfl hR) rfl
   have hw:uB (.w (o++U4 z.toNat))=true:=by
    have hz:z=0∨z=1∨z=2:=by omega
    have hall: ∀k:Nat,k<3→U4 k=[48+k]:=fun k hk=>BR Qk
    rcases Br ho with rfl|rfl<;>rcases hz with rfl|rfl|rfl<;>(rw[hall _ Qo];decide)
   have e:(.g [40]:: .w (o++U4 z.toNat):: .b:: .m s:: .g [58]:: .b::(Q8 x++[.g [41]]))++R=.g [40]:: .w (o++U4 z.toNat):: .b:: .m s:: .g [58]:: .b::(Q8 x++(.g [41]::R)):=by simp
   rw[e];exact⟨Yi Qo rfl (Yi hw rfl (LZ (Yi hs rfl (Yi Qo rfl (LZ h1.1))))),MP Qo⟩
  ·rw[Fj];exact fun R hR hs'=>⟨Yi hs hs' hR,rfl⟩
  ·rw[E4 ho];exact Dh (Ej _ x (Nat.le_refl _) hx) (Ej _ y (Nat.le_refl _) hy) (fG ho)
  ·rw[Wu];intro R hR hs';have h1:=Di ks (fun k hx=>Ej _ k (Nat.le_refl _) (hk k hx)) (.g [41]::R) (Yi Qo rfl hR) rfl
   have e:(.m s:: .g [40]::(UF (Js ks)++[.g [41]]))++R=.m s:: .g [40]::(UF (Js ks)++(.g [41]::R)):=by simp
   rw[e];exact⟨Yi hs rfl (Yi Qo rfl h1),rfl⟩
theorem uk{l:List Pc}(h:EI l=true):Bytes (QQ l):=fun x hx=>by
 obtain⟨p,hp,hx⟩:=List.mem_flatMap.1 hx;have h1:=Te h p hp
 cases p with
 |m s=>exact(Ag h1).1.by' x hx
 |w s=>exact(EK (of_decide_eq_true h1)).1.by' x hx
 |g s=>
  have hby: ∀s∈vN,∀x∈s,x<256:=by decide+kernel
  exact hby s (of_decide_eq_true h1) x hx
 |b=>rw[List.mem_singleton.1 hx];decide
 |l=>rw[List.mem_singleton.1 hx];decide
 |n z=>
  have h1:z≤99:=of_decide_eq_true h1;have hx:x∈U4 z:=hx
  by_cases h2:z<10
  ·rw[BR h2]at hx;rw[List.mem_singleton.1 hx];omega
  ·rw[va h2 Qk]at hx;simp only[List.mem_cons,List.not_mem_nil,or_false]at hx;omega
end
section
set_option maxHeartbeats 8000000

def Ya(d:Dc):Bool:=Ui d.name&&(decide (0≤d.order)&&decide (d.order<3))
def XN(p:Pd):Bool:=Ui p.name&&(decide (((p.params.length:Nat):Int)≤6)&&(p.params.all Ya&&(VG p.body 2000&&Jg p.body)))
def Vd(p:Pg):Bool:=p.decls.all Ya&&(p.preds.all XN&&(VG p.main 2000&&Jg p.main))
theorem ZX{α:Type}{l:List α}{i:Nat}{k:α}{p:α→Bool}(h:l[i]? =some k):(l.drop i).all p=(p k&&(l.drop (i+1)).all p):=by
 obtain⟨h1,h2⟩:=List.getElem?_eq_some_iff.1 h;rw[List.drop_eq_getElem_cons h1,List.all_cons,h2]
theorem Es(ds:List Dc)(ps:List Pd)(m:Nd):Vd ⟨ds,ps,m⟩=(ds.all Ya&&(ps.all XN&&(VG m 2000&&Jg m))):=rfl
theorem AS(n:List Nat)(pp:List Dc)(b:Nd)(z:Int):XN ⟨n,pp,b,z⟩=(Ui n&&(decide (((pp.length:Nat):Int)≤6)&&(pp.all Ya&&(VG b 2000&&Jg b)))):=rfl
theorem wZ(z:Int):(z<3)=(z≤2):=propext Qk
theorem FC{α:Type}{l:List α}{i:Nat}{k:α}(h:l[i]? =some k):k∈l:=List.mem_of_getElem? h

theorem Bq{st:St}(hf:Q3 st){l:List Dc}{kk:AV}{ls:List (List AV)}(hD:LV st.h.get l kk ls): ∃v st',Ev Tryz.prog JF 12 [kk] st v st'∧v=.bool (l.all Ya)∧Qt st st':=by
 have hln:=hD.ln;have hbn:=hD.W9;refine XB Tryz.func12 Tryz.ntmps12 fun T K=>?_;have M:=Mem.start hf;refine Qg 2 K M fun _ K=>?_;refine UE (fun mm1 T st9=> ∃(i:Nat),mm1=l.length-i∧Jn [(0,kk),(3,iN i)] T∧Mem st.h.get st.n [] st9 []∧i≤l.length∧l.all Ya=(l.drop i).all Ya) (fun mm1 T st9 hI=>?_) _ _ _ ⟨0,rfl,(K.sub rfl),M.less (.refl _),(Nat.zero_le _),(by rw[List.drop_zero])⟩;obtain⟨i,rfl,K,M,hi,hx⟩:=hI;refine Qg 2 K M fun _ K=>?_;refine p1 K (Jp UO rfl rfl hD.len) fun _ K=>?_;refine Qg 1 K M fun _ K=>?_;refine WU K rfl (fun h7=>?_) fun h7=>?_
 ·refine Qg 2 K M fun _ K=>?_;obtain⟨⟨dn12,do12,da12⟩,hi12⟩: ∃k,l[i]? =some k:=⟨_,List.getElem?_eq_getElem Qk⟩;have hm12:=FC hi12;obtain⟨_,hc12,rfl,hy12⟩:=hD.at_ _ _ hi12;obtain⟨x12,m12,f12,q12,_,la12,lo12,lp12⟩:=(hD.r.mem M Q1).load (i:=i) (cs:=_) hc12;refine p1 K (Qp (j:=i) YK (congrArg some q12) rfl (by rw[hD.ln];omega)) fun _ K=>?_;refine Qg 1 K M fun _ K=>?_;refine p1 K (QK rfl (lo12 _ 0 _ Qr rfl)) fun _ K=>?_;refine oQ K M (Vi M.fresh dn12 hy12) rfl rfl fun _ _ K M=>?_;refine Qg 1 K M fun _ K=>?_;refine oB K (Q7 rfl) rfl fun b17 _ e17 K=>?_;cases b17
  ·replace e17:(Ui dn12)=true:=by simpa using e17
   refine Qg 2 K M fun _ K=>?_;obtain⟨⟨dn20,do20,da20⟩,hi20⟩: ∃k,l[i]? =some k:=⟨_,List.getElem?_eq_getElem Qk⟩;have hm20:=FC hi20;obtain⟨_,hc20,rfl,hy20⟩:=hD.at_ _ _ hi20;obtain⟨x20,m20,f20,q20,_,la20,lo20,lp20⟩:=(hD.r.mem M Q1).load (i:=i) (cs:=_) hc20;refine pg K rfl rfl (Qp (j:=i) YK (congrArg some q20) rfl (by rw[hD.ln];omega)) fun _ K=>?_;refine Qg 1 K M fun _ K=>?_;refine pg K rfl rfl (QK rfl (lo20 _ 1 _ J4 rfl)) fun _ K=>?_;refine Qg 2 K M fun _ K=>?_;refine No K rfl (fun _ e25 K=>?_) fun _ e25 K=>?_
   ·refine Qg 2 K M fun _ K=>?_;obtain⟨⟨dn28,do28,da28⟩,hi28⟩: ∃k,l[i]? =some k:=⟨_,List.getElem?_eq_getElem Qk⟩;have hm28:=FC hi28;obtain⟨_,hc28,rfl,hy28⟩:=hD.at_ _ _ hi28;obtain⟨x28,m28,f28,q28,_,la28,lo28,lp28⟩:=(hD.r.mem M Q1).load (i:=i) (cs:=_) hc28;refine pg K rfl rfl (Qp (j:=i) YK (congrArg some q28) rfl (by rw[hD.ln];omega)) fun _ K=>?_;refine Qg 1 K M fun _ K=>?_;refine pg K rfl rfl (QK rfl (lo28 _ 1 _ J4 rfl)) fun _ K=>?_;refine Qg 2 K M fun _ K=>?_;refine WU K rfl (fun h32=>?_) fun h32=>?_
    ·refine Qg 1 K M ?_;refine⟨congrArg AV.bool ?_,M.qt⟩;rw[hx,ZX hi12,Ya]
     try clear hx
     try clear hD
     simp_all [wZ]<;>first|done|rfl|omega|(intros;omega)|(intros;simp_all;done)
    refine Qg 3 K M fun _ K=>?_;exact⟨_,Qk,i+1,rfl,(K.sub rfl),M.less (.refl _),Qk,(by rw[hx,ZX hi12,Ya];simp_all [wZ])⟩
   refine Qg 9 K M ?_;refine⟨congrArg AV.bool ?_,M.qt⟩;rw[hx,ZX hi12,Ya]
   try clear hx
   try clear hD
   simp_all [wZ]<;>first|done|rfl|omega|(intros;omega)|(intros;simp_all;done)
  replace e17:(Ui dn12)=false:=by simpa using e17
  refine Qg 17 K M ?_;refine⟨congrArg AV.bool ?_,M.qt⟩;rw[hx,ZX hi12,Ya]
  try clear hx
  try clear hD
  simp_all [wZ]<;>first|done|rfl|omega|(intros;omega)|(intros;simp_all;done)
 refine Uz ?_;show W _ _ _ _ _ _ _;refine Qg 1 K M ?_;exact⟨by rw[hx,J0 Qk];rfl,M.qt⟩

theorem fL{ds:List Dc}{ps:List Pd}{o s:List Nat}{z a:Int}{l:List Nd}{st:St}{cs:List AV}(hf:Q3 st)(hr:u5 st.h.get ⟨ds,ps,.mk o s z a l⟩ cs): ∃v st',Ev Tryz.prog JF 5 [.agg cs] st v st'∧v=.bool (Vd ⟨ds,ps,.mk o s z a l⟩)∧Qt st st':=by
 have hr0:=hr;obtain⟨kd,ld,kp,lp,o,s,z,a,kk,rfl,hD,hP,hn⟩:=hr0;obtain⟨kx,ls,ex,hK,hb⟩:=hn.J3
 injection ex with x1 x;injection x with x2 x;injection x with x3 x;injection x with x4 x;injection x with x5 x
 injection x1 with x1;injection x2 with x2;injection x3 with _ x3;injection x4 with _ x4
 subst x1 x2 x3 x4 x5;replace hD:LV st.h.get ds kd ld:=hD;replace hP:ak st.h.get ps kp lp:=hP;replace hn:XW st.h.get (.mk o s z a l) _:=hn;have hbk:=hK.W9;have hbd:=hD.W9;have hbp:=hP.W9;have hlp:=hP.ln;refine XB Tryz.func5 Tryz.ntmps5 fun T K=>?_;have M:=Mem.start hf;refine Qg 0 K M fun _ K=>?_;refine Y8 K M rfl (Qa hD.cell (Qa hP.cell (Qa rfl (Qa rfl (Qa rfl (Qa rfl (Qa hK.cell QV))))))) Qo fun c1 _ _ K M=>?_;refine Qg 2 K M fun _ K=>?_;refine UE (fun mm1 T st9=> ∃(i:Nat),mm1=ps.length-i∧Jn [(1,.ptr c1 0 0),(3,iN i)] T∧Mem st.h.get st.n [] st9 [(c1,0,[kd,kp,.str o,.str s,iZ z,iZ a,kk])]∧i≤ps.length∧ps.all XN=(ps.drop i).all XN) (fun mm1 T st9 hI=>?_) _ _ _ ⟨0,rfl,(K.sub rfl),M.less (.refl _),(Nat.zero_le _),(by rw[List.drop_zero])⟩;obtain⟨i,rfl,K,M,hi,hx⟩:=hI;refine Qg 3 K M fun _ K=>?_;refine p1 K (Jp Yq rfl rfl hP.len) fun _ K=>?_;refine Qg 1 K M fun _ K=>?_;refine WU K rfl (fun h9=>?_) fun h9=>?_
 ·refine Qg 3 K M fun _ K=>?_;obtain⟨⟨pn15,pp15,⟨_,_,_,_,l15⟩,pa15⟩,hi15⟩: ∃k,ps[i]? =some k:=⟨_,List.getElem?_eq_getElem Qk⟩;have hm15:=FC hi15;obtain⟨_,hc15,hP15⟩:=hP.at_ _ _ hi15;have hP150:=hP15;obtain⟨kd15,ld15,o15,s15,z15,a15,kk15,rfl,hD15,hn15,hy15⟩:=hP150;obtain⟨kx15,ls15,ex15,hK15,hb15⟩:=hn15.J3
  injection ex15 with x1 x;injection x with x2 x;injection x with x3 x;injection x with x4 x;injection x with x5 x
  injection x1 with x1;injection x2 with x2;injection x3 with _ x3;injection x4 with _ x4
  subst x1 x2 x3 x4 x5;replace hD15:LV st.h.get pp15 kd15 ld15:=hD15;replace hn15:XW st.h.get (.mk o15 s15 z15 a15 l15) _:=hn15;replace hy15:Bytes pn15:=hy15;have hl15:=hK15.W9;have hd15:=hD15.W9;refine aJ (hP.r.mem M Q1) hc15 K Vx V2 rfl rfl fun _ _ _ _ K=>?_;refine au 1 K M ?_;intro c4 _ _ K _ M;refine Jr (k:=0) K M rfl rfl rfl X4 rfl (Qa rfl (Qa hD15.cell (Qa rfl (Qa rfl (Qa rfl (Qa rfl (Qa hK15.cell (Qa rfl QV)))))))) rfl fun _ M=>?_;refine Qg 2 K M fun _ K=>?_;refine oQ K M (Vi M.fresh pn15 hy15) rfl rfl fun _ _ K M=>?_;refine Qg 1 K M fun _ K=>?_;refine oB K (Q7 rfl) rfl fun b21 _ e21 K=>?_;cases b21
  ·replace e21:(Ui pn15)=true:=by simpa using e21
   refine Qg 2 K M fun _ K=>?_;refine pg K rfl rfl (Jp UO rfl rfl hD15.len) fun _ K=>?_;refine Qg 2 K M fun _ K=>?_;refine No K rfl (fun _ e27 K=>?_) fun _ e27 K=>?_
   ·refine Qg 2 K M fun _ K=>?_;obtain⟨v30,st30,ev30,rfl,q30⟩:=Bq M.fresh (LV.mono M.rows hD15);refine pg K rfl rfl (Qh rfl ev30) fun _ K=>?_;replace M:=M.quiet q30;refine Qg 2 K M fun _ K=>?_;refine oB K (Q7 rfl) rfl fun b33 _ e33 K=>?_;cases b33
    ·replace e33:(pp15.all Ya)=true:=by simpa using e33
     refine Qg 2 K M fun _ K=>?_;obtain⟨v36,st36,ev36,rfl,q36⟩:=Hb M.fresh (hn15.mono M.rows);refine pg K rfl rfl (Qh rfl ev36) fun _ K=>?_;replace M:=M.quiet q36;refine Qg 2 K M fun _ K=>?_;refine Zb K rfl (fun h38=>?_) fun h38=>?_
     ·have hb38:=h38
      replace h38:(VG (.mk o15 s15 z15 a15 l15) 2000&&Jg (.mk o15 s15 z15 a15 l15))=false:=by revert h38;cases (VG (.mk o15 s15 z15 a15 l15) 2000&&Jg (.mk o15 s15 z15 a15 l15))<;>simp
      refine Qg 1 K M ?_;refine⟨congrArg AV.bool ?_,M.qt⟩;rw[Es,hx,ZX hi15,AS]
      try generalize pp15.all Ya=q6 at *
      try clear hx
      try clear hr
      try clear hr0
      try clear hD
      try clear hP
      try clear hn
      try clear hK
      try clear hb
      try clear hP15
      try clear hD15
      try clear hn15
      try clear hK15
      simp_all<;>first|done|rfl|omega|(intros;omega)|(intros;simp_all;done)
     have hb38:=h38
     replace h38:(VG (.mk o15 s15 z15 a15 l15) 2000&&Jg (.mk o15 s15 z15 a15 l15))=true:=by simpa using h38
     refine Qg 3 K M fun _ K=>?_
     exact⟨_,Qk,i+1,rfl,(K.sub rfl),M.less (.cons _ (.refl _)),Qk,(by rw[hx,ZX hi15,AS];simp_all<;>omega)⟩
    replace e33:(pp15.all Ya)=false:=by simpa using e33
    refine Qg 7 K M ?_;refine⟨congrArg AV.bool ?_,M.qt⟩;rw[Es,hx,ZX hi15,AS]
    try generalize pp15.all Ya=q6 at *
    try clear hx
    try clear hr
    try clear hr0
    try clear hD
    try clear hP
    try clear hn
    try clear hK
    try clear hb
    try clear hP15
    try clear hD15
    try clear hn15
    try clear hK15
    simp_all<;>first|done|rfl|omega|(intros;omega)|(intros;simp_all;done)
   refine Qg 13 K M ?_;refine⟨congrArg AV.bool ?_,M.qt⟩;rw[Es,hx,ZX hi15,AS]
   try generalize pp15.all Ya=q6 at *
   try clear hx
   try clear hr
   try clear hr0
   try clear hD
   try clear hP
   try clear hn
   try clear hK
   try clear hb
   try clear hP15
   try clear hD15
   try clear hn15
   try clear hK15
   simp_all<;>first|done|rfl|omega|(intros;omega)|(intros;simp_all;done)
  replace e21:(Ui pn15)=false:=by simpa using e21
  refine Qg 19 K M ?_;refine⟨congrArg AV.bool ?_,M.qt⟩;rw[Es,hx,ZX hi15,AS]
  try generalize pp15.all Ya=q6 at *
  try clear hx
  try clear hr
  try clear hr0
  try clear hD
  try clear hP
  try clear hn
  try clear hK
  try clear hb
  try clear hP15
  try clear hD15
  try clear hn15
  try clear hK15
  simp_all<;>first|done|rfl|omega|(intros;omega)|(intros;simp_all;done)
 refine Uz ?_;show W _ _ _ _ _ _ _;refine Qg 2 K M fun _ K=>?_;refine oQ K M (Bq M.fresh (LV.mono M.rows hD)) rfl rfl fun _ _ K M=>?_;refine oB K (Q7 rfl) rfl fun b42 _ e42 K=>?_;cases b42
 ·refine Qg 5 K M ?_;refine⟨congrArg AV.bool ?_,M.qt⟩
  have hx2:ps.all XN=true:=by rw[hx,J0 Qk];rfl
  try clear hx
  rw[Es]
  try clear hr
  try clear hr0
  try clear hD
  try clear hP
  try clear hn
  try clear hK
  try clear hb
  try generalize ds.all Ya=q1 at *
  try generalize ps.all XN=q4 at *
  try generalize VG (.mk o s z a l) 2000=q2 at *
  try generalize Jg (.mk o s z a l)=q3 at *
  simp_all<;>first|done|rfl|omega|(intros;omega)|(intros;simp_all;done)
 refine Qg 2 K M fun _ K=>?_;obtain⟨v45,st45,ev45,rfl,q45⟩:=Hb M.fresh (hn.mono M.rows);refine pg K rfl rfl (Qh rfl ev45) fun _ K=>?_;replace M:=M.quiet q45;refine Qg 2 K M ?_;refine⟨congrArg AV.bool ?_,M.qt⟩
 have hx2:ps.all XN=true:=by rw[hx,J0 Qk];rfl
 try clear hx
 rw[Es]
 try clear hr
 try clear hr0
 try clear hD
 try clear hP
 try clear hn
 try clear hK
 try clear hb
 try generalize ds.all Ya=q1 at *
 try generalize ps.all XN=q4 at *
 try generalize VG (.mk o s z a l) 2000=q2 at *
 try generalize Jg (.mk o s z a l)=q3 at *
 simp_all<;>first|done|rfl|omega|(intros;omega)|(intros;simp_all;done)

end
end Go.Proofs.YthjgndgnmkiaiaaGreatDoor
