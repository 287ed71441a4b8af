/-
  A text of pieces is read to their tokens.
-/
import Derived.Test.YtmgkfceomhagaaaGreatDoorPsShO
import Derived.Test.YtmgkfceomhagaaaGreatDoorPsRpE
import Derived.Test.YtmgkfceomhagaaaGreatDoorPsShF
set_option maxRecDepth 10000
set_option linter.unusedSectionVars false
set_option linter.unusedVariables false
namespace Go.Proofs.YtmgkfceomhagaaaGreatDoor
open Go Go.RowKit
section
variable {c:Nat}

theorem Ad{p:Pc}{l:List Pc}(h:I6 (p::l)=true):zl p=true∧wR p l=true∧I6 l=true:=by
 rw[I6,Bool.and_eq_true,Bool.and_eq_true]at h;exact h
theorem RA: ∀{l:List Pc},I6 l=true→ ∀p∈l,zl p=true
 |q::l,h,p,hp=>by
  rcases List.mem_cons.1 hp with rfl|hp
  ·exact(Ad h).1
  ·exact RA (Ad h).2.2 p hp
theorem Re{W a:List Nat}{p:Pc}{l:List Pc}(hW:W=a++Uc (p::l))(hl:I6 (p::l)=true)(hb:p≠ .b):Z7 (bytesOf W) W.length (EU a.length (p::l))=CK a.length p:=by
 obtain⟨h1,h2,h3⟩:=Ad hl;have hW':W=a++(p.tx++Uc l):=hW
 have hfin:W.length=a.length+p.tx.length+(Uc l).length:=by rw[hW',List.length_append,List.length_append,Nat.add_assoc]
 have hpl:=jQ h3 (a.length+p.tx.length) W.length hfin
 cases p with
 |b=>exact absurd rfl hb
 |m s=>
  obtain⟨hr,hw⟩:=Ah h1
  have h:=GD (s:=s) (b:=Uc l) (T:=EU (a.length+s.length) l) hW' hr (by
   rcases N0 h3 h2 (a.length+s.length)with h|⟨c,q,r,h,h',_⟩
   ·exact .inl h
   ·exact .inr ⟨c,q,r,h,h'⟩) hpl
  rw[hw]at h;exact h
 |w s=>
  obtain⟨hr,hw⟩:=EI (of_decide_eq_true h1)
  have h:=GD (s:=s) (b:=Uc l) (T:=EU (a.length+s.length) l) hW' hr (by
   rcases N0 h3 h2 (a.length+s.length)with h|⟨c,q,r,h,h',_⟩
   ·exact .inl h
   ·exact .inr ⟨c,q,r,h,h'⟩) hpl
  rw[hw]at h;exact h
 |n z=>
  exact ud (of_decide_eq_true h1) _ _ _ _ (by
   rcases N0 h3 h2 (a.length+(Y1 z).length)with h|⟨c,q,r,h,_,h'⟩
   ·exact .inl h
   ·exact .inr ⟨c,q,r,h,h'⟩)
 |g s=>
  have hs:=of_decide_eq_true h1
  have h:=Mg hs a.length (EU (a.length+s.length) l) (fun e=>xA h3 (by
    have h2:(if s=[126]then !eo l else if s=[60]∨s=[61]∨s=[60,61]then fR l else if s=[43]then aF l else true)=true:=h2;rw[if_pos e]at h2
    simpa using h2) _) (fun e=>by
    have h2:(if s=[126]then !eo l else if s=[60]∨s=[61]∨s=[60,61]then fR l else if s=[43]then aF l else true)=true:=h2
    rw[if_neg (by rcases e with rfl|rfl|rfl<;>decide),if_pos e]at h2
    obtain⟨r,hr⟩:=xP h2 (a.length+s.length)
    exact⟨_,r,hr⟩)
  have he:OJ (.g s)=s.zipIdx:=by unfold OJ;show(each (bytesOf s)).1=_;rw[Nx s hs]
  obtain⟨_,c,r,hr,hc⟩:=XK h1;have hL:=Ho (l:=l) (d:=a.length) hr
  have e1:EU a.length (.g s::l)=AU a.length s.zipIdx++EU (a.length+s.length) l:=by rw[EU,he];rfl
  rw[←e1,hL]at h;rw[hL,Z7,if_neg (by rw[(Io s hc.2 c hc.1).2.2.1];decide),if_neg (by rw[(Io s hc.2 c hc.1).2.2.1];decide),if_pos (Io s hc.2 c hc.1).2.2.1,FV,h];show US.mk 3 (bytesOf s) 0 a.length true (bytesOf s).size=US.mk 3 (bytesOf s) 0 a.length true (OJ (.g s)).length;rw[he,Zj,List.length_zipIdx]
theorem AI{p:Pc}(hb:p≠ .b)(d:Nat)(l:List Pc):vb d (p::l)=CK d p::vb (d+p.tx.length) l:=by
 cases p with
 |b=>exact absurd rfl hb
 |m s=>rfl
 |w s=>rfl
 |n s=>rfl
 |g s=>rfl
theorem qS{p:Pc}(hb:p≠ .b)(d:Nat):(CK d p).len=(OJ p).length∧(CK d p).ok=true:=by
 cases p with
 |b=>exact absurd rfl hb
 |m s=>exact⟨rfl,rfl⟩
 |w s=>exact⟨rfl,rfl⟩
 |n s=>exact⟨rfl,rfl⟩
 |g s=>exact⟨rfl,rfl⟩
theorem CU(h:YE c=true∨c=35):QJ c=3∨QJ c=4:=by
 rcases h with h|rfl
 ·have h:=of_decide_eq_true h
  have:c=32∨c=9∨c=10∨c=13:=by omega
  rcases this with rfl|rfl|rfl|rfl<;>decide
 ·decide
theorem fg{p:Pc}(hb:p≠ .b)(h:kg p c):YE c=false∧c≠35:=by
 have hk:QJ c=1∨QJ c=2→YE c=false∧c≠35:=fun hk=>by
  refine⟨?_,fun e=>?_⟩
  ·cases hs:YE c with
   |false=>rfl
   |true=>have:=CU (.inl hs);omega
  ·have:=CU (.inr e);omega
 cases p with
 |b=>exact absurd rfl hb
 |m s=>exact hk (.inl h)
 |w s=>exact hk (.inl h)
 |n s=>exact hk (.inr (YY.2 h))
 |g s=>have:=Io s h.2 c h.1;exact⟨this.2.2.2.1,this.2.2.2.2⟩
theorem qj{q:Nat}{r:List (Nat×Nat)}(h:YE c=false∧c≠35):QW false ((c,q)::r)=0:=by
 rw[QW,h.1,if_neg Qz,if_neg h.2]
theorem NX{W:List Nat}: ∀(l:List Pc) (a:List Nat) (f:Nat),I6 l=true→W=a++Uc l→(EU a.length l).length<f→
  ∃p,Vs (bytesOf W) W.length f ((EU a.length l).drop (QW false (EU a.length l)))=(some (vb a.length l),p)
 |[],a,f,_,_,hf=>by
  obtain⟨f,rfl⟩: ∃g,f=g+1:=⟨f-1,by omega⟩;exact⟨0,rfl⟩
 |p::l,a,f,hl,hW,hf=>by
  obtain⟨h1,h2,h3⟩:=Ad hl
  have hW':W=(a++p.tx)++Uc l:=by rw[hW,Jb,List.append_assoc]
  have ih:=fun f h=>NX l (a++p.tx) f h3 hW' h;rw[List.length_append]at ih;obtain⟨_,c,r,hr,hc⟩:=XK h1
  by_cases hb:p=.b
  ·subst hb;have e:EU a.length (.b::l)=(32,a.length)::EU (a.length+1) l:=Ho (r:=[]) (by decide+kernel)
   have e2:QW false ((32,a.length)::EU (a.length+1) l)=QW false (EU (a.length+1) l)+1:=by rw[QW,if_pos Qz]
   rw[e,e2,List.drop_succ_cons];exact ih f (by rw[e,List.length_cons]at hf;have e3:(Pc.tx .b).length=1:=rfl;rw[e3];omega)
  ·have ht:=Re hW hl hb;have hL:=Ho (l:=l) (d:=a.length) hr
   have e2:QW false (EU a.length (p::l))=0:=by rw[hL];exact qj (fg hb hc)
   rw[e2,List.drop_zero];obtain⟨f,rfl⟩: ∃g,f=g+1:=⟨f-1,by omega⟩;obtain⟨hlen,hok⟩:=qS hb a.length
   have hrl:0<(OJ p).length:=by rw[hr];simp
   have hsum:(EU a.length (p::l)).length=(OJ p).length+(EU (a.length+p.tx.length) l).length:=by rw[EU,List.length_append,BS]
   have e1:=Cr (bytesOf W) W.length f (EU a.length (p::l)) [] Qq (by rw[ht];exact hok)
   have hdr:(EU a.length (p::l)).drop (OJ p).length=EU (a.length+p.tx.length) l:=by
    rw[EU,←BS a.length (OJ p),List.drop_left]
   rw[Pq,ht,hlen,hdr]at e1;obtain⟨q,hq⟩:=ih f Qq;rw[hq]at e1;exact⟨q,by rw[e1,AI hb];rfl⟩
theorem KX{l:List Pc}(hl:I6 l=true)(hs:(Uc l).length≤2000):tokens (bytesOf (Uc l))=(vb 0 l++[WM (bytesOf (Uc l))],(Uc l).length,0):=by
 have he:=Lw l fun p hp=>(XK (RA hl p hp)).1;obtain⟨q,hq⟩:=NX (W:=Uc l) l [] ((EU 0 l).length+1) hl rfl (Nat.lt_succ_self _);have h:=LG (s:=bytesOf (Uc l)) (a:=vb 0 l) (p:=q) (by rw[Zj];omega) (by rw[he,show Jq (bytesOf (Uc l)) none=(bytesOf (Uc l)).size from rfl,Zj];exact hq) (by rw[he]);rw[Zj]at h;exact h
theorem Gr: ∀(l:List Pc) (d:Nat),I6 l=true→(vb d l).map US.tk=Zq d l
 |[],d,_=>rfl
 |p::l,d,h=>by
  obtain⟨h1,h2,h3⟩:=Ad h;have ih:=fun d=>Gr l d h3
  cases p with
  |b=>exact ih (d+1)
  |m s=>rw[AI Q3,List.map_cons,ih,Zq];unfold US.tk CK;rw[Yp (Ah h1).1.by'];rfl
  |w s=>rw[AI Q3,List.map_cons,ih,Zq];unfold US.tk CK;rw[Yp (EI (of_decide_eq_true h1)).1.by'];rfl
  |n s=>rw[AI Q3,List.map_cons,ih,Zq];rfl
  |g s=>
   have hby: ∀s∈Rn,∀x∈s,x<256:=by decide+kernel
   rw[AI Q3,List.map_cons,ih,Zq];unfold US.tk CK;rw[Yp (hby s (of_decide_eq_true h1))];rfl
theorem El{l:List Pc}(hl:I6 l=true)(hs:(Uc l).length≤2000):UG (Uc l)=Zq 0 l++[⟨4,[],0,((Uc l).length:Int)⟩]:=by
 rw[UG,KX hl hs,List.map_append,Gr l 0 hl];unfold WM US.tk;rw[List.map_cons,Zj];rfl
theorem Gs: ∀(l:List Pc) (d:Nat),I6 l=true→ ∀t∈Zq d l,t.k=3→t.s∈zo∨t.s∈Rn
 |[],d,_,t,ht,_=>nomatch ht
 |p::l,d,h,t,ht,hk=>by
  obtain⟨h1,h2,h3⟩:=Ad h;have ih:=fun d h=>Gs l d h3 t h hk
  cases p with
  |b=>exact ih (d+1) ht
  |m s=>
   rw[Zq]at ht;rcases List.mem_cons.1 ht with rfl|ht
   ·exact absurd hk (show¬(1:Int)=3 by decide)
   ·exact ih _ ht
  |n s=>
   rw[Zq]at ht;rcases List.mem_cons.1 ht with rfl|ht
   ·exact absurd hk (show¬(2:Int)=3 by decide)
   ·exact ih _ ht
  |w s=>
   rw[Zq]at ht;rcases List.mem_cons.1 ht with rfl|ht
   ·exact .inl (of_decide_eq_true h1)
   ·exact ih _ ht
  |g s=>
   rw[Zq]at ht;rcases List.mem_cons.1 ht with rfl|ht
   ·exact .inr (of_decide_eq_true h1)
   ·exact ih _ ht
theorem I2{t:Tk}{L:List Tk}(h:Vt L)(ht: ∀u,L[0]? =some u→t.k=3→t.s=[43]→u.k=2→u.n≠0):Vt (t::L):=fun i a b ha hb=>by
 cases i with
 |zero=>
  have ha:some t=some a:=ha
  injection ha with ha
  subst ha;exact ht b hb
 |succ i=>exact h i a b ha hb
theorem aE: ∀{l:List Pc},aF l=true→ ∃z l',l=.b:: .n z::l'∧z≠0
 |.b:: .n z::l',h=>⟨z,l',rfl,of_decide_eq_true h⟩
theorem G6: ∀(l:List Pc) (d:Nat) (e:Tk),I6 l=true→e.k≠2→Vt (Zq d l++[e])
 |[],d,e,_,he=>I2 (L:=[]) (fun i a b ha=>by cases ha) fun u hu=>by cases hu
 |p::l,d,e,h,he=>by
  obtain⟨h1,h2,h3⟩:=Ad h;have ih:=fun d=>G6 l d e h3 he
  cases p with
  |b=>exact ih (d+1)
  |m s=>exact I2 (ih _) fun u _ hk=>absurd hk (show¬(1:Int)=3 by decide)
  |n s=>exact I2 (ih _) fun u _ hk=>absurd hk (show¬(2:Int)=3 by decide)
  |w s=>
   refine I2 (ih _) fun u _ _ hs=>?_;have hs:s=[43]:=hs;subst hs;exact absurd (show([43]:List Nat)∈zo from of_decide_eq_true h1) Qz
  |g s=>
   refine I2 (ih _) fun u hu _ hs hk=>?_;have hs:s=[43]:=hs;subst hs;have h2:aF l=true:=h2;obtain⟨z,l',rfl,hz⟩:=aE h2;have hu:some (⟨2,[],(z:Int),_⟩:Tk)=some u:=hu
   injection hu with hu
   subst hu
   simpa using hz
end
section
variable {o:List Nat}

theorem Xd{p:Pc}{l:List Pc}(h1:zl p=true)(h2:wR p l=true)(h3:I6 l=true):I6 (p::l)=true:=by rw[I6,h1,h2,h3];rfl
theorem RB{l:List Pc}(h:I6 l=true):I6 (.b::l)=true:=Xd rfl rfl h
theorem Tp{s:List Nat}{l:List Pc}(h:s.head? ≠some 61):eo (.g s::l)=false:=decide_eq_false h
theorem we(h:JA o=true):zl (XI o)=true∧ ∀l,wR (XI o) (.b::l)=true:=by
 rcases ET h with rfl|rfl|rfl<;>exact⟨by decide,fun l=>rfl⟩
theorem wg(h:OM o=true):zl (XI o)=true∧ ∀l,wR (XI o) (.b::l)=true:=by
 rcases Kx h with rfl|rfl|rfl|rfl|rfl|rfl|rfl<;>exact⟨by decide,fun l=>rfl⟩
theorem wb(h:oneOf o [[97,110,100],[111,114],[105,109,112],[105,102,102]]=true):zl (XI o)=true∧ ∀l,wR (XI o) (.b::l)=true:=by
 rcases Nn h with rfl|rfl|rfl|rfl<;>exact⟨by decide,fun l=>rfl⟩
def Fit(p:List Pc):Prop:= ∀R,I6 R=true→zG R=true→I6 (p++R)=true∧eo (p++R)=false
theorem Cd: ∀ks:List Nd,(∀k∈ks,Fit (Jp k))→ ∀R,I6 R=true→zG R=true→I6 (Zk (J5 ks)++R)=true
 |[],_,R,h,_=>h
 |[k],hk,R,h,hs=>(hk k Q3 R h hs).1
 |k::l::ks,hk,R,h,hs=>by
  have ih:=Cd (l::ks) (fun x hx=>hk x (List.mem_cons_of_mem _ hx)) R h hs;rw[J5,J5,Zk,List.append_assoc];exact(hk k Q3 _ (Xd (p:=.g [44]) Qz rfl (RB ih)) rfl).1
theorem Cc{p q:List Pc}{s:Pc}(hp:Fit p)(hq:Fit q)(h:zl s=true∧ ∀l,wR s (.b::l)=true):Fit (p++(.b::s:: .b::q)):=fun R hR hs=>by
 rw[List.append_assoc];exact hp _ (RB (Xd h.1 (h.2 _) (RB (hq R hR hs).1))) rfl
theorem E0: ∀(n:Nat) (k:Nd),Xl k≤n→Ji k=true→Fit (Jp k)
 |0,k,hn,_=>by have:=Wk k;omega
 |n+1,k,hn,h=>by
  rcases YD h with⟨s,at_,hs,rfl⟩|⟨z,at_,hz,hz9,rfl⟩|⟨s,z,a1,a2,hs,hz,hz9,rfl⟩|⟨at_,ks,h6,hp,rfl⟩|⟨o,at_,x,y,ho,hx,hy,_,rfl⟩
  ·have e:Jp (.mk YO s 0 at_ [])=[.m s]:=by rw[Jp,if_pos rfl]
   rw[e];exact fun R hR hs'=>⟨Xd hs hs' hR,rfl⟩
  ·have e:Jp (.mk Xn [] z at_ [])=[.n z.toNat]:=by rw[Jp,if_neg Qz,if_pos rfl]
   rw[e];exact fun R hR hs'=>⟨Xd (decide_eq_true (show z.toNat≤99 by omega)) hs' hR,rfl⟩
  ·have e:Jp (.mk YB [] z a1 [.mk YO s 0 a2 []])=[.m s,.b,.g [43],.b,.n z.toNat]:=by rw[Jp,if_neg Qz,if_neg Qz,if_pos rfl,J5,Jp,if_pos rfl];rfl
   rw[e];exact fun R hR hs'=>⟨Xd hs rfl (RB (Xd Qz (decide_eq_true (show z.toNat≠0 by omega)) (RB (Xd (decide_eq_true (show z.toNat≤99 by omega)) hs' hR)))),rfl⟩
  ·have e:Jp (.mk UY [] 0 at_ ks)=.g [123]::(Zk (J5 ks)++[.g [125]]):=by rw[Jp,if_neg Qz,if_neg Qz,if_neg Qz,if_pos rfl]
   rw[e]
   have hk: ∀k∈ks,Fit (Jp k):=fun k hk=>by
    have:=hp k hk;unfold Lj at this;rw[Bool.and_eq_true]at this;have h3:=Ed hk;exact E0 n k (by simp only[Xl]at hn;omega) this.1
   intro R hR hs';rw[List.cons_append,List.append_assoc];exact⟨Xd Qz rfl (Cd ks hk _ (Xd (p:=.g [125]) Qz rfl hR) rfl),Tp Qz⟩
  ·rw[E1 ho];simp only[Xl,Eo]at hn;exact Cc (E0 n x Qq hx) (E0 n y Qq hy) (we ho)
theorem Fg: ∀(n:Nat) (k:Nd),Xl k≤n→JS k=true→Fit (Js k)
 |0,k,hn,_=>by have:=Wk k;omega
 |n+1,k,hn,h=>by
  rcases Al h with⟨o,at_,ho,rfl⟩|⟨at_,x,hx,rfl⟩|⟨o,at_,x,y,ho,hx,hy,rfl⟩|⟨o,s,z,at_,x,ho,hs,hz0,hz3,hx,rfl⟩|⟨s,at_,hs,rfl⟩|⟨o,at_,x,y,ho,hx,hy,rfl⟩|⟨s,at_,ks,hs,h6,hk,rfl⟩
  ·rw[FD ho];intro R hR hs'
   have:o=[116,114,117,101]∨o=[102,97,108,115,101]:=by simpa [oneOf]using ho
   exact⟨Xd (by rcases this with rfl|rfl<;>decide) hs' hR,rfl⟩
  ·rw[FC];intro R hR hs';simp only[Xl,Eo]at hn;have:=Fg n x Qq hx R hR hs';exact⟨Xd (p:=.g [126]) Qz (show(!eo (Js x++R))=true by rw[this.2];rfl) this.1,Tp Qz⟩
  ·rw[FA ho];intro R hR hs';simp only[Xl,Eo]at hn;have h1:=Fg n x Qq hx;have h2:=Fg n y Qq hy;have h3:=Cc h1 h2 (wb ho) (.g [41]::R) (Xd Qz rfl hR) rfl
   have e:(.g [40]::(Js x++(.b::XI o:: .b::(Js y++[.g [41]]))))++R=.g [40]::((Js x++(.b::XI o:: .b::Js y))++(.g [41]::R)):=by simp
   rw[e];exact⟨Xd Qz rfl h3.1,Tp Qz⟩
  ·rw[IL ho];intro R hR hs';simp only[Xl,Eo]at hn;have h1:=Fg n x Qq hx (.g [41]::R) (Xd Qz rfl hR) rfl
   have hw:zl (.w (o++Y1 z.toNat))=true:=by
    have hz:z=0∨z=1∨z=2:=by omega
    have hall: ∀k:Nat,k<3→Y1 k=[48+k]:=fun k hk=>Pe Qq
    rcases G5 ho with rfl|rfl<;>rcases hz with rfl|rfl|rfl<;>(rw[hall _ Qz];decide)
   have e:(.g [40]:: .w (o++Y1 z.toNat):: .b:: .m s:: .g [58]:: .b::(Js x++[.g [41]]))++R=.g [40]:: .w (o++Y1 z.toNat):: .b:: .m s:: .g [58]:: .b::(Js x++(.g [41]::R)):=by simp
   rw[e];exact⟨Xd Qz rfl (Xd hw rfl (RB (Xd hs rfl (Xd Qz rfl (RB h1.1))))),Tp Qz⟩
  ·rw[IM];exact fun R hR hs'=>⟨Xd hs hs' hR,rfl⟩
  ·rw[FB ho];exact Cc (E0 _ x (Nat.le_refl _) hx) (E0 _ y (Nat.le_refl _) hy) (wg ho)
  ·rw[Am];intro R hR hs';have h1:=Cd ks (fun k hx=>E0 _ k (Nat.le_refl _) (hk k hx)) (.g [41]::R) (Xd Qz rfl hR) rfl
   have e:(.m s:: .g [40]::(Zk (J5 ks)++[.g [41]]))++R=.m s:: .g [40]::(Zk (J5 ks)++(.g [41]::R)):=by simp
   rw[e];exact⟨Xd hs rfl (Xd Qz rfl h1),rfl⟩
theorem qh{l:List Pc}(h:I6 l=true):Bytes (Uc l):=fun x hx=>by
 obtain⟨p,hp,hx⟩:=List.mem_flatMap.1 hx;have h1:=RA h p hp
 cases p with
 |m s=>exact(Ah h1).1.by' x hx
 |w s=>exact(EI (of_decide_eq_true h1)).1.by' x hx
 |g s=>
  have hby: ∀s∈Rn,∀x∈s,x<256:=by decide+kernel
  exact hby s (of_decide_eq_true h1) x hx
 |b=>rw[List.mem_singleton.1 hx];decide
 |n z=>
  have h1:z≤99:=of_decide_eq_true h1;have hx:x∈Y1 z:=hx
  by_cases h2:z<10
  ·rw[Pe h2]at hx;rw[List.mem_singleton.1 hx];omega
  ·rw[y8 h2 Qq]at hx;simp only[List.mem_cons,List.not_mem_nil,or_false]at hx;omega
def Ib(k:Nd):List Pc:=Js k++[.g [59]]
theorem Hn{k:Nd}(h:JS k=true):I6 (Ib k)=true:=(Fg _ k (Nat.le_refl _) h _ Qz rfl).1
end
end Go.Proofs.YtmgkfceomhagaaaGreatDoor
