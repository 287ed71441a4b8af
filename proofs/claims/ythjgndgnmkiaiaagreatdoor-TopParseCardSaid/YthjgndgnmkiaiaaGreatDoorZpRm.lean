/-
  What a closed call left, told of the memory that it was called in.
-/
import Derived.Test.YthjgndgnmkiaiaaGreatDoorZpRl
namespace Go.Proofs.YthjgndgnmkiaiaaGreatDoor
open Go Go.RowKit
set_option linter.unusedVariables false
set_option linter.unusedSectionVars false

def Xi(n:Nat)(p p1:Jy)(l:List (Nat×Nat)):Jy:=fun k m=>if k<n then p k m else if m=0 then(l[k-n]?).bind fun x=>p1 x.1 x.2 else none
def Kept(h1:Hp)(l:List (Nat×Nat))(C:LC)(x:Nat×Nat):Prop:=match C with
 |.row cs=> ∃ms vs,h1 x.1=some (.row false ms)∧ms[x.2]? =some (cs.length,vs,some (Hu (fun i=>l.getD i (0,0)) cs))
 |.map es k=>x.2=0∧h1 x.1=some (.map (es.map (uA fun i=>l.getD i (0,0))) k)
def vg(e:Nat):Av:=.row false [(e,0,none)]
structure aZ(n:Nat)(h h':Hp)(h0:List LC)(g:Nat→Nat)(h1:Hp)(l:List (Nat×Nat))(N:List LC):Prop where
 big: ∀x∈l,h0.length≤x.1
 nd:(l.map Prod.fst).Nodup
 len:l.length=N.length
 kept: ∀(i:Nat) (C:LC) (x:Nat×Nat),N[i]? =some C→l[i]? =some x→Kept h1 l C x
 wf: ∀C∈N,C.wf (FX N)=true
 mp0: ∀(i:Nat) (es:List (AV×AV×Nat)) (k:Nat) (x:Nat×Nat),N[i]? =some (.map es k)→l[i]? =some x→x.2=0
 new: ∀(i:Nat) (C:LC),N[i]? =some C→h' (n+i)=some (C.rl fun i=>(n+i,0)).cls
 old: ∀k C,k<n→h' k=some C→(h k=some C∧ ∀c<h0.length,g c=k→h1 c=er h0 c)∨ ∃c e cs cs',c<h0.length∧g c=k∧C=vg e∧h k=some (.row false [(e,0,some cs)])∧h1 c=some (.row false [(e,0,some cs')])
 grow: ∀k C,h k=some C→ ∃C',h' k=some C'∧exts C'=exts C
 out: ∀k C,n≤k→h' k=some C→ ∃i,k=n+i∧i<N.length
section
variable {w0 w w':World} {p p1:Jy} {st:St} {h1 h':Hp} {h0:List LC} {g:Nat→Nat} {l:List (Nat×Nat)} {N:List LC}
theorem HR.MX(H:HR w0 p st.h.get w)(hf:Q3 st){k m:Nat}{x:Pl}(hx:p k m=some x):k<st.n:=by
 obtain⟨C,hC,_⟩:=H.dom k m x hx
 by_cases h:k<st.n
 ·exact h
 ·rw[hf k Qk]at hC;cases hC
theorem push(hf:Q3 st)(H:HR w0 p st.h.get w)(hg: ∀c C,h0[c]? =some C→st.h.get (g c)=some (C.rl fun i=>(g i,0)).cls)(hin: ∀c d,c<h0.length→d<h0.length→g c=g d→c=d)(hw: ∀C∈h0,C.wf (FX h0)=true)
  (S:Step w0 (Xj h0 g p) w p1 h1 w') (A:aZ st.n st.h.get h' h0 g h1 l N):Step w0 p w (Xi st.n p p1 l) h' w'∧(∀v,WA (FX N) v=true→WF h' (V5 (fun i=>(st.n+i,0)) v)∧Qe (Xi st.n p p1 l) (V5 (fun i=>(st.n+i,0)) v)=Qe p1 (V5 (fun i=>l.getD i (0,0)) v)):=by
 have hgl: ∀c,c<h0.length→ ∃x,p (g c) 0=some x∧g c<st.n∧Xj h0 g p c 0=some x∧p1 c 0=some x:=fun c hc=>by
  obtain⟨x,hx⟩:=H.Ed _ _ (hg c _ (List.getElem?_eq_getElem hc)) 0 (by rw[LC.Nw];exact Nat.zero_lt_one)
  have h2:Xj h0 g p c 0=some x:=by rw[Xj,if_pos ⟨hc,rfl⟩,hx]
  exact⟨x,hx,H.MX hf hx,h2,S.le _ _ _ h2⟩
 have hold: ∀{k m},k<st.n→Xi st.n p p1 l k m=p k m:=fun h=>if_pos h
 have hnew: ∀i (x:Nat×Nat),l[i]? =some x→Xi st.n p p1 l (st.n+i) 0=p1 x.1 x.2:=fun i x hx=>by
  unfold Xi;rw[if_neg Qk,if_pos rfl,show st.n+i-st.n=i by omega,hx];rfl
 have hnw: ∀k m x,¬k<st.n→Xi st.n p p1 l k m=some x→ ∃i y,k=st.n+i∧m=0∧l[i]? =some y∧p1 y.1 y.2=some x:=fun k m x hk hx=>by
  unfold Xi at hx;rw[if_neg hk]at hx
  split at hx
  ·rename_i hm;obtain⟨y,hy,hx⟩:=Option.bind_eq_some_iff.1 hx;exact⟨k-st.n,y,by omega,hm,hy,hx⟩
  ·cases hx
 have hunp: ∀(y:Nat×Nat),y∈l→ ∀m,Xj h0 g p y.1 m=none:=fun y hy m=>by
  have:=A.big y hy;rw[Xj,if_neg Qk]
 have hfar: ∀i (y:Nat×Nat) x,l[i]? =some y→p1 y.1 y.2=some x→w.heap.size≤x.b:=fun i y x hy hx=>by
  rcases S.new _ _ x hx (hunp y (List.mem_of_getElem? hy) _)with h|⟨m0,x0,h,_⟩
  ·exact h
  ·rw[hunp y (List.mem_of_getElem? hy)]at h;cases h
 have hle:Jy.le p (Xi st.n p p1 l):=fun k m x hx=>by rw[hold (H.MX hf hx)];exact hx
 have hlN: ∀{i:Nat} {x:Nat×Bool},(FX N)[i]? =some x→ ∃y,l[i]? =some y:=fun{i x} hx=>by
  have:=Cy hx;exact⟨_,List.getElem?_eq_getElem (by rw[A.len];exact this)⟩
 have hgd: ∀{i:Nat} {y:Nat×Nat},l[i]? =some y→l.getD i (0,0)=y:=fun{i y} hy=>by rw[List.getD_eq_getElem?_getD,hy];rfl

 have hvN: ∀v,WA (FX N) v=true→Qe (Xi st.n p p1 l) (V5 (fun i=>(st.n+i,0)) v)=Qe p1 (V5 (fun i=>l.getD i (0,0)) v):=fun v hv=>by
  have e1:=FJ (z:=FX N) (r:=fun i=>(st.n+i,0)) (p:=Xi st.n p p1 l) (q:=fun i m=>Xi st.n p p1 l (st.n+i) m) (fun _ _ _=>rfl) (fun _ _ _=>rfl) v hv
  have e2:=FJ (z:=FX N) (r:=fun i=>l.getD i (0,0)) (p:=p1) (q:=fun i m=>Xi st.n p p1 l (st.n+i) m) (fun i x hx=>by
   obtain⟨y,hy⟩:=hlN hx;show p1 (l.getD i (0,0)).1 (l.getD i (0,0)).2=Xi st.n p p1 l (st.n+i) 0
   rw[hgd hy,hnew i y hy]) (fun i e hx=>by
   obtain⟨y,hy⟩:=hlN hx;obtain⟨C,hC,hsz⟩:=Nh hx;show(l.getD i (0,0)).2=0;rw[hgd hy]
   cases C with
   |row cs=>cases hsz
   |map es k=>exact A.mp0 i es k y hC hy) v hv
  rw[e1,e2]
 have hwN: ∀v,WA (FX N) v=true→WF h' (V5 (fun i=>(st.n+i,0)) v):=fun v hv=>qo (g:=fun i=>st.n+i) (fun i x hx=>by
  obtain⟨C,hC,rfl⟩:=Nh hx
  exact⟨_,A.new i C hC,by rw[LC.Nw];rfl⟩) v hv

 have hgr:Grow st.h.get h':=fun k C hC=>by
  obtain⟨C',h2,h3⟩:=A.grow k C hC;exact⟨C',h2,by rw[h3];exact List.prefix_refl _⟩
 have hcl: ∀v,WF st.h.get v→Qe (Xi st.n p p1 l) v=Qe p v:=fun v hv=>UQ H.Ed hle v hv;refine⟨⟨hle,⟨S.hr.os,S.hr.tape,S.hr.output,S.hr.size,S.hr.old,fun k m x hx=>?_,fun k m x hx=>?_,fun k m x k' m' x' hx hx' hb=>?_,fun k C hC=>?_⟩,⟨S.fr.size,fun b hb hn=>S.fr.keep b hb fun c m x hx=>?_⟩,fun k m x hx hp=>?_⟩,fun v hv=>⟨hwN v hv,hvN v hv⟩⟩
 ·by_cases hk:k<st.n
  ·rw[hold hk]at hx;obtain⟨C,a1,a2⟩:=H.dom k m x hx;obtain⟨C',a3,a4⟩:=A.grow k C a1;exact⟨C',a3,by rw[a4];exact a2⟩
  ·obtain⟨i,y,rfl,rfl,hy,_⟩:=hnw k m x hk hx
   have hi:i<N.length:=by rw[←A.len];exact(List.getElem?_eq_some_iff.1 hy).1
   exact⟨_,A.new i _ (List.getElem?_eq_getElem hi),by rw[LC.Nw];exact Nat.zero_lt_one⟩
 ·by_cases hk:k<st.n
  ·rw[hold hk]at hx;exact Nat.lt_of_lt_of_le (H.lt k m x hx) S.fr.size
  ·obtain⟨i,y,rfl,rfl,hy,h2⟩:=hnw k m x hk hx;exact S.hr.lt _ _ x h2
 ·by_cases hk:k<st.n
  ·rw[hold hk]at hx
   by_cases hk':k'<st.n
   ·rw[hold hk']at hx';exact H.apart k m x k' m' x' hx hx' hb
   ·obtain⟨i,y,rfl,rfl,hy,h2⟩:=hnw k' m' x' hk' hx';have:=hfar i y x' hy h2;have:=H.lt k m x hx;omega
  ·obtain⟨i,y,rfl,rfl,hy,h2⟩:=hnw k m x hk hx
   by_cases hk':k'<st.n
   ·rw[hold hk']at hx';have:=hfar i y x hy h2;have:=H.lt k' m' x' hx';omega
   ·obtain⟨j,z,rfl,rfl,hz,h4⟩:=hnw k' m' x' hk' hx';have e:=S.hr.apart _ _ x _ _ x' h2 h4 hb
    have e1:(l.map Prod.fst)[i]? =some y.1:=by rw[List.getElem?_map,hy];rfl
    have e2:(l.map Prod.fst)[j]? =some y.1:=by rw[List.getElem?_map,hz,e];rfl
    rw[(List.getElem?_inj (List.getElem?_eq_some_iff.1 e1).1 A.nd).1 (e1.trans e2.symm)]
 ·by_cases hk:k<st.n
  ·rcases A.old k C hk hC with⟨hkC,hsame⟩|⟨c,e,cs,cs',hc,rfl,rfl,hkC,h1c⟩
   ·by_cases him: ∃c,c<h0.length∧g c=k
    ·obtain⟨c,hc,rfl⟩:=him;obtain⟨x,hx1,hx2,hx3,hx4⟩:=hgl c hc;have hc0:h0[c]? =some (h0[c]'hc):=List.getElem?_eq_getElem hc;have hCe:=hg c _ hc0;rw[hkC]at hCe
     injection hCe with hCe
     have h1c:=hsame c hc rfl
     have hp0:er h0 c=some (h0[c]'hc).cls:=by show(h0[c]?).map LC.cls=_;rw[hc0];rfl
     rw[hp0]at h1c;have B:=S.hr.cls c _ h1c;have BH:=H.cls _ C hkC;have hD:=hw (h0[c]'hc) (List.getElem_mem hc);subst hCe
     generalize h0[c]'hc=D at *
     have hval: ∀v,WA (FX h0) v=true→Qe p1 v=Qe (Xi st.n p p1 l) (V5 (fun i=>(g i,0)) v):=fun v hv=>by
      have e1:=FJ (z:=FX h0) (r:=fun i=>(g i,0)) (p:=Xi st.n p p1 l) (q:=p1) (fun i x hx=>by
       obtain⟨y,y1,y2,y3,y4⟩:=hgl i (Cy hx);show Xi st.n p p1 l (g i) 0=p1 i 0
       rw[hold y2,y1,y4]) (fun _ _ _=>rfl) v hv
      exact e1.symm
     cases D with
     |row cs=>
      have hD:(Sh (FX h0) cs&&cs.all QI)=true:=hD;rw[Bool.and_eq_true,List.all_eq_true]at hD;have B:VD w0.heap.size p1 h1 w' c false [(cs.length,0,some cs)]:=B;have BH:VD w0.heap.size p st.h.get w (g c) false [((Hu (fun i=>(g i,0)) cs).length,0,some (Hu (fun i=>(g i,0)) cs))]:=BH;obtain⟨q,arr,el,d1,d2,d3,d4,d5,d6⟩:=B.mem 0 _ _ _ rfl;obtain⟨q',arr',el',b1,b2,b3,b4,b5,b6⟩:=BH.mem 0 _ _ _ rfl;refine(⟨fun m e vs cs2 he=>?_,fun m1 e1 v1 c1 m2 e2 v2 c2 q1 q2 a1 a2 a3 a4 a5=>?_⟩:VD w0.heap.size (Xi st.n p p1 l) h' w' (g c) false [((Hu (fun i=>(g i,0)) cs).length,0,some (Hu (fun i=>(g i,0)) cs))])
      ·cases m with
       |succ m=>simp at he
       |zero=>
        injection he with he
        injection he with e1 he
        injection he with e2 e3
        subst e1 e2 e3;rw[hx4]at d1
        injection d1 with d1
        subst d1;refine⟨x,arr,el,by rw[hold hx2];exact hx1,d2,d3,by rw[Vt,List.length_map];exact d4,d5,fun l' hl'=>?_⟩
        injection hl' with hl'
        subst hl';refine⟨rfl,fun j v hj=>?_⟩;have hwf:=((b6 _ rfl).2 j v hj).2;rw[Vt,List.getElem?_map]at hj
        cases hj0:cs[j]? with
        |none=>rw[hj0]at hj;cases hj
        |some u=>
         rw[hj0]at hj
         injection hj with hj
         subst hj;have:=(d6 _ rfl).2 j u hj0;exact⟨by rw[this.1,hval u (Nc cs hD.1 u (List.mem_of_getElem? hj0))],WF.grow hgr _ hwf.1,hwf.2⟩
      ·cases m1 with
       |succ m1=>simp at a1
       |zero=>cases m2 with
        |succ m2=>simp at a2
        |zero=>
         rw[a3]at a4
         injection a4 with a4
         subst a4
         injection a1 with a1
         injection a2 with a2
         injection a1 with _ a1
         injection a2 with _ a2
         injection a1 with a1
         injection a2 with a2
         omega
     |map es kk=>
      have hD:(es.all fun x=>WA (FX h0) x.1&&WA (FX h0) x.2.1)=true:=hD;rw[List.all_eq_true]at hD;obtain⟨q,d1,d2,d3,d4⟩:=B;obtain⟨q',b1,b2,b3,b4⟩:=BH;rw[hx4]at d1
      injection d1 with d1
      subst d1;refine⟨x,by rw[hold hx2];exact hx1,?_,fun y hy=>⟨WF.grow hgr _ (b3 y hy).1,WF.grow hgr _ (b3 y hy).2⟩,d4⟩;rw[d2]
      congr 2
      refine congrArg List.toArray ?_;show _=(es.map (uA fun i=>(g i,0))).map (Xy _);rw[List.map_map];refine List.map_congr_left fun y hy=>?_;have:=hD y hy;rw[Bool.and_eq_true]at this;show Xy _ y=Xy _ (uA _ y);unfold Xy uA;rw[hval _ this.1,hval _ this.2]
    ·
     have hkeep: ∀m x,p k m=some x→w'.heap[x.b]? =w.heap[x.b]? :=fun m x hx=>S.fr.keep x.b (H.lt k m x hx) fun c m' x' hx' hb=>him (by
      unfold Xj at hx'
      split at hx'
      ·rename_i hc;exact⟨c,hc.1,(H.apart _ _ _ _ _ _ hx' hx hb)⟩
      ·cases hx')
     have B:=H.cls k C hkC
     cases C with
     |row ro ms=>
      have B:VD w0.heap.size p st.h.get w k ro ms:=B;refine(⟨fun m e vs cs he=>?_,fun m e vs cs m' e' vs' cs' q q' a1 a2 a3 a4 a5=>?_⟩:VD w0.heap.size (Xi st.n p p1 l) h' w' k ro ms)
      ·obtain⟨q,arr,el,b1,b2,b3,b4,b5,b6⟩:=B.mem m e vs cs he;refine⟨q,arr,el,by rw[hold hk];exact b1,b2.keep (hkeep m q b1),b3,b4,b5,fun l' hl'=>⟨(b6 l' hl').1,fun j v hj=>?_⟩⟩;have hd:=(b6 l' hl').2 j v hj;exact⟨by rw[hcl v hd.2.1];exact hd.1,WF.grow hgr v hd.2.1,hd.2.2⟩
      ·rw[hold hk]at a3 a4;exact B.same m e vs cs m' e' vs' cs' q q' a1 a2 a3 a4 a5
     |iter s r pos=>
      obtain⟨q,b1,b2,b3⟩:=B;exact⟨q,by rw[hold hk];exact b1,(hkeep 0 q b1).trans b2,b3⟩
     |map es n=>
      obtain⟨q,b1,b2,b3,b4⟩:=B;refine⟨q,by rw[hold hk];exact b1,?_,fun x hx=>⟨WF.grow hgr _ (b3 x hx).1,WF.grow hgr _ (b3 x hx).2⟩,b4⟩;rw[hkeep 0 q b1,b2]
      congr 2
      exact congrArg List.toArray (Dm H.Ed hle b3).symm
   ·obtain⟨x,hx1,hx2,hx3,hx4⟩:=hgl c hc;have B:VD w0.heap.size p1 h1 w' c false [(e,0,some cs')]:=S.hr.cls c _ h1c;obtain⟨q,arr,el,d1,d2,d3,d4,d5,d6⟩:=B.mem 0 _ _ _ rfl;rw[hx4]at d1
    injection d1 with d1
    subst d1;refine(⟨fun m e2 vs cs2 he=>?_,fun m1 e1 v1 c1 m2 e2 v2 c2 q1 q2 a1 a2 a3 a4 a5=>?_⟩:VD w0.heap.size (Xi st.n p p1 l) h' w' (g c) false [(e,0,none)])
    ·cases m with
     |succ m=>simp at he
     |zero=>
      injection he with he
      injection he with e1 he
      injection he with e2 e3
      subst e1 e2 e3;exact⟨x,arr,el,by rw[hold hx2];exact hx1,d2,d3,d4,d5,fun l' hl'=>by cases hl'⟩
    ·cases m1 with
     |succ m1=>simp at a1
     |zero=>cases m2 with
      |succ m2=>simp at a2
      |zero=>
       rw[a3]at a4
       injection a4 with a4
       subst a4
       injection a1 with a1
       injection a2 with a2
       injection a1 with _ a1
       injection a2 with _ a2
       injection a1 with a1
       injection a2 with a2
       omega
  ·obtain⟨i,rfl,hi⟩:=A.out k C Qk hC;have hNi:N[i]? =some (N[i]'hi):=List.getElem?_eq_getElem hi;have hy:l[i]? =some (l[i]'(by rw[A.len];exact hi)):=List.getElem?_eq_getElem _;generalize l[i]'(by rw[A.len];exact hi)=y at hy;have hCe:=A.new i _ hNi;rw[hC]at hCe
   injection hCe with hCe
   subst hCe;have K:=A.kept i _ y hNi hy;have hD:=A.wf _ (List.getElem_mem hi)
   generalize N[i]'hi=D at *
   have hpn:=hnew i y hy
   cases D with
   |row cs=>
    have hD:(Sh (FX N) cs&&cs.all QI)=true:=hD;rw[Bool.and_eq_true,List.all_eq_true]at hD;obtain⟨ms,vs0,k1,k2⟩:=K;have B:VD w0.heap.size p1 h1 w' y.1 false ms:=S.hr.cls _ _ k1;obtain⟨q,arr,el,d1,d2,d3,d4,d5,d6⟩:=B.mem _ _ _ _ k2;refine(⟨fun m e vs cs2 he=>?_,fun m1 e1 v1 c1 m2 e2 v2 c2 q1 q2 a1 a2 a3 a4 a5=>?_⟩:VD w0.heap.size (Xi st.n p p1 l) h' w' (st.n+i) false [((Hu (fun i=>(st.n+i,0)) cs).length,0,some (Hu (fun i=>(st.n+i,0)) cs))])
    ·cases m with
     |succ m=>simp at he
     |zero=>
      injection he with he
      injection he with e1 he
      injection he with e2 e3
      subst e1 e2 e3;refine⟨q,arr,el,hpn.trans d1,d2,d3,by rw[Vt,List.length_map];exact d4,d5,fun l' hl'=>?_⟩
      injection hl' with hl'
      subst hl';refine⟨rfl,fun j v hj=>?_⟩;rw[Vt,List.getElem?_map]at hj
      cases hj0:cs[j]? with
      |none=>rw[hj0]at hj;cases hj
      |some u=>
       rw[hj0]at hj
       injection hj with hj
       subst hj;have hu:=Nc cs hD.1 u (List.mem_of_getElem? hj0);have:=(d6 _ rfl).2 j (V5 (fun i=>l.getD i (0,0)) u) (by rw[Vt,List.getElem?_map,hj0];rfl);exact⟨by rw[this.1,hvN u hu],hwN u hu,by rw[eU];exact hD.2 u (List.mem_of_getElem? hj0)⟩
    ·cases m1 with
     |succ m1=>simp at a1
     |zero=>cases m2 with
      |succ m2=>simp at a2
      |zero=>
       rw[a3]at a4
       injection a4 with a4
       subst a4
       injection a1 with a1
       injection a2 with a2
       injection a1 with _ a1
       injection a2 with _ a2
       injection a1 with a1
       injection a2 with a2
       omega
   |map es kk=>
    have hD:(es.all fun x=>WA (FX N) x.1&&WA (FX N) x.2.1)=true:=hD;rw[List.all_eq_true]at hD;obtain⟨k0,k1⟩:=K;obtain⟨q,d1,d2,d3,d4⟩:=S.hr.cls _ _ k1;refine⟨q,by rw[hpn,k0];exact d1,?_,fun x hx=>?_,d4⟩
    ·rw[d2]
     congr 2
     refine congrArg List.toArray ?_;show _=(es.map (uA fun i=>(st.n+i,0))).map (Xy _);rw[List.map_map,List.map_map];refine List.map_congr_left fun x hx=>?_;have:=hD x hx;rw[Bool.and_eq_true]at this;show Xy _ (uA _ x)=Xy _ (uA _ x);unfold Xy uA;rw[hvN _ this.1,hvN _ this.2]
    ·obtain⟨u,hu,rfl⟩:=List.mem_map.1 hx;have:=hD u hu;rw[Bool.and_eq_true]at this;exact⟨hwN _ this.1,hwN _ this.2⟩
 ·unfold Xj at hx
  split at hx
  ·exact hn _ _ _ hx
  ·cases hx
 ·by_cases hk:k<st.n
  ·rw[hold hk,hp]at hx;cases hx
  ·obtain⟨i,y,rfl,rfl,hy,h2⟩:=hnw k m x hk hx;exact .inl (hfar i y x hy h2)
end
end Go.Proofs.YthjgndgnmkiaiaaGreatDoor
