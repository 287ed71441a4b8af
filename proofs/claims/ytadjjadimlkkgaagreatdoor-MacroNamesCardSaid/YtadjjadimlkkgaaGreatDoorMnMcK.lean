/-
  What kinds tell of names and calls: plainly.
-/
import Derived.Test.YtadjjadimlkkgaaGreatDoorMnMcL
import Derived.Test.YtadjjadimlkkgaaGreatDoorMnKnI
namespace Go.Proofs.YtadjjadimlkkgaaGreatDoor
open Go Go.RowKit
set_option linter.unusedVariables false
set_option linter.unusedSectionVars false
set_option linter.unusedSimpArgs false

theorem KJ(s:List Nat): ∀(l:List Dc) (r:Int),(∃d∈l,d.name=s)∨l.foldl (fun r d=>if d.name=s then d.order else r) r=r
 |[],r=>.inr rfl
 |d::l,r=>by
  by_cases e:d.name=s
  ·exact .inl ⟨d,List.mem_cons_self ..,e⟩
  ·rcases KJ s l r with⟨d',h,e'⟩|h
   ·exact .inl ⟨d',List.mem_cons_of_mem _ h,e'⟩
   ·right;rw[List.foldl_cons,if_neg e];exact h
theorem CN{sc:List Dc}{s:List Nat}(h:0≤Je sc s): ∃d∈sc,d.name=s:=by
 rcases KJ s sc (-1)with h1|h1
 ·exact h1
 ·have h1:Je sc s= -1:=h1;omega
theorem CO{pre l:List Dc}{s:List Nat}(h: ∀d∈l,d.name≠s):Je (pre++l) s=Je pre s:=by
 have e:Je (pre++l) s=l.foldl (fun r d=>if d.name=s then d.order else r) (Je pre s):=by unfold Je;rw[List.foldl_append]
 rw[e];rcases KJ s l (Je pre s)with⟨d,h1,h2⟩|h1
 ·exact absurd h2 (h d h1)
 ·exact h1
theorem HV{y:List Nat}: ∀{l pre:List Dc},Jx pre l=none→0≤Je pre y→ ∀d∈l,d.name≠y
 |[],pre,_,_,d,hd=>by cases hd
 |d0::l,pre,h,hy,d,hd=>by
  rw[Jx]at h
  split at h
  ·cases h
  ·rename_i h0;have hne:d0.name≠y:=fun e=>h0 (by rw[e];exact hy);rcases List.mem_cons.1 hd with rfl|hd
   ·exact hne
   ·exact HV h (by rw[Z5,if_neg hne];exact hy) d hd
theorem Ky{y:List Nat}: ∀{ps pre:List Dc} {l:List Nd},Jx pre ps=none→(∀d∈ps,0≤d.order)→ps.length=l.length→(∃d∈ps,d.name=y)→ ∃(i:Nat) (d:Dc) (t:Nd),ps[i]? =some d∧l[i]? =some t∧QS (ps.map Dc.name) l y=some t∧Je (pre++ps) y=d.order
 |[],pre,l,_,_,_,h=>by obtain⟨d,h,_⟩:=h;cases h
 |d0::ps,pre,[],_,_,h,_=>by simp at h
 |d0::ps,pre,t0::l,h2,ho,hl,hy=>by
  rw[Jx]at h2
  split at h2
  ·cases h2
  ·rename_i h0
   by_cases e:d0.name=y
   ·refine⟨0,d0,t0,rfl,rfl,by rw[List.map_cons,QS,if_pos e],?_⟩
    have h3:Je (pre++[d0]) y=d0.order:=by rw[Z5,if_pos e]
    have h4:=HV (y:=y) h2 (by rw[h3];exact ho d0 (List.mem_cons_self ..));have h5:=CO (pre:=pre++[d0]) h4;rw[List.append_assoc]at h5;rw[←h3,←h5];rfl
   ·obtain⟨d,hd,hy⟩:=hy;rcases List.mem_cons.1 hd with rfl|hd
    ·exact absurd hy e
    ·obtain⟨i,d',t,h3,h4,h5,h6⟩:=Ky (pre:=pre++[d0]) (l:=l) h2 (fun d hd=>ho d (List.mem_cons_of_mem _ hd)) (by simpa using hl) ⟨d,hd,hy⟩;refine⟨i+1,d',t,h3,h4,by rw[List.map_cons,QS,if_neg e];exact h5,?_⟩;rw[List.append_assoc]at h6;exact h6
theorem KE{sc:List Dc}{pl:Bool}{a want:Int}: ∀{l:List Nd},Yl sc pl a want l=none→ ∀k∈l,(Qz sc k).2.2=0∧(Qz sc k).1=want
 |[],_,k,hk=>by cases hk
 |k0::l,h,k,hk=>by
  rw[Yl]at h
  split at h
  ·cases h
  ·rename_i h1
   split at h
   ·cases h
   ·rename_i h2;rcases List.mem_cons.1 hk with rfl|hk
    ·exact⟨by omega,by omega⟩
    ·exact KE h k hk
theorem AQ{sc:List Dc}{pl:Bool}{a want:Int}{r:Int×Int}: ∀{l:List Nd},Yl sc pl a want l=some r→r.2≠0
 |[],h=>by rw[Yl]at h;cases h
 |k0::l,h=>by
  rw[Yl]at h
  split at h
  ·rename_i h1
   injection h with h
   rw[←h];exact h1
  ·split at h
   ·injection h with h
    rw[←h];show(7:Int)≠0;decide
   ·exact AQ h
theorem Ro{sc:List Dc}{x:Nd}(h:(Qz sc x).2.2=0)(h0:(Qz sc x).1=0):x.op=[118,97,114]:=by
 obtain⟨op,name,n,a,kids⟩:=x;rw[Qz]at h h0
 by_cases hv:op=[118,97,114]
 ·exact hv
 ·rw[if_neg hv]at h h0
  by_cases hn:op=[110,117,109]
  ·rw[if_pos hn]at h0;cases h0
  ·rw[if_neg hn]at h h0
   split at h
   ·rename_i r hr;exact absurd h (AQ hr)
   ·rename_i hr;rw[hr]at h0;have h0:(if op=[112,108,117,115]then(1:Int)else 2)=0:=h0
    split at h0<;>omega
theorem Wb{op name:List Nat}{n a:Int}{kids:List Nd}(h:Q9 (.mk op name n a kids)=true):op≠[105,115]∧ ¬(op=[101,120]∨op=[97,108,108])∧op≠[99,97,108,108]:=by
 have key: ∀o:List Nat,o=op→ZX≠o→YA≠o→JZ≠o→Zr≠o→Jt o=false→False:=by
  rintro o rfl h1 h2 h3 h4 h5
  rw[Jc,if_neg (fun e=>h1 e.symm),if_neg (fun e=>h2 e.symm),if_neg (fun e=>h3 e.symm),if_neg (fun e=>h4 e.symm),if_neg (by rw[h5];decide)]at h;cases h
 refine⟨fun e=>key _ e.symm (by decide) (by decide) (by decide) (by decide) (by decide),?_,fun e=>key _ e.symm (by decide) (by decide) (by decide) (by decide) (by decide)⟩
 rintro(e|e)<;>exact key _ e.symm (by decide) (by decide) (by decide) (by decide) (by decide)
theorem TB{name:List Nat}{n a:Int}{kids:List Nd}(h:Q9 (.mk [110,117,109] name n a kids)=true):kids=[]:=by
 rw[Jc,if_neg (by decide),if_pos (by rfl)]at h;simp only[Bool.and_eq_true,decide_eq_true_eq]at h;exact Rn h.2.2.2
theorem KD(x:Nd):Q9 x=true→ ∀sc,(Qz sc x).2.2=0→ ∀z∈Qx x [],0≤Je sc z:=by
 refine J2 (M:=fun x=>Q9 x=true→ ∀sc,(Qz sc x).2.2=0→ ∀z∈Qx x [],0≤Je sc z) (fun op name n a kids ih ht sc h z hz=>?_) x;have hk:=Vc ht;rw[Qz]at h
 by_cases hv:op=[118,97,114]
 ·rw[if_pos hv]at h;rw[Qx,if_pos (.inl hv),if_neg (by simp[V1]),List.mem_singleton]at hz;subst hz
  split at h
  ·exact absurd h (show¬(5:Int)=0 by decide)
  ·omega
 ·rw[if_neg hv]at h;have hs: ¬op=[105,115]:=(Wb ht).1;have hb: ¬(op=[101,120]∨op=[97,108,108]):=(Wb ht).2.1;rw[Qx,if_neg (by rintro(e|e);exact hv e;exact hs e),if_neg hb]at hz;obtain⟨k,hkm,hz⟩:=Jh.1 hz
  by_cases hn:op=[110,117,109]
  ·subst hn;rw[TB ht]at hkm;cases hkm
  ·rw[if_neg hn]at h
   split at h
   ·rename_i r hr;exact absurd h (AQ hr)
   ·rename_i hr;exact ih k hkm (hk k hkm) sc (KE hr k hkm).1 z hz
theorem IT(x:Nd):Q9 x=true→Zu x []=[]:=by
 refine J2 (M:=fun x=>Q9 x=true→Zu x []=[]) (fun op name n a kids ih ht=>?_) x;have hk:=Vc ht;rw[Zu,if_neg (Wb ht).1,if_neg (Wb ht).2.1]
 have h0:Rz kids []=[]:=by
  refine List.eq_nil_iff_forall_not_mem.2 fun z hz=>?_;obtain⟨k,hkm,hz⟩:=Yd.1 hz;rw[ih k hkm (hk k hkm)]at hz;cases hz
 rw[h0]
 split<;>rfl
theorem Ca{sc:List Dc}{a:Int}: ∀{ds:List Dc} {l:List Nd},(Wv sc a ds l).2=0→ ∀(i:Nat) (d:Dc) (t:Nd),ds[i]? =some d→l[i]? =some t→(Qz sc t).2.2=0∧(Qz sc t).1=d.order
 |[],l,_,i,d,t,h1,_=>by simp at h1
 |d0::ds,[],_,i,d,t,_,h2=>by simp at h2
 |d0::ds,t0::l,h,i,d,t,h1,h2=>by
  rw[Wv]at h
  split at h
  ·rename_i h3;exact absurd h h3
  ·rename_i h3
   split at h
   ·exact absurd h (show¬(7:Int)=0 by decide)
   ·rename_i h4
    cases i with
    |zero=>
     injection h1 with h1
     injection h2 with h2
     subst h1 h2;exact⟨by omega,by omega⟩
    |succ i=>exact Ca h i d t h1 h2
theorem BM{ps:List Pd}{sc:List Dc}{s:List Nat}{a:Int}{l:List Nd}(h:(Z9 ps sc s a l).2=0): ∃p,ps.find? (fun p=>decide (p.name=s))=some p∧p.params.length=l.length∧ ∀(i:Nat) (d:Dc) (t:Nd),p.params[i]? =some d→l[i]? =some t→(Qz sc t).2.2=0∧(Qz sc t).1=d.order:=by
 unfold Z9 at h
 split at h
 ·exact absurd h (show¬(5:Int)=0 by decide)
 ·rename_i p hp
  split at h
  ·exact absurd h (show¬(7:Int)=0 by decide)
  ·rename_i hl;exact⟨p,hp,by omega,Ca h⟩
def Gd(ps:List Pd)(y:Nd):Prop:=match y with
 |.mk _ s _ _ l=> ∃p sc,ps.find? (fun p=>decide (p.name=s))=some p∧p.params.length=l.length∧(∀t∈l,Q9 t=true)∧ ∀(i:Nat) (d:Dc) (t:Nd),p.params[i]? =some d→l[i]? =some t→(Qz sc t).2.2=0∧(Qz sc t).1=d.order
theorem OT{ps:List Pd}{sc:List Dc}: ∀{l:List Nd},(Ld ps l sc).2=0→ ∀k∈l,(UK ps k sc).2=0
 |[],_,k,hk=>by cases hk
 |k0::l,h,k,hk=>by
  rw[Ld]at h
  split at h
  ·rename_i h1;exact absurd h h1
  ·rename_i h1;rcases List.mem_cons.1 hk with rfl|hk
   ·omega
   ·exact OT h k hk
theorem Tm{sc:List Dc}{op:List Nat}{a:Int}{k j:Nd}(h:(JS sc op a k j).2=0):(Qz sc k).2.2=0∧(Qz sc j).2.2=0:=by
 unfold JS at h
 split at h
 ·rename_i h1;exact absurd h h1
 ·rename_i h1
  split at h
  ·rename_i h2;exact absurd h h2
  ·rename_i h2;exact⟨by omega,by omega⟩
theorem Gs{l:List Nd}(h: ∀t∈l,Q9 t=true): ∀t∈l,JE t=[]:=by
 have key: ∀x:Nd,Q9 x=true→JE x=[]:=fun x=>by
  refine J2 (M:=fun x=>Q9 x=true→JE x=[]) (fun op name n a kids ih ht=>?_) x;have hk:=Vc ht;rw[JE,if_neg (Wb ht).2.2];clear ht
  induction kids with
  |nil=>rfl
  |cons k kids ihk=>
   rw[JE.callsInL,ih k (List.mem_cons_self ..) (hk k (List.mem_cons_self ..)),ihk (fun k' h'=>ih k' (List.mem_cons_of_mem _ h')) fun k' h'=>hk k' (List.mem_cons_of_mem _ h')];rfl
 exact fun t ht=>key t (h t ht)
theorem Vn{y:Nd}: ∀{l:List Nd},y∈JE.callsInL l→ ∃k∈l,y∈JE k
 |[],h=>by cases h
 |k::l,h=>by
  rw[JE.callsInL]at h;rcases List.mem_append.1 h with h|h
  ·exact⟨k,List.mem_cons_self ..,h⟩
  ·obtain⟨k',hk',h⟩:=Vn h;exact⟨k',List.mem_cons_of_mem _ hk',h⟩
theorem Ag(ps:List Pd)(x:Nd):QW x=true→ ∀sc,(UK ps x sc).2=0→(∀z∈Qx x [],0≤Je sc z)∧(∀z∈Zu x [],Je sc z=0)∧ ∀y∈JE x,Gd ps y:=by
 refine J2 (M:=fun x=>QW x=true→ ∀sc,(UK ps x sc).2=0→(∀z∈Qx x [],0≤Je sc z)∧(∀z∈Zu x [],Je sc z=0)∧ ∀y∈JE x,Gd ps y) (fun op name n a kids ih hf sc h=>?_) x;rw[Yf]at h
 by_cases hs:op=[105,115]
 ·rw[if_pos hs]at h
  have ho:Je sc name=0:=by
   split at h
   ·exact absurd h (show¬(5:Int)=0 by decide)
   ·split at h
    ·assumption
    ·exact absurd h (show¬(7:Int)=0 by decide)
  have hk:=GQ (.inl hf) (.inr hs);subst hk;refine⟨fun z hz=>?_,fun z hz=>?_,fun y hy=>?_⟩
  ·rw[Qx,if_pos (.inr hs),if_neg (by simp[V1]),List.mem_singleton]at hz;rw[hz];omega
  ·rw[Zu,if_pos hs,if_neg (by simp[V1]),List.mem_singleton]at hz;rw[hz];exact ho
  ·rw[JE,if_neg (by rw[hs];decide)]at hy;cases hy
 rw[if_neg hs]at h
 have hv: ¬op=[118,97,114]:=fun e=>by subst e;rw[Jd]at hf;simp[oneOf]at hf
 by_cases hc:op=[99,97,108,108]
 ·subst hc;rw[if_pos rfl]at h;have hT:=AU hf;obtain⟨p,hp,hpl,hpk⟩:=BM h
  have hall: ∀t∈kids,(Qz sc t).2.2=0:=fun t ht=>by
   obtain⟨i,hi⟩:=List.getElem?_of_mem ht
   have hlt:i<p.params.length:=by rw[hpl];exact(List.getElem?_eq_some_iff.1 hi).1
   exact(hpk i _ t (List.getElem?_eq_getElem hlt) hi).1
  refine⟨fun z hz=>?_,fun z hz=>?_,fun y hy=>?_⟩
  ·rw[Qx,if_neg (by decide),if_neg (by decide)]at hz;obtain⟨k,hk,hz⟩:=Jh.1 hz;exact KD k (hT k hk) sc (hall k hk) z hz
  ·rw[Zu,if_neg (by decide),if_neg (by decide),if_neg (by decide)]at hz;obtain⟨k,hk,hz⟩:=Yd.1 hz;rw[IT k (hT k hk)]at hz;cases hz
  ·rw[JE,if_pos rfl,List.mem_singleton]at hy;subst hy;exact⟨p,sc,hp,hpl,hT,hpk⟩
 rw[if_neg hc]at h
 by_cases ha:UY op=true
 ·rw[if_pos ha]at h;obtain⟨k,j,rfl,hT⟩:=Ye hf ha;have hp:=Tm h
  have hall: ∀t∈[k,j],(Qz sc t).2.2=0:=fun t ht=>by
   rcases List.mem_cons.1 ht with rfl|ht
   ·exact hp.1
   ·rw[List.mem_singleton]at ht;subst ht;exact hp.2
  have hb: ¬(op=[101,120]∨op=[97,108,108]):=by rintro(rfl|rfl)<;>exact absurd ha (by decide)
  refine⟨fun z hz=>?_,fun z hz=>?_,fun y hy=>?_⟩
  ·rw[Qx,if_neg (by rintro(e|e);exact hv e;exact hs e),if_neg hb]at hz;obtain⟨k',hk,hz⟩:=Jh.1 hz;exact KD k' (hT k' hk) sc (hall k' hk) z hz
  ·rw[Zu,if_neg hs,if_neg hv,if_neg hb]at hz;obtain⟨k',hk,hz⟩:=Yd.1 hz;rw[IT k' (hT k' hk)]at hz;cases hz
  ·rw[JE,if_neg hc]at hy;obtain⟨k',hk,hy⟩:=Vn hy;rw[Gs hT k' hk]at hy;cases hy
 rw[if_neg ha]at h;have hk:=Hz hf hs hc (by simpa using ha);have hkc:=OT h
 by_cases hb:op=[101,120]∨op=[97,108,108]
 ·rw[if_pos hb]at hkc;refine⟨fun z hz=>?_,fun z hz=>?_,fun y hy=>?_⟩
  ·rw[Qx,if_neg (by rintro(e|e);exact hv e;exact hs e),if_pos hb]at hz;obtain⟨k,hkm,hz⟩:=Jh.1 hz;obtain⟨h1,h2⟩:=(YB _ _ _).1 hz;have:=(ih k hkm (hk k hkm) _ (hkc k hkm)).1 z h1
   rwa [Z5,if_neg (fun e=>h2 (by rw[←e];simp))]at this
  ·rw[Zu,if_neg hs,if_neg hv,if_pos hb]at hz;obtain⟨k,hkm,hz⟩:=Yd.1 hz;obtain⟨h1,h2⟩:=(F7 _ _ _).1 hz;have:=(ih k hkm (hk k hkm) _ (hkc k hkm)).2.1 z h1
   rwa [Z5,if_neg (fun e=>h2 (by rw[←e];simp))]at this
  ·rw[JE,if_neg hc]at hy;obtain⟨k,hkm,hy⟩:=Vn hy;exact(ih k hkm (hk k hkm) _ (hkc k hkm)).2.2 y hy
 ·rw[if_neg hb]at hkc;refine⟨fun z hz=>?_,fun z hz=>?_,fun y hy=>?_⟩
  ·rw[Qx,if_neg (by rintro(e|e);exact hv e;exact hs e),if_neg hb]at hz;obtain⟨k,hkm,hz⟩:=Jh.1 hz;exact(ih k hkm (hk k hkm) _ (hkc k hkm)).1 z hz
  ·rw[Zu,if_neg hs,if_neg hv,if_neg hb]at hz;obtain⟨k,hkm,hz⟩:=Yd.1 hz;exact(ih k hkm (hk k hkm) _ (hkc k hkm)).2.1 z hz
  ·rw[JE,if_neg hc]at hy;obtain⟨k,hkm,hy⟩:=Vn hy;exact(ih k hkm (hk k hkm) _ (hkc k hkm)).2.2 y hy
end Go.Proofs.YtadjjadimlkkgaaGreatDoor
