/-
  What kinds tell of names and calls: plainly.
-/
import Derived.Test.YtaomhhkflohhgaaGreatDoorMgMcL
import Derived.Test.YtaomhhkflohhgaaGreatDoorMgKnI
set_option linter.unnecessarySimpa false
set_option linter.unusedSectionVars false
set_option linter.unusedSimpArgs false
set_option linter.unusedVariables false
namespace Go.Proofs.YtaomhhkflohhgaaGreatDoor
open Go Go.RowKit
section
variable {a:Int} {s:List Nat}

theorem NW(s:List Nat): ∀(l:List Dc) (r:Int),(∃d∈l,d.name=s)∨l.foldl (fun r d=>if d.name=s then d.order else r) r=r
 |[],r=>.inr rfl
 |d::l,r=>by
  by_cases e:d.name=s
  ·exact .inl ⟨d,List.mem_cons_self ..,e⟩
  ·rcases NW s l r with⟨d',h,e'⟩|h
   ·exact .inl ⟨d',List.mem_cons_of_mem _ h,e'⟩
   ·right;rw[List.foldl_cons,if_neg e];exact h
theorem Rh{sc:List Dc}(h:0≤JA sc s): ∃d∈sc,d.name=s:=by
 rcases NW s sc (-1)with h1|h1
 ·exact h1
 ·have h1:JA sc s= -1:=h1;omega
theorem Ri{pre l:List Dc}(h: ∀d∈l,d.name≠s):JA (pre++l) s=JA pre s:=by
 have e:JA (pre++l) s=l.foldl (fun r d=>if d.name=s then d.order else r) (JA pre s):=by unfold JA;rw[List.foldl_append]
 rw[e];rcases NW s l (JA pre s)with⟨d,h1,h2⟩|h1
 ·exact absurd h2 (h d h1)
 ·exact h1
theorem Lk{y:List Nat}: ∀{l pre:List Dc},Ue pre l=none→0≤JA pre y→ ∀d∈l,d.name≠y
 |[],pre,_,_,d,hd=>by cases hd
 |d0::l,pre,h,hy,d,hd=>by
  rw[Ue]at h
  split at h
  ·cases h
  ·rename_i h0;have hne:d0.name≠y:=fun e=>h0 (by rw[e];exact hy);rcases List.mem_cons.1 hd with rfl|hd
   ·exact hne
   ·exact Lk h (by rw[XL,if_neg hne];exact hy) d hd
theorem NN{y:List Nat}: ∀{ps pre:List Dc} {l:List Nd},Ue pre ps=none→(∀d∈ps,0≤d.order)→ps.length=l.length→(∃d∈ps,d.name=y)→ ∃(i:Nat) (d:Dc) (t:Nd),ps[i]? =some d∧l[i]? =some t∧Jt (ps.map Dc.name) l y=some t∧JA (pre++ps) y=d.order
 |[],pre,l,_,_,_,h=>by obtain⟨d,h,_⟩:=h;cases h
 |d0::ps,pre,[],_,_,h,_=>by simp at h
 |d0::ps,pre,t0::l,h2,ho,hl,hy=>by
  rw[Ue]at h2
  split at h2
  ·cases h2
  ·rename_i h0
   by_cases e:d0.name=y
   ·refine⟨0,d0,t0,rfl,rfl,by rw[List.map_cons,Jt,if_pos e],?_⟩
    have h3:JA (pre++[d0]) y=d0.order:=by rw[XL,if_pos e]
    have h4:=Lk (y:=y) h2 (by rw[h3];exact ho d0 (List.mem_cons_self ..));have h5:=Ri (pre:=pre++[d0]) h4;rw[List.append_assoc]at h5;rw[←h3,←h5];rfl
   ·obtain⟨d,hd,hy⟩:=hy;rcases List.mem_cons.1 hd with rfl|hd
    ·exact absurd hy e
    ·obtain⟨i,d',t,h3,h4,h5,h6⟩:=NN (pre:=pre++[d0]) (l:=l) h2 (fun d hd=>ho d (List.mem_cons_of_mem _ hd)) (by simpa using hl) ⟨d,hd,hy⟩;refine⟨i+1,d',t,h3,h4,by rw[List.map_cons,Jt,if_neg e];exact h5,?_⟩;rw[List.append_assoc]at h6;exact h6
theorem NR{sc:List Dc}{pl:Bool}{a want:Int}: ∀{l:List Nd},Zq sc pl a want l=none→ ∀k∈l,(QB sc k).2.2=0∧(QB sc k).1=want
 |[],_,k,hk=>by cases hk
 |k0::l,h,k,hk=>by
  rw[Zq]at h
  split at h
  ·cases h
  ·rename_i h1
   split at h
   ·cases h
   ·rename_i h2;rcases List.mem_cons.1 hk with rfl|hk
    ·exact⟨by omega,by omega⟩
    ·exact NR h k hk
theorem Ii{sc:List Dc}{pl:Bool}{a want:Int}{r:Int×Int}: ∀{l:List Nd},Zq sc pl a want l=some r→r.2≠0
 |[],h=>by rw[Zq]at h;cases h
 |k0::l,h=>by
  rw[Zq]at h
  split at h
  ·rename_i h1
   injection h with h
   rw[←h];exact h1
  ·split at h
   ·injection h with h
    rw[←h];show(7:Int)≠0;decide
   ·exact Ii h
theorem Me{sc:List Dc}{x:Nd}(h:(QB sc x).2.2=0)(h0:(QB sc x).1=0):x.op=[118,97,114]:=by
 obtain⟨op,name,n,a,kids⟩:=x;rw[QB]at h h0
 by_cases hv:op=[118,97,114]
 ·exact hv
 ·rw[if_neg hv]at h h0
  by_cases hn:op=[110,117,109]
  ·rw[if_pos hn]at h0;cases h0
  ·rw[if_neg hn]at h h0
   split at h
   ·rename_i r hr;exact absurd h (Ii hr)
   ·rename_i hr;rw[hr]at h0;have h0:(if op=[112,108,117,115]then(1:Int)else 2)=0:=h0
    split at h0<;>omega
theorem EF{op name:List Nat}{n:Int}{kids:List Nd}(h:QO (.mk op name n a kids)=true):op≠[105,115]∧ ¬(op=[101,120]∨op=[97,108,108])∧op≠[99,97,108,108]:=by
 have key: ∀o:List Nat,o=op→Vk≠o→ZK≠o→US≠o→X7≠o→JR o=false→False:=by
  rintro o rfl h1 h2 h3 h4 h5
  rw[J6,if_neg (fun e=>h1 e.symm),if_neg (fun e=>h2 e.symm),if_neg (fun e=>h3 e.symm),if_neg (fun e=>h4 e.symm),if_neg (by rw[h5];decide)]at h;cases h
 refine⟨fun e=>key _ e.symm QT QT QT QT QT,?_,fun e=>key _ e.symm QT QT QT QT QT⟩
 rintro(e|e)<;>exact key _ e.symm QT QT QT QT QT
theorem jA{name:List Nat}{n:Int}{kids:List Nd}(h:QO (.mk [110,117,109] name n a kids)=true):kids=[]:=by
 rw[J6,if_neg QT,if_pos (by rfl)]at h;simp only[Bool.and_eq_true,decide_eq_true_eq]at h;exact Md h.2.2.2
theorem NQ(x:Nd):QO x=true→ ∀sc,(QB sc x).2.2=0→ ∀z∈QE x [],0≤JA sc z:=by
 refine Uz (M:=fun x=>QO x=true→ ∀sc,(QB sc x).2.2=0→ ∀z∈QE x [],0≤JA sc z) (fun op name n a kids ih ht sc h z hz=>?_) x;have hk:=W4 ht;rw[QB]at h
 by_cases hv:op=[118,97,114]
 ·rw[if_pos hv]at h;rw[QE,if_pos (.inl hv),if_neg (by simp[F4]),List.mem_singleton]at hz;subst hz
  split at h
  ·exact absurd h (show¬(5:Int)=0 by decide)
  ·omega
 ·rw[if_neg hv]at h;have hs: ¬op=[105,115]:=(EF ht).1;have hb: ¬(op=[101,120]∨op=[97,108,108]):=(EF ht).2.1;rw[QE,if_neg (by rintro(e|e);exact hv e;exact hs e),if_neg hb]at hz;obtain⟨k,hkm,hz⟩:=JV.1 hz
  by_cases hn:op=[110,117,109]
  ·subst hn;rw[jA ht]at hkm;cases hkm
  ·rw[if_neg hn]at h
   split at h
   ·rename_i r hr;exact absurd h (Ii hr)
   ·rename_i hr;exact ih k hkm (hk k hkm) sc (NR hr k hkm).1 z hz
theorem Nk(x:Nd):QO x=true→XB x []=[]:=by
 refine Uz (M:=fun x=>QO x=true→XB x []=[]) (fun op name n a kids ih ht=>?_) x;have hk:=W4 ht;rw[XB,if_neg (EF ht).1,if_neg (EF ht).2.1]
 have h0:Mr kids []=[]:=by
  refine List.eq_nil_iff_forall_not_mem.2 fun z hz=>?_;obtain⟨k,hkm,hz⟩:=Zk.1 hz;rw[ih k hkm (hk k hkm)]at hz;cases hz
 rw[h0]
 split<;>rfl
theorem Pr{sc:List Dc}{a:Int}: ∀{ds:List Dc} {l:List Nd},(Aa sc a ds l).2=0→ ∀(i:Nat) (d:Dc) (t:Nd),ds[i]? =some d→l[i]? =some t→(QB sc t).2.2=0∧(QB sc t).1=d.order
 |[],l,_,i,d,t,h1,_=>by simp at h1
 |d0::ds,[],_,i,d,t,_,h2=>by simp at h2
 |d0::ds,t0::l,h,i,d,t,h1,h2=>by
  rw[Aa]at h
  split at h
  ·rename_i h3;exact absurd h h3
  ·rename_i h3
   split at h
   ·exact absurd h (show¬(7:Int)=0 by decide)
   ·rename_i h4
    cases i with
    |zero=>
     injection h1 with h1
     injection h2 with h2
     subst h1 h2;exact⟨by omega,by omega⟩
    |succ i=>exact Pr h i d t h1 h2
theorem Pc{ps:List Pd}{sc:List Dc}{l:List Nd}(h:(XQ ps sc s a l).2=0): ∃p,ps.find? (fun p=>decide (p.name=s))=some p∧p.params.length=l.length∧ ∀(i:Nat) (d:Dc) (t:Nd),p.params[i]? =some d→l[i]? =some t→(QB sc t).2.2=0∧(QB sc t).1=d.order:=by
 unfold XQ at h
 split at h
 ·exact absurd h (show¬(5:Int)=0 by decide)
 ·rename_i p hp
  split at h
  ·exact absurd h (show¬(7:Int)=0 by decide)
  ·rename_i hl;exact⟨p,hp,by omega,Pr h⟩
def Cx(ps:List Pd)(y:Nd):Prop:=match y with
 |.mk _ s _ _ l=> ∃p sc,ps.find? (fun p=>decide (p.name=s))=some p∧p.params.length=l.length∧(∀t∈l,QO t=true)∧ ∀(i:Nat) (d:Dc) (t:Nd),p.params[i]? =some d→l[i]? =some t→(QB sc t).2.2=0∧(QB sc t).1=d.order
theorem Cn{ps:List Pd}{sc:List Dc}: ∀{l:List Nd},(Ow ps l sc).2=0→ ∀k∈l,(YJ ps k sc).2=0
 |[],_,k,hk=>by cases hk
 |k0::l,h,k,hk=>by
  rw[Ow]at h
  split at h
  ·rename_i h1;exact absurd h h1
  ·rename_i h1;rcases List.mem_cons.1 hk with rfl|hk
   ·omega
   ·exact Cn h k hk
theorem jh{sc:List Dc}{op:List Nat}{k j:Nd}(h:(UD sc op a k j).2=0):(QB sc k).2.2=0∧(QB sc j).2.2=0:=by
 unfold UD at h
 split at h
 ·rename_i h1;exact absurd h h1
 ·rename_i h1
  split at h
  ·rename_i h2;exact absurd h h2
  ·rename_i h2;exact⟨by omega,by omega⟩
theorem CD{l:List Nd}(h: ∀t∈l,QO t=true): ∀t∈l,U3 t=[]:=by
 have key: ∀x:Nd,QO x=true→U3 x=[]:=fun x=>by
  refine Uz (M:=fun x=>QO x=true→U3 x=[]) (fun op name n a kids ih ht=>?_) x;have hk:=W4 ht;rw[U3,if_neg (EF ht).2.2];clear ht
  induction kids with
  |nil=>rfl
  |cons k kids ihk=>
   rw[U3.callsInL,ih k (List.mem_cons_self ..) (hk k (List.mem_cons_self ..)),ihk (fun k' h'=>ih k' (List.mem_cons_of_mem _ h')) fun k' h'=>hk k' (List.mem_cons_of_mem _ h')];rfl
 exact fun t ht=>key t (h t ht)
theorem WI{y:Nd}: ∀{l:List Nd},y∈U3.callsInL l→ ∃k∈l,y∈U3 k
 |[],h=>by cases h
 |k::l,h=>by
  rw[U3.callsInL]at h;rcases List.mem_append.1 h with h|h
  ·exact⟨k,List.mem_cons_self ..,h⟩
  ·obtain⟨k',hk',h⟩:=WI h;exact⟨k',List.mem_cons_of_mem _ hk',h⟩
theorem Hb(ps:List Pd)(x:Nd):Jw x=true→ ∀sc,(YJ ps x sc).2=0→(∀z∈QE x [],0≤JA sc z)∧(∀z∈XB x [],JA sc z=0)∧ ∀y∈U3 x,Cx ps y:=by
 refine Uz (M:=fun x=>Jw x=true→ ∀sc,(YJ ps x sc).2=0→(∀z∈QE x [],0≤JA sc z)∧(∀z∈XB x [],JA sc z=0)∧ ∀y∈U3 x,Cx ps y) (fun op name n a kids ih hf sc h=>?_) x;rw[Zn]at h
 by_cases hs:op=[105,115]
 ·rw[if_pos hs]at h
  have ho:JA sc name=0:=by
   split at h
   ·exact absurd h (show¬(5:Int)=0 by decide)
   ·split at h
    ·assumption
    ·exact absurd h (show¬(7:Int)=0 by decide)
  have hk:=Dp (.inl hf) (.inr hs);subst hk;refine⟨fun z hz=>?_,fun z hz=>?_,fun y hy=>?_⟩
  ·rw[QE,if_pos (.inr hs),if_neg (by simp[F4]),List.mem_singleton]at hz;rw[hz];omega
  ·rw[XB,if_pos hs,if_neg (by simp[F4]),List.mem_singleton]at hz;rw[hz];exact ho
  ·rw[U3,if_neg (by rw[hs];decide)]at hy;cases hy
 rw[if_neg hs]at h
 have hv: ¬op=[118,97,114]:=fun e=>by subst e;rw[J7]at hf;simp[oneOf]at hf
 by_cases hc:op=[99,97,108,108]
 ·subst hc;rw[if_pos rfl]at h;have hT:=Ip hf;obtain⟨p,hp,hpl,hpk⟩:=Pc h
  have hall: ∀t∈kids,(QB sc t).2.2=0:=fun t ht=>by
   obtain⟨i,hi⟩:=List.getElem?_of_mem ht
   have hlt:i<p.params.length:=by rw[hpl];exact(List.getElem?_eq_some_iff.1 hi).1
   exact(hpk i _ t (List.getElem?_eq_getElem hlt) hi).1
  refine⟨fun z hz=>?_,fun z hz=>?_,fun y hy=>?_⟩
  ·rw[QE,if_neg QT,if_neg QT]at hz;obtain⟨k,hk,hz⟩:=JV.1 hz;exact NQ k (hT k hk) sc (hall k hk) z hz
  ·rw[XB,if_neg QT,if_neg QT,if_neg QT]at hz;obtain⟨k,hk,hz⟩:=Zk.1 hz;rw[Nk k (hT k hk)]at hz;cases hz
  ·rw[U3,if_pos rfl,List.mem_singleton]at hy;subst hy;exact⟨p,sc,hp,hpl,hT,hpk⟩
 rw[if_neg hc]at h
 by_cases ha:Zd op=true
 ·rw[if_pos ha]at h;obtain⟨k,j,rfl,hT⟩:=Zl hf ha;have hp:=jh h
  have hall: ∀t∈[k,j],(QB sc t).2.2=0:=fun t ht=>by
   rcases List.mem_cons.1 ht with rfl|ht
   ·exact hp.1
   ·rw[List.mem_singleton]at ht;subst ht;exact hp.2
  have hb: ¬(op=[101,120]∨op=[97,108,108]):=by rintro(rfl|rfl)<;>exact absurd ha QT
  refine⟨fun z hz=>?_,fun z hz=>?_,fun y hy=>?_⟩
  ·rw[QE,if_neg (by rintro(e|e);exact hv e;exact hs e),if_neg hb]at hz;obtain⟨k',hk,hz⟩:=JV.1 hz;exact NQ k' (hT k' hk) sc (hall k' hk) z hz
  ·rw[XB,if_neg hs,if_neg hv,if_neg hb]at hz;obtain⟨k',hk,hz⟩:=Zk.1 hz;rw[Nk k' (hT k' hk)]at hz;cases hz
  ·rw[U3,if_neg hc]at hy;obtain⟨k',hk,hy⟩:=WI hy;rw[CD hT k' hk]at hy;cases hy
 rw[if_neg ha]at h;have hk:=KX hf hs hc (by simpa using ha);have hkc:=Cn h
 by_cases hb:op=[101,120]∨op=[97,108,108]
 ·rw[if_pos hb]at hkc;refine⟨fun z hz=>?_,fun z hz=>?_,fun y hy=>?_⟩
  ·rw[QE,if_neg (by rintro(e|e);exact hv e;exact hs e),if_pos hb]at hz;obtain⟨k,hkm,hz⟩:=JV.1 hz;obtain⟨h1,h2⟩:=(Vr _ _ _).1 hz;have:=(ih k hkm (hk k hkm) _ (hkc k hkm)).1 z h1
   rwa [XL,if_neg (fun e=>h2 (by rw[←e];simp))]at this
  ·rw[XB,if_neg hs,if_neg hv,if_pos hb]at hz;obtain⟨k,hkm,hz⟩:=Zk.1 hz;obtain⟨h1,h2⟩:=(IZ _ _ _).1 hz;have:=(ih k hkm (hk k hkm) _ (hkc k hkm)).2.1 z h1
   rwa [XL,if_neg (fun e=>h2 (by rw[←e];simp))]at this
  ·rw[U3,if_neg hc]at hy;obtain⟨k,hkm,hy⟩:=WI hy;exact(ih k hkm (hk k hkm) _ (hkc k hkm)).2.2 y hy
 ·rw[if_neg hb]at hkc;refine⟨fun z hz=>?_,fun z hz=>?_,fun y hy=>?_⟩
  ·rw[QE,if_neg (by rintro(e|e);exact hv e;exact hs e),if_neg hb]at hz;obtain⟨k,hkm,hz⟩:=JV.1 hz;exact(ih k hkm (hk k hkm) _ (hkc k hkm)).1 z hz
  ·rw[XB,if_neg hs,if_neg hv,if_neg hb]at hz;obtain⟨k,hkm,hz⟩:=Zk.1 hz;exact(ih k hkm (hk k hkm) _ (hkc k hkm)).2.1 z hz
  ·rw[U3,if_neg hc]at hy;obtain⟨k,hkm,hy⟩:=WI hy;exact(ih k hkm (hk k hkm) _ (hkc k hkm)).2.2 y hy
end
section
set_option maxHeartbeats 8000000
set_option maxRecDepth 100000
variable {a z:Int} {cs:List AV} {i:Nat} {l:List Nd} {o s:List Nat} {st:St}

def er(r:Option Int):Int:=r.getD 0
def ep:Option Int→Int
 |some _=>6
 |none=>0
theorem Gr(hf:Qw st){l:List Dc}{kd:AV}{ld:List (List AV)}(hD:Xi st.h.get l kd ld): ∃v st',Ev Tryz.prog QR 14 [kd] st v st'∧v=.tup [.int .i64 (er (Ue [] l)),.int .i64 (ep (Ue [] l))]∧Qt st st':=by
 obtain⟨v,st',h,rfl,q⟩:=ql hf hD
 exact⟨_,_,h,by cases Ue [] l<;>rfl,q⟩
def LH(ps:List Pd)(p:Pd):Int×Int:=if ps.any (fun q=>decide (q.name=p.name))then(p.at_,6)else match Ue [] p.params with
 |some a=>(a,6)
 |none=>YJ ps p.body p.params
theorem De{l:List Pd}{p:Pd}(h:l[i]? =some p):EL (l.take i) (l.drop i)=if(LH (l.take i) p).2≠0 then some (LH (l.take i) p)else EL (l.take (i+1)) (l.drop (i+1)):=by
 rw[TE h,LH]
 by_cases h1:(l.take i).any (fun q=>decide (q.name=p.name))=true
 ·rw[if_pos h1,if_pos h1];rfl
 rw[if_neg h1,if_neg h1]
 cases Ue [] p.params with
 |some a=>rfl
 |none=>rfl
theorem PY{n:List Nat}{pp:List Dc}{b:Nd}(h:En ⟨n,pp,b,z⟩=true):Jw b=true∧pp.length+Uj b≤1000000:=by
 rw[Fv]at h;simp only[Bool.and_eq_true,decide_eq_true_eq,ZF]at h;obtain⟨_,h2,_,⟨h3,_⟩,h4⟩:=h;exact⟨h4,by omega⟩
theorem PW{ds:List Dc}{ps:List Pd}{m:Nd}(h:Em ⟨ds,ps,m⟩=true){p:Pd}(hm:p∈ps):En p=true:=by
 rw[Fu]at h;simp only[Bool.and_eq_true,List.all_eq_true]at h;exact h.2.1 p hm
theorem PX{ds:List Dc}{ps:List Pd}{m:Nd}(h:Em ⟨ds,ps,m⟩=true):Jw m=true∧Uj m≤2000:=by
 rw[Fu]at h;simp only[Bool.and_eq_true,decide_eq_true_eq,ZF]at h;exact⟨h.2.2.2,by have:=h.2.2.1.1;omega⟩
theorem I9.take{h h':Hp}(hl:FK h h'){ps:List Pd}{kp:AV}{lp:List (List AV)}(H:I9 h ps kp lp){i:Nat}{ks:AV}(r:QS h' [] 8 (lp.take i) ks):I9 h' (ps.take i) ks (lp.take i):=
 ⟨r,by rw[List.length_take,List.length_take,H.ln],fun j k hj=>by
  have hlt:=(List.getElem?_eq_some_iff.1 hj).1;rw[List.length_take]at hlt;rw[List.getElem?_take_of_lt Qh]at hj;obtain⟨cs,h1,h2⟩:=H.at_ _ _ hj
  exact⟨cs,by rw[List.getElem?_take_of_lt Qh];exact h1,h2.mono hl⟩⟩
theorem I9.yG{h h':Hp}(hl:FK h h'){ps:List Pd}{kp:AV}{lp:List (List AV)}(H:I9 h ps kp lp)(hi:ps.length≤i){ks:AV}(r:QS h' [] 8 (lp.take i) ks):I9 h' ps ks (lp.take i):=by
 have h1:=I9.take hl H r;rw[List.take_of_length_le hi]at h1;exact h1
theorem Tn{α:Type}{l:List α}{x:α}(h:l[i]? =some x):l.take (i+1)=l.take i++[x]:=by rw[List.take_add_one,h];rfl
theorem ML{p:Pg}(h:Em p=false):UH p=(0,1):=by rw[UH,if_neg (by rw[h];decide)]
theorem Co{p:Pg}(h:Em p=true)(h2:Ue [] p.decls=some a):UH p=(a,6):=by rw[UH,if_pos h,h2]
theorem RB{p:Pg}(h:Em p=true)(h2:Ue [] p.decls=none){r:Int×Int}(h3:EL [] p.preds=some r):UH p=r:=by rw[UH,if_pos h,h2];simp only[h3]
theorem DY{p:Pg}(h:Em p=true)(h2:Ue [] p.decls=none)(h3:EL [] p.preds=none):UH p=YJ p.preds p.main p.decls:=by rw[UH,if_pos h,h2];simp only[h3]

theorem qW{pn:List Nat}{pp:List Dc}{pa:Int}(hf:Qw st)(hr:MY st.h.get ⟨pn,pp,.mk o s z a l,pa⟩ cs){c3:Nat}{n3 o3 s3:List Nat}{z3 a3 pa3:Int}{kd3 kk3:AV}(h3:Z9 st.h.get c3 0 [.str n3,kd3,.str o3,.str s3,iZ z3,iZ a3,kk3,iZ pa3]): ∃v st',Ev Tryz.prog QR 33 [.agg cs,.ptr c3 0 0] st v st'∧v=.bool (decide (pn=n3))∧Qt st st':=by
 have hr0:=hr;have hr0:=hr;obtain⟨kd,ld,o,s,z,a,kk,rfl,hD,hn,hy⟩:=hr0;obtain⟨kx,ls,ex,hK,hb⟩:=hn.Jn
 injection ex with x1 x;injection x with x2 x;injection x with x3 x;injection x with x4 x;injection x with x5 x
 injection x1 with x1;injection x2 with x2;injection x3 with _ x3;injection x4 with _ x4
 subst x1 x2 x3 x4 x5;replace hD:Xi st.h.get pp kd ld:=hD;replace hn:XE st.h.get (.mk o s z a l) _:=hn;replace hy:Bytes pn:=hy;have hl:=hK.YZ;have hd:=hD.YZ;refine Yu Tryz.func33 Tryz.ntmps33 fun T K=>?_;have M:=Mem.start hf;refine Qc 0 K M fun _ K=>?_;refine J3 K M rfl (Qa rfl (Qa hD.cell (Qa rfl (Qa rfl (Qa rfl (Qa rfl (Qa hK.cell (Qa rfl Qo)))))))) QT fun c2 _ _ K M=>?_;refine Qc 4 K M fun _ K=>?_;refine p1 K (QW rfl (Yh (M.rows _ _ _ h3) (Qj J0 rfl))) fun _ K=>?_;refine Qc 2 K M ?_;exact⟨rfl,M.qt⟩

theorem jX{pn:List Nat}{pp:List Dc}{pa:Int}(hf:Qw st){cc:Nat}{ps:List Pd}{kp:AV}{lp:List (List AV)}(hC:Z9 st.h.get cc 0 [kp])(hP:I9 st.h.get ps kp lp)(hr:MY st.h.get ⟨pn,pp,.mk o s z a l,pa⟩ cs)(ht:Jw (.mk o s z a l)=true)(hsz:pp.length+Uj (.mk o s z a l)≤1000000): ∃v st',Ev Tryz.prog QR 15 [.ptr cc 0 0,.agg cs] st v st'∧v=pT (LH ps ⟨pn,pp,.mk o s z a l,pa⟩)∧Qt st st':=by
 have hr0:=hr;have hr0:=hr;obtain⟨kd,ld,o,s,z,a,kk,rfl,hD,hn,hy⟩:=hr0;obtain⟨kx,ls,ex,hK,hb⟩:=hn.Jn
 injection ex with x1 x;injection x with x2 x;injection x with x3 x;injection x with x4 x;injection x with x5 x
 injection x1 with x1;injection x2 with x2;injection x3 with _ x3;injection x4 with _ x4
 subst x1 x2 x3 x4 x5;replace hD:Xi st.h.get pp kd ld:=hD;replace hn:XE st.h.get (.mk o s z a l) _:=hn;replace hy:Bytes pn:=hy;have hl:=hK.YZ;have hd:=hD.YZ;have hlp:=hP.ln;refine Yu Tryz.func15 Tryz.ntmps15 fun T K=>?_;have M:=Mem.start hf;refine Qc 0 K M fun _ K=>?_;refine J3 K M rfl (Qa rfl (Qa hD.cell (Qa rfl (Qa rfl (Qa rfl (Qa rfl (Qa hK.cell (Qa rfl Qo)))))))) QT fun c3 _ _ K M=>?_;refine Qc 5 K M fun _ K=>?_;refine p1 K (QW rfl (Yh (M.rows _ _ _ hC) (Qj UB rfl))) fun _ K=>p1 K (IT rfl rfl) fun _ K=>?_
 obtain⟨v13,st13,ev13,rfl,q13⟩:=H3 (fa:=[]) (fc:=[.ptr c3 0 0]) (p:=fun p:Pd=>decide (p.name=pn)) M.fresh (I9.mono M.rows hP) (fun k hk st1 cs q hr1=>by
  obtain⟨pn9,pp9,⟨o9,s9,z9,a9,l9⟩,pa9⟩:=k
  exact qW q.fresh hr1 ((Jj.YQ (M.Qn (k:=0) rfl)).Us M.fresh (q.Us []) Q3))
 refine p1 K (Qe rfl ev13) fun _ K=>?_;replace M:=M.quiet q13;refine Qc 0 K M fun _ K=>?_;refine JU K rfl (fun h13=>?_) fun h13=>?_
 ·have hb13:=h13;refine Qc 4 K M ?_;refine⟨congrArg pT (a₁:=(pa,6)) (a₂:=LH ps ⟨pn,pp,.mk o s z a l,pa⟩) (Eq.symm ?_),M.qt⟩;exact if_pos h13
 have hb13:=h13;refine Qc 2 K M fun _ K=>?_;refine oQ K M (Gr M.fresh (Xi.mono M.rows hD)) rfl rfl fun _ _ K M=>?_;refine Qc 7 K M fun _ K=>?_;refine C5 K rfl (fun h23=>?_) fun h23=>?_
 ·refine Qc 4 K M ?_;refine⟨congrArg pT (a₁:=(er (Ue [] pp),ep (Ue [] pp))) (a₂:=LH ps ⟨pn,pp,.mk o s z a l,pa⟩) (Eq.symm ?_),M.qt⟩;refine(if_neg (by rw[h13];decide)).trans ?_;show(match Ue [] pp with|some a=>(a,6)|none=>YJ ps (.mk o s z a l) pp)=_
  cases hq:Ue [] pp with
  |none=>rw[hq]at h23;exact absurd rfl h23
  |some b=>rfl
 refine Qc 5 K M fun _ K=>?_;refine oQ K M (D2 _ _ _ _ _ _ M.fresh (M.rows _ _ _ hC) (I9.mono M.rows hP) (Xi.mono M.rows hD) (hn.mono M.rows) ht hsz) rfl rfl fun _ _ K M=>?_;refine Qc 4 K M ?_;refine⟨congrArg pT (a₁:=((YJ ps (.mk o s z a l) pp).1,(YJ ps (.mk o s z a l) pp).2)) (a₂:=LH ps ⟨pn,pp,.mk o s z a l,pa⟩) (Eq.symm ?_),M.qt⟩;refine(if_neg (by rw[h13];decide)).trans ?_;show(match Ue [] pp with|some a=>(a,6)|none=>YJ ps (.mk o s z a l) pp)=_
 cases hq:Ue [] pp with
 |none=>rfl
 |some b=>rw[hq]at h23;exact absurd h23 (by show¬(6:Int)=0;decide)

theorem Mj{ds:List Dc}{ps:List Pd}(hf:Qw st)(hr:vH st.h.get ⟨ds,ps,.mk o s z a l⟩ cs)(hds:ds.length≤100000)(hps:ps.length≤100000): ∃v st',Ev Tryz.prog QR 8 [.agg cs] st v st'∧v=pT (UH ⟨ds,ps,.mk o s z a l⟩)∧Qt st st':=by
 have hr0:=hr;obtain⟨kd,ld,kp,lp,o,s,z,a,kk,rfl,hD,hP,hn⟩:=hr0;obtain⟨kx,ls,ex,hK,hb⟩:=hn.Jn
 injection ex with x1 x;injection x with x2 x;injection x with x3 x;injection x with x4 x;injection x with x5 x
 injection x1 with x1;injection x2 with x2;injection x3 with _ x3;injection x4 with _ x4
 subst x1 x2 x3 x4 x5;replace hD:Xi st.h.get ds kd ld:=hD;replace hP:I9 st.h.get ps kp lp:=hP;replace hn:XE st.h.get (.mk o s z a l) _:=hn;have hbk:=hK.YZ;have hbd:=hD.YZ;have hbp:=hP.YZ;have hlp:=hP.ln;refine Yu Tryz.func8 Tryz.ntmps8 fun T K=>?_;have M:=Mem.start hf;refine Qc 0 K M fun _ K=>?_;refine J3 K M rfl (Qa hD.cell (Qa hP.cell (Qa rfl (Qa rfl (Qa rfl (Qa rfl (Qa hK.cell Qo))))))) QT fun c1 _ _ K M=>?_;refine Qc 3 K M fun _ K=>?_;refine oQ K M (xD M.fresh (hr.mono M.rows)) rfl rfl fun _ _ K M=>?_;refine Qc 1 K M fun _ K=>?_;refine JU K rfl (fun h13=>?_) fun h13=>?_
 ·have hb13:=h13
  replace h13:(Em ⟨ds,ps,.mk o s z a l⟩)=false:=by simpa using h13
  refine Qc 2 K M ?_;refine⟨congrArg pT (a₁:=(0,1)) (a₂:=UH ⟨ds,ps,.mk o s z a l⟩) (Eq.symm ?_),M.qt⟩;exact ML h13
 have hb13:=h13
 replace h13:(Em ⟨ds,ps,.mk o s z a l⟩)=true:=by simpa using h13
 refine Qc 2 K M fun _ K=>?_;refine oQ K M (Gr M.fresh (Xi.mono M.rows hD)) rfl rfl fun _ _ K M=>?_;refine Qc 7 K M fun _ K=>?_;refine C5 K rfl (fun h21=>?_) fun h21=>?_
 ·refine Qc 4 K M ?_;refine⟨congrArg pT (a₁:=(er (Ue [] ds),ep (Ue [] ds))) (a₂:=UH ⟨ds,ps,.mk o s z a l⟩) (Eq.symm ?_),M.qt⟩
  cases hq:Ue [] ds with
  |none=>rw[hq]at h21;exact absurd rfl h21
  |some b=>exact Co h13 hq
 refine au 5 K M ?_;intro c25 _ _ K _ M;refine p1 K (Jg Xs rfl rfl hP.len) fun _ K=>?_;refine Qc 1 K M fun _ K=>?_;refine JQ (fun mm1 T st9=> ∃(i:Nat) (ks:AV) (A:List (Nat×Nat×List AV)),mm1=ps.length-i∧Jr [(1,.ptr c1 0 0),(6,.ptr c25 0 0),(27,kp),(28,iZ (ps.length:Nat)),(29,iN i)] T∧Mem st.h.get st.n [] st9 ((c25,0,[ks])::(c1,0,[kd,kp,.str o,.str s,iZ z,iZ a,kk])::(A++[]))∧Acc st.n 8 A ks (lp.take i)∧i≤ps.length∧EL [] ps=EL (ps.take i) (ps.drop i)) (fun mm1 T st9 hI=>?_) _ _ _ ⟨0,.nils,[],rfl,(K.sub rfl),M.less (.refl _),(by rw[List.take_zero];exact .none),(Nat.zero_le _),rfl⟩;obtain⟨i,ks,A,rfl,K,M,hA,hi,hx⟩:=hI;refine Qc 1 K M fun _ K=>?_;refine Xj K rfl (fun h30=>?_) fun h30=>?_
 ·refine Qc 0 K M fun _ K=>?_;obtain⟨⟨pn31,pp31,⟨_,_,_,_,l31⟩,pa31⟩,hi31⟩: ∃k,ps[i]? =some k:=⟨_,List.getElem?_eq_getElem Qh⟩;have hm31:=Er hi31;obtain⟨_,hc31,hP31⟩:=hP.at_ _ _ hi31;have hP310:=hP31;obtain⟨kd31,ld31,o31,s31,z31,a31,kk31,rfl,hD31,hn31,hy31⟩:=hP310;obtain⟨kx31,ls31,ex31,hK31,hb31⟩:=hn31.Jn
  injection ex31 with x1 x;injection x with x2 x;injection x with x3 x;injection x with x4 x;injection x with x5 x
  injection x1 with x1;injection x2 with x2;injection x3 with _ x3;injection x4 with _ x4
  subst x1 x2 x3 x4 x5;replace hD31:Xi st.h.get pp31 kd31 ld31:=hD31;replace hn31:XE st.h.get (.mk o31 s31 z31 a31 l31) _:=hn31;replace hy31:Bytes pn31:=hy31;have hl31:=hK31.YZ;have hd31:=hD31.YZ;refine OJ (hP.r.mem M Q3) hc31 K Xy V9 rfl rfl fun _ _ _ _ K=>?_;refine au 1 K M ?_;intro c8 _ _ K _ M;refine Qz (k:=0) K M rfl rfl rfl VB rfl (Qa rfl (Qa hD31.cell (Qa rfl (Qa rfl (Qa rfl (Qa rfl (Qa hK31.cell (Qa rfl Qo)))))))) rfl fun _ M=>?_;refine Qc 2 K M fun _ K=>?_;obtain⟨hfm,hfs⟩:=PY (PW h13 hm31);refine oQ K M (jX M.fresh (Jj.YQ (M.Qn (k:=1) rfl)) (I9.take M.rows hP (Mem.LJ (L:=[(c8,0,[.str pn31,kd31,.str o31,.str s31,iZ z31,iZ a31,kk31,iZ pa31]),(c25,0,[ks]),(c1,0,[kd,kp,.str o,.str s,iZ z,iZ a,kk])]) (B:=[]) M hA)) (hP31.mono M.rows) hfm hfs) rfl rfl fun _ _ K M=>?_;refine Qc 7 K M fun _ K=>?_;refine JU K rfl (fun h40=>?_) fun h40=>?_
  ·have hb40:=h40
   replace h40: ¬((LH (ps.take i) ⟨pn31,pp31,.mk o31 s31 z31 a31 l31,pa31⟩).2=0):=by intro hq;rw[decide_eq_true hq]at h40;cases h40
   refine Qc 4 K M ?_
   have htw:Ue [] ds=none:=by
    cases hq:Ue [] ds with
    |none=>rfl
    |some b=>rw[hq]at h21;exact absurd h21 (by show¬(6:Int)=0;decide)
   refine⟨congrArg pT (a₁:=((LH (ps.take i) ⟨pn31,pp31,.mk o31 s31 z31 a31 l31,pa31⟩).1,(LH (ps.take i) ⟨pn31,pp31,.mk o31 s31 z31 a31 l31,pa31⟩).2)) (a₂:=UH ⟨ds,ps,.mk o s z a l⟩) (Eq.symm ?_),M.qt⟩;exact RB h13 htw (by show EL [] ps=_;rw[hx,De hi31,if_pos Qh])
  have hb40:=h40
  replace h40:((LH (ps.take i) ⟨pn31,pp31,.mk o31 s31 z31 a31 l31,pa31⟩).2=0):=by by_cases hq:(LH (ps.take i) ⟨pn31,pp31,.mk o31 s31 z31 a31 l31,pa31⟩).2=0;exact hq;rw[decide_eq_false hq]at h40;cases h40
  refine Qc 0 K M fun _ K=>?_;refine Ja (l:=[(1,0),(2,0),(3,0),(4,0),(5,0),(6,0),(7,0),(0,0),(8,0),(9,0),(10,0)]) (by kernel_rfl) ?_;refine Ui 5 K M fun _ K=>?_;refine Z3 rfl K M UU ZA rfl rfl (Qa rfl (Qa hD31.cell (Qa rfl (Qa rfl (Qa rfl (Qa rfl (Qa hK31.cell (Qa rfl Qo)))))))) rfl rfl fun c49 _ _ K M=>?_;refine XT (k2:=0) (L:=[(c49,0,[.str pn31,kd31,.str o31,.str s31,iZ z31,iZ a31,kk31,iZ pa31]),(c8,0,[.str pn31,kd31,.str o31,.str s31,iZ z31,iZ a31,kk31,iZ pa31]),(c25,0,[ks]),(c1,0,[kd,kp,.str o,.str s,iZ z,iZ a,kk])]) (B:=[]) rfl K M hA UU rfl rfl rfl rfl (by rw[List.length_take];omega) rfl fun ks50 A50 _ _ K hA50 M=>?_;refine Ui 3 K M fun _ K=>?_;refine Zt (k:=2) rfl K M rfl rfl rfl Xu (hA50.cell) rfl fun _ M=>?_;refine Ji ?_;show W _ _ _ _ _ _ _;refine Qc 2 K M fun _ K=>?_;exact⟨_,Qh,i+1,ks50,A50,rfl,(K.sub rfl),M.less (.cons _ (.cons _ (.refl _))),(by rw[Tn hc31];exact hA50),Qh,(by rw[hx,De hi31,if_neg Qh])⟩
 refine Jx ?_;show W _ _ _ _ _ _ _;refine Qc 5 K M fun _ K=>?_;obtain⟨hfm,hfs⟩:=PX h13;refine oQ K M (D2 _ _ _ _ _ _ M.fresh (Jj.YQ (M.Qn (k:=0) rfl)) (I9.yG M.rows hP Qh (Mem.LJ (L:=[(c25,0,[ks]),(c1,0,[kd,kp,.str o,.str s,iZ z,iZ a,kk])]) (B:=[]) M hA)) (Xi.mono M.rows hD) (hn.mono M.rows) hfm Qh) rfl rfl fun _ _ K M=>?_;refine Qc 4 K M ?_
 have htw:Ue [] ds=none:=by
  cases hq:Ue [] ds with
  |none=>rfl
  |some b=>rw[hq]at h21;exact absurd h21 (by show¬(6:Int)=0;decide)
 refine⟨congrArg pT (a₁:=((YJ ps (.mk o s z a l) ds).1,(YJ ps (.mk o s z a l) ds).2)) (a₂:=UH ⟨ds,ps,.mk o s z a l⟩) (Eq.symm ?_),M.qt⟩;exact DY h13 htw (by show EL [] ps=_;rw[hx,UM Qh,EL])
end
end Go.Proofs.YtaomhhkflohhgaaGreatDoor
