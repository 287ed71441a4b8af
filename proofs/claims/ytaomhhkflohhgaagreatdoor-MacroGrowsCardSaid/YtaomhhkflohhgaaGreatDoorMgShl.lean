/-
  What is expanded: its names, its numbers; that all that is called may be called.
-/
import Derived.Test.YtaomhhkflohhgaaGreatDoorMgMcb
set_option linter.unusedSectionVars false
set_option linter.unusedSimpArgs false
set_option linter.unusedVariables false
namespace Go.Proofs.YtaomhhkflohhgaaGreatDoor
open Go Go.RowKit
section
variable {a n:Int} {l:List Nd} {nm op:List Nat} {t:Nd}

structure MX(E:Int)(p q:Pd):Prop where
 nm:q.name=p.name
 pr:q.params=p.params
 ok:okB E q.body=true
 by_:Ac q.body
 sz:Uj q.body≤2000
 fr: ∀z∈QE q.body [],0≤JA p.params z
 fi: ∀z∈XB q.body [],JA p.params z=0
 br:Y4 q.body=true
def Wf(E:Int):List Pd→List Pd→Prop
 |[],[]=>True
 |p::ps,q::qs=>MX E p q∧Wf E ps qs
 |_,_=>False
theorem Wf.find{E:Int}{s:List Nat}: ∀{ps qs:List Pd} {p:Pd},Wf E ps qs→ps.find? (fun p=>decide (p.name=s))=some p→ ∃q,qs.find? (fun p=>decide (p.name=s))=some q∧MX E p q
 |[],_,p,_,h=>by cases h
 |p0::ps,[],p,h,_=>h.elim
 |p0::ps,q0::qs,p,h,hf=>by
  obtain⟨h0,h⟩:=h;rw[List.find?_cons]at hf ⊢;rw[h0.nm]
  by_cases e:p0.name=s
  ·rw[decide_eq_true e]at hf ⊢
   injection hf with hf
   subst hf;exact⟨q0,rfl,h0⟩
  ·rw[decide_eq_false e]at hf ⊢;exact Wf.find h hf
theorem Wf.snoc{E:Int}{p q:Pd}: ∀{ps qs:List Pd},Wf E ps qs→MX E p q→Wf E (ps++[p]) (qs++[q])
 |[],[],_,h=>⟨h,trivial⟩
 |[],_::_,h,_=>h.elim
 |_::_,[],h,_=>h.elim
 |p0::ps,q0::qs,h,hq=>⟨h.1,Wf.snoc h.2 hq⟩
theorem MX.mono{E F:Int}(h:E≤F){p q:Pd}(H:MX E p q):MX F p q:=⟨H.nm,H.pr,IX h _ H.ok,H.by_,H.sz,H.fr,H.fi,H.br⟩
theorem Wf.mono{E F:Int}(h:E≤F): ∀{ps qs:List Pd},Wf E ps qs→Wf F ps qs
 |[],[],_=>trivial
 |[],_::_,H=>H.elim
 |_::_,[],H=>H.elim
 |p0::ps,q0::qs,H=>⟨H.1.mono h,H.2.mono h⟩
def yy(p:Pd):Prop:=Ue [] p.params=none∧ ∀d∈p.params,0≤d.order
theorem T5(h:Ac t)(a:Int):Ac (t.setAt a):=by
 obtain⟨o,s,z,a',l⟩:=t;intro x hx;refine h x ?_;have hx:x∈WZ (.mk o s z a l):=hx;rw[WZ]at hx ⊢;exact hx
theorem AE(h:Bytes nm)(hl: ∀k∈l,Ac k):Ac (.mk op nm n a l):=fun s hs=>by
 rw[WZ]at hs;rcases List.mem_cons.1 hs with rfl|hs
 ·exact h
 ·obtain⟨k,hk,hs⟩:=AG.1 hs;exact hl k hk s hs
theorem yc(h:Bytes nm)(hl: ∀k∈l,Ac k):Ac (Xx op nm n a l):=by
 unfold Xx
 split
 ·split
  ·rename_i k
   split
   ·exact AE (fun x hx=>by cases hx) (fun k hk=>by cases hk)
   ·split
    ·refine AE h fun k' hk'=>?_;obtain⟨o,s,z,a',l'⟩:=k;exact(hl _ (List.mem_cons_self ..)).GP hk'
    ·exact AE h hl
  ·exact AE h hl
 ·exact AE h hl
theorem yb(h:Ac t):Bytes t.name:=by obtain⟨o,s,z,a,l⟩:=t;exact h.name
theorem zN{C:Int}(cnt:List Nat→Int)(x:Nd):okB C x=true→Ac x→ ∀(ns:List (List Nat)) (ts:List Nd),(∀t∈ts,Ac t)→Ac (Yo cnt x ns ts):=by
 refine Uz (M:=fun x=>okB C x=true→Ac x→ ∀(ns:List (List Nat)) (ts:List Nd),(∀t∈ts,Ac t)→Ac (Yo cnt x ns ts)) (fun op nm n a kids ih hok hB ns ts hts=>?_) x;obtain⟨_,_,_,hone,hokk,_⟩:=Zo hok;rw[Yo]
 split
 ·rename_i h;obtain⟨t,h3⟩:=Option.isSome_iff_exists.1 h.2;rw[h3];exact T5 (hts t (YU h3)) a
 ·split
  ·cases h3:Jt ns ts nm with
   |none=>exact hB
   |some t=>exact AE (yb (hts t (YU h3))) fun k hk=>hB.GP hk
  ·split
   ·rename_i hb;have hl1:=hone hb
    match kids,hl1,ih,hokk,hB with
    |[k],_,ih,hokk,hB=>
     have hkm:k∈[k]:=List.mem_cons_self ..;obtain⟨nm',ns2,ts2,us,hbx,_,_,htm,hnm,_⟩:=Eu (cnt:=cnt) (nm:=nm) (ns:=ns) (ts:=ts) (hB.GP hkm)
     have hn':Bytes nm':=by
      rcases hnm with rfl|rfl
      ·exact hB.name
      ·exact Ve cnt hB.name _
     rw[hbx,YR];refine AE hn' fun k' hk'=>?_;have hk':k'∈[Yo cnt k ns2 ts2]:=hk';rw[List.mem_singleton]at hk';subst hk';refine ih k hkm (hokk k hkm) (hB.GP hkm) ns2 ts2 fun t ht=>?_;rcases htm t ht with h|rfl
     ·exact hts t h
     ·exact AE hn' fun k hk=>by cases hk
   ·rw[YR];refine yc hB.name fun k' hk'=>?_;obtain⟨k,hk,rfl⟩:=List.mem_map.1 hk';exact ih k hk (hokk k hk) (hB.GP hk) ns ts hts
theorem V4(h:(op=[118,97,114]∨op=[105,115])→l=[])(hl: ∀k∈l,Y4 k=true):Y4 (.mk op nm n a l)=true:=by
 rw[FG,Bool.and_eq_true];refine⟨?_,List.all_eq_true.2 hl⟩
 by_cases hv:op=[118,97,114]∨op=[105,115]
 ·rw[h hv];simp
 ·have:(decide (op=[118,97,114])||decide (op=[105,115]))=false:=by
   rw[Bool.or_eq_false_iff];exact⟨decide_eq_false fun e=>hv (.inl e),decide_eq_false fun e=>hv (.inr e)⟩
  rw[this];rfl
theorem Ld(h:Y4 (.mk op nm n a l)=true):((op=[118,97,114]∨op=[105,115])→l=[])∧ ∀k∈l,Y4 k=true:=by
 rw[FG,Bool.and_eq_true]at h;refine⟨fun hv=>?_,List.all_eq_true.1 h.2⟩
 have:(decide (op=[118,97,114])||decide (op=[105,115]))=true:=by simpa using hv
 rw[this]at h
 have h1:l.isEmpty=true:=by simpa using h.1
 exact List.isEmpty_iff.1 h1
theorem RJ(h:Y4 t=true)(a:Int):Y4 (t.setAt a)=true:=by
 obtain⟨o,s,z,a',l⟩:=t;obtain⟨h1,h2⟩:=Ld h;exact V4 h1 h2
theorem MP(h:(op=[118,97,114]∨op=[105,115])→l=[])(hl: ∀k∈l,Y4 k=true):Y4 (Xx op nm n a l)=true:=by
 unfold Xx
 split
 ·rename_i hp
  split
  ·rename_i k
   split
   ·exact V4 (fun _=>rfl) (fun k hk=>by cases hk)
   ·split
    ·obtain⟨o,s,z,a',l'⟩:=k
     exact V4 (fun e=>by rw[hp]at e;rcases e with e|e<;>cases e) (Ld (hl _ (List.mem_cons_self ..))).2
    ·exact V4 h hl
  ·exact V4 h hl
 ·exact V4 h hl
theorem yi{C:Int}(cnt:List Nat→Int)(x:Nd):okB C x=true→Ac x→Y4 x=true→ ∀(ns:List (List Nat)) (ts:List Nd),(∀t∈ts,Y4 t=true)→Y4 (Yo cnt x ns ts)=true:=by
 refine Uz (M:=fun x=>okB C x=true→Ac x→Y4 x=true→ ∀(ns:List (List Nat)) (ts:List Nd),(∀t∈ts,Y4 t=true)→Y4 (Yo cnt x ns ts)=true) (fun op nm n a kids ih hok hB hb0 ns ts hts=>?_) x;obtain⟨_,_,_,hone,hokk,_⟩:=Zo hok;obtain⟨hb1,hb2⟩:=Ld hb0;rw[Yo]
 split
 ·rename_i h;obtain⟨t,h3⟩:=Option.isSome_iff_exists.1 h.2;rw[h3];exact RJ (hts t (YU h3)) a
 ·split
  ·rename_i h
   cases h3:Jt ns ts nm with
   |none=>exact hb0
   |some t=>exact V4 (fun _=>hb1 (.inr h.1)) hb2
  ·split
   ·rename_i hb;have hl1:=hone hb
    match kids,hl1,ih,hokk,hB,hb2 with
    |[k],_,ih,hokk,hB,hb2=>
     have hkm:k∈[k]:=List.mem_cons_self ..;obtain⟨nm',ns2,ts2,us,hbx,_,_,htm,_,_⟩:=Eu (cnt:=cnt) (nm:=nm) (ns:=ns) (ts:=ts) (hB.GP hkm);rw[hbx,YR];refine V4 (fun e=>?_) fun k' hk'=>?_
     ·rcases hb with rfl|rfl<;>rcases e with e|e<;>cases e
     have hk':k'∈[Yo cnt k ns2 ts2]:=hk';rw[List.mem_singleton]at hk';subst hk';refine ih k hkm (hokk k hkm) (hB.GP hkm) (hb2 k hkm) ns2 ts2 fun t ht=>?_;rcases htm t ht with h|rfl
     ·exact hts t h
     ·exact V4 (fun _=>rfl) fun k hk=>by cases hk
   ·rw[YR];refine MP (fun e=>by rw[hb1 e];rfl) fun k' hk'=>?_;obtain⟨k,hk,rfl⟩:=List.mem_map.1 hk';exact ih k hk (hokk k hk) (hB.GP hk) (hb2 k hk) ns ts hts
theorem MM{E F:Int}{B:Nat}(h1:E+600≤F)(hE:0≤E){ps qs:List Pd}(hQ:Wf E ps qs)(hP: ∀p∈ps,yy p){s:List Nat}{sc:List Dc}{p:Pd}(hp:ps.find? (fun p=>decide (p.name=s))=some p)(hpl:p.params.length=l.length)
  (hT: ∀t∈l,QO t=true) (hBl: ∀t∈l,Ac t) (hsz: ∀t∈l,Uj t≤B) (hB1:1≤B) (hB:2000 *(B+1)≤500000) (hpk: ∀(i:Nat) (d:Dc) (t:Nd),p.params[i]? =some d→l[i]? =some t→(QB sc t).2.2=0∧(QB sc t).1=d.order):
  okB F (We qs s l)=true∧Ac (We qs s l)∧(∀z∈QE (We qs s l) [],z∈Yq l [])∧(∀z∈XB (We qs s l) [],JA sc z=0)∧Y4 (We qs s l)=true:=by
 obtain⟨q,hq,hf⟩:=hQ.find hp;obtain⟨hp1,hp2⟩:=hP p (List.mem_of_find?_eq_some hp);rw[O0 hq,hf.pr]
 have hlk: ∀y,0≤JA p.params y→ ∃t,Jt (p.params.map Dc.name) l y=some t∧t∈l∧(QB sc t).2.2=0∧(QB sc t).1=JA p.params y:=fun y hy=>by
  obtain⟨i,d,t,h2,h3,h4,h5⟩:=NN (y:=y) hp1 hp2 hpl (Rh hy);obtain⟨h6,h7⟩:=hpk i d t h2 h3;exact⟨t,h4,List.mem_of_getElem? h3,h6,by rw[h7,←h5];rfl⟩
 have hok2: ∀t∈l,okB 200 t=true:=fun t ht=>BS t (.inr (hT t ht));have hput:=zf (C:=E) (D:=200) (E:=F) (B:=B) Qh h1 hE Qh hB1 q.body hf.ok hf.by_ (Nat.le_trans (Nat.mul_le_mul_right _ hf.sz) hB) (p.params.map Dc.name) l fun t ht=>⟨IX Qh t (hok2 t ht),NA (hok2 t ht),hsz t ht⟩
 have hnm:=TD (C:=E) Zm q.body hf.ok hf.by_ (p.params.map Dc.name) l (fun t ht=>Nk t (hT t ht)) fun y hy t ht=>by
  obtain⟨t',h2,_,h3,h4⟩:=hlk y (by rw[hf.fi y hy];exact Int.le_refl _);rw[h2]at ht
  injection ht with ht
  subst ht;exact Me h3 (h4.trans (hf.fi y hy))
 refine⟨hput.1,zN Zm q.body hf.ok hf.by_ _ _ hBl,fun z hz=>?_,fun z hz=>?_,yi Zm q.body hf.ok hf.by_ hf.br _ _ fun t ht=>HA t (hT t ht)⟩
 ·obtain⟨y,hy,hs⟩:=hnm.1 z hz;obtain⟨t,h2,h3,_⟩:=hlk y (hf.fr y hy);rcases hs with⟨h4,_⟩|⟨t',h4,h5⟩
  ·rw[h2]at h4;cases h4
  ·rw[h2]at h4
   injection h4 with h4
   subst h4;exact JV.2 ⟨t,h3,h5⟩
 ·obtain⟨y,hy,hs⟩:=hnm.2 z hz;obtain⟨t,h2,h3,h4,h5⟩:=hlk y (hf.fr y (KV _ _ _ hy));rcases hs with⟨h6,_⟩|⟨t',h6,h7,h8⟩
  ·rw[h2]at h6;cases h6
  ·rw[h2]at h6
   injection h6 with h6
   subst h6;rw[hf.fi y hy]at h5;obtain⟨o,nm,z',a,kids⟩:=t;have h7:o=[118,97,114]:=h7;subst h7;have h8:z=nm:=h8;subst h8;rw[QB,if_pos rfl]at h4 h5
   split at h4
   ·exact absurd h4 (show¬(5:Int)=0 by decide)
   ·rename_i h9;rw[if_neg h9]at h5;exact h5
theorem GZ{qs:List Pd}: ∀{l:List Nd},(∀k∈l,∀n,(Jq qs k n).1.2=true→(Jq qs k n).1.1=k∧(Jq qs k n).2=n-(Uj k:Int))→ ∀n,(Yb qs l n).1.2=true→(Yb qs l n).1.1=l∧(Yb qs l n).2=n-(FN l:Int)
 |[],_,n,_=>by rw[Yb,FN];exact⟨rfl,by simp⟩
 |k::l,h,n,hb=>by
  rw[Yb]at hb ⊢
  split at hb
  ·rename_i hk;obtain⟨h1,h2⟩:=h k (List.mem_cons_self ..) n hk;have ih:=GZ (l:=l) (fun k' h'=>h k' (List.mem_cons_of_mem _ h')) (Jq qs k n).2 hb;rw[if_pos hk];refine⟨?_,?_⟩
   ·show(Jq qs k n).1.1::(Yb qs l (Jq qs k n).2).1.1=_;rw[h1,ih.1]
   ·show(Yb qs l (Jq qs k n).2).2=_;rw[ih.2,h2,FN];omega
  ·cases hb
theorem DD{qs:List Pd}{z:Int}(hc: ¬op=[99,97,108,108])(hl: ∀k∈l,∀n,(Jq qs k n).1.2=true→(Jq qs k n).1.1=k∧(Jq qs k n).2=n-(Uj k:Int))(n:Int)(hb:(Jq qs (.mk op nm z a l) n).1.2=true):(Jq qs (.mk op nm z a l) n).1.1=.mk op nm z a l∧(Jq qs (.mk op nm z a l) n).2=n-(Uj (.mk op nm z a l):Int):=by
 rw[Jq,if_neg hc]at hb ⊢
 split at hb
 ·cases hb
 ·rename_i hn;rw[if_neg hn]
  split at hb
  ·rename_i hk;obtain⟨h1,h2⟩:=GZ hl (n-1) hk;rw[if_pos hk];refine⟨?_,?_⟩
   ·show Nd.mk op nm z a (Yb qs l (n-1)).1.1=_;rw[h1]
   ·show(Yb qs l (n-1)).2=_;rw[h2,Uj];omega
  ·cases hb
theorem u4{qs:List Pd}(t:Nd):QO t=true→ ∀n,(Jq qs t n).1.2=true→(Jq qs t n).1.1=t∧(Jq qs t n).2=n-(Uj t:Int):=by
 refine Uz (M:=fun t=>QO t=true→ ∀n,(Jq qs t n).1.2=true→(Jq qs t n).1.1=t∧(Jq qs t n).2=n-(Uj t:Int)) (fun op name n a kids ih ht m hb=>?_) t;exact DD (EF ht).2.2 (fun k hk=>ih k hk (W4 ht k hk)) m hb
end
section

def Rel(F:Int)(sc:List Dc)(k e:Nd):Prop:=okB F e=true∧Ac e∧(∀z∈QE e [],z∈QE k [])∧(∀z∈XB e [],JA sc z=0)∧Y4 e=true
theorem Ba{F:Int}{qs:List Pd}{sc:List Dc}: ∀{l:List Nd},(∀k∈l,∀n,0≤n→n≤2000→(Jq qs k n).1.2=true→Rel F sc k (Jq qs k n).1.1∧((Uj (Jq qs k n).1.1:Nat):Int)≤n-(Jq qs k n).2)→ ∀n,0≤n→n≤2000→(Yb qs l n).1.2=true→
  (Yb qs l n).1.1.length=l.length∧(∀e∈(Yb qs l n).1.1,∃k∈l,Rel F sc k e)∧((FN (Yb qs l n).1.1:Nat):Int)≤n-(Yb qs l n).2
 |[],_,n,_,_,_=>by
  rw[Yb];refine⟨rfl,fun e he=>(by cases he),?_⟩;show((FN []:Nat):Int)≤n-n;rw[FN];omega
 |k::l,h,n,h0,h1,hb=>by
  rw[Yb]at hb ⊢
  split at hb
  ·rename_i hk;obtain⟨h2,h3⟩:=h k (List.mem_cons_self ..) n h0 h1 hk;have hr:=FZ qs k n h0;have hr2:=hr.2.2 hk;obtain⟨i1,i2,i3⟩:=Ba (l:=l) (fun k' h'=>h k' (List.mem_cons_of_mem _ h')) (Jq qs k n).2 hr2 Qh hb;rw[if_pos hk];refine⟨?_,fun e he=>?_,?_⟩
   ·show((Jq qs k n).1.1::(Yb qs l (Jq qs k n).2).1.1).length=_;rw[List.length_cons,List.length_cons,i1]
   ·have he:e∈(Jq qs k n).1.1::(Yb qs l (Jq qs k n).2).1.1:=he;rcases List.mem_cons.1 he with rfl|he
    ·exact⟨k,List.mem_cons_self ..,h2⟩
    ·obtain⟨k',hk',hr'⟩:=i2 e he;exact⟨k',List.mem_cons_of_mem _ hk',hr'⟩
   ·show((FN ((Jq qs k n).1.1::(Yb qs l (Jq qs k n).2).1.1):Nat):Int)≤n-(Yb qs l (Jq qs k n).2).2;rw[FN];omega
  ·cases hb
theorem u5{E F:Int}{B:Nat}(h1:E+600≤F)(hE:0≤E){ps qs:List Pd}(hQ:Wf E ps qs)(hP: ∀p∈ps,yy p)(hB1:1≤B)(hB:2000 *(B+1)≤500000)(x:Nd):Jw x=true→Ac x→Uj x≤B→ ∀sc,(YJ ps x sc).2=0→ ∀n,0≤n→n≤2000→(Jq qs x n).1.2=true→
  Rel F sc x (Jq qs x n).1.1∧((Uj (Jq qs x n).1.1:Nat):Int)≤n-(Jq qs x n).2:=by
 refine Uz (M:=fun x=>Jw x=true→Ac x→Uj x≤B→ ∀sc,(YJ ps x sc).2=0→ ∀n,0≤n→n≤2000→(Jq qs x n).1.2=true→
  Rel F sc x (Jq qs x n).1.1∧((Uj (Jq qs x n).1.1:Nat):Int)≤n-(Jq qs x n).2) (fun op nm z a kids ih hf hBy hsz sc h n h0 h2 hb=>?_) x
 have hcn:=Hb ps _ hf sc h;have hok:=IX (C':=F) Qh _ (BS _ (.inl hf))
 have hszk: ∀k∈kids,Uj k≤B:=fun k hk=>by have:=Z4 hk;rw[Uj]at hsz;omega
 have same:(∀k∈kids,QO k=true)→ ¬op=[99,97,108,108]→Rel F sc (.mk op nm z a kids) (Jq qs (.mk op nm z a kids) n).1.1∧((Uj (Jq qs (.mk op nm z a kids) n).1.1:Nat):Int)≤n-(Jq qs (.mk op nm z a kids) n).2:=fun hT hc=>by
  obtain⟨e1,e2⟩:=DD hc (fun k hk=>u4 k (hT k hk)) n hb;rw[e1,e2];exact⟨⟨hok,hBy,fun z hz=>hz,hcn.2.1,NV _ hf⟩,by omega⟩
 rw[Zn]at h
 by_cases hs:op=[105,115]
 ·refine same (fun k hk=>?_) (by rw[hs];decide);rw[Dp (.inl hf) (.inr hs)]at hk;cases hk
 rw[if_neg hs]at h
 by_cases hc:op=[99,97,108,108]
 ·subst hc;rw[if_pos rfl]at h;have hT:=Ip hf;obtain⟨p,hp,hpl,hpk⟩:=Pc h;have hcx:=MM (F:=F) (B:=B) h1 hE hQ hP hp hpl hT (fun t ht=>hBy.GP ht) hszk hB1 hB hpk;rw[Bb]at hb ⊢;have hb:=of_decide_eq_true hb;refine⟨⟨hcx.1,hcx.2.1,fun z hz=>?_,hcx.2.2.2.1,hcx.2.2.2.2⟩,?_⟩
  ·rw[QE,if_neg QT,if_neg QT];exact hcx.2.2.1 z hz
  ·show((Uj (We qs nm kids):Nat):Int)≤n-(n-min ((Uj (We qs nm kids):Nat):Int) 2001);omega
 rw[if_neg hc]at h
 by_cases ha:Zd op=true
 ·obtain⟨k,j,rfl,hT⟩:=Zl hf ha;exact same hT hc
 rw[if_neg ha]at h;have hk:=KX hf hs hc (by simpa using ha);have hkc:=Cn h
 have hv: ¬op=[118,97,114]:=fun e=>by subst e;rw[J7]at hf;simp[oneOf]at hf
 have hp: ¬op=[112,108,117,115]:=fun e=>by subst e;exact(NU hf).elim
 obtain⟨hl1,hz0,_,hone,_,hnc⟩:=Zo hok;rw[Jq,if_neg hc]at hb ⊢
 split at hb
 ·cases hb
 rename_i hn;rw[if_neg hn]
 split at hb
 ·rename_i hkb;rw[if_pos hkb];obtain⟨i1,i2,i3⟩:=Ba (F:=F) (fun k hkm m hm0 hm1 hmb=>ih k hkm (hk k hkm) (hBy.GP hkm) (hszk k hkm) _ (hkc k hkm) m hm0 hm1 hmb) (n-1) Qh Qh hkb;generalize (Yb qs kids (n-1)).1.1=dn at i1 i2 i3;refine⟨⟨Ar hl1 hz0 ?_ (fun hb=>by rw[i1];exact hone hb) (fun e he=>by obtain⟨k,_,hr⟩:=i2 e he;exact hr.1),AE hBy.name (fun e he=>by obtain⟨k,_,hr⟩:=i2 e he;exact hr.2.1),fun y hy=>?_,fun y hy=>?_,V4 (fun e=>by rcases e with e|e;exact absurd e hv;exact absurd e hs) (fun e he=>by obtain⟨k,_,hr⟩:=i2 e he;exact hr.2.2.2.2)⟩,?_⟩
  ·rw[UE (.inl hp)]at hnc ⊢;exact hnc
  ·have hy:y∈QE (.mk op nm z a dn) []:=hy;rw[QE,if_neg (by rintro(e|e);exact hv e;exact hs e)]at hy ⊢
   split at hy
   ·rename_i hbd;rw[if_pos hbd];obtain⟨e,he,hy⟩:=JV.1 hy;obtain⟨k,hkm,hr⟩:=i2 e he;obtain⟨y1,y2⟩:=(Vr _ _ _).1 hy;exact JV.2 ⟨k,hkm,(Vr _ _ _).2 ⟨hr.2.2.1 y y1,y2⟩⟩
   ·rename_i hbd;rw[if_neg hbd];obtain⟨e,he,hy⟩:=JV.1 hy;obtain⟨k,hkm,hr⟩:=i2 e he;exact JV.2 ⟨k,hkm,hr.2.2.1 y hy⟩
  ·have hy:y∈XB (.mk op nm z a dn) []:=hy;rw[XB,if_neg hs,if_neg hv]at hy
   split at hy
   ·rename_i hbd;obtain⟨e,he,hy⟩:=Zk.1 hy;obtain⟨k,hkm,hr⟩:=i2 e he;obtain⟨y1,y2⟩:=(IZ _ _ _).1 hy;have:=hr.2.2.2.1 y y1;rw[if_pos hbd]at this
    rwa [XL,if_neg (fun e=>y2 (by rw[←e];simp))]at this
   ·rename_i hbd;obtain⟨e,he,hy⟩:=Zk.1 hy;obtain⟨k,hkm,hr⟩:=i2 e he;have:=hr.2.2.2.1 y hy
    rwa [if_neg hbd]at this
  ·show((Uj (.mk op nm z a dn):Nat):Int)≤n-(Yb qs kids (n-1)).2;rw[Uj];omega
 ·cases hb
theorem Oy{y:Nd}(x:Nd):y∈U3 x→Uj y≤Uj x∧(Ac x→Ac y):=by
 refine Uz (M:=fun x=>y∈U3 x→Uj y≤Uj x∧(Ac x→Ac y)) (fun op nm z a kids ih hy=>?_) x;rw[U3]at hy
 split at hy
 ·rw[List.mem_singleton]at hy;subst hy;exact⟨Nat.le_refl _,id⟩
 ·obtain⟨k,hk,hy⟩:=WI hy;obtain⟨h1,h2⟩:=ih k hk hy;exact⟨by have:=Z4 hk;rw[Uj];omega,fun h=>h2 (h.GP hk)⟩
theorem Bm{E:Int}{B:Nat}(hE0:200≤E)(hE:E≤50000){ps qs:List Pd}(hQ:Wf E ps qs)(hpl: ∀p∈ps,p.params.length≤1000)(hB1:1≤B)(hB:2000 *(B+1)≤500000){y:Nd}(hy:Cx ps y)(hsz:Uj y≤B):KH E B qs y:=by
 obtain⟨o,s,z,a,l⟩:=y;obtain⟨p,sc,hp,_,hT,_⟩:=hy;obtain⟨q,hq,hf⟩:=hQ.find hp;refine⟨q,hq,hf.ok,⟨fun t ht=>?_,hB1,Nat.le_trans (Nat.mul_le_mul_right _ hf.sz) hB,by omega,hE⟩,by rw[hf.pr];exact hpl p (List.mem_of_find?_eq_some hp)⟩;have hok:=BS t (.inr (hT t ht));have h1:=FU t hok;have h2:=NA hok;rw[jB]at h1;exact⟨by have:=Z4 ht;rw[Uj]at hsz;omega,h1.1,by omega⟩
theorem FT: ∀{l pre:List Pd},EL pre l=none→ ∀(i:Nat) (p:Pd),l[i]? =some p→Ue [] p.params=none∧(YJ (pre++l.take i) p.body p.params).2=0
 |[],_,_,i,p,h=>by simp at h
 |p0::l,pre,h,i,p,hi=>by
  rw[EL]at h
  split at h
  ·cases h
  ·split at h
   ·cases h
   ·rename_i h2
    split at h
    ·cases h
    ·rename_i h3
     cases i with
     |zero=>
      injection hi with hi
      subst hi;rw[List.take_zero,List.append_nil];exact⟨h2,by omega⟩
     |succ i=>
      obtain⟨h4,h5⟩:=FT h i p hi;rw[List.append_assoc]at h5;exact⟨h4,h5⟩
end
section

theorem G7{r:Int×Int}: ∀{l pre:List Pd},EL pre l=some r→r.2≠0
 |[],pre,h=>by rw[EL]at h;cases h
 |p0::l,pre,h=>by
  rw[EL]at h
  split at h
  ·injection h with h;rw[←h];show(6:Int)≠0;decide
  ·split at h
   ·injection h with h;rw[←h];show(6:Int)≠0;decide
   ·split at h
    ·rename_i h3
     injection h with h
     rw[←h];exact h3
    ·exact G7 h
theorem Ku{p:Pg}(h:(UH p).2=0):Em p=true∧EL [] p.preds=none∧(YJ p.preds p.main p.decls).2=0:=by
 unfold UH at h
 split at h
 ·rename_i h1
  split at h
  ·exact absurd h (show¬(6:Int)=0 by decide)
  ·split at h
   ·rename_i r hr;exact absurd h (G7 hr)
   ·rename_i h2;exact⟨h1,h2,h⟩
 ·exact absurd h (show¬(1:Int)=0 by decide)
theorem IP{p:Pg}(h:(UH p).2=0){q:Pd}(hq:q∈p.preds):Jw q.body=true∧q.params.length≤6∧yy q:=by
 obtain⟨h1,h2,_⟩:=Ku h;unfold Em at h1;simp only[Bool.and_eq_true,List.all_eq_true]at h1;have h3:=h1.2.1 q hq;unfold En at h3;simp only[Bool.and_eq_true,List.all_eq_true,decide_eq_true_eq]at h3;obtain⟨i,hi⟩:=List.getElem?_of_mem hq;refine⟨h3.2.2.2.2,by omega,(FT h2 i q hi).1,fun d hd=>?_⟩;have h4:=h3.2.2.1 d hd;unfold Vh at h4;simp only[Bool.and_eq_true,decide_eq_true_eq]at h4;exact h4.2.1
theorem zq{p:Pg}(h:(UH p).2=0):Jw p.main=true:=by
 have h1:=(Ku h).1;unfold Em at h1;simp only[Bool.and_eq_true]at h1;exact h1.2.2.2
theorem SE{p:Pg}{B:Nat}(h:(UH p).2=0)(hby: ∀q∈p.preds,Ac q.body)(hB1:1≤B)(hB:2000 *(B+1)≤500000)(hsz: ∀q∈p.preds,Uj q.body≤B): ∀(i:Nat),i≤p.preds.length→ ∀qs,VI [] (p.preds.take i)=some qs→Wf (200+600 *i) (p.preds.take i) qs:=by
 intro i
 induction i with
 |zero=>
  intro _ qs hq;rw[List.take_zero]at hq ⊢
  injection hq with hq
  subst hq;exact trivial
 |succ i ih=>
  intro hi qs hq;obtain⟨q,hqi⟩: ∃q,p.preds[i]? =some q:=⟨_,List.getElem?_eq_getElem Qh⟩
  have ht:p.preds.take (i+1)=p.preds.take i++[q]:=by rw[List.take_add_one,hqi];rfl
  rw[ht,Oh]at hq
  cases h0:VI [] (p.preds.take i)with
  |none=>rw[h0]at hq;cases hq
  |some qs0=>
   rw[h0]at hq;have hq:VI qs0 [q]=some qs:=hq;rw[VI]at hq
   split at hq
   ·rename_i hb;have hq:some (qs0++[vr qs0 q])=some qs:=hq
    injection hq with hq
    subst hq;have hm:=List.mem_of_getElem? hqi;have hQ:=ih Qh qs0 h0;obtain⟨_,hpr,_⟩:=Ku h;have hck:=(FT hpr i q hqi).2;rw[List.nil_append]at hck;have hf:=IP h hm;have hcn:=Hb _ _ hf.1 _ hck;obtain⟨hr,hs⟩:=u5 (E:=200+600 *i) (F:=200+600 *((i+1:Nat):Int)) (B:=B) Qh Qh hQ (fun p' hp'=>(IP h (List.mem_of_mem_take hp')).2.2) hB1 hB q.body hf.1 (hby q hm) (hsz q hm) q.params hck 2000 Qh Qh hb;have hroom:=(FZ qs0 q.body 2000 Qh).2.2 hb;rw[ht];refine Wf.snoc (hQ.mono Qh) ⟨rfl,rfl,hr.1,hr.2.1,?_,fun z hz=>hcn.1 z (hr.2.2.1 z hz),hr.2.2.2.1,hr.2.2.2.2⟩;show Uj (Jq qs0 q.body 2000).1.1≤2000;omega
   ·cases hq
theorem u7{p:Pg}{B:Nat}(hn:p.preds.length≤30)(hby: ∀q∈p.preds,Ac q.body)(hB1:1≤B)(hB:2000 *(B+1)≤500000)(hsz: ∀q∈p.preds,Uj q.body≤B)(hszm:Uj p.main≤B):y5 20000 B p:=by
 intro h;obtain⟨_,hpr,hmn⟩:=Ku h;refine⟨fun i q qs hi hq y hy=>?_,fun qs hq y hy=>?_⟩
 ·have hlt:=(List.getElem?_eq_some_iff.1 hi).1;have hm:=List.mem_of_getElem? hi;have hQ:=(SE h hby hB1 hB hsz i Qh qs hq).mono (show(200+600 *(i:Int))≤20000 by omega);have hck:=(FT hpr i q hi).2;rw[List.nil_append]at hck;exact Bm Qh Qh hQ (fun p' hp'=>by have:=(IP h (List.mem_of_mem_take hp')).2.1;omega) hB1 hB ((Hb _ _ (IP h hm).1 _ hck).2.2 y hy) (Nat.le_trans (Oy _ hy).1 (hsz q hm))
 ·have hq':VI [] (p.preds.take p.preds.length)=some qs:=by rw[List.take_length];exact hq
  have hQ:=(SE h hby hB1 hB hsz _ (Nat.le_refl _) qs hq').mono (show(200+600 *(p.preds.length:Int))≤20000 by omega);rw[List.take_length]at hQ;exact Bm Qh Qh hQ (fun p' hp'=>by have:=(IP h hp').2.1;omega) hB1 hB ((Hb _ _ (zq h) _ hmn).2.2 y hy) (Nat.le_trans (Oy _ hy).1 hszm)
end
section
set_option maxRecDepth 1000000
set_option maxHeartbeats 4000000

def y8:Nat→List Nat
 |0=>[48]
 |i+1=>[97+(i+1)]
abbrev g0:List Nat:=[112,114,101,100,32,112,48,40,41,32,61,32,116,114,117,101,59]
abbrev g1:List Nat:=[112,114,101,100,32,112]
abbrev g2:List Nat:=[40,41,32,61,32,112]
abbrev g3:List Nat:=[40,41,32,38,32,112]
abbrev g4:List Nat:=[40,41,59]
def Hq:Nat→List Nat
 |0=>g0
 |i+1=>Hq i++g1++y8 (i+1)++g2++y8 i++g3++y8 i++g4
def Kn(n:Nat):List Nat:=Hq n++[112]++y8 n++g4
noncomputable def SA(n:Nat)(p:Pg):Bool:=
 decide (p.preds.length≤30)&&(decide (p.decls.length≤10)&&(p.preds.all (fun q=>decide (Uj q.body≤80))&&(decide (Uj p.main≤80)&&
  (decide ((Uw p).2=if 2^(n+1)-1≤2000 then 0 else 8)&&(decide (2000<2^(n+1)-1)||decide (Uj (Uw p).1=2^(n+1)-1))))))
noncomputable def Wd(n:Nat):Bool:=SA n (UJ (Kn n)).1
theorem My{n:Nat}{p:Pg}(h:SA n p=true):p.preds.length≤30∧p.decls.length≤10∧(∀q∈p.preds,Uj q.body≤80)∧Uj p.main≤80∧(Uw p).2=(if 2^(n+1)-1≤2000 then 0 else 8)∧(2^(n+1)-1≤2000→Uj (Uw p).1=2^(n+1)-1):=by
 simp only[SA,Bool.and_eq_true,Bool.or_eq_true,decide_eq_true_eq,List.all_eq_true]at h;obtain⟨h1,h2,h3,h4,h5,h6⟩:=h;exact⟨h1,h2,h3,h4,h5,fun hk=>h6.resolve_left Qh⟩
theorem wQ:Wd 0=true:=by decide+kernel
theorem wP:Wd 1=true:=by decide+kernel
theorem wO:Wd 2=true:=by decide+kernel
theorem wN:Wd 3=true:=by decide+kernel
theorem wM:Wd 4=true:=by decide+kernel
theorem wL:Wd 5=true:=by decide+kernel
theorem wK:Wd 6=true:=by decide+kernel
theorem wJ:Wd 7=true:=by decide+kernel
theorem wI:Wd 8=true:=by decide+kernel
theorem wH:Wd 9=true:=by decide+kernel
theorem vp:Wd 10=true:=by decide+kernel
theorem vo:Wd 11=true:=by decide+kernel
theorem vn:Wd 12=true:=by decide+kernel
theorem vm:Wd 13=true:=by decide+kernel
theorem vl:Wd 14=true:=by decide+kernel
theorem Mz: ∀n,n≤14→Wd n=true
 |0,_=>wQ
 |1,_=>wP
 |2,_=>wO
 |3,_=>wN
 |4,_=>wM
 |5,_=>wL
 |6,_=>wK
 |7,_=>wJ
 |8,_=>wI
 |9,_=>wH
 |10,_=>vp
 |11,_=>vo
 |12,_=>vn
 |13,_=>vm
 |14,_=>vl
 |n+15,h=>by omega
end
section

theorem yX(n:Nat):((2^n:Nat):Int)=(2:Int)^n:=by rw[Int.natCast_pow];rfl
theorem Df{n:Nat}(h:n≤62):2^n≤4611686018427387904:=Nat.le_trans (Nat.pow_le_pow_right QT h) QT
theorem BQ{P:Program}{G:Env}{K:List (Nat×AV)}{st:St}{t yt:TypeId}{x y:Operand}{k:IntKind}{n:Nat}(hx:JF G K x=some (.int .i64 1))(hy:JF G K y=some (.int k ((n:Nat):Int)))(h:n≤62):YK P G K (.binOp .shl t x y yt) st (.int .i64 (2^n:Nat)) st:=
 YS hx hy (by
  have hp:((2^n:Nat):Int)≤4611686018427387904:=Int.ofNat_le.2 (Df h);have hp0:(0:Int)≤((2^n:Nat):Int):=Int.natCast_nonneg _;show Qp (Dz ((n:Nat):Int) 0) none (E3 (V6 .i64 (1 *2^(min ((n:Nat):Int).toNat 64))) fun z=>some (AV.int .i64 z))=_
  rw[X9,decide_eq_false Qh,ZX,Yl,Int.toNat_natCast,Nat.min_eq_left Qh,Int.one_mul,←yX,wrap64 (Int.le_trans QT hp0) (Int.le_trans hp QT)];rfl)
end
end Go.Proofs.YtaomhhkflohhgaaGreatDoor
