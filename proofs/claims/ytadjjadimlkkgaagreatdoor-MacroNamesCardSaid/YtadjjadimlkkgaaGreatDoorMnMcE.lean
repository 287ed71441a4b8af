/-
  What is expanded: its names, its numbers; that all that is called may be called.
-/
import Derived.Test.YtadjjadimlkkgaaGreatDoorMnMcK
import Derived.Test.YtadjjadimlkkgaaGreatDoorMnMcb
namespace Go.Proofs.YtadjjadimlkkgaaGreatDoor
open Go Go.RowKit
set_option linter.unusedVariables false
set_option linter.unusedSectionVars false
set_option linter.unusedSimpArgs false

structure Se(E:Int)(p q:Pd):Prop where
 nm:q.name=p.name
 pr:q.params=p.params
 ok:okB E q.body=true
 by_:V3 q.body
 sz:Jz q.body≤2000
 fr: ∀z∈Qx q.body [],0≤Je p.params z
 fi: ∀z∈Zu q.body [],Je p.params z=0
 br:Um q.body=true
def XH(E:Int):List Pd→List Pd→Prop
 |[],[]=>True
 |p::ps,q::qs=>Se E p q∧XH E ps qs
 |_,_=>False
theorem XH.find{E:Int}{s:List Nat}: ∀{ps qs:List Pd} {p:Pd},XH E ps qs→ps.find? (fun p=>decide (p.name=s))=some p→ ∃q,qs.find? (fun p=>decide (p.name=s))=some q∧Se E p q
 |[],_,p,_,h=>by cases h
 |p0::ps,[],p,h,_=>h.elim
 |p0::ps,q0::qs,p,h,hf=>by
  obtain⟨h0,h⟩:=h;rw[List.find?_cons]at hf ⊢;rw[h0.nm]
  by_cases e:p0.name=s
  ·rw[decide_eq_true e]at hf ⊢
   injection hf with hf
   subst hf;exact⟨q0,rfl,h0⟩
  ·rw[decide_eq_false e]at hf ⊢;exact XH.find h hf
theorem XH.snoc{E:Int}{p q:Pd}: ∀{ps qs:List Pd},XH E ps qs→Se E p q→XH E (ps++[p]) (qs++[q])
 |[],[],_,h=>⟨h,trivial⟩
 |[],_::_,h,_=>h.elim
 |_::_,[],h,_=>h.elim
 |p0::ps,q0::qs,h,hq=>⟨h.1,XH.snoc h.2 hq⟩
theorem Se.mono{E F:Int}(h:E≤F){p q:Pd}(H:Se E p q):Se F p q:=⟨H.nm,H.pr,F6 h _ H.ok,H.by_,H.sz,H.fr,H.fi,H.br⟩
theorem XH.mono{E F:Int}(h:E≤F): ∀{ps qs:List Pd},XH E ps qs→XH F ps qs
 |[],[],_=>trivial
 |[],_::_,H=>H.elim
 |_::_,[],H=>H.elim
 |p0::ps,q0::qs,H=>⟨H.1.mono h,H.2.mono h⟩
def qF(p:Pd):Prop:=Jx [] p.params=none∧ ∀d∈p.params,0≤d.order
theorem PL{t:Nd}(h:V3 t)(a:Int):V3 (t.setAt a):=by
 obtain⟨o,s,z,a',l⟩:=t;intro x hx;refine h x ?_;have hx:x∈Vy (.mk o s z a l):=hx;rw[Vy]at hx ⊢;exact hx
theorem WW{op nm:List Nat}{n a:Int}{l:List Nd}(h:Bytes nm)(hl: ∀k∈l,V3 k):V3 (.mk op nm n a l):=fun s hs=>by
 rw[Vy]at hs;rcases List.mem_cons.1 hs with rfl|hs
 ·exact h
 ·obtain⟨k,hk,hs⟩:=WY.1 hs;exact hl k hk s hs
theorem qi{op nm:List Nat}{n a:Int}{l:List Nd}(h:Bytes nm)(hl: ∀k∈l,V3 k):V3 (Zb op nm n a l):=by
 unfold Zb
 split
 ·split
  ·rename_i k
   split
   ·exact WW (fun x hx=>by cases hx) (fun k hk=>by cases hk)
   ·split
    ·refine WW h fun k' hk'=>?_;obtain⟨o,s,z,a',l'⟩:=k;exact(hl _ (List.mem_cons_self ..)).N2 hk'
    ·exact WW h hl
  ·exact WW h hl
 ·exact WW h hl
theorem qh{t:Nd}(h:V3 t):Bytes t.name:=by obtain⟨o,s,z,a,l⟩:=t;exact h.name
theorem jK{C:Int}(cnt:List Nat→Int)(x:Nd):okB C x=true→V3 x→ ∀(ns:List (List Nat)) (ts:List Nd),(∀t∈ts,V3 t)→V3 (Ur cnt x ns ts):=by
 refine J2 (M:=fun x=>okB C x=true→V3 x→ ∀(ns:List (List Nat)) (ts:List Nd),(∀t∈ts,V3 t)→V3 (Ur cnt x ns ts)) (fun op nm n a kids ih hok hB ns ts hts=>?_) x;obtain⟨_,_,_,hone,hokk,_⟩:=Yj hok;rw[Ur]
 split
 ·rename_i h;obtain⟨t,h3⟩:=Option.isSome_iff_exists.1 h.2;rw[h3];exact PL (hts t (UT h3)) a
 ·split
  ·cases h3:QS ns ts nm with
   |none=>exact hB
   |some t=>exact WW (qh (hts t (UT h3))) fun k hk=>hB.N2 hk
  ·split
   ·rename_i hb;have hl1:=hone hb
    match kids,hl1,ih,hokk,hB with
    |[k],_,ih,hokk,hB=>
     have hkm:k∈[k]:=List.mem_cons_self ..;obtain⟨nm',ns2,ts2,us,hbx,_,_,htm,hnm,_⟩:=VD (cnt:=cnt) (nm:=nm) (ns:=ns) (ts:=ts) (hB.N2 hkm)
     have hn':Bytes nm':=by
      rcases hnm with rfl|rfl
      ·exact hB.name
      ·exact ZT cnt hB.name _
     rw[hbx,US];refine WW hn' fun k' hk'=>?_;have hk':k'∈[Ur cnt k ns2 ts2]:=hk';rw[List.mem_singleton]at hk';subst hk';refine ih k hkm (hokk k hkm) (hB.N2 hkm) ns2 ts2 fun t ht=>?_;rcases htm t ht with h|rfl
     ·exact hts t h
     ·exact WW hn' fun k hk=>by cases hk
   ·rw[US];refine qi hB.name fun k' hk'=>?_;obtain⟨k,hk,rfl⟩:=List.mem_map.1 hk';exact ih k hk (hokk k hk) (hB.N2 hk) ns ts hts
theorem Xu{op nm:List Nat}{n a:Int}{l:List Nd}(h:(op=[118,97,114]∨op=[105,115])→l=[])(hl: ∀k∈l,Um k=true):Um (.mk op nm n a l)=true:=by
 rw[Wt,Bool.and_eq_true];refine⟨?_,List.all_eq_true.2 hl⟩
 by_cases hv:op=[118,97,114]∨op=[105,115]
 ·rw[h hv];simp
 ·have:(decide (op=[118,97,114])||decide (op=[105,115]))=false:=by
   rw[Bool.or_eq_false_iff];exact⟨decide_eq_false fun e=>hv (.inl e),decide_eq_false fun e=>hv (.inr e)⟩
  rw[this];rfl
theorem HE{op nm:List Nat}{n a:Int}{l:List Nd}(h:Um (.mk op nm n a l)=true):((op=[118,97,114]∨op=[105,115])→l=[])∧ ∀k∈l,Um k=true:=by
 rw[Wt,Bool.and_eq_true]at h;refine⟨fun hv=>?_,List.all_eq_true.1 h.2⟩
 have:(decide (op=[118,97,114])||decide (op=[105,115]))=true:=by simpa using hv
 rw[this]at h
 have h1:l.isEmpty=true:=by simpa using h.1
 exact List.isEmpty_iff.1 h1
theorem D0{t:Nd}(h:Um t=true)(a:Int):Um (t.setAt a)=true:=by
 obtain⟨o,s,z,a',l⟩:=t;obtain⟨h1,h2⟩:=HE h;exact Xu h1 h2
theorem RU{op nm:List Nat}{n a:Int}{l:List Nd}(h:(op=[118,97,114]∨op=[105,115])→l=[])(hl: ∀k∈l,Um k=true):Um (Zb op nm n a l)=true:=by
 unfold Zb
 split
 ·rename_i hp
  split
  ·rename_i k
   split
   ·exact Xu (fun _=>rfl) (fun k hk=>by cases hk)
   ·split
    ·obtain⟨o,s,z,a',l'⟩:=k
     exact Xu (fun e=>by rw[hp]at e;rcases e with e|e<;>cases e) (HE (hl _ (List.mem_cons_self ..))).2
    ·exact Xu h hl
  ·exact Xu h hl
 ·exact Xu h hl
theorem qn{C:Int}(cnt:List Nat→Int)(x:Nd):okB C x=true→V3 x→Um x=true→ ∀(ns:List (List Nat)) (ts:List Nd),(∀t∈ts,Um t=true)→Um (Ur cnt x ns ts)=true:=by
 refine J2 (M:=fun x=>okB C x=true→V3 x→Um x=true→ ∀(ns:List (List Nat)) (ts:List Nd),(∀t∈ts,Um t=true)→Um (Ur cnt x ns ts)=true) (fun op nm n a kids ih hok hB hb0 ns ts hts=>?_) x;obtain⟨_,_,_,hone,hokk,_⟩:=Yj hok;obtain⟨hb1,hb2⟩:=HE hb0;rw[Ur]
 split
 ·rename_i h;obtain⟨t,h3⟩:=Option.isSome_iff_exists.1 h.2;rw[h3];exact D0 (hts t (UT h3)) a
 ·split
  ·rename_i h
   cases h3:QS ns ts nm with
   |none=>exact hb0
   |some t=>exact Xu (fun _=>hb1 (.inr h.1)) hb2
  ·split
   ·rename_i hb;have hl1:=hone hb
    match kids,hl1,ih,hokk,hB,hb2 with
    |[k],_,ih,hokk,hB,hb2=>
     have hkm:k∈[k]:=List.mem_cons_self ..;obtain⟨nm',ns2,ts2,us,hbx,_,_,htm,_,_⟩:=VD (cnt:=cnt) (nm:=nm) (ns:=ns) (ts:=ts) (hB.N2 hkm);rw[hbx,US];refine Xu (fun e=>?_) fun k' hk'=>?_
     ·rcases hb with rfl|rfl<;>rcases e with e|e<;>cases e
     have hk':k'∈[Ur cnt k ns2 ts2]:=hk';rw[List.mem_singleton]at hk';subst hk';refine ih k hkm (hokk k hkm) (hB.N2 hkm) (hb2 k hkm) ns2 ts2 fun t ht=>?_;rcases htm t ht with h|rfl
     ·exact hts t h
     ·exact Xu (fun _=>rfl) fun k hk=>by cases hk
   ·rw[US];refine RU (fun e=>by rw[hb1 e];rfl) fun k' hk'=>?_;obtain⟨k,hk,rfl⟩:=List.mem_map.1 hk';exact ih k hk (hokk k hk) (hB.N2 hk) (hb2 k hk) ns ts hts
theorem RP{E F:Int}{B:Nat}(h1:E+600≤F)(hE:0≤E){ps qs:List Pd}(hQ:XH E ps qs)(hP: ∀p∈ps,qF p){s:List Nat}{l:List Nd}{sc:List Dc}{p:Pd}(hp:ps.find? (fun p=>decide (p.name=s))=some p)(hpl:p.params.length=l.length)
  (hT: ∀t∈l,Q9 t=true) (hBl: ∀t∈l,V3 t) (hsz: ∀t∈l,Jz t≤B) (hB1:1≤B) (hB:2000 *(B+1)≤500000) (hpk: ∀(i:Nat) (d:Dc) (t:Nd),p.params[i]? =some d→l[i]? =some t→(Qz sc t).2.2=0∧(Qz sc t).1=d.order):
  okB F (XG qs s l)=true∧V3 (XG qs s l)∧(∀z∈Qx (XG qs s l) [],z∈Uu l [])∧(∀z∈Zu (XG qs s l) [],Je sc z=0)∧Um (XG qs s l)=true:=by
 obtain⟨q,hq,hf⟩:=hQ.find hp;obtain⟨hp1,hp2⟩:=hP p (List.mem_of_find?_eq_some hp);rw[Lh hq,hf.pr]
 have hlk: ∀y,0≤Je p.params y→ ∃t,QS (p.params.map Dc.name) l y=some t∧t∈l∧(Qz sc t).2.2=0∧(Qz sc t).1=Je p.params y:=fun y hy=>by
  obtain⟨i,d,t,h2,h3,h4,h5⟩:=Ky (y:=y) hp1 hp2 hpl (CN hy);obtain⟨h6,h7⟩:=hpk i d t h2 h3;exact⟨t,h4,List.mem_of_getElem? h3,h6,by rw[h7,←h5];rfl⟩
 have hok2: ∀t∈l,okB 200 t=true:=fun t ht=>O3 t (.inr (hT t ht));have hput:=jk (C:=E) (D:=200) (E:=F) (B:=B) (by omega) h1 hE (by omega) hB1 q.body hf.ok hf.by_ (Nat.le_trans (Nat.mul_le_mul_right _ hf.sz) hB) (p.params.map Dc.name) l fun t ht=>⟨F6 (by omega) t (hok2 t ht),Kn (hok2 t ht),hsz t ht⟩
 have hnm:=PU (C:=E) UL q.body hf.ok hf.by_ (p.params.map Dc.name) l (fun t ht=>IT t (hT t ht)) fun y hy t ht=>by
  obtain⟨t',h2,_,h3,h4⟩:=hlk y (by rw[hf.fi y hy];exact Int.le_refl _);rw[h2]at ht
  injection ht with ht
  subst ht;exact Ro h3 (h4.trans (hf.fi y hy))
 refine⟨hput.1,jK UL q.body hf.ok hf.by_ _ _ hBl,fun z hz=>?_,fun z hz=>?_,qn UL q.body hf.ok hf.by_ hf.br _ _ fun t ht=>AE t (hT t ht)⟩
 ·obtain⟨y,hy,hs⟩:=hnm.1 z hz;obtain⟨t,h2,h3,_⟩:=hlk y (hf.fr y hy);rcases hs with⟨h4,_⟩|⟨t',h4,h5⟩
  ·rw[h2]at h4;cases h4
  ·rw[h2]at h4
   injection h4 with h4
   subst h4;exact Jh.2 ⟨t,h3,h5⟩
 ·obtain⟨y,hy,hs⟩:=hnm.2 z hz;obtain⟨t,h2,h3,h4,h5⟩:=hlk y (hf.fr y (Hw _ _ _ hy));rcases hs with⟨h6,_⟩|⟨t',h6,h7,h8⟩
  ·rw[h2]at h6;cases h6
  ·rw[h2]at h6
   injection h6 with h6
   subst h6;rw[hf.fi y hy]at h5;obtain⟨o,nm,z',a,kids⟩:=t;have h7:o=[118,97,114]:=h7;subst h7;have h8:z=nm:=h8;subst h8;rw[Qz,if_pos rfl]at h4 h5
   split at h4
   ·exact absurd h4 (show¬(5:Int)=0 by decide)
   ·rename_i h9;rw[if_neg h9]at h5;exact h5
theorem NC{qs:List Pd}: ∀{l:List Nd},(∀k∈l,∀n,(QM qs k n).1.2=true→(QM qs k n).1.1=k∧(QM qs k n).2=n-(Jz k:Int))→ ∀n,(Ub qs l n).1.2=true→(Ub qs l n).1.1=l∧(Ub qs l n).2=n-(W2 l:Int)
 |[],_,n,_=>by rw[Ub,W2];exact⟨rfl,by simp⟩
 |k::l,h,n,hb=>by
  rw[Ub]at hb ⊢
  split at hb
  ·rename_i hk;obtain⟨h1,h2⟩:=h k (List.mem_cons_self ..) n hk;have ih:=NC (l:=l) (fun k' h'=>h k' (List.mem_cons_of_mem _ h')) (QM qs k n).2 hb;rw[if_pos hk];refine⟨?_,?_⟩
   ·show(QM qs k n).1.1::(Ub qs l (QM qs k n).2).1.1=_;rw[h1,ih.1]
   ·show(Ub qs l (QM qs k n).2).2=_;rw[ih.2,h2,W2];omega
  ·cases hb
theorem Bu{qs:List Pd}{op nm:List Nat}{z a:Int}{l:List Nd}(hc: ¬op=[99,97,108,108])(hl: ∀k∈l,∀n,(QM qs k n).1.2=true→(QM qs k n).1.1=k∧(QM qs k n).2=n-(Jz k:Int))(n:Int)(hb:(QM qs (.mk op nm z a l) n).1.2=true):(QM qs (.mk op nm z a l) n).1.1=.mk op nm z a l∧(QM qs (.mk op nm z a l) n).2=n-(Jz (.mk op nm z a l):Int):=by
 rw[QM,if_neg hc]at hb ⊢
 split at hb
 ·cases hb
 ·rename_i hn;rw[if_neg hn]
  split at hb
  ·rename_i hk;obtain⟨h1,h2⟩:=NC hl (n-1) hk;rw[if_pos hk];refine⟨?_,?_⟩
   ·show Nd.mk op nm z a (Ub qs l (n-1)).1.1=_;rw[h1]
   ·show(Ub qs l (n-1)).2=_;rw[h2,Jz];omega
  ·cases hb
theorem MC{qs:List Pd}(t:Nd):Q9 t=true→ ∀n,(QM qs t n).1.2=true→(QM qs t n).1.1=t∧(QM qs t n).2=n-(Jz t:Int):=by
 refine J2 (M:=fun t=>Q9 t=true→ ∀n,(QM qs t n).1.2=true→(QM qs t n).1.1=t∧(QM qs t n).2=n-(Jz t:Int)) (fun op name n a kids ih ht m hb=>?_) t;exact Bu (Wb ht).2.2 (fun k hk=>ih k hk (Vc ht k hk)) m hb
end Go.Proofs.YtadjjadimlkkgaaGreatDoor
