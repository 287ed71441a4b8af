/-
  What is expanded: formulas, predicates; that all that is called may be called.
-/
import Derived.Test.YtadjjadimlkkgaaGreatDoorMnMcE
set_option linter.unusedSectionVars false
set_option linter.unusedSimpArgs false
set_option linter.unusedVariables false
section
namespace Go.Proofs.YtadjjadimlkkgaaGreatDoor
open Go Go.RowKit

def Rel(F:Int)(sc:List Dc)(k e:Nd):Prop:=okB F e=true∧V3 e∧(∀z∈Qx e [],z∈Qx k [])∧(∀z∈Zu e [],Je sc z=0)∧Um e=true
theorem ND{F:Int}{qs:List Pd}{sc:List Dc}: ∀{l:List Nd},(∀k∈l,∀n,0≤n→n≤2000→(QM qs k n).1.2=true→Rel F sc k (QM qs k n).1.1∧((Jz (QM qs k n).1.1:Nat):Int)≤n-(QM qs k n).2)→ ∀n,0≤n→n≤2000→(Ub qs l n).1.2=true→
  (Ub qs l n).1.1.length=l.length∧(∀e∈(Ub qs l n).1.1,∃k∈l,Rel F sc k e)∧((W2 (Ub qs l n).1.1:Nat):Int)≤n-(Ub qs l n).2
 |[],_,n,_,_,_=>by
  rw[Ub];refine⟨rfl,fun e he=>(by cases he),?_⟩;show((W2 []:Nat):Int)≤n-n;rw[W2];omega
 |k::l,h,n,h0,h1,hb=>by
  rw[Ub]at hb ⊢
  split at hb
  ·rename_i hk;obtain⟨h2,h3⟩:=h k (List.mem_cons_self ..) n h0 h1 hk;have hr:=Wp qs k n h0;have hr2:=hr.2.2 hk;obtain⟨i1,i2,i3⟩:=ND (l:=l) (fun k' h'=>h k' (List.mem_cons_of_mem _ h')) (QM qs k n).2 hr2 (by omega) hb;rw[if_pos hk];refine⟨?_,fun e he=>?_,?_⟩
   ·show((QM qs k n).1.1::(Ub qs l (QM qs k n).2).1.1).length=_;rw[List.length_cons,List.length_cons,i1]
   ·have he:e∈(QM qs k n).1.1::(Ub qs l (QM qs k n).2).1.1:=he;rcases List.mem_cons.1 he with rfl|he
    ·exact⟨k,List.mem_cons_self ..,h2⟩
    ·obtain⟨k',hk',hr'⟩:=i2 e he;exact⟨k',List.mem_cons_of_mem _ hk',hr'⟩
   ·show((W2 ((QM qs k n).1.1::(Ub qs l (QM qs k n).2).1.1):Nat):Int)≤n-(Ub qs l (QM qs k n).2).2;rw[W2];omega
  ·cases hb
theorem Bv{E F:Int}{B:Nat}(h1:E+600≤F)(hE:0≤E){ps qs:List Pd}(hQ:XH E ps qs)(hP: ∀p∈ps,qF p)(hB1:1≤B)(hB:2000 *(B+1)≤500000)(x:Nd):QW x=true→V3 x→Jz x≤B→ ∀sc,(UK ps x sc).2=0→ ∀n,0≤n→n≤2000→(QM qs x n).1.2=true→
  Rel F sc x (QM qs x n).1.1∧((Jz (QM qs x n).1.1:Nat):Int)≤n-(QM qs x n).2:=by
 refine J2 (M:=fun x=>QW x=true→V3 x→Jz x≤B→ ∀sc,(UK ps x sc).2=0→ ∀n,0≤n→n≤2000→(QM qs x n).1.2=true→
  Rel F sc x (QM qs x n).1.1∧((Jz (QM qs x n).1.1:Nat):Int)≤n-(QM qs x n).2) (fun op nm z a kids ih hf hBy hsz sc h n h0 h2 hb=>?_) x
 have hcn:=Ag ps _ hf sc h;have hok:=F6 (C':=F) (by omega) _ (O3 _ (.inl hf))
 have hszk: ∀k∈kids,Jz k≤B:=fun k hk=>by have:=Yb hk;rw[Jz]at hsz;omega
 have same:(∀k∈kids,Q9 k=true)→ ¬op=[99,97,108,108]→Rel F sc (.mk op nm z a kids) (QM qs (.mk op nm z a kids) n).1.1∧((Jz (QM qs (.mk op nm z a kids) n).1.1:Nat):Int)≤n-(QM qs (.mk op nm z a kids) n).2:=fun hT hc=>by
  obtain⟨e1,e2⟩:=Bu hc (fun k hk=>MC k (hT k hk)) n hb;rw[e1,e2];exact⟨⟨hok,hBy,fun z hz=>hz,hcn.2.1,AW _ hf⟩,by omega⟩
 rw[Yf]at h
 by_cases hs:op=[105,115]
 ·refine same (fun k hk=>?_) (by rw[hs];decide);rw[GQ (.inl hf) (.inr hs)]at hk;cases hk
 rw[if_neg hs]at h
 by_cases hc:op=[99,97,108,108]
 ·subst hc;rw[if_pos rfl]at h;have hT:=AU hf;obtain⟨p,hp,hpl,hpk⟩:=BM h;have hcx:=RP (F:=F) (B:=B) h1 hE hQ hP hp hpl hT (fun t ht=>hBy.N2 ht) hszk hB1 hB hpk;rw[NF]at hb ⊢;have hb:=of_decide_eq_true hb;refine⟨⟨hcx.1,hcx.2.1,fun z hz=>?_,hcx.2.2.2.1,hcx.2.2.2.2⟩,?_⟩
  ·rw[Qx,if_neg (by decide),if_neg (by decide)];exact hcx.2.2.1 z hz
  ·show((Jz (XG qs nm kids):Nat):Int)≤n-(n-min ((Jz (XG qs nm kids):Nat):Int) 2001);omega
 rw[if_neg hc]at h
 by_cases ha:UY op=true
 ·obtain⟨k,j,rfl,hT⟩:=Ye hf ha;exact same hT hc
 rw[if_neg ha]at h;have hk:=Hz hf hs hc (by simpa using ha);have hkc:=OT h
 have hv: ¬op=[118,97,114]:=fun e=>by subst e;rw[Jd]at hf;simp[oneOf]at hf
 have hp: ¬op=[112,108,117,115]:=fun e=>by subst e;exact(KI hf).elim
 obtain⟨hl1,hz0,_,hone,_,hnc⟩:=Yj hok;rw[QM,if_neg hc]at hb ⊢
 split at hb
 ·cases hb
 rename_i hn;rw[if_neg hn]
 split at hb
 ·rename_i hkb;rw[if_pos hkb];obtain⟨i1,i2,i3⟩:=ND (F:=F) (fun k hkm m hm0 hm1 hmb=>ih k hkm (hk k hkm) (hBy.N2 hkm) (hszk k hkm) _ (hkc k hkm) m hm0 hm1 hmb) (n-1) (by omega) (by omega) hkb;generalize (Ub qs kids (n-1)).1.1=dn at i1 i2 i3;refine⟨⟨WH hl1 hz0 ?_ (fun hb=>by rw[i1];exact hone hb) (fun e he=>by obtain⟨k,_,hr⟩:=i2 e he;exact hr.1),WW hBy.name (fun e he=>by obtain⟨k,_,hr⟩:=i2 e he;exact hr.2.1),fun y hy=>?_,fun y hy=>?_,Xu (fun e=>by rcases e with e|e;exact absurd e hv;exact absurd e hs) (fun e he=>by obtain⟨k,_,hr⟩:=i2 e he;exact hr.2.2.2.2)⟩,?_⟩
  ·rw[JT (.inl hp)]at hnc ⊢;exact hnc
  ·have hy:y∈Qx (.mk op nm z a dn) []:=hy;rw[Qx,if_neg (by rintro(e|e);exact hv e;exact hs e)]at hy ⊢
   split at hy
   ·rename_i hbd;rw[if_pos hbd];obtain⟨e,he,hy⟩:=Jh.1 hy;obtain⟨k,hkm,hr⟩:=i2 e he;obtain⟨y1,y2⟩:=(YB _ _ _).1 hy;exact Jh.2 ⟨k,hkm,(YB _ _ _).2 ⟨hr.2.2.1 y y1,y2⟩⟩
   ·rename_i hbd;rw[if_neg hbd];obtain⟨e,he,hy⟩:=Jh.1 hy;obtain⟨k,hkm,hr⟩:=i2 e he;exact Jh.2 ⟨k,hkm,hr.2.2.1 y hy⟩
  ·have hy:y∈Zu (.mk op nm z a dn) []:=hy;rw[Zu,if_neg hs,if_neg hv]at hy
   split at hy
   ·rename_i hbd;obtain⟨e,he,hy⟩:=Yd.1 hy;obtain⟨k,hkm,hr⟩:=i2 e he;obtain⟨y1,y2⟩:=(F7 _ _ _).1 hy;have:=hr.2.2.2.1 y y1;rw[if_pos hbd]at this
    rwa [Z5,if_neg (fun e=>y2 (by rw[←e];simp))]at this
   ·rename_i hbd;obtain⟨e,he,hy⟩:=Yd.1 hy;obtain⟨k,hkm,hr⟩:=i2 e he;have:=hr.2.2.2.1 y hy
    rwa [if_neg hbd]at this
  ·show((Jz (.mk op nm z a dn):Nat):Int)≤n-(Ub qs kids (n-1)).2;rw[Jz];omega
 ·cases hb
theorem Lf{y:Nd}(x:Nd):y∈JE x→Jz y≤Jz x∧(V3 x→V3 y):=by
 refine J2 (M:=fun x=>y∈JE x→Jz y≤Jz x∧(V3 x→V3 y)) (fun op nm z a kids ih hy=>?_) x;rw[JE]at hy
 split at hy
 ·rw[List.mem_singleton]at hy;subst hy;exact⟨Nat.le_refl _,id⟩
 ·obtain⟨k,hk,hy⟩:=Vn hy;obtain⟨h1,h2⟩:=ih k hk hy;exact⟨by have:=Yb hk;rw[Jz];omega,fun h=>h2 (h.N2 hk)⟩
theorem NQ{E:Int}{B:Nat}(hE0:200≤E)(hE:E≤50000){ps qs:List Pd}(hQ:XH E ps qs)(hpl: ∀p∈ps,p.params.length≤1000)(hB1:1≤B)(hB:2000 *(B+1)≤500000){y:Nd}(hy:Gd ps y)(hsz:Jz y≤B):Hc E B qs y:=by
 obtain⟨o,s,z,a,l⟩:=y;obtain⟨p,sc,hp,_,hT,_⟩:=hy;obtain⟨q,hq,hf⟩:=hQ.find hp;refine⟨q,hq,hf.ok,⟨fun t ht=>?_,hB1,Nat.le_trans (Nat.mul_le_mul_right _ hf.sz) hB,by omega,hE⟩,by rw[hf.pr];exact hpl p (List.mem_of_find?_eq_some hp)⟩;have hok:=O3 t (.inr (hT t ht));have h1:=EZ t hok;have h2:=Kn hok;rw[TC]at h1;exact⟨by have:=Yb ht;rw[Jz]at hsz;omega,h1.1,by omega⟩
theorem EY: ∀{l pre:List Pd},Wf pre l=none→ ∀(i:Nat) (p:Pd),l[i]? =some p→Jx [] p.params=none∧(UK (pre++l.take i) p.body p.params).2=0
 |[],_,_,i,p,h=>by simp at h
 |p0::l,pre,h,i,p,hi=>by
  rw[Wf]at h
  split at h
  ·cases h
  ·split at h
   ·cases h
   ·rename_i h2
    split at h
    ·cases h
    ·rename_i h3
     cases i with
     |zero=>
      injection hi with hi
      subst hi;rw[List.take_zero,List.append_nil];exact⟨h2,by omega⟩
     |succ i=>
      obtain⟨h4,h5⟩:=EY h i p hi;rw[List.append_assoc]at h5;exact⟨h4,h5⟩
end Go.Proofs.YtadjjadimlkkgaaGreatDoor
end
section
namespace Go.Proofs.YtadjjadimlkkgaaGreatDoor
open Go Go.RowKit

theorem Ni{r:Int×Int}: ∀{l pre:List Pd},Wf pre l=some r→r.2≠0
 |[],pre,h=>by rw[Wf]at h;cases h
 |p0::l,pre,h=>by
  rw[Wf]at h
  split at h
  ·injection h with h;rw[←h];show(6:Int)≠0;decide
  ·split at h
   ·injection h with h;rw[←h];show(6:Int)≠0;decide
   ·split at h
    ·rename_i h3
     injection h with h
     rw[←h];exact h3
    ·exact Ni h
theorem EK{p:Pg}(h:(JK p).2=0):XD p=true∧Wf [] p.preds=none∧(UK p.preds p.main p.decls).2=0:=by
 unfold JK at h
 split at h
 ·rename_i h1
  split at h
  ·exact absurd h (show¬(6:Int)=0 by decide)
  ·split at h
   ·rename_i r hr;exact absurd h (Ni hr)
   ·rename_i h2;exact⟨h1,h2,h⟩
 ·exact absurd h (show¬(1:Int)=0 by decide)
theorem EX{p:Pg}(h:(JK p).2=0){q:Pd}(hq:q∈p.preds):QW q.body=true∧q.params.length≤6∧qF q:=by
 obtain⟨h1,h2,_⟩:=EK h;unfold XD at h1;simp only[Bool.and_eq_true,List.all_eq_true]at h1;have h3:=h1.2.1 q hq;unfold XE at h3;simp only[Bool.and_eq_true,List.all_eq_true,decide_eq_true_eq]at h3;obtain⟨i,hi⟩:=List.getElem?_of_mem hq;refine⟨h3.2.2.2.2,by omega,(EY h2 i q hi).1,fun d hd=>?_⟩;have h4:=h3.2.2.1 d hd;unfold ZU at h4;simp only[Bool.and_eq_true,decide_eq_true_eq]at h4;exact h4.2.1
theorem O6{p:Pg}(h:(JK p).2=0):QW p.main=true:=by
 have h1:=(EK h).1;unfold XD at h1;simp only[Bool.and_eq_true]at h1;exact h1.2.2.2
theorem OG{p:Pg}{B:Nat}(h:(JK p).2=0)(hby: ∀q∈p.preds,V3 q.body)(hB1:1≤B)(hB:2000 *(B+1)≤500000)(hsz: ∀q∈p.preds,Jz q.body≤B): ∀(i:Nat),i≤p.preds.length→ ∀qs,ZY [] (p.preds.take i)=some qs→XH (200+600 *i) (p.preds.take i) qs:=by
 intro i
 induction i with
 |zero=>
  intro _ qs hq;rw[List.take_zero]at hq ⊢
  injection hq with hq
  subst hq;exact trivial
 |succ i ih=>
  intro hi qs hq;obtain⟨q,hqi⟩: ∃q,p.preds[i]? =some q:=⟨_,List.getElem?_eq_getElem (by omega)⟩
  have ht:p.preds.take (i+1)=p.preds.take i++[q]:=by rw[List.take_add_one,hqi];rfl
  rw[ht,KS]at hq
  cases h0:ZY [] (p.preds.take i)with
  |none=>rw[h0]at hq;cases hq
  |some qs0=>
   rw[h0]at hq;have hq:ZY qs0 [q]=some qs:=hq;rw[ZY]at hq
   split at hq
   ·rename_i hb;have hq:some (qs0++[yK qs0 q])=some qs:=hq
    injection hq with hq
    subst hq;have hm:=List.mem_of_getElem? hqi;have hQ:=ih (by omega) qs0 h0;obtain⟨_,hpr,_⟩:=EK h;have hck:=(EY hpr i q hqi).2;rw[List.nil_append]at hck;have hf:=EX h hm;have hcn:=Ag _ _ hf.1 _ hck;obtain⟨hr,hs⟩:=Bv (E:=200+600 *i) (F:=200+600 *((i+1:Nat):Int)) (B:=B) (by omega) (by omega) hQ (fun p' hp'=>(EX h (List.mem_of_mem_take hp')).2.2) hB1 hB q.body hf.1 (hby q hm) (hsz q hm) q.params hck 2000 (by omega) (by omega) hb;have hroom:=(Wp qs0 q.body 2000 (by omega)).2.2 hb;rw[ht];refine XH.snoc (hQ.mono (by omega)) ⟨rfl,rfl,hr.1,hr.2.1,?_,fun z hz=>hcn.1 z (hr.2.2.1 z hz),hr.2.2.2.1,hr.2.2.2.2⟩;show Jz (QM qs0 q.body 2000).1.1≤2000;omega
   ·cases hq
theorem ME{p:Pg}{B:Nat}(hn:p.preds.length≤30)(hby: ∀q∈p.preds,V3 q.body)(hB1:1≤B)(hB:2000 *(B+1)≤500000)(hsz: ∀q∈p.preds,Jz q.body≤B)(hszm:Jz p.main≤B):qH 20000 B p:=by
 intro h;obtain⟨_,hpr,hmn⟩:=EK h;refine⟨fun i q qs hi hq y hy=>?_,fun qs hq y hy=>?_⟩
 ·have hlt:=(List.getElem?_eq_some_iff.1 hi).1;have hm:=List.mem_of_getElem? hi;have hQ:=(OG h hby hB1 hB hsz i (by omega) qs hq).mono (show(200+600 *(i:Int))≤20000 by omega);have hck:=(EY hpr i q hi).2;rw[List.nil_append]at hck;exact NQ (by omega) (by omega) hQ (fun p' hp'=>by have:=(EX h (List.mem_of_mem_take hp')).2.1;omega) hB1 hB ((Ag _ _ (EX h hm).1 _ hck).2.2 y hy) (Nat.le_trans (Lf _ hy).1 (hsz q hm))
 ·have hq':ZY [] (p.preds.take p.preds.length)=some qs:=by rw[List.take_length];exact hq
  have hQ:=(OG h hby hB1 hB hsz _ (Nat.le_refl _) qs hq').mono (show(200+600 *(p.preds.length:Int))≤20000 by omega);rw[List.take_length]at hQ;exact NQ (by omega) (by omega) hQ (fun p' hp'=>by have:=(EX h hp').2.1;omega) hB1 hB ((Ag _ _ (O6 h) _ hmn).2.2 y hy) (Nat.le_trans (Lf _ hy).1 hszm)
theorem OF{p:Pg}{B:Nat}(hn:p.preds.length≤30)(hby: ∀q∈p.preds,V3 q.body)(hbm:V3 p.main)(hB1:1≤B)(hB:2000 *(B+1)≤500000)(hsz: ∀q∈p.preds,Jz q.body≤B)(hszm:Jz p.main≤B)(he:(Uv p).2=0):
  (∀z∈Qx (Uv p).1 [],z∈Qx p.main [])∧V3 (Uv p).1∧Jz (Uv p).1≤2000∧Um (Uv p).1=true∧QW p.main=true:=by
 by_cases h:(JK p).2=0
 ·cases hq:ZY [] p.preds with
  |none=>rw[FL h hq]at he;exact absurd he (show¬(8:Int)=0 by decide)
  |some qs=>
   rw[EE h hq]at he ⊢
   split at he
   ·rename_i hb;rw[if_pos hb]
    have hq':ZY [] (p.preds.take p.preds.length)=some qs:=by rw[List.take_length];exact hq
    have hQ:=OG h hby hB1 hB hsz _ (Nat.le_refl _) qs hq';rw[List.take_length]at hQ;obtain⟨hr,hs⟩:=Bv (E:=200+600 *(p.preds.length:Int)) (F:=20000) (B:=B) (by omega) (by omega) hQ (fun p' hp'=>(EX h hp').2.2) hB1 hB p.main (O6 h) hbm hszm p.decls (EK h).2.2 2000 (by omega) (by omega) hb;have hroom:=(Wp qs p.main 2000 (by omega)).2.2 hb;exact⟨hr.2.2.1,hr.2.1,by show Jz (QM qs p.main 2000).1.1≤2000;omega,hr.2.2.2.2,O6 h⟩
   ·exact absurd he (show¬(8:Int)=0 by decide)
 ·rw[KR h]at he;exact absurd he h
end Go.Proofs.YtadjjadimlkkgaaGreatDoor
end
