/-
  Terms put for names, plainly: which names are there then, how great numbers and names are.
-/
import Derived.Test.YtaomhhkflohhgaaGreatDoorMgPul
namespace Go.Proofs.YtaomhhkflohhgaaGreatDoor
open Go Go.RowKit
set_option linter.unusedVariables false
set_option linter.unusedSectionVars false
set_option linter.unusedSimpArgs false
variable {C a n:Int} {l:List Nd} {nm op:List Nat}

mutual
def XB : Nd → List (List Nat) → List (List Nat)
  | .mk op name _ _ kids, b => if op = [105, 115] then (if F4 name b then [] else [name])
    else if op = [118, 97, 114] then []
    else if op = [101, 120] ∨ op = [97, 108, 108] then Mr kids (b ++ [name]) else Mr kids b
def Mr : List Nd → List (List Nat) → List (List Nat)
  | [], _ => []
  | k :: l, b => XB k b ++ Mr l b
end
theorem Zk{z:List Nat}{b:List (List Nat)}: ∀{l:List Nd},z∈Mr l b↔ ∃k∈l,z∈XB k b:=by
 intro l
 induction l with
 |nil=>simp[Mr]
 |cons k l ih=>
  rw[Mr,List.mem_append,ih];simp
theorem IZ(x:Nd): ∀(b:List (List Nat)) (z:List Nat),z∈XB x b↔z∈XB x []∧ ¬z∈b:=by
 refine Uz (M:=fun x=> ∀(b:List (List Nat)) (z:List Nat),z∈XB x b↔z∈XB x []∧ ¬z∈b) (fun op name n a kids ih b z=>?_) x
 have hkids: ∀c z,z∈Mr kids c↔z∈Mr kids []∧ ¬z∈c:=fun c z=>by
  rw[Zk,Zk];constructor
  ·rintro⟨k,hk,h⟩
   have:=(ih k hk c z).1 h;exact⟨⟨k,hk,this.1⟩,this.2⟩
  ·rintro⟨⟨k,hk,h⟩,h2⟩
   exact⟨k,hk,(ih k hk c z).2 ⟨h,h2⟩⟩
 rw[XB,XB]
 split
 ·by_cases hb:F4 name b=true
  ·rw[if_pos hb];have:=Ka.1 hb;simp[F4]
   rintro rfl
   exact this
  ·rw[if_neg hb];have: ¬name∈b:=fun h=>hb (Ka.2 h);simp[F4]
   rintro rfl
   exact this
 ·split
  ·simp
  ·split
   ·rw[hkids,hkids ([]++[name])];simp only[List.mem_append,List.mem_singleton,List.nil_append,not_or];constructor
    ·rintro⟨h1,h2,h3⟩;exact⟨⟨h1,h3⟩,h2⟩
    ·rintro⟨⟨h1,h3⟩,h2⟩;exact⟨h1,h2,h3⟩
   ·exact hkids b z
theorem KV(x:Nd): ∀(b:List (List Nat)) (z:List Nat),z∈XB x b→z∈QE x b:=by
 refine Uz (M:=fun x=> ∀(b:List (List Nat)) (z:List Nat),z∈XB x b→z∈QE x b) (fun op name n a kids ih b z h=>?_) x
 have hkids: ∀c z,z∈Mr kids c→z∈Yq kids c:=fun c z h=>by
  obtain⟨k,hk,h⟩:=Zk.1 h;exact JV.2 ⟨k,hk,ih k hk c z h⟩
 rw[XB]at h;rw[QE]
 split at h
 ·rename_i ho;rw[if_pos (.inr ho)];exact h
 ·split at h
  ·cases h
  ·rename_i h1 h2;rw[if_neg (by rintro(h|h);exact h2 h;exact h1 h)]
   split at h
   ·rename_i h3;rw[if_pos h3];exact hkids _ _ h
   ·rename_i h3;rw[if_neg h3];exact hkids _ _ h
def Src(ns:List (List Nat))(ts:List Nd)(y z:List Nat):Prop:=(Jt ns ts y=none∧z=y)∨ ∃t,Jt ns ts y=some t∧z∈QE t []
def vF(ns:List (List Nat))(ts:List Nd)(y z:List Nat):Prop:=(Jt ns ts y=none∧z=y)∨ ∃t,Jt ns ts y=some t∧t.op=[118,97,114]∧z=t.name
theorem GI{t:Nd}(h:t.op=[118,97,114]):QE t []=[t.name]:=by
 obtain⟨o,s,z,a,l⟩:=t;have h:o=[118,97,114]:=h;subst h;rw[QE,if_pos (.inl rfl),if_neg (by simp[F4])];rfl
theorem CT(t:Nd)(a:Int)(b:List (List Nat)):QE (t.setAt a) b=QE t b:=by obtain⟨o,s,z,a',l⟩:=t;show QE (.mk ..) b=_;rw[QE,QE]
theorem T4(t:Nd)(a:Int)(b:List (List Nat)):XB (t.setAt a) b=XB t b:=by obtain⟨o,s,z,a',l⟩:=t;show XB (.mk ..) b=_;rw[XB,XB]
theorem Eu{cnt:List Nat→Int}{k:Nd}{ns:List (List Nat)}{ts:List Nd}(hB:Ac k): ∃nm' ns2 ts2 us,AF cnt nm [k] ns ts=⟨nm',ns2,ts2⟩∧(∀y∈QE k [],y≠nm→Jt ns2 ts2 y=Jt ns ts y)∧
  (Jt ns2 ts2 nm=none∧nm'=nm∨Jt ns2 ts2 nm=some (.mk [118,97,114] nm' 0 0 []))∧(∀t∈ts2,t∈ts∨t=.mk [118,97,114] nm' 0 0 [])∧(nm'=nm∨nm'=ZP cnt nm (Ud k++us))∧(∀B,(∀t∈ts,Uj t≤B)→us.length≤(Ud k).length *B):=by
 have hfk: ∀z,z∈AK [k]↔z∈QE k []:=fun z=>TX hB z;obtain⟨pl,hpl⟩: ∃pl,Xw ns ts nm (AK [k])=pl:=⟨_,rfl⟩
 have hlook: ∀y,Jt (pl.map Prod.fst) (pl.map Prod.snd) y=if y∈AK [k]∧y≠nm then Jt ns ts y else none:=fun y=>by rw[WJ,←hpl,Mb]
 have hplt: ∀p∈pl,p.2∈ts:=fun p hp=>by rw[←hpl]at hp;exact YU (GA hp).2.2
 have hus: ∀B,(∀t∈ts,Uj t≤B)→((pl.map fun p=>Ud p.2).flatten).length≤(Ud k).length *B:=fun B hb=>by
  have h1:pl.length≤(Ud k).length:=by rw[←hpl];exact Dn _ _ _ _
  have h2: ∀l:List (List Nat×Nd),(∀p∈l,p.2∈ts)→((l.map fun p=>Ud p.2).flatten).length≤l.length *B:=by
   intro l
   induction l with
   |nil=>intro _;simp
   |cons p l ih=>
    intro h;rw[List.map_cons,List.flatten_cons,List.length_append,List.length_cons,Nat.succ_mul];have:=ih fun q hq=>h q (List.mem_cons_of_mem _ hq);have:=Nat.le_trans (XN p.2) (hb _ (h p (List.mem_cons_self ..)));omega
  exact Nat.le_trans (h2 pl hplt) (Nat.mul_le_mul_right _ h1)
 cases hc:pl.any (fun p=>F4 nm (Ud p.2))with
 |false=>
  have hbx:=Lc (cnt:=cnt) hpl hc;generalize (pl.map fun p=>Ud p.2).flatten=us at hus;refine⟨nm,pl.map Prod.fst,pl.map Prod.snd,us,hbx,?_,?_,?_,.inl rfl,hus⟩
  ·intro y h1 h2;rw[hlook,if_pos ⟨(hfk y).2 h1,h2⟩]
  ·left;refine⟨?_,rfl⟩;rw[hlook,if_neg (fun h=>h.2 rfl)]
  ·intro t ht;obtain⟨p,hp,rfl⟩:=List.mem_map.1 ht;exact .inl (hplt p hp)
 |true=>
  have hbx:=I0 (cnt:=cnt) hpl hc;have hfr:AK [k]=Ud k:=rfl;rw[hfr]at hbx;generalize (pl.map fun p=>Ud p.2).flatten=us at hus hbx;generalize hfn:ZP cnt nm (Ud k++us)=nm' at hbx
  have e1:pl.map Prod.fst++[nm]=(pl++[(nm,Nd.mk [118,97,114] nm' 0 0 [])]).map Prod.fst:=by simp
  have e2:pl.map Prod.snd++[Nd.mk [118,97,114] nm' 0 0 []]=(pl++[(nm,Nd.mk [118,97,114] nm' 0 0 [])]).map Prod.snd:=by simp
  rw[e1,e2]at hbx;refine⟨nm',_,_,us,hbx,?_,.inr ?_,?_,.inr hfn.symm,hus⟩
  ·intro y h1 h2;rw[WJ,List.find?_append];have h3:=hlook y;rw[WJ,if_pos ⟨(hfk y).2 h1,h2⟩]at h3;rw[←h3]
   cases(pl.find? fun p=>decide (p.1=y))with
   |some p=>rfl
   |none=>
    have h5: ¬nm=y:=fun e=>h2 e.symm;simp[h5]
  ·rw[WJ,List.find?_append];have h3:=hlook nm;rw[WJ,if_neg (fun h=>h.2 rfl)]at h3;have h4:(pl.find? fun p=>decide (p.1=nm))=none:=Option.map_eq_none_iff.1 h3;rw[h4];simp
  ·intro t ht;rw[←e2]at ht;rcases List.mem_append.1 ht with ht|ht
   ·obtain⟨p,hp,rfl⟩:=List.mem_map.1 ht;exact .inl (hplt p hp)
   ·exact .inr (List.mem_singleton.1 ht)
theorem Mk(hv: ¬(op=[118,97,114]∨op=[105,115]))(hb: ¬(op=[101,120]∨op=[97,108,108])):(∀z∈QE (Xx op nm n a l) [],z∈Yq l [])∧ ∀z∈XB (Xx op nm n a l) [],z∈Mr l []:=by
 have base:(∀z∈QE (.mk op nm n a l) [],z∈Yq l [])∧ ∀z∈XB (.mk op nm n a l) [],z∈Mr l []:=by
  refine⟨fun z h=>?_,fun z h=>?_⟩
  ·rw[QE,if_neg hv,if_neg hb]at h;exact h
  ·rw[XB,if_neg (fun e=>hv (.inr e)),if_neg (fun e=>hv (.inl e)),if_neg hb]at h;exact h
 unfold Xx
 split
 ·rename_i hp
  split
  ·rename_i k
   split
   ·refine⟨fun z h=>?_,fun z h=>?_⟩
    ·rw[QE,if_neg QT,if_neg QT,Yq]at h;cases h
    ·rw[XB,if_neg QT,if_neg QT,if_neg QT,Mr]at h;cases h
   ·split
    ·rename_i hk;obtain⟨o,s,z',a',l'⟩:=k;have hk:o=[112,108,117,115]:=hk;subst hk;refine⟨fun z h=>?_,fun z h=>?_⟩
     ·rw[QE,if_neg hv,if_neg hb]at h;refine JV.2 ⟨_,List.mem_cons_self ..,?_⟩;rw[QE,if_neg QT,if_neg QT];exact h
     ·rw[XB,if_neg (fun e=>hv (.inr e)),if_neg (fun e=>hv (.inl e)),if_neg hb]at h;refine Zk.2 ⟨_,List.mem_cons_self ..,?_⟩;rw[XB,if_neg QT,if_neg QT,if_neg QT];exact h
    ·exact base
  ·exact base
 ·exact base
theorem TD(cnt:List Nat→Int)(x:Nd):okB C x=true→Ac x→ ∀(ns:List (List Nat)) (ts:List Nd),(∀t∈ts,XB t []=[])→(∀y∈XB x [],∀t,Jt ns ts y=some t→t.op=[118,97,114])→
  (∀z∈QE (Yo cnt x ns ts) [],∃y∈QE x [],Src ns ts y z)∧ ∀z∈XB (Yo cnt x ns ts) [],∃y∈XB x [],vF ns ts y z:=by
 refine Uz (M:=fun x=>okB C x=true→Ac x→ ∀(ns:List (List Nat)) (ts:List Nd),(∀t∈ts,XB t []=[])→(∀y∈XB x [],∀t,Jt ns ts y=some t→t.op=[118,97,114])→
  (∀z∈QE (Yo cnt x ns ts) [],∃y∈QE x [],Src ns ts y z)∧ ∀z∈XB (Yo cnt x ns ts) [],∃y∈XB x [],vF ns ts y z) (fun op nm n a kids ih hok hB ns ts hts his=>?_) x
 obtain⟨_,_,_,hone,hokk,_⟩:=Zo hok;rw[Yo]
 by_cases hv:op=[118,97,114]
 ·subst hv
  have hn:QE (.mk [118,97,114] nm n a kids) []=[nm]:=by rw[QE,if_pos (.inl rfl),if_neg (by simp[F4])]
  cases hlk:Jt ns ts nm with
  |some t=>
   rw[if_pos ⟨rfl,rfl⟩];refine⟨fun z hz=>⟨nm,by rw[hn];simp,.inr ⟨t,hlk,?_⟩⟩,fun z hz=>?_⟩
   ·have hz:z∈QE (t.setAt a) []:=hz
    rwa [CT]at hz
   ·have hz:z∈XB (t.setAt a) []:=hz;rw[T4,hts t (YU hlk)]at hz;cases hz
  |none=>
   rw[if_neg Q3,if_neg Q3,if_neg QT]
   have hj:Xx [118,97,114] nm n a (OI cnt kids ns ts)=.mk [118,97,114] nm n a (OI cnt kids ns ts):=by unfold Xx;rw[if_neg QT]
   rw[hj];refine⟨fun z hz=>?_,fun z hz=>?_⟩
   ·rw[QE,if_pos (.inl rfl),if_neg (by simp[F4]),List.mem_singleton]at hz;exact⟨nm,by rw[hn];simp,.inl ⟨hlk,hz⟩⟩
   ·rw[XB,if_neg QT,if_pos rfl]at hz;cases hz
 by_cases hs:op=[105,115]
 ·subst hs
  have hn:QE (.mk [105,115] nm n a kids) []=[nm]:=by rw[QE,if_pos (.inr rfl),if_neg (by simp[F4])]
  have hi:XB (.mk [105,115] nm n a kids) []=[nm]:=by rw[XB,if_pos rfl,if_neg (by simp[F4])]
  rw[if_neg Q3]
  cases hlk:Jt ns ts nm with
  |some t=>
   have ht:=his nm (by rw[hi];simp) t hlk;rw[if_pos ⟨rfl,by show decide (t.op=_)=true;rw[ht];rfl⟩];refine⟨fun z hz=>?_,fun z hz=>?_⟩
   ·have hz:z∈QE (.mk [105,115] t.name n a kids) []:=hz;rw[QE,if_pos (.inr rfl),if_neg (by simp[F4]),List.mem_singleton]at hz;exact⟨nm,by rw[hn];simp,.inr ⟨t,hlk,by rw[GI ht,hz];simp⟩⟩
   ·have hz:z∈XB (.mk [105,115] t.name n a kids) []:=hz;rw[XB,if_pos rfl,if_neg (by simp[F4]),List.mem_singleton]at hz;exact⟨nm,by rw[hi];simp,.inr ⟨t,hlk,ht,hz⟩⟩
  |none=>
   rw[if_neg Q3,if_neg QT]
   have hj:Xx [105,115] nm n a (OI cnt kids ns ts)=.mk [105,115] nm n a (OI cnt kids ns ts):=by unfold Xx;rw[if_neg QT]
   rw[hj];refine⟨fun z hz=>?_,fun z hz=>?_⟩
   ·rw[QE,if_pos (.inr rfl),if_neg (by simp[F4]),List.mem_singleton]at hz;exact⟨nm,by rw[hn];simp,.inl ⟨hlk,hz⟩⟩
   ·rw[XB,if_pos rfl,if_neg (by simp[F4]),List.mem_singleton]at hz;exact⟨nm,by rw[hi];simp,.inl ⟨hlk,hz⟩⟩
 have hvs: ¬(op=[118,97,114]∨op=[105,115]):=by rintro(h|h);exact hv h;exact hs h
 rw[if_neg (fun e=>hv e.1),if_neg (fun e=>hs e.1)]
 by_cases hb:op=[101,120]∨op=[97,108,108]
 ·rw[if_pos hb];have hl:=hone hb
  match kids,hl,ih,hok,hB,his,hokk with
  |[k],_,ih,hok,hB,his,hokk=>
   have hkm:k∈[k]:=List.mem_cons_self ..;have hBk:=hB.GP hkm
   have hnx: ∀y,y∈QE (.mk op nm n a [k]) []↔y∈QE k []∧y≠nm:=fun y=>by
    rw[QE,if_neg hvs,if_pos hb,JV];constructor
    ·rintro⟨k',hk',hy⟩
     rw[List.mem_singleton]at hk';subst hk';have:=(Vr _ _ _).1 hy;exact⟨this.1,fun e=>this.2 (by rw[e];simp)⟩
    ·rintro⟨h1,h2⟩
     exact⟨k,hkm,(Vr _ _ _).2 ⟨h1,by simpa using h2⟩⟩
   have hix: ∀y,y∈XB (.mk op nm n a [k]) []↔y∈XB k []∧y≠nm:=fun y=>by
    rw[XB,if_neg hs,if_neg hv,if_pos hb,Zk];constructor
    ·rintro⟨k',hk',hy⟩
     rw[List.mem_singleton]at hk';subst hk';have:=(IZ _ _ _).1 hy;exact⟨this.1,fun e=>this.2 (by rw[e];simp)⟩
    ·rintro⟨h1,h2⟩
     exact⟨k,hkm,(IZ _ _ _).2 ⟨h1,by simpa using h2⟩⟩
   obtain⟨nm',ns2,ts2,us,hbx,hlk,hnm,htm,_,_⟩:=Eu (cnt:=cnt) (nm:=nm) (ns:=ns) (ts:=ts) hBk;rw[hbx,YR]
   have hts2: ∀t∈ts2,XB t []=[]:=fun t ht=>by
    rcases htm t ht with h|rfl
    ·exact hts t h
    ·rw[XB,if_neg QT,if_pos rfl]
   have his2: ∀y∈XB k [],∀t,Jt ns2 ts2 y=some t→t.op=[118,97,114]:=fun y hy t ht=>by
    by_cases e:y=nm
    ·subst e;rcases hnm with⟨h,_⟩|h
     ·rw[h]at ht;cases ht
     ·rw[h]at ht;injection ht with ht;subst ht;rfl
    ·rw[hlk y (KV k [] y hy) e]at ht;exact his y ((hix y).2 ⟨hy,e⟩) t ht
   obtain⟨i1,i2⟩:=ih k hkm (hokk k hkm) hBk ns2 ts2 hts2 his2;refine⟨fun z hz=>?_,fun z hz=>?_⟩
   ·have hz:z∈QE (.mk op nm' n a [Yo cnt k ns2 ts2]) []:=hz;rw[QE,if_neg hvs,if_pos hb,JV]at hz;obtain⟨k',hk',hz⟩:=hz;rw[List.mem_singleton]at hk';subst hk';obtain⟨hz1,hz2⟩:=(Vr _ _ _).1 hz;obtain⟨y,hy,hsrc⟩:=i1 z hz1
    have hne:y≠nm:=by
     rintro rfl
     rcases hnm with⟨h,e⟩|h
     ·rcases hsrc with⟨_,e2⟩|⟨t,h2,_⟩
      ·exact hz2 (by rw[e,e2];simp)
      ·rw[h]at h2;cases h2
     ·rcases hsrc with⟨h2,_⟩|⟨t,h2,h3⟩
      ·rw[h]at h2;cases h2
      ·rw[h]at h2
       injection h2 with h2
       subst h2;rw[GI rfl,List.mem_singleton]at h3;exact hz2 (by rw[h3];simp[Nd.name])
    refine⟨y,(hnx y).2 ⟨hy,hne⟩,?_⟩;unfold Src at hsrc ⊢
    rwa [hlk y hy hne]at hsrc
   ·have hz:z∈XB (.mk op nm' n a [Yo cnt k ns2 ts2]) []:=hz;rw[XB,if_neg hs,if_neg hv,if_pos hb,Zk]at hz;obtain⟨k',hk',hz⟩:=hz;rw[List.mem_singleton]at hk';subst hk';obtain⟨hz1,hz2⟩:=(IZ _ _ _).1 hz;obtain⟨y,hy,hsrc⟩:=i2 z hz1
    have hne:y≠nm:=by
     rintro rfl
     rcases hnm with⟨h,e⟩|h
     ·rcases hsrc with⟨_,e2⟩|⟨t,h2,_⟩
      ·exact hz2 (by rw[e,e2];simp)
      ·rw[h]at h2;cases h2
     ·rcases hsrc with⟨h2,_⟩|⟨t,h2,_,h3⟩
      ·rw[h]at h2;cases h2
      ·rw[h]at h2
       injection h2 with h2
       subst h2;exact hz2 (by rw[h3];simp[Nd.name])
    refine⟨y,(hix y).2 ⟨hy,hne⟩,?_⟩;unfold vF at hsrc ⊢
    rwa [hlk y (KV k [] y hy) hne]at hsrc
 ·rw[if_neg hb,YR];obtain⟨j1,j2⟩:=Mk (nm:=nm) (n:=n) (a:=a) (l:=kids.map fun k=>Yo cnt k ns ts) hvs hb
  have hnx: ∀k∈kids,∀y∈QE k [],y∈QE (.mk op nm n a kids) []:=fun k hk y hy=>by
   rw[QE,if_neg hvs,if_neg hb];exact JV.2 ⟨k,hk,hy⟩
  have hix: ∀k∈kids,∀y∈XB k [],y∈XB (.mk op nm n a kids) []:=fun k hk y hy=>by
   rw[XB,if_neg hs,if_neg hv,if_neg hb];exact Zk.2 ⟨k,hk,hy⟩
  refine⟨fun z hz=>?_,fun z hz=>?_⟩
  ·obtain⟨k',hk',hz⟩:=JV.1 (j1 z hz);obtain⟨k,hk,rfl⟩:=List.mem_map.1 hk';obtain⟨y,hy,h⟩:=(ih k hk (hokk k hk) (hB.GP hk) ns ts hts (fun y hy=>his y (hix k hk y hy))).1 z hz;exact⟨y,hnx k hk y hy,h⟩
  ·obtain⟨k',hk',hz⟩:=Zk.1 (j2 z hz);obtain⟨k,hk,rfl⟩:=List.mem_map.1 hk';obtain⟨y,hy,h⟩:=(ih k hk (hokk k hk) (hB.GP hk) ns ts hts (fun y hy=>his y (hix k hk y hy))).2 z hz;exact⟨y,hix k hk y hy,h⟩
theorem Nt(t:Nd)(a:Int):Yp (t.setAt a)=Yp t:=by
 obtain⟨o,s,z,a',l⟩:=t;show Yp (.mk o s z a l)=_
 match l with
 |[]=>rw[UE (.inr Q3),UE (.inr Q3)]
 |[k]=>rw[Zp,Zp]
 |_::_::_=>rw[UE (.inr Q3),UE (.inr Q3)]
theorem Tz{t:Nd}(h:okB C t=true)(a:Int):okB C (t.setAt a)=true:=by
 have hn:=Nt t a;obtain⟨o,s,z,a',l⟩:=t;obtain⟨h1,h2,_,h4,h5,h6⟩:=Zo h;exact Ar h1 h2 (by show Yp (Nd.setAt a (.mk o s z a' l))≤C;rw[hn];exact h6) h4 h5
theorem Fc(used:List (List Nat)): ∀(f:Nat) (s:List Nat),(Yz used f s).length≤s.length+f
 |0,s=>Nat.le_refl _
 |f+1,s=>by
  rw[Yz]
  split
  ·have:=Fc used f (s++[39]);rw[List.length_append]at this;have e:([39]:List Nat).length=1:=rfl;omega
  ·omega
theorem Rw(cnt:List Nat→Int)(s:List Nat)(used:List (List Nat)):(ZP cnt s used).length≤s.length+used.length+2:=by
 unfold ZP
 split
 ·have:=Fc used (used.length+1) [118];have e:([118]:List Nat).length=1:=rfl;omega
 ·have:=Fc used (used.length+1) s;omega
theorem GF(hok: ∀k∈l,okB C k=true):Yp (Xx op nm n a l)≤Yp (.mk op nm n a l):=by
 unfold Xx
 split
 ·rename_i hp
  split
  ·rename_i k;have hk:=hok k (List.mem_cons_self ..);have hg:=FU k hk;rw[Zp,if_pos hp];obtain⟨o,s,z,a',l'⟩:=k;have hg:0≤z∧z≤Yp (.mk o s z a' l'):=hg
   split
   ·rw[UE (.inr Q3)];show n+z≤_;omega
   ·split
    ·rename_i hk0;have hk2:o=[112,108,117,115]:=hk0;clear hk0;show Yp (.mk op nm (n+z) a l')≤n+Yp (.mk o s z a' l')
     match l' with
     |[]=>rw[UE (.inr Q3),UE (.inr Q3)];omega
     |[k]=>rw[Zp,Zp,if_pos hp,if_pos hk2];omega
     |_::_::_=>rw[UE (.inr Q3),UE (.inr Q3)];omega
    ·rw[Zp,if_pos hp];exact Int.le_refl _
  ·exact Int.le_refl _
 ·exact Int.le_refl _
theorem jx(hl:((nm.length:Nat):Int)≤1000 *C)(hn:0≤n)(hC:Yp (.mk op nm n a l)≤C)(h0:0≤C)(hb:(op=[101,120]∨op=[97,108,108])→l.length=1)(hok: ∀k∈l,okB C k=true):okB C (Xx op nm n a l)=true:=by
 have hj:=GF (op:=op) (nm:=nm) (n:=n) (a:=a) hok;have base:okB C (.mk op nm n a l)=true:=Ar hl hn hC hb hok;revert hj;unfold Xx
 split
 ·rename_i hp
  split
  ·rename_i k;have hk:=hok k (List.mem_cons_self ..);obtain⟨o,s,z,a',l'⟩:=k;obtain⟨_,hz,_,_,hkk,_⟩:=Zo hk
   split
   ·intro hj
    exact Ar (by simp;omega) (by show 0≤n+z;omega) Qh (by intro h;rcases h with h|h<;>cases h) (by intro k hk;cases hk)
   ·split
    ·intro hj
     exact Ar hl (by show 0≤n+z;omega) Qh (by intro h;subst hp;rcases h with h|h<;>cases h) hkk
    ·intro _;exact base
  ·intro _;exact base
 ·intro _;exact base
theorem zf{D E:Int}{B:Nat}(h1:C+D≤E)(h2:C+600≤E)(hC:0≤C)(hD:0≤D)(hB1:1≤B)(x:Nd):okB C x=true→Ac x→Uj x *(B+1)≤500000→ ∀(ns:List (List Nat)) (ts:List Nd),(∀t∈ts,okB E t=true∧Yp t≤D∧Uj t≤B)→
  okB E (Yo Zm x ns ts)=true∧Yp (Yo Zm x ns ts)≤Yp x+D:=by
 refine Uz (M:=fun x=>okB C x=true→Ac x→Uj x *(B+1)≤500000→ ∀(ns:List (List Nat)) (ts:List Nd),(∀t∈ts,okB E t=true∧Yp t≤D∧Uj t≤B)→
  okB E (Yo Zm x ns ts)=true∧Yp (Yo Zm x ns ts)≤Yp x+D) (fun op nm n a kids ih hok hB hsz ns ts hts=>?_) x
 obtain⟨hl,hn0,hnC,hone,hokk,hcC⟩:=Zo hok;have hge:=FU _ hok;have hge:0≤n∧n≤Yp (.mk op nm n a kids):=hge;have hszk: ∀k∈kids,Uj k *(B+1)≤500000:=fun k hk=>Nat.le_trans (Nat.mul_le_mul_right _ (Nat.le_trans (Z4 hk) (by rw[Uj];omega))) hsz
 have hlE:((nm.length:Nat):Int)≤1000 *E:=by omega
 rw[Yo]
 split
 ·rename_i h;obtain⟨t,h3⟩:=Option.isSome_iff_exists.1 h.2;rw[h3];have ht:=hts t (YU h3);exact⟨Tz ht.1 a,by show Yp (t.setAt a)≤_;rw[Nt];omega⟩
 ·split
  ·rename_i h
   cases h3:Jt ns ts nm with
   |none=>rw[h3]at h;exact absurd h.2 Q3
   |some t=>
    have ht:=hts t (YU h3);have hs:op=[105,115]:=h.1;have hnc:Yp (.mk op t.name n a kids)=n:=UE (.inl (by rw[hs];decide))
    have htl:((t.name.length:Nat):Int)≤1000 *E:=by
     obtain⟨o,s,z,a',l⟩:=t;exact(Zo ht.1).1
    exact⟨Ar htl hn0 (by rw[hnc];omega) (by intro hb;rw[hs]at hb;rcases hb with hb|hb<;>cases hb) (fun k hk=>IX Qh k (hokk k hk)),by show Yp (.mk op t.name n a kids)≤_;rw[hnc];omega⟩
  ·split
   ·rename_i hb;have hl1:=hone hb
    match kids,hl1,ih,hokk,hB,hszk,hge with
    |[k],_,ih,hokk,hB,hszk,hge=>
     have hkm:k∈[k]:=List.mem_cons_self ..;obtain⟨nm',ns2,ts2,us,hbx,_,_,htm,hnm,hus⟩:=Eu (cnt:=Zm) (nm:=nm) (ns:=ns) (ts:=ts) (hB.GP hkm);have hul:=hus B fun t ht=>(hts t ht).2.2;have hfk:=XN k
     have hnl:((nm'.length:Nat):Int)≤1000 *E:=by
      rcases hnm with rfl|rfl
      ·exact hlE
      ·have h3:=Rw Zm nm (Ud k++us);rw[List.length_append]at h3;have h4:(Ud k).length *B≤Uj k *B:=Nat.mul_le_mul_right _ hfk;have h5:Uj k *(B+1)=Uj k *B+Uj k:=Nat.mul_succ _ _;have h6:=hszk k hkm;omega
     rw[hbx,YR]
     have hts2: ∀t∈ts2,okB E t=true∧Yp t≤D∧Uj t≤B:=fun t ht=>by
      rcases htm t ht with h|rfl
      ·exact hts t h
      ·refine⟨Ar hnl Qh (by rw[UE (.inl QT)];omega) (by intro h;rcases h with h|h<;>cases h) (by intro k hk;cases hk),by rw[UE (.inl QT)];exact hD,by rw[Uj,FN];omega⟩
     have hp: ¬op=[112,108,117,115]:=by rcases hb with rfl|rfl<;>decide
     have i1:=(ih k hkm (hokk k hkm) (hB.GP hkm) (hszk k hkm) ns2 ts2 hts2).1
     refine⟨Ar hnl hn0 (by rw[UE (.inl hp)];omega) (fun _=>rfl) (fun k' hk'=>by
      have hk':k'∈[Yo Zm k ns2 ts2]:=hk'
      rw[List.mem_singleton]at hk';subst hk';exact i1),by rw[UE (.inl hp)];omega⟩
   ·rename_i hb;rw[YR]
    have hokm: ∀k'∈kids.map (fun k=>Yo Zm k ns ts),okB E k'=true:=fun k' hk'=>by
     obtain⟨k,hk,rfl⟩:=List.mem_map.1 hk';exact(ih k hk (hokk k hk) (hB.GP hk) (hszk k hk) ns ts hts).1
    have hnum:Yp (.mk op nm n a (kids.map fun k=>Yo Zm k ns ts))≤Yp (.mk op nm n a kids)+D:=by
     by_cases hp:op≠[112,108,117,115]∨kids.length≠1
     ·rw[UE (by rcases hp with h|h;exact .inl h;exact .inr (by rw[List.length_map];exact h))];omega
     ·match kids,ih,hokk,hB,hszk,hp with
      |[k],ih,hokk,hB,hszk,hp=>
       have hkm:k∈[k]:=List.mem_cons_self ..;have i2:=(ih k hkm (hokk k hkm) (hB.GP hkm) (hszk k hkm) ns ts hts).2;show Yp (.mk op nm n a [Yo Zm k ns ts])≤_;rw[Zp,Zp]
       split
       ·omega
       ·omega
      |[],_,_,_,_,hp=>exact absurd (.inr Q3) hp
      |_::_::_,_,_,_,_,hp=>exact absurd (.inr Q3) hp
    exact⟨jx hlE hn0 Qh Qh (fun h=>absurd h hb) hokm,Int.le_trans (GF hokm) hnum⟩
end Go.Proofs.YtaomhhkflohhgaaGreatDoor
