/-
  Terms put for names, plainly: which names are there then, how great numbers and names are.
-/
import Derived.Test.YtadjjadimlkkgaaGreatDoorMnPul
namespace Go.Proofs.YtadjjadimlkkgaaGreatDoor
open Go Go.RowKit
set_option linter.unusedVariables false
set_option linter.unusedSectionVars false
set_option linter.unusedSimpArgs false

mutual
def Zu : Nd → List (List Nat) → List (List Nat)
  | .mk op name _ _ kids, b => if op = [105, 115] then (if V1 name b then [] else [name])
    else if op = [118, 97, 114] then []
    else if op = [101, 120] ∨ op = [97, 108, 108] then Rz kids (b ++ [name]) else Rz kids b
def Rz : List Nd → List (List Nat) → List (List Nat)
  | [], _ => []
  | k :: l, b => Zu k b ++ Rz l b
end
theorem Yd{z:List Nat}{b:List (List Nat)}: ∀{l:List Nd},z∈Rz l b↔ ∃k∈l,z∈Zu k b:=by
 intro l
 induction l with
 |nil=>simp[Rz]
 |cons k l ih=>
  rw[Rz,List.mem_append,ih];simp
theorem F7(x:Nd): ∀(b:List (List Nat)) (z:List Nat),z∈Zu x b↔z∈Zu x []∧ ¬z∈b:=by
 refine J2 (M:=fun x=> ∀(b:List (List Nat)) (z:List Nat),z∈Zu x b↔z∈Zu x []∧ ¬z∈b) (fun op name n a kids ih b z=>?_) x
 have hkids: ∀c z,z∈Rz kids c↔z∈Rz kids []∧ ¬z∈c:=fun c z=>by
  rw[Yd,Yd];constructor
  ·rintro⟨k,hk,h⟩
   have:=(ih k hk c z).1 h;exact⟨⟨k,hk,this.1⟩,this.2⟩
  ·rintro⟨⟨k,hk,h⟩,h2⟩
   exact⟨k,hk,(ih k hk c z).2 ⟨h,h2⟩⟩
 rw[Zu,Zu]
 split
 ·by_cases hb:V1 name b=true
  ·rw[if_pos hb];have:=Ad.1 hb;simp[V1]
   rintro rfl
   exact this
  ·rw[if_neg hb];have: ¬name∈b:=fun h=>hb (Ad.2 h);simp[V1]
   rintro rfl
   exact this
 ·split
  ·simp
  ·split
   ·rw[hkids,hkids ([]++[name])];simp only[List.mem_append,List.mem_singleton,List.nil_append,not_or];constructor
    ·rintro⟨h1,h2,h3⟩;exact⟨⟨h1,h3⟩,h2⟩
    ·rintro⟨⟨h1,h3⟩,h2⟩;exact⟨h1,h2,h3⟩
   ·exact hkids b z
theorem Hw(x:Nd): ∀(b:List (List Nat)) (z:List Nat),z∈Zu x b→z∈Qx x b:=by
 refine J2 (M:=fun x=> ∀(b:List (List Nat)) (z:List Nat),z∈Zu x b→z∈Qx x b) (fun op name n a kids ih b z h=>?_) x
 have hkids: ∀c z,z∈Rz kids c→z∈Uu kids c:=fun c z h=>by
  obtain⟨k,hk,h⟩:=Yd.1 h;exact Jh.2 ⟨k,hk,ih k hk c z h⟩
 rw[Zu]at h;rw[Qx]
 split at h
 ·rename_i ho;rw[if_pos (.inr ho)];exact h
 ·split at h
  ·cases h
  ·rename_i h1 h2;rw[if_neg (by rintro(h|h);exact h2 h;exact h1 h)]
   split at h
   ·rename_i h3;rw[if_pos h3];exact hkids _ _ h
   ·rename_i h3;rw[if_neg h3];exact hkids _ _ h
def Src(ns:List (List Nat))(ts:List Nd)(y z:List Nat):Prop:=(QS ns ts y=none∧z=y)∨ ∃t,QS ns ts y=some t∧z∈Qx t []
def yZ(ns:List (List Nat))(ts:List Nd)(y z:List Nat):Prop:=(QS ns ts y=none∧z=y)∨ ∃t,QS ns ts y=some t∧t.op=[118,97,114]∧z=t.name
theorem Nt{t:Nd}(h:t.op=[118,97,114]):Qx t []=[t.name]:=by
 obtain⟨o,s,z,a,l⟩:=t;have h:o=[118,97,114]:=h;subst h;rw[Qx,if_pos (.inl rfl),if_neg (by simp[V1])];rfl
theorem G5(t:Nd)(a:Int)(b:List (List Nat)):Qx (t.setAt a) b=Qx t b:=by obtain⟨o,s,z,a',l⟩:=t;show Qx (.mk ..) b=_;rw[Qx,Qx]
theorem PK(t:Nd)(a:Int)(b:List (List Nat)):Zu (t.setAt a) b=Zu t b:=by obtain⟨o,s,z,a',l⟩:=t;show Zu (.mk ..) b=_;rw[Zu,Zu]
theorem VD{cnt:List Nat→Int}{nm:List Nat}{k:Nd}{ns:List (List Nat)}{ts:List Nd}(hB:V3 k): ∃nm' ns2 ts2 us,WX cnt nm [k] ns ts=⟨nm',ns2,ts2⟩∧(∀y∈Qx k [],y≠nm→QS ns2 ts2 y=QS ns ts y)∧
  (QS ns2 ts2 nm=none∧nm'=nm∨QS ns2 ts2 nm=some (.mk [118,97,114] nm' 0 0 []))∧(∀t∈ts2,t∈ts∨t=.mk [118,97,114] nm' 0 0 [])∧(nm'=nm∨nm'=UX cnt nm (Jk k++us))∧(∀B,(∀t∈ts,Jz t≤B)→us.length≤(Jk k).length *B):=by
 have hfk: ∀z,z∈Ea [k]↔z∈Qx k []:=fun z=>Ri hB z;obtain⟨pl,hpl⟩: ∃pl,YZ ns ts nm (Ea [k])=pl:=⟨_,rfl⟩
 have hlook: ∀y,QS (pl.map Prod.fst) (pl.map Prod.snd) y=if y∈Ea [k]∧y≠nm then QS ns ts y else none:=fun y=>by rw[Vo,←hpl,Rl]
 have hplt: ∀p∈pl,p.2∈ts:=fun p hp=>by rw[←hpl]at hp;exact UT (Nl hp).2.2
 have hus: ∀B,(∀t∈ts,Jz t≤B)→((pl.map fun p=>Jk p.2).flatten).length≤(Jk k).length *B:=fun B hb=>by
  have h1:pl.length≤(Jk k).length:=by rw[←hpl];exact GP _ _ _ _
  have h2: ∀l:List (List Nat×Nd),(∀p∈l,p.2∈ts)→((l.map fun p=>Jk p.2).flatten).length≤l.length *B:=by
   intro l
   induction l with
   |nil=>intro _;simp
   |cons p l ih=>
    intro h;rw[List.map_cons,List.flatten_cons,List.length_append,List.length_cons,Nat.succ_mul];have:=ih fun q hq=>h q (List.mem_cons_of_mem _ hq);have:=Nat.le_trans (Z7 p.2) (hb _ (h p (List.mem_cons_self ..)));omega
  exact Nat.le_trans (h2 pl hplt) (Nat.mul_le_mul_right _ h1)
 cases hc:pl.any (fun p=>V1 nm (Jk p.2))with
 |false=>
  have hbx:=H9 (cnt:=cnt) hpl hc;generalize (pl.map fun p=>Jk p.2).flatten=us at hus;refine⟨nm,pl.map Prod.fst,pl.map Prod.snd,us,hbx,?_,?_,?_,.inl rfl,hus⟩
  ·intro y h1 h2;rw[hlook,if_pos ⟨(hfk y).2 h1,h2⟩]
  ·left;refine⟨?_,rfl⟩;rw[hlook,if_neg (fun h=>h.2 rfl)]
  ·intro t ht;obtain⟨p,hp,rfl⟩:=List.mem_map.1 ht;exact .inl (hplt p hp)
 |true=>
  have hbx:=Fh (cnt:=cnt) hpl hc;have hfr:Ea [k]=Jk k:=rfl;rw[hfr]at hbx;generalize (pl.map fun p=>Jk p.2).flatten=us at hus hbx;generalize hfn:UX cnt nm (Jk k++us)=nm' at hbx
  have e1:pl.map Prod.fst++[nm]=(pl++[(nm,Nd.mk [118,97,114] nm' 0 0 [])]).map Prod.fst:=by simp
  have e2:pl.map Prod.snd++[Nd.mk [118,97,114] nm' 0 0 []]=(pl++[(nm,Nd.mk [118,97,114] nm' 0 0 [])]).map Prod.snd:=by simp
  rw[e1,e2]at hbx;refine⟨nm',_,_,us,hbx,?_,.inr ?_,?_,.inr hfn.symm,hus⟩
  ·intro y h1 h2;rw[Vo,List.find?_append];have h3:=hlook y;rw[Vo,if_pos ⟨(hfk y).2 h1,h2⟩]at h3;rw[←h3]
   cases(pl.find? fun p=>decide (p.1=y))with
   |some p=>rfl
   |none=>
    have h5: ¬nm=y:=fun e=>h2 e.symm;simp[h5]
  ·rw[Vo,List.find?_append];have h3:=hlook nm;rw[Vo,if_neg (fun h=>h.2 rfl)]at h3;have h4:(pl.find? fun p=>decide (p.1=nm))=none:=Option.map_eq_none_iff.1 h3;rw[h4];simp
  ·intro t ht;rw[←e2]at ht;rcases List.mem_append.1 ht with ht|ht
   ·obtain⟨p,hp,rfl⟩:=List.mem_map.1 ht;exact .inl (hplt p hp)
   ·exact .inr (List.mem_singleton.1 ht)
theorem Ru{op nm:List Nat}{n a:Int}{l:List Nd}(hv: ¬(op=[118,97,114]∨op=[105,115]))(hb: ¬(op=[101,120]∨op=[97,108,108])):(∀z∈Qx (Zb op nm n a l) [],z∈Uu l [])∧ ∀z∈Zu (Zb op nm n a l) [],z∈Rz l []:=by
 have base:(∀z∈Qx (.mk op nm n a l) [],z∈Uu l [])∧ ∀z∈Zu (.mk op nm n a l) [],z∈Rz l []:=by
  refine⟨fun z h=>?_,fun z h=>?_⟩
  ·rw[Qx,if_neg hv,if_neg hb]at h;exact h
  ·rw[Zu,if_neg (fun e=>hv (.inr e)),if_neg (fun e=>hv (.inl e)),if_neg hb]at h;exact h
 unfold Zb
 split
 ·rename_i hp
  split
  ·rename_i k
   split
   ·refine⟨fun z h=>?_,fun z h=>?_⟩
    ·rw[Qx,if_neg (by decide),if_neg (by decide),Uu]at h;cases h
    ·rw[Zu,if_neg (by decide),if_neg (by decide),if_neg (by decide),Rz]at h;cases h
   ·split
    ·rename_i hk;obtain⟨o,s,z',a',l'⟩:=k;have hk:o=[112,108,117,115]:=hk;subst hk;refine⟨fun z h=>?_,fun z h=>?_⟩
     ·rw[Qx,if_neg hv,if_neg hb]at h;refine Jh.2 ⟨_,List.mem_cons_self ..,?_⟩;rw[Qx,if_neg (by decide),if_neg (by decide)];exact h
     ·rw[Zu,if_neg (fun e=>hv (.inr e)),if_neg (fun e=>hv (.inl e)),if_neg hb]at h;refine Yd.2 ⟨_,List.mem_cons_self ..,?_⟩;rw[Zu,if_neg (by decide),if_neg (by decide),if_neg (by decide)];exact h
    ·exact base
  ·exact base
 ·exact base
theorem PU{C:Int}(cnt:List Nat→Int)(x:Nd):okB C x=true→V3 x→ ∀(ns:List (List Nat)) (ts:List Nd),(∀t∈ts,Zu t []=[])→(∀y∈Zu x [],∀t,QS ns ts y=some t→t.op=[118,97,114])→
  (∀z∈Qx (Ur cnt x ns ts) [],∃y∈Qx x [],Src ns ts y z)∧ ∀z∈Zu (Ur cnt x ns ts) [],∃y∈Zu x [],yZ ns ts y z:=by
 refine J2 (M:=fun x=>okB C x=true→V3 x→ ∀(ns:List (List Nat)) (ts:List Nd),(∀t∈ts,Zu t []=[])→(∀y∈Zu x [],∀t,QS ns ts y=some t→t.op=[118,97,114])→
  (∀z∈Qx (Ur cnt x ns ts) [],∃y∈Qx x [],Src ns ts y z)∧ ∀z∈Zu (Ur cnt x ns ts) [],∃y∈Zu x [],yZ ns ts y z) (fun op nm n a kids ih hok hB ns ts hts his=>?_) x
 obtain⟨_,_,_,hone,hokk,_⟩:=Yj hok;rw[Ur]
 by_cases hv:op=[118,97,114]
 ·subst hv
  have hn:Qx (.mk [118,97,114] nm n a kids) []=[nm]:=by rw[Qx,if_pos (.inl rfl),if_neg (by simp[V1])]
  cases hlk:QS ns ts nm with
  |some t=>
   rw[if_pos ⟨rfl,rfl⟩];refine⟨fun z hz=>⟨nm,by rw[hn];simp,.inr ⟨t,hlk,?_⟩⟩,fun z hz=>?_⟩
   ·have hz:z∈Qx (t.setAt a) []:=hz
    rwa [G5]at hz
   ·have hz:z∈Zu (t.setAt a) []:=hz;rw[PK,hts t (UT hlk)]at hz;cases hz
  |none=>
   rw[if_neg (by simp),if_neg (by simp),if_neg (by decide)]
   have hj:Zb [118,97,114] nm n a (Lu cnt kids ns ts)=.mk [118,97,114] nm n a (Lu cnt kids ns ts):=by unfold Zb;rw[if_neg (by decide)]
   rw[hj];refine⟨fun z hz=>?_,fun z hz=>?_⟩
   ·rw[Qx,if_pos (.inl rfl),if_neg (by simp[V1]),List.mem_singleton]at hz;exact⟨nm,by rw[hn];simp,.inl ⟨hlk,hz⟩⟩
   ·rw[Zu,if_neg (by decide),if_pos rfl]at hz;cases hz
 by_cases hs:op=[105,115]
 ·subst hs
  have hn:Qx (.mk [105,115] nm n a kids) []=[nm]:=by rw[Qx,if_pos (.inr rfl),if_neg (by simp[V1])]
  have hi:Zu (.mk [105,115] nm n a kids) []=[nm]:=by rw[Zu,if_pos rfl,if_neg (by simp[V1])]
  rw[if_neg (by simp)]
  cases hlk:QS ns ts nm with
  |some t=>
   have ht:=his nm (by rw[hi];simp) t hlk;rw[if_pos ⟨rfl,by show decide (t.op=_)=true;rw[ht];rfl⟩];refine⟨fun z hz=>?_,fun z hz=>?_⟩
   ·have hz:z∈Qx (.mk [105,115] t.name n a kids) []:=hz;rw[Qx,if_pos (.inr rfl),if_neg (by simp[V1]),List.mem_singleton]at hz;exact⟨nm,by rw[hn];simp,.inr ⟨t,hlk,by rw[Nt ht,hz];simp⟩⟩
   ·have hz:z∈Zu (.mk [105,115] t.name n a kids) []:=hz;rw[Zu,if_pos rfl,if_neg (by simp[V1]),List.mem_singleton]at hz;exact⟨nm,by rw[hi];simp,.inr ⟨t,hlk,ht,hz⟩⟩
  |none=>
   rw[if_neg (by simp),if_neg (by decide)]
   have hj:Zb [105,115] nm n a (Lu cnt kids ns ts)=.mk [105,115] nm n a (Lu cnt kids ns ts):=by unfold Zb;rw[if_neg (by decide)]
   rw[hj];refine⟨fun z hz=>?_,fun z hz=>?_⟩
   ·rw[Qx,if_pos (.inr rfl),if_neg (by simp[V1]),List.mem_singleton]at hz;exact⟨nm,by rw[hn];simp,.inl ⟨hlk,hz⟩⟩
   ·rw[Zu,if_pos rfl,if_neg (by simp[V1]),List.mem_singleton]at hz;exact⟨nm,by rw[hi];simp,.inl ⟨hlk,hz⟩⟩
 have hvs: ¬(op=[118,97,114]∨op=[105,115]):=by rintro(h|h);exact hv h;exact hs h
 rw[if_neg (fun e=>hv e.1),if_neg (fun e=>hs e.1)]
 by_cases hb:op=[101,120]∨op=[97,108,108]
 ·rw[if_pos hb];have hl:=hone hb
  match kids,hl,ih,hok,hB,his,hokk with
  |[k],_,ih,hok,hB,his,hokk=>
   have hkm:k∈[k]:=List.mem_cons_self ..;have hBk:=hB.N2 hkm
   have hnx: ∀y,y∈Qx (.mk op nm n a [k]) []↔y∈Qx k []∧y≠nm:=fun y=>by
    rw[Qx,if_neg hvs,if_pos hb,Jh];constructor
    ·rintro⟨k',hk',hy⟩
     rw[List.mem_singleton]at hk';subst hk';have:=(YB _ _ _).1 hy;exact⟨this.1,fun e=>this.2 (by rw[e];simp)⟩
    ·rintro⟨h1,h2⟩
     exact⟨k,hkm,(YB _ _ _).2 ⟨h1,by simpa using h2⟩⟩
   have hix: ∀y,y∈Zu (.mk op nm n a [k]) []↔y∈Zu k []∧y≠nm:=fun y=>by
    rw[Zu,if_neg hs,if_neg hv,if_pos hb,Yd];constructor
    ·rintro⟨k',hk',hy⟩
     rw[List.mem_singleton]at hk';subst hk';have:=(F7 _ _ _).1 hy;exact⟨this.1,fun e=>this.2 (by rw[e];simp)⟩
    ·rintro⟨h1,h2⟩
     exact⟨k,hkm,(F7 _ _ _).2 ⟨h1,by simpa using h2⟩⟩
   obtain⟨nm',ns2,ts2,us,hbx,hlk,hnm,htm,_,_⟩:=VD (cnt:=cnt) (nm:=nm) (ns:=ns) (ts:=ts) hBk;rw[hbx,US]
   have hts2: ∀t∈ts2,Zu t []=[]:=fun t ht=>by
    rcases htm t ht with h|rfl
    ·exact hts t h
    ·rw[Zu,if_neg (by decide),if_pos rfl]
   have his2: ∀y∈Zu k [],∀t,QS ns2 ts2 y=some t→t.op=[118,97,114]:=fun y hy t ht=>by
    by_cases e:y=nm
    ·subst e;rcases hnm with⟨h,_⟩|h
     ·rw[h]at ht;cases ht
     ·rw[h]at ht;injection ht with ht;subst ht;rfl
    ·rw[hlk y (Hw k [] y hy) e]at ht;exact his y ((hix y).2 ⟨hy,e⟩) t ht
   obtain⟨i1,i2⟩:=ih k hkm (hokk k hkm) hBk ns2 ts2 hts2 his2;refine⟨fun z hz=>?_,fun z hz=>?_⟩
   ·have hz:z∈Qx (.mk op nm' n a [Ur cnt k ns2 ts2]) []:=hz;rw[Qx,if_neg hvs,if_pos hb,Jh]at hz;obtain⟨k',hk',hz⟩:=hz;rw[List.mem_singleton]at hk';subst hk';obtain⟨hz1,hz2⟩:=(YB _ _ _).1 hz;obtain⟨y,hy,hsrc⟩:=i1 z hz1
    have hne:y≠nm:=by
     rintro rfl
     rcases hnm with⟨h,e⟩|h
     ·rcases hsrc with⟨_,e2⟩|⟨t,h2,_⟩
      ·exact hz2 (by rw[e,e2];simp)
      ·rw[h]at h2;cases h2
     ·rcases hsrc with⟨h2,_⟩|⟨t,h2,h3⟩
      ·rw[h]at h2;cases h2
      ·rw[h]at h2
       injection h2 with h2
       subst h2;rw[Nt rfl,List.mem_singleton]at h3;exact hz2 (by rw[h3];simp[Nd.name])
    refine⟨y,(hnx y).2 ⟨hy,hne⟩,?_⟩;unfold Src at hsrc ⊢
    rwa [hlk y hy hne]at hsrc
   ·have hz:z∈Zu (.mk op nm' n a [Ur cnt k ns2 ts2]) []:=hz;rw[Zu,if_neg hs,if_neg hv,if_pos hb,Yd]at hz;obtain⟨k',hk',hz⟩:=hz;rw[List.mem_singleton]at hk';subst hk';obtain⟨hz1,hz2⟩:=(F7 _ _ _).1 hz;obtain⟨y,hy,hsrc⟩:=i2 z hz1
    have hne:y≠nm:=by
     rintro rfl
     rcases hnm with⟨h,e⟩|h
     ·rcases hsrc with⟨_,e2⟩|⟨t,h2,_⟩
      ·exact hz2 (by rw[e,e2];simp)
      ·rw[h]at h2;cases h2
     ·rcases hsrc with⟨h2,_⟩|⟨t,h2,_,h3⟩
      ·rw[h]at h2;cases h2
      ·rw[h]at h2
       injection h2 with h2
       subst h2;exact hz2 (by rw[h3];simp[Nd.name])
    refine⟨y,(hix y).2 ⟨hy,hne⟩,?_⟩;unfold yZ at hsrc ⊢
    rwa [hlk y (Hw k [] y hy) hne]at hsrc
 ·rw[if_neg hb,US];obtain⟨j1,j2⟩:=Ru (nm:=nm) (n:=n) (a:=a) (l:=kids.map fun k=>Ur cnt k ns ts) hvs hb
  have hnx: ∀k∈kids,∀y∈Qx k [],y∈Qx (.mk op nm n a kids) []:=fun k hk y hy=>by
   rw[Qx,if_neg hvs,if_neg hb];exact Jh.2 ⟨k,hk,hy⟩
  have hix: ∀k∈kids,∀y∈Zu k [],y∈Zu (.mk op nm n a kids) []:=fun k hk y hy=>by
   rw[Zu,if_neg hs,if_neg hv,if_neg hb];exact Yd.2 ⟨k,hk,hy⟩
  refine⟨fun z hz=>?_,fun z hz=>?_⟩
  ·obtain⟨k',hk',hz⟩:=Jh.1 (j1 z hz);obtain⟨k,hk,rfl⟩:=List.mem_map.1 hk';obtain⟨y,hy,h⟩:=(ih k hk (hokk k hk) (hB.N2 hk) ns ts hts (fun y hy=>his y (hix k hk y hy))).1 z hz;exact⟨y,hnx k hk y hy,h⟩
  ·obtain⟨k',hk',hz⟩:=Yd.1 (j2 z hz);obtain⟨k,hk,rfl⟩:=List.mem_map.1 hk';obtain⟨y,hy,h⟩:=(ih k hk (hokk k hk) (hB.N2 hk) ns ts hts (fun y hy=>his y (hix k hk y hy))).2 z hz;exact⟨y,hix k hk y hy,h⟩
theorem Kb(t:Nd)(a:Int):Ut (t.setAt a)=Ut t:=by
 obtain⟨o,s,z,a',l⟩:=t;show Ut (.mk o s z a l)=_
 match l with
 |[]=>rw[JT (.inr (by simp)),JT (.inr (by simp))]
 |[k]=>rw[Yk,Yk]
 |_::_::_=>rw[JT (.inr (by simp)),JT (.inr (by simp))]
theorem PI{C:Int}{t:Nd}(h:okB C t=true)(a:Int):okB C (t.setAt a)=true:=by
 have hn:=Kb t a;obtain⟨o,s,z,a',l⟩:=t;obtain⟨h1,h2,_,h4,h5,h6⟩:=Yj h;exact WH h1 h2 (by show Ut (Nd.setAt a (.mk o s z a' l))≤C;rw[hn];exact h6) h4 h5
theorem Ei(used:List (List Nat)): ∀(f:Nat) (s:List Nat),(U6 used f s).length≤s.length+f
 |0,s=>Nat.le_refl _
 |f+1,s=>by
  rw[U6]
  split
  ·have:=Ei used f (s++[39]);rw[List.length_append]at this;have e:([39]:List Nat).length=1:=rfl;omega
  ·omega
theorem Dd(cnt:List Nat→Int)(s:List Nat)(used:List (List Nat)):(UX cnt s used).length≤s.length+used.length+2:=by
 unfold UX
 split
 ·have:=Ei used (used.length+1) [118];have e:([118]:List Nat).length=1:=rfl;omega
 ·have:=Ei used (used.length+1) s;omega
theorem Np{C:Int}{op nm:List Nat}{n a:Int}{l:List Nd}(hok: ∀k∈l,okB C k=true):Ut (Zb op nm n a l)≤Ut (.mk op nm n a l):=by
 unfold Zb
 split
 ·rename_i hp
  split
  ·rename_i k;have hk:=hok k (List.mem_cons_self ..);have hg:=EZ k hk;rw[Yk,if_pos hp];obtain⟨o,s,z,a',l'⟩:=k;have hg:0≤z∧z≤Ut (.mk o s z a' l'):=hg
   split
   ·rw[JT (.inr (by simp))];show n+z≤_;omega
   ·split
    ·rename_i hk0;have hk2:o=[112,108,117,115]:=hk0;clear hk0;show Ut (.mk op nm (n+z) a l')≤n+Ut (.mk o s z a' l')
     match l' with
     |[]=>rw[JT (.inr (by simp)),JT (.inr (by simp))];omega
     |[k]=>rw[Yk,Yk,if_pos hp,if_pos hk2];omega
     |_::_::_=>rw[JT (.inr (by simp)),JT (.inr (by simp))];omega
    ·rw[Yk,if_pos hp];exact Int.le_refl _
  ·exact Int.le_refl _
 ·exact Int.le_refl _
theorem T9{C:Int}{op nm:List Nat}{n a:Int}{l:List Nd}(hl:((nm.length:Nat):Int)≤1000 *C)(hn:0≤n)(hC:Ut (.mk op nm n a l)≤C)(h0:0≤C)(hb:(op=[101,120]∨op=[97,108,108])→l.length=1)(hok: ∀k∈l,okB C k=true):okB C (Zb op nm n a l)=true:=by
 have hj:=Np (op:=op) (nm:=nm) (n:=n) (a:=a) hok;have base:okB C (.mk op nm n a l)=true:=WH hl hn hC hb hok;revert hj;unfold Zb
 split
 ·rename_i hp
  split
  ·rename_i k;have hk:=hok k (List.mem_cons_self ..);obtain⟨o,s,z,a',l'⟩:=k;obtain⟨_,hz,_,_,hkk,_⟩:=Yj hk
   split
   ·intro hj
    exact WH (by simp;omega) (by show 0≤n+z;omega) (by omega) (by intro h;rcases h with h|h<;>cases h) (by intro k hk;cases hk)
   ·split
    ·intro hj
     exact WH hl (by show 0≤n+z;omega) (by omega) (by intro h;subst hp;rcases h with h|h<;>cases h) hkk
    ·intro _;exact base
  ·intro _;exact base
 ·intro _;exact base
theorem jk{C D E:Int}{B:Nat}(h1:C+D≤E)(h2:C+600≤E)(hC:0≤C)(hD:0≤D)(hB1:1≤B)(x:Nd):okB C x=true→V3 x→Jz x *(B+1)≤500000→ ∀(ns:List (List Nat)) (ts:List Nd),(∀t∈ts,okB E t=true∧Ut t≤D∧Jz t≤B)→
  okB E (Ur UL x ns ts)=true∧Ut (Ur UL x ns ts)≤Ut x+D:=by
 refine J2 (M:=fun x=>okB C x=true→V3 x→Jz x *(B+1)≤500000→ ∀(ns:List (List Nat)) (ts:List Nd),(∀t∈ts,okB E t=true∧Ut t≤D∧Jz t≤B)→
  okB E (Ur UL x ns ts)=true∧Ut (Ur UL x ns ts)≤Ut x+D) (fun op nm n a kids ih hok hB hsz ns ts hts=>?_) x
 obtain⟨hl,hn0,hnC,hone,hokk,hcC⟩:=Yj hok;have hge:=EZ _ hok;have hge:0≤n∧n≤Ut (.mk op nm n a kids):=hge;have hszk: ∀k∈kids,Jz k *(B+1)≤500000:=fun k hk=>Nat.le_trans (Nat.mul_le_mul_right _ (Nat.le_trans (Yb hk) (by rw[Jz];omega))) hsz
 have hlE:((nm.length:Nat):Int)≤1000 *E:=by omega
 rw[Ur]
 split
 ·rename_i h;obtain⟨t,h3⟩:=Option.isSome_iff_exists.1 h.2;rw[h3];have ht:=hts t (UT h3);exact⟨PI ht.1 a,by show Ut (t.setAt a)≤_;rw[Kb];omega⟩
 ·split
  ·rename_i h
   cases h3:QS ns ts nm with
   |none=>rw[h3]at h;exact absurd h.2 (by simp)
   |some t=>
    have ht:=hts t (UT h3);have hs:op=[105,115]:=h.1;have hnc:Ut (.mk op t.name n a kids)=n:=JT (.inl (by rw[hs];decide))
    have htl:((t.name.length:Nat):Int)≤1000 *E:=by
     obtain⟨o,s,z,a',l⟩:=t;exact(Yj ht.1).1
    exact⟨WH htl hn0 (by rw[hnc];omega) (by intro hb;rw[hs]at hb;rcases hb with hb|hb<;>cases hb) (fun k hk=>F6 (by omega) k (hokk k hk)),by show Ut (.mk op t.name n a kids)≤_;rw[hnc];omega⟩
  ·split
   ·rename_i hb;have hl1:=hone hb
    match kids,hl1,ih,hokk,hB,hszk,hge with
    |[k],_,ih,hokk,hB,hszk,hge=>
     have hkm:k∈[k]:=List.mem_cons_self ..;obtain⟨nm',ns2,ts2,us,hbx,_,_,htm,hnm,hus⟩:=VD (cnt:=UL) (nm:=nm) (ns:=ns) (ts:=ts) (hB.N2 hkm);have hul:=hus B fun t ht=>(hts t ht).2.2;have hfk:=Z7 k
     have hnl:((nm'.length:Nat):Int)≤1000 *E:=by
      rcases hnm with rfl|rfl
      ·exact hlE
      ·have h3:=Dd UL nm (Jk k++us);rw[List.length_append]at h3;have h4:(Jk k).length *B≤Jz k *B:=Nat.mul_le_mul_right _ hfk;have h5:Jz k *(B+1)=Jz k *B+Jz k:=Nat.mul_succ _ _;have h6:=hszk k hkm;omega
     rw[hbx,US]
     have hts2: ∀t∈ts2,okB E t=true∧Ut t≤D∧Jz t≤B:=fun t ht=>by
      rcases htm t ht with h|rfl
      ·exact hts t h
      ·refine⟨WH hnl (by omega) (by rw[JT (.inl (by decide))];omega) (by intro h;rcases h with h|h<;>cases h) (by intro k hk;cases hk),by rw[JT (.inl (by decide))];exact hD,by rw[Jz,W2];omega⟩
     have hp: ¬op=[112,108,117,115]:=by rcases hb with rfl|rfl<;>decide
     have i1:=(ih k hkm (hokk k hkm) (hB.N2 hkm) (hszk k hkm) ns2 ts2 hts2).1
     refine⟨WH hnl hn0 (by rw[JT (.inl hp)];omega) (fun _=>rfl) (fun k' hk'=>by
      have hk':k'∈[Ur UL k ns2 ts2]:=hk'
      rw[List.mem_singleton]at hk';subst hk';exact i1),by rw[JT (.inl hp)];omega⟩
   ·rename_i hb;rw[US]
    have hokm: ∀k'∈kids.map (fun k=>Ur UL k ns ts),okB E k'=true:=fun k' hk'=>by
     obtain⟨k,hk,rfl⟩:=List.mem_map.1 hk';exact(ih k hk (hokk k hk) (hB.N2 hk) (hszk k hk) ns ts hts).1
    have hnum:Ut (.mk op nm n a (kids.map fun k=>Ur UL k ns ts))≤Ut (.mk op nm n a kids)+D:=by
     by_cases hp:op≠[112,108,117,115]∨kids.length≠1
     ·rw[JT (by rcases hp with h|h;exact .inl h;exact .inr (by rw[List.length_map];exact h))];omega
     ·match kids,ih,hokk,hB,hszk,hp with
      |[k],ih,hokk,hB,hszk,hp=>
       have hkm:k∈[k]:=List.mem_cons_self ..;have i2:=(ih k hkm (hokk k hkm) (hB.N2 hkm) (hszk k hkm) ns ts hts).2;show Ut (.mk op nm n a [Ur UL k ns ts])≤_;rw[Yk,Yk]
       split
       ·omega
       ·omega
      |[],_,_,_,_,hp=>exact absurd (.inr (by simp)) hp
      |_::_::_,_,_,_,_,hp=>exact absurd (.inr (by simp)) hp
    exact⟨T9 hlE hn0 (by omega) (by omega) (fun h=>absurd h hb) hokm,Int.le_trans (Np hokm) hnum⟩
end Go.Proofs.YtadjjadimlkkgaaGreatDoor
