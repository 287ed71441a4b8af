/-
  States that are numbered as they come, plainly.
-/
import Derived.Test.YtildagdnomiahaaGreatDoorQvKit
set_option linter.unusedVariables false
namespace Go.Proofs.YtildagdnomiahaaGreatDoor
section

structure FF{α:Type}(δ:α→Nat→α)(s0:α)(K:Nat)(l:List α)(es:List Nat):Prop where
 head:l[0]? =some s0
 nodup:l.Nodup
 step: ∀(p v:Nat),es[p]? =some v→ ∃s,l[p/K]? =some s∧l[v]? =some (δ s (p % K))
 first: ∀k,0<k→k<l.length→ ∃p:Nat,p/K<k∧es[p]? =some k∧ ∀(q v:Nat),q<p→es[q]? =some v→v<k
section
variable {α:Type} {δ:α→Nat→α} {s0:α} {K:Nat} {l:List α} {es:List Nat}
theorem FF.start(δ:α→Nat→α)(s0:α)(K:Nat):FF δ s0 K [s0] []:=
 ⟨rfl,by simp,fun p v h=>by simp at h,fun k h1 h2=>by simp at h2;omega⟩
theorem FF.lt(E:FF δ s0 K l es){p v:Nat}(h:es[p]? =some v):v<l.length:=by
 obtain⟨s,_,h2⟩:=E.step p v h;exact(List.getElem?_eq_some_iff.1 h2).1
theorem FF.J5(E:FF δ s0 K l es){s:α}{j:Nat}(hs:l[es.length/K]? =some s)(hj:l[j]? =some (δ s (es.length % K))):FF δ s0 K l (es++[j]):=by
 refine⟨E.head,E.nodup,fun p v h=>?_,fun k h1 h2=>?_⟩
 ·by_cases hp:p<es.length
  ·rw[List.getElem?_append_left hp]at h;exact E.step p v h
  ·have hlt:=(List.getElem?_eq_some_iff.1 h).1;rw[List.length_append,List.length_singleton]at hlt
   have hp:p=es.length:=by omega
   subst hp;rw[List.getElem?_append_right (Nat.le_refl _),Nat.sub_self]at h
   injection h with h
   subst h;exact⟨s,hs,hj⟩
 ·obtain⟨p,a1,a2,a3⟩:=E.first k h1 h2;have hp:=(List.getElem?_eq_some_iff.1 a2).1;refine⟨p,a1,by rw[List.getElem?_append_left hp];exact a2,fun q v hq hv=>?_⟩;rw[List.getElem?_append_left Qd]at hv;exact a3 q v hq hv
theorem FF.new(E:FF δ s0 K l es){s:α}(hs:l[es.length/K]? =some s)(hn:δ s (es.length % K)∉l):FF δ s0 K (l++[δ s (es.length % K)]) (es++[l.length]):=by
 have hi:=(List.getElem?_eq_some_iff.1 hs).1;refine⟨?_,List.nodup_append.2 ⟨E.nodup,by simp,fun a ha b hb e=>?_⟩,fun p v h=>?_,fun k h1 h2=>?_⟩
 ·rw[List.getElem?_append_left (Nat.lt_of_le_of_lt (Nat.zero_le _) hi)];exact E.head
 ·rw[List.mem_singleton]at hb;subst hb e;exact hn ha
 ·by_cases hp:p<es.length
  ·rw[List.getElem?_append_left hp]at h;obtain⟨s',b1,b2⟩:=E.step p v h;refine⟨s',?_,?_⟩
   ·rw[List.getElem?_append_left (List.getElem?_eq_some_iff.1 b1).1];exact b1
   ·rw[List.getElem?_append_left (List.getElem?_eq_some_iff.1 b2).1];exact b2
  ·have hlt:=(List.getElem?_eq_some_iff.1 h).1;rw[List.length_append,List.length_singleton]at hlt
   have hp:p=es.length:=by omega
   subst hp;rw[List.getElem?_append_right (Nat.le_refl _),Nat.sub_self]at h
   injection h with h
   subst h;refine⟨s,by rw[List.getElem?_append_left hi];exact hs,by simp⟩
 ·rw[List.length_append,List.length_singleton]at h2
  by_cases hk:k<l.length
  ·obtain⟨p,a1,a2,a3⟩:=E.first k h1 hk;have hp:=(List.getElem?_eq_some_iff.1 a2).1;refine⟨p,a1,by rw[List.getElem?_append_left hp];exact a2,fun q v hq hv=>?_⟩;rw[List.getElem?_append_left Qd]at hv;exact a3 q v hq hv
  ·have hk:k=l.length:=by omega
   subst hk;refine⟨es.length,hi,by simp,fun q v hq hv=>?_⟩;rw[List.getElem?_append_left hq]at hv;exact E.lt hv
theorem FF.all(E:FF δ s0 K l es){Q:α→Prop}(h0:Q s0)(hs: ∀s c,Q s→(0<K→c<K)→Q (δ s c)): ∀(k:Nat) (s:α),l[k]? =some s→Q s:=by
 intro k
 induction k using Nat.strongRecOn with
 |_ k ih=>
  intro s hk
  by_cases h:k=0
  ·subst h;rw[E.head]at hk
   injection hk with hk
   exact hk▸h0
  ·obtain⟨p,a1,a2,_⟩:=E.first k Qd (List.getElem?_eq_some_iff.1 hk).1;obtain⟨s',b1,b2⟩:=E.step p k a2;rw[hk]at b2
   injection b2 with b2
   subst b2;exact hs s' _ (ih _ a1 s' b1) fun hK=>Nat.mod_lt _ hK
end
theorem XY{α:Type}: ∀{a b:List α},a.Nodup→(∀x∈a,x∈b)→a.length≤b.length
 |[],b,_,_=>by simp
 |x::a,b,h,hs=>by
  obtain⟨b1,b2,rfl⟩:=List.append_of_mem (hs x Qx);have h':=List.nodup_cons.1 h
  have:=XY (b:=b1++b2) h'.2 fun y hy=>by
   have:=hs y (by simp[hy]);simp only[List.mem_append,List.mem_cons]at this ⊢;rcases this with h1|h1|h1
   ·exact .inl h1
   ·subst h1;exact absurd hy h'.1
   ·exact .inr h1
  simp only[List.length_append,List.length_cons]at this ⊢;omega
end
section

structure Au where
 tr:Nat
 acc:List Bool
 nx:List (List Int)
abbrev Au.n(a:Au):Nat:=a.acc.length
abbrev Au.K(a:Au):Nat:=2^a.tr
def Au.go(a:Au)(s c:Nat):Nat:=(((a.nx[s]?).getD [])[c]?.getD 0).toNat
def Au.ok(a:Au)(s:Nat):Bool:=(a.acc[s]?).getD false
def Au.run(a:Au)(s:Nat)(w:List Nat):Nat:=w.foldl a.go s
def I4(K:Nat)(w:List Nat):Prop:= ∀c∈w,c<K
structure Xu(a:Au):Prop where
 tr:a.tr≤6
 pos:1≤a.n
 most:a.n≤400
 len:a.nx.length=a.n
 row: ∀r∈a.nx,r.length=a.K∧ ∀z∈r,0≤z∧z<a.n
theorem Au.Lv(a:Au)(s c:Nat)(w:List Nat):a.run s (c::w)=a.run (a.go s c) w:=rfl
theorem Xu.at_{a:Au}(W:Xu a){s c:Nat}(hs:s<a.n)(hc:c<a.K): ∃r z,a.nx[s]? =some r∧r[c]? =some z∧z=((a.go s c:Nat):Int)∧a.go s c<a.n∧r.length=a.K:=by
 obtain⟨r,hr⟩: ∃r,a.nx[s]? =some r:=⟨_,List.getElem?_eq_getElem (by rw[W.len];exact hs)⟩;obtain⟨h1,h2⟩:=W.row r (List.mem_of_getElem? hr);obtain⟨z,hz⟩: ∃z,r[c]? =some z:=⟨_,List.getElem?_eq_getElem (by rw[h1];exact hc)⟩;have h3:=h2 z (List.mem_of_getElem? hz)
 have e:a.go s c=z.toNat:=by unfold Au.go;rw[hr,Option.getD_some,hz,Option.getD_some]
 exact⟨r,z,hr,hz,by omega,by omega,h1⟩
theorem Xu.Ya{a:Au}(W:Xu a){s c:Nat}(hs:s<a.n)(hc:c<a.K):a.go s c<a.n:=by
 obtain⟨_,_,_,_,_,h,_⟩:=W.at_ hs hc;exact h
theorem Xu.PN{a:Au}(W:Xu a): ∀(w:List Nat) {s:Nat},s<a.n→I4 a.K w→a.run s w<a.n
 |[],s,hs,_=>hs
 |c::w,s,hs,h=>W.PN w (W.Ya hs (h c Qx)) fun x hx=>h x (by simp[hx])
theorem fv{a b:Au}(Wa:Xu a)(Wb:Xu b)(ht:a.tr=b.tr)(hn:a.n=b.n)(hk: ∀s,s<a.n→a.ok s=b.ok s)(hg: ∀s c,s<a.n→c<a.K→a.go s c=b.go s c):a=b:=by
 obtain⟨ta,ca,na⟩:=a;obtain⟨tb,cb,nb⟩:=b;have ht:ta=tb:=ht;subst ht;have hn:ca.length=cb.length:=hn
 have h1:ca=cb:=by
  apply List.ext_getElem?;intro i
  by_cases hi:i<ca.length
  ·have h:(ca[i]?).getD false=(cb[i]?).getD false:=hk i hi
   have hi':i<cb.length:=by omega
   rw[List.getElem?_eq_getElem hi,List.getElem?_eq_getElem hi']at h ⊢;exact congrArg some h
  ·rw[List.getElem?_eq_none Qd,List.getElem?_eq_none Qd]
 clear hk;subst h1;have la:na.length=ca.length:=Wa.len;have lb:nb.length=ca.length:=Wb.len
 have h2:na=nb:=by
  apply List.ext_getElem?;intro i
  by_cases hi:i<ca.length
  ·obtain⟨r,hr⟩: ∃r,na[i]? =some r:=⟨_,List.getElem?_eq_getElem Qd⟩;obtain⟨r',hr'⟩: ∃r,nb[i]? =some r:=⟨_,List.getElem?_eq_getElem Qd⟩;rw[hr,hr'];have e1:=(Wa.row r (List.mem_of_getElem? hr)).1;have e2:=(Wb.row r' (List.mem_of_getElem? hr')).1
   congr 1
   apply List.ext_getElem?;intro c
   by_cases hc:c<2^ta
   ·obtain⟨r1,z,a1,a2,a3,_⟩:=Wa.at_ (s:=i) (c:=c) hi hc;obtain⟨r2,z',b1,b2,b3,_⟩:=Wb.at_ (s:=i) (c:=c) hi hc;have a1:na[i]? =some r1:=a1;have b1:nb[i]? =some r2:=b1;rw[hr]at a1;rw[hr']at b1
    injection a1 with a1
    injection b1 with b1
    subst a1 b1;rw[a2,b2,a3,b3,hg i c hi hc]
   ·rw[List.getElem?_eq_none (by rw[e1];exact Nat.le_of_not_lt hc),List.getElem?_eq_none (by rw[e2];exact Nat.le_of_not_lt hc)]
  ·rw[List.getElem?_eq_none Qd,List.getElem?_eq_none Qd]
 subst h2;rfl
def Xw(a b:Au)(s t:Nat):Prop:= ∀w,I4 a.K w→a.ok (a.run s w)=b.ok (b.run t w)
theorem Xw.go{a b:Au}{s t:Nat}(h:Xw a b s t){c:Nat}(hc:c<a.K):Xw a b (a.go s c) (b.go t c):=fun w hw=>h (c::w) fun x hx=>by
 rcases List.mem_cons.1 hx with rfl|hx
 ·exact hc
 ·exact hw x hx
structure Canon(a:Au):Prop where
 wf:Xu a
 red: ∀s t,s<a.n→t<a.n→Xw a a s t→s=t
 first: ∀k,0<k→k<a.n→ ∃i c,i<k∧c<a.K∧a.go i c=k∧ ∀i' c',(i'<i∨i'=i∧c'<c)→c'<a.K→a.go i' c'<k
theorem F0{a b:Au}(Ca:Canon a)(Cb:Canon b)(ht:a.tr=b.tr)(h0:Xw a b 0 0)(k:Nat)(ih: ∀j,j<k→(j<a.n↔j<b.n)∧(j<a.n→Xw a b j j))(hk:k<a.n):k<b.n∧Xw a b k k:=by
 have hK:a.K=b.K:=by unfold Au.K;rw[ht]
 by_cases hz:k=0
 ·subst hz;exact⟨Cb.wf.pos,h0⟩
 ·obtain⟨i,c,h1,h2,h3,h4⟩:=Ca.first k Qd hk;have hi:=(ih i h1).2 Qd;have hib:=(ih i h1).1.1 Qd;have hl:=hi.go h2;rw[h3]at hl;have htn:=Cb.wf.Ya hib (hK▸h2)
  have hge:k≤b.go i c:=Nat.le_of_not_lt fun hlt=>by
   have h5:=(ih _ hlt).2 ((ih _ hlt).1.2 htn)
   have:=Ca.red k (b.go i c) hk ((ih _ hlt).1.2 htn) fun w hw=>by rw[hl w hw,h5 w hw]
   omega
  have hkb:k<b.n:=by omega
  obtain⟨i2,c2,k1,k2,k3,k4⟩:=Cb.first k Qd hkb
  have he:b.go i c=k:=by
   by_cases e:i2=i∧c2=c
   ·rw[←e.1,←e.2];exact k3
   ·exfalso
    by_cases hlt:i2<i∨i2=i∧c2<c
    ·have h5:=h4 i2 c2 hlt (hK▸k2);have h6:=((ih i2 k1).2 ((ih i2 k1).1.2 Qd)).go (c:=c2) (by rw[hK];exact k2);rw[k3]at h6;have h7:=(ih _ h5).2 Qd
     have:=Cb.red (a.go i2 c2) k ((ih _ h5).1.1 Qd) hkb fun w hw=>by
      rw[←h6 w (by rw[hK];exact hw),h7 w (by rw[hK];exact hw)]
     omega
    ·have:=k4 i c Qd (hK▸h2);omega
  rw[he]at hl;exact⟨hkb,hl⟩
theorem Xw.symm{a b:Au}{s t:Nat}(ht:a.tr=b.tr)(h:Xw a b s t):Xw b a t s:=fun w hw=>(h w (by unfold Au.K;rw[ht];exact hw)).symm
theorem RO{a b:Au}(Ca:Canon a)(Cb:Canon b)(ht:a.tr=b.tr)(h0:Xw a b 0 0):a=b:=by
 have hK:a.K=b.K:=by unfold Au.K;rw[ht]
 have key: ∀k,(k<a.n↔k<b.n)∧(k<a.n→Xw a b k k):=by
  intro k
  induction k using Nat.strongRecOn with
  |_ k ih=>
   have ih': ∀j,j<k→(j<b.n↔j<a.n)∧(j<b.n→Xw b a j j):=fun j hj=>⟨(ih j hj).1.symm,fun h=>((ih j hj).2 ((ih j hj).1.2 h)).symm ht⟩;refine⟨⟨fun h=>(F0 Ca Cb ht h0 k ih h).1,fun h=>(F0 Cb Ca ht.symm (h0.symm ht) k ih' h).1⟩,fun h=>(F0 Ca Cb ht h0 k ih h).2⟩
 have hn:a.n=b.n:=by
  have h1:=(key a.n).1;have h2:=(key b.n).1;omega
 refine fv Ca.wf Cb.wf ht hn (fun s hs=>(key s).2 hs [] fun _ h=>by cases h) fun s c hs hc=>?_;have h1:=((key s).2 hs).go hc;have hlt:=Ca.wf.Ya hs hc;have h2:=(key _).2 hlt
 exact Cb.red _ _ Qd (Cb.wf.Ya Qd (hK▸hc)) fun w hw=>by
  rw[←h1 w (by rw[hK];exact hw),h2 w (by rw[hK];exact hw)]
end
section
variable {a:Au} {cl cl' xs:List Int} {s:Nat}

abbrev cv(cl:List Int)(s:Nat):Int:=(cl[s]?).getD 0
structure NI(a:Au)(cl:List Int):Prop where
 len:cl.length=a.n
 like: ∀s t,s<a.n→t<a.n→Xw a a s t→cv cl s=cv cl t
 ok: ∀s t,s<a.n→t<a.n→cv cl s=cv cl t→a.ok s=a.ok t
structure HD(a:Au)(cl cl':List Int):Prop where
 len:cl'.length=a.n
 iff: ∀s t,s<a.n→t<a.n→(cv cl' s=cv cl' t↔cv cl s=cv cl t∧ ∀c,c<a.K→cv cl (a.go s c)=cv cl (a.go t c))
def BZ(a:Au)(cl:List Int):Prop:= ∀s t,s<a.n→t<a.n→cv cl s=cv cl t→ ∀c,c<a.K→cv cl (a.go s c)=cv cl (a.go t c)
structure Vl(a:Au)(cl:List Int):Prop where
 len:cl.length=a.n
 iff: ∀s t,s<a.n→t<a.n→(cv cl s=cv cl t↔Xw a a s t)
theorem NI.wE(W:Xu a)(h:NI a cl)(f:HD a cl cl'):NI a cl':=
 ⟨f.len,fun s t hs ht hl=>(f.iff s t hs ht).2 ⟨h.like s t hs ht hl,fun c hc=>h.like _ _ (W.Ya hs hc) (W.Ya ht hc) (hl.go hc)⟩,fun s t hs ht e=>h.ok s t hs ht ((f.iff s t hs ht).1 e).1⟩
theorem NI.Lm(W:Xu a)(h:NI a cl)(st:BZ a cl):Vl a cl:=by
 refine⟨h.len,fun s t hs ht=>⟨fun e w hw=>?_,h.like s t hs ht⟩⟩
 induction w generalizing s t with
 |nil=>exact h.ok s t hs ht e
 |cons c w ih=>
  have hc:=hw c Qx;exact ih _ _ (W.Ya hs hc) (W.Ya ht hc) (st s t hs ht e c hc) fun x hx=>hw x (by simp[hx])
theorem Na(hl:cl.length=a.n)(h: ∀s t,s<a.n→t<a.n→(cv cl s=cv cl t↔a.ok s=a.ok t)):NI a cl:=
 ⟨hl,fun s t hs ht e=>(h s t hs ht).2 (e [] fun _ h=>by cases h),fun s t hs ht e=>(h s t hs ht).1 e⟩
def fF(n:Nat)(cl:List Int)(k:Nat):Prop:=(∀s,s<n→0≤cv cl s∧cv cl s<k)∧ ∀v,v<k→ ∃s,s<n∧cv cl s=((v:Nat):Int)
theorem xO{k k':Nat}(f:HD a cl cl')(h:fF a.n cl k)(h':fF a.n cl' k'):k≤k'∧(k=k'→ ∀s t,s<a.n→t<a.n→cv cl s=cv cl t→cv cl' s=cv cl' t):=by
 have hr: ∃r:Nat→Nat,∀v,v<k→r v<a.n∧cv cl (r v)=((v:Nat):Int):=by
  have: ∀v,∃s,v<k→s<a.n∧cv cl s=((v:Nat):Int):=fun v=>by
   by_cases hv:v<k
   ·obtain⟨s,hs⟩:=h.2 v hv;exact⟨s,fun _=>hs⟩
   ·exact⟨0,fun h=>absurd h hv⟩
  exact Classical.axiomOfChoice this
 obtain⟨r,hr⟩:=hr

 have hnd: ∀m,m≤k→((List.range m).map fun v=>(cv cl' (r v)).toNat).Nodup:=fun m hm=>by
  refine List.pairwise_map.2 ((List.nodup_range (n:=m)).imp_of_mem fun{x y} hx hy hne e=>?_);have hx:=List.mem_range.1 hx;have hy:=List.mem_range.1 hy;obtain⟨x1,x2⟩:=hr x Qd;obtain⟨y1,y2⟩:=hr y Qd;have a1:=h'.1 _ x1;have a2:=h'.1 _ y1
  have e':cv cl' (r x)=cv cl' (r y):=by omega
  have:=((f.iff _ _ x1 y1).1 e').1;omega
 have hin: ∀s,s<a.n→(cv cl' s).toNat∈List.range k':=fun s hs=>by
  have:=h'.1 s hs;exact List.mem_range.2 Qd
 have hall: ∀m,m≤k→ ∀x∈(List.range m).map fun v=>(cv cl' (r v)).toNat,x∈List.range k':=fun m hm x hx=>by
  obtain⟨v,hv,rfl⟩:=List.mem_map.1 hx;exact hin _ (hr v (by have:=List.mem_range.1 hv;omega)).1
 have hle:=XY (hnd k (Nat.le_refl _)) (hall k (Nat.le_refl _));simp only[List.length_map,List.length_range]at hle;refine⟨hle,fun e s t hs ht hst=>?_⟩

 have key: ∀u,u<a.n→cv cl' u=cv cl' (r (cv cl u).toNat):=fun u hu=>Classical.byContradiction fun hne=>by
  have hv:=h.1 u hu
  have hvk:(cv cl u).toNat<k:=by omega
  obtain⟨r1,r2⟩:=hr _ hvk
  have hnew:((cv cl' u).toNat::(List.range k).map fun v=>(cv cl' (r v)).toNat).Nodup:=by
   refine List.nodup_cons.2 ⟨fun hm=>?_,hnd k (Nat.le_refl _)⟩;obtain⟨v,hv',e'⟩:=List.mem_map.1 hm;have hv':=List.mem_range.1 hv';obtain⟨v1,v2⟩:=hr v hv';have b1:=h'.1 _ v1;have b2:=h'.1 _ hu
   have e2:cv cl' (r v)=cv cl' u:=by omega
   have e3:=((f.iff _ _ v1 hu).1 e2).1
   have e4:v=(cv cl u).toNat:=by omega
   subst e4;exact hne e2.symm
  have:=XY hnew (b:=List.range k') fun x hx=>by
   rcases List.mem_cons.1 hx with rfl|hx
   ·exact hin u hu
   ·exact hall k (Nat.le_refl _) x hx
  simp only[List.length_cons,List.length_map,List.length_range]at this;omega
 rw[key s hs,key t ht,hst]
theorem Ll(f:HD a cl cl')(h: ∀s t,s<a.n→t<a.n→cv cl s=cv cl t→cv cl' s=cv cl' t):BZ a cl:=fun s t hs ht e=>((f.iff s t hs ht).1 (h s t hs ht e)).2
def J4:List Int→List Int→List Int
 |_,[]=>[]
 |seen,x::xs=>if x∈seen then((seen.idxOf x:Nat):Int)::J4 seen xs else((seen.length:Nat):Int)::J4 (seen++[x]) xs
theorem Xo: ∀(xs seen:List Int),(J4 seen xs).length=xs.length
 |[],_=>rfl
 |x::xs,seen=>by
  rw[J4]
  split
  ·rw[List.length_cons,Xo xs,List.length_cons]
  ·rw[List.length_cons,Xo xs,List.length_cons]
theorem KI: ∀(xs seen:List Int),seen.Nodup→ ∃all:List Int,seen<+:all∧all.Nodup∧(∀x∈all,x∈seen∨x∈xs)∧ ∀(i:Nat) (x:Int),xs[i]? =some x→ ∃v:Nat,(J4 seen xs)[i]? =some ((v:Nat):Int)∧all[v]? =some x
 |[],seen,h=>⟨seen,List.prefix_refl _,h,fun x hx=>.inl hx,fun i x hi=>by simp at hi⟩
 |x::xs,seen,h=>by
  by_cases hx:x∈seen
  ·obtain⟨all,h1,h2,h3,h4⟩:=KI xs seen h;refine⟨all,h1,h2,fun y hy=>(h3 y hy).imp id (fun h=>List.mem_cons_of_mem _ h),fun i y hi=>?_⟩;rw[J4,if_pos hx]
   cases i with
   |zero=>
    injection hi with hi
    subst hi;refine⟨_,rfl,?_⟩;obtain⟨X,rfl⟩:=h1;have hlt:=List.idxOf_lt_length_of_mem hx;rw[List.getElem?_append_left hlt,List.getElem?_eq_getElem hlt,List.getElem_idxOf hlt]
   |succ i=>exact h4 i y hi
  ·have hnd:(seen++[x]).Nodup:=List.nodup_append.2 ⟨h,by simp,fun a ha b hb e=>by rw[List.mem_singleton]at hb;subst hb e;exact hx ha⟩;obtain⟨all,h1,h2,h3,h4⟩:=KI xs (seen++[x]) hnd;refine⟨all,(List.prefix_append _ _).trans h1,h2,fun y hy=>?_,fun i y hi=>?_⟩
   ·rcases h3 y hy with h|h
    ·rcases List.mem_append.1 h with h|h
     ·exact .inl h
     ·rw[List.mem_singleton]at h;subst h;exact .inr Qx
    ·exact .inr (List.mem_cons_of_mem _ h)
   ·rw[J4,if_neg hx]
    cases i with
    |zero=>
     injection hi with hi
     subst hi;refine⟨_,rfl,?_⟩;obtain⟨X,rfl⟩:=h1;rw[List.getElem?_append_left Qx];simp
    |succ i=>exact h4 i y hi
theorem Hb{t:Nat}(hs:s<xs.length)(ht:t<xs.length):cv (J4 [] xs) s=cv (J4 [] xs) t↔cv xs s=cv xs t:=by
 obtain⟨all,_,h2,_,h4⟩:=KI xs [] List.nodup_nil;obtain⟨v,a1,a2⟩:=h4 s _ (List.getElem?_eq_getElem hs);obtain⟨u,b1,b2⟩:=h4 t _ (List.getElem?_eq_getElem ht);unfold cv;rw[a1,b1,List.getElem?_eq_getElem hs,List.getElem?_eq_getElem ht];simp only[Option.getD_some];have hv:=(List.getElem?_eq_some_iff.1 a2).1;constructor
 ·intro e
  have e:v=u:=by omega
  subst e;rw[a2]at b2;injection b2
 ·intro e;rw[←e]at b2;rw[(List.getElem?_inj hv h2).1 (a2.trans b2.symm)]
theorem jU(hs:s<xs.length):0≤cv (J4 [] xs) s∧cv (J4 [] xs) s<xs.length:=by
 obtain⟨all,_,h2,h3,h4⟩:=KI xs [] List.nodup_nil;obtain⟨v,a1,a2⟩:=h4 s _ (List.getElem?_eq_getElem hs);have h5:=XY h2 (b:=xs) fun x hx=>(h3 x hx).resolve_left Qx;have hv:=(List.getElem?_eq_some_iff.1 a2).1;unfold cv;rw[a1,Option.getD_some];omega
theorem Ih: ∀(xs ys sx sy:List Int),xs.length=ys.length→sx.length=sy.length→sx.Nodup→sy.Nodup→
  (∀(i j:Nat) (x y:Int),xs[i]? =some x→ys[i]? =some y→((∀x',xs[j]? =some x'→ ∀y',ys[j]? =some y'→(x=x'↔y=y'))∧(sx[j]? =some x↔sy[j]? =some y)))→J4 sx xs=J4 sy ys
 |[],[],_,_,_,_,_,_,_=>rfl
 |[],y::ys,_,_,h,_,_,_,_=>by simp at h
 |x::xs,[],_,_,h,_,_,_,_=>by simp at h
 |x::xs,y::ys,sx,sy,h,hl,nx,ny,hk=>by
  have hmem:x∈sx↔y∈sy:=by
   constructor
   ·intro hx;obtain⟨j,hj,e⟩:=List.mem_iff_getElem.1 hx;exact List.mem_of_getElem? (((hk 0 j x y rfl rfl).2).1 (by rw[←e];exact List.getElem?_eq_getElem hj))
   ·intro hy;obtain⟨j,hj,e⟩:=List.mem_iff_getElem.1 hy;exact List.mem_of_getElem? (((hk 0 j x y rfl rfl).2).2 (by rw[←e];exact List.getElem?_eq_getElem hj))
  rw[J4,J4]
  by_cases hx:x∈sx
  ·rw[if_pos hx,if_pos (hmem.1 hx)];have hi:=List.idxOf_lt_length_of_mem hx
   have e1:sx[sx.idxOf x]? =some x:=by rw[List.getElem?_eq_getElem hi,List.getElem_idxOf hi]
   have e2:=((hk 0 _ x y rfl rfl).2).1 e1;have hy:=List.idxOf_lt_length_of_mem (hmem.1 hx)
   have e3:sy[sy.idxOf y]? =some y:=by rw[List.getElem?_eq_getElem hy,List.getElem_idxOf hy]
   rw[(List.getElem?_inj hy ny).1 (e3.trans e2.symm)]
   congr 1
   exact Ih xs ys sx sy (by simpa using h) hl nx ny fun i j a b ha hb=>⟨fun x' hx' y' hy'=>(hk (i+1) (j+1) a b ha hb).1 x' hx' y' hy',(hk (i+1) j a b ha hb).2⟩
  ·rw[if_neg hx,if_neg fun h=>hx (hmem.2 h),hl]
   congr 1
   refine Ih xs ys (sx++[x]) (sy++[y]) (by simpa using h) (by simp[hl]) ?_ ?_ fun i j a b ha hb=>⟨fun x' hx' y' hy'=>(hk (i+1) (j+1) a b ha hb).1 x' hx' y' hy',?_⟩
   ·exact List.nodup_append.2 ⟨nx,by simp,fun p hp q hq e=>by rw[List.mem_singleton]at hq;subst hq e;exact hx hp⟩
   ·exact List.nodup_append.2 ⟨ny,by simp,fun p hp q hq e=>by rw[List.mem_singleton]at hq;subst hq e;exact hx (hmem.2 hp)⟩
   ·by_cases hj:j<sx.length
    ·rw[List.getElem?_append_left hj,List.getElem?_append_left Qd];exact(hk (i+1) j a b ha hb).2
    ·by_cases hj2:j=sx.length
     ·subst hj2;rw[List.getElem?_append_right (Nat.le_refl _),List.getElem?_append_right Qd,hl,Nat.sub_self];have:=(hk (i+1) 0 a b ha hb).1 x rfl y rfl;constructor
      ·intro e;injection e with e;rw[this.1 e.symm];rfl
      ·intro e;injection e with e;rw[this.2 e.symm];rfl
     ·rw[List.getElem?_eq_none (by simp;omega),List.getElem?_eq_none (by simp;omega)];simp
def eG(n:Nat):List (Nat×Nat):=(List.range n).flatMap fun s=>(List.range n).map fun t=>(s,t)
def alike(n:Nat)(cl:List Int):Nat:=(eG n).countP fun x=>decide (cv cl x.1=cv cl x.2)
theorem Mi{ys:List Int}(hx:xs.length=a.n)(hy:ys.length=a.n)(f:HD a (J4 [] xs) (J4 [] ys))(h: ∀s t,s<a.n→t<a.n→cv (J4 [] xs) s=cv (J4 [] xs) t→cv (J4 [] ys) s=cv (J4 [] ys) t):J4 [] ys=J4 [] xs:=by
 refine Ih ys xs [] [] Qd rfl List.nodup_nil List.nodup_nil fun i j y x hyi hxi=>⟨fun y' hy' x' hx'=>?_,by simp⟩;have hi:=(List.getElem?_eq_some_iff.1 hyi).1;have hj:=(List.getElem?_eq_some_iff.1 hy').1;have e1:=Hb (xs:=xs) (s:=i) (t:=j) Qd Qd;have e2:=Hb (xs:=ys) (s:=i) (t:=j) hi hj;unfold cv at e1 e2;rw[hxi,hx']at e1;rw[hyi,hy']at e2;simp only[Option.getD_some]at e1 e2;constructor
 ·intro e;exact e1.1 ((f.iff i j Qd Qd).1 (e2.2 e)).1
 ·intro e;exact e2.1 (h i j Qd Qd (e1.2 e))
structure z6(K:Nat)(rows:List (List Int))(es:List Nat):Prop where
 len: ∀r∈rows,r.length=K
 flat:rows.flatten=es.map fun v=>((v:Nat):Int)
theorem Gf{α:Type}{K:Nat}: ∀{rows:List (List α)},(∀r∈rows,r.length=K)→rows.flatten.length=rows.length *K
 |[],_=>by simp
 |r::rows,h=>by
  rw[List.flatten_cons,List.length_append,Gf fun x hx=>h x (by simp[hx]),h r Qx,List.length_cons,Nat.succ_mul,Nat.add_comm]
theorem SV{α:Type}{K:Nat}: ∀{rows:List (List α)} {i c:Nat} {r:List α},(∀r∈rows,r.length=K)→rows[i]? =some r→c<K→rows.flatten[i *K+c]? =r[c]?
 |[],i,c,r,_,h,_=>by simp at h
 |x::rows,0,c,r,h,hr,hc=>by
  injection hr with hr
  subst hr;rw[Nat.zero_mul,Nat.zero_add,List.flatten_cons,List.getElem?_append_left (by rw[h x Qx];exact hc)]
 |x::rows,i+1,c,r,h,hr,hc=>by
  have hx:=h x Qx;rw[List.flatten_cons,Nat.succ_mul,List.getElem?_append_right Qd,hx,show i *K+K+c-K=i *K+c by omega];exact SV (fun y hy=>h y (by simp[hy])) hr hc
theorem z6.go{a:Au}{es:List Nat}(R:z6 a.K a.nx es){i c:Nat}(hi:i<a.nx.length)(hc:c<a.K):es[i *a.K+c]? =some (a.go i c)∧ ∃r,a.nx[i]? =some r∧r[c]? =some ((a.go i c:Nat):Int):=by
 obtain⟨r,hr⟩: ∃r,a.nx[i]? =some r:=⟨_,List.getElem?_eq_getElem hi⟩;have hl:=R.len r (List.mem_of_getElem? hr);have h1:=SV R.len hr hc;obtain⟨z,hz⟩: ∃z,r[c]? =some z:=⟨_,List.getElem?_eq_getElem (by rw[hl];exact hc)⟩;rw[R.flat,List.getElem?_map,hz]at h1
 cases hv:es[i *a.K+c]? with
 |none=>rw[hv]at h1;cases h1
 |some v=>
  rw[hv]at h1
  injection h1 with h1
  have e:a.go i c=v:=by unfold Au.go;rw[hr,Option.getD_some,hz,Option.getD_some,←h1];simp
  exact⟨by rw[e],r,hr,by rw[hz,e];exact congrArg some h1.symm⟩
structure U1{α:Type}(δ:α→Nat→α)(s0:α)(p:α→Bool)(l:List α)(m:Au):Prop where
 ex: ∃es,FF δ s0 m.K l es∧z6 m.K m.nx es
 len:m.nx.length=l.length
 acc:m.acc=l.map p
 tr:m.tr≤6
 most:l.length≤400
section
variable {α:Type} {δ:α→Nat→α} {s0:α} {p:α→Bool} {l:List α} {m:Au}
theorem U1.n(H:U1 δ s0 p l m):m.n=l.length:=by unfold Au.n;rw[H.acc,List.length_map]
theorem U1.go(H:U1 δ s0 p l m){i c:Nat}{s:α}(hs:l[i]? =some s)(hc:c<m.K):l[m.go i c]? =some (δ s c):=by
 obtain⟨es,E,R⟩:=H.ex;have hi:=(List.getElem?_eq_some_iff.1 hs).1;obtain⟨h1,_⟩:=R.go (a:=m) (by rw[H.len];exact hi) hc;obtain⟨s',b1,b2⟩:=E.step _ _ h1
 have e1:(i *m.K+c)/m.K=i:=by rw[Nat.mul_comm,Nat.mul_add_div Qd,Nat.div_eq_of_lt hc];rfl
 have e2:(i *m.K+c) % m.K=c:=by rw[Nat.mul_comm,Nat.mul_add_mod];exact Nat.mod_eq_of_lt hc
 rw[e1,hs]at b1
 injection b1 with b1
 subst b1;rw[e2]at b2;exact b2
theorem U1.head(H:U1 δ s0 p l m):l[0]? =some s0:=by obtain⟨es,E,R⟩:=H.ex;exact E.head
theorem U1.nodup(H:U1 δ s0 p l m):l.Nodup:=by obtain⟨es,E,R⟩:=H.ex;exact E.nodup
theorem U1.wf(H:U1 δ s0 p l m):Xu m:=by
 have hp:=(List.getElem?_eq_some_iff.1 H.head).1;obtain⟨es,E,R⟩:=H.ex;refine⟨H.tr,by rw[H.n];exact hp,by rw[H.n];exact H.most,by rw[H.n];exact H.len,fun r hr=>⟨R.len r hr,fun z hz=>?_⟩⟩
 obtain⟨v,hv,rfl⟩: ∃v∈es,((v:Nat):Int)=z:=by
  have:z∈m.nx.flatten:=List.mem_flatten.2 ⟨r,hr,hz⟩;rw[R.flat]at this;exact List.mem_map.1 this
 obtain⟨q,hq⟩:=List.getElem?_of_mem hv;have:=E.lt hq;rw[H.n];omega
theorem U1.run(H:U1 δ s0 p l m)(w:List Nat): ∀{i:Nat} {s:α},l[i]? =some s→I4 m.K w→l[m.run i w]? =some (w.foldl δ s):=by
 induction w with
 |nil=>intro i s hs _;exact hs
 |cons c w ih=>intro i s hs hw;exact ih (H.go hs (hw c Qx)) fun x hx=>hw x (by simp[hx])
theorem U1.ok(H:U1 δ s0 p l m){i:Nat}{s:α}(hs:l[i]? =some s):m.ok i=p s:=by
 unfold Au.ok;rw[H.acc,List.getElem?_map,hs];rfl
theorem U1.Rn(H:U1 δ s0 p l m){w:List Nat}(hw:I4 m.K w):m.ok (m.run 0 w)=p (w.foldl δ s0):=H.ok (H.run w H.head hw)
theorem U1.first(H:U1 δ s0 p l m): ∀k,0<k→k<m.n→ ∃i c,i<k∧c<m.K∧m.go i c=k∧ ∀i' c',(i'<i∨i'=i∧c'<c)→c'<m.K→m.go i' c'<k:=by
 intro k h1 h2;rw[H.n]at h2;have hln:=H.len;obtain⟨es,E,R⟩:=H.ex;obtain⟨q,a1,a2,a3⟩:=E.first k h1 h2;have hK:0<m.K:=Nat.two_pow_pos _;have hq:q/m.K *m.K+q % m.K=q:=Nat.div_add_mod' q m.K;have hr:=Nat.mod_lt q hK;have hg:=(R.go (a:=m) (i:=q/m.K) (c:=q % m.K) Qd hr).1;rw[hq,a2]at hg
 injection hg with hg
 refine⟨q/m.K,q % m.K,a1,hr,hg.symm,fun i' c' hlt hc'=>?_⟩
 have hi':i'<m.nx.length:=by rcases hlt with h|h<;>omega
 have hg':=(R.go (a:=m) hi' hc').1;refine a3 _ _ ?_ hg';rcases hlt with h|⟨rfl,h⟩
 ·have:=Nat.mul_le_mul_right m.K (show i'+1≤q/m.K from h);rw[Nat.succ_mul]at this;omega
 ·omega
end
noncomputable def ji(n:Nat)(cl:List Int)(k:Int):Nat:=((List.range n).find? fun s=>decide (cv cl s=k)).getD 0
theorem Sv{n:Nat}(hs:s<n):ji n cl (cv cl s)<n∧cv cl (ji n cl (cv cl s))=cv cl s:=by
 unfold ji
 cases h:(List.range n).find? fun t=>decide (cv cl t=cv cl s)with
 |none=>
  have:=List.find?_eq_none.1 h s (List.mem_range.2 hs);simp at this
 |some t=>
  have h1:=List.find?_some h;have h2:=List.mem_of_find?_eq_some h;exact⟨List.mem_range.1 h2,of_decide_eq_true h1⟩
noncomputable def DZ(a:Au)(cl:List Int)(k:Int)(c:Nat):Int:=cv cl (a.go (ji a.n cl k) c)
theorem BJ(st:BZ a cl){c:Nat}(hs:s<a.n)(hc:c<a.K):DZ a cl (cv cl s) c=cv cl (a.go s c):=by
 obtain⟨h1,h2⟩:=Sv (cl:=cl) hs;exact st _ _ h1 hs h2 c hc
theorem Vl.Lm(W:Xu a)(h:Vl a cl):BZ a cl:=fun s t hs ht e c hc=>(h.iff _ _ (W.Ya hs hc) (W.Ya ht hc)).2 (((h.iff s t hs ht).1 e).go hc)
noncomputable def vI(a:Au)(cl:List Int)(k:Int):Bool:=a.ok (ji a.n cl k)
theorem Th(h:Vl a cl)(hs:s<a.n):vI a cl (cv cl s)=a.ok s:=by
 obtain⟨h1,h2⟩:=Sv (cl:=cl) hs
 exact(h.iff _ _ h1 hs).1 h2 [] fun _ h=>by cases h
theorem Mn{m:Au}{l:List Int}(W:Xu a)(h:Vl a cl)(ht:m.tr=a.tr)(H:U1 (DZ a cl) (cv cl 0) (vI a cl) l m):Canon m∧Xw m a 0 0:=by
 have hK:m.K=a.K:=by unfold Au.K;rw[ht]
 have hst:=h.Lm W

 have hin: ∀(k:Nat) (x:Int),l[k]? =some x→ ∃s,s<a.n∧x=cv cl s:=by
  obtain⟨es,E,R⟩:=H.ex
  exact E.all (Q:=fun x=> ∃s,s<a.n∧x=cv cl s) ⟨0,W.pos,rfl⟩ fun x c hx hc=>by
   obtain⟨s,hs,rfl⟩:=hx;have hc:=hc (Nat.two_pow_pos _);exact⟨a.go s c,W.Ya hs (hK▸hc),BJ hst hs (hK▸hc)⟩
 have hrun: ∀(w:List Nat) (s:Nat),s<a.n→I4 m.K w→w.foldl (DZ a cl) (cv cl s)=cv cl (a.run s w):=by
  intro w
  induction w with
  |nil=>intro s _ _;rfl
  |cons c w ih=>
   intro s hs hw;have hc:c<a.K:=hK▸hw c Qx;show w.foldl (DZ a cl) (DZ a cl (cv cl s) c)=cv cl (a.run (a.go s c) w);rw[BJ hst hs hc];exact ih _ (W.Ya hs hc) fun x hx=>hw x (by simp[hx])
 have hlike: ∀(k s:Nat),l[k]? =some (cv cl s)→s<a.n→Xw m a k s:=fun k s hk hs w hw=>by
  rw[H.ok (H.run w hk hw),hrun w s hs hw];exact Th h (W.PN w hs (hK▸hw))
 refine⟨⟨H.wf,fun s t hs ht hst'=>?_,H.first⟩,hlike 0 0 H.head W.pos⟩;rw[H.n]at hs ht;obtain⟨x,hx⟩: ∃x,l[s]? =some x:=⟨_,List.getElem?_eq_getElem hs⟩;obtain⟨y,hy⟩: ∃y,l[t]? =some y:=⟨_,List.getElem?_eq_getElem ht⟩;obtain⟨u,hu,rfl⟩:=hin s x hx;obtain⟨v,hv,rfl⟩:=hin t y hy
 have e:=(h.iff u v hu hv).2 fun w hw=>by
  rw[←hlike s u hx hu w (hK▸hw),←hlike t v hy hv w (hK▸hw)];exact hst' w (hK▸hw)
 exact(List.getElem?_inj hs H.nodup).1 (by rw[hx,hy,e])
end
end Go.Proofs.YtildagdnomiahaaGreatDoor
