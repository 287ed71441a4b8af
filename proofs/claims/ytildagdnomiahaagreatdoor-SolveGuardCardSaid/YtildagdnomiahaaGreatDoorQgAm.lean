/-
  States that are numbered as they come, plainly.
-/
import Derived.Test.YtildagdnomiahaaGreatDoorQgKit
set_option linter.unusedVariables false
namespace Go.Proofs.YtildagdnomiahaaGreatDoor
section

structure A6{α:Type}(δ:α→Nat→α)(s0:α)(K:Nat)(l:List α)(es:List Nat):Prop where
 head:l[0]? =some s0
 nodup:l.Nodup
 step: ∀(p v:Nat),es[p]? =some v→ ∃s,l[p/K]? =some s∧l[v]? =some (δ s (p % K))
 first: ∀k,0<k→k<l.length→ ∃p:Nat,p/K<k∧es[p]? =some k∧ ∀(q v:Nat),q<p→es[q]? =some v→v<k
section
variable {α:Type} {δ:α→Nat→α} {s0:α} {K:Nat} {l:List α} {es:List Nat}
theorem A6.start(δ:α→Nat→α)(s0:α)(K:Nat):A6 δ s0 K [s0] []:=
 ⟨rfl,by simp,fun p v h=>by simp at h,fun k h1 h2=>by simp at h2;omega⟩
theorem A6.lt(E:A6 δ s0 K l es){p v:Nat}(h:es[p]? =some v):v<l.length:=by
 obtain⟨s,_,h2⟩:=E.step p v h;exact(List.getElem?_eq_some_iff.1 h2).1
theorem A6.J0(E:A6 δ s0 K l es){s:α}{j:Nat}(hs:l[es.length/K]? =some s)(hj:l[j]? =some (δ s (es.length % K))):A6 δ s0 K l (es++[j]):=by
 refine⟨E.head,E.nodup,fun p v h=>?_,fun k h1 h2=>?_⟩
 ·by_cases hp:p<es.length
  ·rw[List.getElem?_append_left hp]at h;exact E.step p v h
  ·have hlt:=(List.getElem?_eq_some_iff.1 h).1;rw[List.length_append,List.length_singleton]at hlt
   have hp:p=es.length:=by omega
   subst hp;rw[List.getElem?_append_right (Nat.le_refl _),Nat.sub_self]at h
   injection h with h
   subst h;exact⟨s,hs,hj⟩
 ·obtain⟨p,a1,a2,a3⟩:=E.first k h1 h2;have hp:=(List.getElem?_eq_some_iff.1 a2).1;refine⟨p,a1,by rw[List.getElem?_append_left hp];exact a2,fun q v hq hv=>?_⟩;rw[List.getElem?_append_left Qe]at hv;exact a3 q v hq hv
theorem A6.new(E:A6 δ s0 K l es){s:α}(hs:l[es.length/K]? =some s)(hn:δ s (es.length % K)∉l):A6 δ s0 K (l++[δ s (es.length % K)]) (es++[l.length]):=by
 have hi:=(List.getElem?_eq_some_iff.1 hs).1;refine⟨?_,List.nodup_append.2 ⟨E.nodup,by simp,fun a ha b hb e=>?_⟩,fun p v h=>?_,fun k h1 h2=>?_⟩
 ·rw[List.getElem?_append_left (Nat.lt_of_le_of_lt (Nat.zero_le _) hi)];exact E.head
 ·rw[List.mem_singleton]at hb;subst hb e;exact hn ha
 ·by_cases hp:p<es.length
  ·rw[List.getElem?_append_left hp]at h;obtain⟨s',b1,b2⟩:=E.step p v h;refine⟨s',?_,?_⟩
   ·rw[List.getElem?_append_left (List.getElem?_eq_some_iff.1 b1).1];exact b1
   ·rw[List.getElem?_append_left (List.getElem?_eq_some_iff.1 b2).1];exact b2
  ·have hlt:=(List.getElem?_eq_some_iff.1 h).1;rw[List.length_append,List.length_singleton]at hlt
   have hp:p=es.length:=by omega
   subst hp;rw[List.getElem?_append_right (Nat.le_refl _),Nat.sub_self]at h
   injection h with h
   subst h;refine⟨s,by rw[List.getElem?_append_left hi];exact hs,by simp⟩
 ·rw[List.length_append,List.length_singleton]at h2
  by_cases hk:k<l.length
  ·obtain⟨p,a1,a2,a3⟩:=E.first k h1 hk;have hp:=(List.getElem?_eq_some_iff.1 a2).1;refine⟨p,a1,by rw[List.getElem?_append_left hp];exact a2,fun q v hq hv=>?_⟩;rw[List.getElem?_append_left Qe]at hv;exact a3 q v hq hv
  ·have hk:k=l.length:=by omega
   subst hk;refine⟨es.length,hi,by simp,fun q v hq hv=>?_⟩;rw[List.getElem?_append_left hq]at hv;exact E.lt hv
theorem A6.all(E:A6 δ s0 K l es){Q:α→Prop}(h0:Q s0)(hs: ∀s c,Q s→(0<K→c<K)→Q (δ s c)): ∀(k:Nat) (s:α),l[k]? =some s→Q s:=by
 intro k
 induction k using Nat.strongRecOn with
 |_ k ih=>
  intro s hk
  by_cases h:k=0
  ·subst h;rw[E.head]at hk
   injection hk with hk
   exact hk▸h0
  ·obtain⟨p,a1,a2,_⟩:=E.first k Qe (List.getElem?_eq_some_iff.1 hk).1;obtain⟨s',b1,b2⟩:=E.step p k a2;rw[hk]at b2
   injection b2 with b2
   subst b2;exact hs s' _ (ih _ a1 s' b1) fun hK=>Nat.mod_lt _ hK
end
theorem Xy{α:Type}: ∀{a b:List α},a.Nodup→(∀x∈a,x∈b)→a.length≤b.length
 |[],b,_,_=>by simp
 |x::a,b,h,hs=>by
  obtain⟨b1,b2,rfl⟩:=List.append_of_mem (hs x Qx);have h':=List.nodup_cons.1 h
  have:=Xy (b:=b1++b2) h'.2 fun y hy=>by
   have:=hs y (by simp[hy]);simp only[List.mem_append,List.mem_cons]at this ⊢;rcases this with h1|h1|h1
   ·exact .inl h1
   ·subst h1;exact absurd hy h'.1
   ·exact .inr h1
  simp only[List.length_append,List.length_cons]at this ⊢;omega
end
section

structure Au where
 tr:Nat
 acc:List Bool
 nx:List (List Int)
abbrev Au.n(a:Au):Nat:=a.acc.length
abbrev Au.K(a:Au):Nat:=2^a.tr
def Au.go(a:Au)(s c:Nat):Nat:=(((a.nx[s]?).getD [])[c]?.getD 0).toNat
def Au.ok(a:Au)(s:Nat):Bool:=(a.acc[s]?).getD false
def Au.run(a:Au)(s:Nat)(w:List Nat):Nat:=w.foldl a.go s
def Hv(K:Nat)(w:List Nat):Prop:= ∀c∈w,c<K
structure ZP(a:Au):Prop where
 tr:a.tr≤6
 pos:1≤a.n
 most:a.n≤400
 len:a.nx.length=a.n
 row: ∀r∈a.nx,r.length=a.K∧ ∀z∈r,0≤z∧z<a.n
theorem Au.Kc(a:Au)(s c:Nat)(w:List Nat):a.run s (c::w)=a.run (a.go s c) w:=rfl
theorem ZP.at_{a:Au}(W:ZP a){s c:Nat}(hs:s<a.n)(hc:c<a.K): ∃r z,a.nx[s]? =some r∧r[c]? =some z∧z=((a.go s c:Nat):Int)∧a.go s c<a.n∧r.length=a.K:=by
 obtain⟨r,hr⟩: ∃r,a.nx[s]? =some r:=⟨_,List.getElem?_eq_getElem (by rw[W.len];exact hs)⟩;obtain⟨h1,h2⟩:=W.row r (List.mem_of_getElem? hr);obtain⟨z,hz⟩: ∃z,r[c]? =some z:=⟨_,List.getElem?_eq_getElem (by rw[h1];exact hc)⟩;have h3:=h2 z (List.mem_of_getElem? hz)
 have e:a.go s c=z.toNat:=by unfold Au.go;rw[hr,Option.getD_some,hz,Option.getD_some]
 exact⟨r,z,hr,hz,by omega,by omega,h1⟩
theorem ZP.UJ{a:Au}(W:ZP a){s c:Nat}(hs:s<a.n)(hc:c<a.K):a.go s c<a.n:=by
 obtain⟨_,_,_,_,_,h,_⟩:=W.at_ hs hc;exact h
theorem ZP.Dj{a:Au}(W:ZP a): ∀(w:List Nat) {s:Nat},s<a.n→Hv a.K w→a.run s w<a.n
 |[],s,hs,_=>hs
 |c::w,s,hs,h=>W.Dj w (W.UJ hs (h c Qx)) fun x hx=>h x (by simp[hx])
theorem va{a b:Au}(Wa:ZP a)(Wb:ZP b)(ht:a.tr=b.tr)(hn:a.n=b.n)(hk: ∀s,s<a.n→a.ok s=b.ok s)(hg: ∀s c,s<a.n→c<a.K→a.go s c=b.go s c):a=b:=by
 obtain⟨ta,ca,na⟩:=a;obtain⟨tb,cb,nb⟩:=b;have ht:ta=tb:=ht;subst ht;have hn:ca.length=cb.length:=hn
 have h1:ca=cb:=by
  apply List.ext_getElem?;intro i
  by_cases hi:i<ca.length
  ·have h:(ca[i]?).getD false=(cb[i]?).getD false:=hk i hi
   have hi':i<cb.length:=by omega
   rw[List.getElem?_eq_getElem hi,List.getElem?_eq_getElem hi']at h ⊢;exact congrArg some h
  ·rw[List.getElem?_eq_none Qe,List.getElem?_eq_none Qe]
 clear hk;subst h1;have la:na.length=ca.length:=Wa.len;have lb:nb.length=ca.length:=Wb.len
 have h2:na=nb:=by
  apply List.ext_getElem?;intro i
  by_cases hi:i<ca.length
  ·obtain⟨r,hr⟩: ∃r,na[i]? =some r:=⟨_,List.getElem?_eq_getElem Qe⟩;obtain⟨r',hr'⟩: ∃r,nb[i]? =some r:=⟨_,List.getElem?_eq_getElem Qe⟩;rw[hr,hr'];have e1:=(Wa.row r (List.mem_of_getElem? hr)).1;have e2:=(Wb.row r' (List.mem_of_getElem? hr')).1
   congr 1
   apply List.ext_getElem?;intro c
   by_cases hc:c<2^ta
   ·obtain⟨r1,z,a1,a2,a3,_⟩:=Wa.at_ (s:=i) (c:=c) hi hc;obtain⟨r2,z',b1,b2,b3,_⟩:=Wb.at_ (s:=i) (c:=c) hi hc;have a1:na[i]? =some r1:=a1;have b1:nb[i]? =some r2:=b1;rw[hr]at a1;rw[hr']at b1
    injection a1 with a1
    injection b1 with b1
    subst a1 b1;rw[a2,b2,a3,b3,hg i c hi hc]
   ·rw[List.getElem?_eq_none (by rw[e1];exact Nat.le_of_not_lt hc),List.getElem?_eq_none (by rw[e2];exact Nat.le_of_not_lt hc)]
  ·rw[List.getElem?_eq_none Qe,List.getElem?_eq_none Qe]
 subst h2;rfl
def ZS(a b:Au)(s t:Nat):Prop:= ∀w,Hv a.K w→a.ok (a.run s w)=b.ok (b.run t w)
theorem ZS.go{a b:Au}{s t:Nat}(h:ZS a b s t){c:Nat}(hc:c<a.K):ZS a b (a.go s c) (b.go t c):=fun w hw=>h (c::w) fun x hx=>by
 rcases List.mem_cons.1 hx with rfl|hx
 ·exact hc
 ·exact hw x hx
structure Canon(a:Au):Prop where
 wf:ZP a
 red: ∀s t,s<a.n→t<a.n→ZS a a s t→s=t
 first: ∀k,0<k→k<a.n→ ∃i c,i<k∧c<a.K∧a.go i c=k∧ ∀i' c',(i'<i∨i'=i∧c'<c)→c'<a.K→a.go i' c'<k
theorem Av{a b:Au}(Ca:Canon a)(Cb:Canon b)(ht:a.tr=b.tr)(h0:ZS a b 0 0)(k:Nat)(ih: ∀j,j<k→(j<a.n↔j<b.n)∧(j<a.n→ZS a b j j))(hk:k<a.n):k<b.n∧ZS a b k k:=by
 have hK:a.K=b.K:=by unfold Au.K;rw[ht]
 by_cases hz:k=0
 ·subst hz;exact⟨Cb.wf.pos,h0⟩
 ·obtain⟨i,c,h1,h2,h3,h4⟩:=Ca.first k Qe hk;have hi:=(ih i h1).2 Qe;have hib:=(ih i h1).1.1 Qe;have hl:=hi.go h2;rw[h3]at hl;have htn:=Cb.wf.UJ hib (hK▸h2)
  have hge:k≤b.go i c:=Nat.le_of_not_lt fun hlt=>by
   have h5:=(ih _ hlt).2 ((ih _ hlt).1.2 htn)
   have:=Ca.red k (b.go i c) hk ((ih _ hlt).1.2 htn) fun w hw=>by rw[hl w hw,h5 w hw]
   omega
  have hkb:k<b.n:=by omega
  obtain⟨i2,c2,k1,k2,k3,k4⟩:=Cb.first k Qe hkb
  have he:b.go i c=k:=by
   by_cases e:i2=i∧c2=c
   ·rw[←e.1,←e.2];exact k3
   ·exfalso
    by_cases hlt:i2<i∨i2=i∧c2<c
    ·have h5:=h4 i2 c2 hlt (hK▸k2);have h6:=((ih i2 k1).2 ((ih i2 k1).1.2 Qe)).go (c:=c2) (by rw[hK];exact k2);rw[k3]at h6;have h7:=(ih _ h5).2 Qe
     have:=Cb.red (a.go i2 c2) k ((ih _ h5).1.1 Qe) hkb fun w hw=>by
      rw[←h6 w (by rw[hK];exact hw),h7 w (by rw[hK];exact hw)]
     omega
    ·have:=k4 i c Qe (hK▸h2);omega
  rw[he]at hl;exact⟨hkb,hl⟩
theorem ZS.symm{a b:Au}{s t:Nat}(ht:a.tr=b.tr)(h:ZS a b s t):ZS b a t s:=fun w hw=>(h w (by unfold Au.K;rw[ht];exact hw)).symm
theorem Pn{a b:Au}(Ca:Canon a)(Cb:Canon b)(ht:a.tr=b.tr)(h0:ZS a b 0 0):a=b:=by
 have hK:a.K=b.K:=by unfold Au.K;rw[ht]
 have key: ∀k,(k<a.n↔k<b.n)∧(k<a.n→ZS a b k k):=by
  intro k
  induction k using Nat.strongRecOn with
  |_ k ih=>
   have ih': ∀j,j<k→(j<b.n↔j<a.n)∧(j<b.n→ZS b a j j):=fun j hj=>⟨(ih j hj).1.symm,fun h=>((ih j hj).2 ((ih j hj).1.2 h)).symm ht⟩;refine⟨⟨fun h=>(Av Ca Cb ht h0 k ih h).1,fun h=>(Av Cb Ca ht.symm (h0.symm ht) k ih' h).1⟩,fun h=>(Av Ca Cb ht h0 k ih h).2⟩
 have hn:a.n=b.n:=by
  have h1:=(key a.n).1;have h2:=(key b.n).1;omega
 refine va Ca.wf Cb.wf ht hn (fun s hs=>(key s).2 hs [] fun _ h=>by cases h) fun s c hs hc=>?_;have h1:=((key s).2 hs).go hc;have hlt:=Ca.wf.UJ hs hc;have h2:=(key _).2 hlt
 exact Cb.red _ _ Qe (Cb.wf.UJ Qe (hK▸hc)) fun w hw=>by
  rw[←h1 w (by rw[hK];exact hw),h2 w (by rw[hK];exact hw)]
end
end Go.Proofs.YtildagdnomiahaaGreatDoor
