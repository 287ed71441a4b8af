/-
  Which states accept the same, plainly: classes that are made finer; the least automaton.
-/
import Derived.Test.YtildagdnomiahaaGreatDoorQgAm
namespace Go.Proofs.YtildagdnomiahaaGreatDoor
set_option linter.unusedVariables false
variable {a:Au} {cl cl' xs:List Int} {s:Nat}

abbrev cv(cl:List Int)(s:Nat):Int:=(cl[s]?).getD 0
structure L6(a:Au)(cl:List Int):Prop where
 len:cl.length=a.n
 like: ∀s t,s<a.n→t<a.n→ZS a a s t→cv cl s=cv cl t
 ok: ∀s t,s<a.n→t<a.n→cv cl s=cv cl t→a.ok s=a.ok t
structure FF(a:Au)(cl cl':List Int):Prop where
 len:cl'.length=a.n
 iff: ∀s t,s<a.n→t<a.n→(cv cl' s=cv cl' t↔cv cl s=cv cl t∧ ∀c,c<a.K→cv cl (a.go s c)=cv cl (a.go t c))
def G2(a:Au)(cl:List Int):Prop:= ∀s t,s<a.n→t<a.n→cv cl s=cv cl t→ ∀c,c<a.K→cv cl (a.go s c)=cv cl (a.go t c)
structure XD(a:Au)(cl:List Int):Prop where
 len:cl.length=a.n
 iff: ∀s t,s<a.n→t<a.n→(cv cl s=cv cl t↔ZS a a s t)
theorem L6.qs(W:ZP a)(h:L6 a cl)(f:FF a cl cl'):L6 a cl':=
 ⟨f.len,fun s t hs ht hl=>(f.iff s t hs ht).2 ⟨h.like s t hs ht hl,fun c hc=>h.like _ _ (W.UJ hs hc) (W.UJ ht hc) (hl.go hc)⟩,fun s t hs ht e=>h.ok s t hs ht ((f.iff s t hs ht).1 e).1⟩
theorem L6.IX(W:ZP a)(h:L6 a cl)(st:G2 a cl):XD a cl:=by
 refine⟨h.len,fun s t hs ht=>⟨fun e w hw=>?_,h.like s t hs ht⟩⟩
 induction w generalizing s t with
 |nil=>exact h.ok s t hs ht e
 |cons c w ih=>
  have hc:=hw c Qx;exact ih _ _ (W.UJ hs hc) (W.UJ ht hc) (st s t hs ht e c hc) fun x hx=>hw x (by simp[hx])
theorem KM(hl:cl.length=a.n)(h: ∀s t,s<a.n→t<a.n→(cv cl s=cv cl t↔a.ok s=a.ok t)):L6 a cl:=
 ⟨hl,fun s t hs ht e=>(h s t hs ht).2 (e [] fun _ h=>by cases h),fun s t hs ht e=>(h s t hs ht).1 e⟩
def vj(n:Nat)(cl:List Int)(k:Nat):Prop:=(∀s,s<n→0≤cv cl s∧cv cl s<k)∧ ∀v,v<k→ ∃s,s<n∧cv cl s=((v:Nat):Int)
theorem uM{k k':Nat}(f:FF a cl cl')(h:vj a.n cl k)(h':vj a.n cl' k'):k≤k'∧(k=k'→ ∀s t,s<a.n→t<a.n→cv cl s=cv cl t→cv cl' s=cv cl' t):=by
 have hr: ∃r:Nat→Nat,∀v,v<k→r v<a.n∧cv cl (r v)=((v:Nat):Int):=by
  have: ∀v,∃s,v<k→s<a.n∧cv cl s=((v:Nat):Int):=fun v=>by
   by_cases hv:v<k
   ·obtain⟨s,hs⟩:=h.2 v hv;exact⟨s,fun _=>hs⟩
   ·exact⟨0,fun h=>absurd h hv⟩
  exact Classical.axiomOfChoice this
 obtain⟨r,hr⟩:=hr

 have hnd: ∀m,m≤k→((List.range m).map fun v=>(cv cl' (r v)).toNat).Nodup:=fun m hm=>by
  refine List.pairwise_map.2 ((List.nodup_range (n:=m)).imp_of_mem fun{x y} hx hy hne e=>?_);have hx:=List.mem_range.1 hx;have hy:=List.mem_range.1 hy;obtain⟨x1,x2⟩:=hr x Qe;obtain⟨y1,y2⟩:=hr y Qe;have a1:=h'.1 _ x1;have a2:=h'.1 _ y1
  have e':cv cl' (r x)=cv cl' (r y):=by omega
  have:=((f.iff _ _ x1 y1).1 e').1;omega
 have hin: ∀s,s<a.n→(cv cl' s).toNat∈List.range k':=fun s hs=>by
  have:=h'.1 s hs;exact List.mem_range.2 Qe
 have hall: ∀m,m≤k→ ∀x∈(List.range m).map fun v=>(cv cl' (r v)).toNat,x∈List.range k':=fun m hm x hx=>by
  obtain⟨v,hv,rfl⟩:=List.mem_map.1 hx;exact hin _ (hr v (by have:=List.mem_range.1 hv;omega)).1
 have hle:=Xy (hnd k (Nat.le_refl _)) (hall k (Nat.le_refl _));simp only[List.length_map,List.length_range]at hle;refine⟨hle,fun e s t hs ht hst=>?_⟩

 have key: ∀u,u<a.n→cv cl' u=cv cl' (r (cv cl u).toNat):=fun u hu=>Classical.byContradiction fun hne=>by
  have hv:=h.1 u hu
  have hvk:(cv cl u).toNat<k:=by omega
  obtain⟨r1,r2⟩:=hr _ hvk
  have hnew:((cv cl' u).toNat::(List.range k).map fun v=>(cv cl' (r v)).toNat).Nodup:=by
   refine List.nodup_cons.2 ⟨fun hm=>?_,hnd k (Nat.le_refl _)⟩;obtain⟨v,hv',e'⟩:=List.mem_map.1 hm;have hv':=List.mem_range.1 hv';obtain⟨v1,v2⟩:=hr v hv';have b1:=h'.1 _ v1;have b2:=h'.1 _ hu
   have e2:cv cl' (r v)=cv cl' u:=by omega
   have e3:=((f.iff _ _ v1 hu).1 e2).1
   have e4:v=(cv cl u).toNat:=by omega
   subst e4;exact hne e2.symm
  have:=Xy hnew (b:=List.range k') fun x hx=>by
   rcases List.mem_cons.1 hx with rfl|hx
   ·exact hin u hu
   ·exact hall k (Nat.le_refl _) x hx
  simp only[List.length_cons,List.length_map,List.length_range]at this;omega
 rw[key s hs,key t ht,hst]
theorem IW(f:FF a cl cl')(h: ∀s t,s<a.n→t<a.n→cv cl s=cv cl t→cv cl' s=cv cl' t):G2 a cl:=fun s t hs ht e=>((f.iff s t hs ht).1 (h s t hs ht e)).2
def Jy:List Int→List Int→List Int
 |_,[]=>[]
 |seen,x::xs=>if x∈seen then((seen.idxOf x:Nat):Int)::Jy seen xs else((seen.length:Nat):Int)::Jy (seen++[x]) xs
theorem ZJ: ∀(xs seen:List Int),(Jy seen xs).length=xs.length
 |[],_=>rfl
 |x::xs,seen=>by
  rw[Jy]
  split
  ·rw[List.length_cons,ZJ xs,List.length_cons]
  ·rw[List.length_cons,ZJ xs,List.length_cons]
theorem I3: ∀(xs seen:List Int),seen.Nodup→ ∃all:List Int,seen<+:all∧all.Nodup∧(∀x∈all,x∈seen∨x∈xs)∧ ∀(i:Nat) (x:Int),xs[i]? =some x→ ∃v:Nat,(Jy seen xs)[i]? =some ((v:Nat):Int)∧all[v]? =some x
 |[],seen,h=>⟨seen,List.prefix_refl _,h,fun x hx=>.inl hx,fun i x hi=>by simp at hi⟩
 |x::xs,seen,h=>by
  by_cases hx:x∈seen
  ·obtain⟨all,h1,h2,h3,h4⟩:=I3 xs seen h;refine⟨all,h1,h2,fun y hy=>(h3 y hy).imp id (fun h=>List.mem_cons_of_mem _ h),fun i y hi=>?_⟩;rw[Jy,if_pos hx]
   cases i with
   |zero=>
    injection hi with hi
    subst hi;refine⟨_,rfl,?_⟩;obtain⟨X,rfl⟩:=h1;have hlt:=List.idxOf_lt_length_of_mem hx;rw[List.getElem?_append_left hlt,List.getElem?_eq_getElem hlt,List.getElem_idxOf hlt]
   |succ i=>exact h4 i y hi
  ·have hnd:(seen++[x]).Nodup:=List.nodup_append.2 ⟨h,by simp,fun a ha b hb e=>by rw[List.mem_singleton]at hb;subst hb e;exact hx ha⟩;obtain⟨all,h1,h2,h3,h4⟩:=I3 xs (seen++[x]) hnd;refine⟨all,(List.prefix_append _ _).trans h1,h2,fun y hy=>?_,fun i y hi=>?_⟩
   ·rcases h3 y hy with h|h
    ·rcases List.mem_append.1 h with h|h
     ·exact .inl h
     ·rw[List.mem_singleton]at h;subst h;exact .inr Qx
    ·exact .inr (List.mem_cons_of_mem _ h)
   ·rw[Jy,if_neg hx]
    cases i with
    |zero=>
     injection hi with hi
     subst hi;refine⟨_,rfl,?_⟩;obtain⟨X,rfl⟩:=h1;rw[List.getElem?_append_left Qx];simp
    |succ i=>exact h4 i y hi
theorem AW{t:Nat}(hs:s<xs.length)(ht:t<xs.length):cv (Jy [] xs) s=cv (Jy [] xs) t↔cv xs s=cv xs t:=by
 obtain⟨all,_,h2,_,h4⟩:=I3 xs [] List.nodup_nil;obtain⟨v,a1,a2⟩:=h4 s _ (List.getElem?_eq_getElem hs);obtain⟨u,b1,b2⟩:=h4 t _ (List.getElem?_eq_getElem ht);unfold cv;rw[a1,b1,List.getElem?_eq_getElem hs,List.getElem?_eq_getElem ht];simp only[Option.getD_some];have hv:=(List.getElem?_eq_some_iff.1 a2).1;constructor
 ·intro e
  have e:v=u:=by omega
  subst e;rw[a2]at b2;injection b2
 ·intro e;rw[←e]at b2;rw[(List.getElem?_inj hv h2).1 (a2.trans b2.symm)]
theorem M1(hs:s<xs.length):0≤cv (Jy [] xs) s∧cv (Jy [] xs) s<xs.length:=by
 obtain⟨all,_,h2,h3,h4⟩:=I3 xs [] List.nodup_nil;obtain⟨v,a1,a2⟩:=h4 s _ (List.getElem?_eq_getElem hs);have h5:=Xy h2 (b:=xs) fun x hx=>(h3 x hx).resolve_left Qx;have hv:=(List.getElem?_eq_some_iff.1 a2).1;unfold cv;rw[a1,Option.getD_some];omega
theorem FZ: ∀(xs ys sx sy:List Int),xs.length=ys.length→sx.length=sy.length→sx.Nodup→sy.Nodup→
  (∀(i j:Nat) (x y:Int),xs[i]? =some x→ys[i]? =some y→((∀x',xs[j]? =some x'→ ∀y',ys[j]? =some y'→(x=x'↔y=y'))∧(sx[j]? =some x↔sy[j]? =some y)))→Jy sx xs=Jy sy ys
 |[],[],_,_,_,_,_,_,_=>rfl
 |[],y::ys,_,_,h,_,_,_,_=>by simp at h
 |x::xs,[],_,_,h,_,_,_,_=>by simp at h
 |x::xs,y::ys,sx,sy,h,hl,nx,ny,hk=>by
  have hmem:x∈sx↔y∈sy:=by
   constructor
   ·intro hx;obtain⟨j,hj,e⟩:=List.mem_iff_getElem.1 hx;exact List.mem_of_getElem? (((hk 0 j x y rfl rfl).2).1 (by rw[←e];exact List.getElem?_eq_getElem hj))
   ·intro hy;obtain⟨j,hj,e⟩:=List.mem_iff_getElem.1 hy;exact List.mem_of_getElem? (((hk 0 j x y rfl rfl).2).2 (by rw[←e];exact List.getElem?_eq_getElem hj))
  rw[Jy,Jy]
  by_cases hx:x∈sx
  ·rw[if_pos hx,if_pos (hmem.1 hx)];have hi:=List.idxOf_lt_length_of_mem hx
   have e1:sx[sx.idxOf x]? =some x:=by rw[List.getElem?_eq_getElem hi,List.getElem_idxOf hi]
   have e2:=((hk 0 _ x y rfl rfl).2).1 e1;have hy:=List.idxOf_lt_length_of_mem (hmem.1 hx)
   have e3:sy[sy.idxOf y]? =some y:=by rw[List.getElem?_eq_getElem hy,List.getElem_idxOf hy]
   rw[(List.getElem?_inj hy ny).1 (e3.trans e2.symm)]
   congr 1
   exact FZ xs ys sx sy (by simpa using h) hl nx ny fun i j a b ha hb=>⟨fun x' hx' y' hy'=>(hk (i+1) (j+1) a b ha hb).1 x' hx' y' hy',(hk (i+1) j a b ha hb).2⟩
  ·rw[if_neg hx,if_neg fun h=>hx (hmem.2 h),hl]
   congr 1
   refine FZ xs ys (sx++[x]) (sy++[y]) (by simpa using h) (by simp[hl]) ?_ ?_ fun i j a b ha hb=>⟨fun x' hx' y' hy'=>(hk (i+1) (j+1) a b ha hb).1 x' hx' y' hy',?_⟩
   ·exact List.nodup_append.2 ⟨nx,by simp,fun p hp q hq e=>by rw[List.mem_singleton]at hq;subst hq e;exact hx hp⟩
   ·exact List.nodup_append.2 ⟨ny,by simp,fun p hp q hq e=>by rw[List.mem_singleton]at hq;subst hq e;exact hx (hmem.2 hp)⟩
   ·by_cases hj:j<sx.length
    ·rw[List.getElem?_append_left hj,List.getElem?_append_left Qe];exact(hk (i+1) j a b ha hb).2
    ·by_cases hj2:j=sx.length
     ·subst hj2;rw[List.getElem?_append_right (Nat.le_refl _),List.getElem?_append_right Qe,hl,Nat.sub_self];have:=(hk (i+1) 0 a b ha hb).1 x rfl y rfl;constructor
      ·intro e;injection e with e;rw[this.1 e.symm];rfl
      ·intro e;injection e with e;rw[this.2 e.symm];rfl
     ·rw[List.getElem?_eq_none (by simp;omega),List.getElem?_eq_none (by simp;omega)];simp
def zO(n:Nat):List (Nat×Nat):=(List.range n).flatMap fun s=>(List.range n).map fun t=>(s,t)
def alike(n:Nat)(cl:List Int):Nat:=(zO n).countP fun x=>decide (cv cl x.1=cv cl x.2)
theorem Sk{ys:List Int}(hx:xs.length=a.n)(hy:ys.length=a.n)(f:FF a (Jy [] xs) (Jy [] ys))(h: ∀s t,s<a.n→t<a.n→cv (Jy [] xs) s=cv (Jy [] xs) t→cv (Jy [] ys) s=cv (Jy [] ys) t):Jy [] ys=Jy [] xs:=by
 refine FZ ys xs [] [] Qe rfl List.nodup_nil List.nodup_nil fun i j y x hyi hxi=>⟨fun y' hy' x' hx'=>?_,by simp⟩;have hi:=(List.getElem?_eq_some_iff.1 hyi).1;have hj:=(List.getElem?_eq_some_iff.1 hy').1;have e1:=AW (xs:=xs) (s:=i) (t:=j) Qe Qe;have e2:=AW (xs:=ys) (s:=i) (t:=j) hi hj;unfold cv at e1 e2;rw[hxi,hx']at e1;rw[hyi,hy']at e2;simp only[Option.getD_some]at e1 e2;constructor
 ·intro e;exact e1.1 ((f.iff i j Qe Qe).1 (e2.2 e)).1
 ·intro e;exact e2.1 (h i j Qe Qe (e1.2 e))
structure jy(K:Nat)(rows:List (List Int))(es:List Nat):Prop where
 len: ∀r∈rows,r.length=K
 flat:rows.flatten=es.map fun v=>((v:Nat):Int)
theorem NL{α:Type}{K:Nat}: ∀{rows:List (List α)},(∀r∈rows,r.length=K)→rows.flatten.length=rows.length *K
 |[],_=>by simp
 |r::rows,h=>by
  rw[List.flatten_cons,List.length_append,NL fun x hx=>h x (by simp[hx]),h r Qx,List.length_cons,Nat.succ_mul,Nat.add_comm]
theorem Rj{α:Type}{K:Nat}: ∀{rows:List (List α)} {i c:Nat} {r:List α},(∀r∈rows,r.length=K)→rows[i]? =some r→c<K→rows.flatten[i *K+c]? =r[c]?
 |[],i,c,r,_,h,_=>by simp at h
 |x::rows,0,c,r,h,hr,hc=>by
  injection hr with hr
  subst hr;rw[Nat.zero_mul,Nat.zero_add,List.flatten_cons,List.getElem?_append_left (by rw[h x Qx];exact hc)]
 |x::rows,i+1,c,r,h,hr,hc=>by
  have hx:=h x Qx;rw[List.flatten_cons,Nat.succ_mul,List.getElem?_append_right Qe,hx,show i *K+K+c-K=i *K+c by omega];exact Rj (fun y hy=>h y (by simp[hy])) hr hc
theorem jy.go{a:Au}{es:List Nat}(R:jy a.K a.nx es){i c:Nat}(hi:i<a.nx.length)(hc:c<a.K):es[i *a.K+c]? =some (a.go i c)∧ ∃r,a.nx[i]? =some r∧r[c]? =some ((a.go i c:Nat):Int):=by
 obtain⟨r,hr⟩: ∃r,a.nx[i]? =some r:=⟨_,List.getElem?_eq_getElem hi⟩;have hl:=R.len r (List.mem_of_getElem? hr);have h1:=Rj R.len hr hc;obtain⟨z,hz⟩: ∃z,r[c]? =some z:=⟨_,List.getElem?_eq_getElem (by rw[hl];exact hc)⟩;rw[R.flat,List.getElem?_map,hz]at h1
 cases hv:es[i *a.K+c]? with
 |none=>rw[hv]at h1;cases h1
 |some v=>
  rw[hv]at h1
  injection h1 with h1
  have e:a.go i c=v:=by unfold Au.go;rw[hr,Option.getD_some,hz,Option.getD_some,←h1];simp
  exact⟨by rw[e],r,hr,by rw[hz,e];exact congrArg some h1.symm⟩
structure Ur{α:Type}(δ:α→Nat→α)(s0:α)(p:α→Bool)(l:List α)(m:Au):Prop where
 ex: ∃es,A6 δ s0 m.K l es∧jy m.K m.nx es
 len:m.nx.length=l.length
 acc:m.acc=l.map p
 tr:m.tr≤6
 most:l.length≤400
section
variable {α:Type} {δ:α→Nat→α} {s0:α} {p:α→Bool} {l:List α} {m:Au}
theorem Ur.n(H:Ur δ s0 p l m):m.n=l.length:=by unfold Au.n;rw[H.acc,List.length_map]
theorem Ur.go(H:Ur δ s0 p l m){i c:Nat}{s:α}(hs:l[i]? =some s)(hc:c<m.K):l[m.go i c]? =some (δ s c):=by
 obtain⟨es,E,R⟩:=H.ex;have hi:=(List.getElem?_eq_some_iff.1 hs).1;obtain⟨h1,_⟩:=R.go (a:=m) (by rw[H.len];exact hi) hc;obtain⟨s',b1,b2⟩:=E.step _ _ h1
 have e1:(i *m.K+c)/m.K=i:=by rw[Nat.mul_comm,Nat.mul_add_div Qe,Nat.div_eq_of_lt hc];rfl
 have e2:(i *m.K+c) % m.K=c:=by rw[Nat.mul_comm,Nat.mul_add_mod];exact Nat.mod_eq_of_lt hc
 rw[e1,hs]at b1
 injection b1 with b1
 subst b1;rw[e2]at b2;exact b2
theorem Ur.head(H:Ur δ s0 p l m):l[0]? =some s0:=by obtain⟨es,E,R⟩:=H.ex;exact E.head
theorem Ur.nodup(H:Ur δ s0 p l m):l.Nodup:=by obtain⟨es,E,R⟩:=H.ex;exact E.nodup
theorem Ur.wf(H:Ur δ s0 p l m):ZP m:=by
 have hp:=(List.getElem?_eq_some_iff.1 H.head).1;obtain⟨es,E,R⟩:=H.ex;refine⟨H.tr,by rw[H.n];exact hp,by rw[H.n];exact H.most,by rw[H.n];exact H.len,fun r hr=>⟨R.len r hr,fun z hz=>?_⟩⟩
 obtain⟨v,hv,rfl⟩: ∃v∈es,((v:Nat):Int)=z:=by
  have:z∈m.nx.flatten:=List.mem_flatten.2 ⟨r,hr,hz⟩;rw[R.flat]at this;exact List.mem_map.1 this
 obtain⟨q,hq⟩:=List.getElem?_of_mem hv;have:=E.lt hq;rw[H.n];omega
theorem Ur.run(H:Ur δ s0 p l m)(w:List Nat): ∀{i:Nat} {s:α},l[i]? =some s→Hv m.K w→l[m.run i w]? =some (w.foldl δ s):=by
 induction w with
 |nil=>intro i s hs _;exact hs
 |cons c w ih=>intro i s hs hw;exact ih (H.go hs (hw c Qx)) fun x hx=>hw x (by simp[hx])
theorem Ur.ok(H:Ur δ s0 p l m){i:Nat}{s:α}(hs:l[i]? =some s):m.ok i=p s:=by
 unfold Au.ok;rw[H.acc,List.getElem?_map,hs];rfl
theorem Ur.DD(H:Ur δ s0 p l m){w:List Nat}(hw:Hv m.K w):m.ok (m.run 0 w)=p (w.foldl δ s0):=H.ok (H.run w H.head hw)
theorem Ur.first(H:Ur δ s0 p l m): ∀k,0<k→k<m.n→ ∃i c,i<k∧c<m.K∧m.go i c=k∧ ∀i' c',(i'<i∨i'=i∧c'<c)→c'<m.K→m.go i' c'<k:=by
 intro k h1 h2;rw[H.n]at h2;have hln:=H.len;obtain⟨es,E,R⟩:=H.ex;obtain⟨q,a1,a2,a3⟩:=E.first k h1 h2;have hK:0<m.K:=Nat.two_pow_pos _;have hq:q/m.K *m.K+q % m.K=q:=Nat.div_add_mod' q m.K;have hr:=Nat.mod_lt q hK;have hg:=(R.go (a:=m) (i:=q/m.K) (c:=q % m.K) Qe hr).1;rw[hq,a2]at hg
 injection hg with hg
 refine⟨q/m.K,q % m.K,a1,hr,hg.symm,fun i' c' hlt hc'=>?_⟩
 have hi':i'<m.nx.length:=by rcases hlt with h|h<;>omega
 have hg':=(R.go (a:=m) hi' hc').1;refine a3 _ _ ?_ hg';rcases hlt with h|⟨rfl,h⟩
 ·have:=Nat.mul_le_mul_right m.K (show i'+1≤q/m.K from h);rw[Nat.succ_mul]at this;omega
 ·omega
end
noncomputable def TT(n:Nat)(cl:List Int)(k:Int):Nat:=((List.range n).find? fun s=>decide (cv cl s=k)).getD 0
theorem PF{n:Nat}(hs:s<n):TT n cl (cv cl s)<n∧cv cl (TT n cl (cv cl s))=cv cl s:=by
 unfold TT
 cases h:(List.range n).find? fun t=>decide (cv cl t=cv cl s)with
 |none=>
  have:=List.find?_eq_none.1 h s (List.mem_range.2 hs);simp at this
 |some t=>
  have h1:=List.find?_some h;have h2:=List.mem_of_find?_eq_some h;exact⟨List.mem_range.1 h2,of_decide_eq_true h1⟩
noncomputable def Cx(a:Au)(cl:List Int)(k:Int)(c:Nat):Int:=cv cl (a.go (TT a.n cl k) c)
theorem Gp(st:G2 a cl){c:Nat}(hs:s<a.n)(hc:c<a.K):Cx a cl (cv cl s) c=cv cl (a.go s c):=by
 obtain⟨h1,h2⟩:=PF (cl:=cl) hs;exact st _ _ h1 hs h2 c hc
theorem XD.IX(W:ZP a)(h:XD a cl):G2 a cl:=fun s t hs ht e c hc=>(h.iff _ _ (W.UJ hs hc) (W.UJ ht hc)).2 (((h.iff s t hs ht).1 e).go hc)
noncomputable def y9(a:Au)(cl:List Int)(k:Int):Bool:=a.ok (TT a.n cl k)
theorem Rt(h:XD a cl)(hs:s<a.n):y9 a cl (cv cl s)=a.ok s:=by
 obtain⟨h1,h2⟩:=PF (cl:=cl) hs
 exact(h.iff _ _ h1 hs).1 h2 [] fun _ h=>by cases h
theorem Sp{m:Au}{l:List Int}(W:ZP a)(h:XD a cl)(ht:m.tr=a.tr)(H:Ur (Cx a cl) (cv cl 0) (y9 a cl) l m):Canon m∧ZS m a 0 0:=by
 have hK:m.K=a.K:=by unfold Au.K;rw[ht]
 have hst:=h.IX W

 have hin: ∀(k:Nat) (x:Int),l[k]? =some x→ ∃s,s<a.n∧x=cv cl s:=by
  obtain⟨es,E,R⟩:=H.ex
  exact E.all (Q:=fun x=> ∃s,s<a.n∧x=cv cl s) ⟨0,W.pos,rfl⟩ fun x c hx hc=>by
   obtain⟨s,hs,rfl⟩:=hx;have hc:=hc (Nat.two_pow_pos _);exact⟨a.go s c,W.UJ hs (hK▸hc),Gp hst hs (hK▸hc)⟩
 have hrun: ∀(w:List Nat) (s:Nat),s<a.n→Hv m.K w→w.foldl (Cx a cl) (cv cl s)=cv cl (a.run s w):=by
  intro w
  induction w with
  |nil=>intro s _ _;rfl
  |cons c w ih=>
   intro s hs hw;have hc:c<a.K:=hK▸hw c Qx;show w.foldl (Cx a cl) (Cx a cl (cv cl s) c)=cv cl (a.run (a.go s c) w);rw[Gp hst hs hc];exact ih _ (W.UJ hs hc) fun x hx=>hw x (by simp[hx])
 have hlike: ∀(k s:Nat),l[k]? =some (cv cl s)→s<a.n→ZS m a k s:=fun k s hk hs w hw=>by
  rw[H.ok (H.run w hk hw),hrun w s hs hw];exact Rt h (W.Dj w hs (hK▸hw))
 refine⟨⟨H.wf,fun s t hs ht hst'=>?_,H.first⟩,hlike 0 0 H.head W.pos⟩;rw[H.n]at hs ht;obtain⟨x,hx⟩: ∃x,l[s]? =some x:=⟨_,List.getElem?_eq_getElem hs⟩;obtain⟨y,hy⟩: ∃y,l[t]? =some y:=⟨_,List.getElem?_eq_getElem ht⟩;obtain⟨u,hu,rfl⟩:=hin s x hx;obtain⟨v,hv,rfl⟩:=hin t y hy
 have e:=(h.iff u v hu hv).2 fun w hw=>by
  rw[←hlike s u hx hu w (hK▸hw),←hlike t v hy hv w (hK▸hw)];exact hst' w (hK▸hw)
 exact(List.getElem?_inj hs H.nodup).1 (by rw[hx,hy,e])
end Go.Proofs.YtildagdnomiahaaGreatDoor
