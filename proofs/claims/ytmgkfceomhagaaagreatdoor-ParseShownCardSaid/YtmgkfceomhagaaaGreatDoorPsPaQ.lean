/-
  Nodes that are read off rows that are said; rows that are new.
-/
import Derived.Test.YtmgkfceomhagaaaGreatDoorPsPaP
set_option linter.unusedSectionVars false
set_option linter.unusedSimpArgs false
set_option linter.unusedVariables false
namespace Go.Proofs.YtmgkfceomhagaaaGreatDoor
open Go Go.RowKit
section
variable {R:Ko} {cs:List AV}

inductive U5(R:Ko):Nd→List AV→Prop
 |leaf {op name:List Nat} {n at_:Int} {ks:AV} (hs:Ee ks=some 0) (ha:wT ks=true) (hb:Bytes op∧Bytes name):U5 R (.mk op name n at_ []) [.str op,.str name,.int .i64 n,.int .i64 at_,ks]
 |node {op name:List Nat} {n at_:Int} {kids:List Nd} {c m off:Nat} {cells:List AV} (hr:R c m cells) (hn:(kids.length:Int)≤9223372036854775807) (hl:off+kids.length *5≤cells.length)
  (hk: ∀(i:Nat) (k:Nd),kids[i]? =some k→U5 R k ((cells.drop (off+i *5)).take 5)) (hb:Bytes op∧Bytes name):U5 R (.mk op name n at_ kids) [.str op,.str name,.int .i64 n,.int .i64 at_,.sl c m off kids.length 5]
theorem U5.mono{R':Ko}(hl: ∀c m l,R c m l→R' c m l){t:Nd}(r:U5 R t cs):U5 R' t cs:=by
 induction r with
 |leaf hs ha hb=>exact .leaf hs ha hb
 |node hr hn hl' hk hb ih=>exact .node (hl _ _ _ hr) hn hl' ih hb
theorem U5.Gq{h:Hp}(hl:vq R h){t:Nd}(r:U5 R t cs):VD h t cs:=by
 induction r with
 |leaf hs ha hb=>exact .leaf hs ha hb
 |node hr hn hl' hk hb ih=>exact .node (hl _ _ _ hr) hn hl' ih hb
inductive VR(R:Ko):List Nd→AV→List (List AV)→Prop
 |none {kk:AV} (hs:Ee kk=some 0) (ha:wT kk=true):VR R [] kk []
 |row {kids:List Nd} {ls:List (List AV)} {c m off:Nat} {cells:List AV} (hr:R c m cells) (hn:(kids.length:Int)≤9223372036854775807) (hl:off+kids.length *5≤cells.length) (hls:ls.length=kids.length)
  (hcs: ∀(i:Nat) (cs:List AV),ls[i]? =some cs→cs=(cells.drop (off+i *5)).take 5) (hk: ∀(i:Nat) (k:Nd) (cs:List AV),kids[i]? =some k→ls[i]? =some cs→U5 R k cs):VR R kids (.sl c m off kids.length 5) ls
theorem VR.mono{R R':Ko}(hl: ∀c m l,R c m l→R' c m l){kids:List Nd}{kk:AV}{ls:List (List AV)}(K:VR R kids kk ls):VR R' kids kk ls:=by
 cases K with
 |none hs ha=>exact .none hs ha
 |row hr hn hl' hls hcs hk=>exact .row (hl _ _ _ hr) hn hl' hls hcs fun i k cs h1 h2=>(hk i k cs h1 h2).mono hl
theorem VR.len{kids:List Nd}{kk:AV}{ls:List (List AV)}(K:VR R kids kk ls):Ee kk=some kids.length:=by
 cases K with
 |none hs ha=>exact hs
 |row=>rfl
theorem VR.cell{kids:List Nd}{kk:AV}{ls:List (List AV)}(K:VR R kids kk ls):Jn kk=true:=Hl K.len
theorem U5.wY{k:Nd}(r:U5 R k cs):cs.length=5:=by cases r<;>rfl
theorem U5.JT{op name:List Nat}{n at_:Int}{kids:List Nd}(r:U5 R (.mk op name n at_ kids) cs):
  ∃kk ls,cs=[.str op,.str name,.int .i64 n,.int .i64 at_,kk]∧VR R kids kk ls∧Bytes op∧Bytes name:=by
 cases r with
 |leaf hs ha hb=>exact⟨_,[],rfl,.none hs ha,hb⟩
 |node hr hn hl hk hb=>
  rename_i c m off cells
  have hlen:((List.range kids.length).map fun i=>(cells.drop (off+i *5)).take 5).length=kids.length:=by simp
  have hat: ∀(i:Nat) (cs:List AV),((List.range kids.length).map fun i=>(cells.drop (off+i *5)).take 5)[i]? =some cs→i<kids.length∧cs=(cells.drop (off+i *5)).take 5:=by
   intro i cs hi;rw[List.getElem?_map]at hi
   have hlt:i<kids.length:=by
    by_cases h:i<kids.length
    ·exact h
    ·rw[List.getElem?_eq_none (by simp;omega)]at hi;cases hi
   rw[List.getElem?_range hlt]at hi
   injection hi with hi
   exact⟨hlt,hi.symm⟩
  refine⟨_,(List.range kids.length).map fun i=>(cells.drop (off+i *5)).take 5,rfl,.row hr hn hl hlen (fun i cs hi=>(hat i cs hi).2) fun i k cs h1 h2=>?_,hb⟩;rw[(hat i cs h2).2];exact hk i k h1
theorem VR.node{R:Ko}{op name:List Nat}{n at_:Int}{kids:List Nd}{kk:AV}{ls:List (List AV)}(K:VR R kids kk ls)(hb:Bytes op∧Bytes name):U5 R (.mk op name n at_ kids) [.str op,.str name,.int .i64 n,.int .i64 at_,kk]:=by
 cases K with
 |none hs ha=>exact .leaf hs ha hb
 |row hr hn hl hls hcs hk=>
  refine .node hr hn hl (fun i k hi=>?_) hb
  have hlt:i<ls.length:=by rw[hls];exact(List.getElem?_eq_some_iff.1 hi).1
  have h1:=List.getElem?_eq_getElem hlt;rw[←hcs i _ h1];exact hk i k _ hi h1
theorem U5.cell{R:Ko}{op name:List Nat}{n at_:Int}{kids:List Nd}{a b c d kk:AV}(r:U5 R (.mk op name n at_ kids) [a,b,c,d,kk]):Jn kk=true:=by
 obtain⟨kk',ls,e,K,_⟩:=r.JT
 injection e with _ e
 injection e with _ e
 injection e with _ e
 injection e with _ e
 injection e with e
 subst e;exact K.cell
structure PI(n0:Nat)(st':St)(A:UT):Prop where
 row: ∀c m l,(c,m,l)∈A→Jh st'.h.get c m l
 own: ∀c m l,(c,m,l)∈A→n0≤c
 nodup:(A.map Prod.fst).Nodup
section
variable {h0:Hp} {n0:Nat} {st st':St} {M L A B:UT}
theorem Mem.T8(h:Mem h0 n0 [] st M)(q:Qt st st')(s:PI st.n st' A):Mem h0 n0 [] st' (M++(A++[])):=by
 rw[List.append_nil];refine h.T9 (q.Uh []) (fun c hc=>by simp at hc) ?_ fun c m l hm=>?_
 ·rw[List.map_append];refine List.nodup_append.2 ⟨h.nodup,s.nodup,fun x hx y hy e=>?_⟩;subst e;obtain⟨⟨c1,m1,l1⟩,h1,rfl⟩:=List.mem_map.1 hx;obtain⟨⟨c2,m2,l2⟩,h2,e⟩:=List.mem_map.1 hy;have e:c2=c1:=e;subst e;have:=h.lt _ _ _ h1;have:=s.own _ _ _ h2;omega
 ·rcases List.mem_append.1 hm with hm|hm
  ·exact .inl ⟨hm,by simp⟩
  ·exact .inr ⟨s.row _ _ _ hm,.inr (s.own _ _ _ hm)⟩
theorem Mem.qy{st0:St}(h:Mem st0.h.get st0.n [] st' M)(hs:A.Sublist M):PI st0.n st' A:=
 ⟨fun c m l hm=>h.row c m l (hs.subset hm),fun c m l hm=>(h.own c m l (hs.subset hm)).resolve_right Q3,h.nodup.sublist (hs.map _)⟩
theorem Mem.ea(h:Mem h0 n0 [] st M)(hR:Proofs.YtmgkfceomhagaaaGreatDoor.vq R h0)(hB: ∀x∈B,x∈M):Proofs.YtmgkfceomhagaaaGreatDoor.vq (UX R B) st.h.get:=fun c m l hr=>hr.elim (fun x=>h.rows c m l (hR c m l x)) fun x=>Jh.Vr (h.row c m l (hB _ x))
end
def JQ(R:Ko)(st st':St)(k:Nd)(v:AV):Prop:= ∃o s z a l kk A,k=.mk o s z a l∧v=.agg [.str o,.str s,.int .i64 z,.int .i64 a,kk]∧PI st.n st' A∧U5 (UX R A) k [.str o,.str s,.int .i64 z,.int .i64 a,kk]
def As{α:Type}(R:Ko)(f:α→Nd)(l:List α)(lsn:List (List AV)):Prop:= ∀(j:Nat) (k:α) (cs:List AV),l[j]? =some k→lsn[j]? =some cs→U5 R (f k) cs
theorem As.nil{α:Type}{f:α→Nd}{l:List α}:As R f l []:=fun j k cs _ h=>by simp at h
theorem As.mono{α:Type}{R R':Ko}(hl: ∀c m l,R c m l→R' c m l){f:α→Nd}{l:List α}{lsn:List (List AV)}(h:As R f l lsn):As R' f l lsn:=fun j k cs h1 h2=>(h j k cs h1 h2).mono hl
theorem As.ao{α:Type}{f:α→Nd}{l:List α}{lsn:List (List AV)}{k:α}(h:As R f l lsn)(hn:lsn.length=l.length)(hk:U5 R (f k) cs):As R f (l++[k]) (lsn++[cs]):=by
 intro j k' cs' h1 h2
 by_cases hj:j<lsn.length
 ·rw[List.getElem?_append_left hj]at h2;rw[List.getElem?_append_left Qq]at h1;exact h j k' cs' h1 h2
 ·have hji:j=l.length:=by
   have:=(List.getElem?_eq_some_iff.1 h2).1;rw[List.length_append]at this;simp at this;omega
  subst hji;rw[List.getElem?_append_right Qq,hn,Nat.sub_self]at h2;rw[List.getElem?_append_right Qq,Nat.sub_self]at h1
  injection h1 with h1
  injection h2 with h2
  subst h1 h2;exact hk
theorem As.kids{α:Type}{A:UT}{f:α→Nd}{l:List α}{lsn:List (List AV)}{n0:Nat}{ks:AV}(h:As R f l lsn)(hn:lsn.length=l.length)(hA:Acc n0 5 A ks lsn):VR (UX R A) (l.map f) ks lsn:=by
 have hz: ∀(i:Nat) (k:Nd) (cs:List AV),(l.map f)[i]? =some k→lsn[i]? =some cs→U5 (UX R A) k cs:=by
  intro i k cs h1 h2;rw[List.getElem?_map]at h1;obtain⟨y,hy,rfl⟩:=Option.map_eq_some_iff.1 h1;exact(h i y cs hy h2).mono fun _ _ _ x=>.inl x
 cases hA with
 |none=>
  have:l=[]:=List.length_eq_zero_iff.1 hn.symm;subst this;exact .none rfl rfl
 |own hc hz5 hb=>
  have e:lsn.length=(l.map f).length:=by rw[List.length_map];exact hn
  rw[e];refine .row (.inr (List.mem_singleton.2 rfl)) (by rw[←e];omega) ?_ e (fun i cs hi=>?_) hz
  ·rw[WK hz5,←e];omega
  ·rw[Nat.zero_add];exact(FE i cs hz5 hi).symm
end
section
set_option maxRecDepth 100000
variable {R:Ko} {a z:Int} {c:Nat} {k:Nd} {kk:AV} {o s:List Nat}

def Tk.cells(t:Tk):List AV:=[.int .i64 t.k,.str t.s,.int .i64 t.n,.int .i64 t.a]
abbrev Wu(kl:AV)(S:PS):List AV:=[kl,.int .i64 (S.i:Nat),.int .i64 S.e,.int .i64 S.a]
structure Us(L:List Tk):Prop where
 t:zg L
 b: ∀t∈L,Bytes t.s
 n:L.length≤100000
theorem Ku{L:List Tk}{i:Nat}{t:Tk}(h:L[i]? =some t):(L.map Tk.cells)[i]? =some t.cells:=by rw[List.getElem?_map,h];rfl
theorem BP{L:List Tk}{S:PS}{t:Tk}(he:S.e=0)(h:L[S.i]? =some t):Qc L S=t:=by rw[Qc,if_neg (by simp[he]),h];rfl
theorem Ag{L:List Tk}{S:PS}(he: ¬S.e=0):Qc L S=Lv:=by rw[Qc,if_pos he]
theorem Qh{L:List Tk}(h:Us L)(S:PS):Bytes (Qc L S).s:=by
 unfold Qc
 split
 ·intro x hx;cases hx
 ·cases hq:L[S.i]? with
  |none=>intro x hx;cases hx
  |some t=>exact h.b t (List.mem_of_getElem? hq)
theorem Qk{L:List Tk}(h:Us L)(S:PS):Bytes (Jc L S).s:=by
 unfold Jc
 split
 ·intro x hx;cases hx
 ·exact Qh h S
abbrev R0:Ko:=fun _ _ _=>False
section
variable {h0:Hp} {n0:Nat} {X:List Nat} {st st':St} {M L A B:UT}
theorem Mem.QG(h:Mem h0 n0 X st M){k m m':Nat}{l l':List AV}(hk:M[k]? =some (c,m,l))(q:Vq [c] st st')(r:Jh st'.h.get c m' l')(s:PI st.n st' A):Mem h0 n0 X st' (M.set k (c,m',l')++(A++[])):=by
 have hm0:=List.mem_of_getElem? hk;have h1:=h.J8 hk q r;rw[List.append_nil];refine h.T9 q (fun c' hc=>?_) ?_ fun c1 m1 l1 hm=>?_
 ·rw[List.mem_singleton]at hc;subst hc;exact⟨m,l,hm0⟩
 ·rw[List.map_append];refine List.nodup_append.2 ⟨h1.nodup,s.nodup,fun x hx y hy e=>?_⟩;subst e;obtain⟨⟨c1,m1,l1⟩,h2,rfl⟩:=List.mem_map.1 hx;obtain⟨⟨c2,m2,l2⟩,h3,e⟩:=List.mem_map.1 hy;have e:c2=c1:=e;subst e
  have hlt:c2<st.n:=by
   rcases List.mem_or_eq_of_mem_set h2 with h4|h4
   ·exact h.lt _ _ _ h4
   ·injection h4 with h4 _
    rw[h4];exact h.lt _ _ _ hm0
  have:=s.own _ _ _ h3;omega
 ·rcases List.mem_append.1 hm with hm|hm
  ·by_cases hc:c1=c
   ·subst hc;exact .inr ⟨h1.row _ _ _ hm,.inl ⟨m,l,hm0⟩⟩
   ·refine .inl ⟨?_,by simpa using hc⟩;obtain⟨i,hi⟩:=List.getElem?_of_mem hm;rw[List.getElem?_set]at hi
    by_cases hki:k=i
    ·subst hki;have:=(List.getElem?_eq_some_iff.1 hk).1;simp[this]at hi;exact absurd hi.1.symm hc
    ·rw[if_neg hki]at hi;exact List.mem_of_getElem? hi
  ·exact .inr ⟨s.row _ _ _ hm,.inr (s.own _ _ _ hm)⟩
theorem Mem.JE{st0:St}{m k:Nat}{l:List AV}(h:Mem st0.h.get st0.n [c] st' M)(hk:M[k]? =some (c,m,l))(hs:A.Sublist (M.eraseIdx k)):PI st0.n st' A:=by
 have hsub:(M.eraseIdx k).Sublist M:=List.eraseIdx_sublist ..;refine⟨fun c' m' l' hm=>h.row c' m' l' (hsub.subset (hs.subset hm)),fun c' m' l' hm=>?_,h.nodup.sublist ((hs.trans hsub).map _)⟩;refine(h.own c' m' l' (hsub.subset (hs.subset hm))).resolve_right fun hc=>?_;rw[List.mem_singleton]at hc;subst hc;obtain⟨i,hi⟩:=List.getElem?_of_mem (hs.subset hm);rw[List.getElem?_eraseIdx]at hi
 have key: ∀j,M[j]? =some (c',m',l')→j=k:=fun j hj=>by
  have h1:(M.map Prod.fst)[j]? =some c':=by rw[List.getElem?_map,hj];rfl
  have h2:(M.map Prod.fst)[k]? =some c':=by rw[List.getElem?_map,hk];rfl
  exact(List.getElem?_inj (List.getElem?_eq_some_iff.1 h1).1 h.nodup).1 (h1.trans h2.symm)
 split at hi
 ·have:=key _ hi;omega
 ·have:=key _ hi;omega
end
theorem GK{A:UT}{ks:List Nd}{ls:List (List AV)}(hr:(c,0,ls.flatten)∈A)(hl:ls.length=ks.length)(hn:ks.length≤1000000)(hz: ∀cs∈ls,cs.length=5)(hk: ∀(i:Nat) (k:Nd) (cs:List AV),ks[i]? =some k→ls[i]? =some cs→U5 (UX R0 A) k cs)(hb:Bytes o∧Bytes s):
  U5 (UX R0 A) (.mk o s z a ks) [.str o,.str s,.int .i64 z,.int .i64 a,.sl c 0 0 ks.length 5]:=by
 refine .node (.inr hr) Qq (by rw[WK hz,hl];omega) (fun i k hi=>?_) hb
 have hlt:i<ls.length:=by rw[hl];exact(List.getElem?_eq_some_iff.1 hi).1
 have h1:=FE i _ hz (List.getElem?_eq_getElem hlt);rw[Nat.zero_add,h1];exact hk i k _ hi (List.getElem?_eq_getElem hlt)
theorem node1{A:UT}{kc:List AV}(hr:(c,0,kc)∈A)(hk:U5 (UX R0 A) k kc)(hb:Bytes o∧Bytes s):U5 (UX R0 A) (.mk o s z a [k]) [.str o,.str s,.int .i64 z,.int .i64 a,.sl c 0 0 1 5]:=by
 refine GK (ks:=[k]) (ls:=[kc]) (by simpa using hr) rfl Q3 (by intro cs h;rw[List.mem_singleton]at h;rw[h];exact hk.wY) (fun i k' cs h1 h2=>?_) hb
 match i,h1,h2 with
 |0,h1,h2=>injection h1 with h1;injection h2 with h2;subst h1 h2;exact hk
theorem node2{A:UT}{j:Nd}{kc jc:List AV}(hr:(c,0,kc++jc)∈A)(hk:U5 (UX R0 A) k kc)(hj:U5 (UX R0 A) j jc)(hb:Bytes o∧Bytes s):U5 (UX R0 A) (.mk o s z a [k,j]) [.str o,.str s,.int .i64 z,.int .i64 a,.sl c 0 0 2 5]:=by
 refine GK (ks:=[k,j]) (ls:=[kc,jc]) (by simpa using hr) rfl Q3 (by intro cs h;rcases List.mem_cons.1 h with h|h;rw[h];exact hk.wY;rw[List.mem_singleton]at h;rw[h];exact hj.wY) (fun i k' cs h1 h2=>?_) hb
 match i,h1,h2 with
 |0,h1,h2=>injection h1 with h1;injection h2 with h2;subst h1 h2;exact hk
 |1,h1,h2=>injection h1 with h1;injection h2 with h2;subst h1 h2;exact hj
theorem UK(hb:Bytes o∧Bytes s):U5 R (.mk o s z a []) [.str o,.str s,.int .i64 z,.int .i64 a,.nils]:=.leaf rfl rfl hb
theorem Qj:Bytes []:=fun x h=>by cases h
theorem U5.Jd{a b c d:AV}(r:U5 R k [a,b,c,d,kk]):Jn kk=true:=by cases k;exact r.cell
def aW:Nd→Nat
 |.mk _ _ _ _ l=>l.length
theorem U5.Fa{a b c d:AV}(r:U5 R k [a,b,c,d,kk]):Ee kk=some (aW k):=by
 obtain⟨o,s,z,at_,l⟩:=k;obtain⟨kk',ls,e,K,_⟩:=r.JT
 injection e with _ e
 injection e with _ e
 injection e with _ e
 injection e with _ e
 injection e with e _
 subst e;exact K.len
theorem U5.shape(r:U5 R k [.str o,.str s,.int .i64 z,.int .i64 a,kk]): ∃l,k=.mk o s z a l:=by
 obtain⟨o1,s1,z1,a1,l⟩:=k;obtain⟨kk',ls,e,K,_⟩:=r.JT
 injection e with e1 e
 injection e with e2 e
 injection e with e3 e
 injection e with e4 e
 injection e1 with e1
 injection e2 with e2
 injection e3 with _ e3
 injection e4 with _ e4
 subst e1 e2 e3 e4;exact⟨l,rfl⟩
theorem JQ.of{st st':St}{A:UT}(r:U5 (UX R A) k [.str o,.str s,.int .i64 z,.int .i64 a,kk])(h:PI st.n st' A):JQ R st st' k (.agg [.str o,.str s,.int .i64 z,.int .i64 a,kk]):=by
 obtain⟨l,rfl⟩:=r.shape;exact⟨_,_,_,_,_,_,A,rfl,rfl,h,r⟩
def LD(st st':St)(l:List Nd)(v:AV):Prop:= ∃lsn A B,Acc st.n 5 A v lsn∧lsn.length=l.length∧As (UX R0 B) (fun k=>k) l lsn∧PI st.n st' (A++B)
theorem LD.kids{st st':St}{l:List Nd}{v:AV}(h:LD st st' l v): ∃ls A,VR (UX R0 A) l v ls∧PI st.n st' A:=by
 obtain⟨lsn,A,B,h1,h2,h3,h4⟩:=h;refine⟨lsn,A++B,?_,h4⟩;have:=h3.kids h2 h1;rw[List.map_id']at this
 exact this.mono fun c m l h=>by
  rcases h with(h|h)|h
  ·exact h.elim
  ·exact .inr (List.mem_append_right _ h)
  ·exact .inr (List.mem_append_left _ h)
end
end Go.Proofs.YtmgkfceomhagaaaGreatDoor
