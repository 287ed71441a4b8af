/-
  The reference's parser in memory; nodes that are made.
-/
import Derived.Test.YthjgndgnmkiaiaaGreatDoorZpSgn
set_option maxRecDepth 100000
set_option maxHeartbeats 2000000
set_option linter.unnecessarySimpa false
set_option linter.unusedSectionVars false
set_option linter.unusedSimpArgs false
set_option linter.unusedVariables false
namespace Go.Proofs.YthjgndgnmkiaiaaGreatDoor
section
open Go Go.RowKit
variable {R:KC} {a z:Int} {c:Nat} {k:Nd} {kk:AV} {o s:List Nat}

def Tk.cells(t:Tk):List AV:=[.int .i64 t.k,.str t.s,.int .i64 t.n,.int .i64 t.a]
structure UM(L:List Tk):Prop where
 t:qp L
 b: ∀t∈L,Bytes t.s
 n:L.length≤100000
theorem Sw{L:List Tk}{i:Nat}{t:Tk}(h:L[i]? =some t):(L.map Tk.cells)[i]? =some t.cells:=by rw[List.getElem?_map,h];rfl
theorem zE{L:List Tk}{S:PS}{t:Tk}(he:S.e=0)(h:L[S.i]? =some t):Qc L S=t:=by rw[Qc,if_neg (by simp[he]),h];rfl
theorem IL{L:List Tk}{S:PS}(he: ¬S.e=0):Qc L S=LL:=by rw[Qc,if_pos he]
theorem Q4{L:List Tk}(h:UM L)(S:PS):Bytes (Qc L S).s:=by
 unfold Qc
 split
 ·intro x hx;cases hx
 ·cases hq:L[S.i]? with
  |none=>intro x hx;cases hx
  |some t=>exact h.b t (List.mem_of_getElem? hq)
theorem AU{L:List Tk}(h:UM L)(S:PS):Bytes (Jq L S).s:=by
 unfold Jq
 split
 ·intro x hx;cases hx
 ·exact Q4 h S
abbrev R0:KC:=fun _ _ _=>False
section
variable {h0:Hp} {n0:Nat} {X:List Nat} {st st':St} {M L A B:YO}
theorem Mem.Jh(h:Mem h0 n0 X st M){k m m':Nat}{l l':List AV}(hk:M[k]? =some (c,m,l))(q:EJ [c] st st')(r:J5 st'.h.get c m' l')(s:u4 st.n st' A):Mem h0 n0 X st' (M.set k (c,m',l')++(A++[])):=by
 have hm0:=List.mem_of_getElem? hk;have h1:=h.Yl hk q r;rw[List.append_nil];refine h.qf q (fun c' hc=>?_) ?_ fun c1 m1 l1 hm=>?_
 ·rw[List.mem_singleton]at hc;subst hc;exact⟨m,l,hm0⟩
 ·rw[List.map_append];refine List.nodup_append.2 ⟨h1.nodup,s.nodup,fun x hx y hy e=>?_⟩;subst e;obtain⟨⟨c1,m1,l1⟩,h2,rfl⟩:=List.mem_map.1 hx;obtain⟨⟨c2,m2,l2⟩,h3,e⟩:=List.mem_map.1 hy;have e:c2=c1:=e;subst e
  have hlt:c2<st.n:=by
   rcases List.mem_or_eq_of_mem_set h2 with h4|h4
   ·exact h.lt _ _ _ h4
   ·injection h4 with h4 _
    rw[h4];exact h.lt _ _ _ hm0
  have:=s.own _ _ _ h3;omega
 ·rcases List.mem_append.1 hm with hm|hm
  ·by_cases hc:c1=c
   ·subst hc;exact .inr ⟨h1.row _ _ _ hm,.inl ⟨m,l,hm0⟩⟩
   ·refine .inl ⟨?_,by simpa using hc⟩;obtain⟨i,hi⟩:=List.getElem?_of_mem hm;rw[List.getElem?_set]at hi
    by_cases hki:k=i
    ·subst hki;have:=(List.getElem?_eq_some_iff.1 hk).1;simp[this]at hi;exact absurd hi.1.symm hc
    ·rw[if_neg hki]at hi;exact List.mem_of_getElem? hi
  ·exact .inr ⟨s.row _ _ _ hm,.inr (s.own _ _ _ hm)⟩
theorem Mem.Z8{st0:St}{m k:Nat}{l:List AV}(h:Mem st0.h.get st0.n [c] st' M)(hk:M[k]? =some (c,m,l))(hs:A.Sublist (M.eraseIdx k)):u4 st0.n st' A:=by
 have hsub:(M.eraseIdx k).Sublist M:=List.eraseIdx_sublist ..;refine⟨fun c' m' l' hm=>h.row c' m' l' (hsub.subset (hs.subset hm)),fun c' m' l' hm=>?_,h.nodup.sublist ((hs.trans hsub).map _)⟩;refine(h.own c' m' l' (hsub.subset (hs.subset hm))).resolve_right fun hc=>?_;rw[List.mem_singleton]at hc;subst hc;obtain⟨i,hi⟩:=List.getElem?_of_mem (hs.subset hm);rw[List.getElem?_eraseIdx]at hi
 have key: ∀j,M[j]? =some (c',m',l')→j=k:=fun j hj=>by
  have h1:(M.map Prod.fst)[j]? =some c':=by rw[List.getElem?_map,hj];rfl
  have h2:(M.map Prod.fst)[k]? =some c':=by rw[List.getElem?_map,hk];rfl
  exact(List.getElem?_inj (List.getElem?_eq_some_iff.1 h1).1 h.nodup).1 (h1.trans h2.symm)
 split at hi
 ·have:=key _ hi;omega
 ·have:=key _ hi;omega
end
theorem BD{A:YO}{ks:List Nd}{ls:List (List AV)}(hr:(c,0,ls.flatten)∈A)(hl:ls.length=ks.length)(hn:ks.length≤1000000)(hz: ∀cs∈ls,cs.length=5)(hk: ∀(i:Nat) (k:Nd) (cs:List AV),ks[i]? =some k→ls[i]? =some cs→Zu (Y0 R0 A) k cs)(hb:Bytes o∧Bytes s):
  Zu (Y0 R0 A) (.mk o s z a ks) [.str o,.str s,.int .i64 z,.int .i64 a,.sl c 0 0 ks.length 5]:=by
 refine .node (.inr hr) Qk (by rw[Wv hz,hl];omega) (fun i k hi=>?_) hb
 have hlt:i<ls.length:=by rw[hl];exact(List.getElem?_eq_some_iff.1 hi).1
 have h1:=FD i _ hz (List.getElem?_eq_getElem hlt);rw[Nat.zero_add,h1];exact hk i k _ hi (List.getElem?_eq_getElem hlt)
theorem node1{A:YO}{kc:List AV}(hr:(c,0,kc)∈A)(hk:Zu (Y0 R0 A) k kc)(hb:Bytes o∧Bytes s):Zu (Y0 R0 A) (.mk o s z a [k]) [.str o,.str s,.int .i64 z,.int .i64 a,.sl c 0 0 1 5]:=by
 refine BD (ks:=[k]) (ls:=[kc]) (by simpa using hr) rfl Q1 (by intro cs h;rw[List.mem_singleton]at h;rw[h];exact hk.ix) (fun i k' cs h1 h2=>?_) hb
 match i,h1,h2 with
 |0,h1,h2=>injection h1 with h1;injection h2 with h2;subst h1 h2;exact hk
theorem node2{A:YO}{j:Nd}{kc jc:List AV}(hr:(c,0,kc++jc)∈A)(hk:Zu (Y0 R0 A) k kc)(hj:Zu (Y0 R0 A) j jc)(hb:Bytes o∧Bytes s):Zu (Y0 R0 A) (.mk o s z a [k,j]) [.str o,.str s,.int .i64 z,.int .i64 a,.sl c 0 0 2 5]:=by
 refine BD (ks:=[k,j]) (ls:=[kc,jc]) (by simpa using hr) rfl Q1 (by intro cs h;rcases List.mem_cons.1 h with h|h;rw[h];exact hk.ix;rw[List.mem_singleton]at h;rw[h];exact hj.ix) (fun i k' cs h1 h2=>?_) hb
 match i,h1,h2 with
 |0,h1,h2=>injection h1 with h1;injection h2 with h2;subst h1 h2;exact hk
 |1,h1,h2=>injection h1 with h1;injection h2 with h2;subst h1 h2;exact hj
theorem E0(hb:Bytes o∧Bytes s):Zu R (.mk o s z a []) [.str o,.str s,.int .i64 z,.int .i64 a,.nils]:=.leaf rfl rfl hb
theorem QA:Bytes []:=fun x h=>by cases h
theorem Zu.JV{a b c d:AV}(r:Zu R k [a,b,c,d,kk]):QI kk=true:=by cases k;exact r.cell
def lO:Nd→Nat
 |.mk _ _ _ _ l=>l.length
theorem Zu.Tm{a b c d:AV}(r:Zu R k [a,b,c,d,kk]):VN kk=some (lO k):=by
 obtain⟨o,s,z,at_,l⟩:=k;obtain⟨kk',ls,e,K,_⟩:=r.J3
 injection e with _ e
 injection e with _ e
 injection e with _ e
 injection e with _ e
 injection e with e _
 subst e;exact K.len
theorem Zu.shape(r:Zu R k [.str o,.str s,.int .i64 z,.int .i64 a,kk]): ∃l,k=.mk o s z a l:=by
 obtain⟨o1,s1,z1,a1,l⟩:=k;obtain⟨kk',ls,e,K,_⟩:=r.J3
 injection e with e1 e
 injection e with e2 e
 injection e with e3 e
 injection e with e4 e
 injection e1 with e1
 injection e2 with e2
 injection e3 with _ e3
 injection e4 with _ e4
 subst e1 e2 e3 e4;exact⟨l,rfl⟩
theorem Xe.of{st st':St}{A:YO}(r:Zu (Y0 R A) k [.str o,.str s,.int .i64 z,.int .i64 a,kk])(h:u4 st.n st' A):Xe R st st' k (.agg [.str o,.str s,.int .i64 z,.int .i64 a,kk]):=by
 obtain⟨l,rfl⟩:=r.shape;exact⟨_,_,_,_,_,_,A,rfl,rfl,h,r⟩
def al(st st':St)(l:List Nd)(v:AV):Prop:= ∃lsn A B,Acc st.n 5 A v lsn∧lsn.length=l.length∧Fz (Y0 R0 B) (fun k=>k) l lsn∧u4 st.n st' (A++B)
theorem al.kids{st st':St}{l:List Nd}{v:AV}(h:al st st' l v): ∃ls A,W8 (Y0 R0 A) l v ls∧u4 st.n st' A:=by
 obtain⟨lsn,A,B,h1,h2,h3,h4⟩:=h;refine⟨lsn,A++B,?_,h4⟩;have:=h3.kids h2 h1;rw[List.map_id']at this
 exact this.mono fun c m l h=>by
  rcases h with(h|h)|h
  ·exact h.elim
  ·exact .inr (List.mem_append_right _ h)
  ·exact .inr (List.mem_append_left _ h)
end
section
open Go

theorem Lb{place:Nat→Option (Nat×Nat)}{i off:Nat}{v:AV}{ps:List (Nat×AV)}{l l1:List AV}(hp:place i=some (off,1))(hc:QI v=true)(ho:Xl [v] off l=some l1):VP place ((i,v)::ps) l=VP place ps l1:=by
 rw[HE,hp,Q6,ED hc];show QW true (ob (Xl [v] off l) _)=_;rw[ho];rfl
theorem E7{place:Nat→Option (Nat×Nat)}{i off n:Nat}{v:AV}{ps:List (Nat×AV)}{l l1:List AV}(hp:place i=some (off,n))(hn:Nat.beq (ZT (J1 v)) n=true)(ho:Xl (J1 v) off l=some l1):VP place ((i,v)::ps) l=VP place ps l1:=by
 rw[HE,hp,Q6];show QW (Nat.beq (ZT (J1 v)) n) (ob (Xl (J1 v) off l) _)=_;rw[hn,ho];rfl
end
section
open Go Go.RowKit
variable {k:Nat} {n:Nd} {op:List Nat}

theorem Fz.xx{R:KC}{A B:YO}{l:List Nd}{lsn:List (List AV)}{k:Nd}{cs:List AV}(h:Fz (Y0 R B) (fun k=>k) l lsn)(hn:lsn.length=l.length)(hk:Zu (Y0 R A) k cs):Fz (Y0 R (B++A)) (fun k=>k) (l++[k]) (lsn++[cs]):=
 Fz.lj (h.mono (QD (fun _ _ _ h=>h) fun x hx=>List.mem_append_left _ hx)) hn (hk.mono (QD (fun _ _ _ h=>h) fun x hx=>List.mem_append_right _ hx))
theorem lk{lsn:List (List AV)}{l:List Nd}{cs:List AV}{k:Nd}(h:lsn.length=l.length):(lsn++[cs]).length=(l++[k]).length:=by simp[h]
section
variable {el:PS→PR} {L:List Tk} {w:List Nat} {S:PS} {l:List Nd}
theorem yG(h:JO L S w=true):XL el L w S=(Qf L S w,[]):=by rw[XL,if_pos h,Qf,if_pos h]
theorem Sz(h: ¬S.e=0):Xa L (k+1) S n=(S,n):=by rw[Xa,if_pos h]
theorem Ls(h:S.e=0)(ho:CO L S=none):Xa L (k+1) S n=(S,n):=by rw[Xa,if_neg (by simp[h]),ho]
theorem Lt(h:S.e=0)(ho:CO L S=some op):Xa L (k+1) S n=Xa L k (QX L (Qd L S)).1 (.mk op [] 0 (Qc L S).a [n,(QX L (Qd L S)).2]):=by rw[Xa,if_neg (by simp[h]),ho]
theorem BG(h:JO L S w=true):(Qc L S).k=3:=by
 unfold JO at h;simp only[Bool.and_eq_true,decide_eq_true_eq]at h;exact h.1
theorem YC(h:JO L S w=true):S.e=0:=by
 have h1:=BG h
 by_cases he:S.e=0
 ·exact he
 ·rw[IL he]at h1;exact absurd h1 Qo
theorem Vp(hO:UM L)(h:JO L S w=true):S.i<(Qd L S).i:=wU (by rw[BG h];decide) (YC h)
theorem il(ho:CO L S=some op): ∃w,JO L S w=true:=by
 unfold CO at ho
 split at ho
 ·exact⟨_,by assumption⟩
 split at ho
 ·exact⟨_,by assumption⟩
 split at ho
 ·exact⟨_,by assumption⟩
 ·cases ho
theorem vU(hO:UM L)(ho:CO L S=some op):S.i<(QX L (Qd L S)).1.i:=by
 obtain⟨w,h⟩:=il ho;exact Nat.lt_of_lt_of_le (Vp hO h) (Fx hO.t (Qd L S)).1
theorem zD(hO:UM L)(hi:S.i<L.length)(h:(Qc L S).k≠4):S.i+1<L.length:=by
 by_cases he:S.e=0
 ·exact hO.t _ _ (CQ he hi) h
 ·rw[IL he]at h;exact absurd rfl h
end

end
section
open Go Go.RowKit
variable {n:Nd}

section
variable {L:List Tk} {w:List Nat} {S E:PS} {f d k:Nat}
theorem Zu.bytes{R:KC}{o s:List Nat}{z a:Int}{kk:AV}(r:Zu R n [.str o,.str s,.int .i64 z,.int .i64 a,kk]):Bytes o∧Bytes s:=by
 obtain⟨l,rfl⟩:=r.shape;obtain⟨_,_,_,_,h⟩:=r.J3;exact h
theorem OX(h:(Qb L S d).e=0):d+1≤30:=by
 unfold Qb at h
 split at h
 ·unfold QJ at h
  split at h
  ·exact absurd h (show¬(4:Int)=0 by decide)
  ·contradiction
 ·omega
theorem PC(hO:UM L)(h:0≤Qw L S w):S.i<(Qd L S).i:=by
 unfold Qw at h
 split at h
 ·exact Vp hO (by assumption)
 split at h
 ·exact Vp hO (by assumption)
 split at h
 ·exact Vp hO (by assumption)
 ·omega
theorem uO(hO:UM L)(hE:JO L E w=true)(h:L.length≤f+1+S.i)(hle:S.i≤E.i):L.length≤f+(Qf L E w).i:=by
 have h1:=Vp hO hE;rw[Qf,if_pos hE];omega
theorem Vn{p:PS→PR}{op:List Nat}(h:JO L S w=false):XQ p op w L (k+1) S n=(S,n):=by rw[XQ,if_neg (by simp[h])]
theorem Fb{p:PS→PR}{op:List Nat}(h:JO L S w=true):XQ p op w L (k+1) S n=XQ p op w L k (p (Qd L S)).1 (.mk op [] 0 (Qc L S).a [n,(p (Qd L S)).2]):=by rw[XQ,if_pos h]
end
section
variable {L:List Tk} {cp:Nat} {kl:AV} {u:PS→PR} {d f:Nat}
end
end
section
open Go Go.RowKit
variable {k:Nat} {l:List Nd} {s:List Nat}

def XC(L:List Tk):Prop:= ∀(i:Nat) (t u:Tk),L[i]? =some t→L[i+1]? =some u→t.k=3→t.s=[43]→u.k=2→u.n≠0
section
variable {L:List Tk} {S:PS} {w:List Nat}
theorem ZK(h:S.e≠0):JO L S w=false:=by
 cases hq:JO L S w with
 |false=>rfl
 |true=>exact absurd (YC hq) h
theorem Ro(h:S.e≠0):Qd L S=S:=if_neg fun x=>h x.1
theorem Zr{a e:Int}(h:S.e≠0):QJ S a e=S:=if_neg h
theorem YX(h:S.e≠0):Q2 L S w=S:=by rw[Q2,ZK h,Zr h];rfl
theorem ZJ{a e:Int}(he:e≠0):(QJ S a e).e≠0:=by
 unfold QJ
 split
 ·exact he
 ·assumption
theorem An(h:S.e≠0):Qc L S=LL:=IL h
theorem jW(h:S.e≠0):(U6 L S).1=S:=by
 rw[U6,An h,if_neg Qo,if_neg Qo];exact Zr h
theorem OM(h:S.e≠0):(QX L S).1=S:=by
 rw[QX,An h,if_neg Qo,if_neg Qo,ZK h];exact Zr h
theorem Of(h:JO L S [123]=false):QX L S=U6 L S:=by rw[QX,U6,h];rfl
theorem Tz{n:Nd}(h:S.e≠0):Xa L k S n=(S,n):=by
 cases k with
 |zero=>rfl
 |succ k=>rw[Xa,if_pos h]
theorem Rn(h:S.e≠0):(Qi L S).1=S:=by rw[Qi,OM h,Tz h]
theorem xK(h:S.e≠0):Y3 L S=false:=by rw[Y3,An h];rfl
theorem xL(h:S.e≠0):(Uj L S).1=S:=by
 rw[Uj,xK h,if_neg Qo,Rn h,if_neg fun x=>h x.1];show(if _ then _ else _)=_
 split
 ·exact Zr h
 ·rfl
theorem BO{d:Nat}(h:S.e≠0):Qb L S d=S:=by
 unfold Qb
 split
 ·exact Zr h
 ·rfl
theorem Ao{p:PS→PR}{op:List Nat}{n:Nd}(h:S.e≠0):XQ p op w L k S n=(S,n):=by
 cases k with
 |zero=>rfl
 |succ k=>rw[XQ,ZK h];rfl
theorem OO{p:PS→PR}{op:List Nat}(hp:(p S).1=S)(h:S.e≠0):(ZY p op w L S).1=S:=by rw[ZY,hp,Ao h]
theorem iG{u:PS→PR}(hu:(u S).1=S)(h:S.e≠0):(Wn u L S).1=S:=OO (OO hu h) h
theorem eD{u:PS→PR}(hu:(u S).1=S)(h:S.e≠0):(U0 u L k S).1=S:=by
 have:=iG (L:=L) hu h
 cases k with
 |zero=>exact this
 |succ k=>rw[U0,this,ZK h];exact this
theorem OP{u:PS→PR}{d:Nat}(h:S.e≠0):(U8 u L S d).1=S:=by rw[U8,BO h,if_pos h]
theorem xJ{f d:Nat}(h:S.e≠0):(Uk L f S d).1=S:=by
 cases f with
 |zero=>rfl
 |succ f=>rw[Uk,BO h,if_pos h]
theorem e0{S T:PS}(h:S.e≠0→T=S)(hT:T.e=0):S.e=0:=by
 by_cases he:S.e=0
 ·exact he
 ·rw[h he]at hT;exact hT
theorem zh(hP:XC L)(h:JO L S [43]=true)(hi:S.i<L.length)(h2:(Qc L (Qd L S)).k=2):(Qc L (Qd L S)).n≠0:=by
 have he:=YC h;have h3:=BG h
 have hs:(Qc L S).s=[43]:=by
  unfold JO at h;simp only[Bool.and_eq_true,decide_eq_true_eq]at h;exact h.2
 have hx:Qd L S=⟨S.i+1,S.e,S.a⟩:=if_pos ⟨he,by rw[h3];decide⟩;rw[hx]at h2 ⊢;have hn:Qc L ⟨S.i+1,S.e,S.a⟩=(L[S.i+1]?).getD LL:=if_neg (by simp[he]);rw[hn]at h2 ⊢
 cases hq:L[S.i+1]? with
 |none=>rw[hq]at h2;exact absurd h2 Qo
 |some t=>rw[hq]at h2;exact hP S.i _ t (CQ he hi) hq h3 hs h2
def Lz(el:PS→PR)(L:List Tk)(w:List Nat)(k:Nat)(S:PS)(l:List Nd):PS×List Nd:=if JO L S [44]=true then AL el L w k (Qd L S) l else(Q2 L S w,l)
theorem Ps{el:PS→PR}(h:S.e=0)(hl:l.length≠6):AL el L w (k+1) S l=Lz el L w k (el S).1 (l++[(el S).2]):=by
 rw[AL,if_neg (by simp[h]),if_neg hl];rfl
def TU(el:PS→PR)(L:List Tk)(w:List Nat)(R:PS×List Nd)(S:PS)(l:List Nd):Prop:=(S.e≠0→R.1=S)∧(S.e=0→l.length≤6∧R=Lz el L w (7-l.length) S l)
theorem SE{el:PS→PR}{m:Nd}(h:JO L S w=false)(he:S.e=0)(hm:(el (Qf L S w)).1.e=0→m=(el (Qf L S w)).2):TU el L w (XL el L w S) (el (Qf L S w)).1 [m]:=by
 have ht:Qf L S w=S:=by rw[Qf,if_neg (by simp[h])]
 rw[ht]at hm ⊢
 have h1:XL el L w S=Lz el L w 6 (el S).1 [(el S).2]:=by
  rw[XL,if_neg (by simp[h])];exact Ps he Q1
 refine⟨fun hx=>?_,fun hx=>⟨by simp,?_⟩⟩
 ·rw[h1,Lz,ZK hx];exact YX hx
 ·rw[h1,hm hx];rfl
theorem jb{el:PS→PR}{R:PS×List Nd}{m:Nd}(hI:TU el L w R S l)(h:JO L S [44]=true)(hl: ¬6≤l.length)(hm:(el (Qf L S [44])).1.e=0→m=(el (Qf L S [44])).2):TU el L w R (el (Qf L S [44])).1 (l++[m]):=by
 have ht:Qf L S [44]=Qd L S:=by rw[Qf,if_pos h]
 rw[ht]at hm ⊢;have he:=YC h;have h1:=(hI.2 he).2
 rw[Lz,if_pos h,show 7-l.length=(6-l.length)+1 by omega,Ps (by unfold Qd;split<;>exact he) Qk]at h1
 refine⟨fun hx=>?_,fun hx=>⟨by simp;omega,?_⟩⟩
 ·rw[h1,Lz,ZK hx];exact YX hx
 ·rw[h1,hm hx,List.length_append,List.length_singleton,show 7-(l.length+1)=6-l.length by omega]
theorem jd{el:PS→PR}{R:PS×List Nd}{l':List Nd}(hZ: ∀S,S.e≠0→(el S).1=S)(hI:TU el L w R S l)(h:JO L S [44]=true)(hl:6≤l.length):TU el L w R (el (QJ (Qf L S [44]) (Qc L (Qf L S [44])).a 2)).1 l':=by
 have ht:Qf L S [44]=Qd L S:=by rw[Qf,if_pos h]
 rw[ht];have he:=YC h;obtain⟨h0,h1⟩:=hI.2 he
 have h6:l.length=6:=by omega
 have hn:(Qd L S).e=0:=by unfold Qd;split<;>exact he
 have hx:(QJ (Qd L S) (Qc L (Qd L S)).a 2).e≠0:=ZJ Qo;rw[hZ _ hx];refine⟨fun _=>?_,fun h=>absurd h hx⟩;rw[h1,Lz,if_pos h,show 7-l.length=0+1 by omega,AL,if_neg (by simp[hn]),if_pos h6]
theorem yH{el:PS→PR}{R:PS×List Nd}(hI:TU el L w R S l)(h:JO L S [44]=false):R.1=Q2 L (Qf L S [44]) w∧((Q2 L (Qf L S [44]) w).e=0→l=R.2):=by
 have ht:Qf L S [44]=S:=by rw[Qf,if_neg (by simp[h])]
 rw[ht]
 by_cases he:S.e=0
 ·have h1:=(hI.2 he).2;rw[Lz,if_neg (by simp[h])]at h1;rw[h1];exact⟨rfl,fun _=>rfl⟩
 ·rw[hI.1 he,YX he];exact⟨rfl,fun h=>absurd h he⟩
end
theorem Nt{L:List Tk}{S:PS}{w:List Nat}(h:JO L S w=true):(Qc L S).s=w:=by
 unfold JO at h;simp only[Bool.and_eq_true,decide_eq_true_eq]at h;exact h.2
theorem Uu{L:List Tk}{S:PS}{w u:List Nat}(h:JO L S w=true)(hu:u≠w):JO L S u=false:=by
 cases hq:JO L S u with
 |false=>rfl
 |true=>exact absurd ((Nt hq).symm.trans (Nt h)) hu
section
variable {L:List Tk} {S:PS} {n d f:Nat} {w o:List Nat}
theorem Vv{E:PS}{u:List Nat}(h:JO L E w=true)(hu:u≠w): ¬JO L E u=true:=by rw[Uu h hu];decide
theorem MA{E:PS}(h:JO L E (s++[48])=true):Qw L E s=0:=by rw[Qw,if_pos h]
theorem M9{E:PS}(h:JO L E (s++[49])=true):Qw L E s=1:=by rw[Qw,if_neg (Vv h Q1),if_pos h]
theorem M8{E:PS}(h:JO L E (s++[50])=true):Qw L E s=2:=by rw[Qw,if_neg (Vv h Q1),if_neg (Vv h Q1),if_pos h]
theorem KS{E:PS}(h0: ¬JO L E (s++[48])=true)(h1: ¬JO L E (s++[49])=true)(h2: ¬JO L E (s++[50])=true):Qw L E s= -1:=by rw[Qw,if_neg h0,if_neg h1,if_neg h2]
theorem X7{E:PS}(h:JO L E w=true)(hs:w≠s++[48]∧w≠s++[49]∧w≠s++[50]):Qw L E s= -1:=KS (Vv h hs.1.symm) (Vv h hs.2.1.symm) (Vv h hs.2.2.symm)
def kn:List (List Nat):=[[101,120,48],[101,120,49],[101,120,50],[97,108,108,48],[97,108,108,49],[97,108,108,50]]
def nk:List (List Nat):=[[101,120],[97,108,108]]
structure kh(L:List Tk)(E:PS)(n:Nat)(o:List Nat):Prop where
 t:JO L E [126]=false
 q:0≤Qw L E [101,120]∨0≤Qw L E [97,108,108]
 o:(if Qw L E [101,120]<0 then [97,108,108]else [101,120])=o
 n:(if Qw L E [101,120]<0 then Qw L E [97,108,108]else Qw L E [101,120])=((n % 3:Nat):Int)
theorem M4{E:PS}(hw:kn[n]? =some w)(h:JO L E w=true): ∃o,nk[n/3]? =some o∧kh L E n o∧Bytes o∧n<6:=by
 match n,hw with
 |0,hw=>cases hw;have e:=MA (s:=[101,120]) h;exact⟨_,rfl,⟨Uu h Qo,.inl (by rw[e];decide),by rw[e];rfl,by rw[e];rfl⟩,by unfold Bytes;decide,by decide⟩
 |1,hw=>cases hw;have e:=M9 (s:=[101,120]) h;exact⟨_,rfl,⟨Uu h Qo,.inl (by rw[e];decide),by rw[e];rfl,by rw[e];rfl⟩,by unfold Bytes;decide,by decide⟩
 |2,hw=>cases hw;have e:=M8 (s:=[101,120]) h;exact⟨_,rfl,⟨Uu h Qo,.inl (by rw[e];decide),by rw[e];rfl,by rw[e];rfl⟩,by unfold Bytes;decide,by decide⟩
 |3,hw=>cases hw;have e:=MA (s:=[97,108,108]) h;have x:=X7 (s:=[101,120]) h Qo;exact⟨_,rfl,⟨Uu h Qo,.inr (by rw[e];decide),by rw[x];rfl,by rw[x,e];rfl⟩,by unfold Bytes;decide,by decide⟩
 |4,hw=>cases hw;have e:=M9 (s:=[97,108,108]) h;have x:=X7 (s:=[101,120]) h Qo;exact⟨_,rfl,⟨Uu h Qo,.inr (by rw[e];decide),by rw[x];rfl,by rw[x,e];rfl⟩,by unfold Bytes;decide,by decide⟩
 |5,hw=>cases hw;have e:=M8 (s:=[97,108,108]) h;have x:=X7 (s:=[101,120]) h Qo;exact⟨_,rfl,⟨Uu h Qo,.inr (by rw[e];decide),by rw[x];rfl,by rw[x,e];rfl⟩,by unfold Bytes;decide,by decide⟩
 |n+6,hw=>cases hw
theorem wA{E:PS}(h: ∀w∈kn,JO L E w=false):Qw L E [101,120]= -1∧Qw L E [97,108,108]= -1:=
 ⟨KS (by rw[h _ Qo];decide) (by rw[h _ Qo];decide) (by rw[h _ Qo];decide),KS (by rw[h _ Qo];decide) (by rw[h _ Qo];decide) (by rw[h _ Qo];decide)⟩
theorem Sp(h:JO L (Qb L S d) [126]=true):Uk L (f+1) S d=((Uk L f (Qf L (Qb L S d) [126]) (d+1)).1,.mk [110,111,116] [] 0 (Qc L (Qb L S d)).a [(Uk L f (Qf L (Qb L S d) [126]) (d+1)).2]):=by
 rw[Uk,if_neg (by simp[YC h]),if_pos h,Qf,if_pos h]
theorem GS(he:(Qb L S d).e=0)(h:kh L (Qb L S d) n o):Uk L (f+1) S d=((U8 (fun S=>Uk L f S (d+1)) L (Q2 L (QF L (Qd L (Qb L S d))) [58]) (d+1)).1,.mk o (Jq L (Qd L (Qb L S d))).s ((n % 3:Nat):Int) (Qc L (Qb L S d)).a [(U8 (fun S=>Uk L f S (d+1)) L (Q2 L (QF L (Qd L (Qb L S d))) [58]) (d+1)).2]):=by
 rw[Uk,if_neg (by simp[he]),if_neg (by rw[h.t];decide),if_pos h.q,h.o,h.n]
theorem N6(h:JO L (Qb L S d) w=true)(hw:w=[116,114,117,101]∨w=[102,97,108,115,101]):Uk L (f+1) S d=(Qf L (Qb L S d) w,.mk (Qc L (Qb L S d)).s [] 0 (Qc L (Qb L S d)).a []):=by
 have h1:w≠[126]∧(w≠[101,120]++[48]∧w≠[101,120]++[49]∧w≠[101,120]++[50])∧(w≠[97,108,108]++[48]∧w≠[97,108,108]++[49]∧w≠[97,108,108]++[50]):=by rcases hw with rfl|rfl<;>decide
 rw[Uk,if_neg (by simp[YC h]),if_neg (Vv h h1.1.symm),X7 h h1.2.1,X7 h h1.2.2,if_neg Qo,if_pos (by rcases hw with rfl|rfl;exact .inl h;exact .inr h),Qf,if_pos h]
theorem It(h:JO L (Qb L S d) [40]=true):Uk L (f+1) S d=(Q2 L (U8 (fun S=>Uk L f S (d+1)) L (Qf L (Qb L S d) [40]) (d+1)).1 [41],(U8 (fun S=>Uk L f S (d+1)) L (Qf L (Qb L S d) [40]) (d+1)).2):=by
 rw[Uk,if_neg (by simp[YC h]),if_neg (Vv h Qo),X7 h Qo,X7 h Qo,if_neg Qo,if_neg (fun x=>x.elim (Vv h Qo) (Vv h Qo)),if_pos h,Qf,if_pos h]
theorem Md(h1:JO L (Qb L S d) [126]=false)(h2:JO L (Qb L S d) [116,114,117,101]=false)(h3:JO L (Qb L S d) [102,97,108,115,101]=false)(h4:JO L (Qb L S d) [40]=false)(h5: ∀w∈kn,JO L (Qb L S d) w=false):(Uk L (f+1) S d).1=(Uj L (Qb L S d)).1∧((Uj L (Qb L S d)).1.e=0→(Uk L (f+1) S d).2=(Uj L (Qb L S d)).2):=by
 by_cases he:(Qb L S d).e=0
 ·obtain⟨h6,h7⟩:=wA h5;rw[Uk,if_neg (by simp[he]),h1,if_neg Qo,h6,h7,if_neg Qo,h2,h3,if_neg Qo,h4,if_neg Qo];exact⟨rfl,fun _=>rfl⟩
 ·rw[xL he,Uk,if_pos he];exact⟨rfl,fun h=>absurd h he⟩
end
end
section
open Go Go.RowKit
variable {a:Int} {w:List Nat}

inductive Pc where
 |m (s:List Nat)
 |w (s:List Nat)
 |n (z:Nat)
 |g (s:List Nat)
 |b
 |l
def U4(n:Nat):List Nat:=if n<10 then [48+n]else U4 (n/10)++[48+n % 10]
termination_by n
decreasing_by omega
def Pc.tx:Pc→List Nat
 |.m s=>s
 |.w s=>s
 |.n z=>U4 z
 |.g s=>s
 |.b=>[32]
 |.l=>[10]
def QQ(l:List Pc):List Nat:=l.flatMap Pc.tx
theorem JR(a b:List Pc):QQ (a++b)=QQ a++QQ b:=List.flatMap_append
theorem Qz(a:Pc)(b:List Pc):QQ (a::b)=a.tx++QQ b:=rfl
def UC:Nat→List Pc→List Tk
 |_,[]=>[]
 |a,.m s::l=>⟨1,s,0,(a:Int)⟩::UC (a+s.length) l
 |a,.w s::l=>⟨3,s,0,(a:Int)⟩::UC (a+s.length) l
 |a,.n z::l=>⟨2,[],(z:Int),(a:Int)⟩::UC (a+(U4 z).length) l
 |a,.g s::l=>⟨3,s,0,(a:Int)⟩::UC (a+s.length) l
 |a,.b::l=>UC (a+1) l
 |a,.l::l=>UC (a+1) l
theorem JI: ∀(l r:List Pc) (a:Nat),UC a (l++r)=UC a l++UC (a+(QQ l).length) r
 |[],r,a=>rfl
 |.m s::l,r,a=>by rw[List.cons_append,UC,JI l r,UC,Qz,List.length_append,Nat.add_assoc];rfl
 |.w s::l,r,a=>by rw[List.cons_append,UC,JI l r,UC,Qz,List.length_append,Nat.add_assoc];rfl
 |.n s::l,r,a=>by rw[List.cons_append,UC,JI l r,UC,Qz,List.length_append,Nat.add_assoc];rfl
 |.g s::l,r,a=>by rw[List.cons_append,UC,JI l r,UC,Qz,List.length_append,Nat.add_assoc];rfl
 |.b::l,r,a=>by rw[List.cons_append,UC,JI l r,UC,Qz,List.length_append,Nat.add_assoc];rfl
 |.l::l,r,a=>by rw[List.cons_append,UC,JI l r,UC,Qz,List.length_append,Nat.add_assoc];rfl
def Vs(o:List Nat):Pc:=if o=[109,105,110,117,115]then .g [92]else if o=[97,110,100]then .g [38]else if o=[111,114]then .g [124]else if o=[105,109,112]then .g [61,62]else if o=[105,102,102]then .g [60,61,62]
 else if o=[101,113]then .g [61]else if o=[110,101]then .g [126,61]else if o=[108,116]then .g [60]else if o=[108,101]then .g [60,61]else .w o
def UF:List (List Pc)→List Pc
 |[]=>[]
 |[a]=>a
 |a::b::l=>a++(.g [44]:: .b::UF (b::l))
mutual
def QP : Nd → List Pc
  | .mk o s z _ ks => if o = Y7 then [.m s] else if o = ZS then [.n z.toNat] else if o = Yr then (Js ks).headD [] ++ [.b, .g [43], .b, .n z.toNat]
    else if o = U3 then .g [123] :: (UF (Js ks) ++ [.g [125]]) else (Js ks).headD [] ++ (.b :: Vs o :: .b :: ((Js ks).drop 1).headD [])
def Js : List Nd → List (List Pc)
  | [] => []
  | k :: l => QP k :: Js l
end
mutual
def Q8 : Nd → List Pc
  | .mk o s z _ ks => if oneOf o [[116, 114, 117, 101], [102, 97, 108, 115, 101]] then [.w o]
    else if o = [110, 111, 116] then .g [126] :: (O9 ks).headD []
    else if oneOf o [[97, 110, 100], [111, 114], [105, 109, 112], [105, 102, 102]] then .g [40] :: ((O9 ks).headD [] ++ (.b :: Vs o :: .b :: (((O9 ks).drop 1).headD [] ++ [.g [41]])))
    else if oneOf o [[101, 120], [97, 108, 108]] then .g [40] :: .w (o ++ U4 z.toNat) :: .b :: .m s :: .g [58] :: .b :: ((O9 ks).headD [] ++ [.g [41]])
    else if o = [105, 115] then [.m s]
    else if o = [99, 97, 108, 108] then .m s :: .g [40] :: (UF (Js ks) ++ [.g [41]])
    else (Js ks).headD [] ++ (.b :: Vs o :: .b :: ((Js ks).drop 1).headD [])
def O9 : List Nd → List (List Pc)
  | [] => []
  | k :: l => Q8 k :: O9 l
end
structure Ys(L:List Tk)(S:PS)(T:List Tk):Prop where
 e:S.e=0
 d:L.drop S.i=T
section
variable {L:List Tk} {S:PS} {T R:List Tk} {t:Tk}
theorem Ys.get(h:Ys L S (t::T)):L[S.i]? =some t:=by
 have:=congrArg (fun l=>l[0]?) h.d
 simpa using this
theorem Ys.lt(h:Ys L S (t::T)):S.i<L.length:=(List.getElem?_eq_some_iff.1 h.get).1
theorem Ys.now(h:Ys L S (t::T)):Qc L S=t:=zE h.e h.get
theorem Ys.nx(h:Ys L S (t::T))(hk:t.k≠4):Qd L S=⟨S.i+1,S.e,S.a⟩:=if_pos ⟨h.e,by rw[h.now];exact hk⟩
theorem Ys.next(h:Ys L S (t::T))(hk:t.k≠4):Ys L (Qd L S) T:=by
 rw[h.nx hk];refine⟨h.e,?_⟩;have:=congrArg (List.drop 1) h.d;rw[List.drop_drop]at this;exact this
theorem Ys.ni(h:Ys L S (t::T))(hk:t.k≠4):(Qd L S).i=S.i+1:=by rw[h.nx hk]
theorem Ys.is(h:Ys L S (t::T))(w:List Nat):JO L S w=(decide (t.k=3)&&decide (t.s=w)):=by rw[JO,h.now]
theorem Ys.yes(h:Ys L S (⟨3,w,0,a⟩::T)):JO L S w=true:=by rw[h.is];simp
theorem Ys.no(h:Ys L S (t::T))(ht:t.k≠3∨t.s≠w):JO L S w=false:=by
 rw[h.is]
 rcases ht with ht|ht<;>simp[ht]
theorem Ys.take(h:Ys L S (⟨3,w,0,a⟩::T)):Ys L (Qf L S w) T:=by rw[Qf,if_pos h.yes];exact h.next (show(3:Int)≠4 by decide)
theorem Ys.CT(h:Ys L S (⟨3,w,0,a⟩::T)):Ys L (Q2 L S w) T:=by rw[Q2,if_pos h.yes];exact h.next (show(3:Int)≠4 by decide)
def Hm(T:List Tk)(W:List (List Nat)):Prop:= ∃t R,T=t::R∧(t.k≠3∨t.s∉W)
theorem Hm.no{W:List (List Nat)}(h:Hm T W)(b:Ys L S T){w:List Nat}(hw:w∈W):JO L S w=false:=by
 obtain⟨t,R,rfl,ht⟩:=h;exact b.no (ht.imp id fun x e=>x (e▸hw))
end
end
end Go.Proofs.YthjgndgnmkiaiaaGreatDoor
