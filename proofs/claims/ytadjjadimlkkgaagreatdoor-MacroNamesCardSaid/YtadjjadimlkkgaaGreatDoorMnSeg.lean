/-
  Nodes that are read off rows that are said; rows that are new.
-/
import Derived.Test.YtadjjadimlkkgaaGreatDoorMnFrP
namespace Go.Proofs.YtadjjadimlkkgaaGreatDoor
open Go Go.RowKit
set_option linter.unusedVariables false
set_option linter.unusedSimpArgs false

abbrev Y4:=Nat→Nat→List AV→Prop
abbrev Uf:=List (Nat×Nat×List AV)
def YM(R:Y4)(h:Hp):Prop:= ∀c m l,R c m l→UM h c m l
def Yx(R:Y4)(A:Uf):Y4:=fun c m l=>R c m l∨(c,m,l)∈A
theorem Vi{R R':Y4}{A A':Uf}(h: ∀c m l,R c m l→R' c m l)(hA: ∀x∈A,x∈A'): ∀c m l,Yx R A c m l→Yx R' A' c m l:=fun c m l h'=>h'.elim (fun x=>.inl (h _ _ _ x)) fun x=>.inr (hA _ x)
inductive Zj(R:Y4):Nd→List AV→Prop
 |leaf {op name:List Nat} {n at_:Int} {ks:AV} (hs:ZH ks=some 0) (ha:yD ks=true) (hb:Bytes op∧Bytes name):Zj R (.mk op name n at_ []) [.str op,.str name,.int .i64 n,.int .i64 at_,ks]
 |node {op name:List Nat} {n at_:Int} {kids:List Nd} {c m off:Nat} {cells:List AV} (hr:R c m cells) (hn:(kids.length:Int)≤9223372036854775807) (hl:off+kids.length *5≤cells.length)
  (hk: ∀(i:Nat) (k:Nd),kids[i]? =some k→Zj R k ((cells.drop (off+i *5)).take 5)) (hb:Bytes op∧Bytes name):Zj R (.mk op name n at_ kids) [.str op,.str name,.int .i64 n,.int .i64 at_,.sl c m off kids.length 5]
theorem Zj.mono{R R':Y4}(hl: ∀c m l,R c m l→R' c m l){t:Nd}{cs:List AV}(r:Zj R t cs):Zj R' t cs:=by
 induction r with
 |leaf hs ha hb=>exact .leaf hs ha hb
 |node hr hn hl' hk hb ih=>exact .node (hl _ _ _ hr) hn hl' ih hb
theorem Zj.El{R:Y4}{h:Hp}(hl:YM R h){t:Nd}{cs:List AV}(r:Zj R t cs):UN h t cs:=by
 induction r with
 |leaf hs ha hb=>exact .leaf hs ha hb
 |node hr hn hl' hk hb ih=>exact .node (hl _ _ _ hr) hn hl' ih hb
theorem UN.toW{h:Hp}{t:Nd}{cs:List AV}(r:UN h t cs):Zj (UM h) t cs:=by
 induction r with
 |leaf hs ha hb=>exact .leaf hs ha hb
 |node hr hn hl' hk hb ih=>exact .node hr hn hl' ih hb
inductive Ug(R:Y4):List Nd→AV→List (List AV)→Prop
 |none {kk:AV} (hs:ZH kk=some 0) (ha:yD kk=true):Ug R [] kk []
 |row {kids:List Nd} {ls:List (List AV)} {c m off:Nat} {cells:List AV} (hr:R c m cells) (hn:(kids.length:Int)≤9223372036854775807) (hl:off+kids.length *5≤cells.length) (hls:ls.length=kids.length)
  (hcs: ∀(i:Nat) (cs:List AV),ls[i]? =some cs→cs=(cells.drop (off+i *5)).take 5) (hk: ∀(i:Nat) (k:Nd) (cs:List AV),kids[i]? =some k→ls[i]? =some cs→Zj R k cs):Ug R kids (.sl c m off kids.length 5) ls
theorem Ug.mono{R R':Y4}(hl: ∀c m l,R c m l→R' c m l){kids:List Nd}{kk:AV}{ls:List (List AV)}(K:Ug R kids kk ls):Ug R' kids kk ls:=by
 cases K with
 |none hs ha=>exact .none hs ha
 |row hr hn hl' hls hcs hk=>exact .row (hl _ _ _ hr) hn hl' hls hcs fun i k cs h1 h2=>(hk i k cs h1 h2).mono hl
theorem Ug.ln{R:Y4}{kids:List Nd}{kk:AV}{ls:List (List AV)}(K:Ug R kids kk ls):ls.length=kids.length:=by
 cases K with
 |none=>rfl
 |row _ _ _ h=>exact h
theorem Ug.len{R:Y4}{kids:List Nd}{kk:AV}{ls:List (List AV)}(K:Ug R kids kk ls):ZH kk=some kids.length:=by
 cases K with
 |none hs ha=>exact hs
 |row=>rfl
theorem Ug.cell{R:Y4}{kids:List Nd}{kk:AV}{ls:List (List AV)}(K:Ug R kids kk ls):QI kk=true:=Zq K.len
theorem Ug.Uj{R:Y4}{kids:List Nd}{kk:AV}{ls:List (List AV)}(K:Ug R kids kk ls):(kids.length:Int)≤9223372036854775807:=by
 cases K with
 |none=>simp
 |row _ h=>exact h
theorem Ug.get{R:Y4}{kids:List Nd}{kk:AV}{ls:List (List AV)}(K:Ug R kids kk ls){i:Nat}{k:Nd}(hi:kids[i]? =some k): ∃cs,ls[i]? =some cs∧Zj R k cs:=by
 have hlt:i<ls.length:=by rw[K.ln];exact(List.getElem?_eq_some_iff.1 hi).1
 refine⟨_,List.getElem?_eq_getElem hlt,?_⟩
 cases K with
 |none=>simp at hi
 |row _ _ _ _ _ hk=>exact hk i k _ hi (List.getElem?_eq_getElem hlt)
theorem Ug.r{R:Y4}{kids:List Nd}{kk:AV}{ls:List (List AV)}(K:Ug R kids kk ls){h:Hp}(hi:YM R h):Un h [] 5 ls kk:=by
 cases K with
 |none hs ha=>exact⟨hs,by simp,Zq hs,fun i cs hi=>by simp at hi,fun c m off n z e=>by subst e;cases ha⟩
 |row hr hn hl hls hcs hk=>
  rename_i c m off cells;refine⟨by rw[hls];rfl,by rw[hls];exact hn,rfl,fun i cs he=>?_,fun c' m' off' n' z e=>?_⟩
  ·have hlt:=(List.getElem?_eq_some_iff.1 he).1;have:=hcs i cs he;refine⟨c,m,off,cells,by rw[hls],by simp,hi _ _ _ hr,?_,this.symm⟩;rw[this,List.length_take,List.length_drop];omega
  ·injection e with e1 e2 e3 e4 e5
   subst e1 e2 e3 e4 e5;exact⟨by simp,cells,hi _ _ _ hr,hl⟩
theorem Zj.zK{R:Y4}{k:Nd}{cs:List AV}(r:Zj R k cs):cs.length=5:=by cases r<;>rfl
theorem Zj.QJ{R:Y4}{op name:List Nat}{n at_:Int}{kids:List Nd}{cs:List AV}(r:Zj R (.mk op name n at_ kids) cs):
  ∃kk ls,cs=[.str op,.str name,.int .i64 n,.int .i64 at_,kk]∧Ug R kids kk ls∧Bytes op∧Bytes name:=by
 cases r with
 |leaf hs ha hb=>exact⟨_,[],rfl,.none hs ha,hb⟩
 |node hr hn hl hk hb=>
  rename_i c m off cells
  have hlen:((List.range kids.length).map fun i=>(cells.drop (off+i *5)).take 5).length=kids.length:=by simp
  have hat: ∀(i:Nat) (cs:List AV),((List.range kids.length).map fun i=>(cells.drop (off+i *5)).take 5)[i]? =some cs→i<kids.length∧cs=(cells.drop (off+i *5)).take 5:=by
   intro i cs hi;rw[List.getElem?_map]at hi
   have hlt:i<kids.length:=by
    by_cases h:i<kids.length
    ·exact h
    ·rw[List.getElem?_eq_none (by simp;omega)]at hi;cases hi
   rw[List.getElem?_range hlt]at hi
   injection hi with hi
   exact⟨hlt,hi.symm⟩
  refine⟨_,(List.range kids.length).map fun i=>(cells.drop (off+i *5)).take 5,rfl,.row hr hn hl hlen (fun i cs hi=>(hat i cs hi).2) fun i k cs h1 h2=>?_,hb⟩;rw[(hat i cs h2).2];exact hk i k h1
theorem Ug.node{R:Y4}{op name:List Nat}{n at_:Int}{kids:List Nd}{kk:AV}{ls:List (List AV)}(K:Ug R kids kk ls)(hb:Bytes op∧Bytes name):Zj R (.mk op name n at_ kids) [.str op,.str name,.int .i64 n,.int .i64 at_,kk]:=by
 cases K with
 |none hs ha=>exact .leaf hs ha hb
 |row hr hn hl hls hcs hk=>
  refine .node hr hn hl (fun i k hi=>?_) hb
  have hlt:i<ls.length:=by rw[hls];exact(List.getElem?_eq_some_iff.1 hi).1
  have h1:=List.getElem?_eq_getElem hlt;rw[←hcs i _ h1];exact hk i k _ hi h1
theorem Zj.cell{R:Y4}{op name:List Nat}{n at_:Int}{kids:List Nd}{a b c d kk:AV}(r:Zj R (.mk op name n at_ kids) [a,b,c,d,kk]):QI kk=true:=by
 obtain⟨kk',ls,e,K,_⟩:=r.QJ
 injection e with _ e
 injection e with _ e
 injection e with _ e
 injection e with _ e
 injection e with e
 subst e;exact K.cell
theorem Zj.xO{R:Y4}{k:Nd}{cs:List AV}(r:Zj R k cs): ∃o s z a l kk ls,k=.mk o s z a l∧cs=[.str o,.str s,.int .i64 z,.int .i64 a,kk]∧Ug R l kk ls∧Bytes o∧Bytes s:=by
 obtain⟨o,s,z,a,l⟩:=k;obtain⟨kk,ls,e,K,h⟩:=r.QJ;exact⟨o,s,z,a,l,kk,ls,rfl,e,K,h⟩
structure za(n0:Nat)(st':St)(A:Uf):Prop where
 row: ∀c m l,(c,m,l)∈A→UC st'.h.get c m l
 own: ∀c m l,(c,m,l)∈A→n0≤c
 nodup:(A.map Prod.fst).Nodup
section
variable {h0:Hp} {n0:Nat} {st st':St} {M L A B:Uf}
theorem Mem.Yz(h:Mem h0 n0 [] st M)(q:Qt st st')(s:za st.n st' A):Mem h0 n0 [] st' (M++(A++[])):=by
 rw[List.append_nil];refine h.Pp (q.IF []) (fun c hc=>by simp at hc) ?_ fun c m l hm=>?_
 ·rw[List.map_append];refine List.nodup_append.2 ⟨h.nodup,s.nodup,fun x hx y hy e=>?_⟩;subst e;obtain⟨⟨c1,m1,l1⟩,h1,rfl⟩:=List.mem_map.1 hx;obtain⟨⟨c2,m2,l2⟩,h2,e⟩:=List.mem_map.1 hy;have e:c2=c1:=e;subst e;have:=h.lt _ _ _ h1;have:=s.own _ _ _ h2;omega
 ·rcases List.mem_append.1 hm with hm|hm
  ·exact .inl ⟨hm,by simp⟩
  ·exact .inr ⟨s.row _ _ _ hm,.inr (s.own _ _ _ hm)⟩
theorem Mem.Ge{st0:St}(h:Mem st0.h.get st0.n [] st' M)(hs:A.Sublist M):za st0.n st' A:=
 ⟨fun c m l hm=>h.row c m l (hs.subset hm),fun c m l hm=>(h.own c m l (hs.subset hm)).resolve_right (by simp),h.nodup.sublist (hs.map _)⟩
theorem Mem.YM(h:Mem h0 n0 [] st M){R:Y4}(hR:YM R h0):Proofs.YtadjjadimlkkgaaGreatDoor.YM R st.h.get:=fun c m l hr=>h.rows c m l (hR c m l hr)
theorem Mem.Mr(h:Mem h0 n0 [] st M){R:Y4}(hR:Proofs.YtadjjadimlkkgaaGreatDoor.YM R h0)(hB: ∀x∈B,x∈M):Proofs.YtadjjadimlkkgaaGreatDoor.YM (Yx R B) st.h.get:=fun c m l hr=>hr.elim (fun x=>h.rows c m l (hR c m l x)) fun x=>UC.AH (h.row c m l (hB _ x))
end
def ZZ(R:Y4)(st st':St)(k:Nd)(v:AV):Prop:= ∃o s z a l kk A,k=.mk o s z a l∧v=.agg [.str o,.str s,.int .i64 z,.int .i64 a,kk]∧za st.n st' A∧Zj (Yx R A) k [.str o,.str s,.int .i64 z,.int .i64 a,kk]
def X5{α:Type}(R:Y4)(f:α→Nd)(l:List α)(lsn:List (List AV)):Prop:= ∀(j:Nat) (k:α) (cs:List AV),l[j]? =some k→lsn[j]? =some cs→Zj R (f k) cs
theorem X5.nil{α:Type}{R:Y4}{f:α→Nd}{l:List α}:X5 R f l []:=fun j k cs _ h=>by simp at h
theorem X5.mono{α:Type}{R R':Y4}(hl: ∀c m l,R c m l→R' c m l){f:α→Nd}{l:List α}{lsn:List (List AV)}(h:X5 R f l lsn):X5 R' f l lsn:=fun j k cs h1 h2=>(h j k cs h1 h2).mono hl
theorem X5.snoc{α:Type}{R:Y4}{A B:Uf}{f:α→Nd}{l:List α}{lsn:List (List AV)}{i:Nat}{k:α}{cs:List AV}(h:X5 (Yx R B) f l lsn)(hn:lsn.length=i)(hi:l[i]? =some k)(hk:Zj (Yx R A) (f k) cs):X5 (Yx R (B++A)) f l (lsn++[cs]):=by
 intro j k' cs' h1 h2
 by_cases hj:j<lsn.length
 ·rw[List.getElem?_append_left hj]at h2;exact(h j k' cs' h1 h2).mono (Vi (fun _ _ _ h=>h) fun x hx=>List.mem_append_left _ hx)
 ·have hji:j=i:=by
   have:=(List.getElem?_eq_some_iff.1 h2).1;rw[List.length_append]at this;simp at this;omega
  subst hji;rw[hi]at h1
  injection h1 with h1
  subst h1;rw[List.getElem?_append_right (by omega),hn,Nat.sub_self]at h2
  injection h2 with h2
  subst h2;exact hk.mono (Vi (fun _ _ _ h=>h) fun x hx=>List.mem_append_right _ hx)
theorem X5.LW{α:Type}{R:Y4}{f:α→Nd}{l:List α}{lsn:List (List AV)}{k:α}{cs:List AV}(h:X5 R f l lsn)(hn:lsn.length=l.length)(hk:Zj R (f k) cs):X5 R f (l++[k]) (lsn++[cs]):=by
 intro j k' cs' h1 h2
 by_cases hj:j<lsn.length
 ·rw[List.getElem?_append_left hj]at h2;rw[List.getElem?_append_left (by omega)]at h1;exact h j k' cs' h1 h2
 ·have hji:j=l.length:=by
   have:=(List.getElem?_eq_some_iff.1 h2).1;rw[List.length_append]at this;simp at this;omega
  subst hji;rw[List.getElem?_append_right (by omega),hn,Nat.sub_self]at h2;rw[List.getElem?_append_right (by omega),Nat.sub_self]at h1
  injection h1 with h1
  injection h2 with h2
  subst h1 h2;exact hk
theorem X5.kids{α:Type}{R:Y4}{A:Uf}{f:α→Nd}{l:List α}{lsn:List (List AV)}{n0:Nat}{ks:AV}(h:X5 R f l lsn)(hn:lsn.length=l.length)(hA:Acc n0 5 A ks lsn):Ug (Yx R A) (l.map f) ks lsn:=by
 have hz: ∀(i:Nat) (k:Nd) (cs:List AV),(l.map f)[i]? =some k→lsn[i]? =some cs→Zj (Yx R A) k cs:=by
  intro i k cs h1 h2;rw[List.getElem?_map]at h1;obtain⟨y,hy,rfl⟩:=Option.map_eq_some_iff.1 h1;exact(h i y cs hy h2).mono fun _ _ _ x=>.inl x
 cases hA with
 |none=>
  have:l=[]:=List.length_eq_zero_iff.1 hn.symm;subst this;exact .none rfl rfl
 |own hc hz5 hb=>
  have e:lsn.length=(l.map f).length:=by rw[List.length_map];exact hn
  rw[e];refine .row (.inr (List.mem_singleton.2 rfl)) (by rw[←e];omega) ?_ e (fun i cs hi=>?_) hz
  ·rw[Zh hz5,←e];omega
  ·rw[Nat.zero_add];exact(H3 i cs hz5 hi).symm
inductive EU(n0:Nat):Uf→AV→List (List Nat)→Prop
 |none:EU n0 [] .nils []
 |own {c m:Nat} {l:List (List Nat)} {rest:List AV} (hc:n0≤c) (hb:l.length≤1000000):EU n0 [(c,m,(Ud l).flatten++rest)] (.sl c m 0 l.length 1) l
theorem EU.less{n0 n1:Nat}{A:Uf}{ks:AV}{l:List (List Nat)}(h:EU n0 A ks l)(hn:n1≤n0):EU n1 A ks l:=by
 cases h with
 |none=>exact .none
 |own hc hb=>exact .own (Nat.le_trans hn hc) hb
theorem EU.len{n0:Nat}{A:Uf}{ks:AV}{l:List (List Nat)}(h:EU n0 A ks l):ZH ks=some l.length:=by cases h<;>rfl
section
variable {P:Program} {G:Env} {h0:Hp} {n0:Nat} {st st':St} {M L A B:Uf} {ks:AV} {l:List (List Nat)}
theorem Mem.GM(hM:Mem h0 n0 [] st (L++(A++B))){n1:Nat}(hA:EU n1 A ks l):Un st.h.get [] 1 (Ud l) ks:=by
 cases hA with
 |none=>exact .nil _ _ _
 |own hc hb=>
  rename_i c m rest;have:=hM.row c m ((Ud l).flatten++rest) (by simp);rw[Ej]at this;exact y7 this hb
def zd(st st':St)(ks:AV)(l:List (List Nat)):Prop:= ∃A,EU st.n A ks l∧ ∀c m x,(c,m,x)∈A→UC st'.h.get c m x
theorem Mem.Li(h:Mem h0 n0 [] st M)(q:Qt st st')(r:zd st st' ks l): ∃A,EU n0 A ks l∧Mem h0 n0 [] st' (M++(A++[])):=by
 obtain⟨A,hA,hr⟩:=r;refine⟨A,hA.less h.le,?_⟩
 cases hA with
 |none=>simpa using h.quiet q
 |own hc hb=>
  have:=h.Z9 q (hr _ _ _ (List.mem_singleton.2 rfl)) hc;exact this.perm (by simpa using(List.perm_middle (l₁:=M) (l₂:=[])).symm)
theorem Mem.xE{st0:St}(h:Mem st0.h.get st0.n [] st' (L++(A++B)))(hA:EU st0.n A ks l):zd st0 st' ks l:=⟨A,hA,fun c m l hm=>h.row c m l (by simp[hm])⟩
theorem D2{t e:TypeId}{z:Nat}(T:Lr P t e z){c m len:Nat}{l:List AV}(hr:UC st.h.get c m l)(hl:len *z≤l.length){c2 m2 off2 z2:Nat}{l2:List AV}(hr2:UM st.h.get c2 m2 l2)(hle:off2≤l2.length):U9 P [t,t] (.sl c m 0 len z) (.sl c2 m2 off2 0 z2) st=some (.sl c m 0 len z,st):=by
 obtain⟨_,_,_,_,h,_⟩:=YT T (s:=.sl c m 0 len z) (n:=0) (z2:=z2) hr2 (by simpa using hle);rw[h];obtain⟨vs,ms,h1,h2⟩:=hr
 have hr:rowOf st.h.get c m=some (l.length,vs,l,false,ms):=by
  unfold rowOf;rw[h1,Qh];show ob (nth ms m) _=_;rw[Uh,h2];rfl
 simp only[T.c,Nat.beq_refl,QR,hr,Qh,Bool.not_false,QQ];rw[Xh _ _ _ (by rw[J3,List.drop_zero];omega)];rfl
theorem Mem.jR(hM:Mem h0 n0 [] st M){t e:TypeId}{z:Nat}(T:Lr P t e z){k c m len c2 m2 off2 n z2:Nat}{l l2:List AV}(hk:M[k]? =some (c,m,l))(hl:len *z≤l.length)(hr2:UM st.h.get c2 m2 l2)(hle:off2+n *z≤l2.length)(hn:0<n)(hb:len+n≤1000000):
  ∃m' st1,U9 P [t,t] (.sl c m 0 len z) (.sl c2 m2 off2 n z2) st=some (.sl c m' 0 (len+n) z,st1)∧Mem h0 n0 [] st1 (M.set k (c,m',l.take (len *z)++(l2.drop off2).take (n *z)))∧st1.n=st.n:=by
 obtain⟨_,_,_,_,h,_⟩:=YT T (s:=.sl c m 0 len z) (z2:=z2) hr2 hle;have hm0:=List.mem_of_getElem? hk;obtain⟨vs,ms,h1,h2⟩:=hM.row c m l hm0
 have hr:rowOf st.h.get c m=some (l.length,vs,l,false,ms):=by
  unfold rowOf;rw[h1,Qh];show ob (nth ms m) _=_;rw[Uh,h2];rfl
 have hbeq:Nat.beq n 0=false:=Dy (by omega);have hml:=(List.getElem?_eq_some_iff.1 h2).1;refine⟨ms.length,⟨st.n,st.h.set c (.row false (YV (vs+len *z) (vs+len *z+n *z) ms++[((l.take (len *z)++(l2.drop off2).take (n *z)).length,vs,some (l.take (len *z)++(l2.drop off2).take (n *z)))]))⟩,?_,?_,rfl⟩
 ·rw[h];simp only[T.c,Nat.beq_refl,QR,hr,Qh,Bool.not_false,QQ];rw[Xh _ _ _ (by rw[J3,List.drop_zero];omega),J3,List.drop_zero];simp only[hbeq,Q3,Nat.ble_eq_true_of_le hb,QR,QQ,JD,JJ,Ya,Uw,Nat.add_zero]
 ·have hg: ∀x C,(st.h.set c C).get x=if x=c then some C else st.h.get x:=fun x C=>Tr.YO _ _ _ _
  refine hM.BO hk ⟨fun x hx=>?_,Nat.le_refl _,fun x hx hX=>?_⟩ ⟨vs,_,(hg _ _).trans (if_pos rfl),?_⟩
  ·show(st.h.set c _).get x=none;have:=hM.lt c m l hm0;have hx:st.n≤x:=hx;rw[hg,if_neg (by omega)];exact hM.fresh x hx
  ·show(st.h.set c _).get x=_;rw[hg,if_neg (by simpa using hX)]
  ·rw[List.getElem?_append_right (by rw[Jr];exact Nat.le_refl _),Jr,Nat.sub_self];rfl
theorem Mem.ux(hM:Mem h0 n0 [] st (L++(A++B)))(hA:EU n0 A ks l){t e:TypeId}(T:Lr P t e 1){ks2:AV}{l2:List (List Nat)}{Y:List Nat}(hy:Un st.h.get Y 1 (Ud l2) ks2)(hb:l.length+l2.length≤1000000):
  ∃ks' A' st1,U9 P [t,t] ks ks2 st=some (ks',st1)∧EU n0 A' ks' (l++l2)∧Mem h0 n0 [] st1 (L++(A'++B)):=by
 cases hA with
 |none=>
  obtain⟨ks',A',st1,h1,h2,h3⟩:=hM.jV (A:=[]) .none T hy (UD _) (by rw[Qv];simpa using hb);refine⟨ks',A',st1,h1,?_,h3⟩;rw[List.nil_append]at h2 ⊢;generalize hg:Ud l2=ls at h2
  cases h2 with
  |none=>
   have:l2=[]:=by
    have h:=congrArg List.length hg;rw[Qv]at h;exact List.length_eq_zero_iff.1 h
   subst this;exact .none
  |own hc hz hb'=>
   rename_i c m;subst hg;have:=EU.own (n0:=n0) (c:=c) (m:=m) (l:=l2) (rest:=[]) hc (by simpa using hb);rw[List.append_nil]at this;rw[Qv];exact this
 |own hc hb'=>
  rename_i c m rest;have hl2:=hy.len;rw[Qv]at hl2
  have hlen:l.length *1≤((Ud l).flatten++rest).length:=by
   rw[List.length_append,Zh (UD l),Qv];omega
  cases l2 with
  |nil=>
   rw[List.append_nil];refine⟨_,_,st,?_,.own hc hb',hM⟩
   cases ks2<;>first
    |(cases hl2;done)
    |(refine Ir T rfl rfl)
    |skip
   rename_i c2 m2 off2 n2 z2
   injection hl2 with hl2
   have hl2:n2=0:=hl2;subst hl2;obtain⟨_,cells,h1,h2⟩:=hy.alive _ _ _ _ _ rfl;exact D2 T (hM.row c m _ (by simp)) hlen h1 (by omega)
  |cons x l2=>
   obtain⟨c2,m2,off2,cells0,rfl,_,_,_,_⟩:=hy.at_ 0 _ rfl;obtain⟨_,cells,hr2,hle⟩:=hy.alive _ _ _ _ _ rfl
   have hrow:(cells.drop off2).take ((Ud (x::l2)).length *1)=(Ud (x::l2)).flatten:=by
    apply List.ext_getElem?;intro j;rw[List.getElem?_take];have hfl:(Ud (x::l2)).flatten.length=(Ud (x::l2)).length *1:=Zh (UD _)
    split
    ·rename_i hj;rw[Nat.mul_one]at hj;obtain⟨cs,hcs⟩: ∃cs,(Ud (x::l2))[j]? =some cs:=⟨_,List.getElem?_eq_getElem hj⟩;obtain⟨c',m',off',cells',e,_,hr',h5,h6⟩:=hy.at_ _ _ hcs
     injection e with e1 e2 e3
     subst e1 e2 e3
     have:cells'=cells:=by
      obtain⟨a1,b1,d1,g1,i1,j1⟩:=hr';obtain⟨a2,b2,d2,g2,i2,j2⟩:=hr2;rw[i1]at i2
      injection i2 with i2
      injection i2 with i2 i3
      subst i3;rw[j1]at j2
      injection j2 with j2
      injection j2 with _ j2
      injection j2 with _ j2
      injection j2
     subst this;rw[List.getElem?_drop,EC (by decide) _ (UD _),Nat.div_one,Nat.mod_one,hcs];show _=cs[0]?;rw[←h6,List.getElem?_take,if_pos (by decide),List.getElem?_drop]
     congr 1
     omega
    ·rename_i hj;rw[List.getElem?_eq_none (by omega)]
   obtain⟨m',st1,h6,h7,_⟩:=hM.jR T (z2:=1) (Pb L B _) hlen hr2 hle (by rw[Qv];simp) (by rw[Qv];exact hb)
   have e1:l.length+(Ud (x::l2)).length=(l++x::l2).length:=by rw[Qv,List.length_append]
   rw[e1]at h6;refine⟨_,[(c,m',(Ud (l++x::l2)).flatten++[])],st1,h6,.own hc (by rw[List.length_append];exact hb),?_⟩;rw[DG,hrow]at h7
   have e2:((Ud l).flatten++rest).take (l.length *1)=(Ud l).flatten:=by
    rw[List.take_append_of_le_length (by rw[Zh (UD l),Qv];omega),List.take_of_length_le (by rw[Zh (UD l),Qv];omega)]
   rw[e2]at h7;rw[Xq,List.flatten_append,List.append_nil];exact h7
end
end Go.Proofs.YtadjjadimlkkgaaGreatDoor
