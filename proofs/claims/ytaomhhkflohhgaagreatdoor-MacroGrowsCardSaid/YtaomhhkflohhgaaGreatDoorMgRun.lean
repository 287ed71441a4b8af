/-
  Nodes that are read off rows that are said; rows that are new.
-/
import Derived.Test.YtaomhhkflohhgaaGreatDoorMgFrP
set_option linter.unusedSimpArgs false
set_option linter.unusedVariables false
namespace Go.Proofs.YtaomhhkflohhgaaGreatDoor
open Go Go.RowKit
section
variable {cs:List AV} {e t:TypeId} {k:Nd} {kk:AV} {ls lsn:List (List AV)}

abbrev Xh:=Nat→Nat→List AV→Prop
abbrev JJ:=List (Nat×Nat×List AV)
def ZM(R:Xh)(h:Hp):Prop:= ∀c m l,R c m l→Z9 h c m l
def JX(R:Xh)(A:JJ):Xh:=fun c m l=>R c m l∨(c,m,l)∈A
theorem Q2{R R':Xh}{A A':JJ}(h: ∀c m l,R c m l→R' c m l)(hA: ∀x∈A,x∈A'): ∀c m l,JX R A c m l→JX R' A' c m l:=fun c m l h'=>h'.elim (fun x=>.inl (h _ _ _ x)) fun x=>.inr (hA _ x)
inductive Uo(R:Xh):Nd→List AV→Prop
 |leaf {op name:List Nat} {n at_:Int} {ks:AV} (hs:XI ks=some 0) (ha:ve ks=true) (hb:Bytes op∧Bytes name):Uo R (.mk op name n at_ []) [.str op,.str name,.int .i64 n,.int .i64 at_,ks]
 |node {op name:List Nat} {n at_:Int} {kids:List Nd} {c m off:Nat} {cells:List AV} (hr:R c m cells) (hn:(kids.length:Int)≤9223372036854775807) (hl:off+kids.length *5≤cells.length)
  (hk: ∀(i:Nat) (k:Nd),kids[i]? =some k→Uo R k ((cells.drop (off+i *5)).take 5)) (hb:Bytes op∧Bytes name):Uo R (.mk op name n at_ kids) [.str op,.str name,.int .i64 n,.int .i64 at_,.sl c m off kids.length 5]
theorem Uo.mono{R R':Xh}(hl: ∀c m l,R c m l→R' c m l){t:Nd}(r:Uo R t cs):Uo R' t cs:=by
 induction r with
 |leaf hs ha hb=>exact .leaf hs ha hb
 |node hr hn hl' hk hb ih=>exact .node (hl _ _ _ hr) hn hl' ih hb
theorem Uo.AP{R:Xh}{h:Hp}(hl:ZM R h){t:Nd}(r:Uo R t cs):XE h t cs:=by
 induction r with
 |leaf hs ha hb=>exact .leaf hs ha hb
 |node hr hn hl' hk hb ih=>exact .node (hl _ _ _ hr) hn hl' ih hb
inductive UO(R:Xh):List Nd→AV→List (List AV)→Prop
 |none {kk:AV} (hs:XI kk=some 0) (ha:ve kk=true):UO R [] kk []
 |row {kids:List Nd} {ls:List (List AV)} {c m off:Nat} {cells:List AV} (hr:R c m cells) (hn:(kids.length:Int)≤9223372036854775807) (hl:off+kids.length *5≤cells.length) (hls:ls.length=kids.length)
  (hcs: ∀(i:Nat) (cs:List AV),ls[i]? =some cs→cs=(cells.drop (off+i *5)).take 5) (hk: ∀(i:Nat) (k:Nd) (cs:List AV),kids[i]? =some k→ls[i]? =some cs→Uo R k cs):UO R kids (.sl c m off kids.length 5) ls
theorem UO.mono{R R':Xh}(hl: ∀c m l,R c m l→R' c m l){kids:List Nd}{kk:AV}{ls:List (List AV)}(K:UO R kids kk ls):UO R' kids kk ls:=by
 cases K with
 |none hs ha=>exact .none hs ha
 |row hr hn hl' hls hcs hk=>exact .row (hl _ _ _ hr) hn hl' hls hcs fun i k cs h1 h2=>(hk i k cs h1 h2).mono hl
theorem UO.ln{R:Xh}{kids:List Nd}(K:UO R kids kk ls):ls.length=kids.length:=by
 cases K with
 |none=>rfl
 |row _ _ _ h=>exact h
theorem UO.len{R:Xh}{kids:List Nd}(K:UO R kids kk ls):XI kk=some kids.length:=by
 cases K with
 |none hs ha=>exact hs
 |row=>rfl
theorem UO.cell{R:Xh}{kids:List Nd}(K:UO R kids kk ls):Jl kk=true:=Vq K.len
theorem UO.YZ{R:Xh}{kids:List Nd}(K:UO R kids kk ls):(kids.length:Int)≤9223372036854775807:=by
 cases K with
 |none=>simp
 |row _ h=>exact h
theorem UO.get{R:Xh}{kids:List Nd}(K:UO R kids kk ls){i:Nat}(hi:kids[i]? =some k): ∃cs,ls[i]? =some cs∧Uo R k cs:=by
 have hlt:i<ls.length:=by rw[K.ln];exact(List.getElem?_eq_some_iff.1 hi).1
 refine⟨_,List.getElem?_eq_getElem hlt,?_⟩
 cases K with
 |none=>simp at hi
 |row _ _ _ _ _ hk=>exact hk i k _ hi (List.getElem?_eq_getElem hlt)
theorem UO.r{R:Xh}{kids:List Nd}(K:UO R kids kk ls){h:Hp}(hi:ZM R h):QS h [] 5 ls kk:=by
 cases K with
 |none hs ha=>exact⟨hs,by simp,Vq hs,fun i cs hi=>by simp at hi,fun c m off n z e=>by subst e;cases ha⟩
 |row hr hn hl hls hcs hk=>
  rename_i c m off cells;refine⟨by rw[hls];rfl,by rw[hls];exact hn,rfl,fun i cs he=>?_,fun c' m' off' n' z e=>?_⟩
  ·have hlt:=(List.getElem?_eq_some_iff.1 he).1;have:=hcs i cs he;refine⟨c,m,off,cells,by rw[hls],by simp,hi _ _ _ hr,?_,this.symm⟩;rw[this,List.length_take,List.length_drop];omega
  ·injection e with e1 e2 e3 e4 e5
   subst e1 e2 e3 e4 e5;exact⟨by simp,cells,hi _ _ _ hr,hl⟩
theorem Uo.jV{R:Xh}(r:Uo R k cs):cs.length=5:=by cases r<;>rfl
theorem Uo.Jn{R:Xh}{op name:List Nat}{n at_:Int}{kids:List Nd}(r:Uo R (.mk op name n at_ kids) cs):
  ∃kk ls,cs=[.str op,.str name,.int .i64 n,.int .i64 at_,kk]∧UO R kids kk ls∧Bytes op∧Bytes name:=by
 cases r with
 |leaf hs ha hb=>exact⟨_,[],rfl,.none hs ha,hb⟩
 |node hr hn hl hk hb=>
  rename_i c m off cells
  have hlen:((List.range kids.length).map fun i=>(cells.drop (off+i *5)).take 5).length=kids.length:=by simp
  have hat: ∀(i:Nat) (cs:List AV),((List.range kids.length).map fun i=>(cells.drop (off+i *5)).take 5)[i]? =some cs→i<kids.length∧cs=(cells.drop (off+i *5)).take 5:=by
   intro i cs hi;rw[List.getElem?_map]at hi
   have hlt:i<kids.length:=by
    by_cases h:i<kids.length
    ·exact h
    ·rw[List.getElem?_eq_none (by simp;omega)]at hi;cases hi
   rw[List.getElem?_range hlt]at hi
   injection hi with hi
   exact⟨hlt,hi.symm⟩
  refine⟨_,(List.range kids.length).map fun i=>(cells.drop (off+i *5)).take 5,rfl,.row hr hn hl hlen (fun i cs hi=>(hat i cs hi).2) fun i k cs h1 h2=>?_,hb⟩;rw[(hat i cs h2).2];exact hk i k h1
theorem UO.node{R:Xh}{op name:List Nat}{n at_:Int}{kids:List Nd}{kk:AV}{ls:List (List AV)}(K:UO R kids kk ls)(hb:Bytes op∧Bytes name):Uo R (.mk op name n at_ kids) [.str op,.str name,.int .i64 n,.int .i64 at_,kk]:=by
 cases K with
 |none hs ha=>exact .leaf hs ha hb
 |row hr hn hl hls hcs hk=>
  refine .node hr hn hl (fun i k hi=>?_) hb
  have hlt:i<ls.length:=by rw[hls];exact(List.getElem?_eq_some_iff.1 hi).1
  have h1:=List.getElem?_eq_getElem hlt;rw[←hcs i _ h1];exact hk i k _ hi h1
theorem Uo.cell{R:Xh}{op name:List Nat}{n at_:Int}{kids:List Nd}{a b c d kk:AV}(r:Uo R (.mk op name n at_ kids) [a,b,c,d,kk]):Jl kk=true:=by
 obtain⟨kk',ls,e,K,_⟩:=r.Jn
 injection e with _ e
 injection e with _ e
 injection e with _ e
 injection e with _ e
 injection e with e
 subst e;exact K.cell
theorem Uo.eN{R:Xh}(r:Uo R k cs): ∃o s z a l kk ls,k=.mk o s z a l∧cs=[.str o,.str s,.int .i64 z,.int .i64 a,kk]∧UO R l kk ls∧Bytes o∧Bytes s:=by
 obtain⟨o,s,z,a,l⟩:=k;obtain⟨kk,ls,e,K,h⟩:=r.Jn;exact⟨o,s,z,a,l,kk,ls,rfl,e,K,h⟩
structure P3(n0:Nat)(st':St)(A:JJ):Prop where
 row: ∀c m l,(c,m,l)∈A→Jj st'.h.get c m l
 own: ∀c m l,(c,m,l)∈A→n0≤c
 nodup:(A.map Prod.fst).Nodup
section
variable {h0:Hp} {n0:Nat} {st st':St} {M L A B:JJ}
theorem Mem.YN(h:Mem h0 n0 [] st M)(q:Qt st st')(s:P3 st.n st' A):Mem h0 n0 [] st' (M++(A++[])):=by
 rw[List.append_nil];refine h.SR (q.Us []) (fun c hc=>by simp at hc) ?_ fun c m l hm=>?_
 ·rw[List.map_append];refine List.nodup_append.2 ⟨h.nodup,s.nodup,fun x hx y hy e=>?_⟩;subst e;obtain⟨⟨c1,m1,l1⟩,h1,rfl⟩:=List.mem_map.1 hx;obtain⟨⟨c2,m2,l2⟩,h2,e⟩:=List.mem_map.1 hy;have e:c2=c1:=e;subst e;have:=h.lt _ _ _ h1;have:=s.own _ _ _ h2;omega
 ·rcases List.mem_append.1 hm with hm|hm
  ·exact .inl ⟨hm,by simp⟩
  ·exact .inr ⟨s.row _ _ _ hm,.inr (s.own _ _ _ hm)⟩
theorem Mem.KI{st0:St}(h:Mem st0.h.get st0.n [] st' M)(hs:A.Sublist M):P3 st0.n st' A:=
 ⟨fun c m l hm=>h.row c m l (hs.subset hm),fun c m l hm=>(h.own c m l (hs.subset hm)).resolve_right Q3,h.nodup.sublist (hs.map _)⟩
theorem Mem.ZM(h:Mem h0 n0 [] st M){R:Xh}(hR:ZM R h0):Proofs.YtaomhhkflohhgaaGreatDoor.ZM R st.h.get:=fun c m l hr=>h.rows c m l (hR c m l hr)
theorem Mem.Mv(h:Mem h0 n0 [] st M){R:Xh}(hR:Proofs.YtaomhhkflohhgaaGreatDoor.ZM R h0)(hB: ∀x∈B,x∈M):Proofs.YtaomhhkflohhgaaGreatDoor.ZM (JX R B) st.h.get:=fun c m l hr=>hr.elim (fun x=>h.rows c m l (hR c m l x)) fun x=>Jj.YQ (h.row c m l (hB _ x))
end
def JG(R:Xh)(st st':St)(k:Nd)(v:AV):Prop:= ∃o s z a l kk A,k=.mk o s z a l∧v=.agg [.str o,.str s,.int .i64 z,.int .i64 a,kk]∧P3 st.n st' A∧Uo (JX R A) k [.str o,.str s,.int .i64 z,.int .i64 a,kk]
def Xp{α:Type}(R:Xh)(f:α→Nd)(l:List α)(lsn:List (List AV)):Prop:= ∀(j:Nat) (k:α) (cs:List AV),l[j]? =some k→lsn[j]? =some cs→Uo R (f k) cs
theorem Xp.nil{α:Type}{R:Xh}{f:α→Nd}{l:List α}:Xp R f l []:=fun j k cs _ h=>by simp at h
theorem Xp.mono{α:Type}{R R':Xh}(hl: ∀c m l,R c m l→R' c m l){f:α→Nd}{l:List α}{lsn:List (List AV)}(h:Xp R f l lsn):Xp R' f l lsn:=fun j k cs h1 h2=>(h j k cs h1 h2).mono hl
theorem Xp.snoc{α:Type}{R:Xh}{A B:JJ}{f:α→Nd}{l:List α}{i:Nat}{k:α}(h:Xp (JX R B) f l lsn)(hn:lsn.length=i)(hi:l[i]? =some k)(hk:Uo (JX R A) (f k) cs):Xp (JX R (B++A)) f l (lsn++[cs]):=by
 intro j k' cs' h1 h2
 by_cases hj:j<lsn.length
 ·rw[List.getElem?_append_left hj]at h2;exact(h j k' cs' h1 h2).mono (Q2 (fun _ _ _ h=>h) fun x hx=>List.mem_append_left _ hx)
 ·have hji:j=i:=by
   have:=(List.getElem?_eq_some_iff.1 h2).1;rw[List.length_append]at this;simp at this;omega
  subst hji;rw[hi]at h1
  injection h1 with h1
  subst h1;rw[List.getElem?_append_right Qh,hn,Nat.sub_self]at h2
  injection h2 with h2
  subst h2;exact hk.mono (Q2 (fun _ _ _ h=>h) fun x hx=>List.mem_append_right _ hx)
theorem Xp.Np{α:Type}{R:Xh}{f:α→Nd}{l:List α}{k:α}(h:Xp R f l lsn)(hn:lsn.length=l.length)(hk:Uo R (f k) cs):Xp R f (l++[k]) (lsn++[cs]):=by
 intro j k' cs' h1 h2
 by_cases hj:j<lsn.length
 ·rw[List.getElem?_append_left hj]at h2;rw[List.getElem?_append_left Qh]at h1;exact h j k' cs' h1 h2
 ·have hji:j=l.length:=by
   have:=(List.getElem?_eq_some_iff.1 h2).1;rw[List.length_append]at this;simp at this;omega
  subst hji;rw[List.getElem?_append_right Qh,hn,Nat.sub_self]at h2;rw[List.getElem?_append_right Qh,Nat.sub_self]at h1
  injection h1 with h1
  injection h2 with h2
  subst h1 h2;exact hk
theorem Xp.kids{α:Type}{R:Xh}{A:JJ}{f:α→Nd}{l:List α}{n0:Nat}{ks:AV}(h:Xp R f l lsn)(hn:lsn.length=l.length)(hA:Acc n0 5 A ks lsn):UO (JX R A) (l.map f) ks lsn:=by
 have hz: ∀(i:Nat) (k:Nd) (cs:List AV),(l.map f)[i]? =some k→lsn[i]? =some cs→Uo (JX R A) k cs:=by
  intro i k cs h1 h2;rw[List.getElem?_map]at h1;obtain⟨y,hy,rfl⟩:=Option.map_eq_some_iff.1 h1;exact(h i y cs hy h2).mono fun _ _ _ x=>.inl x
 cases hA with
 |none=>
  have:l=[]:=List.length_eq_zero_iff.1 hn.symm;subst this;exact .none rfl rfl
 |own hc hz5 hb=>
  have e:lsn.length=(l.map f).length:=by rw[List.length_map];exact hn
  rw[e];refine .row (.inr (List.mem_singleton.2 rfl)) (by rw[←e];omega) ?_ e (fun i cs hi=>?_) hz
  ·rw[Zs hz5,←e];omega
  ·rw[Nat.zero_add];exact(ER i cs hz5 hi).symm
inductive FL(n0:Nat):JJ→AV→List (List Nat)→Prop
 |none:FL n0 [] .nils []
 |own {c m:Nat} {l:List (List Nat)} {rest:List AV} (hc:n0≤c) (hb:l.length≤1000000):FL n0 [(c,m,(Xq l).flatten++rest)] (.sl c m 0 l.length 1) l
theorem FL.less{n0 n1:Nat}{A:JJ}{ks:AV}{l:List (List Nat)}(h:FL n0 A ks l)(hn:n1≤n0):FL n1 A ks l:=by
 cases h with
 |none=>exact .none
 |own hc hb=>exact .own (Nat.le_trans hn hc) hb
theorem FL.len{n0:Nat}{A:JJ}{ks:AV}{l:List (List Nat)}(h:FL n0 A ks l):XI ks=some l.length:=by cases h<;>rfl
section
variable {P:Program} {G:Env} {h0:Hp} {n0:Nat} {st st':St} {M L A B:JJ} {ks:AV} {l:List (List Nat)}
theorem Mem.Dk(hM:Mem h0 n0 [] st (L++(A++B))){n1:Nat}(hA:FL n1 A ks l):QS st.h.get [] 1 (Xq l) ks:=by
 cases hA with
 |none=>exact .nil _ _ _
 |own hc hb=>
  rename_i c m rest;have:=hM.row c m ((Xq l).flatten++rest) Q3;rw[Fe]at this;exact xJ this hb
def vI(st st':St)(ks:AV)(l:List (List Nat)):Prop:= ∃A,FL st.n A ks l∧ ∀c m x,(c,m,x)∈A→Jj st'.h.get c m x
theorem Mem.O1(h:Mem h0 n0 [] st M)(q:Qt st st')(r:vI st st' ks l): ∃A,FL n0 A ks l∧Mem h0 n0 [] st' (M++(A++[])):=by
 obtain⟨A,hA,hr⟩:=r;refine⟨A,hA.less h.le,?_⟩
 cases hA with
 |none=>simpa using h.quiet q
 |own hc hb=>
  have:=h.XQ q (hr _ _ _ (List.mem_singleton.2 rfl)) hc;exact this.perm (by simpa using(List.perm_middle (l₁:=M) (l₂:=[])).symm)
theorem Mem.eK{st0:St}(h:Mem st0.h.get st0.n [] st' (L++(A++B)))(hA:FL st0.n A ks l):vI st0 st' ks l:=⟨A,hA,fun c m l hm=>h.row c m l (by simp[hm])⟩
theorem RL{z:Nat}(T:LL P t e z){c m len:Nat}{l:List AV}(hr:Jj st.h.get c m l)(hl:len *z≤l.length){c2 m2 off2 z2:Nat}{l2:List AV}(hr2:Z9 st.h.get c2 m2 l2)(hle:off2≤l2.length):Y1 P [t,t] (.sl c m 0 len z) (.sl c2 m2 off2 0 z2) st=some (.sl c m 0 len z,st):=by
 obtain⟨_,_,_,_,h,_⟩:=Xg T (s:=.sl c m 0 len z) (n:=0) (z2:=z2) hr2 (by simpa using hle);rw[h];obtain⟨vs,ms,h1,h2⟩:=hr
 have hr:rowOf st.h.get c m=some (l.length,vs,l,false,ms):=by
  unfold rowOf;rw[h1,Q1];show ob (nth ms m) _=_;rw[Yg,h2];rfl
 simp only[T.c,Nat.beq_refl,Jy,hr,Q1,Bool.not_false,Ju];rw[XH _ _ _ (by rw[Um,List.drop_zero];omega)];rfl
theorem Mem.zT(hM:Mem h0 n0 [] st M){z:Nat}(T:LL P t e z){k c m len c2 m2 off2 n z2:Nat}{l l2:List AV}(hk:M[k]? =some (c,m,l))(hl:len *z≤l.length)(hr2:Z9 st.h.get c2 m2 l2)(hle:off2+n *z≤l2.length)(hn:0<n)(hb:len+n≤1000000):
  ∃m' st1,Y1 P [t,t] (.sl c m 0 len z) (.sl c2 m2 off2 n z2) st=some (.sl c m' 0 (len+n) z,st1)∧Mem h0 n0 [] st1 (M.set k (c,m',l.take (len *z)++(l2.drop off2).take (n *z)))∧st1.n=st.n:=by
 obtain⟨_,_,_,_,h,_⟩:=Xg T (s:=.sl c m 0 len z) (z2:=z2) hr2 hle;have hm0:=List.mem_of_getElem? hk;obtain⟨vs,ms,h1,h2⟩:=hM.row c m l hm0
 have hr:rowOf st.h.get c m=some (l.length,vs,l,false,ms):=by
  unfold rowOf;rw[h1,Q1];show ob (nth ms m) _=_;rw[Yg,h2];rfl
 have hbeq:Nat.beq n 0=false:=RH Qh;have hml:=(List.getElem?_eq_some_iff.1 h2).1;refine⟨ms.length,⟨st.n,st.h.set c (.row false (Xo (vs+len *z) (vs+len *z+n *z) ms++[((l.take (len *z)++(l2.drop off2).take (n *z)).length,vs,some (l.take (len *z)++(l2.drop off2).take (n *z)))]))⟩,?_,?_,rfl⟩
 ·rw[h];simp only[T.c,Nat.beq_refl,Jy,hr,Q1,Bool.not_false,Ju];rw[XH _ _ _ (by rw[Um,List.drop_zero];omega),Um,List.drop_zero];simp only[hbeq,QN,Nat.ble_eq_true_of_le hb,Jy,Ju,Uy,Uv,Zf,YB,Nat.add_zero]
 ·have hg: ∀x C,(st.h.set c C).get x=if x=c then some C else st.h.get x:=fun x C=>Tr.Xb _ _ _ _
  refine hM.J8 hk ⟨fun x hx=>?_,Nat.le_refl _,fun x hx hX=>?_⟩ ⟨vs,_,(hg _ _).trans (if_pos rfl),?_⟩
  ·show(st.h.set c _).get x=none;have:=hM.lt c m l hm0;have hx:st.n≤x:=hx;rw[hg,if_neg Qh];exact hM.fresh x hx
  ·show(st.h.set c _).get x=_;rw[hg,if_neg (by simpa using hX)]
  ·rw[List.getElem?_append_right (by rw[JP];exact Nat.le_refl _),JP,Nat.sub_self];rfl
theorem Mem.xi(hM:Mem h0 n0 [] st (L++(A++B)))(hA:FL n0 A ks l)(T:LL P t e 1){ks2:AV}{l2:List (List Nat)}{Y:List Nat}(hy:QS st.h.get Y 1 (Xq l2) ks2)(hb:l.length+l2.length≤1000000):
  ∃ks' A' st1,Y1 P [t,t] ks ks2 st=some (ks',st1)∧FL n0 A' ks' (l++l2)∧Mem h0 n0 [] st1 (L++(A'++B)):=by
 cases hA with
 |none=>
  obtain⟨ks',A',st1,h1,h2,h3⟩:=hM.zW (A:=[]) .none T hy (Wi _) (by rw[J5];simpa using hb);refine⟨ks',A',st1,h1,?_,h3⟩;rw[List.nil_append]at h2 ⊢;generalize hg:Xq l2=ls at h2
  cases h2 with
  |none=>
   have:l2=[]:=by
    have h:=congrArg List.length hg;rw[J5]at h;exact List.length_eq_zero_iff.1 h
   subst this;exact .none
  |own hc hz hb'=>
   rename_i c m;subst hg;have:=FL.own (n0:=n0) (c:=c) (m:=m) (l:=l2) (rest:=[]) hc (by simpa using hb);rw[List.append_nil]at this;rw[J5];exact this
 |own hc hb'=>
  rename_i c m rest;have hl2:=hy.len;rw[J5]at hl2
  have hlen:l.length *1≤((Xq l).flatten++rest).length:=by
   rw[List.length_append,Zs (Wi l),J5];omega
  cases l2 with
  |nil=>
   rw[List.append_nil];refine⟨_,_,st,?_,.own hc hb',hM⟩
   cases ks2<;>first
    |(cases hl2;done)
    |(refine LA T rfl rfl)
    |skip
   rename_i c2 m2 off2 n2 z2
   injection hl2 with hl2
   have hl2:n2=0:=hl2;subst hl2;obtain⟨_,cells,h1,h2⟩:=hy.alive _ _ _ _ _ rfl;exact RL T (hM.row c m _ Q3) hlen h1 Qh
  |cons x l2=>
   obtain⟨c2,m2,off2,cells0,rfl,_,_,_,_⟩:=hy.at_ 0 _ rfl;obtain⟨_,cells,hr2,hle⟩:=hy.alive _ _ _ _ _ rfl
   have hrow:(cells.drop off2).take ((Xq (x::l2)).length *1)=(Xq (x::l2)).flatten:=by
    apply List.ext_getElem?;intro j;rw[List.getElem?_take];have hfl:(Xq (x::l2)).flatten.length=(Xq (x::l2)).length *1:=Zs (Wi _)
    split
    ·rename_i hj;rw[Nat.mul_one]at hj;obtain⟨cs,hcs⟩: ∃cs,(Xq (x::l2))[j]? =some cs:=⟨_,List.getElem?_eq_getElem hj⟩;obtain⟨c',m',off',cells',e,_,hr',h5,h6⟩:=hy.at_ _ _ hcs
     injection e with e1 e2 e3
     subst e1 e2 e3
     have:cells'=cells:=by
      obtain⟨a1,b1,d1,g1,i1,j1⟩:=hr';obtain⟨a2,b2,d2,g2,i2,j2⟩:=hr2;rw[i1]at i2
      injection i2 with i2
      injection i2 with i2 i3
      subst i3;rw[j1]at j2
      injection j2 with j2
      injection j2 with _ j2
      injection j2 with _ j2
      injection j2
     subst this;rw[List.getElem?_drop,Ly QT _ (Wi _),Nat.div_one,Nat.mod_one,hcs];show _=cs[0]?;rw[←h6,List.getElem?_take,if_pos QT,List.getElem?_drop]
     congr 1
     omega
    ·rename_i hj;rw[List.getElem?_eq_none Qh]
   obtain⟨m',st1,h6,h7,_⟩:=hM.zT T (z2:=1) (SB L B _) hlen hr2 hle (by rw[J5];simp) (by rw[J5];exact hb)
   have e1:l.length+(Xq (x::l2)).length=(l++x::l2).length:=by rw[J5,List.length_append]
   rw[e1]at h6;refine⟨_,[(c,m',(Xq (l++x::l2)).flatten++[])],st1,h6,.own hc (by rw[List.length_append];exact hb),?_⟩;rw[Se,hrow]at h7
   have e2:((Xq l).flatten++rest).take (l.length *1)=(Xq l).flatten:=by
    rw[List.take_append_of_le_length (by rw[Zs (Wi l),J5];omega),List.take_of_length_le (by rw[Zs (Wi l),J5];omega)]
   rw[e2]at h7;rw[Vx,List.flatten_append,List.append_nil];exact h7
end
end
section
set_option maxRecDepth 100000
variable {x:Operand}

section
variable {P:Program} {G:Env} {K:List (Nat×AV)} {st:St}
theorem jm{t:TypeId}{l:List Nat}(ht:P.underlying t=some .string)(hx:JF G K x=some (.str l)):YK P G K (.range t x) st (.ptr st.n 0 0) ⟨st.n+1,st.h.set st.n (.iter l l 0)⟩:=.of fun T hT c d ty pos af g=>by
 show(ob (Ug G T x) fun x=>Ny P t x st)=_;rw[hT.Ug hx,Q1];unfold Ny;simp only[ht];rw[FV]
theorem jo{c pos:Nat}{s:List Nat}(hx:JF G K x=some (.ptr c 0 0))(hc:st.h.get c=some (.iter s [] pos)):YK P G K (.next x true) st (.tup [.bool false]) st:=.of fun T hT cc d ty p af g=>by
 show(ob (Ug G T x) fun x=>NG x st)=_;rw[hT.Ug hx,Q1];unfold NG;simp only[Nat.beq_refl,Jy,hc,Q1]
theorem jn{c pos b:Nat}{s t:List Nat}(hx:JF G K x=some (.ptr c 0 0))(hc:st.h.get c=some (.iter s (b::t) pos)):YK P G K (.next x true) st (.tup [.bool true,.int .i64 (Int.ofNat pos),.int .i32 (Int.ofNat (Iw (b::t)).1)]) ⟨st.n,st.h.set c (.iter s ((b::t).drop (Iw (b::t)).2) (pos+(Iw (b::t)).2))⟩:=.of fun T hT cc d ty p af g=>by
 show(ob (Ug G T x) fun x=>NG x st)=_;rw[hT.Ug hx,Q1];unfold NG;simp only[Nat.beq_refl,Jy,hc,Q1,Ju,Uy,Zf,Um]
end
noncomputable def EI:Nat→List Nat→Nat
 |0,_=>0
 |_+1,[]=>0
 |f+1,b::t=>1+EI f ((b::t).drop (Iw (b::t)).2)
noncomputable def Zm(s:List Nat):Int:=((EI s.length s:Nat):Int)
theorem uS{r:List Nat}(hr:Bytes r)(h:r≠[]):1≤(Iw r).2:=by
 have hp:0<r.length:=List.length_pos_iff.2 h;have h1:=SP hr 0 hp;rw[List.drop_zero]at h1;rw[h1];exact(XP (bytesOf r) 0 (by rw[Jm];exact hp)).1
theorem AD{r:List Nat}(hr:Bytes r)(n:Nat):Bytes (r.drop n):=fun x hx=>hr x (List.mem_of_mem_drop hx)
theorem BJ: ∀(f:Nat) (r:List Nat),Bytes r→r.length≤f→EI f r=EI r.length r:=by
 intro f
 induction f using Nat.strongRecOn with
 |_ f ih=>
  intro r hr hf
  cases r with
  |nil=>cases f<;>rfl
  |cons b t=>
   cases f with
   |zero=>simp at hf
   |succ f=>
    have hw:=uS hr Q3;show 1+EI f _=1+EI t.length _
    have hl:((b::t).drop (Iw (b::t)).2).length≤t.length:=by rw[List.length_drop];simp;omega
    simp only[List.length_cons]at hf;rw[ih f Qh _ (AD hr _) Qh]
    by_cases htf:t.length<f+1
    ·rw[ih t.length htf _ (AD hr _) hl]
    ·omega
theorem PK{b:Nat}{t:List Nat}(hr:Bytes (b::t)):EI (b::t).length (b::t)=1+EI ((b::t).drop (Iw (b::t)).2).length ((b::t).drop (Iw (b::t)).2):=by
 have hw:=uS hr Q3;show 1+EI t.length _=_;rw[BJ t.length _ (AD hr _) (by rw[List.length_drop];simp;omega)]
theorem CX{st:St}(hf:Qw st)(s:List Nat)(hs:Bytes s)(hl:s.length≤1000000000): ∃v st',Ev Tryz.prog QR 122 [.str s] st v st'∧v=.int .i64 (Zm s)∧Qt st st':=by
 refine uE rfl Tryz.func122 rfl Tryz.ntmps122 rfl QT Q3 fun T hT=>?_;have K:Jr [(0,_)] T:=.cons (hT 0) .nil;refine UR<|Uf<|o1 K (JH rfl) rfl fun _ K=>Y5 ?_;show W _ _ _ _ _ _ _;refine UR<|UR<|Uf<|o1 K (Q9 rfl) rfl fun _ K=>o1 K (jm Up rfl) rfl fun _ K=>Y5 ?_;show W _ _ _ _ _ _ _;refine Wh ?_;refine JQ (fun mm T st9=> ∃(n:Nat) (r:List Nat) (pos:Nat),mm=r.length∧Jr [(2,.int .i64 (n:Nat)),(4,.ptr st.n 0 0)] T∧Qw st9∧st.n+1=st9.n∧(∀c,c<st.n→st9.h.get c=st.h.get c)∧st9.h.get st.n=some (.iter s r pos)∧Bytes r∧n+EI r.length r=EI s.length s∧n+r.length≤s.length) (fun mm T st9 hI=>?_) _ _ _ ⟨0,s,0,rfl,.cons (K _ _ rfl) (.cons (K _ _ rfl) .nil),?_,rfl,?_,?_,hs,by omega,by omega⟩
 ·obtain⟨n,r,pos,rfl,K,hf9,hn9,hold,hit,hbr,hcnt,hlen⟩:=hI
  cases r with
  |nil=>
   refine UR<|Uf<|o1 K (jo rfl hit) rfl fun _ K=>o1 K (Ia rfl rfl) rfl fun _ K=>Y5 ?_;show W _ _ _ _ _ _ _;refine UR ?_;refine Zz (t:=false) (K.Ug rfl) (fun h=>by cases h) (fun _=>?_);refine Jx ?_;show W _ _ _ _ _ _ _;refine UR<|Uf<|o1 K (Q9 rfl) rfl fun _ K=>o1 K (JH rfl) rfl fun _ K=>Y5 ?_;show W _ _ _ _ _ _ _;refine Jv ?_;refine⟨.inr rfl,_,Am (QF K rfl),?_,hf9,by omega,fun c hc=>hold c hc⟩
   have:n=EI s.length s:=by simpa [EI]using hcnt
   rw[Zm,←this]
  |cons b t=>
   have hw:=uS hbr Q3;rw[PK hbr]at hcnt
   have hln:((b::t).drop (Iw (b::t)).2).length+1≤(b::t).length:=by rw[List.length_drop];simp;omega
   refine UR<|Uf<|o1 K (jn rfl hit) rfl fun _ K=>o1 K (Ia rfl rfl) rfl fun _ K=>Y5 ?_;show W _ _ _ _ _ _ _;refine UR ?_;refine Zz (t:=true) (K.Ug rfl) (fun _=>?_) (fun h=>by cases h);refine JM ?_;show W _ _ _ _ _ _ _;refine Wh<|Uf<|o1 K (Q9 rfl) rfl fun _ K=>o1 K (jq rfl rfl Qh Qh) rfl fun _ K=>o1 K (JH rfl) rfl fun _ K=>Y5 ?_;refine⟨_,Nat.lt_of_lt_of_le (Nat.lt_succ_self _) hln,n+1,(b::t).drop (Iw (b::t)).2,pos+(Iw (b::t)).2,rfl,.cons (K _ _ rfl) (.cons (K _ _ rfl) .nil),?_,hn9,fun c hc=>?_,?_,AD hbr _,by omega,by omega⟩
   ·intro c hc;have hc:st9.n≤c:=hc;show(st9.h.set st.n _).get c=none;rw[Tr.Xb,if_neg Qh];exact hf9 c hc
   ·show(st9.h.set st.n _).get c=_;rw[Tr.Xb,if_neg Qh];exact hold c hc
   ·show(st9.h.set st.n _).get st.n=_;rw[Tr.Xb,if_pos rfl]
 ·intro c hc;have hc:st.n+1≤c:=hc;show(st.h.set st.n _).get c=none;rw[Tr.Xb,if_neg Qh];exact hf c Qh
 ·intro c hc;show(st.h.set st.n _).get c=_;rw[Tr.Xb,if_neg Qh]
 ·show(st.h.set st.n _).get st.n=_;rw[Tr.Xb,if_pos rfl]
end
end Go.Proofs.YtaomhhkflohhgaaGreatDoor
