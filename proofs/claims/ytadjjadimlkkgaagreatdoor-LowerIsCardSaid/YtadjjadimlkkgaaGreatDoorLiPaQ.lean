/-
  Nodes that are read off rows that are said; rows that are new.
-/
import Derived.Test.YtadjjadimlkkgaaGreatDoorLiFrP
import Derived.Test.YtadjjadimlkkgaaGreatDoorLiPaP
set_option linter.unusedSectionVars false
set_option linter.unusedSimpArgs false
set_option linter.unusedVariables false
section
namespace Go.Proofs.YtadjjadimlkkgaaGreatDoor
open Go Go.RowKit

abbrev YN:=Nat→Nat→List AV→Prop
abbrev Qj:=List (Nat×Nat×List AV)
def XY(R:YN)(h:Hp):Prop:= ∀c m l,R c m l→Yy h c m l
def Jt(R:YN)(A:Qj):YN:=fun c m l=>R c m l∨(c,m,l)∈A
theorem Qz{R R':YN}{A A':Qj}(h: ∀c m l,R c m l→R' c m l)(hA: ∀x∈A,x∈A'): ∀c m l,Jt R A c m l→Jt R' A' c m l:=fun c m l h'=>h'.elim (fun x=>.inl (h _ _ _ x)) fun x=>.inr (hA _ x)
inductive Ox(R:YN):Nd→List AV→Prop
 |leaf {op name:List Nat} {n at_:Int} {ks:AV} (hs:Yj ks=some 0) (ha:Sm ks=true) (hb:Bytes op∧Bytes name):Ox R (.mk op name n at_ []) [.str op,.str name,.int .i64 n,.int .i64 at_,ks]
 |node {op name:List Nat} {n at_:Int} {kids:List Nd} {c m off:Nat} {cells:List AV} (hr:R c m cells) (hn:(kids.length:Int)≤9223372036854775807) (hl:off+kids.length *5≤cells.length)
  (hk: ∀(i:Nat) (k:Nd),kids[i]? =some k→Ox R k ((cells.drop (off+i *5)).take 5)) (hb:Bytes op∧Bytes name):Ox R (.mk op name n at_ kids) [.str op,.str name,.int .i64 n,.int .i64 at_,.sl c m off kids.length 5]
theorem Ox.mono{R R':YN}(hl: ∀c m l,R c m l→R' c m l){t:Nd}{cs:List AV}(r:Ox R t cs):Ox R' t cs:=by
 induction r with
 |leaf hs ha hb=>exact .leaf hs ha hb
 |node hr hn hl' hk hb ih=>exact .node (hl _ _ _ hr) hn hl' ih hb
theorem Yq.toW{h:Hp}{t:Nd}{cs:List AV}(r:Yq h t cs):Ox (Yy h) t cs:=by
 induction r with
 |leaf hs ha hb=>exact .leaf hs ha hb
 |node hr hn hl' hk hb ih=>exact .node hr hn hl' ih hb
inductive Zy(R:YN):List Nd→AV→List (List AV)→Prop
 |none {kk:AV} (hs:Yj kk=some 0) (ha:Sm kk=true):Zy R [] kk []
 |row {kids:List Nd} {ls:List (List AV)} {c m off:Nat} {cells:List AV} (hr:R c m cells) (hn:(kids.length:Int)≤9223372036854775807) (hl:off+kids.length *5≤cells.length) (hls:ls.length=kids.length)
  (hcs: ∀(i:Nat) (cs:List AV),ls[i]? =some cs→cs=(cells.drop (off+i *5)).take 5) (hk: ∀(i:Nat) (k:Nd) (cs:List AV),kids[i]? =some k→ls[i]? =some cs→Ox R k cs):Zy R kids (.sl c m off kids.length 5) ls
theorem Zy.mono{R R':YN}(hl: ∀c m l,R c m l→R' c m l){kids:List Nd}{kk:AV}{ls:List (List AV)}(K:Zy R kids kk ls):Zy R' kids kk ls:=by
 cases K with
 |none hs ha=>exact .none hs ha
 |row hr hn hl' hls hcs hk=>exact .row (hl _ _ _ hr) hn hl' hls hcs fun i k cs h1 h2=>(hk i k cs h1 h2).mono hl
theorem Zy.ln{R:YN}{kids:List Nd}{kk:AV}{ls:List (List AV)}(K:Zy R kids kk ls):ls.length=kids.length:=by
 cases K with
 |none=>rfl
 |row _ _ _ h=>exact h
theorem Zy.len{R:YN}{kids:List Nd}{kk:AV}{ls:List (List AV)}(K:Zy R kids kk ls):Yj kk=some kids.length:=by
 cases K with
 |none hs ha=>exact hs
 |row=>rfl
theorem Zy.cell{R:YN}{kids:List Nd}{kk:AV}{ls:List (List AV)}(K:Zy R kids kk ls):QE kk=true:=ZA K.len
theorem Zy.UK{R:YN}{kids:List Nd}{kk:AV}{ls:List (List AV)}(K:Zy R kids kk ls):(kids.length:Int)≤9223372036854775807:=by
 cases K with
 |none=>simp
 |row _ h=>exact h
theorem Zy.get{R:YN}{kids:List Nd}{kk:AV}{ls:List (List AV)}(K:Zy R kids kk ls){i:Nat}{k:Nd}(hi:kids[i]? =some k): ∃cs,ls[i]? =some cs∧Ox R k cs:=by
 have hlt:i<ls.length:=by rw[K.ln];exact(List.getElem?_eq_some_iff.1 hi).1
 refine⟨_,List.getElem?_eq_getElem hlt,?_⟩
 cases K with
 |none=>simp at hi
 |row _ _ _ _ _ hk=>exact hk i k _ hi (List.getElem?_eq_getElem hlt)
theorem Zy.r{R:YN}{kids:List Nd}{kk:AV}{ls:List (List AV)}(K:Zy R kids kk ls){h:Hp}(hi:XY R h):VK h [] 5 ls kk:=by
 cases K with
 |none hs ha=>exact⟨hs,by simp,ZA hs,fun i cs hi=>by simp at hi,fun c m off n z e=>by subst e;cases ha⟩
 |row hr hn hl hls hcs hk=>
  rename_i c m off cells;refine⟨by rw[hls];rfl,by rw[hls];exact hn,rfl,fun i cs he=>?_,fun c' m' off' n' z e=>?_⟩
  ·have hlt:=(List.getElem?_eq_some_iff.1 he).1;have:=hcs i cs he;refine⟨c,m,off,cells,by rw[hls],by simp,hi _ _ _ hr,?_,this.symm⟩;rw[this,List.length_take,List.length_drop];omega
  ·injection e with e1 e2 e3 e4 e5
   subst e1 e2 e3 e4 e5;exact⟨by simp,cells,hi _ _ _ hr,hl⟩
theorem Ox.Jl{R:YN}{op name:List Nat}{n at_:Int}{kids:List Nd}{cs:List AV}(r:Ox R (.mk op name n at_ kids) cs):
  ∃kk ls,cs=[.str op,.str name,.int .i64 n,.int .i64 at_,kk]∧Zy R kids kk ls∧Bytes op∧Bytes name:=by
 cases r with
 |leaf hs ha hb=>exact⟨_,[],rfl,.none hs ha,hb⟩
 |node hr hn hl hk hb=>
  rename_i c m off cells
  have hlen:((List.range kids.length).map fun i=>(cells.drop (off+i *5)).take 5).length=kids.length:=by simp
  have hat: ∀(i:Nat) (cs:List AV),((List.range kids.length).map fun i=>(cells.drop (off+i *5)).take 5)[i]? =some cs→i<kids.length∧cs=(cells.drop (off+i *5)).take 5:=by
   intro i cs hi;rw[List.getElem?_map]at hi
   have hlt:i<kids.length:=by
    by_cases h:i<kids.length
    ·exact h
    ·rw[List.getElem?_eq_none (by simp;omega)]at hi;cases hi
   rw[List.getElem?_range hlt]at hi
   injection hi with hi
   exact⟨hlt,hi.symm⟩
  refine⟨_,(List.range kids.length).map fun i=>(cells.drop (off+i *5)).take 5,rfl,.row hr hn hl hlen (fun i cs hi=>(hat i cs hi).2) fun i k cs h1 h2=>?_,hb⟩;rw[(hat i cs h2).2];exact hk i k h1
structure y8(n0:Nat)(st':St)(A:Qj):Prop where
 row: ∀c m l,(c,m,l)∈A→UI st'.h.get c m l
 own: ∀c m l,(c,m,l)∈A→n0≤c
 nodup:(A.map Prod.fst).Nodup
section
variable {h0:Hp} {n0:Nat} {st st':St} {M L A B:Qj}
theorem Mem.U0(h:Mem h0 n0 [] st M)(q:Qt st st')(s:y8 st.n st' A):Mem h0 n0 [] st' (M++(A++[])):=by
 rw[List.append_nil];refine h.Dq (q.Ks []) (fun c hc=>by simp at hc) ?_ fun c m l hm=>?_
 ·rw[List.map_append];refine List.nodup_append.2 ⟨h.nodup,s.nodup,fun x hx y hy e=>?_⟩;subst e;obtain⟨⟨c1,m1,l1⟩,h1,rfl⟩:=List.mem_map.1 hx;obtain⟨⟨c2,m2,l2⟩,h2,e⟩:=List.mem_map.1 hy;have e:c2=c1:=e;subst e;have:=h.lt _ _ _ h1;have:=s.own _ _ _ h2;omega
 ·rcases List.mem_append.1 hm with hm|hm
  ·exact .inl ⟨hm,by simp⟩
  ·exact .inr ⟨s.row _ _ _ hm,.inr (s.own _ _ _ hm)⟩
theorem Mem.Ln{st0:St}(h:Mem st0.h.get st0.n [] st' M)(hs:A.Sublist M):y8 st0.n st' A:=
 ⟨fun c m l hm=>h.row c m l (hs.subset hm),fun c m l hm=>(h.own c m l (hs.subset hm)).resolve_right (by simp),h.nodup.sublist (hs.map _)⟩
theorem Mem.XY(h:Mem h0 n0 [] st M){R:YN}(hR:XY R h0):Proofs.YtadjjadimlkkgaaGreatDoor.XY R st.h.get:=fun c m l hr=>h.rows c m l (hR c m l hr)
theorem Mem.yj(h:Mem h0 n0 [] st M){R:YN}(hR:Proofs.YtadjjadimlkkgaaGreatDoor.XY R h0)(hB: ∀x∈B,x∈M):Proofs.YtadjjadimlkkgaaGreatDoor.XY (Jt R B) st.h.get:=fun c m l hr=>hr.elim (fun x=>h.rows c m l (hR c m l x)) fun x=>UI.EJ (h.row c m l (hB _ x))
end
inductive US(n0:Nat):Qj→AV→List (List Nat)→Prop
 |none:US n0 [] .nils []
 |own {c m:Nat} {l:List (List Nat)} {rest:List AV} (hc:n0≤c) (hb:l.length≤1000000):US n0 [(c,m,(Kq l).flatten++rest)] (.sl c m 0 l.length 1) l
theorem US.len{n0:Nat}{A:Qj}{ks:AV}{l:List (List Nat)}(h:US n0 A ks l):Yj ks=some l.length:=by cases h<;>rfl
theorem US.cell{n0:Nat}{A:Qj}{ks:AV}{l:List (List Nat)}(h:US n0 A ks l):QE ks=true:=by cases h<;>rfl
section
variable {P:Program} {G:Env} {h0:Hp} {n0:Nat} {st st':St} {M L A B:Qj} {ks:AV} {l:List (List Nat)}
end
end Go.Proofs.YtadjjadimlkkgaaGreatDoor
end
section
namespace Go.Proofs.YtadjjadimlkkgaaGreatDoor
open Go Go.RowKit
set_option maxRecDepth 100000

def Tk.cells(t:Tk):List AV:=[.int .i64 t.k,.str t.s,.int .i64 t.n,.int .i64 t.a]
abbrev R0:YN:=fun _ _ _=>False
section
variable {h0:Hp} {n0:Nat} {X:List Nat} {st st':St} {M L A B:Qj}
end
end Go.Proofs.YtadjjadimlkkgaaGreatDoor
end
