/-
  Core formulas that are read off rows that are said; rows that are handed over and handed back.
-/
import Derived.Test.YtadjjadimlkkgaaGreatDoorLiPaQ
namespace Go.Proofs.YtadjjadimlkkgaaGreatDoor
open Go Go.RowKit
set_option linter.unusedVariables false
set_option linter.unusedSimpArgs false
set_option linter.unusedSectionVars false

inductive Cr where
 |mk (op:List Nat) (a b c n:Int) (kids:List Cr)
def Cr.op:Cr→List Nat
 |.mk o _ _ _ _ _=>o
def Cr.kids:Cr→List Cr
 |.mk _ _ _ _ _ l=>l
inductive Z9(R:YN):Cr→List AV→Prop
 |leaf {o:List Nat} {a b c n:Int} {ks:AV} (hs:Yj ks=some 0) (ha:Sm ks=true):Z9 R (.mk o a b c n []) [.str o,.int .i64 a,.int .i64 b,.int .i64 c,.int .i64 n,ks]
 |node {o:List Nat} {a b c n:Int} {kids:List Cr} {x m off:Nat} {cells:List AV} (hr:R x m cells) (hn:(kids.length:Int)≤9223372036854775807) (hl:off+kids.length *6≤cells.length)
  (hk: ∀(i:Nat) (k:Cr),kids[i]? =some k→Z9 R k ((cells.drop (off+i *6)).take 6)):Z9 R (.mk o a b c n kids) [.str o,.int .i64 a,.int .i64 b,.int .i64 c,.int .i64 n,.sl x m off kids.length 6]
theorem Z9.mono{R R':YN}(hl: ∀c m l,R c m l→R' c m l){t:Cr}{cs:List AV}(r:Z9 R t cs):Z9 R' t cs:=by
 induction r with
 |leaf hs ha=>exact .leaf hs ha
 |node hr hn hl' hk ih=>exact .node (hl _ _ _ hr) hn hl' ih
inductive Xc(R:YN):List Cr→AV→List (List AV)→Prop
 |none {kk:AV} (hs:Yj kk=some 0) (ha:Sm kk=true):Xc R [] kk []
 |row {kids:List Cr} {ls:List (List AV)} {c m off:Nat} {cells:List AV} (hr:R c m cells) (hn:(kids.length:Int)≤9223372036854775807) (hl:off+kids.length *6≤cells.length) (hls:ls.length=kids.length)
  (hcs: ∀(i:Nat) (cs:List AV),ls[i]? =some cs→cs=(cells.drop (off+i *6)).take 6) (hk: ∀(i:Nat) (k:Cr) (cs:List AV),kids[i]? =some k→ls[i]? =some cs→Z9 R k cs):Xc R kids (.sl c m off kids.length 6) ls
section
variable {R:YN} {kids:List Cr} {kk:AV} {ls:List (List AV)}
theorem Xc.ln(K:Xc R kids kk ls):ls.length=kids.length:=by
 cases K with
 |none=>rfl
 |row _ _ _ h=>exact h
theorem Xc.len(K:Xc R kids kk ls):Yj kk=some kids.length:=by
 cases K with
 |none hs ha=>exact hs
 |row=>rfl
theorem Xc.cell(K:Xc R kids kk ls):QE kk=true:=ZA K.len
theorem Xc.UK(K:Xc R kids kk ls):(kids.length:Int)≤9223372036854775807:=by
 cases K with
 |none=>simp
 |row _ h=>exact h
theorem Xc.get(K:Xc R kids kk ls){i:Nat}{k:Cr}(hi:kids[i]? =some k): ∃cs,ls[i]? =some cs∧Z9 R k cs:=by
 have hlt:i<ls.length:=by rw[K.ln];exact(List.getElem?_eq_some_iff.1 hi).1
 refine⟨_,List.getElem?_eq_getElem hlt,?_⟩
 cases K with
 |none=>simp at hi
 |row _ _ _ _ _ hk=>exact hk i k _ hi (List.getElem?_eq_getElem hlt)
theorem Xc.r(K:Xc R kids kk ls){h:Hp}(hi:XY R h):VK h [] 6 ls kk:=by
 cases K with
 |none hs ha=>exact⟨hs,by simp,ZA hs,fun i cs hi=>by simp at hi,fun c m off n z e=>by subst e;cases ha⟩
 |row hr hn hl hls hcs hk=>
  rename_i c m off cells;refine⟨by rw[hls];rfl,by rw[hls];exact hn,rfl,fun i cs he=>?_,fun c' m' off' n' z e=>?_⟩
  ·have hlt:=(List.getElem?_eq_some_iff.1 he).1;have:=hcs i cs he;refine⟨c,m,off,cells,by rw[hls],by simp,hi _ _ _ hr,?_,this.symm⟩;rw[this,List.length_take,List.length_drop];omega
  ·injection e with e1 e2 e3 e4 e5
   subst e1 e2 e3 e4 e5;exact⟨by simp,cells,hi _ _ _ hr,hl⟩
end
theorem Z9.ud{R:YN}{k:Cr}{cs:List AV}(r:Z9 R k cs):cs.length=6:=by cases r<;>rfl
theorem Z9.WE{R:YN}{o:List Nat}{a b c n:Int}{kids:List Cr}{cs:List AV}(r:Z9 R (.mk o a b c n kids) cs):
  ∃kk ls,cs=[.str o,.int .i64 a,.int .i64 b,.int .i64 c,.int .i64 n,kk]∧Xc R kids kk ls:=by
 cases r with
 |leaf hs ha=>exact⟨_,[],rfl,.none hs ha⟩
 |node hr hn hl hk=>
  rename_i x m off cells
  have hlen:((List.range kids.length).map fun i=>(cells.drop (off+i *6)).take 6).length=kids.length:=by simp
  have hat: ∀(i:Nat) (cs:List AV),((List.range kids.length).map fun i=>(cells.drop (off+i *6)).take 6)[i]? =some cs→i<kids.length∧cs=(cells.drop (off+i *6)).take 6:=by
   intro i cs hi;rw[List.getElem?_map]at hi
   have hlt:i<kids.length:=by
    by_cases h:i<kids.length
    ·exact h
    ·rw[List.getElem?_eq_none (by simp;omega)]at hi;cases hi
   rw[List.getElem?_range hlt]at hi
   injection hi with hi
   exact⟨hlt,hi.symm⟩
  refine⟨_,(List.range kids.length).map fun i=>(cells.drop (off+i *6)).take 6,rfl,.row hr hn hl hlen (fun i cs hi=>(hat i cs hi).2) fun i k cs h1 h2=>?_⟩;rw[(hat i cs h2).2];exact hk i k h1
theorem Z9.yO{R:YN}{k:Cr}{cs:List AV}(r:Z9 R k cs): ∃o a b c n l kk ls,k=.mk o a b c n l∧cs=[.str o,.int .i64 a,.int .i64 b,.int .i64 c,.int .i64 n,kk]∧Xc R l kk ls:=by
 obtain⟨o,a,b,c,n,l⟩:=k;obtain⟨kk,ls,e,K⟩:=r.WE;exact⟨o,a,b,c,n,l,kk,ls,rfl,e,K⟩
theorem Z9.shape{R:YN}{k:Cr}{o:List Nat}{a b c n:Int}{kk:AV}(r:Z9 R k [.str o,.int .i64 a,.int .i64 b,.int .i64 c,.int .i64 n,kk]): ∃l ls,k=.mk o a b c n l∧Xc R l kk ls:=by
 obtain⟨o1,a1,b1,c1,n1,l,kk',ls,e1,e,K⟩:=r.yO
 injection e with x1 e;injection e with x2 e;injection e with x3 e;injection e with x4 e;injection e with x5 e;injection e with x6 e
 injection x1 with x1;injection x2 with _ x2;injection x3 with _ x3;injection x4 with _ x4;injection x5 with _ x5
 subst x1 x2 x3 x4 x5 x6;exact⟨l,ls,e1,K⟩
theorem Z9.JE{R:YN}{k:Cr}{a b c d e kk:AV}(r:Z9 R k [a,b,c,d,e,kk]):QE kk=true:=by
 obtain⟨o1,a1,b1,c1,n1,l,kk',ls,e1,e,K⟩:=r.yO
 injection e with x1 e;injection e with x2 e;injection e with x3 e;injection e with x4 e;injection e with x5 e;injection e with x6 e
 subst x6;exact K.cell
theorem Z9.Pf{R:YN}{k:Cr}{a b c d e kk:AV}(r:Z9 R k [a,b,c,d,e,kk]):Yj kk=some k.kids.length:=by
 obtain⟨o1,a1,b1,c1,n1,l,kk',ls,e1,e,K⟩:=r.yO
 injection e with x1 e;injection e with x2 e;injection e with x3 e;injection e with x4 e;injection e with x5 e;injection e with x6 e
 subst x6 e1;exact K.len
theorem Xm{R:YN}{o:List Nat}{a b c n:Int}:Z9 R (.mk o a b c n []) [.str o,.int .i64 a,.int .i64 b,.int .i64 c,.int .i64 n,.nils]:=.leaf rfl rfl
theorem Sl{R:YN}{A:Qj}{k:Cr}{kc:List AV}{o:List Nat}{a b c n:Int}{x:Nat}(hr:(x,0,kc)∈A)(hk:Z9 (Jt R A) k kc):Z9 (Jt R A) (.mk o a b c n [k]) [.str o,.int .i64 a,.int .i64 b,.int .i64 c,.int .i64 n,.sl x 0 0 1 6]:=by
 have h6:=hk.ud;refine .node (kids:=[k]) (.inr hr) (by simp) (by simp;omega) fun i k' h1=>?_
 match i,h1 with
 |0,h1=>
  injection h1 with h1
  subst h1;rw[show(kc.drop (0+0 *6)).take 6=kc from List.take_of_length_le (by simp;omega)];exact hk
theorem jY{R:YN}{A:Qj}{k j:Cr}{kc jc:List AV}{o:List Nat}{a b c n:Int}{x:Nat}(hr:(x,0,kc++jc)∈A)(hk:Z9 (Jt R A) k kc)(hj:Z9 (Jt R A) j jc):Z9 (Jt R A) (.mk o a b c n [k,j]) [.str o,.int .i64 a,.int .i64 b,.int .i64 c,.int .i64 n,.sl x 0 0 2 6]:=by
 have h6:=hk.ud;have h7:=hj.ud;refine .node (kids:=[k,j]) (.inr hr) (by simp) (by simp;omega) fun i k' h1=>?_
 match i,h1 with
 |0,h1=>
  injection h1 with h1
  subst h1;rw[show((kc++jc).drop (0+0 *6)).take 6=kc by rw[Nat.zero_mul,Nat.zero_add,List.drop_zero,List.take_append_of_le_length (by omega),List.take_of_length_le (by omega)]];exact hk
 |1,h1=>
  injection h1 with h1
  subst h1;rw[show((kc++jc).drop (0+1 *6)).take 6=jc by rw[Nat.one_mul,Nat.zero_add,List.drop_append_of_le_length (by omega),List.drop_of_length_le (by omega),List.nil_append,List.take_of_length_le (by omega)]];exact hj
def YV(R:YN)(st st':St)(k:Cr)(v:AV):Prop:= ∃o a b c n kk A,v=.agg [.str o,.int .i64 a,.int .i64 b,.int .i64 c,.int .i64 n,kk]∧y8 st.n st' A∧Z9 (Jt R A) k [.str o,.int .i64 a,.int .i64 b,.int .i64 c,.int .i64 n,kk]
theorem YV.of{R:YN}{st st':St}{A:Qj}{k:Cr}{o:List Nat}{a b c n:Int}{kk:AV}(r:Z9 (Jt R A) k [.str o,.int .i64 a,.int .i64 b,.int .i64 c,.int .i64 n,kk])(h:y8 st.n st' A):YV R st st' k (.agg [.str o,.int .i64 a,.int .i64 b,.int .i64 c,.int .i64 n,kk]):=⟨_,_,_,_,_,_,A,rfl,h,r⟩
structure Ov(st st':St)(F F':Qj):Prop where
 Ks:Rm (F.map Prod.fst) st st'
 row: ∀c m l,(c,m,l)∈F'→UI st'.h.get c m l
 own: ∀c m l,(c,m,l)∈F'→c∈F.map Prod.fst∨st.n≤c
 nodup:(F'.map Prod.fst).Nodup
structure C5(st:St)(F:Qj):Prop where
 row: ∀c m l,(c,m,l)∈F→UI st.h.get c m l
 nodup:(F.map Prod.fst).Nodup
theorem C5.start{st:St}{F:Qj}(hf:Qx st)(h:C5 st F):Mem st.h.get st.n (F.map Prod.fst) st F:=Mem.RD hf F h.row h.nodup
theorem Mem.z8{h0:Hp}{n0:Nat}{X:List Nat}{st:St}{M F:Qj}(h:Mem h0 n0 X st M)(hs:F.Sublist M):C5 st F:=⟨fun c m l hm=>h.row c m l (hs.subset hm),h.nodup.sublist (hs.map _)⟩
theorem Mem.JS{st0 st:St}{M F F':Qj}(h:Mem st0.h.get st0.n (F.map Prod.fst) st M)(hs:F'.Sublist M):Ov st0 st F F':=
 ⟨h.Ks,fun c m l hm=>h.row c m l (hs.subset hm),fun c m l hm=>(h.own c m l (hs.subset hm)).symm,h.nodup.sublist (hs.map _)⟩
theorem Mem.YA{h0:Hp}{n0:Nat}{X:List Nat}{st st':St}{F F' B:Qj}(h:Mem h0 n0 X st (F++B))(f:Ov st st' F F'):Mem h0 n0 X st' (F'++B):=by
 have hnd:=h.nodup;rw[List.map_append]at hnd;obtain⟨n1,n2,n3⟩:=List.nodup_append.1 hnd;refine h.Dq f.Ks (fun c hc=>?_) ?_ fun c m l hm=>?_
 ·obtain⟨⟨c1,m1,l1⟩,h1,rfl⟩:=List.mem_map.1 hc;exact⟨m1,l1,List.mem_append_left _ h1⟩
 ·rw[List.map_append];refine List.nodup_append.2 ⟨f.nodup,n2,fun x hx y hy e=>?_⟩;subst e;obtain⟨⟨c1,m1,l1⟩,h1,rfl⟩:=List.mem_map.1 hx;rcases f.own _ _ _ h1 with h2|h2
  ·exact n3 _ h2 _ hy rfl
  ·obtain⟨⟨c2,m2,l2⟩,h3,e⟩:=List.mem_map.1 hy;have e:c2=c1:=e;subst e;have:=h.lt _ _ _ (List.mem_append_right F h3);omega
 ·rcases List.mem_append.1 hm with hm|hm
  ·refine .inr ⟨f.row _ _ _ hm,?_⟩;rcases f.own _ _ _ hm with h2|h2
   ·obtain⟨⟨c1,m1,l1⟩,h1,e⟩:=List.mem_map.1 h2;have e:c1=c:=e;subst e;exact .inl ⟨m1,l1,List.mem_append_left _ h1⟩
   ·exact .inr h2
  ·exact .inl ⟨List.mem_append_right _ hm,fun hc=>n3 _ hc _ (List.mem_map.2 ⟨_,hm,rfl⟩) rfl⟩
abbrev FL(cp:Nat)(A:Qj)(kn:AV)(lg:Bool):Qj:=(cp,0,[kn,.bool lg])::A
abbrev Je(cp:Nat)(A:Qj)(kn:AV)(lg:Bool)(lp:Nat)(B:Qj)(kl:AV):Qj:=(cp,0,[kn,.bool lg])::(lp,0,[kl])::(A++B)
theorem Mem.Q9{h0:Hp}{n0:Nat}{X:List Nat}{st:St}(L:List Qj)(h:Mem h0 n0 X st L.flatten)(idx:List Nat){n:Nat}(hn:L.length=n)(hp:idx.Perm (List.range n)):Mem h0 n0 X st (idx.map fun i=>L.getD i []).flatten:=by
 subst hn;refine h.perm ?_;have h1:=(hp.map fun i=>L.getD i []).symm
 have h2:(List.range L.length).map (fun i=>L.getD i [])=L:=by
  apply List.ext_getElem?;intro i;rw[List.getElem?_map]
  by_cases hi:i<L.length
  ·rw[List.getElem?_range hi,List.getElem?_eq_getElem hi];show some (L.getD i [])=_;rw[List.getD_eq_getElem?_getD,List.getElem?_eq_getElem hi];rfl
  ·rw[List.getElem?_eq_none (by simp;omega),List.getElem?_eq_none (by omega)];rfl
 rw[h2]at h1;exact h1.flatten
theorem Mem.YE{h0:Hp}{n0:Nat}{X:List Nat}{st:St}{F B:Qj}(h:Mem h0 n0 X st (F++B)):C5 st F:=h.z8 (List.sublist_append_left _ _)
theorem Mem.NM{h0:Hp}{n0:Nat}{X:List Nat}{st:St}{M:Qj}(h:Mem h0 n0 X st M){R:YN}(hR:Proofs.YtadjjadimlkkgaaGreatDoor.XY R h0)(hX: ∀c m l,R c m l→c∉X):Proofs.YtadjjadimlkkgaaGreatDoor.XY R st.h.get:=fun c m l hr=>h.jM (hX c m l hr) (hR c m l hr)
theorem Mem.yQ{h0:Hp}{n0:Nat}{X:List Nat}{st:St}{M:Qj}(h:Mem h0 n0 X st M){R:YN}(hR:Proofs.YtadjjadimlkkgaaGreatDoor.XY R h0)(hX: ∀c m l,R c m l→c∉X){c m:Nat}{l:List AV}(hr:R c m l):c∉M.map Prod.fst:=fun hc=>by
 obtain⟨⟨c1,m1,l1⟩,h1,e⟩:=List.mem_map.1 hc;have e:c1=c:=e;subst e;rcases h.own _ _ _ h1 with h2|h2
 ·obtain⟨_,_,_,_,h3,_⟩:=hR _ _ _ hr;rw[h.base _ h2]at h3;cases h3
 ·exact hX _ _ _ hr h2
theorem Mem.I1{h0:Hp}{n0:Nat}{X:List Nat}{st:St}{F B:Qj}(h:Mem h0 n0 X st (F++B)){R:YN}(hR:Proofs.YtadjjadimlkkgaaGreatDoor.XY R h0)(hX: ∀c m l,R c m l→c∉X): ∀c m l,R c m l→c∉F.map Prod.fst:=fun c m l hr hc=>h.yQ hR hX hr (by rw[List.map_append];exact List.mem_append_left _ hc)
theorem Mem.MU{h0:Hp}{n0:Nat}{X:List Nat}{st:St}{F B Q:Qj}(h:Mem h0 n0 X st (F++B)){R:YN}(hR:Proofs.YtadjjadimlkkgaaGreatDoor.XY R h0)(hX: ∀c m l,R c m l→c∉X)(hQ: ∀x∈Q,x∈B):Proofs.YtadjjadimlkkgaaGreatDoor.XY (Jt R Q) st.h.get:=fun c m l hr=>
 hr.elim (fun x=>h.NM hR hX c m l x) fun x=>UI.EJ (h.row c m l (List.mem_append_right _ (hQ _ x)))
theorem Mem.NC{h0:Hp}{n0:Nat}{X:List Nat}{st:St}{F B Q:Qj}(h:Mem h0 n0 X st (F++B)){R:YN}(hR:Proofs.YtadjjadimlkkgaaGreatDoor.XY R h0)(hX: ∀c m l,R c m l→c∉X)(hQ: ∀x∈Q,x∈B): ∀c m l,Jt R Q c m l→c∉F.map Prod.fst:=fun c m l hr=>by
 rcases hr with hr|hr
 ·exact h.I1 hR hX c m l hr
 ·have hnd:=h.nodup;rw[List.map_append]at hnd;exact fun hc=>(List.nodup_append.1 hnd).2.2 c hc c (List.mem_map.2 ⟨_,hQ _ hr,rfl⟩) rfl
theorem Mem.JF{h0:Hp}{n0:Nat}{X:List Nat}{st st':St}{M A:Qj}(h:Mem h0 n0 X st M)(q:Qt st st')(s:y8 st.n st' A):Mem h0 n0 X st' (M++(A++[])):=by
 have h1:Mem h0 n0 X st' (A++M):=Mem.YA (F:=[]) h ⟨q.Ks [],s.row,fun c m l hm=>.inr (s.own c m l hm),s.nodup⟩;rw[List.append_nil];exact h1.perm List.perm_append_comm
end Go.Proofs.YtadjjadimlkkgaaGreatDoor
