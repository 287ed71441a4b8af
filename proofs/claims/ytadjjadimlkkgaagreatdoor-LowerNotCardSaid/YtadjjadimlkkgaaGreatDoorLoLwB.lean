/-
  Core formulas that are read off rows that are said; rows that are handed over and handed back.
-/
import Derived.Test.YtadjjadimlkkgaaGreatDoorLoPaQ
set_option maxHeartbeats 8000000
set_option maxRecDepth 100000
set_option linter.unnecessarySimpa false
set_option linter.unusedSectionVars false
set_option linter.unusedSimpArgs false
set_option linter.unusedVariables false
section
namespace Go.Proofs.YtadjjadimlkkgaaGreatDoor
open Go Go.RowKit

inductive Cr where
 |mk (op:List Nat) (a b c n:Int) (kids:List Cr)
def Cr.op:Cr→List Nat
 |.mk o _ _ _ _ _=>o
def Cr.kids:Cr→List Cr
 |.mk _ _ _ _ _ l=>l
inductive Vo(R:YX):Cr→List AV→Prop
 |leaf {o:List Nat} {a b c n:Int} {ks:AV} (hs:ZF ks=some 0) (ha:ML ks=true):Vo R (.mk o a b c n []) [.str o,.int .i64 a,.int .i64 b,.int .i64 c,.int .i64 n,ks]
 |node {o:List Nat} {a b c n:Int} {kids:List Cr} {x m off:Nat} {cells:List AV} (hr:R x m cells) (hn:(kids.length:Int)≤9223372036854775807) (hl:off+kids.length *6≤cells.length)
  (hk: ∀(i:Nat) (k:Cr),kids[i]? =some k→Vo R k ((cells.drop (off+i *6)).take 6)):Vo R (.mk o a b c n kids) [.str o,.int .i64 a,.int .i64 b,.int .i64 c,.int .i64 n,.sl x m off kids.length 6]
theorem Vo.mono{R R':YX}(hl: ∀c m l,R c m l→R' c m l){t:Cr}{cs:List AV}(r:Vo R t cs):Vo R' t cs:=by
 induction r with
 |leaf hs ha=>exact .leaf hs ha
 |node hr hn hl' hk ih=>exact .node (hl _ _ _ hr) hn hl' ih
inductive VW(R:YX):List Cr→AV→List (List AV)→Prop
 |none {kk:AV} (hs:ZF kk=some 0) (ha:ML kk=true):VW R [] kk []
 |row {kids:List Cr} {ls:List (List AV)} {c m off:Nat} {cells:List AV} (hr:R c m cells) (hn:(kids.length:Int)≤9223372036854775807) (hl:off+kids.length *6≤cells.length) (hls:ls.length=kids.length)
  (hcs: ∀(i:Nat) (cs:List AV),ls[i]? =some cs→cs=(cells.drop (off+i *6)).take 6) (hk: ∀(i:Nat) (k:Cr) (cs:List AV),kids[i]? =some k→ls[i]? =some cs→Vo R k cs):VW R kids (.sl c m off kids.length 6) ls
section
variable {R:YX} {kids:List Cr} {kk:AV} {ls:List (List AV)}
theorem VW.ln(K:VW R kids kk ls):ls.length=kids.length:=by
 cases K with
 |none=>rfl
 |row _ _ _ h=>exact h
theorem VW.len(K:VW R kids kk ls):ZF kk=some kids.length:=by
 cases K with
 |none hs ha=>exact hs
 |row=>rfl
theorem VW.cell(K:VW R kids kk ls):Jy kk=true:=WB K.len
theorem VW.ZJ(K:VW R kids kk ls):(kids.length:Int)≤9223372036854775807:=by
 cases K with
 |none=>simp
 |row _ h=>exact h
theorem VW.get(K:VW R kids kk ls){i:Nat}{k:Cr}(hi:kids[i]? =some k): ∃cs,ls[i]? =some cs∧Vo R k cs:=by
 have hlt:i<ls.length:=by rw[K.ln];exact(List.getElem?_eq_some_iff.1 hi).1
 refine⟨_,List.getElem?_eq_getElem hlt,?_⟩
 cases K with
 |none=>simp at hi
 |row _ _ _ _ _ hk=>exact hk i k _ hi (List.getElem?_eq_getElem hlt)
theorem VW.r(K:VW R kids kk ls){h:Hp}(hi:EU R h):J1 h [] 6 ls kk:=by
 cases K with
 |none hs ha=>exact⟨hs,by simp,WB hs,fun i cs hi=>by simp at hi,fun c m off n z e=>by subst e;cases ha⟩
 |row hr hn hl hls hcs hk=>
  rename_i c m off cells;refine⟨by rw[hls];rfl,by rw[hls];exact hn,rfl,fun i cs he=>?_,fun c' m' off' n' z e=>?_⟩
  ·have hlt:=(List.getElem?_eq_some_iff.1 he).1;have:=hcs i cs he;refine⟨c,m,off,cells,by rw[hls],by simp,hi _ _ _ hr,?_,this.symm⟩;rw[this,List.length_take,List.length_drop];omega
  ·injection e with e1 e2 e3 e4 e5
   subst e1 e2 e3 e4 e5;exact⟨by simp,cells,hi _ _ _ hr,hl⟩
end
theorem Vo.zu{R:YX}{k:Cr}{cs:List AV}(r:Vo R k cs):cs.length=6:=by cases r<;>rfl
theorem Vo.KX{R:YX}{o:List Nat}{a b c n:Int}{kids:List Cr}{cs:List AV}(r:Vo R (.mk o a b c n kids) cs):
  ∃kk ls,cs=[.str o,.int .i64 a,.int .i64 b,.int .i64 c,.int .i64 n,kk]∧VW R kids kk ls:=by
 cases r with
 |leaf hs ha=>exact⟨_,[],rfl,.none hs ha⟩
 |node hr hn hl hk=>
  rename_i x m off cells
  have hlen:((List.range kids.length).map fun i=>(cells.drop (off+i *6)).take 6).length=kids.length:=by simp
  have hat: ∀(i:Nat) (cs:List AV),((List.range kids.length).map fun i=>(cells.drop (off+i *6)).take 6)[i]? =some cs→i<kids.length∧cs=(cells.drop (off+i *6)).take 6:=by
   intro i cs hi;rw[List.getElem?_map]at hi
   have hlt:i<kids.length:=by
    by_cases h:i<kids.length
    ·exact h
    ·rw[List.getElem?_eq_none (by simp;omega)]at hi;cases hi
   rw[List.getElem?_range hlt]at hi
   injection hi with hi
   exact⟨hlt,hi.symm⟩
  refine⟨_,(List.range kids.length).map fun i=>(cells.drop (off+i *6)).take 6,rfl,.row hr hn hl hlen (fun i cs hi=>(hat i cs hi).2) fun i k cs h1 h2=>?_⟩;rw[(hat i cs h2).2];exact hk i k h1
theorem Vo.xN{R:YX}{k:Cr}{cs:List AV}(r:Vo R k cs): ∃o a b c n l kk ls,k=.mk o a b c n l∧cs=[.str o,.int .i64 a,.int .i64 b,.int .i64 c,.int .i64 n,kk]∧VW R l kk ls:=by
 obtain⟨o,a,b,c,n,l⟩:=k;obtain⟨kk,ls,e,K⟩:=r.KX;exact⟨o,a,b,c,n,l,kk,ls,rfl,e,K⟩
theorem Vo.shape{R:YX}{k:Cr}{o:List Nat}{a b c n:Int}{kk:AV}(r:Vo R k [.str o,.int .i64 a,.int .i64 b,.int .i64 c,.int .i64 n,kk]): ∃l ls,k=.mk o a b c n l∧VW R l kk ls:=by
 obtain⟨o1,a1,b1,c1,n1,l,kk',ls,e1,e,K⟩:=r.xN
 injection e with x1 e;injection e with x2 e;injection e with x3 e;injection e with x4 e;injection e with x5 e;injection e with x6 e
 injection x1 with x1;injection x2 with _ x2;injection x3 with _ x3;injection x4 with _ x4;injection x5 with _ x5
 subst x1 x2 x3 x4 x5 x6;exact⟨l,ls,e1,K⟩
theorem Vo.Un{R:YX}{k:Cr}{a b c d e kk:AV}(r:Vo R k [a,b,c,d,e,kk]):Jy kk=true:=by
 obtain⟨o1,a1,b1,c1,n1,l,kk',ls,e1,e,K⟩:=r.xN
 injection e with x1 e;injection e with x2 e;injection e with x3 e;injection e with x4 e;injection e with x5 e;injection e with x6 e
 subst x6;exact K.cell
theorem Vo.qb{R:YX}{k:Cr}{a b c d e kk:AV}(r:Vo R k [a,b,c,d,e,kk]):ZF kk=some k.kids.length:=by
 obtain⟨o1,a1,b1,c1,n1,l,kk',ls,e1,e,K⟩:=r.xN
 injection e with x1 e;injection e with x2 e;injection e with x3 e;injection e with x4 e;injection e with x5 e;injection e with x6 e
 subst x6 e1;exact K.len
theorem Wn{R:YX}{o:List Nat}{a b c n:Int}:Vo R (.mk o a b c n []) [.str o,.int .i64 a,.int .i64 b,.int .i64 c,.int .i64 n,.nils]:=.leaf rfl rfl
theorem MK{R:YX}{A:QJ}{k:Cr}{kc:List AV}{o:List Nat}{a b c n:Int}{x:Nat}(hr:(x,0,kc)∈A)(hk:Vo (Jo R A) k kc):Vo (Jo R A) (.mk o a b c n [k]) [.str o,.int .i64 a,.int .i64 b,.int .i64 c,.int .i64 n,.sl x 0 0 1 6]:=by
 have h6:=hk.zu;refine .node (kids:=[k]) (.inr hr) (by simp) (by simp;omega) fun i k' h1=>?_
 match i,h1 with
 |0,h1=>
  injection h1 with h1
  subst h1;rw[show(kc.drop (0+0 *6)).take 6=kc from List.take_of_length_le (by simp;omega)];exact hk
theorem MJ{R:YX}{A:QJ}{k j:Cr}{kc jc:List AV}{o:List Nat}{a b c n:Int}{x:Nat}(hr:(x,0,kc++jc)∈A)(hk:Vo (Jo R A) k kc)(hj:Vo (Jo R A) j jc):Vo (Jo R A) (.mk o a b c n [k,j]) [.str o,.int .i64 a,.int .i64 b,.int .i64 c,.int .i64 n,.sl x 0 0 2 6]:=by
 have h6:=hk.zu;have h7:=hj.zu;refine .node (kids:=[k,j]) (.inr hr) (by simp) (by simp;omega) fun i k' h1=>?_
 match i,h1 with
 |0,h1=>
  injection h1 with h1
  subst h1;rw[show((kc++jc).drop (0+0 *6)).take 6=kc by rw[Nat.zero_mul,Nat.zero_add,List.drop_zero,List.take_append_of_le_length (by omega),List.take_of_length_le (by omega)]];exact hk
 |1,h1=>
  injection h1 with h1
  subst h1;rw[show((kc++jc).drop (0+1 *6)).take 6=jc by rw[Nat.one_mul,Nat.zero_add,List.drop_append_of_le_length (by omega),List.drop_of_length_le (by omega),List.nil_append,List.take_of_length_le (by omega)]];exact hj
def Xo(R:YX)(st st':St)(k:Cr)(v:AV):Prop:= ∃o a b c n kk A,v=.agg [.str o,.int .i64 a,.int .i64 b,.int .i64 c,.int .i64 n,kk]∧Dt st.n st' A∧Vo (Jo R A) k [.str o,.int .i64 a,.int .i64 b,.int .i64 c,.int .i64 n,kk]
theorem Xo.of{R:YX}{st st':St}{A:QJ}{k:Cr}{o:List Nat}{a b c n:Int}{kk:AV}(r:Vo (Jo R A) k [.str o,.int .i64 a,.int .i64 b,.int .i64 c,.int .i64 n,kk])(h:Dt st.n st' A):Xo R st st' k (.agg [.str o,.int .i64 a,.int .i64 b,.int .i64 c,.int .i64 n,kk]):=⟨_,_,_,_,_,_,A,rfl,h,r⟩
structure Oi(st st':St)(F F':QJ):Prop where
 U7:Ag (F.map Prod.fst) st st'
 row: ∀c m l,(c,m,l)∈F'→JA st'.h.get c m l
 own: ∀c m l,(c,m,l)∈F'→c∈F.map Prod.fst∨st.n≤c
 nodup:(F'.map Prod.fst).Nodup
structure PM(st:St)(F:QJ):Prop where
 row: ∀c m l,(c,m,l)∈F→JA st.h.get c m l
 nodup:(F.map Prod.fst).Nodup
theorem PM.start{st:St}{F:QJ}(hf:Q6 st)(h:PM st F):Mem st.h.get st.n (F.map Prod.fst) st F:=Mem.Mh hf F h.row h.nodup
theorem Mem.vg{h0:Hp}{n0:Nat}{X:List Nat}{st:St}{M F:QJ}(h:Mem h0 n0 X st M)(hs:F.Sublist M):PM st F:=⟨fun c m l hm=>h.row c m l (hs.subset hm),h.nodup.sublist (hs.map _)⟩
theorem Mem.Zr{st0 st:St}{M F F':QJ}(h:Mem st0.h.get st0.n (F.map Prod.fst) st M)(hs:F'.Sublist M):Oi st0 st F F':=
 ⟨h.U7,fun c m l hm=>h.row c m l (hs.subset hm),fun c m l hm=>(h.own c m l (hs.subset hm)).symm,h.nodup.sublist (hs.map _)⟩
theorem Mem.xn{h0:Hp}{n0:Nat}{X:List Nat}{st st':St}{F F' B:QJ}(h:Mem h0 n0 X st (F++B))(f:Oi st st' F F'):Mem h0 n0 X st' (F'++B):=by
 have hnd:=h.nodup;rw[List.map_append]at hnd;obtain⟨n1,n2,n3⟩:=List.nodup_append.1 hnd;refine h.CZ f.U7 (fun c hc=>?_) ?_ fun c m l hm=>?_
 ·obtain⟨⟨c1,m1,l1⟩,h1,rfl⟩:=List.mem_map.1 hc;exact⟨m1,l1,List.mem_append_left _ h1⟩
 ·rw[List.map_append];refine List.nodup_append.2 ⟨f.nodup,n2,fun x hx y hy e=>?_⟩;subst e;obtain⟨⟨c1,m1,l1⟩,h1,rfl⟩:=List.mem_map.1 hx;rcases f.own _ _ _ h1 with h2|h2
  ·exact n3 _ h2 _ hy rfl
  ·obtain⟨⟨c2,m2,l2⟩,h3,e⟩:=List.mem_map.1 hy;have e:c2=c1:=e;subst e;have:=h.lt _ _ _ (List.mem_append_right F h3);omega
 ·rcases List.mem_append.1 hm with hm|hm
  ·refine .inr ⟨f.row _ _ _ hm,?_⟩;rcases f.own _ _ _ hm with h2|h2
   ·obtain⟨⟨c1,m1,l1⟩,h1,e⟩:=List.mem_map.1 h2;have e:c1=c:=e;subst e;exact .inl ⟨m1,l1,List.mem_append_left _ h1⟩
   ·exact .inr h2
  ·exact .inl ⟨List.mem_append_right _ hm,fun hc=>n3 _ hc _ (List.mem_map.2 ⟨_,hm,rfl⟩) rfl⟩
abbrev FL(cp:Nat)(A:QJ)(kn:AV)(lg:Bool):QJ:=(cp,0,[kn,.bool lg])::A
abbrev LD(cp:Nat)(A:QJ)(kn:AV)(lg:Bool)(lp:Nat)(B:QJ)(kl:AV):QJ:=(cp,0,[kn,.bool lg])::(lp,0,[kl])::(A++B)
theorem Mem.XM{h0:Hp}{n0:Nat}{X:List Nat}{st:St}(L:List QJ)(h:Mem h0 n0 X st L.flatten)(idx:List Nat){n:Nat}(hn:L.length=n)(hp:idx.Perm (List.range n)):Mem h0 n0 X st (idx.map fun i=>L.getD i []).flatten:=by
 subst hn;refine h.perm ?_;have h1:=(hp.map fun i=>L.getD i []).symm
 have h2:(List.range L.length).map (fun i=>L.getD i [])=L:=by
  apply List.ext_getElem?;intro i;rw[List.getElem?_map]
  by_cases hi:i<L.length
  ·rw[List.getElem?_range hi,List.getElem?_eq_getElem hi];show some (L.getD i [])=_;rw[List.getD_eq_getElem?_getD,List.getElem?_eq_getElem hi];rfl
  ·rw[List.getElem?_eq_none (by simp;omega),List.getElem?_eq_none (by omega)];rfl
 rw[h2]at h1;exact h1.flatten
theorem Mem.Xy{h0:Hp}{n0:Nat}{X:List Nat}{st:St}{F B:QJ}(h:Mem h0 n0 X st (F++B)):PM st F:=h.vg (List.sublist_append_left _ _)
theorem Mem.Bf{h0:Hp}{n0:Nat}{X:List Nat}{st:St}{M:QJ}(h:Mem h0 n0 X st M){R:YX}(hR:Proofs.YtadjjadimlkkgaaGreatDoor.EU R h0)(hX: ∀c m l,R c m l→c∉X):Proofs.YtadjjadimlkkgaaGreatDoor.EU R st.h.get:=fun c m l hr=>h.Ar (hX c m l hr) (hR c m l hr)
theorem Mem.xQ{h0:Hp}{n0:Nat}{X:List Nat}{st:St}{M:QJ}(h:Mem h0 n0 X st M){R:YX}(hR:Proofs.YtadjjadimlkkgaaGreatDoor.EU R h0)(hX: ∀c m l,R c m l→c∉X){c m:Nat}{l:List AV}(hr:R c m l):c∉M.map Prod.fst:=fun hc=>by
 obtain⟨⟨c1,m1,l1⟩,h1,e⟩:=List.mem_map.1 hc;have e:c1=c:=e;subst e;rcases h.own _ _ _ h1 with h2|h2
 ·obtain⟨_,_,_,_,h3,_⟩:=hR _ _ _ hr;rw[h.base _ h2]at h3;cases h3
 ·exact hX _ _ _ hr h2
theorem Mem.Nw{h0:Hp}{n0:Nat}{X:List Nat}{st:St}{F B:QJ}(h:Mem h0 n0 X st (F++B)){R:YX}(hR:Proofs.YtadjjadimlkkgaaGreatDoor.EU R h0)(hX: ∀c m l,R c m l→c∉X): ∀c m l,R c m l→c∉F.map Prod.fst:=fun c m l hr hc=>h.xQ hR hX hr (by rw[List.map_append];exact List.mem_append_left _ hc)
theorem Mem.uE{h0:Hp}{n0:Nat}{X:List Nat}{st:St}{F B Q:QJ}(h:Mem h0 n0 X st (F++B)){R:YX}(hR:Proofs.YtadjjadimlkkgaaGreatDoor.EU R h0)(hX: ∀c m l,R c m l→c∉X)(hQ: ∀x∈Q,x∈B):Proofs.YtadjjadimlkkgaaGreatDoor.EU (Jo R Q) st.h.get:=fun c m l hr=>
 hr.elim (fun x=>h.Bf hR hX c m l x) fun x=>JA.Xg (h.row c m l (List.mem_append_right _ (hQ _ x)))
theorem Mem.GR{h0:Hp}{n0:Nat}{X:List Nat}{st:St}{F B Q:QJ}(h:Mem h0 n0 X st (F++B)){R:YX}(hR:Proofs.YtadjjadimlkkgaaGreatDoor.EU R h0)(hX: ∀c m l,R c m l→c∉X)(hQ: ∀x∈Q,x∈B): ∀c m l,Jo R Q c m l→c∉F.map Prod.fst:=fun c m l hr=>by
 rcases hr with hr|hr
 ·exact h.Nw hR hX c m l hr
 ·have hnd:=h.nodup;rw[List.map_append]at hnd;exact fun hc=>(List.nodup_append.1 hnd).2.2 c hc c (List.mem_map.2 ⟨_,hQ _ hr,rfl⟩) rfl
theorem Mem.U4{h0:Hp}{n0:Nat}{X:List Nat}{st st':St}{M A:QJ}(h:Mem h0 n0 X st M)(q:Qt st st')(s:Dt st.n st' A):Mem h0 n0 X st' (M++(A++[])):=by
 have h1:Mem h0 n0 X st' (A++M):=Mem.xn (F:=[]) h ⟨q.U7 [],s.row,fun c m l hm=>.inr (s.own c m l hm),s.nodup⟩;rw[List.append_nil];exact h1.perm List.perm_append_comm
theorem Mem.pick{h0:Hp}{n0:Nat}{X:List Nat}{st:St}{F:QJ}(L:List QJ)(h:Mem h0 n0 X st L.flatten)(idx:List Nat){n:Nat}(hn:L.length=n)(hp:idx.Perm (List.range n))(k:Nat)(he:((idx.map fun i=>L.getD i []).take k).flatten=F):Mem h0 n0 X st (F++((idx.map fun i=>L.getD i []).drop k).flatten):=by
 rw[←he,←List.flatten_append,List.take_append_drop];exact h.XM L idx hn hp
theorem Mem.back{h0:Hp}{n0:Nat}{X:List Nat}{st st':St}{F F':QJ}{LR:List QJ}(LF:List QJ)(h:Mem h0 n0 X st (F++LR.flatten))(f:Oi st st' F F')(he:F'=LF.flatten)(idx:List Nat){n:Nat}(hn:(LF++LR).length=n)(hp:idx.Perm (List.range n)):Mem h0 n0 X st' (idx.map fun i=>(LF++LR).getD i []).flatten:=by
 refine Mem.XM (LF++LR) ?_ idx hn hp;rw[List.flatten_append,←he];exact h.xn f
theorem Mem.Lr{st0 st:St}{F F' B:QJ}(h:Mem st0.h.get st0.n (F.map Prod.fst) st (F'++B)):Oi st0 st F F':=h.Zr (List.sublist_append_left _ _)
end Go.Proofs.YtadjjadimlkkgaaGreatDoor
end
section
namespace Go.Proofs.YtadjjadimlkkgaaGreatDoor
open Go Go.RowKit

structure LS where
 ns:List (List Nat)
 lg:Bool
structure Nx where
 v:Int
 o:List Nat
 a:Int
 b:Int
 c:Int
 n:Int
def Nx.cells(x:Nx):List AV:=[.int .i64 x.v,.str x.o,.int .i64 x.a,.int .i64 x.b,.int .i64 x.c,.int .i64 x.n,.nils]
def Nx.d(x:Nx):Cr:=.mk x.o x.a x.b x.c x.n []
abbrev TL:Cr:=.mk [116,114,117,101] 0 0 0 0 []
abbrev GU:Cr:=.mk [] 0 0 0 0 []
abbrev Wc(k:Cr):Cr:=.mk [110,111,116] 0 0 0 0 [k]
abbrev AL(k j:Cr):Cr:=.mk [97,110,100] 0 0 0 0 [k,j]
abbrev I3(a b:Int):Cr:=.mk [115,117,98] a b 0 0 []
abbrev zO(v:Int)(k:Cr):Cr:=.mk [101,120] v 0 0 0 [k]
abbrev Io(v:Int)(d f:Cr):Cr:=zO v (AL d f)
abbrev Pp(k j:Cr):Cr:=Wc (AL k (Wc j))
abbrev Cx(a b:Int):Cr:=.mk [108,101,115,115] a b 0 0 []
def OY(ns:List (List Nat))(s:List Nat):Nat→Int
 |0=> -1
 |i+1=>if ns[i]? =some s then((i:Nat):Int)else OY ns s i
def GS(ns:List (List Nat))(s:List Nat):Int:=OY ns s ns.length
def Jg(S:LS)(s:List Nat):LS:=⟨S.ns++[s],S.lg||decide (6<S.ns.length+1)⟩
def Um(S:LS)(z:Int):LS:=⟨S.ns,S.lg||decide (20<z)⟩
def Xw(S:LS)(n:Nat):LS:=⟨S.ns.take n,S.lg⟩
abbrev LT:=Int×LS×List Nx
def FF(S:LS)(l:List Nx)(f:Int→Nx):LT:=(((S.ns.length:Nat):Int),Jg S [],l++[f ((S.ns.length:Nat):Int)])
def WQ:List Int→LT→LT
 |[],r=>r
 |k::l,r=>WQ l (FF r.2.1 r.2.2 fun v=>⟨v,[117,110,105,111,110],r.1,k,v,0⟩)
def Ms:List Int×LS×List Nx→LT
 |([],S,l)=>FF S l fun v=>⟨v,[110,111,110,101],v,0,0,0⟩
 |(k::ks,S,l)=>WQ ks (k,S,l)
mutual
def QA:Nd→LS→List Nx→LT
 |.mk o s z _ l,S,acc=>
  if o=[118,97,114]then(GS S.ns s,S,acc)
  else if o=[110,117,109]then FF (Um S z) acc fun v=>⟨v,o,v,0,0,z⟩
  else if o=[112,108,117,115]then FF (Um (Uh l S acc).2.1 z) (Uh l S acc).2.2 fun v=>⟨v,o,(Uh l S acc).1.headD 0,v,0,z⟩
  else if o=[115,101,116]then Ms (Uh l S acc)
  else FF (Uh l S acc).2.1 (Uh l S acc).2.2 fun v=>⟨v,o,(Uh l S acc).1.headD 0,(Uh l S acc).1.tail.headD 0,v,0⟩
def Uh:List Nd→LS→List Nx→List Int×LS×List Nx
 |[],S,acc=>([],S,acc)
 |k::l,S,acc=>((QA k S acc).1::(Uh l (QA k S acc).2.1 (QA k S acc).2.2).1,(Uh l (QA k S acc).2.1 (QA k S acc).2.2).2)
end
def VN(o:List Nat)(a b:Int):Cr:=
 if o=[101,113]then AL (I3 a b) (I3 b a)else if o=[110,101]then Wc (AL (I3 a b) (I3 b a))else if o=[108,116]then Cx a b
 else if o=[108,101]then Wc (Cx b a)else if o=[110,111,116,105,110]then Wc (I3 a b)else I3 a b
def LH(l:List Nx)(c:Cr):Cr:=l.foldr (fun y c=>Io y.v y.d c) c
def FA(o:List Nat)(l:List Nd)(S:LS):Cr×LS:=
 (LH (Uh l S []).2.2 (VN o ((Uh l S []).1.headD 0) ((Uh l S []).1.tail.headD 0)),Xw (Uh l S []).2.1 S.ns.length)
def JQ(s:List Nat)(z:Int)(S:LS):LS:=if z=0 then Xw (Jg (Jg S s) []) (Jg S s).ns.length else Jg S s
def H7(z v w:Int):Cr:=if z=0 then zO w (AL (.mk [110,117,109] w 0 0 0 []) (I3 v w))else if z=1 then .mk [115,105,110,103] v 0 0 0 []else GU
def H8(z v w:Int)(f:Cr):Cr:=if z=2 then zO v f else Io v (H7 z v w) f
mutual
def Qy:Nd→LS→Cr×LS
 |.mk o s z _ l,S=>
  if S.lg=true then(TL,S)
  else if o=[116,114,117,101]then(TL,S)
  else if o=[102,97,108,115,101]then(Wc TL,S)
  else if o=[110,111,116]then(Wc ((Ui l S).1.headD GU),(Ui l S).2)
  else if o=[97,110,100]then(AL ((Ui l S).1.headD GU) ((Ui l S).1.tail.headD GU),(Ui l S).2)
  else if o=[111,114]then(Wc (AL (Wc ((Ui l S).1.headD GU)) (Wc ((Ui l S).1.tail.headD GU))),(Ui l S).2)
  else if o=[105,109,112]then(Pp ((Ui l S).1.headD GU) ((Ui l S).1.tail.headD GU),(Ui l S).2)
  else if o=[105,102,102]then(AL (Pp ((Ui l S).1.headD GU) ((Ui l S).1.tail.headD GU)) (Pp ((Ui l S).1.tail.headD GU) ((Ui l S).1.headD GU)),(Ui l S).2)
  else if o=[101,120]then(H8 z ((S.ns.length:Nat):Int) (((Jg S s).ns.length:Nat):Int) ((Ui l (JQ s z S)).1.headD GU),Xw (Ui l (JQ s z S)).2 S.ns.length)
  else if o=[97,108,108]then(Wc (H8 z ((S.ns.length:Nat):Int) (((Jg S s).ns.length:Nat):Int) (Wc ((Ui l (JQ s z S)).1.headD GU))),Xw (Ui l (JQ s z S)).2 S.ns.length)
  else if o=[105,115]then(.mk [102,108,97,103] (GS S.ns s) 0 0 0 [],S)
  else FA o l S
def Ui:List Nd→LS→List Cr×LS
 |[],S=>([],S)
 |k::l,S=>((Qy k S).1::(Ui l (Qy k S).2).1,(Ui l (Qy k S).2).2)
end
mutual
def Ou:Cr→Nat
 |.mk _ _ _ _ _ l=>Lo l+1
def Lo:List Cr→Nat
 |[]=>0
 |k::l=>Ou k+Lo l
end
mutual
def U2:Nd→Bool
 |.mk o _ _ _ l=>decide (o=[99,97,108,108])||Fw l
def Fw:List Nd→Bool
 |[]=>false
 |k::l=>U2 k||Fw l
end
def Sn(dn:List Int)(r:List Int×LS×List Nx):List Int×LS×List Nx:=(dn++r.1,r.2)
theorem BF{l:List Nd}{i:Nat}{k:Nd}{S:LS}{acc:List Nx}(dn:List Int)(h:l[i]? =some k):Sn dn (Uh (l.drop i) S acc)=Sn (dn++[(QA k S acc).1]) (Uh (l.drop (i+1)) (QA k S acc).2.1 (QA k S acc).2.2):=by
 obtain⟨h1,h2⟩:=List.getElem?_eq_some_iff.1 h;rw[List.drop_eq_getElem_cons h1,Uh,h2];simp[Sn]
theorem DB{l:List Nd}{i:Nat}{S:LS}{acc:List Nx}(dn:List Int)(h:l.length≤i):Sn dn (Uh (l.drop i) S acc)=(dn,S,acc):=by
 rw[List.drop_eq_nil_of_le h,Uh];simp[Sn]
theorem OG: ∀(l:List Nd) (S:LS) (acc:List Nx),(Uh l S acc).1.length=l.length
 |[],S,acc=>by rw[Uh];rfl
 |k::l,S,acc=>by rw[Uh,List.length_cons,OG l];rfl
theorem D3{l:List Nx}{i:Nat}{y:Nx}(h:l[i]? =some y)(c:Cr):LH (l.take (i+1)) c=LH (l.take i) (Io y.v y.d c):=by
 have:l.take (i+1)=l.take i++[y]:=by rw[List.take_add_one,h];rfl
 rw[this,LH,List.foldr_append];rfl
theorem Ny{ns:List (List Nat)}{s:List Nat}{i:Nat}{x:List Nat}(h:ns[i]? =some x):OY ns s (i+1)=if x=s then((i:Nat):Int)else OY ns s i:=by
 rw[OY,h]
 by_cases hx:x=s
 ·rw[if_pos (by rw[hx]),if_pos hx]
 ·rw[if_neg (fun e=>hx (Option.some.inj e)),if_neg hx]
end Go.Proofs.YtadjjadimlkkgaaGreatDoor
end
section
namespace Go.Proofs.YtadjjadimlkkgaaGreatDoor
open Go

section
variable {P:Program} {G:Env} {N:Nat} {T:Tr AV} {st:St} {Q:Ex→Tr AV→St→Prop}
def B5(Q:Ex→Tr AV→St→Prop)(T:Tr AV)(J:St→Prop):Ex→Tr AV→St→Prop:=fun y _ st=>match y with
 |.nor=>J st
 |.exit id=>Q (.exit id) T st
 |.ret=>Q .ret T st
theorem OT{β:Type}{d:Nat}{v:AV}{T:Tr AV}{k:Tr AV→Option β}(h:Nat.ble (d+1) N=true):E0 N (some d) v T k=k (T.set d v):=by
 show Js (Nat.ble (d+1) N) (T.put d v k)=_;rw[h,Tr.put_eq];rfl
theorem T0{β:Type}{t1 t2:Nat}{i v:AV}{T:Tr AV}{k:Tr AV→Option β}:IZ N [t1,t2] i v T k=E0 N (some t1) i T fun T=>E0 N (some t2) v T k:=rfl
theorem Oo{ts te:TypeId}{x:AV}{t1 t2:Nat}{a b:Code}(h1:Nat.ble (t1+1) N=true)(h2:Nat.ble (t2+1) N=true){n:Nat}(J:Nat→St→Prop)
  (hround: ∀i st,i<n→J (i+1) st→ ∃s q v,JR P ts x st.h.get=some s∧US P ts s (.int .i64 (Int.ofNat i))=some q∧JR P te q st.h.get=some v∧W P G N a (fun e T' st'=>e=.nor∧W P G N b (B5 Q T (J i)) T' st') ((T.set t1 (.int .i64 (Int.ofNat i))).set t2 v) st)
  (hend: ∀st,J 0 st→Q .nor T st): ∀i st,i≤n→J i st→ ∃L m e st',Ec P N ts te x [t1,t2] (codeF P G (Uj P G L m) N L a) (codeF P G (Uj P G L m) N L b) T i st=some (e,T,st')∧Q e T st':=by
 intro i
 induction i with
 |zero=>intro st _ hJ;exact⟨0,0,.nor,st,rfl,hend st hJ⟩
 |succ i ih=>
  intro st hi hJ;obtain⟨s,q,v,e1,e2,e3,L,m,ex,T1,st1,h3,rfl,L',m',ey,T2,st2,h4,h5⟩:=hround i st hi hJ
  have key: ∀L0 m0,L≤L0→m≤m0→L'≤L0→m'≤m0→Ec P N ts te x [t1,t2] (codeF P G (Uj P G L0 m0) N L0 a) (codeF P G (Uj P G L0 m0) N L0 b) T (i+1) st=
    Ex.rec (tl (Ec P N ts te x [t1,t2] (codeF P G (Uj P G L0 m0) N L0 a) (codeF P G (Uj P G L0 m0) N L0 b) T i st2)) (fun id=>some (.exit id,T,st2)) (some (.ret,T,st2)) ey:=by
   intro L0 m0 hL hm hL' hm'
   show(ob (JR P ts x st.h.get) fun s=>ob (US P ts s (.int .i64 (Int.ofNat i))) fun q=>ob (JR P te q st.h.get) fun v=>
    IZ N [t1,t2] (.int .i64 (Int.ofNat i)) v T fun T1=>ob (codeF P G (Uj P G L0 m0) N L0 a T1 st) fun r=>Ex.rec (ob (codeF P G (Uj P G L0 m0) N L0 b r.2.1 r.2.2) fun q=>Ex.rec (tl (Ec P N ts te x [t1,t2] (codeF P G (Uj P G L0 m0) N L0 a) (codeF P G (Uj P G L0 m0) N L0 b) T i q.2.2)) (fun id=>some (.exit id,T,q.2.2)) (some (.ret,T,q.2.2)) q.1) (fun _=>none) none r.1)=_
   rw[e1,QD,e2,QD,e3,QD];rw[T0,OT h1,OT h2,Z8 hL hm h3,QD];show(ob (codeF P G (Uj P G L0 m0) N L0 b T1 st1) _)=_;rw[Z8 hL' hm' h4,QD]
  cases ey with
  |nor=>
   obtain⟨L2,m2,e,st3,h6,h7⟩:=ih st2 (by omega) h5;refine⟨max (max L L') L2,max (max m m') m2,e,st3,?_,h7⟩;rw[key _ _ (by omega) (by omega) (by omega) (by omega)];exact NY (fun T st r h=>Z8 (by omega) (by omega) h) (fun T st r h=>Z8 (by omega) (by omega) h) i st2 _ h6
  |exit id=>exact⟨max L L',max m m',_,st2,key _ _ (by omega) (by omega) (by omega) (by omega),h5⟩
  |ret=>exact⟨max L L',max m m',_,st2,key _ _ (by omega) (by omega) (by omega) (by omega),h5⟩
theorem PU{g:Operand}{ps:Array Tmp}{t1 t2:Nat}{a b:Code}{f:FuncId}{x s0:AV}{ts te:TypeId}{n:Nat}(hp:Qu (YZ a) (YZ b) false=true)(hps:ps.toList=[t1,t2])(h1:Nat.ble (t1+1) N=true)(h2:Nat.ble (t2+1) N=true)
  (hg:QR G T g=some (.fn f [] [x])) (hb:G.b f=some (ts,te)) (hs:JR P ts x st.h.get=some s0) (hl:HQ P [ts] s0=some (.int .i64 ((n:Nat):Int))) (hn:n≤Xi) (J:Nat→St→Prop) (h0:J n st)
  (hround: ∀i st,i<n→J (i+1) st→ ∃s q v,JR P ts x st.h.get=some s∧US P ts s (.int .i64 (Int.ofNat i))=some q∧JR P te q st.h.get=some v∧W P G N a (fun e T' st'=>e=.nor∧W P G N b (B5 Q T (J i)) T' st') ((T.set t1 (.int .i64 (Int.ofNat i))).set t2 v) st)
  (hend: ∀st,J 0 st→Q .nor T st):W P G N (.rangeFunc g ps a b) Q T st:=by
 obtain⟨L,m,e,st',h3,h4⟩:=Oo (P:=P) (G:=G) (Q:=Q) (ts:=ts) (te:=te) (x:=x) h1 h2 J hround hend n st (Nat.le_refl _) h0;refine⟨L,m,e,T,st',?_,h4⟩;show Fi P G N g ps.toList (Qu (YZ a) (YZ b) false) (codeF P G (Uj P G L m) N L a) (codeF P G (Uj P G L m) N L b) T st=_;unfold Fi;rw[hp,JW,hg,QD];simp only[hb,QD,hs,hl];have ht:Ly ((n:Nat):Int)=some n:=RQ n;rw[ht,QD,Nat.ble_eq_true_of_le hn,JW,hps];exact h3
theorem yC{t:TypeId}{c m off len z z':Nat}{j:Nat}(he:Uz P t=some z)(hj:j<len):US P t (.sl c m off len z') (.int .i64 (Int.ofNat j))=some (.ptr c m (off+j *z)):=by
 show(ob (Ly (j:Int)) fun i=>Js (Nat.ble (i+1) len) (ob (Uz P t) fun z=>Yq (off+i *z) fun o=>some (AV.ptr c m o)))=_;show(Js (Nat.ble (j+1) len) (ob (Uz P t) fun z=>Yq (off+j *z) fun o=>some (AV.ptr c m o)))=_;rw[Nat.ble_eq_true_of_le hj,he];show(Yq (off+j *z) fun o=>some (AV.ptr c m o))=_;rw[JL]
theorem y9{t e:TypeId}{u:AV}{n:Nat}(ht:P.underlying t=some (.slice e))(hn:ZF u=some n):HQ P [t] u=some (.int .i64 (n:Int)):=by
 cases u<;>simp only[ZF]at hn<;>first|(cases hn;done)|skip
 all_goals
  injection hn with hn
  subst hn;unfold HQ;simp only[ht];rfl
theorem BA{K0:List (Nat×AV)}{g:Operand}{ps:Array Tmp}{t1 t2 z c:Nat}{a b:Code}{f:FuncId}{ks:AV}{ts te e:TypeId}{n:Nat}(hK:Jm K0 T)(hg:JS G K0 g=some (.fn f [] [.ptr c 0 0]))(hp:Qu (YZ a) (YZ b) false=true)(hps:ps.toList=[t1,t2])(h1:Nat.ble (t1+1) N=true)(h2:Nat.ble (t2+1) N=true)
  (hb:G.b f=some (ts,te)) (hs:JR P ts (.ptr c 0 0) st.h.get=some ks) (ht:P.underlying ts=some (.slice e)) (he:Uz P ts=some z) (hte:tk P te=.agg z) (hl:ZF ks=some n) (hn:(n:Int)≤9223372036854775807) (J:Nat→St→Prop) (h0:J n st)
  (hround: ∀i st1,i<n→J (i+1) st1→JR P ts (.ptr c 0 0) st1.h.get=some ks∧ ∃X ls cs,J1 st1.h.get X z ls ks∧ls[i]? =some cs∧ ∀T1,Jm ((t2,.agg cs)::(t1,.int .i64 ((i:Nat):Int))::K0) T1→W P G N a (fun e T' st'=>e=.nor∧W P G N b (B5 Q T (J i)) T' st') T1 st1)
  (hend: ∀st1,J 0 st1→Q .nor T st1):W P G N (.rangeFunc g ps a b) Q T st:=by
 refine PU (f:=f) (x:=.ptr c 0 0) (s0:=ks) hp hps h1 h2 (hK.QR hg) hb hs (y9 ht hl) (by have:(Xi:Int)=9223372036854775807:=rfl;omega) J h0 (fun i st1 hi hJ=>?_) hend;obtain⟨h3,X,ls,cs,r,h4,h5⟩:=hround i st1 hi hJ;obtain⟨c',m,off,rfl,_,h6,_⟩:=r.load (P:=P) h4;have hi':i<ls.length:=(List.getElem?_eq_some_iff.1 h4).1;exact⟨_,_,_,h3,yC he hi',h6 te hte,h5 _ ((hK.set t1 _).set t2 _)⟩
end
end Go.Proofs.YtadjjadimlkkgaaGreatDoor
end
section
namespace Go.Proofs.YtadjjadimlkkgaaGreatDoor
open Go Go.RowKit

section
variable {P:Program} {G:Env} {h0:Hp} {n0 z:Nat} {X:List Nat} {st st':St} {M L A B:QJ} {ks:AV} {l:List (List Nat)} {ls:List (List AV)} {K:List (Nat×AV)}
theorem Mem.xW(hM:Mem h0 n0 X st (L++(A++B)))(hA:Acc 0 z A ks ls){t e:TypeId}(T:Iw P t e z){k2 c2 m2:Nat}{l2:List AV}(hk:(L++(A++B))[k2]? =some (c2,m2,l2))(hl:l2.length=z)(hb:ls.length+1≤1000000):
  ∃ks' A' st1,YG P [t,t] ks (.sl c2 m2 0 1 z) st=some (ks',st1)∧Acc 0 z A' ks' (ls++[l2])∧Mem h0 n0 X st1 (L++(A'++B)):=by
 cases hA with
 |none=>
  obtain⟨ks',A',st1,h1,h2,h3⟩:=hM.yg (A:=[]) .none T hk hl hb;exact⟨ks',A',st1,h1,h2.less (Nat.zero_le _),h3⟩
 |own h3 h4 h5=>
  rename_i c m;obtain⟨m',st1,h6,h7,_⟩:=hM.append T (z2:=z) (off2:=0) (n:=1) (Bi L B _) (Xb h4) (hM.Qp hk).Xg (by omega) (by decide) hb;refine⟨_,[(c,m',(ls++[l2]).flatten)],st1,h6,?_,?_⟩
  ·have:=Acc.own (n0:=0) (c:=c) (m:=m') (ls:=ls++[l2]) (z:=z) (Nat.zero_le _) (fun cs hc=>by
    rcases List.mem_append.1 hc with hc|hc
    ·exact h4 cs hc
    ·rw[List.mem_singleton.1 hc];exact hl) (by simpa using hb)
   rw[List.length_append]at this;exact this
  ·rw[GG,List.drop_zero,List.take_of_length_le (by omega)]at h7;rw[List.flatten_append,show [l2].flatten=l2 by simp];exact h7
theorem Mem.jv(hM:Mem h0 n0 X st M){t e:TypeId}{z:Nat}(T:Iw P t e z){k c m len c2 m2 off2 n z2:Nat}{l l2:List AV}(hk:M[k]? =some (c,m,l))(hl:len *z≤l.length)(hr2:Xf st.h.get c2 m2 l2)(hle:off2+n *z≤l2.length)(hn:0<n)(hb:len+n≤1000000):
  ∃m' st1,YG P [t,t] (.sl c m 0 len z) (.sl c2 m2 off2 n z2) st=some (.sl c m' 0 (len+n) z,st1)∧Mem h0 n0 X st1 (M.set k (c,m',l.take (len *z)++(l2.drop off2).take (n *z))):=by
 obtain⟨_,_,_,_,h,_⟩:=Vm T (s:=.sl c m 0 len z) (z2:=z2) hr2 hle;have hm0:=List.mem_of_getElem? hk;obtain⟨vs,ms,h1,h2⟩:=hM.row c m l hm0
 have hr:rowOf st.h.get c m=some (l.length,vs,l,false,ms):=by
  unfold rowOf;rw[h1,QD];show ob (nth ms m) _=_;rw[Y2,h2];rfl
 have hbeq:Nat.beq n 0=false:=PG (by omega);have hml:=(List.getElem?_eq_some_iff.1 h2).1;refine⟨ms.length,⟨st.n,st.h.set c (.row false (Xr (vs+len *z) (vs+len *z+n *z) ms++[((l.take (len *z)++(l2.drop off2).take (n *z)).length,vs,some (l.take (len *z)++(l2.drop off2).take (n *z)))]))⟩,?_,?_⟩
 ·rw[h];simp only[T.c,Nat.beq_refl,JW,hr,QD,Bool.not_false,JL];rw[Vz _ _ _ (by rw[UE,List.drop_zero];omega),UE,List.drop_zero];simp only[hbeq,QX,Nat.ble_eq_true_of_le hb,JW,UC,U6,ZR,YV,Nat.add_zero]
 ·have hg: ∀x C,(st.h.set c C).get x=if x=c then some C else st.h.get x:=fun x C=>Tr.AF _ _ _ _
  refine hM.JP hk ⟨fun x hx=>?_,Nat.le_refl _,fun x hx hX=>?_⟩ ⟨vs,_,(hg _ _).trans (if_pos rfl),?_⟩
  ·show(st.h.set c _).get x=none;have:=hM.lt c m l hm0;have hx:st.n≤x:=hx;rw[hg,if_neg (by omega)];exact hM.fresh x hx
  ·show(st.h.set c _).get x=_;rw[hg,if_neg (by simpa using hX)]
  ·rw[List.getElem?_append_right (by rw[Uf];exact Nat.le_refl _),Uf,Nat.sub_self];rfl
theorem Mem.xe(hM:Mem h0 n0 X st (L++(A++B)))(hA:Zk 0 A ks l){t e:TypeId}(T:Iw P t e 1){k2 c2 m2:Nat}{s:List Nat}(hk:(L++(A++B))[k2]? =some (c2,m2,[.str s]))(hb:l.length+1≤1000000):
  ∃ks' A' st1,YG P [t,t] ks (.sl c2 m2 0 1 1) st=some (ks',st1)∧Zk 0 A' ks' (l++[s])∧Mem h0 n0 X st1 (L++(A'++B)):=by
 cases hA with
 |none=>
  obtain⟨ks',A',st1,h1,h2,h3⟩:=hM.yg (A:=[]) .none T hk rfl (by simp);refine⟨ks',A',st1,h1,?_,h3⟩;generalize hg:([]++[[AV.str s]]:List (List AV))=ls at h2
  cases h2 with
  |none=>cases hg
  |own hc hz hb'=>
   subst hg;exact Zk.own (n0:=0) (l:=[s]) (rest:=[]) (Nat.zero_le _) (by simp)
 |own hc hb'=>
  rename_i c m rest
  have hlen:l.length *1≤((Oj l).flatten++rest).length:=by
   rw[List.length_append,Xb (G8 l),Wp];omega
  obtain⟨m',st1,h6,h7⟩:=hM.jv T (z2:=1) (off2:=0) (n:=1) (Bi L B _) hlen (hM.Qp hk).Xg (by simp) (by decide) hb
  have e1:l.length+1=(l++[s]).length:=by simp
  rw[e1]at h6;refine⟨_,[(c,m',(Oj (l++[s])).flatten++[])],st1,h6,.own (Nat.zero_le _) (by simpa using hb),?_⟩;rw[GG]at h7
  have e2:((Oj l).flatten++rest).take (l.length *1)=(Oj l).flatten:=by
   rw[List.take_append_of_le_length (by rw[Xb (G8 l),Wp];omega),List.take_of_length_le (by rw[Xb (G8 l),Wp];omega)]
  rw[e2]at h7;rw[PX,List.flatten_append,List.append_nil];exact h7
theorem Mem.xd(hM:Mem h0 n0 X st (L++(A++B))){n1:Nat}(hA:Zk n1 A ks l):J1 st.h.get [] 1 (Oj l) ks:=by
 cases hA with
 |none=>exact .nil _ _ _
 |own hc hb=>
  rename_i c m rest;have:=hM.row c m ((Oj l).flatten++rest) (by simp);rw[TI]at this;exact zf this hb
theorem uc{n:Nat}(hA:Zk 0 A ks l)(hn:n≤l.length): ∃ks',Zk 0 A ks' (l.take n)∧ ∀{P:Program} {G:Env} {K:List (Nat×AV)} {st:St} {t:TypeId} {x:Operand} {hi:Option Operand},Uz P t=some 1→JS G K x=some ks→Zz (JS G K) hi l.length=some n→ZP P G K (.slice t x none hi none) st ks' st:=by
 cases hA with
 |none=>
  have:n=0:=by simpa using hn
  subst this;exact⟨.nils,.none,fun he hx hh=>Sw he hx rfl hh⟩
 |own hc hb=>
  rename_i c m rest
  have e:(Oj l).flatten++rest=(Oj (l.take n)).flatten++((Oj (l.drop n)).flatten++rest):=by
   rw[←List.append_assoc,←List.flatten_append,←PX,List.take_append_drop]
  have el:(l.take n).length=n:=by rw[List.length_take];omega
  refine⟨.sl c m (0+0 *1) (n-0) 1,?_,fun he hx hh=>FP (lo:=none) he hx rfl hh (Nat.zero_le _) hn⟩;rw[e,show n-0=(l.take n).length by rw[el];omega];exact Zk.own (n0:=0) (l:=l.take n) (Nat.zero_le _) (by omega)
end
section
variable {P:Program} {G:Env} {N:Nat} {T:Tr AV} {st:St} {Q:Ex→Tr AV→St→Prop} {h0:Hp} {n0 z:Nat} {X:List Nat} {L A B:QJ} {ks:AV} {l:List (List Nat)} {ls:List (List AV)} {ops rest:List Oper} {K:List (Nat×AV)} {R:Tr AV→St→Prop} {d:Nat} {ty:TypeId} {pos:String} {af:Array Edge}
theorem jD{x y:Operand}{t e:TypeId}{c2 m2 k2:Nat}{s:List Nat}(hK:Jm K T)(hM:Mem h0 n0 X st (L++(A++B)))(hA:Zk 0 A ks l)(S:Iw P t e 1)(hx:JS G K x=some ks)(hy:JS G K y=some (.sl c2 m2 0 1 1))(hk:(L++(A++B))[k2]? =some (c2,m2,[.str s]))(hb:l.length+1≤1000000)(hN:Nat.ble (d+1) N=true)
  (hn: ∀(ks':AV) A' T' st',Jm ((d,ks')::K) T'→Zk 0 A' ks' (l++[s])→Mem h0 n0 X st' (L++(A'++B))→WR P G N ops rest R T' st'):WR P G N ops (⟨some d,.call {callee:=.builtin .append,args:= #[x,y],argTypes:= #[t,t]},ty,pos,af,none⟩::rest) R T st:=by
 obtain⟨ks',A',st1,h1,h2,h3⟩:=hM.xe hA S hk hb;exact KL hK (V2 rfl hx hy h1) (Nat.le_of_ble_eq_true hN) fun T' hT'=>hn ks' A' T' st1 hT' h2 h3
theorem jF{sn:List St}{i:Nat}{rr:List (Nat×Nat)}{x y:Operand}{t e:TypeId}{c2 m2 k2:Nat}{s:List Nat}(ho:ops[i]? =some ⟨some d,.call {callee:=.builtin .append,args:= #[x,y],argTypes:= #[t,t]},ty,pos,af,none⟩)(hK:Jm K T)(hM:Mem h0 n0 X st (L++(A++B)))(hA:Zk 0 A ks l)(S:Iw P t e 1)(hx:JS G K x=some ks)(hy:JS G K y=some (.sl c2 m2 0 1 1))(hk:(L++(A++B))[k2]? =some (c2,m2,[.str s]))(hb:l.length+1≤1000000)(hN:Nat.ble (d+1) N=true)
  (hn: ∀(ks':AV) A' T' st',Jm ((d,ks')::K) T'→Zk 0 A' ks' (l++[s])→Mem h0 n0 X st' (L++(A'++B))→WD P G N ops (rr.map (VB ops)) R T' st' (st'::sn)):WD P G N ops (((i,0)::rr).map (VB ops)) R T st sn:=by
 obtain⟨ks',A',st1,h1,h2,h3⟩:=hM.xe hA S hk hb;exact LL ho hK (V2 rfl hx hy h1) rfl (Nat.le_of_ble_eq_true hN) fun T' hT'=>hn ks' A' T' st1 hT' h2 h3
theorem jG{sn:List St}{i:Nat}{rr:List (Nat×Nat)}{x y:Operand}{t e:TypeId}{c2 m2 k2:Nat}{l2:List AV}(ho:ops[i]? =some ⟨some d,.call {callee:=.builtin .append,args:= #[x,y],argTypes:= #[t,t]},ty,pos,af,none⟩)(hK:Jm K T)(hM:Mem h0 n0 X st (L++(A++B)))(hA:Acc 0 z A ks ls)(S:Iw P t e z)(hx:JS G K x=some ks)(hy:JS G K y=some (.sl c2 m2 0 1 z))(hk:(L++(A++B))[k2]? =some (c2,m2,l2))(hl:l2.length=z)(hb:ls.length+1≤1000000)(hN:Nat.ble (d+1) N=true)
  (hn: ∀(ks':AV) A' T' st',Jm ((d,ks')::K) T'→Acc 0 z A' ks' (ls++[l2])→Mem h0 n0 X st' (L++(A'++B))→WD P G N ops (rr.map (VB ops)) R T' st' (st'::sn)):WD P G N ops (((i,0)::rr).map (VB ops)) R T st sn:=by
 obtain⟨ks',A',st1,h1,h2,h3⟩:=hM.xW hA S hk hl hb;exact LL ho hK (V2 rfl hx hy h1) rfl (Nat.le_of_ble_eq_true hN) fun T' hT'=>hn ks' A' T' st1 hT' h2 h3
theorem TE{K0:List (Nat×AV)}{g:Operand}{ps:Array Tmp}{t1 t2 c:Nat}{a b:Code}{f:FuncId}{ks:AV}{ts te e:TypeId}{n:Nat}(hK:Jm K0 T)(hg:JS G K0 g=some (.fn f [] [.ptr c 0 0]))(hp:Qu (YZ a) (YZ b) false=true)(hps:ps.toList=[t1,t2])(h1:Nat.ble (t1+1) N=true)(h2:Nat.ble (t2+1) N=true)
  (hb:G.b f=some (ts,te)) (hs:JR P ts (.ptr c 0 0) st.h.get=some ks) (ht:P.underlying ts=some (.slice e)) (he:Uz P ts=some 1) (hte:tk P te=.one) (hl:ZF ks=some n) (hn:(n:Int)≤9223372036854775807) (J:Nat→St→Prop) (h0:J n st)
  (hround: ∀i st1,i<n→J (i+1) st1→JR P ts (.ptr c 0 0) st1.h.get=some ks∧ ∃X ls v,J1 st1.h.get X 1 ls ks∧ls[i]? =some [v]∧ ∀T1,Jm ((t2,v)::(t1,.int .i64 ((i:Nat):Int))::K0) T1→W P G N a (fun e T' st'=>e=.nor∧W P G N b (B5 Q T (J i)) T' st') T1 st1)
  (hend: ∀st1,J 0 st1→Q .nor T st1):W P G N (.rangeFunc g ps a b) Q T st:=by
 refine PU (f:=f) (x:=.ptr c 0 0) (s0:=ks) hp hps h1 h2 (hK.QR hg) hb hs (y9 ht hl) (by have:(Xi:Int)=9223372036854775807:=rfl;omega) J h0 (fun i st1 hi hJ=>?_) hend;obtain⟨h3,X,ls,v,r,h4,h5⟩:=hround i st1 hi hJ;obtain⟨c',m,off,rfl,_,_,h7,_⟩:=r.load (P:=P) h4;have hi':i<ls.length:=(List.getElem?_eq_some_iff.1 h4).1;exact⟨_,_,_,h3,yC he hi',h7 te 0 v hte rfl,h5 _ ((hK.set t1 _).set t2 _)⟩
end
end Go.Proofs.YtadjjadimlkkgaaGreatDoor
end
section
namespace Go.Proofs.YtadjjadimlkkgaaGreatDoor
open Go Go.RowKit

theorem Vo.flat{R:YX}{A B:QJ}{k:Cr}{cs:List AV}(r:Vo (Jo (Jo R A) B) k cs):Vo (Jo R (B++A)) k cs:=r.mono fun c m l h=>by
 rcases h with(h|h)|h
 ·exact .inl h
 ·exact .inr (List.mem_append_right _ h)
 ·exact .inr (List.mem_append_left _ h)

theorem X4{st:St}(hf:Q6 st){R:YX}{xo1:List Nat}{xa1 xb1 xc1 xn1:Int}{xk1:AV}{x1:Cr}(h1:Vo R x1 [.str xo1,.int .i64 xa1,.int .i64 xb1,.int .i64 xc1,.int .i64 xn1,xk1]): ∃v st',Ev Tryz.prog Ja 107 [.agg [.str xo1,.int .i64 xa1,.int .i64 xb1,.int .i64 xc1,.int .i64 xn1,xk1]] st v st'∧Xo R st st' (Wc x1) v∧Qt st st':=by
 refine QC rfl Tryz.func107 rfl Tryz.ntmps107 rfl fun T hT=>?_;have K:Jm [(0,_)] T:=(.cons (hT 0) .nil);have M:=Mem.start hf;refine Qq<|Qh ?_;refine J2 K M rfl (Qa rfl (Qa rfl (Qa rfl (Qa rfl (Qa rfl (Qa h1.Un Qv)))))) (by decide) fun c1 _ _ K M=>?_;refine au 2 K M ?_;intro c2 _ _ K _ M;refine YK K M VA UW rfl rfl (Qa rfl (Qa rfl (Qa rfl (Qa rfl (Qa rfl (Qa h1.Un Qv)))))) rfl rfl fun c4 _ _ K M=>?_;refine o1 K (Qz JC rfl rfl) rfl fun _ K=>?_;refine au 1 K M ?_;intro _ _ K _ M;refine Qe ⟨.inr rfl,_,YI 1 K M rfl rfl rfl,?_⟩;exact⟨Xo.of (A:=((c4,0,[.str xo1,.int .i64 xa1,.int .i64 xb1,.int .i64 xc1,.int .i64 xn1,xk1])::(c2,0,[.str [110,111,116],.int .i64 0,.int .i64 0,.int .i64 0,.int .i64 0,(.sl c4 0 0 1 6)])::(c1,0,[.str xo1,.int .i64 xa1,.int .i64 xb1,.int .i64 xc1,.int .i64 xn1,xk1])::[])) (MK (by simp) (Vo.mono (fun _ _ _ h=>.inl h) h1)) (M.Iv (.refl _)),M.qt⟩

theorem Eo{st:St}(hf:Q6 st){R:YX}{xo1:List Nat}{xa1 xb1 xc1 xn1:Int}{xk1:AV}{x1:Cr}(h1:Vo R x1 [.str xo1,.int .i64 xa1,.int .i64 xb1,.int .i64 xc1,.int .i64 xn1,xk1]){xo2:List Nat}{xa2 xb2 xc2 xn2:Int}{xk2:AV}{x2:Cr}(h2:Vo R x2 [.str xo2,.int .i64 xa2,.int .i64 xb2,.int .i64 xc2,.int .i64 xn2,xk2]): ∃v st',Ev Tryz.prog Ja 108 [.agg [.str xo1,.int .i64 xa1,.int .i64 xb1,.int .i64 xc1,.int .i64 xn1,xk1],.agg [.str xo2,.int .i64 xa2,.int .i64 xb2,.int .i64 xc2,.int .i64 xn2,xk2]] st v st'∧Xo R st st' (AL x1 x2) v∧Qt st st':=by
 refine QC rfl Tryz.func108 rfl Tryz.ntmps108 rfl fun T hT=>?_;have K:Jm [(0,_),(1,_)] T:=(.cons (hT 0) (.cons (hT 1) .nil));have M:=Mem.start hf;refine Qq<|Qh ?_;refine J2 K M rfl (Qa rfl (Qa rfl (Qa rfl (Qa rfl (Qa rfl (Qa h1.Un Qv)))))) (by decide) fun c2 _ _ K M=>?_;refine J2 K M rfl (Qa rfl (Qa rfl (Qa rfl (Qa rfl (Qa rfl (Qa h2.Un Qv)))))) (by decide) fun c3 _ _ K M=>?_;refine au 3 K M ?_;intro c4 _ _ K _ M;refine YK K M VA UW rfl rfl (Qa rfl (Qa rfl (Qa rfl (Qa rfl (Qa rfl (Qa h1.Un (Qa rfl (Qa rfl (Qa rfl (Qa rfl (Qa rfl (Qa h2.Un Qv)))))))))))) rfl rfl fun c7 _ _ K M=>?_;refine o1 K (Qz JC rfl rfl) rfl fun _ K=>?_;refine au 1 K M ?_;intro _ _ K _ M;refine Qe ⟨.inr rfl,_,YI 1 K M rfl rfl rfl,?_⟩;exact⟨Xo.of (A:=((c7,0,[.str xo1,.int .i64 xa1,.int .i64 xb1,.int .i64 xc1,.int .i64 xn1,xk1,.str xo2,.int .i64 xa2,.int .i64 xb2,.int .i64 xc2,.int .i64 xn2,xk2])::(c4,0,[.str [97,110,100],.int .i64 0,.int .i64 0,.int .i64 0,.int .i64 0,(.sl c7 0 0 2 6)])::(c3,0,[.str xo2,.int .i64 xa2,.int .i64 xb2,.int .i64 xc2,.int .i64 xn2,xk2])::(c2,0,[.str xo1,.int .i64 xa1,.int .i64 xb1,.int .i64 xc1,.int .i64 xn1,xk1])::[])) (MJ (by simp) (Vo.mono (fun _ _ _ h=>.inl h) h1) (Vo.mono (fun _ _ _ h=>.inl h) h2)) (M.Iv (.refl _)),M.qt⟩

theorem A6{st:St}(hf:Q6 st){R:YX}(a b:Int): ∃v st',Ev Tryz.prog Ja 169 [.int .i64 a,.int .i64 b] st v st'∧Xo R st st' (I3 a b) v∧Qt st st':=by
 refine QC rfl Tryz.func169 rfl Tryz.ntmps169 rfl fun T hT=>?_;have K:Jm [(0,_),(1,_)] T:=(.cons (hT 0) (.cons (hT 1) .nil));have M:=Mem.start hf;refine au 3 K M ?_;intro c4 _ _ K _ M;refine o1 K (Qz JC rfl rfl) rfl fun _ K=>?_;refine au 1 K M ?_;intro _ _ K _ M;refine Qe ⟨.inr rfl,_,YI 0 K M rfl rfl rfl,?_⟩;exact⟨Xo.of (A:=((c4,0,[.str [115,117,98],.int .i64 a,.int .i64 b,.int .i64 0,.int .i64 0,.nils])::[])) Wn (M.Iv (.refl _)),M.qt⟩

theorem Cv{st:St}(hf:Q6 st){R:YX}(a b:Int): ∃v st',Ev Tryz.prog Ja 217 [.int .i64 a,.int .i64 b] st v st'∧Xo R st st' (Cx a b) v∧Qt st st':=by
 refine QC rfl Tryz.func217 rfl Tryz.ntmps217 rfl fun T hT=>?_;have K:Jm [(0,_),(1,_)] T:=(.cons (hT 0) (.cons (hT 1) .nil));have M:=Mem.start hf;refine au 3 K M ?_;intro c4 _ _ K _ M;refine o1 K (Qz JC rfl rfl) rfl fun _ K=>?_;refine au 1 K M ?_;intro _ _ K _ M;refine Qe ⟨.inr rfl,_,YI 0 K M rfl rfl rfl,?_⟩;exact⟨Xo.of (A:=((c4,0,[.str [108,101,115,115],.int .i64 a,.int .i64 b,.int .i64 0,.int .i64 0,.nils])::[])) Wn (M.Iv (.refl _)),M.qt⟩

theorem GY{st:St}(hf:Q6 st){R:YX}(v0:Int){xo1:List Nat}{xa1 xb1 xc1 xn1:Int}{xk1:AV}{x1:Cr}(h1:Vo R x1 [.str xo1,.int .i64 xa1,.int .i64 xb1,.int .i64 xc1,.int .i64 xn1,xk1]): ∃v st',Ev Tryz.prog Ja 168 [.int .i64 v0,.agg [.str xo1,.int .i64 xa1,.int .i64 xb1,.int .i64 xc1,.int .i64 xn1,xk1]] st v st'∧Xo R st st' (zO v0 x1) v∧Qt st st':=by
 refine QC rfl Tryz.func168 rfl Tryz.ntmps168 rfl fun T hT=>?_;have K:Jm [(0,_),(1,_)] T:=(.cons (hT 0) (.cons (hT 1) .nil));have M:=Mem.start hf;refine Qq<|Qh ?_;refine J2 K M rfl (Qa rfl (Qa rfl (Qa rfl (Qa rfl (Qa rfl (Qa h1.Un Qv)))))) (by decide) fun c3 _ _ K M=>?_;refine au 3 K M ?_;intro c4 _ _ K _ M;refine YK K M VA UW rfl rfl (Qa rfl (Qa rfl (Qa rfl (Qa rfl (Qa rfl (Qa h1.Un Qv)))))) rfl rfl fun c7 _ _ K M=>?_;refine o1 K (Qz JC rfl rfl) rfl fun _ K=>?_;refine au 1 K M ?_;intro _ _ K _ M;refine Qe ⟨.inr rfl,_,YI 1 K M rfl rfl rfl,?_⟩;exact⟨Xo.of (A:=((c7,0,[.str xo1,.int .i64 xa1,.int .i64 xb1,.int .i64 xc1,.int .i64 xn1,xk1])::(c4,0,[.str [101,120],.int .i64 v0,.int .i64 0,.int .i64 0,.int .i64 0,(.sl c7 0 0 1 6)])::(c3,0,[.str xo1,.int .i64 xa1,.int .i64 xb1,.int .i64 xc1,.int .i64 xn1,xk1])::[])) (MK (by simp) (Vo.mono (fun _ _ _ h=>.inl h) h1)) (M.Iv (.refl _)),M.qt⟩

theorem Ky{st:St}(hf:Q6 st){R:YX}(v0:Int){xo1:List Nat}{xa1 xb1 xc1 xn1:Int}{xk1:AV}{x1:Cr}(h1:Vo R x1 [.str xo1,.int .i64 xa1,.int .i64 xb1,.int .i64 xc1,.int .i64 xn1,xk1]){xo2:List Nat}{xa2 xb2 xc2 xn2:Int}{xk2:AV}{x2:Cr}(h2:Vo R x2 [.str xo2,.int .i64 xa2,.int .i64 xb2,.int .i64 xc2,.int .i64 xn2,xk2]): ∃v st',Ev Tryz.prog Ja 171 [.int .i64 v0,.agg [.str xo1,.int .i64 xa1,.int .i64 xb1,.int .i64 xc1,.int .i64 xn1,xk1],.agg [.str xo2,.int .i64 xa2,.int .i64 xb2,.int .i64 xc2,.int .i64 xn2,xk2]] st v st'∧Xo R st st' (Io v0 x1 x2) v∧Qt st st':=by
 refine QC rfl Tryz.func171 rfl Tryz.ntmps171 rfl fun T hT=>?_;have K:Jm [(0,_),(1,_),(2,_)] T:=(.cons (hT 0) (.cons (hT 1) (.cons (hT 2) .nil)));have M:=Mem.start hf;refine Qq<|Qh ?_;refine J2 K M rfl (Qa rfl (Qa rfl (Qa rfl (Qa rfl (Qa rfl (Qa h1.Un Qv)))))) (by decide) fun c4 _ _ K M=>?_;refine J2 K M rfl (Qa rfl (Qa rfl (Qa rfl (Qa rfl (Qa rfl (Qa h2.Un Qv)))))) (by decide) fun c5 _ _ K M=>?_;refine au 4 K M ?_;intro c6 _ _ K _ M;obtain⟨v10,st10,ev10,⟨on10,an10,bn10,cn10,nn10,kkn10,A10,rfl,hS10,hN10⟩,q10⟩:=Eo (R:=R) M.fresh h1 h2;refine o1 K (Qc rfl ev10) rfl fun _ K=>?_;replace M:=M.UK q10 hS10;simp only[List.append_assoc,List.cons_append,List.nil_append,List.set_cons_zero,List.set_cons_succ]at M;obtain⟨v11,st11,ev11,⟨on11,an11,bn11,cn11,nn11,kkn11,A11,rfl,hS11,hN11⟩,q11⟩:=GY (R:=(Jo R A10)) M.fresh v0 hN10;refine o1 K (Qc rfl ev11) rfl fun _ K=>?_;replace M:=M.UK q11 hS11;replace hN11:=hN11.flat;simp only[List.append_assoc,List.cons_append,List.nil_append,List.set_cons_zero,List.set_cons_succ]at M;refine QB (k:=0) K M rfl rfl rfl QP rfl (Qa rfl (Qa rfl (Qa rfl (Qa rfl (Qa rfl (Qa hN11.Un Qv)))))) rfl fun _ M=>?_;refine Q5 ?_;show W _ _ _ _ _ _ _;refine Qe ⟨.inr rfl,_,YI 0 K M rfl rfl rfl,?_⟩
 exact⟨Xo.of (A:=((c6,0,[.str on11,.int .i64 an11,.int .i64 bn11,.int .i64 cn11,.int .i64 nn11,kkn11])::(c5,0,[.str xo2,.int .i64 xa2,.int .i64 xb2,.int .i64 xc2,.int .i64 xn2,xk2])::(c4,0,[.str xo1,.int .i64 xa1,.int .i64 xb1,.int .i64 xc1,.int .i64 xn1,xk1])::(A10++(A11++[])))) (hN11.mono (Qm (fun _ _ _ h=>h) (fun x hx=>by simp only[List.mem_append]at hx;rcases hx with h|h<;>simp[h]))) (M.Iv (.refl _)),M.qt⟩

theorem GX{st:St}(hf:Q6 st){R:YX}{xo1:List Nat}{xa1 xb1 xc1 xn1:Int}{xk1:AV}{x1:Cr}(h1:Vo R x1 [.str xo1,.int .i64 xa1,.int .i64 xb1,.int .i64 xc1,.int .i64 xn1,xk1]){xo2:List Nat}{xa2 xb2 xc2 xn2:Int}{xk2:AV}{x2:Cr}(h2:Vo R x2 [.str xo2,.int .i64 xa2,.int .i64 xb2,.int .i64 xc2,.int .i64 xn2,xk2]): ∃v st',Ev Tryz.prog Ja 109 [.agg [.str xo1,.int .i64 xa1,.int .i64 xb1,.int .i64 xc1,.int .i64 xn1,xk1],.agg [.str xo2,.int .i64 xa2,.int .i64 xb2,.int .i64 xc2,.int .i64 xn2,xk2]] st v st'∧Xo R st st' (Pp x1 x2) v∧Qt st st':=by
 refine QC rfl Tryz.func109 rfl Tryz.ntmps109 rfl fun T hT=>?_;have K:Jm [(0,_),(1,_)] T:=(.cons (hT 0) (.cons (hT 1) .nil));have M:=Mem.start hf;refine Qq<|Qh ?_;refine J2 K M rfl (Qa rfl (Qa rfl (Qa rfl (Qa rfl (Qa rfl (Qa h1.Un Qv)))))) (by decide) fun c2 _ _ K M=>?_;refine J2 K M rfl (Qa rfl (Qa rfl (Qa rfl (Qa rfl (Qa rfl (Qa h2.Un Qv)))))) (by decide) fun c3 _ _ K M=>?_;refine au 1 K M ?_;intro c4 _ _ K _ M;refine Jk (l:=[(1,0),(2,0),(0,1),(3,0),(4,0),(5,0)]) (by kernel_rfl) ?_;have Mq:=M;refine d1 rfl K (Qx rfl (M.load (k:=1) rfl (QG J3 rfl))) rfl rfl fun _ K=>?_;obtain⟨v7,st7,ev7,⟨on7,an7,bn7,cn7,nn7,kkn7,A7,rfl,hS7,hN7⟩,q7⟩:=X4 (R:=R) M.fresh h2;refine dA rfl K (Qc rfl ev7) rfl rfl fun _ K=>?_;replace M:=M.UK q7 hS7;simp only[List.append_assoc,List.cons_append,List.nil_append,List.set_cons_zero,List.set_cons_succ]at M;have Mp:=Mq;have Mq:=M;refine QZ rfl K rfl (M.load (k:=2) rfl (QG J3 rfl)) (Mp.load (k:=2) rfl (QG J3 rfl)) (Zx (by simp[YS,YT,Ys,Ye h1.qb])) rfl (by decide) fun _ K=>?_;obtain⟨v8,st8,ev8,⟨on8,an8,bn8,cn8,nn8,kkn8,A8,rfl,hS8,hN8⟩,q8⟩:=Eo (R:=(Jo R A7)) M.fresh (Vo.mono (fun _ _ _ h=>.inl h) h1) hN7;refine dA rfl K (Qc rfl ev8) rfl rfl fun _ K=>?_;replace M:=M.UK q8 hS8;replace hN8:=hN8.flat;simp only[List.append_assoc,List.cons_append,List.nil_append,List.set_cons_zero,List.set_cons_succ]at M;have Mp:=Mq;have Mq:=M;obtain⟨v9,st9,ev9,⟨on9,an9,bn9,cn9,nn9,kkn9,A9,rfl,hS9,hN9⟩,q9⟩:=X4 (R:=(Jo R (A8++A7))) M.fresh hN8;refine dA rfl K (Qc rfl ev9) rfl rfl fun _ K=>?_;replace M:=M.UK q9 hS9;replace hN9:=hN9.flat;simp only[List.append_assoc,List.cons_append,List.nil_append,List.set_cons_zero,List.set_cons_succ]at M;have Mp:=Mq;have Mq:=M;refine JX (k:=0) rfl K M rfl rfl rfl QP rfl (Qa rfl (Qa rfl (Qa rfl (Qa rfl (Qa rfl (Qa hN9.Un Qv)))))) rfl fun _ M=>?_;have Mp:=Mq;have Mq:=M;refine J0 ?_;show W _ _ _ _ _ _ _;refine Qe ⟨.inr rfl,_,YI 0 K M rfl rfl rfl,?_⟩
 exact⟨Xo.of (A:=((c4,0,[.str on9,.int .i64 an9,.int .i64 bn9,.int .i64 cn9,.int .i64 nn9,kkn9])::(c3,0,[.str xo2,.int .i64 xa2,.int .i64 xb2,.int .i64 xc2,.int .i64 xn2,xk2])::(c2,0,[.str xo1,.int .i64 xa1,.int .i64 xb1,.int .i64 xc1,.int .i64 xn1,xk1])::(A7++(A8++(A9++[]))))) (hN9.mono (Qm (fun _ _ _ h=>h) (fun x hx=>by simp only[List.mem_append]at hx;rcases hx with h|h|h<;>simp[h]))) (M.Iv (.refl _)),M.qt⟩

theorem MX{st:St}(hf:Q6 st){R:YX}(o:List Nat)(a b:Int): ∃v st',Ev Tryz.prog Ja 174 [.str o,.int .i64 a,.int .i64 b] st v st'∧Xo R st st' (VN o a b) v∧Qt st st':=by
 refine QC rfl Tryz.func174 rfl Tryz.ntmps174 rfl fun T hT=>?_;have K:Jm [(0,_),(1,_),(2,_)] T:=(.cons (hT 0) (.cons (hT 1) (.cons (hT 2) .nil)));have M:=Mem.start hf;refine au 3 K M ?_;intro c6 _ _ K _ M;refine o1 K (QV (b:=[101,113]) rfl rfl) rfl fun _ K=>?_;refine Qg 1 K M ?_;intro _ K;refine Z0 K rfl (fun h9=>?_) fun h9=>?_
 ·refine Qg 2 K M ?_;intro _ K;obtain⟨v13,st13,ev13,⟨on13,an13,bn13,cn13,nn13,kkn13,A13,rfl,hS13,hN13⟩,q13⟩:=A6 (R:=R) M.fresh a b;refine o1 K (Qc rfl ev13) rfl fun _ K=>?_;replace M:=M.UK q13 hS13;simp only[List.append_assoc,List.cons_append,List.nil_append,List.set_cons_zero,List.set_cons_succ]at M;refine Qg 2 K M ?_;intro _ K;obtain⟨v16,st16,ev16,⟨on16,an16,bn16,cn16,nn16,kkn16,A16,rfl,hS16,hN16⟩,q16⟩:=A6 (R:=R) M.fresh b a;refine o1 K (Qc rfl ev16) rfl fun _ K=>?_;replace M:=M.UK q16 hS16;simp only[List.append_assoc,List.cons_append,List.nil_append,List.set_cons_zero,List.set_cons_succ]at M;obtain⟨v17,st17,ev17,⟨on17,an17,bn17,cn17,nn17,kkn17,A17,rfl,hS17,hN17⟩,q17⟩:=Eo (R:=(Jo R (A13++A16))) M.fresh (hN13.mono (Qm (fun _ _ _ h=>h) (fun x h=>by simp[h]))) (hN16.mono (Qm (fun _ _ _ h=>h) (fun x h=>by simp[h])));refine o1 K (Qc rfl ev17) rfl fun _ K=>?_;replace M:=M.UK q17 hS17;replace hN17:=hN17.flat;simp only[List.append_assoc,List.cons_append,List.nil_append,List.set_cons_zero,List.set_cons_succ]at M;refine QB (k:=0) K M rfl rfl rfl QP rfl (Qa rfl (Qa rfl (Qa rfl (Qa rfl (Qa rfl (Qa hN17.Un Qv)))))) rfl fun _ M=>?_;refine Q5 ?_;show W _ _ _ _ _ _ _;refine Qe ⟨.inr rfl,_,YI 0 K M rfl rfl rfl,?_⟩
  have hF:VN o a b=(AL (I3 a b) (I3 b a)):=by simp_all [VN]
  rw[hF]
  exact⟨Xo.of (A:=((c6,0,[.str on17,.int .i64 an17,.int .i64 bn17,.int .i64 cn17,.int .i64 nn17,kkn17])::(A13++(A16++(A17++[]))))) (hN17.mono (Qm (fun _ _ _ h=>h) (fun x hx=>by simp only[List.mem_append]at hx;rcases hx with h|h|h<;>simp[h]))) (M.Iv (.refl _)),M.qt⟩
 refine Qq<|Qh<|o1 K (QV (b:=[110,101]) rfl rfl) rfl fun _ K=>?_;refine Qg 1 K M ?_;intro _ K;refine Z0 K rfl (fun h18=>?_) fun h18=>?_
 ·refine Qg 2 K M ?_;intro _ K;obtain⟨v22,st22,ev22,⟨on22,an22,bn22,cn22,nn22,kkn22,A22,rfl,hS22,hN22⟩,q22⟩:=A6 (R:=R) M.fresh a b;refine o1 K (Qc rfl ev22) rfl fun _ K=>?_;replace M:=M.UK q22 hS22;simp only[List.append_assoc,List.cons_append,List.nil_append,List.set_cons_zero,List.set_cons_succ]at M;refine Qg 2 K M ?_;intro _ K;obtain⟨v25,st25,ev25,⟨on25,an25,bn25,cn25,nn25,kkn25,A25,rfl,hS25,hN25⟩,q25⟩:=A6 (R:=R) M.fresh b a;refine o1 K (Qc rfl ev25) rfl fun _ K=>?_;replace M:=M.UK q25 hS25;simp only[List.append_assoc,List.cons_append,List.nil_append,List.set_cons_zero,List.set_cons_succ]at M;obtain⟨v26,st26,ev26,⟨on26,an26,bn26,cn26,nn26,kkn26,A26,rfl,hS26,hN26⟩,q26⟩:=Eo (R:=(Jo R (A22++A25))) M.fresh (hN22.mono (Qm (fun _ _ _ h=>h) (fun x h=>by simp[h]))) (hN25.mono (Qm (fun _ _ _ h=>h) (fun x h=>by simp[h])));refine o1 K (Qc rfl ev26) rfl fun _ K=>?_;replace M:=M.UK q26 hS26;replace hN26:=hN26.flat;simp only[List.append_assoc,List.cons_append,List.nil_append,List.set_cons_zero,List.set_cons_succ]at M;obtain⟨v27,st27,ev27,⟨on27,an27,bn27,cn27,nn27,kkn27,A27,rfl,hS27,hN27⟩,q27⟩:=X4 (R:=(Jo R (A26++(A22++A25)))) M.fresh hN26;refine o1 K (Qc rfl ev27) rfl fun _ K=>?_;replace M:=M.UK q27 hS27;replace hN27:=hN27.flat;simp only[List.append_assoc,List.cons_append,List.nil_append,List.set_cons_zero,List.set_cons_succ]at M;refine QB (k:=0) K M rfl rfl rfl QP rfl (Qa rfl (Qa rfl (Qa rfl (Qa rfl (Qa rfl (Qa hN27.Un Qv)))))) rfl fun _ M=>?_;refine Q5 ?_;show W _ _ _ _ _ _ _;refine Qe ⟨.inr rfl,_,YI 0 K M rfl rfl rfl,?_⟩
  have hF:VN o a b=(Wc (AL (I3 a b) (I3 b a))):=by simp_all [VN]
  rw[hF]
  exact⟨Xo.of (A:=((c6,0,[.str on27,.int .i64 an27,.int .i64 bn27,.int .i64 cn27,.int .i64 nn27,kkn27])::(A22++(A25++(A26++(A27++[])))))) (hN27.mono (Qm (fun _ _ _ h=>h) (fun x hx=>by simp only[List.mem_append]at hx;rcases hx with h|h|h|h<;>simp[h]))) (M.Iv (.refl _)),M.qt⟩
 refine Qq<|Qh<|o1 K (QV (b:=[108,116]) rfl rfl) rfl fun _ K=>?_;refine Qg 1 K M ?_;intro _ K;refine Z0 K rfl (fun h28=>?_) fun h28=>?_
 ·refine Qg 3 K M ?_;intro _ K;obtain⟨v33,st33,ev33,⟨on33,an33,bn33,cn33,nn33,kkn33,A33,rfl,hS33,hN33⟩,q33⟩:=Cv (R:=R) M.fresh a b;refine o1 K (Yz rfl rfl ev33) rfl fun _ K=>?_;replace M:=M.UK q33 hS33;simp only[List.append_assoc,List.cons_append,List.nil_append,List.set_cons_zero,List.set_cons_succ]at M;refine QB (k:=0) K M rfl rfl rfl QP rfl (Qa rfl (Qa rfl (Qa rfl (Qa rfl (Qa rfl (Qa hN33.Un Qv)))))) rfl fun _ M=>?_;refine Q5 ?_;show W _ _ _ _ _ _ _;refine Qe ⟨.inr rfl,_,YI 0 K M rfl rfl rfl,?_⟩
  have hF:VN o a b=(Cx a b):=by simp_all [VN]
  rw[hF];exact⟨Xo.of (A:=((c6,0,[.str on33,.int .i64 an33,.int .i64 bn33,.int .i64 cn33,.int .i64 nn33,kkn33])::(A33++[]))) (hN33.mono (Qm (fun _ _ _ h=>h) (fun x h=>by simp[h]))) (M.Iv (.refl _)),M.qt⟩
 refine Qq<|Qh<|o1 K (QV (b:=[108,101]) rfl rfl) rfl fun _ K=>?_;refine Qg 1 K M ?_;intro _ K;refine Z0 K rfl (fun h34=>?_) fun h34=>?_
 ·refine Qg 3 K M ?_;intro _ K;obtain⟨v39,st39,ev39,⟨on39,an39,bn39,cn39,nn39,kkn39,A39,rfl,hS39,hN39⟩,q39⟩:=Cv (R:=R) M.fresh b a;refine o1 K (Yz rfl rfl ev39) rfl fun _ K=>?_;replace M:=M.UK q39 hS39;simp only[List.append_assoc,List.cons_append,List.nil_append,List.set_cons_zero,List.set_cons_succ]at M;obtain⟨v40,st40,ev40,⟨on40,an40,bn40,cn40,nn40,kkn40,A40,rfl,hS40,hN40⟩,q40⟩:=X4 (R:=(Jo R A39)) M.fresh hN39;refine o1 K (Qc rfl ev40) rfl fun _ K=>?_;replace M:=M.UK q40 hS40;replace hN40:=hN40.flat;simp only[List.append_assoc,List.cons_append,List.nil_append,List.set_cons_zero,List.set_cons_succ]at M;refine QB (k:=0) K M rfl rfl rfl QP rfl (Qa rfl (Qa rfl (Qa rfl (Qa rfl (Qa rfl (Qa hN40.Un Qv)))))) rfl fun _ M=>?_;refine Q5 ?_;show W _ _ _ _ _ _ _;refine Qe ⟨.inr rfl,_,YI 0 K M rfl rfl rfl,?_⟩
  have hF:VN o a b=(Wc (Cx b a)):=by simp_all [VN]
  rw[hF]
  exact⟨Xo.of (A:=((c6,0,[.str on40,.int .i64 an40,.int .i64 bn40,.int .i64 cn40,.int .i64 nn40,kkn40])::(A39++(A40++[])))) (hN40.mono (Qm (fun _ _ _ h=>h) (fun x hx=>by simp only[List.mem_append]at hx;rcases hx with h|h<;>simp[h]))) (M.Iv (.refl _)),M.qt⟩
 refine Qq<|Qh<|o1 K (QV (b:=[110,111,116,105,110]) rfl rfl) rfl fun _ K=>?_;refine Qg 1 K M ?_;intro _ K;refine Z0 K rfl (fun h41=>?_) fun h41=>?_
 ·refine Qg 2 K M ?_;intro _ K;obtain⟨v45,st45,ev45,⟨on45,an45,bn45,cn45,nn45,kkn45,A45,rfl,hS45,hN45⟩,q45⟩:=A6 (R:=R) M.fresh a b;refine o1 K (Qc rfl ev45) rfl fun _ K=>?_;replace M:=M.UK q45 hS45;simp only[List.append_assoc,List.cons_append,List.nil_append,List.set_cons_zero,List.set_cons_succ]at M;obtain⟨v46,st46,ev46,⟨on46,an46,bn46,cn46,nn46,kkn46,A46,rfl,hS46,hN46⟩,q46⟩:=X4 (R:=(Jo R A45)) M.fresh hN45;refine o1 K (Qc rfl ev46) rfl fun _ K=>?_;replace M:=M.UK q46 hS46;replace hN46:=hN46.flat;simp only[List.append_assoc,List.cons_append,List.nil_append,List.set_cons_zero,List.set_cons_succ]at M;refine QB (k:=0) K M rfl rfl rfl QP rfl (Qa rfl (Qa rfl (Qa rfl (Qa rfl (Qa rfl (Qa hN46.Un Qv)))))) rfl fun _ M=>?_;refine Q5 ?_;show W _ _ _ _ _ _ _;refine Qe ⟨.inr rfl,_,YI 0 K M rfl rfl rfl,?_⟩
  have hF:VN o a b=(Wc (I3 a b)):=by simp_all [VN]
  rw[hF]
  exact⟨Xo.of (A:=((c6,0,[.str on46,.int .i64 an46,.int .i64 bn46,.int .i64 cn46,.int .i64 nn46,kkn46])::(A45++(A46++[])))) (hN46.mono (Qm (fun _ _ _ h=>h) (fun x hx=>by simp only[List.mem_append]at hx;rcases hx with h|h<;>simp[h]))) (M.Iv (.refl _)),M.qt⟩
 refine Qg 2 K M ?_;intro _ K;obtain⟨v49,st49,ev49,⟨on49,an49,bn49,cn49,nn49,kkn49,A49,rfl,hS49,hN49⟩,q49⟩:=A6 (R:=R) M.fresh a b;refine o1 K (Qc rfl ev49) rfl fun _ K=>?_;replace M:=M.UK q49 hS49;simp only[List.append_assoc,List.cons_append,List.nil_append,List.set_cons_zero,List.set_cons_succ]at M;refine QB (k:=0) K M rfl rfl rfl QP rfl (Qa rfl (Qa rfl (Qa rfl (Qa rfl (Qa rfl (Qa hN49.Un Qv)))))) rfl fun _ M=>?_;refine Q5 ?_;show W _ _ _ _ _ _ _;refine Qe ⟨.inr rfl,_,YI 0 K M rfl rfl rfl,?_⟩
 have hF:VN o a b=(I3 a b):=by simp_all [VN]
 rw[hF];exact⟨Xo.of (A:=((c6,0,[.str on49,.int .i64 an49,.int .i64 bn49,.int .i64 cn49,.int .i64 nn49,kkn49])::(A49++[]))) (hN49.mono (Qm (fun _ _ _ h=>h) (fun x h=>by simp[h]))) (M.Iv (.refl _)),M.qt⟩
end Go.Proofs.YtadjjadimlkkgaaGreatDoor
end
section
namespace Go.Proofs.YtadjjadimlkkgaaGreatDoor
open Go Go.RowKit

theorem Kq{st:St}(hf:Q6 st){cp:Nat}{A:QJ}{kn:AV}{S:LS}(hL:PM st (FL cp A kn S.lg))(hA:Zk 0 A kn S.ns)(hns:S.ns.length≤100000)(s:List Nat): ∃v st',Ev Tryz.prog Ja 167 [.ptr cp 0 0,.str s] st v st'∧v=.int .i64 ((S.ns.length:Nat):Int)∧ ∃kn' A',Oi st st' (FL cp A kn S.lg) (FL cp A' kn' (Jg S s).lg)∧Zk 0 A' kn' (Jg S s).ns:=by
 have hap:(S.ns++[s]).length=S.ns.length+1:=by simp
 refine QC rfl Tryz.func167 rfl Tryz.ntmps167 rfl fun T hT=>?_;have K:Jm [(0,_),(1,_)] T:=(.cons (hT 0) (.cons (hT 1) .nil));have M:=Mem.cast (M':=(cp,0,[kn,.bool S.lg])::(A++[])) (hL.start hf) (by simp[FL]);refine Qg 7 K M ?_;intro _ K;refine YK K M Zl XK rfl rfl rfl rfl rfl fun c11 _ _ K M=>?_;refine jD (k2:=0) (L:=[(c11,0,[.str s]),(cp,0,[kn,.bool S.lg])]) (A:=A) (B:=[]) K M hA Zl rfl rfl rfl (by omega) rfl fun ks12 A12 _ _ K hA12 M=>?_;simp only[List.append_assoc,List.cons_append,List.nil_append,List.set_cons_zero,List.set_cons_succ]at M;refine Qg 2 K M ?_;intro _ K;refine FI (k:=1) K M rfl rfl rfl Ej (hA12.cell) rfl fun _ M=>?_;refine Qg 5 K M ?_;intro _ K;refine oB K (Qb rfl) rfl fun b20 _ e20 K=>?_;cases b20
 ·refine Qg 4 K M ?_;intro _ K;refine og K rfl rfl (Jd Ur rfl rfl hA12.len) rfl fun _ K=>?_;refine au 9 K M ?_;intro _ _ K _ M;refine o1 K (Jd Ur rfl rfl hA12.len) rfl fun _ K=>o1 K (No rfl rfl (by omega) (by omega)) rfl fun _ K=>?_;refine Qg 1 K M ?_;intro _ K;refine Qe ⟨.inr rfl,_,JU K rfl,?_⟩
  have hlg:(Jg S s).lg=decide (6<(((S.ns++[s]).length:Nat):Int)):=by first|(simp only[Jg,e20,Bool.true_or];done)|(simp only[Jg,e20,Bool.false_or,hap];done)|(simp only[Jg,e20,Bool.false_or,hap];exact decide_eq_decide.2 (by omega))
  refine⟨?_,ks12,A12,?_,?_⟩
  ·first|rfl|(simp;done)|(simp;omega)
  ·rw[hlg];exact Mem.Lr (Mem.pick [[(c11,0,[.str s])],[(cp,0,[ks12,.bool (decide (6<(((S.ns++[s]).length:Nat):Int)))])],A12] M [1,2,0] (n:=3) rfl (by decide) 2 (by simp))
  ·exact hA12
 refine au 14 K M ?_;intro _ _ K _ M;refine o1 K (Jd Ur rfl rfl hA12.len) rfl fun _ K=>o1 K (No rfl rfl (by omega) (by omega)) rfl fun _ K=>?_;refine Qg 1 K M ?_;intro _ K;refine Qe ⟨.inr rfl,_,JU K rfl,?_⟩
 have hlg:(Jg S s).lg=true:=by first|(simp only[Jg,e20,Bool.true_or];done)|(simp only[Jg,e20,Bool.false_or,hap];done)|(simp only[Jg,e20,Bool.false_or,hap];exact decide_eq_decide.2 (by omega))
 refine⟨?_,ks12,A12,?_,?_⟩
 ·first|rfl|(simp;done)|(simp;omega)
 ·rw[hlg];exact Mem.Lr (Mem.pick [[(c11,0,[.str s])],[(cp,0,[ks12,.bool true])],A12] M [1,2,0] (n:=3) rfl (by decide) 2 (by simp))
 ·exact hA12

theorem GM{st:St}(hf:Q6 st){cp:Nat}{A:QJ}{kn:AV}{S:LS}(hL:PM st (FL cp A kn S.lg))(hA:Zk 0 A kn S.ns)(hns:S.ns.length≤100000)(n:Nat)(hn:n≤S.ns.length): ∃v st',Ev Tryz.prog Ja 170 [.ptr cp 0 0,.int .i64 (((n:Nat):Int))] st v st'∧v=.tup []∧ ∃kn' A',Oi st st' (FL cp A kn S.lg) (FL cp A' kn' (Xw S n).lg)∧Zk 0 A' kn' (Xw S n).ns:=by
 refine QC rfl Tryz.func170 rfl Tryz.ntmps170 rfl fun T hT=>?_;have K:Jm [(0,_),(1,_)] T:=(.cons (hT 0) (.cons (hT 1) .nil));have M:=Mem.cast (M':=(cp,0,[kn,.bool S.lg])::(A++[])) (hL.start hf) (by simp[FL]);refine Qg 6 K M ?_;intro _ K;obtain⟨ks10,hA10,hos10⟩:=uc (n:=n) hA (by omega);refine o1 K (hos10 JK rfl rfl) rfl fun _ K=>?_;refine Qg 2 K M ?_;intro _ K;refine FI (k:=0) K M rfl rfl rfl Ej (hA10.cell) rfl fun _ M=>?_;refine Q5 ?_;refine⟨.inl rfl,_,Xv,?_⟩
 have hlg:(Xw S n).lg=S.lg:=by rfl
 refine⟨?_,ks10,A,?_,?_⟩
 ·first|rfl|(simp;done)|(simp;omega)
 ·rw[hlg];exact Mem.Lr (Mem.pick [[(cp,0,[ks10,.bool S.lg])],A] M [0,1] (n:=2) rfl (by decide) 2 (by simp))
 ·exact hA10

theorem Lf{st:St}(hf:Q6 st){cp:Nat}{A:QJ}{kn:AV}{S:LS}(hL:PM st (FL cp A kn S.lg))(hA:Zk 0 A kn S.ns)(hns:S.ns.length≤100000)(z:Int): ∃v st',Ev Tryz.prog Ja 212 [.ptr cp 0 0,.int .i64 z] st v st'∧v=.int .i64 z∧ ∃kn' A',Oi st st' (FL cp A kn S.lg) (FL cp A' kn' (Um S z).lg)∧Zk 0 A' kn' (Um S z).ns:=by
 refine QC rfl Tryz.func212 rfl Tryz.ntmps212 rfl fun T hT=>?_;have K:Jm [(0,_),(1,_)] T:=(.cons (hT 0) (.cons (hT 1) .nil));have M:=Mem.cast (M':=(cp,0,[kn,.bool S.lg])::(A++[])) (hL.start hf) (by simp[FL]);refine Qg 6 K M ?_;intro _ K;refine oB K (Qb rfl) rfl fun b10 _ e10 K=>?_;cases b10
 ·refine au 8 K M ?_;intro _ _ K _ M;refine Qe ⟨.inr rfl,_,JU K rfl,?_⟩
  have hlg:(Um S z).lg=decide (20<z):=by first|(simp only[Um,e10,Bool.true_or];done)|(simp only[Um,e10,Bool.false_or];done)
  refine⟨?_,kn,A,?_,?_⟩
  ·first|rfl|(simp;done)|(simp;omega)
  ·rw[hlg];exact Mem.Lr (Mem.pick [[(cp,0,[kn,.bool (decide (20<z))])],A] M [0,1] (n:=2) rfl (by decide) 2 (by simp))
  ·exact hA
 refine au 8 K M ?_;intro _ _ K _ M;refine Qe ⟨.inr rfl,_,JU K rfl,?_⟩
 have hlg:(Um S z).lg=true:=by first|(simp only[Um,e10,Bool.true_or];done)|(simp only[Um,e10,Bool.false_or];done)
 refine⟨?_,kn,A,?_,?_⟩
 ·first|rfl|(simp;done)|(simp;omega)
 ·rw[hlg];exact Mem.Lr (Mem.pick [[(cp,0,[kn,.bool true])],A] M [0,1] (n:=2) rfl (by decide) 2 (by simp))
 ·exact hA

theorem Tx{st:St}(hf:Q6 st){kd:AV}(hc:Jy kd=true): ∃v st',Ev Tryz.prog Ja 172 [kd] st v st'∧ ∃c,v=.fn 210 [] [.ptr c 0 0]∧Qt st st'∧JA st'.h.get c 0 [kd]∧st.n≤c:=by
 refine QC rfl Tryz.func172 rfl Tryz.ntmps172 rfl fun T hT=>?_;have K:Jm [(0,_)] T:=(.cons (hT 0) .nil);have M:=Mem.start hf;refine Qq<|Qh ?_;refine J2 K M rfl (F7 hc) (by decide) fun c1 _ _ K M=>?_;replace M:=Mem.cast (M':=[(c1,0,[kd])]) M (congrArg (fun q=>(c1,0,q)::[]) (XR (hc)));refine Qg 1 K M ?_;intro _ K;refine o1 K (Ax rfl rfl) rfl fun _ K=>?_;refine Qg 1 K M ?_;intro _ K;refine Qe ⟨.inr rfl,_,JU K rfl,?_⟩;exact⟨_,rfl,M.qt,M.Qp (k:=0) rfl,(M.own c1 0 [kd] (by simp)).resolve_right (by simp)⟩

theorem OX{st:St}(hf:Q6 st){cp:Nat}{kn lg:AV}{ns:List (List Nat)}(hr:Xf st.h.get cp 0 [kn,lg])(hB:J1 st.h.get [] 1 (Oj ns) kn)(nm:List Nat): ∃v st',Ev Tryz.prog Ja 111 [.ptr cp 0 0,.str nm] st v st'∧v=.int .i64 (GS ns nm)∧Qt st st':=by
 have hbn:(ns.length:Int)≤9223372036854775807:=by have:=hB.ZJ;rw[Wp]at this;exact this
 refine QC rfl Tryz.func111 rfl Tryz.ntmps111 rfl fun T hT=>?_;have K:Jm [(0,_),(1,_)] T:=(.cons (hT 0) (.cons (hT 1) .nil));have M:=Mem.start hf;refine Qq<|Qh ?_;refine J2 K M rfl rfl (by decide) fun c3 _ _ K M=>?_;refine au 4 K M ?_;intro c4 _ _ K _ M;refine o1 K (Qx rfl (Yt (M.rows _ _ _ hr) (Qk VK rfl))) rfl fun _ K=>?_;obtain⟨v11,st11,ev11,c11,rfl,q11,r11,l11⟩:=Tx M.fresh hB.cell;refine o1 K (Qc rfl ev11) rfl fun _ K=>?_;replace M:=M.Vl q11 r11 l11;refine Q5 ?_;show W _ _ _ _ _ _ _;refine Uw ?_;have K9:=K;refine TE K rfl rfl rfl (by decide) (by decide) rfl (M.load (k:=0) rfl (Qk VK rfl)) Ur JK JI (hB.len.trans (congrArg some (Wp _))) hbn (fun i st9=>Mem st.h.get st.n [] st9 [(c11,0,[kn]),(c4,0,[.int .i64 0]),(c3,0,[.str nm])]∧GS ns nm=OY ns nm i) ⟨M,rfl⟩ (fun i st9 hi hJ=>?_) (fun st9 hJ=>?_)
 ·obtain⟨M,hx⟩:=hJ;obtain⟨y13,hi13⟩: ∃x,ns[i]? =some x:=⟨_,List.getElem?_eq_getElem (by omega)⟩;refine⟨M.load (k:=0) rfl (Qk VK rfl),_,_,_,(J1.mem M hB (by simp)),(PW hi13),fun T hT=>?_⟩;have K:=hT;refine Qg 2 K M ?_;intro _ K;refine⟨rfl,?_⟩;refine Qg 3 K M ?_;intro _ K;refine Z0 K rfl (fun h16=>?_) fun h16=>?_
  ·refine au 2 K M ?_;intro _ _ K _ M;refine Qe ?_;have K:=K9;refine⟨.inr rfl,_,(FK (Uk K rfl (M.load (k:=1) rfl (Qk QI rfl)))),?_⟩;exact⟨by rw[hx,Ny hi13,if_pos h16],M.qt⟩
  refine QT ?_;exact⟨M.less (.refl _),(by rw[hx,Ny hi13,if_neg h16])⟩
 obtain⟨M,hx⟩:=hJ;show W _ _ _ _ _ _ _;refine au 1 K M ?_;intro _ _ K _ M;refine Qe ⟨.inr rfl,_,(FK (Uk K rfl (M.load (k:=1) rfl (Qk QI rfl)))),?_⟩;exact⟨by rw[hx];rfl,M.qt⟩
end Go.Proofs.YtadjjadimlkkgaaGreatDoor
end
