/-
  Several texts in one: XLift, XOpen, XSymH, XSum, XSymI.
-/
import Derived.WalkKit
import Derived.Test.YtildagdnomiahaaGreatDoorQgSy1
set_option linter.unusedSimpArgs false
set_option linter.unusedVariables false
namespace Go.Proofs.YtildagdnomiahaaGreatDoor
section
open Go Go.RowKit
variable {cs:List Value} {fuel:Nat} {t:TypeId}

def UU(h:Hp)(c m:Nat)(l:List AV):Prop:= ∃ro e vs ms,h c=some (.row ro ms)∧ms[m]? =some (e,vs,some l)
def zu(h h':Hp):Prop:= ∀c m l,UU h c m l→UU h' c m l
inductive Rd{H:Type}(P:Program)(h:Hp):TypeId→List AV→DataW H→Prop
 |bool {t:TypeId} {b:Bool} (ht:P.underlying t=some .bool):Rd P h t [.bool b] (.lit (.bool b))
 |int {t:TypeId} {k:IntKind} {n:Int} (ht:P.underlying t=some (.int k)) (hw:(Lit.int k n).wf=true):Rd P h t [.int k n] (.lit (.int k n))
 |str {t:TypeId} {s:ByteArray} (ht:P.underlying t=some .string) (hs:s.size≤maxLen):Rd P h t [.str (XW s)] (.lit (.string s.data.toList))
 |nil {t e:TypeId} (ht:P.underlying t=some (.slice e)):Rd P h t [.nils] .nil
 |none {t e:TypeId} {b o:Nat} {s:Option Nat} (ht:P.underlying t=some (.slice e)):Rd P h t [.sl0 b o s] (.slice [] [])
 |row {t e:TypeId} {c m len:Nat} {cells:List AV} {elems rest:List (DataW H)} (ht:P.underlying t=some (.slice e)) (hz:0<P.cellsOf e) (hr:UU h c m cells) (hl:cells.length=len *P.cellsOf e) (he:elems.length=len) (hm:len≤maxLen)
  (hd: ∀i d,elems[i]? =some d→Rd P h e ((cells.drop (i *P.cellsOf e)).take (P.cellsOf e)) d):Rd P h t [.sl c m 0 len (P.cellsOf e)] (.slice elems rest)
 |agg {t:TypeId} {fs:Array Field} {az:List AV} {parts:List (DataW H)} (ht:P.underlying t=some (.struct fs)) (hl:az.length=P.cellsOf t) (hp:parts.length=fs.size)
  (hd: ∀(i:Nat) (f:Field) (d:DataW H),fs[i]? =some f→parts[i]? =some d→Rd P h f.type ((az.drop f.offset).take (P.cellsOf f.type)) d):Rd P h t az (.agg parts)
theorem Rd.mono{H:Type}{P:Program}{h h':Hp}(hl:zu h h'){az:List AV}{d:DataW H}(r:Rd P h t az d):Rd P h' t az d:=by
 induction r with
 |bool ht=>exact .bool ht
 |int ht hw=>exact .int ht hw
 |str ht hs=>exact .str ht hs
 |nil ht=>exact .nil ht
 |none ht=>exact .none ht
 |row ht hz hr hl' he hm hd ih=>exact .row ht hz (hl _ _ _ hr) hl' he hm ih
 |agg ht hl' hp hd ih=>exact .agg ht hl' hp ih

abbrev HU:=List (Pl×List AV)
def L8(ml:HU):QX:=fun c m=>if c=0 then(ml[m]?).map Prod.fst else none
def Pj(ml:HU):AB:=.row true (ml.map fun x=>(x.2.length,x.1.d,some x.2))
def A9(ml:HU):Hp:=fun c=>if c=0 then some (Pj ml)else none
theorem OI(ml:HU)(m:Nat):L8 ml 0 m=(ml[m]?).map Prod.fst:=if_pos rfl
theorem zM{ml ml':HU}(h:ml<+:ml'):QX.le (L8 ml) (L8 ml'):=by
 intro c m x hx;unfold L8 at hx ⊢
 split at hx
 ·rename_i hc;rw[if_pos hc]
  cases hm:ml[m]? with
  |none=>rw[hm]at hx;cases hx
  |some y=>rw[hm]at hx;rw[OG h hm];exact hx
 ·cases hx
theorem VB(ml:HU):exts (Pj ml)=ml.map fun x=>x.2.length:=by
 simp[exts,Pj,Function.comp_def]
theorem KG{ml ml':HU}(h:ml<+:ml'):Grow (A9 ml) (A9 ml'):=by
 intro c C hc;unfold A9 at hc ⊢
 split at hc
 ·rename_i h0
  injection hc with hc
  subst hc;refine⟨_,if_pos h0,?_⟩;rw[VB,VB];exact h.map _
 ·cases hc
theorem uw(ml:HU):CR (L8 ml) (A9 ml):=by
 intro c C hc m hm;unfold A9 at hc
 split at hc
 ·rename_i h0
  injection hc with hc
  subst hc h0;rw[VB,List.length_map]at hm;exact⟨_,by rw[OI,List.getElem?_eq_getElem hm];rfl⟩
 ·cases hc
theorem OA{ml ml':HU}(h:ml<+:ml'):zu (A9 ml) (A9 ml'):=by
 rintro c m l ⟨ro,e,vs,ms,h1,h2⟩
 unfold A9 at h1
 split at h1
 ·rename_i h0
  injection h1 with h1
  unfold Pj at h1
  injection h1 with h1 h3
  subst h1 h3;refine⟨true,e,vs,_,by unfold A9;rw[if_pos h0];rfl,OG (h.map _) h2⟩
 ·cases h1
theorem zo{ml ml':HU}(h:ml<+:ml'){v:AV}(hv:WF (A9 ml) v):Qd (L8 ml') v=Qd (L8 ml) v:=JQ (uw ml) (zM h) v hv
section
variable {P:Program} {H:Type} {enc:TypeId×Value→H} {W:World}
def ZT(W:World)(ml:HU):Prop:= ∀(m:Nat) (q:Pl) (l:List AV),ml[m]? =some (q,l)→ ∃(arr:Array Value) (el:TypeId) (fr:Nat×Nat),W.heap[q.b]? =some (.cells arr el fr)∧q.d+q.e≤arr.size∧l.length≤q.e∧
 ∀j v,l[j]? =some v→arr[q.d+j]? =some (Qd (L8 ml) v)∧WF (A9 ml) v∧Qu v=true
theorem ZT.nil:ZT W []:=fun m q l h=>by simp at h
theorem ZT.push{ml:HU}(h:ZT W ml){q:Pl}{l:List AV}{arr:Array Value}{el:TypeId}{fr:Nat×Nat}(hb:W.heap[q.b]? =some (.cells arr el fr))(hs:q.d+q.e≤arr.size)(hl:l.length≤q.e)
  (hc: ∀j v,l[j]? =some v→arr[q.d+j]? =some (Qd (L8 ml) v)∧WF (A9 ml) v∧Qu v=true):ZT W (ml++[(q,l)]):=by
 have hp:ml<+:ml++[(q,l)]:=List.prefix_append _ _;have key: ∀v,WF (A9 ml) v→Qd (L8 (ml++[(q,l)])) v=Qd (L8 ml) v∧WF (A9 (ml++[(q,l)])) v:=fun v hv=>⟨zo hp hv,WF.grow (KG hp) v hv⟩;intro m q' l' hm
 by_cases hlt:m<ml.length
 ·rw[List.getElem?_append_left hlt]at hm;obtain⟨arr',el',fr',h1,h2,h3,h4⟩:=h m q' l' hm;refine⟨arr',el',fr',h1,h2,h3,fun j v hj=>?_⟩;obtain⟨k1,k2,k3⟩:=h4 j v hj;obtain⟨e1,e2⟩:=key v k2;exact⟨by rw[e1];exact k1,e2,k3⟩
 ·rw[List.getElem?_append_right Qe]at hm
  have hm0:m-ml.length=0:=by
   cases hx:m-ml.length with
   |zero=>rfl
   |succ n=>rw[hx]at hm;simp at hm
  rw[hm0]at hm;simp at hm;obtain⟨rfl,rfl⟩:=hm;refine⟨arr,el,fr,hb,hs,hl,fun j v hj=>?_⟩;obtain⟨k1,k2,k3⟩:=hc j v hj;obtain⟨e1,e2⟩:=key v k2;exact⟨by rw[e1];exact k1,e2,k3⟩

theorem ZT.hr{ml:HU}(h:ZT W ml):HR W (L8 ml) (A9 ml) W:=by
 have hdom: ∀c m x,L8 ml c m=some x→c=0∧ ∃l,ml[m]? =some (x,l):=by
  intro c m x hx;unfold L8 at hx
  split at hx
  ·rename_i hc
   cases hm:ml[m]? with
   |none=>rw[hm]at hx;cases hx
   |some y=>rw[hm]at hx;injection hx with hx;subst hx;exact⟨hc,y.2,rfl⟩
  ·cases hx
 refine⟨rfl,rfl,rfl,Nat.le_refl _,fun _ _=>rfl,fun c m x hx=>?_,fun c m x hx=>?_,fun c m x c' m' x' hx hx' _=>?_,fun c C hC=>?_⟩
 ·obtain⟨rfl,l,hm⟩:=hdom c m x hx;exact⟨Pj ml,if_pos rfl,by rw[VB,List.length_map];exact(List.getElem?_eq_some_iff.1 hm).1⟩
 ·obtain⟨rfl,l,hm⟩:=hdom c m x hx;obtain⟨arr,el,fr,h1,_⟩:=h m x l hm;exact(Array.getElem?_eq_some_iff.1 h1).1
 ·rw[(hdom c m x hx).1,(hdom c' m' x' hx').1]
 ·unfold A9 at hC
  split at hC
  ·rename_i hc0
   injection hC with hC
   subst hC hc0;refine⟨fun m e vs cs hm=>?_,fun m e vs cs m' e' vs' cs' q q' hm hm' hq hq' hb=>?_⟩
   ·rw[List.getElem?_map]at hm
    cases hx:ml[m]? with
    |none=>rw[hx]at hm;cases hm
    |some y=>
     rw[hx]at hm;simp only[Option.map_some,Option.some.injEq,Prod.mk.injEq]at hm;obtain⟨rfl,rfl,rfl⟩:=hm;obtain⟨q,l⟩:=y;obtain⟨arr,el,fr,h1,h2,h3,h4⟩:=h m q l hx;refine⟨q,arr,el,by rw[OI,hx];rfl,⟨fr,h1,fun e=>nomatch e⟩,h2,h3,fun e=>(nomatch e),fun l' hl'=>?_⟩
     injection hl' with hl'
     subst hl';exact⟨rfl,h4⟩
   ·rw[List.getElem?_map]at hm hm';rw[OI]at hq hq'
    cases hx:ml[m]? with
    |none=>rw[hx]at hq;cases hq
    |some y=>
     cases hx':ml[m']? with
     |none=>rw[hx']at hq';cases hq'
     |some y'=>
      rw[hx]at hm hq;rw[hx']at hm' hq';simp only[Option.map_some,Option.some.injEq,Prod.mk.injEq]at hm hm' hq hq';obtain⟨_,rfl,_⟩:=hm;obtain⟨_,rfl,_⟩:=hm';subst hq hq';omega
  ·cases hC

def Ox(P:Program):List Field→Nat→Option Nat
 |[],n=>some n
 |f::fs,n=>if f.offset=n then Ox P fs (n+P.cellsOf f.type)else none
def Dx(P:Program)(S:List TypeId)(t:TypeId):Bool:=match P.underlying t with
 |some .bool=>true
 |some (.int _)=>true
 |some .string=>true
 |some (.slice e)=>S.contains e&&decide (0<P.cellsOf e)
 |some (.struct fs)=>fs.toList.all (fun f=>S.contains f.type)&&decide (Ox P fs.toList 0=some (P.cellsOf t))
 |_=>false
def Br(P:Program)(S:List TypeId):Bool:=S.all (Dx P S)

def CN(P:Program)(W:World)(ml:HU)(cs:List Value)(R:HU→List AV→Prop):Prop:= ∃ml' az,ml<+:ml'∧ZT W ml'∧az.map (Qd (L8 ml'))=cs∧Yt (A9 ml') az∧(∀v∈az,Qu v=true)∧R ml' az
theorem NB{ml ml':HU}(h:ml<+:ml'){l:List AV}(hl:Yt (A9 ml) l):l.map (Qd (L8 ml'))=l.map (Qd (L8 ml)):=
 List.map_congr_left fun v hv=>zo h ((Jk _ _).1 hl v hv)
theorem CX{d:DataW H}{ps:List MemPlace}(hu:P.underlying t=some .bool)(h:DataW.trod enc P W 0 (fun _=>true) true (fuel+1) t cs=some (d,ps)): ∃b,cs=[.bool b]∧d=.lit (.bool b):=by
 unfold DataW.trod at h;rw[hu]at h
 split at h<;>first|(simp_all;done)|skip
theorem RF{k:IntKind}{d:DataW H}{ps:List MemPlace}(hu:P.underlying t=some (.int k))(h:DataW.trod enc P W 0 (fun _=>true) true (fuel+1) t cs=some (d,ps)): ∃n,cs=[.int k n]∧(Lit.int k n).wf=true∧d=.lit (.int k n):=by
 unfold DataW.trod at h;rw[hu]at h
 split at h<;>first|(simp_all;done)|skip
theorem RE{d:DataW H}{ps:List MemPlace}(hu:P.underlying t=some .string)(h:DataW.trod enc P W 0 (fun _=>true) true (fuel+1) t cs=some (d,ps)): ∃s,cs=[.string s]∧s.size≤maxLen∧d=.lit (.string s.data.toList):=by
 unfold DataW.trod at h;rw[hu]at h
 split at h<;>first|(simp_all;done)|skip
theorem GH{e:TypeId}{d:DataW H}{ps:List MemPlace}(hu:P.underlying t=some (.slice e))(h:DataW.trod enc P W 0 (fun _=>true) true (fuel+1) t cs=some (d,ps)):
  (cs=[.slice none 0 0]∧d=.nil)∨ ∃a len cap elems rest,cs=[.slice (some a) len cap]∧len≤cap∧cap≤maxLen∧
   (List.range len).mapM (fun i=>(W.cells? 0 (a.add (i *P.cellsOf e)) (P.cellsOf e)).bind (DataW.trod enc P W 0 (fun _=>true) true fuel e))=some elems∧
   (List.range (cap-len)).mapM (fun j=>(W.cells? 0 (a.add ((len+j) *P.cellsOf e)) (P.cellsOf e)).bind (DataW.trod enc P W 0 (fun _=>true) true fuel e))=some rest∧d=.slice (elems.map (·.1)) (rest.map (·.1)):=by
 unfold DataW.trod at h;rw[hu]at h
 split at h<;>first|(simp_all;done)|skip
 rename_i e1 a len cap he
 injection he with he
 injection he with he
 subst he
 split at h
 ·rename_i hh;right;rw[Option.bind_eq_some_iff]at h;obtain⟨elems,h1,h⟩:=h;rw[Option.map_eq_some_iff]at h;obtain⟨rest,h2,h⟩:=h;rw[if_pos rfl]at h2
  injection h with h _
  exact⟨a,len,cap,elems,rest,rfl,hh.2.1,hh.2.2,h1,h2,h.symm⟩
 ·cases h
theorem Ou{fs:Array Field}{d:DataW H}{ps:List MemPlace}(hu:P.underlying t=some (.struct fs))(h:DataW.trod enc P W 0 (fun _=>true) true (fuel+1) t cs=some (d,ps)):
  cs.length=P.cellsOf t∧ ∃xs,fs.toList.mapM (fun f=>DataW.trod enc P W 0 (fun _=>true) true fuel f.type ((cs.drop f.offset).take (P.cellsOf f.type)))=some xs∧d=.agg (xs.map (·.1)):=by
 unfold DataW.trod at h;rw[hu]at h
 split at h<;>first|(simp_all;done)|skip
 rename_i fs1 he
 injection he with he
 injection he with he
 subst he
 split at h
 ·rename_i hh;rw[Option.map_eq_some_iff]at h;obtain⟨xs,h1,h⟩:=h
  injection h with h _
  exact⟨hh,xs,h1,h.symm⟩
 ·cases h
theorem mapM_some{α β:Type}{f:α→Option β}: ∀{l:List α} {r:List β},l.mapM f=some r→r.length=l.length∧ ∀(i:Nat) (a:α),l[i]? =some a→ ∃b,r[i]? =some b∧f a=some b:=by
 intro l
 induction l with
 |nil=>intro r h;simp at h;subst h;exact⟨rfl,fun i a h=>by simp at h⟩
 |cons x l ih=>
  intro r h;rw[List.mapM_cons]at h;simp only[Option.bind_eq_bind,Option.pure_def,Option.bind_eq_some_iff,Option.some.injEq]at h;obtain⟨b,hb,t,ht,h⟩:=h;subst h;obtain⟨h1,h2⟩:=ih ht;refine⟨by simp[h1],fun i a hi=>?_⟩
  cases i with
  |zero=>simp at hi;subst hi;exact⟨b,rfl,hb⟩
  |succ i=>simpa using h2 i a (by simpa using hi)
theorem Tt(a:Addr)(m n:Nat):(a.add m).add n=a.add (m+n):=by
 unfold Addr.add
 by_cases hm:m=0
 ·subst hm;rw[if_pos rfl,Nat.zero_add]
 ·rw[if_neg hm,if_neg (show m+n≠0 by omega)]
  by_cases hn:n=0
  ·subst hn;rw[if_pos rfl,Nat.add_zero]
  ·rw[if_neg hn];simp only[Nat.add_assoc]
theorem HI{α:Type}{z:Nat}(hz:0<z): ∀(css:List (List α)),(∀c∈css,c.length=z)→ ∀j,css.flatten[j]? =(css[j/z]?).bind fun c=>c[j % z]? :=by
 intro css
 induction css with
 |nil=>intro _ j;simp
 |cons c css ih=>
  intro h j;have hc:=h c (List.mem_cons_self ..);rw[List.flatten_cons,List.getElem?_append]
  by_cases hj:j<z
  ·rw[if_pos Qe,Nat.div_eq_of_lt hj,Nat.mod_eq_of_lt hj];rfl
  ·rw[if_neg Qe,ih (fun c hc=>h c (List.mem_cons_of_mem _ hc)),hc]
   have e1:j/z=(j-z)/z+1:=by
    conv=>lhs;rw[show j=(j-z)+z by omega]
    exact Nat.add_div_right _ hz
   have e2:j % z=(j-z) % z:=by
    conv=>lhs;rw[show j=(j-z)+z by omega]
    exact Nat.add_mod_right _ _
   rw[e1,e2];rfl
theorem NX{a:Addr}{j:Nat}{v:Value}(h:W.cell? (a.add j)=some v): ∃arr el fr,W.heap[a.block]? =some (.cells arr el fr)∧arr[a.off+j]? =some v∧(j=0→a.spot=none):=by
 have hb:(a.add j).block=a.block:=by unfold Addr.add;split<;>rfl
 have ho:(a.add j).off=a.off+j:=by unfold Addr.add;split<;>simp_all
 unfold World.cell? at h;rw[hb]at h
 split at h
 ·rename_i arr el fr hh
  split at h
  ·cases h
  ·rename_i hs;rw[ho]at h;refine⟨arr,el,fr,hh,h,fun h0=>?_⟩;subst h0;have:a.add 0=a:=if_pos rfl;rw[this]at hs
   simpa using hs
 ·cases h
theorem EY{n:Nat}{a:Addr}(h:W.cells? 0 a n=some cs):cs.length=n∧ ∀i,i<n→ ∃v,W.cell? (a.add i)=some v∧cs[i]? =some v:=by
 unfold World.cells? at h;rw[if_pos (Nat.zero_le _)]at h;obtain⟨h1,h2⟩:=mapM_some h;rw[List.length_range]at h1;refine⟨h1,fun i hi=>?_⟩;obtain⟨b,hb,hc⟩:=h2 i i (List.getElem?_range hi);exact⟨b,hc,hb⟩

theorem MN{e:TypeId}{a:Addr}{z:Nat}(ih: ∀(cs:List Value) (d:DataW H) (ps:List MemPlace) (ml:HU),DataW.trod enc P W 0 (fun _=>true) true fuel e cs=some (d,ps)→ZT W ml→CN P W ml cs fun ml' az=>Rd P (A9 ml') e az d):
  ∀(l:List Nat) (ml:HU) (xs:List (DataW H×List MemPlace)),l.mapM (fun i=>(W.cells? 0 (a.add (i *z)) z).bind (DataW.trod enc P W 0 (fun _=>true) true fuel e))=some xs→ZT W ml→
  ∃css:List (List Value),css.length=l.length∧(∀(i j:Nat),l[i]? =some j→ ∃cs,css[i]? =some cs∧W.cells? 0 (a.add (j *z)) z=some cs)∧
   CN P W ml css.flatten fun ml' az=>az.length=l.length *z∧ ∀(i:Nat) (d:DataW H×List MemPlace),xs[i]? =some d→Rd P (A9 ml') e ((az.drop (i *z)).take z) d.1:=by
 intro l
 induction l with
 |nil=>
  intro ml xs h hM;simp at h;subst h;exact⟨[],rfl,fun i j h=>(by simp at h),ml,[],List.prefix_refl _,hM,rfl,trivial,fun v h=>(by cases h),Qx,fun i d h=>(by simp at h)⟩
 |cons j l ihl=>
  intro ml xs h hM;rw[List.mapM_cons]at h;simp only[Option.bind_eq_bind,Option.pure_def,Option.bind_eq_some_iff,Option.some.injEq]at h;obtain⟨x,⟨cs,hcs,hx⟩,t,ht,h⟩:=h;subst h;obtain⟨ml1,as1,p1,g1,c1,w1,i1,r1⟩:=ih cs x.1 x.2 ml hx hM;obtain⟨css,k1,k2,ml2,as2,p2,g2,c2,w2,i2,r2,r3⟩:=ihl ml1 t ht g1;have hcl:=(EY hcs).1
  have hl1:as1.length=z:=by rw[←hcl,←c1,List.length_map]
  refine⟨cs::css,by simp[k1],fun i j' hi=>?_,ml2,as1++as2,p1.trans p2,g2,?_,?_,fun v hv=>?_,?_,fun i d hi=>?_⟩
  ·cases i with
   |zero=>simp at hi;subst hi;exact⟨cs,rfl,hcs⟩
   |succ i=>simpa using k2 i j' (by simpa using hi)
  ·rw[List.map_append,List.flatten_cons,NB p2 w1,c1,c2]
  ·exact(Jk _ _).2 fun v hv=>by
    rcases List.mem_append.1 hv with hv|hv
    ·exact WF.grow (KG p2) v ((Jk _ _).1 w1 v hv)
    ·exact(Jk _ _).1 w2 v hv
  ·rcases List.mem_append.1 hv with hv|hv
   ·exact i1 v hv
   ·exact i2 v hv
  ·rw[List.length_append,hl1,r2,List.length_cons,Nat.succ_mul,Nat.add_comm]
  ·cases i with
   |zero=>
    simp at hi;subst hi;rw[Nat.zero_mul,List.drop_zero,List.take_append_of_le_length Qe,List.take_of_length_le Qe];exact r1.mono (OA p2)
   |succ i=>
    have:=r3 i d (by simpa using hi)
    have e1:(as1++as2).drop z=as2:=by rw[←hl1];exact List.drop_left
    rw[show(i+1) *z=z+i *z by rw[Nat.succ_mul,Nat.add_comm],←List.drop_drop,e1];exact this
theorem BE{n:Nat}(hcs:cs.length=n): ∀(fs:List Field) (off:Nat) (ml:HU) (xs:List (DataW H×List MemPlace)),
  (∀f∈fs,∀(cs:List Value) (d:DataW H) (ps:List MemPlace) (ml:HU),DataW.trod enc P W 0 (fun _=>true) true fuel f.type cs=some (d,ps)→ZT W ml→CN P W ml cs fun ml' az=>Rd P (A9 ml') f.type az d)→
  Ox P fs off=some n→fs.mapM (fun f=>DataW.trod enc P W 0 (fun _=>true) true fuel f.type ((cs.drop f.offset).take (P.cellsOf f.type)))=some xs→ZT W ml→
  off≤n∧CN P W ml (cs.drop off) fun ml' az=> ∀(i:Nat) (f:Field) (d:DataW H×List MemPlace),fs[i]? =some f→xs[i]? =some d→off≤f.offset∧Rd P (A9 ml') f.type ((az.drop (f.offset-off)).take (P.cellsOf f.type)) d.1:=by
 intro fs
 induction fs with
 |nil=>
  intro off ml xs _ ht h hM
  injection ht with ht
  subst ht;refine⟨Nat.le_refl _,ml,[],List.prefix_refl _,hM,?_,trivial,fun v h=>(by cases h),fun i f d h=>(by simp at h)⟩;rw[List.drop_of_length_le Qe];rfl
 |cons f fs ihl=>
  intro off ml xs ih ht h hM;have ht:(if f.offset=off then Ox P fs (off+P.cellsOf f.type)else none)=some n:=ht
  split at ht
  ·rename_i ho;rw[List.mapM_cons]at h;simp only[Option.bind_eq_bind,Option.pure_def,Option.bind_eq_some_iff,Option.some.injEq]at h;obtain⟨x,hx,t,htt,h⟩:=h;subst h;obtain⟨ml1,as1,p1,g1,c1,w1,i1,r1⟩:=ih f (List.mem_cons_self ..) _ x.1 x.2 ml hx hM;obtain⟨hle,ml2,as2,p2,g2,c2,w2,i2,r2⟩:=ihl (off+P.cellsOf f.type) ml1 t (fun g hg=>ih g (List.mem_cons_of_mem _ hg)) ht htt g1
   have hl1:as1.length=P.cellsOf f.type:=by
    have:=congrArg List.length c1;rw[List.length_map,List.length_take,List.length_drop]at this;omega
   refine⟨by omega,ml2,as1++as2,p1.trans p2,g2,?_,?_,fun v hv=>?_,fun i g d hi hd=>?_⟩
   ·rw[List.map_append,NB p2 w1,c1,c2,ho,←List.drop_drop,List.take_append_drop]
   ·exact(Jk _ _).2 fun v hv=>by
     rcases List.mem_append.1 hv with hv|hv
     ·exact WF.grow (KG p2) v ((Jk _ _).1 w1 v hv)
     ·exact(Jk _ _).1 w2 v hv
   ·rcases List.mem_append.1 hv with hv|hv
    ·exact i1 v hv
    ·exact i2 v hv
   ·cases i with
    |zero=>
     simp at hi hd;subst hi hd;refine⟨by omega,?_⟩;rw[ho,Nat.sub_self,List.drop_zero,List.take_append_of_le_length Qe,List.take_of_length_le Qe];exact r1.mono (OA p2)
    |succ i=>
     obtain⟨k1,k2⟩:=r2 i g d (by simpa using hi) (by simpa using hd);refine⟨by omega,?_⟩
     have e1:(as1++as2).drop (P.cellsOf f.type)=as2:=by rw[←hl1];exact List.drop_left
     rw[show g.offset-off=P.cellsOf f.type+(g.offset-(off+P.cellsOf f.type)) by omega,←List.drop_drop,e1];exact k2
  ·cases ht

theorem lift(S:List TypeId)(hS:Br P S=true)(fuel:Nat): ∀(t:TypeId) (cs:List Value) (d:DataW H) (ps:List MemPlace) (ml:HU),t∈S→DataW.trod enc P W 0 (fun _=>true) true fuel t cs=some (d,ps)→ZT W ml→
  CN P W ml cs fun ml' az=>Rd P (A9 ml') t az d:=by
 induction fuel with
 |zero=>intro t cs d ps ml ht h;cases h
 |succ fuel ih=>
  intro t cs d ps ml ht h hM;have hp:Dx P S t=true:=List.all_eq_true.1 hS t ht;unfold Dx at hp
  split at hp
  ·rename_i hu;obtain⟨b,rfl,rfl⟩:=CX hu h;exact⟨ml,[.bool b],List.prefix_refl _,hM,rfl,⟨trivial,trivial⟩,by simp[Qu],.bool hu⟩
  ·rename_i k hu;obtain⟨n,rfl,hw,rfl⟩:=RF hu h;exact⟨ml,[.int k n],List.prefix_refl _,hM,rfl,⟨trivial,trivial⟩,by simp[Qu],.int hu hw⟩
  ·rename_i hu;obtain⟨s,rfl,hs,rfl⟩:=RE hu h;refine⟨ml,[.str (XW s)],List.prefix_refl _,hM,?_,⟨F7 s,trivial⟩,by simp[Qu],.str hu hs⟩;simp only[List.map_cons,List.map_nil,Qd,Ea]
  ·rename_i e hu;rw[Bool.and_eq_true,decide_eq_true_iff]at hp;obtain⟨he,hz⟩:=hp
   have he:e∈S:=by simpa using he
   rcases GH hu h with⟨rfl,rfl⟩|⟨a,len,cap,elems,rest,rfl,hlc,hcap,h1,h2,rfl⟩
   ·exact⟨ml,[.nils],List.prefix_refl _,hM,rfl,⟨trivial,trivial⟩,by simp[Qu],.nil hu⟩
   ·rcases Nat.eq_zero_or_pos cap with rfl|hc0
    ·obtain rfl:len=0:=by omega
     simp at h1 h2;subst h1 h2;refine⟨ml,[.sl0 a.block a.off a.spot],List.prefix_refl _,hM,rfl,⟨trivial,trivial⟩,by simp[Qu],.none hu⟩
    ·obtain⟨css,k1,k2,ml1,az,p1,g1,c1,w1,i1,r1,r2⟩:=MN (z:=P.cellsOf e) (fun cs d ps ml=>ih e cs d ps ml he) (List.range len) ml elems h1 hM

     have hall: ∀i,i<cap→ ∃cs,W.cells? 0 (a.add (i *P.cellsOf e)) (P.cellsOf e)=some cs:=by
      intro i hi
      by_cases hil:i<len
      ·obtain⟨b,_,hb⟩:=(mapM_some h1).2 i i (List.getElem?_range hil);rw[Option.bind_eq_some_iff]at hb;obtain⟨cs,hcs,_⟩:=hb;exact⟨cs,hcs⟩
      ·obtain⟨b,_,hb⟩:=(mapM_some h2).2 (i-len) (i-len) (List.getElem?_range Qe);rw[Option.bind_eq_some_iff]at hb;obtain⟨cs,hcs,_⟩:=hb;exact⟨cs,by rw[show len+(i-len)=i by omega]at hcs;exact hcs⟩
     have hcell: ∀j,j<cap *P.cellsOf e→ ∃v,W.cell? (a.add j)=some v∧ ∀cs,W.cells? 0 (a.add (j/P.cellsOf e *P.cellsOf e)) (P.cellsOf e)=some cs→cs[j % P.cellsOf e]? =some v:=by
      intro j hj;obtain⟨cs,hcs⟩:=hall (j/P.cellsOf e) (Nat.div_lt_of_lt_mul (by rw[Nat.mul_comm];exact hj));obtain⟨v,hv1,hv2⟩:=(EY hcs).2 (j % P.cellsOf e) (Nat.mod_lt _ hz);refine⟨v,?_,fun cs' hcs'=>by rw[hcs]at hcs';injection hcs' with hcs';subst hcs';exact hv2⟩
      have hjj:j/P.cellsOf e *P.cellsOf e+j % P.cellsOf e=j:=by rw[Nat.mul_comm];exact Nat.div_add_mod j _
      rw[Tt,hjj]at hv1;exact hv1
     have hcz:0<cap *P.cellsOf e:=Nat.mul_pos hc0 hz;obtain⟨v0,hv0,_⟩:=hcell 0 hcz;obtain⟨arr,el,fr,hblk,_,hspot⟩:=NX hv0;have hspot:=hspot rfl
     have harr: ∀j,j<cap *P.cellsOf e→ ∃v,arr[a.off+j]? =some v∧ ∀cs,W.cells? 0 (a.add (j/P.cellsOf e *P.cellsOf e)) (P.cellsOf e)=some cs→cs[j % P.cellsOf e]? =some v:=by
      intro j hj;obtain⟨v,h1,h2⟩:=hcell j hj;obtain⟨arr',el',fr',k1,k2,_⟩:=NX h1;rw[hblk]at k1
      injection k1 with k1
      injection k1 with k1 _ _
      subst k1;exact⟨v,k2,h2⟩
     have hsz:a.off+cap *P.cellsOf e≤arr.size:=by
      obtain⟨v,hv,_⟩:=harr (cap *P.cellsOf e-1) Qe;have:=(Array.getElem?_eq_some_iff.1 hv).1;omega
     rw[List.length_range]at r1;have hlz:len *P.cellsOf e≤cap *P.cellsOf e:=Nat.mul_le_mul_right _ hlc
     have hcl: ∀c∈css,c.length=P.cellsOf e:=by
      intro c hc;obtain⟨i,hi⟩:=List.getElem?_of_mem hc;have hil:=(List.getElem?_eq_some_iff.1 hi).1;rw[k1,List.length_range]at hil;obtain⟨cs,h3,h4⟩:=k2 i i (List.getElem?_range hil);rw[hi]at h3
      injection h3 with h3
      subst h3;exact(EY h4).1
     have hgood:=g1.push (q:=⟨a.block,a.off,cap *P.cellsOf e⟩) (l:=az) hblk hsz (by rw[r1];exact hlz) fun j v hj=>by
      have hjl:=(List.getElem?_eq_some_iff.1 hj).1;obtain⟨v',hv1,hv2⟩:=harr j Qe
      have hfl:css.flatten[j]? =some (Qd (L8 ml1) v):=by rw[←c1,List.getElem?_map,hj];rfl
      rw[HI hz css hcl]at hfl;rw[Option.bind_eq_some_iff]at hfl;obtain⟨cs,h3,h4⟩:=hfl;have hdl:j/P.cellsOf e<len:=Nat.div_lt_of_lt_mul (by rw[Nat.mul_comm];omega);obtain⟨cs',h5,h6⟩:=k2 (j/P.cellsOf e) (j/P.cellsOf e) (List.getElem?_range hdl);rw[h3]at h5
      injection h5 with h5
      subst h5;have:=hv2 cs h6;rw[h4]at this
      injection this with this
      rw[this];exact⟨hv1,(Jk _ _).1 w1 v (List.mem_of_getElem? hj),i1 v (List.mem_of_getElem? hj)⟩
     have hpre:ml1<+:ml1++[(⟨a.block,a.off,cap *P.cellsOf e⟩,az)]:=List.prefix_append _ _
     have hat:(ml1++[((⟨a.block,a.off,cap *P.cellsOf e⟩:Pl),az)])[ml1.length]? =some (⟨a.block,a.off,cap *P.cellsOf e⟩,az):=by simp
     have hrow:UU (A9 (ml1++[(⟨a.block,a.off,cap *P.cellsOf e⟩,az)])) 0 ml1.length az:=⟨true,_,_,_,rfl,by rw[List.getElem?_map,hat];rfl⟩;refine⟨_,[.sl 0 ml1.length 0 len (P.cellsOf e)],p1.trans hpre,hgood,?_,?_,by simp[Qu],?_⟩
     ·simp only[List.map_cons,List.map_nil,Qd,OI,hat,Option.map_some,Nat.add_zero,Nat.sub_zero,Nat.mul_div_cancel _ hz]
      have:(⟨a.block,a.off,none⟩:Addr)=a:=by cases a;simp_all
      rw[this]
     ·refine⟨⟨_,az.length,rfl,?_,hz,?_⟩,trivial⟩
      ·rw[VB,List.getElem?_map,hat];rfl
      ·omega
     ·refine .row hu hz hrow r1 (by rw[List.length_map,(mapM_some h1).1,List.length_range]) (Nat.le_trans hlc hcap) fun i d hd=>?_;rw[List.getElem?_map]at hd
      cases hxi:elems[i]? with
      |none=>rw[hxi]at hd;cases hd
      |some y=>
       rw[hxi]at hd
       injection hd with hd
       subst hd;exact(r2 i y hxi).mono (OA hpre)
  ·rename_i fs hu;rw[Bool.and_eq_true,decide_eq_true_iff]at hp;obtain⟨hin,hti⟩:=hp;obtain⟨hlen,xs,hx,rfl⟩:=Ou hu h
   obtain⟨_,ml1,az,p1,g1,c1,w1,i1,r1⟩:=BE hlen fs.toList 0 ml xs (fun f hf cs d ps ml=>ih f.type cs d ps ml (by
    have:=List.all_eq_true.1 hin f hf
    simpa using this)) hti hx hM
   rw[List.drop_zero]at c1;refine⟨ml1,az,p1,g1,c1,w1,i1,.agg hu ?_ ?_ fun i f d hf hd=>?_⟩
   ·rw[←hlen,←c1,List.length_map]
   ·rw[List.length_map,(mapM_some hx).1,Array.length_toList]
   ·rw[List.getElem?_map]at hd
    cases hxi:xs[i]? with
    |none=>rw[hxi]at hd;cases hd
    |some y=>
     rw[hxi]at hd
     injection hd with hd
     subst hd;obtain⟨_,k⟩:=r1 i f y (by rw[Array.getElem?_toList];exact hf) hxi;exact k
  ·cases hp
end
end
section
open Go Go.RowKit

noncomputable section
def stM(ml:HU):St:=⟨1,Tr.nil.set 0 (Pj ml)⟩
end
theorem Iw(ml:HU):(stM ml).h.get=A9 ml:=by
 funext c
 show(Tr.nil.set 0 (Pj ml)).get c=_;rw[Tr.Z3];unfold A9
 split
 ·rfl
 ·rw[Tr.get_nil]
theorem Nz(ml:HU):Qg (stM ml):=fun c hc=>by
 rw[Iw];have hc:1≤c:=hc;unfold A9;rw[if_neg Qe]
variable {P:Program} {G:Env} {W:World}
theorem Sd(hG0: ∀g,G.g g=false)(hE:ER P G)(hm:P.follows .mixedOrders=true){f:FuncId}{args:List AV}{ml:HU}(hM:ZT W ml)(hw:Yt (A9 ml) args)
  (h: ∃v st',Ev P G f args (stM ml) v st'∧v=.bool true) (hi:G.i W:=by trivial):Calls P f (Qm (L8 ml) args).toArray W fun e w'=>e=.returned (.bool true)∧Below W.heap.size W w':=by
 obtain⟨v,st',⟨L,n,h⟩,rfl⟩:=h;have hc:=((IB (IA hm) hE L n f args (stM ml) (.bool true) st' h (Nz ml) (by rw[Iw];exact hw)).2 W (L8 ml) W (by rw[Iw];exact hM.hr) ⟨fun g hg=>(by rw[hG0]at hg;cases hg),hi⟩).2;refine hc.mono fun e w'=>?_
 rintro⟨p',rfl,hs,_⟩
 exact⟨rfl,hs.hr.os,hs.hr.tape,hs.hr.output,hs.hr.size,hs.hr.J0⟩
theorem Nr{p:QX}{az:List AV}{v:Value}(h:az.map (Qd p)=v.cells.toList)(hc: ∀a∈az,Qu a=true):((∃cs,v=.agg cs)→Qd p (.agg az)=v)∧((∀cs,v≠ .agg cs)→ ∃a,az=[a]∧Qd p a=v):=by
 constructor
 ·rintro⟨cs,rfl⟩
  have h:az.map (Qd p)=cs.toList:=h;show Value.agg (Qm p az).toArray=_;rw[Jv,h]
 ·intro hn
  have hv:v.cells.toList=[v]:=by
   cases v<;>first|rfl|exact absurd rfl (hn _)
  rw[hv]at h
  cases az with
  |nil=>cases h
  |cons a az=>cases az with
   |nil=>injection h with h _;exact⟨a,rfl,h⟩
   |cons b az=>simp at h

end
section
open Go
variable {Y:List Nat} {c c2 k len m m2 n Jd z z2:Nat} {e t:TypeId} {h:Hp} {ks:AV} {l l2:List AV} {ls:List (List AV)} {st':St}

def Qw(h:Hp)(c m:Nat)(l:List AV):Prop:= ∃vs ms,h c=some (.row false ms)∧ms[m]? =some (l.length,vs,some l)
structure yQ(X:List Nat)(st st':St):Prop where
 fresh:Qg st'
 le:st.n≤st'.n
 J0: ∀c,c<st.n→c∉X→st'.h.get c=st.h.get c
theorem Qt.Lm{st:St}(q:Qt st st')(X:List Nat):yQ X st st':=⟨q.fresh,q.le,fun c hc _=>q.J0 c hc⟩
theorem Qw.lt{st:St}(hf:Qg st)(r:Qw st.h.get c m l):c<st.n:=by
 obtain⟨vs,ms,h1,h2⟩:=r
 exact Nat.lt_of_not_le fun hle=>by rw[hf c hle]at h1;cases h1
theorem Qw.QF(r:Qw h c m l):UU h c m l:=by
 obtain⟨vs,ms,h1,h2⟩:=r;exact⟨false,_,vs,ms,h1,h2⟩
theorem Qw.Lm{X:List Nat}{st:St}(hf:Qg st)(q:yQ X st st')(r:Qw st.h.get c m l)(hc:c∉X):Qw st'.h.get c m l:=by
 have hlt:=r.lt hf;obtain⟨vs,ms,h1,h2⟩:=r;exact⟨vs,ms,by rw[q.J0 c hlt hc];exact h1,h2⟩
theorem UU.lt{st:St}(hf:Qg st)(r:UU st.h.get c m l):c<st.n:=by
 obtain⟨ro,e,vs,ms,h1,h2⟩:=r
 exact Nat.lt_of_not_le fun hle=>by rw[hf c hle]at h1;cases h1
theorem UU.Lm{X:List Nat}{st:St}(hf:Qg st)(q:yQ X st st')(r:UU st.h.get c m l)(hc:c∉X):UU st'.h.get c m l:=by
 have hlt:=r.lt hf;obtain⟨ro,e,vs,ms,h1,h2⟩:=r;exact⟨ro,e,vs,ms,by rw[q.J0 c hlt hc];exact h1,h2⟩
section
variable {P:Program} {G:Env} {N:Nat} {h0:Hp} {n0:Nat} {X:List Nat} {st:St} {M:List (Nat×Nat×List AV)}
theorem Mem.Db{st:St}(hf:Qg st)(M:List (Nat×Nat×List AV))(hr: ∀c m l,(c,m,l)∈M→Qw st.h.get c m l)(hn:(M.map Prod.fst).Nodup):Mem st.h.get st.n (M.map Prod.fst) st M:=
 ⟨hf,Nat.le_refl _,hf,hr,fun c m l h=>(hr c m l h).lt hf,fun c m l h=>.inr (List.mem_map.2 ⟨_,h,rfl⟩),hn,fun _ _ _=>rfl⟩
theorem Mem.Lm{st0:St}(h:Mem st0.h.get st0.n X st M):yQ X st0 st:=⟨h.fresh,h.le,h.J0⟩
theorem Mem.Uc(h:Mem h0 n0 X st M)(hk:M[k]? =some (c,m,l)):Qw st.h.get c m l:=h.row c m l (List.mem_of_getElem? hk)
theorem Mem.QY(h:Mem h0 n0 X st M)(hx:c∉X)(r:UU h0 c m l):UU st.h.get c m l:=by
 obtain⟨ro,e,vs,ms,h1,h2⟩:=r
 have hc:c<n0:=Nat.lt_of_not_le fun hle=>by rw[h.base c hle]at h1;cases h1
 exact⟨ro,e,vs,ms,by rw[h.J0 c hc hx];exact h1,h2⟩
theorem Mem.qT(h:Mem h0 n0 X st M)(q:yQ Y st st')(hY: ∀c∈Y,∃m l,(c,m,l)∈M){M':List (Nat×Nat×List AV)}(hn:(M'.map Prod.fst).Nodup)
  (hM: ∀c m l,(c,m,l)∈M'→((c,m,l)∈M∧c∉Y)∨(Qw st'.h.get c m l∧((∃m l,(c,m,l)∈M)∨st.n≤c))):Mem h0 n0 X st' M':=by
 have hrow: ∀c m l,(c,m,l)∈M'→Qw st'.h.get c m l:=fun c m l hm=>by
  rcases hM c m l hm with⟨h1,h2⟩|⟨h1,_⟩
  ·exact Qw.Lm h.fresh q (h.row c m l h1) h2
  ·exact h1
 refine⟨q.fresh,Nat.le_trans h.le q.le,h.base,hrow,fun c m l hm=>(hrow c m l hm).lt q.fresh,fun c m l hm=>?_,hn,fun c hc hx=>?_⟩
 ·rcases hM c m l hm with⟨h1,_⟩|⟨_,⟨m',l',h1⟩|h1⟩
  ·exact h.own c m l h1
  ·exact h.own c m' l' h1
  ·exact .inl (Nat.le_trans h.le h1)
 ·rw[q.J0 c (Nat.lt_of_lt_of_le hc h.le) fun hcY=>?_]
  ·exact h.J0 c hc hx
  ·obtain⟨m,l,hm⟩:=hY c hcY;rcases h.own c m l hm with h1|h1
   ·omega
   ·exact hx h1
theorem Mem.qU(h:Mem h0 n0 X st M){m':Nat}{l':List AV}(hk:M[k]? =some (c,m,l))(q:yQ [c] st st')(r:Qw st'.h.get c m' l'):Mem h0 n0 X st' (M.set k (c,m',l')):=by
 have hm0:=List.mem_of_getElem? hk
 have hfst:(M.set k (c,m',l')).map Prod.fst=M.map Prod.fst:=by
  apply List.ext_getElem?;intro i;rw[List.getElem?_map,List.getElem?_map,List.getElem?_set]
  by_cases h:k=i
  ·subst h;rw[if_pos rfl,hk];have:=(List.getElem?_eq_some_iff.1 hk).1;simp[this]
  ·rw[if_neg h]
 refine h.qT q (fun c' hc=>?_) (by rw[hfst];exact h.nodup) fun c1 m1 l1 hm=>?_
 ·rw[List.mem_singleton]at hc;subst hc;exact⟨m,l,hm0⟩
 ·obtain⟨i,hi⟩:=List.getElem?_of_mem hm;rw[List.getElem?_set]at hi
  by_cases hki:k=i
  ·subst hki;have:=(List.getElem?_eq_some_iff.1 hk).1;simp[this]at hi;obtain⟨rfl,rfl,rfl⟩:=hi;exact .inr ⟨r,.inl ⟨m,l,hm0⟩⟩
  ·rw[if_neg hki]at hi;refine .inl ⟨List.mem_of_getElem? hi,fun e=>hki ?_⟩;rw[List.mem_singleton]at e
   have h1:(M.map Prod.fst)[k]? =some c:=by rw[List.getElem?_map,hk];rfl
   have h2:(M.map Prod.fst)[i]? =some c:=by rw[List.getElem?_map,hi];simp[e]
   exact(List.getElem?_inj (List.getElem?_eq_some_iff.1 h1).1 h.nodup).1 (h1.trans h2.symm)
theorem Mem.Ru(h:Mem h0 n0 X st M)(q:Qt st st')(r:Qw st'.h.get c m l)(hc:st.n≤c):Mem h0 n0 X st' ((c,m,l)::M):=by
 refine h.qT (q.Lm []) (fun c' hc=>by simp at hc) ?_ fun c1 m1 l1 hm=>?_
 ·rw[List.map_cons];refine List.nodup_cons.2 ⟨fun hm=>?_,h.nodup⟩;obtain⟨⟨c',m',l'⟩,h1,h2⟩:=List.mem_map.1 hm;have:=h.lt c' m' l' h1;simp only at h2;omega
 ·rcases List.mem_cons.1 hm with e|hm
  ·injection e with e1 e2
   injection e2 with e2 e3
   subst e1 e2 e3;exact .inr ⟨r,.inr hc⟩
  ·exact .inl ⟨hm,by simp⟩

structure AA(P:Program)(t e:TypeId)(z:Nat):Prop where
 u:P.underlying t=some (.slice e)
 s:(P.underlying e).isSome=true
 zc: ∃zc,zeroOf P e=some zc∧zc.length=z
 c:P.cellsOf e=z
 p:1≤z
 b:P.bytesOf e≤1000
theorem Vv{α β:Type}: ∀(n:Nat) (l:List α) (k:List α→Option β),n≤l.length→Wn n l k=k (l.take n):=by
 intro n
 induction n with
 |zero=>intro l k _;rfl
 |succ n ih=>
  intro l k hl
  cases l with
  |nil=>simp at hl
  |cons a l=>exact ih l _ (by simpa using hl)
theorem UU.rowOf{h:Hp}{c m:Nat}{l:List AV}(r:UU h c m l): ∃e vs ro ms,rowOf h c m=some (e,vs,l,ro,ms):=by
 obtain⟨ro,e,vs,ms,h1,h2⟩:=r;refine⟨e,vs,ro,ms,?_⟩;unfold Proofs.YtildagdnomiahaaGreatDoor.rowOf;rw[h1,Qk];show ob (nth ms m) _=_;rw[JP,h2];rfl
theorem Xl(T:AA P t e z){s:AV}(hr2:UU st.h.get c2 m2 l2)(hle:Jd+n *z≤l2.length): ∃e2 vs2 ro2 ms2,
  Up P [t,t] s (.sl c2 m2 Jd n z2) st=(match s with
   |.nils=>Ql (Nat.beq n 0) (some (.nils,st)) (Q5 (Nat.ble n 1000000000) (WE ((l2.drop Jd).take (n *z)) st fun _ c st=>JO (P.cellsOf e) fun z=>some (.sl c 0 0 n z,st)))
   |.sl c m off len esz=>Q5 (Nat.beq esz (P.cellsOf e)) (ob (rowOf st.h.get c m) fun r=>Q5 (!r.2.2.2.1) (JO (len *esz) fun lz=>Wn lz (Wp off r.2.2.1) fun olds=>
    Ql (Nat.beq n 0) (some (s,st)) (Q5 (Nat.ble (len+n) 1000000000) (ZF (YE olds ((l2.drop Jd).take (n *z))) fun l=>JO (Yp l) fun k=>JO (r.2.1+off) fun vs=>
     ZF (YE (YA (vs+lz) (vs+lz+n *z) r.2.2.2.2) [(k,vs,some l)]) fun ms=>Xc st c (.row false ms) fun st=>JO (Yp r.2.2.2.2) fun m'=>JO (len+n) fun len'=>some (.sl c m' 0 len' esz,st)))))
   |_=>none)∧rowOf st.h.get c2 m2=some (e2,vs2,l2,ro2,ms2):=by
 obtain⟨e2,vs2,ro2,ms2,h2⟩:=hr2.rowOf;refine⟨e2,vs2,ro2,ms2,?_,h2⟩;obtain⟨zc,hz,hzl⟩:=T.zc;unfold Up;have hz1:=T.p;simp only[Nat.beq_refl,Q7,T.u,T.s,hz,Qk,J8,hzl,T.c,Nat.ble_eq_true_of_le T.p,Nat.ble_eq_true_of_le T.b,h2,QI];rw[Vv _ _ _ (by rw[JG,List.length_drop];omega),JG]
 cases s<;>simp only[QI,J8,Ju,T.c]
theorem append_nil(T:AA P t e z)(hr2:UU st.h.get c2 m2 l2)(hle:Jd+n *z≤l2.length)(hn:0<n)(hb:n≤1000000000):
  Up P [t,t] .nils (.sl c2 m2 Jd n z2) st=some (.sl st.n 0 0 n z,⟨st.n+1,st.h.set st.n (.row false [(((l2.drop Jd).take (n *z)).length,0,some ((l2.drop Jd).take (n *z)))])⟩):=by
 obtain⟨_,_,_,_,h,_⟩:=Xl T (s:=.nils) (z2:=z2) hr2 hle;rw[h];have h0:Nat.beq n 0=false:=Tg Qe;simp only[h0,Qr,Nat.ble_eq_true_of_le hb,Q7,Uh,QI,T.c]
theorem Mem.append(hM:Mem h0 n0 X st M)(T:AA P t e z)(hk:M[k]? =some (c,m,l))(hl:l.length=len *z)(hr2:UU st.h.get c2 m2 l2)(hle:Jd+n *z≤l2.length)(hn:0<n)(hb:len+n≤1000000000):
  ∃m' st1,Up P [t,t] (.sl c m 0 len z) (.sl c2 m2 Jd n z2) st=some (.sl c m' 0 (len+n) z,st1)∧Mem h0 n0 X st1 (M.set k (c,m',l++(l2.drop Jd).take (n *z)))∧st1.n=st.n:=by
 obtain⟨_,_,_,_,h,_⟩:=Xl T (s:=.sl c m 0 len z) (z2:=z2) hr2 hle;have hm0:=List.mem_of_getElem? hk;obtain⟨vs,ms,h1,h2⟩:=hM.row c m l hm0
 have hr:rowOf st.h.get c m=some (l.length,vs,l,false,ms):=by
  unfold rowOf;rw[h1,Qk];show ob (nth ms m) _=_;rw[JP,h2];rfl
 have hbeq:Nat.beq n 0=false:=Tg Qe;have hml:=(List.getElem?_eq_some_iff.1 h2).1;refine⟨ms.length,⟨st.n,st.h.set c (.row false (YA (vs+len *z) (vs+len *z+n *z) ms++[((l++(l2.drop Jd).take (n *z)).length,vs,some (l++(l2.drop Jd).take (n *z)))]))⟩,?_,?_,rfl⟩
 ·rw[h];simp only[T.c,Nat.beq_refl,Q7,hr,Qk,Bool.not_false,QI];rw[Vv _ _ _ (by rw[JG,List.drop_zero];omega),JG,List.drop_zero,List.take_of_length_le Qe];simp only[hbeq,Qr,Nat.ble_eq_true_of_le hb,Q7,QI,Ju,J8,JX,JL,Nat.add_zero]
 ·have hg: ∀x C,(st.h.set c C).get x=if x=c then some C else st.h.get x:=fun x C=>Tr.Z3 _ _ _ _
  refine hM.qU hk ⟨fun x hx=>?_,Nat.le_refl _,fun x hx hX=>?_⟩ ⟨vs,_,(hg _ _).trans (if_pos rfl),?_⟩
  ·show(st.h.set c _).get x=none;have:=hM.lt c m l hm0;have hx:st.n≤x:=hx;rw[hg,if_neg Qe];exact hM.fresh x hx
  ·show(st.h.set c _).get x=_;rw[hg,if_neg (by simpa using hX)]
  ·rw[List.getElem?_append_right (by rw[Jj];exact Nat.le_refl _),Jj,Nat.sub_self];rfl
variable {K:List (Nat×AV)}
theorem Zu{x y:Operand}{tys:Array TypeId}{u w v:AV}{st1:St}(ht:tys= #[t,t])(hx:QD G K x=some u)(hy:QD G K y=some w)(h:Up P [t,t] u w st=some (v,st1)):Uf P G K (.call {callee:=.builtin .append,args:= #[x,y],argTypes:=tys}) st v st1:=.of fun T hT c d ty pos af g=>by
 subst ht;show(ob (QU G T x) fun a=>ob (QU G T y) fun b=>Up P [t,t] a b st)=_;rw[hT.QU hx,hT.QU hy,Qk,Qk,h]
theorem CH(T:AA P t e z){s x:AV}(hs:(match s with|.nils=>true|.sl _ _ _ _ _=>true|_=>false)=true)(hx:(match x with|.nils=>true|.sl0 _ _ _=>true|.slz _ _ _ _ _=>true|_=>false)=true):Up P [t,t] s x st=some (s,st):=by
 obtain⟨zc,hz,hzl⟩:=T.zc;unfold Up;simp only[Nat.beq_refl,Q7,T.u,T.s,hz,Qk,J8,hzl,T.c,Nat.ble_eq_true_of_le T.p,Nat.ble_eq_true_of_le T.b]
 cases x<;>first
  |(cases hx;done)
  |(cases s<;>first|rfl|(cases hs;done))
theorem Gx(T:AA P t e z)(hr2:UU st.h.get c2 m2 l2)(hle:Jd≤l2.length):Up P [t,t] .nils (.sl c2 m2 Jd 0 z2) st=some (.nils,st):=by
 obtain⟨_,_,_,_,h,_⟩:=Xl T (s:=.nils) (n:=0) (z2:=z2) hr2 (by simpa using hle);rw[h];rfl
theorem Gw(T:AA P t e z)(hr:Qw st.h.get c m l)(hl:l.length=len *z)(hr2:UU st.h.get c2 m2 l2)(hle:Jd≤l2.length):Up P [t,t] (.sl c m 0 len z) (.sl c2 m2 Jd 0 z2) st=some (.sl c m 0 len z,st):=by
 obtain⟨_,_,_,_,h,_⟩:=Xl T (s:=.sl c m 0 len z) (n:=0) (z2:=z2) hr2 (by simpa using hle);rw[h];obtain⟨vs,ms,h1,h2⟩:=hr
 have hr:rowOf st.h.get c m=some (l.length,vs,l,false,ms):=by
  unfold rowOf;rw[h1,Qk];show ob (nth ms m) _=_;rw[JP,h2];rfl
 simp only[T.c,Nat.beq_refl,Q7,hr,Qk,Bool.not_false,QI];rw[Vv _ _ _ (by rw[JG,List.drop_zero];omega)];rfl

theorem QE.parts{T:Tr AV}(h:QE K T){parts:Array (Nat×Operand)}{ps:List (Nat×AV)}(hp:Yv (QD G K) parts=some ps):Yv (Proofs.YtildagdnomiahaaGreatDoor.QU G T) parts=some ps:=by
 unfold Yv at hp ⊢;generalize parts.toList=l at hp ⊢
 induction l generalizing ps with
 |nil=>exact hp
 |cons x l ih=>
  rw[J7]at hp ⊢;obtain⟨b,hb,hp⟩:=Qi hp;obtain⟨t,ht,hp⟩:=Qi hp;obtain⟨v,hv,hb⟩:=Qi hb;rw[h.QU hv,Qk,Qk,ih ht,Qk]
  injection hb with hb
  subst hb;exact hp
structure Py(P:Program)(t:TypeId)(tbl:List (Nat×Nat))(z:List AV):Prop where
 u: ∃fs,P.underlying t=some (.struct fs)∧HN P fs=true∧fs.toList.map (fun f=>(f.offset,P.cellsOf f.type))=tbl
 z:zeroOf P t=some z
theorem Sa(fs:Array Field)(tbl:List (Nat×Nat))(h:fs.toList.map (fun f=>(f.offset,P.cellsOf f.type))=tbl):Kh P fs=nth tbl:=by
 funext i
 subst h;unfold Kh;rw[JP,JP,List.getElem?_map]
 cases fs.toList[i]? <;>rfl
theorem AT{parts:Array (Nat×Operand)}{tbl:List (Nat×Nat)}{z r:List AV}{ps:List (Nat×AV)}(S:Py P t tbl z)(hp:Yv (QD G K) parts=some ps)(hf:ZM (nth tbl) ps z=some r):Uf P G K (.build t parts) st (.agg r) st:=.of fun T hT c d ty pos af g=>by
 show ret (Vc P t parts (QU G T)) st=_;obtain⟨fs,u,ft,hb⟩:=S.u;unfold Vc;simp only[u,ft,Q7,S.z,Qk,hT.parts hp,Sa fs tbl hb,hf,Ju];rfl
theorem EK{parts:Array (Nat×Operand)}{zc r:List AV}{ps:List (Nat×AV)}(T:AA P t e z)(hz:zeroOf P e=some zc)(hp:Yv (QD G K) parts=some ps)(hf:ZM (fun i=>some (i *z,z)) ps (Xf len zc)=some r)(hc:Xm Qu r=true)(hb:len *z≤16777216)(hM:Mem h0 n0 X st M):
  ∃c st1,Uf P G K (.buildSlice t len parts) st (.sl c 0 0 len z) st1∧Mem h0 n0 X st1 ((c,0,r)::M):=by
 refine⟨st.n,_,.of fun T' hT c d ty pos af g=>?_,hM.alloc r⟩;show YR P t len parts (QU G T') st=_;obtain⟨zc',h1,h2⟩:=T.zc;rw[hz]at h1
 injection h1 with h1
 subst h1;unfold YR;simp only[T.u,T.s,Q7,hz,Qk,J8,h2,T.c,Nat.beq_refl,Nat.ble_eq_true_of_le T.p,Nat.ble_eq_true_of_le hb,hT.parts hp,hf,hc,Uh,QI]

end

structure Je(h:Hp)(X:List Nat)(z:Nat)(ls:List (List AV))(ks:AV):Prop where
 len:JU ks=some ls.length
 EA:(ls.length:Int)≤9223372036854775807
 cell:Qu ks=true
 at_: ∀(i:Nat) (cs:List AV),ls[i]? =some cs→ ∃c m off cells,ks=.sl c m off ls.length z∧c∉X∧UU h c m cells∧cs.length=z∧(cells.drop (off+i *z)).take z=cs
 alive: ∀(c m off n z':Nat),ks=.sl c m off n z'→c∉X∧ ∃cells,UU h c m cells∧off+n *z≤cells.length
theorem Je.mem{h0:Hp}{n0:Nat}{X:List Nat}{st:St}{M:List (Nat×Nat×List AV)}(hM:Mem h0 n0 Y st M)(r:Je h0 X z ls ks)(hY: ∀c∈Y,c∈X):Je st.h.get X z ls ks:=
 ⟨r.len,r.EA,r.cell,fun i cs hi=>by
  obtain⟨c,m,off,cells,h1,h2,h3,h4⟩:=r.at_ i cs hi
  exact⟨c,m,off,cells,h1,h2,hM.QY (fun hc=>h2 (hY c hc)) h3,h4⟩,fun c m off n z' e=>by
  obtain⟨h1,cells,h2,h3⟩:=r.alive c m off n z' e
  exact⟨h1,cells,hM.QY (fun hc=>h1 (hY c hc)) h2,h3⟩⟩
theorem Je.nil(h:Hp)(X:List Nat)(z:Nat):Je h X z [] .nils:=⟨rfl,by simp,rfl,fun i cs hi=>by simp at hi,fun _ _ _ _ _ e=>by cases e⟩
theorem WQ: ∀{ls:List (List AV)},(∀cs∈ls,cs.length=z)→ls.flatten.length=ls.length *z:=by
 intro ls
 induction ls with
 |nil=>intro _;simp
 |cons a l ih=>
  intro h;rw[List.flatten_cons,List.length_append,ih fun cs hc=>h cs (List.mem_cons_of_mem _ hc),h a (List.mem_cons_self ..),List.length_cons,Nat.succ_mul,Nat.add_comm]
theorem SM: ∀{ls:List (List AV)} (i:Nat) (cs:List AV),(∀cs∈ls,cs.length=z)→ls[i]? =some cs→(ls.flatten.drop (i *z)).take z=cs:=by
 intro ls
 induction ls with
 |nil=>intro i cs _ h;simp at h
 |cons a l ih=>
  intro i cs hz hi;have ha:=hz a (List.mem_cons_self ..)
  cases i with
  |zero=>
   simp at hi;subst hi;rw[Nat.zero_mul,List.drop_zero,List.flatten_cons,List.take_append_of_le_length Qe,List.take_of_length_le Qe]
  |succ i=>
   rw[Nat.succ_mul,Nat.add_comm,List.flatten_cons,←List.drop_drop,←ha,List.drop_left];rw[ha];exact ih i cs (fun cs hc=>hz cs (List.mem_cons_of_mem _ hc)) (by simpa using hi)
theorem Je.own{X:List Nat}(r:Qw h c m ls.flatten)(hz: ∀cs∈ls,cs.length=z)(hX:c∉X)(hb:(ls.length:Int)≤9223372036854775807):Je h X z ls (.sl c m 0 ls.length z):=
 ⟨rfl,hb,rfl,fun i cs hi=>⟨c,m,0,_,rfl,hX,r.QF,hz cs (List.mem_of_getElem? hi),by rw[Nat.zero_add];exact SM i cs hz hi⟩,fun c' m' off n z' e=>by
  injection e with e1 e2 e3 e4 e5
  subst e1 e2 e3 e4 e5
  exact⟨hX,_,r.QF,by rw[WQ hz];omega⟩⟩
theorem Je.load{P:Program}{X:List Nat}(r:Je h X z ls ks){i:Nat}{cs:List AV}(hi:ls[i]? =some cs): ∃c m off,ks=.sl c m off ls.length z∧c∉X∧
  (∀t,tk P t=.agg z→QN P t (.ptr c m (off+i *z)) h=some (.agg cs))∧(∀t j v,tk P t=.one→cs[j]? =some v→QN P t (.ptr c m (off+i *z+j)) h=some v)∧
  ∀t j n,tk P t=.agg n→j+n≤z→QN P t (.ptr c m (off+i *z+j)) h=some (.agg ((cs.drop j).take n)):=by
 obtain⟨c,m,off,cells,h1,h2,⟨ro,e,vs,ms,h3,h4⟩,h5,h6⟩:=r.at_ i cs hi
 have hld: ∀t o,QN P t (.ptr c m o) h=ZZ P t cells o:=fun t o=>by
  show ob (rowOf h c m) _=_;unfold rowOf;rw[h3,Qk];show ob (ob (nth ms m) _) _=_;rw[JP,h4];rfl
 have hlen:off+i *z+z≤cells.length∨z=0:=by
  rw[←h6,List.length_take,List.length_drop]at h5;omega
 refine⟨c,m,off,h1,h2,fun t ht=>?_,fun t j v ht hv=>?_,fun t j n ht hj=>?_⟩
 ·rw[hld];refine Jc ht ?_;rw[Vv _ _ _ (by rw[JG,List.length_drop];omega),JG,h6]
 ·rw[hld];refine Qc ht ?_
  have hj:j<z:=by rw[←h5];exact(List.getElem?_eq_some_iff.1 hv).1
  rw[JP,←List.getElem?_drop];rw[←h6,List.getElem?_take,if_pos hj]at hv;exact hv
 ·rw[hld];refine Jc ht ?_;rw[Vv _ _ _ (by rw[JG,List.length_drop];omega),JG,←List.drop_drop,←h6,List.drop_take,List.take_take,Nat.min_eq_left Qe]
theorem Je.MM{P:Program}{h':Hp}{X:List Nat}(r:Je h X z ls ks)(r':Je h' Y z ls ks){i:Nat}{cs:List AV}(hi:ls[i]? =some cs): ∃c m off,ks=.sl c m off ls.length z∧c∉X∧
  (∀t,tk P t=.agg z→QN P t (.ptr c m (off+i *z)) h=some (.agg cs))∧(∀t j v,tk P t=.one→cs[j]? =some v→QN P t (.ptr c m (off+i *z+j)) h=some v)∧
  (∀t j n,tk P t=.agg n→j+n≤z→QN P t (.ptr c m (off+i *z+j)) h=some (.agg ((cs.drop j).take n)))∧
  (∀t,tk P t=.agg z→QN P t (.ptr c m (off+i *z)) h'=some (.agg cs))∧(∀t j v,tk P t=.one→cs[j]? =some v→QN P t (.ptr c m (off+i *z+j)) h'=some v)∧
  (∀t j n,tk P t=.agg n→j+n≤z→QN P t (.ptr c m (off+i *z+j)) h'=some (.agg ((cs.drop j).take n))):=by
 obtain⟨c,m,off,e,hX,h1,h2,h3⟩:=r.load (P:=P) hi;obtain⟨c',m',off',e',_,k1,k2,k3⟩:=r'.load (P:=P) hi;rw[e]at e'
 injection e' with e1 e2 e3
 subst e1 e2 e3;exact⟨c,m,off,e,hX,h1,h2,h3,k1,k2,k3⟩
end
section
open Go Go.RowKit

theorem HR.under{w0:World}{p:QX}{h:Hp}{w:World}(H:HR w0 p h w):Below w0.heap.size w0 w:=⟨H.os,H.tape,H.output,H.size,H.J0⟩

def Real(P:Program)(f:FuncId):Prop:= ∃fn,P.funcs[f]? =some fn∧fn.body.isSome=true∧(fn.name== "runtime.NumGoroutine")=false
noncomputable def HJ(l:List (FuncId×(List AV→St→Option (AV×St))))(f:FuncId):Option (List AV→St→Option (AV×St)):=List.rec none (fun q _ ih=>Ql (Nat.beq f q.1) (some q.2) ih) l
theorem NM{l:List (FuncId×(List AV→St→Option (AV×St)))}{f:FuncId}{q:List AV→St→Option (AV×St)}(h:HJ l f=some q):(f,q)∈l:=by
 induction l with
 |nil=>cases h
 |cons x l ih=>
  have h:Ql (Nat.beq f x.1) (some x.2) (HJ l f)=some q:=h
  cases hb:Nat.beq f x.1 with
  |true=>
   rw[hb]at h
   injection h with h
   subst h;rw[Nat.eq_of_beq_eq_true hb];exact List.mem_cons_self ..
  |false=>rw[hb]at h;exact List.mem_cons_of_mem _ (ih h)
end
section
open Go
variable {Y:List Nat} {b pol:Bool} {c j m n off:Nat} {e t:TypeId} {ks2 u:AV} {l:List AV} {ls2:List (List AV)} {x y:Operand}

section
variable {P:Program} {G:Env} {N:Nat} {T:Tr AV} {st:St} {ops rest:List Oper} {K:List (Nat×AV)} {R:Tr AV→St→Prop} {d:Nat} {op:Op} {ty:TypeId} {pos:String} {af:Array Edge} {v:AV} {st1:St}
theorem o1(hK:QE K T)(h:Uf P G K op st v st1)(hN:Nat.ble (d+1) N=true)(hn: ∀T',QE ((d,v)::K) T'→WR P G N ops rest R T' st1):WR P G N ops (⟨some d,op,ty,pos,af,none⟩::rest) R T st:=Wk hK h (Nat.le_of_ble_eq_true hN) hn
theorem oB{x:Bool}(hK:QE K T)(h:Uf P G K op st (.bool x) st1)(hN:Nat.ble (d+1) N=true)(hn: ∀(b:Bool) T',x=b→QE ((d,.bool b)::K) T'→WR P G N ops rest R T' st1):WR P G N ops (⟨some d,op,ty,pos,af,none⟩::rest) R T st:=zx hK h (Nat.le_of_ble_eq_true hN) hn
theorem og{t:Nat}(hK:QE K T)(ht:U6 ops j=some t)(hb:K.lookup t=some (.bool pol))(h:Uf P G K op st v st1)(hN:Nat.ble (d+1) N=true)(hn: ∀T',QE ((d,v)::K) T'→WR P G N ops rest R T' st1):WR P G N ops (⟨some d,op,ty,pos,af,some (j,pol)⟩::rest) R T st:=yS hK ht hb h (Nat.le_of_ble_eq_true hN) hn
theorem ea{t:Nat}{x:Bool}(hK:QE K T)(ht:U6 ops j=some t)(hb:K.lookup t=some (.bool pol))(h:Uf P G K op st (.bool x) st1)(hN:Nat.ble (d+1) N=true)(hn: ∀(b:Bool) T',x=b→QE ((d,.bool b)::K) T'→WR P G N ops rest R T' st1):WR P G N ops (⟨some d,op,ty,pos,af,some (j,pol)⟩::rest) R T st:=yS hK ht hb h (Nat.le_of_ble_eq_true hN) (hn x · rfl)
theorem gn{t:Nat}(hK:QE K T)(ht:U6 ops j=some t)(hb:K.lookup t=some (.bool b))(hne:(b==pol)=false)(hN:Nat.ble (d+1) N=true)(hn: ∀T',QE ((d,.tup [])::K) T'→WR P G N ops rest R T' st):WR P G N ops (⟨some d,op,ty,pos,af,some (j,pol)⟩::rest) R T st:=vy hK ht hb hne (Nat.le_of_ble_eq_true hN) hn
end
section
variable {P:Program} {G:Env} {N:Nat} {st:St} {K:List (Nat×AV)} {T:Tr AV} {ops:List Oper} {r:List (Nat×Nat)} {R:Tr AV→St→Prop} {sn:List St} {i d:Nat} {op:Op} {ty:TypeId} {pos:String} {af:Array Edge} {v:AV} {st1:St}
theorem d1(ho:ops[i]? =some ⟨some d,op,ty,pos,af,none⟩)(hK:QE K T)(h:Uf P G K op st v st1)(hk:Nat.beq (Qy P op) 3=false)(hN:Nat.ble (d+1) N=true)(hn: ∀T',QE ((d,v)::K) T'→WD P G N ops (r.map (UI ops)) R T' st1 sn):WD P G N ops (((i,0)::r).map (UI ops)) R T st sn:=GB ho hK h hk (Nat.le_of_ble_eq_true hN) hn
theorem dA(ho:ops[i]? =some ⟨some d,op,ty,pos,af,none⟩)(hK:QE K T)(h:Uf P G K op st v st1)(hk:Nat.beq (Qy P op) 3=true)(hN:Nat.ble (d+1) N=true)(hn: ∀T',QE ((d,v)::K) T'→WD P G N ops (r.map (UI ops)) R T' st1 (st1::sn)):WD P G N ops (((i,0)::r).map (UI ops)) R T st sn:=Oq ho hK h hk (Nat.le_of_ble_eq_true hN) hn
theorem dB{x:Bool}(ho:ops[i]? =some ⟨some d,op,ty,pos,af,none⟩)(hK:QE K T)(h:Uf P G K op st (.bool x) st1)(hk:Nat.beq (Qy P op) 3=false)(hN:Nat.ble (d+1) N=true)(hn: ∀(b:Bool) T',x=b→QE ((d,.bool b)::K) T'→WD P G N ops (r.map (UI ops)) R T' st1 sn):WD P G N ops (((i,0)::r).map (UI ops)) R T st sn:=z6 ho hK h hk (Nat.le_of_ble_eq_true hN) hn
theorem dg{t:Nat}(ho:ops[i]? =some ⟨some d,op,ty,pos,af,some (j,pol)⟩)(hK:QE K T)(ht:U6 ops j=some t)(hb:K.lookup t=some (.bool pol))(h:Uf P G K op st v st1)(hk:Nat.beq (Qy P op) 3=false)(hN:Nat.ble (d+1) N=true)(hn: ∀T',QE ((d,v)::K) T'→WD P G N ops (r.map (UI ops)) R T' st1 sn):WD P G N ops (((i,0)::r).map (UI ops)) R T st sn:=yU ho hK ht hb h hk (Nat.le_of_ble_eq_true hN) hn
theorem eQ{t:Nat}{x:Bool}(ho:ops[i]? =some ⟨some d,op,ty,pos,af,some (j,pol)⟩)(hK:QE K T)(ht:U6 ops j=some t)(hb:K.lookup t=some (.bool pol))(h:Uf P G K op st (.bool x) st1)(hk:Nat.beq (Qy P op) 3=false)(hN:Nat.ble (d+1) N=true)(hn: ∀(b:Bool) T',x=b→QE ((d,.bool b)::K) T'→WD P G N ops (r.map (UI ops)) R T' st1 sn):WD P G N ops (((i,0)::r).map (UI ops)) R T st sn:=yU ho hK ht hb h hk (Nat.le_of_ble_eq_true hN) (hn x · rfl)
theorem G7{t:Nat}(ho:ops[i]? =some ⟨some d,op,ty,pos,af,some (j,pol)⟩)(hK:QE K T)(ht:U6 ops j=some t)(hb:K.lookup t=some (.bool b))(hne:(b==pol)=false)(hN:Nat.ble (d+1) N=true)(hn: ∀sn' T',QE ((d,.tup [])::K) T'→WD P G N ops (r.map (UI ops)) R T' st sn'):WD P G N ops (((i,n)::r).map (UI ops)) R T st sn:=vz ho hK ht hb hne (Nat.le_of_ble_eq_true hN) (fun T' sn'=>hn sn' T')
end

theorem Nx{ops:List Oper}{K:List (Nat×AV)}{T:Tr AV}{t:Nat}{d:Option Nat}{op:Op}{ty:TypeId}{pos:String}{af:Array Edge}(hK:QE K T)(ht:U6 ops j=some t)(hb:K.lookup t=some (.tup [])):JI ops ⟨d,op,ty,pos,af,some (j,pol)⟩ T=false:=by
 unfold JI;simp only[ht];rw[show U8 T t=.tup []from hK t _ hb]
theorem eP{P:Program}{G:Env}{N:Nat}{T:Tr AV}{st:St}{ops rest:List Oper}{K:List (Nat×AV)}{R:Tr AV→St→Prop}{d:Nat}{op:Op}{ty:TypeId}{pos:String}{af:Array Edge}{t:Nat}(hK:QE K T)(ht:U6 ops j=some t)(hb:K.lookup t=some (.tup []))(hN:Nat.ble (d+1) N=true)(hn: ∀T',QE ((d,.tup [])::K) T'→WR P G N ops rest R T' st):WR P G N ops (⟨some d,op,ty,pos,af,some (j,pol)⟩::rest) R T st:=by
 obtain⟨L',n',T',st',h1,h2⟩:=hn _ (hK.set d (.tup []));refine⟨L',n',T',st',?_,h2⟩;show(ob (JY P G _ ops _ T st) fun r=>VR N (some d) r.1 T fun T=>tl (EV P G _ N ops rest T r.2))=_;unfold JY;rw[Nx hK ht hb,Qr,Qk];show Q5 (Nat.ble (d+1) N) (T.put d (.tup []) _)=_;rw[hN,Tr.put_eq];exact h1
theorem Gh{P:Program}{G:Env}{N:Nat}{st:St}{K:List (Nat×AV)}{T:Tr AV}{ops:List Oper}{r:List (Nat×Nat)}{R:Tr AV→St→Prop}{sn:List St}{i d:Nat}{op:Op}{ty:TypeId}{pos:String}{af:Array Edge}{t:Nat}(ho:ops[i]? =some ⟨some d,op,ty,pos,af,some (j,pol)⟩)(hK:QE K T)(ht:U6 ops j=some t)(hb:K.lookup t=some (.tup []))(hN:Nat.ble (d+1) N=true)(hn: ∀sn' T',QE ((d,.tup [])::K) T'→WD P G N ops (r.map (UI ops)) R T' st sn'):WD P G N ops (((i,n)::r).map (UI ops)) R T st sn:=by
 rw[Yy ho];obtain⟨L',n',T',st',h1,h2⟩:=hn (Ql (Nat.beq (Qy P op) 3) (st::sn) sn) _ (hK.set d (.tup []));refine⟨L',n',T',st',?_,h2⟩
 show(ob (JY P G _ ops _ T st) fun r=>Q5 (Ql (JI ops _ T) (again P G _ T r.1 n (List.rec [] (fun _ t _=>t) sn)) true)
  (VR N (some d) r.1 T fun T=>tl (W8 P G _ N ops _ T r.2 (Ql (Nat.beq (Qy P op) 3) (r.2::sn) sn))))=_
 unfold JY;rw[Nx hK ht hb,Qr,Qk,Qr,Q7];show Q5 (Nat.ble (d+1) N) (T.put d (.tup []) _)=_;rw[hN,Tr.put_eq];exact h1

section
variable {P:Program} {G:Env} {N:Nat} {T:Tr AV} {st:St} {ops rest:List Oper} {K:List (Nat×AV)} {R:Tr AV→St→Prop} {d:Nat} {ty:TypeId} {pos:String} {af:Array Edge} {h0:Hp} {n0:Nat} {X:List Nat} {M:List (Nat×Nat×List AV)}
theorem Vn{len z:Nat}{parts:Array (Nat×Operand)}{zc r:List AV}{ps:List (Nat×AV)}(hK:QE K T)(hM:Mem h0 n0 X st M)(S:AA P t e z)(hz:zeroOf P e=some zc)(hp:Yv (QD G K) parts=some ps)(hf:ZM (fun i=>some (i *z,z)) ps (Xf len zc)=some r)(hc:Xm Qu r=true)(hb:Nat.ble (len *z) 16777216=true)(hN:Nat.ble (d+1) N=true)
  (hn: ∀(c:Nat) T' st',QE ((d,.sl c 0 0 len z)::K) T'→Mem h0 n0 X st' ((c,0,r)::M)→WR P G N ops rest R T' st'):WR P G N ops (⟨some d,.buildSlice t len parts,ty,pos,af,none⟩::rest) R T st:=by
 obtain⟨c,st1,h1,h2⟩:=EK (G:=G) S hz hp hf hc (Nat.le_of_ble_eq_true hb) hM;exact Wk hK h1 (Nat.le_of_ble_eq_true hN) fun T' hT'=>hn c T' st1 hT' h2
theorem H2{sn:List St}{i:Nat}{rr:List (Nat×Nat)}{len z:Nat}{parts:Array (Nat×Operand)}{zc r:List AV}{ps:List (Nat×AV)}(ho:ops[i]? =some ⟨some d,.buildSlice t len parts,ty,pos,af,none⟩)(hK:QE K T)(hM:Mem h0 n0 X st M)(S:AA P t e z)(hz:zeroOf P e=some zc)(hp:Yv (QD G K) parts=some ps)(hf:ZM (fun i=>some (i *z,z)) ps (Xf len zc)=some r)(hc:Xm Qu r=true)(hb:Nat.ble (len *z) 16777216=true)(hN:Nat.ble (d+1) N=true)
  (hn: ∀(c:Nat) T' st',QE ((d,.sl c 0 0 len z)::K) T'→Mem h0 n0 X st' ((c,0,r)::M)→WD P G N ops (rr.map (UI ops)) R T' st' sn):WD P G N ops (((i,0)::rr).map (UI ops)) R T st sn:=by
 obtain⟨c,st1,h1,h2⟩:=EK (G:=G) S hz hp hf hc (Nat.le_of_ble_eq_true hb) hM;exact GB ho hK h1 rfl (Nat.le_of_ble_eq_true hN) fun T' hT'=>hn c T' st1 hT' h2
theorem z7{sn:List St}{i:Nat}{rr:List (Nat×Nat)}{v:AV}(ho:ops[i]? =some ⟨some d,.box t x,ty,pos,af,none⟩)(hK:QE K T)(hM:Mem h0 n0 X st M)(hx:QD G K x=some v)(hc:Xm Qu (QJ v)=true)(hN:Nat.ble (d+1) N=true)
  (hn: ∀(c:Nat) T' st',QE ((d,.ptr c 0 0)::K) T'→Mem h0 n0 X st' ((c,0,QJ v)::M)→WD P G N ops (rr.map (UI ops)) R T' st' sn):WD P G N ops (((i,0)::rr).map (UI ops)) R T st sn:=by
 refine GB (v:=.ptr st.n 0 0) (st1:=⟨st.n+1,st.h.set st.n (.row false [((QJ v).length,0,some (QJ v))])⟩) ho hK (.of fun T hT c d ty pos af g=>?_) rfl (Nat.le_of_ble_eq_true hN) fun T' hT'=>hn st.n T' _ hT' (hM.alloc _);show(ob (QU G T x) fun x=>Pp x st)=_;rw[hT.QU hx,Qk];unfold Pp;rw[hc,Q7,Uh]
end

inductive Acc(n0 z:Nat):List (Nat×Nat×List AV)→AV→List (List AV)→Prop
 |none:Acc n0 z [] .nils []
 |own {c m:Nat} {ls:List (List AV)} (hc:n0≤c) (hz: ∀cs∈ls,cs.length=z) (hb:ls.length≤1000000000):Acc n0 z [(c,m,ls.flatten)] (.sl c m 0 ls.length z) ls
theorem Acc.less{n0 n1 z:Nat}{A:List (Nat×Nat×List AV)}{ks:AV}{ls:List (List AV)}(h:Acc n0 z A ks ls)(hn:n1≤n0):Acc n1 z A ks ls:=by
 cases h with
 |none=>exact .none
 |own hc hz hb=>exact .own (Nat.le_trans hn hc) hz hb
theorem Acc.len{n0 z:Nat}{A:List (Nat×Nat×List AV)}{ks:AV}{ls:List (List AV)}(h:Acc n0 z A ks ls):JU ks=some ls.length:=by cases h<;>rfl
theorem Acc.cell{n0 z:Nat}{A:List (Nat×Nat×List AV)}{ks:AV}{ls:List (List AV)}(h:Acc n0 z A ks ls):Qu ks=true:=by cases h<;>rfl
theorem Acc.EA{n0 z:Nat}{A:List (Nat×Nat×List AV)}{ks:AV}{ls:List (List AV)}(h:Acc n0 z A ks ls):ls.length≤1000000000:=by
 cases h with
 |none=>exact Nat.zero_le _
 |own hc hz hb=>exact hb
section
variable {P:Program} {G:Env} {N:Nat} {h0:Hp} {n0:Nat} {X:List Nat} {st:St} {M L A B:List (Nat×Nat×List AV)} {z:Nat} {ks:AV} {ls:List (List AV)}
theorem Mem.perm(h:Mem h0 n0 X st M){M':List (Nat×Nat×List AV)}(p:M.Perm M'):Mem h0 n0 X st M':=
 ⟨h.fresh,h.le,h.base,fun c m l hm=>h.row c m l (p.mem_iff.2 hm),fun c m l hm=>h.lt c m l (p.mem_iff.2 hm),fun c m l hm=>h.own c m l (p.mem_iff.2 hm),(p.map _).nodup_iff.1 h.nodup,h.J0⟩
theorem Mem.cast(h:Mem h0 n0 X st M){M':List (Nat×Nat×List AV)}(e:M=M'):Mem h0 n0 X st M':=e▸h
theorem Mem.Zj(hM:Mem h0 n0 X st (L++(A++B))){n1:Nat}(hA:Acc n1 z A ks ls):Je st.h.get [] z ls ks:=by
 cases hA with
 |none=>exact .nil _ _ _
 |own hc hz hb=>
  rename_i c m;exact Je.own (hM.row c m _ Qx) hz Qx Qe
theorem O5(L B:List (Nat×Nat×List AV))(a b:Nat×Nat×List AV):(L++([a]++B)).set L.length b=L++([b]++B):=by
 rw[List.set_append_right _ _ (Nat.le_refl _),Nat.sub_self];rfl
theorem Gc(L B:List (Nat×Nat×List AV))(a:Nat×Nat×List AV):(L++([a]++B))[L.length]? =some a:=by
 rw[List.getElem?_append_right (Nat.le_refl _),Nat.sub_self];rfl
theorem Mem.ve(hM:Mem h0 n0 X st (L++(A++B)))(hA:Acc n0 z A ks ls)(T:AA P t e z)(hy:Je st.h.get Y z ls2 ks2)(hz2: ∀cs∈ls2,cs.length=z)(hb:ls.length+ls2.length≤1000000000):
  ∃ks' A' st1,Up P [t,t] ks ks2 st=some (ks',st1)∧Acc n0 z A' ks' (ls++ls2)∧Mem h0 n0 X st1 (L++(A'++B)):=by
 have hzz: ∀cs∈ls++ls2,cs.length=z:=fun cs hc=>by
  rcases List.mem_append.1 hc with hc|hc
  ·cases hA with
   |none=>cases hc
   |own h1 h2 h3=>exact h2 cs hc
  ·exact hz2 cs hc
 have hl2:=hy.len
 cases ls2 with
 |nil=>
  rw[List.append_nil];refine⟨ks,A,st,?_,hA,hM⟩
  cases ks2<;>first
   |(cases hl2;done)
   |(refine CH T ?_ rfl;cases hA<;>rfl)
   |skip
  rename_i c2 m2 Jd n2 z2
  injection hl2 with hl2
  have hl2:n2=0:=hl2;subst hl2;obtain⟨_,cells,h1,h2⟩:=hy.alive _ _ _ _ _ rfl
  cases hA with
  |none=>exact Gx T h1 Qe
  |own h3 h4 h5=>
   rename_i c m;exact Gw T (hM.row c m _ Qx) (WQ h4) h1 Qe
 |cons x ls2=>
  obtain⟨c2,m2,Jd,cells0,rfl,_,_,_,_⟩:=hy.at_ 0 x rfl;obtain⟨_,cells,hr2,hle⟩:=hy.alive _ _ _ _ _ rfl
  have hrow:(cells.drop Jd).take ((x::ls2).length *z)=(x::ls2).flatten:=by
   apply List.ext_getElem?;intro j;rw[List.getElem?_take]
   split
   ·rename_i hj;rw[List.getElem?_drop];have hz0:0<z:=T.p;have hjd:j/z<(x::ls2).length:=Nat.div_lt_of_lt_mul (by rw[Nat.mul_comm];exact hj);obtain⟨cs,hcs⟩: ∃cs,(x::ls2)[j/z]? =some cs:=⟨_,List.getElem?_eq_getElem hjd⟩;obtain⟨c',m',off',cells',e,_,hr',h5,h6⟩:=hy.at_ _ _ hcs
    injection e with e1 e2 e3
    subst e1 e2 e3
    have:cells'=cells:=by
     obtain⟨a1,b1,d1,g1,i1,j1⟩:=hr';obtain⟨a2,b2,d2,g2,i2,j2⟩:=hr2;rw[i1]at i2
     injection i2 with i2
     injection i2 with i2 i3
     subst i3;rw[j1]at j2
     injection j2 with j2
     injection j2 with _ j2
     injection j2 with _ j2
     injection j2
    subst this;rw[HI hz0 _ hz2,hcs];show _=cs[j % z]?;rw[←h6,List.getElem?_take,if_pos (Nat.mod_lt _ hz0),List.getElem?_drop]
    congr 1
    have:=Nat.div_add_mod j z;rw[Nat.mul_comm]at this;omega
   ·rename_i hj;rw[List.getElem?_eq_none];rw[WQ hz2];omega
  cases hA with
  |none=>
   have ha:=append_nil (P:=P) (st:=st) T (z2:=z) hr2 hle Qx (by simpa using hb);refine⟨_,[(st.n,0,(x::ls2).flatten)],_,ha,?_,?_⟩
   ·exact .own hM.le hzz (by simpa using hb)
   ·rw[hrow];have:=hM.alloc (x::ls2).flatten;refine this.perm ?_;exact(List.perm_middle (l₁:=L) (l₂:=B)).symm
  |own h3 h4 h5=>
   rename_i c m;obtain⟨m',st1,h6,h7,_⟩:=hM.append T (z2:=z) (Gc L B _) (WQ h4) hr2 hle Qx hb;refine⟨_,[(c,m',(ls++x::ls2).flatten)],st1,h6,?_,?_⟩
   ·rw[←List.length_append];exact .own h3 hzz (by rw[List.length_append];exact hb)
   ·rw[O5,hrow]at h7;rw[List.flatten_append];exact h7
theorem Mem.VJ(hM:Mem h0 n0 X st (L++(A++B)))(hA:Acc n0 z A ks ls)(T:AA P t e z){k2 c2 m2:Nat}{l2:List AV}(hk:(L++(A++B))[k2]? =some (c2,m2,l2))(hl:l2.length=z)(hb:ls.length+1≤1000000000):
  ∃ks' A' st1,Up P [t,t] ks (.sl c2 m2 0 1 z) st=some (ks',st1)∧Acc n0 z A' ks' (ls++[l2])∧Mem h0 n0 X st1 (L++(A'++B)):=by
 have hr:=hM.Uc hk;have:Je st.h.get [] z [l2] (.sl c2 m2 0 [l2].length z):=Je.own (by simpa using hr) (by simpa using hl) Qx Qx;exact hM.ve hA T this (by simpa using hl) (by simpa using hb)
variable {T:Tr AV} {ops rest:List Oper} {K:List (Nat×AV)} {R:Tr AV→St→Prop} {d:Nat} {ty:TypeId} {pos:String} {af:Array Edge}
theorem jG{c2 m2 k2:Nat}{l2:List AV}(hK:QE K T)(hM:Mem h0 n0 X st (L++(A++B)))(hA:Acc n0 z A ks ls)(S:AA P t e z)(hx:QD G K x=some ks)(hy:QD G K y=some (.sl c2 m2 0 1 z))(hk:(L++(A++B))[k2]? =some (c2,m2,l2))(hl:l2.length=z)(hb:ls.length+1≤1000000000)(hN:Nat.ble (d+1) N=true)
  (hn: ∀(ks':AV) A' T' st',QE ((d,ks')::K) T'→Acc n0 z A' ks' (ls++[l2])→Mem h0 n0 X st' (L++(A'++B))→WR P G N ops rest R T' st'):WR P G N ops (⟨some d,.call {callee:=.builtin .append,args:= #[x,y],argTypes:= #[t,t]},ty,pos,af,none⟩::rest) R T st:=by
 obtain⟨ks',A',st1,h1,h2,h3⟩:=hM.VJ hA S hk hl hb;exact Wk hK (Zu rfl hx hy h1) (Nat.le_of_ble_eq_true hN) fun T' hT'=>hn ks' A' T' st1 hT' h2 h3
theorem P5(hK:QE K T)(hM:Mem h0 n0 X st (L++(A++B)))(hA:Acc n0 z A ks ls)(S:AA P t e z)(hx:QD G K x=some ks)(hy:QD G K y=some ks2)(hr:Je st.h.get Y z ls2 ks2)(hz2: ∀cs∈ls2,cs.length=z)(hb:ls.length+ls2.length≤1000000000)(hN:Nat.ble (d+1) N=true)
  (hn: ∀(ks':AV) A' T' st',QE ((d,ks')::K) T'→Acc n0 z A' ks' (ls++ls2)→Mem h0 n0 X st' (L++(A'++B))→WR P G N ops rest R T' st'):WR P G N ops (⟨some d,.call {callee:=.builtin .append,args:= #[x,y],argTypes:= #[t,t]},ty,pos,af,none⟩::rest) R T st:=by
 obtain⟨ks',A',st1,h1,h2,h3⟩:=hM.ve hA S hr hz2 hb;exact Wk hK (Zu rfl hx hy h1) (Nat.le_of_ble_eq_true hN) fun T' hT'=>hn ks' A' T' st1 hT' h2 h3
theorem jM{sn:List St}{i:Nat}{rr:List (Nat×Nat)}(ho:ops[i]? =some ⟨some d,.call {callee:=.builtin .append,args:= #[x,y],argTypes:= #[t,t]},ty,pos,af,none⟩)(hK:QE K T)(hM:Mem h0 n0 X st (L++(A++B)))(hA:Acc n0 z A ks ls)(S:AA P t e z)(hx:QD G K x=some ks)(hy:QD G K y=some ks2)(hr:Je st.h.get Y z ls2 ks2)(hz2: ∀cs∈ls2,cs.length=z)(hb:ls.length+ls2.length≤1000000000)(hN:Nat.ble (d+1) N=true)
  (hn: ∀(ks':AV) A' T' st',QE ((d,ks')::K) T'→Acc n0 z A' ks' (ls++ls2)→Mem h0 n0 X st' (L++(A'++B))→WD P G N ops (rr.map (UI ops)) R T' st' (st'::sn)):WD P G N ops (((i,0)::rr).map (UI ops)) R T st sn:=by
 obtain⟨ks',A',st1,h1,h2,h3⟩:=hM.ve hA S hr hz2 hb;exact Oq ho hK (Zu rfl hx hy h1) rfl (Nat.le_of_ble_eq_true hN) fun T' hT'=>hn ks' A' T' st1 hT' h2 h3

def F9(st st':St)(z:Nat)(ks:AV)(ls:List (List AV)):Prop:= ∃A,Acc st.n z A ks ls∧ ∀c m l,(c,m,l)∈A→Qw st'.h.get c m l
theorem Mem.Y7(h:Mem h0 n0 X st M){st':St}(q:Qt st st')(r:F9 st st' z ks ls): ∃A,Acc n0 z A ks ls∧Mem h0 n0 X st' (M++(A++[])):=by
 obtain⟨A,hA,hr⟩:=r;refine⟨A,hA.less h.le,?_⟩
 cases hA with
 |none=>simpa using h.quiet q
 |own hc hz hb=>
  have:=h.Ru q (hr _ _ _ (List.mem_singleton.2 rfl)) hc;exact this.perm (by simpa using(List.perm_middle (l₁:=M) (l₂:=[])).symm)
theorem Mem.uS{st0 st':St}(h:Mem st0.h.get st0.n X st' (L++(A++B)))(hA:Acc st0.n z A ks ls):F9 st0 st' z ks ls:=⟨A,hA,fun c m l hm=>h.row c m l (by simp[hm])⟩
theorem v7{Q:Ex→Tr AV→St→Prop}{a b:Code}{J:Tr AV→St→Prop}(h:W P G N a (IN J Q) T st)(hb: ∀T st,J T st→W P G N b Q T st):W P G N (.seq a b) Q T st:=
 Z7 (T7 h fun x T st hx=>by
  cases x with
  |nor=>exact hb T st hx
  |exit i=>exact hx
  |ret=>exact hx)
theorem Qp{h:Hp}{cells:List AV}{v:AV}(hr:UU h c m cells)(hp:ZZ P t cells off=some v):QN P t (.ptr c m off) h=some v:=by
 obtain⟨e,vs,ro,ms,h1⟩:=hr.rowOf;show ob (rowOf h c m) _=_;rw[h1];exact hp
theorem PM{yt:TypeId}{k:IntKind}{a b c:Int}(hx:QD G K x=some (.int k a))(hy:QD G K y=some (.int k b))(hw:k.wrap (a *b)=c):Uf P G K (.binOp .mul t x y yt) st (.int k c) st:=
 U2 hx hy (by rw[XB Q8 Q8];show Xd (ZX k (a *b)) (fun z=>some (AV.int k z))=_;rw[UY,Uj,hw])
theorem Q9:Xm Qu ([]:List AV)=true:=rfl
theorem Qa{a:AV}(h1:Qu a=true)(h2:Xm Qu l=true):Xm Qu (a::l)=true:=by
 show Ql (Qu a) (Xm Qu l) false=true;rw[h1,h2];rfl
theorem Ln{v:AV}(h:Qu v=true):Xm Qu (QJ v)=true:=by
 cases v<;>first|rfl|cases h
theorem Xr{v:AV}(h:Qu v=true):QJ v=[v]:=by
 cases v<;>first|rfl|cases h
theorem J6{ty:TypeId}{pos:String}{af:Array Edge}{w:AV}{k:Nat}{l':List AV}(hK:QE K T)(hM:Mem h0 n0 X st M)(hx:QD G K x=some (.ptr c m off))(hy:QD G K y=some w)(hk:M[k]? =some (c,m,l))(hz:UH P t=some 1)(hc:Qu w=true)(ho:Yu [w] off l=some l')
  (hr: ∀st',Mem h0 n0 X st' (M.set k (c,m,l'))→WR P G N ops rest R T st'):WR P G N ops (⟨none,.store t x y,ty,pos,af,none⟩::rest) R T st:=
 J9 hK hM hx hy hk hz (by rw[Xr hc];rfl) (Ln hc) (by rw[Xr hc];exact ho) hr
theorem Xo{sn:List St}{i:Nat}{rr:List (Nat×Nat)}{ty:TypeId}{pos:String}{af:Array Edge}{w:AV}{k:Nat}{l':List AV}(ho':ops[i]? =some ⟨none,.store t x y,ty,pos,af,none⟩)(hK:QE K T)(hM:Mem h0 n0 X st M)(hx:QD G K x=some (.ptr c m off))(hy:QD G K y=some w)(hk:M[k]? =some (c,m,l))(hz:UH P t=some 1)(hc:Qu w=true)(ho:Yu [w] off l=some l')
  (hr: ∀st',Mem h0 n0 X st' (M.set k (c,m,l'))→WD P G N ops (rr.map (UI ops)) R T st' (st'::sn)):WD P G N ops (((i,0)::rr).map (UI ops)) R T st sn:=
 AI ho' hK hM hx hy hk hz (by rw[Xr hc];rfl) (Ln hc) (by rw[Xr hc];exact ho) hr
theorem Of{P:Program}{G:Env}{T:Tr AV}{v u:AV}{t:TypeId}{x:Operand}{d:Option Nat}{ty:TypeId}{pos:String}{af:Array Edge}{g:Option (Nat×Bool)}(hx:QU G T x=some u)(he:Np v v=true): ∀(n:Nat) (l:List St),n≤l.length→(∀s∈l.take n,QN P t u s.h.get=some v)→again P G ⟨d,.load t x,ty,pos,af,g⟩ T v n l=true
 |0,l,_,_=>rfl
 |n+1,[],h,_=>by simp at h
 |n+1,s::l,h,ha=>by
  have ih:=Of (d:=d) (ty:=ty) (pos:=pos) (af:=af) (g:=g) hx he n l (by simpa using h) (fun s' hs=>ha s' (by rw[List.take_succ_cons];exact List.mem_cons_of_mem _ hs));show Ql (Option.rec false (fun x=>Option.rec false (fun u=>Np u v) (QN P t x s.h.get)) (QU G T x)) (again P G ⟨d,.load t x,ty,pos,af,g⟩ T v n l) false=true;rw[hx];show Ql (Option.rec false (fun u=>Np u v) (QN P t u s.h.get)) (again P G ⟨d,.load t x,ty,pos,af,g⟩ T v n l) false=true;rw[ha s Qx];show Ql (Np v v) (again P G ⟨d,.load t x,ty,pos,af,g⟩ T v n l) false=true;rw[he];exact ih
theorem Vp{P:Program}{G:Env}{N:Nat}{st:St}{K:List (Nat×AV)}{T:Tr AV}{ops:List Oper}{R:Tr AV→St→Prop}{sn:List St}{r:List (Nat×Nat)}{i d:Nat}{ty:TypeId}{pos:String}{af:Array Edge}{v:AV}{s0:St}
  (ho:ops[i]? =some ⟨some d,.load t x,ty,pos,af,none⟩) (hK:QE K T) (hx:QD G K x=some u) (h:QN P t u st.h.get=some v) (hl:n≤sn.length) (hall: ∀s∈sn.take n,QN P t u s.h.get=some v) (he:Np v v=true) (hk:Nat.beq (Qy P (.load t x)) 3=false) (hN:d<N)
  (hn: ∀T',QE ((d,v)::K) T'→WD P G N ops (r.map (UI ops)) R T' st (s0::sn)):WD P G N ops (((i,n)::r).map (UI ops)) R T st (s0::sn):=by
 rw[Yy ho]
 exact XH rfl (Qh hx h T hK _ _ _ _ _) (Of (hK.QU hx) he n sn hl hall) (fun e he=>by injection he with he;rw[←he];exact hN) (by
  show WD P G N ops (r.map (UI ops)) R _ st (Ql (Nat.beq (Qy P (.load t x)) 3) _ _)
  rw[hk];exact hn _ (hK.set d v))
theorem YY{P:Program}{G:Env}{K:List (Nat×AV)}{st:St}{yt:TypeId}{a:Bool}(ht:P.underlying t=some .bool)(hx:QD G K x=some (.bool a))(hy:QD G K y=some (.bool b)):Uf P G K (.binOp .eql t x y yt) st (.bool (a==b)) st:=
 U2 hx hy (by
  show Q5 (WV (P.underlying t) (.bool a)) (ob (WU (.bool a) (.bool b)) fun b=>some (AV.bool b))=_;rw[ht]
  cases a<;>cases b<;>rfl)
theorem FV{P:Program}{G:Env}{K:List (Nat×AV)}{st:St}{r:Operand}{name:String}{args:Array Operand}{tys:Array TypeId}{fid:FuncId}{v:AV}{st1:St}(hr:QD G K r=some (.ifc t u))(hm:WB P t name=some fid)(ha:JF (QD G K) args.toList=some l)(h:Ev P G fid (u::l) st v st1):
  Uf P G K (.call {callee:=.invoke r name,args:=args,argTypes:=tys}) st v st1:=fun T hT d ty pos af g=>by
 obtain⟨L,n,h⟩:=h;refine⟨L,n,fun L' n' hL hn=>?_⟩
 show(ob (QU G T r) fun v=>(match v with
  |.ifc t u=>ob (WB P t name) fun fid=>ob (JF (QU G T) args.toList) fun l=>Jx P G L' n' fid (u::l) st
  |_=>none))=_
 rw[hT.QU hr,Qk];show(ob (WB P t name) fun fid=>ob (JF (QU G T) args.toList) fun l=>Jx P G L' n' fid (u::l) st)=_;rw[hm,Qk,hT.row _ _ ha,Qk];exact Zy n n' L L' hn hL _ _ _ _ h
theorem Km{P:Program}{G:Env}{K:List (Nat×AV)}{st:St}{v:AV}(hx:QD G K x=some u)(h:HD P t u=some v):Uf P G K (.makeInterface t x) st v st:=.of fun T hT cc d ty pos af g=>by
 show ret (ob (QU G T x) fun x=>HD P t x) st=_;rw[hT.QU hx,Qk,h];rfl
theorem Kn{P:Program}{G:Env}{K:List (Nat×AV)}{st:St}{xt:TypeId}{ok:Bool}{v:AV}(hx:QD G K x=some u)(h:HP P u t ok=some v):Uf P G K (.typeAssert x xt t ok) st v st:=.of fun T hT cc d ty pos af g=>by
 show ret (ob (QU G T x) fun x=>HP P x t ok) st=_;rw[hT.QU hx,Qk,h];rfl
def DZ:AV→Bool
 |.bool _=>true
 |.int _ _=>true
 |.str _=>true
 |.nilp=>true
 |.ptr _ _ _=>true
 |.nils=>true
 |.sl _ _ _ _ _=>true
 |.slz _ _ _ _ _=>true
 |.sl0 _ _ _=>true
 |.nilf=>true
 |.nili=>true
 |.nilm=>true
 |.mp _=>true
 |_=>false
theorem HO{v:AV}(h:DZ v=true):Ai v v=true:=by
 cases v<;>first
  |(cases h;done)
  |rfl
  |skip
 ·rename_i b;cases b<;>rfl
 ·rename_i k n;show Ql (Nq k k) (Fw n n) false=true;rw[VC,Yb];simp[Ql]
 ·rename_i l;show NO l l=true;rw[Zc];simp
 ·rename_i c m o;show Ql (Nat.beq c c) (Ql (Nat.beq m m) (Nat.beq o o) false) false=true;simp[Ql]
 ·rename_i c m o l z;show Ql (Nat.beq c c) (Ql (Nat.beq m m) (Ql (Nat.beq o o) (Ql (Nat.beq l l) (Nat.beq z z) false) false) false) false=true;simp[Ql]
 ·rename_i c m o l z;show Ql (Nat.beq c c) (Ql (Nat.beq m m) (Ql (Nat.beq o o) (Ql (Nat.beq l l) (Nat.beq z z) false) false) false) false=true;simp[Ql]
 ·rename_i x o s;show Ql (Nat.beq x x) (Ql (Nat.beq o o) (yr s s) false) false=true
  cases s<;>simp[Ql,yr]
 ·rename_i c;show Nat.beq c c=true;simp
theorem Ua{v:AV}(h:DZ v=true):Np v v=true:=by
 have:=HO h
 cases v<;>first|exact this|(cases h;done)
theorem Gg(h:l.all DZ=true):Np (.agg l) (.agg l)=true:=by
 show Fx l l=true
 induction l with
 |nil=>rfl
 |cons a l ih=>
  rw[List.all_cons,Bool.and_eq_true]at h;show Ql (Ai a a) (Fx l l) false=true;rw[HO h.1,ih h.2];rfl
theorem KU(x:List Nat):DZ (.str x)=true:=rfl
theorem KV(k:IntKind)(x:Int):DZ (.int k x)=true:=rfl
theorem Hl(b:Bool):DZ (.bool b)=true:=rfl
theorem Zd{v:AV}(h:JU v=some n):DZ v=true:=by
 cases v<;>first|rfl|(cases h;done)

variable {rr:ResultVar} {rs:List ResultVar}
theorem US{t:Nat}{v:AV}(hK:QE K T)(h:K.lookup t=some v):LG P T st (.tmp t)=some v:=congrArg some (hK t v h)
theorem UZ{a:Nat}{v:AV}(hK:QE K T)(h:K.lookup a=some u)(hl:QN P t u st.h.get=some v):LG P T st (.cell a t)=some v:=by
 show QN P t (U8 T a) st.h.get=_;rw[hK a u h];exact hl
theorem Iy{v:AV}(h:LG P T st rr=some v):Jb P [rr] T st=some v:=by
 show(ob (JF (LG P T st) [rr]) _)=_;rw[J7,h];rfl
theorem Ya{r1 r2:ResultVar}{a b:AV}(h1:LG P T st r1=some a)(h2:LG P T st r2=some b):Jb P [r1,r2] T st=some (.tup [a,b]):=by
 show(ob (JF (LG P T st) [r1,r2]) _)=_;rw[J7,J7,h1,h2];rfl
end
end
end Go.Proofs.YtildagdnomiahaaGreatDoor
