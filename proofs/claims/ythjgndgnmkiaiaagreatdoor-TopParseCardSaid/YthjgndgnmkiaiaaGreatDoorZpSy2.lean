/-
  Several texts in one: XLift, XOpen, XSymH, XSum, XSymI.
-/
import Derived.WalkKit
import Derived.Test.YthjgndgnmkiaiaaGreatDoorZpSy1
set_option linter.unusedSimpArgs false
set_option linter.unusedVariables false
namespace Go.Proofs.YthjgndgnmkiaiaaGreatDoor
section
open Go Go.RowKit
variable {cs:List Value} {fuel:Nat} {t:TypeId}

def Va(h:Hp)(c m:Nat)(l:List AV):Prop:= ∃ro e vs ms,h c=some (.row ro ms)∧ms[m]? =some (e,vs,some l)
def Hk(h h':Hp):Prop:= ∀c m l,Va h c m l→Va h' c m l
inductive Rd{H:Type}(P:Program)(h:Hp):TypeId→List AV→DataW H→Prop
 |bool {t:TypeId} {b:Bool} (ht:P.underlying t=some .bool):Rd P h t [.bool b] (.lit (.bool b))
 |int {t:TypeId} {k:IntKind} {n:Int} (ht:P.underlying t=some (.int k)) (hw:(Lit.int k n).wf=true):Rd P h t [.int k n] (.lit (.int k n))
 |str {t:TypeId} {s:ByteArray} (ht:P.underlying t=some .string) (hs:s.size≤maxLen):Rd P h t [.str (Ym s)] (.lit (.string s.data.toList))
 |nil {t e:TypeId} (ht:P.underlying t=some (.slice e)):Rd P h t [.nils] .nil
 |none {t e:TypeId} {b o:Nat} {s:Option Nat} (ht:P.underlying t=some (.slice e)):Rd P h t [.sl0 b o s] (.slice [] [])
 |row {t e:TypeId} {c m len:Nat} {cells:List AV} {elems rest:List (DataW H)} (ht:P.underlying t=some (.slice e)) (hz:0<P.cellsOf e) (hr:Va h c m cells) (hl:cells.length=len *P.cellsOf e) (he:elems.length=len) (hm:len≤maxLen)
  (hd: ∀i d,elems[i]? =some d→Rd P h e ((cells.drop (i *P.cellsOf e)).take (P.cellsOf e)) d):Rd P h t [.sl c m 0 len (P.cellsOf e)] (.slice elems rest)
 |agg {t:TypeId} {fs:Array Field} {az:List AV} {parts:List (DataW H)} (ht:P.underlying t=some (.struct fs)) (hl:az.length=P.cellsOf t) (hp:parts.length=fs.size)
  (hd: ∀(i:Nat) (f:Field) (d:DataW H),fs[i]? =some f→parts[i]? =some d→Rd P h f.type ((az.drop f.offset).take (P.cellsOf f.type)) d):Rd P h t az (.agg parts)
theorem Rd.mono{H:Type}{P:Program}{h h':Hp}(hl:Hk h h'){az:List AV}{d:DataW H}(r:Rd P h t az d):Rd P h' t az d:=by
 induction r with
 |bool ht=>exact .bool ht
 |int ht hw=>exact .int ht hw
 |str ht hs=>exact .str ht hs
 |nil ht=>exact .nil ht
 |none ht=>exact .none ht
 |row ht hz hr hl' he hm hd ih=>exact .row ht hz (hl _ _ _ hr) hl' he hm ih
 |agg ht hl' hp hd ih=>exact .agg ht hl' hp ih

abbrev A9:=List (Pl×List AV)
def Oe(ml:A9):Jy:=fun c m=>if c=0 then(ml[m]?).map Prod.fst else none
def Lg(ml:A9):Av:=.row true (ml.map fun x=>(x.2.length,x.1.d,some x.2))
def Vq(ml:A9):Hp:=fun c=>if c=0 then some (Lg ml)else none
theorem CI(ml:A9)(m:Nat):Oe ml 0 m=(ml[m]?).map Prod.fst:=if_pos rfl
theorem fN{ml ml':A9}(h:ml<+:ml'):Jy.le (Oe ml) (Oe ml'):=by
 intro c m x hx;unfold Oe at hx ⊢
 split at hx
 ·rename_i hc;rw[if_pos hc]
  cases hm:ml[m]? with
  |none=>rw[hm]at hx;cases hx
  |some y=>rw[hm]at hx;rw[CH h hm];exact hx
 ·cases hx
theorem E8(ml:A9):exts (Lg ml)=ml.map fun x=>x.2.length:=by
 simp[exts,Lg,Function.comp_def]
theorem O7{ml ml':A9}(h:ml<+:ml'):Grow (Vq ml) (Vq ml'):=by
 intro c C hc;unfold Vq at hc ⊢
 split at hc
 ·rename_i h0
  injection hc with hc
  subst hc;refine⟨_,if_pos h0,?_⟩;rw[E8,E8];exact h.map _
 ·cases hc
theorem wB(ml:A9):Ci (Oe ml) (Vq ml):=by
 intro c C hc m hm;unfold Vq at hc
 split at hc
 ·rename_i h0
  injection hc with hc
  subst hc h0;rw[E8,List.length_map]at hm;exact⟨_,by rw[CI,List.getElem?_eq_getElem hm];rfl⟩
 ·cases hc
theorem CA{ml ml':A9}(h:ml<+:ml'):Hk (Vq ml) (Vq ml'):=by
 rintro c m l ⟨ro,e,vs,ms,h1,h2⟩
 unfold Vq at h1
 split at h1
 ·rename_i h0
  injection h1 with h1
  unfold Lg at h1
  injection h1 with h1 h3
  subst h1 h3;refine⟨true,e,vs,_,by unfold Vq;rw[if_pos h0];rfl,CH (h.map _) h2⟩
 ·cases h1
theorem aR{ml ml':A9}(h:ml<+:ml'){v:AV}(hv:WF (Vq ml) v):Qe (Oe ml') v=Qe (Oe ml) v:=UQ (wB ml) (fN h) v hv
section
variable {P:Program} {H:Type} {enc:TypeId×Value→H} {W:World}
def Xn(W:World)(ml:A9):Prop:= ∀(m:Nat) (q:Pl) (l:List AV),ml[m]? =some (q,l)→ ∃(arr:Array Value) (el:TypeId) (fr:Nat×Nat),W.heap[q.b]? =some (.cells arr el fr)∧q.d+q.e≤arr.size∧l.length≤q.e∧
 ∀j v,l[j]? =some v→arr[q.d+j]? =some (Qe (Oe ml) v)∧WF (Vq ml) v∧QI v=true
theorem Xn.nil:Xn W []:=fun m q l h=>by simp at h
theorem Xn.push{ml:A9}(h:Xn W ml){q:Pl}{l:List AV}{arr:Array Value}{el:TypeId}{fr:Nat×Nat}(hb:W.heap[q.b]? =some (.cells arr el fr))(hs:q.d+q.e≤arr.size)(hl:l.length≤q.e)
  (hc: ∀j v,l[j]? =some v→arr[q.d+j]? =some (Qe (Oe ml) v)∧WF (Vq ml) v∧QI v=true):Xn W (ml++[(q,l)]):=by
 have hp:ml<+:ml++[(q,l)]:=List.prefix_append _ _;have key: ∀v,WF (Vq ml) v→Qe (Oe (ml++[(q,l)])) v=Qe (Oe ml) v∧WF (Vq (ml++[(q,l)])) v:=fun v hv=>⟨aR hp hv,WF.grow (O7 hp) v hv⟩;intro m q' l' hm
 by_cases hlt:m<ml.length
 ·rw[List.getElem?_append_left hlt]at hm;obtain⟨arr',el',fr',h1,h2,h3,h4⟩:=h m q' l' hm;refine⟨arr',el',fr',h1,h2,h3,fun j v hj=>?_⟩;obtain⟨k1,k2,k3⟩:=h4 j v hj;obtain⟨e1,e2⟩:=key v k2;exact⟨by rw[e1];exact k1,e2,k3⟩
 ·rw[List.getElem?_append_right Qk]at hm
  have hm0:m-ml.length=0:=by
   cases hx:m-ml.length with
   |zero=>rfl
   |succ n=>rw[hx]at hm;simp at hm
  rw[hm0]at hm;simp at hm;obtain⟨rfl,rfl⟩:=hm;refine⟨arr,el,fr,hb,hs,hl,fun j v hj=>?_⟩;obtain⟨k1,k2,k3⟩:=hc j v hj;obtain⟨e1,e2⟩:=key v k2;exact⟨by rw[e1];exact k1,e2,k3⟩

theorem Xn.hr{ml:A9}(h:Xn W ml):HR W (Oe ml) (Vq ml) W:=by
 have hdom: ∀c m x,Oe ml c m=some x→c=0∧ ∃l,ml[m]? =some (x,l):=by
  intro c m x hx;unfold Oe at hx
  split at hx
  ·rename_i hc
   cases hm:ml[m]? with
   |none=>rw[hm]at hx;cases hx
   |some y=>rw[hm]at hx;injection hx with hx;subst hx;exact⟨hc,y.2,rfl⟩
  ·cases hx
 refine⟨rfl,rfl,rfl,Nat.le_refl _,fun _ _=>rfl,fun c m x hx=>?_,fun c m x hx=>?_,fun c m x c' m' x' hx hx' _=>?_,fun c C hC=>?_⟩
 ·obtain⟨rfl,l,hm⟩:=hdom c m x hx;exact⟨Lg ml,if_pos rfl,by rw[E8,List.length_map];exact(List.getElem?_eq_some_iff.1 hm).1⟩
 ·obtain⟨rfl,l,hm⟩:=hdom c m x hx;obtain⟨arr,el,fr,h1,_⟩:=h m x l hm;exact(Array.getElem?_eq_some_iff.1 h1).1
 ·rw[(hdom c m x hx).1,(hdom c' m' x' hx').1]
 ·unfold Vq at hC
  split at hC
  ·rename_i hc0
   injection hC with hC
   subst hC hc0;refine⟨fun m e vs cs hm=>?_,fun m e vs cs m' e' vs' cs' q q' hm hm' hq hq' hb=>?_⟩
   ·rw[List.getElem?_map]at hm
    cases hx:ml[m]? with
    |none=>rw[hx]at hm;cases hm
    |some y=>
     rw[hx]at hm;simp only[Option.map_some,Option.some.injEq,Prod.mk.injEq]at hm;obtain⟨rfl,rfl,rfl⟩:=hm;obtain⟨q,l⟩:=y;obtain⟨arr,el,fr,h1,h2,h3,h4⟩:=h m q l hx;refine⟨q,arr,el,by rw[CI,hx];rfl,⟨fr,h1,fun e=>nomatch e⟩,h2,h3,fun e=>(nomatch e),fun l' hl'=>?_⟩
     injection hl' with hl'
     subst hl';exact⟨rfl,h4⟩
   ·rw[List.getElem?_map]at hm hm';rw[CI]at hq hq'
    cases hx:ml[m]? with
    |none=>rw[hx]at hq;cases hq
    |some y=>
     cases hx':ml[m']? with
     |none=>rw[hx']at hq';cases hq'
     |some y'=>
      rw[hx]at hm hq;rw[hx']at hm' hq';simp only[Option.map_some,Option.some.injEq,Prod.mk.injEq]at hm hm' hq hq';obtain⟨_,rfl,_⟩:=hm;obtain⟨_,rfl,_⟩:=hm';subst hq hq';omega
  ·cases hC

def Cu(P:Program):List Field→Nat→Option Nat
 |[],n=>some n
 |f::fs,n=>if f.offset=n then Cu P fs (n+P.cellsOf f.type)else none
def SR(P:Program)(S:List TypeId)(t:TypeId):Bool:=match P.underlying t with
 |some .bool=>true
 |some (.int _)=>true
 |some .string=>true
 |some (.slice e)=>S.contains e&&decide (0<P.cellsOf e)
 |some (.struct fs)=>fs.toList.all (fun f=>S.contains f.type)&&decide (Cu P fs.toList 0=some (P.cellsOf t))
 |_=>false
def P7(P:Program)(S:List TypeId):Bool:=S.all (SR P S)

def Sc(P:Program)(W:World)(ml:A9)(cs:List Value)(R:A9→List AV→Prop):Prop:= ∃ml' az,ml<+:ml'∧Xn W ml'∧az.map (Qe (Oe ml'))=cs∧YN (Vq ml') az∧(∀v∈az,QI v=true)∧R ml' az
theorem BB{ml ml':A9}(h:ml<+:ml'){l:List AV}(hl:YN (Vq ml) l):l.map (Qe (Oe ml'))=l.map (Qe (Oe ml)):=
 List.map_congr_left fun v hv=>aR h ((JJ _ _).1 hl v hv)
theorem Sq{d:DataW H}{ps:List MemPlace}(hu:P.underlying t=some .bool)(h:DataW.trod enc P W 0 (fun _=>true) true (fuel+1) t cs=some (d,ps)): ∃b,cs=[.bool b]∧d=.lit (.bool b):=by
 unfold DataW.trod at h;rw[hu]at h
 split at h<;>first|(simp_all;done)|skip
theorem qH{k:IntKind}{d:DataW H}{ps:List MemPlace}(hu:P.underlying t=some (.int k))(h:DataW.trod enc P W 0 (fun _=>true) true (fuel+1) t cs=some (d,ps)): ∃n,cs=[.int k n]∧(Lit.int k n).wf=true∧d=.lit (.int k n):=by
 unfold DataW.trod at h;rw[hu]at h
 split at h<;>first|(simp_all;done)|skip
theorem qG{d:DataW H}{ps:List MemPlace}(hu:P.underlying t=some .string)(h:DataW.trod enc P W 0 (fun _=>true) true (fuel+1) t cs=some (d,ps)): ∃s,cs=[.string s]∧s.size≤maxLen∧d=.lit (.string s.data.toList):=by
 unfold DataW.trod at h;rw[hu]at h
 split at h<;>first|(simp_all;done)|skip
theorem DP{e:TypeId}{d:DataW H}{ps:List MemPlace}(hu:P.underlying t=some (.slice e))(h:DataW.trod enc P W 0 (fun _=>true) true (fuel+1) t cs=some (d,ps)):
  (cs=[.slice none 0 0]∧d=.nil)∨ ∃a len cap elems rest,cs=[.slice (some a) len cap]∧len≤cap∧cap≤maxLen∧
   (List.range len).mapM (fun i=>(W.cells? 0 (a.add (i *P.cellsOf e)) (P.cellsOf e)).bind (DataW.trod enc P W 0 (fun _=>true) true fuel e))=some elems∧
   (List.range (cap-len)).mapM (fun j=>(W.cells? 0 (a.add ((len+j) *P.cellsOf e)) (P.cellsOf e)).bind (DataW.trod enc P W 0 (fun _=>true) true fuel e))=some rest∧d=.slice (elems.map (·.1)) (rest.map (·.1)):=by
 unfold DataW.trod at h;rw[hu]at h
 split at h<;>first|(simp_all;done)|skip
 rename_i e1 a len cap he
 injection he with he
 injection he with he
 subst he
 split at h
 ·rename_i hh;right;rw[Option.bind_eq_some_iff]at h;obtain⟨elems,h1,h⟩:=h;rw[Option.map_eq_some_iff]at h;obtain⟨rest,h2,h⟩:=h;rw[if_pos rfl]at h2
  injection h with h _
  exact⟨a,len,cap,elems,rest,rfl,hh.2.1,hh.2.2,h1,h2,h.symm⟩
 ·cases h
theorem Co{fs:Array Field}{d:DataW H}{ps:List MemPlace}(hu:P.underlying t=some (.struct fs))(h:DataW.trod enc P W 0 (fun _=>true) true (fuel+1) t cs=some (d,ps)):
  cs.length=P.cellsOf t∧ ∃xs,fs.toList.mapM (fun f=>DataW.trod enc P W 0 (fun _=>true) true fuel f.type ((cs.drop f.offset).take (P.cellsOf f.type)))=some xs∧d=.agg (xs.map (·.1)):=by
 unfold DataW.trod at h;rw[hu]at h
 split at h<;>first|(simp_all;done)|skip
 rename_i fs1 he
 injection he with he
 injection he with he
 subst he
 split at h
 ·rename_i hh;rw[Option.map_eq_some_iff]at h;obtain⟨xs,h1,h⟩:=h
  injection h with h _
  exact⟨hh,xs,h1,h.symm⟩
 ·cases h
theorem mapM_some{α β:Type}{f:α→Option β}: ∀{l:List α} {r:List β},l.mapM f=some r→r.length=l.length∧ ∀(i:Nat) (a:α),l[i]? =some a→ ∃b,r[i]? =some b∧f a=some b:=by
 intro l
 induction l with
 |nil=>intro r h;simp at h;subst h;exact⟨rfl,fun i a h=>by simp at h⟩
 |cons x l ih=>
  intro r h;rw[List.mapM_cons]at h;simp only[Option.bind_eq_bind,Option.pure_def,Option.bind_eq_some_iff,Option.some.injEq]at h;obtain⟨b,hb,t,ht,h⟩:=h;subst h;obtain⟨h1,h2⟩:=ih ht;refine⟨by simp[h1],fun i a hi=>?_⟩
  cases i with
  |zero=>simp at hi;subst hi;exact⟨b,rfl,hb⟩
  |succ i=>simpa using h2 i a (by simpa using hi)
theorem u0(a:Addr)(m n:Nat):(a.add m).add n=a.add (m+n):=by
 unfold Addr.add
 by_cases hm:m=0
 ·subst hm;rw[if_pos rfl,Nat.zero_add]
 ·rw[if_neg hm,if_neg (show m+n≠0 by omega)]
  by_cases hn:n=0
  ·subst hn;rw[if_pos rfl,Nat.add_zero]
  ·rw[if_neg hn];simp only[Nat.add_assoc]
theorem LD{α:Type}{z:Nat}(hz:0<z): ∀(css:List (List α)),(∀c∈css,c.length=z)→ ∀j,css.flatten[j]? =(css[j/z]?).bind fun c=>c[j % z]? :=by
 intro css
 induction css with
 |nil=>intro _ j;simp
 |cons c css ih=>
  intro h j;have hc:=h c (List.mem_cons_self ..);rw[List.flatten_cons,List.getElem?_append]
  by_cases hj:j<z
  ·rw[if_pos Qk,Nat.div_eq_of_lt hj,Nat.mod_eq_of_lt hj];rfl
  ·rw[if_neg Qk,ih (fun c hc=>h c (List.mem_cons_of_mem _ hc)),hc]
   have e1:j/z=(j-z)/z+1:=by
    conv=>lhs;rw[show j=(j-z)+z by omega]
    exact Nat.add_div_right _ hz
   have e2:j % z=(j-z) % z:=by
    conv=>lhs;rw[show j=(j-z)+z by omega]
    exact Nat.add_mod_right _ _
   rw[e1,e2];rfl
theorem BY{a:Addr}{j:Nat}{v:Value}(h:W.cell? (a.add j)=some v): ∃arr el fr,W.heap[a.block]? =some (.cells arr el fr)∧arr[a.off+j]? =some v∧(j=0→a.spot=none):=by
 have hb:(a.add j).block=a.block:=by unfold Addr.add;split<;>rfl
 have ho:(a.add j).off=a.off+j:=by unfold Addr.add;split<;>simp_all
 unfold World.cell? at h;rw[hb]at h
 split at h
 ·rename_i arr el fr hh
  split at h
  ·cases h
  ·rename_i hs;rw[ho]at h;refine⟨arr,el,fr,hh,h,fun h0=>?_⟩;subst h0;have:a.add 0=a:=if_pos rfl;rw[this]at hs
   simpa using hs
 ·cases h
theorem H6{n:Nat}{a:Addr}(h:W.cells? 0 a n=some cs):cs.length=n∧ ∀i,i<n→ ∃v,W.cell? (a.add i)=some v∧cs[i]? =some v:=by
 unfold World.cells? at h;rw[if_pos (Nat.zero_le _)]at h;obtain⟨h1,h2⟩:=mapM_some h;rw[List.length_range]at h1;refine⟨h1,fun i hi=>?_⟩;obtain⟨b,hb,hc⟩:=h2 i i (List.getElem?_range hi);exact⟨b,hc,hb⟩

theorem zW{e:TypeId}{a:Addr}{z:Nat}(ih: ∀(cs:List Value) (d:DataW H) (ps:List MemPlace) (ml:A9),DataW.trod enc P W 0 (fun _=>true) true fuel e cs=some (d,ps)→Xn W ml→Sc P W ml cs fun ml' az=>Rd P (Vq ml') e az d):
  ∀(l:List Nat) (ml:A9) (xs:List (DataW H×List MemPlace)),l.mapM (fun i=>(W.cells? 0 (a.add (i *z)) z).bind (DataW.trod enc P W 0 (fun _=>true) true fuel e))=some xs→Xn W ml→
  ∃css:List (List Value),css.length=l.length∧(∀(i j:Nat),l[i]? =some j→ ∃cs,css[i]? =some cs∧W.cells? 0 (a.add (j *z)) z=some cs)∧
   Sc P W ml css.flatten fun ml' az=>az.length=l.length *z∧ ∀(i:Nat) (d:DataW H×List MemPlace),xs[i]? =some d→Rd P (Vq ml') e ((az.drop (i *z)).take z) d.1:=by
 intro l
 induction l with
 |nil=>
  intro ml xs h hM;simp at h;subst h;exact⟨[],rfl,fun i j h=>(by simp at h),ml,[],List.prefix_refl _,hM,rfl,trivial,fun v h=>(by cases h),Q1,fun i d h=>(by simp at h)⟩
 |cons j l ihl=>
  intro ml xs h hM;rw[List.mapM_cons]at h;simp only[Option.bind_eq_bind,Option.pure_def,Option.bind_eq_some_iff,Option.some.injEq]at h;obtain⟨x,⟨cs,hcs,hx⟩,t,ht,h⟩:=h;subst h;obtain⟨ml1,as1,p1,g1,c1,w1,i1,r1⟩:=ih cs x.1 x.2 ml hx hM;obtain⟨css,k1,k2,ml2,as2,p2,g2,c2,w2,i2,r2,r3⟩:=ihl ml1 t ht g1;have hcl:=(H6 hcs).1
  have hl1:as1.length=z:=by rw[←hcl,←c1,List.length_map]
  refine⟨cs::css,by simp[k1],fun i j' hi=>?_,ml2,as1++as2,p1.trans p2,g2,?_,?_,fun v hv=>?_,?_,fun i d hi=>?_⟩
  ·cases i with
   |zero=>simp at hi;subst hi;exact⟨cs,rfl,hcs⟩
   |succ i=>simpa using k2 i j' (by simpa using hi)
  ·rw[List.map_append,List.flatten_cons,BB p2 w1,c1,c2]
  ·exact(JJ _ _).2 fun v hv=>by
    rcases List.mem_append.1 hv with hv|hv
    ·exact WF.grow (O7 p2) v ((JJ _ _).1 w1 v hv)
    ·exact(JJ _ _).1 w2 v hv
  ·rcases List.mem_append.1 hv with hv|hv
   ·exact i1 v hv
   ·exact i2 v hv
  ·rw[List.length_append,hl1,r2,List.length_cons,Nat.succ_mul,Nat.add_comm]
  ·cases i with
   |zero=>
    simp at hi;subst hi;rw[Nat.zero_mul,List.drop_zero,List.take_append_of_le_length Qk,List.take_of_length_le Qk];exact r1.mono (CA p2)
   |succ i=>
    have:=r3 i d (by simpa using hi)
    have e1:(as1++as2).drop z=as2:=by rw[←hl1];exact List.drop_left
    rw[show(i+1) *z=z+i *z by rw[Nat.succ_mul,Nat.add_comm],←List.drop_drop,e1];exact this
theorem PN{n:Nat}(hcs:cs.length=n): ∀(fs:List Field) (off:Nat) (ml:A9) (xs:List (DataW H×List MemPlace)),
  (∀f∈fs,∀(cs:List Value) (d:DataW H) (ps:List MemPlace) (ml:A9),DataW.trod enc P W 0 (fun _=>true) true fuel f.type cs=some (d,ps)→Xn W ml→Sc P W ml cs fun ml' az=>Rd P (Vq ml') f.type az d)→
  Cu P fs off=some n→fs.mapM (fun f=>DataW.trod enc P W 0 (fun _=>true) true fuel f.type ((cs.drop f.offset).take (P.cellsOf f.type)))=some xs→Xn W ml→
  off≤n∧Sc P W ml (cs.drop off) fun ml' az=> ∀(i:Nat) (f:Field) (d:DataW H×List MemPlace),fs[i]? =some f→xs[i]? =some d→off≤f.offset∧Rd P (Vq ml') f.type ((az.drop (f.offset-off)).take (P.cellsOf f.type)) d.1:=by
 intro fs
 induction fs with
 |nil=>
  intro off ml xs _ ht h hM
  injection ht with ht
  subst ht;refine⟨Nat.le_refl _,ml,[],List.prefix_refl _,hM,?_,trivial,fun v h=>(by cases h),fun i f d h=>(by simp at h)⟩;rw[List.drop_of_length_le Qk];rfl
 |cons f fs ihl=>
  intro off ml xs ih ht h hM;have ht:(if f.offset=off then Cu P fs (off+P.cellsOf f.type)else none)=some n:=ht
  split at ht
  ·rename_i ho;rw[List.mapM_cons]at h;simp only[Option.bind_eq_bind,Option.pure_def,Option.bind_eq_some_iff,Option.some.injEq]at h;obtain⟨x,hx,t,htt,h⟩:=h;subst h;obtain⟨ml1,as1,p1,g1,c1,w1,i1,r1⟩:=ih f (List.mem_cons_self ..) _ x.1 x.2 ml hx hM;obtain⟨hle,ml2,as2,p2,g2,c2,w2,i2,r2⟩:=ihl (off+P.cellsOf f.type) ml1 t (fun g hg=>ih g (List.mem_cons_of_mem _ hg)) ht htt g1
   have hl1:as1.length=P.cellsOf f.type:=by
    have:=congrArg List.length c1;rw[List.length_map,List.length_take,List.length_drop]at this;omega
   refine⟨by omega,ml2,as1++as2,p1.trans p2,g2,?_,?_,fun v hv=>?_,fun i g d hi hd=>?_⟩
   ·rw[List.map_append,BB p2 w1,c1,c2,ho,←List.drop_drop,List.take_append_drop]
   ·exact(JJ _ _).2 fun v hv=>by
     rcases List.mem_append.1 hv with hv|hv
     ·exact WF.grow (O7 p2) v ((JJ _ _).1 w1 v hv)
     ·exact(JJ _ _).1 w2 v hv
   ·rcases List.mem_append.1 hv with hv|hv
    ·exact i1 v hv
    ·exact i2 v hv
   ·cases i with
    |zero=>
     simp at hi hd;subst hi hd;refine⟨by omega,?_⟩;rw[ho,Nat.sub_self,List.drop_zero,List.take_append_of_le_length Qk,List.take_of_length_le Qk];exact r1.mono (CA p2)
    |succ i=>
     obtain⟨k1,k2⟩:=r2 i g d (by simpa using hi) (by simpa using hd);refine⟨by omega,?_⟩
     have e1:(as1++as2).drop (P.cellsOf f.type)=as2:=by rw[←hl1];exact List.drop_left
     rw[show g.offset-off=P.cellsOf f.type+(g.offset-(off+P.cellsOf f.type)) by omega,←List.drop_drop,e1];exact k2
  ·cases ht

theorem lift(S:List TypeId)(hS:P7 P S=true)(fuel:Nat): ∀(t:TypeId) (cs:List Value) (d:DataW H) (ps:List MemPlace) (ml:A9),t∈S→DataW.trod enc P W 0 (fun _=>true) true fuel t cs=some (d,ps)→Xn W ml→
  Sc P W ml cs fun ml' az=>Rd P (Vq ml') t az d:=by
 induction fuel with
 |zero=>intro t cs d ps ml ht h;cases h
 |succ fuel ih=>
  intro t cs d ps ml ht h hM;have hp:SR P S t=true:=List.all_eq_true.1 hS t ht;unfold SR at hp
  split at hp
  ·rename_i hu;obtain⟨b,rfl,rfl⟩:=Sq hu h;exact⟨ml,[.bool b],List.prefix_refl _,hM,rfl,⟨trivial,trivial⟩,by simp[QI],.bool hu⟩
  ·rename_i k hu;obtain⟨n,rfl,hw,rfl⟩:=qH hu h;exact⟨ml,[.int k n],List.prefix_refl _,hM,rfl,⟨trivial,trivial⟩,by simp[QI],.int hu hw⟩
  ·rename_i hu;obtain⟨s,rfl,hs,rfl⟩:=qG hu h;refine⟨ml,[.str (Ym s)],List.prefix_refl _,hM,?_,⟨ZW s,trivial⟩,by simp[QI],.str hu hs⟩;simp only[List.map_cons,List.map_nil,Qe,Za]
  ·rename_i e hu;rw[Bool.and_eq_true,decide_eq_true_iff]at hp;obtain⟨he,hz⟩:=hp
   have he:e∈S:=by simpa using he
   rcases DP hu h with⟨rfl,rfl⟩|⟨a,len,cap,elems,rest,rfl,hlc,hcap,h1,h2,rfl⟩
   ·exact⟨ml,[.nils],List.prefix_refl _,hM,rfl,⟨trivial,trivial⟩,by simp[QI],.nil hu⟩
   ·rcases Nat.eq_zero_or_pos cap with rfl|hc0
    ·obtain rfl:len=0:=by omega
     simp at h1 h2;subst h1 h2;refine⟨ml,[.sl0 a.block a.off a.spot],List.prefix_refl _,hM,rfl,⟨trivial,trivial⟩,by simp[QI],.none hu⟩
    ·obtain⟨css,k1,k2,ml1,az,p1,g1,c1,w1,i1,r1,r2⟩:=zW (z:=P.cellsOf e) (fun cs d ps ml=>ih e cs d ps ml he) (List.range len) ml elems h1 hM

     have hall: ∀i,i<cap→ ∃cs,W.cells? 0 (a.add (i *P.cellsOf e)) (P.cellsOf e)=some cs:=by
      intro i hi
      by_cases hil:i<len
      ·obtain⟨b,_,hb⟩:=(mapM_some h1).2 i i (List.getElem?_range hil);rw[Option.bind_eq_some_iff]at hb;obtain⟨cs,hcs,_⟩:=hb;exact⟨cs,hcs⟩
      ·obtain⟨b,_,hb⟩:=(mapM_some h2).2 (i-len) (i-len) (List.getElem?_range Qk);rw[Option.bind_eq_some_iff]at hb;obtain⟨cs,hcs,_⟩:=hb;exact⟨cs,by rw[show len+(i-len)=i by omega]at hcs;exact hcs⟩
     have hcell: ∀j,j<cap *P.cellsOf e→ ∃v,W.cell? (a.add j)=some v∧ ∀cs,W.cells? 0 (a.add (j/P.cellsOf e *P.cellsOf e)) (P.cellsOf e)=some cs→cs[j % P.cellsOf e]? =some v:=by
      intro j hj;obtain⟨cs,hcs⟩:=hall (j/P.cellsOf e) (Nat.div_lt_of_lt_mul (by rw[Nat.mul_comm];exact hj));obtain⟨v,hv1,hv2⟩:=(H6 hcs).2 (j % P.cellsOf e) (Nat.mod_lt _ hz);refine⟨v,?_,fun cs' hcs'=>by rw[hcs]at hcs';injection hcs' with hcs';subst hcs';exact hv2⟩
      have hjj:j/P.cellsOf e *P.cellsOf e+j % P.cellsOf e=j:=by rw[Nat.mul_comm];exact Nat.div_add_mod j _
      rw[u0,hjj]at hv1;exact hv1
     have hcz:0<cap *P.cellsOf e:=Nat.mul_pos hc0 hz;obtain⟨v0,hv0,_⟩:=hcell 0 hcz;obtain⟨arr,el,fr,hblk,_,hspot⟩:=BY hv0;have hspot:=hspot rfl
     have harr: ∀j,j<cap *P.cellsOf e→ ∃v,arr[a.off+j]? =some v∧ ∀cs,W.cells? 0 (a.add (j/P.cellsOf e *P.cellsOf e)) (P.cellsOf e)=some cs→cs[j % P.cellsOf e]? =some v:=by
      intro j hj;obtain⟨v,h1,h2⟩:=hcell j hj;obtain⟨arr',el',fr',k1,k2,_⟩:=BY h1;rw[hblk]at k1
      injection k1 with k1
      injection k1 with k1 _ _
      subst k1;exact⟨v,k2,h2⟩
     have hsz:a.off+cap *P.cellsOf e≤arr.size:=by
      obtain⟨v,hv,_⟩:=harr (cap *P.cellsOf e-1) Qk;have:=(Array.getElem?_eq_some_iff.1 hv).1;omega
     rw[List.length_range]at r1;have hlz:len *P.cellsOf e≤cap *P.cellsOf e:=Nat.mul_le_mul_right _ hlc
     have hcl: ∀c∈css,c.length=P.cellsOf e:=by
      intro c hc;obtain⟨i,hi⟩:=List.getElem?_of_mem hc;have hil:=(List.getElem?_eq_some_iff.1 hi).1;rw[k1,List.length_range]at hil;obtain⟨cs,h3,h4⟩:=k2 i i (List.getElem?_range hil);rw[hi]at h3
      injection h3 with h3
      subst h3;exact(H6 h4).1
     have hgood:=g1.push (q:=⟨a.block,a.off,cap *P.cellsOf e⟩) (l:=az) hblk hsz (by rw[r1];exact hlz) fun j v hj=>by
      have hjl:=(List.getElem?_eq_some_iff.1 hj).1;obtain⟨v',hv1,hv2⟩:=harr j Qk
      have hfl:css.flatten[j]? =some (Qe (Oe ml1) v):=by rw[←c1,List.getElem?_map,hj];rfl
      rw[LD hz css hcl]at hfl;rw[Option.bind_eq_some_iff]at hfl;obtain⟨cs,h3,h4⟩:=hfl;have hdl:j/P.cellsOf e<len:=Nat.div_lt_of_lt_mul (by rw[Nat.mul_comm];omega);obtain⟨cs',h5,h6⟩:=k2 (j/P.cellsOf e) (j/P.cellsOf e) (List.getElem?_range hdl);rw[h3]at h5
      injection h5 with h5
      subst h5;have:=hv2 cs h6;rw[h4]at this
      injection this with this
      rw[this];exact⟨hv1,(JJ _ _).1 w1 v (List.mem_of_getElem? hj),i1 v (List.mem_of_getElem? hj)⟩
     have hpre:ml1<+:ml1++[(⟨a.block,a.off,cap *P.cellsOf e⟩,az)]:=List.prefix_append _ _
     have hat:(ml1++[((⟨a.block,a.off,cap *P.cellsOf e⟩:Pl),az)])[ml1.length]? =some (⟨a.block,a.off,cap *P.cellsOf e⟩,az):=by simp
     have hrow:Va (Vq (ml1++[(⟨a.block,a.off,cap *P.cellsOf e⟩,az)])) 0 ml1.length az:=⟨true,_,_,_,rfl,by rw[List.getElem?_map,hat];rfl⟩;refine⟨_,[.sl 0 ml1.length 0 len (P.cellsOf e)],p1.trans hpre,hgood,?_,?_,by simp[QI],?_⟩
     ·simp only[List.map_cons,List.map_nil,Qe,CI,hat,Option.map_some,Nat.add_zero,Nat.sub_zero,Nat.mul_div_cancel _ hz]
      have:(⟨a.block,a.off,none⟩:Addr)=a:=by cases a;simp_all
      rw[this]
     ·refine⟨⟨_,az.length,rfl,?_,hz,?_⟩,trivial⟩
      ·rw[E8,List.getElem?_map,hat];rfl
      ·omega
     ·refine .row hu hz hrow r1 (by rw[List.length_map,(mapM_some h1).1,List.length_range]) (Nat.le_trans hlc hcap) fun i d hd=>?_;rw[List.getElem?_map]at hd
      cases hxi:elems[i]? with
      |none=>rw[hxi]at hd;cases hd
      |some y=>
       rw[hxi]at hd
       injection hd with hd
       subst hd;exact(r2 i y hxi).mono (CA hpre)
  ·rename_i fs hu;rw[Bool.and_eq_true,decide_eq_true_iff]at hp;obtain⟨hin,hti⟩:=hp;obtain⟨hlen,xs,hx,rfl⟩:=Co hu h
   obtain⟨_,ml1,az,p1,g1,c1,w1,i1,r1⟩:=PN hlen fs.toList 0 ml xs (fun f hf cs d ps ml=>ih f.type cs d ps ml (by
    have:=List.all_eq_true.1 hin f hf
    simpa using this)) hti hx hM
   rw[List.drop_zero]at c1;refine⟨ml1,az,p1,g1,c1,w1,i1,.agg hu ?_ ?_ fun i f d hf hd=>?_⟩
   ·rw[←hlen,←c1,List.length_map]
   ·rw[List.length_map,(mapM_some hx).1,Array.length_toList]
   ·rw[List.getElem?_map]at hd
    cases hxi:xs[i]? with
    |none=>rw[hxi]at hd;cases hd
    |some y=>
     rw[hxi]at hd
     injection hd with hd
     subst hd;obtain⟨_,k⟩:=r1 i f y (by rw[Array.getElem?_toList];exact hf) hxi;exact k
  ·cases hp
end
end
section
open Go Go.RowKit

noncomputable section
def stM(ml:A9):St:=⟨1,Tr.nil.set 0 (Lg ml)⟩
end
theorem WL(ml:A9):(stM ml).h.get=Vq ml:=by
 funext c
 show(Tr.nil.set 0 (Lg ml)).get c=_;rw[Tr.VV];unfold Vq
 split
 ·rfl
 ·rw[Tr.get_nil]
theorem Em(ml:A9):Q3 (stM ml):=fun c hc=>by
 rw[WL];have hc:1≤c:=hc;unfold Vq;rw[if_neg Qk]
variable {P:Program} {G:Env} {W:World}
theorem jx(hG0: ∀g,G.g g=false)(hE:WT P G)(hm:P.follows .mixedOrders=true){f:FuncId}{args:List AV}{ml:A9}(hM:Xn W ml)(hw:YN (Vq ml) args)
  (h: ∃v st',Ev P G f args (stM ml) v st'∧v=.bool true) (hi:G.i W:=by trivial):Calls P f (Qn (Oe ml) args).toArray W fun e w'=>e=.returned (.bool true)∧Below W.heap.size W w':=by
 obtain⟨v,st',⟨L,n,h⟩,rfl⟩:=h;have hc:=((Kt (Km hm) hE L n f args (stM ml) (.bool true) st' h (Em ml) (by rw[WL];exact hw)).2 W (Oe ml) W (by rw[WL];exact hM.hr) ⟨fun g hg=>(by rw[hG0]at hg;cases hg),hi⟩).2;refine hc.mono fun e w'=>?_
 rintro⟨p',rfl,hs,_⟩
 exact⟨rfl,hs.hr.os,hs.hr.tape,hs.hr.output,hs.hr.size,hs.hr.old⟩
theorem GN{p:Jy}{az:List AV}{v:Value}(h:az.map (Qe p)=v.cells.toList)(hc: ∀a∈az,QI a=true):((∃cs,v=.agg cs)→Qe p (.agg az)=v)∧((∀cs,v≠ .agg cs)→ ∃a,az=[a]∧Qe p a=v):=by
 constructor
 ·rintro⟨cs,rfl⟩
  have h:az.map (Qe p)=cs.toList:=h;show Value.agg (Qn p az).toArray=_;rw[JH,h]
 ·intro hn
  have hv:v.cells.toList=[v]:=by
   cases v<;>first|rfl|exact absurd rfl (hn _)
  rw[hv]at h
  cases az with
  |nil=>cases h
  |cons a az=>cases az with
   |nil=>injection h with h _;exact⟨a,rfl,h⟩
   |cons b az=>simp at h

end
section
open Go
variable {Y:List Nat} {c c2 k len m m2 n off2 z z2:Nat} {e t:TypeId} {h:Hp} {ks:AV} {l l2:List AV} {ls:List (List AV)} {st':St} {x:Operand}

def J5(h:Hp)(c m:Nat)(l:List AV):Prop:= ∃vs ms,h c=some (.row false ms)∧ms[m]? =some (l.length,vs,some l)
structure EJ(X:List Nat)(st st':St):Prop where
 fresh:Q3 st'
 le:st.n≤st'.n
 old: ∀c,c<st.n→c∉X→st'.h.get c=st.h.get c
theorem Qt.Z5{st:St}(q:Qt st st')(X:List Nat):EJ X st st':=⟨q.fresh,q.le,fun c hc _=>q.old c hc⟩
theorem J5.lt{st:St}(hf:Q3 st)(r:J5 st.h.get c m l):c<st.n:=by
 obtain⟨vs,ms,h1,h2⟩:=r
 exact Nat.lt_of_not_le fun hle=>by rw[hf c hle]at h1;cases h1
theorem J5.WY(r:J5 h c m l):Va h c m l:=by
 obtain⟨vs,ms,h1,h2⟩:=r;exact⟨false,_,vs,ms,h1,h2⟩
theorem J5.Z5{X:List Nat}{st:St}(hf:Q3 st)(q:EJ X st st')(r:J5 st.h.get c m l)(hc:c∉X):J5 st'.h.get c m l:=by
 have hlt:=r.lt hf;obtain⟨vs,ms,h1,h2⟩:=r;exact⟨vs,ms,by rw[q.old c hlt hc];exact h1,h2⟩
section
variable {P:Program} {G:Env} {N:Nat} {h0:Hp} {n0:Nat} {X:List Nat} {st:St} {M:List (Nat×Nat×List AV)}
theorem Mem.fD{st:St}(hf:Q3 st)(M:List (Nat×Nat×List AV))(hr: ∀c m l,(c,m,l)∈M→J5 st.h.get c m l)(hn:(M.map Prod.fst).Nodup):Mem st.h.get st.n (M.map Prod.fst) st M:=
 ⟨hf,Nat.le_refl _,hf,hr,fun c m l h=>(hr c m l h).lt hf,fun c m l h=>.inr (List.mem_map.2 ⟨_,h,rfl⟩),hn,fun _ _ _=>rfl⟩
theorem Mem.UU{st:St}(hf:Q3 st)(r:J5 st.h.get c m l):Mem st.h.get st.n [c] st [(c,m,l)]:=
 Mem.fD hf [(c,m,l)] (fun c' m' l' h=>by simp at h;obtain⟨rfl,rfl,rfl⟩:=h;exact r) Q1
theorem Mem.Z5{st0:St}(h:Mem st0.h.get st0.n X st M):EJ X st0 st:=⟨h.fresh,h.le,h.old⟩
theorem Mem.Qv(h:Mem h0 n0 X st M)(hk:M[k]? =some (c,m,l)):J5 st.h.get c m l:=h.row c m l (List.mem_of_getElem? hk)
theorem Mem.XY(h:Mem h0 n0 X st M)(hx:c∉X)(r:Va h0 c m l):Va st.h.get c m l:=by
 obtain⟨ro,e,vs,ms,h1,h2⟩:=r
 have hc:c<n0:=Nat.lt_of_not_le fun hle=>by rw[h.base c hle]at h1;cases h1
 exact⟨ro,e,vs,ms,by rw[h.old c hc hx];exact h1,h2⟩
theorem Mem.qf(h:Mem h0 n0 X st M)(q:EJ Y st st')(hY: ∀c∈Y,∃m l,(c,m,l)∈M){M':List (Nat×Nat×List AV)}(hn:(M'.map Prod.fst).Nodup)
  (hM: ∀c m l,(c,m,l)∈M'→((c,m,l)∈M∧c∉Y)∨(J5 st'.h.get c m l∧((∃m l,(c,m,l)∈M)∨st.n≤c))):Mem h0 n0 X st' M':=by
 have hrow: ∀c m l,(c,m,l)∈M'→J5 st'.h.get c m l:=fun c m l hm=>by
  rcases hM c m l hm with⟨h1,h2⟩|⟨h1,_⟩
  ·exact J5.Z5 h.fresh q (h.row c m l h1) h2
  ·exact h1
 refine⟨q.fresh,Nat.le_trans h.le q.le,h.base,hrow,fun c m l hm=>(hrow c m l hm).lt q.fresh,fun c m l hm=>?_,hn,fun c hc hx=>?_⟩
 ·rcases hM c m l hm with⟨h1,_⟩|⟨_,⟨m',l',h1⟩|h1⟩
  ·exact h.own c m l h1
  ·exact h.own c m' l' h1
  ·exact .inl (Nat.le_trans h.le h1)
 ·rw[q.old c (Nat.lt_of_lt_of_le hc h.le) fun hcY=>?_]
  ·exact h.old c hc hx
  ·obtain⟨m,l,hm⟩:=hY c hcY;rcases h.own c m l hm with h1|h1
   ·omega
   ·exact hx h1
theorem Mem.Yl(h:Mem h0 n0 X st M){m':Nat}{l':List AV}(hk:M[k]? =some (c,m,l))(q:EJ [c] st st')(r:J5 st'.h.get c m' l'):Mem h0 n0 X st' (M.set k (c,m',l')):=by
 have hm0:=List.mem_of_getElem? hk
 have hfst:(M.set k (c,m',l')).map Prod.fst=M.map Prod.fst:=by
  apply List.ext_getElem?;intro i;rw[List.getElem?_map,List.getElem?_map,List.getElem?_set]
  by_cases h:k=i
  ·subst h;rw[if_pos rfl,hk];have:=(List.getElem?_eq_some_iff.1 hk).1;simp[this]
  ·rw[if_neg h]
 refine h.qf q (fun c' hc=>?_) (by rw[hfst];exact h.nodup) fun c1 m1 l1 hm=>?_
 ·rw[List.mem_singleton]at hc;subst hc;exact⟨m,l,hm0⟩
 ·obtain⟨i,hi⟩:=List.getElem?_of_mem hm;rw[List.getElem?_set]at hi
  by_cases hki:k=i
  ·subst hki;have:=(List.getElem?_eq_some_iff.1 hk).1;simp[this]at hi;obtain⟨rfl,rfl,rfl⟩:=hi;exact .inr ⟨r,.inl ⟨m,l,hm0⟩⟩
  ·rw[if_neg hki]at hi;refine .inl ⟨List.mem_of_getElem? hi,fun e=>hki ?_⟩;rw[List.mem_singleton]at e
   have h1:(M.map Prod.fst)[k]? =some c:=by rw[List.getElem?_map,hk];rfl
   have h2:(M.map Prod.fst)[i]? =some c:=by rw[List.getElem?_map,hi];simp[e]
   exact(List.getElem?_inj (List.getElem?_eq_some_iff.1 h1).1 h.nodup).1 (h1.trans h2.symm)
theorem Mem.LP(h:Mem h0 n0 X st M)(q:Qt st st')(r:J5 st'.h.get c m l)(hc:st.n≤c):Mem h0 n0 X st' ((c,m,l)::M):=by
 refine h.qf (q.Z5 []) (fun c' hc=>by simp at hc) ?_ fun c1 m1 l1 hm=>?_
 ·rw[List.map_cons];refine List.nodup_cons.2 ⟨fun hm=>?_,h.nodup⟩;obtain⟨⟨c',m',l'⟩,h1,h2⟩:=List.mem_map.1 hm;have:=h.lt c' m' l' h1;simp only at h2;omega
 ·rcases List.mem_cons.1 hm with e|hm
  ·injection e with e1 e2
   injection e2 with e2 e3
   subst e1 e2 e3;exact .inr ⟨r,.inr hc⟩
  ·exact .inl ⟨hm,by simp⟩

structure Cf(P:Program)(t e:TypeId)(z:Nat):Prop where
 u:P.underlying t=some (.slice e)
 s:(P.underlying e).isSome=true
 zc: ∃zc,zeroOf P e=some zc∧zc.length=z
 c:P.cellsOf e=z
 p:1≤z
 b:P.bytesOf e≤1000
theorem VZ{α β:Type}: ∀(n:Nat) (l:List α) (k:List α→Option β),n≤l.length→WK n l k=k (l.take n):=by
 intro n
 induction n with
 |zero=>intro l k _;rfl
 |succ n ih=>
  intro l k hl
  cases l with
  |nil=>simp at hl
  |cons a l=>exact ih l _ (by simpa using hl)
theorem Va.rowOf{h:Hp}{c m:Nat}{l:List AV}(r:Va h c m l): ∃e vs ro ms,rowOf h c m=some (e,vs,l,ro,ms):=by
 obtain⟨ro,e,vs,ms,h1,h2⟩:=r;refine⟨e,vs,ro,ms,?_⟩;unfold Proofs.YthjgndgnmkiaiaaGreatDoor.rowOf;rw[h1,Q6];show ob (nth ms m) _=_;rw[Yo,h2];rfl
theorem VX(T:Cf P t e z){s:AV}(hr2:Va st.h.get c2 m2 l2)(hle:off2+n *z≤l2.length): ∃e2 vs2 ro2 ms2,
  Zm P [t,t] s (.sl c2 m2 off2 n z2) st=(match s with
   |.nils=>Ql (Nat.beq n 0) (some (.nils,st)) (QW (Nat.ble n 1000000000) (AY ((l2.drop off2).take (n *z)) st fun _ c st=>Y9 (P.cellsOf e) fun z=>some (.sl c 0 0 n z,st)))
   |.sl c m off len esz=>QW (Nat.beq esz (P.cellsOf e)) (ob (rowOf st.h.get c m) fun r=>QW (!r.2.2.2.1) (Y9 (len *esz) fun lz=>WK lz (EA off r.2.2.1) fun olds=>
    Ql (Nat.beq n 0) (some (s,st)) (QW (Nat.ble (len+n) 1000000000) (Vc (X0 olds ((l2.drop off2).take (n *z))) fun l=>Y9 (ZT l) fun k=>Y9 (r.2.1+off) fun vs=>
     Vc (X0 (Xx (vs+lz) (vs+lz+n *z) r.2.2.2.2) [(k,vs,some l)]) fun ms=>VR st c (.row false ms) fun st=>Y9 (ZT r.2.2.2.2) fun m'=>Y9 (len+n) fun len'=>some (.sl c m' 0 len' esz,st)))))
   |_=>none)∧rowOf st.h.get c2 m2=some (e2,vs2,l2,ro2,ms2):=by
 obtain⟨e2,vs2,ro2,ms2,h2⟩:=hr2.rowOf;refine⟨e2,vs2,ro2,ms2,?_,h2⟩;obtain⟨zc,hz,hzl⟩:=T.zc;unfold Zm;have hz1:=T.p;simp only[Nat.beq_refl,Ut,T.u,T.s,hz,Q6,Ur,hzl,T.c,Nat.ble_eq_true_of_le T.p,Nat.ble_eq_true_of_le T.b,h2,J6];rw[VZ _ _ _ (by rw[Uo,List.length_drop];omega),Uo]
 cases s<;>simp only[J6,Ur,UW,T.c]
theorem append_nil(T:Cf P t e z)(hr2:Va st.h.get c2 m2 l2)(hle:off2+n *z≤l2.length)(hn:0<n)(hb:n≤1000000000):
  Zm P [t,t] .nils (.sl c2 m2 off2 n z2) st=some (.sl st.n 0 0 n z,⟨st.n+1,st.h.set st.n (.row false [(((l2.drop off2).take (n *z)).length,0,some ((l2.drop off2).take (n *z)))])⟩):=by
 obtain⟨_,_,_,_,h,_⟩:=VX T (s:=.nils) (z2:=z2) hr2 hle;rw[h];have h0:Nat.beq n 0=false:=ur Qk;simp only[h0,QL,Nat.ble_eq_true_of_le hb,Ut,Zw,J6,T.c]
theorem Mem.append(hM:Mem h0 n0 X st M)(T:Cf P t e z)(hk:M[k]? =some (c,m,l))(hl:l.length=len *z)(hr2:Va st.h.get c2 m2 l2)(hle:off2+n *z≤l2.length)(hn:0<n)(hb:len+n≤1000000000):
  ∃m' st1,Zm P [t,t] (.sl c m 0 len z) (.sl c2 m2 off2 n z2) st=some (.sl c m' 0 (len+n) z,st1)∧Mem h0 n0 X st1 (M.set k (c,m',l++(l2.drop off2).take (n *z)))∧st1.n=st.n:=by
 obtain⟨_,_,_,_,h,_⟩:=VX T (s:=.sl c m 0 len z) (z2:=z2) hr2 hle;have hm0:=List.mem_of_getElem? hk;obtain⟨vs,ms,h1,h2⟩:=hM.row c m l hm0
 have hr:rowOf st.h.get c m=some (l.length,vs,l,false,ms):=by
  unfold rowOf;rw[h1,Q6];show ob (nth ms m) _=_;rw[Yo,h2];rfl
 have hbeq:Nat.beq n 0=false:=ur Qk;have hml:=(List.getElem?_eq_some_iff.1 h2).1;refine⟨ms.length,⟨st.n,st.h.set c (.row false (Xx (vs+len *z) (vs+len *z+n *z) ms++[((l++(l2.drop off2).take (n *z)).length,vs,some (l++(l2.drop off2).take (n *z)))]))⟩,?_,?_,rfl⟩
 ·rw[h];simp only[T.c,Nat.beq_refl,Ut,hr,Q6,Bool.not_false,J6];rw[VZ _ _ _ (by rw[Uo,List.drop_zero];omega),Uo,List.drop_zero,List.take_of_length_le Qk];simp only[hbeq,QL,Nat.ble_eq_true_of_le hb,Ut,J6,UW,Ur,Xs,YS,Nat.add_zero]
 ·have hg: ∀x C,(st.h.set c C).get x=if x=c then some C else st.h.get x:=fun x C=>Tr.VV _ _ _ _
  refine hM.Yl hk ⟨fun x hx=>?_,Nat.le_refl _,fun x hx hX=>?_⟩ ⟨vs,_,(hg _ _).trans (if_pos rfl),?_⟩
  ·show(st.h.set c _).get x=none;have:=hM.lt c m l hm0;have hx:st.n≤x:=hx;rw[hg,if_neg Qk];exact hM.fresh x hx
  ·show(st.h.set c _).get x=_;rw[hg,if_neg (by simpa using hX)]
  ·rw[List.getElem?_append_right (by rw[JW];exact Nat.le_refl _),JW,Nat.sub_self];rfl
variable {K:List (Nat×AV)}
theorem KR{y:Operand}{tys:Array TypeId}{u w v:AV}{st1:St}(ht:tys= #[t,t])(hx:JM G K x=some u)(hy:JM G K y=some w)(h:Zm P [t,t] u w st=some (v,st1)):Z6 P G K (.call {callee:=.builtin .append,args:= #[x,y],argTypes:=tys}) st v st1:=.of fun T hT c d ty pos af g=>by
 subst ht;show(ob (Ul G T x) fun a=>ob (Ul G T y) fun b=>Zm P [t,t] a b st)=_;rw[hT.Ul hx,hT.Ul hy,Q6,Q6,h]
theorem RW(T:Cf P t e z){s x:AV}(hs:(match s with|.nils=>true|.sl _ _ _ _ _=>true|_=>false)=true)(hx:(match x with|.nils=>true|.sl0 _ _ _=>true|.slz _ _ _ _ _=>true|_=>false)=true):Zm P [t,t] s x st=some (s,st):=by
 obtain⟨zc,hz,hzl⟩:=T.zc;unfold Zm;simp only[Nat.beq_refl,Ut,T.u,T.s,hz,Q6,Ur,hzl,T.c,Nat.ble_eq_true_of_le T.p,Nat.ble_eq_true_of_le T.b]
 cases x<;>first
  |(cases hx;done)
  |(cases s<;>first|rfl|(cases hs;done))
theorem D8(T:Cf P t e z)(hr2:Va st.h.get c2 m2 l2)(hle:off2≤l2.length):Zm P [t,t] .nils (.sl c2 m2 off2 0 z2) st=some (.nils,st):=by
 obtain⟨_,_,_,_,h,_⟩:=VX T (s:=.nils) (n:=0) (z2:=z2) hr2 (by simpa using hle);rw[h];rfl
theorem D7(T:Cf P t e z)(hr:J5 st.h.get c m l)(hl:l.length=len *z)(hr2:Va st.h.get c2 m2 l2)(hle:off2≤l2.length):Zm P [t,t] (.sl c m 0 len z) (.sl c2 m2 off2 0 z2) st=some (.sl c m 0 len z,st):=by
 obtain⟨_,_,_,_,h,_⟩:=VX T (s:=.sl c m 0 len z) (n:=0) (z2:=z2) hr2 (by simpa using hle);rw[h];obtain⟨vs,ms,h1,h2⟩:=hr
 have hr:rowOf st.h.get c m=some (l.length,vs,l,false,ms):=by
  unfold rowOf;rw[h1,Q6];show ob (nth ms m) _=_;rw[Yo,h2];rfl
 simp only[T.c,Nat.beq_refl,Ut,hr,Q6,Bool.not_false,J6];rw[VZ _ _ _ (by rw[Uo,List.drop_zero];omega)];rfl

theorem Jn.parts{T:Tr AV}(h:Jn K T){parts:Array (Nat×Operand)}{ps:List (Nat×AV)}(hp:Xt (JM G K) parts=some ps):Xt (Proofs.YthjgndgnmkiaiaaGreatDoor.Ul G T) parts=some ps:=by
 unfold Xt at hp ⊢;generalize parts.toList=l at hp ⊢
 induction l generalizing ps with
 |nil=>exact hp
 |cons x l ih=>
  rw[JN]at hp ⊢;obtain⟨b,hb,hp⟩:=Qm hp;obtain⟨t,ht,hp⟩:=Qm hp;obtain⟨v,hv,hb⟩:=Qm hb;rw[h.Ul hv,Q6,Q6,ih ht,Q6]
  injection hb with hb
  subst hb;exact hp
structure ai(P:Program)(t:TypeId)(tbl:List (Nat×Nat))(z:List AV):Prop where
 u: ∃fs,P.underlying t=some (.struct fs)∧LH P fs=true∧fs.toList.map (fun f=>(f.offset,P.cellsOf f.type))=tbl
 z:zeroOf P t=some z
theorem js(fs:Array Field)(tbl:List (Nat×Nat))(h:fs.toList.map (fun f=>(f.offset,P.cellsOf f.type))=tbl):Oc P fs=nth tbl:=by
 funext i
 subst h;unfold Oc;rw[Yo,Yo,List.getElem?_map]
 cases fs.toList[i]? <;>rfl
theorem IK{parts:Array (Nat×Operand)}{tbl:List (Nat×Nat)}{z r:List AV}{ps:List (Nat×AV)}(S:ai P t tbl z)(hp:Xt (JM G K) parts=some ps)(hf:VP (nth tbl) ps z=some r):Z6 P G K (.build t parts) st (.agg r) st:=.of fun T hT c d ty pos af g=>by
 show ret (Ft P t parts (Ul G T)) st=_;obtain⟨fs,u,ft,hb⟩:=S.u;unfold Ft;simp only[u,ft,Ut,S.z,Q6,hT.parts hp,js fs tbl hb,hf,UW];rfl
theorem Hc{parts:Array (Nat×Operand)}{zc r:List AV}{ps:List (Nat×AV)}(T:Cf P t e z)(hz:zeroOf P e=some zc)(hp:Xt (JM G K) parts=some ps)(hf:VP (fun i=>some (i *z,z)) ps (WG len zc)=some r)(hc:W4 QI r=true)(hb:len *z≤16777216)(hM:Mem h0 n0 X st M):
  ∃c st1,Z6 P G K (.buildSlice t len parts) st (.sl c 0 0 len z) st1∧Mem h0 n0 X st1 ((c,0,r)::M):=by
 refine⟨st.n,_,.of fun T' hT c d ty pos af g=>?_,hM.alloc r⟩;show X9 P t len parts (Ul G T') st=_;obtain⟨zc',h1,h2⟩:=T.zc;rw[hz]at h1
 injection h1 with h1
 subst h1;unfold X9;simp only[T.u,T.s,Ut,hz,Q6,Ur,h2,T.c,Nat.beq_refl,Nat.ble_eq_true_of_le T.p,Nat.ble_eq_true_of_le hb,hT.parts hp,hf,hc,Zw,J6]

theorem Jn.lo{T:Tr AV}(h:Jn K T){lo:Option Operand}{a:Nat}(hl:XT (JM G K) lo=some a):XT (Proofs.YthjgndgnmkiaiaaGreatDoor.Ul G T) lo=some a:=by
 cases lo with
 |none=>exact hl
 |some x=>
  have hl:(ob (JM G K x) fun v=>match v with
   |.int _ i=>GV i
   |_=>none)=some a:=hl
  obtain⟨v,hv,hl⟩:=Qm hl
  show(ob (Proofs.YthjgndgnmkiaiaaGreatDoor.Ul G T x) fun v=>match v with
   |.int _ i=>GV i
   |_=>none)=some a
  rw[h.Ul hv,Q6];exact hl
theorem Jn.hi{T:Tr AV}(h:Jn K T){hi:Option Operand}{n a:Nat}(hl:XU (JM G K) hi n=some a):XU (Proofs.YthjgndgnmkiaiaaGreatDoor.Ul G T) hi n=some a:=by
 cases hi with
 |none=>exact hl
 |some x=>
  have hl:(ob (JM G K x) fun v=>match v with
   |.int _ i=>GV i
   |_=>none)=some a:=hl
  obtain⟨v,hv,hl⟩:=Qm hl
  show(ob (Proofs.YthjgndgnmkiaiaaGreatDoor.Ul G T x) fun v=>match v with
   |.int _ i=>GV i
   |_=>none)=some a
  rw[h.Ul hv,Q6];exact hl
theorem jv{lo hi:Option Operand}{l:List Nat}{a b:Nat}(ht:P.underlying t=some .string)(hx:JM G K x=some (.str l))(hl:XT (JM G K) lo=some a)(hh:XU (JM G K) hi l.length=some b)(h1:a≤b)(h2:b≤l.length):
  Z6 P G K (.slice t x lo hi none) st (.str ((l.drop a).take (b-a))) st:=zr hx fun T hT=>by
 unfold EU;simp only[ht,J6,Ur,hT.lo hl,hT.hi hh,Q6,Nat.ble_eq_true_of_le h1,Nat.ble_eq_true_of_le h2,Ut];rw[VZ _ _ _ (by rw[Uo,List.length_drop];omega),Uo]
theorem zu{s d:TypeId}{k k':IntKind}{n:Int}(hd:P.underlying d=some (.int k'))(hs:P.underlying s=some (.int k))(hx:JM G K x=some (.int k n)):Z6 P G K (.convert s d x) st (.int k' (k'.wrap n)) st:=Tc hx (by
 unfold RA;simp only[hs];unfold conv
 simp only[hd,hs,Option.isSome_some,Ut,ZR,Yw])
end

structure Ja(h:Hp)(X:List Nat)(z:Nat)(ls:List (List AV))(ks:AV):Prop where
 len:VN ks=some ls.length
 W9:(ls.length:Int)≤9223372036854775807
 cell:QI ks=true
 at_: ∀(i:Nat) (cs:List AV),ls[i]? =some cs→ ∃c m off cells,ks=.sl c m off ls.length z∧c∉X∧Va h c m cells∧cs.length=z∧(cells.drop (off+i *z)).take z=cs
 alive: ∀(c m off n z':Nat),ks=.sl c m off n z'→c∉X∧ ∃cells,Va h c m cells∧off+n *z≤cells.length
theorem Ja.mem{h0:Hp}{n0:Nat}{X:List Nat}{st:St}{M:List (Nat×Nat×List AV)}(hM:Mem h0 n0 Y st M)(r:Ja h0 X z ls ks)(hY: ∀c∈Y,c∈X):Ja st.h.get X z ls ks:=
 ⟨r.len,r.W9,r.cell,fun i cs hi=>by
  obtain⟨c,m,off,cells,h1,h2,h3,h4⟩:=r.at_ i cs hi
  exact⟨c,m,off,cells,h1,h2,hM.XY (fun hc=>h2 (hY c hc)) h3,h4⟩,fun c m off n z' e=>by
  obtain⟨h1,cells,h2,h3⟩:=r.alive c m off n z' e
  exact⟨h1,cells,hM.XY (fun hc=>h1 (hY c hc)) h2,h3⟩⟩
theorem Ja.nil(h:Hp)(X:List Nat)(z:Nat):Ja h X z [] .nils:=⟨rfl,by simp,rfl,fun i cs hi=>by simp at hi,fun _ _ _ _ _ e=>by cases e⟩
theorem Wv: ∀{ls:List (List AV)},(∀cs∈ls,cs.length=z)→ls.flatten.length=ls.length *z:=by
 intro ls
 induction ls with
 |nil=>intro _;simp
 |cons a l ih=>
  intro h;rw[List.flatten_cons,List.length_append,ih fun cs hc=>h cs (List.mem_cons_of_mem _ hc),h a (List.mem_cons_self ..),List.length_cons,Nat.succ_mul,Nat.add_comm]
theorem FD: ∀{ls:List (List AV)} (i:Nat) (cs:List AV),(∀cs∈ls,cs.length=z)→ls[i]? =some cs→(ls.flatten.drop (i *z)).take z=cs:=by
 intro ls
 induction ls with
 |nil=>intro i cs _ h;simp at h
 |cons a l ih=>
  intro i cs hz hi;have ha:=hz a (List.mem_cons_self ..)
  cases i with
  |zero=>
   simp at hi;subst hi;rw[Nat.zero_mul,List.drop_zero,List.flatten_cons,List.take_append_of_le_length Qk,List.take_of_length_le Qk]
  |succ i=>
   rw[Nat.succ_mul,Nat.add_comm,List.flatten_cons,←List.drop_drop,←ha,List.drop_left];rw[ha];exact ih i cs (fun cs hc=>hz cs (List.mem_cons_of_mem _ hc)) (by simpa using hi)
theorem Ja.own{X:List Nat}(r:J5 h c m ls.flatten)(hz: ∀cs∈ls,cs.length=z)(hX:c∉X)(hb:(ls.length:Int)≤9223372036854775807):Ja h X z ls (.sl c m 0 ls.length z):=
 ⟨rfl,hb,rfl,fun i cs hi=>⟨c,m,0,_,rfl,hX,r.WY,hz cs (List.mem_of_getElem? hi),by rw[Nat.zero_add];exact FD i cs hz hi⟩,fun c' m' off n z' e=>by
  injection e with e1 e2 e3 e4 e5
  subst e1 e2 e3 e4 e5
  exact⟨hX,_,r.WY,by rw[Wv hz];omega⟩⟩
theorem Ja.load{P:Program}{X:List Nat}(r:Ja h X z ls ks){i:Nat}{cs:List AV}(hi:ls[i]? =some cs): ∃c m off,ks=.sl c m off ls.length z∧c∉X∧
  (∀t,tk P t=.agg z→JB P t (.ptr c m (off+i *z)) h=some (.agg cs))∧(∀t j v,tk P t=.one→cs[j]? =some v→JB P t (.ptr c m (off+i *z+j)) h=some v)∧
  ∀t j n,tk P t=.agg n→j+n≤z→JB P t (.ptr c m (off+i *z+j)) h=some (.agg ((cs.drop j).take n)):=by
 obtain⟨c,m,off,cells,h1,h2,⟨ro,e,vs,ms,h3,h4⟩,h5,h6⟩:=r.at_ i cs hi
 have hld: ∀t o,JB P t (.ptr c m o) h=Ve P t cells o:=fun t o=>by
  show ob (rowOf h c m) _=_;unfold rowOf;rw[h3,Q6];show ob (ob (nth ms m) _) _=_;rw[Yo,h4];rfl
 have hlen:off+i *z+z≤cells.length∨z=0:=by
  rw[←h6,List.length_take,List.length_drop]at h5;omega
 refine⟨c,m,off,h1,h2,fun t ht=>?_,fun t j v ht hv=>?_,fun t j n ht hj=>?_⟩
 ·rw[hld];refine Jl ht ?_;rw[VZ _ _ _ (by rw[Uo,List.length_drop];omega),Uo,h6]
 ·rw[hld];refine Qj ht ?_
  have hj:j<z:=by rw[←h5];exact(List.getElem?_eq_some_iff.1 hv).1
  rw[Yo,←List.getElem?_drop];rw[←h6,List.getElem?_take,if_pos hj]at hv;exact hv
 ·rw[hld];refine Jl ht ?_;rw[VZ _ _ _ (by rw[Uo,List.length_drop];omega),Uo,←List.drop_drop,←h6,List.drop_take,List.take_take,Nat.min_eq_left Qk]
theorem Ja.Wq{P:Program}{h':Hp}{X:List Nat}(r:Ja h X z ls ks)(r':Ja h' Y z ls ks){i:Nat}{cs:List AV}(hi:ls[i]? =some cs): ∃c m off,ks=.sl c m off ls.length z∧c∉X∧
  (∀t,tk P t=.agg z→JB P t (.ptr c m (off+i *z)) h=some (.agg cs))∧(∀t j v,tk P t=.one→cs[j]? =some v→JB P t (.ptr c m (off+i *z+j)) h=some v)∧
  (∀t j n,tk P t=.agg n→j+n≤z→JB P t (.ptr c m (off+i *z+j)) h=some (.agg ((cs.drop j).take n)))∧
  (∀t,tk P t=.agg z→JB P t (.ptr c m (off+i *z)) h'=some (.agg cs))∧(∀t j v,tk P t=.one→cs[j]? =some v→JB P t (.ptr c m (off+i *z+j)) h'=some v)∧
  (∀t j n,tk P t=.agg n→j+n≤z→JB P t (.ptr c m (off+i *z+j)) h'=some (.agg ((cs.drop j).take n))):=by
 obtain⟨c,m,off,e,hX,h1,h2,h3⟩:=r.load (P:=P) hi;obtain⟨c',m',off',e',_,k1,k2,k3⟩:=r'.load (P:=P) hi;rw[e]at e'
 injection e' with e1 e2 e3
 subst e1 e2 e3;exact⟨c,m,off,e,hX,h1,h2,h3,k1,k2,k3⟩
end
section
open Go Go.RowKit
variable {f:FuncId}

theorem HR.ey{w0:World}{p:Jy}{h:Hp}{w w':World}{c:Nat}(H:HR w0 p h w)(hB:Below w.heap.size w w')(hc:h c=none){v:Value}{n z:Nat}{el:TypeId}{az:List AV}(hown:w'.ownsRow w.heap.size el z v n (Qn p az))(hn:0<n)(hz:0<z)
  (hw:YN h az) (ho: ∀a∈az,QI a=true): ∃p',Step w0 p w p' (FQ h c (.row false [(az.length,0,some az)])) w'∧v=Qe p' (.sl c 0 0 n z)∧az.length=n *z:=by
 obtain⟨hl,hv⟩:=hown
 have hlen:az.length=n *z:=by rw[←QE p az];exact hl
 rcases hv with⟨_,rfl⟩|⟨g,cap,cur,rfl,hb,hg,hnc,hcm,hsz,htk⟩
 ·omega
 have hgl:=(Array.getElem?_eq_some_iff.1 hg).1;have hle:Jy.le p (X5 p c g (cap *z)):=Od H hc _ _
 have hgr:Grow h (FQ h c (.row false [(az.length,0,some az)])):=ZH fun C hC=>by rw[hc]at hC;cases hC
 refine⟨X5 p c g (cap *z),?_,?_,hlen⟩
 ·refine H.LW hB.os hB.tape hB.output hB.size hle ?_ (fun b hb _=>hB.block b hb) (fun b hb=>hB.block b (Nat.lt_of_lt_of_le hb H.size)) ?_ ?_ (fun C hC=>by rw[hc]at hC;cases hC) ⟨fun m e vs cs hm=>?_,fun m e vs cs m' e' vs' cs' q q' h1 h2 h3 h4 _=>?_⟩
  ·intro c' m x hx;unfold X5 at hx
   split at hx
   ·rename_i hh;exact .inr hh.1
   ·exact .inl hx
  ·intro m x hx _;unfold X5 at hx
   split at hx
   ·injection hx with hx;subst hx;exact⟨hgl,.inl hb⟩
   ·rw[H.XE hc m]at hx;cases hx
  ·intro m x hx;unfold X5 at hx
   split at hx
   ·rename_i hh;rw[hh.2];exact Nat.zero_lt_one
   ·rw[H.XE hc m]at hx;cases hx
  ·cases m with
   |succ m=>simp at hm
   |zero=>
    simp at hm;obtain⟨rfl,rfl,rfl⟩:=hm;refine⟨_,_,el,Y1 _ _ _ _,.of hg,?_,?_,fun _=>Nat.le_trans H.size hb,fun l' hl'=>?_⟩
    ·show 0+cap *z≤cur.size;omega
    ·show az.length≤cap *z;rw[hlen];exact Nat.mul_le_mul_right _ hnc
    ·injection hl' with hl'
     subst hl';refine⟨rfl,fun j v hj=>?_⟩;have hv:=hw.get hj;refine⟨?_,WF.grow hgr v hv,ho v (List.mem_of_getElem? hj)⟩;rw[UQ H.Ed hle v hv,Nat.zero_add];have h1:=XM (p:=p) az j v hj;rw[←htk,List.getElem?_toArray,List.getElem?_take]at h1
     split at h1
     ·rw[Array.getElem?_toList]at h1;exact h1
     ·cases h1
  ·cases m with
   |succ m=>simp at h1
   |zero=>cases m' with
    |succ m'=>simp at h2
    |zero=>
     simp at h1 h2;obtain⟨_,rfl,_⟩:=h1;obtain⟨_,rfl,_⟩:=h2;rw[h3]at h4
     injection h4 with h4
     rw[h4]
 ·simp only[Qe,Y1,Nat.sub_zero,Nat.add_zero];rw[Nat.mul_div_cancel _ hz]
theorem HR.under{w0:World}{p:Jy}{h:Hp}{w:World}(H:HR w0 p h w):Below w0.heap.size w0 w:=⟨H.os,H.tape,H.output,H.size,H.old⟩

def Real(P:Program)(f:FuncId):Prop:= ∃fn,P.funcs[f]? =some fn∧fn.body.isSome=true∧(fn.name== "runtime.NumGoroutine")=false
noncomputable def qO(F:List AV→Option AV):List AV→St→Option (AV×St):=fun args st=>ob (F args) fun v=>some (v,st)
theorem Mo{P:Program}{G:Env}{F:List AV→Option AV}{I:World→Prop}(hr:Real P f)(hI: ∀w0 w,G.i w0→Below w0.heap.size w0 w→I w)
  (hF: ∀(h:Hp) args v,F args=some v→YN h args→WF h v∧ ∀(p:Jy) (w:World),I w→Calls P f (Qn p args).toArray w fun e w'=>e=.returned (Qe p v)∧Below w.heap.size w w'):Vh P G f (qO F):=by
 intro args st v st' hs hf ha;obtain⟨u,hu,hs⟩:=Qm hs
 injection hs with hs
 injection hs with e1 e2
 subst e1 e2;obtain⟨h1,h2⟩:=hF _ _ _ hu ha;refine⟨hr,fun w0 p w H hG=>⟨Ab.refl _,(h2 p w (hI w0 w hG.2 H.under)).mono fun e w' he=>?_⟩⟩;obtain⟨rfl,hb⟩:=he;exact⟨p,rfl,H.Zy hb,h1⟩
noncomputable def ET(z:Nat)(F:List AV→Option (List AV×Nat×List AV)):List AV→St→Option (AV×St):=fun args st=>ob (F args) fun r=>
 Nat.rec (some (.tup (.nils::r.2.2),st)) (fun k _=>some (.tup (.sl st.n 0 0 (k+1) z::r.2.2),⟨st.n+1,st.h.set st.n (.row false [(r.1.length,0,some r.1)])⟩)) r.2.1
theorem Bb{P:Program}{G:Env}{z:Nat}{el:TypeId}{F:List AV→Option (List AV×Nat×List AV)}{I:World→Prop}(hr:Real P f)(hz:0<z)(hI: ∀w0 w,G.i w0→Below w0.heap.size w0 w→I w)
  (hF: ∀(h:Hp) args az n rest,F args=some (az,n,rest)→YN h args→YN h az∧YN h rest∧(∀a∈az,QI a=true)∧ ∀(p:Jy) (w:World),I w→Calls P f (Qn p args).toArray w fun e w'=>
   ∃v,e=.returned (.tuple (v::Qn p rest).toArray)∧w'.ownsRow w.heap.size el z v n (Qn p az)∧Below w.heap.size w w'∧(n=0→v=.slice none 0 0)):Vh P G f (ET z F):=by
 intro args st v st' hs hf ha;obtain⟨⟨az,n,rest⟩,hu,hs⟩:=Qm hs;obtain⟨h1,h2,h3,h4⟩:=hF _ _ _ _ _ hu ha
 cases n with
 |zero=>
  have hs:some (AV.tup (.nils::rest),st)=some (v,st'):=hs
  injection hs with hs
  injection hs with e1 e2
  subst e1 e2;refine⟨hr,fun w0 p w H hG=>⟨Ab.refl _,(h4 p w (hI w0 w hG.2 H.under)).mono fun e w' he=>?_⟩⟩;obtain⟨u,rfl,_,hb,hu⟩:=he;rw[hu rfl];exact⟨p,rfl,H.Zy hb,trivial,h2⟩
 |succ k=>
  have hs:some (AV.tup (.sl st.n 0 0 (k+1) z::rest),(⟨st.n+1,st.h.set st.n (.row false [(az.length,0,some az)])⟩:St))=some (v,st'):=hs
  injection hs with hs
  injection hs with e1 e2
  subst e1 e2;refine⟨hr,fun w0 p w H hG=>⟨D9 hf _,(h4 p w (hI w0 w hG.2 H.under)).mono fun e w' he=>?_⟩⟩;obtain⟨u,rfl,ho,hb,_⟩:=he;obtain⟨p',k1,k2,k3⟩:=H.ey hb (hf st.n (Nat.le_refl _)) ho (Nat.succ_pos k) hz h1 h3;refine⟨p',?_,by rw[Uq];exact k1,?_,?_⟩
  ·simp only[Qe,Qn];rw[k2,EC H.Ed k1.le rest h2];rfl
  ·rw[Uq];exact Iq _ _ _ _ _ _ _ _ hz (by rw[k3];exact Nat.le_refl _)
  ·exact YN.grow (D9 hf _).grow rest h2
noncomputable def WO(l:List (FuncId×(List AV→St→Option (AV×St))))(f:FuncId):Option (List AV→St→Option (AV×St)):=List.rec none (fun q _ ih=>Ql (Nat.beq f q.1) (some q.2) ih) l
theorem FF{l:List (FuncId×(List AV→St→Option (AV×St)))}{q:List AV→St→Option (AV×St)}(h:WO l f=some q):(f,q)∈l:=by
 induction l with
 |nil=>cases h
 |cons x l ih=>
  have h:Ql (Nat.beq f x.1) (some x.2) (WO l f)=some q:=h
  cases hb:Nat.beq f x.1 with
  |true=>
   rw[hb]at h
   injection h with h
   subst h;rw[Nat.eq_of_beq_eq_true hb];exact List.mem_cons_self ..
  |false=>rw[hb]at h;exact List.mem_cons_of_mem _ (ih h)
end
section
open Go
variable {a:AV} {c c2 j k2 m m2 n off:Nat} {e t:TypeId} {k:IntKind} {l l2:List AV} {pol:Bool} {x y:Operand}

section
variable {P:Program} {G:Env} {N:Nat} {T:Tr AV} {st:St} {ops rest:List Oper} {K:List (Nat×AV)} {R:Tr AV→St→Prop} {d:Nat} {op:Op} {ty:TypeId} {pos:String} {af:Array Edge} {v:AV} {st1:St}
theorem o1(hK:Jn K T)(h:Z6 P G K op st v st1)(hN:Nat.ble (d+1) N=true)(hn: ∀T',Jn ((d,v)::K) T'→WR P G N ops rest R T' st1):WR P G N ops (⟨some d,op,ty,pos,af,none⟩::rest) R T st:=GR hK h (Nat.le_of_ble_eq_true hN) hn
theorem oB{x:Bool}(hK:Jn K T)(h:Z6 P G K op st (.bool x) st1)(hN:Nat.ble (d+1) N=true)(hn: ∀(b:Bool) T',x=b→Jn ((d,.bool b)::K) T'→WR P G N ops rest R T' st1):WR P G N ops (⟨some d,op,ty,pos,af,none⟩::rest) R T st:=fc hK h (Nat.le_of_ble_eq_true hN) hn
theorem og{t:Nat}(hK:Jn K T)(ht:YY ops j=some t)(hb:K.lookup t=some (.bool pol))(h:Z6 P G K op st v st1)(hN:Nat.ble (d+1) N=true)(hn: ∀T',Jn ((d,v)::K) T'→WR P G N ops rest R T' st1):WR P G N ops (⟨some d,op,ty,pos,af,some (j,pol)⟩::rest) R T st:=ao hK ht hb h (Nat.le_of_ble_eq_true hN) hn
theorem uC{t:Nat}{x:Bool}(hK:Jn K T)(ht:YY ops j=some t)(hb:K.lookup t=some (.bool pol))(h:Z6 P G K op st (.bool x) st1)(hN:Nat.ble (d+1) N=true)(hn: ∀(b:Bool) T',x=b→Jn ((d,.bool b)::K) T'→WR P G N ops rest R T' st1):WR P G N ops (⟨some d,op,ty,pos,af,some (j,pol)⟩::rest) R T st:=ao hK ht hb h (Nat.le_of_ble_eq_true hN) (hn x · rfl)
theorem gn{t:Nat}{b:Bool}(hK:Jn K T)(ht:YY ops j=some t)(hb:K.lookup t=some (.bool b))(hne:(b==pol)=false)(hN:Nat.ble (d+1) N=true)(hn: ∀T',Jn ((d,.tup [])::K) T'→WR P G N ops rest R T' st):WR P G N ops (⟨some d,op,ty,pos,af,some (j,pol)⟩::rest) R T st:=kA hK ht hb hne (Nat.le_of_ble_eq_true hN) hn
end
section
variable {P:Program} {G:Env} {N:Nat} {st:St} {K:List (Nat×AV)} {T:Tr AV} {ops:List Oper} {r:List (Nat×Nat)} {R:Tr AV→St→Prop} {sn:List St} {i d:Nat} {op:Op} {ty:TypeId} {pos:String} {af:Array Edge} {v:AV} {st1:St}
theorem d1(ho:ops[i]? =some ⟨some d,op,ty,pos,af,none⟩)(hK:Jn K T)(h:Z6 P G K op st v st1)(hk:Nat.beq (QH P op) 3=false)(hN:Nat.ble (d+1) N=true)(hn: ∀T',Jn ((d,v)::K) T'→WD P G N ops (r.map (ZP ops)) R T' st1 sn):WD P G N ops (((i,0)::r).map (ZP ops)) R T st sn:=Mb ho hK h hk (Nat.le_of_ble_eq_true hN) hn
theorem dA(ho:ops[i]? =some ⟨some d,op,ty,pos,af,none⟩)(hK:Jn K T)(h:Z6 P G K op st v st1)(hk:Nat.beq (QH P op) 3=true)(hN:Nat.ble (d+1) N=true)(hn: ∀T',Jn ((d,v)::K) T'→WD P G N ops (r.map (ZP ops)) R T' st1 (st1::sn)):WD P G N ops (((i,0)::r).map (ZP ops)) R T st sn:=Sm ho hK h hk (Nat.le_of_ble_eq_true hN) hn
theorem dB{x:Bool}(ho:ops[i]? =some ⟨some d,op,ty,pos,af,none⟩)(hK:Jn K T)(h:Z6 P G K op st (.bool x) st1)(hk:Nat.beq (QH P op) 3=false)(hN:Nat.ble (d+1) N=true)(hn: ∀(b:Bool) T',x=b→Jn ((d,.bool b)::K) T'→WD P G N ops (r.map (ZP ops)) R T' st1 sn):WD P G N ops (((i,0)::r).map (ZP ops)) R T st sn:=fe ho hK h hk (Nat.le_of_ble_eq_true hN) hn
theorem dg{t:Nat}(ho:ops[i]? =some ⟨some d,op,ty,pos,af,some (j,pol)⟩)(hK:Jn K T)(ht:YY ops j=some t)(hb:K.lookup t=some (.bool pol))(h:Z6 P G K op st v st1)(hk:Nat.beq (QH P op) 3=false)(hN:Nat.ble (d+1) N=true)(hn: ∀T',Jn ((d,v)::K) T'→WD P G N ops (r.map (ZP ops)) R T' st1 sn):WD P G N ops (((i,0)::r).map (ZP ops)) R T st sn:=kC ho hK ht hb h hk (Nat.le_of_ble_eq_true hN) hn
theorem oV{t:Nat}(ho:ops[i]? =some ⟨some d,op,ty,pos,af,some (j,pol)⟩)(hK:Jn K T)(ht:YY ops j=some t)(hb:K.lookup t=some (.bool pol))(h:Z6 P G K op st v st1)(hk:Nat.beq (QH P op) 3=true)(hN:Nat.ble (d+1) N=true)(hn: ∀T',Jn ((d,v)::K) T'→WD P G N ops (r.map (ZP ops)) R T' st1 (st1::sn)):WD P G N ops (((i,0)::r).map (ZP ops)) R T st sn:=ff ho hK ht hb h hk (Nat.le_of_ble_eq_true hN) hn
theorem Z2{t:Nat}{b:Bool}(ho:ops[i]? =some ⟨some d,op,ty,pos,af,some (j,pol)⟩)(hK:Jn K T)(ht:YY ops j=some t)(hb:K.lookup t=some (.bool b))(hne:(b==pol)=false)(hN:Nat.ble (d+1) N=true)(hn: ∀sn' T',Jn ((d,.tup [])::K) T'→WD P G N ops (r.map (ZP ops)) R T' st sn'):WD P G N ops (((i,n)::r).map (ZP ops)) R T st sn:=kD ho hK ht hb hne (Nat.le_of_ble_eq_true hN) (fun T' sn'=>hn sn' T')
end

theorem qD{ops:List Oper}{K:List (Nat×AV)}{T:Tr AV}{t:Nat}{d:Option Nat}{op:Op}{ty:TypeId}{pos:String}{af:Array Edge}(hK:Jn K T)(ht:YY ops j=some t)(hb:K.lookup t=some (.tup [])):Yg ops ⟨d,op,ty,pos,af,some (j,pol)⟩ T=false:=by
 unfold Yg;simp only[ht];rw[show Zc T t=.tup []from hK t _ hb]
theorem oU{P:Program}{G:Env}{N:Nat}{T:Tr AV}{st:St}{ops rest:List Oper}{K:List (Nat×AV)}{R:Tr AV→St→Prop}{d:Nat}{op:Op}{ty:TypeId}{pos:String}{af:Array Edge}{t:Nat}(hK:Jn K T)(ht:YY ops j=some t)(hb:K.lookup t=some (.tup []))(hN:Nat.ble (d+1) N=true)(hn: ∀T',Jn ((d,.tup [])::K) T'→WR P G N ops rest R T' st):WR P G N ops (⟨some d,op,ty,pos,af,some (j,pol)⟩::rest) R T st:=by
 obtain⟨L',n',T',st',h1,h2⟩:=hn _ (hK.set d (.tup []));refine⟨L',n',T',st',?_,h2⟩;show(ob (YA P G _ ops _ T st) fun r=>Az N (some d) r.1 T fun T=>tl (Hv P G _ N ops rest T r.2))=_;unfold YA;rw[qD hK ht hb,QL,Q6];show QW (Nat.ble (d+1) N) (T.put d (.tup []) _)=_;rw[hN,Tr.put_eq];exact h1
section
variable {P:Program} {G:Env} {N:Nat} {T:Tr AV} {st:St} {ops rest:List Oper} {K:List (Nat×AV)} {R:Tr AV→St→Prop} {d:Nat} {ty:TypeId} {pos:String} {af:Array Edge} {h0:Hp} {n0:Nat} {X:List Nat} {M:List (Nat×Nat×List AV)}
theorem DF{len z:Nat}{parts:Array (Nat×Operand)}{zc r:List AV}{ps:List (Nat×AV)}(hK:Jn K T)(hM:Mem h0 n0 X st M)(S:Cf P t e z)(hz:zeroOf P e=some zc)(hp:Xt (JM G K) parts=some ps)(hf:VP (fun i=>some (i *z,z)) ps (WG len zc)=some r)(hc:W4 QI r=true)(hb:Nat.ble (len *z) 16777216=true)(hN:Nat.ble (d+1) N=true)
  (hn: ∀(c:Nat) T' st',Jn ((d,.sl c 0 0 len z)::K) T'→Mem h0 n0 X st' ((c,0,r)::M)→WR P G N ops rest R T' st'):WR P G N ops (⟨some d,.buildSlice t len parts,ty,pos,af,none⟩::rest) R T st:=by
 obtain⟨c,st1,h1,h2⟩:=Hc (G:=G) S hz hp hf hc (Nat.le_of_ble_eq_true hb) hM;exact GR hK h1 (Nat.le_of_ble_eq_true hN) fun T' hT'=>hn c T' st1 hT' h2
theorem DH{sn:List St}{i:Nat}{rr:List (Nat×Nat)}{len z:Nat}{parts:Array (Nat×Operand)}{zc r:List AV}{ps:List (Nat×AV)}(ho:ops[i]? =some ⟨some d,.buildSlice t len parts,ty,pos,af,none⟩)(hK:Jn K T)(hM:Mem h0 n0 X st M)(S:Cf P t e z)(hz:zeroOf P e=some zc)(hp:Xt (JM G K) parts=some ps)(hf:VP (fun i=>some (i *z,z)) ps (WG len zc)=some r)(hc:W4 QI r=true)(hb:Nat.ble (len *z) 16777216=true)(hN:Nat.ble (d+1) N=true)
  (hn: ∀(c:Nat) T' st',Jn ((d,.sl c 0 0 len z)::K) T'→Mem h0 n0 X st' ((c,0,r)::M)→WD P G N ops (rr.map (ZP ops)) R T' st' sn):WD P G N ops (((i,0)::rr).map (ZP ops)) R T st sn:=by
 obtain⟨c,st1,h1,h2⟩:=Hc (G:=G) S hz hp hf hc (Nat.le_of_ble_eq_true hb) hM;exact Mb ho hK h1 rfl (Nat.le_of_ble_eq_true hN) fun T' hT'=>hn c T' st1 hT' h2
end

inductive Acc(n0 z:Nat):List (Nat×Nat×List AV)→AV→List (List AV)→Prop
 |none:Acc n0 z [] .nils []
 |own {c m:Nat} {ls:List (List AV)} (hc:n0≤c) (hz: ∀cs∈ls,cs.length=z) (hb:ls.length≤1000000000):Acc n0 z [(c,m,ls.flatten)] (.sl c m 0 ls.length z) ls
theorem Acc.less{n0 n1 z:Nat}{A:List (Nat×Nat×List AV)}{ks:AV}{ls:List (List AV)}(h:Acc n0 z A ks ls)(hn:n1≤n0):Acc n1 z A ks ls:=by
 cases h with
 |none=>exact .none
 |own hc hz hb=>exact .own (Nat.le_trans hn hc) hz hb
theorem Acc.len{n0 z:Nat}{A:List (Nat×Nat×List AV)}{ks:AV}{ls:List (List AV)}(h:Acc n0 z A ks ls):VN ks=some ls.length:=by cases h<;>rfl
theorem Acc.cell{n0 z:Nat}{A:List (Nat×Nat×List AV)}{ks:AV}{ls:List (List AV)}(h:Acc n0 z A ks ls):QI ks=true:=by cases h<;>rfl
section
variable {P:Program} {G:Env} {N:Nat} {h0:Hp} {n0:Nat} {X:List Nat} {st:St} {M L A B:List (Nat×Nat×List AV)} {z:Nat} {ks:AV} {ls:List (List AV)}
theorem Mem.perm(h:Mem h0 n0 X st M){M':List (Nat×Nat×List AV)}(p:M.Perm M'):Mem h0 n0 X st M':=
 ⟨h.fresh,h.le,h.base,fun c m l hm=>h.row c m l (p.mem_iff.2 hm),fun c m l hm=>h.lt c m l (p.mem_iff.2 hm),fun c m l hm=>h.own c m l (p.mem_iff.2 hm),(p.map _).nodup_iff.1 h.nodup,h.old⟩
theorem Mem.cast(h:Mem h0 n0 X st M){M':List (Nat×Nat×List AV)}(e:M=M'):Mem h0 n0 X st M':=e▸h
theorem Mem.ag(hM:Mem h0 n0 X st (L++(A++B))){n1:Nat}(hA:Acc n1 z A ks ls):Ja st.h.get [] z ls ks:=by
 cases hA with
 |none=>exact .nil _ _ _
 |own hc hz hb=>
  rename_i c m;exact Ja.own (hM.row c m _ Q1) hz Q1 Qk
theorem wh(L B:List (Nat×Nat×List AV))(a b:Nat×Nat×List AV):(L++([a]++B)).set L.length b=L++([b]++B):=by
 rw[List.set_append_right _ _ (Nat.le_refl _),Nat.sub_self];rfl
theorem ew(L B:List (Nat×Nat×List AV))(a:Nat×Nat×List AV):(L++([a]++B))[L.length]? =some a:=by
 rw[List.getElem?_append_right (Nat.le_refl _),Nat.sub_self];rfl
theorem Mem.lY(hM:Mem h0 n0 X st (L++(A++B)))(hA:Acc n0 z A ks ls)(T:Cf P t e z){ks2:AV}{ls2:List (List AV)}{Y:List Nat}(hy:Ja st.h.get Y z ls2 ks2)(hz2: ∀cs∈ls2,cs.length=z)(hb:ls.length+ls2.length≤1000000000):
  ∃ks' A' st1,Zm P [t,t] ks ks2 st=some (ks',st1)∧Acc n0 z A' ks' (ls++ls2)∧Mem h0 n0 X st1 (L++(A'++B)):=by
 have hzz: ∀cs∈ls++ls2,cs.length=z:=fun cs hc=>by
  rcases List.mem_append.1 hc with hc|hc
  ·cases hA with
   |none=>cases hc
   |own h1 h2 h3=>exact h2 cs hc
  ·exact hz2 cs hc
 have hl2:=hy.len
 cases ls2 with
 |nil=>
  rw[List.append_nil];refine⟨ks,A,st,?_,hA,hM⟩
  cases ks2<;>first
   |(cases hl2;done)
   |(refine RW T ?_ rfl;cases hA<;>rfl)
   |skip
  rename_i c2 m2 off2 n2 z2
  injection hl2 with hl2
  have hl2:n2=0:=hl2;subst hl2;obtain⟨_,cells,h1,h2⟩:=hy.alive _ _ _ _ _ rfl
  cases hA with
  |none=>exact D8 T h1 Qk
  |own h3 h4 h5=>
   rename_i c m;exact D7 T (hM.row c m _ Q1) (Wv h4) h1 Qk
 |cons x ls2=>
  obtain⟨c2,m2,off2,cells0,rfl,_,_,_,_⟩:=hy.at_ 0 x rfl;obtain⟨_,cells,hr2,hle⟩:=hy.alive _ _ _ _ _ rfl
  have hrow:(cells.drop off2).take ((x::ls2).length *z)=(x::ls2).flatten:=by
   apply List.ext_getElem?;intro j;rw[List.getElem?_take]
   split
   ·rename_i hj;rw[List.getElem?_drop];have hz0:0<z:=T.p;have hjd:j/z<(x::ls2).length:=Nat.div_lt_of_lt_mul (by rw[Nat.mul_comm];exact hj);obtain⟨cs,hcs⟩: ∃cs,(x::ls2)[j/z]? =some cs:=⟨_,List.getElem?_eq_getElem hjd⟩;obtain⟨c',m',off',cells',e,_,hr',h5,h6⟩:=hy.at_ _ _ hcs
    injection e with e1 e2 e3
    subst e1 e2 e3
    have:cells'=cells:=by
     obtain⟨a1,b1,d1,g1,i1,j1⟩:=hr';obtain⟨a2,b2,d2,g2,i2,j2⟩:=hr2;rw[i1]at i2
     injection i2 with i2
     injection i2 with i2 i3
     subst i3;rw[j1]at j2
     injection j2 with j2
     injection j2 with _ j2
     injection j2 with _ j2
     injection j2
    subst this;rw[LD hz0 _ hz2,hcs];show _=cs[j % z]?;rw[←h6,List.getElem?_take,if_pos (Nat.mod_lt _ hz0),List.getElem?_drop]
    congr 1
    have:=Nat.div_add_mod j z;rw[Nat.mul_comm]at this;omega
   ·rename_i hj;rw[List.getElem?_eq_none];rw[Wv hz2];omega
  cases hA with
  |none=>
   have ha:=append_nil (P:=P) (st:=st) T (z2:=z) hr2 hle Q1 (by simpa using hb);refine⟨_,[(st.n,0,(x::ls2).flatten)],_,ha,?_,?_⟩
   ·exact .own hM.le hzz (by simpa using hb)
   ·rw[hrow];have:=hM.alloc (x::ls2).flatten;refine this.perm ?_;exact(List.perm_middle (l₁:=L) (l₂:=B)).symm
  |own h3 h4 h5=>
   rename_i c m;obtain⟨m',st1,h6,h7,_⟩:=hM.append T (z2:=z) (ew L B _) (Wv h4) hr2 hle Q1 hb;refine⟨_,[(c,m',(ls++x::ls2).flatten)],st1,h6,?_,?_⟩
   ·rw[←List.length_append];exact .own h3 hzz (by rw[List.length_append];exact hb)
   ·rw[wh,hrow]at h7;rw[List.flatten_append];exact h7
theorem Mem.lZ(hM:Mem h0 n0 X st (L++(A++B)))(hA:Acc n0 z A ks ls)(T:Cf P t e z)(hk:(L++(A++B))[k2]? =some (c2,m2,l2))(hl:l2.length=z)(hb:ls.length+1≤1000000000):
  ∃ks' A' st1,Zm P [t,t] ks (.sl c2 m2 0 1 z) st=some (ks',st1)∧Acc n0 z A' ks' (ls++[l2])∧Mem h0 n0 X st1 (L++(A'++B)):=by
 have hr:=hM.Qv hk;have:Ja st.h.get [] z [l2] (.sl c2 m2 0 [l2].length z):=Ja.own (by simpa using hr) (by simpa using hl) Q1 Q1;exact hM.lY hA T this (by simpa using hl) (by simpa using hb)
variable {T:Tr AV} {ops rest:List Oper} {K:List (Nat×AV)} {R:Tr AV→St→Prop} {d:Nat} {ty:TypeId} {pos:String} {af:Array Edge}
theorem F1(hK:Jn K T)(hM:Mem h0 n0 X st (L++(A++B)))(hA:Acc n0 z A ks ls)(S:Cf P t e z)(hx:JM G K x=some ks)(hy:JM G K y=some (.sl c2 m2 0 1 z))(hk:(L++(A++B))[k2]? =some (c2,m2,l2))(hl:l2.length=z)(hb:ls.length+1≤1000000000)(hN:Nat.ble (d+1) N=true)
  (hn: ∀(ks':AV) A' T' st',Jn ((d,ks')::K) T'→Acc n0 z A' ks' (ls++[l2])→Mem h0 n0 X st' (L++(A'++B))→WR P G N ops rest R T' st'):WR P G N ops (⟨some d,.call {callee:=.builtin .append,args:= #[x,y],argTypes:= #[t,t]},ty,pos,af,none⟩::rest) R T st:=by
 obtain⟨ks',A',st1,h1,h2,h3⟩:=hM.lZ hA S hk hl hb;exact GR hK (KR rfl hx hy h1) (Nat.le_of_ble_eq_true hN) fun T' hT'=>hn ks' A' T' st1 hT' h2 h3
theorem Cm{sn:List St}{i:Nat}{rr:List (Nat×Nat)}(ho:ops[i]? =some ⟨some d,.call {callee:=.builtin .append,args:= #[x,y],argTypes:= #[t,t]},ty,pos,af,none⟩)(hK:Jn K T)(hM:Mem h0 n0 X st (L++(A++B)))(hA:Acc n0 z A ks ls)(S:Cf P t e z)(hx:JM G K x=some ks)(hy:JM G K y=some (.sl c2 m2 0 1 z))(hk:(L++(A++B))[k2]? =some (c2,m2,l2))(hl:l2.length=z)(hb:ls.length+1≤1000000000)(hN:Nat.ble (d+1) N=true)
  (hn: ∀(ks':AV) A' T' st',Jn ((d,ks')::K) T'→Acc n0 z A' ks' (ls++[l2])→Mem h0 n0 X st' (L++(A'++B))→WD P G N ops (rr.map (ZP ops)) R T' st' (st'::sn)):WD P G N ops (((i,0)::rr).map (ZP ops)) R T st sn:=by
 obtain⟨ks',A',st1,h1,h2,h3⟩:=hM.lZ hA S hk hl hb;exact Sm ho hK (KR rfl hx hy h1) rfl (Nat.le_of_ble_eq_true hN) fun T' hT'=>hn ks' A' T' st1 hT' h2 h3
theorem vP{sn:List St}{i:Nat}{rr:List (Nat×Nat)}{ks2:AV}{ls2:List (List AV)}{Y:List Nat}(ho:ops[i]? =some ⟨some d,.call {callee:=.builtin .append,args:= #[x,y],argTypes:= #[t,t]},ty,pos,af,none⟩)(hK:Jn K T)(hM:Mem h0 n0 X st (L++(A++B)))(hA:Acc n0 z A ks ls)(S:Cf P t e z)(hx:JM G K x=some ks)(hy:JM G K y=some ks2)(hr:Ja st.h.get Y z ls2 ks2)(hz2: ∀cs∈ls2,cs.length=z)(hb:ls.length+ls2.length≤1000000000)(hN:Nat.ble (d+1) N=true)
  (hn: ∀(ks':AV) A' T' st',Jn ((d,ks')::K) T'→Acc n0 z A' ks' (ls++ls2)→Mem h0 n0 X st' (L++(A'++B))→WD P G N ops (rr.map (ZP ops)) R T' st' (st'::sn)):WD P G N ops (((i,0)::rr).map (ZP ops)) R T st sn:=by
 obtain⟨ks',A',st1,h1,h2,h3⟩:=hM.lY hA S hr hz2 hb;exact Sm ho hK (KR rfl hx hy h1) rfl (Nat.le_of_ble_eq_true hN) fun T' hT'=>hn ks' A' T' st1 hT' h2 h3

def TW(st st':St)(z:Nat)(ks:AV)(ls:List (List AV)):Prop:= ∃A,Acc st.n z A ks ls∧ ∀c m l,(c,m,l)∈A→J5 st'.h.get c m l
theorem Mem.Nz(h:Mem h0 n0 X st M){st':St}(q:Qt st st')(r:TW st st' z ks ls): ∃A,Acc n0 z A ks ls∧Mem h0 n0 X st' (M++(A++[])):=by
 obtain⟨A,hA,hr⟩:=r;refine⟨A,hA.less h.le,?_⟩
 cases hA with
 |none=>simpa using h.quiet q
 |own hc hz hb=>
  have:=h.LP q (hr _ _ _ (List.mem_singleton.2 rfl)) hc;exact this.perm (by simpa using(List.perm_middle (l₁:=M) (l₂:=[])).symm)
theorem Mem.lN{st0 st':St}(h:Mem st0.h.get st0.n X st' (L++(A++B)))(hA:Acc st0.n z A ks ls):TW st0 st' z ks ls:=⟨A,hA,fun c m l hm=>h.row c m l (by simp[hm])⟩
theorem MN{f:FuncId}{F:List AV→Option AV}(hs:G.s f=some (qO F)){args:List AV}{v:AV}(hF:F args=some v):Ev P G f args st v st:=⟨0,1,by
 show(Option.rec _ (fun sm=>sm args st) (G.s f):Option (AV×St))=_;rw[hs];show ob (F args) _=_
 rw[hF];rfl⟩
theorem BN{f:FuncId}{F:List AV→Option (List AV×Nat×List AV)}(hs:G.s f=some (ET z F))(hf:Q3 st){args rest:List AV}(hz: ∀cs∈ls,cs.length=z)(hb:ls.length≤1000000000)(hF:F args=some (ls.flatten,ls.length,rest)): ∃ks st',Ev P G f args st (.tup (ks::rest)) st'∧TW st st' z ks ls∧Qt st st':=by
 have hev: ∀v st',ET z F args st=some (v,st')→Ev P G f args st v st':=fun v st' h=>⟨0,1,by
  show(Option.rec _ (fun sm=>sm args st) (G.s f):Option (AV×St))=_;rw[hs]
  exact h⟩
 cases ls with
 |nil=>exact⟨.nils,st,hev _ _ (by unfold ET;rw[hF];rfl),⟨[],.none,fun c m l h=>by cases h⟩,Qt.refl hf⟩
 |cons x ls=>
  have hM:=(Mem.start hf).alloc (x::ls).flatten;refine⟨.sl st.n 0 0 (ls.length+1) z,_,hev _ _ (by unfold ET;rw[hF];rfl),⟨[(st.n,0,(x::ls).flatten)],.own (Nat.le_refl _) hz hb,fun c m l h=>?_⟩,hM.qt⟩;simp at h;obtain⟨rfl,rfl,rfl⟩:=h;exact hM.row _ _ _ Q1

theorem AA{Q:Ex→Tr AV→St→Prop}{a b:Code}{J:Tr AV→St→Prop}(h:W P G N a (NB J Q) T st)(hb: ∀T st,J T st→W P G N b Q T st):W P G N (.seq a b) Q T st:=
 JK (uL h fun x T st hx=>by
  cases x with
  |nor=>exact hb T st hx
  |exit i=>exact hx
  |ret=>exact hx)
theorem YU{h:Hp}{cells:List AV}{v:AV}(hr:Va h c m cells)(hp:Ve P t cells off=some v):JB P t (.ptr c m off) h=some v:=by
 obtain⟨e,vs,ro,ms,h1⟩:=hr.rowOf;show ob (rowOf h c m) _=_;rw[h1];exact hp
theorem wH{yt:TypeId}{a b c:Int}(hx:JM G K x=some (.int k a))(hy:JM G K y=some (.int k b))(hw:k.wrap (a-b)=c):Z6 P G K (.binOp .sub t x y yt) st (.int k c) st:=
 Xu hx hy (by rw[VK Qo Qo];show WE (VM k (a-b)) (fun z=>some (AV.int k z))=_;rw[ZR,Yw,hw])
theorem wL{yt:TypeId}{a b c:Int}(hx:JM G K x=some (.int k a))(hy:JM G K y=some (.int k b))(hw:k.wrap (a *b)=c):Z6 P G K (.binOp .mul t x y yt) st (.int k c) st:=
 Xu hx hy (by rw[VK Qo Qo];show WE (VM k (a *b)) (fun z=>some (AV.int k z))=_;rw[ZR,Yw,hw])
theorem PB{s d:TypeId}{k':IntKind}{n c:Int}(hd:P.underlying d=some (.int k'))(hs:P.underlying s=some (.int k))(hx:JM G K x=some (.int k n))(hw:k'.wrap n=c):Z6 P G K (.convert s d x) st (.int k' c) st:=by
 rw[←hw];exact zu hd hs hx

theorem QV:W4 QI ([]:List AV)=true:=rfl
theorem Qa(h1:QI a=true)(h2:W4 QI l=true):W4 QI (a::l)=true:=by
 show Ql (QI a) (W4 QI l) false=true;rw[h1,h2];rfl
theorem RJ{v:AV}(h:QI v=true):W4 QI (J1 v)=true:=by
 cases v<;>first|rfl|cases h
theorem ED{v:AV}(h:QI v=true):J1 v=[v]:=by
 cases v<;>first|rfl|cases h
theorem qx{ty:TypeId}{pos:String}{af:Array Edge}{w:AV}{k:Nat}{l':List AV}(hK:Jn K T)(hM:Mem h0 n0 X st M)(hx:JM G K x=some (.ptr c m off))(hy:JM G K y=some w)(hk:M[k]? =some (c,m,l))(hz:Xh P t=some 1)(hc:QI w=true)(ho:Xl [w] off l=some l')
  (hr: ∀st',Mem h0 n0 X st' (M.set k (c,m,l'))→WR P G N ops rest R T st'):WR P G N ops (⟨none,.store t x y,ty,pos,af,none⟩::rest) R T st:=
 Jr hK hM hx hy hk hz (by rw[ED hc];rfl) (RJ hc) (by rw[ED hc];exact ho) hr
theorem F2{sn:List St}{i:Nat}{rr:List (Nat×Nat)}{ty:TypeId}{pos:String}{af:Array Edge}{w:AV}{k:Nat}{l':List AV}(ho':ops[i]? =some ⟨none,.store t x y,ty,pos,af,none⟩)(hK:Jn K T)(hM:Mem h0 n0 X st M)(hx:JM G K x=some (.ptr c m off))(hy:JM G K y=some w)(hk:M[k]? =some (c,m,l))(hz:Xh P t=some 1)(hc:QI w=true)(ho:Xl [w] off l=some l')
  (hr: ∀st',Mem h0 n0 X st' (M.set k (c,m,l'))→WD P G N ops (rr.map (ZP ops)) R T st' (st'::sn)):WD P G N ops (((i,0)::rr).map (ZP ops)) R T st sn:=
 Um ho' hK hM hx hy hk hz (by rw[ED hc];rfl) (RJ hc) (by rw[ED hc];exact ho) hr
theorem Cc{P:Program}{G:Env}{T:Tr AV}{v u:AV}{t:TypeId}{x:Operand}{d:Option Nat}{ty:TypeId}{pos:String}{af:Array Edge}{g:Option (Nat×Bool)}(hx:Ul G T x=some u)(he:Rp v v=true): ∀(n:Nat) (l:List St),n≤l.length→(∀s∈l.take n,JB P t u s.h.get=some v)→again P G ⟨d,.load t x,ty,pos,af,g⟩ T v n l=true
 |0,l,_,_=>rfl
 |n+1,[],h,_=>by simp at h
 |n+1,s::l,h,ha=>by
  have ih:=Cc (d:=d) (ty:=ty) (pos:=pos) (af:=af) (g:=g) hx he n l (by simpa using h) (fun s' hs=>ha s' (by rw[List.take_succ_cons];exact List.mem_cons_of_mem _ hs));show Ql (Option.rec false (fun x=>Option.rec false (fun u=>Rp u v) (JB P t x s.h.get)) (Ul G T x)) (again P G ⟨d,.load t x,ty,pos,af,g⟩ T v n l) false=true;rw[hx];show Ql (Option.rec false (fun u=>Rp u v) (JB P t u s.h.get)) (again P G ⟨d,.load t x,ty,pos,af,g⟩ T v n l) false=true;rw[ha s Q1];show Ql (Rp v v) (again P G ⟨d,.load t x,ty,pos,af,g⟩ T v n l) false=true;rw[he];exact ih
theorem Xf{P:Program}{G:Env}{N:Nat}{st:St}{K:List (Nat×AV)}{T:Tr AV}{ops:List Oper}{R:Tr AV→St→Prop}{sn:List St}{r:List (Nat×Nat)}{i d:Nat}{ty:TypeId}{pos:String}{af:Array Edge}{v:AV}{u:AV}{s0:St}
  (ho:ops[i]? =some ⟨some d,.load t x,ty,pos,af,none⟩) (hK:Jn K T) (hx:JM G K x=some u) (h:JB P t u st.h.get=some v) (hl:n≤sn.length) (hall: ∀s∈sn.take n,JB P t u s.h.get=some v) (he:Rp v v=true) (hk:Nat.beq (QH P (.load t x)) 3=false) (hN:d<N)
  (hn: ∀T',Jn ((d,v)::K) T'→WD P G N ops (r.map (ZP ops)) R T' st (s0::sn)):WD P G N ops (((i,n)::r).map (ZP ops)) R T st (s0::sn):=by
 rw[V6 ho]
 exact EL rfl (QK hx h T hK _ _ _ _ _) (Cc (hK.Ul hx) he n sn hl hall) (fun e he=>by injection he with he;rw[←he];exact hN) (by
  show WD P G N ops (r.map (ZP ops)) R _ st (Ql (Nat.beq (QH P (.load t x)) 3) _ _)
  rw[hk];exact hn _ (hK.set d v))
def T5:AV→Bool
 |.bool _=>true
 |.int _ _=>true
 |.str _=>true
 |.nilp=>true
 |.ptr _ _ _=>true
 |.nils=>true
 |.sl _ _ _ _ _=>true
 |.slz _ _ _ _ _=>true
 |.sl0 _ _ _=>true
 |.nilf=>true
 |.nili=>true
 |.nilm=>true
 |.mp _=>true
 |_=>false
theorem LJ{v:AV}(h:T5 v=true):HU v v=true:=by
 cases v<;>first
  |(cases h;done)
  |rfl
  |skip
 ·rename_i b;cases b<;>rfl
 ·rename_i k n;show Ql (BP k k) (OR n n) false=true;rw[Ru,Dk];simp[Ql]
 ·rename_i l;show Rr l l=true;rw[VJ];simp
 ·rename_i c m o;show Ql (Nat.beq c c) (Ql (Nat.beq m m) (Nat.beq o o) false) false=true;simp[Ql]
 ·rename_i c m o l z;show Ql (Nat.beq c c) (Ql (Nat.beq m m) (Ql (Nat.beq o o) (Ql (Nat.beq l l) (Nat.beq z z) false) false) false) false=true;simp[Ql]
 ·rename_i c m o l z;show Ql (Nat.beq c c) (Ql (Nat.beq m m) (Ql (Nat.beq o o) (Ql (Nat.beq l l) (Nat.beq z z) false) false) false) false=true;simp[Ql]
 ·rename_i x o s;show Ql (Nat.beq x x) (Ql (Nat.beq o o) (eG s s) false) false=true
  cases s<;>simp[Ql,eG]
 ·rename_i c;show Nat.beq c c=true;simp
theorem Ji{v:AV}(h:T5 v=true):Rp v v=true:=by
 have:=LJ h
 cases v<;>first|exact this|(cases h;done)
theorem YR(h:l.all T5=true):Rp (.agg l) (.agg l)=true:=by
 show Kk l l=true
 induction l with
 |nil=>rfl
 |cons a l ih=>
  rw[List.all_cons,Bool.and_eq_true]at h;show Ql (HU a a) (Kk l l) false=true;rw[LJ h.1,ih h.2];rfl
theorem Yj(x:List Nat):T5 (.str x)=true:=rfl
theorem Yk(k:IntKind)(x:Int):T5 (.int k x)=true:=rfl
theorem UB(b:Bool):T5 (.bool b)=true:=rfl
theorem Jz{v:AV}(h:VN v=some n):T5 v=true:=by
 cases v<;>first|rfl|(cases h;done)

variable {rr:ResultVar} {rs:List ResultVar}
theorem JX{t:Nat}{v:AV}(hK:Jn K T)(h:K.lookup t=some v):IA P T st (.tmp t)=some v:=congrArg some (hK t v h)
theorem Zh{a:Nat}{u v:AV}(hK:Jn K T)(h:K.lookup a=some u)(hl:JB P t u st.h.get=some v):IA P T st (.cell a t)=some v:=by
 show JB P t (Zc T a) st.h.get=_;rw[hK a u h];exact hl
theorem Nj{v:AV}(h:IA P T st rr=some v):JG P [rr] T st=some v:=by
 show(ob (Yc (IA P T st) [rr]) _)=_;rw[JN,h];rfl
theorem AN:JG P [] T st=some (.tup []):=rfl
theorem Xo{r1 r2:ResultVar}{b:AV}(h1:IA P T st r1=some a)(h2:IA P T st r2=some b):JG P [r1,r2] T st=some (.tup [a,b]):=by
 show(ob (Yc (IA P T st) [r1,r2]) _)=_;rw[JN,JN,h1,h2];rfl
theorem Vj{r1 r2 r3:ResultVar}{b c:AV}(h1:IA P T st r1=some a)(h2:IA P T st r2=some b)(h3:IA P T st r3=some c):JG P [r1,r2,r3] T st=some (.tup [a,b,c]):=by
 show(ob (Yc (IA P T st) [r1,r2,r3]) _)=_;rw[JN,JN,JN,h1,h2,h3];rfl
end
end
end Go.Proofs.YthjgndgnmkiaiaaGreatDoor
