/-
  Several texts in one: XLift, XOpen, XSymH, XSum, XSymI.
-/
import Derived.WalkKit
import Derived.Test.YtiknomepbklibaaGreatDoorQsSy1
set_option linter.unusedSimpArgs false
set_option linter.unusedVariables false
namespace Go.Proofs.YtiknomepbklibaaGreatDoor
section
open Go Go.RowKit
variable {cs:List Value} {fuel:Nat} {t:TypeId}

def Yt(h:Hp)(c m:Nat)(l:List AV):Prop:= ∃ro e vs ms,h c=some (.row ro ms)∧ms[m]? =some (e,vs,some l)
def zA(h h':Hp):Prop:= ∀c m l,Yt h c m l→Yt h' c m l
inductive Rd{H:Type}(P:Program)(h:Hp):TypeId→List AV→DataW H→Prop
 |bool {t:TypeId} {b:Bool} (ht:P.underlying t=some .bool):Rd P h t [.bool b] (.lit (.bool b))
 |int {t:TypeId} {k:IntKind} {n:Int} (ht:P.underlying t=some (.int k)) (hw:(Lit.int k n).wf=true):Rd P h t [.int k n] (.lit (.int k n))
 |str {t:TypeId} {s:ByteArray} (ht:P.underlying t=some .string) (hs:s.size≤maxLen):Rd P h t [.str (Wk s)] (.lit (.string s.data.toList))
 |nil {t e:TypeId} (ht:P.underlying t=some (.slice e)):Rd P h t [.nils] .nil
 |none {t e:TypeId} {b o:Nat} {s:Option Nat} (ht:P.underlying t=some (.slice e)):Rd P h t [.sl0 b o s] (.slice [] [])
 |row {t e:TypeId} {c m len:Nat} {cells:List AV} {elems rest:List (DataW H)} (ht:P.underlying t=some (.slice e)) (hz:0<P.cellsOf e) (hr:Yt h c m cells) (hl:cells.length=len *P.cellsOf e) (he:elems.length=len) (hm:len≤maxLen)
  (hd: ∀i d,elems[i]? =some d→Rd P h e ((cells.drop (i *P.cellsOf e)).take (P.cellsOf e)) d):Rd P h t [.sl c m 0 len (P.cellsOf e)] (.slice elems rest)
 |agg {t:TypeId} {fs:Array Field} {az:List AV} {parts:List (DataW H)} (ht:P.underlying t=some (.struct fs)) (hl:az.length=P.cellsOf t) (hp:parts.length=fs.size)
  (hd: ∀(i:Nat) (f:Field) (d:DataW H),fs[i]? =some f→parts[i]? =some d→Rd P h f.type ((az.drop f.offset).take (P.cellsOf f.type)) d):Rd P h t az (.agg parts)
theorem Rd.mono{H:Type}{P:Program}{h h':Hp}(hl:zA h h'){az:List AV}{d:DataW H}(r:Rd P h t az d):Rd P h' t az d:=by
 induction r with
 |bool ht=>exact .bool ht
 |int ht hw=>exact .int ht hw
 |str ht hs=>exact .str ht hs
 |nil ht=>exact .nil ht
 |none ht=>exact .none ht
 |row ht hz hr hl' he hm hd ih=>exact .row ht hz (hl _ _ _ hr) hl' he hm ih
 |agg ht hl' hp hd ih=>exact .agg ht hl' hp ih

abbrev Ko:=List (Pl×List AV)
def Ns(ml:Ko):JC:=fun c m=>if c=0 then(ml[m]?).map Prod.fst else none
def Sl(ml:Ko):I9:=.row true (ml.map fun x=>(x.2.length,x.1.d,some x.2))
def F8(ml:Ko):Hp:=fun c=>if c=0 then some (Sl ml)else none
theorem BL(ml:Ko)(m:Nat):Ns ml 0 m=(ml[m]?).map Prod.fst:=if_pos rfl
theorem wP{ml ml':Ko}(h:ml<+:ml'):JC.le (Ns ml) (Ns ml'):=by
 intro c m x hx;unfold Ns at hx ⊢
 split at hx
 ·rename_i hc;rw[if_pos hc]
  cases hm:ml[m]? with
  |none=>rw[hm]at hx;cases hx
  |some y=>rw[hm]at hx;rw[BK h hm];exact hx
 ·cases hx
theorem WT(ml:Ko):exts (Sl ml)=ml.map fun x=>x.2.length:=by
 simp[exts,Sl,Function.comp_def]
theorem Ih{ml ml':Ko}(h:ml<+:ml'):Grow (F8 ml) (F8 ml'):=by
 intro c C hc;unfold F8 at hc ⊢
 split at hc
 ·rename_i h0
  injection hc with hc
  subst hc;refine⟨_,if_pos h0,?_⟩;rw[WT,WT];exact h.map _
 ·cases hc
theorem xB(ml:Ko):PU (Ns ml) (F8 ml):=by
 intro c C hc m hm;unfold F8 at hc
 split at hc
 ·rename_i h0
  injection hc with hc
  subst hc h0;rw[WT,List.length_map]at hm;exact⟨_,by rw[BL,List.getElem?_eq_getElem hm];rfl⟩
 ·cases hc
theorem Lu{ml ml':Ko}(h:ml<+:ml'):zA (F8 ml) (F8 ml'):=by
 rintro c m l ⟨ro,e,vs,ms,h1,h2⟩
 unfold F8 at h1
 split at h1
 ·rename_i h0
  injection h1 with h1
  unfold Sl at h1
  injection h1 with h1 h3
  subst h1 h3;refine⟨true,e,vs,_,by unfold F8;rw[if_pos h0];rfl,BK (h.map _) h2⟩
 ·cases h1
theorem yH{ml ml':Ko}(h:ml<+:ml'){v:AV}(hv:WF (F8 ml) v):Qh (Ns ml') v=Qh (Ns ml) v:=Yi (xB ml) (wP h) v hv
section
variable {P:Program} {H:Type} {enc:TypeId×Value→H} {W:World}
def Xj(W:World)(ml:Ko):Prop:= ∀(m:Nat) (q:Pl) (l:List AV),ml[m]? =some (q,l)→ ∃(arr:Array Value) (el:TypeId) (fr:Nat×Nat),W.heap[q.b]? =some (.cells arr el fr)∧q.d+q.e≤arr.size∧l.length≤q.e∧
 ∀j v,l[j]? =some v→arr[q.d+j]? =some (Qh (Ns ml) v)∧WF (F8 ml) v∧Qr v=true
theorem Xj.nil:Xj W []:=fun m q l h=>by simp at h
theorem Xj.push{ml:Ko}(h:Xj W ml){q:Pl}{l:List AV}{arr:Array Value}{el:TypeId}{fr:Nat×Nat}(hb:W.heap[q.b]? =some (.cells arr el fr))(hs:q.d+q.e≤arr.size)(hl:l.length≤q.e)
  (hc: ∀j v,l[j]? =some v→arr[q.d+j]? =some (Qh (Ns ml) v)∧WF (F8 ml) v∧Qr v=true):Xj W (ml++[(q,l)]):=by
 have hp:ml<+:ml++[(q,l)]:=List.prefix_append _ _;have key: ∀v,WF (F8 ml) v→Qh (Ns (ml++[(q,l)])) v=Qh (Ns ml) v∧WF (F8 (ml++[(q,l)])) v:=fun v hv=>⟨yH hp hv,WF.grow (Ih hp) v hv⟩;intro m q' l' hm
 by_cases hlt:m<ml.length
 ·rw[List.getElem?_append_left hlt]at hm;obtain⟨arr',el',fr',h1,h2,h3,h4⟩:=h m q' l' hm;refine⟨arr',el',fr',h1,h2,h3,fun j v hj=>?_⟩;obtain⟨k1,k2,k3⟩:=h4 j v hj;obtain⟨e1,e2⟩:=key v k2;exact⟨by rw[e1];exact k1,e2,k3⟩
 ·rw[List.getElem?_append_right Qc]at hm
  have hm0:m-ml.length=0:=by
   cases hx:m-ml.length with
   |zero=>rfl
   |succ n=>rw[hx]at hm;simp at hm
  rw[hm0]at hm;simp at hm;obtain⟨rfl,rfl⟩:=hm;refine⟨arr,el,fr,hb,hs,hl,fun j v hj=>?_⟩;obtain⟨k1,k2,k3⟩:=hc j v hj;obtain⟨e1,e2⟩:=key v k2;exact⟨by rw[e1];exact k1,e2,k3⟩

theorem Xj.hr{ml:Ko}(h:Xj W ml):HR W (Ns ml) (F8 ml) W:=by
 have hdom: ∀c m x,Ns ml c m=some x→c=0∧ ∃l,ml[m]? =some (x,l):=by
  intro c m x hx;unfold Ns at hx
  split at hx
  ·rename_i hc
   cases hm:ml[m]? with
   |none=>rw[hm]at hx;cases hx
   |some y=>rw[hm]at hx;injection hx with hx;subst hx;exact⟨hc,y.2,rfl⟩
  ·cases hx
 refine⟨rfl,rfl,rfl,Nat.le_refl _,fun _ _=>rfl,fun c m x hx=>?_,fun c m x hx=>?_,fun c m x c' m' x' hx hx' _=>?_,fun c C hC=>?_⟩
 ·obtain⟨rfl,l,hm⟩:=hdom c m x hx;exact⟨Sl ml,if_pos rfl,by rw[WT,List.length_map];exact(List.getElem?_eq_some_iff.1 hm).1⟩
 ·obtain⟨rfl,l,hm⟩:=hdom c m x hx;obtain⟨arr,el,fr,h1,_⟩:=h m x l hm;exact(Array.getElem?_eq_some_iff.1 h1).1
 ·rw[(hdom c m x hx).1,(hdom c' m' x' hx').1]
 ·unfold F8 at hC
  split at hC
  ·rename_i hc0
   injection hC with hC
   subst hC hc0;refine⟨fun m e vs cs hm=>?_,fun m e vs cs m' e' vs' cs' q q' hm hm' hq hq' hb=>?_⟩
   ·rw[List.getElem?_map]at hm
    cases hx:ml[m]? with
    |none=>rw[hx]at hm;cases hm
    |some y=>
     rw[hx]at hm;simp only[Option.map_some,Option.some.injEq,Prod.mk.injEq]at hm;obtain⟨rfl,rfl,rfl⟩:=hm;obtain⟨q,l⟩:=y;obtain⟨arr,el,fr,h1,h2,h3,h4⟩:=h m q l hx;refine⟨q,arr,el,by rw[BL,hx];rfl,⟨fr,h1,fun e=>nomatch e⟩,h2,h3,fun e=>(nomatch e),fun l' hl'=>?_⟩
     injection hl' with hl'
     subst hl';exact⟨rfl,h4⟩
   ·rw[List.getElem?_map]at hm hm';rw[BL]at hq hq'
    cases hx:ml[m]? with
    |none=>rw[hx]at hq;cases hq
    |some y=>
     cases hx':ml[m']? with
     |none=>rw[hx']at hq';cases hq'
     |some y'=>
      rw[hx]at hm hq;rw[hx']at hm' hq';simp only[Option.map_some,Option.some.injEq,Prod.mk.injEq]at hm hm' hq hq';obtain⟨_,rfl,_⟩:=hm;obtain⟨_,rfl,_⟩:=hm';subst hq hq';omega
  ·cases hC

def B8(P:Program):List Field→Nat→Option Nat
 |[],n=>some n
 |f::fs,n=>if f.offset=n then B8 P fs (n+P.cellsOf f.type)else none
def R7(P:Program)(S:List TypeId)(t:TypeId):Bool:=match P.underlying t with
 |some .bool=>true
 |some (.int _)=>true
 |some .string=>true
 |some (.slice e)=>S.contains e&&decide (0<P.cellsOf e)
 |some (.struct fs)=>fs.toList.all (fun f=>S.contains f.type)&&decide (B8 P fs.toList 0=some (P.cellsOf t))
 |_=>false
def Nq(P:Program)(S:List TypeId):Bool:=S.all (R7 P S)

def PR(P:Program)(W:World)(ml:Ko)(cs:List Value)(R:Ko→List AV→Prop):Prop:= ∃ml' az,ml<+:ml'∧Xj W ml'∧az.map (Qh (Ns ml'))=cs∧Zk (F8 ml') az∧(∀v∈az,Qr v=true)∧R ml' az
theorem GH{ml ml':Ko}(h:ml<+:ml'){l:List AV}(hl:Zk (F8 ml) l):l.map (Qh (Ns ml'))=l.map (Qh (Ns ml)):=
 List.map_congr_left fun v hv=>yH h ((JQ _ _).1 hl v hv)
theorem Rb{d:DataW H}{ps:List MemPlace}(hu:P.underlying t=some .bool)(h:DataW.trod enc P W 0 (fun _=>true) true (fuel+1) t cs=some (d,ps)): ∃b,cs=[.bool b]∧d=.lit (.bool b):=by
 unfold DataW.trod at h;rw[hu]at h
 split at h<;>first|(simp_all;done)|skip
theorem TV{k:IntKind}{d:DataW H}{ps:List MemPlace}(hu:P.underlying t=some (.int k))(h:DataW.trod enc P W 0 (fun _=>true) true (fuel+1) t cs=some (d,ps)): ∃n,cs=[.int k n]∧(Lit.int k n).wf=true∧d=.lit (.int k n):=by
 unfold DataW.trod at h;rw[hu]at h
 split at h<;>first|(simp_all;done)|skip
theorem TU{d:DataW H}{ps:List MemPlace}(hu:P.underlying t=some .string)(h:DataW.trod enc P W 0 (fun _=>true) true (fuel+1) t cs=some (d,ps)): ∃s,cs=[.string s]∧s.size≤maxLen∧d=.lit (.string s.data.toList):=by
 unfold DataW.trod at h;rw[hu]at h
 split at h<;>first|(simp_all;done)|skip
theorem CO{e:TypeId}{d:DataW H}{ps:List MemPlace}(hu:P.underlying t=some (.slice e))(h:DataW.trod enc P W 0 (fun _=>true) true (fuel+1) t cs=some (d,ps)):
  (cs=[.slice none 0 0]∧d=.nil)∨ ∃a len cap elems rest,cs=[.slice (some a) len cap]∧len≤cap∧cap≤maxLen∧
   (List.range len).mapM (fun i=>(W.cells? 0 (a.add (i *P.cellsOf e)) (P.cellsOf e)).bind (DataW.trod enc P W 0 (fun _=>true) true fuel e))=some elems∧
   (List.range (cap-len)).mapM (fun j=>(W.cells? 0 (a.add ((len+j) *P.cellsOf e)) (P.cellsOf e)).bind (DataW.trod enc P W 0 (fun _=>true) true fuel e))=some rest∧d=.slice (elems.map (·.1)) (rest.map (·.1)):=by
 unfold DataW.trod at h;rw[hu]at h
 split at h<;>first|(simp_all;done)|skip
 rename_i e1 a len cap he
 injection he with he
 injection he with he
 subst he
 split at h
 ·rename_i hh;right;rw[Option.bind_eq_some_iff]at h;obtain⟨elems,h1,h⟩:=h;rw[Option.map_eq_some_iff]at h;obtain⟨rest,h2,h⟩:=h;rw[if_pos rfl]at h2
  injection h with h _
  exact⟨a,len,cap,elems,rest,rfl,hh.2.1,hh.2.2,h1,h2,h.symm⟩
 ·cases h
theorem Bz{fs:Array Field}{d:DataW H}{ps:List MemPlace}(hu:P.underlying t=some (.struct fs))(h:DataW.trod enc P W 0 (fun _=>true) true (fuel+1) t cs=some (d,ps)):
  cs.length=P.cellsOf t∧ ∃xs,fs.toList.mapM (fun f=>DataW.trod enc P W 0 (fun _=>true) true fuel f.type ((cs.drop f.offset).take (P.cellsOf f.type)))=some xs∧d=.agg (xs.map (·.1)):=by
 unfold DataW.trod at h;rw[hu]at h
 split at h<;>first|(simp_all;done)|skip
 rename_i fs1 he
 injection he with he
 injection he with he
 subst he
 split at h
 ·rename_i hh;rw[Option.map_eq_some_iff]at h;obtain⟨xs,h1,h⟩:=h
  injection h with h _
  exact⟨hh,xs,h1,h.symm⟩
 ·cases h
theorem mapM_some{α β:Type}{f:α→Option β}: ∀{l:List α} {r:List β},l.mapM f=some r→r.length=l.length∧ ∀(i:Nat) (a:α),l[i]? =some a→ ∃b,r[i]? =some b∧f a=some b:=by
 intro l
 induction l with
 |nil=>intro r h;simp at h;subst h;exact⟨rfl,fun i a h=>by simp at h⟩
 |cons x l ih=>
  intro r h;rw[List.mapM_cons]at h;simp only[Option.bind_eq_bind,Option.pure_def,Option.bind_eq_some_iff,Option.some.injEq]at h;obtain⟨b,hb,t,ht,h⟩:=h;subst h;obtain⟨h1,h2⟩:=ih ht;refine⟨by simp[h1],fun i a hi=>?_⟩
  cases i with
  |zero=>simp at hi;subst hi;exact⟨b,rfl,hb⟩
  |succ i=>simpa using h2 i a (by simpa using hi)
theorem qI(a:Addr)(m n:Nat):(a.add m).add n=a.add (m+n):=by
 unfold Addr.add
 by_cases hm:m=0
 ·subst hm;rw[if_pos rfl,Nat.zero_add]
 ·rw[if_neg hm,if_neg (show m+n≠0 by omega)]
  by_cases hn:n=0
  ·subst hn;rw[if_pos rfl,Nat.add_zero]
  ·rw[if_neg hn];simp only[Nat.add_assoc]
theorem KI{α:Type}{z:Nat}(hz:0<z): ∀(css:List (List α)),(∀c∈css,c.length=z)→ ∀j,css.flatten[j]? =(css[j/z]?).bind fun c=>c[j % z]? :=by
 intro css
 induction css with
 |nil=>intro _ j;simp
 |cons c css ih=>
  intro h j;have hc:=h c (List.mem_cons_self ..);rw[List.flatten_cons,List.getElem?_append]
  by_cases hj:j<z
  ·rw[if_pos Qc,Nat.div_eq_of_lt hj,Nat.mod_eq_of_lt hj];rfl
  ·rw[if_neg Qc,ih (fun c hc=>h c (List.mem_cons_of_mem _ hc)),hc]
   have e1:j/z=(j-z)/z+1:=by
    conv=>lhs;rw[show j=(j-z)+z by omega]
    exact Nat.add_div_right _ hz
   have e2:j % z=(j-z) % z:=by
    conv=>lhs;rw[show j=(j-z)+z by omega]
    exact Nat.add_mod_right _ _
   rw[e1,e2];rfl
theorem Bf{a:Addr}{j:Nat}{v:Value}(h:W.cell? (a.add j)=some v): ∃arr el fr,W.heap[a.block]? =some (.cells arr el fr)∧arr[a.off+j]? =some v∧(j=0→a.spot=none):=by
 have hb:(a.add j).block=a.block:=by unfold Addr.add;split<;>rfl
 have ho:(a.add j).off=a.off+j:=by unfold Addr.add;split<;>simp_all
 unfold World.cell? at h;rw[hb]at h
 split at h
 ·rename_i arr el fr hh
  split at h
  ·cases h
  ·rename_i hs;rw[ho]at h;refine⟨arr,el,fr,hh,h,fun h0=>?_⟩;subst h0;have:a.add 0=a:=if_pos rfl;rw[this]at hs
   simpa using hs
 ·cases h
theorem Hf{n:Nat}{a:Addr}(h:W.cells? 0 a n=some cs):cs.length=n∧ ∀i,i<n→ ∃v,W.cell? (a.add i)=some v∧cs[i]? =some v:=by
 unfold World.cells? at h;rw[if_pos (Nat.zero_le _)]at h;obtain⟨h1,h2⟩:=mapM_some h;rw[List.length_range]at h1;refine⟨h1,fun i hi=>?_⟩;obtain⟨b,hb,hc⟩:=h2 i i (List.getElem?_range hi);exact⟨b,hc,hb⟩

theorem uB{e:TypeId}{a:Addr}{z:Nat}(ih: ∀(cs:List Value) (d:DataW H) (ps:List MemPlace) (ml:Ko),DataW.trod enc P W 0 (fun _=>true) true fuel e cs=some (d,ps)→Xj W ml→PR P W ml cs fun ml' az=>Rd P (F8 ml') e az d):
  ∀(l:List Nat) (ml:Ko) (xs:List (DataW H×List MemPlace)),l.mapM (fun i=>(W.cells? 0 (a.add (i *z)) z).bind (DataW.trod enc P W 0 (fun _=>true) true fuel e))=some xs→Xj W ml→
  ∃css:List (List Value),css.length=l.length∧(∀(i j:Nat),l[i]? =some j→ ∃cs,css[i]? =some cs∧W.cells? 0 (a.add (j *z)) z=some cs)∧
   PR P W ml css.flatten fun ml' az=>az.length=l.length *z∧ ∀(i:Nat) (d:DataW H×List MemPlace),xs[i]? =some d→Rd P (F8 ml') e ((az.drop (i *z)).take z) d.1:=by
 intro l
 induction l with
 |nil=>
  intro ml xs h hM;simp at h;subst h;exact⟨[],rfl,fun i j h=>(by simp at h),ml,[],List.prefix_refl _,hM,rfl,trivial,fun v h=>(by cases h),Q4,fun i d h=>(by simp at h)⟩
 |cons j l ihl=>
  intro ml xs h hM;rw[List.mapM_cons]at h;simp only[Option.bind_eq_bind,Option.pure_def,Option.bind_eq_some_iff,Option.some.injEq]at h;obtain⟨x,⟨cs,hcs,hx⟩,t,ht,h⟩:=h;subst h;obtain⟨ml1,as1,p1,g1,c1,w1,i1,r1⟩:=ih cs x.1 x.2 ml hx hM;obtain⟨css,k1,k2,ml2,as2,p2,g2,c2,w2,i2,r2,r3⟩:=ihl ml1 t ht g1;have hcl:=(Hf hcs).1
  have hl1:as1.length=z:=by rw[←hcl,←c1,List.length_map]
  refine⟨cs::css,by simp[k1],fun i j' hi=>?_,ml2,as1++as2,p1.trans p2,g2,?_,?_,fun v hv=>?_,?_,fun i d hi=>?_⟩
  ·cases i with
   |zero=>simp at hi;subst hi;exact⟨cs,rfl,hcs⟩
   |succ i=>simpa using k2 i j' (by simpa using hi)
  ·rw[List.map_append,List.flatten_cons,GH p2 w1,c1,c2]
  ·exact(JQ _ _).2 fun v hv=>by
    rcases List.mem_append.1 hv with hv|hv
    ·exact WF.grow (Ih p2) v ((JQ _ _).1 w1 v hv)
    ·exact(JQ _ _).1 w2 v hv
  ·rcases List.mem_append.1 hv with hv|hv
   ·exact i1 v hv
   ·exact i2 v hv
  ·rw[List.length_append,hl1,r2,List.length_cons,Nat.succ_mul,Nat.add_comm]
  ·cases i with
   |zero=>
    simp at hi;subst hi;rw[Nat.zero_mul,List.drop_zero,List.take_append_of_le_length Qc,List.take_of_length_le Qc];exact r1.mono (Lu p2)
   |succ i=>
    have:=r3 i d (by simpa using hi)
    have e1:(as1++as2).drop z=as2:=by rw[←hl1];exact List.drop_left
    rw[show(i+1) *z=z+i *z by rw[Nat.succ_mul,Nat.add_comm],←List.drop_drop,e1];exact this
theorem DK{n:Nat}(hcs:cs.length=n): ∀(fs:List Field) (off:Nat) (ml:Ko) (xs:List (DataW H×List MemPlace)),
  (∀f∈fs,∀(cs:List Value) (d:DataW H) (ps:List MemPlace) (ml:Ko),DataW.trod enc P W 0 (fun _=>true) true fuel f.type cs=some (d,ps)→Xj W ml→PR P W ml cs fun ml' az=>Rd P (F8 ml') f.type az d)→
  B8 P fs off=some n→fs.mapM (fun f=>DataW.trod enc P W 0 (fun _=>true) true fuel f.type ((cs.drop f.offset).take (P.cellsOf f.type)))=some xs→Xj W ml→
  off≤n∧PR P W ml (cs.drop off) fun ml' az=> ∀(i:Nat) (f:Field) (d:DataW H×List MemPlace),fs[i]? =some f→xs[i]? =some d→off≤f.offset∧Rd P (F8 ml') f.type ((az.drop (f.offset-off)).take (P.cellsOf f.type)) d.1:=by
 intro fs
 induction fs with
 |nil=>
  intro off ml xs _ ht h hM
  injection ht with ht
  subst ht;refine⟨Nat.le_refl _,ml,[],List.prefix_refl _,hM,?_,trivial,fun v h=>(by cases h),fun i f d h=>(by simp at h)⟩;rw[List.drop_of_length_le Qc];rfl
 |cons f fs ihl=>
  intro off ml xs ih ht h hM;have ht:(if f.offset=off then B8 P fs (off+P.cellsOf f.type)else none)=some n:=ht
  split at ht
  ·rename_i ho;rw[List.mapM_cons]at h;simp only[Option.bind_eq_bind,Option.pure_def,Option.bind_eq_some_iff,Option.some.injEq]at h;obtain⟨x,hx,t,htt,h⟩:=h;subst h;obtain⟨ml1,as1,p1,g1,c1,w1,i1,r1⟩:=ih f (List.mem_cons_self ..) _ x.1 x.2 ml hx hM;obtain⟨hle,ml2,as2,p2,g2,c2,w2,i2,r2⟩:=ihl (off+P.cellsOf f.type) ml1 t (fun g hg=>ih g (List.mem_cons_of_mem _ hg)) ht htt g1
   have hl1:as1.length=P.cellsOf f.type:=by
    have:=congrArg List.length c1;rw[List.length_map,List.length_take,List.length_drop]at this;omega
   refine⟨by omega,ml2,as1++as2,p1.trans p2,g2,?_,?_,fun v hv=>?_,fun i g d hi hd=>?_⟩
   ·rw[List.map_append,GH p2 w1,c1,c2,ho,←List.drop_drop,List.take_append_drop]
   ·exact(JQ _ _).2 fun v hv=>by
     rcases List.mem_append.1 hv with hv|hv
     ·exact WF.grow (Ih p2) v ((JQ _ _).1 w1 v hv)
     ·exact(JQ _ _).1 w2 v hv
   ·rcases List.mem_append.1 hv with hv|hv
    ·exact i1 v hv
    ·exact i2 v hv
   ·cases i with
    |zero=>
     simp at hi hd;subst hi hd;refine⟨by omega,?_⟩;rw[ho,Nat.sub_self,List.drop_zero,List.take_append_of_le_length Qc,List.take_of_length_le Qc];exact r1.mono (Lu p2)
    |succ i=>
     obtain⟨k1,k2⟩:=r2 i g d (by simpa using hi) (by simpa using hd);refine⟨by omega,?_⟩
     have e1:(as1++as2).drop (P.cellsOf f.type)=as2:=by rw[←hl1];exact List.drop_left
     rw[show g.offset-off=P.cellsOf f.type+(g.offset-(off+P.cellsOf f.type)) by omega,←List.drop_drop,e1];exact k2
  ·cases ht

theorem lift(S:List TypeId)(hS:Nq P S=true)(fuel:Nat): ∀(t:TypeId) (cs:List Value) (d:DataW H) (ps:List MemPlace) (ml:Ko),t∈S→DataW.trod enc P W 0 (fun _=>true) true fuel t cs=some (d,ps)→Xj W ml→
  PR P W ml cs fun ml' az=>Rd P (F8 ml') t az d:=by
 induction fuel with
 |zero=>intro t cs d ps ml ht h;cases h
 |succ fuel ih=>
  intro t cs d ps ml ht h hM;have hp:R7 P S t=true:=List.all_eq_true.1 hS t ht;unfold R7 at hp
  split at hp
  ·rename_i hu;obtain⟨b,rfl,rfl⟩:=Rb hu h;exact⟨ml,[.bool b],List.prefix_refl _,hM,rfl,⟨trivial,trivial⟩,by simp[Qr],.bool hu⟩
  ·rename_i k hu;obtain⟨n,rfl,hw,rfl⟩:=TV hu h;exact⟨ml,[.int k n],List.prefix_refl _,hM,rfl,⟨trivial,trivial⟩,by simp[Qr],.int hu hw⟩
  ·rename_i hu;obtain⟨s,rfl,hs,rfl⟩:=TU hu h;refine⟨ml,[.str (Wk s)],List.prefix_refl _,hM,?_,⟨I2 s,trivial⟩,by simp[Qr],.str hu hs⟩;simp only[List.map_cons,List.map_nil,Qh,AJ]
  ·rename_i e hu;rw[Bool.and_eq_true,decide_eq_true_iff]at hp;obtain⟨he,hz⟩:=hp
   have he:e∈S:=by simpa using he
   rcases CO hu h with⟨rfl,rfl⟩|⟨a,len,cap,elems,rest,rfl,hlc,hcap,h1,h2,rfl⟩
   ·exact⟨ml,[.nils],List.prefix_refl _,hM,rfl,⟨trivial,trivial⟩,by simp[Qr],.nil hu⟩
   ·rcases Nat.eq_zero_or_pos cap with rfl|hc0
    ·obtain rfl:len=0:=by omega
     simp at h1 h2;subst h1 h2;refine⟨ml,[.sl0 a.block a.off a.spot],List.prefix_refl _,hM,rfl,⟨trivial,trivial⟩,by simp[Qr],.none hu⟩
    ·obtain⟨css,k1,k2,ml1,az,p1,g1,c1,w1,i1,r1,r2⟩:=uB (z:=P.cellsOf e) (fun cs d ps ml=>ih e cs d ps ml he) (List.range len) ml elems h1 hM

     have hall: ∀i,i<cap→ ∃cs,W.cells? 0 (a.add (i *P.cellsOf e)) (P.cellsOf e)=some cs:=by
      intro i hi
      by_cases hil:i<len
      ·obtain⟨b,_,hb⟩:=(mapM_some h1).2 i i (List.getElem?_range hil);rw[Option.bind_eq_some_iff]at hb;obtain⟨cs,hcs,_⟩:=hb;exact⟨cs,hcs⟩
      ·obtain⟨b,_,hb⟩:=(mapM_some h2).2 (i-len) (i-len) (List.getElem?_range Qc);rw[Option.bind_eq_some_iff]at hb;obtain⟨cs,hcs,_⟩:=hb;exact⟨cs,by rw[show len+(i-len)=i by omega]at hcs;exact hcs⟩
     have hcell: ∀j,j<cap *P.cellsOf e→ ∃v,W.cell? (a.add j)=some v∧ ∀cs,W.cells? 0 (a.add (j/P.cellsOf e *P.cellsOf e)) (P.cellsOf e)=some cs→cs[j % P.cellsOf e]? =some v:=by
      intro j hj;obtain⟨cs,hcs⟩:=hall (j/P.cellsOf e) (Nat.div_lt_of_lt_mul (by rw[Nat.mul_comm];exact hj));obtain⟨v,hv1,hv2⟩:=(Hf hcs).2 (j % P.cellsOf e) (Nat.mod_lt _ hz);refine⟨v,?_,fun cs' hcs'=>by rw[hcs]at hcs';injection hcs' with hcs';subst hcs';exact hv2⟩
      have hjj:j/P.cellsOf e *P.cellsOf e+j % P.cellsOf e=j:=by rw[Nat.mul_comm];exact Nat.div_add_mod j _
      rw[qI,hjj]at hv1;exact hv1
     have hcz:0<cap *P.cellsOf e:=Nat.mul_pos hc0 hz;obtain⟨v0,hv0,_⟩:=hcell 0 hcz;obtain⟨arr,el,fr,hblk,_,hspot⟩:=Bf hv0;have hspot:=hspot rfl
     have harr: ∀j,j<cap *P.cellsOf e→ ∃v,arr[a.off+j]? =some v∧ ∀cs,W.cells? 0 (a.add (j/P.cellsOf e *P.cellsOf e)) (P.cellsOf e)=some cs→cs[j % P.cellsOf e]? =some v:=by
      intro j hj;obtain⟨v,h1,h2⟩:=hcell j hj;obtain⟨arr',el',fr',k1,k2,_⟩:=Bf h1;rw[hblk]at k1
      injection k1 with k1
      injection k1 with k1 _ _
      subst k1;exact⟨v,k2,h2⟩
     have hsz:a.off+cap *P.cellsOf e≤arr.size:=by
      obtain⟨v,hv,_⟩:=harr (cap *P.cellsOf e-1) Qc;have:=(Array.getElem?_eq_some_iff.1 hv).1;omega
     rw[List.length_range]at r1;have hlz:len *P.cellsOf e≤cap *P.cellsOf e:=Nat.mul_le_mul_right _ hlc
     have hcl: ∀c∈css,c.length=P.cellsOf e:=by
      intro c hc;obtain⟨i,hi⟩:=List.getElem?_of_mem hc;have hil:=(List.getElem?_eq_some_iff.1 hi).1;rw[k1,List.length_range]at hil;obtain⟨cs,h3,h4⟩:=k2 i i (List.getElem?_range hil);rw[hi]at h3
      injection h3 with h3
      subst h3;exact(Hf h4).1
     have hgood:=g1.push (q:=⟨a.block,a.off,cap *P.cellsOf e⟩) (l:=az) hblk hsz (by rw[r1];exact hlz) fun j v hj=>by
      have hjl:=(List.getElem?_eq_some_iff.1 hj).1;obtain⟨v',hv1,hv2⟩:=harr j Qc
      have hfl:css.flatten[j]? =some (Qh (Ns ml1) v):=by rw[←c1,List.getElem?_map,hj];rfl
      rw[KI hz css hcl]at hfl;rw[Option.bind_eq_some_iff]at hfl;obtain⟨cs,h3,h4⟩:=hfl;have hdl:j/P.cellsOf e<len:=Nat.div_lt_of_lt_mul (by rw[Nat.mul_comm];omega);obtain⟨cs',h5,h6⟩:=k2 (j/P.cellsOf e) (j/P.cellsOf e) (List.getElem?_range hdl);rw[h3]at h5
      injection h5 with h5
      subst h5;have:=hv2 cs h6;rw[h4]at this
      injection this with this
      rw[this];exact⟨hv1,(JQ _ _).1 w1 v (List.mem_of_getElem? hj),i1 v (List.mem_of_getElem? hj)⟩
     have hpre:ml1<+:ml1++[(⟨a.block,a.off,cap *P.cellsOf e⟩,az)]:=List.prefix_append _ _
     have hat:(ml1++[((⟨a.block,a.off,cap *P.cellsOf e⟩:Pl),az)])[ml1.length]? =some (⟨a.block,a.off,cap *P.cellsOf e⟩,az):=by simp
     have hrow:Yt (F8 (ml1++[(⟨a.block,a.off,cap *P.cellsOf e⟩,az)])) 0 ml1.length az:=⟨true,_,_,_,rfl,by rw[List.getElem?_map,hat];rfl⟩;refine⟨_,[.sl 0 ml1.length 0 len (P.cellsOf e)],p1.trans hpre,hgood,?_,?_,by simp[Qr],?_⟩
     ·simp only[List.map_cons,List.map_nil,Qh,BL,hat,Option.map_some,Nat.add_zero,Nat.sub_zero,Nat.mul_div_cancel _ hz]
      have:(⟨a.block,a.off,none⟩:Addr)=a:=by cases a;simp_all
      rw[this]
     ·refine⟨⟨_,az.length,rfl,?_,hz,?_⟩,trivial⟩
      ·rw[WT,List.getElem?_map,hat];rfl
      ·omega
     ·refine .row hu hz hrow r1 (by rw[List.length_map,(mapM_some h1).1,List.length_range]) (Nat.le_trans hlc hcap) fun i d hd=>?_;rw[List.getElem?_map]at hd
      cases hxi:elems[i]? with
      |none=>rw[hxi]at hd;cases hd
      |some y=>
       rw[hxi]at hd
       injection hd with hd
       subst hd;exact(r2 i y hxi).mono (Lu hpre)
  ·rename_i fs hu;rw[Bool.and_eq_true,decide_eq_true_iff]at hp;obtain⟨hin,hti⟩:=hp;obtain⟨hlen,xs,hx,rfl⟩:=Bz hu h
   obtain⟨_,ml1,az,p1,g1,c1,w1,i1,r1⟩:=DK hlen fs.toList 0 ml xs (fun f hf cs d ps ml=>ih f.type cs d ps ml (by
    have:=List.all_eq_true.1 hin f hf
    simpa using this)) hti hx hM
   rw[List.drop_zero]at c1;refine⟨ml1,az,p1,g1,c1,w1,i1,.agg hu ?_ ?_ fun i f d hf hd=>?_⟩
   ·rw[←hlen,←c1,List.length_map]
   ·rw[List.length_map,(mapM_some hx).1,Array.length_toList]
   ·rw[List.getElem?_map]at hd
    cases hxi:xs[i]? with
    |none=>rw[hxi]at hd;cases hd
    |some y=>
     rw[hxi]at hd
     injection hd with hd
     subst hd;obtain⟨_,k⟩:=r1 i f y (by rw[Array.getElem?_toList];exact hf) hxi;exact k
  ·cases hp
end
end
section
open Go Go.RowKit

noncomputable section
def stM(ml:Ko):St:=⟨1,Tr.nil.set 0 (Sl ml)⟩
end
theorem HI(ml:Ko):(stM ml).h.get=F8 ml:=by
 funext c
 show(Tr.nil.set 0 (Sl ml)).get c=_;rw[Tr.VZ];unfold F8
 split
 ·rfl
 ·rw[Tr.get_nil]
theorem Gx(ml:Ko):Qi (stM ml):=fun c hc=>by
 rw[HI];have hc:1≤c:=hc;unfold F8;rw[if_neg Qc]
variable {P:Program} {G:Env} {W:World}
theorem M6(hG0: ∀g,G.g g=false)(hE:KU P G)(hm:P.follows .mixedOrders=true){f:FuncId}{args:List AV}{ml:Ko}(hM:Xj W ml)(hw:Zk (F8 ml) args)
  (h: ∃v st',Ev P G f args (stM ml) v st'∧v=.bool true) (hi:G.i W:=by trivial):Calls P f (Qq (Ns ml) args).toArray W fun e w'=>e=.returned (.bool true)∧Below W.heap.size W w':=by
 obtain⟨v,st',⟨L,n,h⟩,rfl⟩:=h;have hc:=((Cy (Cp hm) hE L n f args (stM ml) (.bool true) st' h (Gx ml) (by rw[HI];exact hw)).2 W (Ns ml) W (by rw[HI];exact hM.hr) ⟨fun g hg=>(by rw[hG0]at hg;cases hg),hi⟩).2;refine hc.mono fun e w'=>?_
 rintro⟨p',rfl,hs,_⟩
 exact⟨rfl,hs.hr.os,hs.hr.tape,hs.hr.output,hs.hr.size,hs.hr.J9⟩
theorem FQ{p:JC}{az:List AV}{v:Value}(h:az.map (Qh p)=v.cells.toList)(hc: ∀a∈az,Qr a=true):((∃cs,v=.agg cs)→Qh p (.agg az)=v)∧((∀cs,v≠ .agg cs)→ ∃a,az=[a]∧Qh p a=v):=by
 constructor
 ·rintro⟨cs,rfl⟩
  have h:az.map (Qh p)=cs.toList:=h;show Value.agg (Qq p az).toArray=_;rw[Uc,h]
 ·intro hn
  have hv:v.cells.toList=[v]:=by
   cases v<;>first|rfl|exact absurd rfl (hn _)
  rw[hv]at h
  cases az with
  |nil=>cases h
  |cons a az=>cases az with
   |nil=>injection h with h _;exact⟨a,rfl,h⟩
   |cons b az=>simp at h

end
section
open Go
variable {Y:List Nat} {c c2 k len m m2 n J2 z z2:Nat} {e t:TypeId} {h:Hp} {ks:AV} {l l2:List AV} {ls:List (List AV)} {st':St} {x:Operand}

def Qx(h:Hp)(c m:Nat)(l:List AV):Prop:= ∃vs ms,h c=some (.row false ms)∧ms[m]? =some (l.length,vs,some l)
structure vQ(X:List Nat)(st st':St):Prop where
 fresh:Qi st'
 le:st.n≤st'.n
 J9: ∀c,c<st.n→c∉X→st'.h.get c=st.h.get c
theorem Qt.OB{st:St}(q:Qt st st')(X:List Nat):vQ X st st':=⟨q.fresh,q.le,fun c hc _=>q.J9 c hc⟩
theorem Qx.lt{st:St}(hf:Qi st)(r:Qx st.h.get c m l):c<st.n:=by
 obtain⟨vs,ms,h1,h2⟩:=r
 exact Nat.lt_of_not_le fun hle=>by rw[hf c hle]at h1;cases h1
theorem Qx.Jb(r:Qx h c m l):Yt h c m l:=by
 obtain⟨vs,ms,h1,h2⟩:=r;exact⟨false,_,vs,ms,h1,h2⟩
theorem Qx.OB{X:List Nat}{st:St}(hf:Qi st)(q:vQ X st st')(r:Qx st.h.get c m l)(hc:c∉X):Qx st'.h.get c m l:=by
 have hlt:=r.lt hf;obtain⟨vs,ms,h1,h2⟩:=r;exact⟨vs,ms,by rw[q.J9 c hlt hc];exact h1,h2⟩
theorem Yt.lt{st:St}(hf:Qi st)(r:Yt st.h.get c m l):c<st.n:=by
 obtain⟨ro,e,vs,ms,h1,h2⟩:=r
 exact Nat.lt_of_not_le fun hle=>by rw[hf c hle]at h1;cases h1
theorem Yt.OB{X:List Nat}{st:St}(hf:Qi st)(q:vQ X st st')(r:Yt st.h.get c m l)(hc:c∉X):Yt st'.h.get c m l:=by
 have hlt:=r.lt hf;obtain⟨ro,e,vs,ms,h1,h2⟩:=r;exact⟨ro,e,vs,ms,by rw[q.J9 c hlt hc];exact h1,h2⟩
section
variable {P:Program} {G:Env} {N:Nat} {h0:Hp} {n0:Nat} {X:List Nat} {st:St} {M:List (Nat×Nat×List AV)}
theorem Mem.Rf{st:St}(hf:Qi st)(M:List (Nat×Nat×List AV))(hr: ∀c m l,(c,m,l)∈M→Qx st.h.get c m l)(hn:(M.map Prod.fst).Nodup):Mem st.h.get st.n (M.map Prod.fst) st M:=
 ⟨hf,Nat.le_refl _,hf,hr,fun c m l h=>(hr c m l h).lt hf,fun c m l h=>.inr (List.mem_map.2 ⟨_,h,rfl⟩),hn,fun _ _ _=>rfl⟩
theorem Mem.OB{st0:St}(h:Mem st0.h.get st0.n X st M):vQ X st0 st:=⟨h.fresh,h.le,h.J9⟩
theorem Mem.Ya(h:Mem h0 n0 X st M)(hk:M[k]? =some (c,m,l)):Qx st.h.get c m l:=h.row c m l (List.mem_of_getElem? hk)
theorem Mem.JF(h:Mem h0 n0 X st M)(hx:c∉X)(r:Yt h0 c m l):Yt st.h.get c m l:=by
 obtain⟨ro,e,vs,ms,h1,h2⟩:=r
 have hc:c<n0:=Nat.lt_of_not_le fun hle=>by rw[h.base c hle]at h1;cases h1
 exact⟨ro,e,vs,ms,by rw[h.J9 c hc hx];exact h1,h2⟩
theorem Mem.wk(h:Mem h0 n0 X st M)(q:vQ Y st st')(hY: ∀c∈Y,∃m l,(c,m,l)∈M){M':List (Nat×Nat×List AV)}(hn:(M'.map Prod.fst).Nodup)
  (hM: ∀c m l,(c,m,l)∈M'→((c,m,l)∈M∧c∉Y)∨(Qx st'.h.get c m l∧((∃m l,(c,m,l)∈M)∨st.n≤c))):Mem h0 n0 X st' M':=by
 have hrow: ∀c m l,(c,m,l)∈M'→Qx st'.h.get c m l:=fun c m l hm=>by
  rcases hM c m l hm with⟨h1,h2⟩|⟨h1,_⟩
  ·exact Qx.OB h.fresh q (h.row c m l h1) h2
  ·exact h1
 refine⟨q.fresh,Nat.le_trans h.le q.le,h.base,hrow,fun c m l hm=>(hrow c m l hm).lt q.fresh,fun c m l hm=>?_,hn,fun c hc hx=>?_⟩
 ·rcases hM c m l hm with⟨h1,_⟩|⟨_,⟨m',l',h1⟩|h1⟩
  ·exact h.own c m l h1
  ·exact h.own c m' l' h1
  ·exact .inl (Nat.le_trans h.le h1)
 ·rw[q.J9 c (Nat.lt_of_lt_of_le hc h.le) fun hcY=>?_]
  ·exact h.J9 c hc hx
  ·obtain⟨m,l,hm⟩:=hY c hcY;rcases h.own c m l hm with h1|h1
   ·omega
   ·exact hx h1
theorem Mem.yQ(h:Mem h0 n0 X st M){m':Nat}{l':List AV}(hk:M[k]? =some (c,m,l))(q:vQ [c] st st')(r:Qx st'.h.get c m' l'):Mem h0 n0 X st' (M.set k (c,m',l')):=by
 have hm0:=List.mem_of_getElem? hk
 have hfst:(M.set k (c,m',l')).map Prod.fst=M.map Prod.fst:=by
  apply List.ext_getElem?;intro i;rw[List.getElem?_map,List.getElem?_map,List.getElem?_set]
  by_cases h:k=i
  ·subst h;rw[if_pos rfl,hk];have:=(List.getElem?_eq_some_iff.1 hk).1;simp[this]
  ·rw[if_neg h]
 refine h.wk q (fun c' hc=>?_) (by rw[hfst];exact h.nodup) fun c1 m1 l1 hm=>?_
 ·rw[List.mem_singleton]at hc;subst hc;exact⟨m,l,hm0⟩
 ·obtain⟨i,hi⟩:=List.getElem?_of_mem hm;rw[List.getElem?_set]at hi
  by_cases hki:k=i
  ·subst hki;have:=(List.getElem?_eq_some_iff.1 hk).1;simp[this]at hi;obtain⟨rfl,rfl,rfl⟩:=hi;exact .inr ⟨r,.inl ⟨m,l,hm0⟩⟩
  ·rw[if_neg hki]at hi;refine .inl ⟨List.mem_of_getElem? hi,fun e=>hki ?_⟩;rw[List.mem_singleton]at e
   have h1:(M.map Prod.fst)[k]? =some c:=by rw[List.getElem?_map,hk];rfl
   have h2:(M.map Prod.fst)[i]? =some c:=by rw[List.getElem?_map,hi];simp[e]
   exact(List.getElem?_inj (List.getElem?_eq_some_iff.1 h1).1 h.nodup).1 (h1.trans h2.symm)
theorem Mem.fM(h:Mem h0 n0 X st M)(q:Qt st st')(r:Qx st'.h.get c m l)(hc:st.n≤c):Mem h0 n0 X st' ((c,m,l)::M):=by
 refine h.wk (q.OB []) (fun c' hc=>by simp at hc) ?_ fun c1 m1 l1 hm=>?_
 ·rw[List.map_cons];refine List.nodup_cons.2 ⟨fun hm=>?_,h.nodup⟩;obtain⟨⟨c',m',l'⟩,h1,h2⟩:=List.mem_map.1 hm;have:=h.lt c' m' l' h1;simp only at h2;omega
 ·rcases List.mem_cons.1 hm with e|hm
  ·injection e with e1 e2
   injection e2 with e2 e3
   subst e1 e2 e3;exact .inr ⟨r,.inr hc⟩
  ·exact .inl ⟨hm,by simp⟩

structure FU(P:Program)(t e:TypeId)(z:Nat):Prop where
 u:P.underlying t=some (.slice e)
 s:(P.underlying e).isSome=true
 zc: ∃zc,zeroOf P e=some zc∧zc.length=z
 c:P.cellsOf e=z
 p:1≤z
 b:P.bytesOf e≤1000
theorem WB{α β:Type}: ∀(n:Nat) (l:List α) (k:List α→Option β),n≤l.length→EI n l k=k (l.take n):=by
 intro n
 induction n with
 |zero=>intro l k _;rfl
 |succ n ih=>
  intro l k hl
  cases l with
  |nil=>simp at hl
  |cons a l=>exact ih l _ (by simpa using hl)
theorem Yt.rowOf{h:Hp}{c m:Nat}{l:List AV}(r:Yt h c m l): ∃e vs ro ms,rowOf h c m=some (e,vs,l,ro,ms):=by
 obtain⟨ro,e,vs,ms,h1,h2⟩:=r;refine⟨e,vs,ro,ms,?_⟩;unfold Proofs.YtiknomepbklibaaGreatDoor.rowOf;rw[h1,Ql];show ob (nth ms m) _=_;rw[U6,h2];rfl
theorem Vu(T:FU P t e z){s:AV}(hr2:Yt st.h.get c2 m2 l2)(hle:J2+n *z≤l2.length): ∃e2 vs2 ro2 ms2,
  Yj P [t,t] s (.sl c2 m2 J2 n z2) st=(match s with
   |.nils=>Qj (Nat.beq n 0) (some (.nils,st)) (QJ (Nat.ble n 1000000000) (Az ((l2.drop J2).take (n *z)) st fun _ c st=>UB (P.cellsOf e) fun z=>some (.sl c 0 0 n z,st)))
   |.sl c m off len esz=>QJ (Nat.beq esz (P.cellsOf e)) (ob (rowOf st.h.get c m) fun r=>QJ (!r.2.2.2.1) (UB (len *esz) fun lz=>EI lz (EL off r.2.2.1) fun olds=>
    Qj (Nat.beq n 0) (some (s,st)) (QJ (Nat.ble (len+n) 1000000000) (XJ (ZB olds ((l2.drop J2).take (n *z))) fun l=>UB (Zh l) fun k=>UB (r.2.1+off) fun vs=>
     XJ (ZB (Z7 (vs+lz) (vs+lz+n *z) r.2.2.2.2) [(k,vs,some l)]) fun ms=>Vl st c (.row false ms) fun st=>UB (Zh r.2.2.2.2) fun m'=>UB (len+n) fun len'=>some (.sl c m' 0 len' esz,st)))))
   |_=>none)∧rowOf st.h.get c2 m2=some (e2,vs2,l2,ro2,ms2):=by
 obtain⟨e2,vs2,ro2,ms2,h2⟩:=hr2.rowOf;refine⟨e2,vs2,ro2,ms2,?_,h2⟩;obtain⟨zc,hz,hzl⟩:=T.zc;unfold Yj;have hz1:=T.p;simp only[Nat.beq_refl,QO,T.u,T.s,hz,Ql,Us,hzl,T.c,Nat.ble_eq_true_of_le T.p,Nat.ble_eq_true_of_le T.b,h2,Jh];rw[WB _ _ _ (by rw[U1,List.length_drop];omega),U1]
 cases s<;>simp only[Jh,Us,Ua,T.c]
theorem append_nil(T:FU P t e z)(hr2:Yt st.h.get c2 m2 l2)(hle:J2+n *z≤l2.length)(hn:0<n)(hb:n≤1000000000):
  Yj P [t,t] .nils (.sl c2 m2 J2 n z2) st=some (.sl st.n 0 0 n z,⟨st.n+1,st.h.set st.n (.row false [(((l2.drop J2).take (n *z)).length,0,some ((l2.drop J2).take (n *z)))])⟩):=by
 obtain⟨_,_,_,_,h,_⟩:=Vu T (s:=.nils) (z2:=z2) hr2 hle;rw[h];have h0:Nat.beq n 0=false:=q7 Qc;simp only[h0,Qs,Nat.ble_eq_true_of_le hb,QO,Yd,Jh,T.c]
theorem Mem.append(hM:Mem h0 n0 X st M)(T:FU P t e z)(hk:M[k]? =some (c,m,l))(hl:l.length=len *z)(hr2:Yt st.h.get c2 m2 l2)(hle:J2+n *z≤l2.length)(hn:0<n)(hb:len+n≤1000000000):
  ∃m' st1,Yj P [t,t] (.sl c m 0 len z) (.sl c2 m2 J2 n z2) st=some (.sl c m' 0 (len+n) z,st1)∧Mem h0 n0 X st1 (M.set k (c,m',l++(l2.drop J2).take (n *z)))∧st1.n=st.n:=by
 obtain⟨_,_,_,_,h,_⟩:=Vu T (s:=.sl c m 0 len z) (z2:=z2) hr2 hle;have hm0:=List.mem_of_getElem? hk;obtain⟨vs,ms,h1,h2⟩:=hM.row c m l hm0
 have hr:rowOf st.h.get c m=some (l.length,vs,l,false,ms):=by
  unfold rowOf;rw[h1,Ql];show ob (nth ms m) _=_;rw[U6,h2];rfl
 have hbeq:Nat.beq n 0=false:=q7 Qc;have hml:=(List.getElem?_eq_some_iff.1 h2).1;refine⟨ms.length,⟨st.n,st.h.set c (.row false (Z7 (vs+len *z) (vs+len *z+n *z) ms++[((l++(l2.drop J2).take (n *z)).length,vs,some (l++(l2.drop J2).take (n *z)))]))⟩,?_,?_,rfl⟩
 ·rw[h];simp only[T.c,Nat.beq_refl,QO,hr,Ql,Bool.not_false,Jh];rw[WB _ _ _ (by rw[U1,List.drop_zero];omega),U1,List.drop_zero,List.take_of_length_le Qc];simp only[hbeq,Qs,Nat.ble_eq_true_of_le hb,QO,Jh,Ua,Us,UI,U4,Nat.add_zero]
 ·have hg: ∀x C,(st.h.set c C).get x=if x=c then some C else st.h.get x:=fun x C=>Tr.VZ _ _ _ _
  refine hM.yQ hk ⟨fun x hx=>?_,Nat.le_refl _,fun x hx hX=>?_⟩ ⟨vs,_,(hg _ _).trans (if_pos rfl),?_⟩
  ·show(st.h.set c _).get x=none;have:=hM.lt c m l hm0;have hx:st.n≤x:=hx;rw[hg,if_neg Qc];exact hM.fresh x hx
  ·show(st.h.set c _).get x=_;rw[hg,if_neg (by simpa using hX)]
  ·rw[List.getElem?_append_right (by rw[JO];exact Nat.le_refl _),JO,Nat.sub_self];rfl
variable {K:List (Nat×AV)}
theorem ZL{y:Operand}{tys:Array TypeId}{u w v:AV}{st1:St}(ht:tys= #[t,t])(hx:QT G K x=some u)(hy:QT G K y=some w)(h:Yj P [t,t] u w st=some (v,st1)):U2 P G K (.call {callee:=.builtin .append,args:= #[x,y],argTypes:=tys}) st v st1:=.of fun T hT c d ty pos af g=>by
 subst ht;show(ob (Jq G T x) fun a=>ob (Jq G T y) fun b=>Yj P [t,t] a b st)=_;rw[hT.Jq hx,hT.Jq hy,Ql,Ql,h]
theorem PG(T:FU P t e z){s x:AV}(hs:(match s with|.nils=>true|.sl _ _ _ _ _=>true|_=>false)=true)(hx:(match x with|.nils=>true|.sl0 _ _ _=>true|.slz _ _ _ _ _=>true|_=>false)=true):Yj P [t,t] s x st=some (s,st):=by
 obtain⟨zc,hz,hzl⟩:=T.zc;unfold Yj;simp only[Nat.beq_refl,QO,T.u,T.s,hz,Ql,Us,hzl,T.c,Nat.ble_eq_true_of_le T.p,Nat.ble_eq_true_of_le T.b]
 cases x<;>first
  |(cases hx;done)
  |(cases s<;>first|rfl|(cases hs;done))
theorem C9(T:FU P t e z)(hr2:Yt st.h.get c2 m2 l2)(hle:J2≤l2.length):Yj P [t,t] .nils (.sl c2 m2 J2 0 z2) st=some (.nils,st):=by
 obtain⟨_,_,_,_,h,_⟩:=Vu T (s:=.nils) (n:=0) (z2:=z2) hr2 (by simpa using hle);rw[h];rfl
theorem C8(T:FU P t e z)(hr:Qx st.h.get c m l)(hl:l.length=len *z)(hr2:Yt st.h.get c2 m2 l2)(hle:J2≤l2.length):Yj P [t,t] (.sl c m 0 len z) (.sl c2 m2 J2 0 z2) st=some (.sl c m 0 len z,st):=by
 obtain⟨_,_,_,_,h,_⟩:=Vu T (s:=.sl c m 0 len z) (n:=0) (z2:=z2) hr2 (by simpa using hle);rw[h];obtain⟨vs,ms,h1,h2⟩:=hr
 have hr:rowOf st.h.get c m=some (l.length,vs,l,false,ms):=by
  unfold rowOf;rw[h1,Ql];show ob (nth ms m) _=_;rw[U6,h2];rfl
 simp only[T.c,Nat.beq_refl,QO,hr,Ql,Bool.not_false,Jh];rw[WB _ _ _ (by rw[U1,List.drop_zero];omega)];rfl

theorem QS.parts{T:Tr AV}(h:QS K T){parts:Array (Nat×Operand)}{ps:List (Nat×AV)}(hp:Zr (QT G K) parts=some ps):Zr (Proofs.YtiknomepbklibaaGreatDoor.Jq G T) parts=some ps:=by
 unfold Zr at hp ⊢;generalize parts.toList=l at hp ⊢
 induction l generalizing ps with
 |nil=>exact hp
 |cons x l ih=>
  rw[JA]at hp ⊢;obtain⟨b,hb,hp⟩:=Qm hp;obtain⟨t,ht,hp⟩:=Qm hp;obtain⟨v,hv,hb⟩:=Qm hb;rw[h.Jq hv,Ql,Ql,ih ht,Ql]
  injection hb with hb
  subst hb;exact hp
structure CF(P:Program)(t:TypeId)(tbl:List (Nat×Nat))(z:List AV):Prop where
 u: ∃fs,P.underlying t=some (.struct fs)∧KK P fs=true∧fs.toList.map (fun f=>(f.offset,P.cellsOf f.type))=tbl
 z:zeroOf P t=some z
theorem Mx(fs:Array Field)(tbl:List (Nat×Nat))(h:fs.toList.map (fun f=>(f.offset,P.cellsOf f.type))=tbl):Nr P fs=nth tbl:=by
 funext i
 subst h;unfold Nr;rw[U6,U6,List.getElem?_map]
 cases fs.toList[i]? <;>rfl
theorem WJ{parts:Array (Nat×Operand)}{tbl:List (Nat×Nat)}{z r:List AV}{ps:List (Nat×AV)}(S:CF P t tbl z)(hp:Zr (QT G K) parts=some ps)(hf:XP (nth tbl) ps z=some r):U2 P G K (.build t parts) st (.agg r) st:=.of fun T hT c d ty pos af g=>by
 show ret (Wv P t parts (Jq G T)) st=_;obtain⟨fs,u,ft,hb⟩:=S.u;unfold Wv;simp only[u,ft,QO,S.z,Ql,hT.parts hp,Mx fs tbl hb,hf,Ua];rfl
theorem FM{parts:Array (Nat×Operand)}{zc r:List AV}{ps:List (Nat×AV)}(T:FU P t e z)(hz:zeroOf P e=some zc)(hp:Zr (QT G K) parts=some ps)(hf:XP (fun i=>some (i *z,z)) ps (Vp len zc)=some r)(hc:Vv Qr r=true)(hb:len *z≤16777216)(hM:Mem h0 n0 X st M):
  ∃c st1,U2 P G K (.buildSlice t len parts) st (.sl c 0 0 len z) st1∧Mem h0 n0 X st1 ((c,0,r)::M):=by
 refine⟨st.n,_,.of fun T' hT c d ty pos af g=>?_,hM.alloc r⟩;show ZN P t len parts (Jq G T') st=_;obtain⟨zc',h1,h2⟩:=T.zc;rw[hz]at h1
 injection h1 with h1
 subst h1;unfold ZN;simp only[T.u,T.s,QO,hz,Ql,Us,h2,T.c,Nat.beq_refl,Nat.ble_eq_true_of_le T.p,Nat.ble_eq_true_of_le hb,hT.parts hp,hf,hc,Yd,Jh]

theorem QS.lo{T:Tr AV}(h:QS K T){lo:Option Operand}{a:Nat}(hl:YP (QT G K) lo=some a):YP (Proofs.YtiknomepbklibaaGreatDoor.Jq G T) lo=some a:=by
 cases lo with
 |none=>exact hl
 |some x=>
  have hl:(ob (QT G K x) fun v=>match v with
   |.int _ i=>OE i
   |_=>none)=some a:=hl
  obtain⟨v,hv,hl⟩:=Qm hl
  show(ob (Proofs.YtiknomepbklibaaGreatDoor.Jq G T x) fun v=>match v with
   |.int _ i=>OE i
   |_=>none)=some a
  rw[h.Jq hv,Ql];exact hl
theorem QS.hi{T:Tr AV}(h:QS K T){hi:Option Operand}{n a:Nat}(hl:YQ (QT G K) hi n=some a):YQ (Proofs.YtiknomepbklibaaGreatDoor.Jq G T) hi n=some a:=by
 cases hi with
 |none=>exact hl
 |some x=>
  have hl:(ob (QT G K x) fun v=>match v with
   |.int _ i=>OE i
   |_=>none)=some a:=hl
  obtain⟨v,hv,hl⟩:=Qm hl
  show(ob (Proofs.YtiknomepbklibaaGreatDoor.Jq G T x) fun v=>match v with
   |.int _ i=>OE i
   |_=>none)=some a
  rw[h.Jq hv,Ql];exact hl
theorem M3{lo hi:Option Operand}{off a b:Nat}(he:Ue P t=some z)(hx:QT G K x=some (.sl c m off len z))(hl:YP (QT G K) lo=some a)(hh:YQ (QT G K) hi len=some b)(h1:a≤b)(h2:b≤len):
  U2 P G K (.slice t x lo hi none) st (Qj (Qj (Nat.beq a 0) true (Nat.ble (a+1) len)) (.sl c m (off+a *z) (b-a) z) (.slz c m off a z)) st:=D4 hx fun T hT=>by
 unfold Wl;simp only[he,Ql,Jh,hT.lo hl,hT.hi hh,Nat.ble_eq_true_of_le h1,Nat.ble_eq_true_of_le h2,QO,Nat.beq_refl]
 cases Qj (Nat.beq a 0) true (Nat.ble (a+1) len)<;>rfl
theorem M1{lo hi:Option Operand}(he:Ue P t=some z)(hx:QT G K x=some .nils)(hl:YP (QT G K) lo=some 0)(hh:YQ (QT G K) hi 0=some 0):
  U2 P G K (.slice t x lo hi none) st .nils st:=D4 hx fun T hT=>by
 unfold Wl;simp only[he,Ql,hT.lo hl,hT.hi hh];rfl
theorem Nz{s d:TypeId}{k k':IntKind}{n:Int}(hd:P.underlying d=some (.int k'))(hs:P.underlying s=some (.int k))(hx:QT G K x=some (.int k n)):U2 P G K (.convert s d x) st (.int k' (k'.wrap n)) st:=RC hx (by
 unfold Pv;simp only[hs];unfold conv
 simp only[hd,hs,Option.isSome_some,QO,Yu,UH])
end

structure Jg(h:Hp)(X:List Nat)(z:Nat)(ls:List (List AV))(ks:AV):Prop where
 len:YD ks=some ls.length
 W3:(ls.length:Int)≤9223372036854775807
 cell:Qr ks=true
 at_: ∀(i:Nat) (cs:List AV),ls[i]? =some cs→ ∃c m off cells,ks=.sl c m off ls.length z∧c∉X∧Yt h c m cells∧cs.length=z∧(cells.drop (off+i *z)).take z=cs
 alive: ∀(c m off n z':Nat),ks=.sl c m off n z'→c∉X∧ ∃cells,Yt h c m cells∧off+n *z≤cells.length
theorem Jg.mem{h0:Hp}{n0:Nat}{X:List Nat}{st:St}{M:List (Nat×Nat×List AV)}(hM:Mem h0 n0 Y st M)(r:Jg h0 X z ls ks)(hY: ∀c∈Y,c∈X):Jg st.h.get X z ls ks:=
 ⟨r.len,r.W3,r.cell,fun i cs hi=>by
  obtain⟨c,m,off,cells,h1,h2,h3,h4⟩:=r.at_ i cs hi
  exact⟨c,m,off,cells,h1,h2,hM.JF (fun hc=>h2 (hY c hc)) h3,h4⟩,fun c m off n z' e=>by
  obtain⟨h1,cells,h2,h3⟩:=r.alive c m off n z' e
  exact⟨h1,cells,hM.JF (fun hc=>h1 (hY c hc)) h2,h3⟩⟩
theorem Jg.nil(h:Hp)(X:List Nat)(z:Nat):Jg h X z [] .nils:=⟨rfl,by simp,rfl,fun i cs hi=>by simp at hi,fun _ _ _ _ _ e=>by cases e⟩
theorem AD: ∀{ls:List (List AV)},(∀cs∈ls,cs.length=z)→ls.flatten.length=ls.length *z:=by
 intro ls
 induction ls with
 |nil=>intro _;simp
 |cons a l ih=>
  intro h;rw[List.flatten_cons,List.length_append,ih fun cs hc=>h cs (List.mem_cons_of_mem _ hc),h a (List.mem_cons_self ..),List.length_cons,Nat.succ_mul,Nat.add_comm]
theorem qh: ∀{ls:List (List AV)} (i:Nat) (cs:List AV),(∀cs∈ls,cs.length=z)→ls[i]? =some cs→(ls.flatten.drop (i *z)).take z=cs:=by
 intro ls
 induction ls with
 |nil=>intro i cs _ h;simp at h
 |cons a l ih=>
  intro i cs hz hi;have ha:=hz a (List.mem_cons_self ..)
  cases i with
  |zero=>
   simp at hi;subst hi;rw[Nat.zero_mul,List.drop_zero,List.flatten_cons,List.take_append_of_le_length Qc,List.take_of_length_le Qc]
  |succ i=>
   rw[Nat.succ_mul,Nat.add_comm,List.flatten_cons,←List.drop_drop,←ha,List.drop_left];rw[ha];exact ih i cs (fun cs hc=>hz cs (List.mem_cons_of_mem _ hc)) (by simpa using hi)
theorem Jg.own{X:List Nat}(r:Qx h c m ls.flatten)(hz: ∀cs∈ls,cs.length=z)(hX:c∉X)(hb:(ls.length:Int)≤9223372036854775807):Jg h X z ls (.sl c m 0 ls.length z):=
 ⟨rfl,hb,rfl,fun i cs hi=>⟨c,m,0,_,rfl,hX,r.Jb,hz cs (List.mem_of_getElem? hi),by rw[Nat.zero_add];exact qh i cs hz hi⟩,fun c' m' off n z' e=>by
  injection e with e1 e2 e3 e4 e5
  subst e1 e2 e3 e4 e5
  exact⟨hX,_,r.Jb,by rw[AD hz];omega⟩⟩
theorem Jg.load{P:Program}{X:List Nat}(r:Jg h X z ls ks){i:Nat}{cs:List AV}(hi:ls[i]? =some cs): ∃c m off,ks=.sl c m off ls.length z∧c∉X∧
  (∀t,tk P t=.agg z→Js P t (.ptr c m (off+i *z)) h=some (.agg cs))∧(∀t j v,tk P t=.one→cs[j]? =some v→Js P t (.ptr c m (off+i *z+j)) h=some v)∧
  ∀t j n,tk P t=.agg n→j+n≤z→Js P t (.ptr c m (off+i *z+j)) h=some (.agg ((cs.drop j).take n)):=by
 obtain⟨c,m,off,cells,h1,h2,⟨ro,e,vs,ms,h3,h4⟩,h5,h6⟩:=r.at_ i cs hi
 have hld: ∀t o,Js P t (.ptr c m o) h=Vi P t cells o:=fun t o=>by
  show ob (rowOf h c m) _=_;unfold rowOf;rw[h3,Ql];show ob (ob (nth ms m) _) _=_;rw[U6,h4];rfl
 have hlen:off+i *z+z≤cells.length∨z=0:=by
  rw[←h6,List.length_take,List.length_drop]at h5;omega
 refine⟨c,m,off,h1,h2,fun t ht=>?_,fun t j v ht hv=>?_,fun t j n ht hj=>?_⟩
 ·rw[hld];refine QN ht ?_;rw[WB _ _ _ (by rw[U1,List.length_drop];omega),U1,h6]
 ·rw[hld];refine Qd ht ?_
  have hj:j<z:=by rw[←h5];exact(List.getElem?_eq_some_iff.1 hv).1
  rw[U6,←List.getElem?_drop];rw[←h6,List.getElem?_take,if_pos hj]at hv;exact hv
 ·rw[hld];refine QN ht ?_;rw[WB _ _ _ (by rw[U1,List.length_drop];omega),U1,←List.drop_drop,←h6,List.drop_take,List.take_take,Nat.min_eq_left Qc]
theorem Jg.NF{P:Program}{h':Hp}{X:List Nat}(r:Jg h X z ls ks)(r':Jg h' Y z ls ks){i:Nat}{cs:List AV}(hi:ls[i]? =some cs): ∃c m off,ks=.sl c m off ls.length z∧c∉X∧
  (∀t,tk P t=.agg z→Js P t (.ptr c m (off+i *z)) h=some (.agg cs))∧(∀t j v,tk P t=.one→cs[j]? =some v→Js P t (.ptr c m (off+i *z+j)) h=some v)∧
  (∀t j n,tk P t=.agg n→j+n≤z→Js P t (.ptr c m (off+i *z+j)) h=some (.agg ((cs.drop j).take n)))∧
  (∀t,tk P t=.agg z→Js P t (.ptr c m (off+i *z)) h'=some (.agg cs))∧(∀t j v,tk P t=.one→cs[j]? =some v→Js P t (.ptr c m (off+i *z+j)) h'=some v)∧
  (∀t j n,tk P t=.agg n→j+n≤z→Js P t (.ptr c m (off+i *z+j)) h'=some (.agg ((cs.drop j).take n))):=by
 obtain⟨c,m,off,e,hX,h1,h2,h3⟩:=r.load (P:=P) hi;obtain⟨c',m',off',e',_,k1,k2,k3⟩:=r'.load (P:=P) hi;rw[e]at e'
 injection e' with e1 e2 e3
 subst e1 e2 e3;exact⟨c,m,off,e,hX,h1,h2,h3,k1,k2,k3⟩
end
section
open Go Go.RowKit

theorem HR.under{w0:World}{p:JC}{h:Hp}{w:World}(H:HR w0 p h w):Below w0.heap.size w0 w:=⟨H.os,H.tape,H.output,H.size,H.J9⟩

def Real(P:Program)(f:FuncId):Prop:= ∃fn,P.funcs[f]? =some fn∧fn.body.isSome=true∧(fn.name== "runtime.NumGoroutine")=false
noncomputable def GU(l:List (FuncId×(List AV→St→Option (AV×St))))(f:FuncId):Option (List AV→St→Option (AV×St)):=List.rec none (fun q _ ih=>Qj (Nat.beq f q.1) (some q.2) ih) l
theorem GS{l:List (FuncId×(List AV→St→Option (AV×St)))}{f:FuncId}{q:List AV→St→Option (AV×St)}(h:GU l f=some q):(f,q)∈l:=by
 induction l with
 |nil=>cases h
 |cons x l ih=>
  have h:Qj (Nat.beq f x.1) (some x.2) (GU l f)=some q:=h
  cases hb:Nat.beq f x.1 with
  |true=>
   rw[hb]at h
   injection h with h
   subst h;rw[Nat.eq_of_beq_eq_true hb];exact List.mem_cons_self ..
  |false=>rw[hb]at h;exact List.mem_cons_of_mem _ (ih h)
end
section
open Go
variable {Y:List Nat} {a ks2 u:AV} {b pol:Bool} {c c2 j k2 m m2 n off:Nat} {e t:TypeId} {l l2:List AV} {ls2:List (List AV)} {x y:Operand}

section
variable {P:Program} {G:Env} {N:Nat} {T:Tr AV} {st:St} {ops rest:List Oper} {K:List (Nat×AV)} {R:Tr AV→St→Prop} {d:Nat} {op:Op} {ty:TypeId} {pos:String} {af:Array Edge} {v:AV} {st1:St}
theorem o1(hK:QS K T)(h:U2 P G K op st v st1)(hN:Nat.ble (d+1) N=true)(hn: ∀T',QS ((d,v)::K) T'→WR P G N ops rest R T' st1):WR P G N ops (⟨some d,op,ty,pos,af,none⟩::rest) R T st:=EF hK h (Nat.le_of_ble_eq_true hN) hn
theorem oB{x:Bool}(hK:QS K T)(h:U2 P G K op st (.bool x) st1)(hN:Nat.ble (d+1) N=true)(hn: ∀(b:Bool) T',x=b→QS ((d,.bool b)::K) T'→WR P G N ops rest R T' st1):WR P G N ops (⟨some d,op,ty,pos,af,none⟩::rest) R T st:=w7 hK h (Nat.le_of_ble_eq_true hN) hn
theorem og{t:Nat}(hK:QS K T)(ht:Yh ops j=some t)(hb:K.lookup t=some (.bool pol))(h:U2 P G K op st v st1)(hN:Nat.ble (d+1) N=true)(hn: ∀T',QS ((d,v)::K) T'→WR P G N ops rest R T' st1):WR P G N ops (⟨some d,op,ty,pos,af,some (j,pol)⟩::rest) R T st:=vS hK ht hb h (Nat.le_of_ble_eq_true hN) hn
theorem iq{t:Nat}{x:Bool}(hK:QS K T)(ht:Yh ops j=some t)(hb:K.lookup t=some (.bool pol))(h:U2 P G K op st (.bool x) st1)(hN:Nat.ble (d+1) N=true)(hn: ∀(b:Bool) T',x=b→QS ((d,.bool b)::K) T'→WR P G N ops rest R T' st1):WR P G N ops (⟨some d,op,ty,pos,af,some (j,pol)⟩::rest) R T st:=vS hK ht hb h (Nat.le_of_ble_eq_true hN) (hn x · rfl)
theorem gn{t:Nat}(hK:QS K T)(ht:Yh ops j=some t)(hb:K.lookup t=some (.bool b))(hne:(b==pol)=false)(hN:Nat.ble (d+1) N=true)(hn: ∀T',QS ((d,.tup [])::K) T'→WR P G N ops rest R T' st):WR P G N ops (⟨some d,op,ty,pos,af,some (j,pol)⟩::rest) R T st:=aQ hK ht hb hne (Nat.le_of_ble_eq_true hN) hn
end
section
variable {P:Program} {G:Env} {N:Nat} {st:St} {K:List (Nat×AV)} {T:Tr AV} {ops:List Oper} {r:List (Nat×Nat)} {R:Tr AV→St→Prop} {sn:List St} {i d:Nat} {op:Op} {ty:TypeId} {pos:String} {af:Array Edge} {v:AV} {st1:St}
theorem d1(ho:ops[i]? =some ⟨some d,op,ty,pos,af,none⟩)(hK:QS K T)(h:U2 P G K op st v st1)(hk:Nat.beq (QE P op) 3=false)(hN:Nat.ble (d+1) N=true)(hn: ∀T',QS ((d,v)::K) T'→WD P G N ops (r.map (Yo ops)) R T' st1 sn):WD P G N ops (((i,0)::r).map (Yo ops)) R T st sn:=Gt ho hK h hk (Nat.le_of_ble_eq_true hN) hn
theorem dA(ho:ops[i]? =some ⟨some d,op,ty,pos,af,none⟩)(hK:QS K T)(h:U2 P G K op st v st1)(hk:Nat.beq (QE P op) 3=true)(hN:Nat.ble (d+1) N=true)(hn: ∀T',QS ((d,v)::K) T'→WD P G N ops (r.map (Yo ops)) R T' st1 (st1::sn)):WD P G N ops (((i,0)::r).map (Yo ops)) R T st sn:=LM ho hK h hk (Nat.le_of_ble_eq_true hN) hn
theorem dB{x:Bool}(ho:ops[i]? =some ⟨some d,op,ty,pos,af,none⟩)(hK:QS K T)(h:U2 P G K op st (.bool x) st1)(hk:Nat.beq (QE P op) 3=false)(hN:Nat.ble (d+1) N=true)(hn: ∀(b:Bool) T',x=b→QS ((d,.bool b)::K) T'→WD P G N ops (r.map (Yo ops)) R T' st1 sn):WD P G N ops (((i,0)::r).map (Yo ops)) R T st sn:=w8 ho hK h hk (Nat.le_of_ble_eq_true hN) hn
theorem dg{t:Nat}(ho:ops[i]? =some ⟨some d,op,ty,pos,af,some (j,pol)⟩)(hK:QS K T)(ht:Yh ops j=some t)(hb:K.lookup t=some (.bool pol))(h:U2 P G K op st v st1)(hk:Nat.beq (QE P op) 3=false)(hN:Nat.ble (d+1) N=true)(hn: ∀T',QS ((d,v)::K) T'→WD P G N ops (r.map (Yo ops)) R T' st1 sn):WD P G N ops (((i,0)::r).map (Yo ops)) R T st sn:=vT ho hK ht hb h hk (Nat.le_of_ble_eq_true hN) hn
theorem iM{t:Nat}{x:Bool}(ho:ops[i]? =some ⟨some d,op,ty,pos,af,some (j,pol)⟩)(hK:QS K T)(ht:Yh ops j=some t)(hb:K.lookup t=some (.bool pol))(h:U2 P G K op st (.bool x) st1)(hk:Nat.beq (QE P op) 3=false)(hN:Nat.ble (d+1) N=true)(hn: ∀(b:Bool) T',x=b→QS ((d,.bool b)::K) T'→WD P G N ops (r.map (Yo ops)) R T' st1 sn):WD P G N ops (((i,0)::r).map (Yo ops)) R T st sn:=vT ho hK ht hb h hk (Nat.le_of_ble_eq_true hN) (hn x · rfl)
theorem ke{t:Nat}(ho:ops[i]? =some ⟨some d,op,ty,pos,af,some (j,pol)⟩)(hK:QS K T)(ht:Yh ops j=some t)(hb:K.lookup t=some (.bool pol))(h:U2 P G K op st v st1)(hk:Nat.beq (QE P op) 3=true)(hN:Nat.ble (d+1) N=true)(hn: ∀T',QS ((d,v)::K) T'→WD P G N ops (r.map (Yo ops)) R T' st1 (st1::sn)):WD P G N ops (((i,0)::r).map (Yo ops)) R T st sn:=wA ho hK ht hb h hk (Nat.le_of_ble_eq_true hN) hn
theorem YA{t:Nat}(ho:ops[i]? =some ⟨some d,op,ty,pos,af,some (j,pol)⟩)(hK:QS K T)(ht:Yh ops j=some t)(hb:K.lookup t=some (.bool b))(hne:(b==pol)=false)(hN:Nat.ble (d+1) N=true)(hn: ∀sn' T',QS ((d,.tup [])::K) T'→WD P G N ops (r.map (Yo ops)) R T' st sn'):WD P G N ops (((i,n)::r).map (Yo ops)) R T st sn:=aR ho hK ht hb hne (Nat.le_of_ble_eq_true hN) (fun T' sn'=>hn sn' T')
end

theorem Gu{ops:List Oper}{K:List (Nat×AV)}{T:Tr AV}{t:Nat}{d:Option Nat}{op:Op}{ty:TypeId}{pos:String}{af:Array Edge}(hK:QS K T)(ht:Yh ops j=some t)(hb:K.lookup t=some (.tup [])):U3 ops ⟨d,op,ty,pos,af,some (j,pol)⟩ T=false:=by
 unfold U3;simp only[ht];rw[show Y1 T t=.tup []from hK t _ hb]
theorem iY{P:Program}{G:Env}{N:Nat}{T:Tr AV}{st:St}{ops rest:List Oper}{K:List (Nat×AV)}{R:Tr AV→St→Prop}{d:Nat}{op:Op}{ty:TypeId}{pos:String}{af:Array Edge}{t:Nat}(hK:QS K T)(ht:Yh ops j=some t)(hb:K.lookup t=some (.tup []))(hN:Nat.ble (d+1) N=true)(hn: ∀T',QS ((d,.tup [])::K) T'→WR P G N ops rest R T' st):WR P G N ops (⟨some d,op,ty,pos,af,some (j,pol)⟩::rest) R T st:=by
 obtain⟨L',n',T',st',h1,h2⟩:=hn _ (hK.set d (.tup []));refine⟨L',n',T',st',?_,h2⟩;show(ob (UJ P G _ ops _ T st) fun r=>Ek N (some d) r.1 T fun T=>tl (Ha P G _ N ops rest T r.2))=_;unfold UJ;rw[Gu hK ht hb,Qs,Ql];show QJ (Nat.ble (d+1) N) (T.put d (.tup []) _)=_;rw[hN,Tr.put_eq];exact h1
theorem VF{P:Program}{G:Env}{N:Nat}{st:St}{K:List (Nat×AV)}{T:Tr AV}{ops:List Oper}{r:List (Nat×Nat)}{R:Tr AV→St→Prop}{sn:List St}{i d:Nat}{op:Op}{ty:TypeId}{pos:String}{af:Array Edge}{t:Nat}(ho:ops[i]? =some ⟨some d,op,ty,pos,af,some (j,pol)⟩)(hK:QS K T)(ht:Yh ops j=some t)(hb:K.lookup t=some (.tup []))(hN:Nat.ble (d+1) N=true)(hn: ∀sn' T',QS ((d,.tup [])::K) T'→WD P G N ops (r.map (Yo ops)) R T' st sn'):WD P G N ops (((i,n)::r).map (Yo ops)) R T st sn:=by
 rw[YY ho];obtain⟨L',n',T',st',h1,h2⟩:=hn (Qj (Nat.beq (QE P op) 3) (st::sn) sn) _ (hK.set d (.tup []));refine⟨L',n',T',st',?_,h2⟩
 show(ob (UJ P G _ ops _ T st) fun r=>QJ (Qj (U3 ops _ T) (again P G _ T r.1 n (List.rec [] (fun _ t _=>t) sn)) true)
  (Ek N (some d) r.1 T fun T=>tl (Ak P G _ N ops _ T r.2 (Qj (Nat.beq (QE P op) 3) (r.2::sn) sn))))=_
 unfold UJ;rw[Gu hK ht hb,Qs,Ql,Qs,QO];show QJ (Nat.ble (d+1) N) (T.put d (.tup []) _)=_;rw[hN,Tr.put_eq];exact h1

section
variable {P:Program} {G:Env} {N:Nat} {T:Tr AV} {st:St} {ops rest:List Oper} {K:List (Nat×AV)} {R:Tr AV→St→Prop} {d:Nat} {ty:TypeId} {pos:String} {af:Array Edge} {h0:Hp} {n0:Nat} {X:List Nat} {M:List (Nat×Nat×List AV)}
theorem Xo{len z:Nat}{parts:Array (Nat×Operand)}{zc r:List AV}{ps:List (Nat×AV)}(hK:QS K T)(hM:Mem h0 n0 X st M)(S:FU P t e z)(hz:zeroOf P e=some zc)(hp:Zr (QT G K) parts=some ps)(hf:XP (fun i=>some (i *z,z)) ps (Vp len zc)=some r)(hc:Vv Qr r=true)(hb:Nat.ble (len *z) 16777216=true)(hN:Nat.ble (d+1) N=true)
  (hn: ∀(c:Nat) T' st',QS ((d,.sl c 0 0 len z)::K) T'→Mem h0 n0 X st' ((c,0,r)::M)→WR P G N ops rest R T' st'):WR P G N ops (⟨some d,.buildSlice t len parts,ty,pos,af,none⟩::rest) R T st:=by
 obtain⟨c,st1,h1,h2⟩:=FM (G:=G) S hz hp hf hc (Nat.le_of_ble_eq_true hb) hM;exact EF hK h1 (Nat.le_of_ble_eq_true hN) fun T' hT'=>hn c T' st1 hT' h2
theorem Xp{sn:List St}{i:Nat}{rr:List (Nat×Nat)}{len z:Nat}{parts:Array (Nat×Operand)}{zc r:List AV}{ps:List (Nat×AV)}(ho:ops[i]? =some ⟨some d,.buildSlice t len parts,ty,pos,af,none⟩)(hK:QS K T)(hM:Mem h0 n0 X st M)(S:FU P t e z)(hz:zeroOf P e=some zc)(hp:Zr (QT G K) parts=some ps)(hf:XP (fun i=>some (i *z,z)) ps (Vp len zc)=some r)(hc:Vv Qr r=true)(hb:Nat.ble (len *z) 16777216=true)(hN:Nat.ble (d+1) N=true)
  (hn: ∀(c:Nat) T' st',QS ((d,.sl c 0 0 len z)::K) T'→Mem h0 n0 X st' ((c,0,r)::M)→WD P G N ops (rr.map (Yo ops)) R T' st' sn):WD P G N ops (((i,0)::rr).map (Yo ops)) R T st sn:=by
 obtain⟨c,st1,h1,h2⟩:=FM (G:=G) S hz hp hf hc (Nat.le_of_ble_eq_true hb) hM;exact Gt ho hK h1 rfl (Nat.le_of_ble_eq_true hN) fun T' hT'=>hn c T' st1 hT' h2
theorem wB{sn:List St}{i:Nat}{rr:List (Nat×Nat)}{v:AV}(ho:ops[i]? =some ⟨some d,.box t x,ty,pos,af,none⟩)(hK:QS K T)(hM:Mem h0 n0 X st M)(hx:QT G K x=some v)(hc:Vv Qr (Jn v)=true)(hN:Nat.ble (d+1) N=true)
  (hn: ∀(c:Nat) T' st',QS ((d,.ptr c 0 0)::K) T'→Mem h0 n0 X st' ((c,0,Jn v)::M)→WD P G N ops (rr.map (Yo ops)) R T' st' sn):WD P G N ops (((i,0)::rr).map (Yo ops)) R T st sn:=by
 refine Gt (v:=.ptr st.n 0 0) (st1:=⟨st.n+1,st.h.set st.n (.row false [((Jn v).length,0,some (Jn v))])⟩) ho hK (.of fun T hT c d ty pos af g=>?_) rfl (Nat.le_of_ble_eq_true hN) fun T' hT'=>hn st.n T' _ hT' (hM.alloc _);show(ob (Jq G T x) fun x=>Ss x st)=_;rw[hT.Jq hx,Ql];unfold Ss;rw[hc,QO,Yd]
end

inductive Acc(n0 z:Nat):List (Nat×Nat×List AV)→AV→List (List AV)→Prop
 |none:Acc n0 z [] .nils []
 |own {c m:Nat} {ls:List (List AV)} (hc:n0≤c) (hz: ∀cs∈ls,cs.length=z) (hb:ls.length≤1000000000):Acc n0 z [(c,m,ls.flatten)] (.sl c m 0 ls.length z) ls
theorem Acc.less{n0 n1 z:Nat}{A:List (Nat×Nat×List AV)}{ks:AV}{ls:List (List AV)}(h:Acc n0 z A ks ls)(hn:n1≤n0):Acc n1 z A ks ls:=by
 cases h with
 |none=>exact .none
 |own hc hz hb=>exact .own (Nat.le_trans hn hc) hz hb
theorem Acc.len{n0 z:Nat}{A:List (Nat×Nat×List AV)}{ks:AV}{ls:List (List AV)}(h:Acc n0 z A ks ls):YD ks=some ls.length:=by cases h<;>rfl
theorem Acc.cell{n0 z:Nat}{A:List (Nat×Nat×List AV)}{ks:AV}{ls:List (List AV)}(h:Acc n0 z A ks ls):Qr ks=true:=by cases h<;>rfl
theorem Acc.W3{n0 z:Nat}{A:List (Nat×Nat×List AV)}{ks:AV}{ls:List (List AV)}(h:Acc n0 z A ks ls):ls.length≤1000000000:=by
 cases h with
 |none=>exact Nat.zero_le _
 |own hc hz hb=>exact hb
section
variable {P:Program} {G:Env} {N:Nat} {h0:Hp} {n0:Nat} {X:List Nat} {st:St} {M L A B:List (Nat×Nat×List AV)} {z:Nat} {ks:AV} {ls:List (List AV)}
theorem Mem.perm(h:Mem h0 n0 X st M){M':List (Nat×Nat×List AV)}(p:M.Perm M'):Mem h0 n0 X st M':=
 ⟨h.fresh,h.le,h.base,fun c m l hm=>h.row c m l (p.mem_iff.2 hm),fun c m l hm=>h.lt c m l (p.mem_iff.2 hm),fun c m l hm=>h.own c m l (p.mem_iff.2 hm),(p.map _).nodup_iff.1 h.nodup,h.J9⟩
theorem Mem.cast(h:Mem h0 n0 X st M){M':List (Nat×Nat×List AV)}(e:M=M'):Mem h0 n0 X st M':=e▸h
theorem Mem.Ys(hM:Mem h0 n0 X st (L++(A++B))){n1:Nat}(hA:Acc n1 z A ks ls):Jg st.h.get [] z ls ks:=by
 cases hA with
 |none=>exact .nil _ _ _
 |own hc hz hb=>
  rename_i c m;exact Jg.own (hM.row c m _ Q4) hz Q4 Qc
theorem BE(L B:List (Nat×Nat×List AV))(a b:Nat×Nat×List AV):(L++([a]++B)).set L.length b=L++([b]++B):=by
 rw[List.set_append_right _ _ (Nat.le_refl _),Nat.sub_self];rfl
theorem Cl(L B:List (Nat×Nat×List AV))(a:Nat×Nat×List AV):(L++([a]++B))[L.length]? =some a:=by
 rw[List.getElem?_append_right (Nat.le_refl _),Nat.sub_self];rfl
theorem Mem.aA(hM:Mem h0 n0 X st (L++(A++B)))(hA:Acc n0 z A ks ls)(T:FU P t e z)(hy:Jg st.h.get Y z ls2 ks2)(hz2: ∀cs∈ls2,cs.length=z)(hb:ls.length+ls2.length≤1000000000):
  ∃ks' A' st1,Yj P [t,t] ks ks2 st=some (ks',st1)∧Acc n0 z A' ks' (ls++ls2)∧Mem h0 n0 X st1 (L++(A'++B)):=by
 have hzz: ∀cs∈ls++ls2,cs.length=z:=fun cs hc=>by
  rcases List.mem_append.1 hc with hc|hc
  ·cases hA with
   |none=>cases hc
   |own h1 h2 h3=>exact h2 cs hc
  ·exact hz2 cs hc
 have hl2:=hy.len
 cases ls2 with
 |nil=>
  rw[List.append_nil];refine⟨ks,A,st,?_,hA,hM⟩
  cases ks2<;>first
   |(cases hl2;done)
   |(refine PG T ?_ rfl;cases hA<;>rfl)
   |skip
  rename_i c2 m2 J2 n2 z2
  injection hl2 with hl2
  have hl2:n2=0:=hl2;subst hl2;obtain⟨_,cells,h1,h2⟩:=hy.alive _ _ _ _ _ rfl
  cases hA with
  |none=>exact C9 T h1 Qc
  |own h3 h4 h5=>
   rename_i c m;exact C8 T (hM.row c m _ Q4) (AD h4) h1 Qc
 |cons x ls2=>
  obtain⟨c2,m2,J2,cells0,rfl,_,_,_,_⟩:=hy.at_ 0 x rfl;obtain⟨_,cells,hr2,hle⟩:=hy.alive _ _ _ _ _ rfl
  have hrow:(cells.drop J2).take ((x::ls2).length *z)=(x::ls2).flatten:=by
   apply List.ext_getElem?;intro j;rw[List.getElem?_take]
   split
   ·rename_i hj;rw[List.getElem?_drop];have hz0:0<z:=T.p;have hjd:j/z<(x::ls2).length:=Nat.div_lt_of_lt_mul (by rw[Nat.mul_comm];exact hj);obtain⟨cs,hcs⟩: ∃cs,(x::ls2)[j/z]? =some cs:=⟨_,List.getElem?_eq_getElem hjd⟩;obtain⟨c',m',off',cells',e,_,hr',h5,h6⟩:=hy.at_ _ _ hcs
    injection e with e1 e2 e3
    subst e1 e2 e3
    have:cells'=cells:=by
     obtain⟨a1,b1,d1,g1,i1,j1⟩:=hr';obtain⟨a2,b2,d2,g2,i2,j2⟩:=hr2;rw[i1]at i2
     injection i2 with i2
     injection i2 with i2 i3
     subst i3;rw[j1]at j2
     injection j2 with j2
     injection j2 with _ j2
     injection j2 with _ j2
     injection j2
    subst this;rw[KI hz0 _ hz2,hcs];show _=cs[j % z]?;rw[←h6,List.getElem?_take,if_pos (Nat.mod_lt _ hz0),List.getElem?_drop]
    congr 1
    have:=Nat.div_add_mod j z;rw[Nat.mul_comm]at this;omega
   ·rename_i hj;rw[List.getElem?_eq_none];rw[AD hz2];omega
  cases hA with
  |none=>
   have ha:=append_nil (P:=P) (st:=st) T (z2:=z) hr2 hle Q4 (by simpa using hb);refine⟨_,[(st.n,0,(x::ls2).flatten)],_,ha,?_,?_⟩
   ·exact .own hM.le hzz (by simpa using hb)
   ·rw[hrow];have:=hM.alloc (x::ls2).flatten;refine this.perm ?_;exact(List.perm_middle (l₁:=L) (l₂:=B)).symm
  |own h3 h4 h5=>
   rename_i c m;obtain⟨m',st1,h6,h7,_⟩:=hM.append T (z2:=z) (Cl L B _) (AD h4) hr2 hle Q4 hb;refine⟨_,[(c,m',(ls++x::ls2).flatten)],st1,h6,?_,?_⟩
   ·rw[←List.length_append];exact .own h3 hzz (by rw[List.length_append];exact hb)
   ·rw[BE,hrow]at h7;rw[List.flatten_append];exact h7
theorem Mem.YE(hM:Mem h0 n0 X st (L++(A++B)))(hA:Acc n0 z A ks ls)(T:FU P t e z)(hk:(L++(A++B))[k2]? =some (c2,m2,l2))(hl:l2.length=z)(hb:ls.length+1≤1000000000):
  ∃ks' A' st1,Yj P [t,t] ks (.sl c2 m2 0 1 z) st=some (ks',st1)∧Acc n0 z A' ks' (ls++[l2])∧Mem h0 n0 X st1 (L++(A'++B)):=by
 have hr:=hM.Ya hk;have:Jg st.h.get [] z [l2] (.sl c2 m2 0 [l2].length z):=Jg.own (by simpa using hr) (by simpa using hl) Q4 Q4;exact hM.aA hA T this (by simpa using hl) (by simpa using hb)
variable {T:Tr AV} {ops rest:List Oper} {K:List (Nat×AV)} {R:Tr AV→St→Prop} {d:Nat} {ty:TypeId} {pos:String} {af:Array Edge}
theorem SI(hK:QS K T)(hM:Mem h0 n0 X st (L++(A++B)))(hA:Acc n0 z A ks ls)(S:FU P t e z)(hx:QT G K x=some ks)(hy:QT G K y=some (.sl c2 m2 0 1 z))(hk:(L++(A++B))[k2]? =some (c2,m2,l2))(hl:l2.length=z)(hb:ls.length+1≤1000000000)(hN:Nat.ble (d+1) N=true)
  (hn: ∀(ks':AV) A' T' st',QS ((d,ks')::K) T'→Acc n0 z A' ks' (ls++[l2])→Mem h0 n0 X st' (L++(A'++B))→WR P G N ops rest R T' st'):WR P G N ops (⟨some d,.call {callee:=.builtin .append,args:= #[x,y],argTypes:= #[t,t]},ty,pos,af,none⟩::rest) R T st:=by
 obtain⟨ks',A',st1,h1,h2,h3⟩:=hM.YE hA S hk hl hb;exact EF hK (ZL rfl hx hy h1) (Nat.le_of_ble_eq_true hN) fun T' hT'=>hn ks' A' T' st1 hT' h2 h3
theorem SH(hK:QS K T)(hM:Mem h0 n0 X st (L++(A++B)))(hA:Acc n0 z A ks ls)(S:FU P t e z)(hx:QT G K x=some ks)(hy:QT G K y=some ks2)(hr:Jg st.h.get Y z ls2 ks2)(hz2: ∀cs∈ls2,cs.length=z)(hb:ls.length+ls2.length≤1000000000)(hN:Nat.ble (d+1) N=true)
  (hn: ∀(ks':AV) A' T' st',QS ((d,ks')::K) T'→Acc n0 z A' ks' (ls++ls2)→Mem h0 n0 X st' (L++(A'++B))→WR P G N ops rest R T' st'):WR P G N ops (⟨some d,.call {callee:=.builtin .append,args:= #[x,y],argTypes:= #[t,t]},ty,pos,af,none⟩::rest) R T st:=by
 obtain⟨ks',A',st1,h1,h2,h3⟩:=hM.aA hA S hr hz2 hb;exact EF hK (ZL rfl hx hy h1) (Nat.le_of_ble_eq_true hN) fun T' hT'=>hn ks' A' T' st1 hT' h2 h3
theorem Bx{sn:List St}{i:Nat}{rr:List (Nat×Nat)}(ho:ops[i]? =some ⟨some d,.call {callee:=.builtin .append,args:= #[x,y],argTypes:= #[t,t]},ty,pos,af,none⟩)(hK:QS K T)(hM:Mem h0 n0 X st (L++(A++B)))(hA:Acc n0 z A ks ls)(S:FU P t e z)(hx:QT G K x=some ks)(hy:QT G K y=some (.sl c2 m2 0 1 z))(hk:(L++(A++B))[k2]? =some (c2,m2,l2))(hl:l2.length=z)(hb:ls.length+1≤1000000000)(hN:Nat.ble (d+1) N=true)
  (hn: ∀(ks':AV) A' T' st',QS ((d,ks')::K) T'→Acc n0 z A' ks' (ls++[l2])→Mem h0 n0 X st' (L++(A'++B))→WD P G N ops (rr.map (Yo ops)) R T' st' (st'::sn)):WD P G N ops (((i,0)::rr).map (Yo ops)) R T st sn:=by
 obtain⟨ks',A',st1,h1,h2,h3⟩:=hM.YE hA S hk hl hb;exact LM ho hK (ZL rfl hx hy h1) rfl (Nat.le_of_ble_eq_true hN) fun T' hT'=>hn ks' A' T' st1 hT' h2 h3
theorem Ef{sn:List St}{i:Nat}{rr:List (Nat×Nat)}(ho:ops[i]? =some ⟨some d,.call {callee:=.builtin .append,args:= #[x,y],argTypes:= #[t,t]},ty,pos,af,none⟩)(hK:QS K T)(hM:Mem h0 n0 X st (L++(A++B)))(hA:Acc n0 z A ks ls)(S:FU P t e z)(hx:QT G K x=some ks)(hy:QT G K y=some ks2)(hr:Jg st.h.get Y z ls2 ks2)(hz2: ∀cs∈ls2,cs.length=z)(hb:ls.length+ls2.length≤1000000000)(hN:Nat.ble (d+1) N=true)
  (hn: ∀(ks':AV) A' T' st',QS ((d,ks')::K) T'→Acc n0 z A' ks' (ls++ls2)→Mem h0 n0 X st' (L++(A'++B))→WD P G N ops (rr.map (Yo ops)) R T' st' (st'::sn)):WD P G N ops (((i,0)::rr).map (Yo ops)) R T st sn:=by
 obtain⟨ks',A',st1,h1,h2,h3⟩:=hM.aA hA S hr hz2 hb;exact LM ho hK (ZL rfl hx hy h1) rfl (Nat.le_of_ble_eq_true hN) fun T' hT'=>hn ks' A' T' st1 hT' h2 h3

def ED(st st':St)(z:Nat)(ks:AV)(ls:List (List AV)):Prop:= ∃A,Acc st.n z A ks ls∧ ∀c m l,(c,m,l)∈A→Qx st'.h.get c m l
theorem Mem.Yx(h:Mem h0 n0 X st M){st':St}(q:Qt st st')(r:ED st st' z ks ls): ∃A,Acc n0 z A ks ls∧Mem h0 n0 X st' (M++(A++[])):=by
 obtain⟨A,hA,hr⟩:=r;refine⟨A,hA.less h.le,?_⟩
 cases hA with
 |none=>simpa using h.quiet q
 |own hc hz hb=>
  have:=h.fM q (hr _ _ _ (List.mem_singleton.2 rfl)) hc;exact this.perm (by simpa using(List.perm_middle (l₁:=M) (l₂:=[])).symm)
theorem Mem.BS{st0 st':St}(h:Mem st0.h.get st0.n X st' (L++(A++B)))(hA:Acc st0.n z A ks ls):ED st0 st' z ks ls:=⟨A,hA,fun c m l hm=>h.row c m l (by simp[hm])⟩
theorem CM{Q:Ex→Tr AV→St→Prop}{a b:Code}{J:Tr AV→St→Prop}(h:W P G N a (LP J Q) T st)(hb: ∀T st,J T st→W P G N b Q T st):W P G N (.seq a b) Q T st:=
 Jy (qV h fun x T st hx=>by
  cases x with
  |nor=>exact hb T st hx
  |exit i=>exact hx
  |ret=>exact hx)
theorem Qw{h:Hp}{cells:List AV}{v:AV}(hr:Yt h c m cells)(hp:Vi P t cells off=some v):Js P t (.ptr c m off) h=some v:=by
 obtain⟨e,vs,ro,ms,h1⟩:=hr.rowOf;show ob (rowOf h c m) _=_;rw[h1];exact hp
theorem Tb{yt:TypeId}{k:IntKind}{a b c:Int}(hx:QT G K x=some (.int k a))(hy:QT G K y=some (.int k b))(hw:k.wrap (a *b)=c):U2 P G K (.binOp .mul t x y yt) st (.int k c) st:=
 UN hx hy (by rw[Va Q8 Q8];show XU (Ve k (a *b)) (fun z=>some (AV.int k z))=_;rw[Yu,UH,hw])
theorem U8{s d:TypeId}{k k':IntKind}{n c:Int}(hd:P.underlying d=some (.int k'))(hs:P.underlying s=some (.int k))(hx:QT G K x=some (.int k n))(hw:k'.wrap n=c):U2 P G K (.convert s d x) st (.int k' c) st:=by
 rw[←hw];exact Nz hd hs hx

theorem Qz:Vv Qr ([]:List AV)=true:=rfl
theorem Qa(h1:Qr a=true)(h2:Vv Qr l=true):Vv Qr (a::l)=true:=by
 show Qj (Qr a) (Vv Qr l) false=true;rw[h1,h2];rfl
theorem Ou{v:AV}(h:Qr v=true):Vv Qr (Jn v)=true:=by
 cases v<;>first|rfl|cases h
theorem Vz{v:AV}(h:Qr v=true):Jn v=[v]:=by
 cases v<;>first|rfl|cases h
theorem Jk{ty:TypeId}{pos:String}{af:Array Edge}{w:AV}{k:Nat}{l':List AV}(hK:QS K T)(hM:Mem h0 n0 X st M)(hx:QT G K x=some (.ptr c m off))(hy:QT G K y=some w)(hk:M[k]? =some (c,m,l))(hz:YM P t=some 1)(hc:Qr w=true)(ho:Zn [w] off l=some l')
  (hr: ∀st',Mem h0 n0 X st' (M.set k (c,m,l'))→WR P G N ops rest R T st'):WR P G N ops (⟨none,.store t x y,ty,pos,af,none⟩::rest) R T st:=
 QU hK hM hx hy hk hz (by rw[Vz hc];rfl) (Ou hc) (by rw[Vz hc];exact ho) hr
theorem Ze{sn:List St}{i:Nat}{rr:List (Nat×Nat)}{ty:TypeId}{pos:String}{af:Array Edge}{w:AV}{k:Nat}{l':List AV}(ho':ops[i]? =some ⟨none,.store t x y,ty,pos,af,none⟩)(hK:QS K T)(hM:Mem h0 n0 X st M)(hx:QT G K x=some (.ptr c m off))(hy:QT G K y=some w)(hk:M[k]? =some (c,m,l))(hz:YM P t=some 1)(hc:Qr w=true)(ho:Zn [w] off l=some l')
  (hr: ∀st',Mem h0 n0 X st' (M.set k (c,m,l'))→WD P G N ops (rr.map (Yo ops)) R T st' (st'::sn)):WD P G N ops (((i,0)::rr).map (Yo ops)) R T st sn:=
 V2 ho' hK hM hx hy hk hz (by rw[Vz hc];rfl) (Ou hc) (by rw[Vz hc];exact ho) hr
theorem Bl{P:Program}{G:Env}{T:Tr AV}{v u:AV}{t:TypeId}{x:Operand}{d:Option Nat}{ty:TypeId}{pos:String}{af:Array Edge}{g:Option (Nat×Bool)}(hx:Jq G T x=some u)(he:Gi v v=true): ∀(n:Nat) (l:List St),n≤l.length→(∀s∈l.take n,Js P t u s.h.get=some v)→again P G ⟨d,.load t x,ty,pos,af,g⟩ T v n l=true
 |0,l,_,_=>rfl
 |n+1,[],h,_=>by simp at h
 |n+1,s::l,h,ha=>by
  have ih:=Bl (d:=d) (ty:=ty) (pos:=pos) (af:=af) (g:=g) hx he n l (by simpa using h) (fun s' hs=>ha s' (by rw[List.take_succ_cons];exact List.mem_cons_of_mem _ hs));show Qj (Option.rec false (fun x=>Option.rec false (fun u=>Gi u v) (Js P t x s.h.get)) (Jq G T x)) (again P G ⟨d,.load t x,ty,pos,af,g⟩ T v n l) false=true;rw[hx];show Qj (Option.rec false (fun u=>Gi u v) (Js P t u s.h.get)) (again P G ⟨d,.load t x,ty,pos,af,g⟩ T v n l) false=true;rw[ha s Q4];show Qj (Gi v v) (again P G ⟨d,.load t x,ty,pos,af,g⟩ T v n l) false=true;rw[he];exact ih
theorem XD{P:Program}{G:Env}{N:Nat}{st:St}{K:List (Nat×AV)}{T:Tr AV}{ops:List Oper}{R:Tr AV→St→Prop}{sn:List St}{r:List (Nat×Nat)}{i d:Nat}{ty:TypeId}{pos:String}{af:Array Edge}{v:AV}{s0:St}
  (ho:ops[i]? =some ⟨some d,.load t x,ty,pos,af,none⟩) (hK:QS K T) (hx:QT G K x=some u) (h:Js P t u st.h.get=some v) (hl:n≤sn.length) (hall: ∀s∈sn.take n,Js P t u s.h.get=some v) (he:Gi v v=true) (hk:Nat.beq (QE P (.load t x)) 3=false) (hN:d<N)
  (hn: ∀T',QS ((d,v)::K) T'→WD P G N ops (r.map (Yo ops)) R T' st (s0::sn)):WD P G N ops (((i,n)::r).map (Yo ops)) R T st (s0::sn):=by
 rw[YY ho]
 exact Vm rfl (Qg hx h T hK _ _ _ _ _) (Bl (hK.Jq hx) he n sn hl hall) (fun e he=>by injection he with he;rw[←he];exact hN) (by
  show WD P G N ops (r.map (Yo ops)) R _ st (Qj (Nat.beq (QE P (.load t x)) 3) _ _)
  rw[hk];exact hn _ (hK.set d v))
theorem ZY{P:Program}{G:Env}{K:List (Nat×AV)}{st:St}{yt:TypeId}{a:Bool}(ht:P.underlying t=some .bool)(hx:QT G K x=some (.bool a))(hy:QT G K y=some (.bool b)):U2 P G K (.binOp .eql t x y yt) st (.bool (a==b)) st:=
 UN hx hy (by
  show QJ (E6 (P.underlying t) (.bool a)) (ob (EK (.bool a) (.bool b)) fun b=>some (AV.bool b))=_;rw[ht]
  cases a<;>cases b<;>rfl)
theorem IL{P:Program}{G:Env}{K:List (Nat×AV)}{st:St}{r:Operand}{name:String}{args:Array Operand}{tys:Array TypeId}{fid:FuncId}{v:AV}{st1:St}(hr:QT G K r=some (.ifc t u))(hm:Av P t name=some fid)(ha:Uw (QT G K) args.toList=some l)(h:Ev P G fid (u::l) st v st1):
  U2 P G K (.call {callee:=.invoke r name,args:=args,argTypes:=tys}) st v st1:=fun T hT d ty pos af g=>by
 obtain⟨L,n,h⟩:=h;refine⟨L,n,fun L' n' hL hn=>?_⟩
 show(ob (Jq G T r) fun v=>(match v with
  |.ifc t u=>ob (Av P t name) fun fid=>ob (Uw (Jq G T) args.toList) fun l=>Uh P G L' n' fid (u::l) st
  |_=>none))=_
 rw[hT.Jq hr,Ql];show(ob (Av P t name) fun fid=>ob (Uw (Jq G T) args.toList) fun l=>Uh P G L' n' fid (u::l) st)=_;rw[hm,Ql,hT.row _ _ ha,Ql];exact X2 n n' L L' hn hL _ _ _ _ h
theorem D5{P:Program}{G:Env}{K:List (Nat×AV)}{st:St}{v:AV}(hx:QT G K x=some u)(h:N8 P t u=some v):U2 P G K (.makeInterface t x) st v st:=.of fun T hT cc d ty pos af g=>by
 show ret (ob (Jq G T x) fun x=>N8 P t x) st=_;rw[hT.Jq hx,Ql,h];rfl
theorem N0{P:Program}{G:Env}{K:List (Nat×AV)}{st:St}{xt:TypeId}{ok:Bool}{v:AV}(hx:QT G K x=some u)(h:KP P u t ok=some v):U2 P G K (.typeAssert x xt t ok) st v st:=.of fun T hT cc d ty pos af g=>by
 show ret (ob (Jq G T x) fun x=>KP P x t ok) st=_;rw[hT.Jq hx,Ql,h];rfl
def Sc:AV→Bool
 |.bool _=>true
 |.int _ _=>true
 |.str _=>true
 |.nilp=>true
 |.ptr _ _ _=>true
 |.nils=>true
 |.sl _ _ _ _ _=>true
 |.slz _ _ _ _ _=>true
 |.sl0 _ _ _=>true
 |.nilf=>true
 |.nili=>true
 |.nilm=>true
 |.mp _=>true
 |_=>false
theorem KN{v:AV}(h:Sc v=true):Hl v v=true:=by
 cases v<;>first
  |(cases h;done)
  |rfl
  |skip
 ·rename_i b;cases b<;>rfl
 ·rename_i k n;show Qj (Gj k k) (Hk n n) false=true;rw[WV,Yw];simp[Qj]
 ·rename_i l;show GW l l=true;rw[Xd];simp
 ·rename_i c m o;show Qj (Nat.beq c c) (Qj (Nat.beq m m) (Nat.beq o o) false) false=true;simp[Qj]
 ·rename_i c m o l z;show Qj (Nat.beq c c) (Qj (Nat.beq m m) (Qj (Nat.beq o o) (Qj (Nat.beq l l) (Nat.beq z z) false) false) false) false=true;simp[Qj]
 ·rename_i c m o l z;show Qj (Nat.beq c c) (Qj (Nat.beq m m) (Qj (Nat.beq o o) (Qj (Nat.beq l l) (Nat.beq z z) false) false) false) false=true;simp[Qj]
 ·rename_i x o s;show Qj (Nat.beq x x) (Qj (Nat.beq o o) (vu s s) false) false=true
  cases s<;>simp[Qj,vu]
 ·rename_i c;show Nat.beq c c=true;simp
theorem JI{v:AV}(h:Sc v=true):Gi v v=true:=by
 have:=KN h
 cases v<;>first|exact this|(cases h;done)
theorem Fs(h:l.all Sc=true):Gi (.agg l) (.agg l)=true:=by
 show It l l=true
 induction l with
 |nil=>rfl
 |cons a l ih=>
  rw[List.all_cons,Bool.and_eq_true]at h;show Qj (Hl a a) (It l l) false=true;rw[KN h.1,ih h.2];rfl
theorem AE(x:List Nat):Sc (.str x)=true:=rfl
theorem AF(k:IntKind)(x:Int):Sc (.int k x)=true:=rfl
theorem WU(b:Bool):Sc (.bool b)=true:=rfl
theorem Ub{v:AV}(h:YD v=some n):Sc v=true:=by
 cases v<;>first|rfl|(cases h;done)

variable {rr:ResultVar} {rs:List ResultVar}
theorem Q6{t:Nat}{v:AV}(hK:QS K T)(h:K.lookup t=some v):HN P T st (.tmp t)=some v:=congrArg some (hK t v h)
theorem JE{a:Nat}{v:AV}(hK:QS K T)(h:K.lookup a=some u)(hl:Js P t u st.h.get=some v):HN P T st (.cell a t)=some v:=by
 show Js P t (Y1 T a) st.h.get=_;rw[hK a u h];exact hl
theorem Lv{v:AV}(h:HN P T st rr=some v):J8 P [rr] T st=some v:=by
 show(ob (Uw (HN P T st) [rr]) _)=_;rw[JA,h];rfl
theorem Ud{r1 r2:ResultVar}{b:AV}(h1:HN P T st r1=some a)(h2:HN P T st r2=some b):J8 P [r1,r2] T st=some (.tup [a,b]):=by
 show(ob (Uw (HN P T st) [r1,r2]) _)=_;rw[JA,JA,h1,h2];rfl
theorem Jw{r1 r2 r3:ResultVar}{b c:AV}(h1:HN P T st r1=some a)(h2:HN P T st r2=some b)(h3:HN P T st r3=some c):J8 P [r1,r2,r3] T st=some (.tup [a,b,c]):=by
 show(ob (Uw (HN P T st) [r1,r2,r3]) _)=_;rw[JA,JA,JA,h1,h2,h3];rfl
end
end
end Go.Proofs.YtiknomepbklibaaGreatDoor
