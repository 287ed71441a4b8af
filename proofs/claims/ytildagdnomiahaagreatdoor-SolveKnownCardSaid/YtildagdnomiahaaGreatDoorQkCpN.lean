/-
  The least automata of core formulas, reckoned.
-/
import Derived.Test.YtildagdnomiahaaGreatDoorQkMnP
namespace Go.Proofs.YtildagdnomiahaaGreatDoor
set_option linter.unusedVariables false
variable {a m:Au} {s:Nat}

def Nu{α:Type}(q:α→α→Bool)(x:α):List α→Nat→Option Nat
 |[],_=>none
 |y::l,i=>if q x y then some i else Nu q x l (i+1)
def Gr{α:Type}(q:α→α→Bool)(δ:α→Nat→α)(s:α):Nat→Nat→List α→List Int→List α×List Int
 |0,_,L,row=>(L,row)
 |f+1,c,L,row=>match Nu q (δ s c) L 0 with
  |some j=>Gr q δ s f (c+1) L (row++[((j:Nat):Int)])
  |none=>Gr q δ s f (c+1) (L++[δ s c]) (row++[((L.length:Nat):Int)])
def z7{α:Type}(q:α→α→Bool)(δ:α→Nat→α)(K:Nat):Nat→List α→List (List Int)→Option (List α×List (List Int))
 |0,_,_=>none
 |f+1,L,rows=>match L[rows.length]? with
  |none=>some (L,rows)
  |some s=>z7 q δ K f (Gr q δ s K 0 L []).1 (rows++[(Gr q δ s K 0 L []).2])
def Cs{α:Type}(q:α→α→Bool)(δ:α→Nat→α)(s0:α)(p:α→Bool)(t:Nat):Option Au:=match z7 q δ (2^t) 401 [s0] []with
 |none=>none
 |some r=>if r.1.length≤400 then some ⟨t,r.1.map p,r.2⟩else none
section
variable {α:Type} {q:α→α→Bool} {δ:α→Nat→α} {s0:α} {p:α→Bool} {K t:Nat}
theorem E8(hq: ∀x y,q x y=true→x=y){x:α}: ∀{l:List α} {i j:Nat},Nu q x l i=some j→i≤j∧l[j-i]? =some x
 |[],i,j,h=>by cases h
 |y::l,i,j,h=>by
  rw[Nu]at h
  split at h
  ·rename_i hy
   injection h with h
   subst h;rw[Nat.sub_self,hq _ _ hy];exact⟨Nat.le_refl _,rfl⟩
  ·obtain⟨h1,h2⟩:=E8 hq h;refine⟨by omega,?_⟩;rw[show j-i=(j-(i+1))+1 by omega,List.getElem?_cons_succ];exact h2
theorem E9(hq: ∀x,q x x=true){x:α}: ∀{l:List α} {i:Nat},Nu q x l i=none→x∉l
 |[],i,h=>by simp
 |y::l,i,h=>by
  rw[Nu]at h
  split at h
  ·cases h
  ·rename_i hy;rw[List.mem_cons]
   rintro(e|e)
   ·subst e;exact hy (hq x)
   ·exact E9 hq h e
theorem Gq(hq: ∀x y,q x y=true↔x=y){s:α}{rows:List (List Int)}: ∀(f c:Nat) (L:List α) (row:List Int),Vt δ s0 K L rows row→L[rows.length]? =some s→row.length=c→c+f=K→
  Vt δ s0 K (Gr q δ s f c L row).1 rows (Gr q δ s f c L row).2∧(Gr q δ s f c L row).2.length=K∧L.length≤(Gr q δ s f c L row).1.length
 |0,c,L,row,H,hs,hc,hK=>⟨H,by show row.length=K;omega,Nat.le_refl _⟩
 |f+1,c,L,row,H,hs,hc,hK=>by
  rw[Gr];subst hc
  split
  ·rename_i j hj;have:=(E8 (fun x y=>(hq x y).1) hj).2;exact Gq hq f _ L _ (H.Jx Qe hs this) hs Q0 Qe
  ·rename_i hj;have hi:=(List.getElem?_eq_some_iff.1 hs).1;obtain⟨h1,h2,h3⟩:=Gq hq f (row.length+1) (L++[δ s row.length]) _ (H.new Qe hs (E9 (fun x=>(hq x x).2 rfl) hj)) (by rw[List.getElem?_append_left hi];exact hs) Q0 Qe;refine⟨h1,h2,?_⟩;rw[List.length_append]at h3;omega
theorem R5(hq: ∀x y,q x y=true↔x=y): ∀(f:Nat) (L:List α) (rows:List (List Int)) (r:List α×List (List Int)),Vt δ s0 K L rows []→rows.length≤L.length→z7 q δ K f L rows=some r→Vt δ s0 K r.1 r.2 []∧r.2.length=r.1.length
 |0,L,rows,r,H,hl,h=>by cases h
 |f+1,L,rows,r,H,hl,h=>by
  rw[z7]at h
  split at h
  ·rename_i hn
   injection h with h
   subst h;have:=List.getElem?_eq_none_iff.1 hn;exact⟨H,by show rows.length=L.length;omega⟩
  ·rename_i s hs;obtain⟨h1,h2,h3⟩:=Gq hq K 0 L [] H hs rfl Qe;have hi:=(List.getElem?_eq_some_iff.1 hs).1;exact R5 hq f _ _ r (h1.whole h2) (by rw[List.length_append,List.length_singleton];omega) h
theorem KT(hq: ∀x y,q x y=true↔x=y)(ht:t≤6)(h:Cs q δ s0 p t=some m): ∃L,Uu δ s0 p L m∧m.tr=t:=by
 unfold Cs at h
 split at h
 ·cases h
 ·rename_i r hr
  split at h
  ·rename_i hn
   injection h with h
   subst h;obtain⟨h1,h2⟩:=R5 hq 401 [s0] [] r (Vt.start δ s0 (2^t)) Q0 hr;exact⟨r.1,h1.made (m:=⟨t,r.1.map p,r.2⟩) h2 rfl ht hn,rfl⟩
  ·cases h
end
def uC:List Int→List Int→Bool
 |[],[]=>true
 |x::a,y::b=>if x=y then uC a b else false
 |_,_=>false
theorem FG: ∀(a b:List Int),uC a b=true↔a=b
 |[],[]=>by simp[uC]
 |[],y::b=>by simp[uC]
 |x::a,[]=>by simp[uC]
 |x::a,y::b=>by
  rw[uC]
  split
  ·rename_i h;rw[FG a b,h];simp
  ·rename_i h;simp[h]
def Ht(a:Au)(cl:List Int)(s:Nat):List Int:=cv cl s::((a.nx[s]?).getD []).map fun z=>cv cl z.toNat
def Tg(a:Au)(cl:List Int):List Int:=((List.range a.n).map (Ht a cl)).map fun k=>(((Nu uC k ((List.range a.n).map (Ht a cl)) 0).getD 0:Nat):Int)
def iL(a:Au):Nat→List Int→Option (List Int)
 |0,_=>none
 |f+1,cl=>if uC (Tg a cl) cl then some cl else iL a f (Tg a cl)
theorem xB(W:ZX a){cl:List Int}{t:Nat}(hs:s<a.n)(ht:t<a.n):Ht a cl s=Ht a cl t↔cv cl s=cv cl t∧ ∀c,c<a.K→cv cl (a.go s c)=cv cl (a.go t c):=by
 obtain⟨rs,hrs⟩: ∃r,a.nx[s]? =some r:=⟨_,List.getElem?_eq_getElem (by rw[W.len];exact hs)⟩;obtain⟨rt,hrt⟩: ∃r,a.nx[t]? =some r:=⟨_,List.getElem?_eq_getElem (by rw[W.len];exact ht)⟩;have l1:=(W.row rs (List.mem_of_getElem? hrs)).1;have l2:=(W.row rt (List.mem_of_getElem? hrt)).1
 have g1: ∀c,c<a.K→(rs.map fun z=>cv cl z.toNat)[c]? =some (cv cl (a.go s c)):=fun c hc=>by
  rw[List.getElem?_map,List.getElem?_eq_getElem (by rw[l1];exact hc)];unfold Au.go;rw[hrs,Option.getD_some,List.getElem?_eq_getElem (by rw[l1];exact hc)];rfl
 have g2: ∀c,c<a.K→(rt.map fun z=>cv cl z.toNat)[c]? =some (cv cl (a.go t c)):=fun c hc=>by
  rw[List.getElem?_map,List.getElem?_eq_getElem (by rw[l2];exact hc)];unfold Au.go;rw[hrt,Option.getD_some,List.getElem?_eq_getElem (by rw[l2];exact hc)];rfl
 unfold Ht;rw[hrs,hrt,Option.getD_some,Option.getD_some];constructor
 ·intro e
  injection e with e1 e2
  refine⟨e1,fun c hc=>?_⟩;have h1:=g1 c hc;rw[e2,g2 c hc]at h1
  injection h1 with h1
  exact h1.symm
 ·rintro⟨e1,e2⟩
  rw[e1]
  congr 1
  apply List.ext_getElem?;intro c
  by_cases hc:c<a.K
  ·rw[g1 c hc,g2 c hc,e2 c hc]
  ·rw[List.getElem?_eq_none (by rw[List.length_map,l1];omega),List.getElem?_eq_none (by rw[List.length_map,l2];omega)]
theorem R9{cl:List Int}(hs:s<a.n): ∃j,Nu uC (Ht a cl s) ((List.range a.n).map (Ht a cl)) 0=some j∧cv (Tg a cl) s=((j:Nat):Int)∧((List.range a.n).map (Ht a cl))[j]? =some (Ht a cl s):=by
 have hm:Ht a cl s∈(List.range a.n).map (Ht a cl):=List.mem_map.2 ⟨s,List.mem_range.2 hs,rfl⟩
 cases h:Nu uC (Ht a cl s) ((List.range a.n).map (Ht a cl)) 0 with
 |none=>exact absurd hm (E9 (fun x=>(FG x x).2 rfl) h)
 |some j=>
  refine⟨j,rfl,?_,(E8 (fun x y=>(FG x y).1) h).2⟩;unfold Tg cv;rw[List.getElem?_map,List.getElem?_map,List.getElem?_range hs,Option.map_some,Option.map_some,Option.getD_some,h];rfl
theorem KE(W:ZX a)(cl:List Int):FV a cl (Tg a cl):=by
 refine⟨by simp[Tg],fun s t hs ht=>?_⟩;obtain⟨i,a1,a2,a3⟩:=R9 (cl:=cl) hs;obtain⟨j,b1,b2,b3⟩:=R9 (cl:=cl) ht;rw[a2,b2,←xB W hs ht];constructor
 ·intro e
  have e:i=j:=by omega
  subst e;rw[a3]at b3;injection b3
 ·intro e;rw[e,b1]at a1
  injection a1 with a1
  rw[a1]
theorem ql{a:Au}(W:ZX a): ∀(f:Nat) (cl r:List Int),LV a cl→iL a f cl=some r→XN a r
 |0,cl,r,F,h=>by cases h
 |f+1,cl,r,F,h=>by
  rw[iL]at h
  split at h
  ·rename_i he
   injection h with h
   subst h;have he:=(FG _ _).1 he;refine F.Ks W fun s t hs ht e=>?_;have f:=KE W cl;rw[he]at f;exact((f.iff s t hs ht).1 e).2
  ·exact ql W f _ r (F.uj W (KE W cl)) h
def iv(a:Au):List Int:=a.acc.map fun b=>if b then 1 else 0
theorem yd:LV a (iv a):=by
 refine Lj (by simp[iv]) fun s t hs ht=>?_
 have g: ∀s,s<a.n→cv (iv a) s=if a.ok s then 1 else 0:=fun s hs=>by
  unfold iv cv Au.ok;rw[List.getElem?_map,List.getElem?_eq_getElem hs];rfl
 rw[g s hs,g t ht]
 cases a.ok s<;>cases a.ok t<;>simp
def Gn(a:Au)(cl:List Int)(s:Nat):Nat→Nat→List Nat→List Int→List Int→(List Nat×List Int)×List Int
 |0,_,ls,lc,row=>((ls,lc),row)
 |f+1,c,ls,lc,row=>match Nu (fun x y=>decide (x=y)) (cv cl (a.go s c)) lc 0 with
  |some j=>Gn a cl s f (c+1) ls lc (row++[((j:Nat):Int)])
  |none=>Gn a cl s f (c+1) (ls++[a.go s c]) (lc++[cv cl (a.go s c)]) (row++[((ls.length:Nat):Int)])
def runM(a:Au)(cl:List Int):Nat→List Nat→List Int→List (List Int)→Option (List Nat×List (List Int))
 |0,_,_,_=>none
 |f+1,ls,lc,rows=>match ls[rows.length]? with
  |none=>some (ls,rows)
  |some s=>runM a cl f (Gn a cl s a.K 0 ls lc []).1.1 (Gn a cl s a.K 0 ls lc []).1.2 (rows++[(Gn a cl s a.K 0 ls lc []).2])
theorem Gm{a:Au}(W:ZX a){cl:List Int}(hc:XN a cl){s:Nat}{rows:List (List Int)}: ∀(f c:Nat) (ls:List Nat) (row:List Int),Zt a cl ls rows row→ls[rows.length]? =some s→row.length=c→c+f=a.K→
  ∃ls',(Gn a cl s f c ls (ls.map (cv cl)) row).1=(ls',ls'.map (cv cl))∧Zt a cl ls' rows (Gn a cl s f c ls (ls.map (cv cl)) row).2∧(Gn a cl s f c ls (ls.map (cv cl)) row).2.length=a.K∧ls.length≤ls'.length
 |0,c,ls,row,H,hs,hl,hK=>⟨ls,rfl,H,by show row.length=a.K;omega,Nat.le_refl _⟩
 |f+1,c,ls,row,H,hs,hl,hK=>by
  rw[Gn];subst hl;have hi:=(List.getElem?_eq_some_iff.1 hs).1;have hsn:=H.lt s (List.mem_of_getElem? hs)
  split
  ·rename_i j hj;have:=(E8 (fun x y h=>of_decide_eq_true h) hj).2;exact Gm W hc f _ ls _ (H.Jx W hc hs (by show _<a.K;omega) rfl this) hs Q0 Qe
  ·rename_i hj;have hn:=E9 (q:=fun x y=>decide (x=y)) (fun x=>decide_eq_true rfl) hj;obtain⟨ls',h1,h2,h3,h4⟩:=Gm W hc f (row.length+1) (ls++[a.go s row.length]) _ (H.new W hc hs (by show _<a.K;omega) rfl (W.UN hsn Qe) hn) (by rw[List.getElem?_append_left hi];exact hs) Q0 Qe;rw[List.map_append]at h1 h2 h3;refine⟨ls',h1,h2,h3,?_⟩;rw[List.length_append]at h4;omega
theorem R4{a:Au}(W:ZX a){cl:List Int}(hc:XN a cl): ∀(f:Nat) (ls:List Nat) (rows:List (List Int)) (r:List Nat×List (List Int)),Zt a cl ls rows []→rows.length≤ls.length→runM a cl f ls (ls.map (cv cl)) rows=some r→Zt a cl r.1 r.2 []∧r.2.length=r.1.length
 |0,ls,rows,r,H,hl,h=>by cases h
 |f+1,ls,rows,r,H,hl,h=>by
  rw[runM]at h
  split at h
  ·rename_i hn
   injection h with h
   subst h;have:=List.getElem?_eq_none_iff.1 hn;exact⟨H,by show rows.length=ls.length;omega⟩
  ·rename_i s hs;obtain⟨ls',h1,h2,h3,h4⟩:=Gm W hc a.K 0 ls [] H hs rfl Qe;have hi:=(List.getElem?_eq_some_iff.1 hs).1;rw[h1]at h;exact R4 W hc f ls' _ r (h2.whole h3) (by rw[List.length_append,List.length_singleton];omega) h
def js(a:Au):Option Au:=match iL a 400 (iv a)with
 |none=>none
 |some cl=>match runM a cl 401 [0] [cv cl 0] []with
  |none=>none
  |some r=>if r.1.length≤400 then some ⟨a.tr,r.1.map a.ok,r.2⟩else none
theorem G4(W:ZX a)(h:js a=some m):Jm a m:=by
 unfold js at h
 split at h
 ·cases h
 ·rename_i cl hcl;have hc:=ql W 400 _ cl yd hcl
  split at h
  ·cases h
  ·rename_i r hr
   split at h
   ·rename_i hn
    injection h with h
    subst h;obtain⟨h1,h2⟩:=R4 W hc 401 [0] [] r (Zt.start W) Q0 hr;exact h1.least W hc hn h2
   ·cases h
def vi(a:Au)(k:Nat):Nat→List Bool→Option (List Bool)
 |0,_=>none
 |f+1,l=>if((List.range a.n).map fun s=>W5 l s||W5 l (a.go s 0)||W5 l (a.go s (2^k)))=l then some l else vi a k f ((List.range a.n).map fun s=>W5 l s||W5 l (a.go s 0)||W5 l (a.go s (2^k)))
theorem Bj{k:Nat}{l:List Bool}(hs:s<a.n):W5 ((List.range a.n).map fun s=>W5 l s||W5 l (a.go s 0)||W5 l (a.go s (2^k))) s=(W5 l s||W5 l (a.go s 0)||W5 l (a.go s (2^k))):=Z9 (by rw[List.getElem?_map,List.getElem?_range hs];rfl)
theorem SA{a:Au}(W:ZX a){k:Nat}(hk:2^k<a.K): ∀(f:Nat) (l r:List Bool),HE a k l→vi a k f l=some r→Aj a k r
 |0,l,r,H,h=>by cases h
 |f+1,l,r,H,h=>by
  rw[vi]at h
  split at h
  ·rename_i he
   injection h with h
   subst h;refine H.done W hk fun s hs hor=>?_;have:=Bj (k:=k) (l:=l) hs;rw[he]at this;rw[this]
   rcases hor with h|h<;>simp[h]
  ·refine SA W hk f _ r ⟨by simp,fun s hs e=>?_,fun s hs e=>?_⟩ h
   ·rw[Bj hs]at e;simp only[Bool.or_eq_true]at e;have h0:=W.UN hs (show 0<a.K from Nat.two_pow_pos _);have h1:=W.UN hs hk;rcases e with(e|e)|e
    ·exact H.sound s hs e
    ·exact .low (H.sound _ h0 e)
    ·exact .high (H.sound _ h1 e)
   ·rw[Bj hs,H.ext s hs e];rfl
def ae(x y:Nat×Nat):Bool:=Nat.beq x.1 y.1&&Nat.beq x.2 y.2
theorem uB(x y:Nat×Nat):ae x y=true↔x=y:=by
 obtain⟨a,b⟩:=x;obtain⟨c,d⟩:=y;simp[ae]
theorem xL(x y:Nat):Nat.beq x y=true↔x=y:=by simp
def iC(p q:Au):Option Au:=Cs ae (RZ p q) (0,0) (xc p q 8) p.tr
def lh(p:Au)(k:Nat):Option Au:=match vi p k 401 p.acc with
 |none=>none
 |some acc=>Cs uC (UB p k) [0] (anyS acc) k
def y8(o:List Nat)(a b d n k:Nat):Option Au:=match Cs Nat.beq (EW o n a b d) 0 (MB o n) k with
 |none=>none
 |some r=>js r
theorem y5{o:List Nat}{a b d n k:Nat}(hk:k≤6)(h:y8 o a b d n k=some m):Jm (VV o a b d n k) m:=by
 unfold y8 at h
 split at h
 ·cases h
 ·rename_i r hr;obtain⟨L,H,ht⟩:=KT xL hk hr;have hm:=G4 H.wf h;refine⟨hm.canon,fun w hw=>?_,by rw[hm.tr,ht];rfl⟩;have hwr:HD r.K w:=E6 hm.tr hw;rw[hm.like w hw,H.P3 hwr]
  have hw2:HD (2^k) w:=by unfold Au.K at hwr;rw[ht]at hwr;exact hwr
  rw[M1 w QA hw2]
  have hlt: ∀(w:List Nat) (s:Nat),s<31→w.foldl (EW o n a b d) s<31:=by
   intro w
   induction w with
   |nil=>intro s h;exact h
   |cons c w ih=>intro s h;exact ih _ (Kp s c)
  rw[D3 (hlt w 0 QA)]
def xz:List Cr→Option Cr
 |[x]=>some x
 |_=>none
def eP:List Cr→Option (Cr×Cr)
 |[x,y]=>some (x,y)
 |_=>none
theorem RR{l:List Cr}{x:Cr}(h:xz l=some x):l=[x]:=by
 unfold xz at h
 split at h
 ·injection h with h;rw[h]
 ·cases h
theorem xy{l:List Cr}{x:Cr×Cr}(h:eP l=some x):l=[x.1,x.2]:=by
 unfold eP at h
 split at h
 ·injection h with h;rw[←h]
 ·cases h
def isNil:List Cr→Bool
 |[]=>true
 |_=>false
def LA:Nat→Cr→Nat→Option (Au×Nat)
 |0,_,_=>none
 |f+1,.mk o a b d n l,k=>
  if 6<k then none
  else if o=[110,111,116]then(xz l).bind fun x=>(LA f x k).bind fun p=>some (p.1.neg,p.2+p.1.n)
  else if o=[97,110,100]then(eP l).bind fun x=>(LA f x.1 k).bind fun p=>(LA f x.2 k).bind fun q=>(iC p.1 q.1).bind fun r=>(js r).bind fun m=>some (m,p.2+q.2+m.n)
  else if o=[101,120]then(xz l).bind fun x=>(LA f x (k+1)).bind fun p=>(lh p.1 k).bind fun r=>(js r).bind fun m=>some (m,p.2+m.n)
  else if isNil l then(y8 o a.toNat b.toNat d.toNat n.toNat k).bind fun m=>some (m,m.n)
  else none
theorem Ek: ∀(f:Nat) (c:Cr) (k:Nat) (m:Au) (s:Nat),LA f c k=some (m,s)→Jn c k m s
 |0,c,k,m,s,h=>by cases h
 |f+1,.mk o a b d n l,k,m,s,h=>by
  rw[LA]at h
  split at h
  ·cases h
  rename_i hk
  split at h
  ·rename_i ho;obtain⟨x,e1,h⟩:=Option.bind_eq_some_iff.1 h;obtain⟨⟨p,t⟩,e2,h⟩:=Option.bind_eq_some_iff.1 h
   injection h with h
   injection h with h1 h2
   subst h1 h2;rw[RR e1];have hx:=Ek f _ _ _ _ e2;show Jn _ _ p.neg (t+p.n);rw[←EZ p];exact .not ho hx (Jm.self (T7 hx.canon))
  split at h
  ·rename_i ho;obtain⟨x,e1,h⟩:=Option.bind_eq_some_iff.1 h;obtain⟨⟨p,t⟩,e2,h⟩:=Option.bind_eq_some_iff.1 h;obtain⟨⟨q,u⟩,e3,h⟩:=Option.bind_eq_some_iff.1 h;obtain⟨r,e4,h⟩:=Option.bind_eq_some_iff.1 h;obtain⟨m',e5,h⟩:=Option.bind_eq_some_iff.1 h
   injection h with h
   injection h with h1 h2
   subst h1 h2;rw[xy e1];have hx:=Ek f _ _ _ _ e2;have hy:=Ek f _ _ _ _ e3;obtain⟨L,H,ht⟩:=KT uB hx.wf.tr e4;exact .and ho hx hy ⟨H,ht⟩ (G4 H.wf e5)
  split at h
  ·rename_i ho;obtain⟨x,e1,h⟩:=Option.bind_eq_some_iff.1 h;obtain⟨⟨p,t⟩,e2,h⟩:=Option.bind_eq_some_iff.1 h;obtain⟨r,hr,h⟩:=Option.bind_eq_some_iff.1 h;obtain⟨m',e5,h⟩:=Option.bind_eq_some_iff.1 h
   injection h with h
   injection h with h1 h2
   subst h1 h2;rw[RR e1];have hx:=Ek f _ _ _ _ e2;unfold lh at hr
   split at hr
   ·cases hr
   ·rename_i acc hacc
    have hK:2^k<p.K:=by
     unfold Au.K;rw[hx.tr];exact Nat.pow_lt_pow_right QA (Nat.lt_succ_self k)
    have hc:=SA hx.wf hK 401 p.acc acc (HE.start p k) hacc;obtain⟨L,H,ht⟩:=KT FG Qe hr;exact .ex ho hx hc H ht (G4 H.wf e5)
  ·rename_i h1 h2 h3
   split at h
   ·rename_i hn;obtain⟨m',hm,h⟩:=Option.bind_eq_some_iff.1 h
    injection h with h
    injection h with e1 e2
    subst e1 e2
    cases l with
    |nil=>exact .atom h1 h2 h3 (y5 Qe hm)
    |cons=>cases hn
   ·cases h
end Go.Proofs.YtildagdnomiahaaGreatDoor
