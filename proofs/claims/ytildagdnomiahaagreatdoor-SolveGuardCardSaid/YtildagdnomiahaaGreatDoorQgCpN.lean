/-
  The least automata of core formulas, reckoned.
-/
import Derived.Test.YtildagdnomiahaaGreatDoorQgEnt
namespace Go.Proofs.YtildagdnomiahaaGreatDoor
set_option linter.unusedVariables false
variable {a m:Au} {s:Nat}

def LS{α:Type}(q:α→α→Bool)(x:α):List α→Nat→Option Nat
 |[],_=>none
 |y::l,i=>if q x y then some i else LS q x l (i+1)
def OD{α:Type}(q:α→α→Bool)(δ:α→Nat→α)(s:α):Nat→Nat→List α→List Int→List α×List Int
 |0,_,L,row=>(L,row)
 |f+1,c,L,row=>match LS q (δ s c) L 0 with
  |some j=>OD q δ s f (c+1) L (row++[((j:Nat):Int)])
  |none=>OD q δ s f (c+1) (L++[δ s c]) (row++[((L.length:Nat):Int)])
def ui{α:Type}(q:α→α→Bool)(δ:α→Nat→α)(K:Nat):Nat→List α→List (List Int)→Option (List α×List (List Int))
 |0,_,_=>none
 |f+1,L,rows=>match L[rows.length]? with
  |none=>some (L,rows)
  |some s=>ui q δ K f (OD q δ s K 0 L []).1 (rows++[(OD q δ s K 0 L []).2])
def B8{α:Type}(q:α→α→Bool)(δ:α→Nat→α)(s0:α)(p:α→Bool)(t:Nat):Option Au:=match ui q δ (2^t) 401 [s0] []with
 |none=>none
 |some r=>if r.1.length≤400 then some ⟨t,r.1.map p,r.2⟩else none
section
variable {α:Type} {q:α→α→Bool} {δ:α→Nat→α} {s0:α} {p:α→Bool} {K t:Nat}
theorem Et(hq: ∀x y,q x y=true→x=y){x:α}: ∀{l:List α} {i j:Nat},LS q x l i=some j→i≤j∧l[j-i]? =some x
 |[],i,j,h=>by cases h
 |y::l,i,j,h=>by
  rw[LS]at h
  split at h
  ·rename_i hy
   injection h with h
   subst h;rw[Nat.sub_self,hq _ _ hy];exact⟨Nat.le_refl _,rfl⟩
  ·obtain⟨h1,h2⟩:=Et hq h;refine⟨by omega,?_⟩;rw[show j-i=(j-(i+1))+1 by omega,List.getElem?_cons_succ];exact h2
theorem Eu(hq: ∀x,q x x=true){x:α}: ∀{l:List α} {i:Nat},LS q x l i=none→x∉l
 |[],i,h=>by simp
 |y::l,i,h=>by
  rw[LS]at h
  split at h
  ·cases h
  ·rename_i hy;rw[List.mem_cons]
   rintro(e|e)
   ·subst e;exact hy (hq x)
   ·exact Eu hq h e
theorem OC(hq: ∀x y,q x y=true↔x=y){s:α}{rows:List (List Int)}: ∀(f c:Nat) (L:List α) (row:List Int),Vg δ s0 K L rows row→L[rows.length]? =some s→row.length=c→c+f=K→
  Vg δ s0 K (OD q δ s f c L row).1 rows (OD q δ s f c L row).2∧(OD q δ s f c L row).2.length=K∧L.length≤(OD q δ s f c L row).1.length
 |0,c,L,row,H,hs,hc,hK=>⟨H,by show row.length=K;omega,Nat.le_refl _⟩
 |f+1,c,L,row,H,hs,hc,hK=>by
  rw[OD];subst hc
  split
  ·rename_i j hj;have:=(Et (fun x y=>(hq x y).1) hj).2;exact OC hq f _ L _ (H.J0 Qe hs this) hs Qx Qe
  ·rename_i hj;have hi:=(List.getElem?_eq_some_iff.1 hs).1;obtain⟨h1,h2,h3⟩:=OC hq f (row.length+1) (L++[δ s row.length]) _ (H.new Qe hs (Eu (fun x=>(hq x x).2 rfl) hj)) (by rw[List.getElem?_append_left hi];exact hs) Qx Qe;refine⟨h1,h2,?_⟩;rw[List.length_append]at h3;omega
theorem PD(hq: ∀x y,q x y=true↔x=y): ∀(f:Nat) (L:List α) (rows:List (List Int)) (r:List α×List (List Int)),Vg δ s0 K L rows []→rows.length≤L.length→ui q δ K f L rows=some r→Vg δ s0 K r.1 r.2 []∧r.2.length=r.1.length
 |0,L,rows,r,H,hl,h=>by cases h
 |f+1,L,rows,r,H,hl,h=>by
  rw[ui]at h
  split at h
  ·rename_i hn
   injection h with h
   subst h;have:=List.getElem?_eq_none_iff.1 hn;exact⟨H,by show rows.length=L.length;omega⟩
  ·rename_i s hs;obtain⟨h1,h2,h3⟩:=OC hq K 0 L [] H hs rfl Qe;have hi:=(List.getElem?_eq_some_iff.1 hs).1;exact PD hq f _ _ r (h1.whole h2) (by rw[List.length_append,List.length_singleton];omega) h
theorem Kv(hq: ∀x y,q x y=true↔x=y)(ht:t≤6)(h:B8 q δ s0 p t=some m): ∃L,Ur δ s0 p L m∧m.tr=t:=by
 unfold B8 at h
 split at h
 ·cases h
 ·rename_i r hr
  split at h
  ·rename_i hn
   injection h with h
   subst h;obtain⟨h1,h2⟩:=PD hq 401 [s0] [] r (Vg.start δ s0 (2^t)) Qx hr;exact⟨r.1,h1.made (m:=⟨t,r.1.map p,r.2⟩) h2 rfl ht hn,rfl⟩
  ·cases h
end
def qF:List Int→List Int→Bool
 |[],[]=>true
 |x::a,y::b=>if x=y then qF a b else false
 |_,_=>false
theorem Fv: ∀(a b:List Int),qF a b=true↔a=b
 |[],[]=>by simp[qF]
 |[],y::b=>by simp[qF]
 |x::a,[]=>by simp[qF]
 |x::a,y::b=>by
  rw[qF]
  split
  ·rename_i h;rw[Fv a b,h];simp
  ·rename_i h;simp[h]
def Hc(a:Au)(cl:List Int)(s:Nat):List Int:=cv cl s::((a.nx[s]?).getD []).map fun z=>cv cl z.toNat
def RU(a:Au)(cl:List Int):List Int:=((List.range a.n).map (Hc a cl)).map fun k=>(((LS qF k ((List.range a.n).map (Hc a cl)) 0).getD 0:Nat):Int)
def wI(a:Au):Nat→List Int→Option (List Int)
 |0,_=>none
 |f+1,cl=>if qF (RU a cl) cl then some cl else wI a f (RU a cl)
theorem yi(W:ZP a){cl:List Int}{t:Nat}(hs:s<a.n)(ht:t<a.n):Hc a cl s=Hc a cl t↔cv cl s=cv cl t∧ ∀c,c<a.K→cv cl (a.go s c)=cv cl (a.go t c):=by
 obtain⟨rs,hrs⟩: ∃r,a.nx[s]? =some r:=⟨_,List.getElem?_eq_getElem (by rw[W.len];exact hs)⟩;obtain⟨rt,hrt⟩: ∃r,a.nx[t]? =some r:=⟨_,List.getElem?_eq_getElem (by rw[W.len];exact ht)⟩;have l1:=(W.row rs (List.mem_of_getElem? hrs)).1;have l2:=(W.row rt (List.mem_of_getElem? hrt)).1
 have g1: ∀c,c<a.K→(rs.map fun z=>cv cl z.toNat)[c]? =some (cv cl (a.go s c)):=fun c hc=>by
  rw[List.getElem?_map,List.getElem?_eq_getElem (by rw[l1];exact hc)];unfold Au.go;rw[hrs,Option.getD_some,List.getElem?_eq_getElem (by rw[l1];exact hc)];rfl
 have g2: ∀c,c<a.K→(rt.map fun z=>cv cl z.toNat)[c]? =some (cv cl (a.go t c)):=fun c hc=>by
  rw[List.getElem?_map,List.getElem?_eq_getElem (by rw[l2];exact hc)];unfold Au.go;rw[hrt,Option.getD_some,List.getElem?_eq_getElem (by rw[l2];exact hc)];rfl
 unfold Hc;rw[hrs,hrt,Option.getD_some,Option.getD_some];constructor
 ·intro e
  injection e with e1 e2
  refine⟨e1,fun c hc=>?_⟩;have h1:=g1 c hc;rw[e2,g2 c hc]at h1
  injection h1 with h1
  exact h1.symm
 ·rintro⟨e1,e2⟩
  rw[e1]
  congr 1
  apply List.ext_getElem?;intro c
  by_cases hc:c<a.K
  ·rw[g1 c hc,g2 c hc,e2 c hc]
  ·rw[List.getElem?_eq_none (by rw[List.length_map,l1];omega),List.getElem?_eq_none (by rw[List.length_map,l2];omega)]
theorem PH{cl:List Int}(hs:s<a.n): ∃j,LS qF (Hc a cl s) ((List.range a.n).map (Hc a cl)) 0=some j∧cv (RU a cl) s=((j:Nat):Int)∧((List.range a.n).map (Hc a cl))[j]? =some (Hc a cl s):=by
 have hm:Hc a cl s∈(List.range a.n).map (Hc a cl):=List.mem_map.2 ⟨s,List.mem_range.2 hs,rfl⟩
 cases h:LS qF (Hc a cl s) ((List.range a.n).map (Hc a cl)) 0 with
 |none=>exact absurd hm (Eu (fun x=>(Fv x x).2 rfl) h)
 |some j=>
  refine⟨j,rfl,?_,(Et (fun x y=>(Fv x y).1) h).2⟩;unfold RU cv;rw[List.getElem?_map,List.getElem?_map,List.getElem?_range hs,Option.map_some,Option.map_some,Option.getD_some,h];rfl
theorem Kf(W:ZP a)(cl:List Int):FF a cl (RU a cl):=by
 refine⟨by simp[RU],fun s t hs ht=>?_⟩;obtain⟨i,a1,a2,a3⟩:=PH (cl:=cl) hs;obtain⟨j,b1,b2,b3⟩:=PH (cl:=cl) ht;rw[a2,b2,←yi W hs ht];constructor
 ·intro e
  have e:i=j:=by omega
  subst e;rw[a3]at b3;injection b3
 ·intro e;rw[e,b1]at a1
  injection a1 with a1
  rw[a1]
theorem TI{a:Au}(W:ZP a): ∀(f:Nat) (cl r:List Int),L6 a cl→wI a f cl=some r→XD a r
 |0,cl,r,F,h=>by cases h
 |f+1,cl,r,F,h=>by
  rw[wI]at h
  split at h
  ·rename_i he
   injection h with h
   subst h;have he:=(Fv _ _).1 he;refine F.IX W fun s t hs ht e=>?_;have f:=Kf W cl;rw[he]at f;exact((f.iff s t hs ht).1 e).2
  ·exact TI W f _ r (F.qs W (Kf W cl)) h
def wB(a:Au):List Int:=a.acc.map fun b=>if b then 1 else 0
theorem qQ:L6 a (wB a):=by
 refine KM (by simp[wB]) fun s t hs ht=>?_
 have g: ∀s,s<a.n→cv (wB a) s=if a.ok s then 1 else 0:=fun s hs=>by
  unfold wB cv Au.ok;rw[List.getElem?_map,List.getElem?_eq_getElem hs];rfl
 rw[g s hs,g t ht]
 cases a.ok s<;>cases a.ok t<;>simp
def OB(a:Au)(cl:List Int)(s:Nat):Nat→Nat→List Nat→List Int→List Int→(List Nat×List Int)×List Int
 |0,_,ls,lc,row=>((ls,lc),row)
 |f+1,c,ls,lc,row=>match LS (fun x y=>decide (x=y)) (cv cl (a.go s c)) lc 0 with
  |some j=>OB a cl s f (c+1) ls lc (row++[((j:Nat):Int)])
  |none=>OB a cl s f (c+1) (ls++[a.go s c]) (lc++[cv cl (a.go s c)]) (row++[((ls.length:Nat):Int)])
def runM(a:Au)(cl:List Int):Nat→List Nat→List Int→List (List Int)→Option (List Nat×List (List Int))
 |0,_,_,_=>none
 |f+1,ls,lc,rows=>match ls[rows.length]? with
  |none=>some (ls,rows)
  |some s=>runM a cl f (OB a cl s a.K 0 ls lc []).1.1 (OB a cl s a.K 0 ls lc []).1.2 (rows++[(OB a cl s a.K 0 ls lc []).2])
theorem O9{a:Au}(W:ZP a){cl:List Int}(hc:XD a cl){s:Nat}{rows:List (List Int)}: ∀(f c:Nat) (ls:List Nat) (row:List Int),Zk a cl ls rows row→ls[rows.length]? =some s→row.length=c→c+f=a.K→
  ∃ls',(OB a cl s f c ls (ls.map (cv cl)) row).1=(ls',ls'.map (cv cl))∧Zk a cl ls' rows (OB a cl s f c ls (ls.map (cv cl)) row).2∧(OB a cl s f c ls (ls.map (cv cl)) row).2.length=a.K∧ls.length≤ls'.length
 |0,c,ls,row,H,hs,hl,hK=>⟨ls,rfl,H,by show row.length=a.K;omega,Nat.le_refl _⟩
 |f+1,c,ls,row,H,hs,hl,hK=>by
  rw[OB];subst hl;have hi:=(List.getElem?_eq_some_iff.1 hs).1;have hsn:=H.lt s (List.mem_of_getElem? hs)
  split
  ·rename_i j hj;have:=(Et (fun x y h=>of_decide_eq_true h) hj).2;exact O9 W hc f _ ls _ (H.J0 W hc hs (by show _<a.K;omega) rfl this) hs Qx Qe
  ·rename_i hj;have hn:=Eu (q:=fun x y=>decide (x=y)) (fun x=>decide_eq_true rfl) hj;obtain⟨ls',h1,h2,h3,h4⟩:=O9 W hc f (row.length+1) (ls++[a.go s row.length]) _ (H.new W hc hs (by show _<a.K;omega) rfl (W.UJ hsn Qe) hn) (by rw[List.getElem?_append_left hi];exact hs) Qx Qe;rw[List.map_append]at h1 h2 h3;refine⟨ls',h1,h2,h3,?_⟩;rw[List.length_append]at h4;omega
theorem PC{a:Au}(W:ZP a){cl:List Int}(hc:XD a cl): ∀(f:Nat) (ls:List Nat) (rows:List (List Int)) (r:List Nat×List (List Int)),Zk a cl ls rows []→rows.length≤ls.length→runM a cl f ls (ls.map (cv cl)) rows=some r→Zk a cl r.1 r.2 []∧r.2.length=r.1.length
 |0,ls,rows,r,H,hl,h=>by cases h
 |f+1,ls,rows,r,H,hl,h=>by
  rw[runM]at h
  split at h
  ·rename_i hn
   injection h with h
   subst h;have:=List.getElem?_eq_none_iff.1 hn;exact⟨H,by show rows.length=ls.length;omega⟩
  ·rename_i s hs;obtain⟨ls',h1,h2,h3,h4⟩:=O9 W hc a.K 0 ls [] H hs rfl Qe;have hi:=(List.getElem?_eq_some_iff.1 hs).1;rw[h1]at h;exact PC W hc f ls' _ r (h2.whole h3) (by rw[List.length_append,List.length_singleton];omega) h
def MF(a:Au):Option Au:=match wI a 400 (wB a)with
 |none=>none
 |some cl=>match runM a cl 401 [0] [cv cl 0] []with
  |none=>none
  |some r=>if r.1.length≤400 then some ⟨a.tr,r.1.map a.ok,r.2⟩else none
theorem OQ(W:ZP a)(h:MF a=some m):Jo a m:=by
 unfold MF at h
 split at h
 ·cases h
 ·rename_i cl hcl;have hc:=TI W 400 _ cl qQ hcl
  split at h
  ·cases h
  ·rename_i r hr
   split at h
   ·rename_i hn
    injection h with h
    subst h;obtain⟨h1,h2⟩:=PC W hc 401 [0] [] r (Zk.start W) Qx hr;exact h1.least W hc hn h2
   ·cases h
def yL(a:Au)(k:Nat):Nat→List Bool→Option (List Bool)
 |0,_=>none
 |f+1,l=>if((List.range a.n).map fun s=>Wu l s||Wu l (a.go s 0)||Wu l (a.go s (2^k)))=l then some l else yL a k f ((List.range a.n).map fun s=>Wu l s||Wu l (a.go s 0)||Wu l (a.go s (2^k)))
theorem Gz{k:Nat}{l:List Bool}(hs:s<a.n):Wu ((List.range a.n).map fun s=>Wu l s||Wu l (a.go s 0)||Wu l (a.go s (2^k))) s=(Wu l s||Wu l (a.go s 0)||Wu l (a.go s (2^k))):=Zz (by rw[List.getElem?_map,List.getElem?_range hs];rfl)
theorem R6{a:Au}(W:ZP a){k:Nat}(hk:2^k<a.K): ∀(f:Nat) (l r:List Bool),Hw a k l→yL a k f l=some r→ES a k r
 |0,l,r,H,h=>by cases h
 |f+1,l,r,H,h=>by
  rw[yL]at h
  split at h
  ·rename_i he
   injection h with h
   subst h;refine H.done W hk fun s hs hor=>?_;have:=Gz (k:=k) (l:=l) hs;rw[he]at this;rw[this]
   rcases hor with h|h<;>simp[h]
  ·refine R6 W hk f _ r ⟨by simp,fun s hs e=>?_,fun s hs e=>?_⟩ h
   ·rw[Gz hs]at e;simp only[Bool.or_eq_true]at e;have h0:=W.UJ hs (show 0<a.K from Nat.two_pow_pos _);have h1:=W.UJ hs hk;rcases e with(e|e)|e
    ·exact H.sound s hs e
    ·exact .low (H.sound _ h0 e)
    ·exact .high (H.sound _ h1 e)
   ·rw[Gz hs,H.ext s hs e];rfl
def xL(x y:Nat×Nat):Bool:=Nat.beq x.1 y.1&&Nat.beq x.2 y.2
theorem qE(x y:Nat×Nat):xL x y=true↔x=y:=by
 obtain⟨a,b⟩:=x;obtain⟨c,d⟩:=y;simp[xL]
theorem yu(x y:Nat):Nat.beq x y=true↔x=y:=by simp
def wC(p q:Au):Option Au:=B8 xL (Rh p q) (0,0) (uO p q 8) p.tr
def eG(p:Au)(k:Nat):Option Au:=match yL p k 401 p.acc with
 |none=>none
 |some acc=>B8 qF (UA p k) [0] (anyS acc) k
def jm(o:List Nat)(a b d n k:Nat):Option Au:=match B8 Nat.beq (EJ o n a b d) 0 (Tx o n) k with
 |none=>none
 |some r=>MF r
theorem jl{o:List Nat}{a b d n k:Nat}(hk:k≤6)(h:jm o a b d n k=some m):Jo (VI o a b d n k) m:=by
 unfold jm at h
 split at h
 ·cases h
 ·rename_i r hr;obtain⟨L,H,ht⟩:=Kv yu hk hr;have hm:=OQ H.wf h;refine⟨hm.canon,fun w hw=>?_,by rw[hm.tr,ht];rfl⟩;have hwr:Hv r.K w:=Er hm.tr hw;rw[hm.like w hw,H.DD hwr]
  have hw2:Hv (2^k) w:=by unfold Au.K at hwr;rw[ht]at hwr;exact hwr
  rw[Tl w Q8 hw2]
  have hlt: ∀(w:List Nat) (s:Nat),s<31→w.foldl (EJ o n a b d) s<31:=by
   intro w
   induction w with
   |nil=>intro s h;exact h
   |cons c w ih=>intro s h;exact ih _ (IU s c)
  rw[CE (hlt w 0 Q8)]
def yg:List Cr→Option Cr
 |[x]=>some x
 |_=>none
def xC:List Cr→Option (Cr×Cr)
 |[x,y]=>some (x,y)
 |_=>none
theorem PZ{l:List Cr}{x:Cr}(h:yg l=some x):l=[x]:=by
 unfold yg at h
 split at h
 ·injection h with h;rw[h]
 ·cases h
theorem yf{l:List Cr}{x:Cr×Cr}(h:xC l=some x):l=[x.1,x.2]:=by
 unfold xC at h
 split at h
 ·injection h with h;rw[←h]
 ·cases h
def isNil:List Cr→Bool
 |[]=>true
 |_=>false
def Lk:Nat→Cr→Nat→Option (Au×Nat)
 |0,_,_=>none
 |f+1,.mk o a b d n l,k=>
  if 6<k then none
  else if o=[110,111,116]then(yg l).bind fun x=>(Lk f x k).bind fun p=>some (p.1.neg,p.2+p.1.n)
  else if o=[97,110,100]then(xC l).bind fun x=>(Lk f x.1 k).bind fun p=>(Lk f x.2 k).bind fun q=>(wC p.1 q.1).bind fun r=>(MF r).bind fun m=>some (m,p.2+q.2+m.n)
  else if o=[101,120]then(yg l).bind fun x=>(Lk f x (k+1)).bind fun p=>(eG p.1 k).bind fun r=>(MF r).bind fun m=>some (m,p.2+m.n)
  else if isNil l then(jm o a.toNat b.toNat d.toNat n.toNat k).bind fun m=>some (m,m.n)
  else none
theorem WZ: ∀(f:Nat) (c:Cr) (k:Nat) (m:Au) (s:Nat),Lk f c k=some (m,s)→Jp c k m s
 |0,c,k,m,s,h=>by cases h
 |f+1,.mk o a b d n l,k,m,s,h=>by
  rw[Lk]at h
  split at h
  ·cases h
  rename_i hk
  split at h
  ·rename_i ho;obtain⟨x,e1,h⟩:=Option.bind_eq_some_iff.1 h;obtain⟨⟨p,t⟩,e2,h⟩:=Option.bind_eq_some_iff.1 h
   injection h with h
   injection h with h1 h2
   subst h1 h2;rw[PZ e1];have hx:=WZ f _ _ _ _ e2;show Jp _ _ p.neg (t+p.n);rw[←EL p];exact .not ho hx (Jo.self (Sm hx.canon))
  split at h
  ·rename_i ho;obtain⟨x,e1,h⟩:=Option.bind_eq_some_iff.1 h;obtain⟨⟨p,t⟩,e2,h⟩:=Option.bind_eq_some_iff.1 h;obtain⟨⟨q,u⟩,e3,h⟩:=Option.bind_eq_some_iff.1 h;obtain⟨r,e4,h⟩:=Option.bind_eq_some_iff.1 h;obtain⟨m',e5,h⟩:=Option.bind_eq_some_iff.1 h
   injection h with h
   injection h with h1 h2
   subst h1 h2;rw[yf e1];have hx:=WZ f _ _ _ _ e2;have hy:=WZ f _ _ _ _ e3;obtain⟨L,H,ht⟩:=Kv qE hx.wf.tr e4;exact .and ho hx hy ⟨H,ht⟩ (OQ H.wf e5)
  split at h
  ·rename_i ho;obtain⟨x,e1,h⟩:=Option.bind_eq_some_iff.1 h;obtain⟨⟨p,t⟩,e2,h⟩:=Option.bind_eq_some_iff.1 h;obtain⟨r,hr,h⟩:=Option.bind_eq_some_iff.1 h;obtain⟨m',e5,h⟩:=Option.bind_eq_some_iff.1 h
   injection h with h
   injection h with h1 h2
   subst h1 h2;rw[PZ e1];have hx:=WZ f _ _ _ _ e2;unfold eG at hr
   split at hr
   ·cases hr
   ·rename_i acc hacc
    have hK:2^k<p.K:=by
     unfold Au.K;rw[hx.tr];exact Nat.pow_lt_pow_right Q8 (Nat.lt_succ_self k)
    have hc:=R6 hx.wf hK 401 p.acc acc (Hw.start p k) hacc;obtain⟨L,H,ht⟩:=Kv Fv Qe hr;exact .ex ho hx hc H ht (OQ H.wf e5)
  ·rename_i h1 h2 h3
   split at h
   ·rename_i hn;obtain⟨m',hm,h⟩:=Option.bind_eq_some_iff.1 h
    injection h with h
    injection h with e1 e2
    subst e1 e2
    cases l with
    |nil=>exact .atom h1 h2 h3 (jl Qe hm)
    |cons=>cases hn
   ·cases h
end Go.Proofs.YtildagdnomiahaaGreatDoor
