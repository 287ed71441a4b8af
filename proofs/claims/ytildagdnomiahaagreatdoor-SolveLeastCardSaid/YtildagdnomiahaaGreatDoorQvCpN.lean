/-
  The least automata of core formulas, reckoned.
-/
import Derived.Test.YtildagdnomiahaaGreatDoorQvMnP
namespace Go.Proofs.YtildagdnomiahaaGreatDoor
set_option linter.unusedVariables false
variable {a m:Au} {s:Nat}

def Oe{α:Type}(q:α→α→Bool)(x:α):List α→Nat→Option Nat
 |[],_=>none
 |y::l,i=>if q x y then some i else Oe q x l (i+1)
def Ba{α:Type}(q:α→α→Bool)(δ:α→Nat→α)(s:α):Nat→Nat→List α→List Int→List α×List Int
 |0,_,L,row=>(L,row)
 |f+1,c,L,row=>match Oe q (δ s c) L 0 with
  |some j=>Ba q δ s f (c+1) L (row++[((j:Nat):Int)])
  |none=>Ba q δ s f (c+1) (L++[δ s c]) (row++[((L.length:Nat):Int)])
def xh{α:Type}(q:α→α→Bool)(δ:α→Nat→α)(K:Nat):Nat→List α→List (List Int)→Option (List α×List (List Int))
 |0,_,_=>none
 |f+1,L,rows=>match L[rows.length]? with
  |none=>some (L,rows)
  |some s=>xh q δ K f (Ba q δ s K 0 L []).1 (rows++[(Ba q δ s K 0 L []).2])
def Dk{α:Type}(q:α→α→Bool)(δ:α→Nat→α)(s0:α)(p:α→Bool)(t:Nat):Option Au:=match xh q δ (2^t) 401 [s0] []with
 |none=>none
 |some r=>if r.1.length≤400 then some ⟨t,r.1.map p,r.2⟩else none
section
variable {α:Type} {q:α→α→Bool} {δ:α→Nat→α} {s0:α} {p:α→Bool} {K t:Nat}
theorem Av(hq: ∀x y,q x y=true→x=y){x:α}: ∀{l:List α} {i j:Nat},Oe q x l i=some j→i≤j∧l[j-i]? =some x
 |[],i,j,h=>by cases h
 |y::l,i,j,h=>by
  rw[Oe]at h
  split at h
  ·rename_i hy
   injection h with h
   subst h;rw[Nat.sub_self,hq _ _ hy];exact⟨Nat.le_refl _,rfl⟩
  ·obtain⟨h1,h2⟩:=Av hq h;refine⟨by omega,?_⟩;rw[show j-i=(j-(i+1))+1 by omega,List.getElem?_cons_succ];exact h2
theorem Ay(hq: ∀x,q x x=true){x:α}: ∀{l:List α} {i:Nat},Oe q x l i=none→x∉l
 |[],i,h=>by simp
 |y::l,i,h=>by
  rw[Oe]at h
  split at h
  ·cases h
  ·rename_i hy;rw[List.mem_cons]
   rintro(e|e)
   ·subst e;exact hy (hq x)
   ·exact Ay hq h e
theorem GZ(hq: ∀x y,q x y=true↔x=y){s:α}{rows:List (List Int)}: ∀(f c:Nat) (L:List α) (row:List Int),VI δ s0 K L rows row→L[rows.length]? =some s→row.length=c→c+f=K→
  VI δ s0 K (Ba q δ s f c L row).1 rows (Ba q δ s f c L row).2∧(Ba q δ s f c L row).2.length=K∧L.length≤(Ba q δ s f c L row).1.length
 |0,c,L,row,H,hs,hc,hK=>⟨H,by show row.length=K;omega,Nat.le_refl _⟩
 |f+1,c,L,row,H,hs,hc,hK=>by
  rw[Ba];subst hc
  split
  ·rename_i j hj;have:=(Av (fun x y=>(hq x y).1) hj).2;exact GZ hq f _ L _ (H.J5 Qd hs this) hs Qx Qd
  ·rename_i hj;have hi:=(List.getElem?_eq_some_iff.1 hs).1;obtain⟨h1,h2,h3⟩:=GZ hq f (row.length+1) (L++[δ s row.length]) _ (H.new Qd hs (Ay (fun x=>(hq x x).2 rfl) hj)) (by rw[List.getElem?_append_left hi];exact hs) Qx Qd;refine⟨h1,h2,?_⟩;rw[List.length_append]at h3;omega
theorem Ss(hq: ∀x y,q x y=true↔x=y): ∀(f:Nat) (L:List α) (rows:List (List Int)) (r:List α×List (List Int)),VI δ s0 K L rows []→rows.length≤L.length→xh q δ K f L rows=some r→VI δ s0 K r.1 r.2 []∧r.2.length=r.1.length
 |0,L,rows,r,H,hl,h=>by cases h
 |f+1,L,rows,r,H,hl,h=>by
  rw[xh]at h
  split at h
  ·rename_i hn
   injection h with h
   subst h;have:=List.getElem?_eq_none_iff.1 hn;exact⟨H,by show rows.length=L.length;omega⟩
  ·rename_i s hs;obtain⟨h1,h2,h3⟩:=GZ hq K 0 L [] H hs rfl Qd;have hi:=(List.getElem?_eq_some_iff.1 hs).1;exact Ss hq f _ _ r (h1.whole h2) (by rw[List.length_append,List.length_singleton];omega) h
theorem LH(hq: ∀x y,q x y=true↔x=y)(ht:t≤6)(h:Dk q δ s0 p t=some m): ∃L,U1 δ s0 p L m∧m.tr=t:=by
 unfold Dk at h
 split at h
 ·cases h
 ·rename_i r hr
  split at h
  ·rename_i hn
   injection h with h
   subst h;obtain⟨h1,h2⟩:=Ss hq 401 [s0] [] r (VI.start δ s0 (2^t)) Qx hr;exact⟨r.1,h1.made (m:=⟨t,r.1.map p,r.2⟩) h2 rfl ht hn,rfl⟩
  ·cases h
end
def yq:List Int→List Int→Bool
 |[],[]=>true
 |x::a,y::b=>if x=y then yq a b else false
 |_,_=>false
theorem Hw: ∀(a b:List Int),yq a b=true↔a=b
 |[],[]=>by simp[yq]
 |[],y::b=>by simp[yq]
 |x::a,[]=>by simp[yq]
 |x::a,y::b=>by
  rw[yq]
  split
  ·rename_i h;rw[Hw a b,h];simp
  ·rename_i h;simp[h]
def Il(a:Au)(cl:List Int)(s:Nat):List Int:=cv cl s::((a.nx[s]?).getD []).map fun z=>cv cl z.toNat
def TT(a:Au)(cl:List Int):List Int:=((List.range a.n).map (Il a cl)).map fun k=>(((Oe yq k ((List.range a.n).map (Il a cl)) 0).getD 0:Nat):Int)
def kP(a:Au):Nat→List Int→Option (List Int)
 |0,_=>none
 |f+1,cl=>if yq (TT a cl) cl then some cl else kP a f (TT a cl)
theorem vo(W:Xu a){cl:List Int}{t:Nat}(hs:s<a.n)(ht:t<a.n):Il a cl s=Il a cl t↔cv cl s=cv cl t∧ ∀c,c<a.K→cv cl (a.go s c)=cv cl (a.go t c):=by
 obtain⟨rs,hrs⟩: ∃r,a.nx[s]? =some r:=⟨_,List.getElem?_eq_getElem (by rw[W.len];exact hs)⟩;obtain⟨rt,hrt⟩: ∃r,a.nx[t]? =some r:=⟨_,List.getElem?_eq_getElem (by rw[W.len];exact ht)⟩;have l1:=(W.row rs (List.mem_of_getElem? hrs)).1;have l2:=(W.row rt (List.mem_of_getElem? hrt)).1
 have g1: ∀c,c<a.K→(rs.map fun z=>cv cl z.toNat)[c]? =some (cv cl (a.go s c)):=fun c hc=>by
  rw[List.getElem?_map,List.getElem?_eq_getElem (by rw[l1];exact hc)];unfold Au.go;rw[hrs,Option.getD_some,List.getElem?_eq_getElem (by rw[l1];exact hc)];rfl
 have g2: ∀c,c<a.K→(rt.map fun z=>cv cl z.toNat)[c]? =some (cv cl (a.go t c)):=fun c hc=>by
  rw[List.getElem?_map,List.getElem?_eq_getElem (by rw[l2];exact hc)];unfold Au.go;rw[hrt,Option.getD_some,List.getElem?_eq_getElem (by rw[l2];exact hc)];rfl
 unfold Il;rw[hrs,hrt,Option.getD_some,Option.getD_some];constructor
 ·intro e
  injection e with e1 e2
  refine⟨e1,fun c hc=>?_⟩;have h1:=g1 c hc;rw[e2,g2 c hc]at h1
  injection h1 with h1
  exact h1.symm
 ·rintro⟨e1,e2⟩
  rw[e1]
  congr 1
  apply List.ext_getElem?;intro c
  by_cases hc:c<a.K
  ·rw[g1 c hc,g2 c hc,e2 c hc]
  ·rw[List.getElem?_eq_none (by rw[List.length_map,l1];omega),List.getElem?_eq_none (by rw[List.length_map,l2];omega)]
theorem Sx{cl:List Int}(hs:s<a.n): ∃j,Oe yq (Il a cl s) ((List.range a.n).map (Il a cl)) 0=some j∧cv (TT a cl) s=((j:Nat):Int)∧((List.range a.n).map (Il a cl))[j]? =some (Il a cl s):=by
 have hm:Il a cl s∈(List.range a.n).map (Il a cl):=List.mem_map.2 ⟨s,List.mem_range.2 hs,rfl⟩
 cases h:Oe yq (Il a cl s) ((List.range a.n).map (Il a cl)) 0 with
 |none=>exact absurd hm (Ay (fun x=>(Hw x x).2 rfl) h)
 |some j=>
  refine⟨j,rfl,?_,(Av (fun x y=>(Hw x y).1) h).2⟩;unfold TT cv;rw[List.getElem?_map,List.getElem?_map,List.getElem?_range hs,Option.map_some,Option.map_some,Option.getD_some,h];rfl
theorem Lz(W:Xu a)(cl:List Int):HD a cl (TT a cl):=by
 refine⟨by simp[TT],fun s t hs ht=>?_⟩;obtain⟨i,a1,a2,a3⟩:=Sx (cl:=cl) hs;obtain⟨j,b1,b2,b3⟩:=Sx (cl:=cl) ht;rw[a2,b2,←vo W hs ht];constructor
 ·intro e
  have e:i=j:=by omega
  subst e;rw[a3]at b3;injection b3
 ·intro e;rw[e,b1]at a1
  injection a1 with a1
  rw[a1]
theorem qZ{a:Au}(W:Xu a): ∀(f:Nat) (cl r:List Int),NI a cl→kP a f cl=some r→Vl a r
 |0,cl,r,F,h=>by cases h
 |f+1,cl,r,F,h=>by
  rw[kP]at h
  split at h
  ·rename_i he
   injection h with h
   subst h;have he:=(Hw _ _).1 he;refine F.Lm W fun s t hs ht e=>?_;have f:=Lz W cl;rw[he]at f;exact((f.iff s t hs ht).1 e).2
  ·exact qZ W f _ r (F.wE W (Lz W cl)) h
def ku(a:Au):List Int:=a.acc.map fun b=>if b then 1 else 0
theorem yM:NI a (ku a):=by
 refine Na (by simp[ku]) fun s t hs ht=>?_
 have g: ∀s,s<a.n→cv (ku a) s=if a.ok s then 1 else 0:=fun s hs=>by
  unfold ku cv Au.ok;rw[List.getElem?_map,List.getElem?_eq_getElem hs];rfl
 rw[g s hs,g t ht]
 cases a.ok s<;>cases a.ok t<;>simp
def GX(a:Au)(cl:List Int)(s:Nat):Nat→Nat→List Nat→List Int→List Int→(List Nat×List Int)×List Int
 |0,_,ls,lc,row=>((ls,lc),row)
 |f+1,c,ls,lc,row=>match Oe (fun x y=>decide (x=y)) (cv cl (a.go s c)) lc 0 with
  |some j=>GX a cl s f (c+1) ls lc (row++[((j:Nat):Int)])
  |none=>GX a cl s f (c+1) (ls++[a.go s c]) (lc++[cv cl (a.go s c)]) (row++[((ls.length:Nat):Int)])
def runM(a:Au)(cl:List Int):Nat→List Nat→List Int→List (List Int)→Option (List Nat×List (List Int))
 |0,_,_,_=>none
 |f+1,ls,lc,rows=>match ls[rows.length]? with
  |none=>some (ls,rows)
  |some s=>runM a cl f (GX a cl s a.K 0 ls lc []).1.1 (GX a cl s a.K 0 ls lc []).1.2 (rows++[(GX a cl s a.K 0 ls lc []).2])
theorem GW{a:Au}(W:Xu a){cl:List Int}(hc:Vl a cl){s:Nat}{rows:List (List Int)}: ∀(f c:Nat) (ls:List Nat) (row:List Int),ZB a cl ls rows row→ls[rows.length]? =some s→row.length=c→c+f=a.K→
  ∃ls',(GX a cl s f c ls (ls.map (cv cl)) row).1=(ls',ls'.map (cv cl))∧ZB a cl ls' rows (GX a cl s f c ls (ls.map (cv cl)) row).2∧(GX a cl s f c ls (ls.map (cv cl)) row).2.length=a.K∧ls.length≤ls'.length
 |0,c,ls,row,H,hs,hl,hK=>⟨ls,rfl,H,by show row.length=a.K;omega,Nat.le_refl _⟩
 |f+1,c,ls,row,H,hs,hl,hK=>by
  rw[GX];subst hl;have hi:=(List.getElem?_eq_some_iff.1 hs).1;have hsn:=H.lt s (List.mem_of_getElem? hs)
  split
  ·rename_i j hj;have:=(Av (fun x y h=>of_decide_eq_true h) hj).2;exact GW W hc f _ ls _ (H.J5 W hc hs (by show _<a.K;omega) rfl this) hs Qx Qd
  ·rename_i hj;have hn:=Ay (q:=fun x y=>decide (x=y)) (fun x=>decide_eq_true rfl) hj;obtain⟨ls',h1,h2,h3,h4⟩:=GW W hc f (row.length+1) (ls++[a.go s row.length]) _ (H.new W hc hs (by show _<a.K;omega) rfl (W.Ya hsn Qd) hn) (by rw[List.getElem?_append_left hi];exact hs) Qx Qd;rw[List.map_append]at h1 h2 h3;refine⟨ls',h1,h2,h3,?_⟩;rw[List.length_append]at h4;omega
theorem Sr{a:Au}(W:Xu a){cl:List Int}(hc:Vl a cl): ∀(f:Nat) (ls:List Nat) (rows:List (List Int)) (r:List Nat×List (List Int)),ZB a cl ls rows []→rows.length≤ls.length→runM a cl f ls (ls.map (cv cl)) rows=some r→ZB a cl r.1 r.2 []∧r.2.length=r.1.length
 |0,ls,rows,r,H,hl,h=>by cases h
 |f+1,ls,rows,r,H,hl,h=>by
  rw[runM]at h
  split at h
  ·rename_i hn
   injection h with h
   subst h;have:=List.getElem?_eq_none_iff.1 hn;exact⟨H,by show rows.length=ls.length;omega⟩
  ·rename_i s hs;obtain⟨ls',h1,h2,h3,h4⟩:=GW W hc a.K 0 ls [] H hs rfl Qd;have hi:=(List.getElem?_eq_some_iff.1 hs).1;rw[h1]at h;exact Sr W hc f ls' _ r (h2.whole h3) (by rw[List.length_append,List.length_singleton];omega) h
def ug(a:Au):Option Au:=match kP a 400 (ku a)with
 |none=>none
 |some cl=>match runM a cl 401 [0] [cv cl 0] []with
  |none=>none
  |some r=>if r.1.length≤400 then some ⟨a.tr,r.1.map a.ok,r.2⟩else none
theorem Bk(W:Xu a)(h:ug a=some m):Ju a m:=by
 unfold ug at h
 split at h
 ·cases h
 ·rename_i cl hcl;have hc:=qZ W 400 _ cl yM hcl
  split at h
  ·cases h
  ·rename_i r hr
   split at h
   ·rename_i hn
    injection h with h
    subst h;obtain⟨h1,h2⟩:=Sr W hc 401 [0] [] r (ZB.start W) Qx hr;exact h1.least W hc hn h2
   ·cases h
def vW(a:Au)(k:Nat):Nat→List Bool→Option (List Bool)
 |0,_=>none
 |f+1,l=>if((List.range a.n).map fun s=>Eg l s||Eg l (a.go s 0)||Eg l (a.go s (2^k)))=l then some l else vW a k f ((List.range a.n).map fun s=>Eg l s||Eg l (a.go s 0)||Eg l (a.go s (2^k)))
theorem BX{k:Nat}{l:List Bool}(hs:s<a.n):Eg ((List.range a.n).map fun s=>Eg l s||Eg l (a.go s 0)||Eg l (a.go s (2^k))) s=(Eg l s||Eg l (a.go s 0)||Eg l (a.go s (2^k))):=ZU (by rw[List.getElem?_map,List.getElem?_range hs];rfl)
theorem Ty{a:Au}(W:Xu a){k:Nat}(hk:2^k<a.K): ∀(f:Nat) (l r:List Bool),I5 a k l→vW a k f l=some r→AZ a k r
 |0,l,r,H,h=>by cases h
 |f+1,l,r,H,h=>by
  rw[vW]at h
  split at h
  ·rename_i he
   injection h with h
   subst h;refine H.done W hk fun s hs hor=>?_;have:=BX (k:=k) (l:=l) hs;rw[he]at this;rw[this]
   rcases hor with h|h<;>simp[h]
  ·refine Ty W hk f _ r ⟨by simp,fun s hs e=>?_,fun s hs e=>?_⟩ h
   ·rw[BX hs]at e;simp only[Bool.or_eq_true]at e;have h0:=W.Ya hs (show 0<a.K from Nat.two_pow_pos _);have h1:=W.Ya hs hk;rcases e with(e|e)|e
    ·exact H.sound s hs e
    ·exact .low (H.sound _ h0 e)
    ·exact .high (H.sound _ h1 e)
   ·rw[BX hs,H.ext s hs e];rfl
def aS(x y:Nat×Nat):Bool:=Nat.beq x.1 y.1&&Nat.beq x.2 y.2
theorem yp(x y:Nat×Nat):aS x y=true↔x=y:=by
 obtain⟨a,b⟩:=x;obtain⟨c,d⟩:=y;simp[aS]
theorem v7(x y:Nat):Nat.beq x y=true↔x=y:=by simp
def kE(p q:Au):Option Au:=Dk aS (SS p q) (0,0) (xQ p q 8) p.tr
def ni(p:Au)(k:Nat):Option Au:=match vW p k 401 p.acc with
 |none=>none
 |some acc=>Dk yq (UM p k) [0] (anyS acc) k
def zk(o:List Nat)(a b d n k:Nat):Option Au:=match Dk Nat.beq (AO o n a b d) 0 (ql o n) k with
 |none=>none
 |some r=>ug r
theorem zj{o:List Nat}{a b d n k:Nat}(hk:k≤6)(h:zk o a b d n k=some m):Ju (Wx o a b d n k) m:=by
 unfold zk at h
 split at h
 ·cases h
 ·rename_i r hr;obtain⟨L,H,ht⟩:=LH v7 hk hr;have hm:=Bk H.wf h;refine⟨hm.canon,fun w hw=>?_,by rw[hm.tr,ht];rfl⟩;have hwr:I4 r.K w:=Ap hm.tr hw;rw[hm.like w hw,H.Rn hwr]
  have hw2:I4 (2^k) w:=by unfold Au.K at hwr;rw[ht]at hwr;exact hwr
  rw[qe w Q9 hw2]
  have hlt: ∀(w:List Nat) (s:Nat),s<31→w.foldl (AO o n a b d) s<31:=by
   intro w
   induction w with
   |nil=>intro s h;exact h
   |cons c w ih=>intro s h;exact ih _ (Lj s c)
  rw[Pp (hlt w 0 Q9)]
def vk:List Cr→Option Cr
 |[x]=>some x
 |_=>none
def aI:List Cr→Option (Cr×Cr)
 |[x,y]=>some (x,y)
 |_=>none
theorem SJ{l:List Cr}{x:Cr}(h:vk l=some x):l=[x]:=by
 unfold vk at h
 split at h
 ·injection h with h;rw[h]
 ·cases h
theorem vj{l:List Cr}{x:Cr×Cr}(h:aI l=some x):l=[x.1,x.2]:=by
 unfold aI at h
 split at h
 ·injection h with h;rw[←h]
 ·cases h
def isNil:List Cr→Bool
 |[]=>true
 |_=>false
def IU:Nat→Cr→Nat→Option (Au×Nat)
 |0,_,_=>none
 |f+1,.mk o a b d n l,k=>
  if 6<k then none
  else if o=[110,111,116]then(vk l).bind fun x=>(IU f x k).bind fun p=>some (p.1.neg,p.2+p.1.n)
  else if o=[97,110,100]then(aI l).bind fun x=>(IU f x.1 k).bind fun p=>(IU f x.2 k).bind fun q=>(kE p.1 q.1).bind fun r=>(ug r).bind fun m=>some (m,p.2+q.2+m.n)
  else if o=[101,120]then(vk l).bind fun x=>(IU f x (k+1)).bind fun p=>(ni p.1 k).bind fun r=>(ug r).bind fun m=>some (m,p.2+m.n)
  else if isNil l then(zk o a.toNat b.toNat d.toNat n.toNat k).bind fun m=>some (m,m.n)
  else none
theorem Wu: ∀(f:Nat) (c:Cr) (k:Nat) (m:Au) (s:Nat),IU f c k=some (m,s)→Jl c k m s
 |0,c,k,m,s,h=>by cases h
 |f+1,.mk o a b d n l,k,m,s,h=>by
  rw[IU]at h
  split at h
  ·cases h
  rename_i hk
  split at h
  ·rename_i ho;obtain⟨x,e1,h⟩:=Option.bind_eq_some_iff.1 h;obtain⟨⟨p,t⟩,e2,h⟩:=Option.bind_eq_some_iff.1 h
   injection h with h
   injection h with h1 h2
   subst h1 h2;rw[SJ e1];have hx:=Wu f _ _ _ _ e2;show Jl _ _ p.neg (t+p.n);rw[←AQ p];exact .not ho hx (Ju.self (Ml hx.canon))
  split at h
  ·rename_i ho;obtain⟨x,e1,h⟩:=Option.bind_eq_some_iff.1 h;obtain⟨⟨p,t⟩,e2,h⟩:=Option.bind_eq_some_iff.1 h;obtain⟨⟨q,u⟩,e3,h⟩:=Option.bind_eq_some_iff.1 h;obtain⟨r,e4,h⟩:=Option.bind_eq_some_iff.1 h;obtain⟨m',e5,h⟩:=Option.bind_eq_some_iff.1 h
   injection h with h
   injection h with h1 h2
   subst h1 h2;rw[vj e1];have hx:=Wu f _ _ _ _ e2;have hy:=Wu f _ _ _ _ e3;obtain⟨L,H,ht⟩:=LH yp hx.wf.tr e4;exact .and ho hx hy ⟨H,ht⟩ (Bk H.wf e5)
  split at h
  ·rename_i ho;obtain⟨x,e1,h⟩:=Option.bind_eq_some_iff.1 h;obtain⟨⟨p,t⟩,e2,h⟩:=Option.bind_eq_some_iff.1 h;obtain⟨r,hr,h⟩:=Option.bind_eq_some_iff.1 h;obtain⟨m',e5,h⟩:=Option.bind_eq_some_iff.1 h
   injection h with h
   injection h with h1 h2
   subst h1 h2;rw[SJ e1];have hx:=Wu f _ _ _ _ e2;unfold ni at hr
   split at hr
   ·cases hr
   ·rename_i acc hacc
    have hK:2^k<p.K:=by
     unfold Au.K;rw[hx.tr];exact Nat.pow_lt_pow_right Q9 (Nat.lt_succ_self k)
    have hc:=Ty hx.wf hK 401 p.acc acc (I5.start p k) hacc;obtain⟨L,H,ht⟩:=LH Hw Qd hr;exact .ex ho hx hc H ht (Bk H.wf e5)
  ·rename_i h1 h2 h3
   split at h
   ·rename_i hn;obtain⟨m',hm,h⟩:=Option.bind_eq_some_iff.1 h
    injection h with h
    injection h with e1 e2
    subst e1 e2
    cases l with
    |nil=>exact .atom h1 h2 h3 (zj Qd hm)
    |cons=>cases hn
   ·cases h
end Go.Proofs.YtildagdnomiahaaGreatDoor
