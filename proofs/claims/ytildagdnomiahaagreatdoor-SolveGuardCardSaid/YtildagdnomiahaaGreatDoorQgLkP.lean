/-
  An automaton without a track, plainly: sets of states, numbered as they come.
-/
import Derived.Test.YtildagdnomiahaaGreatDoorQgPjP
set_option linter.unusedVariables false
namespace Go.Proofs.YtildagdnomiahaaGreatDoor
open Go Go.RowKit
section
variable {a:Au} {c k n:Nat} {q:List Int}

def Ws(k c u:Nat):Nat:=c % 2^k+u *2^k+c/2^k *2^(k+1)
theorem OW(k c:Nat):c % 2^k<2^k:=Nat.mod_lt _ (Nat.two_pow_pos k)
theorem Mv{a q:Nat}(h:a<2^k):a|||q *2^k=a+q *2^k:=by
 have:=Nat.two_pow_add_eq_or_of_lt h q;rw[Nat.or_comm,Nat.mul_comm q,←this,Nat.add_comm]
theorem PJ(k c:Nat):c % 2^k|||c/2^k *2^(k+1)=Ws k c 0:=by
 have h1:=OW k c;have h2:2^k≤2^(k+1):=Nat.pow_le_pow_right Q8 Qe;rw[Mv Qe,Ws,Nat.zero_mul,Nat.add_zero (c % 2^k)]
theorem uq(k c:Nat):Ws k c 0|||2^k=Ws k c 1:=by
 have h1:=OW k c
 have h2:2^(k+1)=2 *2^k:=by rw[Nat.pow_succ,Nat.mul_comm]
 have e:=Mv (k:=k) (q:=1) h1;rw[Nat.one_mul]at e;rw[←PJ,Nat.or_assoc,Nat.or_comm (c/2^k *2^(k+1)),←Nat.or_assoc,e,Mv Qe,Ws,Nat.one_mul]
theorem Dt{T u:Nat}(hk:k<T)(hc:c<2^(T-1))(hu:u≤1):Ws k c u<2^T:=by
 have h1:=OW k c;have h3:u *2^k≤1 *2^k:=Nat.mul_le_mul_right _ hu
 have h4:c/2^k<2^(T-1-k):=by
  rw[Nat.div_lt_iff_lt_mul (Nat.two_pow_pos k),←Nat.pow_add,show T-1-k+k=T-1 by omega];exact hc
 have h5:(c/2^k+1) *2^(k+1)≤2^(T-1-k) *2^(k+1):=Nat.mul_le_mul_right _ h4;rw[←Nat.pow_add,show T-1-k+(k+1)=T by omega,Nat.succ_mul]at h5
 have h2:2^(k+1)=2 *2^k:=by rw[Nat.pow_succ,Nat.mul_comm]
 unfold Ws;omega
section
variable {P:Program} {G:Env} {K:List (Nat×AV)} {st:St} {t yt:TypeId} {x y:Operand}
theorem uE(hx:QD G K x=some (.int .i64 (c:Nat)))(hy:QD G K y=some (.int .i64 (((2^k:Nat):Int)-1)))(hc:c≤9223372036854775807)(hk:k≤62):Uf P G K (.binOp .and t x y yt) st (.int .i64 (c % 2^k:Nat)) st:=by
 have hp:2^k≤2^62:=Nat.pow_le_pow_right Q8 hk;have h0:=Nat.two_pow_pos k;have:=PQ (P:=P) (st:=st) (t:=t) (yt:=yt) (a:=c) (b:=2^k-1) hx (by rw[hy];congr 2;omega) hc Qe
 rwa [Nat.and_two_pow_sub_one_eq_mod]at this
theorem zZ{kk:IntKind}(hx:QD G K x=some (.int .i64 (((c:Nat):Int)-((c % 2^k:Nat):Int))))(hy:QD G K y=some (.int kk 1))(hc:c *2≤9223372036854775807):Uf P G K (.binOp .shl t x y yt) st (.int .i64 (c/2^k *2^(k+1):Nat)) st:=by
 have h1:=Nat.div_add_mod c (2^k)
 have h2:c/2^k *2^(k+1)=(2^k *(c/2^k)) *2^1:=by rw[Nat.pow_succ,Nat.pow_one,←Nat.mul_assoc,Nat.mul_comm (c/2^k)]
 rw[h2];exact u0 (n:=1) (by rw[hx];congr 2;omega) hy Q8 Qe
end
def AX(a:Au)(k c:Nat)(q:List Int):List Int:=q.flatMap fun z=>[((a.go z.toNat (Ws k c 0):Nat):Int),((a.go z.toNat (Ws k c 1):Nat):Int)]
theorem N8(a:Au)(k c:Nat)(q:List Int):(AX a k c q).length=2 *q.length:=by
 induction q with
 |nil=>rfl
 |cons z q ih=>unfold AX at ih ⊢;rw[List.flatMap_cons,List.length_append,ih,List.length_cons];simp;omega
theorem D6{i:Nat}{z:Int}(h:q[i]? =some z):AX a k c (q.take (i+1))=AX a k c (q.take i)++[((a.go z.toNat (Ws k c 0):Nat):Int),((a.go z.toNat (Ws k c 1):Nat):Int)]:=by
 unfold AX;rw[List.take_add_one,h,List.flatMap_append];rfl
theorem Sq{x:Int}:x∈AX a k c q↔ ∃z∈q,∃u,u≤1∧x=((a.go z.toNat (Ws k c u):Nat):Int):=by
 unfold AX;rw[List.mem_flatMap];constructor
 ·rintro⟨z,hz,h⟩
  simp only[List.mem_cons,List.not_mem_nil,or_false]at h;rcases h with h|h
  ·exact⟨z,hz,0,by decide,h⟩
  ·exact⟨z,hz,1,by decide,h⟩
 ·rintro⟨z,hz,u,hu,h⟩
  refine⟨z,hz,?_⟩
  have:u=0∨u=1:=by omega
  rcases this with rfl|rfl<;>simp[h]
def UA(a:Au)(k:Nat)(q:List Int)(c:Nat):List Int:=JN (AX a k c q)
def Hs(n:Nat)(q:List Int):Prop:=XS q∧ ∀z∈q,0≤z∧z<((n:Nat):Int)
theorem RL(h:XS q):JN q=q:=Bi (Xe q) h fun x=>XL q x
theorem Bh: ∀{q:List Int} {lo hi:Int},XS q→(∀z∈q,lo≤z∧z<hi)→lo≤hi→(q.length:Int)≤hi-lo
 |[],lo,hi,_,_,h=>by simp;omega
 |x::q,lo,hi,h,hb,hl=>by
  obtain⟨h1,h2⟩:=List.pairwise_cons.1 h;have hx:=hb x Qx;have:=Bh (lo:=x+1) (hi:=hi) h2 (fun z hz=>⟨by have:=h1 z hz;omega,(hb z (by simp[hz])).2⟩) Qe;rw[List.length_cons];omega
theorem Hs.len(h:Hs n q):q.length≤n:=by
 have:=Bh h.1 h.2 Qe;omega
theorem Hs.DN(h:Hs n q)(hn:n≤400):FE q:=fun z hz=>by
 have:=h.2 z hz
 constructor<;>omega
theorem Hs.zero(h:1≤n):Hs n [0]:=⟨List.pairwise_singleton _ _,fun z hz=>by rw[List.mem_singleton.1 hz];omega⟩
theorem Hs.step(W:ZP a)(hk:k<a.tr)(hc:c<2^(a.tr-1))(h:Hs a.n q):Hs a.n (UA a k q c):=by
 refine⟨Xe _,fun z hz=>?_⟩;obtain⟨y,hy,u,hu,rfl⟩:=Sq.1 ((XL _ z).1 hz);have:=h.2 y hy;have:=W.UJ (s:=y.toNat) (c:=Ws k c u) Qe (Dt hk hc hu);omega
def anyS(acc:List Bool)(s:List Int):Bool:=s.any fun z=>Wu acc z.toNat
theorem N5{L:List (List Int)}(h:XS q):(Si L q<L.length∧E8 L q=L∧L[Si L q]? =some q)∨(Si L q=L.length∧E8 L q=L++[q]∧q∉L):=by
 unfold Si E8;rw[RL h]
 cases hn:ZV 0 L q with
 |some i=>
  have h1:=(N7 hn).2;rw[Nat.sub_zero]at h1;exact .inl ⟨(List.getElem?_eq_some_iff.1 h1).1,rfl,h1⟩
 |none=>exact .inr ⟨rfl,rfl,FY hn⟩
structure Vg{α:Type}(δ:α→Nat→α)(s0:α)(K:Nat)(L:List α)(rows:List (List Int))(row:List Int):Prop where
 ex: ∃es,A6 δ s0 K L es∧rows.flatten++row=es.map fun v=>((v:Nat):Int)
 len: ∀r∈rows,r.length=K
 less:row.length≤K
section
variable {α:Type} {δ:α→Nat→α} {s0:α} {K:Nat} {L:List α} {rows:List (List Int)} {row:List Int}
theorem Vg.start(δ:α→Nat→α)(s0:α)(K:Nat):Vg δ s0 K [s0] [] []:=⟨⟨[],A6.start δ s0 K,rfl⟩,fun r h=>(by cases h),Nat.zero_le _⟩
theorem Vg.at_(H:Vg δ s0 K L rows row)(hr:row.length<K){es:List Nat}(e:rows.flatten++row=es.map fun v=>((v:Nat):Int)):es.length/K=rows.length∧es.length % K=row.length:=by
 have h1:=congrArg List.length e;rw[List.length_append,NL H.len,List.length_map]at h1;rw[←h1,Nat.mul_comm];exact⟨by rw[Nat.mul_add_div Qe,Nat.div_eq_of_lt hr];rfl,by rw[Nat.mul_add_mod];exact Nat.mod_eq_of_lt hr⟩
theorem Vg.J0(H:Vg δ s0 K L rows row)(hr:row.length<K){s:α}(hs:L[rows.length]? =some s){j:Nat}(hj:L[j]? =some (δ s row.length)):Vg δ s0 K L rows (row++[((j:Nat):Int)]):=by
 obtain⟨es,E,e⟩:=H.ex;obtain⟨h1,h2⟩:=H.at_ hr e;exact⟨⟨es++[j],E.J0 (by rw[h1];exact hs) (by rw[h2];exact hj),by rw[←List.append_assoc,e,List.map_append];rfl⟩,H.len,by rw[List.length_append];simp;omega⟩
theorem Vg.new(H:Vg δ s0 K L rows row)(hr:row.length<K){s:α}(hs:L[rows.length]? =some s)(hn:δ s row.length∉L):Vg δ s0 K (L++[δ s row.length]) rows (row++[((L.length:Nat):Int)]):=by
 obtain⟨es,E,e⟩:=H.ex;obtain⟨h1,h2⟩:=H.at_ hr e;have:=E.new (by rw[h1];exact hs) (by rw[h2];exact hn);rw[h2]at this;exact⟨⟨es++[L.length],this,by rw[←List.append_assoc,e,List.map_append];rfl⟩,H.len,by rw[List.length_append];simp;omega⟩
theorem Vg.whole(H:Vg δ s0 K L rows row)(hr:row.length=K):Vg δ s0 K L (rows++[row]) []:=by
 obtain⟨es,E,e⟩:=H.ex;refine⟨⟨es,E,by simpa using e⟩,fun r h=>?_,Nat.zero_le _⟩;rcases List.mem_append.1 h with h|h
 ·exact H.len r h
 ·rw[List.mem_singleton.1 h];exact hr
theorem Vg.made{p:α→Bool}{m:Au}(H:Vg δ s0 m.K L m.nx [])(hl:m.nx.length=L.length)(ha:m.acc=L.map p)(ht:m.tr≤6)(hm:L.length≤400):Ur δ s0 p L m:=by
 obtain⟨es,E,e⟩:=H.ex;rw[List.append_nil]at e;exact⟨⟨es,E,⟨H.len,e⟩⟩,hl,ha,ht,hm⟩
theorem Vg.nodup(H:Vg δ s0 K L rows row):L.Nodup:=by obtain⟨es,E,e⟩:=H.ex;exact E.nodup
theorem Vg.bound(H:Vg δ s0 K L rows row): ∀z∈rows.flatten++row,0≤z∧z<((L.length:Nat):Int):=by
 obtain⟨es,E,e⟩:=H.ex;intro z hz;rw[e]at hz;obtain⟨v,hv,rfl⟩:=List.mem_map.1 hz;obtain⟨i,hi⟩:=List.getElem?_of_mem hv;have:=E.lt hi;omega
theorem Vg.all(H:Vg δ s0 K L rows row){Q:α→Prop}(h0:Q s0)(hs: ∀s c,Q s→c<K→Q (δ s c))(hK:0<K){s:α}(h:s∈L):Q s:=by
 obtain⟨es,E,e⟩:=H.ex;obtain⟨i,hi⟩:=List.getElem?_of_mem h;exact E.all h0 (fun s c hq hc=>hs s c hq (hc hK)) i s hi
end
theorem Vg.id{K:Nat}{L:List (List Int)}{rows:List (List Int)}{row:List Int}(H:Vg (UA a k) [0] K L rows row)(hr:row.length<K)(hs:L[rows.length]? =some q):Vg (UA a k) [0] K (E8 L (UA a k q row.length)) rows (row++[((Si L (UA a k q row.length):Nat):Int)]):=by
 rcases N5 (L:=L) (q:=UA a k q row.length) (Xe _)with⟨h1,h2,h3⟩|⟨h1,h2,h3⟩
 ·rw[h2];exact H.J0 hr hs h3
 ·rw[h1,h2];exact H.new hr hs h3
end
section

def eE(w:List Nat)(i:Nat):Nat:=(w[i]?).getD 0
def Tk(k c:Nat):Prop:=c=0∨c=2^k
end
section

def Rh(a b:Au)(p:Nat×Nat)(c:Nat):Nat×Nat:=(a.go p.1 c,b.go p.2 c)
def zE(t:Nat)(x y:Bool):Bool:=t/2^((if x then 2 else 0)+(if y then 1 else 0)) % 2==1
def uO(a b:Au)(t:Nat)(p:Nat×Nat):Bool:=zE t (a.ok p.1) (b.ok p.2)
theorem zj(a b:Au): ∀(w:List Nat) (p:Nat×Nat),w.foldl (Rh a b) p=(a.run p.1 w,b.run p.2 w)
 |[],p=>rfl
 |c::w,p=>by rw[List.foldl_cons,zj a b w];rfl
abbrev Oj(a b:Au)(t:Nat)(l:List (Nat×Nat))(m:Au):Prop:=Ur (Rh a b) (0,0) (uO a b t) l m∧m.tr=a.tr
theorem Oj.DD{a b m:Au}{t:Nat}{l:List (Nat×Nat)}(H:Oj a b t l m){w:List Nat}(hw:Hv a.K w):m.ok (m.run 0 w)=zE t (a.ok (a.run 0 w)) (b.ok (b.run 0 w)):=by
 rw[H.1.DD (by unfold Au.K at hw ⊢;rw[H.2];exact hw),zj];rfl
section
variable {a b m:Au} {t k:Nat} {l:List (Nat×Nat)} {w:List Nat}
end
end
section

theorem Er{a b:Au}(h:a.tr=b.tr){w:List Nat}(hw:Hv a.K w):Hv b.K w:=by unfold Au.K at *;rw[←h];exact hw
structure Jo(a m:Au):Prop where
 canon:Canon m
 like:ZS m a 0 0
 tr:m.tr=a.tr
theorem Jo.uniq{a b m p:Au}(h1:Jo a m)(h2:Jo b p)(ht:b.tr=a.tr)(hl:ZS a b 0 0):m=p:=
 Pn h1.canon h2.canon (by rw[h1.tr,h2.tr,ht]) fun w hw=>by
  have ha:=Er h1.tr hw;rw[h1.like w hw,hl w ha];exact(h2.like w (Er (ht.symm.trans h2.tr.symm) ha)).symm
theorem ZS.refl(a:Au)(s:Nat):ZS a a s s:=fun _ _=>rfl
theorem Jo.self{a:Au}(h:Canon a):Jo a a:=⟨h,ZS.refl a 0,rfl⟩
def Au.neg(a:Au):Au:=⟨a.tr,a.acc.map (!·),a.nx⟩
theorem EL(a:Au):a.neg.n=a.n:=by simp[Au.neg,Au.n]
theorem x8{a:Au}{s:Nat}(h:s<a.n):a.neg.ok s= !a.ok s:=by
 unfold Au.ok Au.neg;simp only[List.getElem?_map];rw[List.getElem?_eq_getElem h];rfl
theorem MB{a:Au}(W:ZP a):ZP a.neg:=
 ⟨W.tr,by rw[EL];exact W.pos,by rw[EL];exact W.most,by rw[EL];exact W.len,fun r hr=>by rw[EL];exact W.row r hr⟩
theorem PU{a:Au}(W:ZP a){w:List Nat}(hw:Hv a.K w){s:Nat}(hs:s<a.n):a.neg.ok (a.neg.run s w)= !a.ok (a.run s w):=x8 (W.Dj w hs hw)
theorem Sm{a:Au}(C:Canon a):Canon a.neg:=
 ⟨MB C.wf,fun s t hs ht hl=>C.red s t (EL a▸hs) (EL a▸ht) fun w hw=>by
  have h:=hl w hw;rw[PU C.wf hw (EL a▸hs),PU C.wf hw (EL a▸ht)]at h
  simpa using h,fun k h0 hk=>C.first k h0 (EL a▸hk)⟩
def Xs (o : List Nat) (n s a b d : Nat) : Nat :=
  if s = 30 then 30
  else if o = [115, 117, 98] then (if a ≤ b then 0 else 30)
  else if o = [110, 111, 110, 101] then (if a = 0 then 0 else 30)
  else if o = [117, 110, 105, 111, 110] then (if d = a ||| b then 0 else 30)
  else if o = [105, 110, 116, 101, 114] then (if d = a &&& b then 0 else 30)
  else if o = [109, 105, 110, 117, 115] then (if d = a - b then 0 else 30)
  else if o = [102, 108, 97, 103] then (if s = 1 ∨ a = 1 then 1 else 30)
  else if o = [115, 105, 110, 103] then (if 1 < s + a then 30 else s + a)
  else if o = [110, 117, 109] then (if s = n + 1 ∧ a = 0 then s else if n < s ∨ (s < n ∧ a = 1) ∨ (s = n ∧ a = 0) then 30 else s + 1)
  else if o = [108, 101, 115, 115] then (if a + b = 0 then s else if s = 0 ∧ a = 1 ∧ b = 0 then 1 else if s = 1 ∧ a = 0 ∧ b = 1 then 2 else 30)
  else if o = [112, 108, 117, 115] then
    (if s = n + 1 ∨ (s = 0 ∧ a = 0) then (if a + b = 0 then s else 30)
     else if s = 0 ∧ n = 0 then (if b = 1 then 1 else 30)
     else if s = 0 then (if b = 0 then 1 else 30)
     else if a = 1 ∨ (s < n ∧ b = 1) ∨ (s = n ∧ b = 0) then 30 else s + 1)
  else 0
def Tx(o:List Nat)(n s:Nat):Bool:=
 if s=30 then false
 else if o=[102,108,97,103]∨o=[115,105,110,103]then decide (s=1)
 else if o=[108,101,115,115]then decide (s=2)
 else if o=[112,108,117,115]∨o=[110,117,109]then decide (s=n+1)
 else true
def Gu(l v:Nat):Nat:=l/2^v % 2
def EJ(o:List Nat)(n a b d s l:Nat):Nat:=min (Xs o n s (Gu l a) (Gu l b) (Gu l d)) 30
def VI(o:List Nat)(a b d n k:Nat):Au:=⟨k,(List.range 31).map (Tx o n),(List.range 31).map fun s=>(List.range (2^k)).map fun l=>((EJ o n a b d s l:Nat):Int)⟩
section
variable {o:List Nat} {a b d n k:Nat}
theorem CF{s l:Nat}(hs:s<31)(hl:l<2^k):(VI o a b d n k).go s l=EJ o n a b d s l:=by
 unfold Au.go VI;simp only[List.getElem?_map,List.getElem?_range hs,Option.map_some,Option.getD_some,List.getElem?_range hl,Int.toNat_natCast]
theorem CE{s:Nat}(hs:s<31):(VI o a b d n k).ok s=Tx o n s:=by
 unfold Au.ok VI;simp only[List.getElem?_map,List.getElem?_range hs,Option.map_some,Option.getD_some]
theorem IU(s l:Nat):EJ o n a b d s l<31:=by unfold EJ;omega
theorem Tl(w:List Nat): ∀{s:Nat},s<31→Hv (2^k) w→(VI o a b d n k).run s w=w.foldl (EJ o n a b d) s:=by
 induction w with
 |nil=>intro s _ _;rfl
 |cons c w ih=>
  intro s hs hw;rw[Au.Kc,CF hs (hw c Qx),ih (IU s c) fun x hx=>hw x (by simp[hx])];rfl
end
inductive Jp:Cr→Nat→Au→Nat→Prop
 |atom {o:List Nat} {a b d n:Int} {k:Nat} {m:Au} (h1:o≠[110,111,116]) (h2:o≠[97,110,100]) (h3:o≠[101,120]) (h:Jo (VI o a.toNat b.toNat d.toNat n.toNat k) m):Jp (.mk o a b d n []) k m m.n
 |not {o:List Nat} {a b d n:Int} {x:Cr} {k s:Nat} {p m:Au} (ho:o=[110,111,116]) (hx:Jp x k p s) (h:Jo p.neg m):Jp (.mk o a b d n [x]) k m (s+m.n)
 |and {o:List Nat} {a b d n:Int} {x y:Cr} {k s t:Nat} {p q r m:Au} {lp:List (Nat×Nat)} (ho:o=[97,110,100]) (hx:Jp x k p s) (hy:Jp y k q t) (hb:Oj p q 8 lp r) (h:Jo r m):Jp (.mk o a b d n [x,y]) k m (s+t+m.n)
 |ex {o:List Nat} {a b d n:Int} {x:Cr} {k s:Nat} {p r m:Au} {acc:List Bool} {L:List (List Int)} (ho:o=[101,120]) (hx:Jp x (k+1) p s) (hc:ES p k acc) (hm:Ur (UA p k) [0] (anyS acc) L r) (ht:r.tr=k) (h:Jo r m):Jp (.mk o a b d n [x]) k m (s+m.n)
section
variable {c x y:Cr} {k s t:Nat} {m p q:Au}
theorem Jp.least(h:Jp c k m s): ∃r,Jo r m:=by cases h<;>exact⟨_,‹Jo _ m›⟩
theorem Jp.canon(h:Jp c k m s):Canon m:=by obtain⟨r,h⟩:=h.least;exact h.canon
theorem Jp.wf(h:Jp c k m s):ZP m:=h.canon.wf
theorem Jp.tr(h:Jp c k m s):m.tr=k:=by
 induction h with
 |atom _ _ _ h=>exact h.tr
 |not _ hx h ih=>exact h.tr.trans ih
 |and _ hx hy hb h ih1 ih2=>exact h.tr.trans (hb.2.trans ih1)
 |ex _ hx hc hm ht h ih=>exact h.tr.trans ht
theorem Jp.uniq(h:Jp c k m s): ∀{m':Au} {s':Nat},Jp c k m' s'→m=m'∧s=s':=by
 induction h with
 |atom h1 h2 h3 h=>
  intro m' s' h'
  cases h' with
  |atom _ _ _ h'=>
   have e:=h.uniq h' rfl (ZS.refl _ _);subst e;exact⟨rfl,rfl⟩
 |not ho hx h ih=>
  intro m' s' h'
  cases h' with
  |not ho' hx' h'=>
   obtain⟨rfl,rfl⟩:=ih hx';have e:=h.uniq h' rfl (ZS.refl _ _);subst e;exact⟨rfl,rfl⟩
  |ex ho'=>rw[ho]at ho';simp at ho'
 |and ho hx hy hb h ih1 ih2=>
  intro m' s' h'
  cases h' with
  |and ho' hx' hy' hb' h'=>
   obtain⟨rfl,rfl⟩:=ih1 hx';obtain⟨rfl,rfl⟩:=ih2 hy'
   have e:=h.uniq h' (by rw[hb.2,hb'.2]) fun w hw=>by
    have hp:=Er hb.2 hw;rw[hb.DD hp,hb'.DD hp]
   subst e;exact⟨rfl,rfl⟩
 |ex ho hx hc hm ht h ih=>
  intro m' s' h'
  cases h' with
  |not ho'=>rw[ho]at ho';simp at ho'
  |ex ho' hx' hc' hm' ht' h'=>
   obtain⟨rfl,rfl⟩:=ih hx';obtain rfl:=hc.uniq hc'
   have e:=h.uniq h' (by rw[ht,ht']) fun w hw=>by
    rw[hm.DD hw,hm'.DD (Er (ht.trans ht'.symm) hw)]
   subst e;exact⟨rfl,rfl⟩
end
section
variable {α β:Type} {δ:α→Nat→α} {δ':β→Nat→β} {s0:α} {pr:α→Bool} {pr':β→Bool} {l:List α} {m:Au}
end
section
variable {x y:Cr} {k s:Nat} {m:Au}
end
end
section
variable {a:Au} {n:Nat} {out:List Int}

theorem Canon.reach(C:Canon a){Q:Nat→Prop}(h0:Q 0)(hs: ∀s c,Q s→s<a.n→c<a.K→Q (a.go s c)): ∀k,k<a.n→Q k:=by
 intro k
 induction k using Nat.strongRecOn with
 |_ k ih=>
  intro hk
  by_cases h:k=0
  ·subst h;exact h0
  ·obtain⟨i,c,h1,h2,h3,_⟩:=C.first k Qe hk;have:=hs i c (ih i h1 Qe) Qe h2
   rwa [h3]at this
def No(a:Au)(n:Nat)(out:List Int)(s:Nat):List Int:=
 if cv out s<0∧((a.nx[s]?).getD []).any (fun t=>decide (cv out t.toNat=((n:Nat):Int)))=true then out.set s (((n+1:Nat)):Int)else out
def V9(a:Au)(n:Nat)(out:List Int)(k:Nat):List Int:=(List.range k).foldl (No a n) out
def Cd(a:Au):List Int:=a.acc.map fun b=>if b then 0 else-1
def Zb(a:Au)(k:Nat):List Int:=(List.range k).foldl (fun out n=>V9 a n out a.n) (Cd a)
theorem q5{s:Nat}:(No a n out s).length=out.length:=by
 unfold No;split
 ·exact List.length_set
 ·rfl
theorem KR{a:Au}{n:Nat}{out:List Int}: ∀k,(V9 a n out k).length=out.length
 |0=>rfl
 |k+1=>by unfold V9;rw[List.range_succ,List.foldl_append];exact q5.trans (KR k)
theorem Ez{k:Nat}:V9 a n out (k+1)=No a n (V9 a n out k) k:=by
 unfold V9;rw[List.range_succ,List.foldl_append];rfl
theorem Hj{k:Nat}:Zb a (k+1)=V9 a k (Zb a k) a.n:=by
 unfold Zb;rw[List.range_succ,List.foldl_append];rfl
theorem VA{a:Au}: ∀k,(Zb a k).length=a.n
 |0=>by simp[Zb,Cd]
 |k+1=>by rw[Hj,KR,VA k]
theorem q3{s:Nat}{B:Int}(hb:((n+1:Nat):Int)≤B)(h: ∀z∈out,-1≤z∧z≤B): ∀z∈No a n out s,-1≤z∧z≤B:=by
 unfold No;split
 ·intro z hz;rcases List.mem_or_eq_of_mem_set hz with hz|rfl
  ·exact h z hz
  ·omega
 ·exact h
theorem BZ{a:Au}{n:Nat}{out:List Int}{B:Int}(hb:((n+1:Nat):Int)≤B)(h: ∀z∈out,-1≤z∧z≤B): ∀k,∀z∈V9 a n out k,-1≤z∧z≤B
 |0=>h
 |k+1=>by rw[Ez];exact q3 hb (BZ hb h k)
theorem Cc{a:Au}{B:Int}: ∀k,((k:Nat):Int)≤B→ ∀z∈Zb a k,-1≤z∧z≤B
 |0,hb=>by
  intro z hz;unfold Zb Cd at hz;obtain⟨b,_,rfl⟩:=List.mem_map.1 hz
  split<;>omega
 |k+1,hb=>by rw[Hj];exact BZ hb (Cc k Qe) _
def ym(p:Int→Bool):List Int→Nat→Option Nat
 |[],_=>none
 |z::l,i=>if p z then some i else ym p l (i+1)
def AH(a:Au)(far:List Int):Nat→Nat→Option (List Nat)
 |0,_=>none
 |f+1,s=>if cv far s≤0 then some []else match ym (fun t=>decide (cv far t.toNat=cv far s-1)) ((a.nx[s]?).getD []) 0 with
  |none=>none
  |some c=>match AH a far f (a.go s c)with
   |none=>none
   |some w=>some (c::w)
def Zs(a:Au):Option (List Nat):=if a.acc.any id then AH a (Zb a a.n) 401 0 else none
end
end Go.Proofs.YtildagdnomiahaaGreatDoor
