/-
  An automaton without a track, plainly: sets of states, numbered as they come.
-/
import Derived.Test.YtildagdnomiahaaGreatDoorQvPjP
set_option linter.unusedVariables false
namespace Go.Proofs.YtildagdnomiahaaGreatDoor
open Go Go.RowKit
section
variable {a:Au} {c k n:Nat} {q:List Int}

def Ed(k c u:Nat):Nat:=c % 2^k+u *2^k+c/2^k *2^(k+1)
theorem Bt(k c:Nat):c % 2^k<2^k:=Nat.mod_lt _ (Nat.two_pow_pos k)
theorem jO{a q:Nat}(h:a<2^k):a|||q *2^k=a+q *2^k:=by
 have:=Nat.two_pow_add_eq_or_of_lt h q;rw[Nat.or_comm,Nat.mul_comm q,←this,Nat.add_comm]
theorem Sy(k c:Nat):c % 2^k|||c/2^k *2^(k+1)=Ed k c 0:=by
 have h1:=Bt k c;have h2:2^k≤2^(k+1):=Nat.pow_le_pow_right Q9 Qd;rw[jO Qd,Ed,Nat.zero_mul,Nat.add_zero (c % 2^k)]
theorem xl(k c:Nat):Ed k c 0|||2^k=Ed k c 1:=by
 have h1:=Bt k c
 have h2:2^(k+1)=2 *2^k:=by rw[Nat.pow_succ,Nat.mul_comm]
 have e:=jO (k:=k) (q:=1) h1;rw[Nat.one_mul]at e;rw[←Sy,Nat.or_assoc,Nat.or_comm (c/2^k *2^(k+1)),←Nat.or_assoc,e,jO Qd,Ed,Nat.one_mul]
theorem PX{T u:Nat}(hk:k<T)(hc:c<2^(T-1))(hu:u≤1):Ed k c u<2^T:=by
 have h1:=Bt k c;have h3:u *2^k≤1 *2^k:=Nat.mul_le_mul_right _ hu
 have h4:c/2^k<2^(T-1-k):=by
  rw[Nat.div_lt_iff_lt_mul (Nat.two_pow_pos k),←Nat.pow_add,show T-1-k+k=T-1 by omega];exact hc
 have h5:(c/2^k+1) *2^(k+1)≤2^(T-1-k) *2^(k+1):=Nat.mul_le_mul_right _ h4;rw[←Nat.pow_add,show T-1-k+(k+1)=T by omega,Nat.succ_mul]at h5
 have h2:2^(k+1)=2 *2^k:=by rw[Nat.pow_succ,Nat.mul_comm]
 unfold Ed;omega
section
variable {P:Program} {G:Env} {K:List (Nat×AV)} {st:St} {t yt:TypeId} {x y:Operand}
theorem xG(hx:QG G K x=some (.int .i64 (c:Nat)))(hy:QG G K y=some (.int .i64 (((2^k:Nat):Int)-1)))(hc:c≤9223372036854775807)(hk:k≤62):Us P G K (.binOp .and t x y yt) st (.int .i64 (c % 2^k:Nat)) st:=by
 have hp:2^k≤2^62:=Nat.pow_le_pow_right Q9 hk;have h0:=Nat.two_pow_pos k;have:=S7 (P:=P) (st:=st) (t:=t) (yt:=yt) (a:=c) (b:=2^k-1) hx (by rw[hy];congr 2;omega) hc Qd
 rwa [Nat.and_two_pow_sub_one_eq_mod]at this
theorem eR{kk:IntKind}(hx:QG G K x=some (.int .i64 (((c:Nat):Int)-((c % 2^k:Nat):Int))))(hy:QG G K y=some (.int kk 1))(hc:c *2≤9223372036854775807):Us P G K (.binOp .shl t x y yt) st (.int .i64 (c/2^k *2^(k+1):Nat)) st:=by
 have h1:=Nat.div_add_mod c (2^k)
 have h2:c/2^k *2^(k+1)=(2^k *(c/2^k)) *2^1:=by rw[Nat.pow_succ,Nat.pow_one,←Nat.mul_assoc,Nat.mul_comm (c/2^k)]
 rw[h2];exact xB (n:=1) (by rw[hx];congr 2;omega) hy Q9 Qd
end
def Hc(a:Au)(k c:Nat)(q:List Int):List Int:=q.flatMap fun z=>[((a.go z.toNat (Ed k c 0):Nat):Int),((a.go z.toNat (Ed k c 1):Nat):Int)]
theorem OR(a:Au)(k c:Nat)(q:List Int):(Hc a k c q).length=2 *q.length:=by
 induction q with
 |nil=>rfl
 |cons z q ih=>unfold Hc at ih ⊢;rw[List.flatMap_cons,List.length_append,ih,List.length_cons];simp;omega
theorem Rg{i:Nat}{z:Int}(h:q[i]? =some z):Hc a k c (q.take (i+1))=Hc a k c (q.take i)++[((a.go z.toNat (Ed k c 0):Nat):Int),((a.go z.toNat (Ed k c 1):Nat):Int)]:=by
 unfold Hc;rw[List.take_add_one,h,List.flatMap_append];rfl
theorem Mo{x:Int}:x∈Hc a k c q↔ ∃z∈q,∃u,u≤1∧x=((a.go z.toNat (Ed k c u):Nat):Int):=by
 unfold Hc;rw[List.mem_flatMap];constructor
 ·rintro⟨z,hz,h⟩
  simp only[List.mem_cons,List.not_mem_nil,or_false]at h;rcases h with h|h
  ·exact⟨z,hz,0,by decide,h⟩
  ·exact⟨z,hz,1,by decide,h⟩
 ·rintro⟨z,hz,u,hu,h⟩
  refine⟨z,hz,?_⟩
  have:u=0∨u=1:=by omega
  rcases this with rfl|rfl<;>simp[h]
def UM(a:Au)(k:Nat)(q:List Int)(c:Nat):List Int:=JS (Hc a k c q)
def I1(n:Nat)(q:List Int):Prop:=V6 q∧ ∀z∈q,0≤z∧z<((n:Nat):Int)
theorem TI(h:V6 q):JS q=q:=CR (X9 q) h fun x=>Vx q x
theorem CQ: ∀{q:List Int} {lo hi:Int},V6 q→(∀z∈q,lo≤z∧z<hi)→lo≤hi→(q.length:Int)≤hi-lo
 |[],lo,hi,_,_,h=>by simp;omega
 |x::q,lo,hi,h,hb,hl=>by
  obtain⟨h1,h2⟩:=List.pairwise_cons.1 h;have hx:=hb x Qx;have:=CQ (lo:=x+1) (hi:=hi) h2 (fun z hz=>⟨by have:=h1 z hz;omega,(hb z (by simp[hz])).2⟩) Qd;rw[List.length_cons];omega
theorem I1.len(h:I1 n q):q.length≤n:=by
 have:=CQ h.1 h.2 Qd;omega
theorem I1.Rv(h:I1 n q)(hn:n≤400):HC q:=fun z hz=>by
 have:=h.2 z hz
 constructor<;>omega
theorem I1.zero(h:1≤n):I1 n [0]:=⟨List.pairwise_singleton _ _,fun z hz=>by rw[List.mem_singleton.1 hz];omega⟩
theorem I1.step(W:Xu a)(hk:k<a.tr)(hc:c<2^(a.tr-1))(h:I1 a.n q):I1 a.n (UM a k q c):=by
 refine⟨X9 _,fun z hz=>?_⟩;obtain⟨y,hy,u,hu,rfl⟩:=Mo.1 ((Vx _ z).1 hz);have:=h.2 y hy;have:=W.Ya (s:=y.toNat) (c:=Ed k c u) Qd (PX hk hc hu);omega
def anyS(acc:List Bool)(s:List Int):Bool:=s.any fun z=>Eg acc z.toNat
theorem OO{L:List (List Int)}(h:V6 q):(Mg L q<L.length∧AE L q=L∧L[Mg L q]? =some q)∨(Mg L q=L.length∧AE L q=L++[q]∧q∉L):=by
 unfold Mg AE;rw[TI h]
 cases hn:Xz 0 L q with
 |some i=>
  have h1:=(OQ hn).2;rw[Nat.sub_zero]at h1;exact .inl ⟨(List.getElem?_eq_some_iff.1 h1).1,rfl,h1⟩
 |none=>exact .inr ⟨rfl,rfl,Ig hn⟩
structure VI{α:Type}(δ:α→Nat→α)(s0:α)(K:Nat)(L:List α)(rows:List (List Int))(row:List Int):Prop where
 ex: ∃es,FF δ s0 K L es∧rows.flatten++row=es.map fun v=>((v:Nat):Int)
 len: ∀r∈rows,r.length=K
 less:row.length≤K
section
variable {α:Type} {δ:α→Nat→α} {s0:α} {K:Nat} {L:List α} {rows:List (List Int)} {row:List Int}
theorem VI.start(δ:α→Nat→α)(s0:α)(K:Nat):VI δ s0 K [s0] [] []:=⟨⟨[],FF.start δ s0 K,rfl⟩,fun r h=>(by cases h),Nat.zero_le _⟩
theorem VI.at_(H:VI δ s0 K L rows row)(hr:row.length<K){es:List Nat}(e:rows.flatten++row=es.map fun v=>((v:Nat):Int)):es.length/K=rows.length∧es.length % K=row.length:=by
 have h1:=congrArg List.length e;rw[List.length_append,Gf H.len,List.length_map]at h1;rw[←h1,Nat.mul_comm];exact⟨by rw[Nat.mul_add_div Qd,Nat.div_eq_of_lt hr];rfl,by rw[Nat.mul_add_mod];exact Nat.mod_eq_of_lt hr⟩
theorem VI.J5(H:VI δ s0 K L rows row)(hr:row.length<K){s:α}(hs:L[rows.length]? =some s){j:Nat}(hj:L[j]? =some (δ s row.length)):VI δ s0 K L rows (row++[((j:Nat):Int)]):=by
 obtain⟨es,E,e⟩:=H.ex;obtain⟨h1,h2⟩:=H.at_ hr e;exact⟨⟨es++[j],E.J5 (by rw[h1];exact hs) (by rw[h2];exact hj),by rw[←List.append_assoc,e,List.map_append];rfl⟩,H.len,by rw[List.length_append];simp;omega⟩
theorem VI.new(H:VI δ s0 K L rows row)(hr:row.length<K){s:α}(hs:L[rows.length]? =some s)(hn:δ s row.length∉L):VI δ s0 K (L++[δ s row.length]) rows (row++[((L.length:Nat):Int)]):=by
 obtain⟨es,E,e⟩:=H.ex;obtain⟨h1,h2⟩:=H.at_ hr e;have:=E.new (by rw[h1];exact hs) (by rw[h2];exact hn);rw[h2]at this;exact⟨⟨es++[L.length],this,by rw[←List.append_assoc,e,List.map_append];rfl⟩,H.len,by rw[List.length_append];simp;omega⟩
theorem VI.whole(H:VI δ s0 K L rows row)(hr:row.length=K):VI δ s0 K L (rows++[row]) []:=by
 obtain⟨es,E,e⟩:=H.ex;refine⟨⟨es,E,by simpa using e⟩,fun r h=>?_,Nat.zero_le _⟩;rcases List.mem_append.1 h with h|h
 ·exact H.len r h
 ·rw[List.mem_singleton.1 h];exact hr
theorem VI.made{p:α→Bool}{m:Au}(H:VI δ s0 m.K L m.nx [])(hl:m.nx.length=L.length)(ha:m.acc=L.map p)(ht:m.tr≤6)(hm:L.length≤400):U1 δ s0 p L m:=by
 obtain⟨es,E,e⟩:=H.ex;rw[List.append_nil]at e;exact⟨⟨es,E,⟨H.len,e⟩⟩,hl,ha,ht,hm⟩
theorem VI.nodup(H:VI δ s0 K L rows row):L.Nodup:=by obtain⟨es,E,e⟩:=H.ex;exact E.nodup
theorem VI.bound(H:VI δ s0 K L rows row): ∀z∈rows.flatten++row,0≤z∧z<((L.length:Nat):Int):=by
 obtain⟨es,E,e⟩:=H.ex;intro z hz;rw[e]at hz;obtain⟨v,hv,rfl⟩:=List.mem_map.1 hz;obtain⟨i,hi⟩:=List.getElem?_of_mem hv;have:=E.lt hi;omega
theorem VI.all(H:VI δ s0 K L rows row){Q:α→Prop}(h0:Q s0)(hs: ∀s c,Q s→c<K→Q (δ s c))(hK:0<K){s:α}(h:s∈L):Q s:=by
 obtain⟨es,E,e⟩:=H.ex;obtain⟨i,hi⟩:=List.getElem?_of_mem h;exact E.all h0 (fun s c hq hc=>hs s c hq (hc hK)) i s hi
end
theorem VI.id{K:Nat}{L:List (List Int)}{rows:List (List Int)}{row:List Int}(H:VI (UM a k) [0] K L rows row)(hr:row.length<K)(hs:L[rows.length]? =some q):VI (UM a k) [0] K (AE L (UM a k q row.length)) rows (row++[((Mg L (UM a k q row.length):Nat):Int)]):=by
 rcases OO (L:=L) (q:=UM a k q row.length) (X9 _)with⟨h1,h2,h3⟩|⟨h1,h2,h3⟩
 ·rw[h2];exact H.J5 hr hs h3
 ·rw[h1,h2];exact H.new hr hs h3
end
section

def Tk(k c:Nat):Prop:=c=0∨c=2^k
end
section

def SS(a b:Au)(p:Nat×Nat)(c:Nat):Nat×Nat:=(a.go p.1 c,b.go p.2 c)
def ef(t:Nat)(x y:Bool):Bool:=t/2^((if x then 2 else 0)+(if y then 1 else 0)) % 2==1
def xQ(a b:Au)(t:Nat)(p:Nat×Nat):Bool:=ef t (a.ok p.1) (b.ok p.2)
theorem wD(a b:Au): ∀(w:List Nat) (p:Nat×Nat),w.foldl (SS a b) p=(a.run p.1 w,b.run p.2 w)
 |[],p=>rfl
 |c::w,p=>by rw[List.foldl_cons,wD a b w];rfl
abbrev G5(a b:Au)(t:Nat)(l:List (Nat×Nat))(m:Au):Prop:=U1 (SS a b) (0,0) (xQ a b t) l m∧m.tr=a.tr
theorem G5.Rn{a b m:Au}{t:Nat}{l:List (Nat×Nat)}(H:G5 a b t l m){w:List Nat}(hw:I4 a.K w):m.ok (m.run 0 w)=ef t (a.ok (a.run 0 w)) (b.ok (b.run 0 w)):=by
 rw[H.1.Rn (by unfold Au.K at hw ⊢;rw[H.2];exact hw),wD];rfl
section
variable {a b m:Au} {t k:Nat} {l:List (Nat×Nat)} {w:List Nat}
end
end
section

theorem Ap{a b:Au}(h:a.tr=b.tr){w:List Nat}(hw:I4 a.K w):I4 b.K w:=by unfold Au.K at *;rw[←h];exact hw
structure Ju(a m:Au):Prop where
 canon:Canon m
 like:Xw m a 0 0
 tr:m.tr=a.tr
theorem Ju.uniq{a b m p:Au}(h1:Ju a m)(h2:Ju b p)(ht:b.tr=a.tr)(hl:Xw a b 0 0):m=p:=
 RO h1.canon h2.canon (by rw[h1.tr,h2.tr,ht]) fun w hw=>by
  have ha:=Ap h1.tr hw;rw[h1.like w hw,hl w ha];exact(h2.like w (Ap (ht.symm.trans h2.tr.symm) ha)).symm
theorem Xw.refl(a:Au)(s:Nat):Xw a a s s:=fun _ _=>rfl
theorem Ju.self{a:Au}(h:Canon a):Ju a a:=⟨h,Xw.refl a 0,rfl⟩
def Au.neg(a:Au):Au:=⟨a.tr,a.acc.map (!·),a.nx⟩
theorem AQ(a:Au):a.neg.n=a.n:=by simp[Au.neg,Au.n]
theorem aD{a:Au}{s:Nat}(h:s<a.n):a.neg.ok s= !a.ok s:=by
 unfold Au.ok Au.neg;simp only[List.getElem?_map];rw[List.getElem?_eq_getElem h];rfl
theorem uc{a:Au}(W:Xu a):Xu a.neg:=
 ⟨W.tr,by rw[AQ];exact W.pos,by rw[AQ];exact W.most,by rw[AQ];exact W.len,fun r hr=>by rw[AQ];exact W.row r hr⟩
theorem SC{a:Au}(W:Xu a){w:List Nat}(hw:I4 a.K w){s:Nat}(hs:s<a.n):a.neg.ok (a.neg.run s w)= !a.ok (a.run s w):=aD (W.PN w hs hw)
theorem Ml{a:Au}(C:Canon a):Canon a.neg:=
 ⟨uc C.wf,fun s t hs ht hl=>C.red s t (AQ a▸hs) (AQ a▸ht) fun w hw=>by
  have h:=hl w hw;rw[SC C.wf hw (AQ a▸hs),SC C.wf hw (AQ a▸ht)]at h
  simpa using h,fun k h0 hk=>C.first k h0 (AQ a▸hk)⟩
def XQ (o : List Nat) (n s a b d : Nat) : Nat :=
  if s = 30 then 30
  else if o = [115, 117, 98] then (if a ≤ b then 0 else 30)
  else if o = [110, 111, 110, 101] then (if a = 0 then 0 else 30)
  else if o = [117, 110, 105, 111, 110] then (if d = a ||| b then 0 else 30)
  else if o = [105, 110, 116, 101, 114] then (if d = a &&& b then 0 else 30)
  else if o = [109, 105, 110, 117, 115] then (if d = a - b then 0 else 30)
  else if o = [102, 108, 97, 103] then (if s = 1 ∨ a = 1 then 1 else 30)
  else if o = [115, 105, 110, 103] then (if 1 < s + a then 30 else s + a)
  else if o = [110, 117, 109] then (if s = n + 1 ∧ a = 0 then s else if n < s ∨ (s < n ∧ a = 1) ∨ (s = n ∧ a = 0) then 30 else s + 1)
  else if o = [108, 101, 115, 115] then (if a + b = 0 then s else if s = 0 ∧ a = 1 ∧ b = 0 then 1 else if s = 1 ∧ a = 0 ∧ b = 1 then 2 else 30)
  else if o = [112, 108, 117, 115] then
    (if s = n + 1 ∨ (s = 0 ∧ a = 0) then (if a + b = 0 then s else 30)
     else if s = 0 ∧ n = 0 then (if b = 1 then 1 else 30)
     else if s = 0 then (if b = 0 then 1 else 30)
     else if a = 1 ∨ (s < n ∧ b = 1) ∨ (s = n ∧ b = 0) then 30 else s + 1)
  else 0
def ql(o:List Nat)(n s:Nat):Bool:=
 if s=30 then false
 else if o=[102,108,97,103]∨o=[115,105,110,103]then decide (s=1)
 else if o=[108,101,115,115]then decide (s=2)
 else if o=[112,108,117,115]∨o=[110,117,109]then decide (s=n+1)
 else true
def BQ(l v:Nat):Nat:=l/2^v % 2
def AO(o:List Nat)(n a b d s l:Nat):Nat:=min (XQ o n s (BQ l a) (BQ l b) (BQ l d)) 30
def Wx(o:List Nat)(a b d n k:Nat):Au:=⟨k,(List.range 31).map (ql o n),(List.range 31).map fun s=>(List.range (2^k)).map fun l=>((AO o n a b d s l:Nat):Int)⟩
section
variable {o:List Nat} {a b d n k:Nat}
theorem Pq{s l:Nat}(hs:s<31)(hl:l<2^k):(Wx o a b d n k).go s l=AO o n a b d s l:=by
 unfold Au.go Wx;simp only[List.getElem?_map,List.getElem?_range hs,Option.map_some,Option.getD_some,List.getElem?_range hl,Int.toNat_natCast]
theorem Pp{s:Nat}(hs:s<31):(Wx o a b d n k).ok s=ql o n s:=by
 unfold Au.ok Wx;simp only[List.getElem?_map,List.getElem?_range hs,Option.map_some,Option.getD_some]
theorem Lj(s l:Nat):AO o n a b d s l<31:=by unfold AO;omega
theorem qe(w:List Nat): ∀{s:Nat},s<31→I4 (2^k) w→(Wx o a b d n k).run s w=w.foldl (AO o n a b d) s:=by
 induction w with
 |nil=>intro s _ _;rfl
 |cons c w ih=>
  intro s hs hw;rw[Au.Lv,Pq hs (hw c Qx),ih (Lj s c) fun x hx=>hw x (by simp[hx])];rfl
end
inductive Jl:Cr→Nat→Au→Nat→Prop
 |atom {o:List Nat} {a b d n:Int} {k:Nat} {m:Au} (h1:o≠[110,111,116]) (h2:o≠[97,110,100]) (h3:o≠[101,120]) (h:Ju (Wx o a.toNat b.toNat d.toNat n.toNat k) m):Jl (.mk o a b d n []) k m m.n
 |not {o:List Nat} {a b d n:Int} {x:Cr} {k s:Nat} {p m:Au} (ho:o=[110,111,116]) (hx:Jl x k p s) (h:Ju p.neg m):Jl (.mk o a b d n [x]) k m (s+m.n)
 |and {o:List Nat} {a b d n:Int} {x y:Cr} {k s t:Nat} {p q r m:Au} {lp:List (Nat×Nat)} (ho:o=[97,110,100]) (hx:Jl x k p s) (hy:Jl y k q t) (hb:G5 p q 8 lp r) (h:Ju r m):Jl (.mk o a b d n [x,y]) k m (s+t+m.n)
 |ex {o:List Nat} {a b d n:Int} {x:Cr} {k s:Nat} {p r m:Au} {acc:List Bool} {L:List (List Int)} (ho:o=[101,120]) (hx:Jl x (k+1) p s) (hc:AZ p k acc) (hm:U1 (UM p k) [0] (anyS acc) L r) (ht:r.tr=k) (h:Ju r m):Jl (.mk o a b d n [x]) k m (s+m.n)
section
variable {c x y:Cr} {k s t:Nat} {m p q:Au}
theorem Jl.least(h:Jl c k m s): ∃r,Ju r m:=by cases h<;>exact⟨_,‹Ju _ m›⟩
theorem Jl.canon(h:Jl c k m s):Canon m:=by obtain⟨r,h⟩:=h.least;exact h.canon
theorem Jl.wf(h:Jl c k m s):Xu m:=h.canon.wf
theorem Jl.tr(h:Jl c k m s):m.tr=k:=by
 induction h with
 |atom _ _ _ h=>exact h.tr
 |not _ hx h ih=>exact h.tr.trans ih
 |and _ hx hy hb h ih1 ih2=>exact h.tr.trans (hb.2.trans ih1)
 |ex _ hx hc hm ht h ih=>exact h.tr.trans ht
theorem Jl.uniq(h:Jl c k m s): ∀{m':Au} {s':Nat},Jl c k m' s'→m=m'∧s=s':=by
 induction h with
 |atom h1 h2 h3 h=>
  intro m' s' h'
  cases h' with
  |atom _ _ _ h'=>
   have e:=h.uniq h' rfl (Xw.refl _ _);subst e;exact⟨rfl,rfl⟩
 |not ho hx h ih=>
  intro m' s' h'
  cases h' with
  |not ho' hx' h'=>
   obtain⟨rfl,rfl⟩:=ih hx';have e:=h.uniq h' rfl (Xw.refl _ _);subst e;exact⟨rfl,rfl⟩
  |ex ho'=>rw[ho]at ho';simp at ho'
 |and ho hx hy hb h ih1 ih2=>
  intro m' s' h'
  cases h' with
  |and ho' hx' hy' hb' h'=>
   obtain⟨rfl,rfl⟩:=ih1 hx';obtain⟨rfl,rfl⟩:=ih2 hy'
   have e:=h.uniq h' (by rw[hb.2,hb'.2]) fun w hw=>by
    have hp:=Ap hb.2 hw;rw[hb.Rn hp,hb'.Rn hp]
   subst e;exact⟨rfl,rfl⟩
 |ex ho hx hc hm ht h ih=>
  intro m' s' h'
  cases h' with
  |not ho'=>rw[ho]at ho';simp at ho'
  |ex ho' hx' hc' hm' ht' h'=>
   obtain⟨rfl,rfl⟩:=ih hx';obtain rfl:=hc.uniq hc'
   have e:=h.uniq h' (by rw[ht,ht']) fun w hw=>by
    rw[hm.Rn hw,hm'.Rn (Ap (ht.trans ht'.symm) hw)]
   subst e;exact⟨rfl,rfl⟩
end
section
variable {α β:Type} {δ:α→Nat→α} {δ':β→Nat→β} {s0:α} {pr:α→Bool} {pr':β→Bool} {l:List α} {m:Au}
end
section
variable {x y:Cr} {k s:Nat} {m:Au}
end
end
section
variable {s:Nat}

def J0:List Int→List Int→List Int
 |seen,[]=>seen
 |seen,x::xs=>if x∈seen then J0 seen xs else J0 (seen++[x]) xs
theorem Ai: ∀(xs seen:List Int),(J0 seen xs).length≤seen.length+xs.length
 |[],seen=>by simp[J0]
 |x::xs,seen=>by
  rw[J0]
  split
  ·have:=Ai xs seen;simp only[List.length_cons];omega
  ·have:=Ai xs (seen++[x]);simp only[List.length_cons,List.length_append,List.length_nil]at this ⊢;omega
theorem KG: ∀(xs seen:List Int) {x:Int} {i:Nat},seen.Nodup→(J0 seen xs)[i]? =some x→J4 seen (xs++[x])=J4 seen xs++[((i:Nat):Int)]∧J0 seen (xs++[x])=J0 seen xs
 |[],seen,x,i,hn,h=>by
  have h:seen[i]? =some x:=h;have hm:=List.mem_of_getElem? h
  have hi:seen.idxOf x=i:=by
   have hlt:=List.idxOf_lt_length_of_mem hm;exact(List.getElem?_inj hlt hn).1 (by rw[List.getElem?_eq_getElem hlt,List.getElem_idxOf,h])
  rw[List.nil_append];unfold J4 J0;rw[if_pos hm,if_pos hm,hi];exact⟨rfl,rfl⟩
 |y::xs,seen,x,i,hn,h=>by
  rw[J0]at h;rw[List.cons_append,J4,J4,J0,J0]
  split at h
  ·rename_i hy;obtain⟨h1,h2⟩:=KG xs seen hn h;rw[if_pos hy,if_pos hy,if_pos hy,if_pos hy,h1,h2];exact⟨rfl,rfl⟩
  ·rename_i hy;have hn':(seen++[y]).Nodup:=List.nodup_append.2 ⟨hn,by simp,fun a ha b hb e=>by rw[List.mem_singleton]at hb;subst hb e;exact hy ha⟩;obtain⟨h1,h2⟩:=KG xs _ hn' h;rw[if_neg hy,if_neg hy,if_neg hy,if_neg hy,h1,h2];exact⟨rfl,rfl⟩
theorem KH: ∀(xs seen:List Int) {x:Int},x∉J0 seen xs→J4 seen (xs++[x])=J4 seen xs++[(((J0 seen xs).length:Nat):Int)]∧J0 seen (xs++[x])=J0 seen xs++[x]
 |[],seen,x,h=>by
  have h:x∉seen:=h;rw[List.nil_append];unfold J4 J0;rw[if_neg h,if_neg h];exact⟨rfl,rfl⟩
 |y::xs,seen,x,h=>by
  rw[J0]at h;rw[List.cons_append,J4,J4,J0,J0]
  split at h
  ·rename_i hy;obtain⟨h1,h2⟩:=KH xs seen h;rw[if_pos hy,if_pos hy,if_pos hy,if_pos hy,h1,h2];exact⟨rfl,rfl⟩
  ·rename_i hy;obtain⟨h1,h2⟩:=KH xs _ h;rw[if_neg hy,if_neg hy,if_neg hy,if_neg hy,h1,h2];exact⟨rfl,rfl⟩
theorem BD{l:List Int}{x:Int}(h:s<l.length):cv (l++[x]) s=cv l s:=by unfold cv;rw[List.getElem?_append_left h]
theorem BC(l:List Int)(x:Int):cv (l++[x]) l.length=x:=by unfold cv;rw[List.getElem?_append_right (Nat.le_refl _),Nat.sub_self];rfl
theorem Db(n:Nat): ∀xs:List Int,xs.length=n→fF n (J4 [] xs) (J0 [] xs).length:=by
 induction n with
 |zero=>
  intro xs h;have:=List.eq_nil_of_length_eq_zero h;subst this;exact⟨fun s hs=>absurd hs (Nat.not_lt_zero s),fun v hv=>absurd hv (Nat.not_lt_zero v)⟩
 |succ n ih=>
  intro xs h;obtain⟨ys,x,rfl⟩: ∃ys x,xs=ys++[x]:=⟨xs.dropLast,xs.getLast (by intro e;subst e;simp at h),(List.dropLast_concat_getLast _).symm⟩
  have hl:ys.length=n:=by simpa using h
  obtain⟨h1,h2⟩:=ih ys hl
  have hnl:(J4 [] ys).length=n:=by rw[Xo];exact hl
  by_cases hx:x∈J0 [] ys
  ·obtain⟨i,hi⟩:=List.getElem?_of_mem hx;have hlt:=(List.getElem?_eq_some_iff.1 hi).1;obtain⟨e1,e2⟩:=KG ys [] List.nodup_nil hi;rw[e1,e2];refine⟨fun s hs=>?_,fun v hv=>?_⟩
   ·by_cases hsn:s<n
    ·rw[BD Qd];exact h1 s hsn
    ·have:s=(J4 [] ys).length:=by omega
     rw[this,BC];omega
   ·obtain⟨s,k1,k2⟩:=h2 v hv;exact⟨s,by omega,by rw[BD Qd];exact k2⟩
  ·obtain⟨e1,e2⟩:=KH ys [] hx;rw[e1,e2,List.length_append,List.length_singleton];refine⟨fun s hs=>?_,fun v hv=>?_⟩
   ·by_cases hsn:s<n
    ·rw[BD Qd];have:=h1 s hsn;omega
    ·have:s=(J4 [] ys).length:=by omega
     rw[this,BC];omega
   ·by_cases hvl:v<(J0 [] ys).length
    ·obtain⟨s,k1,k2⟩:=h2 v hvl;exact⟨s,by omega,by rw[BD Qd];exact k2⟩
    ·refine⟨n,Nat.lt_succ_self n,?_⟩;rw[←hnl,BC];omega
theorem RI{α:Type}{l:List α}{f:α→Int}{x:α}(h:l[s]? =some x):cv (l.map f) s=f x:=by unfold cv;rw[List.getElem?_map,h];rfl
theorem jD{n r q c d:Int}(hc:0≤c∧c<n)(hd:0≤d∧d<n):(r *n+c=q *n+d)↔r=q∧c=d:=by
 refine⟨fun h=>?_,fun⟨h1,h2⟩=>by rw[h1,h2]⟩
 have e:(r-q) *n=d-c:=by rw[Int.sub_mul];omega
 have hrq:r=q:=by
  rcases Int.lt_trichotomy r q with h1|h1|h1
  ·exfalso
   have:=Int.mul_le_mul_of_nonneg_right (show r-q≤ -1 by omega) (show 0≤n by omega);omega
  ·exact h1
  ·exfalso
   have:=Int.mul_le_mul_of_nonneg_right (show 1≤r-q by omega) (show 0≤n by omega);omega
 subst hrq;exact⟨rfl,by omega⟩
structure ZB(a:Au)(cl:List Int)(ls:List Nat)(rows:List (List Int))(row:List Int):Prop where
 pr:VI (DZ a cl) (cv cl 0) (2^a.tr) (ls.map (cv cl)) rows row
 lt: ∀s∈ls,s<a.n
section
variable {a:Au} {cl:List Int} {ls:List Nat} {rows:List (List Int)} {row:List Int}
theorem ZB.le(H:ZB a cl ls rows row)(hr: ∀s,s<a.n→0≤cv cl s∧cv cl s<((a.n:Nat):Int)):ls.length≤a.n:=by
 have h:=XY (b:=(List.range a.n).map fun z=>((z:Nat):Int)) H.pr.nodup fun x hx=>by
  obtain⟨s,hs,rfl⟩:=List.mem_map.1 hx;have:=hr s (H.lt s hs);exact List.mem_map.2 ⟨(cv cl s).toNat,List.mem_range.2 Qd,by omega⟩
 simpa using h
theorem ZB.start(W:Xu a):ZB a cl [0] [] []:=⟨VI.start _ _ _,fun s hs=>by rw[List.mem_singleton.1 hs];exact W.pos⟩
theorem ZB.next(W:Xu a)(hc:Vl a cl){y:Nat}(hs:ls[rows.length]? =some s)(hls:s<a.n)(hr:row.length<2^a.tr)(hy:a.go s row.length=y):(ls.map (cv cl))[rows.length]? =some (cv cl s)∧DZ a cl (cv cl s) row.length=cv cl y:=by
 refine⟨by rw[List.getElem?_map,hs];rfl,?_⟩;rw[BJ (hc.Lm W) hls hr,hy]
theorem ZB.new(H:ZB a cl ls rows row)(W:Xu a)(hc:Vl a cl){s y:Nat}(hs:ls[rows.length]? =some s)(hr:row.length<2^a.tr)(hy:a.go s row.length=y)(hyn:y<a.n)(hn:cv cl y∉ls.map (cv cl)):ZB a cl (ls++[y]) rows (row++[((ls.length:Nat):Int)]):=by
 obtain⟨h1,h2⟩:=ZB.next W hc hs (H.lt s (List.mem_of_getElem? hs)) hr hy;have h4:=H.pr.new hr h1 (by rw[h2];exact hn);rw[h2,List.length_map]at h4;refine⟨by rw[List.map_append];exact h4,fun t ht=>?_⟩;rcases List.mem_append.1 ht with ht|ht
 ·exact H.lt t ht
 ·rw[List.mem_singleton.1 ht];exact hyn
theorem ZB.J5(H:ZB a cl ls rows row)(W:Xu a)(hc:Vl a cl){s y j:Nat}(hs:ls[rows.length]? =some s)(hr:row.length<2^a.tr)(hy:a.go s row.length=y)(hj:(ls.map (cv cl))[j]? =some (cv cl y)):ZB a cl ls rows (row++[((j:Nat):Int)]):=by
 obtain⟨h1,h2⟩:=ZB.next W hc hs (H.lt s (List.mem_of_getElem? hs)) hr hy;exact⟨H.pr.J5 hr h1 (by rw[h2];exact hj),H.lt⟩
theorem ZB.whole(H:ZB a cl ls rows row)(hr:row.length=2^a.tr):ZB a cl ls (rows++[row]) []:=⟨H.pr.whole hr,H.lt⟩
theorem ZB.made(H:ZB a cl ls rows [])(W:Xu a)(hc:Vl a cl)(hn:ls.length≤400)(hl:rows.length=ls.length):U1 (DZ a cl) (cv cl 0) (vI a cl) (ls.map (cv cl)) ⟨a.tr,ls.map a.ok,rows⟩:=by
 refine H.pr.made (m:=⟨a.tr,ls.map a.ok,rows⟩) (by rw[List.length_map];exact hl) ?_ W.tr (by rw[List.length_map];exact hn);show ls.map a.ok=(ls.map (cv cl)).map (vI a cl);rw[List.map_map];exact List.map_congr_left fun s hs=>(Th hc (H.lt s hs)).symm
theorem ZB.least(H:ZB a cl ls rows [])(W:Xu a)(hc:Vl a cl)(hn:ls.length≤400)(hl:rows.length=ls.length):Ju a ⟨a.tr,ls.map a.ok,rows⟩:=by
 obtain⟨h1,h2⟩:=Mn (m:=⟨a.tr,ls.map a.ok,rows⟩) W hc rfl (H.made W hc hn hl);exact⟨h1,h2,rfl⟩
end
end
end Go.Proofs.YtildagdnomiahaaGreatDoor
