/-
  Closed by a track, plainly.
-/
import Derived.Test.YtildagdnomiahaaGreatDoorQkCl
set_option linter.unusedSectionVars false
set_option linter.unusedSimpArgs false
set_option linter.unusedVariables false
namespace Go.Proofs.YtildagdnomiahaaGreatDoor
open Go Go.RowKit
section
variable {a:Au} {k s:Nat} {l:List Bool}

inductive aS(a:Au)(k:Nat):Nat→Prop
 |acc {s:Nat} (h:a.ok s=true):aS a k s
 |low {s:Nat} (h:aS a k (a.go s 0)):aS a k s
 |high {s:Nat} (h:aS a k (a.go s (2^k))):aS a k s
def W5(l:List Bool)(s:Nat):Bool:=(l[s]?).getD false
structure Aj(a:Au)(k:Nat)(l:List Bool):Prop where
 len:l.length=a.n
 iff: ∀s,s<a.n→(W5 l s=true↔aS a k s)
theorem Aj.uniq{l':List Bool}(h:Aj a k l)(h':Aj a k l'):l=l':=by
 apply List.ext_getElem?;intro s
 by_cases hs:s<a.n
 ·have e:W5 l s=W5 l' s:=by
   rw[Bool.eq_iff_iff,h.iff s hs,h'.iff s hs]
  unfold W5 at e;rw[List.getElem?_eq_getElem (by rw[h.len];exact hs),List.getElem?_eq_getElem (by rw[h'.len];exact hs)]at e ⊢;exact congrArg some e
 ·rw[List.getElem?_eq_none (by rw[h.len];omega),List.getElem?_eq_none (by rw[h'.len];omega)]
theorem U6{c:Nat}{r:List Int}{z:Int}(h1:a.nx[s]? =some r)(h2:r[c]? =some z):a.go s c=z.toNat:=by
 unfold Au.go;rw[h1,Option.getD_some,h2,Option.getD_some]
def Z7(l:List Bool):Nat:=l.countP fun b=> !b
theorem Lq: ∀{l:List Bool} {j:Nat},l[j]? =some false→Z7 (l.set j true)+1=Z7 l
 |[],j,h=>by simp at h
 |b::l,0,h=>by
  injection h with h
  subst h;rw[List.set_cons_zero,Z7,Z7,List.countP_cons,List.countP_cons];simp
 |b::l,j+1,h=>by
  have:=Lq (l:=l) (j:=j) h;rw[List.set_cons_succ,Z7,Z7,List.countP_cons,List.countP_cons];rw[Z7,Z7]at this;omega
theorem IV{j:Nat}{b:Bool}(hj:j<l.length):W5 (l.set j b) s=if s=j then b else W5 l s:=by
 unfold W5;rw[List.getElem?_set]
 by_cases h:j=s
 ·subst h;rw[if_pos rfl,if_pos hj,if_pos rfl];rfl
 ·rw[if_neg h,if_neg fun e=>h e.symm]
theorem Z9{b:Bool}(h:l[s]? =some b):W5 l s=b:=by unfold W5;rw[h];rfl
structure HE(a:Au)(k:Nat)(l:List Bool):Prop where
 len:l.length=a.n
 sound: ∀s,s<a.n→W5 l s=true→aS a k s
 ext: ∀s,s<a.n→a.ok s=true→W5 l s=true
theorem HE.start(a:Au)(k:Nat):HE a k a.acc:=⟨rfl,fun s _ h=>.acc h,fun s _ h=>h⟩
theorem HE.set{a:Au}{k s:Nat}{l:List Bool}(h:HE a k l)(hs:s<a.n)(h0:a.go s 0<a.n)(h1:a.go s (2^k)<a.n)(hb:W5 l (a.go s 0)=true∨W5 l (a.go s (2^k))=true):HE a k (l.set s true):=by
 have hl:s<l.length:=by rw[h.len];exact hs
 refine⟨by rw[List.length_set];exact h.len,fun t ht e=>?_,fun t ht e=>?_⟩
 ·rw[IV hl]at e
  by_cases hts:t=s
  ·subst hts;rcases hb with hb|hb
   ·exact .low (h.sound _ h0 hb)
   ·exact .high (h.sound _ h1 hb)
  ·rw[if_neg hts]at e;exact h.sound t ht e
 ·rw[IV hl]
  split
  ·rfl
  ·exact h.ext t ht e
def Rl(a:Au)(k:Nat)(l:List Bool)(s:Nat):Prop:=W5 l (a.go s 0)=true∨W5 l (a.go s (2^k))=true→W5 l s=true
theorem HE.done(h:HE a k l)(W:ZX a)(hk:2^k<a.K)(hc: ∀s,s<a.n→Rl a k l s):Aj a k l:=by
 refine⟨h.len,fun s hs=>⟨h.sound s hs,fun hp=>?_⟩⟩;have hK:0<a.K:=Nat.two_pow_pos _
 induction hp with
 |acc e=>exact h.ext _ hs e
 |low _ ih=>exact hc _ hs (.inl (ih (W.UN hs hK)))
 |high _ ih=>exact hc _ hs (.inr (ih (W.UN hs hk)))
structure SE(a:Au)(k:Nat)(l0 l:List Bool)(more:Bool)(s:Nat):Prop where
 inv:HE a k l
 le:Z7 l≤Z7 l0
 yes:more=true→Z7 l<Z7 l0
 no:more=false→l=l0∧ ∀t,t<s→Rl a k l t
theorem SE.start(h:HE a k l):SE a k l l false 0:=⟨h,Nat.le_refl _,fun e=>(by cases e),fun _=>⟨rfl,fun t ht=>absurd ht (Nat.not_lt_zero t)⟩⟩
theorem SE.keep{l0:List Bool}{more:Bool}(h:SE a k l0 l more s)(hc:Rl a k l s):SE a k l0 l more (s+1):=
 ⟨h.inv,h.le,h.yes,fun e=>⟨(h.no e).1,fun t ht=>by
  rcases Nat.lt_succ_iff_lt_or_eq.1 ht with h1|rfl
  ·exact(h.no e).2 t h1
  ·exact hc⟩⟩
theorem SE.set{a:Au}{k s:Nat}{l0 l:List Bool}{more:Bool}(h:SE a k l0 l more s)(hs:s<a.n)(h0:a.go s 0<a.n)(h1:a.go s (2^k)<a.n)(hf:l[s]? =some false)(hb:W5 l (a.go s 0)=true∨W5 l (a.go s (2^k))=true):SE a k l0 (l.set s true) true (s+1):=by
 have:=Lq hf;have:=h.le;exact⟨h.inv.set hs h0 h1 hb,by omega,fun _=>by omega,fun e=>(by cases e)⟩
def O3(l:List Bool)(more:Bool):Nat:=2 *Z7 l+(if more then 1 else 0)
theorem SE.k8{l0:List Bool}{more:Bool}(h:SE a k l0 l more s):O3 l more<O3 l0 true:=by
 unfold O3;rw[if_pos rfl]
 cases more with
 |true=>have:=h.yes rfl;rw[if_pos rfl];omega
 |false=>have:=h.le;rw[if_neg QA];omega
end
section

theorem Gu(n:Nat):((2^n:Nat):Int)=(2:Int)^n:=by rw[Int.natCast_pow];rfl
theorem Cc{n:Nat}(h:n≤62):2^n≤4611686018427387904:=Nat.le_trans (Nat.pow_le_pow_right QA h) QA
theorem ZB{P:Program}{G:Env}{K:List (Nat×AV)}{st:St}{t yt:TypeId}{x y:Operand}{k:IntKind}{n:Nat}(hx:QE G K x=some (.int .i64 1))(hy:QE G K y=some (.int k ((n:Nat):Int)))(h:n≤62):Uk P G K (.binOp .shl t x y yt) st (.int .i64 (2^n:Nat)) st:=
 U5 hx hy (by
  have hp:((2^n:Nat):Int)≤4611686018427387904:=Int.ofNat_le.2 (Cc h);have hp0:(0:Int)≤((2^n:Nat):Int):=Int.natCast_nonneg _;show Qj (LX ((n:Nat):Int) 0) none (Xl (Xe .i64 (1 *2^(min ((n:Nat):Int).toNat 64))) fun z=>some (AV.int .i64 z))=_
  rw[Y0,decide_eq_false Qe,UE,JX,Int.toNat_natCast,Nat.min_eq_left Qe,Int.one_mul,←Gu,wrap64 (Int.le_trans QA hp0) (Int.le_trans hp QA)];rfl)
end
section
variable {a b:Nat}

section
variable {P:Program} {G:Env} {K:List (Nat×AV)} {st:St} {t yt:TypeId} {x y:Operand}
theorem GZ(ha:a≤9223372036854775807):(BitVec.ofInt 64 ((a:Nat):Int)).toNat=a:=by
 rw[BitVec.ofInt_natCast,BitVec.toNat_ofNat];exact Nat.mod_eq_of_lt Qe
theorem RG(hx:QE G K x=some (.int .i64 (a:Nat)))(hy:QE G K y=some (.int .i64 (b:Nat)))(ha:a≤9223372036854775807)(hb:b≤9223372036854775807):Uk P G K (.binOp .and t x y yt) st (.int .i64 (a&&&b:Nat)) st:=
 U5 hx hy (by
  rw[XL QA QA];show Xl (IntKind.i64.wrap (((BitVec.ofInt 64 ((a:Nat):Int)&&&BitVec.ofInt 64 ((b:Nat):Int)).toNat:Nat):Int)) (fun z=>some (AV.int .i64 z))=_;have h:a&&&b≤a:=Nat.and_le_left
  rw[BitVec.toNat_and,GZ ha,GZ hb,UE,wrap64 Qe Qe])
theorem Gy(hx:QE G K x=some (.int .i64 (a:Nat)))(hy:QE G K y=some (.int .i64 1))(ha:a≤9223372036854775807):Uk P G K (.binOp .and t x y yt) st (.int .i64 (a % 2:Nat)) st:=by
 have:=RG (P:=P) (st:=st) (t:=t) (yt:=yt) (b:=1) hx hy ha QA;rw[Nat.and_one_is_mod]at this;exact this
theorem zX(ha:a≤9223372036854775807)(hb:b≤9223372036854775807):a|||b≤9223372036854775807:=by
 have:=Nat.or_lt_two_pow (n:=63) (show a<2^63 by omega) (show b<2^63 by omega);omega
theorem wV(hx:QE G K x=some (.int .i64 (a:Nat)))(hy:QE G K y=some (.int .i64 (b:Nat)))(ha:a≤9223372036854775807)(hb:b≤9223372036854775807):Uk P G K (.binOp .or t x y yt) st (.int .i64 (a|||b:Nat)) st:=
 U5 hx hy (by
  rw[XL QA QA];show Xl (IntKind.i64.wrap (((BitVec.ofInt 64 ((a:Nat):Int)|||BitVec.ofInt 64 ((b:Nat):Int)).toNat:Nat):Int)) (fun z=>some (AV.int .i64 z))=_;have h:=zX ha hb
  rw[BitVec.toNat_or,GZ ha,GZ hb,UE,wrap64 Qe Qe])
theorem Gw{k:IntKind}{n:Nat}(hx:QE G K x=some (.int .i64 (a:Nat)))(hy:QE G K y=some (.int k ((n:Nat):Int)))(hn:n≤62):Uk P G K (.binOp .shr t x y yt) st (.int .i64 (a/2^n:Nat)) st:=
 U5 hx hy (by
  show Qj (LX ((n:Nat):Int) 0) none (Xl (((a:Nat):Int).fdiv (2^(min ((n:Nat):Int).toNat 64))) fun z=>some (AV.int .i64 z))=_
  rw[Y0,decide_eq_false Qe,UE,Int.toNat_natCast,Nat.min_eq_left Qe,←Gu,←Int.ofNat_fdiv];rfl)
theorem zM{k:IntKind}{n:Nat}(hx:QE G K x=some (.int .i64 (a:Nat)))(hy:QE G K y=some (.int k ((n:Nat):Int)))(hn:n≤62)(hb:a *2^n≤9223372036854775807):Uk P G K (.binOp .shl t x y yt) st (.int .i64 (a *2^n:Nat)) st:=
 U5 hx hy (by
  show Qj (LX ((n:Nat):Int) 0) none (Xl (Xe .i64 (((a:Nat):Int) *2^(min ((n:Nat):Int).toNat 64))) fun z=>some (AV.int .i64 z))=_
  rw[Y0,decide_eq_false Qe,UE,JX,Int.toNat_natCast,Nat.min_eq_left Qe,←Gu,←Int.natCast_mul,wrap64 Qe Qe];rfl)
theorem Sx(c t:Nat):(((c/2^t % 2:Nat):Int)=1)↔c.testBit t=true:=by
 rw[Nat.testBit_eq_decide_div_mod_eq,decide_eq_true_eq];omega
end
end
section
variable {a:Au} {c k n:Nat} {q:List Int}

def W2(k c u:Nat):Nat:=c % 2^k+u *2^k+c/2^k *2^(k+1)
theorem GA(k c:Nat):c % 2^k<2^k:=Nat.mod_lt _ (Nat.two_pow_pos k)
theorem jc{a q:Nat}(h:a<2^k):a|||q *2^k=a+q *2^k:=by
 have:=Nat.two_pow_add_eq_or_of_lt h q;rw[Nat.or_comm,Nat.mul_comm q,←this,Nat.add_comm]
theorem RA(k c:Nat):c % 2^k|||c/2^k *2^(k+1)=W2 k c 0:=by
 have h1:=GA k c;have h2:2^k≤2^(k+1):=Nat.pow_le_pow_right QA Qe;rw[jc Qe,W2,Nat.zero_mul,Nat.add_zero (c % 2^k)]
theorem zD(k c:Nat):W2 k c 0|||2^k=W2 k c 1:=by
 have h1:=GA k c
 have h2:2^(k+1)=2 *2^k:=by rw[Nat.pow_succ,Nat.mul_comm]
 have e:=jc (k:=k) (q:=1) h1;rw[Nat.one_mul]at e;rw[←RA,Nat.or_assoc,Nat.or_comm (c/2^k *2^(k+1)),←Nat.or_assoc,e,jc Qe,W2,Nat.one_mul]
theorem Po{T u:Nat}(hk:k<T)(hc:c<2^(T-1))(hu:u≤1):W2 k c u<2^T:=by
 have h1:=GA k c;have h3:u *2^k≤1 *2^k:=Nat.mul_le_mul_right _ hu
 have h4:c/2^k<2^(T-1-k):=by
  rw[Nat.div_lt_iff_lt_mul (Nat.two_pow_pos k),←Nat.pow_add,show T-1-k+k=T-1 by omega];exact hc
 have h5:(c/2^k+1) *2^(k+1)≤2^(T-1-k) *2^(k+1):=Nat.mul_le_mul_right _ h4;rw[←Nat.pow_add,show T-1-k+(k+1)=T by omega,Nat.succ_mul]at h5
 have h2:2^(k+1)=2 *2^k:=by rw[Nat.pow_succ,Nat.mul_comm]
 unfold W2;omega
section
variable {P:Program} {G:Env} {K:List (Nat×AV)} {st:St} {t yt:TypeId} {x y:Operand}
theorem zS(hx:QE G K x=some (.int .i64 (c:Nat)))(hy:QE G K y=some (.int .i64 (((2^k:Nat):Int)-1)))(hc:c≤9223372036854775807)(hk:k≤62):Uk P G K (.binOp .and t x y yt) st (.int .i64 (c % 2^k:Nat)) st:=by
 have hp:2^k≤2^62:=Nat.pow_le_pow_right QA hk;have h0:=Nat.two_pow_pos k;have:=RG (P:=P) (st:=st) (t:=t) (yt:=yt) (a:=c) (b:=2^k-1) hx (by rw[hy];congr 2;omega) hc Qe
 rwa [Nat.and_two_pow_sub_one_eq_mod]at this
theorem ea{kk:IntKind}(hx:QE G K x=some (.int .i64 (((c:Nat):Int)-((c % 2^k:Nat):Int))))(hy:QE G K y=some (.int kk 1))(hc:c *2≤9223372036854775807):Uk P G K (.binOp .shl t x y yt) st (.int .i64 (c/2^k *2^(k+1):Nat)) st:=by
 have h1:=Nat.div_add_mod c (2^k)
 have h2:c/2^k *2^(k+1)=(2^k *(c/2^k)) *2^1:=by rw[Nat.pow_succ,Nat.pow_one,←Nat.mul_assoc,Nat.mul_comm (c/2^k)]
 rw[h2];exact zM (n:=1) (by rw[hx];congr 2;omega) hy QA Qe
end
def Ft(a:Au)(k c:Nat)(q:List Int):List Int:=q.flatMap fun z=>[((a.go z.toNat (W2 k c 0):Nat):Int),((a.go z.toNat (W2 k c 1):Nat):Int)]
theorem NZ(a:Au)(k c:Nat)(q:List Int):(Ft a k c q).length=2 *q.length:=by
 induction q with
 |nil=>rfl
 |cons z q ih=>unfold Ft at ih ⊢;rw[List.flatMap_cons,List.length_append,ih,List.length_cons];simp;omega
theorem Pw{i:Nat}{z:Int}(h:q[i]? =some z):Ft a k c (q.take (i+1))=Ft a k c (q.take i)++[((a.go z.toNat (W2 k c 0):Nat):Int),((a.go z.toNat (W2 k c 1):Nat):Int)]:=by
 unfold Ft;rw[List.take_add_one,h,List.flatMap_append];rfl
theorem TB{x:Int}:x∈Ft a k c q↔ ∃z∈q,∃u,u≤1∧x=((a.go z.toNat (W2 k c u):Nat):Int):=by
 unfold Ft;rw[List.mem_flatMap];constructor
 ·rintro⟨z,hz,h⟩
  simp only[List.mem_cons,List.not_mem_nil,or_false]at h;rcases h with h|h
  ·exact⟨z,hz,0,by decide,h⟩
  ·exact⟨z,hz,1,by decide,h⟩
 ·rintro⟨z,hz,u,hu,h⟩
  refine⟨z,hz,?_⟩
  have:u=0∨u=1:=by omega
  rcases this with rfl|rfl<;>simp[h]
def UB(a:Au)(k:Nat)(q:List Int)(c:Nat):List Int:=JM (Ft a k c q)
def HA(n:Nat)(q:List Int):Prop:=Vi q∧ ∀z∈q,0≤z∧z<((n:Nat):Int)
theorem SV(h:Vi q):JM q=q:=BW (Xm q) h fun x=>XZ q x
theorem BV: ∀{q:List Int} {lo hi:Int},Vi q→(∀z∈q,lo≤z∧z<hi)→lo≤hi→(q.length:Int)≤hi-lo
 |[],lo,hi,_,_,h=>by simp;omega
 |x::q,lo,hi,h,hb,hl=>by
  obtain⟨h1,h2⟩:=List.pairwise_cons.1 h;have hx:=hb x Q0;have:=BV (lo:=x+1) (hi:=hi) h2 (fun z hz=>⟨by have:=h1 z hz;omega,(hb z (by simp[hz])).2⟩) Qe;rw[List.length_cons];omega
theorem HA.len(h:HA n q):q.length≤n:=by
 have:=BV h.1 h.2 Qe;omega
theorem HA.PB(h:HA n q)(hn:n≤400):FU q:=fun z hz=>by
 have:=h.2 z hz
 constructor<;>omega
theorem HA.zero(h:1≤n):HA n [0]:=⟨List.pairwise_singleton _ _,fun z hz=>by rw[List.mem_singleton.1 hz];omega⟩
theorem HA.step(W:ZX a)(hk:k<a.tr)(hc:c<2^(a.tr-1))(h:HA a.n q):HA a.n (UB a k q c):=by
 refine⟨Xm _,fun z hz=>?_⟩;obtain⟨y,hy,u,hu,rfl⟩:=TB.1 ((XZ _ z).1 hz);have:=h.2 y hy;have:=W.UN (s:=y.toNat) (c:=W2 k c u) Qe (Po hk hc hu);omega
def anyS(acc:List Bool)(s:List Int):Bool:=s.any fun z=>W5 acc z.toNat
theorem NW{L:List (List Int)}(h:Vi q):(Tx L q<L.length∧EK L q=L∧L[Tx L q]? =some q)∨(Tx L q=L.length∧EK L q=L++[q]∧q∉L):=by
 unfold Tx EK;rw[SV h]
 cases hn:Xb 0 L q with
 |some i=>
  have h1:=(NY hn).2;rw[Nat.sub_zero]at h1;exact .inl ⟨(List.getElem?_eq_some_iff.1 h1).1,rfl,h1⟩
 |none=>exact .inr ⟨rfl,rfl,Hn hn⟩
structure Vt{α:Type}(δ:α→Nat→α)(s0:α)(K:Nat)(L:List α)(rows:List (List Int))(row:List Int):Prop where
 ex: ∃es,AO δ s0 K L es∧rows.flatten++row=es.map fun v=>((v:Nat):Int)
 len: ∀r∈rows,r.length=K
 less:row.length≤K
section
variable {α:Type} {δ:α→Nat→α} {s0:α} {K:Nat} {L:List α} {rows:List (List Int)} {row:List Int}
theorem Vt.start(δ:α→Nat→α)(s0:α)(K:Nat):Vt δ s0 K [s0] [] []:=⟨⟨[],AO.start δ s0 K,rfl⟩,fun r h=>(by cases h),Nat.zero_le _⟩
theorem Vt.at_(H:Vt δ s0 K L rows row)(hr:row.length<K){es:List Nat}(e:rows.flatten++row=es.map fun v=>((v:Nat):Int)):es.length/K=rows.length∧es.length % K=row.length:=by
 have h1:=congrArg List.length e;rw[List.length_append,Oo H.len,List.length_map]at h1;rw[←h1,Nat.mul_comm];exact⟨by rw[Nat.mul_add_div Qe,Nat.div_eq_of_lt hr];rfl,by rw[Nat.mul_add_mod];exact Nat.mod_eq_of_lt hr⟩
theorem Vt.Jx(H:Vt δ s0 K L rows row)(hr:row.length<K){s:α}(hs:L[rows.length]? =some s){j:Nat}(hj:L[j]? =some (δ s row.length)):Vt δ s0 K L rows (row++[((j:Nat):Int)]):=by
 obtain⟨es,E,e⟩:=H.ex;obtain⟨h1,h2⟩:=H.at_ hr e;exact⟨⟨es++[j],E.Jx (by rw[h1];exact hs) (by rw[h2];exact hj),by rw[←List.append_assoc,e,List.map_append];rfl⟩,H.len,by rw[List.length_append];simp;omega⟩
theorem Vt.new(H:Vt δ s0 K L rows row)(hr:row.length<K){s:α}(hs:L[rows.length]? =some s)(hn:δ s row.length∉L):Vt δ s0 K (L++[δ s row.length]) rows (row++[((L.length:Nat):Int)]):=by
 obtain⟨es,E,e⟩:=H.ex;obtain⟨h1,h2⟩:=H.at_ hr e;have:=E.new (by rw[h1];exact hs) (by rw[h2];exact hn);rw[h2]at this;exact⟨⟨es++[L.length],this,by rw[←List.append_assoc,e,List.map_append];rfl⟩,H.len,by rw[List.length_append];simp;omega⟩
theorem Vt.whole(H:Vt δ s0 K L rows row)(hr:row.length=K):Vt δ s0 K L (rows++[row]) []:=by
 obtain⟨es,E,e⟩:=H.ex;refine⟨⟨es,E,by simpa using e⟩,fun r h=>?_,Nat.zero_le _⟩;rcases List.mem_append.1 h with h|h
 ·exact H.len r h
 ·rw[List.mem_singleton.1 h];exact hr
theorem Vt.made{p:α→Bool}{m:Au}(H:Vt δ s0 m.K L m.nx [])(hl:m.nx.length=L.length)(ha:m.acc=L.map p)(ht:m.tr≤6)(hm:L.length≤400):Uu δ s0 p L m:=by
 obtain⟨es,E,e⟩:=H.ex;rw[List.append_nil]at e;exact⟨⟨es,E,⟨H.len,e⟩⟩,hl,ha,ht,hm⟩
theorem Vt.nodup(H:Vt δ s0 K L rows row):L.Nodup:=by obtain⟨es,E,e⟩:=H.ex;exact E.nodup
theorem Vt.bound(H:Vt δ s0 K L rows row): ∀z∈rows.flatten++row,0≤z∧z<((L.length:Nat):Int):=by
 obtain⟨es,E,e⟩:=H.ex;intro z hz;rw[e]at hz;obtain⟨v,hv,rfl⟩:=List.mem_map.1 hz;obtain⟨i,hi⟩:=List.getElem?_of_mem hv;have:=E.lt hi;omega
theorem Vt.all(H:Vt δ s0 K L rows row){Q:α→Prop}(h0:Q s0)(hs: ∀s c,Q s→c<K→Q (δ s c))(hK:0<K){s:α}(h:s∈L):Q s:=by
 obtain⟨es,E,e⟩:=H.ex;obtain⟨i,hi⟩:=List.getElem?_of_mem h;exact E.all h0 (fun s c hq hc=>hs s c hq (hc hK)) i s hi
end
theorem Vt.id{K:Nat}{L:List (List Int)}{rows:List (List Int)}{row:List Int}(H:Vt (UB a k) [0] K L rows row)(hr:row.length<K)(hs:L[rows.length]? =some q):Vt (UB a k) [0] K (EK L (UB a k q row.length)) rows (row++[((Tx L (UB a k q row.length):Nat):Int)]):=by
 rcases NW (L:=L) (q:=UB a k q row.length) (Xm _)with⟨h1,h2,h3⟩|⟨h1,h2,h3⟩
 ·rw[h2];exact H.Jx hr hs h3
 ·rw[h1,h2];exact H.new hr hs h3
end
section

def Tk(k c:Nat):Prop:=c=0∨c=2^k
end
section

def RZ(a b:Au)(p:Nat×Nat)(c:Nat):Nat×Nat:=(a.go p.1 c,b.go p.2 c)
def w8(t:Nat)(x y:Bool):Bool:=t/2^((if x then 2 else 0)+(if y then 1 else 0)) % 2==1
def xc(a b:Au)(t:Nat)(p:Nat×Nat):Bool:=w8 t (a.ok p.1) (b.ok p.2)
theorem vR(a b:Au): ∀(w:List Nat) (p:Nat×Nat),w.foldl (RZ a b) p=(a.run p.1 w,b.run p.2 w)
 |[],p=>rfl
 |c::w,p=>by rw[List.foldl_cons,vR a b w];rfl
abbrev OF(a b:Au)(t:Nat)(l:List (Nat×Nat))(m:Au):Prop:=Uu (RZ a b) (0,0) (xc a b t) l m∧m.tr=a.tr
theorem OF.P3{a b m:Au}{t:Nat}{l:List (Nat×Nat)}(H:OF a b t l m){w:List Nat}(hw:HD a.K w):m.ok (m.run 0 w)=w8 t (a.ok (a.run 0 w)) (b.ok (b.run 0 w)):=by
 rw[H.1.P3 (by unfold Au.K at hw ⊢;rw[H.2];exact hw),vR];rfl
section
variable {a b m:Au} {t k:Nat} {l:List (Nat×Nat)} {w:List Nat}
end
end
section

def xf:AV→Bool
 |.sl _ _ _ _ _=>false
 |_=>true
theorem Kx{ks:AV}{n:Nat}(h:JZ ks=some n):Qw ks=true:=by
 cases ks<;>first|rfl|cases h
abbrev EM:=Nat→Nat→List AV→Prop
abbrev yM:=List (Nat×Nat×List AV)
def Xx(R:EM)(h:Hp):Prop:= ∀c m l,R c m l→Y2 h c m l
def qK(R:EM)(A:yM):EM:=fun c m l=>R c m l∨(c,m,l)∈A
theorem RC{R:EM}{A:yM}{c m:Nat}{l:List AV}(h:R c m l):qK R A c m l:=.inl h
theorem Mem.Xx{h0:Hp}{n0:Nat}{st:St}{M:yM}(h:Mem h0 n0 [] st M){R:EM}(hR:Proofs.YtildagdnomiahaaGreatDoor.Xx R h0):Proofs.YtildagdnomiahaaGreatDoor.Xx R st.h.get:=fun c m l hr=>h.QX Q0 (hR c m l hr)
end
section
variable {a b c n:Int} {cs:List AV} {i:Nat} {o:List Nat}

inductive Cr where
 |mk (op:List Nat) (a b c n:Int) (kids:List Cr)
def Cr.op:Cr→List Nat
 |.mk o _ _ _ _ _=>o
def Cr.kids:Cr→List Cr
 |.mk _ _ _ _ _ l=>l
inductive Xd(R:EM):Cr→List AV→Prop
 |leaf {o:List Nat} {a b c n:Int} {ks:AV} (hs:JZ ks=some 0) (ha:xf ks=true):Xd R (.mk o a b c n []) [.str o,.int .i64 a,.int .i64 b,.int .i64 c,.int .i64 n,ks]
 |node {o:List Nat} {a b c n:Int} {kids:List Cr} {x m off:Nat} {cells:List AV} (hr:R x m cells) (hn:(kids.length:Int)≤9223372036854775807) (hl:off+kids.length *6≤cells.length)
  (hk: ∀(i:Nat) (k:Cr),kids[i]? =some k→Xd R k ((cells.drop (off+i *6)).take 6)):Xd R (.mk o a b c n kids) [.str o,.int .i64 a,.int .i64 b,.int .i64 c,.int .i64 n,.sl x m off kids.length 6]
theorem Xd.mono{R R':EM}(hl: ∀c m l,R c m l→R' c m l){t:Cr}(r:Xd R t cs):Xd R' t cs:=by
 induction r with
 |leaf hs ha=>exact .leaf hs ha
 |node hr hn hl' hk ih=>exact .node (hl _ _ _ hr) hn hl' ih
inductive Yp(R:EM):List Cr→AV→List (List AV)→Prop
 |none {kk:AV} (hs:JZ kk=some 0) (ha:xf kk=true):Yp R [] kk []
 |row {kids:List Cr} {ls:List (List AV)} {c m off:Nat} {cells:List AV} (hr:R c m cells) (hn:(kids.length:Int)≤9223372036854775807) (hl:off+kids.length *6≤cells.length) (hls:ls.length=kids.length)
  (hcs: ∀(i:Nat) (cs:List AV),ls[i]? =some cs→cs=(cells.drop (off+i *6)).take 6) (hk: ∀(i:Nat) (k:Cr) (cs:List AV),kids[i]? =some k→ls[i]? =some cs→Xd R k cs):Yp R kids (.sl c m off kids.length 6) ls
section
variable {R:EM} {kids:List Cr} {kk:AV} {ls:List (List AV)}
theorem Yp.ln(K:Yp R kids kk ls):ls.length=kids.length:=by
 cases K with
 |none=>rfl
 |row _ _ _ h=>exact h
theorem Yp.len(K:Yp R kids kk ls):JZ kk=some kids.length:=by
 cases K with
 |none hs ha=>exact hs
 |row=>rfl
theorem Yp.cell(K:Yp R kids kk ls):Qw kk=true:=Kx K.len
theorem Yp.FP(K:Yp R kids kk ls):(kids.length:Int)≤9223372036854775807:=by
 cases K with
 |none=>simp
 |row _ h=>exact h
theorem Yp.get(K:Yp R kids kk ls){k:Cr}(hi:kids[i]? =some k): ∃cs,ls[i]? =some cs∧Xd R k cs:=by
 have hlt:i<ls.length:=by rw[K.ln];exact(List.getElem?_eq_some_iff.1 hi).1
 refine⟨_,List.getElem?_eq_getElem hlt,?_⟩
 cases K with
 |none=>simp at hi
 |row _ _ _ _ _ hk=>exact hk i k _ hi (List.getElem?_eq_getElem hlt)
theorem Yp.r(K:Yp R kids kk ls){h:Hp}(hi:Xx R h):Jb h [] 6 ls kk:=by
 cases K with
 |none hs ha=>exact⟨hs,by simp,Kx hs,fun i cs hi=>by simp at hi,fun c m off n z e=>by subst e;cases ha⟩
 |row hr hn hl hls hcs hk=>
  rename_i c m off cells;refine⟨by rw[hls];rfl,by rw[hls];exact hn,rfl,fun i cs he=>?_,fun c' m' off' n' z e=>?_⟩
  ·have hlt:=(List.getElem?_eq_some_iff.1 he).1;have:=hcs i cs he;refine⟨c,m,off,cells,by rw[hls],by simp,hi _ _ _ hr,?_,this.symm⟩;rw[this,List.length_take,List.length_drop];omega
  ·injection e with e1 e2 e3 e4 e5
   subst e1 e2 e3 e4 e5;exact⟨by simp,cells,hi _ _ _ hr,hl⟩
end
theorem Xd.ie{R:EM}{k:Cr}(r:Xd R k cs):cs.length=6:=by cases r<;>rfl
theorem Xd.Xg{R:EM}{kids:List Cr}(r:Xd R (.mk o a b c n kids) cs):
  ∃kk ls,cs=[.str o,.int .i64 a,.int .i64 b,.int .i64 c,.int .i64 n,kk]∧Yp R kids kk ls:=by
 cases r with
 |leaf hs ha=>exact⟨_,[],rfl,.none hs ha⟩
 |node hr hn hl hk=>
  rename_i x m off cells
  have hlen:((List.range kids.length).map fun i=>(cells.drop (off+i *6)).take 6).length=kids.length:=by simp
  have hat: ∀(i:Nat) (cs:List AV),((List.range kids.length).map fun i=>(cells.drop (off+i *6)).take 6)[i]? =some cs→i<kids.length∧cs=(cells.drop (off+i *6)).take 6:=by
   intro i cs hi;rw[List.getElem?_map]at hi
   have hlt:i<kids.length:=by
    by_cases h:i<kids.length
    ·exact h
    ·rw[List.getElem?_eq_none (by simp;omega)]at hi;cases hi
   rw[List.getElem?_range hlt]at hi
   injection hi with hi
   exact⟨hlt,hi.symm⟩
  refine⟨_,(List.range kids.length).map fun i=>(cells.drop (off+i *6)).take 6,rfl,.row hr hn hl hlen (fun i cs hi=>(hat i cs hi).2) fun i k cs h1 h2=>?_⟩;rw[(hat i cs h2).2];exact hk i k h1
theorem Xd.aV{R:EM}{k:Cr}(r:Xd R k cs): ∃o a b c n l kk ls,k=.mk o a b c n l∧cs=[.str o,.int .i64 a,.int .i64 b,.int .i64 c,.int .i64 n,kk]∧Yp R l kk ls:=by
 obtain⟨o,a,b,c,n,l⟩:=k;obtain⟨kk,ls,e,K⟩:=r.Xg;exact⟨o,a,b,c,n,l,kk,ls,rfl,e,K⟩
theorem Xd.shape{R:EM}{k:Cr}{kk:AV}(r:Xd R k [.str o,.int .i64 a,.int .i64 b,.int .i64 c,.int .i64 n,kk]): ∃l ls,k=.mk o a b c n l∧Yp R l kk ls:=by
 obtain⟨o1,a1,b1,c1,n1,l,kk',ls,e1,e,K⟩:=r.aV
 injection e with x1 e;injection e with x2 e;injection e with x3 e;injection e with x4 e;injection e with x5 e;injection e with x6 e
 injection x1 with x1;injection x2 with _ x2;injection x3 with _ x3;injection x4 with _ x4;injection x5 with _ x5
 subst x1 x2 x3 x4 x5 x6;exact⟨l,ls,e1,K⟩
theorem jC{R:EM}:Xd R (.mk o a b c n []) [.str o,.int .i64 a,.int .i64 b,.int .i64 c,.int .i64 n,.nils]:=.leaf rfl rfl
mutual
def Wc:Cr→Nat
 |.mk _ _ _ _ _ l=>Xa l+1
def Xa:List Cr→Nat
 |[]=>0
 |k::l=>Wc k+Xa l
end
theorem zw(k:Cr):1≤Wc k:=by cases k;rw[Wc];omega
theorem qh{k:Cr}{l:List Cr}(h:k∈l):Wc k≤Xa l:=by
 induction l with
 |nil=>cases h
 |cons x l ih=>
  rw[Xa];rcases List.mem_cons.1 h with rfl|h
  ·omega
  ·have:=ih h;omega
theorem SR{l:List Cr}{k:Cr}(h:l[i]? =some k):Xa (l.drop i)=Wc k+Xa (l.drop (i+1)):=by
 obtain⟨h1,h2⟩:=List.getElem?_eq_some_iff.1 h;rw[List.drop_eq_getElem_cons h1,Xa,h2]
theorem GQ{M:Cr→Prop}(h: ∀o a b g n kids,(∀k,k∈kids→M k)→M (.mk o a b g n kids))(k:Cr):M k:=by
 have: ∀n k,Wc k≤n→M k:=by
  intro n
  induction n with
  |zero=>intro k hk;cases k;rw[Wc]at hk;omega
  |succ n ih=>
   intro k hk
   cases k with
   |mk o a b g z kids=>
    rw[Wc]at hk;exact h _ _ _ _ _ _ fun k hm=>ih k (by have:=qh hm;omega)
 exact this _ k (Nat.le_refl _)
theorem uO{l:List Cr}{k:Cr}(h:l[i]? =some k):k∈l:=List.mem_of_getElem? h
theorem H5{l:List Cr}(h:l.length≤i):l.drop i=[]:=List.drop_eq_nil_of_le h
def Z5(o:List Nat):List Nat×Int×Bool:=
 if [116,114,117,101]=o then([],0,true)else if [115,117,98]=o then([65,66],0,true)else if [115,105,110,103]=o then([65],0,true)else if [102,108,97,103]=o then([65],0,true)
 else if [110,111,110,101]=o then([65],0,true)else if [108,101,115,115]=o then([65,66],0,true)else if [112,108,117,115]=o then([65,66,78],0,true)else if [110,117,109]=o then([65,78],0,true)
 else if [117,110,105,111,110]=o then([65,66,67],0,true)else if [105,110,116,101,114]=o then([65,66,67],0,true)else if [109,105,110,117,115]=o then([65,66,67],0,true)
 else if [110,111,116]=o then([],1,true)else if [97,110,100]=o then([],2,true)else if [101,120]=o then([65],1,true)else([],0,false)
def UX(h:List Nat)(k:Nat)(v n:Int):Bool:=if k∈h then decide (0≤v)&&decide (v<n)else decide (v=0)
mutual
def J0 : Cr → Int → Bool
  | .mk o a b g n l, m => (Z5 o).2.2 && (decide (((l.length : Nat) : Int) = (Z5 o).2.1) && (UX (Z5 o).1 78 n 21 && (if o = [101, 120] then decide (a = m) && (decide (m < 6) && (decide (b = 0) && (decide (g = 0) && FK l (m + 1))))
    else UX (Z5 o).1 65 a m && (UX (Z5 o).1 66 b m && (UX (Z5 o).1 67 g m && FK l m)))))
def FK : List Cr → Int → Bool
  | [], _ => true
  | k :: l, m => J0 k m && FK l m
end
theorem Oz{l:List Cr}{m:Int}(h:FK l m=true){k:Cr}(hk:k∈l):J0 k m=true:=by
 induction l with
 |nil=>cases hk
 |cons x l ih=>
  rw[FK,Bool.and_eq_true]at h;rcases List.mem_cons.1 hk with rfl|hk
  ·exact h.1
  ·exact ih h.2 hk
end
end Go.Proofs.YtildagdnomiahaaGreatDoor
