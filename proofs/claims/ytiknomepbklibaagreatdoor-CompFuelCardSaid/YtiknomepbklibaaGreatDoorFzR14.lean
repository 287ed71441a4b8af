/-
  Closed by a track, plainly.
-/
import Derived.Test.YtiknomepbklibaaGreatDoorFzCl
set_option linter.unnecessarySimpa false
set_option linter.unusedSimpArgs false
set_option linter.unusedVariables false
section
namespace Go.Proofs.YtiknomepbklibaaGreatDoor
variable {a:Au} {k s:Nat} {l:List Bool}

inductive w7(a:Au)(k:Nat):Nat→Prop
 |acc {s:Nat} (h:a.ok s=true):w7 a k s
 |low {s:Nat} (h:w7 a k (a.go s 0)):w7 a k s
 |high {s:Nat} (h:w7 a k (a.go s (2^k))):w7 a k s
def I4(l:List Bool)(s:Nat):Bool:=(l[s]?).getD false
structure Az(a:Au)(k:Nat)(l:List Bool):Prop where
 len:l.length=a.n
 iff: ∀s,s<a.n→(I4 l s=true↔w7 a k s)
theorem Az.uniq{l':List Bool}(h:Az a k l)(h':Az a k l'):l=l':=by
 apply List.ext_getElem?;intro s
 by_cases hs:s<a.n
 ·have e:I4 l s=I4 l' s:=by
   rw[Bool.eq_iff_iff,h.iff s hs,h'.iff s hs]
  unfold I4 at e;rw[List.getElem?_eq_getElem (by rw[h.len];exact hs),List.getElem?_eq_getElem (by rw[h'.len];exact hs)]at e ⊢;exact congrArg some e
 ·rw[List.getElem?_eq_none (by rw[h.len];omega),List.getElem?_eq_none (by rw[h'.len];omega)]
theorem JH{c:Nat}{r:List Int}{z:Int}(h1:a.nx[s]? =some r)(h2:r[c]? =some z):a.go s c=z.toNat:=by
 unfold Au.go;rw[h1,Option.getD_some,h2,Option.getD_some]
def Xk(l:List Bool):Nat:=l.countP fun b=> !b
theorem Nr: ∀{l:List Bool} {j:Nat},l[j]? =some false→Xk (l.set j true)+1=Xk l
 |[],j,h=>by simp at h
 |b::l,0,h=>by
  injection h with h
  subst h;rw[List.set_cons_zero,Xk,Xk,List.countP_cons,List.countP_cons];simp
 |b::l,j+1,h=>by
  have:=Nr (l:=l) (j:=j) h;rw[List.set_cons_succ,Xk,Xk,List.countP_cons,List.countP_cons];rw[Xk,Xk]at this;omega
theorem SQ{j:Nat}{b:Bool}(hj:j<l.length):I4 (l.set j b) s=if s=j then b else I4 l s:=by
 unfold I4;rw[List.getElem?_set]
 by_cases h:j=s
 ·subst h;rw[if_pos rfl,if_pos hj,if_pos rfl];rfl
 ·rw[if_neg h,if_neg fun e=>h e.symm]
theorem Yj{b:Bool}(h:l[s]? =some b):I4 l s=b:=by unfold I4;rw[h];rfl
structure ID(a:Au)(k:Nat)(l:List Bool):Prop where
 len:l.length=a.n
 sound: ∀s,s<a.n→I4 l s=true→w7 a k s
 ext: ∀s,s<a.n→a.ok s=true→I4 l s=true
theorem ID.start(a:Au)(k:Nat):ID a k a.acc:=⟨rfl,fun s _ h=>.acc h,fun s _ h=>h⟩
theorem ID.set{a:Au}{k s:Nat}{l:List Bool}(h:ID a k l)(hs:s<a.n)(h0:a.go s 0<a.n)(h1:a.go s (2^k)<a.n)(hb:I4 l (a.go s 0)=true∨I4 l (a.go s (2^k))=true):ID a k (l.set s true):=by
 have hl:s<l.length:=by rw[h.len];exact hs
 refine⟨by rw[List.length_set];exact h.len,fun t ht e=>?_,fun t ht e=>?_⟩
 ·rw[SQ hl]at e
  by_cases hts:t=s
  ·subst hts;rcases hb with hb|hb
   ·exact .low (h.sound _ h0 hb)
   ·exact .high (h.sound _ h1 hb)
  ·rw[if_neg hts]at e;exact h.sound t ht e
 ·rw[SQ hl]
  split
  ·rfl
  ·exact h.ext t ht e
def NJ(a:Au)(k:Nat)(l:List Bool)(s:Nat):Prop:=I4 l (a.go s 0)=true∨I4 l (a.go s (2^k))=true→I4 l s=true
theorem ID.done(h:ID a k l)(W:Zr a)(hk:2^k<a.K)(hc: ∀s,s<a.n→NJ a k l s):Az a k l:=by
 refine⟨h.len,fun s hs=>⟨h.sound s hs,fun hp=>?_⟩⟩;have hK:0<a.K:=Nat.two_pow_pos _
 induction hp with
 |acc e=>exact h.ext _ hs e
 |low _ ih=>exact hc _ hs (.inl (ih (W.UT hs hK)))
 |high _ ih=>exact hc _ hs (.inr (ih (W.UT hs hk)))
structure BY(a:Au)(k:Nat)(l0 l:List Bool)(more:Bool)(s:Nat):Prop where
 inv:ID a k l
 le:Xk l≤Xk l0
 yes:more=true→Xk l<Xk l0
 no:more=false→l=l0∧ ∀t,t<s→NJ a k l t
theorem BY.start(h:ID a k l):BY a k l l false 0:=⟨h,Nat.le_refl _,fun e=>(by cases e),fun _=>⟨rfl,fun t ht=>absurd ht (Nat.not_lt_zero t)⟩⟩
theorem BY.keep{l0:List Bool}{more:Bool}(h:BY a k l0 l more s)(hc:NJ a k l s):BY a k l0 l more (s+1):=
 ⟨h.inv,h.le,h.yes,fun e=>⟨(h.no e).1,fun t ht=>by
  rcases Nat.lt_succ_iff_lt_or_eq.1 ht with h1|rfl
  ·exact(h.no e).2 t h1
  ·exact hc⟩⟩
theorem BY.set{a:Au}{k s:Nat}{l0 l:List Bool}{more:Bool}(h:BY a k l0 l more s)(hs:s<a.n)(h0:a.go s 0<a.n)(h1:a.go s (2^k)<a.n)(hf:l[s]? =some false)(hb:I4 l (a.go s 0)=true∨I4 l (a.go s (2^k))=true):BY a k l0 (l.set s true) true (s+1):=by
 have:=Nr hf;have:=h.le;exact⟨h.inv.set hs h0 h1 hb,by omega,fun _=>by omega,fun e=>(by cases e)⟩
def HP(l:List Bool)(more:Bool):Nat:=2 *Xk l+(if more then 1 else 0)
theorem BY.wY{l0:List Bool}{more:Bool}(h:BY a k l0 l more s):HP l more<HP l0 true:=by
 unfold HP;rw[if_pos rfl]
 cases more with
 |true=>have:=h.yes rfl;rw[if_pos rfl];omega
 |false=>have:=h.le;rw[if_neg QE];omega
end Go.Proofs.YtiknomepbklibaaGreatDoor
end
section
namespace Go.Proofs.YtiknomepbklibaaGreatDoor
open Go Go.RowKit

theorem GU(n:Nat):((2^n:Nat):Int)=(2:Int)^n:=by rw[Int.natCast_pow];rfl
theorem CI{n:Nat}(h:n≤62):2^n≤4611686018427387904:=Nat.le_trans (Nat.pow_le_pow_right QE h) QE
theorem Y4{P:Program}{G:Env}{K:List (Nat×AV)}{st:St}{t yt:TypeId}{x y:Operand}{k:IntKind}{n:Nat}(hx:QX G K x=some (.int .i64 1))(hy:QX G K y=some (.int k ((n:Nat):Int)))(h:n≤62):U3 P G K (.binOp .shl t x y yt) st (.int .i64 (2^n:Nat)) st:=
 UO hx hy (by
  have hp:((2^n:Nat):Int)≤4611686018427387904:=Int.ofNat_le.2 (CI h);have hp0:(0:Int)≤((2^n:Nat):Int):=Int.natCast_nonneg _;show Qo (Bt ((n:Nat):Int) 0) none (XF (XQ .i64 (1 *2^(min ((n:Nat):Int).toNat 64))) fun z=>some (AV.int .i64 z))=_
  rw[YX,decide_eq_false Qe,Yn,UI,Int.toNat_natCast,Nat.min_eq_left Qe,Int.one_mul,←GU,wrap64 (Int.le_trans QE hp0) (Int.le_trans hp QE)];rfl)
end Go.Proofs.YtiknomepbklibaaGreatDoor
end
section
namespace Go.Proofs.YtiknomepbklibaaGreatDoor
open Go Go.RowKit
variable {a b:Nat}

section
variable {P:Program} {G:Env} {K:List (Nat×AV)} {st:St} {t yt:TypeId} {x y:Operand}
theorem I5(ha:a≤9223372036854775807):(BitVec.ofInt 64 ((a:Nat):Int)).toNat=a:=by
 rw[BitVec.ofInt_natCast,BitVec.toNat_ofNat];exact Nat.mod_eq_of_lt Qe
theorem Bc(hx:QX G K x=some (.int .i64 (a:Nat)))(hy:QX G K y=some (.int .i64 (b:Nat)))(ha:a≤9223372036854775807)(hb:b≤9223372036854775807):U3 P G K (.binOp .and t x y yt) st (.int .i64 (a&&&b:Nat)) st:=
 UO hx hy (by
  rw[XL QE QE];show XF (IntKind.i64.wrap (((BitVec.ofInt 64 ((a:Nat):Int)&&&BitVec.ofInt 64 ((b:Nat):Int)).toNat:Nat):Int)) (fun z=>some (AV.int .i64 z))=_;have h:a&&&b≤a:=Nat.and_le_left
  rw[BitVec.toNat_and,I5 ha,I5 hb,Yn,wrap64 Qe Qe])
theorem Xu(hx:QX G K x=some (.int .i64 (a:Nat)))(hy:QX G K y=some (.int .i64 1))(ha:a≤9223372036854775807):U3 P G K (.binOp .and t x y yt) st (.int .i64 (a % 2:Nat)) st:=by
 have:=Bc (P:=P) (st:=st) (t:=t) (yt:=yt) (b:=1) hx hy ha QE;rw[Nat.and_one_is_mod]at this;exact this
theorem zq(ha:a≤9223372036854775807)(hb:b≤9223372036854775807):a|||b≤9223372036854775807:=by
 have:=Nat.or_lt_two_pow (n:=63) (show a<2^63 by omega) (show b<2^63 by omega);omega
theorem qT(hx:QX G K x=some (.int .i64 (a:Nat)))(hy:QX G K y=some (.int .i64 (b:Nat)))(ha:a≤9223372036854775807)(hb:b≤9223372036854775807):U3 P G K (.binOp .or t x y yt) st (.int .i64 (a|||b:Nat)) st:=
 UO hx hy (by
  rw[XL QE QE];show XF (IntKind.i64.wrap (((BitVec.ofInt 64 ((a:Nat):Int)|||BitVec.ofInt 64 ((b:Nat):Int)).toNat:Nat):Int)) (fun z=>some (AV.int .i64 z))=_;have h:=zq ha hb
  rw[BitVec.toNat_or,I5 ha,I5 hb,Yn,wrap64 Qe Qe])
theorem Xs{k:IntKind}{n:Nat}(hx:QX G K x=some (.int .i64 (a:Nat)))(hy:QX G K y=some (.int k ((n:Nat):Int)))(hn:n≤62):U3 P G K (.binOp .shr t x y yt) st (.int .i64 (a/2^n:Nat)) st:=
 UO hx hy (by
  show Qo (Bt ((n:Nat):Int) 0) none (XF (((a:Nat):Int).fdiv (2^(min ((n:Nat):Int).toNat 64))) fun z=>some (AV.int .i64 z))=_
  rw[YX,decide_eq_false Qe,Yn,Int.toNat_natCast,Nat.min_eq_left Qe,←GU,←Int.ofNat_fdiv];rfl)
theorem Sm{k:IntKind}{n:Nat}(hx:QX G K x=some (.int .i64 (a:Nat)))(hy:QX G K y=some (.int k ((n:Nat):Int)))(hn:n≤62)(hb:a *2^n≤9223372036854775807):U3 P G K (.binOp .shl t x y yt) st (.int .i64 (a *2^n:Nat)) st:=
 UO hx hy (by
  show Qo (Bt ((n:Nat):Int) 0) none (XF (XQ .i64 (((a:Nat):Int) *2^(min ((n:Nat):Int).toNat 64))) fun z=>some (AV.int .i64 z))=_
  rw[YX,decide_eq_false Qe,Yn,UI,Int.toNat_natCast,Nat.min_eq_left Qe,←GU,←Int.natCast_mul,wrap64 Qe Qe];rfl)
theorem qU{a b:Bool}(ht:P.underlying t=some .bool)(hx:QX G K x=some (.bool a))(hy:QX G K y=some (.bool b)):U3 P G K (.binOp .neq t x y yt) st (.bool (!(a==b))) st:=
 UO hx hy (by
  show QN (Eh (P.underlying t) (.bool a)) (ob (Et (.bool a) (.bool b)) fun b=>some (AV.bool !b))=_;rw[ht]
  cases a<;>cases b<;>rfl)
theorem SR(c t:Nat):(((c/2^t % 2:Nat):Int)=1)↔c.testBit t=true:=by
 rw[Nat.testBit_eq_decide_div_mod_eq,decide_eq_true_eq];omega
end
end Go.Proofs.YtiknomepbklibaaGreatDoor
end
section
namespace Go.Proofs.YtiknomepbklibaaGreatDoor
open Go Go.RowKit
variable {a:Au} {c k n u:Nat} {q:List Int}

def Zn(k c u:Nat):Nat:=c % 2^k+u *2^k+c/2^k *2^(k+1)
theorem Io(k c:Nat):c % 2^k<2^k:=Nat.mod_lt _ (Nat.two_pow_pos k)
theorem CR{a q:Nat}(h:a<2^k):a|||q *2^k=a+q *2^k:=by
 have:=Nat.two_pow_add_eq_or_of_lt h q;rw[Nat.or_comm,Nat.mul_comm q,←this,Nat.add_comm]
theorem RW(k c:Nat):c % 2^k|||c/2^k *2^(k+1)=Zn k c 0:=by
 have h1:=Io k c;have h2:2^k≤2^(k+1):=Nat.pow_le_pow_right QE Qe;rw[CR Qe,Zn,Nat.zero_mul,Nat.add_zero (c % 2^k)]
theorem yZ(k c:Nat):Zn k c 0|||2^k=Zn k c 1:=by
 have h1:=Io k c
 have h2:2^(k+1)=2 *2^k:=by rw[Nat.pow_succ,Nat.mul_comm]
 have e:=CR (k:=k) (q:=1) h1;rw[Nat.one_mul]at e;rw[←RW,Nat.or_assoc,Nat.or_comm (c/2^k *2^(k+1)),←Nat.or_assoc,e,CR Qe,Zn,Nat.one_mul]
theorem GP(hu:u≤1):c % 2^k|||u *2^k=c % 2^k+u *2^k:=CR (Io k c)
theorem qD(hu:u≤1):(c % 2^k|||u *2^k)|||c/2^k *2^(k+1)=Zn k c u:=by
 have h1:=Io k c
 have h2:2^(k+1)=2 *2^k:=by rw[Nat.pow_succ,Nat.mul_comm]
 have h3:u *2^k≤1 *2^k:=Nat.mul_le_mul_right _ hu;rw[GP hu,CR Qe,Zn]
theorem L4{T:Nat}(hk:k<T)(hc:c<2^(T-1))(hu:u≤1):Zn k c u<2^T:=by
 have h1:=Io k c;have h3:u *2^k≤1 *2^k:=Nat.mul_le_mul_right _ hu
 have h4:c/2^k<2^(T-1-k):=by
  rw[Nat.div_lt_iff_lt_mul (Nat.two_pow_pos k),←Nat.pow_add,show T-1-k+k=T-1 by omega];exact hc
 have h5:(c/2^k+1) *2^(k+1)≤2^(T-1-k) *2^(k+1):=Nat.mul_le_mul_right _ h4;rw[←Nat.pow_add,show T-1-k+(k+1)=T by omega,Nat.succ_mul]at h5
 have h2:2^(k+1)=2 *2^k:=by rw[Nat.pow_succ,Nat.mul_comm]
 unfold Zn;omega
section
variable {P:Program} {G:Env} {K:List (Nat×AV)} {st:St} {t yt:TypeId} {x y:Operand}
theorem Sr(hx:QX G K x=some (.int .i64 (c:Nat)))(hy:QX G K y=some (.int .i64 (((2^k:Nat):Int)-1)))(hc:c≤9223372036854775807)(hk:k≤62):U3 P G K (.binOp .and t x y yt) st (.int .i64 (c % 2^k:Nat)) st:=by
 have hp:2^k≤2^62:=Nat.pow_le_pow_right QE hk;have h0:=Nat.two_pow_pos k;have:=Bc (P:=P) (st:=st) (t:=t) (yt:=yt) (a:=c) (b:=2^k-1) hx (by rw[hy];congr 2;omega) hc Qe
 rwa [Nat.and_two_pow_sub_one_eq_mod]at this
theorem qZ{kk:IntKind}(hx:QX G K x=some (.int .i64 (((c:Nat):Int)-((c % 2^k:Nat):Int))))(hy:QX G K y=some (.int kk 1))(hc:c *2≤9223372036854775807):U3 P G K (.binOp .shl t x y yt) st (.int .i64 (c/2^k *2^(k+1):Nat)) st:=by
 have h1:=Nat.div_add_mod c (2^k)
 have h2:c/2^k *2^(k+1)=(2^k *(c/2^k)) *2^1:=by rw[Nat.pow_succ,Nat.pow_one,←Nat.mul_assoc,Nat.mul_comm (c/2^k)]
 rw[h2];exact Sm (n:=1) (by rw[hx];congr 2;omega) hy QE Qe
end
def W2(a:Au)(k c:Nat)(q:List Int):List Int:=q.flatMap fun z=>[((a.go z.toNat (Zn k c 0):Nat):Int),((a.go z.toNat (Zn k c 1):Nat):Int)]
theorem Im(a:Au)(k c:Nat)(q:List Int):(W2 a k c q).length=2 *q.length:=by
 induction q with
 |nil=>rfl
 |cons z q ih=>unfold W2 at ih ⊢;rw[List.flatMap_cons,List.length_append,ih,List.length_cons];simp;omega
theorem LN{i:Nat}{z:Int}(h:q[i]? =some z):W2 a k c (q.take (i+1))=W2 a k c (q.take i)++[((a.go z.toNat (Zn k c 0):Nat):Int),((a.go z.toNat (Zn k c 1):Nat):Int)]:=by
 unfold W2;rw[List.take_add_one,h,List.flatMap_append];rfl
theorem TT{x:Int}:x∈W2 a k c q↔ ∃z∈q,∃u,u≤1∧x=((a.go z.toNat (Zn k c u):Nat):Int):=by
 unfold W2;rw[List.mem_flatMap];constructor
 ·rintro⟨z,hz,h⟩
  simp only[List.mem_cons,List.not_mem_nil,or_false]at h;rcases h with h|h
  ·exact⟨z,hz,0,by decide,h⟩
  ·exact⟨z,hz,1,by decide,h⟩
 ·rintro⟨z,hz,u,hu,h⟩
  refine⟨z,hz,?_⟩
  have:u=0∨u=1:=by omega
  rcases this with rfl|rfl<;>simp[h]
def Uo(a:Au)(k:Nat)(q:List Int)(c:Nat):List Int:=JQ (W2 a k c q)
def AS(n:Nat)(q:List Int):Prop:=VP q∧ ∀z∈q,0≤z∧z<((n:Nat):Int)
theorem Tq(h:VP q):JQ q=q:=CE (XY q) h fun x=>VJ q x
theorem CD: ∀{q:List Int} {lo hi:Int},VP q→(∀z∈q,lo≤z∧z<hi)→lo≤hi→(q.length:Int)≤hi-lo
 |[],lo,hi,_,_,h=>by simp;omega
 |x::q,lo,hi,h,hb,hl=>by
  obtain⟨h1,h2⟩:=List.pairwise_cons.1 h;have hx:=hb x QA;have:=CD (lo:=x+1) (hi:=hi) h2 (fun z hz=>⟨by have:=h1 z hz;omega,(hb z (by simp[hz])).2⟩) Qe;rw[List.length_cons];omega
theorem AS.len(h:AS n q):q.length≤n:=by
 have:=CD h.1 h.2 Qe;omega
theorem AS.AQ(h:AS n q)(hn:n≤400):Vh q:=fun z hz=>by
 have:=h.2 z hz
 constructor<;>omega
theorem AS.zero(h:1≤n):AS n [0]:=⟨List.pairwise_singleton _ _,fun z hz=>by rw[List.mem_singleton.1 hz];omega⟩
theorem AS.step(W:Zr a)(hk:k<a.tr)(hc:c<2^(a.tr-1))(h:AS a.n q):AS a.n (Uo a k q c):=by
 refine⟨XY _,fun z hz=>?_⟩;obtain⟨y,hy,u,hu,rfl⟩:=TT.1 ((VJ _ z).1 hz);have:=h.2 y hy;have:=W.UT (s:=y.toNat) (c:=Zn k c u) Qe (L4 hk hc hu);omega
def anyS(acc:List Bool)(s:List Int):Bool:=s.any fun z=>I4 acc z.toNat
theorem OQ{L:List (List Int)}(h:VP q):(PM L q<L.length∧AP L q=L∧L[PM L q]? =some q)∨(PM L q=L.length∧AP L q=L++[q]∧q∉L):=by
 unfold PM AP;rw[Tq h]
 cases hn:XI 0 L q with
 |some i=>
  have h1:=(OS hn).2;rw[Nat.sub_zero]at h1;exact .inl ⟨(List.getElem?_eq_some_iff.1 h1).1,rfl,h1⟩
 |none=>exact .inr ⟨rfl,rfl,Ik hn⟩
structure Vm{α:Type}(δ:α→Nat→α)(s0:α)(K:Nat)(L:List α)(rows:List (List Int))(row:List Int):Prop where
 ex: ∃es,FV δ s0 K L es∧rows.flatten++row=es.map fun v=>((v:Nat):Int)
 len: ∀r∈rows,r.length=K
 less:row.length≤K
section
variable {α:Type} {δ:α→Nat→α} {s0:α} {K:Nat} {L:List α} {rows:List (List Int)} {row:List Int}
theorem Vm.start(δ:α→Nat→α)(s0:α)(K:Nat):Vm δ s0 K [s0] [] []:=⟨⟨[],FV.start δ s0 K,rfl⟩,fun r h=>(by cases h),Nat.zero_le _⟩
theorem Vm.at_(H:Vm δ s0 K L rows row)(hr:row.length<K){es:List Nat}(e:rows.flatten++row=es.map fun v=>((v:Nat):Int)):es.length/K=rows.length∧es.length % K=row.length:=by
 have h1:=congrArg List.length e;rw[List.length_append,Gg H.len,List.length_map]at h1;rw[←h1,Nat.mul_comm];exact⟨by rw[Nat.mul_add_div Qe,Nat.div_eq_of_lt hr];rfl,by rw[Nat.mul_add_mod];exact Nat.mod_eq_of_lt hr⟩
theorem Vm.J6(H:Vm δ s0 K L rows row)(hr:row.length<K){s:α}(hs:L[rows.length]? =some s){j:Nat}(hj:L[j]? =some (δ s row.length)):Vm δ s0 K L rows (row++[((j:Nat):Int)]):=by
 obtain⟨es,E,e⟩:=H.ex;obtain⟨h1,h2⟩:=H.at_ hr e;exact⟨⟨es++[j],E.J6 (by rw[h1];exact hs) (by rw[h2];exact hj),by rw[←List.append_assoc,e,List.map_append];rfl⟩,H.len,by rw[List.length_append];simp;omega⟩
theorem Vm.new(H:Vm δ s0 K L rows row)(hr:row.length<K){s:α}(hs:L[rows.length]? =some s)(hn:δ s row.length∉L):Vm δ s0 K (L++[δ s row.length]) rows (row++[((L.length:Nat):Int)]):=by
 obtain⟨es,E,e⟩:=H.ex;obtain⟨h1,h2⟩:=H.at_ hr e;have:=E.new (by rw[h1];exact hs) (by rw[h2];exact hn);rw[h2]at this;exact⟨⟨es++[L.length],this,by rw[←List.append_assoc,e,List.map_append];rfl⟩,H.len,by rw[List.length_append];simp;omega⟩
theorem Vm.whole(H:Vm δ s0 K L rows row)(hr:row.length=K):Vm δ s0 K L (rows++[row]) []:=by
 obtain⟨es,E,e⟩:=H.ex;refine⟨⟨es,E,by simpa using e⟩,fun r h=>?_,Nat.zero_le _⟩;rcases List.mem_append.1 h with h|h
 ·exact H.len r h
 ·rw[List.mem_singleton.1 h];exact hr
theorem Vm.made{p:α→Bool}{m:Au}(H:Vm δ s0 m.K L m.nx [])(hl:m.nx.length=L.length)(ha:m.acc=L.map p)(ht:m.tr≤6)(hm:L.length≤400):UA δ s0 p L m:=by
 obtain⟨es,E,e⟩:=H.ex;rw[List.append_nil]at e;exact⟨⟨es,E,⟨H.len,e⟩⟩,hl,ha,ht,hm⟩
theorem Vm.nodup(H:Vm δ s0 K L rows row):L.Nodup:=by obtain⟨es,E,e⟩:=H.ex;exact E.nodup
theorem Vm.bound(H:Vm δ s0 K L rows row): ∀z∈rows.flatten++row,0≤z∧z<((L.length:Nat):Int):=by
 obtain⟨es,E,e⟩:=H.ex;intro z hz;rw[e]at hz;obtain⟨v,hv,rfl⟩:=List.mem_map.1 hz;obtain⟨i,hi⟩:=List.getElem?_of_mem hv;have:=E.lt hi;omega
theorem Vm.all(H:Vm δ s0 K L rows row){Q:α→Prop}(h0:Q s0)(hs: ∀s c,Q s→c<K→Q (δ s c))(hK:0<K){s:α}(h:s∈L):Q s:=by
 obtain⟨es,E,e⟩:=H.ex;obtain⟨i,hi⟩:=List.getElem?_of_mem h;exact E.all h0 (fun s c hq hc=>hs s c hq (hc hK)) i s hi
end
theorem Vm.id{K:Nat}{L:List (List Int)}{rows:List (List Int)}{row:List Int}(H:Vm (Uo a k) [0] K L rows row)(hr:row.length<K)(hs:L[rows.length]? =some q):Vm (Uo a k) [0] K (AP L (Uo a k q row.length)) rows (row++[((PM L (Uo a k q row.length):Nat):Int)]):=by
 rcases OQ (L:=L) (q:=Uo a k q row.length) (XY _)with⟨h1,h2,h3⟩|⟨h1,h2,h3⟩
 ·rw[h2];exact H.J6 hr hs h3
 ·rw[h1,h2];exact H.new hr hs h3
end Go.Proofs.YtiknomepbklibaaGreatDoor
end
section
namespace Go.Proofs.YtiknomepbklibaaGreatDoor
open Go Go.RowKit
set_option maxHeartbeats 8000000
set_option maxRecDepth 100000

theorem DZ{st:St}(hf:Qj st){l:List Int}{kl:AV}(hl:Ji st.h.get [] 1 (zC l) kl)(hns:kl=.nils∨ ∃c m o n,kl=.sl c m o n 1)(hn:l.length≤100000)(x:Nat)(hx:x≤100000): ∃v st',Ev Tryz.prog Q4 152 [kl,iN x] st v st'∧ ∃ks b,v=.tup [ks,.bool b]∧(Em st st' 1 ks (zC (ZY ((x:Nat):Int) l))∨(ks=kl∧ZY ((x:Nat):Int) l=l))∧Qt st st':=by
 have hcl:=Qn l;have hlc:=hl.cell;refine JF Tryz.func152 Tryz.ntmps152 fun T K=>?_;have M:=Mem.start hf;refine Qc 4 K M ?_;intro _ K;refine Um K (Qg rfl) rfl (fun _ e9 K=>?_) fun _ e9 K=>?_
 · refine Qc 3 K M ?_;intro _ K;refine JP K rfl (fun h12=>?_) fun h12=>?_
   ·refine Qc 3 K M ?_
    first
     |(exfalso;omega)
     |exact⟨_,_,rfl,.inr ⟨rfl,AD hkx (by rw[hi35];exact congrArg some h39)⟩,M.qt⟩
   refine Xh ?_;show W _ _ _ _ _ _ _;refine QC<|Qv<|p1 K (U5 rfl) fun _ K=>Un ?_;show W _ _ _ _ _ _ _;refine RK (J:=fun T st9=> ∃(i:Nat),QY [(0,kl),(1,iN x),(4,.nils),(5,.bool false),(6,iN i)] T∧Mem st.h.get st.n [] st9 []∧i≤l.length∧(∀z∈l.take i,z<((x:Nat):Int))∧(∀z,l[i]? =some z→ ¬z<((x:Nat):Int))) ?_ (fun T st9 hJ=>?_)
   ·refine G9 ?_;refine Jc (fun mm1 T st9=> ∃(i:Nat),mm1=l.length-i∧QY [(0,kl),(1,iN x),(4,.nils),(5,.bool false),(6,iN i)] T∧Mem st.h.get st.n [] st9 []∧i≤l.length∧(∀z∈l.take i,z<((x:Nat):Int))) (fun mm1 T st9 hI=>?_) _ _ _ ⟨0,rfl,(K.sub rfl),M.less (.refl _),(Nat.zero_le _),QA⟩;obtain⟨i,rfl,K,M,hil,hkx⟩:=hI;refine Qc 2 K M ?_;intro _ K;refine p1 K (Q8 Jp rfl rfl (hl.len.trans (congrArg some (Qn _)))) fun _ K=>?_;refine Qc 1 K M ?_;intro _ K;refine Um K (Qg rfl) rfl (fun _ e18 K=>?_) fun _ e18 K=>?_
    · refine Qc 8 K M ?_;intro _ K;refine QT ?_;exact⟨i,(K.sub rfl),M.less (.refl _),hil,hkx,(fun z hz=>by first|(rw[List.getElem?_eq_none Qe]at hz;cases hz)|(rw[hz]at hi21;injection hi21 with e1;omega))⟩
    refine Qc 2 K M ?_;intro _ K;obtain⟨y21,hi21⟩:=U8 l i Qe;obtain⟨x21,m21,f21,q21,_,la21,lo21,lp21⟩:=(Ji.mem M hl QA).load (i:=i) (cs:=_) (Jr hi21);refine pg K rfl rfl (Qa (j:=i) Qw (congrArg some q21) rfl (by rw[Qn];omega)) fun _ K=>pg K rfl rfl (Qd rfl (lo21 _ 0 _ Qr rfl)) fun _ K=>?_;refine Qc 3 K M ?_;intro _ K;refine JP K rfl (fun h25=>?_) fun h25=>?_
    · refine Qc 3 K M ?_;intro _ K;exact⟨_,Qe,i+1,rfl,(K.sub rfl),M.less (.refl _),Qe,(yH hkx hi21 Qe)⟩
    refine QT ?_;exact⟨i,(K.sub rfl),M.less (.refl _),hil,hkx,(fun z hz=>by first|(rw[List.getElem?_eq_none Qe]at hz;cases hz)|(rw[hz]at hi21;injection hi21 with e1;omega))⟩
   obtain⟨i,K,M,hil,hkx,hnx⟩:=hJ;refine Qc 2 K M ?_;intro _ K;refine p1 K (Q8 Jp rfl rfl (hl.len.trans (congrArg some (Qn _)))) fun _ K=>?_;refine Qc 1 K M ?_;intro _ K;refine Um K (Qg rfl) rfl (fun _ e32 K=>?_) fun _ e32 K=>?_
   ·refine Qc 8 K M ?_;intro _ K;refine QD (l:=[(0,0),(1,0),(2,0),(3,0),(4,0),(5,0),(6,0),(7,0),(8,0),(9,0),(10,0),(11,0),(12,0),(13,0)]) (by kernel_rfl) ?_;refine XR rfl K M QM Vn rfl rfl rfl rfl rfl fun c41 _ _ K M=>?_;refine Jf 2 K M ?_;intro _ K;refine A0 (l:=l) (a:=0) (b:=i) rfl K Qw (Ji.mem M hl QA) hns rfl rfl rfl Qe Qe rfl fun v44 _ K r44 hc44=>?_;replace M:=Mem.cast (M':=([(c41,0,[])]++[])) (Mem.perm M (List.perm_append_comm (α:=Nat×Nat×List AV) (l₁:=[(c41,0,[])]) (l₂:=[]))) Uz;have hA0c41:Acc st.n 1 [(c41,0,[])] (.sl c41 0 0 0 1) []:=Acc.own (n0:=st.n) (z:=1) (c:=c41) (m:=0) (ls:=[]) ((M.own c41 0 [] QA).resolve_right QA) QA QA;refine A3 (L:=[]) (A:=[(c41,0,[])]) (B:=[]) rfl K M hA0c41 QM rfl rfl r44 (Fs _) (by simp[Qn];omega) rfl fun ks45 A45 _ _ K hA45 M=>?_;refine q1 rfl K (Qg rfl) fun _ K=>?_;refine XR rfl K M QM Vn rfl rfl rfl rfl rfl fun c47 _ _ K M=>?_;refine G8 (k2:=0) (L:=[(c47,0,[iN x])]) (A:=A45) (B:=[]) rfl K M hA45 QM rfl rfl rfl rfl (by simp[Qn];omega) rfl fun ks48 A48 _ _ K hA48 M=>?_;refine Jf 2 K M ?_;intro _ K;refine A0 (l:=l) (a:=i) (b:=l.length) rfl K Qw (Ji.mem M hl QA) hns rfl rfl rfl Qe Qe rfl fun v51 _ K r51 hc51=>?_;refine A3 (L:=[(c47,0,[iN x])]) (A:=A48) (B:=[]) rfl K M hA48 QM rfl rfl r51 (Fs _) (by simp[Qn];omega) rfl fun ks52 A52 _ _ K hA52 M=>?_;refine Jf 2 K M ?_;intro _ K;refine QG ?_;show W _ _ _ _ _ _ _;refine Qc 0 K M ?_;have hins:ZY ((x:Nat):Int) l=l.take i++((x:Nat):Int)::l.drop i:=Bz hil hkx (fun z hz=>by first|(rw[List.getElem?_eq_none Qe]at hz;cases hz)|(have h1:=hnx z hz;have e1:=Option.some.inj (hi35.symm.trans hz);omega));have e2:(l.drop i).take (l.length-i)=l.drop i:=List.take_of_length_le QA;have h:=hA52;rw[e2,List.drop_zero,Nat.sub_zero,List.nil_append,List.append_assoc]at h;refine⟨_,_,rfl,.inl ?_,M.qt⟩;rw[hins,JV,RG];exact Mem.Bh (L:=[(c47,0,[iN x])]) (A:=A52) (B:=[]) M h
   refine Qc 2 K M ?_;intro _ K;obtain⟨y35,hi35⟩:=U8 l i Qe;obtain⟨x35,m35,f35,q35,_,la35,lo35,lp35⟩:=(Ji.mem M hl QA).load (i:=i) (cs:=_) (Jr hi35);refine pg K rfl rfl (Qa (j:=i) Qw (congrArg some q35) rfl (by rw[Qn];omega)) fun _ K=>pg K rfl rfl (Qd rfl (lo35 _ 0 _ Qr rfl)) fun _ K=>?_;refine Qc 3 K M ?_;intro _ K;refine JP K rfl (fun h39=>?_) fun h39=>?_
   ·refine Qc 3 K M ?_
    first
     |(exfalso;omega)
     |exact⟨_,_,rfl,.inr ⟨rfl,AD hkx (by rw[hi35];exact congrArg some h39)⟩,M.qt⟩
   refine Qc 0 K M ?_;intro _ K;refine QD (l:=[(0,0),(1,0),(2,0),(3,0),(4,0),(5,0),(6,0),(7,0),(8,0),(9,0),(10,0),(11,0),(12,0),(13,0)]) (by kernel_rfl) ?_;refine XR rfl K M QM Vn rfl rfl rfl rfl rfl fun c41 _ _ K M=>?_;refine Jf 2 K M ?_;intro _ K;refine A0 (l:=l) (a:=0) (b:=i) rfl K Qw (Ji.mem M hl QA) hns rfl rfl rfl Qe Qe rfl fun v44 _ K r44 hc44=>?_;replace M:=Mem.cast (M':=([(c41,0,[])]++[])) (Mem.perm M (List.perm_append_comm (α:=Nat×Nat×List AV) (l₁:=[(c41,0,[])]) (l₂:=[]))) Uz;have hA0c41:Acc st.n 1 [(c41,0,[])] (.sl c41 0 0 0 1) []:=Acc.own (n0:=st.n) (z:=1) (c:=c41) (m:=0) (ls:=[]) ((M.own c41 0 [] QA).resolve_right QA) QA QA;refine A3 (L:=[]) (A:=[(c41,0,[])]) (B:=[]) rfl K M hA0c41 QM rfl rfl r44 (Fs _) (by simp[Qn];omega) rfl fun ks45 A45 _ _ K hA45 M=>?_;refine q1 rfl K (Qg rfl) fun _ K=>?_;refine XR rfl K M QM Vn rfl rfl rfl rfl rfl fun c47 _ _ K M=>?_;refine G8 (k2:=0) (L:=[(c47,0,[iN x])]) (A:=A45) (B:=[]) rfl K M hA45 QM rfl rfl rfl rfl (by simp[Qn];omega) rfl fun ks48 A48 _ _ K hA48 M=>?_;refine Jf 2 K M ?_;intro _ K;refine A0 (l:=l) (a:=i) (b:=l.length) rfl K Qw (Ji.mem M hl QA) hns rfl rfl rfl Qe Qe rfl fun v51 _ K r51 hc51=>?_;refine A3 (L:=[(c47,0,[iN x])]) (A:=A48) (B:=[]) rfl K M hA48 QM rfl rfl r51 (Fs _) (by simp[Qn];omega) rfl fun ks52 A52 _ _ K hA52 M=>?_;refine Jf 2 K M ?_;intro _ K;refine QG ?_;show W _ _ _ _ _ _ _;refine Qc 0 K M ?_;have hins:ZY ((x:Nat):Int) l=l.take i++((x:Nat):Int)::l.drop i:=Bz hil hkx (fun z hz=>by first|(rw[List.getElem?_eq_none Qe]at hz;cases hz)|(have h1:=hnx z hz;have e1:=Option.some.inj (hi35.symm.trans hz);omega));have e2:(l.drop i).take (l.length-i)=l.drop i:=List.take_of_length_le QA;have h:=hA52;rw[e2,List.drop_zero,Nat.sub_zero,List.nil_append,List.append_assoc]at h;refine⟨_,_,rfl,.inl ?_,M.qt⟩;rw[hins,JV,RG];exact Mem.Bh (L:=[(c47,0,[iN x])]) (A:=A52) (B:=[]) M h
 refine Qc 7 K M ?_
 first
  |(exfalso;omega)
  |exact⟨_,_,rfl,.inr ⟨rfl,AD hkx (by rw[hi35];exact congrArg some h39)⟩,M.qt⟩
end Go.Proofs.YtiknomepbklibaaGreatDoor
end
