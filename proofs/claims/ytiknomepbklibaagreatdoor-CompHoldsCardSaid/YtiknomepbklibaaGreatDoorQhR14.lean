/-
  Closed by a track, plainly.
-/
import Derived.Test.YtiknomepbklibaaGreatDoorQhCl
set_option linter.unnecessarySimpa false
set_option linter.unusedSimpArgs false
set_option linter.unusedVariables false
namespace Go.Proofs.YtiknomepbklibaaGreatDoor
section
variable {a:Au} {k s:Nat} {l:List Bool}

inductive az(a:Au)(k:Nat):Nat→Prop
 |acc {s:Nat} (h:a.ok s=true):az a k s
 |low {s:Nat} (h:az a k (a.go s 0)):az a k s
 |high {s:Nat} (h:az a k (a.go s (2^k))):az a k s
def IY(l:List Bool)(s:Nat):Bool:=(l[s]?).getD false
structure AM(a:Au)(k:Nat)(l:List Bool):Prop where
 len:l.length=a.n
 iff: ∀s,s<a.n→(IY l s=true↔az a k s)
theorem AM.uniq{l':List Bool}(h:AM a k l)(h':AM a k l'):l=l':=by
 apply List.ext_getElem?;intro s
 by_cases hs:s<a.n
 ·have e:IY l s=IY l' s:=by
   rw[Bool.eq_iff_iff,h.iff s hs,h'.iff s hs]
  unfold IY at e;rw[List.getElem?_eq_getElem (by rw[h.len];exact hs),List.getElem?_eq_getElem (by rw[h'.len];exact hs)]at e ⊢;exact congrArg some e
 ·rw[List.getElem?_eq_none (by rw[h.len];omega),List.getElem?_eq_none (by rw[h'.len];omega)]
theorem JI{c:Nat}{r:List Int}{z:Int}(h1:a.nx[s]? =some r)(h2:r[c]? =some z):a.go s c=z.toNat:=by
 unfold Au.go;rw[h1,Option.getD_some,h2,Option.getD_some]
def Xt(l:List Bool):Nat:=l.countP fun b=> !b
theorem NR: ∀{l:List Bool} {j:Nat},l[j]? =some false→Xt (l.set j true)+1=Xt l
 |[],j,h=>by simp at h
 |b::l,0,h=>by
  injection h with h
  subst h;rw[List.set_cons_zero,Xt,Xt,List.countP_cons,List.countP_cons];simp
 |b::l,j+1,h=>by
  have:=NR (l:=l) (j:=j) h;rw[List.set_cons_succ,Xt,Xt,List.countP_cons,List.countP_cons];rw[Xt,Xt]at this;omega
theorem TP{j:Nat}{b:Bool}(hj:j<l.length):IY (l.set j b) s=if s=j then b else IY l s:=by
 unfold IY;rw[List.getElem?_set]
 by_cases h:j=s
 ·subst h;rw[if_pos rfl,if_pos hj,if_pos rfl];rfl
 ·rw[if_neg h,if_neg fun e=>h e.symm]
theorem Yo{b:Bool}(h:l[s]? =some b):IY l s=b:=by unfold IY;rw[h];rfl
structure Kj(a:Au)(k:Nat)(l:List Bool):Prop where
 len:l.length=a.n
 sound: ∀s,s<a.n→IY l s=true→az a k s
 ext: ∀s,s<a.n→a.ok s=true→IY l s=true
theorem Kj.start(a:Au)(k:Nat):Kj a k a.acc:=⟨rfl,fun s _ h=>.acc h,fun s _ h=>h⟩
theorem Kj.set{a:Au}{k s:Nat}{l:List Bool}(h:Kj a k l)(hs:s<a.n)(h0:a.go s 0<a.n)(h1:a.go s (2^k)<a.n)(hb:IY l (a.go s 0)=true∨IY l (a.go s (2^k))=true):Kj a k (l.set s true):=by
 have hl:s<l.length:=by rw[h.len];exact hs
 refine⟨by rw[List.length_set];exact h.len,fun t ht e=>?_,fun t ht e=>?_⟩
 ·rw[TP hl]at e
  by_cases hts:t=s
  ·subst hts;rcases hb with hb|hb
   ·exact .low (h.sound _ h0 hb)
   ·exact .high (h.sound _ h1 hb)
  ·rw[if_neg hts]at e;exact h.sound t ht e
 ·rw[TP hl]
  split
  ·rfl
  ·exact h.ext t ht e
def Ox(a:Au)(k:Nat)(l:List Bool)(s:Nat):Prop:=IY l (a.go s 0)=true∨IY l (a.go s (2^k))=true→IY l s=true
theorem Kj.done(h:Kj a k l)(W:Zs a)(hk:2^k<a.K)(hc: ∀s,s<a.n→Ox a k l s):AM a k l:=by
 refine⟨h.len,fun s hs=>⟨h.sound s hs,fun hp=>?_⟩⟩;have hK:0<a.K:=Nat.two_pow_pos _
 induction hp with
 |acc e=>exact h.ext _ hs e
 |low _ ih=>exact hc _ hs (.inl (ih (W.UR hs hK)))
 |high _ ih=>exact hc _ hs (.inr (ih (W.UR hs hk)))
structure CD(a:Au)(k:Nat)(l0 l:List Bool)(more:Bool)(s:Nat):Prop where
 inv:Kj a k l
 le:Xt l≤Xt l0
 yes:more=true→Xt l<Xt l0
 no:more=false→l=l0∧ ∀t,t<s→Ox a k l t
theorem CD.start(h:Kj a k l):CD a k l l false 0:=⟨h,Nat.le_refl _,fun e=>(by cases e),fun _=>⟨rfl,fun t ht=>absurd ht (Nat.not_lt_zero t)⟩⟩
theorem CD.keep{l0:List Bool}{more:Bool}(h:CD a k l0 l more s)(hc:Ox a k l s):CD a k l0 l more (s+1):=
 ⟨h.inv,h.le,h.yes,fun e=>⟨(h.no e).1,fun t ht=>by
  rcases Nat.lt_succ_iff_lt_or_eq.1 ht with h1|rfl
  ·exact(h.no e).2 t h1
  ·exact hc⟩⟩
theorem CD.set{a:Au}{k s:Nat}{l0 l:List Bool}{more:Bool}(h:CD a k l0 l more s)(hs:s<a.n)(h0:a.go s 0<a.n)(h1:a.go s (2^k)<a.n)(hf:l[s]? =some false)(hb:IY l (a.go s 0)=true∨IY l (a.go s (2^k))=true):CD a k l0 (l.set s true) true (s+1):=by
 have:=NR hf;have:=h.le;exact⟨h.inv.set hs h0 h1 hb,by omega,fun _=>by omega,fun e=>(by cases e)⟩
def Iv(l:List Bool)(more:Bool):Nat:=2 *Xt l+(if more then 1 else 0)
theorem CD.ff{l0:List Bool}{more:Bool}(h:CD a k l0 l more s):Iv l more<Iv l0 true:=by
 unfold Iv;rw[if_pos rfl]
 cases more with
 |true=>have:=h.yes rfl;rw[if_pos rfl];omega
 |false=>have:=h.le;rw[if_neg Q9];omega
end
section
open Go Go.RowKit

theorem Em(n:Nat):((2^n:Nat):Int)=(2:Int)^n:=by rw[Int.natCast_pow];rfl
theorem Ni{n:Nat}(h:n≤62):2^n≤4611686018427387904:=Nat.le_trans (Nat.pow_le_pow_right Q9 h) Q9
theorem UU{P:Program}{G:Env}{K:List (Nat×AV)}{st:St}{t yt:TypeId}{x y:Operand}{k:IntKind}{n:Nat}(hx:QV G K x=some (.int .i64 1))(hy:QV G K y=some (.int k ((n:Nat):Int)))(h:n≤62):U3 P G K (.binOp .shl t x y yt) st (.int .i64 (2^n:Nat)) st:=
 UP hx hy (by
  have hp:((2^n:Nat):Int)≤4611686018427387904:=Int.ofNat_le.2 (Ni h);have hp0:(0:Int)≤((2^n:Nat):Int):=Int.natCast_nonneg _;show Qj (BX ((n:Nat):Int) 0) none (XN (XX .i64 (1 *2^(min ((n:Nat):Int).toNat 64))) fun z=>some (AV.int .i64 z))=_
  rw[Zb,decide_eq_false Qc,Yw,UJ,Int.toNat_natCast,Nat.min_eq_left Qc,Int.one_mul,←Em,wrap64 (Int.le_trans Q9 hp0) (Int.le_trans hp Q9)];rfl)
end
section
open Go Go.RowKit
variable {a b:Nat}

section
variable {P:Program} {G:Env} {K:List (Nat×AV)} {st:St} {t yt:TypeId} {x y:Operand}
theorem IZ(ha:a≤9223372036854775807):(BitVec.ofInt 64 ((a:Nat):Int)).toNat=a:=by
 rw[BitVec.ofInt_natCast,BitVec.toNat_ofNat];exact Nat.mod_eq_of_lt Qc
theorem HN(hx:QV G K x=some (.int .i64 (a:Nat)))(hy:QV G K y=some (.int .i64 (b:Nat)))(ha:a≤9223372036854775807)(hb:b≤9223372036854775807):U3 P G K (.binOp .and t x y yt) st (.int .i64 (a&&&b:Nat)) st:=
 UP hx hy (by
  rw[XT Q9 Q9];show XN (IntKind.i64.wrap (((BitVec.ofInt 64 ((a:Nat):Int)&&&BitVec.ofInt 64 ((b:Nat):Int)).toNat:Nat):Int)) (fun z=>some (AV.int .i64 z))=_;have h:a&&&b≤a:=Nat.and_le_left
  rw[BitVec.toNat_and,IZ ha,IZ hb,Yw,wrap64 Qc Qc])
theorem Zz(hx:QV G K x=some (.int .i64 (a:Nat)))(hy:QV G K y=some (.int .i64 1))(ha:a≤9223372036854775807):U3 P G K (.binOp .and t x y yt) st (.int .i64 (a % 2:Nat)) st:=by
 have:=HN (P:=P) (st:=st) (t:=t) (yt:=yt) (b:=1) hx hy ha Q9;rw[Nat.and_one_is_mod]at this;exact this
theorem xO(ha:a≤9223372036854775807)(hb:b≤9223372036854775807):a|||b≤9223372036854775807:=by
 have:=Nat.or_lt_two_pow (n:=63) (show a<2^63 by omega) (show b<2^63 by omega);omega
theorem BJ(hx:QV G K x=some (.int .i64 (a:Nat)))(hy:QV G K y=some (.int .i64 (b:Nat)))(ha:a≤9223372036854775807)(hb:b≤9223372036854775807):U3 P G K (.binOp .or t x y yt) st (.int .i64 (a|||b:Nat)) st:=
 UP hx hy (by
  rw[XT Q9 Q9];show XN (IntKind.i64.wrap (((BitVec.ofInt 64 ((a:Nat):Int)|||BitVec.ofInt 64 ((b:Nat):Int)).toNat:Nat):Int)) (fun z=>some (AV.int .i64 z))=_;have h:=xO ha hb
  rw[BitVec.toNat_or,IZ ha,IZ hb,Yw,wrap64 Qc Qc])
theorem ZV{k:IntKind}{n:Nat}(hx:QV G K x=some (.int .i64 (a:Nat)))(hy:QV G K y=some (.int k ((n:Nat):Int)))(hn:n≤62):U3 P G K (.binOp .shr t x y yt) st (.int .i64 (a/2^n:Nat)) st:=
 UP hx hy (by
  show Qj (BX ((n:Nat):Int) 0) none (XN (((a:Nat):Int).fdiv (2^(min ((n:Nat):Int).toNat 64))) fun z=>some (AV.int .i64 z))=_
  rw[Zb,decide_eq_false Qc,Yw,Int.toNat_natCast,Nat.min_eq_left Qc,←Em,←Int.ofNat_fdiv];rfl)
theorem Ls{k:IntKind}{n:Nat}(hx:QV G K x=some (.int .i64 (a:Nat)))(hy:QV G K y=some (.int k ((n:Nat):Int)))(hn:n≤62)(hb:a *2^n≤9223372036854775807):U3 P G K (.binOp .shl t x y yt) st (.int .i64 (a *2^n:Nat)) st:=
 UP hx hy (by
  show Qj (BX ((n:Nat):Int) 0) none (XN (XX .i64 (((a:Nat):Int) *2^(min ((n:Nat):Int).toNat 64))) fun z=>some (AV.int .i64 z))=_
  rw[Zb,decide_eq_false Qc,Yw,UJ,Int.toNat_natCast,Nat.min_eq_left Qc,←Em,←Int.natCast_mul,wrap64 Qc Qc];rfl)
theorem wP{a b:Bool}(ht:P.underlying t=some .bool)(hx:QV G K x=some (.bool a))(hy:QV G K y=some (.bool b)):U3 P G K (.binOp .neq t x y yt) st (.bool (!(a==b))) st:=
 UP hx hy (by
  show QK (E4 (P.underlying t) (.bool a)) (ob (EH (.bool a) (.bool b)) fun b=>some (AV.bool !b))=_;rw[ht]
  cases a<;>cases b<;>rfl)
theorem TQ(c t:Nat):(((c/2^t % 2:Nat):Int)=1)↔c.testBit t=true:=by
 rw[Nat.testBit_eq_decide_div_mod_eq,decide_eq_true_eq];omega
end
end
section
open Go Go.RowKit
variable {a:Au} {c k n u:Nat} {q:List Int}

def Vl(k c u:Nat):Nat:=c % 2^k+u *2^k+c/2^k *2^(k+1)
theorem IJ(k c:Nat):c % 2^k<2^k:=Nat.mod_lt _ (Nat.two_pow_pos k)
theorem G2{a q:Nat}(h:a<2^k):a|||q *2^k=a+q *2^k:=by
 have:=Nat.two_pow_add_eq_or_of_lt h q;rw[Nat.or_comm,Nat.mul_comm q,←this,Nat.add_comm]
theorem SU(k c:Nat):c % 2^k|||c/2^k *2^(k+1)=Vl k c 0:=by
 have h1:=IJ k c;have h2:2^k≤2^(k+1):=Nat.pow_le_pow_right Q9 Qc;rw[G2 Qc,Vl,Nat.zero_mul,Nat.add_zero (c % 2^k)]
theorem x9(k c:Nat):Vl k c 0|||2^k=Vl k c 1:=by
 have h1:=IJ k c
 have h2:2^(k+1)=2 *2^k:=by rw[Nat.pow_succ,Nat.mul_comm]
 have e:=G2 (k:=k) (q:=1) h1;rw[Nat.one_mul]at e;rw[←SU,Nat.or_assoc,Nat.or_comm (c/2^k *2^(k+1)),←Nat.or_assoc,e,G2 Qc,Vl,Nat.one_mul]
theorem B8(hu:u≤1):c % 2^k|||u *2^k=c % 2^k+u *2^k:=G2 (IJ k c)
theorem jK(hu:u≤1):(c % 2^k|||u *2^k)|||c/2^k *2^(k+1)=Vl k c u:=by
 have h1:=IJ k c
 have h2:2^(k+1)=2 *2^k:=by rw[Nat.pow_succ,Nat.mul_comm]
 have h3:u *2^k≤1 *2^k:=Nat.mul_le_mul_right _ hu;rw[B8 hu,G2 Qc,Vl]
theorem Nh{T:Nat}(hk:k<T)(hc:c<2^(T-1))(hu:u≤1):Vl k c u<2^T:=by
 have h1:=IJ k c;have h3:u *2^k≤1 *2^k:=Nat.mul_le_mul_right _ hu
 have h4:c/2^k<2^(T-1-k):=by
  rw[Nat.div_lt_iff_lt_mul (Nat.two_pow_pos k),←Nat.pow_add,show T-1-k+k=T-1 by omega];exact hc
 have h5:(c/2^k+1) *2^(k+1)≤2^(T-1-k) *2^(k+1):=Nat.mul_le_mul_right _ h4;rw[←Nat.pow_add,show T-1-k+(k+1)=T by omega,Nat.succ_mul]at h5
 have h2:2^(k+1)=2 *2^k:=by rw[Nat.pow_succ,Nat.mul_comm]
 unfold Vl;omega
section
variable {P:Program} {G:Env} {K:List (Nat×AV)} {st:St} {t yt:TypeId} {x y:Operand}
theorem Tq(hx:QV G K x=some (.int .i64 (c:Nat)))(hy:QV G K y=some (.int .i64 (((2^k:Nat):Int)-1)))(hc:c≤9223372036854775807)(hk:k≤62):U3 P G K (.binOp .and t x y yt) st (.int .i64 (c % 2^k:Nat)) st:=by
 have hp:2^k≤2^62:=Nat.pow_le_pow_right Q9 hk;have h0:=Nat.two_pow_pos k;have:=HN (P:=P) (st:=st) (t:=t) (yt:=yt) (a:=c) (b:=2^k-1) hx (by rw[hy];congr 2;omega) hc Qc
 rwa [Nat.and_two_pow_sub_one_eq_mod]at this
theorem ug{kk:IntKind}(hx:QV G K x=some (.int .i64 (((c:Nat):Int)-((c % 2^k:Nat):Int))))(hy:QV G K y=some (.int kk 1))(hc:c *2≤9223372036854775807):U3 P G K (.binOp .shl t x y yt) st (.int .i64 (c/2^k *2^(k+1):Nat)) st:=by
 have h1:=Nat.div_add_mod c (2^k)
 have h2:c/2^k *2^(k+1)=(2^k *(c/2^k)) *2^1:=by rw[Nat.pow_succ,Nat.pow_one,←Nat.mul_assoc,Nat.mul_comm (c/2^k)]
 rw[h2];exact Ls (n:=1) (by rw[hx];congr 2;omega) hy Q9 Qc
end
def WK(a:Au)(k c:Nat)(q:List Int):List Int:=q.flatMap fun z=>[((a.go z.toNat (Vl k c 0):Nat):Int),((a.go z.toNat (Vl k c 1):Nat):Int)]
theorem II(a:Au)(k c:Nat)(q:List Int):(WK a k c q).length=2 *q.length:=by
 induction q with
 |nil=>rfl
 |cons z q ih=>unfold WK at ih ⊢;rw[List.flatMap_cons,List.length_append,ih,List.length_cons];simp;omega
theorem N1{i:Nat}{z:Int}(h:q[i]? =some z):WK a k c (q.take (i+1))=WK a k c (q.take i)++[((a.go z.toNat (Vl k c 0):Nat):Int),((a.go z.toNat (Vl k c 1):Nat):Int)]:=by
 unfold WK;rw[List.take_add_one,h,List.flatMap_append];rfl
theorem MP{x:Int}:x∈WK a k c q↔ ∃z∈q,∃u,u≤1∧x=((a.go z.toNat (Vl k c u):Nat):Int):=by
 unfold WK;rw[List.mem_flatMap];constructor
 ·rintro⟨z,hz,h⟩
  simp only[List.mem_cons,List.not_mem_nil,or_false]at h;rcases h with h|h
  ·exact⟨z,hz,0,by decide,h⟩
  ·exact⟨z,hz,1,by decide,h⟩
 ·rintro⟨z,hz,u,hu,h⟩
  refine⟨z,hz,?_⟩
  have:u=0∨u=1:=by omega
  rcases this with rfl|rfl<;>simp[h]
def Uv(a:Au)(k:Nat)(q:List Int)(c:Nat):List Int:=JP (WK a k c q)
def Fz(n:Nat)(q:List Int):Prop:=Wf q∧ ∀z∈q,0≤z∧z<((n:Nat):Int)
theorem Mk(h:Wf q):JP q=q:=Dr (Vj q) h fun x=>VW q x
theorem Dq: ∀{q:List Int} {lo hi:Int},Wf q→(∀z∈q,lo≤z∧z<hi)→lo≤hi→(q.length:Int)≤hi-lo
 |[],lo,hi,_,_,h=>by simp;omega
 |x::q,lo,hi,h,hb,hl=>by
  obtain⟨h1,h2⟩:=List.pairwise_cons.1 h;have hx:=hb x Q7;have:=Dq (lo:=x+1) (hi:=hi) h2 (fun z hz=>⟨by have:=h1 z hz;omega,(hb z (by simp[hz])).2⟩) Qc;rw[List.length_cons];omega
theorem Fz.len(h:Fz n q):q.length≤n:=by
 have:=Dq h.1 h.2 Qc;omega
theorem Fz.Fx(h:Fz n q)(hn:n≤400):Xx q:=fun z hz=>by
 have:=h.2 z hz
 constructor<;>omega
theorem Fz.zero(h:1≤n):Fz n [0]:=⟨List.pairwise_singleton _ _,fun z hz=>by rw[List.mem_singleton.1 hz];omega⟩
theorem Fz.step(W:Zs a)(hk:k<a.tr)(hc:c<2^(a.tr-1))(h:Fz a.n q):Fz a.n (Uv a k q c):=by
 refine⟨Vj _,fun z hz=>?_⟩;obtain⟨y,hy,u,hu,rfl⟩:=MP.1 ((VW _ z).1 hz);have:=h.2 y hy;have:=W.UR (s:=y.toNat) (c:=Vl k c u) Qc (Nh hk hc hu);omega
def anyS(acc:List Bool)(s:List Int):Bool:=s.any fun z=>IY acc z.toNat
theorem G3{L:List (List Int)}(h:Wf q):(MJ L q<L.length∧Fw L q=L∧L[MJ L q]? =some q)∨(MJ L q=L.length∧Fw L q=L++[q]∧q∉L):=by
 unfold MJ Fw;rw[Mk h]
 cases hn:XQ 0 L q with
 |some i=>
  have h1:=(G5 hn).2;rw[Nat.sub_zero]at h1;exact .inl ⟨(List.getElem?_eq_some_iff.1 h1).1,rfl,h1⟩
 |none=>exact .inr ⟨rfl,rfl,IG hn⟩
structure Vw{α:Type}(δ:α→Nat→α)(s0:α)(K:Nat)(L:List α)(rows:List (List Int))(row:List Int):Prop where
 ex: ∃es,Hs δ s0 K L es∧rows.flatten++row=es.map fun v=>((v:Nat):Int)
 len: ∀r∈rows,r.length=K
 less:row.length≤K
section
variable {α:Type} {δ:α→Nat→α} {s0:α} {K:Nat} {L:List α} {rows:List (List Int)} {row:List Int}
theorem Vw.start(δ:α→Nat→α)(s0:α)(K:Nat):Vw δ s0 K [s0] [] []:=⟨⟨[],Hs.start δ s0 K,rfl⟩,fun r h=>(by cases h),Nat.zero_le _⟩
theorem Vw.at_(H:Vw δ s0 K L rows row)(hr:row.length<K){es:List Nat}(e:rows.flatten++row=es.map fun v=>((v:Nat):Int)):es.length/K=rows.length∧es.length % K=row.length:=by
 have h1:=congrArg List.length e;rw[List.length_append,GK H.len,List.length_map]at h1;rw[←h1,Nat.mul_comm];exact⟨by rw[Nat.mul_add_div Qc,Nat.div_eq_of_lt hr];rfl,by rw[Nat.mul_add_mod];exact Nat.mod_eq_of_lt hr⟩
theorem Vw.JB(H:Vw δ s0 K L rows row)(hr:row.length<K){s:α}(hs:L[rows.length]? =some s){j:Nat}(hj:L[j]? =some (δ s row.length)):Vw δ s0 K L rows (row++[((j:Nat):Int)]):=by
 obtain⟨es,E,e⟩:=H.ex;obtain⟨h1,h2⟩:=H.at_ hr e;exact⟨⟨es++[j],E.JB (by rw[h1];exact hs) (by rw[h2];exact hj),by rw[←List.append_assoc,e,List.map_append];rfl⟩,H.len,by rw[List.length_append];simp;omega⟩
theorem Vw.new(H:Vw δ s0 K L rows row)(hr:row.length<K){s:α}(hs:L[rows.length]? =some s)(hn:δ s row.length∉L):Vw δ s0 K (L++[δ s row.length]) rows (row++[((L.length:Nat):Int)]):=by
 obtain⟨es,E,e⟩:=H.ex;obtain⟨h1,h2⟩:=H.at_ hr e;have:=E.new (by rw[h1];exact hs) (by rw[h2];exact hn);rw[h2]at this;exact⟨⟨es++[L.length],this,by rw[←List.append_assoc,e,List.map_append];rfl⟩,H.len,by rw[List.length_append];simp;omega⟩
theorem Vw.whole(H:Vw δ s0 K L rows row)(hr:row.length=K):Vw δ s0 K L (rows++[row]) []:=by
 obtain⟨es,E,e⟩:=H.ex;refine⟨⟨es,E,by simpa using e⟩,fun r h=>?_,Nat.zero_le _⟩;rcases List.mem_append.1 h with h|h
 ·exact H.len r h
 ·rw[List.mem_singleton.1 h];exact hr
theorem Vw.made{p:α→Bool}{m:Au}(H:Vw δ s0 m.K L m.nx [])(hl:m.nx.length=L.length)(ha:m.acc=L.map p)(ht:m.tr≤6)(hm:L.length≤400):UB δ s0 p L m:=by
 obtain⟨es,E,e⟩:=H.ex;rw[List.append_nil]at e;exact⟨⟨es,E,⟨H.len,e⟩⟩,hl,ha,ht,hm⟩
theorem Vw.nodup(H:Vw δ s0 K L rows row):L.Nodup:=by obtain⟨es,E,e⟩:=H.ex;exact E.nodup
theorem Vw.bound(H:Vw δ s0 K L rows row): ∀z∈rows.flatten++row,0≤z∧z<((L.length:Nat):Int):=by
 obtain⟨es,E,e⟩:=H.ex;intro z hz;rw[e]at hz;obtain⟨v,hv,rfl⟩:=List.mem_map.1 hz;obtain⟨i,hi⟩:=List.getElem?_of_mem hv;have:=E.lt hi;omega
theorem Vw.all(H:Vw δ s0 K L rows row){Q:α→Prop}(h0:Q s0)(hs: ∀s c,Q s→c<K→Q (δ s c))(hK:0<K){s:α}(h:s∈L):Q s:=by
 obtain⟨es,E,e⟩:=H.ex;obtain⟨i,hi⟩:=List.getElem?_of_mem h;exact E.all h0 (fun s c hq hc=>hs s c hq (hc hK)) i s hi
end
theorem Vw.id{K:Nat}{L:List (List Int)}{rows:List (List Int)}{row:List Int}(H:Vw (Uv a k) [0] K L rows row)(hr:row.length<K)(hs:L[rows.length]? =some q):Vw (Uv a k) [0] K (Fw L (Uv a k q row.length)) rows (row++[((MJ L (Uv a k q row.length):Nat):Int)]):=by
 rcases G3 (L:=L) (q:=Uv a k q row.length) (Vj _)with⟨h1,h2,h3⟩|⟨h1,h2,h3⟩
 ·rw[h2];exact H.JB hr hs h3
 ·rw[h1,h2];exact H.new hr hs h3
end
section
open Go Go.RowKit
set_option maxHeartbeats 8000000
set_option maxRecDepth 100000

theorem PD{st:St}(hf:Qi st){l:List Int}{kl:AV}(hl:Jj st.h.get [] 1 (zC l) kl)(hns:kl=.nils∨ ∃c m o n,kl=.sl c m o n 1)(hn:l.length≤100000)(x:Nat)(hx:x≤100000): ∃v st',Jh 152 [kl,iN x] st v st'∧ ∃ks b,v=.tup [ks,.bool b]∧(EA st st' 1 ks (zC (Xj ((x:Nat):Int) l))∨(ks=kl∧Xj ((x:Nat):Int) l=l))∧Qt st st':=by
 have hcl:=Qq l;have hlc:=hl.cell;refine JA Tryz.func152 Tryz.ntmps152 fun T K=>?_;have M:=Mem.start hf;refine Qb 4 K M fun _ K=>?_;refine Uj K rfl (fun _ e9 K=>?_) fun _ e9 K=>?_
 · refine Qb 3 K M fun _ K=>?_;refine Jy K rfl (fun h12=>?_) fun h12=>?_
   ·refine Qb 3 K M ?_
    first
     |(exfalso;omega)
     |exact⟨_,_,rfl,.inr ⟨rfl,AY hkx (by rw[hi35];exact congrArg some h39)⟩,M.qt⟩
   refine PS ?_;show W _ _ _ _ _ _ _;refine Jz<|W7<|p1 K (JW rfl) fun _ K=>XM ?_;show W _ _ _ _ _ _ _;refine CI (J:=fun T st9=> ∃(i:Nat),QT [(0,kl),(1,iN x),(4,.nils),(5,.bool false),(6,iN i)] T∧Mem st.h.get st.n [] st9 []∧i≤l.length∧(∀z∈l.take i,z<((x:Nat):Int))∧(∀z,l[i]? =some z→ ¬z<((x:Nat):Int))) ?_ (fun T st9 hJ=>?_)
   ·refine Bo ?_;refine QY (fun mm1 T st9=> ∃(i:Nat),mm1=l.length-i∧QT [(0,kl),(1,iN x),(4,.nils),(5,.bool false),(6,iN i)] T∧Mem st.h.get st.n [] st9 []∧i≤l.length∧(∀z∈l.take i,z<((x:Nat):Int))) (fun mm1 T st9 hI=>?_) _ _ _ ⟨0,rfl,(K.sub rfl),M.less (.refl _),(Nat.zero_le _),Q7⟩;obtain⟨i,rfl,K,M,hil,hkx⟩:=hI;refine Qb 2 K M fun _ K=>?_;refine p1 K (Q5 Ja rfl rfl (hl.len.trans (congrArg some (Qq _)))) fun _ K=>?_;refine Qb 1 K M fun _ K=>?_;refine Uj K rfl (fun _ e18 K=>?_) fun _ e18 K=>?_
    · refine Qb 8 K M fun _ K=>?_;refine QM ?_;exact⟨i,(K.sub rfl),M.less (.refl _),hil,hkx,(fun z hz=>by first|(rw[List.getElem?_eq_none Qc]at hz;cases hz)|(rw[hz]at hi21;injection hi21 with e1;omega))⟩
    refine Qb 2 K M fun _ K=>?_;obtain⟨y21,hi21⟩:=Uw l i Qc;obtain⟨x21,m21,f21,q21,_,la21,lo21,lp21⟩:=(Jj.mem M hl Q7).load (i:=i) (cs:=_) (Jm hi21);refine pg K rfl rfl (Qe (j:=i) Qo (congrArg some q21) rfl (by rw[Qq];omega)) fun _ K=>pg K rfl rfl (Qf rfl (lo21 _ 0 _ Qn rfl)) fun _ K=>?_;refine Qb 3 K M fun _ K=>?_;refine Jy K rfl (fun h25=>?_) fun h25=>?_
    · refine Qb 3 K M fun _ K=>?_;exact⟨_,Qc,i+1,rfl,(K.sub rfl),M.less (.refl _),Qc,(xc hkx hi21 Qc)⟩
    refine QM ?_;exact⟨i,(K.sub rfl),M.less (.refl _),hil,hkx,(fun z hz=>by first|(rw[List.getElem?_eq_none Qc]at hz;cases hz)|(rw[hz]at hi21;injection hi21 with e1;omega))⟩
   obtain⟨i,K,M,hil,hkx,hnx⟩:=hJ;refine Qb 2 K M fun _ K=>?_;refine p1 K (Q5 Ja rfl rfl (hl.len.trans (congrArg some (Qq _)))) fun _ K=>?_;refine Qb 1 K M fun _ K=>?_;refine Uj K rfl (fun _ e32 K=>?_) fun _ e32 K=>?_
   ·refine Qb 8 K M fun _ K=>?_;refine QC (l:=[(0,0),(1,0),(2,0),(3,0),(4,0),(5,0),(6,0),(7,0),(8,0),(9,0),(10,0),(11,0),(12,0),(13,0)]) (by kernel_rfl) ?_;refine XY rfl K M QJ XL rfl rfl rfl rfl rfl fun c41 _ _ K M=>?_;refine Jo 2 K M fun _ K=>?_;refine AN (l:=l) (a:=0) (b:=i) rfl K Qo (Jj.mem M hl Q7) hns rfl rfl rfl Qc Qc rfl fun v44 _ K r44 hc44=>?_;replace M:=Mem.cast (M':=([(c41,0,[])]++[])) (Mem.perm M (List.perm_append_comm (α:=Nat×Nat×List AV) (l₁:=[(c41,0,[])]) (l₂:=[]))) U0;have hA0c41:Acc st.n 1 [(c41,0,[])] (.sl c41 0 0 0 1) []:=Acc.own (n0:=st.n) (z:=1) (c:=c41) (m:=0) (ls:=[]) ((M.own c41 0 [] Q7).resolve_right Q7) Q7 Q7;refine AO (L:=[]) (A:=[(c41,0,[])]) (B:=[]) rfl K M hA0c41 QJ rfl rfl r44 (FM _) (by simp[Qq];omega) rfl fun ks45 A45 _ _ K hA45 M=>?_;refine q1 rfl K (Q0 rfl) fun _ K=>?_;refine XY rfl K M QJ XL rfl rfl rfl rfl rfl fun c47 _ _ K M=>?_;refine Bm (k2:=0) (L:=[(c47,0,[iN x])]) (A:=A45) (B:=[]) rfl K M hA45 QJ rfl rfl rfl rfl (by simp[Qq];omega) rfl fun ks48 A48 _ _ K hA48 M=>?_;refine Jo 2 K M fun _ K=>?_;refine AN (l:=l) (a:=i) (b:=l.length) rfl K Qo (Jj.mem M hl Q7) hns rfl rfl rfl Qc Qc rfl fun v51 _ K r51 hc51=>?_;refine AO (L:=[(c47,0,[iN x])]) (A:=A48) (B:=[]) rfl K M hA48 QJ rfl rfl r51 (FM _) (by simp[Qq];omega) rfl fun ks52 A52 _ _ K hA52 M=>?_;refine Jo 2 K M fun _ K=>?_;refine QF ?_;show W _ _ _ _ _ _ _;refine Qb 0 K M ?_;have hins:Xj ((x:Nat):Int) l=l.take i++((x:Nat):Int)::l.drop i:=Cf hil hkx (fun z hz=>by first|(rw[List.getElem?_eq_none Qc]at hz;cases hz)|(have h1:=hnx z hz;have e1:=Option.some.inj (hi35.symm.trans hz);omega));have e2:(l.drop i).take (l.length-i)=l.drop i:=List.take_of_length_le Q7;have h:=hA52;rw[e2,List.drop_zero,Nat.sub_zero,List.nil_append,List.append_assoc]at h;refine⟨_,_,rfl,.inl ?_,M.qt⟩;rw[hins,JX,SB];exact Mem.BO (L:=[(c47,0,[iN x])]) (A:=A52) (B:=[]) M h
   refine Qb 2 K M fun _ K=>?_;obtain⟨y35,hi35⟩:=Uw l i Qc;obtain⟨x35,m35,f35,q35,_,la35,lo35,lp35⟩:=(Jj.mem M hl Q7).load (i:=i) (cs:=_) (Jm hi35);refine pg K rfl rfl (Qe (j:=i) Qo (congrArg some q35) rfl (by rw[Qq];omega)) fun _ K=>pg K rfl rfl (Qf rfl (lo35 _ 0 _ Qn rfl)) fun _ K=>?_;refine Qb 3 K M fun _ K=>?_;refine Jy K rfl (fun h39=>?_) fun h39=>?_
   ·refine Qb 3 K M ?_
    first
     |(exfalso;omega)
     |exact⟨_,_,rfl,.inr ⟨rfl,AY hkx (by rw[hi35];exact congrArg some h39)⟩,M.qt⟩
   refine Qb 0 K M fun _ K=>?_;refine QC (l:=[(0,0),(1,0),(2,0),(3,0),(4,0),(5,0),(6,0),(7,0),(8,0),(9,0),(10,0),(11,0),(12,0),(13,0)]) (by kernel_rfl) ?_;refine XY rfl K M QJ XL rfl rfl rfl rfl rfl fun c41 _ _ K M=>?_;refine Jo 2 K M fun _ K=>?_;refine AN (l:=l) (a:=0) (b:=i) rfl K Qo (Jj.mem M hl Q7) hns rfl rfl rfl Qc Qc rfl fun v44 _ K r44 hc44=>?_;replace M:=Mem.cast (M':=([(c41,0,[])]++[])) (Mem.perm M (List.perm_append_comm (α:=Nat×Nat×List AV) (l₁:=[(c41,0,[])]) (l₂:=[]))) U0;have hA0c41:Acc st.n 1 [(c41,0,[])] (.sl c41 0 0 0 1) []:=Acc.own (n0:=st.n) (z:=1) (c:=c41) (m:=0) (ls:=[]) ((M.own c41 0 [] Q7).resolve_right Q7) Q7 Q7;refine AO (L:=[]) (A:=[(c41,0,[])]) (B:=[]) rfl K M hA0c41 QJ rfl rfl r44 (FM _) (by simp[Qq];omega) rfl fun ks45 A45 _ _ K hA45 M=>?_;refine q1 rfl K (Q0 rfl) fun _ K=>?_;refine XY rfl K M QJ XL rfl rfl rfl rfl rfl fun c47 _ _ K M=>?_;refine Bm (k2:=0) (L:=[(c47,0,[iN x])]) (A:=A45) (B:=[]) rfl K M hA45 QJ rfl rfl rfl rfl (by simp[Qq];omega) rfl fun ks48 A48 _ _ K hA48 M=>?_;refine Jo 2 K M fun _ K=>?_;refine AN (l:=l) (a:=i) (b:=l.length) rfl K Qo (Jj.mem M hl Q7) hns rfl rfl rfl Qc Qc rfl fun v51 _ K r51 hc51=>?_;refine AO (L:=[(c47,0,[iN x])]) (A:=A48) (B:=[]) rfl K M hA48 QJ rfl rfl r51 (FM _) (by simp[Qq];omega) rfl fun ks52 A52 _ _ K hA52 M=>?_;refine Jo 2 K M fun _ K=>?_;refine QF ?_;show W _ _ _ _ _ _ _;refine Qb 0 K M ?_;have hins:Xj ((x:Nat):Int) l=l.take i++((x:Nat):Int)::l.drop i:=Cf hil hkx (fun z hz=>by first|(rw[List.getElem?_eq_none Qc]at hz;cases hz)|(have h1:=hnx z hz;have e1:=Option.some.inj (hi35.symm.trans hz);omega));have e2:(l.drop i).take (l.length-i)=l.drop i:=List.take_of_length_le Q7;have h:=hA52;rw[e2,List.drop_zero,Nat.sub_zero,List.nil_append,List.append_assoc]at h;refine⟨_,_,rfl,.inl ?_,M.qt⟩;rw[hins,JX,SB];exact Mem.BO (L:=[(c47,0,[iN x])]) (A:=A52) (B:=[]) M h
 refine Qb 7 K M ?_
 first
  |(exfalso;omega)
  |exact⟨_,_,rfl,.inr ⟨rfl,AY hkx (by rw[hi35];exact congrArg some h39)⟩,M.qt⟩
end
end Go.Proofs.YtiknomepbklibaaGreatDoor
